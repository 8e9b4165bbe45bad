import PyProof.Rows.All
import Wide.All
import OpenK.AllK
import Wide.FinOn
import HandS.WideBits
import HandS.ForMost
import HandS.Exc
import HandS.TryOnly
import HandS.ExcOwn
import HandS.ExcCtx
import HandS.Hot
import HandS.HotCalls
import HandS.WordsExc
import HandS.Flow
import HandS.Style
import HandS.IsInst
import HandS.SortInts
import HandS.Defaults
import HandS.More
import HandS.Codes
import HandS.Lambda
import HandS.ExcIs
import HandS.ExcInitHot
import HandS.Set
import HandS.Nested
import HandS.Head0
import HandS.Head1
import HandS.Head2
import HandS.HeadEnd
import HandS.HeadHook1
import HandS.HeadHook2
import HandS.HeadHook3
import HandS.HeadHook4
import HandS.EndTab
import HandS.HeadWalk
import HandS.NestedK
import HandS.SetFor
import KE.KStateDown
import PySem.Challenge.RW_sackset_k06_ranks
set_option Elab.async false
set_option linter.all false
set_option maxRecDepth 100000
set_option maxHeartbeats 4000000
set_option exponentiation.threshold 10000
namespace Sx
open PySem PySem.Spec PyProof.Rows L2
/-- the place of the least bit that is set (0 for 0) -/
def tz (b : Nat) : Nat := if h : b = 0 then 0 else if b % 2 = 1 then 0 else tz (b / 2) + 1
termination_by b
decreasing_by omega
theorem tz_odd {b : Nat} (h : b % 2 = 1) : tz b = 0 := by
  rw [tz, dif_neg (by omega), if_pos h]
theorem tz_even {b : Nat} (h0 : 0 < b) (h : b % 2 = 0) : tz b = tz (b / 2) + 1 := by
  rw [tz, dif_neg (by omega), if_neg (by omega)]
theorem tz_spec : ∀ (n b : Nat), b ≤ n → 0 < b → b.testBit (tz b) = true ∧ ∀ i, i < tz b → b.testBit i = false := by
  intro n
  induction n with
  | zero => intro b h1 h2; omega
  | succ n ih =>
    intro b h1 h2
    by_cases ho : b % 2 = 1
    · rw [tz_odd ho]
      refine ⟨?_, fun i hi => by omega⟩
      rw [Nat.testBit_zero]; simp [ho]
    · have he : b % 2 = 0 := by omega
      rw [tz_even h2 he]
      obtain ⟨a, c⟩ := ih (b / 2) (by omega) (by omega)
      refine ⟨by rw [Nat.testBit_succ]; exact a, fun i hi => ?_⟩
      cases i with
      | zero => rw [Nat.testBit_zero]; simp [he]
      | succ i => rw [Nat.testBit_succ]; exact c i (by omega)
theorem tz_bit {b : Nat} (h : 0 < b) : b.testBit (tz b) = true := (tz_spec b b (Nat.le_refl _) h).1
theorem tz_low {b i : Nat} (h : 0 < b) (hi : i < tz b) : b.testBit i = false := (tz_spec b b (Nat.le_refl _) h).2 i hi
/-- b - 1: all bits below the least turned, that one gone -/
theorem pred_testBit : ∀ (n b : Nat), b ≤ n → 0 < b → ∀ i, (b - 1).testBit i = if i < tz b then true else if i = tz b then false else b.testBit i := by
  intro n
  induction n with
  | zero => intro b h1 h2; omega
  | succ n ih =>
    intro b h1 h2 i
    by_cases ho : b % 2 = 1
    · rw [tz_odd ho, if_neg (Nat.not_lt_zero _)]
      cases i with
      | zero => rw [if_pos rfl, Nat.testBit_zero]; simp; omega
      | succ i =>
        rw [if_neg (by omega), Nat.testBit_succ, Nat.testBit_succ]
        have e : (b - 1) / 2 = b / 2 := by omega
        rw [e]
    · have he : b % 2 = 0 := by omega
      rw [tz_even h2 he]
      have e : (b - 1) / 2 = b / 2 - 1 := by omega
      cases i with
      | zero =>
        have : (b - 1) % 2 = 1 := by omega
        rw [if_pos (by omega), Nat.testBit_zero, this]; rfl
      | succ i =>
        rw [Nat.testBit_succ, Nat.testBit_succ, e, ih (b / 2) (by omega) (by omega) i]
        by_cases c1 : i < tz (b / 2)
        · rw [if_pos c1, if_pos (by omega)]
        · by_cases c2 : i = tz (b / 2)
          · rw [if_neg c1, if_pos c2, if_neg (by omega), if_pos (by omega)]
          · rw [if_neg c1, if_neg c2, if_neg (by omega), if_neg (by omega)]
theorem pred_bit {b : Nat} (h : 0 < b) (i : Nat) : (b - 1).testBit i = if i < tz b then true else if i = tz b then false else b.testBit i := pred_testBit b b (Nat.le_refl _) h i
theorem and_mod2 (x y : Nat) : (x &&& y) % 2 = (x % 2) * (y % 2) := by
  have a : (x &&& y) % 2 ^ 1 = (x % 2 ^ 1) &&& (y % 2 ^ 1) := Nat.and_mod_two_pow
  rw [show (2 : Nat) ^ 1 = 2 from rfl] at a
  rw [a]
  rcases Nat.mod_two_eq_zero_or_one x with h | h <;> rcases Nat.mod_two_eq_zero_or_one y with h' | h' <;> rw [h, h'] <;> rfl
theorem land_pred' : ∀ (n b : Nat), b ≤ n → 0 < b → (b &&& (b - 1)) + 2 ^ tz b = b := by
  intro n
  induction n with
  | zero => intro b h1 h2; omega
  | succ n ih =>
    intro b h1 h2
    have d : (b &&& (b - 1)) / 2 = b / 2 &&& (b - 1) / 2 := Nat.and_div_two
    have m := and_mod2 b (b - 1)
    by_cases ho : b % 2 = 1
    · rw [tz_odd ho]
      have e : (b - 1) / 2 = b / 2 := by omega
      rw [e, Nat.and_self] at d
      have e2 : (b - 1) % 2 = 0 := by omega
      rw [e2, Nat.mul_zero] at m
      omega
    · have he : b % 2 = 0 := by omega
      have e : (b - 1) / 2 = b / 2 - 1 := by omega
      rw [e] at d
      rw [he, Nat.zero_mul] at m
      have k := ih (b / 2) (by omega) (by omega)
      rw [tz_even h2 he, Nat.pow_succ]
      omega
theorem land_pred {b : Nat} (h : 0 < b) : (b &&& (b - 1)) + 2 ^ tz b = b := land_pred' b b (Nat.le_refl _) h
/-- the least bit gone -/
def clr (b : Nat) : Nat := b &&& (b - 1)
theorem clr_bit {b : Nat} (h : 0 < b) (i : Nat) : (clr b).testBit i = (b.testBit i && decide (i ≠ tz b)) := by
  unfold clr
  rw [Nat.testBit_and, pred_bit h]
  by_cases c1 : i < tz b
  · rw [if_pos c1, tz_low h c1]; simp
  · rw [if_neg c1]
    by_cases c2 : i = tz b
    · rw [if_pos c2]; simp [c2]
    · rw [if_neg c2]; simp [c2]
theorem clr_lt {b : Nat} (h : 0 < b) : clr b < b := by
  have := land_pred h
  have p := Nat.two_pow_pos (tz b)
  unfold clr
  omega
theorem clr_xor {b : Nat} (h : 0 < b) : b ^^^ 2 ^ tz b = clr b := by
  apply Nat.eq_of_testBit_eq
  intro i
  rw [clr_bit h, Nat.testBit_xor, Nat.testBit_two_pow]
  by_cases c : i = tz b
  · subst c; simp [tz_bit h]
  · simp [c, Ne.symm c]
/-! ### Python's bits -/
theorem and_cast (a b : Nat) : Builtin.bitAnd (a : Int) (b : Int) = ((a &&& b : Nat) : Int) := by
  simp [Builtin.bitAnd]
theorem not_not (x : Int) : Builtin.bitNot (Builtin.bitNot x) = x := by unfold Builtin.bitNot; omega
theorem or_cast (a b : Nat) : Builtin.bitOr (a : Int) (b : Int) = ((a ||| b : Nat) : Int) := by
  have h1 : ¬ (0 ≤ Builtin.bitNot (a : Int)) := by unfold Builtin.bitNot; omega
  have h2 : ¬ (0 ≤ Builtin.bitNot (b : Int)) := by unfold Builtin.bitNot; omega
  unfold Builtin.bitOr Builtin.bitAnd
  rw [decide_eq_false h1, decide_eq_false h2]
  show Builtin.bitNot (Builtin.bitNot _) = _
  rw [not_not, not_not, not_not]
  rfl
theorem xor_add (a b : Nat) : (a ^^^ b) + (a &&& b) = (a ||| b) := by
  have key : ∀ n a b : Nat, a ≤ n → (a ^^^ b) + (a &&& b) = (a ||| b) := by
    intro n
    induction n with
    | zero =>
      intro a b h
      obtain rfl : a = 0 := by omega
      simp
    | succ n ih =>
      intro a b h
      have d1 : (a ^^^ b) / 2 = a / 2 ^^^ b / 2 := Nat.xor_div_two
      have d2 : (a &&& b) / 2 = a / 2 &&& b / 2 := Nat.and_div_two
      have d3 : (a ||| b) / 2 = a / 2 ||| b / 2 := Nat.or_div_two
      have m2 := and_mod2 a b
      have m1 : (a ^^^ b) % 2 ^ 1 = (a % 2 ^ 1) ^^^ (b % 2 ^ 1) := Nat.xor_mod_two_pow
      have m3 : (a ||| b) % 2 ^ 1 = (a % 2 ^ 1) ||| (b % 2 ^ 1) := Nat.or_mod_two_pow
      rw [show (2 : Nat) ^ 1 = 2 from rfl] at m1 m3
      by_cases c : a = 0
      · subst c; simp
      · have k := ih (a / 2) (b / 2) (by omega)
        have q : (a ^^^ b) % 2 + (a &&& b) % 2 = (a ||| b) % 2 := by
          rw [m1, m2, m3]
          rcases Nat.mod_two_eq_zero_or_one a with h | h <;> rcases Nat.mod_two_eq_zero_or_one b with h' | h' <;> rw [h, h'] <;> rfl
        omega
  exact key a a b (Nat.le_refl _)
theorem xor_cast (a b : Nat) : Builtin.bitXor (a : Int) (b : Int) = ((a ^^^ b : Nat) : Int) := by
  unfold Builtin.bitXor
  rw [or_cast, and_cast]
  have := xor_add a b
  omega
/-- b & -b -/
theorem and_neg {b : Nat} (h : 0 < b) : Builtin.bitAnd (b : Int) (-(b : Int)) = ((2 ^ tz b : Nat) : Int) := by
  have h1 : ¬ (0 : Int) ≤ -(b : Int) := by omega
  unfold Builtin.bitAnd
  rw [decide_eq_true (show (0 : Int) ≤ (b : Int) by omega), decide_eq_false h1]
  show (b : Int) - (((b : Int).toNat &&& (Builtin.bitNot (-(b : Int))).toNat : Nat) : Int) = _
  have e : (Builtin.bitNot (-(b : Int))).toNat = b - 1 := by unfold Builtin.bitNot; omega
  rw [e, Int.toNat_natCast]
  have := land_pred h
  omega
/-- b + 1 & ~b -/
theorem and_not_succ (b : Nat) : Builtin.bitAnd ((b : Int) + 1) (Builtin.bitNot (b : Int)) = ((2 ^ tz (b + 1) : Nat) : Int) := by
  have e1 : ((b : Int) + 1) = ((b + 1 : Nat) : Int) := by omega
  have e2 : Builtin.bitNot (b : Int) = -((b + 1 : Nat) : Int) := by unfold Builtin.bitNot; omega
  rw [e1, e2]
  exact and_neg (by omega)
/-- a & ~b -/
theorem and_not_cast (a b : Nat) : Builtin.bitAnd (a : Int) (Builtin.bitNot (b : Int)) = ((a ^^^ (a &&& b) : Nat) : Int) := by
  have h1 : ¬ (0 : Int) ≤ Builtin.bitNot (b : Int) := by unfold Builtin.bitNot; omega
  unfold Builtin.bitAnd
  rw [decide_eq_true (show (0 : Int) ≤ (a : Int) by omega), decide_eq_false h1]
  show (a : Int) - (((a : Int).toNat &&& (Builtin.bitNot (Builtin.bitNot (b : Int))).toNat : Nat) : Int) = _
  rw [not_not, Int.toNat_natCast, Int.toNat_natCast]
  have e := xor_add a (a &&& b)
  have e2 : a &&& (a &&& b) = a &&& b := by
    apply Nat.eq_of_testBit_eq; intro i; simp only [Nat.testBit_and]; cases a.testBit i <;> simp
  have e3 : a ||| (a &&& b) = a := by
    apply Nat.eq_of_testBit_eq; intro i; simp only [Nat.testBit_and, Nat.testBit_or]; cases a.testBit i <;> simp
  rw [e2, e3] at e
  omega
/-- a & ~b -/
def andn (a b : Nat) : Nat := a ^^^ (a &&& b)
theorem andn_bit (a b i : Nat) : (andn a b).testBit i = (a.testBit i && !b.testBit i) := by
  unfold andn
  rw [Nat.testBit_xor, Nat.testBit_and]
  cases a.testBit i <;> cases b.testBit i <;> rfl
theorem bits_pow (k : Nat) : Builtin.Int.intBits ((2 ^ k : Nat) : Int) = k + 1 := by
  unfold Builtin.Int.intBits
  have : ¬ (((2 ^ k : Nat) : Int) == 0) = true := by
    have p := Nat.two_pow_pos k
    simp only [beq_iff_eq]
    omega
  rw [if_neg this]
  have e : (((2 ^ k : Nat) : Int)).natAbs = 2 ^ k := Int.natAbs_natCast _
  rw [e, Nat.log2_two_pow]
theorem sorted_ext : ∀ {l1 l2 : List Nat}, l1.Pairwise (· < ·) → l2.Pairwise (· < ·) → (∀ x, x ∈ l1 ↔ x ∈ l2) → l1 = l2
  | [], [], _, _, _ => rfl
  | [], b :: l2, _, _, h => absurd ((h b).mpr List.mem_cons_self) (by simp)
  | a :: l1, [], _, _, h => absurd ((h a).mp List.mem_cons_self) (by simp)
  | a :: l1, b :: l2, p1, p2, h => by
    obtain ⟨q1, r1⟩ := List.pairwise_cons.mp p1
    obtain ⟨q2, r2⟩ := List.pairwise_cons.mp p2
    have e : a = b := by
      rcases List.mem_cons.mp ((h a).mp List.mem_cons_self) with e | e
      · exact e
      · rcases List.mem_cons.mp ((h b).mpr List.mem_cons_self) with e' | e'
        · exact e'.symm
        · have := q2 a e
          have := q1 b e'
          omega
    subst e
    have t : ∀ x, x ∈ l1 ↔ x ∈ l2 := fun x => by
      constructor
      · intro hx
        rcases List.mem_cons.mp ((h x).mp (List.mem_cons_of_mem _ hx)) with e | e
        · have := q1 x hx; omega
        · exact e
      · intro hx
        rcases List.mem_cons.mp ((h x).mpr (List.mem_cons_of_mem _ hx)) with e | e
        · have := q2 x hx; omega
        · exact e
    rw [sorted_ext r1 r2 t]
/-- the places of the bits, rising -/
def bitsOf (b : Nat) : List Nat := (List.range (b.log2 + 1)).filter b.testBit
theorem mem_bitsOf {b i : Nat} : i ∈ bitsOf b ↔ b.testBit i = true := by
  unfold bitsOf
  rw [List.mem_filter, List.mem_range]
  refine ⟨fun h => h.2, fun h => ⟨?_, h⟩⟩
  have a := Nat.ge_two_pow_of_testBit h
  have c : b < 2 ^ (b.log2 + 1) := Nat.lt_log2_self
  have d : 2 ^ i < 2 ^ (b.log2 + 1) := by omega
  exact (Nat.pow_lt_pow_iff_right (by decide : 1 < 2)).mp d
theorem range_sorted (n : Nat) : (List.range n).Pairwise (· < ·) := List.pairwise_lt_range
theorem bitsOf_sorted (b : Nat) : (bitsOf b).Pairwise (· < ·) := List.Pairwise.filter _ (range_sorted _)
theorem bitsOf_eq {b n : Nat} (h : b < 2 ^ n) : bitsOf b = (List.range n).filter b.testBit := by
  refine sorted_ext (bitsOf_sorted b) (List.Pairwise.filter _ (range_sorted _)) fun x => ?_
  rw [mem_bitsOf, List.mem_filter, List.mem_range]
  refine ⟨fun q => ⟨?_, q⟩, fun q => q.2⟩
  have a := Nat.ge_two_pow_of_testBit q
  have d : 2 ^ x < 2 ^ n := by omega
  exact (Nat.pow_lt_pow_iff_right (by decide : 1 < 2)).mp d
theorem bitsOf_zero : bitsOf 0 = [] := by
  refine List.eq_nil_iff_forall_not_mem.mpr fun x hx => ?_
  rw [mem_bitsOf] at hx; simp at hx
theorem bitsOf_lt {b n i : Nat} (h : b < 2 ^ n) (hi : i ∈ bitsOf b) : i < n := by
  rw [bitsOf_eq h, List.mem_filter, List.mem_range] at hi
  exact hi.1
theorem bitsOf_clr {b : Nat} (h : 0 < b) : bitsOf b = tz b :: bitsOf (clr b) := by
  refine sorted_ext (bitsOf_sorted b) ?_ fun x => ?_
  · refine List.pairwise_cons.mpr ⟨fun y hy => ?_, bitsOf_sorted _⟩
    rw [mem_bitsOf, clr_bit h] at hy
    simp only [Bool.and_eq_true, decide_eq_true_eq] at hy
    rcases Nat.lt_trichotomy (tz b) y with q | q | q
    · exact q
    · exact absurd q.symm hy.2
    · rw [tz_low h q] at hy; exact absurd hy.1 (by simp)
  · rw [List.mem_cons, mem_bitsOf, mem_bitsOf, clr_bit h]
    by_cases c : x = tz b
    · subst c; simp [tz_bit h]
    · simp [c]
theorem bitsOf_len {b n : Nat} (h : b < 2 ^ n) : (bitsOf b).length ≤ n := by
  rw [bitsOf_eq h]
  exact Nat.le_trans (List.length_filter_le _ _) (by simp)
/-- how many bits -/
def popc (b : Nat) : Nat := (bitsOf b).length
theorem popc_zero : popc 0 = 0 := by unfold popc; rw [bitsOf_zero]; rfl
/-! ### runs -/
abbrev Pr := Nat × Nat
def stepR (acc : List Pr) (x : Nat) : List Pr :=
  match acc.getLast? with
  | some p => if p.2 + 1 = x then acc.dropLast ++ [(p.1, x)] else acc ++ [(x, x)]
  | none => [(x, x)]
/-- the longest runs of a rising list -/
def runsL (l : List Nat) : List Pr := l.foldl stepR []
theorem stepR_snoc (pre : List Pr) (p : Pr) (x : Nat) : stepR (pre ++ [p]) x = if p.2 + 1 = x then pre ++ [(p.1, x)] else pre ++ [p] ++ [(x, x)] := by
  unfold stepR
  rw [List.getLast?_append]
  simp
theorem stepR_ne {acc : List Pr} (x : Nat) : stepR acc x ≠ [] := by
  unfold stepR
  split
  · split <;> simp
  · simp
theorem stepR_app {pre acc : List Pr} (h : acc ≠ []) (x : Nat) : stepR (pre ++ acc) x = pre ++ stepR acc x := by
  obtain ⟨q, p, rfl⟩ : ∃ q p, acc = q ++ [p] := ⟨acc.dropLast, acc.getLast h, (List.dropLast_concat_getLast h).symm⟩
  rw [← List.append_assoc, stepR_snoc, stepR_snoc]
  split <;> simp
theorem fold_app : ∀ (l : List Nat) {pre acc : List Pr}, acc ≠ [] → l.foldl stepR (pre ++ acc) = pre ++ l.foldl stepR acc
  | [], _, _, _ => rfl
  | x :: l, pre, acc, h => by
    rw [List.foldl_cons, List.foldl_cons, stepR_app h]
    exact fold_app l (stepR_ne x)
theorem fold_far {l : List Nat} {p : Pr} (h : ∀ x, l.head? = some x → p.2 + 1 < x) : l.foldl stepR [p] = p :: runsL l := by
  cases l with
  | nil => rfl
  | cons x l =>
    have := h x rfl
    unfold runsL
    rw [List.foldl_cons, List.foldl_cons]
    have e : stepR [p] x = [p] ++ [(x, x)] := by
      have := stepR_snoc [] p x
      rw [List.nil_append, if_neg (by omega)] at this
      simpa using this
    have e2 : stepR [] x = [(x, x)] := rfl
    rw [e, e2, fold_app l (by simp)]
    rfl
/-- a, a + 1, .., of m numbers -/
def upto (a m : Nat) : List Nat := (List.range m).map (a + ·)
theorem upto_succ (a m : Nat) : upto a (m + 1) = upto a m ++ [a + m] := by
  unfold upto
  rw [List.range_succ, List.map_append]; rfl
theorem upto_cons (a m : Nat) : upto a (m + 1) = a :: upto (a + 1) m := by
  unfold upto
  rw [List.range_succ_eq_map, List.map_cons, List.map_map]
  congr 1
  apply List.map_congr_left
  intro x _
  simp; omega
theorem mem_upto {a m x : Nat} : x ∈ upto a m ↔ a ≤ x ∧ x < a + m := by
  unfold upto
  rw [List.mem_map]
  constructor
  · rintro ⟨y, h, rfl⟩
    rw [List.mem_range] at h
    omega
  · intro h
    exact ⟨x - a, List.mem_range.mpr (by omega), by omega⟩
theorem upto_sorted (a m : Nat) : (upto a m).Pairwise (· < ·) := by
  unfold upto
  rw [List.pairwise_map]
  exact (range_sorted m).imp fun h => by omega
theorem fold_upto (pre : List Pr) (a b : Nat) : ∀ k, (upto (b + 1) k).foldl stepR (pre ++ [(a, b)]) = pre ++ [(a, b + k)]
  | 0 => rfl
  | k + 1 => by
    rw [upto_succ, List.foldl_append, fold_upto pre a b k, List.foldl_cons, List.foldl_nil, stepR_snoc, if_pos (by simp; omega)]
    simp; omega
theorem runsL_run {a m : Nat} {l : List Nat} (h : ∀ x, l.head? = some x → a + m < x) (hm : 0 < m) : runsL (upto a m ++ l) = (a, a + m - 1) :: runsL l := by
  obtain ⟨k, rfl⟩ : ∃ k, m = k + 1 := ⟨m - 1, by omega⟩
  unfold runsL
  rw [List.foldl_append, upto_cons, List.foldl_cons]
  have e : stepR [] a = [] ++ [(a, a)] := rfl
  rw [e, fold_upto [] a a k, List.nil_append, fold_far (fun x hx => by have := h x hx; simp; omega)]
  rfl
theorem runsL_snoc (l : List Nat) (x : Nat) : runsL (l ++ [x]) = stepR (runsL l) x := by
  unfold runsL; rw [List.foldl_append]; rfl
theorem runsL_len : ∀ (n : Nat) (l : List Nat), l.length = n → (runsL l).length ≤ n := by
  intro n
  induction n with
  | zero => intro l hl; have : l = [] := List.eq_nil_of_length_eq_zero hl; subst this; simp [runsL]
  | succ n ih =>
    intro l hl
    obtain ⟨q, x, rfl⟩ : ∃ q x, l = q ++ [x] := by
      have h : l ≠ [] := by intro e; subst e; simp at hl
      exact ⟨l.dropLast, l.getLast h, (List.dropLast_concat_getLast h).symm⟩
    rw [runsL_snoc]
    have := ih q (by simpa using hl)
    unfold stepR
    split
    · split
      · simp; omega
      · simp; omega
    · simp
/-- how many there are in the runs -/
def runSum (l : List Pr) : Int := (l.map fun p => (p.2 : Int) - (p.1 : Int) + 1).sum
theorem runSum_app (l m : List Pr) : runSum (l ++ m) = runSum l + runSum m := by unfold runSum; rw [List.map_append, List.sum_append]
theorem runSum_step (acc : List Pr) (x : Nat) : runSum (stepR acc x) = runSum acc + 1 := by
  by_cases h : acc = []
  · subst h; simp [stepR, runSum]
  · obtain ⟨q, p, rfl⟩ : ∃ q p, acc = q ++ [p] := ⟨acc.dropLast, acc.getLast h, (List.dropLast_concat_getLast h).symm⟩
    rw [stepR_snoc]
    split
    · rename_i c
      rw [runSum_app, runSum_app]
      simp [runSum]; omega
    · rw [runSum_app]
      simp [runSum]
theorem runSum_runs (l : List Nat) : runSum (runsL l) = l.length := by
  have : ∀ (l : List Nat) (acc : List Pr), runSum (l.foldl stepR acc) = runSum acc + l.length := by
    intro l
    induction l with
    | nil => intro acc; simp
    | cons x l ih => intro acc; rw [List.foldl_cons, ih, runSum_step]; simp; omega
  have h := this l []
  unfold runsL
  rw [h]; simp [runSum]
/-! ### the program's own way through the runs -/
/-- what is left behind a gap and a run -/
theorem peel {b : Nat} (h : 0 < b) (g c m r : Nat) (hg : g = tz b) (hc : c = b / 2 ^ g) (hm : m = tz (c + 1)) (hr : r = c / 2 ^ m) :
    0 < m ∧ bitsOf b = upto g m ++ (bitsOf r).map (g + m + ·) ∧ (∀ x, ((bitsOf r).map (g + m + ·)).head? = some x → g + m < x) ∧ r < b := by
  have cb : ∀ i, c.testBit i = b.testBit (i + g) := fun i => by rw [hc, Nat.testBit_div_two_pow]
  have c0 : c.testBit 0 = true := by rw [cb, Nat.zero_add, hg]; exact tz_bit h
  have codd : c % 2 = 1 := by
    rw [Nat.testBit_zero] at c0; simpa using c0
  have hm0 : 0 < m := by rw [hm, tz_even (by omega) (by omega)]; omega
  have clow : ∀ i, i < m → c.testBit i = true := fun i hi => by
    have := pred_bit (b := c + 1) (by omega) i
    rw [Nat.add_sub_cancel, if_pos (by omega)] at this
    exact this
  have cm : c.testBit m = false := by
    have := pred_bit (b := c + 1) (by omega) m
    rw [Nat.add_sub_cancel, if_neg (by omega), if_pos hm] at this
    exact this
  have rb : ∀ i, r.testBit i = c.testBit (i + m) := fun i => by rw [hr, Nat.testBit_div_two_pow]
  have r0 : r.testBit 0 = false := by rw [rb, Nat.zero_add]; exact cm
  have far : ∀ x ∈ (bitsOf r).map (g + m + ·), g + m < x := fun x hx => by
    obtain ⟨y, hy, rfl⟩ := List.mem_map.mp hx
    rw [mem_bitsOf] at hy
    cases y with
    | zero => rw [r0] at hy; cases hy
    | succ y => omega
  refine ⟨hm0, ?_, fun x hx => far x (List.mem_of_mem_head? hx), ?_⟩
  · refine sorted_ext (bitsOf_sorted b) ?_ fun x => ?_
    · refine List.pairwise_append.mpr ⟨upto_sorted _ _, ?_, fun x hx y hy => ?_⟩
      · rw [List.pairwise_map]
        exact (bitsOf_sorted r).imp fun q => by omega
      · have := far y hy
        rw [mem_upto] at hx
        omega
    · rw [mem_bitsOf, List.mem_append, mem_upto, List.mem_map]
      by_cases c1 : x < g
      · rw [tz_low h (by omega)]
        constructor
        · intro z; cases z
        · rintro (z | ⟨y, _, z⟩) <;> omega
      · obtain ⟨y, rfl⟩ : ∃ y, x = y + g := ⟨x - g, by omega⟩
        rw [← cb]
        by_cases c2 : y < m
        · rw [clow y c2]
          simp; left; omega
        · obtain ⟨z, rfl⟩ : ∃ z, y = z + m := ⟨y - m, by omega⟩
          rw [← rb]
          constructor
          · intro q; exact .inr ⟨z, mem_bitsOf.mpr q, by omega⟩
          · rintro (q | ⟨u, hu, q⟩)
            · omega
            · have : u = z := by omega
              subst this; exact mem_bitsOf.mp hu
  · have a : c ≤ b := by rw [hc]; exact Nat.div_le_self _ _
    have : r < c := by
      rw [hr]
      exact Nat.div_lt_self (by omega) (by have := Nat.pow_lt_pow_right (a := 2) (by decide) hm0; omega)
    omega
theorem runs_map_add (k : Nat) (l : List Nat) : runsL (l.map (k + ·)) = (runsL l).map fun p => (k + p.1, k + p.2) := by
  have : ∀ (l : List Nat) (acc : List Pr), (l.map (k + ·)).foldl stepR (acc.map fun p => (k + p.1, k + p.2)) = (l.foldl stepR acc).map fun p => (k + p.1, k + p.2) := by
    intro l
    induction l with
    | nil => intro acc; rfl
    | cons x l ih =>
      intro acc
      rw [List.map_cons, List.foldl_cons, List.foldl_cons, ← ih]
      congr 1
      by_cases h : acc = []
      · subst h; rfl
      · obtain ⟨q, p, rfl⟩ : ∃ q p, acc = q ++ [p] := ⟨acc.dropLast, acc.getLast h, (List.dropLast_concat_getLast h).symm⟩
        rw [List.map_append, List.map_cons, List.map_nil, stepR_snoc, stepR_snoc]
        by_cases c : p.2 + 1 = x
        · rw [if_pos c, if_pos (by simp; omega)]; simp
        · rw [if_neg c, if_neg (by simp; omega)]; simp
  exact this l []
/-- the runs of bits -/
def runsB (b : Nat) : List Pr := runsL (bitsOf b)
theorem runsB_zero : runsB 0 = [] := by unfold runsB; rw [bitsOf_zero]; rfl
theorem runsB_peel {b : Nat} (h : 0 < b) (g c m r : Nat) (hg : g = tz b) (hc : c = b / 2 ^ g) (hm : m = tz (c + 1)) (hr : r = c / 2 ^ m) :
    runsB b = (g, g + m - 1) :: (runsB r).map fun p => (g + m + p.1, g + m + p.2) := by
  obtain ⟨h1, h2, h3, _⟩ := peel h g c m r hg hc hm hr
  unfold runsB
  rw [h2, runsL_run h3 h1, runs_map_add]
theorem runSum_B (b : Nat) : runSum (runsB b) = popc b := runSum_runs _
/-! ### what weighs least: 0 a row, 1 runs, 2 words -/
/-! ### callables -/
structure Cal (P : Program) (w : World) (K : PySem.W.Frag) (mg : Str → Option Value) (base : Heap) (k : Nat) (x : Str) (sp : Sp) (dvs : List V) : Prop where
  ex : ∃ (f : Addr) (fd : FuncData) (ps : List Str) (ds : List Value), FnOk P w K mg base (L2N.CX P w) k f fd ps sp ∧ mg x = some (.ref f) ∧ PySem.W.keepIn K (.ref f) = true ∧ Binds K fd ps ds ∧ Vals dvs ds
structure Met (P : Program) (w : World) (K : PySem.W.Frag) (mg : Str → Option Value) (base : Heap) (k : Nat) (C : Addr) (m : Str) (sp : Sp) (dvs : List V) : Prop where
  ex : ∃ (f : Addr) (fd : FuncData) (ps : List Str) (ds : List Value), Cls K C ∧ L2.Meth K C m f ∧ FnOk P w K mg base (L2N.CX P w) k f fd ps sp ∧ Binds K fd ps ds ∧ Vals dvs ds
structure Mak (P : Program) (w : World) (K : PySem.W.Frag) (mg : Str → Option Value) (base : Heap) (k : Nat) (x : Str) (C : Addr) (sp : Sp) (dvs : List V) : Prop where
  ex : ∃ (f : Addr) (fd : FuncData) (ps : List Str) (ds : List Value), L2.Mk K C f ∧ FnOk P w K mg base (L2N.CX P w) k f fd ps sp ∧ mg x = some (.ref C) ∧ Binds K fd ps ds ∧ Vals dvs ds
/-- a method of one of several classes: fam says which promise a class's own has -/
def tMethF (fam : Addr → Sp → Prop) (m : Str) (dvs : List V) (E : XK) (ta : TE) (t : TA) : TE := fun σ H Q => ta σ H fun x H1 => ∃ a C dx fs sp, x = .ref a ∧ H1 a = some (.ins C dx fs) ∧ fam C sp ∧ fs.lookup m = none ∧
  t σ H1 fun vs H2 => sp (x :: (vs ++ dvs)) H2 Q E
section
variable {X : Cx} {k j : Nat} {C : Addr} {sp : Sp} {dvs : List V} {E : XK} {x m : Str} {p pos apos : Pos} {e o : Expr} {es : List Expr} {ta : TE} {t : TA}
theorem pe_c (c : Cal X.prog X.w X.K X.mg X.base k x sp dvs) (hr : Room j X.A) (hk : k ≤ j) (hg : Gl X x) (hx : Passes (L2N.CX X.prog X.w) X E) (ha : PA X (e :: es) t) (hdb : (x == ("__debug__" : Str)) = false := by decide)
    (he : starEach (e :: es) X.env = (false, eval e X.env) :: starEach es X.env := by rfl) (hpl : (backTo pos (starEach es X.env)).any (·.1) = false := by rfl) : PE X (.Call (.Name x p) (e :: es) [] pos) (tCall sp dvs E t) := by
  obtain ⟨f, fd, ps, ds, F, hm, kp, b, v⟩ := c.ex
  exact pe_call F (hr.mono hk) hg hm kp b v hx ha hdb he hpl
theorem pe_mk (c : Mak X.prog X.w X.K X.mg X.base k x C sp dvs) (hr : Room j X.A) (hk : k + 1 ≤ j) (hg : Gl X x) (hx : Passes (L2N.CX X.prog X.w) X E) (ha : PA X (e :: es) t) (hdb : (x == ("__debug__" : Str)) = false := by decide)
    (he : starEach (e :: es) X.env = (false, eval e X.env) :: starEach es X.env := by rfl) (hpl : (backTo pos (starEach es X.env)).any (·.1) = false := by rfl) : PE X (.Call (.Name x p) (e :: es) [] pos) (tMake C sp dvs E t) := by
  obtain ⟨f, fd, ps, ds, M, F, hm, b, v⟩ := c.ex
  exact pe_make M F (hr.mono hk) hg hm b v hx ha hdb he hpl
theorem pe_mk0 (c : Mak X.prog X.w X.K X.mg X.base k x C sp dvs) (hr : Room j X.A) (hk : k + 1 ≤ j) (hg : Gl X x) (hx : Passes (L2N.CX X.prog X.w) X E) (hdb : (x == ("__debug__" : Str)) = false := by decide) : PE X (.Call (.Name x p) [] [] pos) (tMake C sp dvs E tNil) := by
  obtain ⟨f, fd, ps, ds, M, F, hm, b, v⟩ := c.ex
  exact pe_make0 M F (hr.mono hk) hg hm b v hx hdb
theorem pe_m {fam : Addr → Sp → Prop} {pl : Sem Bool} (c : ∀ C sp, fam C sp → Met X.prog X.w X.K X.mg X.base k C m sp dvs) (hr : Room j X.A) (hk : k ≤ j) (hx : Passes (L2N.CX X.prog X.w) X E) (he : PE X o ta) (ha : PA X (e :: es) t)
    (hst : starEach (e :: es) X.env = (false, eval e X.env) :: starEach es X.env := by rfl) (hpl : (backTo pos (starEach es X.env)).any (·.1) = false := by rfl)
    (ht : eval (.Call (.Attribute o m apos) (e :: es) [] pos) X.env = (do
      let ov ← eval o X.env
      standAt apos.atName
      let (f, first) ← holding [ov] (getMethod ov m pl)
      callWith pos f first (backTo pos (starEach (e :: es) X.env)) (backToKw pos (keywordEach [] X.env))) := by rfl) :
    PE X (.Call (.Attribute o m apos) (e :: es) [] pos) (tMethF fam m dvs E ta t) := by
  refine ⟨fun pins s σ H Q I h => ?_⟩
  refine PySem.W.methodCall_KW (pl := pl) (thn (he.run pins s σ H _ I h) fun u s1 ⟨x, H1, I1, rx, a, C, dx, fs, sp, ex, ea, fm, l, q⟩ => ?_) ht
  obtain ⟨f, fd, ps, ds, cl, me, F, b, v⟩ := (c C sp fm).ex
  subst ex
  obtain rfl : u = Value.ref a := rx
  refine getmeth_ok I1 ea cl me l ?_
  refine PySem.W.callWith_K (first := [.ref a]) (h₀ := X.base) I.ok.mod.kin me.kp (thn (ha.run pos pins s1 σ H1 _ I1 q) fun us s2 ⟨vs, H2, I2, r, q2⟩ => ⟨I2.kIn, ?_⟩) hst hpl
  exact run_fn (us := .ref a :: us) (vs := .ref a :: vs) F (hr.mono hk) b v hx I2 (.cons rfl r) q2
theorem pe_m0 {fam : Addr → Sp → Prop} {pl : Sem Bool} (c : ∀ C sp, fam C sp → Met X.prog X.w X.K X.mg X.base k C m sp dvs) (hr : Room j X.A) (hk : k ≤ j) (hx : Passes (L2N.CX X.prog X.w) X E) (he : PE X o ta)
    (ht : eval (.Call (.Attribute o m apos) [] [] pos) X.env = (do
      let ov ← eval o X.env
      standAt apos.atName
      let (f, first) ← holding [ov] (getMethod ov m pl)
      callWith pos f first (backTo pos (starEach [] X.env)) (backToKw pos (keywordEach [] X.env))) := by rfl) :
    PE X (.Call (.Attribute o m apos) [] [] pos) (tMethF fam m dvs E ta tNil) := by
  refine ⟨fun pins s σ H Q I h => ?_⟩
  refine PySem.W.methodCall_KW (pl := pl) (thn (he.run pins s σ H _ I h) fun u s1 ⟨x, H1, I1, rx, a, C, dx, fs, sp, ex, ea, fm, l, q⟩ => ?_) ht
  obtain ⟨f, fd, ps, ds, cl, me, F, b, v⟩ := (c C sp fm).ex
  subst ex
  obtain rfl : u = Value.ref a := rx
  refine getmeth_ok I1 ea cl me l ?_
  exact PySem.W.callWith_K0 (first := [.ref a]) I1.kIn me.kp (run_fn (us := [.ref a]) (vs := [.ref a]) F (hr.mono hk) b v hx I1 (.cons rfl .nil) q)
end
/-! ### operators of several kinds -/
def rAdd : R2 := fun x y H Q => rI0 (fun i j => .int (i + j)) x y H Q ∨ (∃ i j, x = .str i ∧ y = .str j ∧ i.length + j.length ≤ sizeLine ∧ Q (.str (i ++ j)) H) ∨ rCat x y H Q
theorem u_add {X : Cx} : OpR X (binaryOp .Add) rAdd := op_add.or (op_add_str.or op_cat)
def rSub : R2 := rI0 fun i j => .int (i - j)
theorem u_sub {X : Cx} : OpR X (binaryOp .Sub) rSub := op_sub
def rMul : R2 := fun x y H Q => rI CMul (fun i j => .int (i * j)) x y H Q ∨ rI CMulX (fun i j => .int (i * j)) x y H Q ∨ rRep x y H Q
theorem u_mul {X : Cx} : OpR X (binaryOp .Mult) rMul := op_mul.or (op_mulX.or op_rep)
def rFdv : R2 := rI CDiv fun i j => .int (i / j)
theorem u_fdv {X : Cx} : OpR X (binaryOp .FloorDiv) rFdv := op_fdiv
def rMod : R2 := rI (fun _ j => 0 < j) fun i j => .int (i % j)
theorem u_mod {X : Cx} : OpR X (binaryOp .Mod) rMod := op_mod
def rShl : R2 := rI CShl fun i j => .int (i * 2 ^ j.toNat)
theorem u_shl {X : Cx} : OpR X (binaryOp .LShift) rShl := op_shlW
def rShr : R2 := rI (fun _ j => 0 ≤ j) fun i j => .int (i / 2 ^ j.toNat)
theorem u_shr {X : Cx} : OpR X (binaryOp .RShift) rShr := op_shr
def rBan : R2 := rI0 fun i j => .int (Builtin.bitAnd i j)
theorem u_ban {X : Cx} : OpR X (binaryOp .BitAnd) rBan := op_and
def rBor : R2 := rI0 fun i j => .int (Builtin.bitOr i j)
theorem u_bor {X : Cx} : OpR X (binaryOp .BitOr) rBor := op_or
def rBxo : R2 := rI0 fun i j => .int (Builtin.bitXor i j)
theorem u_bxo {X : Cx} : OpR X (binaryOp .BitXor) rBxo := op_xor
def rNeg : V → Hp → VK → Prop := rU fun i => .int (-i)
theorem u_neg {X : Cx} : UnR X (unaryOp .USub) rNeg := un_neg
def rInv : V → Hp → VK → Prop := rU fun i => .int (Builtin.bitNot i)
theorem u_inv {X : Cx} : UnR X (unaryOp .Invert) rInv := un_inv
/-- in place -/
def pAdd : R2 := fun x y H Q => rI0 (fun i j => .int (i + j)) x y H Q ∨ (∃ i j, x = .str i ∧ y = .str j ∧ i.length + j.length ≤ sizeLine ∧ Q (.str (i ++ j)) H) ∨ rExt2 x y H Q
theorem p_add {X : Cx} : PIp X .Add pAdd := iop_add.or (iop_add_str.or iop_ext)
def pSub : R2 := rI0 fun i j => .int (i - j)
theorem p_sub {X : Cx} : PIp X .Sub pSub := iop_sub
def pShr : R2 := rI (fun _ j => 0 ≤ j) fun i j => .int (i / 2 ^ j.toNat)
theorem p_shr {X : Cx} : PIp X .RShift pShr := iop_shr
def pBan : R2 := rI0 fun i j => .int (Builtin.bitAnd i j)
theorem p_ban {X : Cx} : PIp X .BitAnd pBan := iop_and
def pBor : R2 := rI0 fun i j => .int (Builtin.bitOr i j)
theorem p_bor {X : Cx} : PIp X .BitOr pBor := iop_or
def pBxo : R2 := rI0 fun i j => .int (Builtin.bitXor i j)
theorem p_bxo {X : Cx} : PIp X .BitXor pBxo := iop_xor
/-- comparisons -/
def rEqu (K : PySem.W.Frag) : R2 := fun x y H Q => rEq x y H Q ∨ rEqD K x y H Q
theorem u_eq {X : Cx} {k : Nat} (hr : Room k X.A) : OpR X (compareOp .Eq) (rEqu X.K) := op_eq.or (op_eqD (by have := hr.un; omega))
def rNeu (K : PySem.W.Frag) : R2 := fun x y H Q => rNe x y H Q ∨ rNeD K x y H Q
theorem u_ne {X : Cx} {k : Nat} (hr : Room k X.A) : OpR X (compareOp .NotEq) (rNeu X.K) := op_ne.or (op_neD (by have := hr.un; omega))
def rLt : R2 := rI0 fun i j => .bl (decide (i < j))
theorem u_lt {X : Cx} : OpR X (compareOp .Lt) rLt := op_lt
def rLe : R2 := rI0 fun i j => .bl (decide (i ≤ j))
theorem u_le {X : Cx} : OpR X (compareOp .LtE) rLe := op_le
def rGt : R2 := rI0 fun i j => .bl (decide (j < i))
theorem u_gt {X : Cx} : OpR X (compareOp .Gt) rGt := op_gt
def rGe : R2 := rI0 fun i j => .bl (decide (j ≤ i))
def rIsN : R2 := fun x y H Q => y = .non ∧ Q (.bl (decide (x = .non))) H
theorem u_is {X : Cx} : OpR X (compareOp .Is) rIsN := op_isN
def rNotN : R2 := fun x y H Q => y = .non ∧ Q (.bl (!decide (x = .non))) H
/-- walked: a list, a tuple, a text -/
def iSeq (K : PySem.W.Frag) (tl : TE) : TI := fun σ H R => iList K tl σ H R ∨ iTup K tl σ H R ∨ iStr tl σ H R
theorem PI.or {X : Cx} {tg e : Expr} {w1 w2 : TI} (h1 : PI X tg e w1) (h2 : PI X tg e w2) : PI X tg e (fun σ H R => w1 σ H R ∨ w2 σ H R) := by
  constructor
  intros
  first
  | (rename_i h; rcases h with h | h; · exact h1.run _ _ _ _ _ (by assumption) h
     · exact h2.run _ _ _ _ _ (by assumption) h)
theorem pi_seq {X : Cx} {tg e : Expr} {tl : TE} (h : PE X e tl) : PI X tg e (iSeq X.K tl) := PI.or (pi_list h) (PI.or (pi_tup h) (pi_str h))
/-- a call's way out, within a def -/
theorem passUp {P : Program} {w : World} {K : PySem.W.Frag} {mg : Str → Option Value} {base : Heap} {N : List Str} {qual : Str} {scope : Scope} {f : Addr} {cd : Value} {A : Around} {outer : List Env} {s : Shared} {H : Hp} {E : XK} :
    Passes (L2N.CX P w) (cxOf (L2N.CX P w) P w K mg base N qual scope f cd A outer s H E) E :=
  L2N.passes_call (L2N.takes_of (X := cxOf (L2N.CX P w) P w K mg base N qual scope f cd A outer s H E) rfl rfl rfl rfl) fun _ _ _ _ h => h
theorem ownUp {P : Program} {w : World} {K : PySem.W.Frag} {mg : Str → Option Value} {base : Heap} {N : List Str} {qual : Str} {scope : Scope} {f : Addr} {cd : Value} {A : Around} {outer : List Env} {s : Shared} {H : Hp} {E : XK} :
    PassesOwn (model P w) (cxOf (L2N.CX P w) P w K mg base N qual scope f cd A outer s H E).A (cxOf (L2N.CX P w) P w K mg base N qual scope f cd A outer s H E).env (cxOf (L2N.CX P w) P w K mg base N qual scope f cd A outer s H E).xe :=
  passes_of (X := cxOf (L2N.CX P w) P w K mg base N qual scope f cd A outer s H E) rfl
/-! ### readings, from the left -/
section
variable {K : PySem.W.Frag} {σ : L2.St} {H H1 H2 : Hp} {Q : VK} {D : Ends} {v x y : V}
theorem w_var {i : Nat} (h : σ[i]? = some (some v)) (q : Q v H) : tVar i σ H Q := ⟨v, h, q⟩
theorem w_c (q : Q v H) : tC v σ H Q := q
theorem w_op {r : R2} {ta tb : TE} (h : ta σ H fun x H1 => tb σ H1 fun y H2 => r x y H2 Q) : tOp r ta tb σ H Q := h
theorem w_un {r : V → Hp → VK → Prop} {ta : TE} (h : ta σ H fun x H1 => r x H1 Q) : tUn r ta σ H Q := h
theorem w_nil {R : List V → Hp → Prop} (q : R [] H) : tNil σ H R := q
theorem w_cons {ta : TE} {tr : TA} {R : List V → Hp → Prop} (h : ta σ H fun x H1 => tr σ H1 fun xs H2 => R (x :: xs) H2) : tCons ta tr σ H R := h
theorem w_tup {t : TA} (h : t σ H fun xs H1 => xs.length ≤ sizeLine ∧ ∀ p, H1 p = none → Q (.ref p) (upd H1 p (.tup xs))) : tTup t σ H Q := h
theorem w_lst {t : TA} (h : t σ H fun xs H1 => xs.length ≤ sizeLine ∧ ∀ p, H1 p = none → Q (.ref p) (upd H1 p (.lst xs))) : tLst t σ H Q := h
theorem w_cb {r : List V → Hp → VK → Prop} {t : TA} (h : t σ H fun vs H1 => r vs H1 Q) : tCB r t σ H Q := h
theorem w_call {sp : Sp} {dvs : List V} {E : XK} {t : TA} (h : t σ H fun vs H1 => sp (vs ++ dvs) H1 Q E) : tCall sp dvs E t σ H Q := h
theorem w_meth {fam : Addr → Sp → Prop} {m : Str} {dvs : List V} {E : XK} {ta : TE} {t : TA} (h : ta σ H fun x H1 => ∃ a C dx fs sp, x = .ref a ∧ H1 a = some (.ins C dx fs) ∧ fam C sp ∧ fs.lookup m = none ∧ t σ H1 fun vs H2 => sp (x :: (vs ++ dvs)) H2 Q E) : tMethF fam m dvs E ta t σ H Q := h
theorem w_make {C : Addr} {sp : Sp} {dvs : List V} {E : XK} {t : TA} (h : t σ H fun vs H1 => ∀ x dx, H1 x = none → H1 dx = none → dx ≠ x → sp (.ref x :: (vs ++ dvs)) (upd (upd H1 dx (.own x)) x (.ins C dx [])) (fun v H2 => v = .non ∧ Q (.ref x) H2) E) : tMake C sp dvs E t σ H Q := h
theorem w_fld {ta : TE} {f : Str} (h : ta σ H fun x H1 => ∃ a C dx fs v, x = .ref a ∧ H1 a = some (.ins C dx fs) ∧ Cls K C ∧ NoAttr K C f ∧ fs.lookup f = some v ∧ Q v H1) : tFld K ta f σ H Q := h
theorem w_bm {T : String} {r : V → List V → Hp → VK → Prop} {to : TE} {t : TA} (h : to σ H fun x H1 => tyV K T x H1 ∧ t σ H1 fun xs H2 => r x xs H2 Q) : tBM K T r to t σ H Q := h
theorem w_bm0 {T : String} {r : V → List V → Hp → VK → Prop} {to : TE} (h : to σ H fun x H1 => tyV K T x H1 ∧ r x [] H1 Q) : tBM0 K T r to σ H Q := h
theorem w_bits {to : TE} (h : to σ H fun x H1 => ∃ i, x = .int i ∧ Q (.int (Builtin.Int.intBits i : Nat)) H1) : tBits to σ H Q := h
theorem w_bits1 {i : Int} {R : Int → Prop} (q : R i) : ∃ j, V.int i = .int j ∧ R j := ⟨i, rfl, q⟩
theorem w_sl {r : V → Option Int → Option Int → Hp → VK → Prop} {te : TE} {tl th : TO} (h : te σ H fun x H1 => tl σ H1 fun l H2 => th σ H2 fun u H3 => r x l u H3 Q) : tSl r te tl th σ H Q := h
theorem w_nopart {R : Option Int → Hp → Prop} (q : R none H) : tNoPart σ H R := q
theorem w_part {t : TE} {R : Option Int → Hp → Prop} (h : t σ H fun x H1 => ∃ i, x = .int i ∧ R (some i) H1) : tPart t σ H R := h
theorem w_ife {t : TT} {ta tb : TE} (h : t σ H fun c H1 => if c = true then ta σ H1 Q else tb σ H1 Q) : tIf t ta tb σ H Q := h
theorem w_andv {ta tb : TE} (h : ta σ H fun x H1 => ∃ c, x = .bl c ∧ if c = true then tb σ H1 Q else Q (.bl false) H1) : tAndV ta tb σ H Q := h
theorem w_orv {ta tb : TE} (h : ta σ H fun x H1 => ∃ c, x = .bl c ∧ if c = true then Q (.bl true) H1 else tb σ H1 Q) : tOrV ta tb σ H Q := h
theorem w_notv {ta : TE} (h : ta σ H fun x H1 => ∃ c, x = .bl c ∧ Q (.bl (!c)) H1) : tNotV ta σ H Q := h
theorem w_chain {r r' : R2} {ta tb tc : TE} (h : ta σ H fun x H1 => tb σ H1 fun y H2 => r x y H2 fun z H3 => ∃ k, z = .bl k ∧ (if k = true then tc σ H3 fun w' H4 => r' y w' H4 Q else Q (.bl false) H3)) : tChain r r' ta tb tc σ H Q := h
/-- tests -/
theorem w_test {t : TE} {R : Bool → Hp → Prop} (h : t σ H fun x H1 => ∃ k, x = .bl k ∧ R k H1) : tTest t σ H R := h
theorem w_tb {t : TE} {R : Bool → Hp → Prop} (h : t σ H fun x H1 => ∃ k, x = .bl k ∧ R k H1) : tB t σ H R := h
theorem w_bl {b : Bool} {R : Bool → Prop} (q : R b) : ∃ k, V.bl b = .bl k ∧ R k := ⟨b, rfl, q⟩
theorem w_and {t u : TT} {R : Bool → Hp → Prop} (h : t σ H fun c H1 => if c = true then u σ H1 R else R false H1) : tAnd t u σ H R := h
theorem w_or {t u : TT} {R : Bool → Hp → Prop} (h : t σ H fun c H1 => if c = true then R true H1 else u σ H1 R) : tOr t u σ H R := h
theorem w_not {t : TT} {R : Bool → Hp → Prop} (h : t σ H fun c H1 => R (!c) H1) : tNot t σ H R := h
/-- statements -/
theorem w_seq {t u : TS} (h : t { D with nx := u D } σ H) : tSeq t u D σ H := h
theorem w_next (h : D.nx σ H) : tNext D σ H := h
theorem w_drop {te : TE} (h : te σ H fun _ H1 => D.nx σ H1) : tDrop te D σ H := h
theorem w_ret {te : TE} (h : te σ H D.rt) : tRet te D σ H := h
theorem w_retn (h : D.rt .non H) : tRetN D σ H := h
theorem w_ifs {c : TT} {t u : TS} (h : c σ H fun b H1 => if b = true then t D σ H1 else u D σ H1) : tIfS c t u D σ H := h
theorem w_asg {te : TE} {g : TG} (h : te σ H fun x H1 => g x σ H1 D.nx) : tAsg te g D σ H := h
theorem w_name {i : Nat} {R : L2.St → Hp → Prop} (q : R (σ.set i (some v)) H) : gName i v σ H R := q
theorem w_gsub {to ti : TE} {t : TSet} {R : L2.St → Hp → Prop} (q : to σ H fun o H1 => ti σ H1 fun i H2 => t o i v H2 fun H3 => R σ H3) : gSub to ti t v σ H R := q
theorem w_yes {R : Bool → Hp → Prop} (q : R true H) : tYes σ H R := q
theorem w_gnil {R : L2.St → Hp → Prop} (q : R σ H) : gNil [] σ H R := ⟨rfl, q⟩
theorem w_gcons {t : TG} {u : TGs} {r : List V} {R : L2.St → Hp → Prop} (q : t v σ H fun σ' H' => u r σ' H' R) : gCons t u (v :: r) σ H R := ⟨v, r, rfl, q⟩
theorem w_aug {i : Nat} {te : TE} {ti : TIp} (h : σ[i]? = some (some x)) (q : te σ H fun y H1 => ti x y H1 fun z H2 => D.nx (σ.set i (some z)) H2) : tAug i te ti D σ H := ⟨x, h, q⟩
/-- operators by values -/
theorem r_add {i j : Int} (q : Q (.int (i + j)) H) : rAdd (.int i) (.int j) H Q := .inl ⟨i, j, rfl, rfl, q⟩
theorem r_sub {i j : Int} (q : Q (.int (i - j)) H) : rSub (.int i) (.int j) H Q := ⟨i, j, rfl, rfl, q⟩
theorem r_mul {i j : Int} (h : CMul i j) (q : Q (.int (i * j)) H) : rMul (.int i) (.int j) H Q := .inl ⟨i, j, rfl, rfl, h, q⟩
theorem r_fdv {i j : Int} (h : CDiv i j) (q : Q (.int (i / j)) H) : rFdv (.int i) (.int j) H Q := ⟨i, j, rfl, rfl, h, q⟩
theorem r_mod {i j : Int} (h : 0 < j) (q : Q (.int (i % j)) H) : rMod (.int i) (.int j) H Q := ⟨i, j, rfl, rfl, h, q⟩
theorem r_shl {i j : Int} (h : CShl i j) (q : Q (.int (i * 2 ^ j.toNat)) H) : rShl (.int i) (.int j) H Q := ⟨i, j, rfl, rfl, h, q⟩
theorem r_shr {i j : Int} (h : 0 ≤ j) (q : Q (.int (i / 2 ^ j.toNat)) H) : rShr (.int i) (.int j) H Q := ⟨i, j, rfl, rfl, h, q⟩
theorem r_ban {i j : Int} (q : Q (.int (Builtin.bitAnd i j)) H) : rBan (.int i) (.int j) H Q := ⟨i, j, rfl, rfl, q⟩
theorem r_bor {i j : Int} (q : Q (.int (Builtin.bitOr i j)) H) : rBor (.int i) (.int j) H Q := ⟨i, j, rfl, rfl, q⟩
theorem r_bxo {i j : Int} (q : Q (.int (Builtin.bitXor i j)) H) : rBxo (.int i) (.int j) H Q := ⟨i, j, rfl, rfl, q⟩
theorem r_neg {i : Int} (q : Q (.int (-i)) H) : rNeg (.int i) H Q := ⟨i, rfl, q⟩
theorem r_inv {i : Int} (q : Q (.int (Builtin.bitNot i)) H) : rInv (.int i) H Q := ⟨i, rfl, q⟩
theorem r_padd {i j : Int} (q : Q (.int (i + j)) H) : pAdd (.int i) (.int j) H Q := .inl ⟨i, j, rfl, rfl, q⟩
theorem r_psub {i j : Int} (q : Q (.int (i - j)) H) : pSub (.int i) (.int j) H Q := ⟨i, j, rfl, rfl, q⟩
theorem r_pshr {i j : Int} (h : 0 ≤ j) (q : Q (.int (i / 2 ^ j.toNat)) H) : pShr (.int i) (.int j) H Q := ⟨i, j, rfl, rfl, h, q⟩
theorem r_pban {i j : Int} (q : Q (.int (Builtin.bitAnd i j)) H) : pBan (.int i) (.int j) H Q := ⟨i, j, rfl, rfl, q⟩
theorem r_pbor {i j : Int} (q : Q (.int (Builtin.bitOr i j)) H) : pBor (.int i) (.int j) H Q := ⟨i, j, rfl, rfl, q⟩
theorem r_pbxo {i j : Int} (q : Q (.int (Builtin.bitXor i j)) H) : pBxo (.int i) (.int j) H Q := ⟨i, j, rfl, rfl, q⟩
theorem r_eqi {i j : Int} (q : Q (.bl (decide (i = j))) H) : rEqu K (.int i) (.int j) H Q := .inl ⟨rfl, by
  have e : decide (V.int i = V.int j) = decide (i = j) := by rw [dec_int, Bool.beq_eq_decide_eq]
  rw [e]; exact q⟩
theorem r_nei {i j : Int} (q : Q (.bl (!decide (i = j))) H) : rNeu K (.int i) (.int j) H Q := .inl ⟨rfl, by
  have e : decide (V.int i = V.int j) = decide (i = j) := by rw [dec_int, Bool.beq_eq_decide_eq]
  rw [e]; exact q⟩
theorem r_eqb {i j : Bool} (q : Q (.bl (decide (i = j))) H) : rEqu K (.bl i) (.bl j) H Q := .inl ⟨rfl, by
  have e : decide (V.bl i = V.bl j) = decide (i = j) := by rw [dec_bl, Bool.beq_eq_decide_eq]
  rw [e]; exact q⟩
theorem r_neb {i j : Bool} (q : Q (.bl (!decide (i = j))) H) : rNeu K (.bl i) (.bl j) H Q := .inl ⟨rfl, by
  have e : decide (V.bl i = V.bl j) = decide (i = j) := by rw [dec_bl, Bool.beq_eq_decide_eq]
  rw [e]; exact q⟩
theorem r_eqs {i j : Str} (q : Q (.bl (decide (i = j))) H) : rEqu K (.str i) (.str j) H Q := .inl ⟨rfl, by
  have e : decide (V.str i = V.str j) = decide (i = j) := by rw [Bool.eq_iff_iff]; simp
  rw [e]; exact q⟩
theorem r_nes {i j : Str} (q : Q (.bl (!decide (i = j))) H) : rNeu K (.str i) (.str j) H Q := .inl ⟨rfl, by
  have e : decide (V.str i = V.str j) = decide (i = j) := by rw [Bool.eq_iff_iff]; simp
  rw [e]; exact q⟩
theorem r_eqd {d e : PyData} (hd : Dp K H x d) (he : Dp K H y e) (sd : SeqAt.shaped d = true) (se : SeqAt.shaped e = true) (q : Q (.bl (PyData.eqv d e)) H) : rEqu K x y H Q := .inr ⟨d, e, hd, he, sd, se, q⟩
theorem r_ned {d e : PyData} (hd : Dp K H x d) (he : Dp K H y e) (sd : SeqAt.shaped d = true) (se : SeqAt.shaped e = true) (q : Q (.bl (!PyData.eqv d e)) H) : rNeu K x y H Q := .inr ⟨d, e, hd, he, sd, se, q⟩
theorem r_lt {i j : Int} (q : Q (.bl (decide (i < j))) H) : rLt (.int i) (.int j) H Q := ⟨i, j, rfl, rfl, q⟩
theorem r_le {i j : Int} (q : Q (.bl (decide (i ≤ j))) H) : rLe (.int i) (.int j) H Q := ⟨i, j, rfl, rfl, q⟩
theorem r_gt {i j : Int} (q : Q (.bl (decide (j < i))) H) : rGt (.int i) (.int j) H Q := ⟨i, j, rfl, rfl, q⟩
theorem r_ge {i j : Int} (q : Q (.bl (decide (j ≤ i))) H) : rGe (.int i) (.int j) H Q := ⟨i, j, rfl, rfl, q⟩
theorem r_is (q : Q (.bl (decide (x = .non))) H) : rIsN x .non H Q := ⟨rfl, q⟩
theorem r_isnot (q : Q (.bl (!decide (x = .non))) H) : rNotN x .non H Q := ⟨rfl, q⟩
/-- subscripts -/
theorem r_ixL {p : Addr} {xs : List V} {i : Int} (h : SqL K H p xs) (e : atI xs i = some v) (q : Q v H) : rIx K (.ref p) (.int i) H Q := .inl ⟨p, xs, i, v, rfl, rfl, h, e, q⟩
theorem r_ixT {p : Addr} {xs : List V} {i : Int} (h : SqT K H p xs) (e : atI xs i = some v) (q : Q v H) : rIx K (.ref p) (.int i) H Q := .inr (.inl ⟨p, xs, i, v, rfl, rfl, h, e, q⟩)
end
/-! ### if -/
theorem if_t {c : Bool} {A B : Prop} (h : c = true) (a : A) : if c = true then A else B := by rw [if_pos h]; exact a
theorem if_f {c : Bool} {A B : Prop} (h : c = false) (b : B) : if c = true then A else B := by rw [h, if_neg Bool.false_ne_true]; exact b
theorem if_d {c : Prop} [Decidable c] {A B : Prop} (h1 : c → A) (h2 : ¬ c → B) : if decide c = true then A else B := by
  by_cases h : c
  · rw [decide_eq_true h, if_pos rfl]; exact h1 h
  · rw [decide_eq_false h, if_neg Bool.false_ne_true]; exact h2 h
theorem if_nd {c : Prop} [Decidable c] {A B : Prop} (h1 : ¬ c → A) (h2 : c → B) : if (!decide c) = true then A else B := by
  by_cases h : c
  · rw [decide_eq_true h]; exact h2 h
  · rw [decide_eq_false h]; exact h1 h
theorem if_b {c : Bool} {A B : Prop} (h1 : c = true → A) (h2 : c = false → B) : if c = true then A else B := by
  cases c
  · exact h2 rfl
  · exact h1 rfl
theorem w_nT {A B : Prop} (h : B) : if (!true) = true then A else B := h
theorem w_nF {A B : Prop} (h : A) : if (!false) = true then A else B := h
/-! ### while, for -/
theorem w_while {c : TT} {tb : TS} {D : Ends} {σ : L2.St} {H : Hp} (W : Nat → L2.St → Hp → Prop) (m : Nat) (h0 : W m σ H) (hs : ∀ m σ H, W m σ H → c σ H fun b H1 => if b = true then ∃ N : L2.St → Hp → Prop, (∀ σ' H', N σ' H' → ∃ m', m' < m ∧ W m' σ' H') ∧ tb { D with nx := N, ct := N, bk := D.nx } σ H1 else D.nx σ H1) :
    tWhile c tb D σ H := ⟨W, ⟨m, h0⟩, hs⟩
theorem w_body {W : Nat → L2.St → Hp → Prop} {m : Nat} {tb : (L2.St → Hp → Prop) → Prop} (h : tb fun σ' H' => ∃ m', m' < m ∧ W m' σ' H') : ∃ N : L2.St → Hp → Prop, (∀ σ' H', N σ' H' → ∃ m', m' < m ∧ W m' σ' H') ∧ tb N := ⟨_, fun _ _ x => x, h⟩
section
variable {K : PySem.W.Frag} {tl : TE} {g : TG} {tb : TS} {D : Ends} {σ : L2.St} {H : Hp}
theorem w_for {wi : TI} (h : wi σ H fun J H1 => ∃ W : Nat → Nat → L2.St → Hp → Prop, (∃ m, W 0 m σ H1) ∧ ∀ i m σ H, W i m σ H →
    (J.stop i H ∧ D.nx σ H) ∨ (J.go i H ∧ ∃ N : L2.St → Hp → Prop, (∀ σ' H', N σ' H' → ∃ m', m' < m ∧ W (i + 1) m' σ' H') ∧ ∀ x H', J.yld i H x H' → g x σ H' fun σ2 H2 => tb { D with nx := N, ct := N, bk := D.nx } σ2 H2)) : tFor wi g tb D σ H := h
theorem w_rng1 {ta : TA} {R : It → Hp → Prop} (h : ta σ H fun vs H1 => ∃ j : Int, vs = [.int j] ∧ -(2 ^ 62) ≤ j ∧ j < 2 ^ 62 ∧ R (Itr 0 j.toNat) H1) : iRng1 ta σ H R := h
theorem w_rng2 {ta : TA} {R : It → Hp → Prop} (h : ta σ H fun vs H1 => ∃ i j : Int, vs = [.int i, .int j] ∧ (-(2 ^ 62) ≤ i ∧ i < 2 ^ 62 ∧ -(2 ^ 62) ≤ j ∧ j < 2 ^ 62) ∧ R (Itr i (j - i).toNat) H1) : iRng2 ta σ H R := h
theorem w_iList {R : It → Hp → Prop} (h : tl σ H fun x H1 => ∃ a, x = .ref a ∧ (∃ xs, SqL K H1 a xs) ∧ R (Itl K a) H1) : iList K tl σ H R := h
theorem w_iTup {R : It → Hp → Prop} (h : tl σ H fun x H1 => ∃ a, x = .ref a ∧ (∃ xs, SqT K H1 a xs) ∧ R (Itt K a) H1) : iTup K tl σ H R := h
theorem w_iStr {R : It → Hp → Prop} (h : tl σ H fun v H1 => ∃ x, v = .str x ∧ R (Its x) H1) : iStr tl σ H R := h
theorem w_ort {ta tb : TE} {Q : VK} (h : ta σ H fun x H1 => ∃ k, TruV K x H1 k ∧ if k = true then Q x H1 else tb σ H1 Q) : tOrT K ta tb σ H Q := h
theorem w_revL {ta : TE} {Q : VK} (h : ta σ H fun x H1 => ∃ a xs, x = .ref a ∧ SqL K H1 a xs ∧ ∀ p, H1 p = none → Q (.ref p) (upd H1 p (.lst xs.reverse))) : tRevL K ta σ H Q := h
theorem w_lockE {t : TE} {Q : VK} (h : ∃ d u, H d = some u ∧ Mut (some u) ∧ ∀ od, t σ (upd H d (.frz od u)) fun v H' => H' d = some (.frz od u) ∧ Q v (upd H' d u)) : tLockE t σ H Q := h
theorem w_lockS {t : TS} (h : ∃ d u, H d = some u ∧ Mut (some u) ∧ ∀ od, t ⟨fun σ' H' => H' d = some (.frz od u) ∧ D.nx σ' (upd H' d u), fun v H' => H' d = some (.frz od u) ∧ D.rt v (upd H' d u), fun σ' H' => H' d = some (.frz od u) ∧ D.bk σ' (upd H' d u), fun σ' H' => H' d = some (.frz od u) ∧ D.ct σ' (upd H' d u)⟩ σ (upd H d (.frz od u))) : tLock t D σ H := h
theorem w_dget {td ty : TE} {Q : VK} (h : td σ H fun x H1 => ty σ H1 fun y H2 => ∃ a v, x = .ref a ∧ DGet H2 a y (some v) ∧ Q v H2) : tDGet td ty σ H Q := h
theorem w_din {td ty : TE} {Q : VK} (h : ty σ H fun y H1 => td σ H1 fun x H2 => ∃ a o, x = .ref a ∧ DGet H2 a y o ∧ Q (.bl o.isSome) H2) : tDIn ty td σ H Q := h
theorem w_dnotin {td ty : TE} {Q : VK} (h : ty σ H fun y H1 => td σ H1 fun x H2 => ∃ a o, x = .ref a ∧ DGet H2 a y o ∧ Q (.bl (!o.isSome)) H2) : tDNotIn ty td σ H Q := h
theorem w_dput {td ty tv : TE} (h : tv σ H fun v H1 => td σ H1 fun x H2 => ty σ H2 fun y H3 => ∃ a H4, x = .ref a ∧ DPut H3 a y v H4 ∧ D.nx σ H4) : sDPut td ty tv D σ H := h
theorem w_dpop2 {td ty tx : TE} {Q : VK} (h : td σ H fun x H1 => ∃ a, x = .ref a ∧ IsD H1 a ∧ ty σ H1 fun y H2 => tx σ H2 fun z H3 => ∃ kvs k, H3 a = some (.dK kvs) ∧ y = kV k ∧ (∀ v, valV kvs k = some v → Q v (upd H3 a (.dK (dropK kvs k)))) ∧ (valV kvs k = none → Q z H3)) : tDPop2 td ty tx σ H Q := h
theorem w_sfld {ta tv : TE} {f : Str} (h : tv σ H fun y H1 => ta σ H1 fun x H2 => ∃ a C dx fs, x = .ref a ∧ H2 a = some (.ins C dx fs) ∧ Cls K C ∧ NoAttr K C f ∧ fs.length < 1000 ∧ D.nx σ (upd H2 a (.ins C dx (putF f y fs)))) : sFld K ta tv f D σ H := h
theorem w_iItems {R : It → Hp → Prop} (h : tl σ H fun x H1 => ∃ d o kvs, x = .ref d ∧ H1 d = some (.frz o (.dK kvs)) ∧ R (Iti d o kvs) H1) : iItems tl σ H R := h
theorem w_iVals {R : It → Hp → Prop} (h : tl σ H fun x H1 => ∃ d o kvs, x = .ref d ∧ H1 d = some (.frz o (.dK kvs)) ∧ R (Itd d o kvs) H1) : iVals tl σ H R := h
theorem w_iKeys {R : It → Hp → Prop} (h : tl σ H fun x H1 => ∃ d o, x = .ref d ∧ ((∃ kvs, H1 d = some (.frz o (.dK kvs)) ∧ R (Itk d o kvs) H1) ∨ ∃ kvs, H1 d = some (.frz o (.dT kvs)) ∧ R (Itkt d o kvs) H1)) : iKeys tl σ H R := h
theorem w_lc {wi : TI} {tt : TT} {te : TE} {vs : List Nat} {Q : VK} (h : wi σ H fun J H1 => ∀ D, H1 D = none → ∃ W : Nat → Nat → Hp → Prop, (∃ m, W 0 m (upd H1 D (.lst []))) ∧ ∀ i m H, W i m H →
  (J.stop i H ∧ Q (.ref D) H) ∨ (J.go i H ∧ ∃ Nx : Hp → Prop, (∀ H', Nx H' → ∃ m', m' < m ∧ W (i + 1) m' H') ∧ ∀ x H', J.yld i H x H' → g x (wipe σ vs) H' fun σ2 H2 => wipe σ2 vs = wipe σ vs ∧ tt σ2 H2 fun b H3 =>
    if b = true then te σ2 H3 fun y H4 => ∃ acc, H4 D = some (.lst acc) ∧ acc.length < sizeLine ∧ Nx (upd H4 D (.lst (acc ++ [y]))) else Nx H3)) : tLc wi g tt te vs σ H Q := h
end
/-! ### heaps that grow -/
theorem new_of {H H1 : Hp} {p : Addr} {o : HO} (np : H p = none) (e : upd H p o = H1) : Same H H1 ∧ H1 p = some o ∧ ∀ b, H1 b = none → H b = none := by
  subst e
  refine ⟨fun b u q => ?_, upd_same, fun b q => ?_⟩
  · rw [upd_ne (ne_of_none q np)]; exact q
  · by_cases c : b = p
    · subst c; exact np
    · rw [upd_ne c] at q; exact q
/-- what the caller knew stays, though the local list at p is written -/
theorem _root_.L2.Same.mut {H H' : Hp} {p : Addr} {o : HO} (s : Same H H') (h : H p = none) : Same H (upd H' p o) := fun b u q => by
  rw [upd_ne (ne_of_none q h)]; exact s b u q
theorem _root_.L2.Same.tup {K : PySem.W.Frag} {H H' : Hp} {a : Addr} {xs : List V} (e : Same H H') (h : SqT K H a xs) : SqT K H' a xs := by
  rcases h with (h | ⟨o, h⟩) | h
  · exact .inl (.inl (e _ _ h))
  · exact .inl (.inr ⟨o, e _ _ h⟩)
  · exact .inr h
mutual
theorem dp_ext {K : PySem.W.Frag} {H H' : Hp} (e : Same H H') : ∀ (d : PyData) {v : V}, Dp K H v d → Dp K H' v d
  | .none, _, h => by cases h; exact .non
  | .bool b, _, h => by cases h; exact .bl b
  | .int i, _, h => by cases h; exact .int i
  | .str x, _, h => by cases h; exact .str x
  | .list ds, _, h => by
    cases h with
    | lst h1 h2 => exact .lst (e.seq h1) (dpa_ext e ds h2)
  | .tuple ds, _, h => by
    cases h with
    | tup h1 h2 => exact .tup (Same.tup e h1) (dpa_ext e ds h2)
  | .dict _, _, h => by cases h
theorem dpa_ext {K : PySem.W.Frag} {H H' : Hp} (e : Same H H') : ∀ (ds : List PyData) {vs : List V}, DpAll K H vs ds → DpAll K H' vs ds
  | [], _, h => by cases h; exact .nil
  | d :: ds, _, h => by
    cases h with
    | cons h1 h2 => exact .cons (dp_ext e d h1) (dpa_ext e ds h2)
end
theorem _root_.L2.Dp.ext {K : PySem.W.Frag} {H H' : Hp} {v : V} {d : PyData} (h : Dp K H v d) (e : Same H H') : Dp K H' v d := dp_ext e d h
theorem _root_.L2.DpAll.ext {K : PySem.W.Frag} {H H' : Hp} {vs : List V} {ds : List PyData} (h : DpAll K H vs ds) (e : Same H H') : DpAll K H' vs ds := dpa_ext e ds h
theorem dpa_len {K : PySem.W.Frag} {H : Hp} : ∀ {vs : List V} {ds : List PyData}, DpAll K H vs ds → vs.length = ds.length
  | _, _, .nil => rfl
  | _, _, .cons _ t => by simp [dpa_len t]
theorem dpa_get {K : PySem.W.Frag} {H : Hp} : ∀ {vs : List V} {ds : List PyData} {i : Nat} {v : V}, DpAll K H vs ds → vs[i]? = some v → ∃ d, ds[i]? = some d ∧ Dp K H v d
  | _, _, _, _, .nil, e => by simp at e
  | _, _, 0, _, .cons h _, e => by simp at e; subst e; exact ⟨_, rfl, h⟩
  | _, _, i + 1, v, .cons _ t, e => by
    obtain ⟨d, h1, h2⟩ := dpa_get (i := i) (v := v) t (by simpa using e)
    exact ⟨d, by simpa using h1, h2⟩
theorem dpa_app {K : PySem.W.Frag} {H : Hp} : ∀ {vs ws : List V} {ds es : List PyData}, DpAll K H vs ds → DpAll K H ws es → DpAll K H (vs ++ ws) (ds ++ es)
  | _, _, _, _, .nil, s => s
  | _, _, _, _, .cons r t, s => .cons r (dpa_app t s)
theorem _root_.L2.DpAll.len {K : PySem.W.Frag} {H : Hp} {vs : List V} {ds : List PyData} (h : DpAll K H vs ds) : vs.length = ds.length := dpa_len h
theorem _root_.L2.DpAll.get {K : PySem.W.Frag} {H : Hp} {vs : List V} {ds : List PyData} {i : Nat} {v : V} (h : DpAll K H vs ds) (e : vs[i]? = some v) : ∃ d, ds[i]? = some d ∧ Dp K H v d := dpa_get h e
theorem _root_.L2.DpAll.append {K : PySem.W.Frag} {H : Hp} {vs ws : List V} {ds es : List PyData} (h : DpAll K H vs ds) (g : DpAll K H ws es) : DpAll K H (vs ++ ws) (ds ++ es) := dpa_app h g
theorem dpa_ints {K : PySem.W.Frag} {H : Hp} : ∀ ns : List Int, DpAll K H (ns.map V.int) (ns.map PyData.int)
  | [] => .nil
  | n :: ns => .cons (.int n) (dpa_ints ns)
theorem dpa_split {K : PySem.W.Frag} {H : Hp} : ∀ {ys : List V} {ds : List PyData} {v : V} {d : PyData}, ys.length = ds.length → DpAll K H (ys ++ [v]) (ds ++ [d]) → DpAll K H ys ds ∧ Dp K H v d
  | [], [], _, _, _, h => by
    cases h with
    | cons h1 h2 => exact ⟨.nil, h1⟩
  | [], _ :: _, _, _, e, _ => by simp at e
  | _ :: _, [], _, _, e, _ => by simp at e
  | y :: ys, e :: ds, v, d, l, h => by
    cases h with
    | cons h1 h2 =>
      obtain ⟨a, b⟩ := dpa_split (by simpa using l) h2
      exact ⟨.cons h1 a, b⟩
/-! ### data that a callee made: it stays while the new objects stay -/
def New (H H' H'' : Hp) : Prop := ∀ b o, H b = none → H' b = some o → H'' b = some o
def Fd (K : PySem.W.Frag) (H H' : Hp) (v : V) (d : PyData) : Prop := ∀ H'', New H H' H'' → Dp K H'' v d
def Fds (K : PySem.W.Frag) (H H' : Hp) (vs : List V) (ds : List PyData) : Prop := ∀ H'', New H H' H'' → DpAll K H'' vs ds
section
variable {K : PySem.W.Frag} {H H0 H1 H2 H' : Hp} {v : V} {d : PyData} {vs : List V} {ds : List PyData} {p : Addr}
theorem New.refl : New H H' H' := fun _ _ _ q => q
theorem New.same (s : Same H1 H2) : New H H1 H2 := fun b o _ q => s b o q
theorem New.trans (a : New H H1 H2) (b : New H H2 H') : New H H1 H' := fun c o n q => b c o n (a c o n q)
theorem New.left (h : ∀ b, H0 b = none → H b = none) (a : New H H1 H2) : New H0 H1 H2 := fun c o n q => a c o (h c n) q
/-- an object of the left heap is written -/
theorem New.mut {o u : HO} (hp : H p = some u) (e : New H H1 H2) : New H H1 (upd H2 p o) := fun b q n z => by
  rw [upd_ne (fun e => by rw [e, hp] at n; cases n)]; exact e b q n z
theorem Fd.now (h : Fd K H H' v d) : Dp K H' v d := h H' New.refl
theorem Fds.now (h : Fds K H H' vs ds) : DpAll K H' vs ds := h H' New.refl
theorem Fd.to (h : Fd K H H1 v d) (e : New H H1 H2) : Fd K H H2 v d := fun H'' n => h H'' (e.trans n)
theorem Fds.to (h : Fds K H H1 vs ds) (e : New H H1 H2) : Fds K H H2 vs ds := fun H'' n => h H'' (e.trans n)
theorem Fd.left (h : Fd K H H1 v d) (e : ∀ b, H b = none → H0 b = none) : Fd K H0 H1 v d := fun H'' n => h H'' (fun b o q z => n b o (e b q) z)
theorem Fds.left (h : Fds K H H1 vs ds) (e : ∀ b, H b = none → H0 b = none) : Fds K H0 H1 vs ds := fun H'' n => h H'' (fun b o q z => n b o (e b q) z)
theorem Fd.int (i : Int) : Fd K H H' (.int i) (.int i) := fun _ _ => .int i
theorem Fd.str (i : Str) : Fd K H H' (.str i) (.str i) := fun _ _ => .str i
theorem Fd.bl (i : Bool) : Fd K H H' (.bl i) (.bool i) := fun _ _ => .bl i
theorem Fd.non : Fd K H H' .non .none := fun _ _ => .non
theorem Fds.nil : Fds K H H' [] [] := fun _ _ => .nil
theorem Fds.cons (a : Fd K H H' v d) (b : Fds K H H' vs ds) : Fds K H H' (v :: vs) (d :: ds) := fun H'' n => .cons (a H'' n) (b H'' n)
theorem Fds.snoc (b : Fds K H H' vs ds) (a : Fd K H H' v d) : Fds K H H' (vs ++ [v]) (ds ++ [d]) := fun H'' n => dpa_app (b H'' n) (.cons (a H'' n) .nil)
theorem Fds.ints (ns : List Int) : Fds K H H' (ns.map V.int) (ns.map PyData.int) := fun _ _ => dpa_ints ns
theorem Fd.lst (np : H p = none) (hp : H' p = some (.lst vs)) (h : Fds K H H' vs ds) : Fd K H H' (.ref p) (.list ds) := fun H'' n => .lst (.inl (.inl (n p _ np hp))) (h H'' n)
theorem Fd.tup (np : H p = none) (hp : H' p = some (.tup vs)) (h : Fds K H H' vs ds) : Fd K H H' (.ref p) (.tuple ds) := fun H'' n => .tup (.inl (.inl (n p _ np hp))) (h H'' n)
theorem Fds.len (h : Fds K H H' vs ds) : vs.length = ds.length := h.now.len
end
/-! ### what a list of data holds -/
theorem _root_.L2.Dp.tup_inv {K : PySem.W.Frag} {H : Hp} {v : V} {ds : List PyData} (h : Dp K H v (.tuple ds)) : ∃ a xs, v = .ref a ∧ SqT K H a xs ∧ DpAll K H xs ds := by
  cases h with
  | tup h1 h2 => exact ⟨_, _, rfl, h1, h2⟩
theorem dpa_ints_inv {K : PySem.W.Frag} {H : Hp} : ∀ {vs : List V} {ns : List Int}, DpAll K H vs (ns.map PyData.int) → vs = ns.map V.int
  | _, [], h => by cases h; rfl
  | _, n :: ns, h => by
    cases h with
    | cons h1 h2 =>
      cases h1
      rw [dpa_ints_inv h2]; rfl
theorem sz5 {n : Nat} (h : n ≤ 100000) : n ≤ sizeLine := Nat.le_trans h (by decide)
theorem sl5 {n : Nat} (h : n < 100000) : n < sizeLine := Nat.lt_of_lt_of_le h (by decide)
/-! ### the program's addresses -/
inductive Kd where | row | runs | bits
  deriving DecidableEq
/-- a lambda's words -/
structure LamD where
  q : Str
  params : Arguments
  body : Expr
  scope : Scope
/-- the program's ways to make bits of bits -/
inductive Wy where | putA | dropA | turnA | joinW | metW | lessW | apartW
  deriving DecidableEq
def Wy.op : Wy → Nat → Nat → Nat
  | .putA, a, b => a ||| b
  | .dropA, a, b => andn a b
  | .turnA, a, b => a ^^^ b
  | .joinW, a, b => a ||| b
  | .metW, a, b => a &&& b
  | .lessW, a, b => andn a b
  | .apartW, a, b => a ^^^ b
structure Cs where
  K : PySem.W.Frag
  row : Addr
  runs : Addr
  bits : Addr
  set : Addr
  sack : Addr
  eSackError : Addr
  eNoNumber : Addr
  eNoStretch : Addr
  eNoRank : Addr
  eNoText : Addr
  way : Wy → LamD
  T : List (Addr × Str)
def Cs.kd (c : Cs) : Kd → Addr
  | .row => c.row
  | .runs => c.runs
  | .bits => c.bits
/-- what the sacks' classes are -/
structure Good (c : Cs) : Prop where
  cl : ∀ k, Cls c.K (c.kd k)
  na : ∀ k, NoAttr c.K (c.kd k) "bits"
structure GoodS (c : Cs) : Prop extends Good c where
  cs : Cls c.K c.set
  ns : NoAttr c.K c.set "by_upper"
/-- an exception's class of the program's own -/
structure ExcF (K : PySem.W.Frag) (mg : Str → Option Value) (x : Str) (C : Addr) : Prop where
  xi : PySem.W.excIn K C [.type "ValueError", .type "Exception", .type "BaseException", .type "object"] "ValueError.__new__" = true
  g : mg x = some (.ref C)
  k : PySem.W.keepIn K (.ref C) = true
  b : PySem.W.subIn K (.ref C) (.type "BaseException") = some true
  t : PySem.W.typeIn K (.ref C) = some (.type "type")
theorem pmk_x {X : Cx} {x m : Str} {C : Addr} {j : Nat} {p p2 pos : Pos} (h : ExcF X.K X.mg x C) (hg : Gl X x) (hdb : (x == ("__debug__" : Str)) = false := by decide) :
    L2N.PMk X (.Call (.Name x p) [.Constant (.str m) j p2] [] pos) (fun _ H Q => Q (.ref C) none H) := L2N.pmk_own PySem.F.excBase_ValueError h.xi h.g h.k (raises_own h.b h.t) hg hdb
theorem gl_int {mg : Str → Option Value} {x : Str} {i : Int} (h : ∃ t, mg x = some (.int i t)) : ∃ u, mg x = some u ∧ RelV (.int i) u := by
  obtain ⟨t, h⟩ := h
  exact ⟨_, h, _, rfl⟩
/-! ### built-ins -/
def rLen (K : PySem.W.Frag) : List V → Hp → VK → Prop := fun xs H Q => ∃ x n, xs = [x] ∧ LenV K x H n ∧ Q (.int n) H
theorem u_len {X : Cx} : CallR X (.builtin "len") (rLen X.K) := call_len
def rTuple (K : PySem.W.Frag) : List V → Hp → VK → Prop := fun xs H Q => ∃ p ys, xs = [.ref p] ∧ ((SqL K H p ys ∧ ∀ l, H l = none → Q (.ref l) (upd H l (.tup ys))) ∨ (SqT K H p ys ∧ Q (.ref p) H))
theorem u_tuple {X : Cx} : CallR X (.type "tuple") (rTuple X.K) := call_tuple_of
def rIsiU (K : PySem.W.Frag) : List V → Hp → VK → Prop := rIsi K
theorem u_isi {X : Cx} : CallR X (.builtin "isinstance") (rIsiU X.K) := call_isi
def rMaxU (K : PySem.W.Frag) : List V → Hp → VK → Prop := fun xs H Q => (∃ i j, xs = [.int i, .int j] ∧ Q (.int (if j > i then j else i)) H) ∨ rMax K xs H Q
theorem u_max {X : Cx} (hc : X.calm = true := by rfl) : CallR X (.builtin "max") (rMaxU X.K) := (call_max2 hc).or (cr_max hc)
def rMinU (K : PySem.W.Frag) : List V → Hp → VK → Prop := fun xs H Q => (∃ i j, xs = [.int i, .int j] ∧ Q (.int (if j < i then j else i)) H) ∨ rMin K xs H Q
theorem u_min {X : Cx} (hc : X.calm = true := by rfl) : CallR X (.builtin "min") (rMinU X.K) := (call_min2 hc).or (cr_min hc)
def rDivmod : List V → Hp → VK → Prop := fun xs H Q => ∃ i j, xs = [.int i, .int j] ∧ CDiv i j ∧ ∀ p, H p = none → Q (.ref p) (upd H p (.tup [.int (i / j), .int (i % j)]))
theorem u_divmod {X : Cx} : CallR X (.builtin "divmod") rDivmod := call_divmod
def rInt : List V → Hp → VK → Prop := fun xs H Q => ((∃ i, xs = [.int i] ∧ Q (.int i) H) ∨ ∃ k, xs = [.bl k] ∧ Q (.int (if k then 1 else 0)) H) ∨ ∃ a n, xs = [.str a] ∧ PySem.intText? a = some n ∧ a.length ≤ 640 ∧ Q (.int n) H
def rSlU (K : PySem.W.Frag) : V → Option Int → Option Int → Hp → VK → Prop := fun x lo hi H Q => rSlL K x lo hi H Q ∨ C8.rSlX x lo hi H Q
theorem u_sl {X : Cx} : SlR X (rSlU X.K) := sl_list.or C8.sl_txt
section
variable {K : PySem.W.Frag} {H : Hp} {Q : VK}
theorem r_len_l {p : Addr} {xs : List V} (h : SqL K H p xs) (q : Q (.int (xs.length : Nat)) H) : rLen K [.ref p] H Q := ⟨_, _, rfl, .inl ⟨xs, h, rfl⟩, q⟩
theorem r_len_t {p : Addr} {xs : List V} (h : SqT K H p xs) (q : Q (.int (xs.length : Nat)) H) : rLen K [.ref p] H Q := ⟨_, _, rfl, .inr ⟨xs, h, rfl⟩, q⟩
theorem r_tuple_l {p : Addr} {xs : List V} (h : SqL K H p xs) (q : ∀ l, H l = none → Q (.ref l) (upd H l (.tup xs))) : rTuple K [.ref p] H Q := ⟨p, xs, rfl, .inl ⟨h, q⟩⟩
theorem r_isi {x : V} {t : String} {n : String} {b : Bool} (h : TyX K H x (.type t)) (e : kitB t n = some b) (q : Q (.bl b) H) : rIsiU K [x, .ty n] H Q := ⟨x, .ty n, .type t, .type n, b, rfl, .ty n, h, kit_ty e, q⟩
theorem r_isi_int_int {i : Int} (q : Q (.bl true) H) : rIsiU K [.int i, .ty "int"] H Q := r_isi (.base (.int i)) (by decide +kernel) q
theorem r_isi_int_bool {i : Int} (q : Q (.bl false) H) : rIsiU K [.int i, .ty "bool"] H Q := r_isi (.base (.int i)) (by decide +kernel) q
theorem r_isi_bl_bool {i : Bool} (q : Q (.bl true) H) : rIsiU K [.bl i, .ty "bool"] H Q := r_isi (.base (.bl i)) (by decide +kernel) q
theorem r_isi_bl_int {i : Bool} (q : Q (.bl true) H) : rIsiU K [.bl i, .ty "int"] H Q := r_isi (.base (.bl i)) (by decide +kernel) q
theorem r_isi_non_int (q : Q (.bl false) H) : rIsiU K [.non, .ty "int"] H Q := r_isi (.base .non) (by decide +kernel) q
theorem r_isi_non_bool (q : Q (.bl false) H) : rIsiU K [.non, .ty "bool"] H Q := r_isi (.base .non) (by decide +kernel) q
theorem r_isi_str_int {i : Str} (q : Q (.bl false) H) : rIsiU K [.str i, .ty "int"] H Q := r_isi (.base (.str i)) (by decide +kernel) q
theorem r_isi_str_str {i : Str} (q : Q (.bl true) H) : rIsiU K [.str i, .ty "str"] H Q := r_isi (.base (.str i)) (by decide +kernel) q
theorem r_max2 {i j : Int} (q : Q (.int (if j > i then j else i)) H) : rMaxU K [.int i, .int j] H Q := .inl ⟨i, j, rfl, q⟩
theorem r_min2 {i j : Int} (q : Q (.int (if j < i then j else i)) H) : rMinU K [.int i, .int j] H Q := .inl ⟨i, j, rfl, q⟩
theorem r_inti {i : Int} (q : Q (.int i) H) : rInt [.int i] H Q := .inl (.inl ⟨i, rfl, q⟩)
theorem r_intb {k : Bool} (q : Q (.int (if k then 1 else 0)) H) : rInt [.bl k] H Q := .inl (.inr ⟨k, rfl, q⟩)
theorem r_append {p : Addr} {xs : List V} {y : V} (h : H p = some (.lst xs)) (l : xs.length < sizeLine) (q : Q .non (upd H p (.lst (xs ++ [y])))) : rAppend (.ref p) [y] H Q := ⟨p, xs, y, rfl, rfl, h, l, q⟩
theorem r_sum {p : Addr} {ns : List Int} (h : SqL K H p (ns.map V.int)) (q : Q (.int ns.sum) H) : rSum K [.ref p] H Q := ⟨p, ns, rfl, h, q⟩
/-- a method on a tracked list -/
theorem tyL {p : Addr} {xs : List V} (h : H p = some (.lst xs)) : tyV K "list" (.ref p) H := .inl ⟨rfl, _, .inl (.inl h)⟩
end
/-! ### shifts of one -/
theorem CShl_one {j : Int} (h0 : 0 ≤ j) (h : j ≤ 100000) : CShl 1 j := by
  obtain ⟨k, rfl⟩ := Int.eq_ofNat_of_zero_le h0
  exact shl_ok (n := 1) (by decide) (by omega)
theorem CShl_nat {b n : Nat} {j : Int} (hb : b < 2 ^ n) (h0 : 0 ≤ j) (h : n + j.toNat ≤ 100000) : CShl (b : Int) j := by
  obtain ⟨k, rfl⟩ := Int.eq_ofNat_of_zero_le h0
  exact shl_ok (n := n) (by rw [Int.natAbs_natCast]; exact hb) (by omega)
/-! ### naturals as ints -/
def nz (l : List Nat) : List Int := l.map fun i : Nat => (i : Int)
theorem nz_app (l m : List Nat) : nz (l ++ m) = nz l ++ nz m := by unfold nz; rw [List.map_append]
theorem nz_len (l : List Nat) : (nz l).length = l.length := by unfold nz; rw [List.length_map]
theorem nzv_len (l : List Nat) : ((nz l).map V.int).length = l.length := by rw [List.length_map, nz_len]
theorem nz_get {l : List Nat} {i : Nat} {x : V} (h : ((nz l).map V.int)[i]? = some x) : ∃ n : Nat, l[i]? = some n ∧ x = .int (n : Int) := by
  unfold nz at h
  rw [List.getElem?_map, List.getElem?_map] at h
  cases e : l[i]? with
  | none => rw [e] at h; cases h
  | some n =>
    rw [e] at h
    exact ⟨n, rfl, (Option.some.inj h).symm⟩
/-! ### the fields of a sack -/
theorem lk1 {k : Str} {v : V} {r : List (Str × V)} : List.lookup k ((k, v) :: r) = some v := by
  have e : (k == k) = true := beq_self_eq_true k
  simp only [List.lookup, e]
theorem lk0 {k g : Str} {v : V} (h : (k == g) = false) : List.lookup k [(g, v)] = none := by
  simp only [List.lookup, h]
def SackK (c : Cs) (H : Hp) (s : Addr) (k : Kd) (b : Nat) : Prop := ∃ dx, H s = some (.ins (c.kd k) dx [("bits", .int (b : Int))])
theorem SackK.same {c : Cs} {H H' : Hp} {s : Addr} {k : Kd} {b : Nat} (h : SackK c H s k b) (e : Same H H') : SackK c H' s k b := by
  obtain ⟨dx, h⟩ := h
  exact ⟨dx, e _ _ h⟩
/-! ### calls within a try's body: what leaves them may ask for the slots -/
section
variable {X : Cx} {k j : Nat} {C : Addr} {sp : Sp} {dvs : List V} {W : WX} {x m : Str} {p pos apos : Pos} {e o : Expr} {es : List Expr} {ta : TE} {t : TA}
/-- the context of the try's body takes what W says -/
abbrev WO (X : Cx) (W : WX) : Prop := ∀ σ, PassesAt (L2N.CX X.prog X.w) X σ (WE W σ)
theorem wo_of (tk : L2N.Takes X W) : WO X W := L2N.passAt tk
def tCallW (sp : Sp) (dvs : List V) (W : WX) (t : TA) : TE := fun σ H Q => t σ H fun vs H1 => sp (vs ++ dvs) H1 Q (WE W σ)
def tMethW (fam : Addr → Sp → Prop) (m : Str) (dvs : List V) (W : WX) (ta : TE) (t : TA) : TE := fun σ H Q => ta σ H fun x H1 => ∃ a C dx fs sp, x = .ref a ∧ H1 a = some (.ins C dx fs) ∧ fam C sp ∧ fs.lookup m = none ∧
  t σ H1 fun vs H2 => sp (x :: (vs ++ dvs)) H2 Q (WE W σ)
theorem runW {ds : List Value} {ps : List Str} {f : Addr} {fd : FuncData} {pins : List (Addr × Obj)} {σ : L2.St} {H : Hp} {s : Shared} {Q : VK} {us : List Value} {vs : List V} (F : FnOk X.prog X.w X.K X.mg X.base (L2N.CX X.prog X.w) k f fd ps sp)
    (hr : Room k X.A) (b : Binds X.K fd ps ds) (v : Vals dvs ds) (hx : WO X W) (I : Inv X pins σ H s) (r : Vals vs us) (h : sp (vs ++ dvs) H Q (WE W σ)) :
    wpAny (model X.prog X.w) X.A (call (.ref f) us) (EP X pins σ Q) X.xe s := by
  have rr := r.append v
  have n : (us ++ ds).length = ps.length := rr.length.symm.trans (F.len _ _ _ _ h)
  apply wpAny_call
  refine codeAny_mono (F.run _ _ _ _ ⟨us, []⟩ _ _ _ _ hr I.env0 (b s us I.kIn n) rr h) ?_
  rintro (e | fl) s1 hq
  · exact hx σ pins H s e s1 I hq
  · cases fl with
    | ret u => exact I.after hq
    | _ => exact hq.elim
theorem pe_mW {fam : Addr → Sp → Prop} {pl : Sem Bool} (c : ∀ C sp, fam C sp → Met X.prog X.w X.K X.mg X.base k C m sp dvs) (hr : Room j X.A) (hk : k ≤ j) (hx : WO X W) (he : PE X o ta) (ha : PA X (e :: es) t)
    (hst : starEach (e :: es) X.env = (false, eval e X.env) :: starEach es X.env := by rfl) (hpl : (backTo pos (starEach es X.env)).any (·.1) = false := by rfl)
    (ht : eval (.Call (.Attribute o m apos) (e :: es) [] pos) X.env = (do
      let ov ← eval o X.env
      standAt apos.atName
      let (f, first) ← holding [ov] (getMethod ov m pl)
      callWith pos f first (backTo pos (starEach (e :: es) X.env)) (backToKw pos (keywordEach [] X.env))) := by rfl) :
    PE X (.Call (.Attribute o m apos) (e :: es) [] pos) (tMethW fam m dvs W ta t) := by
  constructor
  intro pins s σ H Q I h
  refine PySem.W.methodCall_KW (pl := pl) (thn (he.run pins s σ H _ I h) ?_) ht
  rintro u s1 ⟨x, H1, I1, rx, a, C, dx, fs, sp, rfl, ea, fm, l, q⟩
  obtain ⟨f, fd, ps, ds, cl, me, F, b, v⟩ := (c C sp fm).ex
  obtain rfl : u = Value.ref a := rx
  apply getmeth_ok I1 ea cl me l
  refine PySem.W.callWith_K (first := [.ref a]) (h₀ := X.base) I.ok.mod.kin me.kp (thn (ha.run pos pins s1 σ H1 _ I1 q) ?_) hst hpl
  rintro us s2 ⟨vs, H2, I2, r, q2⟩
  exact ⟨I2.kIn, runW (us := .ref a :: us) (vs := .ref a :: vs) F (hr.mono hk) b v hx I2 (.cons rfl r) q2⟩
theorem w_callW {σ : L2.St} {H : Hp} {Q : VK} (h : t σ H fun vs H1 => sp (vs ++ dvs) H1 Q (WE W σ)) : tCallW sp dvs W t σ H Q := h
theorem w_methW {fam : Addr → Sp → Prop} {σ : L2.St} {H : Hp} {Q : VK} (h : ta σ H fun x H1 => ∃ a C dx fs sp, x = .ref a ∧ H1 a = some (.ins C dx fs) ∧ fam C sp ∧ fs.lookup m = none ∧ t σ H1 fun vs H2 => sp (x :: (vs ++ dvs)) H2 Q (WE W σ)) : tMethW fam m dvs W ta t σ H Q := h
end
theorem passLN {X : Cx} : Passes (L2N.CX X.prog X.w) X E0 := by
  intro pins σ H s e s' _ h
  obtain ⟨_, _, _, _, _, _, _, _, _, _, _, _, z⟩ := (show L2N.CX X.prog X.w X.stack H s E0 e s' from h)
  exact z.elim
/-! ### isinstance of what is caught -/
/-- isinstance(e, c), e the exception at a, of class cls -/
def rIsX (K : PySem.W.Frag) (cls : Value) (dd : Option Addr) (a : Addr) : List V → Hp → VK → Prop := fun xs H Q => ∃ D, cls = .ref D ∧ dd = none ∧ ExcC K D ∧ rIsE K D a xs H Q
/-- what is known of the object that is caught -/
def Told (cls : Value) (dd : Option Addr) (p : Addr × Obj) : Prop := Zc cls dd p.2 ∧ ∃ vs, p.2.data = .fields vs
theorem u_isx {X : Cx} {p : Addr × Obj} {cls : Value} {dd : Option Addr} (hp : p ∈ X.pn) (hz : Told cls dd p) : CallR X (.builtin "isinstance") (rIsX X.K cls dd p.1) := by
  rintro pins s σ H xs us Q I r ⟨D, rfl, rfl, C, c, cv, b, rfl, hcv, e, q⟩
  obtain ⟨⟨z1, z2⟩, vs, hv⟩ := hz
  obtain ⟨a, ⟨oc, od, oda, osl⟩⟩ := p
  dsimp only at z1 z2 hv
  subst z1 z2 hv
  cases r with | cons rx rr => cases rr with | cons rt rr =>
  cases rr
  cases rx
  cases hcv _ rt
  have J : PySem.W.InstAt s.heap a _ D none := ⟨(I.pin _ (List.mem_append.mpr (.inl hp))).1, rfl, rfl, trivial⟩
  refine PySem.W.kia_one (PySem.W.handS_kitx_exc C.hg C.hk C.hs C.hd C.ha C.hn C.ht C.hm) I.kIn J e (fun z => by cases z) ?_
  exact fun tk => ⟨.bl b, H, I.kept (t' := tk) fun _ _ z => z, rfl, q⟩
theorem r_isx {K : PySem.W.Frag} {D a C : Addr} {H : Hp} {Q : VK} {b : Bool} (c : ExcC K D) (e : PySem.W.kitOne K (.ref D) (.ref C) = some b) (q : Q (.bl b) H) : rIsX K (.ref D) none a [.ref a, .ref C] H Q :=
  ⟨D, rfl, rfl, c, .ref C, .ref C, b, rfl, fun u h => h, e, q⟩
theorem r_isxT {K : PySem.W.Frag} {D a : Addr} {t : String} {H : Hp} {Q : VK} {b : Bool} (c : ExcC K D) (e : PySem.W.kitOne K (.ref D) (.type t) = some b) (q : Q (.bl b) H) : rIsX K (.ref D) none a [.ref a, .ty t] H Q :=
  ⟨D, rfl, rfl, c, .ty t, .type t, b, rfl, fun u h => h, e, q⟩
/-! ### a def that is called while an exception is handled, with that exception -/
structure FnP (P : Program) (w : World) (K : PySem.W.Frag) (mg : Str → Option Value) (base : Heap) (k : Nat) (f : Addr) (fd : FuncData) (ps : List Str) (sp : Value → Option Addr → Addr → Sp) : Prop where
  len : ∀ cls dd a vs H Q E, sp cls dd a vs H Q E → vs.length = ps.length
  run : ∀ (A : Around) (outer : List Env) (s : Shared) (H : Hp) (args : Args) (us : List Value) (vs : List V) (Q : VK) (E : XK) (p : Addr × Obj) (cls : Value) (dd : Option Addr), L2H.RoomH k A → L2H.Hot1 A p → L2H.PinOk outer H s p → Told cls dd p →
    Env0 P w K mg base A outer s H → BindsTo s fd args (ps.zip us) → Vals vs us → sp cls dd p.1 vs H Q E → codeAny (model P w) A (.call (.ref f) args) (CR (L2N.CX P w) outer P w H s Q E) s
theorem FnP.of {P : Program} {w : World} {K : PySem.W.Frag} {mg : Str → Option Value} {base : Heap} {k : Nat} {x qual : Str} {params : Arguments} {body : List Stmt} {scope : Scope} {dvs : List V} {kws : List (Str × V)} {f : Addr} {fd : FuncData} {N ps : List Str} {sp : Value → Option Addr → Addr → Sp}
    (F : FunD K x qual params body scope dvs kws f fd) (S : FnScope N ps scope) (len : ∀ cls dd a vs H Q E, sp cls dd a vs H Q E → vs.length = ps.length)
    (hb : ∀ (cdv : Value) (A : Around) (outer : List Env) (s : Shared) (H : Hp) (vs : List V) (Q : VK) (E : XK) (p : Addr × Obj) (cls : Value) (dd : Option Addr), L2H.Hot1 A p → L2H.RoomH k (A.deeper (envOfC qual scope s.heap.objs.size f cdv)) → Told cls dd p → sp cls dd p.1 vs H Q E →
      ∃ t, PSs (L2H.cxH (L2N.CX P w) P w K mg base N qual scope f cdv A outer s H E p) body t ∧ t { nx := fun _ H' => Q .non H', rt := Q } (start N vs) H) : FnP P w K mg base (k + 1) f fd ps sp := by
  obtain ⟨oc, od, dV, kV, doc, pm, an, cdv, ct, osl, rfl, lk, hcd, _, _⟩ := F.ex
  constructor
  · exact len
  intro A outer s H args us vs Q E p cls dd hr hot hpin hz e0 bt r hs
  obtain ⟨t, ht, hq⟩ := hb cdv A outer s H vs Q E p cls dd hot (hr.deeper _) hz hs
  have KX : K.In s.heap := e0.mod.kin.keeps fun b o e => (e0.bs b o e).1
  apply codeAny_call_function hr.depth (KX _ _ lk) rfl S.co S.gen rfl (PySem.W.codeRec_of KX hcd)
  apply bt
  refine wpAny_newFunctionEnv_cells S.kind ?_ ?_
  · rintro ⟨n, v⟩ hy
    exact (S.par n (List.of_mem_zip hy).1).imp id fun q => ⟨q, PySem.W.cellsFrom_some _ _ _ (.inl q)⟩
  rintro env rfl s1 y
  have I := L2H.inv_startH (CX := L2N.CX P w) (E := E) S hpin e0 (len _ _ _ _ _ _ _ hs) r y
  refine ⟨(e0.mod.nolimit.keeps fun b o e => (e0.bs b o e).1 : s.heap.NoLimit).keeps y.toInCall.keep, codeAny_func ?_⟩
  refine wpAny_mono (ht.run [] s1 (start N vs) H _ I hq) ?_ fun _ _ z => z
  rintro (_ | _ | _ | u) s2 z
  · obtain ⟨σ, H2, J, q⟩ := z
    exact ⟨.non, H2, J.os, J.bare, J.base, J.hok, rfl, q⟩
  all_goals first | (obtain ⟨v, σ, H2, J, rv, q⟩ := z; exact ⟨v, H2, J.os, J.bare, J.base, J.hok, rv, q⟩) | (obtain ⟨_, _, _, q⟩ := z; exact q.elim)
structure CalP (P : Program) (w : World) (K : PySem.W.Frag) (mg : Str → Option Value) (base : Heap) (k : Nat) (x : Str) (sp : Value → Option Addr → Addr → Sp) : Prop where
  ex : ∃ (f : Addr) (fd : FuncData) (ps : List Str), FnP P w K mg base k f fd ps sp ∧ mg x = some (.ref f) ∧ PySem.W.keepIn K (.ref f) = true ∧ Binds K fd ps []
def tCallP (sp : Value → Option Addr → Addr → Sp) (cls : Value) (dd : Option Addr) (a : Addr) (t : TA) : TE := fun σ H Q => t σ H fun vs H1 => sp cls dd a vs H1 Q E0
theorem hot_of {A : Around} {a : Addr} {oe : Obj} {cls : Value} {dd : Option Addr} (z : L2N.Zn cls dd oe) (h : ∃ vs, oe.data = .fields vs) : L2H.Hot1 (A.mark (some (.ref a))) (a, oe) := by
  obtain ⟨vs, e⟩ := h
  exact ⟨rfl, vs, e, z.2.2 vs e⟩
theorem told_of {a : Addr} {oe : Obj} {cls : Value} {dd : Option Addr} (z : L2N.Zn cls dd oe) (h : ∃ vs, oe.data = .fields vs) : Told cls dd (a, oe) := ⟨z.zc, h⟩
theorem pe_cP {X : Cx} {k j : Nat} {sp : Value → Option Addr → Addr → Sp} {x : Str} {q pos : Pos} {e : Expr} {es : List Expr} {t : TA} {p : Addr × Obj} {cls : Value} {dd : Option Addr} (c : CalP X.prog X.w X.K X.mg X.base k x sp) (hr : L2H.RoomH j X.A) (hk : k ≤ j) (hg : Gl X x)
    (hp : p ∈ X.pn) (hot : L2H.Hot1 X.A p) (hz : Told cls dd p) (ha : PA X (e :: es) t) (hdb : (x == ("__debug__" : Str)) = false := by decide)
    (he : starEach (e :: es) X.env = (false, eval e X.env) :: starEach es X.env := by rfl) (hpl : (backTo pos (starEach es X.env)).any (·.1) = false := by rfl) : PE X (.Call (.Name x q) (e :: es) [] pos) (tCallP sp cls dd p.1 t) := by
  obtain ⟨f, fd, ps, F, hm, kp, b⟩ := c.ex
  constructor
  intro pins s σ H Q I h
  apply wpAny_Call_Name_kw (ld_glob I hg hm ?_ hdb)
  refine PySem.W.callWith_K (h₀ := X.base) I.ok.mod.kin kp (thn (ha.run pos pins s σ H _ I h) ?_) he hpl
  rintro us s1 ⟨vs, H1, I1, r, hs⟩
  refine ⟨I1.kIn, ?_⟩
  have n : (us ++ []).length = ps.length := by rw [List.append_nil, ← r.length]; exact F.len _ _ _ _ _ _ _ hs
  have bt := b s1 us I1.kIn n
  rw [List.append_nil] at bt
  have P1 := I1.pin p (List.mem_append_left _ hp)
  have hpin : L2H.PinOk X.stack H1 s1 p := by
    refine ⟨P1.1, P1.2.1, fun hm => ?_, P1.2.2.2.2⟩
    rcases List.mem_cons.mp (I1.stkSub p.1 hm) with z | z
    · exact P1.2.2.1 z
    · exact P1.2.2.2.1 z
  apply wpAny_call
  refine codeAny_mono (F.run _ _ _ _ ⟨us, []⟩ _ _ _ _ p cls dd (hr.mono hk) hot hpin hz I1.env0 bt r hs) ?_
  rintro (u | fl) s2 hq
  · obtain ⟨_, _, _, _, _, _, _, _, _, _, _, _, z⟩ := (show L2N.CX X.prog X.w X.stack H1 s1 E0 u s2 from hq)
    exact z.elim
  · cases fl with
    | ret u => exact I1.after hq
    | _ => exact hq.elim
theorem w_callP {σ : L2.St} {H : Hp} {Q : VK} {sp : Value → Option Addr → Addr → Sp} {cls : Value} {dd : Option Addr} {a : Addr} {t : TA} (h : t σ H fun vs H1 => sp cls dd a vs H1 Q E0) : tCallP sp cls dd a t σ H Q := h
/-! ### try .. except x as n -/
def tTry (K : PySem.W.Frag) (c : Value) (i : Nat) (ts : Addr → Value → Option Addr → TS) (Wout : WX) (tb : WX → TS) : TS := fun D σ H => tb (wAs K c i ts Wout D) D σ H
theorem w_try {K : PySem.W.Frag} {c : Value} {i : Nat} {ts : Addr → Value → Option Addr → TS} {Wout : WX} {tb : WX → TS} {D : Ends} {σ : L2.St} {H : Hp} (h : tb (wAs K c i ts Wout D) D σ H) : tTry K c i ts Wout tb D σ H := h
/-- it is caught -/
theorem we_yes {K : PySem.W.Frag} {c cls : Value} {d : Option Addr} {i : Nat} {ts : Addr → Value → Option Addr → TS} {Wout : WX} {D : Ends} {σ : L2.St} {H : Hp} (e : PySem.W.exmOne K cls c = some true)
    (h : ∀ a, H a = none → ts a cls d { nx := fun σ' H' => D.nx (σ'.set i none) H', rt := D.rt, bk := fun σ' H' => D.bk (σ'.set i none) H', ct := fun σ' H' => D.ct (σ'.set i none) H' } (σ.set i (some (.ref a))) H) : WE (wAs K c i ts Wout D) σ cls d H :=
  ⟨true, e, fun _ => h, fun z => by cases z⟩
theorem ps_tryT {X : Cx} {x n : Str} {c : Value} {i : Nat} {body suite : List Stmt} {b₀ : Stmt} {np pos pos' : Pos} {tb : WX → TS} {ts : Addr → Value → Option Addr → TS} {Wout : WX} (hs : X.stack = X.env :: X.outer) (hf : X.env.frame = some X.env.locals) (hN : X.N.Nodup)
    (hi : X.N[i]? = some n) (hln : X.env.kindOf n = some .local) (hc : Names X x c) (tk : L2N.Takes X Wout)
    (hb : ∀ (W : WX) (pn : List (Addr × Obj)) (xe : Value → Shared → Prop), L2N.Takes (X.tr pn xe) W → PassesOwn (model X.prog X.w) X.A X.env xe → PSs (X.tr pn xe) body (tb W))
    (hu : ∀ (a : Addr) (oe : Obj) (cls : Value) (d : Option Addr) (pn : List (Addr × Obj)), L2N.Zn cls d oe → (∃ vs, oe.data = .fields vs) → PSs (X.suite a ((a, oe) :: pn)) (b₀ :: suite) (ts a cls d)) :
    PS X (.Try body [.ExceptHandler (some (.Name x np)) (some n) (b₀ :: suite) pos'] [] [] pos) (tTry X.K c i ts Wout tb) := L2N.ps_try_as hs hf hN hi hln hc tk hb hu
def rPow : R2 := rI CPow fun i j => .int (i ^ j.toNat)
theorem u_pow {X : Cx} : OpR X (binaryOp .Pow) rPow := op_pow
theorem r_pow {i j : Int} {H : Hp} {Q : VK} (h : CPow i j) (q : Q (.int (i ^ j.toNat)) H) : rPow (.int i) (.int j) H Q := ⟨i, j, rfl, rfl, h, q⟩
/-! ### the errors' classes -/
inductive Ek | number | stretch | rank | text
  deriving DecidableEq
def Cs.ex (c : Cs) : Ek → Addr
  | .number => c.eNoNumber
  | .stretch => c.eNoStretch
  | .rank => c.eNoRank
  | .text => c.eNoText
structure GoodE (c : Cs) : Prop where
  x : ∀ k, ExcC c.K (c.ex k)
  own : ∀ k k', PySem.W.kitOne c.K (.ref (c.ex k)) (.ref (c.ex k')) = some (decide (k = k'))
  val : ∀ k, PySem.W.kitOne c.K (.ref (c.ex k)) (.type "ValueError") = some true
  got : ∀ k, PySem.W.exmOne c.K (.ref (c.ex k)) (.ref c.eSackError) = some true
/-- what the four marks are -/
def marksV (k : Ek) : List V := [.bl (decide (k = .number)), .bl (decide (k = .stretch)), .bl (decide (k = .rank)), .bl (decide (k = .text))]
/-! ### how many bits, by counting -/
def cnt (N K : Nat) : Nat := ((List.range K).filter N.testBit).length
theorem cnt_succ (N K : Nat) : cnt N (K + 1) = cnt N K + if N.testBit K = true then 1 else 0 := by
  unfold cnt
  rw [List.range_succ, List.filter_append, List.length_append]
  by_cases h : N.testBit K = true
  · rw [if_pos h, List.filter_cons, if_pos h]; rfl
  · rw [if_neg h, List.filter_cons, if_neg h]; rfl
theorem popc_cnt {N K : Nat} (h : N < 2 ^ K) : popc N = cnt N K := by unfold popc cnt; rw [bitsOf_eq h]
theorem lt_pow_log (N : Nat) : N < 2 ^ (N.log2 + 1) := Nat.lt_log2_self
theorem lt_pow_mono {N a b : Nat} (h : N < 2 ^ a) (e : a ≤ b) : N < 2 ^ b := Nat.lt_of_lt_of_le h (Nat.pow_le_pow_right (by decide) e)
/-- a bound for some at once -/
theorem all_lt (a b c d : Nat) : ∃ K, a < 2 ^ K ∧ b < 2 ^ K ∧ c < 2 ^ K ∧ d < 2 ^ K := by
  refine ⟨a.log2 + 1 + (b.log2 + 1) + (c.log2 + 1) + (d.log2 + 1), lt_pow_mono (lt_pow_log a) (by omega), lt_pow_mono (lt_pow_log b) (by omega), lt_pow_mono (lt_pow_log c) (by omega), lt_pow_mono (lt_pow_log d) (by omega)⟩
/-- counts that agree bit by bit -/
theorem popc_sum {a b c d : Nat} (h : ∀ i, ((if a.testBit i = true then 1 else 0) + (if b.testBit i = true then 1 else 0) : Nat) = (if c.testBit i = true then 1 else 0) + (if d.testBit i = true then 1 else 0)) : popc a + popc b = popc c + popc d := by
  obtain ⟨K, ha, hb, hc, hd⟩ := all_lt a b c d
  rw [popc_cnt ha, popc_cnt hb, popc_cnt hc, popc_cnt hd]
  clear ha hb hc hd
  induction K with
  | zero => rfl
  | succ K ih =>
    rw [cnt_succ, cnt_succ, cnt_succ, cnt_succ]
    have := h K
    omega
theorem popc_mul (x k : Nat) : popc (x * 2 ^ k) = popc x := by
  unfold popc
  have e : bitsOf (x * 2 ^ k) = (bitsOf x).map (k + ·) := by
    refine sorted_ext (bitsOf_sorted _) ?_ fun i => ?_
    · rw [List.pairwise_map]
      exact (bitsOf_sorted x).imp fun h => by omega
    · rw [mem_bitsOf, Nat.testBit_mul_two_pow, List.mem_map, Bool.and_eq_true, decide_eq_true_eq]
      constructor
      · rintro ⟨h1, h2⟩
        exact ⟨i - k, mem_bitsOf.mpr h2, by omega⟩
      · rintro ⟨j, hj, rfl⟩
        exact ⟨by omega, by rw [Nat.add_sub_cancel_left]; exact mem_bitsOf.mp hj⟩
  rw [e, List.length_map]
theorem popc_or {a b : Nat} (h : ∀ i, a.testBit i = true → b.testBit i = false) : popc (a ||| b) = popc a + popc b := by
  have := @popc_sum (a ||| b) 0 a b fun i => by
    rw [Nat.testBit_or, Nat.zero_testBit]
    have := h i
    cases x : a.testBit i <;> cases y : b.testBit i <;> simp_all
  rw [popc_zero] at this
  exact this
/-! ### the sack at an upper part -/
def sl (N u : Nat) : Nat := N / 2 ^ (256 * u) % 2 ^ 256
theorem sl_lt (N u : Nat) : sl N u < 2 ^ 256 := Nat.mod_lt _ (Nat.two_pow_pos _)
theorem sl_bit (N u i : Nat) : (sl N u).testBit i = (decide (i < 256) && N.testBit (256 * u + i)) := by
  unfold sl
  rw [Nat.testBit_mod_two_pow, Nat.testBit_div_two_pow, Nat.add_comm i]
theorem sl_zero (u : Nat) : sl 0 u = 0 := by unfold sl; simp
/-- the bits at an upper part are others -/
def setSl (N u b : Nat) : Nat := N ^^^ ((sl N u ^^^ b) * 2 ^ (256 * u))
theorem setSl_bit {N u b : Nat} (hb : b < 2 ^ 256) (j : Nat) : (setSl N u b).testBit j = if j / 256 = u then b.testBit (j % 256) else N.testBit j := by
  unfold setSl
  rw [Nat.testBit_xor, Nat.testBit_mul_two_pow, Nat.testBit_xor, sl_bit]
  by_cases c : j / 256 = u
  · rw [if_pos c]
    have e1 : 256 * u ≤ j := by omega
    have e2 : j - 256 * u = j % 256 := by omega
    have e3 : 256 * u + j % 256 = j := by omega
    rw [e2, e3, decide_eq_true e1, decide_eq_true (show j % 256 < 256 by omega)]
    cases N.testBit j <;> cases b.testBit (j % 256) <;> rfl
  · rw [if_neg c]
    by_cases e1 : 256 * u ≤ j
    · have e2 : ¬ j - 256 * u < 256 := by omega
      have e3 : b.testBit (j - 256 * u) = false := Nat.testBit_lt_two_pow (lt_pow_mono hb (by omega))
      rw [decide_eq_false e2, e3]; simp
    · rw [decide_eq_false e1]; simp
theorem setSl_sl {N u b v : Nat} (hb : b < 2 ^ 256) : sl (setSl N u b) v = if v = u then b else sl N v := by
  apply Nat.eq_of_testBit_eq
  intro i
  rw [sl_bit, setSl_bit hb]
  by_cases hi : i < 256
  · have e1 : (256 * v + i) / 256 = v := by omega
    have e2 : (256 * v + i) % 256 = i := by omega
    rw [e1, e2, decide_eq_true hi, Bool.true_and]
    by_cases c : v = u
    · rw [if_pos c, if_pos c]
    · rw [if_neg c, if_neg c, sl_bit, decide_eq_true hi, Bool.true_and]
  · rw [decide_eq_false hi, Bool.false_and]
    have h2 : (if v = u then b else sl N v) < 2 ^ 256 := by
      split
      · exact hb
      · exact sl_lt _ _
    exact (Nat.testBit_lt_two_pow (lt_pow_mono h2 (by omega))).symm
theorem setSl_popc {N u b : Nat} (hb : b < 2 ^ 256) : popc (setSl N u b) + popc (sl N u) = popc N + popc b := by
  rw [← popc_mul (sl N u) (256 * u), ← popc_mul b (256 * u)]
  refine popc_sum fun j => ?_
  rw [setSl_bit hb, Nat.testBit_mul_two_pow, Nat.testBit_mul_two_pow, sl_bit]
  by_cases c : j / 256 = u
  · rw [if_pos c]
    have e1 : 256 * u ≤ j := by omega
    have e2 : j - 256 * u = j % 256 := by omega
    have e3 : 256 * u + j % 256 = j := by omega
    rw [e2, e3, decide_eq_true e1, decide_eq_true (show j % 256 < 256 by omega)]
    cases N.testBit j <;> cases b.testBit (j % 256) <;> rfl
  · rw [if_neg c]
    by_cases e1 : 256 * u ≤ j
    · have e2 : ¬ j - 256 * u < 256 := by omega
      have e3 : b.testBit (j - 256 * u) = false := Nat.testBit_lt_two_pow (lt_pow_mono hb (by omega))
      rw [decide_eq_false e2, e3]; simp
    · rw [decide_eq_false e1]; simp
/-- all numbers lie below 256 * 65536 -/
def In24 (N : Nat) : Prop := ∀ i, N.testBit i = true → i < 16777216
theorem in24_zero : In24 0 := fun i h => by simp at h
theorem sl_ne {N u : Nat} : sl N u ≠ 0 ↔ ∃ i, i < 256 ∧ N.testBit (256 * u + i) = true := by
  constructor
  · intro h
    obtain ⟨i, hi⟩ := Nat.exists_testBit_of_ne_zero h
    rw [sl_bit, Bool.and_eq_true, decide_eq_true_eq] at hi
    exact ⟨i, hi⟩
  · rintro ⟨i, h1, h2⟩ e
    have : (sl N u).testBit i = true := by rw [sl_bit, h2, decide_eq_true h1]; rfl
    rw [e] at this; simp at this
theorem In24.up {N u : Nat} (h : In24 N) (hu : sl N u ≠ 0) : u < 65536 := by
  obtain ⟨i, h1, h2⟩ := sl_ne.mp hu
  have := h _ h2
  omega
theorem In24.set {N u b : Nat} (h : In24 N) (hu : u < 65536) (hb : b < 2 ^ 256) : In24 (setSl N u b) := by
  intro i hi
  rw [setSl_bit hb] at hi
  by_cases c : i / 256 = u
  · omega
  · rw [if_neg c] at hi; exact h i hi
theorem setSl_or {N n : Nat} : setSl N (n / 256) (sl N (n / 256) ||| 2 ^ (n % 256)) = N ||| 2 ^ n := by
  have hb : sl N (n / 256) ||| 2 ^ (n % 256) < 2 ^ 256 := Nat.or_lt_two_pow (sl_lt _ _) (Nat.pow_lt_pow_right (by decide) (by omega))
  apply Nat.eq_of_testBit_eq
  intro j
  rw [setSl_bit hb, Nat.testBit_or, Nat.testBit_or, Nat.testBit_two_pow, Nat.testBit_two_pow, sl_bit]
  by_cases c : j / 256 = n / 256
  · rw [if_pos c, decide_eq_true (show j % 256 < 256 by omega), Bool.true_and]
    have e3 : 256 * (n / 256) + j % 256 = j := by omega
    rw [e3]
    have : decide (n % 256 = j % 256) = decide (n = j) := by
      rw [decide_eq_decide]; omega
    rw [this]
  · rw [if_neg c]
    have : ¬ n = j := fun e => c (by rw [e])
    rw [decide_eq_false this]; simp
theorem setSl_andn {N n : Nat} : setSl N (n / 256) (andn (sl N (n / 256)) (2 ^ (n % 256))) = andn N (2 ^ n) := by
  have hb : andn (sl N (n / 256)) (2 ^ (n % 256)) < 2 ^ 256 := by
    apply Nat.lt_pow_two_of_testBit
    intro i hi
    rw [andn_bit, Nat.testBit_lt_two_pow (lt_pow_mono (sl_lt _ _) hi)]; rfl
  apply Nat.eq_of_testBit_eq
  intro j
  rw [setSl_bit hb, andn_bit, andn_bit, Nat.testBit_two_pow, Nat.testBit_two_pow, sl_bit]
  by_cases c : j / 256 = n / 256
  · rw [if_pos c, decide_eq_true (show j % 256 < 256 by omega), Bool.true_and]
    have e3 : 256 * (n / 256) + j % 256 = j := by omega
    rw [e3]
    have : decide (n % 256 = j % 256) = decide (n = j) := by
      rw [decide_eq_decide]; omega
    rw [this]
  · rw [if_neg c]
    have : ¬ n = j := fun e => c (by rw [e])
    rw [decide_eq_false this]; simp
/-! ### the upper parts -/
def upsOf (N : Nat) : List Nat := (List.range 65536).filter fun u => decide (sl N u ≠ 0)
theorem mem_ups {N u : Nat} (h : In24 N) : u ∈ upsOf N ↔ sl N u ≠ 0 := by
  unfold upsOf
  rw [List.mem_filter, List.mem_range, decide_eq_true_eq]
  exact ⟨fun x => x.2, fun x => ⟨h.up x, x⟩⟩
theorem ups_sorted (N : Nat) : (upsOf N).Pairwise (· < ·) := List.Pairwise.filter _ (range_sorted _)
theorem ups_ne {N u : Nat} (h : u ∈ upsOf N) : sl N u ≠ 0 := of_decide_eq_true (List.mem_filter.mp h).2
theorem ups_len (N : Nat) : (upsOf N).length ≤ 65536 := Nat.le_trans (List.length_filter_le _ _) (by rw [List.length_range]; exact Nat.le_refl _)
/-- a list that rises and has just those -/
theorem ups_eq {N : Nat} {l : List Nat} (h : In24 N) (hs : l.Pairwise (· < ·)) (hm : ∀ u, u ∈ l ↔ sl N u ≠ 0) : l = upsOf N := sorted_ext hs (ups_sorted N) fun u => by rw [hm, mem_ups h]
/-- all numbers, sack by sack -/
def flat (N : Nat) (l : List Nat) : List Nat := l.flatMap fun u => (bitsOf (sl N u)).map (256 * u + ·)
theorem flat_snoc (N : Nat) (l : List Nat) (u : Nat) : flat N (l ++ [u]) = flat N l ++ (bitsOf (sl N u)).map (256 * u + ·) := by
  unfold flat
  rw [List.flatMap_append, List.flatMap_cons, List.flatMap_nil, List.append_nil]
theorem mem_flat {N x : Nat} {l : List Nat} : x ∈ flat N l ↔ x / 256 ∈ l ∧ N.testBit x = true := by
  unfold flat
  rw [List.mem_flatMap]
  constructor
  · rintro ⟨u, hu, hx⟩
    obtain ⟨i, hi, rfl⟩ := List.mem_map.mp hx
    rw [mem_bitsOf, sl_bit, Bool.and_eq_true, decide_eq_true_eq] at hi
    have : (256 * u + i) / 256 = u := by omega
    rw [this]
    exact ⟨hu, hi.2⟩
  · rintro ⟨hu, hx⟩
    refine ⟨x / 256, hu, List.mem_map.mpr ⟨x % 256, ?_, by omega⟩⟩
    rw [mem_bitsOf, sl_bit, decide_eq_true (show x % 256 < 256 by omega), Bool.true_and]
    have : 256 * (x / 256) + x % 256 = x := by omega
    rw [this]; exact hx
theorem flat_sorted {N : Nat} : ∀ {l : List Nat}, l.Pairwise (· < ·) → (flat N l).Pairwise (· < ·)
  | [], _ => List.Pairwise.nil
  | u :: l, h => by
    obtain ⟨h1, h2⟩ := List.pairwise_cons.mp h
    show ((bitsOf (sl N u)).map (256 * u + ·) ++ flat N l).Pairwise (· < ·)
    refine List.pairwise_append.mpr ⟨?_, flat_sorted h2, fun x hx y hy => ?_⟩
    · rw [List.pairwise_map]
      exact (bitsOf_sorted _).imp fun h => by omega
    · obtain ⟨i, hi, rfl⟩ := List.mem_map.mp hx
      have := bitsOf_lt (sl_lt N u) hi
      have := h1 _ (mem_flat.mp hy).1
      omega
theorem flat_ups {N : Nat} (h : In24 N) : flat N (upsOf N) = bitsOf N := by
  refine sorted_ext (flat_sorted (ups_sorted N)) (bitsOf_sorted N) fun x => ?_
  rw [mem_flat, mem_bitsOf, mem_ups h, sl_ne]
  refine ⟨fun q => q.2, fun q => ⟨⟨x % 256, by omega, ?_⟩, q⟩⟩
  have : 256 * (x / 256) + x % 256 = x := by omega
  rw [this]; exact q
theorem flat_len (N : Nat) (l : List Nat) : (flat N l).length = (l.map fun u => popc (sl N u)).sum := by
  unfold flat
  rw [List.length_flatMap]
  congr 1
  apply List.map_congr_left
  intro u _
  rw [List.length_map]; rfl
theorem popc_ups {N : Nat} (h : In24 N) : ((upsOf N).map fun u => popc (sl N u)).sum = popc N := by rw [← flat_len, flat_ups h]; rfl
/-! ### a window -/
theorem win_sl {m w k : Nat} : sl (m * 2 ^ (256 * w)) (w + k) = sl m k := by
  apply Nat.eq_of_testBit_eq
  intro i
  rw [sl_bit, sl_bit, Nat.testBit_mul_two_pow]
  have e1 : 256 * w ≤ 256 * (w + k) + i := by omega
  have e2 : 256 * (w + k) + i - 256 * w = 256 * k + i := by omega
  rw [decide_eq_true e1, e2, Bool.true_and]
theorem win_low {m w u : Nat} (h : u < w) : sl (m * 2 ^ (256 * w)) u = 0 := by
  apply Nat.eq_of_testBit_eq
  intro i
  rw [sl_bit, Nat.testBit_mul_two_pow, Nat.zero_testBit]
  by_cases hi : i < 256
  · rw [decide_eq_false (show ¬ 256 * w ≤ 256 * u + i by omega)]; simp
  · rw [decide_eq_false hi]; rfl
theorem sl_far {m n k : Nat} (h : m < 2 ^ (256 * n)) (hk : n ≤ k) : sl m k = 0 := by
  apply Nat.eq_of_testBit_eq
  intro i
  rw [sl_bit, Nat.zero_testBit, Nat.testBit_lt_two_pow (lt_pow_mono h (by omega))]; simp
theorem win_in24 {m w n : Nat} (h : m < 2 ^ (256 * n)) (hw : w + n ≤ 65536) : In24 (m * 2 ^ (256 * w)) := by
  intro i hi
  rw [Nat.testBit_mul_two_pow, Bool.and_eq_true, decide_eq_true_eq] at hi
  apply Classical.byContradiction
  intro c
  rw [Nat.testBit_lt_two_pow (lt_pow_mono h (by omega))] at hi
  exact absurd hi.2 (by simp)
theorem win_ups {m w n : Nat} (h : m < 2 ^ (256 * n)) (hw : w + n ≤ 65536) : upsOf (m * 2 ^ (256 * w)) = ((List.range n).filter fun k => decide (sl m k ≠ 0)).map (w + ·) := by
  refine (ups_eq (win_in24 h hw) ?_ fun u => ?_).symm
  · rw [List.pairwise_map]
    exact (List.Pairwise.filter _ (range_sorted _)).imp fun h => by omega
  · rw [List.mem_map]
    constructor
    · rintro ⟨k, hk, rfl⟩
      rw [win_sl]
      exact of_decide_eq_true (List.mem_filter.mp hk).2
    · intro hu
      by_cases c : u < w
      · exact absurd (win_low c) hu
      · obtain ⟨k, rfl⟩ : ∃ k, u = w + k := ⟨u - w, by omega⟩
        rw [win_sl] at hu
        refine ⟨k, List.mem_filter.mpr ⟨List.mem_range.mpr ?_, decide_eq_true hu⟩, rfl⟩
        apply Classical.byContradiction
        intro c2
        exact hu (sl_far h (by omega))
theorem bitsOf_mul (x k : Nat) : bitsOf (x * 2 ^ k) = (bitsOf x).map (k + ·) := by
  refine sorted_ext (bitsOf_sorted _) ?_ fun i => ?_
  · rw [List.pairwise_map]
    exact (bitsOf_sorted x).imp fun h => by omega
  · rw [mem_bitsOf, Nat.testBit_mul_two_pow, List.mem_map, Bool.and_eq_true, decide_eq_true_eq]
    constructor
    · rintro ⟨h1, h2⟩
      exact ⟨i - k, mem_bitsOf.mpr h2, by omega⟩
    · rintro ⟨j, hj, rfl⟩
      exact ⟨by omega, by rw [Nat.add_sub_cancel_left]; exact mem_bitsOf.mp hj⟩
/-- of a window's numbers -/
theorem flat_win {m n : Nat} (h : m < 2 ^ (256 * n)) : flat m ((List.range n).filter fun k => decide (sl m k ≠ 0)) = bitsOf m := by
  refine sorted_ext (flat_sorted (List.Pairwise.filter _ (range_sorted _))) (bitsOf_sorted m) fun x => ?_
  rw [mem_flat, mem_bitsOf, List.mem_filter, List.mem_range, decide_eq_true_eq, sl_ne]
  refine ⟨fun q => q.2, fun q => ⟨⟨?_, ⟨x % 256, by omega, ?_⟩⟩, q⟩⟩
  · apply Classical.byContradiction
    intro c
    rw [Nat.testBit_lt_two_pow (lt_pow_mono h (by omega))] at q
    cases q
  · have : 256 * (x / 256) + x % 256 = x := by omega
    rw [this]; exact q
/-! ### sorted of a dict, its keys ints, any number of them -/
def rSortedD : List V → Hp → VK → Prop := fun xs H Q => ∃ (a : Addr) (kvs : List (Key × V)) (ks : List Int), xs = [.ref a] ∧ Rd H a (.dK kvs) ∧ kvs.map (·.1) = ks.map Sum.inl ∧
  ∀ (ys : List Int) (p : Addr), ys.Perm ks → ys.Pairwise (· ≤ ·) → H p = none → Q (.ref p) (upd H p (.lst (ys.map V.int)))
theorem call_sortedD {X : Cx} (hc : X.calm = true) : CallR X (.builtin "sorted") rSortedD := by
  rintro pins s σ H xs us Q I r ⟨a, kvs, ks, rfl, hd, hk, q⟩
  obtain ⟨u, rfl, rx⟩ := vals1 r
  cases rx
  obtain ⟨z, lo, vs, rel, dd⟩ := dk_rd I.hok hd
  obtain ⟨ep, hat⟩ := dd.dictAt
  have hv : vs.map (·.1) = ks.map Sum.inl := rel.keys.symm.trans hk
  have hl : vs.length = ks.length := by simpa using congrArg List.length hv
  have hz : vs.length ≤ sizeLine := by rw [← rel.length]; exact z
  apply Calls.call_function_entry PyProof.Rows.kind_sorted PyProof.Rows.plain_sorted PyProof.Rows.entry_sorted (PyProof.Rows.args_sorted1 _)
  unfold Builtin.«sorted»
  refine wpAny_bind (m := checkCount "sorted" 1 1 _) (wpAny_pure ?_)
  apply wpAny_bind
  refine PySem.W.kdu_collect (A := X.A.in1) (PySem.W.kdl_dict (knd := mixKind X.prog X.w) (kvs := vs) (ep := ep) lo) (I.ok.hd hc) hat hz ?_
  intro h1 tk acc hkeep hacc
  have al : acc.toList.length = ks.length := by rw [Array.length_toList, hacc.1, hl]
  have hi : IntsAre acc.toList ks := by
    refine ints_each al fun j v e => ?_
    obtain ⟨k, x, e1, e2⟩ := hacc.2 j v (by rw [← Array.getElem?_toList]; exact e)
    have e3 : (ks.map Sum.inl)[j]? = some k := by rw [← hv, List.getElem?_map, e1]; rfl
    rw [List.getElem?_map] at e3
    obtain ⟨y, e4, e5⟩ := Option.map_eq_some_iff.mp e3
    subst e5
    rcases keyIs_shape (show keyIs (Sum.inl y) v = true from e2) with ⟨i, t, ek, ev⟩ | ⟨z, t, ek, ev⟩
    · cases ek; exact ⟨y, t, e4, ev⟩
    · cases ek
  have I1 : Inv X pins σ H { s with heap := h1, toks := tk } := I.kept hkeep
  apply wpAny_bind
  refine wpAny_newList ?_ (by rw [al, ← hl]; exact hz)
  have hob : (h1.push (seqObj "list" acc.toList.toArray 0)).get? h1.objs.size = some (seqObj "list" acc.toList.toArray 0) := Heap.get?_push_size _ rfl
  show wpAny _ _ _ _ _ { s with heap := h1.push (seqObj "list" acc.toList.toArray 0), toks := tk }
  apply wpAny_bind
  apply wpAny_holding
  refine wpAny_call_entry PyProof.Rows.slot_list_sort ⟨_, hob, rfl⟩ PyProof.Rows.entry_list_sort ?_ (PyProof.Rows.args_list_sort _)
  refine SrtO.list_sort_ord (s := { s with heap := h1.push (seqObj "list" acc.toList.toArray 0), toks := tk }) SrtO.swo_int hob (by rw [al, ← hl]; exact hz) (fun h2 => SrtO.ints_sortable hi h2) ?_
  intro out g1 g2
  refine ⟨_, rfl, ?_⟩
  obtain ⟨k1, k2, k3⟩ := SrtO.ints_out hi g1 g2
  obtain ⟨e', he'⟩ := PyProof.Rows.sortedHeap_at (vs := acc.toList) (out := out.toArray) hob
  have hlen : ((out.map SrtO.iv).map V.int).length ≤ sizeLine := by rw [List.length_map, k2.length_eq, ← hl]; exact hz
  have old : ∀ b u, h1.get? b = some u → _ := fun b u e => (PyProof.Rows.sortedHeap_old (vs := acc.toList) (out := out.toArray) (Nat.ne_of_lt (Heap.lt_size e)) (by rw [size_push']; exact Nat.lt_succ_of_lt (Heap.lt_size e))).trans (Heap.get?_push_of_some (seqObj "list" acc.toList.toArray 0) e)
  exact wpAny_pure ⟨_, rfl, .ref h1.objs.size, upd H h1.objs.size (.lst ((out.map SrtO.iv).map V.int)), I1.laid (t' := tk) old (Nat.le_refl _) ⟨hlen, out, e', vals_of_ints k1, he'⟩, rfl, q _ _ k2 k3 (I1.hok.fresh (Nat.le_refl _))⟩
def rSortedU (K : PySem.W.Frag) : List V → Hp → VK → Prop := fun xs H Q => rSortedD xs H Q ∨ rSortedI K xs H Q
theorem u_sorted {X : Cx} (hc : X.calm = true := by rfl) : CallR X (.builtin "sorted") (rSortedU X.K) := (call_sortedD hc).or cr_sortedI
/-! ### lambdas with parameters, handed on and called -/
/-- the function at f is that lambda, its code object at z -/
def LamO (f : Addr) (D : LamD) (z : Addr) : HO := .ext fun h => ∃ (od : Option Addr) (sl : Array (Option Value)) (pm ct : Value), h.get? f = some ⟨.type "function", od, .func (PySem.W.kla_fn "<lambda>" D.q D.params D.body D.scope [] pm (.ref z) ct), sl⟩
theorem lamO_dK {f z : Addr} {D : LamD} (ps : List (Key × V)) : LamO f D z ≠ .dK ps := by
  unfold LamO
  intro e; cases e
theorem codeO_dK {z : Addr} {q : Str} (ps : List (Key × V)) : LamX.CodeO z q ≠ .dK ps := by
  unfold LamX.CodeO
  intro e; cases e
def WayAt (c : Cs) (H : Hp) (f : Addr) (k : Wy) : Prop := ∃ z, H f = some (LamO f (c.way k) z) ∧ H z = some (LamX.CodeO z (c.way k).q)
abbrev nfD (D : LamD) (z : Addr) : NdefX.NF := ⟨"<lambda>", D.q, D.params, [], D.scope, [], z⟩
def tLam (T : List (Addr × Str)) (D : LamD) : TE := fun _ H Q => LamX.Tabs T H ∧ ∀ (f z : Addr) (H1 : Hp), LamX.ExtN H H1 → LamX.Tabs T H1 → H f = none → H1 f = some (LamO f D z) → H1 z = some (LamX.CodeO z D.q) → Q (.ref f) H1
/-- what a lambda's words must be -/
structure LamOk (D : LamD) (ps : List Str) : Prop where
  cl : ∀ cells : List (Str × Addr), cloFrom cells D.scope.names [] = []
  fr : ∀ y ∈ D.scope.names, y.2 ≠ .free
  df : ∀ env : Env, defaultsOf D.params env = ([], [])
  sc : NdefX.NScope ps ps [] D.scope
  bd : ∀ (pm cv ct : Value) (us : List Value), us.length = ps.length → bindArgs (PySem.W.kla_fn "<lambda>" D.q D.params D.body D.scope [] pm cv ct) ⟨us, []⟩ = pure (ps.zip us)
section
variable {X : Cx} {pins : List (Addr × Obj)} {σ : L2.St} {H : Hp} {s : Shared} {D : LamD} {ps : List Str}
theorem inv_lam {z : Addr} {o : Obj} {tk : Nat} {pm ct : Value} (I : Inv X pins σ H s) (ho : o = PySem.W.kla_obj "<lambda>" D.q D.params D.body D.scope [] pm z ct) :
    Inv X pins σ (upd H s.heap.objs.size (LamO s.heap.objs.size D z)) { s with heap := s.heap.push o, toks := tk } := by
  subst ho
  apply I.laid (a := s.heap.objs.size) (fun b u => Heap.get?_push_of_some _) (Nat.le_refl _)
  have g : (s.heap.push (PySem.W.kla_obj "<lambda>" D.q D.params D.body D.scope [] pm z ct)).get? s.heap.objs.size = some (PySem.W.kla_obj "<lambda>" D.q D.params D.body D.scope [] pm z ct) := Heap.get?_push_size _ rfl
  refine ⟨⟨_, _, pm, ct, g⟩, ⟨_, g⟩, ?_⟩
  rintro h1 h2 ⟨od, sl, p, t, q⟩ st
  exact ⟨od, sl, p, t, st _ q⟩
theorem pe_lam {T : List (Addr × Str)} {cc P : Addr} {pos : Pos} (L : LamOk D ps) (B : LamX.TabB X.base X.mg cc P) (hcode : X.env.code = .ref cc) (hq : X.env.qual ++ "<lambda>" = D.q) (hm : (P, D.q) ∈ T) (hu : ∀ p ∈ T, p.1 = P → p.2 = D.q) :
    PE X (.Lambda D.params D.body D.scope pos) (tLam T D) := by
  constructor
  rintro pins s σ H Q I ⟨hT, h⟩
  apply PySem.W.kla_eval (L.df _)
  rw [hq]
  obtain ⟨ts, hP, tr, am⟩ := hT _ hm
  have hcl : closureFor D.scope X.env = pure [] := by
    have := closure_ok (scope := D.scope) (env := X.env) fun y hy e => absurd e (L.fr y hy)
    rw [L.cl] at this
    exact this
  have gP : s.heap.get? P = some { cls := .none, data := .fields ts } := I.hok P _ hP
  have bP : s.heap.BuiltinsAt X.mg P := B.bm.keeps I.bk
  cases hc : codeAmong pos ts.toList with
  | some cv =>
    obtain ⟨z, rfl, hz⟩ := am pos cv hc
    apply PySem.W.kla_makeFunctionHit (mg := X.mg) (c := cc) (P := P) (ps := ts) hcl I.ok.glob (I.mod.glob.keeps I.bk) hcode (B.code.keeps I.bk) gP tr hc bP
    intro ct h' tk hx hsz
    have I1 : Inv X pins σ H { s with heap := h', toks := tk } := I.kept hx
    have nF := I1.hok.fresh (Nat.le_refl _)
    have I2 := inv_lam (D := D) (z := z) (tk := tk) (pm := (X.mg "__name__").getD .none) (ct := ct) I1 rfl
    have up : ∀ b o, H b = some o → upd H h'.objs.size (LamO h'.objs.size D z) b = some o := fun b o e => by rw [upd_ne (ne_of_none e nF)]; exact e
    exact ⟨.ref h'.objs.size, _, I2, rfl, h h'.objs.size z _ (.of up) (hT.ext up) nF upd_same (up _ _ hz)⟩
  | none =>
    apply PySem.W.kla_makeFunction (mg := X.mg) (c := cc) (P := P) (ps := ts) hcl I.ok.glob (I.mod.glob.keeps I.bk) hcode (B.code.keeps I.bk) gP tr hc B.gP bP
    rintro z ct h' tk hx hge hlt ⟨z', oc, vs, t, ez, g1, g2, g3⟩ htb
    cases ez
    have nZ : H z = none := I.hok.fresh hge
    have I1 := LamX.inv_table (q := D.q) (t' := tk) (more := #[rawInt pos.line, rawInt pos.col, .ref z]) (h' := h') I hP (fun b o hb e => hx b o hb e) htb hge ⟨oc, vs, t, g1, g2, g3⟩
    have ex1 : LamX.ExtN H (upd (upd H P (.tbl (ts ++ #[rawInt pos.line, rawInt pos.col, .ref z]))) z (LamX.CodeO z D.q)) := by
      intro b o e n
      have bz := ne_of_none e nZ
      have bp : b ≠ P := by
        rintro rfl
        rw [hP] at e
        exact n _ (Option.some.inj e).symm
      rw [upd_ne bz, upd_ne bp]; exact e
    have T1 : LamX.Tabs T (upd (upd H P (.tbl (ts ++ #[rawInt pos.line, rawInt pos.col, .ref z]))) z (LamX.CodeO z D.q)) := by
      intro p hp
      by_cases hb : p.1 = P
      · rw [hu p hp hb, hb]
        have el : (ts ++ #[rawInt pos.line, rawInt pos.col, .ref z]).toList = ts.toList ++ [rawInt pos.line, rawInt pos.col, .ref z] := by simp
        refine ⟨_, (by rw [upd_ne (ne_of_none hP nZ), upd_same]), (by rw [el]; exact PySem.TriplesOk_snoc _ _ _ _ tr), ?_⟩
        intro p2 cv hcv
        rw [el] at hcv
        rcases LamX.among_app _ tr hcv with y | rfl
        · obtain ⟨z0, e1, e2⟩ := am p2 cv y
          exact ⟨z0, e1, ex1 _ _ e2 LamX.codeO_ne⟩
        · exact ⟨z, rfl, upd_same⟩
      · obtain ⟨ts', a1, a2, a3⟩ := hT p hp
        refine ⟨ts', (by rw [upd_ne (ne_of_none a1 nZ), upd_ne hb]; exact a1), a2, ?_⟩
        intro p2 cv hcv
        obtain ⟨z0, e1, e2⟩ := a3 p2 cv hcv
        exact ⟨z0, e1, ex1 _ _ e2 LamX.codeO_ne⟩
    have nF := I1.hok.fresh (Nat.le_refl _)
    have nF0 : H h'.objs.size = none := I.hok.fresh (Nat.le_trans hge (Nat.le_of_lt hlt))
    have I2 := inv_lam (D := D) (z := z) (tk := tk) (pm := (X.mg "__name__").getD .none) (ct := ct) I1 rfl
    refine ⟨.ref h'.objs.size, _, I2, rfl, h h'.objs.size z _ ?_ (T1.ext fun b o e => by rw [upd_ne (ne_of_none e nF)]; exact e) nF0 upd_same ?_⟩
    · intro b o e n
      have e1 := ex1 b o e n
      rw [upd_ne (ne_of_none e1 nF)]; exact e1
    · rw [upd_ne (Nat.ne_of_lt hlt)]; exact upd_same
end
/-! ### its call -/
section
variable {P : Program} {w : World} {K : PySem.W.Frag} {mg : Str → Option Value} {base : Heap} {CX : CXT} {D : LamD} {ps : List Str} {f z : Addr}
/-- the reading of a lambda's body -/
theorem lam_code {A : Around} {outer : List Env} {s : Shared} {H : Hp} {us : List Value} {vs : List V} {Q : VK} {E : XK} {tb : TE} (L : LamOk D ps) (hr : Room 1 A) (e0 : Env0 P w K mg base A outer s H) (hf : H f = some (LamO f D z)) (hz : H z = some (LamX.CodeO z D.q)) (r : Vals vs us) (hl : vs.length = ps.length)
    (hb : PE (NdefX.ncx CX P w K mg base ps (nfD D z) f A outer s H E) D.body tb) (h : tb (NdefX.startF ps vs []) H Q) : codeAny (model P w) A (.call (.ref f) ⟨us, []⟩) (CR CX outer P w H s Q E) s := by
  obtain ⟨⟨od, sl, pm, ct, ho⟩, _, _⟩ := e0.hok f _ hf
  obtain ⟨⟨oc, vz, t, g1, g2, g3⟩, _, _⟩ := e0.hok z _ hz
  have lim : s.heap.NoLimit := e0.mod.nolimit.keeps fun b o e => (e0.bs b o e).1
  apply PySem.W.kla_callFunE hr.depth ho rfl L.sc.co L.sc.gen rfl ⟨z, oc, vz, t, rfl, g1, g2, g3⟩
  rw [L.bd pm (.ref z) ct us (r.length.symm.trans hl)]
  apply wpAny_pure
  refine wpAny_newFunctionEnv L.sc.nocell (fun y hy => L.sc.par y.1 (List.of_mem_zip (show (y.1, y.2) ∈ ps.zip us from hy)).1) (fun h₁ hns hsb => ⟨lim.fresh _ hsb, ?_⟩) L.sc.kind
  have kp : ∀ b o, s.heap.get? b = some o → h₁.get? b = some o := fun b o e => hsb.extBut b o (Nat.ne_of_lt (Heap.lt_size e)) (Heap.get?_push_of_some _ e)
  have C : NdefX.CellsAt (nfD D z).cl [] [] s.heap H := ⟨rfl, fun y c e => by simp at e, fun x y c e => by simp at e, fun i y e => by simp at e⟩
  have J := NdefX.inv_startN (CX := CX) (E := E) (F := nfD D z) (f := f) (h₁ := h₁) (tk := s.toks + (ps.zip us).length) L.sc hr.hd e0 hl r C hns kp
  show codeAny _ _ (.expr D.body (NdefX.envF (nfD D z) f s.heap.objs.size)) _ _
  apply PySem.W.kla_codeExpr
  refine wpAny_mono (hb.run [] _ _ H Q J h) (fun v s' hq => ?_) fun e s' hq => hq
  obtain ⟨v', H', J', rv, q⟩ := hq
  exact ⟨v', H', J'.os, J'.bare, J'.base, J'.hok, rv, q⟩
end
/-- what a way's body must tell -/
def wNs : List Str := ["bits", "some"]
structure WayOk (D : LamD) (k : Wy) : Prop where
  ok : LamOk D wNs
  body : ∀ X : Cx, X.N = wNs → X.env.scope = D.scope → PE X D.body fun σ H Q => ∃ a b : Nat, σ = [some (.int (a : Int)), some (.int (b : Int))] ∧ Q (.int (k.op a b : Nat)) H
/-- way(e1, e2), way the slot i -/
def tWay (c : Cs) (i : Nat) (t : TA) : TE := fun σ H Q => ∃ f k, σ[i]? = some (some (.ref f)) ∧ WayAt c H f k ∧ t σ H fun vs H1 => ∃ a b : Nat, vs = [.int (a : Int), .int (b : Int)] ∧ WayAt c H1 f k ∧ Q (.int (k.op a b : Nat)) H1
section
variable {X : Cx} {c : Cs} {i j : Nat} {x : Str} {e : Expr} {es : List Expr} {p pos : Pos} {t : TA}
theorem fnAt_way {pins : List (Addr × Obj)} {σ : L2.St} {H : Hp} {s : Shared} {f : Addr} {k : Wy} (I : Inv X pins σ H s) (h : WayAt c H f k) : PySem.W.FnAt f s.heap := by
  obtain ⟨z, h1, _⟩ := h
  obtain ⟨⟨od, sl, pm, ct, g⟩, _, _⟩ := I.hok f _ h1
  exact ⟨_, od, _, sl, g⟩
theorem pe_way (W : ∀ k, WayOk (c.way k) k) (hr : Room j X.A) (hk : 1 ≤ j) (hx : Passes (L2N.CX X.prog X.w) X E0) (hN : X.N[i]? = some x) (hv : Vis X.env.scope x) (ha : PA X (e :: es) t)
    (hd : (x == ("__debug__" : Str)) = false := by decide) (hcd : (x == ("__classdict__" : Str)) = false := by decide)
    (he : starEach (e :: es) X.env = (false, eval e X.env) :: starEach es X.env := by rfl) (hpl : (backTo pos (starEach es X.env)).any (·.1) = false := by rfl) :
    PE X (.Call (.Name x p) (e :: es) [] pos) (tWay c i t) := by
  constructor
  rintro pins s σ H Q I ⟨f, k, hs, hf, ht⟩
  apply wpAny_Call_Name_kw
  refine thn ((pe_var (pos := p) hN hv hd hcd).run pins s σ H (fun v H1 => v = .ref f ∧ H1 = H) I ⟨.ref f, hs, rfl, rfl⟩) ?_
  rintro u s1 ⟨v, H1, I1, r1, rfl, rfl⟩
  obtain rfl : u = Value.ref f := r1
  refine PySem.W.callWith_F (first := []) (fnAt_way I1 hf) (thn (ha.run pos pins s1 σ H1 _ I1 ht) ?_) he hpl
  rintro us s2 ⟨vs, H2, I2, r, a, b, rfl, hw, q⟩
  refine ⟨fnAt_way I2 hw, ?_⟩
  show wpAny _ _ (call (.ref f) us) _ _ _
  obtain ⟨z, h1, h2⟩ := hw
  have cd := lam_code (CX := L2N.CX X.prog X.w) (Q := Q) (E := E0) (W k).ok (hr.mono hk) I2.env0 h1 h2 r rfl ((W k).body _ rfl rfl) ⟨a, b, rfl, q⟩
  apply wpAny_call
  refine codeAny_mono cd ?_
  rintro (er | fl) s3 hq
  · exact hx pins σ H2 s2 er s3 I2 hq
  · cases fl with
    | ret u => exact I2.after hq
    | _ => exact hq.elim
theorem w_way {σ : L2.St} {H : Hp} {Q : VK} {f : Addr} {k : Wy} (hs : σ[i]? = some (some (.ref f))) (hw : WayAt c H f k) (h : t σ H fun vs H1 => ∃ a b : Nat, vs = [.int (a : Int), .int (b : Int)] ∧ WayAt c H1 f k ∧ Q (.int (k.op a b : Nat)) H1) : tWay c i t σ H Q := ⟨f, k, hs, hw, h⟩
theorem w_lam {T : List (Addr × Str)} {D : LamD} {σ : L2.St} {H : Hp} {Q : VK} (h : LamX.Tabs T H ∧ ∀ (f z : Addr) (H1 : Hp), LamX.ExtN H H1 → LamX.Tabs T H1 → H f = none → H1 f = some (LamO f D z) → H1 z = some (LamX.CodeO z D.q) → Q (.ref f) H1) : tLam T D σ H Q := h
end
/-! ### the bodies -/
section
variable {X : Cx} {D : LamD} {p1 p2 p3 p4 : Pos}
theorem body_or (hN : X.N = wNs) (hb : X.env.scope.names.lookup ("bits" : Str) = some .local) (hs : X.env.scope.names.lookup ("some" : Str) = some .local) : PE X (.BinOp (.Name "bits" p1) .BitOr (.Name "some" p2) p3) fun σ H Q => ∃ a b : Nat, σ = [some (.int (a : Int)), some (.int (b : Int))] ∧ Q (.int ((a ||| b : Nat) : Int)) H := by
  have h := pe_op (pos := p3) u_bor (pe_var (pos := p1) (i := 0) (by rw [hN]; rfl) (.inl hb)) (pe_var (pos := p2) (i := 1) (by rw [hN]; rfl) (.inl hs))
  constructor
  rintro pins s σ H Q I ⟨a, b, rfl, q⟩
  refine h.run pins s _ H Q I ⟨_, rfl, _, rfl, a, b, rfl, rfl, ?_⟩
  show Q (.int (Builtin.bitOr (a : Int) (b : Int))) H
  rw [or_cast]; exact q
theorem body_and (hN : X.N = wNs) (hb : X.env.scope.names.lookup ("bits" : Str) = some .local) (hs : X.env.scope.names.lookup ("some" : Str) = some .local) : PE X (.BinOp (.Name "bits" p1) .BitAnd (.Name "some" p2) p3) fun σ H Q => ∃ a b : Nat, σ = [some (.int (a : Int)), some (.int (b : Int))] ∧ Q (.int ((a &&& b : Nat) : Int)) H := by
  have h := pe_op (pos := p3) u_ban (pe_var (pos := p1) (i := 0) (by rw [hN]; rfl) (.inl hb)) (pe_var (pos := p2) (i := 1) (by rw [hN]; rfl) (.inl hs))
  constructor
  rintro pins s σ H Q I ⟨a, b, rfl, q⟩
  refine h.run pins s _ H Q I ⟨_, rfl, _, rfl, a, b, rfl, rfl, ?_⟩
  show Q (.int (Builtin.bitAnd (a : Int) (b : Int))) H
  rw [and_cast]; exact q
theorem body_xor (hN : X.N = wNs) (hb : X.env.scope.names.lookup ("bits" : Str) = some .local) (hs : X.env.scope.names.lookup ("some" : Str) = some .local) : PE X (.BinOp (.Name "bits" p1) .BitXor (.Name "some" p2) p3) fun σ H Q => ∃ a b : Nat, σ = [some (.int (a : Int)), some (.int (b : Int))] ∧ Q (.int ((a ^^^ b : Nat) : Int)) H := by
  have h := pe_op (pos := p3) u_bxo (pe_var (pos := p1) (i := 0) (by rw [hN]; rfl) (.inl hb)) (pe_var (pos := p2) (i := 1) (by rw [hN]; rfl) (.inl hs))
  constructor
  rintro pins s σ H Q I ⟨a, b, rfl, q⟩
  refine h.run pins s _ H Q I ⟨_, rfl, _, rfl, a, b, rfl, rfl, ?_⟩
  show Q (.int (Builtin.bitXor (a : Int) (b : Int))) H
  rw [xor_cast]; exact q
theorem body_andn (hN : X.N = wNs) (hb : X.env.scope.names.lookup ("bits" : Str) = some .local) (hs : X.env.scope.names.lookup ("some" : Str) = some .local) : PE X (.BinOp (.Name "bits" p1) .BitAnd (.UnaryOp .Invert (.Name "some" p2) p4) p3) fun σ H Q => ∃ a b : Nat, σ = [some (.int (a : Int)), some (.int (b : Int))] ∧ Q (.int ((andn a b : Nat) : Int)) H := by
  have h := pe_op (pos := p3) u_ban (pe_var (pos := p1) (i := 0) (by rw [hN]; rfl) (.inl hb)) (pe_un (pos := p4) u_inv (pe_var (pos := p2) (i := 1) (by rw [hN]; rfl) (.inl hs)))
  constructor
  rintro pins s σ H Q I ⟨a, b, rfl, q⟩
  refine h.run pins s _ H Q I ⟨_, rfl, _, rfl, b, rfl, a, _, rfl, rfl, ?_⟩
  show Q (.int (Builtin.bitAnd (a : Int) (Builtin.bitNot (b : Int)))) H
  rw [and_not_cast]; exact q
end
/-! ### a def that makes one -/
/-- the lambda that a def hands on in its last row -/
def lamOf (q : Str) (st : Stmt) : LamD := match defBody st with
  | [.Return (some (.Call _ es _ _)) _] => (match es.getLast? with
    | some (.Lambda ps b sc _) => ⟨q, ps, b, sc⟩
    | _ => ⟨q, defArgs st, .Name "x" ⟨0, 0, 0, 0⟩, defScope st⟩)
  | _ => ⟨q, defArgs st, .Name "x" ⟨0, 0, 0, 0⟩, defScope st⟩
/-- the def's code object and its table -/
def CodF (mg : Str → Option Value) (base : Heap) (T : List (Addr × Str)) (fd : FuncData) (D : LamD) : Prop := ∃ cc P, fd.code = .ref cc ∧ LamX.TabB base mg cc P ∧ (P, D.q) ∈ T ∧ ∀ p ∈ T, p.1 = P → p.2 = D.q
theorem _root_.L2.FunD.okC {P : Program} {w : World} {K : PySem.W.Frag} {mg : Str → Option Value} {base : Heap} {x qual : Str} {params : Arguments} {body : List Stmt} {scope : Scope} {dvs : List V} {kws : List (Str × V)} {f : Addr} {fd : FuncData} {CX : CXT} {N ps : List Str} {k : Nat} {sp : Sp} {T : List (Addr × Str)} {D : LamD}
    (F : FunD K x qual params body scope dvs kws f fd) (C : CodF mg base T fd D) (S : FnScope N ps scope) (len : ∀ vs H Q E, sp vs H Q E → vs.length = ps.length)
    (hb : ∀ (cdv : Value) (cc Pt : Addr), cdv = .ref cc → LamX.TabB base mg cc Pt → (Pt, D.q) ∈ T → (∀ p ∈ T, p.1 = Pt → p.2 = D.q) → ∀ (A : Around) (outer : List Env) (s : Shared) (H : Hp) (vs : List V) (Q : VK) (E : XK), Room k (A.deeper (envOfC qual scope s.heap.objs.size f cdv)) → sp vs H Q E →
      ∃ t, PSs (cxOf CX P w K mg base N qual scope f cdv A outer s H E) body t ∧ t { nx := fun _ H' => Q .non H', rt := Q } (start N vs) H) : FnOk P w K mg base CX (k + 1) f fd ps sp := by
  obtain ⟨oc, od, dV, kV, doc, pm, an, cdv, ct, osl, rfl, lk, hcd, _, _⟩ := F.ex
  obtain ⟨cc, Pt, e1, e2, e3, e4⟩ := C
  exact fn_of lk hcd S len fun A outer s H vs Q E hr hs => hb cdv cc Pt e1 e2 e3 e4 A outer s H vs Q E hr hs
theorem pe_lamW {X : Cx} {c : Cs} {k : Wy} {D : LamD} {cc Pt : Addr} {pos : Pos} {cdv : Value} (hw : c.way k = D) (W : ∀ k, WayOk (c.way k) k) (cdc : cdv = .ref cc) (B : LamX.TabB X.base X.mg cc Pt) (hq : X.env.qual ++ "<lambda>" = D.q) (hm : (Pt, (c.way k).q) ∈ c.T) (hu : ∀ p ∈ c.T, p.1 = Pt → p.2 = (c.way k).q) (hc : X.env.code = cdv := by rfl) :
    PE X (.Lambda D.params D.body D.scope pos) (tLam c.T (c.way k)) := by
  subst hw
  exact pe_lam (W k).ok B (hc.trans cdc) hq hm hu
/-! ### looks at a lambda's words -/
theorem lamOk_by {D : LamD} {ps : List Str} (h1 : ∀ cells : List (Str × Addr), cloFrom cells D.scope.names [] = []) (h2 : D.scope.names.all (fun y => !decide (y.2 = .free)) = true) (h3 : ∀ env : Env, defaultsOf D.params env = ([], [])) (h4 : NdefX.nscB ps ps [] D.scope = true)
    (h5 : ∀ (pm cv ct : Value) (us : List Value), us.length = ps.length → bindArgs (PySem.W.kla_fn "<lambda>" D.q D.params D.body D.scope [] pm cv ct) ⟨us, []⟩ = pure (ps.zip us)) : LamOk D ps := by
  refine ⟨h1, fun y hy e => ?_, h3, NdefX.nscope_by h4, h5⟩
  have := List.all_eq_true.mp h2 y hy
  rw [e] at this
  simp at this
theorem nodup_fst {T : List (Addr × Str)} {P : Addr} {q : Str} (h : (T.map (·.1)).Nodup) (hm : (P, q) ∈ T) : ∀ p ∈ T, p.1 = P → p.2 = q := by
  induction T with
  | nil => cases hm
  | cons t T ih =>
    rw [List.map_cons, List.nodup_cons] at h
    intro p hp e
    rcases List.mem_cons.mp hp with e1 | h1
    · rcases List.mem_cons.mp hm with e2 | h2
      · rw [e1, ← e2]
      · exact absurd (show t.1 ∈ T.map (·.1) from List.mem_map.mpr ⟨_, h2, by rw [← e, e1]⟩) h.1
    · rcases List.mem_cons.mp hm with e2 | h2
      · exact absurd (show t.1 ∈ T.map (·.1) from List.mem_map.mpr ⟨_, h1, by rw [e, ← e2]⟩) h.1
      · exact ih h.2 h2 p h1 e
/-! ### the head's facts, with one more test of one's own -/
/-! ### a promise that nothing leaves -/
theorem fn_cx0 {P : Program} {w : World} {K : PySem.W.Frag} {mg : Str → Option Value} {base : Heap} {k : Nat} {f : Addr} {fd : FuncData} {ps : List Str} {sp : Sp} (F : FnOk P w K mg base (L2N.CX P w) k f fd ps sp) :
    FnOk P w K mg base CX0 k f fd ps (fun vs H Q _ => sp vs H Q E0) := by
  refine ⟨fun vs H Q E q => F.len vs H Q _ q, fun A outer s H args us vs Q E hr he hb hv hs => codeAny_mono (F.run A outer s H args us vs Q E0 hr he hb hv hs) fun r s' hq => ?_⟩
  cases r with
  | error e =>
    obtain ⟨_, _, _, _, _, _, _, _, _, _, _, _, z⟩ := (show L2N.CX P w outer H s E0 e s' from hq)
    exact z.elim
  | ok fl => cases fl <;> exact hq
section
variable {P : Program} {w : World} {K : PySem.W.Frag} {mg : Str → Option Value} {base : Heap} {k : Nat} {sp : Sp}
theorem exc_of {x : Str} {h : Heap} (X : K.In h) (G : h.Ns mainGlobals mg) (c : (He.Fa.exc x).ok K = true) (g : (He.Fa.glo x).ok K = true) : ExcF K mg x (He.ga K x) := by
  obtain ⟨a, b, d, e⟩ := He.exc_ok c
  exact ⟨a, He.glo_ok X G g, b, d, e⟩
end
/-! ### the head's facts, with empty tables -/
def obsXT (n : Nat) (fa : List He.Fa) (fn : List He.DefD) (tf : List He.Defn) (ex : PySem.W.Frag → Bool) (g : Addr → Option Obj) : He.AlD × Bool := (He.obsD fa fn (He.frT g (He.asD g n)), ex (He.frT g (He.asD g n)) && He.tabsB g tf (He.frT g (He.asD g n)))
/-- the defs' tables: empty, not told of by K -/
structure Tbl (tf : List He.Defn) (h : Heap) (K : PySem.W.Frag) : Prop where
  hd : ∀ p ∈ tf, PySem.W.codeHdIn K (He.cT K p).1 (He.cT K p).2 = true
  out : ∀ p ∈ tf, K.lookup (He.cT K p).2 = none
  emp : ∀ p ∈ tf, h.get? (He.cT K p).2 = some { cls := .none, data := .fields #[] }
theorem tbl_of {n : Nat} {tf : List He.Defn} {h : Heap} (e : He.tabsB h.get? tf (He.frT h.get? (He.asD h.get? n)) = true) : Tbl tf h (He.frT h.get? (He.asD h.get? n)) := by
  generalize hK : He.frT h.get? (He.asD h.get? n) = K at e
  have key : ∀ p ∈ tf, PySem.W.codeHdIn K (He.cT K p).1 (He.cT K p).2 = true ∧ ∃ o, h.get? (He.cT K p).2 = some o ∧ He.emptyTab o = true := by
    intro p hp
    have e1 := List.all_eq_true.mp e p hp
    obtain ⟨a, b⟩ := He.ba e1
    refine ⟨a, ?_⟩
    cases q : h.get? (He.cT K p).2 with
    | none => rw [q] at b; cases b
    | some o => rw [q] at b; exact ⟨o, rfl, b⟩
  refine ⟨fun p hp => (key p hp).1, fun p hp => ?_, fun p hp => ?_⟩
  · obtain ⟨_, o, q, z⟩ := key p hp
    subst hK
    exact He.frT_none q z
  · obtain ⟨_, o, q, z⟩ := key p hp
    rw [q, He.emptyTab_eq z]
def hookXT (n : Nat) (fa : List He.Fa) (fn : List He.DefD) (tf : List He.Defn) (ex : PySem.W.Frag → Bool) : PySem.W.Hook where
  α := He.AlD × Bool
  obs := fun s => obsXT n fa fn tf ex s.heap.get?
  val := fun _ => (He.valD fn, true)
  says := fun _ h => ∃ K : PySem.W.Frag, K.In h ∧ He.SaysD fa fn K ∧ ex K = true ∧ Tbl tf h K
  of := fun _ _ e => ⟨_, He.frT_in, congrArg (fun z : He.AlD × Bool => z.1) e, (He.ba (congrArg (fun z : He.AlD × Bool => z.2) e)).1, tbl_of (He.ba (congrArg (fun z : He.AlD × Bool => z.2) e)).2⟩
  keeps := fun _ _ _ ⟨K, hK, c, e, t⟩ k => ⟨K, PySem.W.Frag.In.keeps hK k, c, e, t.hd, t.out, fun p hp => k _ _ (t.emp p hp)⟩
theorem obsXT_eq {n : Nat} {fa : List He.Fa} {fn : List He.DefD} {tf : List He.Defn} {ex : PySem.W.Frag → Bool} {g : Addr → Option Obj} {s : Shared} (h : ∀ a, g a = s.heap.get? a) : obsXT n fa fn tf ex g = (hookXT n fa fn tf ex).obs s := by
  have e : g = s.heap.get? := funext h
  rw [e] <;> rfl
theorem codF_of {K : PySem.W.Frag} {mg : Str → Option Value} {base : Heap} {T : List (Addr × Str)} {p : He.Defn} {x qual : Str} {params : Arguments} {body : List Stmt} {scope : Scope} {dvs : List V} {kws : List (Str × V)} {fd : FuncData} {D : LamD}
    (F : FunD K x qual params body scope dvs kws (He.fAd K p) fd) (B : LamX.TabB base mg (He.cT K p).1 (He.cT K p).2) (hm : ((He.cT K p).2, D.q) ∈ T) (hn : (T.map (·.1)).Nodup) : CodF mg base T fd D := by
  obtain ⟨oc, od, dV, kV, doc, pm, an, cdv, ct, osl, rfl, lk, hcd, _, _⟩ := F.ex
  obtain ⟨cc, e⟩ := He.codeIn_ref hcd
  have e2 := He.codeOf_eq lk e
  refine ⟨cc, (He.cT K p).2, e, ?_, hm, nodup_fst hn hm⟩
  have : (He.cT K p).1 = cc := e2
  rw [this] at B
  exact B
/-- the tables at the law's entry -/
theorem tabs_start {tf : List He.Defn} {K : PySem.W.Frag} {H : Hp} {T : List (Addr × Str)} (h : ∀ p ∈ tf.map (He.cT K), H p.2 = some (.tbl #[])) (hT : ∀ p ∈ T, p.1 ∈ tf.map fun q => (He.cT K q).2) : LamX.Tabs T H := by
  intro p hp
  obtain ⟨q, hq, e⟩ := List.mem_map.mp (hT p hp)
  have := h _ (List.mem_map.mpr ⟨q, hq, rfl⟩)
  refine LamX.TabS.nil ?_
  rw [← e]; exact this
def top (i : Nat) : Stmt := PySem.Challenge.pw_sackset_k06_ranks.main.body.getD i (.Pass ⟨0, 0, 0, 0⟩)
abbrev s_Sack___init__ : Stmt := inClass (top 13) 0
abbrev s_Sack_form : Stmt := inClass (top 13) 4
abbrev s_Sack_count : Stmt := inClass (top 13) 5
abbrev s_Sack_lows : Stmt := inClass (top 13) 6
abbrev s_RowSack_kind : Stmt := inClass (top 14) 0
abbrev s_RowSack_held : Stmt := inClass (top 14) 1
abbrev s_RowSack_weight : Stmt := inClass (top 14) 2
abbrev s_RunsSack_kind : Stmt := inClass (top 15) 0
abbrev s_RunsSack_held : Stmt := inClass (top 15) 1
abbrev s_RunsSack_weight : Stmt := inClass (top 15) 2
abbrev s_BitsSack_kind : Stmt := inClass (top 16) 0
abbrev s_BitsSack_held : Stmt := inClass (top 16) 1
abbrev s_BitsSack_weight : Stmt := inClass (top 16) 2
abbrev s_lows_of : Stmt := top 17
abbrev s_runs_of : Stmt := top 18
abbrev s_count_of : Stmt := top 19
abbrev s_least_sack : Stmt := top 20
abbrev s_is_number : Stmt := top 24
abbrev s_need_number : Stmt := top 25
abbrev s_need_stretch : Stmt := top 26
abbrev s_stretch_bits : Stmt := top 27
abbrev s_NumberSet___init__ : Stmt := inClass (top 28) 0
abbrev s_NumberSet_bits_at : Stmt := inClass (top 28) 1
abbrev s_NumberSet_set_bits : Stmt := inClass (top 28) 2
abbrev s_NumberSet_uppers : Stmt := inClass (top 28) 3
abbrev s_NumberSet_put : Stmt := inClass (top 28) 4
abbrev s_NumberSet_drop : Stmt := inClass (top 28) 5
abbrev s_NumberSet_by_stretch : Stmt := inClass (top 28) 6
abbrev s_NumberSet_turn : Stmt := inClass (top 28) 9
abbrev s_NumberSet_count : Stmt := inClass (top 28) 11
abbrev s_NumberSet_numbers : Stmt := inClass (top 28) 12
abbrev s_NumberSet_sacks : Stmt := inClass (top 28) 13
abbrev s_NumberSet_below : Stmt := inClass (top 28) 14
abbrev s_NumberSet_at : Stmt := inClass (top 28) 15
abbrev s__law_cell_at : Stmt := top 30
abbrev s__law_plain : Stmt := top 31
abbrev s__law_lows : Stmt := top 32
abbrev s__law_runs : Stmt := top 33
abbrev s__law_form : Stmt := top 34
abbrev s__law_pattern : Stmt := top 35
abbrev s__law_begin : Stmt := top 36
abbrev s__law_stretch : Stmt := top 37
abbrev s__law_bits : Stmt := top 38
abbrev s__law_forms : Stmt := top 39
abbrev s__law_numbers : Stmt := top 40
abbrev s__law_filled : Stmt := top 41
abbrev s__law_built : Stmt := top 42
abbrev s__law_spot : Stmt := top 43
abbrev s__law_marks : Stmt := top 44
abbrev s__law_at : Stmt := top 45
abbrev s__law_ranked : Stmt := top 46
abbrev s_law : Stmt := top 47
def fnL : List He.DefD := [
  ⟨("RowSack", some "__init__"), "__init__", "Sack.__init__", defArgs s_Sack___init__, defBody s_Sack___init__, defScope s_Sack___init__, [], []⟩,
  ⟨("RunsSack", some "__init__"), "__init__", "Sack.__init__", defArgs s_Sack___init__, defBody s_Sack___init__, defScope s_Sack___init__, [], []⟩,
  ⟨("BitsSack", some "__init__"), "__init__", "Sack.__init__", defArgs s_Sack___init__, defBody s_Sack___init__, defScope s_Sack___init__, [], []⟩,
  ⟨("RowSack", some "form"), "form", "Sack.form", defArgs s_Sack_form, defBody s_Sack_form, defScope s_Sack_form, [], []⟩,
  ⟨("RunsSack", some "form"), "form", "Sack.form", defArgs s_Sack_form, defBody s_Sack_form, defScope s_Sack_form, [], []⟩,
  ⟨("BitsSack", some "form"), "form", "Sack.form", defArgs s_Sack_form, defBody s_Sack_form, defScope s_Sack_form, [], []⟩,
  ⟨("RowSack", some "count"), "count", "Sack.count", defArgs s_Sack_count, defBody s_Sack_count, defScope s_Sack_count, [], []⟩,
  ⟨("RunsSack", some "count"), "count", "Sack.count", defArgs s_Sack_count, defBody s_Sack_count, defScope s_Sack_count, [], []⟩,
  ⟨("BitsSack", some "count"), "count", "Sack.count", defArgs s_Sack_count, defBody s_Sack_count, defScope s_Sack_count, [], []⟩,
  ⟨("RowSack", some "lows"), "lows", "Sack.lows", defArgs s_Sack_lows, defBody s_Sack_lows, defScope s_Sack_lows, [], []⟩,
  ⟨("RunsSack", some "lows"), "lows", "Sack.lows", defArgs s_Sack_lows, defBody s_Sack_lows, defScope s_Sack_lows, [], []⟩,
  ⟨("BitsSack", some "lows"), "lows", "Sack.lows", defArgs s_Sack_lows, defBody s_Sack_lows, defScope s_Sack_lows, [], []⟩,
  ⟨("RowSack", some "kind"), "kind", "RowSack.kind", defArgs s_RowSack_kind, defBody s_RowSack_kind, defScope s_RowSack_kind, [], []⟩,
  ⟨("RowSack", some "held"), "held", "RowSack.held", defArgs s_RowSack_held, defBody s_RowSack_held, defScope s_RowSack_held, [], []⟩,
  ⟨("RowSack", some "weight"), "weight", "RowSack.weight", defArgs s_RowSack_weight, defBody s_RowSack_weight, defScope s_RowSack_weight, [], []⟩,
  ⟨("RunsSack", some "kind"), "kind", "RunsSack.kind", defArgs s_RunsSack_kind, defBody s_RunsSack_kind, defScope s_RunsSack_kind, [], []⟩,
  ⟨("RunsSack", some "held"), "held", "RunsSack.held", defArgs s_RunsSack_held, defBody s_RunsSack_held, defScope s_RunsSack_held, [], []⟩,
  ⟨("RunsSack", some "weight"), "weight", "RunsSack.weight", defArgs s_RunsSack_weight, defBody s_RunsSack_weight, defScope s_RunsSack_weight, [], []⟩,
  ⟨("BitsSack", some "kind"), "kind", "BitsSack.kind", defArgs s_BitsSack_kind, defBody s_BitsSack_kind, defScope s_BitsSack_kind, [], []⟩,
  ⟨("BitsSack", some "held"), "held", "BitsSack.held", defArgs s_BitsSack_held, defBody s_BitsSack_held, defScope s_BitsSack_held, [], []⟩,
  ⟨("BitsSack", some "weight"), "weight", "BitsSack.weight", defArgs s_BitsSack_weight, defBody s_BitsSack_weight, defScope s_BitsSack_weight, [], []⟩,
  ⟨("lows_of", none), "lows_of", "lows_of", defArgs s_lows_of, defBody s_lows_of, defScope s_lows_of, [], []⟩,
  ⟨("runs_of", none), "runs_of", "runs_of", defArgs s_runs_of, defBody s_runs_of, defScope s_runs_of, [], []⟩,
  ⟨("count_of", none), "count_of", "count_of", defArgs s_count_of, defBody s_count_of, defScope s_count_of, [], []⟩,
  ⟨("least_sack", none), "least_sack", "least_sack", defArgs s_least_sack, defBody s_least_sack, defScope s_least_sack, [], []⟩,
  ⟨("is_number", none), "is_number", "is_number", defArgs s_is_number, defBody s_is_number, defScope s_is_number, [], []⟩,
  ⟨("need_number", none), "need_number", "need_number", defArgs s_need_number, defBody s_need_number, defScope s_need_number, [], []⟩,
  ⟨("need_stretch", none), "need_stretch", "need_stretch", defArgs s_need_stretch, defBody s_need_stretch, defScope s_need_stretch, [], []⟩,
  ⟨("stretch_bits", none), "stretch_bits", "stretch_bits", defArgs s_stretch_bits, defBody s_stretch_bits, defScope s_stretch_bits, [], []⟩,
  ⟨("NumberSet", some "__init__"), "__init__", "NumberSet.__init__", defArgs s_NumberSet___init__, defBody s_NumberSet___init__, defScope s_NumberSet___init__, [.non], []⟩,
  ⟨("NumberSet", some "bits_at"), "bits_at", "NumberSet.bits_at", defArgs s_NumberSet_bits_at, defBody s_NumberSet_bits_at, defScope s_NumberSet_bits_at, [], []⟩,
  ⟨("NumberSet", some "set_bits"), "set_bits", "NumberSet.set_bits", defArgs s_NumberSet_set_bits, defBody s_NumberSet_set_bits, defScope s_NumberSet_set_bits, [], []⟩,
  ⟨("NumberSet", some "uppers"), "uppers", "NumberSet.uppers", defArgs s_NumberSet_uppers, defBody s_NumberSet_uppers, defScope s_NumberSet_uppers, [], []⟩,
  ⟨("NumberSet", some "put"), "put", "NumberSet.put", defArgs s_NumberSet_put, defBody s_NumberSet_put, defScope s_NumberSet_put, [], []⟩,
  ⟨("NumberSet", some "drop"), "drop", "NumberSet.drop", defArgs s_NumberSet_drop, defBody s_NumberSet_drop, defScope s_NumberSet_drop, [], []⟩,
  ⟨("NumberSet", some "by_stretch"), "by_stretch", "NumberSet.by_stretch", defArgs s_NumberSet_by_stretch, defBody s_NumberSet_by_stretch, defScope s_NumberSet_by_stretch, [], []⟩,
  ⟨("NumberSet", some "turn"), "turn", "NumberSet.turn", defArgs s_NumberSet_turn, defBody s_NumberSet_turn, defScope s_NumberSet_turn, [.non], []⟩,
  ⟨("NumberSet", some "count"), "count", "NumberSet.count", defArgs s_NumberSet_count, defBody s_NumberSet_count, defScope s_NumberSet_count, [], []⟩,
  ⟨("NumberSet", some "numbers"), "numbers", "NumberSet.numbers", defArgs s_NumberSet_numbers, defBody s_NumberSet_numbers, defScope s_NumberSet_numbers, [.int 0, .int 16777215], []⟩,
  ⟨("NumberSet", some "sacks"), "sacks", "NumberSet.sacks", defArgs s_NumberSet_sacks, defBody s_NumberSet_sacks, defScope s_NumberSet_sacks, [], []⟩,
  ⟨("NumberSet", some "below"), "below", "NumberSet.below", defArgs s_NumberSet_below, defBody s_NumberSet_below, defScope s_NumberSet_below, [], []⟩,
  ⟨("NumberSet", some "at"), "at", "NumberSet.at", defArgs s_NumberSet_at, defBody s_NumberSet_at, defScope s_NumberSet_at, [], []⟩,
  ⟨("_law_cell_at", none), "_law_cell_at", "_law_cell_at", defArgs s__law_cell_at, defBody s__law_cell_at, defScope s__law_cell_at, [], []⟩,
  ⟨("_law_plain", none), "_law_plain", "_law_plain", defArgs s__law_plain, defBody s__law_plain, defScope s__law_plain, [], []⟩,
  ⟨("_law_lows", none), "_law_lows", "_law_lows", defArgs s__law_lows, defBody s__law_lows, defScope s__law_lows, [], []⟩,
  ⟨("_law_runs", none), "_law_runs", "_law_runs", defArgs s__law_runs, defBody s__law_runs, defScope s__law_runs, [], []⟩,
  ⟨("_law_form", none), "_law_form", "_law_form", defArgs s__law_form, defBody s__law_form, defScope s__law_form, [], []⟩,
  ⟨("_law_pattern", none), "_law_pattern", "_law_pattern", defArgs s__law_pattern, defBody s__law_pattern, defScope s__law_pattern, [], []⟩,
  ⟨("_law_begin", none), "_law_begin", "_law_begin", defArgs s__law_begin, defBody s__law_begin, defScope s__law_begin, [], []⟩,
  ⟨("_law_stretch", none), "_law_stretch", "_law_stretch", defArgs s__law_stretch, defBody s__law_stretch, defScope s__law_stretch, [], []⟩,
  ⟨("_law_bits", none), "_law_bits", "_law_bits", defArgs s__law_bits, defBody s__law_bits, defScope s__law_bits, [], []⟩,
  ⟨("_law_forms", none), "_law_forms", "_law_forms", defArgs s__law_forms, defBody s__law_forms, defScope s__law_forms, [], []⟩,
  ⟨("_law_numbers", none), "_law_numbers", "_law_numbers", defArgs s__law_numbers, defBody s__law_numbers, defScope s__law_numbers, [], []⟩,
  ⟨("_law_filled", none), "_law_filled", "_law_filled", defArgs s__law_filled, defBody s__law_filled, defScope s__law_filled, [], []⟩,
  ⟨("_law_built", none), "_law_built", "_law_built", defArgs s__law_built, defBody s__law_built, defScope s__law_built, [], []⟩,
  ⟨("_law_spot", none), "_law_spot", "_law_spot", defArgs s__law_spot, defBody s__law_spot, defScope s__law_spot, [], []⟩,
  ⟨("_law_marks", none), "_law_marks", "_law_marks", defArgs s__law_marks, defBody s__law_marks, defScope s__law_marks, [], []⟩,
  ⟨("_law_at", none), "_law_at", "_law_at", defArgs s__law_at, defBody s__law_at, defScope s__law_at, [], []⟩,
  ⟨("_law_ranked", none), "_law_ranked", "_law_ranked", defArgs s__law_ranked, defBody s__law_ranked, defScope s__law_ranked, [], []⟩,
  ⟨("law", none), "law", "law", defArgs s_law, defBody s_law, defScope s_law, [], []⟩]
def faL0 : List He.Fa := [.cls "RowSack", .noat "RowSack" "bits", .cls "RunsSack", .noat "RunsSack" "bits", .cls "BitsSack", .noat "BitsSack" "bits", .cls "NumberSet", .noat "NumberSet" "by_upper", .glo "count_of", .glo "lows_of", .free "tuple", .glo "runs_of", .free "len", .int "WORDS" 4, .free "range", .int "WORD" 64, .int "FULL_WORD" 18446744073709551615, .int "BITS_WEIGHT" 32, .free "sum", .glo "RowSack", .mkr "RowSack", .glo "RunsSack", .mkr "RunsSack", .glo "BitsSack", .mkr "BitsSack", .free "int", .free "isinstance", .free "bool", .int "GREATEST" 16777215, .glo "is_number"]
def faL1 : List He.Fa := [.glo "NoNumber", .exc "NoNumber", .int "LONGEST" 99999, .glo "NoStretch", .exc "NoStretch", .int "SIZE" 256, .free "max", .free "min", .glo "need_number", .glo "least_sack", .free "sorted", .free "divmod", .glo "need_stretch", .glo "stretch_bits", .glo "NoRank", .exc "NoRank", .glo "_law_lows", .glo "_law_runs", .glo "_law_form", .glo "_law_pattern", .glo "NumberSet", .mkr "NumberSet", .glo "_law_cell_at", .glo "_law_filled", .glo "_law_stretch", .glo "_law_bits", .glo "NoText", .glo "SackError", .glo "_law_marks", .free "ValueError"]
def faL2 : List He.Fa := [.glo "_law_spot", .glo "_law_plain", .glo "_law_at", .glo "_law_begin", .glo "_law_built", .glo "_law_numbers", .free "set", .glo "_law_ranked", .glo "_law_forms", .glo "law", .meth "RowSack" "form", .meth "RunsSack" "form", .meth "BitsSack" "form", .meth "RowSack" "count", .meth "RunsSack" "count", .meth "BitsSack" "count", .meth "RowSack" "lows", .meth "RunsSack" "lows", .meth "BitsSack" "lows", .meth "RowSack" "kind", .meth "RowSack" "held", .meth "RowSack" "weight", .meth "RunsSack" "kind", .meth "RunsSack" "held", .meth "RunsSack" "weight", .meth "BitsSack" "kind", .meth "BitsSack" "held", .meth "BitsSack" "weight", .meth "NumberSet" "bits_at", .meth "NumberSet" "set_bits"]
def faL3 : List He.Fa := [.meth "NumberSet" "uppers", .meth "NumberSet" "put", .meth "NumberSet" "drop", .meth "NumberSet" "by_stretch", .meth "NumberSet" "turn", .meth "NumberSet" "count", .meth "NumberSet" "numbers", .meth "NumberSet" "sacks", .meth "NumberSet" "below", .meth "NumberSet" "at"]
def faL : List He.Fa := faL0 ++ faL1 ++ faL2 ++ faL3
def tfq : List (He.Defn × Str) := [(("NumberSet", some "turn"), "NumberSet.turn.<locals>.<lambda>")]
def tf : List He.Defn := tfq.map (·.1)
def tT (K : PySem.W.Frag) : List (Addr × Str) := tfq.map fun x => ((He.cT K x.1).2, x.2)
def eN : Ek → Str
  | .number => "NoNumber"
  | .stretch => "NoStretch"
  | .rank => "NoRank"
  | .text => "NoText"
def exL : List Str := ["NoNumber", "NoStretch", "NoRank", "NoText"]
def exO (K : PySem.W.Frag) (x : Str) : Bool := He.eqO (PySem.W.findIn K (.ref (He.ga K x)) "__getattribute__") (some (some (.builtin "BaseException.__getattribute__"))) && He.eqO (PySem.W.findIn K (.ref (He.ga K x)) "__getattr__") (some none) && decide (PySem.W.subIn K (.ref (He.ga K x)) (.type "BaseException") = some true) && PySem.W.hasDictIn K (He.ga K x) &&
  He.eqO (PySem.W.findIn K (.ref (He.ga K x)) "__class__") (some (some (.builtin "object.__class__"))) && decide (PySem.W.mroIn K (He.ga K x) (.type "object") = some true) && decide (PySem.W.kitOne K (.ref (He.ga K x)) (.type "ValueError") = some true) && decide (PySem.W.exmOne K (.ref (He.ga K x)) (.ref (He.ga K "SackError")) = some true) &&
  exL.all fun y => decide (PySem.W.kitOne K (.ref (He.ga K x)) (.ref (He.ga K y)) = some (decide (x = y)))
def exB (K : PySem.W.Frag) : Bool := exL.all (exO K) && He.eqO (PySem.W.specialIn K (.builtin "object.__class__") "__get__") (some (some (.builtin "getset_descriptor.__get__"))) && decide (PySem.W.takesIn K (.builtin "object.__class__") = some true)
abbrev R : PySem.W.OpenRow := PySem.W.OpenLaw.row PySem.Challenge.rw_sackset_k06_ranks
def exT (K : PySem.W.Frag) : Bool := exB K && decide (((tT K).map (·.1)).Nodup)
abbrev hk : PySem.W.Hook := hookXT 5 faL fnL tf exT
def ob (s : PySem.W.SharedT) : He.AlD × Bool := obsXT 5 faL fnL tf exT (HandSHeadRun.getT s)
theorem ob_eq (s : PySem.W.SharedT) : ob s = hk.obs s.abs := obsXT_eq (HandSHeadRun.getT_eq s)
def nm0 : List Str := ["_wall", "SackError", "NoNumber", "NoStretch", "NoRank", "NoText", "SIZE", "WORD", "WORDS", "FULL_WORD", "BITS_WEIGHT", "Sack", "RowSack", "RunsSack", "BitsSack", "lows_of", "runs_of", "count_of", "least_sack", "GREATEST"]
def nm1 : List Str := ["LONGEST", "is_number", "need_number", "need_stretch", "stretch_bits", "NumberSet", "_law_cell_at", "_law_plain", "_law_lows", "_law_runs", "_law_form", "_law_pattern", "_law_begin", "_law_stretch", "_law_bits", "_law_forms", "_law_numbers", "_law_filled", "_law_built", "_law_spot"]
def nm2 : List Str := ["_law_marks", "_law_at", "_law_ranked"]
def nms : List Str := nm0 ++ nm1 ++ nm2
set_option maxHeartbeats 0 in
theorem run (w : World) : HandSHeadRun.RunEq R (PySem.W.view R.prog [47]) hk ob 6000 nms w := by
  intro os
  kernel_rfl
local macro_rules | `(tactic| walk_at "go1") => `(tactic| first
  | ((with_reducible apply w_var); exact rfl)
  | with_reducible refine w_c ?_ | with_reducible refine w_op ?_ | with_reducible refine w_un ?_ | with_reducible refine w_nil ?_ | with_reducible refine w_cons ?_
  | with_reducible refine w_tup ?_ | with_reducible refine w_lst ?_ | with_reducible refine w_cb ?_ | with_reducible refine w_call ?_ | with_reducible refine w_meth ?_ | with_reducible refine w_make ?_
  | with_reducible refine w_fld ?_ | with_reducible refine w_bm ?_ | with_reducible refine w_bm0 ?_ | with_reducible refine w_bits ?_ | with_reducible refine w_bits1 ?_
  | with_reducible refine w_sl ?_ | with_reducible refine w_nopart ?_ | with_reducible refine w_part ?_ | with_reducible refine w_ife ?_ | with_reducible refine w_andv ?_ | with_reducible refine w_orv ?_ | with_reducible refine w_notv ?_ | with_reducible refine w_chain ?_
  | with_reducible refine w_test ?_ | with_reducible refine w_tb ?_ | with_reducible refine w_bl ?_ | with_reducible refine w_and ?_ | with_reducible refine w_or ?_ | with_reducible refine w_not ?_
  | with_reducible refine w_seq ?_ | with_reducible refine w_next ?_ | with_reducible refine w_drop ?_ | with_reducible refine w_ret ?_ | with_reducible refine w_retn ?_ | with_reducible refine w_ifs ?_ | with_reducible refine w_asg ?_
  | ((with_reducible refine w_name ?_); simp only [List.set_cons_zero, List.set_cons_succ])
  | ((with_reducible apply w_aug); exact rfl)
  | with_reducible refine r_add ?_ | with_reducible refine r_sub ?_ | with_reducible refine r_ban ?_ | with_reducible refine r_bor ?_ | with_reducible refine r_bxo ?_ | with_reducible refine r_neg ?_ | with_reducible refine r_inv ?_
  | with_reducible refine r_padd ?_ | with_reducible refine r_psub ?_ | with_reducible refine r_pban ?_ | with_reducible refine r_pbor ?_ | with_reducible refine r_pbxo ?_
  | with_reducible refine r_eqi ?_ | with_reducible refine r_nei ?_ | with_reducible refine r_eqb ?_ | with_reducible refine r_neb ?_ | with_reducible refine r_eqs ?_ | with_reducible refine r_nes ?_
  | with_reducible refine r_lt ?_ | with_reducible refine r_le ?_ | with_reducible refine r_gt ?_ | with_reducible refine r_ge ?_ | with_reducible refine r_is ?_ | with_reducible refine r_isnot ?_
  | with_reducible refine r_isi_int_int ?_ | with_reducible refine r_isi_int_bool ?_ | with_reducible refine r_isi_bl_bool ?_ | with_reducible refine r_isi_bl_int ?_ | with_reducible refine r_isi_non_int ?_ | with_reducible refine r_isi_non_bool ?_ | with_reducible refine r_isi_str_int ?_ | with_reducible refine r_isi_str_str ?_
  | with_reducible refine w_yes ?_ | ((with_reducible refine w_gnil ?_)) | (with_reducible refine w_gcons ?_)
  | ((with_reducible refine r_mul ?_ ?_); (first | exact Or.inl ⟨by omega, by omega⟩ | exact Or.inr ⟨by omega, by omega⟩))
  | ((with_reducible refine r_fdv ?_ ?_); exact ⟨by omega, by omega⟩) | ((with_reducible refine r_mod ?_ ?_); omega) | ((with_reducible refine r_shr ?_ ?_); omega) | ((with_reducible refine r_pshr ?_ ?_); omega)
  | ((with_reducible refine r_shl ?_ ?_); exact CShl_one (by omega) (by omega)) | with_reducible refine w_gsub ?_
  | with_reducible refine w_for ?_ | with_reducible refine w_lc ?_ | with_reducible refine w_rng1 ?_ | with_reducible refine w_rng2 ?_ | with_reducible refine w_iList ?_ | with_reducible refine w_iTup ?_ | with_reducible refine w_iStr ?_ | with_reducible refine w_ort ?_ | with_reducible refine w_revL ?_ | with_reducible refine w_lockE ?_ | with_reducible refine w_lockS ?_ | with_reducible refine w_dget ?_ | with_reducible refine w_din ?_ | with_reducible refine w_dnotin ?_ | with_reducible refine w_dput ?_ | with_reducible refine w_dpop2 ?_ | with_reducible refine w_sfld ?_ | with_reducible refine w_iItems ?_ | with_reducible refine w_iVals ?_ | with_reducible refine w_iKeys ?_
  | with_reducible refine iteF ?_ | with_reducible refine iteT ?_ | with_reducible refine w_nT ?_ | with_reducible refine w_nF ?_
  | with_reducible refine w_callW ?_ | with_reducible refine w_callP ?_ | with_reducible refine w_methW ?_ | with_reducible refine w_try ?_ | ((with_reducible refine r_pow ?_ ?_); exact ⟨by decide, by decide, by decide⟩)
  | with_reducible refine r_max2 ?_ | with_reducible refine r_min2 ?_ | with_reducible refine r_inti ?_ | with_reducible refine r_intb ?_)
local macro_rules | `(tactic| walk_at "go") => `(tactic| repeat (walk_at "go1"))
/-! ### data within the lines -/
def Sm (n : Nat) (d : PyData) : Prop := d.canLay0 = true ∧ d.depth ≤ n
theorem can_all {ds : List PyData} (h : ∀ d ∈ ds, d.canLay0 = true) : PyData.canLayAll0 ds = true := by
  induction ds with
  | nil => rfl
  | cons d ds ih =>
    unfold PyData.canLayAll0
    rw [h d List.mem_cons_self, ih fun e he => h e (List.mem_cons_of_mem _ he)]; rfl
theorem depth_all {n : Nat} {ds : List PyData} (h : ∀ d ∈ ds, d.depth ≤ n) : PyData.depthAll ds ≤ n := by
  induction ds with
  | nil => exact Nat.zero_le _
  | cons d ds ih =>
    unfold PyData.depthAll
    have a := h d List.mem_cons_self
    have b := ih fun e he => h e (List.mem_cons_of_mem _ he)
    exact Nat.max_le.mpr ⟨a, b⟩
theorem Sm.int (i : Int) {n : Nat} : Sm n (.int i) := ⟨rfl, Nat.zero_le _⟩
theorem Sm.bl (i : Bool) {n : Nat} : Sm n (.bool i) := ⟨rfl, Nat.zero_le _⟩
theorem Sm.non {n : Nat} : Sm n .none := ⟨rfl, Nat.zero_le _⟩
theorem Sm.str {x : Str} (h : PyData.strOk x = true) {n : Nat} : Sm n (.str x) := ⟨h, Nat.zero_le _⟩
theorem Sm.list {n : Nat} {ds : List PyData} (h : ∀ d ∈ ds, Sm n d) : Sm (n + 1) (.list ds) := ⟨by unfold PyData.canLay0; exact can_all fun d hd => (h d hd).1, by unfold PyData.depth; exact Nat.succ_le_succ (depth_all fun d hd => (h d hd).2)⟩
theorem Sm.tuple {n : Nat} {ds : List PyData} (h : ∀ d ∈ ds, Sm n d) : Sm (n + 1) (.tuple ds) := ⟨by unfold PyData.canLay0; exact can_all fun d hd => (h d hd).1, by unfold PyData.depth; exact Nat.succ_le_succ (depth_all fun d hd => (h d hd).2)⟩
theorem Sm.mono {n m : Nat} {d : PyData} (h : Sm n d) (e : n ≤ m) : Sm m d := ⟨h.1, Nat.le_trans h.2 e⟩
theorem Sm.shaped {n : Nat} {d : PyData} (h : Sm n d) (e : n ≤ 64 := by decide) : SeqAt.shaped d = true := by
  unfold SeqAt.shaped
  rw [h.1, decide_eq_true (Nat.le_trans h.2 e)]; rfl
theorem Sm.refl {n : Nat} {d : PyData} (h : Sm n d) : PyData.eqv d d = true := SeqAt.eqv_refl d h.1
theorem Sm.ints {n : Nat} (l : List Int) : ∀ d ∈ l.map PyData.int, Sm n d := fun d hd => by
  obtain ⟨i, _, rfl⟩ := List.mem_map.mp hd
  exact .int i
/-! ### pairs, forms -/
def dPairs (l : List Pr) : List PyData := l.map fun p : Pr => .tuple [.int (p.1 : Int), .int (p.2 : Int)]
theorem dPairs_app (l m : List Pr) : dPairs (l ++ m) = dPairs l ++ dPairs m := by unfold dPairs; rw [List.map_append]
theorem dPairs_len (l : List Pr) : (dPairs l).length = l.length := by unfold dPairs; rw [List.length_map]
theorem Sm.pair (i j : Int) {n : Nat} : Sm (n + 1) (.tuple [.int i, .int j]) := .tuple fun d hd => by
  rcases List.mem_cons.mp hd with rfl | hd
  · exact .int _
  · rcases List.mem_cons.mp hd with rfl | hd
    · exact .int _
    · cases hd
theorem Sm.pairs {n : Nat} (l : List Pr) : ∀ d ∈ dPairs l, Sm (n + 1) d := fun d hd => by
  obtain ⟨p, _, rfl⟩ := List.mem_map.mp hd
  exact .pair _ _
def kdB (b : Nat) : Kd := if popc b ≤ 2 * (runsB b).length ∧ popc b ≤ 32 then .row else if 2 * (runsB b).length ≤ 32 then .runs else .bits
def kindS : Kd → Str
  | .row => "row"
  | .runs => "runs"
  | .bits => "bits"
def wordB (b k : Nat) : Nat := b / 2 ^ (64 * k) % 2 ^ 64
def heldD (k : Kd) (b : Nat) : List PyData := match k with
  | .row => (nz (bitsOf b)).map .int
  | .runs => dPairs (runsB b)
  | .bits => (nz ((List.range 4).map (wordB b))).map .int
def formDs (k : Kd) (b : Nat) : List PyData := [.str (kindS k), .tuple (heldD k b)]
def formD (b : Nat) : PyData := .tuple (formDs (kdB b) b)
def weightK (k : Kd) (b : Nat) : Nat := match k with
  | .row => popc b
  | .runs => 2 * (runsB b).length
  | .bits => 32
theorem kind_ok (k : Kd) : PyData.strOk (kindS k) = true := by cases k <;> decide +kernel
theorem Sm.held (k : Kd) (b : Nat) : ∀ d ∈ heldD k b, Sm 1 d := by
  cases k with
  | row => exact Sm.ints _
  | runs => exact Sm.pairs _
  | bits => exact Sm.ints _
theorem Sm.formDs (k : Kd) (b : Nat) : ∀ d ∈ formDs k b, Sm 2 d := fun d hd => by
  rcases List.mem_cons.mp hd with rfl | hd
  · exact .str (kind_ok k)
  · rcases List.mem_cons.mp hd with rfl | hd
    · exact .tuple (Sm.held k b)
    · cases hd
theorem Sm.form (b : Nat) : Sm 3 (formD b) := .tuple (Sm.formDs _ b)
/-! ### what a def hands back: a new list, a new tuple of data -/
def GivesL (c : Cs) (H : Hp) (Q : VK) (ds : List PyData) : Prop := ∀ (p : Addr) (xs : List V) (H' : Hp), Same H H' → H p = none → H' p = some (.lst xs) → Fds c.K H H' xs ds → Q (.ref p) H'
def GivesT (c : Cs) (H : Hp) (Q : VK) (ds : List PyData) : Prop := ∀ (p : Addr) (xs : List V) (H' : Hp), Same H H' → H p = none → H' p = some (.tup xs) → Fds c.K H H' xs ds → Q (.ref p) H'
/-- all of a list's domain stays -/
theorem dom_mut {H H' : Hp} {p : Addr} {o : HO} (d : ∀ b, H' b = none → H b = none) (hp : H' p ≠ none) : ∀ b, upd H' p o b = none → H b = none := fun b q => by
  by_cases c : b = p
  · subst c; rw [upd_same] at q; cases q
  · rw [upd_ne c] at q; exact d b q
theorem take_more {α : Type} : ∀ {l : List α} {i : Nat} {x : α}, l[i]? = some x → l.take (i + 1) = l.take i ++ [x]
  | [], i, x, h => by simp at h
  | a :: l, 0, x, h => by
    have e : a = x := Option.some.inj h
    subst e
    rfl
  | a :: l, i + 1, x, h => by
    have ih := take_more (l := l) (i := i) (x := x) h
    show a :: l.take (i + 1) = a :: l.take i ++ [x]
    rw [ih]
    rfl
/-! ### a comprehension by what each item gives -/
/-- the data of the items below i that are kept -/
def pickD (keep : Nat → Bool) (f : Nat → PyData) (n : Nat) : List PyData := ((List.range n).filter keep).map f
theorem pickD_succ {keep : Nat → Bool} {f : Nat → PyData} (n : Nat) : pickD keep f (n + 1) = if keep n = true then pickD keep f n ++ [f n] else pickD keep f n := by
  unfold pickD
  rw [List.range_succ, List.filter_append, List.map_append]
  by_cases h : keep n = true
  · rw [if_pos h, List.filter_cons, if_pos h]; rfl
  · rw [if_neg h, List.filter_cons, if_neg h]; simp
theorem pickD_len (keep : Nat → Bool) (f : Nat → PyData) (n : Nat) : (pickD keep f n).length ≤ n := by
  unfold pickD
  rw [List.length_map]
  exact Nat.le_trans (List.length_filter_le _ _) (by simp)
/-- what holds between two turns -/
def LcInv (K : PySem.W.Frag) (H1 : Hp) (D : Addr) (keep : Nat → Bool) (f : Nat → PyData) (i : Nat) (H : Hp) : Prop := ∃ acc : List V, Same H1 H ∧ H D = some (.lst acc) ∧ (∀ b, H b = none → upd H1 D (.lst []) b = none) ∧ Fds K (upd H1 D (.lst [])) H acc (pickD keep f i)
theorem lcInv0 {K : PySem.W.Frag} {H1 : Hp} {D : Addr} {keep : Nat → Bool} {f : Nat → PyData} (nD : H1 D = none) : LcInv K H1 D keep f 0 (upd H1 D (.lst [])) := ⟨[], (new_of nD rfl).1, upd_same, fun _ q => q, Fds.nil⟩
theorem lcInv_keep {K : PySem.W.Frag} {H1 H H4 : Hp} {D : Addr} {keep : Nat → Bool} {f : Nat → PyData} {i : Nat} {y : V} (nD : H1 D = none) (h : LcInv K H1 D keep f i H) (hk : keep i = true) (s : Same H H4) (hy : Fd K H H4 y (f i)) (hl : i ≤ 99998) :
    ∃ acc, H4 D = some (.lst acc) ∧ acc.length < sizeLine ∧ LcInv K H1 D keep f (i + 1) (upd H4 D (.lst (acc ++ [y]))) := by
  obtain ⟨acc, s1, hD, dom, hf⟩ := h
  have l := hf.len
  have l2 := pickD_len keep f i
  refine ⟨acc, s _ _ hD, sl5 (by omega), acc ++ [y], (s1.trans s).mut nD, upd_same, dom_mut (fun b q => dom b (s.free q)) (by rw [s _ _ hD]; simp), ?_⟩
  rw [pickD_succ, if_pos hk]
  exact Fds.snoc ((hf.to (New.same s)).to (New.mut upd_same New.refl)) ((hy.left dom).to (New.mut upd_same New.refl))
theorem lcInv_skip {K : PySem.W.Frag} {H1 H H4 : Hp} {D : Addr} {keep : Nat → Bool} {f : Nat → PyData} {i : Nat} (h : LcInv K H1 D keep f i H) (hk : keep i = false) (s : Same H H4) : LcInv K H1 D keep f (i + 1) H4 := by
  obtain ⟨acc, s1, hD, dom, hf⟩ := h
  refine ⟨acc, s1.trans s, s _ _ hD, fun b q => dom b (s.free q), ?_⟩
  rw [pickD_succ, if_neg (by rw [hk]; simp)]
  exact hf.to (New.same s)
section
variable {K : PySem.W.Frag} {g : TG} {tt : TT} {te : TE} {vs : List Nat} {σ : L2.St} {H1 : Hp} {D : Addr} {Qd : Hp → Prop} (keep : Nat → Bool) (f : Nat → PyData)
theorem lcL {a : Addr} {xs : List V} (nD : H1 D = none) (hx : SqL K H1 a xs) (hl : xs.length ≤ 99999)
    (hs : ∀ (i : Nat) (x : V) (H : Hp) (Rk : VK) (Rs : Hp → Prop), xs[i]? = some x → Same H1 H → (keep i = true → ∀ y H4, Same H H4 → Fd K H H4 y (f i) → Rk y H4) → (keep i = false → ∀ H3, Same H H3 → Rs H3) →
      g x (wipe σ vs) H fun σ2 H2 => wipe σ2 vs = wipe σ vs ∧ tt σ2 H2 fun b H3 => if b = true then te σ2 H3 Rk else Rs H3)
    (hd : ∀ H acc, Same H1 H → H D = some (.lst acc) → Fds K H1 H acc (pickD keep f xs.length) → Qd H) :
    ∃ W : Nat → Nat → Hp → Prop, (∃ m, W 0 m (upd H1 D (.lst []))) ∧ ∀ i m H, W i m H →
      ((Itl K a).stop i H ∧ Qd H) ∨ ((Itl K a).go i H ∧ ∃ Nx : Hp → Prop, (∀ H', Nx H' → ∃ m', m' < m ∧ W (i + 1) m' H') ∧ ∀ x H', (Itl K a).yld i H x H' → g x (wipe σ vs) H' fun σ2 H2 => wipe σ2 vs = wipe σ vs ∧ tt σ2 H2 fun b H3 =>
        if b = true then te σ2 H3 fun y H4 => ∃ acc, H4 D = some (.lst acc) ∧ acc.length < sizeLine ∧ Nx (upd H4 D (.lst (acc ++ [y]))) else Nx H3) := by
  refine lc_list (K := K) (a := a) (xs := xs) (LcInv K H1 D keep f) (lcInv0 nD) (fun i H _ ⟨_, s, _⟩ => s.seq hx) (fun i x H hi P => ?_) (fun H ⟨acc, s, h, dom, hf⟩ => hd H acc s h (hf.left fun b q => ?_))
  · have il := (List.getElem?_eq_some_iff.mp hi).1
    exact hs i x H _ _ hi P.choose_spec.1 (fun hk y H4 s hy => lcInv_keep nD P hk s hy (by omega)) fun hk H3 s => lcInv_skip P hk s
  · exact (new_of nD rfl).2.2 b q
theorem lcR {lo : Int} {n : Nat} (nD : H1 D = none) (hl : n ≤ 99999)
    (hs : ∀ (i : Nat) (H : Hp) (Rk : VK) (Rs : Hp → Prop), i < n → Same H1 H → (keep i = true → ∀ y H4, Same H H4 → Fd K H H4 y (f i) → Rk y H4) → (keep i = false → ∀ H3, Same H H3 → Rs H3) →
      g (.int (lo + i)) (wipe σ vs) H fun σ2 H2 => wipe σ2 vs = wipe σ vs ∧ tt σ2 H2 fun b H3 => if b = true then te σ2 H3 Rk else Rs H3)
    (hd : ∀ H acc, Same H1 H → H D = some (.lst acc) → Fds K H1 H acc (pickD keep f n) → Qd H) :
    ∃ W : Nat → Nat → Hp → Prop, (∃ m, W 0 m (upd H1 D (.lst []))) ∧ ∀ i m H, W i m H →
      ((Itr lo n).stop i H ∧ Qd H) ∨ ((Itr lo n).go i H ∧ ∃ Nx : Hp → Prop, (∀ H', Nx H' → ∃ m', m' < m ∧ W (i + 1) m' H') ∧ ∀ x H', (Itr lo n).yld i H x H' → g x (wipe σ vs) H' fun σ2 H2 => wipe σ2 vs = wipe σ vs ∧ tt σ2 H2 fun b H3 =>
        if b = true then te σ2 H3 fun y H4 => ∃ acc, H4 D = some (.lst acc) ∧ acc.length < sizeLine ∧ Nx (upd H4 D (.lst (acc ++ [y]))) else Nx H3) := by
  refine lc_range (LcInv K H1 D keep f) (lcInv0 nD) (fun i H hi P => ?_) (fun H ⟨acc, s, h, dom, hf⟩ => hd H acc s h (hf.left fun b q => ?_))
  · exact hs i H _ _ hi P.choose_spec.1 (fun hk y H4 s hy => lcInv_keep nD P hk s hy (by omega)) fun hk H3 s => lcInv_skip P hk s
  · exact (new_of nD rfl).2.2 b q
end
/-- kept all, whole numbers -/
theorem pickD_all {f : Nat → PyData} (n : Nat) : pickD (fun _ => true) f n = (List.range n).map f := by
  unfold pickD
  rw [List.filter_eq_self.mpr (fun _ _ => rfl)]
theorem Fds.intsInv {K : PySem.W.Frag} {H H' : Hp} {vs : List V} {ns : List Int} (h : Fds K H H' vs (ns.map PyData.int)) : vs = ns.map V.int := dpa_ints_inv h.now
/-! ### what data say of the values -/
theorem fds_cons_inv {K : PySem.W.Frag} {H H' : Hp} {vs : List V} {d : PyData} {ds : List PyData} (h : Fds K H H' vs (d :: ds)) : ∃ v ws, vs = v :: ws ∧ Fd K H H' v d ∧ Fds K H H' ws ds := by
  have a := h.now
  cases a with
  | cons h1 h2 =>
    refine ⟨_, _, rfl, fun H'' n => ?_, fun H'' n => ?_⟩
    · cases h H'' n with
      | cons a b => exact a
    · cases h H'' n with
      | cons a b => exact b
theorem mem_bits_dec (b i : Nat) : decide (i ∈ bitsOf b) = b.testBit i := by
  rw [Bool.eq_iff_iff, decide_eq_true_eq, mem_bitsOf]
/-! ### lows_of -/
def sp_lows_of (c : Cs) : Sp := fun vs H Q _ => ∃ b : Nat, vs = [.int (b : Int)] ∧ b < 2 ^ 256 ∧ ∀ (p : Addr) (H' : Hp), Same H H' → H p = none → H' p = some (.lst ((nz (bitsOf b)).map V.int)) → Q (.ref p) H'
theorem len_lows_of (c : Cs) : ∀ vs H Q E, sp_lows_of c vs H Q E → vs.length = (["bits"] : List Str).length := by
  rintro vs H Q E ⟨b, rfl, _⟩; rfl
/-- lows_of -/
def t_lows_of (c : Cs) (E : XK) : TS :=
  tSeq (tAsg (tLst (tNil)) (gName 1))
    (tSeq (tWhile (tTest (tOp (rGt) (tVar 0) (tC (.int 0)))) (tSeq (tAsg (tOp rBan (tVar 0) (tUn rNeg (tVar 0))) (gName 2))
    (tSeq (tDrop (tBM c.K "list" rAppend (tVar 1) (tCons (tOp rSub (tBits (tVar 2)) (tC (.int 1))) (tNil))))
    (tAug 0 (tVar 2) pBxo))))
    (tRet (tVar 1)))
theorem pure_lows_of {c : Cs} (G : Good c) (vs : List V) (H : Hp) (Q : VK) (E : XK) (h : sp_lows_of c vs H Q E) : t_lows_of c E { nx := fun _ H' => Q .non H', rt := Q } (start ["bits", "found", "low"] vs) H := by
  obtain ⟨b0, rfl, hb, hQ⟩ := h
  unfold t_lows_of
  show tSeq _ _ _ [some (.int (b0 : Int)), none, none] H
  walk_at "go"
  refine ⟨sz5 (by decide), fun p np => ?_⟩
  walk_at "go"
  refine w_while (fun m σ H1 => ∃ (b : Nat) (acc : List Nat) (v : Option V), m = b ∧ σ = [some (.int (b : Int)), some (.ref p), v] ∧ b ≤ b0 ∧ Same H H1 ∧ H1 p = some (.lst ((nz acc).map V.int)) ∧ acc ++ bitsOf b = bitsOf b0) b0
    ⟨b0, [], none, rfl, rfl, Nat.le_refl _, (new_of np rfl).1, upd_same, rfl⟩ ?_
  rintro m σ H1 ⟨b, acc, v, rfl, rfl, hle, s, hp, he⟩
  walk_at "go"
  refine if_d (fun h0 => ?_) (fun h0 => ?_)
  · have h0 : 0 < m := by omega
    refine w_body ?_
    walk_at "go"
    rw [and_neg h0]
    refine ⟨tyL hp, ?_⟩
    walk_at "go"
    rw [bits_pow]
    have hl : acc.length ≤ 256 := by
      have := congrArg List.length he
      rw [List.length_append] at this
      have := bitsOf_len hb
      omega
    refine r_append hp (by rw [nzv_len]; exact sl5 (by omega)) ?_
    walk_at "go"
    rw [xor_cast, clr_xor h0]
    have e1 : (((tz m + 1 : Nat) : Int) - 1) = ((tz m : Nat) : Int) := by omega
    rw [e1]
    refine ⟨clr m, clr_lt h0, clr m, acc ++ [tz m], _, rfl, rfl, Nat.le_trans (Nat.le_of_lt (clr_lt h0)) hle, s.mut np, ?_, ?_⟩
    · rw [upd_same, nz_app, List.map_append]; rfl
    · rw [List.append_assoc, ← he, bitsOf_clr h0]; rfl
  · have h0 : m = 0 := by omega
    subst h0
    walk_at "go"
    rw [bitsOf_zero, List.append_nil] at he
    exact hQ p H1 s np (by rw [hp, he])
/-! ### runs_of -/
def sp_runs_of (c : Cs) : Sp := fun vs H Q _ => ∃ b : Nat, vs = [.int (b : Int)] ∧ b < 2 ^ 256 ∧ GivesL c H Q (dPairs (runsB b))
theorem len_runs_of (c : Cs) : ∀ vs H Q E, sp_runs_of c vs H Q E → vs.length = (["bits"] : List Str).length := by
  rintro vs H Q E ⟨b, rfl, _⟩; rfl
/-- runs_of -/
def t_runs_of (c : Cs) (E : XK) : TS :=
  tSeq (tAsg (tLst (tNil)) (gName 1))
    (tSeq (tAsg (tC (.int 0)) (gName 2))
    (tSeq (tWhile (tTest (tOp (rGt) (tVar 0) (tC (.int 0)))) (tSeq (tAsg (tOp rSub (tBits (tOp rBan (tVar 0) (tUn rNeg (tVar 0)))) (tC (.int 1))) (gName 3))
    (tSeq (tAug 0 (tVar 3) pShr)
    (tSeq (tAsg (tOp rSub (tBits (tOp rBan (tOp rAdd (tVar 0) (tC (.int 1))) (tUn rInv (tVar 0)))) (tC (.int 1))) (gName 4))
    (tSeq (tAug 0 (tVar 4) pShr)
    (tSeq (tDrop (tBM c.K "list" rAppend (tVar 1) (tCons (tTup (tCons (tOp rAdd (tVar 2) (tVar 3)) (tCons (tOp rSub (tOp rAdd (tOp rAdd (tVar 2) (tVar 3)) (tVar 4)) (tC (.int 1))) (tNil)))) (tNil))))
    (tAug 2 (tOp rAdd (tVar 3) (tVar 4)) pAdd)))))))
    (tRet (tVar 1))))
/-- what is left of the runs behind some -/
def runsFrom (place b : Nat) : List Pr := (runsB b).map fun p => (place + p.1, place + p.2)
theorem runsFrom_step {place b : Nat} (h : 0 < b) : runsFrom place b = (place + tz b, place + tz b + tz (b / 2 ^ tz b + 1) - 1) :: runsFrom (place + (tz b + tz (b / 2 ^ tz b + 1))) (b / 2 ^ tz b / 2 ^ tz (b / 2 ^ tz b + 1)) := by
  unfold runsFrom
  rw [runsB_peel h _ _ _ _ rfl rfl rfl rfl, List.map_cons, List.map_map]
  have hm := (peel h _ _ _ _ rfl rfl rfl rfl).1
  congr 1
  · simp; omega
  · apply List.map_congr_left
    intro p _
    simp; omega
theorem pure_runs_of {c : Cs} (G : Good c) (vs : List V) (H : Hp) (Q : VK) (E : XK) (h : sp_runs_of c vs H Q E) : t_runs_of c E { nx := fun _ H' => Q .non H', rt := Q } (start ["bits", "found", "place", "gap", "many"] vs) H := by
  obtain ⟨b0, rfl, hb, hQ⟩ := h
  unfold t_runs_of
  show tSeq _ _ _ [some (.int (b0 : Int)), none, none, none, none] H
  walk_at "go"
  refine ⟨sz5 (by decide), fun p np => ?_⟩
  walk_at "go"
  generalize e1 : upd H p _ = H1
  obtain ⟨s1, hp1, d1⟩ := new_of np e1
  refine w_while (fun m σ H2 => ∃ (b place : Nat) (acc : List Pr) (xs : List V) (u v : Option V), m = b ∧ σ = [some (.int (b : Int)), some (.ref p), some (.int (place : Int)), u, v] ∧ b ≤ b0 ∧ Same H H2 ∧ H2 p = some (.lst xs) ∧ (∀ q, H2 q = none → H1 q = none) ∧ Fds c.K H1 H2 xs (dPairs acc) ∧ acc ++ runsFrom place b = runsB b0) b0
    ⟨b0, 0, [], [], none, none, rfl, rfl, Nat.le_refl _, s1, hp1, fun _ q => q, Fds.nil, ?_⟩ ?_
  · unfold runsFrom; simp
  rintro m σ H2 ⟨b, place, acc, xs, u, v, rfl, rfl, hle, s, hp, dom, hf, he⟩
  walk_at "go"
  refine if_d (fun h0 => ?_) (fun h0 => ?_)
  · have h0 : 0 < m := by omega
    have st := runsFrom_step (place := place) h0
    obtain ⟨hm0, _, _, hlt⟩ := peel h0 _ _ _ _ rfl rfl rfl rfl
    refine w_body ?_
    walk_at "go"
    rw [and_neg h0]
    walk_at "go"
    rw [bits_pow]
    walk_at "go"
    have eg : (((tz m + 1 : Nat) : Int) - 1) = ((tz m : Nat) : Int) := by omega
    rw [eg]
    have es : ((m : Int) / 2 ^ ((tz m : Nat) : Int).toNat) = ((m / 2 ^ tz m : Nat) : Int) := by rw [Int.toNat_natCast, Int.natCast_ediv, Int.natCast_pow]; rfl
    rw [es]
    generalize hc : m / 2 ^ tz m = cc at *
    rw [and_not_succ, bits_pow]
    generalize hmm : tz (cc + 1) = mm at *
    have em : (((mm + 1 : Nat) : Int) - 1) = ((mm : Nat) : Int) := by omega
    rw [em]
    walk_at "go"
    have es2 : ((cc : Int) / 2 ^ ((mm : Nat) : Int).toNat) = ((cc / 2 ^ mm : Nat) : Int) := by rw [Int.toNat_natCast, Int.natCast_ediv, Int.natCast_pow]; rfl
    rw [es2]
    refine ⟨tyL hp, ?_⟩
    walk_at "go"
    refine ⟨sz5 (by simp), fun t nt => ?_⟩
    generalize et : upd H2 t _ = H3
    obtain ⟨sH3, ht, dH3⟩ := new_of nt et
    walk_at "go"
    have hp3 := sH3 _ _ hp
    have hl : xs.length ≤ 256 := by
      have a := hf.len
      rw [dPairs_len] at a
      have b1 := congrArg List.length he
      rw [List.length_append] at b1
      have b2 := runsL_len _ (bitsOf b0) rfl
      have b3 := bitsOf_len hb
      unfold runsB at b1
      omega
    refine r_append hp3 (sl5 (by omega)) ?_
    walk_at "go"
    have ep : ((place : Int) + (((tz m : Nat) : Int) + (mm : Int))) = ((place + (tz m + mm) : Nat) : Int) := by omega
    rw [ep]
    refine ⟨cc / 2 ^ mm, hlt, cc / 2 ^ mm, place + (tz m + mm), acc ++ [(place + tz m, place + tz m + mm - 1)], xs ++ [.ref t], _, _, rfl, rfl, by omega, (s.trans sH3).mut np, upd_same, ?_, ?_, ?_⟩
    · refine dom_mut (fun q z => dom q (dH3 q z)) (by rw [hp3]; simp)
    · rw [dPairs_app]
      refine Fds.snoc ((hf.to (New.same sH3)).to (New.mut hp1 New.refl)) ?_
      have e4 : ((place : Int) + ((tz m : Nat) : Int)) = ((place + tz m : Nat) : Int) := by omega
      have e5 : ((place : Int) + ((tz m : Nat) : Int) + (mm : Int) - 1) = ((place + tz m + mm - 1 : Nat) : Int) := by omega
      rw [e5, e4] at ht
      exact (Fd.tup (dom _ nt) ht (Fds.cons (.int _) (Fds.cons (.int _) .nil))).to (New.mut hp1 New.refl)
    · rw [List.append_assoc, ← he, st]; rfl
  · have h0 : m = 0 := by omega
    subst h0
    walk_at "go"
    have e0 : runsFrom place 0 = [] := by unfold runsFrom; rw [runsB_zero]; rfl
    rw [e0, List.append_nil] at he
    rw [he] at hf
    exact hQ p xs H2 s np hp (hf.left d1)
/-! ### count_of -/
def sp_count_of (c : Cs) : Sp := fun vs H Q _ => ∃ b : Nat, vs = [.int (b : Int)] ∧ b < 2 ^ 256 ∧ ∀ H', Same H H' → Q (.int (popc b : Nat)) H'
theorem len_count_of (c : Cs) : ∀ vs H Q E, sp_count_of c vs H Q E → vs.length = (["bits"] : List Str).length := by
  rintro vs H Q E ⟨b, rfl, _⟩; rfl
/-- count_of -/
def t_count_of (c : Cs) (E : XK) : TS :=
  tRet (tCB (rSum c.K) (tCons (tLc (iSeq c.K (tCall (sp_runs_of c) [] E (tCons (tVar 0) (tNil)))) (gTup c.K 2 (gCons (gName 1) (gCons (gName 2) (gNil)))) (tYes) (tOp rAdd (tOp rSub (tVar 2) (tVar 1)) (tC (.int 1))) [1, 2]) (tNil)))
theorem pure_count_of {c : Cs} (G : Good c) (vs : List V) (H : Hp) (Q : VK) (E : XK) (h : sp_count_of c vs H Q E) : t_count_of c E { nx := fun _ H' => Q .non H', rt := Q } (start ["bits", "first", "last"] vs) H := by
  obtain ⟨b, rfl, hb, hQ⟩ := h
  unfold t_count_of
  show tRet _ _ [some (.int (b : Int)), none, none] H
  walk_at "go"
  refine .inl ?_
  show tCall _ _ _ _ _ _ _
  walk_at "go"
  refine ⟨b, rfl, hb, fun p xs H1 s1 np hp hf => ⟨p, rfl, ⟨xs, SqL.of hp⟩, fun D nD => ?_⟩⟩
  have fl : xs.length = (runsB b).length := by rw [hf.len, dPairs_len]
  refine lc_list (K := c.K) (a := p) (xs := xs) (fun i H2 => ∃ ns : List Int, Same H1 H2 ∧ H2 D = some (.lst (ns.map V.int)) ∧ ns = ((runsB b).take i).map fun q => (q.2 : Int) - (q.1 : Int) + 1)
    ⟨[], (new_of nD rfl).1, upd_same, rfl⟩ (fun i H2 _ ⟨_, s, _⟩ => s.seq (SqL.of hp)) ?_ ?_
  · rintro i x H2 hi ⟨ns, s2, hD, en⟩
    obtain ⟨d, hd, hx⟩ := hf.now.get hi
    have hx := hx.ext s2
    obtain ⟨q, hq, rfl⟩ : ∃ q, (runsB b)[i]? = some q ∧ d = .tuple [.int (q.1 : Int), .int (q.2 : Int)] := by
      unfold dPairs at hd
      rw [List.getElem?_map] at hd
      cases e : (runsB b)[i]? with
      | none => rw [e] at hd; cases hd
      | some q => rw [e] at hd; exact ⟨q, rfl, (Option.some.inj hd).symm⟩
    obtain ⟨t, ys, rfl, ht, hys⟩ := hx.tup_inv
    cases hys with
    | cons h1 h2 =>
    cases h2 with
    | cons h2 h3 =>
    cases h3
    cases h1
    cases h2
    refine ⟨t, _, rfl, ht, rfl, ?_⟩
    simp only [wipe, List.set_cons_zero, List.set_cons_succ]
    walk_at "go"
    refine ⟨rfl, ?_⟩
    walk_at "go"
    have il : i < (runsB b).length := (List.getElem?_eq_some_iff.mp hi).1 |> fun z => by omega
    have hl : ns.length ≤ 256 := by
      rw [en, List.length_map, List.length_take]
      have b2 := runsL_len _ (bitsOf b) rfl
      have b3 := bitsOf_len hb
      unfold runsB
      omega
    refine ⟨_, hD, by rw [List.length_map]; exact sl5 (by omega), ns ++ [(q.2 : Int) - (q.1 : Int) + 1], s2.mut nD, by rw [upd_same, List.map_append]; rfl, ?_⟩
    rw [en, take_more hq, List.map_append]; rfl
  · rintro H2 ⟨ns, s2, hD, en⟩
    walk_at "go"
    refine r_sum (SqL.of hD) ?_
    have e : ns.sum = (popc b : Int) := by
      rw [en, fl, List.take_length, ← runSum_B]; rfl
    rw [e]
    exact hQ H2 (s1.trans s2)
/-! ### the sacks' methods, by kind -/
theorem SackK.at {c : Cs} {H : Hp} {s : Addr} {k : Kd} {b : Nat} {m : Str} {fam : Addr → Sp → Prop} {sp : Sp} {R : Sp → Prop} {dvs : List V} (h : SackK c H s k b) (hf : fam (c.kd k) sp) (hm : (m == ("bits" : Str)) = false) (q : R sp) :
    ∃ a C dx fs sp, V.ref s = .ref a ∧ H a = some (.ins C dx fs) ∧ fam C sp ∧ fs.lookup m = none ∧ R sp := by
  obtain ⟨dx, h⟩ := h
  exact ⟨s, _, dx, _, sp, rfl, h, hf, lk0 hm, q⟩
theorem SackK.fld {c : Cs} (G : Good c) {H : Hp} {s : Addr} {k : Kd} {b : Nat} {R : V → Prop} (h : SackK c H s k b) (q : R (.int (b : Int))) :
    ∃ a C dx fs v, V.ref s = .ref a ∧ H a = some (.ins C dx fs) ∧ Cls c.K C ∧ NoAttr c.K C "bits" ∧ fs.lookup ("bits" : Str) = some v ∧ R v := by
  obtain ⟨dx, h⟩ := h
  exact ⟨s, _, dx, _, _, rfl, h, G.cl k, G.na k, lk1, q⟩
def sp_m_kind (c : Cs) (k : Kd) : Sp := fun vs H Q _ => ∃ (s : Addr) (b : Nat), vs = [.ref s] ∧ SackK c H s k b ∧ Q (.str (kindS k)) H
def fam_kind (c : Cs) (C : Addr) (sp : Sp) : Prop := ∃ k, C = c.kd k ∧ sp = sp_m_kind c k
def sp_RowSack_kind (c : Cs) := sp_m_kind c .row
def sp_RunsSack_kind (c : Cs) := sp_m_kind c .runs
def sp_BitsSack_kind (c : Cs) := sp_m_kind c .bits
theorem len_RowSack_kind (c : Cs) : ∀ vs H Q E, sp_RowSack_kind c vs H Q E → vs.length = (["self"] : List Str).length := by
  rintro vs H Q E ⟨s, b, rfl, _⟩; rfl
/-- RowSack.kind -/
def t_RowSack_kind (c : Cs) (E : XK) : TS :=
  tRet (tC (.str "row"))
theorem pure_RowSack_kind {c : Cs} (G : Good c) (vs : List V) (H : Hp) (Q : VK) (E : XK) (h : sp_RowSack_kind c vs H Q E) : t_RowSack_kind c E { nx := fun _ H' => Q .non H', rt := Q } (start ["self"] vs) H := by
  obtain ⟨s, b, rfl, hs, hQ⟩ := h
  exact hQ
theorem len_RunsSack_kind (c : Cs) : ∀ vs H Q E, sp_RunsSack_kind c vs H Q E → vs.length = (["self"] : List Str).length := by
  rintro vs H Q E ⟨s, b, rfl, _⟩; rfl
/-- RunsSack.kind -/
def t_RunsSack_kind (c : Cs) (E : XK) : TS :=
  tRet (tC (.str "runs"))
theorem pure_RunsSack_kind {c : Cs} (G : Good c) (vs : List V) (H : Hp) (Q : VK) (E : XK) (h : sp_RunsSack_kind c vs H Q E) : t_RunsSack_kind c E { nx := fun _ H' => Q .non H', rt := Q } (start ["self"] vs) H := by
  obtain ⟨s, b, rfl, hs, hQ⟩ := h
  exact hQ
theorem len_BitsSack_kind (c : Cs) : ∀ vs H Q E, sp_BitsSack_kind c vs H Q E → vs.length = (["self"] : List Str).length := by
  rintro vs H Q E ⟨s, b, rfl, _⟩; rfl
/-- BitsSack.kind -/
def t_BitsSack_kind (c : Cs) (E : XK) : TS :=
  tRet (tC (.str "bits"))
theorem pure_BitsSack_kind {c : Cs} (G : Good c) (vs : List V) (H : Hp) (Q : VK) (E : XK) (h : sp_BitsSack_kind c vs H Q E) : t_BitsSack_kind c E { nx := fun _ H' => Q .non H', rt := Q } (start ["self"] vs) H := by
  obtain ⟨s, b, rfl, hs, hQ⟩ := h
  exact hQ
def sp_m_held (c : Cs) (k : Kd) : Sp := fun vs H Q _ => ∃ (s : Addr) (b : Nat), vs = [.ref s] ∧ SackK c H s k b ∧ b < 2 ^ 256 ∧ GivesT c H Q (heldD k b)
def fam_held (c : Cs) (C : Addr) (sp : Sp) : Prop := ∃ k, C = c.kd k ∧ sp = sp_m_held c k
def sp_RowSack_held (c : Cs) := sp_m_held c .row
def sp_RunsSack_held (c : Cs) := sp_m_held c .runs
def sp_BitsSack_held (c : Cs) := sp_m_held c .bits
theorem len_RowSack_held (c : Cs) : ∀ vs H Q E, sp_RowSack_held c vs H Q E → vs.length = (["self"] : List Str).length := by
  rintro vs H Q E ⟨s, b, rfl, _⟩; rfl
/-- RowSack.held -/
def t_RowSack_held (c : Cs) (E : XK) : TS :=
  tRet (tCB (rTuple c.K) (tCons (tCall (sp_lows_of c) [] E (tCons (tFld c.K (tVar 0) "bits") (tNil))) (tNil)))
theorem pure_RowSack_held {c : Cs} (G : Good c) (vs : List V) (H : Hp) (Q : VK) (E : XK) (h : sp_RowSack_held c vs H Q E) : t_RowSack_held c E { nx := fun _ H' => Q .non H', rt := Q } (start ["self"] vs) H := by
  obtain ⟨s, b, rfl, hs, hb, hQ⟩ := h
  unfold t_RowSack_held
  show tRet _ _ [some (.ref s)] H
  walk_at "go"
  refine hs.fld G ?_
  walk_at "go"
  refine ⟨b, rfl, hb, fun p H1 s1 np hp => ?_⟩
  walk_at "go"
  refine r_tuple_l (SqL.of hp) ?_
  intro q nq
  generalize eq : upd H1 q _ = H2
  obtain ⟨sH2, hq, dH2⟩ := new_of nq eq
  exact hQ q _ H2 (s1.trans sH2) (s1.free nq) hq (Fds.ints _)
theorem len_RunsSack_held (c : Cs) : ∀ vs H Q E, sp_RunsSack_held c vs H Q E → vs.length = (["self"] : List Str).length := by
  rintro vs H Q E ⟨s, b, rfl, _⟩; rfl
/-- RunsSack.held -/
def t_RunsSack_held (c : Cs) (E : XK) : TS :=
  tRet (tCB (rTuple c.K) (tCons (tCall (sp_runs_of c) [] E (tCons (tFld c.K (tVar 0) "bits") (tNil))) (tNil)))
theorem pure_RunsSack_held {c : Cs} (G : Good c) (vs : List V) (H : Hp) (Q : VK) (E : XK) (h : sp_RunsSack_held c vs H Q E) : t_RunsSack_held c E { nx := fun _ H' => Q .non H', rt := Q } (start ["self"] vs) H := by
  obtain ⟨s, b, rfl, hs, hb, hQ⟩ := h
  unfold t_RunsSack_held
  show tRet _ _ [some (.ref s)] H
  walk_at "go"
  refine hs.fld G ?_
  walk_at "go"
  refine ⟨b, rfl, hb, fun p xs H1 s1 np hp hf => ?_⟩
  walk_at "go"
  refine r_tuple_l (SqL.of hp) ?_
  intro q nq
  generalize eq : upd H1 q _ = H2
  obtain ⟨sH2, hq, dH2⟩ := new_of nq eq
  exact hQ q xs H2 (s1.trans sH2) (s1.free nq) hq (hf.to (New.same sH2))
theorem word_cast (b k : Nat) : Builtin.bitAnd ((b : Int) / 2 ^ ((64 : Int) * ((0 : Int) + (k : Int))).toNat) 18446744073709551615 = ((wordB b k : Nat) : Int) := by
  have e1 : ((64 : Int) * ((0 : Int) + (k : Int))).toNat = 64 * k := by omega
  have e2 : (b : Int) / 2 ^ (64 * k) = ((b / 2 ^ (64 * k) : Nat) : Int) := by rw [Int.natCast_ediv, Int.natCast_pow]; rfl
  have e3 : (18446744073709551615 : Int) = ((2 ^ 64 - 1 : Nat) : Int) := rfl
  rw [e1, e2, e3, and_cast, Nat.and_two_pow_sub_one_eq_mod]
  rfl
theorem words_eq (b : Nat) : (nz ((List.range 4).map (wordB b))).map PyData.int = pickD (fun _ => true) (fun i => PyData.int ((wordB b i : Nat) : Int)) 4 := by
  rw [pickD_all]; rfl
theorem len_BitsSack_held (c : Cs) : ∀ vs H Q E, sp_BitsSack_held c vs H Q E → vs.length = (["self"] : List Str).length := by
  rintro vs H Q E ⟨s, b, rfl, _⟩; rfl
/-- BitsSack.held -/
def t_BitsSack_held (c : Cs) (E : XK) : TS :=
  tRet (tCB (rTuple c.K) (tCons (tLc (iRng1 (tCons (tC (.int 4)) (tNil))) (gName 1) (tYes) (tOp rBan (tOp rShr (tFld c.K (tVar 0) "bits") (tOp rMul (tC (.int 64)) (tVar 1))) (tC (.int 18446744073709551615))) [1]) (tNil)))
theorem pure_BitsSack_held {c : Cs} (G : Good c) (vs : List V) (H : Hp) (Q : VK) (E : XK) (h : sp_BitsSack_held c vs H Q E) : t_BitsSack_held c E { nx := fun _ H' => Q .non H', rt := Q } (start ["self", "k"] vs) H := by
  obtain ⟨s, b, rfl, hs, hb, hQ⟩ := h
  unfold t_BitsSack_held
  show tRet _ _ [some (.ref s), none] H
  walk_at "go"
  refine ⟨4, rfl, by decide, by decide, fun D nD => ?_⟩
  refine lcR (K := c.K) (lo := 0) (n := 4) (fun _ => true) (fun i => .int ((wordB b i : Nat) : Int)) nD (by decide) (fun i H1 Rk Rs hi s1 hk hn => ?_) (fun H1 acc s1 hD hf => ?_)
  · simp only [wipe, List.set_cons_zero, List.set_cons_succ]
    walk_at "go"
    refine ⟨(by first | exact rfl | exact trivial), ?_⟩
    walk_at "go"
    refine (hs.same s1).fld G ?_
    walk_at "go"
    rw [word_cast]
    exact hk rfl _ H1 (Same.refl _) (.int _)
  · walk_at "go"
    refine r_tuple_l (SqL.of hD) ?_
    intro q nq
    generalize eq : upd H1 q _ = H2
    obtain ⟨sH2, hq, dH2⟩ := new_of nq eq
    refine hQ q acc H2 (s1.trans sH2) (s1.free nq) hq ?_
    show Fds c.K H H2 acc ((nz ((List.range 4).map (wordB b))).map PyData.int)
    rw [words_eq]
    exact hf.to (New.same sH2)
def sp_m_weight (c : Cs) (k : Kd) : Sp := fun vs H Q _ => ∃ (s : Addr) (b : Nat), vs = [.ref s] ∧ SackK c H s k b ∧ b < 2 ^ 256 ∧ ∀ H', Same H H' → Q (.int (weightK k b : Nat)) H'
def fam_weight (c : Cs) (C : Addr) (sp : Sp) : Prop := ∃ k, C = c.kd k ∧ sp = sp_m_weight c k
def sp_RowSack_weight (c : Cs) := sp_m_weight c .row
def sp_RunsSack_weight (c : Cs) := sp_m_weight c .runs
def sp_BitsSack_weight (c : Cs) := sp_m_weight c .bits
theorem len_RowSack_weight (c : Cs) : ∀ vs H Q E, sp_RowSack_weight c vs H Q E → vs.length = (["self"] : List Str).length := by
  rintro vs H Q E ⟨s, b, rfl, _⟩; rfl
/-- RowSack.weight -/
def t_RowSack_weight (c : Cs) (E : XK) : TS :=
  tRet (tCall (sp_count_of c) [] E (tCons (tFld c.K (tVar 0) "bits") (tNil)))
theorem pure_RowSack_weight {c : Cs} (G : Good c) (vs : List V) (H : Hp) (Q : VK) (E : XK) (h : sp_RowSack_weight c vs H Q E) : t_RowSack_weight c E { nx := fun _ H' => Q .non H', rt := Q } (start ["self"] vs) H := by
  obtain ⟨s, b, rfl, hs, hb, hQ⟩ := h
  unfold t_RowSack_weight
  show tRet _ _ [some (.ref s)] H
  walk_at "go"
  refine hs.fld G ?_
  walk_at "go"
  exact ⟨b, rfl, hb, hQ⟩
theorem len_RunsSack_weight (c : Cs) : ∀ vs H Q E, sp_RunsSack_weight c vs H Q E → vs.length = (["self"] : List Str).length := by
  rintro vs H Q E ⟨s, b, rfl, _⟩; rfl
/-- RunsSack.weight -/
def t_RunsSack_weight (c : Cs) (E : XK) : TS :=
  tRet (tOp rMul (tC (.int 2)) (tCB (rLen c.K) (tCons (tMethF (fam_held c) "held" [] E (tVar 0) tNil) (tNil))))
theorem pure_RunsSack_weight {c : Cs} (G : Good c) (vs : List V) (H : Hp) (Q : VK) (E : XK) (h : sp_RunsSack_weight c vs H Q E) : t_RunsSack_weight c E { nx := fun _ H' => Q .non H', rt := Q } (start ["self"] vs) H := by
  obtain ⟨s, b, rfl, hs, hb, hQ⟩ := h
  unfold t_RunsSack_weight
  show tRet _ _ [some (.ref s)] H
  walk_at "go"
  refine hs.at (m := "held") (fam := fam_held c) (dvs := []) ⟨.runs, rfl, rfl⟩ (by decide +kernel) ?_
  walk_at "go"
  refine ⟨s, b, rfl, hs, hb, fun p xs H1 s1 np hp hf => ?_⟩
  walk_at "go"
  refine r_len_t (SqT.of hp) ?_
  walk_at "go"
  have e : (2 : Int) * ((xs.length : Nat) : Int) = ((weightK .runs b : Nat) : Int) := by
    rw [hf.len]
    show (2 : Int) * ((dPairs (runsB b)).length : Int) = ((2 * (runsB b).length : Nat) : Int)
    rw [dPairs_len]; omega
  rw [e]
  exact hQ H1 s1
theorem len_BitsSack_weight (c : Cs) : ∀ vs H Q E, sp_BitsSack_weight c vs H Q E → vs.length = (["self"] : List Str).length := by
  rintro vs H Q E ⟨s, b, rfl, _⟩; rfl
/-- BitsSack.weight -/
def t_BitsSack_weight (c : Cs) (E : XK) : TS :=
  tRet (tC (.int 32))
theorem pure_BitsSack_weight {c : Cs} (G : Good c) (vs : List V) (H : Hp) (Q : VK) (E : XK) (h : sp_BitsSack_weight c vs H Q E) : t_BitsSack_weight c E { nx := fun _ H' => Q .non H', rt := Q } (start ["self"] vs) H := by
  obtain ⟨s, b, rfl, hs, hb, hQ⟩ := h
  exact hQ H (Same.refl _)
def sp_Sack_form (c : Cs) : Sp := fun vs H Q _ => ∃ (s : Addr) (k : Kd) (b : Nat), vs = [.ref s] ∧ SackK c H s k b ∧ b < 2 ^ 256 ∧ GivesT c H Q (formDs k b)
def fam_form (c : Cs) (C : Addr) (sp : Sp) : Prop := ∃ k, C = c.kd k ∧ sp = sp_Sack_form c
theorem len_Sack_form (c : Cs) : ∀ vs H Q E, sp_Sack_form c vs H Q E → vs.length = (["self"] : List Str).length := by
  rintro vs H Q E ⟨s, k, b, rfl, _⟩; rfl
/-- Sack.form -/
def t_Sack_form (c : Cs) (E : XK) : TS :=
  tRet (tTup (tCons (tMethF (fam_kind c) "kind" [] E (tVar 0) tNil) (tCons (tMethF (fam_held c) "held" [] E (tVar 0) tNil) (tNil))))
theorem pure_Sack_form {c : Cs} (G : Good c) (vs : List V) (H : Hp) (Q : VK) (E : XK) (h : sp_Sack_form c vs H Q E) : t_Sack_form c E { nx := fun _ H' => Q .non H', rt := Q } (start ["self"] vs) H := by
  obtain ⟨s, k, b, rfl, hs, hb, hQ⟩ := h
  unfold t_Sack_form
  show tRet _ _ [some (.ref s)] H
  walk_at "go"
  refine hs.at (m := "kind") (fam := fam_kind c) (dvs := []) ⟨k, rfl, rfl⟩ (by decide +kernel) ?_
  walk_at "go"
  refine ⟨s, b, rfl, hs, ?_⟩
  walk_at "go"
  refine hs.at (m := "held") (fam := fam_held c) (dvs := []) ⟨k, rfl, rfl⟩ (by decide +kernel) ?_
  walk_at "go"
  refine ⟨s, b, rfl, hs, hb, fun p xs H1 s1 np hp hf => ?_⟩
  walk_at "go"
  refine ⟨sz5 (by simp), fun q nq => ?_⟩
  generalize eq : upd H1 q _ = H2
  obtain ⟨sH2, hq, dH2⟩ := new_of nq eq
  refine hQ q _ H2 (s1.trans sH2) (s1.free nq) hq (Fds.cons (.str _) (Fds.cons ?_ .nil))
  exact (Fd.tup np hp hf).to (New.same sH2)
def sp_Sack_count (c : Cs) : Sp := fun vs H Q _ => ∃ (s : Addr) (k : Kd) (b : Nat), vs = [.ref s] ∧ SackK c H s k b ∧ b < 2 ^ 256 ∧ ∀ H', Same H H' → Q (.int (popc b : Nat)) H'
theorem len_Sack_count (c : Cs) : ∀ vs H Q E, sp_Sack_count c vs H Q E → vs.length = (["self"] : List Str).length := by
  rintro vs H Q E ⟨s, k, b, rfl, _⟩; rfl
/-- Sack.count -/
def t_Sack_count (c : Cs) (E : XK) : TS :=
  tRet (tCall (sp_count_of c) [] E (tCons (tFld c.K (tVar 0) "bits") (tNil)))
theorem pure_Sack_count {c : Cs} (G : Good c) (vs : List V) (H : Hp) (Q : VK) (E : XK) (h : sp_Sack_count c vs H Q E) : t_Sack_count c E { nx := fun _ H' => Q .non H', rt := Q } (start ["self"] vs) H := by
  obtain ⟨s, k, b, rfl, hs, hb, hQ⟩ := h
  unfold t_Sack_count
  show tRet _ _ [some (.ref s)] H
  walk_at "go"
  refine hs.fld G ?_
  walk_at "go"
  exact ⟨b, rfl, hb, hQ⟩
def sp_Sack_lows (c : Cs) : Sp := fun vs H Q _ => ∃ (s : Addr) (k : Kd) (b : Nat), vs = [.ref s] ∧ SackK c H s k b ∧ b < 2 ^ 256 ∧ ∀ (p : Addr) (H' : Hp), Same H H' → H p = none → H' p = some (.lst ((nz (bitsOf b)).map V.int)) → Q (.ref p) H'
def fam_lows (c : Cs) (C : Addr) (sp : Sp) : Prop := ∃ k, C = c.kd k ∧ sp = sp_Sack_lows c
theorem len_Sack_lows (c : Cs) : ∀ vs H Q E, sp_Sack_lows c vs H Q E → vs.length = (["self"] : List Str).length := by
  rintro vs H Q E ⟨s, k, b, rfl, _⟩; rfl
/-- Sack.lows -/
def t_Sack_lows (c : Cs) (E : XK) : TS :=
  tRet (tCall (sp_lows_of c) [] E (tCons (tFld c.K (tVar 0) "bits") (tNil)))
theorem pure_Sack_lows {c : Cs} (G : Good c) (vs : List V) (H : Hp) (Q : VK) (E : XK) (h : sp_Sack_lows c vs H Q E) : t_Sack_lows c E { nx := fun _ H' => Q .non H', rt := Q } (start ["self"] vs) H := by
  obtain ⟨s, k, b, rfl, hs, hb, hQ⟩ := h
  unfold t_Sack_lows
  show tRet _ _ [some (.ref s)] H
  walk_at "go"
  refine hs.fld G ?_
  walk_at "go"
  exact ⟨b, rfl, hb, hQ⟩
/-! ### a sack is made -/
def sp_Sack___init__ (c : Cs) (C : Addr) : Sp := fun vs H Q _ => ∃ (x dx : Addr) (k : Kd) (b : Nat), vs = [.ref x, .int (b : Int)] ∧ C = c.kd k ∧ H x = some (.ins C dx []) ∧ Q .non (upd H x (.ins C dx [("bits", .int (b : Int))]))
theorem len_Sack___init__ (c : Cs) (C : Addr) : ∀ vs H Q E, sp_Sack___init__ c C vs H Q E → vs.length = (["self", "bits"] : List Str).length := by
  rintro vs H Q E ⟨x, dx, k, b, rfl, _⟩; rfl
/-- Sack.__init__ -/
def t_Sack___init__ (c : Cs) (E : XK) : TS :=
  sFld c.K (tVar 0) (tVar 1) "bits"
theorem pure_Sack___init__ {c : Cs} (G : Good c) (C : Addr) (vs : List V) (H : Hp) (Q : VK) (E : XK) (h : sp_Sack___init__ c C vs H Q E) : t_Sack___init__ c E { nx := fun _ H' => Q .non H', rt := Q } (start ["self", "bits"] vs) H := by
  obtain ⟨x, dx, k, b, rfl, rfl, hx, hQ⟩ := h
  exact ⟨_, rfl, _, rfl, x, _, dx, [], rfl, hx, G.cl k, G.na k, by decide, hQ⟩
/-- behind C(bits) -/
theorem mk_sack {c : Cs} {H1 : Hp} {k : Kd} {b : Nat} {Q : Addr → Hp → Prop} {E : XK} (q : ∀ (x : Addr) (H2 : Hp), H1 x = none → Same H1 H2 → SackK c H2 x k b → (∀ y, H2 y = none → H1 y = none) → Q x H2) :
    ∀ x dx, H1 x = none → H1 dx = none → dx ≠ x → sp_Sack___init__ c (c.kd k) (.ref x :: ([V.int (b : Int)] ++ [])) (upd (upd H1 dx (.own x)) x (.ins (c.kd k) dx [])) (fun v H2 => v = .non ∧ Q x H2) E := by
  intro x dx nx ndx ne
  refine ⟨x, dx, k, b, rfl, rfl, upd_same, rfl, q x _ nx ?_ ⟨dx, upd_same⟩ ?_⟩
  · intro a o h
    rw [upd_ne (ne_of_none h nx), upd_ne (ne_of_none h nx), upd_ne (ne_of_none h ndx)]
    exact h
  · intro y hy
    by_cases c1 : y = x
    · subst c1; exact nx
    · rw [upd_ne c1, upd_ne c1] at hy
      by_cases c2 : y = dx
      · subst c2; exact ndx
      · rw [upd_ne c2] at hy; exact hy
def sp_least_sack (c : Cs) : Sp := fun vs H Q _ => ∃ b : Nat, vs = [.int (b : Int)] ∧ b < 2 ^ 256 ∧ (b = 0 → Q .non H) ∧ (0 < b → ∀ (x : Addr) (H' : Hp), Same H H' → H x = none → SackK c H' x (kdB b) b → Q (.ref x) H')
theorem len_least_sack (c : Cs) : ∀ vs H Q E, sp_least_sack c vs H Q E → vs.length = (["bits"] : List Str).length := by
  rintro vs H Q E ⟨b, rfl, _⟩; rfl
/-- least_sack -/
def t_least_sack (c : Cs) (E : XK) : TS :=
  tSeq (tIfS (tTest (tOp (rEqu c.K) (tVar 0) (tC (.int 0)))) (tRet (tC .non)) (tNext))
    (tSeq (tAsg (tMake c.row (sp_Sack___init__ c c.row) [] E (tCons (tVar 0) (tNil))) (gName 1))
    (tSeq (tFor (iSeq c.K (tTup (tCons (tMake c.runs (sp_Sack___init__ c c.runs) [] E (tCons (tVar 0) (tNil))) (tCons (tMake c.bits (sp_Sack___init__ c c.bits) [] E (tCons (tVar 0) (tNil))) (tNil))))) (gName 2) (tIfS (tTest (tOp (rLt) (tMethF (fam_weight c) "weight" [] E (tVar 2) tNil) (tMethF (fam_weight c) "weight" [] E (tVar 1) tNil))) (tAsg (tVar 2) (gName 1)) (tNext)))
    (tRet (tVar 1))))
/-- the kind behind i of the two others -/
def bestK (b : Nat) : Nat → Kd
  | 0 => .row
  | 1 => if weightK .runs b < weightK .row b then .runs else .row
  | _ => if weightK .bits b < weightK (if weightK .runs b < weightK .row b then .runs else .row) b then .bits else if weightK .runs b < weightK .row b then .runs else .row
theorem best_2 (b : Nat) : bestK b 2 = kdB b := by
  have e : bestK b 2 = if 32 < weightK (if 2 * (runsB b).length < popc b then .runs else .row) b then Kd.bits else if 2 * (runsB b).length < popc b then .runs else .row := rfl
  rw [e]
  unfold kdB
  by_cases h : 2 * (runsB b).length < popc b
  · rw [if_pos h, if_neg (show ¬ (popc b ≤ 2 * (runsB b).length ∧ popc b ≤ 32) by omega)]
    have w : weightK .runs b = 2 * (runsB b).length := rfl
    rw [w]
    by_cases h2 : 2 * (runsB b).length ≤ 32
    · rw [if_neg (by omega), if_pos h2]
    · rw [if_pos (by omega), if_neg h2]
  · rw [if_neg h]
    have w : weightK .row b = popc b := rfl
    rw [w]
    by_cases h2 : popc b ≤ 32
    · rw [if_neg (by omega), if_pos ⟨by omega, h2⟩]
    · rw [if_pos (by omega), if_neg (by omega), if_neg (by omega)]
theorem pure_least_sack {c : Cs} (G : Good c) (vs : List V) (H : Hp) (Q : VK) (E : XK) (h : sp_least_sack c vs H Q E) : t_least_sack c E { nx := fun _ H' => Q .non H', rt := Q } (start ["bits", "found", "other"] vs) H := by
  obtain ⟨b, rfl, hb, h0, hQ⟩ := h
  unfold t_least_sack
  show tSeq _ _ _ [some (.int (b : Int)), none, none] H
  walk_at "go"
  refine if_d (fun z => ?_) (fun z => ?_)
  · walk_at "go"
    exact h0 (by omega)
  walk_at "go"
  refine mk_sack (c := c) (k := .row) fun x H1 nx s1 hx d1 => ?_
  walk_at "go"
  refine .inr (.inl ?_)
  show tTup _ _ _ _
  walk_at "go"
  refine mk_sack (c := c) (k := .runs) fun y H2 ny s2 hy d2 => ?_
  walk_at "go"
  refine mk_sack (c := c) (k := .bits) fun u H3 nu s3 hu d3 => ?_
  walk_at "go"
  refine ⟨sz5 (by simp), fun t nt => ?_⟩
  generalize et : upd H3 t _ = H4
  obtain ⟨sH4, ht, dH4⟩ := new_of nt et
  have hxx : SackK c H4 x .row b := ((hx.same s2).same s3).same sH4
  have hyy : SackK c H4 y .runs b := (hy.same s3).same sH4
  have huu : SackK c H4 u .bits b := hu.same sH4
  refine ⟨t, rfl, ⟨_, SqT.of ht⟩, for_tup (K := c.K) (a := t) (xs := [.ref y, .ref u]) (fun i σ H5 => ∃ (v : Option V) (r : Addr), σ = [some (.int (b : Int)), some (.ref r), v] ∧ Same H4 H5 ∧ H r = none ∧ SackK c H5 r (bestK b i) b)
    ⟨none, x, rfl, Same.refl _, nx, hxx⟩ (fun i σ H5 _ ⟨_, _, _, s, _⟩ => s.tup (SqT.of ht)) ?_ ?_⟩
  · rintro i v σ H5 hi ⟨v0, r, rfl, s5, nr, hr⟩
    obtain ⟨w, kw, hw, nw, rfl, hbest⟩ : ∃ w kw, SackK c H5 w kw b ∧ H w = none ∧ v = .ref w ∧ bestK b (i + 1) = if weightK kw b < weightK (bestK b i) b then kw else bestK b i := by
      match i, hi with
      | 0, hi => exact ⟨y, .runs, hyy.same s5, s1.free ny, (Option.some.inj hi).symm, rfl⟩
      | 1, hi => exact ⟨u, .bits, huu.same s5, s1.free (s2.free nu), (Option.some.inj hi).symm, rfl⟩
      | n + 2, hi => simp at hi
    walk_at "go"
    refine hw.at (m := "weight") (fam := fam_weight c) (dvs := []) ⟨kw, rfl, rfl⟩ (by decide +kernel) ?_
    walk_at "go"
    refine ⟨w, b, rfl, hw, hb, fun H6 s6 => ?_⟩
    walk_at "go"
    refine (hr.same s6).at (m := "weight") (fam := fam_weight c) (dvs := []) ⟨bestK b i, rfl, rfl⟩ (by decide +kernel) ?_
    walk_at "go"
    refine ⟨r, b, rfl, hr.same s6, hb, fun H7 s7 => ?_⟩
    walk_at "go"
    refine if_d (fun z => ?_) (fun z => ?_)
    · walk_at "go"
      exact ⟨_, w, rfl, (s5.trans s6).trans s7, nw, by rw [hbest, if_pos (by omega)]; exact (hw.same s6).same s7⟩
    · walk_at "go"
      exact ⟨_, r, rfl, (s5.trans s6).trans s7, nr, by rw [hbest, if_neg (by omega)]; exact (hr.same s6).same s7⟩
  · rintro σ H5 ⟨v0, r, rfl, s5, nr, hr⟩
    walk_at "go"
    refine hQ (by omega) r H5 (((s1.trans s2).trans s3).trans (sH4.trans s5)) nr ?_
    rw [← best_2]
    exact hr
/-! ### sack_of -/
/-- a thing whose class is known -/
inductive Kn (H : Hp) : V → Prop where
  | non : Kn H .non
  | bl (b : Bool) : Kn H (.bl b)
  | int (i : Int) : Kn H (.int i)
  | str (x : Str) : Kn H (.str x)
  | tup {p : Addr} {xs : List V} (h : H p = some (.tup xs)) : Kn H (.ref p)
  | lst {p : Addr} {xs : List V} (h : H p = some (.lst xs)) : Kn H (.ref p)
  | dK {p : Addr} {xs : List (Key × V)} (h : H p = some (.dK xs)) : Kn H (.ref p)
theorem Kn.same {H H' : Hp} {x : V} (k : Kn H x) (s : Same H H') : Kn H' x := by
  cases k with
  | non => exact .non
  | bl b => exact .bl b
  | int i => exact .int i
  | str x => exact .str x
  | tup h => exact .tup (s _ _ h)
  | lst h => exact .lst (s _ _ h)
  | dK h => exact .dK (s _ _ h)
def isI : V → Bool
  | .int _ => true
  | .bl _ => true
  | _ => false
def isB : V → Bool
  | .bl _ => true
  | _ => false
section
variable {K : PySem.W.Frag} {H : Hp} {Q : VK} {x : V}
theorem r_isi_kn_int (k : Kn H x) (q : Q (.bl (isI x)) H) : rIsiU K [x, .ty "int"] H Q := by
  cases k with
  | non => exact r_isi (b := false) (.base .non) (by decide +kernel) q
  | bl b => exact r_isi (b := true) (.base (.bl b)) (by decide +kernel) q
  | int i => exact r_isi (b := true) (.base (.int i)) (by decide +kernel) q
  | str x => exact r_isi (b := false) (.base (.str x)) (by decide +kernel) q
  | tup h => exact r_isi (b := false) (.base (.tup h)) (by decide +kernel) q
  | lst h => exact r_isi (b := false) (.base (.lst h)) (by decide +kernel) q
  | dK h => exact r_isi (b := false) (.base (.dK h)) (by decide +kernel) q
theorem r_isi_kn_bool (k : Kn H x) (q : Q (.bl (isB x)) H) : rIsiU K [x, .ty "bool"] H Q := by
  cases k with
  | non => exact r_isi (b := false) (.base .non) (by decide +kernel) q
  | bl b => exact r_isi (b := true) (.base (.bl b)) (by decide +kernel) q
  | int i => exact r_isi (b := false) (.base (.int i)) (by decide +kernel) q
  | str x => exact r_isi (b := false) (.base (.str x)) (by decide +kernel) q
  | tup h => exact r_isi (b := false) (.base (.tup h)) (by decide +kernel) q
  | lst h => exact r_isi (b := false) (.base (.lst h)) (by decide +kernel) q
  | dK h => exact r_isi (b := false) (.base (.dK h)) (by decide +kernel) q
end
def lowN : V → Nat
  | .int i => i.toNat
  | _ => 0
def orV (xs : List V) : Nat := xs.foldl (fun b x => b ||| 2 ^ lowN x) 0
theorem orV_snoc (xs : List V) (x : V) : orV (xs ++ [x]) = orV xs ||| 2 ^ lowN x := by unfold orV; rw [List.foldl_append]; rfl
theorem orV_bit (xs : List V) (i : Nat) : (orV xs).testBit i = xs.any fun x => decide (lowN x = i) := by
  have : ∀ (xs : List V) (b : Nat), (xs.foldl (fun b x => b ||| 2 ^ lowN x) b).testBit i = (b.testBit i || xs.any fun x => decide (lowN x = i)) := by
    intro xs
    induction xs with
    | nil => intro b; simp
    | cons x xs ih => intro b; rw [List.foldl_cons, ih, Nat.testBit_or, Nat.testBit_two_pow, List.any_cons, Bool.or_assoc]
  unfold orV
  rw [this]; simp
/-! ### what the laws draw -/
def cellV (ns : List Int) (k : Int) : Int := if ns = [] then 0 else ns.getD (k % ns.length).toNat 0
def cellA (ns : List Int) (k : Int) : Int := (cellV ns k * 48271 + 7919 * k * k + 104729 * k + 11) % 2147483647
def cellB (ns : List Int) (k : Int) : Int := cellA ns k * cellA ns k % 2147483629 * 69621 % 2147483647
def cellN (ns : List Int) (k : Int) : Nat := (cellB ns k * cellB ns k % 2147483587 * 2147483647 + cellB ns k).toNat
theorem cellB_lt (ns : List Int) (k : Int) : 0 ≤ cellB ns k ∧ cellB ns k < 2147483647 := by unfold cellB; omega
theorem cellN_eq (ns : List Int) (k : Int) : ((cellN ns k : Nat) : Int) = cellB ns k * cellB ns k % 2147483587 * 2147483647 + cellB ns k := by
  unfold cellN
  have := cellB_lt ns k
  generalize cellB ns k * cellB ns k = x
  omega
theorem cellN_lt (ns : List Int) (k : Int) : cellN ns k < 4611686018427387904 := by
  unfold cellN
  have := cellB_lt ns k
  generalize cellB ns k * cellB ns k = x
  omega
def sp__law_cell_at (c : Cs) : Sp := fun vs H Q _ => ∃ (a : Addr) (ns : List Int) (k : Int), vs = [.ref a, .int k] ∧ SqL c.K H a (ns.map V.int) ∧ 0 ≤ k ∧ k ≤ 1000000 ∧ Q (.int (cellN ns k : Nat)) H
theorem len__law_cell_at (c : Cs) : ∀ vs H Q E, sp__law_cell_at c vs H Q E → vs.length = (["_law_script", "_law_k"] : List Str).length := by
  rintro vs H Q E ⟨a, ns, k, rfl, _⟩; rfl
/-- _law_cell_at -/
def t__law_cell_at (c : Cs) (E : XK) : TS :=
  tSeq (tAsg (tC (.int 0)) (gName 2))
    (tSeq (tIfS (tTest (tOp (rGt) (tCB (rLen c.K) (tCons (tVar 0) (tNil))) (tC (.int 0)))) (tAsg (tOp (rIx c.K) (tVar 0) (tOp rMod (tVar 1) (tCB (rLen c.K) (tCons (tVar 0) (tNil))))) (gName 2)) (tNext))
    (tSeq (tAsg (tOp rMod (tOp rAdd (tOp rAdd (tOp rAdd (tOp rMul (tVar 2) (tC (.int 48271))) (tOp rMul (tOp rMul (tC (.int 7919)) (tVar 1)) (tVar 1))) (tOp rMul (tC (.int 104729)) (tVar 1))) (tC (.int 11))) (tC (.int 2147483647))) (gName 3))
    (tSeq (tAsg (tOp rMod (tOp rMul (tOp rMod (tOp rMul (tVar 3) (tVar 3)) (tC (.int 2147483629))) (tC (.int 69621))) (tC (.int 2147483647))) (gName 4))
    (tRet (tOp rAdd (tOp rMul (tOp rMod (tOp rMul (tVar 4) (tVar 4)) (tC (.int 2147483587))) (tC (.int 2147483647))) (tVar 4))))))
theorem pure__law_cell_at {c : Cs} (G : Good c) (vs : List V) (H : Hp) (Q : VK) (E : XK) (h : sp__law_cell_at c vs H Q E) : t__law_cell_at c E { nx := fun _ H' => Q .non H', rt := Q } (start ["_law_script", "_law_k", "_law_cell", "_law_one", "_law_two"] vs) H := by
  obtain ⟨a, ns, k, rfl, ha, h0, h1, hQ⟩ := h
  unfold t__law_cell_at
  show tSeq _ _ _ [some (.ref a), some (.int k), none, none, none] H
  walk_at "go"
  refine r_len_l ha ?_
  walk_at "go"
  have hq2 : Q (.int (cellB ns k * cellB ns k % 2147483587 * 2147483647 + cellB ns k)) H := by rw [← cellN_eq]; exact hQ
  refine if_d (fun z => ?_) (fun z => ?_)
  · walk_at "go"
    refine r_len_l ha ?_
    walk_at "go"
    have hl : 0 < ns.length := by rw [List.length_map] at z; omega
    have m0 : 0 ≤ k % (ns.length : Int) := Int.emod_nonneg _ (by omega)
    have m1 : k % (ns.length : Int) < ns.length := Int.emod_lt_of_pos _ (by omega)
    rw [List.length_map]
    obtain ⟨j, hj⟩ := Int.eq_ofNat_of_zero_le m0
    have hjl : j < ns.length := by omega
    refine r_ixL ha (v := .int (cellV ns k)) ?_ ?_
    · rw [hj]
      refine atI_nat ?_
      rw [List.getElem?_map, List.getElem?_eq_getElem hjl]
      unfold cellV
      rw [if_neg (by intro e; rw [e] at hl; simp at hl), hj]
      simp [List.getD, List.getElem?_eq_getElem hjl]
    · walk_at "go"
      exact hq2
  · walk_at "go"
    have e0 : cellV ns k = 0 := by
      unfold cellV
      rw [if_pos]
      rw [List.length_map] at z
      exact List.eq_nil_of_length_eq_zero (by omega)
    unfold cellB cellA at hq2
    rw [e0] at hq2
    exact hq2
def sp__law_plain (c : Cs) : Sp := fun vs H Q _ => ∃ x, vs = [x] ∧ Kn H x ∧ Q (.bl (isI x && !isB x)) H
theorem len__law_plain (c : Cs) : ∀ vs H Q E, sp__law_plain c vs H Q E → vs.length = (["_law_thing"] : List Str).length := by
  rintro vs H Q E ⟨x, rfl, _⟩; rfl
/-- _law_plain -/
def t__law_plain (c : Cs) (E : XK) : TS :=
  tRet (tAndV (tCB (rIsiU c.K) (tCons (tVar 0) (tCons (tC (.ty "int")) (tNil)))) (tNotV (tCB (rIsiU c.K) (tCons (tVar 0) (tCons (tC (.ty "bool")) (tNil))))))
theorem pure__law_plain {c : Cs} (G : Good c) (vs : List V) (H : Hp) (Q : VK) (E : XK) (h : sp__law_plain c vs H Q E) : t__law_plain c E { nx := fun _ H' => Q .non H', rt := Q } (start ["_law_thing"] vs) H := by
  obtain ⟨x, rfl, hk, hQ⟩ := h
  unfold t__law_plain
  show tRet _ _ [some x] H
  walk_at "go"
  refine r_isi_kn_int hk ?_
  walk_at "go"
  refine if_b (fun z => ?_) (fun z => ?_)
  · walk_at "go"
    refine r_isi_kn_bool hk ?_
    walk_at "go"
    rw [z, Bool.true_and] at hQ
    exact hQ
  · rw [z, Bool.false_and] at hQ
    exact hQ
def sp__law_lows (c : Cs) : Sp := fun vs H Q _ => ∃ b : Nat, vs = [.int (b : Int)] ∧ b < 2 ^ 8192 ∧ ∀ (p : Addr) (H' : Hp), Same H H' → H p = none → H' p = some (.lst ((nz (bitsOf b)).map V.int)) → Q (.ref p) H'
theorem len__law_lows (c : Cs) : ∀ vs H Q E, sp__law_lows c vs H Q E → vs.length = (["_law_bits_here"] : List Str).length := by
  rintro vs H Q E ⟨b, rfl, _⟩; rfl
/-- _law_lows -/
def t__law_lows (c : Cs) (E : XK) : TS :=
  tSeq (tAsg (tLst (tNil)) (gName 1))
    (tSeq (tWhile (tTest (tOp (rGt) (tVar 0) (tC (.int 0)))) (tSeq (tDrop (tBM c.K "list" rAppend (tVar 1) (tCons (tOp rSub (tBits (tOp rBan (tVar 0) (tUn rNeg (tVar 0)))) (tC (.int 1))) (tNil))))
    (tAug 0 (tOp rSub (tVar 0) (tC (.int 1))) pBan)))
    (tRet (tVar 1)))
theorem sub_one {b : Nat} (h : 0 < b) : (b : Int) - 1 = ((b - 1 : Nat) : Int) := by omega
theorem pure__law_lows {c : Cs} (G : Good c) (vs : List V) (H : Hp) (Q : VK) (E : XK) (h : sp__law_lows c vs H Q E) : t__law_lows c E { nx := fun _ H' => Q .non H', rt := Q } (start ["_law_bits_here", "_law_found"] vs) H := by
  obtain ⟨b0, rfl, hb, hQ⟩ := h
  have hb0 := bitsOf_len hb
  clear hb
  unfold t__law_lows
  show tSeq _ _ _ [some (.int (b0 : Int)), none] H
  walk_at "go"
  refine ⟨sz5 (by decide), fun p np => ?_⟩
  walk_at "go"
  refine w_while (fun m σ H1 => ∃ (b : Nat) (acc : List Nat), m = b ∧ σ = [some (.int (b : Int)), some (.ref p)] ∧ Same H H1 ∧ H1 p = some (.lst ((nz acc).map V.int)) ∧ acc ++ bitsOf b = bitsOf b0) b0
    ⟨b0, [], rfl, rfl, (new_of np rfl).1, upd_same, rfl⟩ ?_
  rintro m σ H1 ⟨b, acc, rfl, rfl, s, hp, he⟩
  walk_at "go"
  refine if_d (fun h0 => ?_) (fun h0 => ?_)
  · have h0 : 0 < m := by omega
    refine w_body ?_
    walk_at "go"
    refine ⟨tyL hp, ?_⟩
    walk_at "go"
    rw [and_neg h0, bits_pow]
    have hl : acc.length ≤ 8192 := by
      have := congrArg List.length he
      rw [List.length_append] at this
      omega
    refine r_append hp (by rw [nzv_len]; exact sl5 (by omega)) ?_
    walk_at "go"
    have e1 : (((tz m + 1 : Nat) : Int) - 1) = ((tz m : Nat) : Int) := by omega
    rw [e1, sub_one h0, and_cast]
    refine ⟨clr m, clr_lt h0, clr m, acc ++ [tz m], rfl, rfl, s.mut np, ?_, ?_⟩
    · rw [upd_same, nz_app, List.map_append]; rfl
    · rw [List.append_assoc, ← he, bitsOf_clr h0]; rfl
  · have h0 : m = 0 := by omega
    subst h0
    walk_at "go"
    rw [bitsOf_zero, List.append_nil] at he
    exact hQ p H1 s np (by rw [hp, he])
/-! ### runs by a rising list -/
def sp__law_runs (c : Cs) : Sp := fun vs H Q _ => ∃ (a : Addr) (l : List Nat), vs = [.ref a] ∧ SqL c.K H a ((nz l).map V.int) ∧ l.length ≤ 50000 ∧ GivesL c H Q (dPairs (runsL l))
theorem len__law_runs (c : Cs) : ∀ vs H Q E, sp__law_runs c vs H Q E → vs.length = (["_law_lows_here"] : List Str).length := by
  rintro vs H Q E ⟨a, l, rfl, _⟩; rfl
/-- _law_runs -/
def t__law_runs (c : Cs) (E : XK) : TS :=
  tSeq (tAsg (tLst (tNil)) (gName 1))
    (tSeq (tFor (iSeq c.K (tVar 0)) (gName 2) (tIfS (tAnd (tTest (tOp (rNeu c.K) (tVar 1) (tLst (tNil)))) (tTest (tOp (rEqu c.K) (tOp rAdd (tOp (rIx c.K) (tOp (rIx c.K) (tVar 1) (tUn rNeg (tC (.int 1)))) (tC (.int 1))) (tC (.int 1))) (tVar 2)))) (tAsg (tTup (tCons (tOp (rIx c.K) (tOp (rIx c.K) (tVar 1) (tUn rNeg (tC (.int 1)))) (tC (.int 0))) (tCons (tVar 2) (tNil)))) (gSub (tVar 1) (tUn rNeg (tC (.int 1))) rSetL)) (tDrop (tBM c.K "list" rAppend (tVar 1) (tCons (tTup (tCons (tVar 2) (tCons (tVar 2) (tNil)))) (tNil))))))
    (tRet (tVar 1)))
theorem eqv_nil (ds : List PyData) : PyData.eqv (.list ds) (.list []) = ds.isEmpty := by cases ds <;> rfl
theorem dPairs_snoc_inv {K : PySem.W.Frag} {H H' : Hp} {xs : List V} {l : List Pr} {q : Pr} (h : Fds K H H' xs (dPairs (l ++ [q]))) : ∃ ys t, xs = ys ++ [.ref t] ∧ SqT K H' t [.int (q.1 : Int), .int (q.2 : Int)] ∧ Fds K H H' ys (dPairs l) := by
  have hl := h.len
  rw [dPairs_app, List.length_append] at hl
  have hne : xs ≠ [] := by intro e; subst e; simp [dPairs] at hl
  obtain ⟨ys, v, rfl⟩ : ∃ ys v, xs = ys ++ [v] := ⟨xs.dropLast, xs.getLast hne, (List.dropLast_concat_getLast hne).symm⟩
  have hl2 : ys.length = (dPairs l).length := by simp [dPairs] at hl ⊢; omega
  have split : ∀ H'', New H H' H'' → DpAll K H'' ys (dPairs l) ∧ Dp K H'' v (.tuple [.int (q.1 : Int), .int (q.2 : Int)]) := by
    intro H'' n
    have a := h H'' n
    rw [dPairs_app] at a
    exact dpa_split hl2 a
  obtain ⟨_, d⟩ := split H' New.refl
  obtain ⟨t, zs, rfl, ht, hz⟩ := d.tup_inv
  have : zs = [.int (q.1 : Int), .int (q.2 : Int)] := dpa_ints_inv (ns := [(q.1 : Int), (q.2 : Int)]) hz
  subst this
  exact ⟨ys, t, rfl, ht, fun H'' n => (split H'' n).1⟩
theorem pure__law_runs {c : Cs} (G : Good c) (vs : List V) (H : Hp) (Q : VK) (E : XK) (h : sp__law_runs c vs H Q E) : t__law_runs c E { nx := fun _ H' => Q .non H', rt := Q } (start ["_law_lows_here", "_law_found", "_law_low"] vs) H := by
  obtain ⟨a, l, rfl, ha, hl, hQ⟩ := h
  unfold t__law_runs
  show tSeq _ _ _ [some (.ref a), none, none] H
  walk_at "go"
  refine ⟨sz5 (by decide), fun p np => ?_⟩
  walk_at "go"
  generalize e1 : upd H p _ = H1
  obtain ⟨s1, hp1, d1⟩ := new_of np e1
  refine .inl ?_
  show tVar _ _ _ _
  walk_at "go"
  refine ⟨a, rfl, ⟨_, s1.seq ha⟩, for_list (K := c.K) (a := a) (xs := (nz l).map V.int) (fun i σ H2 => ∃ (xs : List V) (v : Option V), σ = [some (.ref a), some (.ref p), v] ∧ Same H H2 ∧ H2 p = some (.lst xs) ∧ (∀ q, H2 q = none → H1 q = none) ∧ Fds c.K H1 H2 xs (dPairs (runsL (l.take i))))
    ⟨[], none, rfl, s1, hp1, fun _ q => q, Fds.nil⟩ (fun i σ H2 _ ⟨_, _, _, s, _⟩ => s.seq ha) ?_ ?_⟩
  · rintro i x σ H2 hi ⟨xs, v, rfl, s, hp, dom, hf⟩
    obtain ⟨n, hn, rfl⟩ := nz_get hi
    have il := (List.getElem?_eq_some_iff.mp hn).1
    have tk := take_more hn
    have rl := runsL_len _ (l.take i) rfl
    rw [List.length_take] at rl
    have xl := hf.len
    rw [dPairs_len] at xl
    -- behind the turn
    have fin : ∀ (H4 : Hp) (acc : List V), Same H2 H4 → H4 p = some (.lst acc) → True := fun _ _ _ _ => trivial
    walk_at "go"
    refine ⟨sz5 (by simp), fun q nq => ?_⟩
    generalize eq : upd H2 q _ = H3
    obtain ⟨sH3, hq, dH3⟩ := new_of nq eq
    walk_at "go"
    refine r_ned (.lst (SqL.of (sH3 _ _ hp)) (hf.now.ext sH3)) (.lst (SqL.of hq) .nil) (Sm.list (n := 2) fun d hd => (Sm.pairs (n := 0) _ d hd).mono (by decide)).shaped (Sm.list (n := 0) (fun d hd => by cases hd)).shaped ?_
    rw [eqv_nil]
    walk_at "go"
    have hp3 := sH3 _ _ hp
    have hf3 := hf.to (New.same sH3)
    have dom3 : ∀ b, H3 b = none → H1 b = none := fun b z => dom b (dH3 b z)
    have addnew : (runsL (l.take (i + 1)) = runsL (l.take i) ++ [(n, n)]) → tDrop (tBM c.K "list" rAppend (tVar 1) (tCons (tTup (tCons (tVar 2) (tCons (tVar 2) (tNil)))) (tNil)))
        { nx := fun σ H2 => ∃ (xs : List V) (v : Option V), σ = [some (.ref a), some (.ref p), v] ∧ Same H H2 ∧ H2 p = some (.lst xs) ∧ (∀ q, H2 q = none → H1 q = none) ∧ Fds c.K H1 H2 xs (dPairs (runsL (l.take (i + 1)))), rt := Q, bk := tRet (tVar 1) { nx := fun _ H' => Q .non H', rt := Q }, ct := fun σ H2 => ∃ (xs : List V) (v : Option V), σ = [some (.ref a), some (.ref p), v] ∧ Same H H2 ∧ H2 p = some (.lst xs) ∧ (∀ q, H2 q = none → H1 q = none) ∧ Fds c.K H1 H2 xs (dPairs (runsL (l.take (i + 1)))) } [some (.ref a), some (.ref p), some (.int (n : Int))] H3 := by
      intro er
      walk_at "go"
      refine ⟨tyL hp3, ?_⟩
      walk_at "go"
      refine ⟨sz5 (by simp), fun t nt => ?_⟩
      generalize et : upd H3 t _ = H4
      obtain ⟨sH4, ht, dH4⟩ := new_of nt et
      walk_at "go"
      refine r_append (sH4 _ _ hp3) (sl5 (by omega)) ?_
      refine ⟨xs ++ [.ref t], _, rfl, ((s.trans sH3).trans sH4).mut np, upd_same, dom_mut (fun b z => dom3 b (dH4 b z)) (by rw [sH4 _ _ hp3]; simp), ?_⟩
      rw [er, dPairs_app]
      refine Fds.snoc ((hf3.to (New.same sH4)).to (New.mut hp1 New.refl)) ?_
      exact (Fd.tup (dom3 _ nt) ht (Fds.cons (.int _) (Fds.cons (.int _) .nil))).to (New.mut hp1 New.refl)
    by_cases e0 : runsL (l.take i) = []
    · rw [e0]
      refine if_f rfl ?_
      refine if_f rfl ?_
      refine addnew ?_
      rw [tk, runsL_snoc, e0]; rfl
    · obtain ⟨rs, r, er⟩ : ∃ rs r, runsL (l.take i) = rs ++ [r] := ⟨_, _, (List.dropLast_concat_getLast e0).symm⟩
      rw [er] at hf3
      obtain ⟨ys, t, rfl, ht, hys⟩ := dPairs_snoc_inv hf3
      refine if_t (by rw [er]; simp [dPairs]) ?_
      walk_at "go"
      refine r_ixL (SqL.of hp3) (atI_last _ _) ?_
      walk_at "go"
      refine r_ixT ht (atI_nat (j := 1) rfl) ?_
      walk_at "go"
      refine if_d (fun z => ?_) (fun z => ?_)
      · walk_at "go"
        refine r_ixL (SqL.of hp3) (atI_last _ _) ?_
        walk_at "go"
        refine r_ixT ht (atI_nat (j := 0) rfl) ?_
        walk_at "go"
        refine ⟨sz5 (by simp), fun u nu => ?_⟩
        generalize eu : upd H3 u _ = H4
        obtain ⟨sH4, hu, dH4⟩ := new_of nu eu
        walk_at "go"
        refine ⟨p, _, _, ys.length, rfl, rfl, sH4 _ _ hp3, ?_, ?_⟩
        · unfold ixN
          rw [if_neg (by omega), if_pos (by simp; omega)]
          simp; omega
        · have e9 : (ys ++ [V.ref t]).set ys.length (.ref u) = ys ++ [.ref u] := by simp
          rw [e9]
          refine ⟨ys ++ [.ref u], _, rfl, ((s.trans sH3).trans sH4).mut np, upd_same, dom_mut (fun b z => dom3 b (dH4 b z)) (by rw [sH4 _ _ hp3]; simp), ?_⟩
          rw [tk, runsL_snoc, er, stepR_snoc, if_pos (by omega), dPairs_app]
          refine Fds.snoc ((hys.to (New.same sH4)).to (New.mut hp1 New.refl)) ?_
          exact (Fd.tup (dom3 _ nu) hu (Fds.cons (.int _) (Fds.cons (.int _) .nil))).to (New.mut hp1 New.refl)
      · refine addnew ?_
        rw [tk, runsL_snoc, er, stepR_snoc, if_neg (by omega)]
  · rintro σ H2 ⟨xs, v, rfl, s, hp, dom, hf⟩
    walk_at "go"
    rw [nzv_len, List.take_length] at hf
    exact hQ p xs H2 s np hp (hf.left d1)
def sp__law_form (c : Cs) : Sp := fun vs H Q _ => ∃ b : Nat, vs = [.int (b : Int)] ∧ b < 2 ^ 256 ∧ GivesT c H Q [formD b, .int (weightK (kdB b) b : Nat)]
theorem len__law_form (c : Cs) : ∀ vs H Q E, sp__law_form c vs H Q E → vs.length = (["_law_bits_here"] : List Str).length := by
  rintro vs H Q E ⟨b, rfl, _⟩; rfl
/-- _law_form -/
def t__law_form (c : Cs) (E : XK) : TS :=
  tSeq (tAsg (tCall (sp__law_lows c) [] E (tCons (tVar 0) (tNil))) (gName 1))
    (tSeq (tAsg (tCall (sp__law_runs c) [] E (tCons (tVar 1) (tNil))) (gName 2))
    (tSeq (tIfS (tAnd (tTest (tOp (rLe) (tCB (rLen c.K) (tCons (tVar 1) (tNil))) (tOp rMul (tC (.int 2)) (tCB (rLen c.K) (tCons (tVar 2) (tNil)))))) (tTest (tOp (rLe) (tCB (rLen c.K) (tCons (tVar 1) (tNil))) (tC (.int 32))))) (tRet (tTup (tCons (tTup (tCons (tC (.str "row")) (tCons (tCB (rTuple c.K) (tCons (tVar 1) (tNil))) (tNil)))) (tCons (tCB (rLen c.K) (tCons (tVar 1) (tNil))) (tNil))))) (tNext))
    (tSeq (tIfS (tTest (tOp (rLe) (tOp rMul (tC (.int 2)) (tCB (rLen c.K) (tCons (tVar 2) (tNil)))) (tC (.int 32)))) (tRet (tTup (tCons (tTup (tCons (tC (.str "runs")) (tCons (tCB (rTuple c.K) (tCons (tVar 2) (tNil))) (tNil)))) (tCons (tOp rMul (tC (.int 2)) (tCB (rLen c.K) (tCons (tVar 2) (tNil)))) (tNil))))) (tNext))
    (tRet (tTup (tCons (tTup (tCons (tC (.str "bits")) (tCons (tCB (rTuple c.K) (tCons (tLc (iRng1 (tCons (tC (.int 4)) (tNil))) (gName 3) (tYes) (tOp rBan (tOp rShr (tVar 0) (tOp rMul (tC (.int 64)) (tVar 3))) (tC (.int 18446744073709551615))) [3]) (tNil))) (tNil)))) (tCons (tC (.int 32)) (tNil))))))))
theorem pure__law_form {c : Cs} (G : Good c) (vs : List V) (H : Hp) (Q : VK) (E : XK) (h : sp__law_form c vs H Q E) : t__law_form c E { nx := fun _ H' => Q .non H', rt := Q } (start ["_law_bits_here", "_law_lows_here", "_law_runs_here", "_law_k"] vs) H := by
  obtain ⟨b, rfl, hb, hQ⟩ := h
  unfold t__law_form
  show tSeq _ _ _ [some (.int (b : Int)), none, none, none] H
  walk_at "go"
  refine ⟨b, rfl, Nat.lt_of_lt_of_le hb (Nat.pow_le_pow_right (by decide) (by decide)), fun p H1 s1 np hp => ?_⟩
  walk_at "go"
  refine ⟨p, bitsOf b, rfl, SqL.of hp, by have := bitsOf_len hb; omega, fun r xs H2 s2 nr hr hf => ?_⟩
  walk_at "go"
  have hp2 := s2 _ _ hp
  have xl : xs.length = (runsB b).length := by rw [hf.len, dPairs_len]; rfl
  have pl : ((nz (bitsOf b)).map V.int).length = popc b := by rw [nzv_len]; rfl
  refine r_len_l (SqL.of hp2) ?_
  walk_at "go"
  refine r_len_l (SqL.of hr) ?_
  walk_at "go"
  rw [xl, pl]
  by_cases hrow : popc b ≤ 2 * (runsB b).length ∧ popc b ≤ 32
  · refine if_d (fun z1 => ?_) (fun z1 => absurd z1 (by omega))
    walk_at "go"
    refine r_len_l (SqL.of hp2) ?_
    walk_at "go"
    rw [pl]
    refine if_d (fun z2 => ?_) (fun z2 => absurd z2 (by omega))
    have ek : kdB b = .row := by unfold kdB; rw [if_pos hrow]
    walk_at "go"
    refine r_tuple_l (SqL.of hp2) ?_
    intro u nu
    generalize eu : upd H2 u _ = H3
    obtain ⟨sH3, hu, dH3⟩ := new_of nu eu
    walk_at "go"
    refine ⟨sz5 (by simp), fun t nt => ?_⟩
    generalize et : upd H3 t _ = H4
    obtain ⟨sH4, ht, dH4⟩ := new_of nt et
    walk_at "go"
    refine r_len_l (SqL.of (sH4 _ _ (sH3 _ _ hp2))) ?_
    walk_at "go"
    refine ⟨sz5 (by simp), fun q nq => ?_⟩
    generalize eq : upd H4 q _ = H5
    obtain ⟨sH5, hq, dH5⟩ := new_of nq eq
    refine hQ q _ H5 (((s1.trans s2).trans (sH3.trans sH4)).trans sH5) (s1.free (s2.free (sH3.free (sH4.free nq)))) hq (Fds.cons ?_ (Fds.cons ?_ .nil))
    · unfold formD; rw [ek]
      refine (Fd.tup (s1.free (s2.free (sH3.free nt))) (sH5 _ _ ht) (Fds.cons (.str _) (Fds.cons ?_ .nil)))
      exact Fd.tup (s1.free (s2.free nu)) (sH5 _ _ (sH4 _ _ hu)) (Fds.ints _)
    · rw [ek, pl]; exact .int _
  · refine if_d (fun z1 => ?_) (fun z1 => ?_)
    · walk_at "go"
      refine r_len_l (SqL.of hp2) ?_
      walk_at "go"
      rw [pl]
      refine if_d (fun z2 => absurd ⟨by omega, by omega⟩ hrow) (fun z2 => ?_)
      walk_at "go"
      refine r_len_l (SqL.of hr) ?_
      walk_at "go"
      rw [xl]
      refine if_d (fun z3 => ?_) (fun z3 => ?_)
      · have ek : kdB b = .runs := by unfold kdB; rw [if_neg hrow, if_pos (by omega)]
        walk_at "go"
        refine r_tuple_l (SqL.of hr) ?_
        intro u nu
        generalize eu : upd H2 u _ = H3
        obtain ⟨sH3, hu, dH3⟩ := new_of nu eu
        walk_at "go"
        refine ⟨sz5 (by simp), fun t nt => ?_⟩
        generalize et : upd H3 t _ = H4
        obtain ⟨sH4, ht, dH4⟩ := new_of nt et
        walk_at "go"
        refine r_len_l (SqL.of (sH4 _ _ (sH3 _ _ hr))) ?_
        walk_at "go"
        refine ⟨sz5 (by simp), fun q nq => ?_⟩
        generalize eq : upd H4 q _ = H5
        obtain ⟨sH5, hq, dH5⟩ := new_of nq eq
        refine hQ q _ H5 (((s1.trans s2).trans (sH3.trans sH4)).trans sH5) (s1.free (s2.free (sH3.free (sH4.free nq)))) hq (Fds.cons ?_ (Fds.cons ?_ .nil))
        · unfold formD; rw [ek]
          refine (Fd.tup (s1.free (s2.free (sH3.free nt))) (sH5 _ _ ht) (Fds.cons (.str _) (Fds.cons ?_ .nil)))
          exact Fd.tup (s1.free (s2.free nu)) (sH5 _ _ (sH4 _ _ hu)) (((hf.left (fun b z => s1.free z)).to (New.same (sH3.trans (sH4.trans sH5)))))
        · rw [ek, xl]; exact .int _
      · have ek : kdB b = .bits := by unfold kdB; rw [if_neg hrow, if_neg (by omega)]
        walk_at "go"
        refine ⟨4, rfl, by decide, by decide, fun D nD => ?_⟩
        refine lcR (K := c.K) (lo := 0) (n := 4) (fun _ => true) (fun i => .int ((wordB b i : Nat) : Int)) nD (by decide) (fun i H3 Rk Rs hi s3 hk hn => ?_) (fun H3 acc s3 hD hfd => ?_)
        · simp only [wipe, List.set_cons_zero, List.set_cons_succ]
          walk_at "go"
          refine ⟨(by first | exact rfl | exact trivial), ?_⟩
          walk_at "go"
          rw [word_cast]
          exact hk rfl _ H3 (Same.refl _) (.int _)
        · walk_at "go"
          refine r_tuple_l (SqL.of hD) ?_
          intro u nu
          generalize eu : upd H3 u _ = H4
          obtain ⟨sH4, hu, dH4⟩ := new_of nu eu
          walk_at "go"
          refine ⟨sz5 (by simp), fun t nt => ?_⟩
          generalize et : upd H4 t _ = H5
          obtain ⟨sH5, ht, dH5⟩ := new_of nt et
          walk_at "go"
          refine ⟨sz5 (by simp), fun q nq => ?_⟩
          generalize eq : upd H5 q _ = H6
          obtain ⟨sH6, hq, dH6⟩ := new_of nq eq
          refine hQ q _ H6 ((s1.trans s2).trans ((s3.trans sH4).trans (sH5.trans sH6))) (s1.free (s2.free (s3.free (sH4.free (sH5.free nq))))) hq (Fds.cons ?_ (Fds.cons ?_ .nil))
          · unfold formD; rw [ek]
            refine (Fd.tup (s1.free (s2.free (s3.free (sH4.free nt)))) (sH6 _ _ ht) (Fds.cons (.str _) (Fds.cons ?_ .nil)))
            refine Fd.tup (s1.free (s2.free (s3.free nu))) (sH6 _ _ (sH5 _ _ hu)) ?_
            show Fds c.K H H6 acc ((nz ((List.range 4).map (wordB b))).map PyData.int)
            rw [words_eq]
            exact (hfd.left fun z zz => s1.free (s2.free zz)).to (New.same (sH4.trans (sH5.trans sH6)))
          · rw [ek]; exact .int _
    · walk_at "go"
      refine r_len_l (SqL.of hr) ?_
      walk_at "go"
      rw [xl]
      refine if_d (fun z3 => ?_) (fun z3 => ?_)
      · have ek : kdB b = .runs := by unfold kdB; rw [if_neg hrow, if_pos (by omega)]
        walk_at "go"
        refine r_tuple_l (SqL.of hr) ?_
        intro u nu
        generalize eu : upd H2 u _ = H3
        obtain ⟨sH3, hu, dH3⟩ := new_of nu eu
        walk_at "go"
        refine ⟨sz5 (by simp), fun t nt => ?_⟩
        generalize et : upd H3 t _ = H4
        obtain ⟨sH4, ht, dH4⟩ := new_of nt et
        walk_at "go"
        refine r_len_l (SqL.of (sH4 _ _ (sH3 _ _ hr))) ?_
        walk_at "go"
        refine ⟨sz5 (by simp), fun q nq => ?_⟩
        generalize eq : upd H4 q _ = H5
        obtain ⟨sH5, hq, dH5⟩ := new_of nq eq
        refine hQ q _ H5 (((s1.trans s2).trans (sH3.trans sH4)).trans sH5) (s1.free (s2.free (sH3.free (sH4.free nq)))) hq (Fds.cons ?_ (Fds.cons ?_ .nil))
        · unfold formD; rw [ek]
          refine (Fd.tup (s1.free (s2.free (sH3.free nt))) (sH5 _ _ ht) (Fds.cons (.str _) (Fds.cons ?_ .nil)))
          exact Fd.tup (s1.free (s2.free nu)) (sH5 _ _ (sH4 _ _ hu)) (((hf.left (fun b z => s1.free z)).to (New.same (sH3.trans (sH4.trans sH5)))))
        · rw [ek, xl]; exact .int _
      · have ek : kdB b = .bits := by unfold kdB; rw [if_neg hrow, if_neg (by omega)]
        walk_at "go"
        refine ⟨4, rfl, by decide, by decide, fun D nD => ?_⟩
        refine lcR (K := c.K) (lo := 0) (n := 4) (fun _ => true) (fun i => .int ((wordB b i : Nat) : Int)) nD (by decide) (fun i H3 Rk Rs hi s3 hk hn => ?_) (fun H3 acc s3 hD hfd => ?_)
        · simp only [wipe, List.set_cons_zero, List.set_cons_succ]
          walk_at "go"
          refine ⟨(by first | exact rfl | exact trivial), ?_⟩
          walk_at "go"
          rw [word_cast]
          exact hk rfl _ H3 (Same.refl _) (.int _)
        · walk_at "go"
          refine r_tuple_l (SqL.of hD) ?_
          intro u nu
          generalize eu : upd H3 u _ = H4
          obtain ⟨sH4, hu, dH4⟩ := new_of nu eu
          walk_at "go"
          refine ⟨sz5 (by simp), fun t nt => ?_⟩
          generalize et : upd H4 t _ = H5
          obtain ⟨sH5, ht, dH5⟩ := new_of nt et
          walk_at "go"
          refine ⟨sz5 (by simp), fun q nq => ?_⟩
          generalize eq : upd H5 q _ = H6
          obtain ⟨sH6, hq, dH6⟩ := new_of nq eq
          refine hQ q _ H6 ((s1.trans s2).trans ((s3.trans sH4).trans (sH5.trans sH6))) (s1.free (s2.free (s3.free (sH4.free (sH5.free nq))))) hq (Fds.cons ?_ (Fds.cons ?_ .nil))
          · unfold formD; rw [ek]
            refine (Fd.tup (s1.free (s2.free (s3.free (sH4.free nt)))) (sH6 _ _ ht) (Fds.cons (.str _) (Fds.cons ?_ .nil)))
            refine Fd.tup (s1.free (s2.free (s3.free nu))) (sH6 _ _ (sH5 _ _ hu)) ?_
            show Fds c.K H H6 acc ((nz ((List.range 4).map (wordB b))).map PyData.int)
            rw [words_eq]
            exact (hfd.left fun z zz => s1.free (s2.free zz)).to (New.same (sH4.trans (sH5.trans sH6)))
          · rw [ek]; exact .int _
/-! ### the patterns: any bits of a sack -/
def sp__law_pattern (c : Cs) : Sp := fun vs H Q _ => ∃ n : Nat, vs = [.int (n : Int)] ∧ n < 4611686018427387904 ∧ ∀ (b : Nat) (H' : Hp), b < 2 ^ 256 → Same H H' → Q (.int (b : Int)) H'
theorem len__law_pattern (c : Cs) : ∀ vs H Q E, sp__law_pattern c vs H Q E → vs.length = (["_law_cell"] : List Str).length := by
  rintro vs H Q E ⟨n, rfl, _⟩; rfl
/-- _law_pattern -/
def t__law_pattern (c : Cs) (E : XK) : TS :=
  tSeq (tAsg (tOp rMod (tVar 0) (tC (.int 6))) (gName 1))
    (tSeq (tAsg (tOp rFdv (tVar 0) (tC (.int 6))) (gName 2))
    (tSeq (tAsg (tC (.int 0)) (gName 3))
    (tSeq (tIfS (tTest (tOp (rEqu c.K) (tVar 1) (tC (.int 0)))) (tSeq (tAsg (tOp rAdd (tC (.int 1)) (tOp rMod (tVar 2) (tC (.int 5)))) (gName 4))
    (tSeq (tAsg (tOp rAdd (tOp rAdd (tVar 4) (tC (.int 1))) (tOp rMod (tOp rFdv (tVar 2) (tC (.int 5))) (tC (.int 3)))) (gName 5))
    (tSeq (tFor (iRng1 (tCons (tOp rAdd (tC (.int 1)) (tOp rMod (tOp rFdv (tVar 2) (tC (.int 15))) (tC (.int 20)))) (tNil))) (gName 6) (tIfS (tTest (tOp (rLe) (tOp rAdd (tOp rMul (tVar 5) (tVar 6)) (tVar 4)) (tC (.int 256)))) (tAug 3 (tOp rShl (tOp rSub (tOp rShl (tC (.int 1)) (tVar 4)) (tC (.int 1))) (tOp rMul (tVar 5) (tVar 6))) pBor) (tNext)))
    (tRet (tVar 3))))) (tNext))
    (tSeq (tIfS (tTest (tOp (rEqu c.K) (tVar 1) (tC (.int 1)))) (tSeq (tAsg (tOp rAdd (tC (.int 2)) (tOp rMod (tVar 2) (tC (.int 6)))) (gName 5))
    (tSeq (tFor (iRng1 (tCons (tOp rAdd (tOp rFdv (tOp rMod (tOp rFdv (tVar 2) (tC (.int 6))) (tC (.int 256))) (tVar 5)) (tC (.int 1))) (tNil))) (gName 6) (tAug 3 (tOp rShl (tC (.int 1)) (tOp rMul (tVar 5) (tVar 6))) pBor))
    (tRet (tVar 3)))) (tNext))
    (tSeq (tIfS (tTest (tOp (rEqu c.K) (tVar 1) (tC (.int 2)))) (tRet (tOp rMod (tOp rMul (tOp rMul (tOp rMul (tVar 2) (tOp rAdd (tVar 2) (tC (.int 77777)))) (tOp rAdd (tVar 2) (tC (.int 3)))) (tOp rAdd (tVar 2) (tC (.int 12345)))) (tOp rShl (tC (.int 1)) (tC (.int 256))))) (tNext))
    (tSeq (tIfS (tTest (tOp (rEqu c.K) (tVar 1) (tC (.int 3)))) (tSeq (tAsg (tOp rMod (tVar 2) (tC (.int 256))) (gName 7))
    (tRet (tOp rSub (tOp rShl (tC (.int 1)) (tOp rAdd (tOp rAdd (tC (.int 1)) (tVar 7)) (tOp rMod (tOp rFdv (tVar 2) (tC (.int 256))) (tOp rSub (tC (.int 256)) (tVar 7))))) (tOp rShl (tC (.int 1)) (tVar 7))))) (tNext))
    (tSeq (tFor (iRng1 (tCons (tOp rAdd (tC (.int 1)) (tOp rMod (tVar 2) (tC (.int 30)))) (tNil))) (gName 6) (tAug 3 (tOp rShl (tC (.int 1)) (tOp rMod (tOp rMul (tOp rFdv (tVar 2) (tOp rAdd (tC (.int 1)) (tVar 6))) (tOp rAdd (tVar 6) (tC (.int 5)))) (tC (.int 256)))) pBor))
    (tRet (tOp (rIx c.K) (tLst (tCons (tVar 3) (tCons (tOp rSub (tOp rSub (tOp rShl (tC (.int 1)) (tC (.int 256))) (tC (.int 1))) (tVar 3)) (tNil)))) (tOp rSub (tVar 1) (tC (.int 4))))))))))))
theorem pow_le256 {k : Nat} (h : k ≤ 256) : 2 ^ k ≤ 2 ^ 256 := Nat.pow_le_pow_right (by decide) h
theorem pow_lt256 {k : Nat} (h : k < 256) : 2 ^ k < 2 ^ 256 := Nat.pow_lt_pow_right (by decide) h
theorem one_shl {j : Int} {k : Nat} (h : j = (k : Int)) : (1 : Int) * 2 ^ j.toNat = ((2 ^ k : Nat) : Int) := by
  rw [h, Int.one_mul, Int.toNat_natCast, Int.natCast_pow]; rfl
theorem nat_shl {b k : Nat} {j : Int} (h : j = (k : Int)) : (b : Int) * 2 ^ j.toNat = ((b * 2 ^ k : Nat) : Int) := by
  rw [h, Int.toNat_natCast, Int.natCast_mul, Int.natCast_pow]; rfl
theorem pow_sub {a b : Nat} (h : a ≤ b) : ((2 ^ b : Nat) : Int) - ((2 ^ a : Nat) : Int) = ((2 ^ b - 2 ^ a : Nat) : Int) := by
  have := Nat.pow_le_pow_right (n := 2) (by decide) h
  omega
theorem pure__law_pattern {c : Cs} (G : Good c) (vs : List V) (H : Hp) (Q : VK) (E : XK) (h : sp__law_pattern c vs H Q E) : t__law_pattern c E { nx := fun _ H' => Q .non H', rt := Q } (start ["_law_cell", "_law_way", "_law_rest", "_law_found", "_law_size", "_law_far", "_law_k", "_law_first"] vs) H := by
  obtain ⟨n, rfl, hn, hQ⟩ := h
  unfold t__law_pattern
  show tSeq _ _ _ [some (.int (n : Int)), none, none, none, none, none, none, none] H
  walk_at "go"
  obtain ⟨w, hw⟩ : ∃ w : Nat, (n : Int) % 6 = w := ⟨n % 6, by omega⟩
  obtain ⟨r, hr⟩ : ∃ r : Nat, (n : Int) / 6 = r := ⟨n / 6, by omega⟩
  rw [hw, hr]
  have hr2 : r < 4611686018427387904 := by omega
  have hw2 : w < 6 := by omega
  clear hw hr hn
  refine if_d (fun z => ?_) (fun z0 => ?_)
  · walk_at "go"
    obtain ⟨sz, hsz, h1, h2⟩ : ∃ sz : Nat, (1 : Int) + (r : Int) % 5 = sz ∧ 1 ≤ sz ∧ sz ≤ 5 := ⟨1 + r % 5, by omega, by omega, by omega⟩
    rw [hsz]
    obtain ⟨far, hfar, h3⟩ : ∃ far : Nat, (sz : Int) + 1 + (r : Int) / 5 % 3 = far ∧ far ≤ 8 := ⟨sz + 1 + r / 5 % 3, by omega, by omega⟩
    rw [hfar]
    refine ⟨_, rfl, by omega, by omega, for_range (lo := 0) (n := ((1 : Int) + (r : Int) / 15 % 20).toNat) (fun i σ H1 => ∃ (f : Nat) (v : Option V), H1 = H ∧ f < 2 ^ 256 ∧ σ = [some (.int (n : Int)), some (.int (w : Int)), some (.int (r : Int)), some (.int (f : Int)), some (.int (sz : Int)), some (.int (far : Int)), v, none])
      ⟨0, none, rfl, by decide, rfl⟩ ?_ ?_⟩
    · rintro i σ H1 hi ⟨f, v, rfl, hf, rfl⟩
      walk_at "go"
      obtain ⟨m, hm⟩ : ∃ m : Nat, (far : Int) * ((0 : Int) + (i : Int)) = m := ⟨far * i, by rw [Int.zero_add]; exact (Int.natCast_mul _ _).symm⟩
      rw [hm]
      refine if_d (fun z1 => ?_) (fun z1 => ?_)
      · walk_at "go"
        rw [hm, one_shl (k := sz) rfl]
        have e : ((2 ^ sz : Nat) : Int) - 1 = ((2 ^ sz - 1 : Nat) : Int) := by have := Nat.two_pow_pos sz; omega
        rw [e]
        refine r_shl (CShl_nat (n := 256) (Nat.lt_of_lt_of_le (by have := Nat.two_pow_pos sz; omega) (pow_le256 (k := sz) (by omega))) (by omega) (by omega)) ?_
        walk_at "go"
        rw [nat_shl (k := m) rfl, or_cast]
        refine ⟨f ||| (2 ^ sz - 1) * 2 ^ m, some (.int ((0 : Int) + (i : Int))), rfl, ?_, rfl⟩
        refine Nat.or_lt_two_pow hf (Nat.lt_of_lt_of_le ?_ (pow_le256 (k := sz + m) (by omega)))
        rw [Nat.pow_add]
        exact Nat.mul_lt_mul_of_pos_right (by have := Nat.two_pow_pos sz; omega) (Nat.two_pow_pos m)
      · walk_at "go"
        exact ⟨f, _, rfl, hf, rfl⟩
    · rintro σ H1 ⟨f, v, rfl, hf, rfl⟩
      walk_at "go"
      exact hQ f H1 hf (Same.refl _)
  walk_at "go"
  refine if_d (fun z => ?_) (fun z1 => ?_)
  · walk_at "go"
    obtain ⟨far, hfar, h1, h2⟩ : ∃ far : Nat, (2 : Int) + (r : Int) % 6 = far ∧ 2 ≤ far ∧ far ≤ 7 := ⟨2 + r % 6, by omega, by omega, by omega⟩
    rw [hfar]
    obtain ⟨u, hu, hu2⟩ : ∃ u : Nat, (r : Int) / 6 % 256 = u ∧ u ≤ 255 := ⟨r / 6 % 256, by omega, by omega⟩
    rw [hu]
    have eq : (u : Int) / (far : Int) = ((u / far : Nat) : Int) := (Int.natCast_ediv _ _).symm
    rw [eq]
    have hq : u / far ≤ 255 := Nat.le_trans (Nat.div_le_self _ _) hu2
    have hmul := Nat.mul_div_le u far
    generalize u / far = qq at hq hmul ⊢
    refine ⟨_, rfl, by omega, by omega, for_range (lo := 0) (n := ((qq : Int) + 1).toNat) (fun i σ H1 => ∃ (f : Nat) (v : Option V), H1 = H ∧ f < 2 ^ 256 ∧ σ = [some (.int (n : Int)), some (.int (w : Int)), some (.int (r : Int)), some (.int (f : Int)), none, some (.int (far : Int)), v, none])
      ⟨0, none, rfl, by decide, rfl⟩ ?_ ?_⟩
    · rintro i σ H1 hi ⟨f, v, rfl, hf, rfl⟩
      have hi2 : i ≤ qq := by omega
      have hm2 : far * i ≤ 255 := Nat.le_trans (Nat.le_trans (Nat.mul_le_mul_left far hi2) hmul) hu2
      walk_at "go"
      obtain ⟨m, hm, hm3⟩ : ∃ m : Nat, (far : Int) * ((0 : Int) + (i : Int)) = m ∧ m ≤ 255 := ⟨far * i, by rw [Int.zero_add]; exact (Int.natCast_mul _ _).symm, hm2⟩
      rw [hm]
      walk_at "go"
      rw [one_shl (k := m) rfl, or_cast]
      exact ⟨f ||| 2 ^ m, some (.int ((0 : Int) + (i : Int))), rfl, Nat.or_lt_two_pow hf (pow_lt256 (by omega)), rfl⟩
    · rintro σ H1 ⟨f, v, rfl, hf, rfl⟩
      walk_at "go"
      exact hQ f H1 hf (Same.refl _)
  walk_at "go"
  refine if_d (fun z => ?_) (fun z2 => ?_)
  · walk_at "go"
    rw [one_shl (j := 256) (k := 256) rfl]
    refine r_mod (by decide) ?_
    generalize (r : Int) * ((r : Int) + 77777) * ((r : Int) + 3) * ((r : Int) + 12345) = x
    have p0 : (0 : Int) ≤ x % ((2 ^ 256 : Nat) : Int) := Int.emod_nonneg _ (by decide)
    have p1 : x % ((2 ^ 256 : Nat) : Int) < ((2 ^ 256 : Nat) : Int) := Int.emod_lt_of_pos _ (by decide)
    obtain ⟨b, hb⟩ := Int.eq_ofNat_of_zero_le p0
    rw [hb] at p1 ⊢
    exact hQ b H (Int.ofNat_lt.mp p1) (Same.refl _)
  walk_at "go"
  refine if_d (fun z => ?_) (fun z3 => ?_)
  · walk_at "go"
    obtain ⟨f, hf, h1⟩ : ∃ f : Nat, (r : Int) % 256 = f ∧ f ≤ 255 := ⟨r % 256, by omega, by omega⟩
    rw [hf]
    walk_at "go"
    have p0 : (0 : Int) ≤ (r : Int) / 256 % (256 - (f : Int)) := Int.emod_nonneg _ (by omega)
    have p1 : (r : Int) / 256 % (256 - (f : Int)) < 256 - (f : Int) := Int.emod_lt_of_pos _ (by omega)
    obtain ⟨y, hy⟩ := Int.eq_ofNat_of_zero_le p0
    rw [hy] at p1 ⊢
    walk_at "go"
    rw [one_shl (j := 1 + (f : Int) + (y : Int)) (k := 1 + f + y) (by omega), one_shl (k := f) rfl, pow_sub (by omega)]
    refine hQ _ H ?_ (Same.refl _)
    have := pow_le256 (k := 1 + f + y) (by omega)
    have := Nat.two_pow_pos f
    omega
  walk_at "go"
  obtain ⟨cnt, hcnt, hc1⟩ : ∃ cnt : Nat, (1 : Int) + (r : Int) % 30 = cnt ∧ cnt ≤ 30 := ⟨1 + r % 30, by omega, by omega⟩
  rw [hcnt]
  refine ⟨_, rfl, by omega, by omega, for_range (lo := 0) (n := ((cnt : Int)).toNat) (fun i σ H1 => ∃ (f : Nat) (v : Option V), H1 = H ∧ f < 2 ^ 256 ∧ σ = [some (.int (n : Int)), some (.int (w : Int)), some (.int (r : Int)), some (.int (f : Int)), none, none, v, none])
    ⟨0, none, rfl, by decide, rfl⟩ ?_ ?_⟩
  · rintro i σ H1 hi ⟨f, v, rfl, hf, rfl⟩
    have hi2 : i ≤ 30 := by omega
    walk_at "go"
    have p0 : (0 : Int) ≤ (r : Int) / (1 + ((0 : Int) + (i : Int))) * ((0 : Int) + (i : Int) + 5) % 256 := Int.emod_nonneg _ (by decide)
    have p1 : (r : Int) / (1 + ((0 : Int) + (i : Int))) * ((0 : Int) + (i : Int) + 5) % 256 < 256 := Int.emod_lt_of_pos _ (by decide)
    obtain ⟨m, hm⟩ := Int.eq_ofNat_of_zero_le p0
    rw [hm] at p1 ⊢
    walk_at "go"
    rw [one_shl (k := m) rfl, or_cast]
    exact ⟨f ||| 2 ^ m, some (.int ((0 : Int) + (i : Int))), rfl, Nat.or_lt_two_pow hf (pow_lt256 (by omega)), rfl⟩
  · rintro σ H1 ⟨f, v, rfl, hf, rfl⟩
    walk_at "go"
    rw [one_shl (j := 256) (k := 256) rfl]
    refine ⟨sz5 (by simp), fun q nq => ?_⟩
    generalize eq : upd H1 q _ = H2
    obtain ⟨sH2, hq, dH2⟩ := new_of nq eq
    walk_at "go"
    have e : ((2 ^ 256 : Nat) : Int) - 1 - (f : Int) = ((2 ^ 256 - 1 - f : Nat) : Int) := by omega
    rw [e] at hq
    obtain ⟨b, hb, hv⟩ : ∃ b : Nat, b < 2 ^ 256 ∧ [V.int (f : Int), V.int ((2 ^ 256 - 1 - f : Nat) : Int)][w - 4]? = some (.int (b : Int)) := by
      have : w = 4 ∨ w = 5 := by omega
      rcases this with rfl | rfl
      · exact ⟨f, hf, rfl⟩
      · exact ⟨2 ^ 256 - 1 - f, by omega, rfl⟩
    have ew : (w : Int) - 4 = ((w - 4 : Nat) : Int) := by omega
    rw [ew]
    refine r_ixL (SqL.of hq) (atI_nat hv) ?_
    exact hQ b H2 hb sH2
/-! ### the marks of what is caught -/
def sp__law_marks (c : Cs) (cls : Value) (dd : Option Addr) (a : Addr) : Sp := fun vs H Q _ => ∃ k : Ek, vs = [.ref a] ∧ cls = .ref (c.ex k) ∧ dd = none ∧
  ∀ (p : Addr) (H' : Hp), Same H H' → H p = none → H' p = some (.lst (marksV k)) → Q (.ref p) H'
theorem len__law_marks (c : Cs) : ∀ cls dd a vs H Q E, sp__law_marks c cls dd a vs H Q E → vs.length = (["_law_e"] : List Str).length := by
  rintro cls dd a vs H Q E ⟨k, rfl, _⟩; rfl
/-- _law_marks -/
def t__law_marks (c : Cs) (cls : Value) (dd : Option Addr) (a : Addr) : TS :=
  tRet (tLst (tCons (tCB (rIsX c.K cls dd a) (tCons (tVar 0) (tCons (tC (.ref c.eNoNumber)) (tNil)))) (tCons (tCB (rIsX c.K cls dd a) (tCons (tVar 0) (tCons (tC (.ref c.eNoStretch)) (tNil)))) (tCons (tCB (rIsX c.K cls dd a) (tCons (tVar 0) (tCons (tC (.ref c.eNoRank)) (tNil)))) (tCons (tCB (rIsX c.K cls dd a) (tCons (tVar 0) (tCons (tC (.ref c.eNoText)) (tNil)))) (tNil))))))
theorem pure__law_marks {c : Cs} (G : Good c) (GE : GoodE c) (cls : Value) (dd : Option Addr) (a : Addr) (vs : List V) (H : Hp) (Q : VK) (E : XK) (h : sp__law_marks c cls dd a vs H Q E) : t__law_marks c cls dd a { nx := fun _ H' => Q .non H', rt := Q } (start ["_law_e"] vs) H := by
  obtain ⟨k, rfl, rfl, rfl, hQ⟩ := h
  unfold t__law_marks
  show tRet _ _ [some (.ref a)] H
  walk_at "go"
  refine r_isx (GE.x k) (GE.own k .number) ?_
  walk_at "go"
  refine r_isx (GE.x k) (GE.own k .stretch) ?_
  walk_at "go"
  refine r_isx (GE.x k) (GE.own k .rank) ?_
  walk_at "go"
  refine r_isx (GE.x k) (GE.own k .text) ?_
  walk_at "go"
  refine ⟨sz5 (by simp), fun p np => ?_⟩
  generalize ep : upd H p _ = H1
  obtain ⟨sH1, hp, dH1⟩ := new_of np ep
  exact hQ p H1 sH1 np hp
/-! ### told in some order -/
theorem nz_take (l : List Nat) (n : Nat) : ((nz l).map V.int).take n = (nz (l.take n)).map V.int := by unfold nz; rw [List.map_map, List.map_map, List.map_take]
theorem nzv_app (l m : List Nat) : (nz l).map V.int ++ (nz m).map V.int = (nz (l ++ m)).map V.int := by rw [nz_app, List.map_append]
theorem cut_to (l : List Nat) (n : Nat) : cutV ((nz l).map V.int) none (some (n : Int)) = (nz (l.take n)).map V.int := by
  unfold cutV
  rw [HT.sIx_nat, HT.sIx_none, nzv_len, Nat.sub_zero, List.drop_zero, nz_take]
  by_cases h : n ≤ l.length
  · rw [Nat.min_eq_left h]
  · rw [Nat.min_eq_right (by omega), List.take_of_length_le (Nat.le_refl _), List.take_of_length_le (by omega)]
theorem orV_nz {l : List Nat} {b : Nat} (h : ∀ x, x ∈ l ↔ x ∈ bitsOf b) : orV ((nz l).map V.int) = b := by
  apply Nat.eq_of_testBit_eq
  intro i
  rw [orV_bit, ← mem_bits_dec]
  unfold nz
  rw [List.map_map, List.any_map, Bool.eq_iff_iff, List.any_eq_true, decide_eq_true_eq, ← h]
  constructor
  · rintro ⟨x, hx, e⟩
    have e2 : lowN (.int (x : Int)) = i := of_decide_eq_true e
    have : x = i := by simpa [lowN] using e2
    exact this ▸ hx
  · intro hi
    exact ⟨i, hi, decide_eq_true (show lowN (.int (i : Int)) = i by simp [lowN])⟩
def sp_law (c : Cs) : Sp := fun vs H Q _ => ∃ (a : Addr) (ns : List Int), vs = [.ref a] ∧ SqL c.K H a (ns.map V.int) ∧ ns.length ≤ 63 ∧ LamX.Tabs c.T H ∧ ∀ H', Q (.bl true) H'
/-! ### heaps that differ at one dict -/
def But (d : Addr) (H H' : Hp) : Prop := ∀ p o, p ≠ d → H p = some o → H' p = some o
theorem But.refl (d : Addr) (H : Hp) : But d H H := fun _ _ _ h => h
theorem But.trans {d : Addr} {H H1 H2 : Hp} (a : But d H H1) (b : But d H1 H2) : But d H H2 := fun p o n h => b p o n (a p o n h)
theorem But.of {d : Addr} {H H1 : Hp} (s : Same H H1) : But d H H1 := fun p o _ h => s p o h
theorem But.upd {d : Addr} {H : Hp} {o : HO} : But d H (upd H d o) := fun p u n h => by rw [upd_ne n]; exact h
/-- what is a list, a tuple, an instance stays -/
theorem But.lst {d p : Addr} {H H1 : Hp} {xs : List V} (b : But d H H1) (hd : ∃ kvs, H d = some (.dK kvs)) (h : H p = some (.lst xs)) : H1 p = some (.lst xs) := by
  obtain ⟨kvs, hd⟩ := hd
  exact b p _ (ne_of h hd (by intro z; cases z)) h
theorem But.tup {d p : Addr} {H H1 : Hp} {xs : List V} (b : But d H H1) (hd : ∃ kvs, H d = some (.dK kvs)) (h : H p = some (.tup xs)) : H1 p = some (.tup xs) := by
  obtain ⟨kvs, hd⟩ := hd
  exact b p _ (ne_of h hd (by intro z; cases z)) h
theorem But.ins {d p C : Addr} {H H1 : Hp} {dx : Addr} {fs : List (Str × V)} (b : But d H H1) (hd : ∃ kvs, H d = some (.dK kvs)) (h : H p = some (.ins C dx fs)) : H1 p = some (.ins C dx fs) := by
  obtain ⟨kvs, hd⟩ := hd
  exact b p _ (ne_of h hd (by intro z; cases z)) h
theorem But.seq {K : PySem.W.Frag} {d p : Addr} {H H1 : Hp} {xs : List V} (b : But d H H1) (hd : ∃ kvs, H d = some (.dK kvs)) (h : SqL K H p xs) : SqL K H1 p xs := by
  rcases h with (h | ⟨o, h⟩) | h
  · exact .inl (.inl (b.lst hd h))
  · obtain ⟨kvs, hd⟩ := hd
    exact .inl (.inr ⟨o, b p _ (ne_of h hd (by intro z; cases z)) h⟩)
  · exact .inr h
/-! ### tables -/
theorem mem_putK {κ : Type} [DecidableEq κ] {kvs : List (κ × V)} {k : κ} {v : V} {p : κ × V} (hn : (kvs.map (·.1)).Nodup) : p ∈ putK kvs k v ↔ (p = (k, v) ∨ (p.1 ≠ k ∧ p ∈ kvs)) := by
  unfold putK
  by_cases a : (kvs.any fun kv => decide (kv.1 = k)) = true
  · rw [if_pos a, List.mem_map]
    obtain ⟨q, hq, e⟩ := List.any_eq_true.mp a
    have e : q.1 = k := of_decide_eq_true e
    constructor
    · rintro ⟨r, hr, rfl⟩
      by_cases c : r.1 = k
      · rw [if_pos c, c]; exact .inl rfl
      · rw [if_neg c]; exact .inr ⟨c, hr⟩
    · rintro (rfl | ⟨h1, h2⟩)
      · exact ⟨q, hq, by rw [if_pos e, e]⟩
      · exact ⟨p, h2, by rw [if_neg h1]⟩
  · rw [if_neg a, List.mem_append, List.mem_singleton]
    have no : ∀ q ∈ kvs, q.1 ≠ k := fun q hq e => a (List.any_eq_true.mpr ⟨q, hq, decide_eq_true e⟩)
    constructor
    · rintro (h | h)
      · exact .inr ⟨no p h, h⟩
      · exact .inl h
    · rintro (h | ⟨_, h⟩)
      · exact .inr h
      · exact .inl h
theorem nodup_putK {κ : Type} [DecidableEq κ] {kvs : List (κ × V)} {k : κ} {v : V} (hn : (kvs.map (·.1)).Nodup) : ((putK kvs k v).map (·.1)).Nodup := by
  unfold putK
  by_cases a : (kvs.any fun kv => decide (kv.1 = k)) = true
  · rw [if_pos a, List.map_map]
    have e : ((fun x : κ × V => x.1) ∘ fun kv => if kv.1 = k then (kv.1, v) else kv) = fun x => x.1 := by
      funext x
      show (if x.1 = k then (x.1, v) else x).1 = x.1
      split <;> rfl
    rw [e]; exact hn
  · rw [if_neg a, List.map_append]
    refine List.nodup_append.mpr ⟨hn, List.Pairwise.cons (fun _ h => by cases h) List.Pairwise.nil, fun x hx y hy => ?_⟩
    obtain ⟨q, hq, rfl⟩ := List.mem_map.mp hx
    have : y = k := by simpa using hy
    subst this
    exact fun e => a (List.any_eq_true.mpr ⟨q, hq, decide_eq_true e⟩)
theorem mem_dropK {κ : Type} [DecidableEq κ] {kvs : List (κ × V)} {k : κ} {p : κ × V} : p ∈ dropK kvs k ↔ p ∈ kvs ∧ p.1 ≠ k := by
  unfold dropK
  rw [List.mem_filter, decide_eq_true_eq]
theorem nodup_dropK {κ : Type} [DecidableEq κ] {kvs : List (κ × V)} {k : κ} (hn : (kvs.map (·.1)).Nodup) : ((dropK kvs k).map (·.1)).Nodup := by
  unfold dropK
  exact hn.sublist (List.Sublist.map _ (List.filter_sublist))
theorem valV_mem {κ : Type} [DecidableEq κ] {kvs : List (κ × V)} {k : κ} {v : V} (h : valV kvs k = some v) : (k, v) ∈ kvs := by
  unfold valV at h
  obtain ⟨p, hp, rfl⟩ := Option.map_eq_some_iff.mp h
  have h1 := List.mem_of_find?_eq_some hp
  have h2 : p.1 = k := by simpa using List.find?_some hp
  rw [← h2]; exact h1
/-- a list without doubles whose all lie in another is no longer -/
theorem nodup_le {α : Type} [DecidableEq α] : ∀ {l m : List α}, l.Nodup → (∀ x ∈ l, x ∈ m) → l.length ≤ m.length
  | [], _, _, _ => Nat.zero_le _
  | x :: l, m, hn, hs => by
    obtain ⟨h1, h2⟩ := List.nodup_cons.mp hn
    have hx := hs x List.mem_cons_self
    have := nodup_le (l := l) (m := m.erase x) h2 fun y hy => (List.mem_erase_of_ne (fun e => h1 (by rw [← e]; exact hy))).mpr (hs y (List.mem_cons_of_mem _ hy))
    rw [List.length_erase_of_mem hx] at this
    have := List.length_pos_of_mem hx
    rw [List.length_cons]; omega
/-! ### a set of numbers -/
/-- the sacks of the numbers whose bits N has -/
def Sacks (c : Cs) (H : Hp) (kvs : List (Key × V)) (N : Nat) : Prop :=
  (kvs.map (·.1)).Nodup ∧ (∀ p ∈ kvs, ∃ (u : Nat) (s : Addr), p = (.inl (u : Int), .ref s) ∧ sl N u ≠ 0 ∧ SackK c H s (kdB (sl N u)) (sl N u)) ∧ ∀ u, sl N u ≠ 0 → ∃ v, ((.inl (u : Int) : Key), v) ∈ kvs
structure SetAt (c : Cs) (H : Hp) (a d : Addr) (N : Nat) : Prop where
  i : ∃ dx, H a = some (.ins c.set dx [("by_upper", .ref d)])
  ex : ∃ kvs, H d = some (.dK kvs) ∧ Sacks c H kvs N
  b : In24 N
theorem Sacks.ext {c : Cs} {H H' : Hp} {kvs : List (Key × V)} {N : Nat} (h : Sacks c H kvs N) (e : ∀ s k b, SackK c H s k b → SackK c H' s k b) : Sacks c H' kvs N :=
  ⟨h.1, fun p hp => by obtain ⟨u, s, a, b, d⟩ := h.2.1 p hp; exact ⟨u, s, a, b, e _ _ _ d⟩, h.2.2⟩
theorem SetAt.d {c : Cs} {H : Hp} {a d : Addr} {N : Nat} (h : SetAt c H a d N) : ∃ kvs, H d = some (.dK kvs) := by
  obtain ⟨kvs, h1, _⟩ := h.ex
  exact ⟨kvs, h1⟩
theorem SackK.but {c : Cs} {H H' : Hp} {s d : Addr} {k : Kd} {b : Nat} (h : SackK c H s k b) (e : But d H H') (hd : ∃ kvs, H d = some (.dK kvs)) : SackK c H' s k b := by
  obtain ⟨dx, h⟩ := h
  exact ⟨dx, e.ins hd h⟩
theorem SetAt.same {c : Cs} {H H' : Hp} {a d : Addr} {N : Nat} (h : SetAt c H a d N) (e : Same H H') : SetAt c H' a d N := by
  obtain ⟨dx, hi⟩ := h.i
  obtain ⟨kvs, h1, h2⟩ := h.ex
  exact ⟨⟨dx, e _ _ hi⟩, ⟨kvs, e _ _ h1, h2.ext fun _ _ _ q => q.same e⟩, h.b⟩
/-- another set stays -/
theorem SetAt.but {c : Cs} {H H' : Hp} {a d e : Addr} {N : Nat} (h : SetAt c H a d N) (b : But e H H') (he : ∃ kvs, H e = some (.dK kvs)) (ne : d ≠ e) : SetAt c H' a d N := by
  obtain ⟨dx, hi⟩ := h.i
  obtain ⟨kvs, h1, h2⟩ := h.ex
  exact ⟨⟨dx, b.ins he hi⟩, ⟨kvs, b _ _ ne h1, h2.ext fun _ _ _ q => q.but b he⟩, h.b⟩
section
variable {c : Cs} {H : Hp} {a d u : Nat} {N : Nat}
theorem SetAt.fld {G : GoodS c} {R : V → Prop} (h : SetAt c H a d N) (q : R (.ref d)) :
    ∃ x C dx fs v, V.ref a = .ref x ∧ H x = some (.ins C dx fs) ∧ Cls c.K C ∧ NoAttr c.K C "by_upper" ∧ fs.lookup ("by_upper" : Str) = some v ∧ R v := by
  obtain ⟨dx, h⟩ := h.i
  exact ⟨a, _, dx, _, _, rfl, h, G.cs, G.ns, lk1, q⟩
theorem SetAt.at {m : Str} {fam : Addr → Sp → Prop} {sp : Sp} {R : Sp → Prop} (h : SetAt c H a d N) (hf : fam c.set sp) (hm : (m == ("by_upper" : Str)) = false) (q : R sp) :
    ∃ x C dx fs sp, V.ref a = .ref x ∧ H x = some (.ins C dx fs) ∧ fam C sp ∧ fs.lookup m = none ∧ R sp := by
  obtain ⟨dx, h⟩ := h.i
  exact ⟨a, _, dx, _, sp, rfl, h, hf, lk0 hm, q⟩
theorem Sacks.val {kvs : List (Key × V)} (h : Sacks c H kvs N) (hu : sl N u ≠ 0) : ∃ s, valV kvs (.inl (u : Int)) = some (.ref s) ∧ SackK c H s (kdB (sl N u)) (sl N u) := by
  obtain ⟨h1, h2, h3⟩ := h
  obtain ⟨v, hv⟩ := h3 u hu
  obtain ⟨u', s, e, _, hs⟩ := h2 _ hv
  cases e
  exact ⟨s, val_nodup h1 _ hv, hs⟩
theorem Sacks.noval {kvs : List (Key × V)} (h : Sacks c H kvs N) (hu : sl N u = 0) : valV kvs (.inl (u : Int)) = none := by
  cases e : valV kvs (.inl (u : Int)) with
  | none => rfl
  | some v =>
    obtain ⟨u', s, e', hs, _⟩ := h.2.1 _ (valV_mem e)
    cases e'
    exact absurd hu hs
theorem SetAt.get (h : SetAt c H a d N) (hu : sl N u ≠ 0) : ∃ s, DGet H d (.int (u : Int)) (some (.ref s)) ∧ SackK c H s (kdB (sl N u)) (sl N u) := by
  obtain ⟨kvs, h1, h2⟩ := h.ex
  obtain ⟨s, e, hs⟩ := h2.val hu
  have := DGet.k (k := .inl (u : Int)) h1
  rw [e] at this
  exact ⟨s, this, hs⟩
theorem SetAt.noget (h : SetAt c H a d N) (hu : sl N u = 0) : DGet H d (.int (u : Int)) none := by
  obtain ⟨kvs, h1, h2⟩ := h.ex
  have := DGet.k (k := .inl (u : Int)) h1
  rw [h2.noval hu] at this
  exact this
theorem SetAt.putS {kvs : List (Key × V)} {s : Addr} {b : Nat} (h : SetAt c H a d N) (hd : H d = some (.dK kvs)) (hs : SackK c H s (kdB b) b) (h0 : 0 < b) (hb : b < 2 ^ 256) (hu : u < 65536) : SetAt c (upd H d (.dK (putK kvs (.inl (u : Int)) (.ref s)))) a d (setSl N u b) := by
  obtain ⟨dx, hi⟩ := h.i
  obtain ⟨kv2, h1, h2⟩ := h.ex
  cases h1.symm.trans hd
  have bt : But d H (upd H d (.dK (putK kvs (.inl (u : Int)) (.ref s)))) := But.upd
  refine ⟨⟨dx, bt.ins h.d hi⟩, ⟨_, upd_same, ?_⟩, h.b.set hu hb⟩
  obtain ⟨n1, n2, n3⟩ := h2
  refine ⟨nodup_putK n1, fun p hp => ?_, fun v hv => ?_⟩
  · rcases (mem_putK n1).mp hp with rfl | ⟨hne, hp⟩
    · exact ⟨u, s, rfl, by rw [setSl_sl hb, if_pos rfl]; omega, by rw [setSl_sl hb, if_pos rfl]; exact hs.but bt h.d⟩
    · obtain ⟨v, s', rfl, q1, q2⟩ := n2 p hp
      have nv : v ≠ u := fun e => hne (by rw [e])
      exact ⟨v, s', rfl, by rw [setSl_sl hb, if_neg nv]; exact q1, by rw [setSl_sl hb, if_neg nv]; exact q2.but bt h.d⟩
  · rw [setSl_sl hb] at hv
    by_cases e : v = u
    · subst e
      exact ⟨_, (mem_putK n1).mpr (.inl rfl)⟩
    · rw [if_neg e] at hv
      obtain ⟨w, hw⟩ := n3 v hv
      exact ⟨w, (mem_putK n1).mpr (.inr ⟨fun z => e (by have := Sum.inl.inj z; omega), hw⟩)⟩
theorem SetAt.dropS {kvs : List (Key × V)} (h : SetAt c H a d N) (hd : H d = some (.dK kvs)) (hu : u < 65536) : SetAt c (upd H d (.dK (dropK kvs (.inl (u : Int))))) a d (setSl N u 0) := by
  obtain ⟨dx, hi⟩ := h.i
  obtain ⟨kv2, h1, h2⟩ := h.ex
  cases h1.symm.trans hd
  have hb : 0 < 2 ^ 256 := Nat.two_pow_pos _
  have bt : But d H (upd H d (.dK (dropK kvs (.inl (u : Int))))) := But.upd
  refine ⟨⟨dx, bt.ins h.d hi⟩, ⟨_, upd_same, ?_⟩, h.b.set hu hb⟩
  obtain ⟨n1, n2, n3⟩ := h2
  refine ⟨nodup_dropK n1, fun p hp => ?_, fun v hv => ?_⟩
  · obtain ⟨hp, hne⟩ := mem_dropK.mp hp
    obtain ⟨v, s', rfl, q1, q2⟩ := n2 p hp
    have nv : v ≠ u := fun e => hne (by rw [e])
    exact ⟨v, s', rfl, by rw [setSl_sl hb, if_neg nv]; exact q1, by rw [setSl_sl hb, if_neg nv]; exact q2.but bt h.d⟩
  · rw [setSl_sl hb] at hv
    by_cases e : v = u
    · rw [if_pos e] at hv; exact absurd rfl hv
    · rw [if_neg e] at hv
      obtain ⟨w, hw⟩ := n3 v hv
      exact ⟨w, mem_dropK.mpr ⟨hw, fun z => e (by have := Sum.inl.inj z; omega)⟩⟩
/-- nothing there: nothing changes -/
theorem SetAt.noset (h : SetAt c H a d N) (hu : sl N u = 0) : SetAt c H a d (setSl N u 0) := by
  have e : setSl N u 0 = N := by
    unfold setSl; rw [hu]; simp
  rw [e]; exact h
end
/-! ### what a number is -/
def numV : V → Bool
  | .int i => decide (0 ≤ i) && decide (i ≤ 16777215)
  | _ => false
def sp_is_number (c : Cs) : Sp := fun vs H Q _ => ∃ x, vs = [x] ∧ Kn H x ∧ Q (.bl (numV x)) H
theorem len_is_number (c : Cs) : ∀ vs H Q E, sp_is_number c vs H Q E → vs.length = (["thing"] : List Str).length := by
  rintro vs H Q E ⟨x, rfl, _⟩; rfl
/-- is_number -/
def t_is_number (c : Cs) (E : XK) : TS :=
  tRet (tAndV (tCB (rIsiU c.K) (tCons (tVar 0) (tCons (tC (.ty "int")) (tNil)))) (tAndV (tNotV (tCB (rIsiU c.K) (tCons (tVar 0) (tCons (tC (.ty "bool")) (tNil))))) (tChain (rLe) (rLe) (tC (.int 0)) (tVar 0) (tC (.int 16777215)))))
theorem pure_is_number {c : Cs} (G : Good c) (vs : List V) (H : Hp) (Q : VK) (E : XK) (h : sp_is_number c vs H Q E) : t_is_number c E { nx := fun _ H' => Q .non H', rt := Q } (start ["thing"] vs) H := by
  obtain ⟨x, rfl, hk, hQ⟩ := h
  unfold t_is_number
  show tRet _ _ [some x] H
  walk_at "go"
  refine r_isi_kn_int hk ?_
  walk_at "go"
  refine if_b (fun z => ?_) (fun z => ?_)
  · walk_at "go"
    refine r_isi_kn_bool hk ?_
    walk_at "go"
    refine if_b (fun z2 => ?_) (fun z2 => ?_)
    · have e : isB x = false := by simpa using z2
      obtain ⟨n, rfl⟩ : ∃ n, x = .int n := by
        cases x <;> simp [isI, isB] at z e
        exact ⟨_, rfl⟩
      walk_at "go"
      refine if_d (fun z3 => ?_) (fun z3 => ?_)
      · walk_at "go"
        have e2 : numV (.int n) = decide (n ≤ 16777215) := by show (decide (0 ≤ n) && _) = _; rw [decide_eq_true z3, Bool.true_and]
        rw [← e2]; exact hQ
      · have e2 : numV (.int n) = false := by show (decide (0 ≤ n) && _) = _; rw [decide_eq_false z3, Bool.false_and]
        rw [e2] at hQ; exact hQ
    · have e : isB x = true := by simpa using z2
      have e2 : numV x = false := by cases x <;> simp [isB] at e <;> rfl
      rw [e2] at hQ; exact hQ
  · have e2 : numV x = false := by cases x <;> simp [isI] at z <;> rfl
    rw [e2] at hQ; exact hQ
def sp_need_number (c : Cs) : Sp := fun vs H Q E => ∃ x, vs = [x] ∧ Kn H x ∧ (numV x = true → Q .non H) ∧ (numV x = false → E (.ref c.eNoNumber) none H)
theorem len_need_number (c : Cs) : ∀ vs H Q E, sp_need_number c vs H Q E → vs.length = (["thing"] : List Str).length := by
  rintro vs H Q E ⟨x, rfl, _⟩; rfl
/-- need_number -/
def t_need_number (c : Cs) (E : XK) : TS :=
  tIfS (tNot (tB (tCall (sp_is_number c) [] E (tCons (tVar 0) (tNil))))) (fun _ σ H => E (.ref c.eNoNumber) none H) (tNext)
theorem pure_need_number {c : Cs} (G : Good c) (vs : List V) (H : Hp) (Q : VK) (E : XK) (h : sp_need_number c vs H Q E) : t_need_number c E { nx := fun _ H' => Q .non H', rt := Q } (start ["thing"] vs) H := by
  obtain ⟨x, rfl, hk, hQ, hE⟩ := h
  unfold t_need_number
  show tIfS _ _ _ _ [some x] H
  walk_at "go"
  refine ⟨x, rfl, hk, ?_⟩
  walk_at "go"
  refine if_b (fun z => ?_) (fun z => ?_)
  · exact hE (by simpa using z)
  · walk_at "go"
    exact hQ (by simpa using z)
theorem num_nat {x : V} (h : numV x = true) : ∃ n : Nat, x = .int (n : Int) ∧ n < 16777216 := by
  cases x <;> simp [numV] at h
  rename_i i
  exact ⟨i.toNat, by rw [Int.toNat_of_nonneg h.1], by omega⟩
theorem num_of {n : Nat} (h : n < 16777216) : numV (.int (n : Int)) = true := by simp [numV]; omega
/-! ### the methods of a set -/
def sp_NumberSet_bits_at (c : Cs) : Sp := fun vs H Q _ => ∃ (a d N u : Nat), vs = [.ref a, .int (u : Int)] ∧ SetAt c H a d N ∧ Q (.int (sl N u : Nat)) H
def fam_bits_at (c : Cs) (C : Addr) (sp : Sp) : Prop := C = c.set ∧ sp = sp_NumberSet_bits_at c
theorem len_NumberSet_bits_at (c : Cs) : ∀ vs H Q E, sp_NumberSet_bits_at c vs H Q E → vs.length = (["self", "upper"] : List Str).length := by
  rintro vs H Q E ⟨a, d, N, u, rfl, _⟩; rfl
/-- NumberSet.bits_at -/
def t_NumberSet_bits_at (c : Cs) (E : XK) : TS :=
  tSeq (tIfS (tB (tDIn (tVar 1) (tFld c.K (tVar 0) "by_upper"))) (tRet (tFld c.K (tDGet (tFld c.K (tVar 0) "by_upper") (tVar 1)) "bits")) (tNext))
    (tRet (tC (.int 0)))
theorem pure_NumberSet_bits_at {c : Cs} (G : GoodS c) (vs : List V) (H : Hp) (Q : VK) (E : XK) (h : sp_NumberSet_bits_at c vs H Q E) : t_NumberSet_bits_at c E { nx := fun _ H' => Q .non H', rt := Q } (start ["self", "upper"] vs) H := by
  obtain ⟨a, d, N, u, rfl, hs, hQ⟩ := h
  unfold t_NumberSet_bits_at
  show tSeq _ _ _ [some (.ref a), some (.int (u : Int))] H
  walk_at "go"
  refine hs.fld (G := G) ?_
  by_cases hu : sl N u = 0
  · refine ⟨d, none, rfl, hs.noget hu, ?_⟩
    walk_at "go"
    rw [hu] at hQ; exact hQ
  · obtain ⟨s, hg, hk⟩ := hs.get hu
    refine ⟨d, some (.ref s), rfl, hg, ?_⟩
    walk_at "go"
    refine if_t rfl ?_
    walk_at "go"
    refine hs.fld (G := G) ?_
    walk_at "go"
    refine ⟨d, .ref s, rfl, hg, ?_⟩
    exact hk.fld G.toGood hQ
def sp_NumberSet_set_bits (c : Cs) : Sp := fun vs H Q _ => ∃ (a d N u b : Nat), vs = [.ref a, .int (u : Int), .int (b : Int)] ∧ SetAt c H a d N ∧ u < 65536 ∧ b < 2 ^ 256 ∧
  ∀ H', But d H H' → SetAt c H' a d (setSl N u b) → Q (.int ((popc b : Int) - (popc (sl N u) : Int))) H'
def fam_set_bits (c : Cs) (C : Addr) (sp : Sp) : Prop := C = c.set ∧ sp = sp_NumberSet_set_bits c
theorem len_NumberSet_set_bits (c : Cs) : ∀ vs H Q E, sp_NumberSet_set_bits c vs H Q E → vs.length = (["self", "upper", "bits"] : List Str).length := by
  rintro vs H Q E ⟨a, d, N, u, b, rfl, _⟩; rfl
/-- NumberSet.set_bits -/
def t_NumberSet_set_bits (c : Cs) (E : XK) : TS :=
  tSeq (tAsg (tMethF (fam_bits_at c) "bits_at" [] E (tVar 0) (tCons (tVar 1) (tNil))) (gName 3))
    (tSeq (tAsg (tCall (sp_least_sack c) [] E (tCons (tVar 2) (tNil))) (gName 4))
    (tSeq (tIfS (tTest (tOp (rIsN) (tVar 4) (tC .non))) (tDrop (tDPop2 (tFld c.K (tVar 0) "by_upper") (tVar 1) (tC .non))) (sDPut (tFld c.K (tVar 0) "by_upper") (tVar 1) (tVar 4)))
    (tRet (tOp rSub (tCall (sp_count_of c) [] E (tCons (tVar 2) (tNil))) (tCall (sp_count_of c) [] E (tCons (tVar 3) (tNil)))))))
theorem pure_NumberSet_set_bits {c : Cs} (G : GoodS c) (vs : List V) (H : Hp) (Q : VK) (E : XK) (h : sp_NumberSet_set_bits c vs H Q E) : t_NumberSet_set_bits c E { nx := fun _ H' => Q .non H', rt := Q } (start ["self", "upper", "bits", "ahead", "sack"] vs) H := by
  obtain ⟨a, d, N, u, b, rfl, hs, hu, hb, hQ⟩ := h
  unfold t_NumberSet_set_bits
  show tSeq _ _ _ [some (.ref a), some (.int (u : Int)), some (.int (b : Int)), none, none] H
  walk_at "go"
  refine hs.at (m := "bits_at") (fam := fam_bits_at c) ⟨rfl, rfl⟩ (by decide +kernel) ?_
  walk_at "go"
  refine ⟨a, d, N, u, rfl, hs, ?_⟩
  walk_at "go"
  have fin : ∀ (v : Option V) (H1 : Hp), But d H H1 → SetAt c H1 a d (setSl N u b) → tRet (tOp rSub (tCall (sp_count_of c) [] E (tCons (tVar 2) (tNil))) (tCall (sp_count_of c) [] E (tCons (tVar 3) (tNil)))) { nx := fun _ H' => Q .non H', rt := Q } [some (.ref a), some (.int (u : Int)), some (.int (b : Int)), some (.int (sl N u : Nat)), v] H1 := by
    intro v H1 b1 s1
    walk_at "go"
    refine ⟨b, rfl, hb, fun H2 s2 => ?_⟩
    walk_at "go"
    refine ⟨sl N u, rfl, sl_lt _ _, fun H3 s3 => ?_⟩
    walk_at "go"
    exact hQ H3 ((b1.trans (But.of s2)).trans (But.of s3)) ((s1.same s2).same s3)
  refine ⟨b, rfl, hb, fun z => ?_, fun z x H1 s1 nx hx => ?_⟩
  · subst z
    walk_at "go"
    refine if_t (by simp) ?_
    walk_at "go"
    refine hs.fld (G := G) ?_
    obtain ⟨kvs, hd, hk⟩ := hs.ex
    refine ⟨d, rfl, .inl ⟨kvs, .inl hd⟩, ?_⟩
    walk_at "go"
    refine ⟨kvs, .inl (u : Int), hd, rfl, fun v hv => ?_, fun hv => ?_⟩
    · exact fin _ _ But.upd (hs.dropS hd hu)
    · refine fin _ _ (But.refl _ _) (hs.noset ?_)
      apply Classical.byContradiction
      intro hz
      obtain ⟨s, e, _⟩ := hk.val hz
      rw [hv] at e; cases e
  · walk_at "go"
    refine if_f (by simp) ?_
    walk_at "go"
    have hs1 := hs.same s1
    refine hs1.fld (G := G) ?_
    walk_at "go"
    obtain ⟨kvs, hd, hk⟩ := hs1.ex
    have hlen : kvs.length < sizeLine := sl5 (by
      have : kvs.length ≤ 65536 := by
        have n1 := hk.1
        have sub : ∀ k ∈ kvs.map (·.1), k ∈ (List.range 65536).map fun u : Nat => (Sum.inl (u : Int) : Key) := fun k hk' => by
          obtain ⟨p, hp, rfl⟩ := List.mem_map.mp hk'
          obtain ⟨v, s, rfl, h1, _⟩ := hk.2.1 p hp
          exact List.mem_map.mpr ⟨v, List.mem_range.mpr (hs1.b.up h1), rfl⟩
        have := nodup_le n1 sub
        rw [List.length_map, List.length_map, List.length_range] at this
        exact this
      omega)
    refine ⟨d, _, rfl, DPut.k (k := .inl (u : Int)) hd hlen, ?_⟩
    exact fin _ _ ((But.of s1).trans But.upd) (hs1.putS hd hx z hb hu)
/-! ### comprehensions over numbers -/
theorem range_get {α β : Type} {d : α} (f : α → β) : ∀ l : List α, (List.range l.length).map (fun i => f (l.getD i d)) = l.map f
  | [] => rfl
  | x :: l => by
    rw [List.length_cons, List.range_succ_eq_map, List.map_cons, List.map_map]
    exact congrArg (f x :: ·) (range_get f l)
theorem range_pick {α β : Type} {d : α} (p : α → Bool) (f : α → β) : ∀ l : List α, ((List.range l.length).filter (fun i => p (l.getD i d))).map (fun i => f (l.getD i d)) = (l.filter p).map f
  | [] => rfl
  | x :: l => by
    have ih := range_pick (d := d) p f l
    rw [List.length_cons, List.range_succ_eq_map, List.filter_cons, List.filter_map, List.filter_cons]
    have e : ((fun i => p ((x :: l).getD i d)) ∘ Nat.succ) = fun i => p (l.getD i d) := rfl
    rw [e]
    have e2 : (List.map Nat.succ (List.filter (fun i => p (l.getD i d)) (List.range l.length))).map (fun i => f ((x :: l).getD i d)) = (l.filter p).map f := by rw [List.map_map]; exact ih
    by_cases h : p x = true
    · rw [if_pos (show p ((x :: l).getD 0 d) = true from h), if_pos h, List.map_cons, List.map_cons, e2]; rfl
    · rw [if_neg (show ¬ p ((x :: l).getD 0 d) = true from h), if_neg h, e2]
theorem getD_of {α : Type} {l : List α} {i : Nat} {x d : α} (h : l[i]? = some x) : l.getD i d = x := by rw [List.getD_eq_getElem?_getD, h]; rfl
section
variable {K : PySem.W.Frag} {g : TG} {tt : TT} {te : TE} {vs : List Nat} {σ : L2.St} {H1 : Hp} {D : Addr} {Qd : Hp → Prop}
/-- numbers out of numbers -/
theorem lcI {a : Addr} {l : List Nat} (p : Nat → Bool) (f : Nat → Int) (nD : H1 D = none) (hx : SqL K H1 a ((nz l).map V.int)) (hl : l.length ≤ 99999)
    (hs : ∀ (x : Nat) (H : Hp) (Rk : VK) (Rs : Hp → Prop), x ∈ l → Same H1 H → (p x = true → ∀ H4, Same H H4 → Rk (.int (f x)) H4) → (p x = false → ∀ H3, Same H H3 → Rs H3) →
      g (.int (x : Int)) (wipe σ vs) H fun σ2 H2 => wipe σ2 vs = wipe σ vs ∧ tt σ2 H2 fun b H3 => if b = true then te σ2 H3 Rk else Rs H3)
    (hd : ∀ H, Same H1 H → H D = some (.lst (((l.filter p).map f).map V.int)) → Qd H) :
    ∃ W : Nat → Nat → Hp → Prop, (∃ m, W 0 m (upd H1 D (.lst []))) ∧ ∀ i m H, W i m H →
      ((Itl K a).stop i H ∧ Qd H) ∨ ((Itl K a).go i H ∧ ∃ Nx : Hp → Prop, (∀ H', Nx H' → ∃ m', m' < m ∧ W (i + 1) m' H') ∧ ∀ x H', (Itl K a).yld i H x H' → g x (wipe σ vs) H' fun σ2 H2 => wipe σ2 vs = wipe σ vs ∧ tt σ2 H2 fun b H3 =>
        if b = true then te σ2 H3 fun y H4 => ∃ acc, H4 D = some (.lst acc) ∧ acc.length < sizeLine ∧ Nx (upd H4 D (.lst (acc ++ [y]))) else Nx H3) := by
  refine lcL (K := K) (fun i => p (l.getD i 0)) (fun i => .int (f (l.getD i 0))) nD hx (by rw [nzv_len]; exact hl) (fun i x H Rk Rs hi s hk hn => ?_) (fun H acc s hD hf => ?_)
  · obtain ⟨m, hm, rfl⟩ := nz_get hi
    rw [getD_of hm] at hk hn
    exact hs m H Rk Rs (List.mem_of_getElem? hm) s (fun z H4 s4 => hk z _ H4 s4 (.int _)) hn
  · refine hd H s ?_
    have e : pickD (fun i => p (l.getD i 0)) (fun i => PyData.int (f (l.getD i 0))) ((nz l).map V.int).length = ((l.filter p).map f).map PyData.int := by
      rw [nzv_len, List.map_map]
      exact range_pick p (fun x => PyData.int (f x)) l
    rw [e] at hf
    rw [hD, hf.intsInv]
/-- over a dict's values -/
theorem lcV {d : Addr} {o : Obj} {kvs : List (Key × V)} (keep : Nat → Bool) (f : Nat → PyData) (nD : H1 D = none) (hx : H1 d = some (.frz o (.dK kvs))) (hl : kvs.length ≤ 99999)
    (hs : ∀ (i : Nat) (k : Key) (x : V) (H : Hp) (Rk : VK) (Rs : Hp → Prop), kvs[i]? = some (k, x) → Same H1 H → (keep i = true → ∀ y H4, Same H H4 → Fd K H H4 y (f i) → Rk y H4) → (keep i = false → ∀ H3, Same H H3 → Rs H3) →
      g x (wipe σ vs) H fun σ2 H2 => wipe σ2 vs = wipe σ vs ∧ tt σ2 H2 fun b H3 => if b = true then te σ2 H3 Rk else Rs H3)
    (hd : ∀ H acc, Same H1 H → H D = some (.lst acc) → Fds K H1 H acc (pickD keep f kvs.length) → Qd H) :
    ∃ W : Nat → Nat → Hp → Prop, (∃ m, W 0 m (upd H1 D (.lst []))) ∧ ∀ i m H, W i m H →
      ((Itd d o kvs).stop i H ∧ Qd H) ∨ ((Itd d o kvs).go i H ∧ ∃ Nx : Hp → Prop, (∀ H', Nx H' → ∃ m', m' < m ∧ W (i + 1) m' H') ∧ ∀ x H', (Itd d o kvs).yld i H x H' → g x (wipe σ vs) H' fun σ2 H2 => wipe σ2 vs = wipe σ vs ∧ tt σ2 H2 fun b H3 =>
        if b = true then te σ2 H3 fun y H4 => ∃ acc, H4 D = some (.lst acc) ∧ acc.length < sizeLine ∧ Nx (upd H4 D (.lst (acc ++ [y]))) else Nx H3) := by
  refine ⟨fun i m H => m = kvs.length - i ∧ i ≤ kvs.length ∧ LcInv K H1 D keep f i H, ⟨kvs.length, rfl, Nat.zero_le _, lcInv0 nD⟩, ?_⟩
  rintro i m H ⟨rfl, hi, P⟩
  have hf : H d = some (.frz o (.dK kvs)) := P.choose_spec.1 _ _ hx
  by_cases c : i < kvs.length
  · refine .inr ⟨⟨hf, c⟩, LcInv K H1 D keep f (i + 1), fun H' p => ⟨_, by omega, rfl, c, p⟩, ?_⟩
    rintro x H' ⟨rfl, k, hk⟩
    exact hs i k x H' _ _ hk P.choose_spec.1 (fun hk y H4 s hy => lcInv_keep nD P hk s hy (by omega)) fun hk H3 s => lcInv_skip P hk s
  · have e : i = kvs.length := by omega
    subst e
    obtain ⟨acc, s, h, dom, hfd⟩ := P
    exact .inl ⟨⟨hf, Nat.le_refl _⟩, hd H acc s h (hfd.left fun b q => (new_of nD rfl).2.2 b q)⟩
end
/-- a lock comes off -/
theorem unlock {H H' : Hp} {d : Addr} {u f : HO} (h : H d = some u) (s : Same (upd H d f) H') : Same H (upd H' d u) := by
  intro p o hp
  by_cases c : p = d
  · subst c
    rw [upd_same, ← hp, h]
  · rw [upd_ne c]
    exact s p o (by rw [upd_ne c]; exact hp)
theorem lock_ins {c : Cs} {H : Hp} {d s : Addr} {k : Kd} {b : Nat} {f : HO} {kvs : List (Key × V)} (h : SackK c H s k b) (hd : H d = some (.dK kvs)) : SackK c (upd H d f) s k b := by
  obtain ⟨dx, h⟩ := h
  exact ⟨dx, by rw [upd_ne (ne_of h hd (by intro z; cases z))]; exact h⟩
/-! ### the upper parts, rising -/
def keyI : Key → Int
  | .inl i => i
  | .inr _ => 0
theorem Sacks.keys {c : Cs} {H : Hp} {kvs : List (Key × V)} {N : Nat} (h : Sacks c H kvs N) : kvs.map (·.1) = (kvs.map fun p => keyI p.1).map Sum.inl := by
  rw [List.map_map]
  apply List.map_congr_left
  intro p hp
  obtain ⟨u, s, rfl, _⟩ := h.2.1 p hp
  rfl
theorem Sacks.nat {c : Cs} {H : Hp} {kvs : List (Key × V)} {N : Nat} (h : Sacks c H kvs N) : (kvs.map fun p => keyI p.1) = nz (kvs.map fun p => (keyI p.1).toNat) := by
  unfold nz
  rw [List.map_map]
  apply List.map_congr_left
  intro p hp
  obtain ⟨u, s, rfl, _⟩ := h.2.1 p hp
  rfl
theorem Sacks.perm {c : Cs} {H : Hp} {kvs : List (Key × V)} {N : Nat} (h : Sacks c H kvs N) (hb : In24 N) : (kvs.map fun p => (keyI p.1).toNat).Perm (upsOf N) := by
  have hn : (kvs.map fun p => (keyI p.1).toNat).Nodup := by
    have h1 := h.1
    rw [h.keys, h.nat] at h1
    unfold nz at h1
    rw [List.map_map] at h1
    exact List.Pairwise.imp (fun hne e => hne (congrArg _ e)) (List.pairwise_map.mp h1)
  refine (List.perm_ext_iff_of_nodup hn ((ups_sorted N).imp fun h => Nat.ne_of_lt h)).mpr fun u => ?_
  rw [mem_ups hb, List.mem_map]
  constructor
  · rintro ⟨p, hp, rfl⟩
    obtain ⟨u, s, rfl, hu, _⟩ := h.2.1 p hp
    exact hu
  · intro hu
    obtain ⟨v, hv⟩ := h.2.2 u hu
    exact ⟨_, hv, by simp [keyI]⟩
theorem sorted_ups {N : Nat} {l : List Nat} {ys : List Int} (hp : l.Perm (upsOf N)) (h1 : ys.Perm (nz l)) (h2 : ys.Pairwise (· ≤ ·)) : ys = nz (upsOf N) := by
  have p : ys.Perm (nz (upsOf N)) := h1.trans (by unfold nz; exact hp.map _)
  refine p.eq_of_pairwise (le := (· ≤ ·)) (fun a b _ _ x y => Int.le_antisymm x y) h2 ?_
  unfold nz
  rw [List.pairwise_map]
  exact (ups_sorted N).imp fun h => by omega
theorem Sacks.len {c : Cs} {H : Hp} {kvs : List (Key × V)} {N : Nat} (h : Sacks c H kvs N) (hb : In24 N) : kvs.length ≤ 65536 := by
  have := (h.perm hb).length_eq
  rw [List.length_map] at this
  rw [this]; exact ups_len N
def sp_NumberSet_uppers (c : Cs) : Sp := fun vs H Q _ => ∃ (a d N : Nat), vs = [.ref a] ∧ SetAt c H a d N ∧ ∀ (p : Addr) (H' : Hp), Same H H' → H p = none → H' p = some (.lst ((nz (upsOf N)).map V.int)) → Q (.ref p) H'
def fam_uppers (c : Cs) (C : Addr) (sp : Sp) : Prop := C = c.set ∧ sp = sp_NumberSet_uppers c
theorem len_NumberSet_uppers (c : Cs) : ∀ vs H Q E, sp_NumberSet_uppers c vs H Q E → vs.length = (["self"] : List Str).length := by
  rintro vs H Q E ⟨a, d, N, rfl, _⟩; rfl
/-- NumberSet.uppers -/
def t_NumberSet_uppers (c : Cs) (E : XK) : TS :=
  tRet (tCB (rSortedU c.K) (tCons (tFld c.K (tVar 0) "by_upper") (tNil)))
theorem pure_NumberSet_uppers {c : Cs} (G : GoodS c) (vs : List V) (H : Hp) (Q : VK) (E : XK) (h : sp_NumberSet_uppers c vs H Q E) : t_NumberSet_uppers c E { nx := fun _ H' => Q .non H', rt := Q } (start ["self"] vs) H := by
  obtain ⟨a, d, N, rfl, hs, hQ⟩ := h
  unfold t_NumberSet_uppers
  show tRet _ _ [some (.ref a)] H
  walk_at "go"
  refine hs.fld (G := G) ?_
  walk_at "go"
  obtain ⟨kvs, hd, hk⟩ := hs.ex
  refine .inl ⟨d, kvs, _, rfl, .inl hd, hk.keys, fun ys p h1 h2 np => ?_⟩
  rw [hk.nat] at h1
  rw [sorted_ups (hk.perm hs.b) h1 h2]
  generalize e : upd H p _ = H1
  obtain ⟨s1, hp, _⟩ := new_of np e
  exact hQ p H1 s1 np hp
/-! ### one number put in, taken out -/
theorem popc_bit {b i : Nat} : popc (b ||| 2 ^ i) = popc b + if b.testBit i = true then 0 else 1 := by
  have p1 : popc (2 ^ i) = 1 := by
    have e : bitsOf (2 ^ i) = [i] := by
      refine sorted_ext (bitsOf_sorted _) (List.Pairwise.cons (fun _ h => by cases h) List.Pairwise.nil) fun x => ?_
      rw [mem_bitsOf, Nat.testBit_two_pow, decide_eq_true_eq, List.mem_singleton]
      exact ⟨fun h => h.symm, fun h => h.symm⟩
    unfold popc; rw [e]; rfl
  by_cases h : b.testBit i = true
  · rw [if_pos h]
    have : b ||| 2 ^ i = b := by
      apply Nat.eq_of_testBit_eq
      intro j
      rw [Nat.testBit_or, Nat.testBit_two_pow]
      by_cases c : i = j
      · subst c; rw [h]; simp
      · rw [decide_eq_false c]; simp
    rw [this]; rfl
  · rw [if_neg h, popc_or, p1]
    intro j hj
    rw [Nat.testBit_two_pow]
    exact decide_eq_false fun e => h (e ▸ hj)
theorem popc_nobit {b i : Nat} : popc b = popc (andn b (2 ^ i)) + if b.testBit i = true then 1 else 0 := by
  have p1 : popc (2 ^ i) = 1 := by
    have e : bitsOf (2 ^ i) = [i] := by
      refine sorted_ext (bitsOf_sorted _) (List.Pairwise.cons (fun _ h => by cases h) List.Pairwise.nil) fun x => ?_
      rw [mem_bitsOf, Nat.testBit_two_pow, decide_eq_true_eq, List.mem_singleton]
      exact ⟨fun h => h.symm, fun h => h.symm⟩
    unfold popc; rw [e]; rfl
  by_cases h : b.testBit i = true
  · rw [if_pos h]
    have := @popc_sum b 0 (andn b (2 ^ i)) (2 ^ i) fun j => by
      rw [andn_bit, Nat.testBit_two_pow, Nat.zero_testBit]
      by_cases c : i = j
      · subst c; rw [h]; simp
      · rw [decide_eq_false c]; simp
    rw [popc_zero, p1] at this
    exact this
  · rw [if_neg h]
    have : andn b (2 ^ i) = b := by
      apply Nat.eq_of_testBit_eq
      intro j
      rw [andn_bit, Nat.testBit_two_pow]
      by_cases c : i = j
      · subst c
        have : b.testBit i = false := by simpa using h
        rw [this]; rfl
      · rw [decide_eq_false c]; simp
    rw [this]; rfl
theorem divmod256 {n : Nat} : (n : Int) / 256 = ((n / 256 : Nat) : Int) ∧ (n : Int) % 256 = ((n % 256 : Nat) : Int) := ⟨by omega, by omega⟩
theorem one_shl' (k : Nat) : (1 : Int) * 2 ^ ((k : Nat) : Int).toNat = ((2 ^ k : Nat) : Int) := by rw [Int.one_mul, Int.toNat_natCast, Int.natCast_pow]; rfl
def sp_NumberSet_put (c : Cs) : Sp := fun vs H Q E => ∃ (a d N : Nat) (x : V), vs = [.ref a, x] ∧ SetAt c H a d N ∧ Kn H x ∧
  (∀ (n : Nat) (H' : Hp), x = .int (n : Int) → n < 16777216 → But d H H' → SetAt c H' a d (N ||| 2 ^ n) → Q (.bl (!N.testBit n)) H') ∧ (numV x = false → E (.ref c.eNoNumber) none H)
def fam_put (c : Cs) (C : Addr) (sp : Sp) : Prop := C = c.set ∧ sp = sp_NumberSet_put c
theorem len_NumberSet_put (c : Cs) : ∀ vs H Q E, sp_NumberSet_put c vs H Q E → vs.length = (["self", "number"] : List Str).length := by
  rintro vs H Q E ⟨a, d, N, x, rfl, _⟩; rfl
/-- NumberSet.put -/
def t_NumberSet_put (c : Cs) (E : XK) : TS :=
  tSeq (tDrop (tCall (sp_need_number c) [] E (tCons (tVar 1) (tNil))))
    (tSeq (tAsg (tCB (rDivmod) (tCons (tVar 1) (tCons (tC (.int 256)) (tNil)))) (gTup c.K 2 (gCons (gName 2) (gCons (gName 3) (gNil)))))
    (tRet (tOp (rEqu c.K) (tMethF (fam_set_bits c) "set_bits" [] E (tVar 0) (tCons (tVar 2) (tCons (tOp rBor (tMethF (fam_bits_at c) "bits_at" [] E (tVar 0) (tCons (tVar 2) (tNil))) (tOp rShl (tC (.int 1)) (tVar 3))) (tNil)))) (tC (.int 1)))))
theorem pure_NumberSet_put {c : Cs} (G : GoodS c) (vs : List V) (H : Hp) (Q : VK) (E : XK) (h : sp_NumberSet_put c vs H Q E) : t_NumberSet_put c E { nx := fun _ H' => Q .non H', rt := Q } (start ["self", "number", "upper", "low"] vs) H := by
  obtain ⟨a, d, N, x, rfl, hs, hk, hQ, hE⟩ := h
  unfold t_NumberSet_put
  show tSeq _ _ _ [some (.ref a), some x, none, none] H
  walk_at "go"
  refine ⟨x, rfl, hk, fun z => ?_, hE⟩
  obtain ⟨n, rfl, hn⟩ := num_nat z
  walk_at "go"
  refine ⟨_, _, rfl, ⟨by omega, by omega⟩, ?_⟩
  intro t nt
  generalize et : upd H t _ = H1
  obtain ⟨sH1, ht, dH1⟩ := new_of nt et
  walk_at "go"
  refine ⟨t, _, rfl, SqT.of ht, rfl, ?_⟩
  walk_at "go"
  rw [divmod256.1, divmod256.2]
  have hs1 := hs.same sH1
  refine hs1.at (m := "set_bits") (fam := fam_set_bits c) ⟨rfl, rfl⟩ (by decide +kernel) ?_
  walk_at "go"
  refine hs1.at (m := "bits_at") (fam := fam_bits_at c) ⟨rfl, rfl⟩ (by decide +kernel) ?_
  walk_at "go"
  refine ⟨a, d, N, _, rfl, hs1, ?_⟩
  walk_at "go"
  rw [one_shl', or_cast]
  have hb : sl N (n / 256) ||| 2 ^ (n % 256) < 2 ^ 256 := Nat.or_lt_two_pow (sl_lt _ _) (Nat.pow_lt_pow_right (by decide) (by omega))
  refine ⟨a, d, N, _, _, rfl, hs1, by omega, hb, fun H2 b2 s2 => ?_⟩
  walk_at "go"
  rw [setSl_or] at s2
  have e : decide ((popc (sl N (n / 256) ||| 2 ^ (n % 256)) : Int) - (popc (sl N (n / 256)) : Int) = 1) = !N.testBit n := by
    have q : (sl N (n / 256)).testBit (n % 256) = N.testBit n := by
      rw [sl_bit, decide_eq_true (show n % 256 < 256 by omega), Bool.true_and]
      congr 1; omega
    rw [popc_bit, q]
    cases N.testBit n
    · exact decide_eq_true (by simp; omega)
    · exact decide_eq_false (by simp)
  rw [e]
  exact hQ n H2 rfl hn ((But.of sH1).trans b2) s2
def sp_NumberSet_drop (c : Cs) : Sp := fun vs H Q E => ∃ (a d N : Nat) (x : V), vs = [.ref a, x] ∧ SetAt c H a d N ∧ Kn H x ∧
  (∀ (n : Nat) (H' : Hp), x = .int (n : Int) → n < 16777216 → But d H H' → SetAt c H' a d (andn N (2 ^ n)) → Q (.bl (N.testBit n)) H') ∧ (numV x = false → E (.ref c.eNoNumber) none H)
def fam_drop (c : Cs) (C : Addr) (sp : Sp) : Prop := C = c.set ∧ sp = sp_NumberSet_drop c
theorem len_NumberSet_drop (c : Cs) : ∀ vs H Q E, sp_NumberSet_drop c vs H Q E → vs.length = (["self", "number"] : List Str).length := by
  rintro vs H Q E ⟨a, d, N, x, rfl, _⟩; rfl
/-- NumberSet.drop -/
def t_NumberSet_drop (c : Cs) (E : XK) : TS :=
  tSeq (tDrop (tCall (sp_need_number c) [] E (tCons (tVar 1) (tNil))))
    (tSeq (tAsg (tCB (rDivmod) (tCons (tVar 1) (tCons (tC (.int 256)) (tNil)))) (gTup c.K 2 (gCons (gName 2) (gCons (gName 3) (gNil)))))
    (tRet (tOp (rEqu c.K) (tMethF (fam_set_bits c) "set_bits" [] E (tVar 0) (tCons (tVar 2) (tCons (tOp rBan (tMethF (fam_bits_at c) "bits_at" [] E (tVar 0) (tCons (tVar 2) (tNil))) (tUn rInv (tOp rShl (tC (.int 1)) (tVar 3)))) (tNil)))) (tUn rNeg (tC (.int 1))))))
theorem pure_NumberSet_drop {c : Cs} (G : GoodS c) (vs : List V) (H : Hp) (Q : VK) (E : XK) (h : sp_NumberSet_drop c vs H Q E) : t_NumberSet_drop c E { nx := fun _ H' => Q .non H', rt := Q } (start ["self", "number", "upper", "low"] vs) H := by
  obtain ⟨a, d, N, x, rfl, hs, hk, hQ, hE⟩ := h
  unfold t_NumberSet_drop
  show tSeq _ _ _ [some (.ref a), some x, none, none] H
  walk_at "go"
  refine ⟨x, rfl, hk, fun z => ?_, hE⟩
  obtain ⟨n, rfl, hn⟩ := num_nat z
  walk_at "go"
  refine ⟨_, _, rfl, ⟨by omega, by omega⟩, ?_⟩
  intro t nt
  generalize et : upd H t _ = H1
  obtain ⟨sH1, ht, dH1⟩ := new_of nt et
  walk_at "go"
  refine ⟨t, _, rfl, SqT.of ht, rfl, ?_⟩
  walk_at "go"
  rw [divmod256.1, divmod256.2]
  have hs1 := hs.same sH1
  refine hs1.at (m := "set_bits") (fam := fam_set_bits c) ⟨rfl, rfl⟩ (by decide +kernel) ?_
  walk_at "go"
  refine hs1.at (m := "bits_at") (fam := fam_bits_at c) ⟨rfl, rfl⟩ (by decide +kernel) ?_
  walk_at "go"
  refine ⟨a, d, N, _, rfl, hs1, ?_⟩
  walk_at "go"
  have e2 : sl N (n / 256) ^^^ (sl N (n / 256) &&& 2 ^ (n % 256)) = andn (sl N (n / 256)) (2 ^ (n % 256)) := rfl
  rw [one_shl', and_not_cast, e2]
  have hb : andn (sl N (n / 256)) (2 ^ (n % 256)) < 2 ^ 256 := by
    apply Nat.lt_pow_two_of_testBit
    intro i hi
    rw [andn_bit, Nat.testBit_lt_two_pow (lt_pow_mono (sl_lt _ _) hi)]; rfl
  refine ⟨a, d, N, _, _, rfl, hs1, by omega, hb, fun H2 b2 s2 => ?_⟩
  walk_at "go"
  rw [setSl_andn] at s2
  have e : decide ((popc (andn (sl N (n / 256)) (2 ^ (n % 256))) : Int) - (popc (sl N (n / 256)) : Int) = -1) = N.testBit n := by
    have q : (sl N (n / 256)).testBit (n % 256) = N.testBit n := by
      rw [sl_bit, decide_eq_true (show n % 256 < 256 by omega), Bool.true_and]
      congr 1; omega
    have r := @popc_nobit (sl N (n / 256)) (n % 256)
    rw [q] at r
    cases h : N.testBit n
    · rw [h] at r; exact decide_eq_false (by simp at r; omega)
    · rw [h] at r; exact decide_eq_true (by simp at r; omega)
  rw [e]
  exact hQ n H2 rfl hn ((But.of sH1).trans b2) s2
/-! ### a set is made -/
def NumsAt (K : PySem.W.Frag) (H : Hp) (nums : V) (xs : List V) : Prop := (nums = .non ∧ xs = []) ∨ ∃ p, nums = .ref p ∧ (SqL K H p xs ∨ SqT K H p xs)
theorem NumsAt.same {K : PySem.W.Frag} {H H' : Hp} {nums : V} {xs : List V} (h : NumsAt K H nums xs) (s : Same H H') : NumsAt K H' nums xs := by
  rcases h with h | ⟨p, e, h | h⟩
  · exact .inl h
  · exact .inr ⟨p, e, .inl (s.seq h)⟩
  · exact .inr ⟨p, e, .inr (s.tup h)⟩
theorem But.sqt {K : PySem.W.Frag} {d p : Addr} {H H1 : Hp} {xs : List V} (b : But d H H1) (hd : ∃ o, H d = some o ∧ ¬ (∃ q o', o = .frz o' (.tup q)) ∧ ∀ q, o ≠ .tup q) (h : SqT K H p xs) : SqT K H1 p xs := by
  obtain ⟨o, hd, n1, n2⟩ := hd
  rcases h with (h | ⟨o', h⟩) | h
  · exact .inl (.inl (b p _ (ne_of h hd (fun e => n2 _ e.symm)) h))
  · exact .inl (.inr ⟨o', b p _ (ne_of h hd (fun e => n1 ⟨_, _, e.symm⟩)) h⟩)
  · exact .inr h
theorem But.tupd {K : PySem.W.Frag} {d p : Addr} {H H1 : Hp} {xs : List V} (b : But d H H1) (hd : ∃ kvs, H d = some (.dK kvs)) (h : SqT K H p xs) : SqT K H1 p xs := by
  obtain ⟨kvs, hd⟩ := hd
  exact b.sqt ⟨_, hd, (fun ⟨_, _, e⟩ => by cases e), fun _ e => by cases e⟩ h
theorem for_nums {K : PySem.W.Frag} {σ : L2.St} {H1 : Hp} {nums : V} {xs : List V} {tb : TS} {D : Ends} {d : Addr} (hσ : σ[1]? = some (some nums)) (hn : NumsAt K H1 nums xs) (hd : ∃ kvs, H1 d = some (.dK kvs)) (P : Hp → Nat → L2.St → Hp → Prop)
    (h0 : ∀ H2, Same H1 H2 → P H2 0 σ H2) (hl : ∀ H2, Same H1 H2 → ∀ i σ H, P H2 i σ H → But d H2 H)
    (hs : ∀ H2, Same H1 H2 → ∀ i x σ H, xs[i]? = some x → P H2 i σ H → gName 2 x σ H fun σ2 H3 => tb { D with nx := P H2 (i + 1), ct := P H2 (i + 1), bk := D.nx } σ2 H3)
    (hdn : ∀ H2, Same H1 H2 → ∀ σ H, P H2 xs.length σ H → D.nx σ H) : tFor (iSeq K (tOrT K (tVar 1) (tTup (tNil)))) (gName 2) tb D σ H1 := by
  -- an empty row
  have empty : xs = [] → ∀ p, H1 p = none → iTup K (fun _ H Q => Q (.ref p) H) σ (upd H1 p (.tup [])) fun J H1 => ∃ W : Nat → Nat → L2.St → Hp → Prop, (∃ m, W 0 m σ H1) ∧ ∀ i m σ H, W i m σ H →
      (J.stop i H ∧ D.nx σ H) ∨ (J.go i H ∧ ∃ N : L2.St → Hp → Prop, (∀ σ' H', N σ' H' → ∃ m', m' < m ∧ W (i + 1) m' σ' H') ∧ ∀ x H', J.yld i H x H' → gName 2 x σ H' fun σ2 H2 => tb { D with nx := N, ct := N, bk := D.nx } σ2 H2) := by
    intro e p np
    subst e
    obtain ⟨s, hp, _⟩ := new_of np rfl
    refine ⟨p, rfl, ⟨[], SqT.of hp⟩, for_tup (K := K) (a := p) (xs := []) (P (upd H1 p (.tup []))) (h0 _ s) (fun i σ H _ h => ?_) (fun i x σ H hi => by simp at hi) (hdn _ s)⟩
    obtain ⟨kvs, hd⟩ := hd
    exact (hl _ s i σ H h).tupd ⟨kvs, s _ _ hd⟩ (SqT.of hp)
  by_cases e : xs = []
  · refine .inr (.inl ?_)
    show iTup K _ σ H1 _
    refine ⟨nums, hσ, false, ?_, ?_⟩
    · rcases hn with ⟨rfl, _⟩ | ⟨p, rfl, h | h⟩
      · rfl
      · exact .inl ⟨xs, h, by rw [e]; rfl⟩
      · exact .inr (.inl ⟨xs, h, by rw [e]; rfl⟩)
    · rw [if_neg (by simp)]
      exact ⟨sz5 (by simp), fun p np => empty e p np⟩
  · have ne : (!xs.isEmpty) = true := by cases xs with
      | nil => exact absurd rfl e
      | cons _ _ => rfl
    rcases hn with ⟨_, e2⟩ | ⟨p, rfl, h | h⟩
    · exact absurd e2 e
    · refine .inl ?_
      refine ⟨.ref p, hσ, true, .inl ⟨xs, h, ne.symm⟩, ?_⟩
      rw [if_pos rfl]
      exact ⟨p, rfl, ⟨xs, h⟩, for_list (K := K) (a := p) (xs := xs) (P H1) (h0 _ (Same.refl _)) (fun i σ H _ q => (hl _ (Same.refl _) i σ H q).seq hd h) (hs _ (Same.refl _)) (hdn _ (Same.refl _))⟩
    · refine .inr (.inl ?_)
      refine ⟨.ref p, hσ, true, .inr (.inl ⟨xs, h, ne.symm⟩), ?_⟩
      rw [if_pos rfl]
      exact ⟨p, rfl, ⟨xs, h⟩, for_tup (K := K) (a := p) (xs := xs) (P H1) (h0 _ (Same.refl _)) (fun i σ H _ q => (hl _ (Same.refl _) i σ H q).tupd hd h) (hs _ (Same.refl _)) (hdn _ (Same.refl _))⟩
def sp_NumberSet___init__ (c : Cs) : Sp := fun vs H Q E => ∃ (x dx : Addr) (nums : V) (xs : List V), vs = [.ref x, nums] ∧ H x = some (.ins c.set dx []) ∧ NumsAt c.K H nums xs ∧ (∀ y ∈ xs, Kn H y) ∧
  ((∀ y ∈ xs, numV y = true) → ∀ (d : Addr) (H' : Hp), H d = none → But x H H' → SetAt c H' x d (orV xs) → Q .non H') ∧ ((∃ y ∈ xs, numV y = false) → ∀ H', But x H H' → E (.ref c.eNoNumber) none H')
theorem len_NumberSet___init__ (c : Cs) : ∀ vs H Q E, sp_NumberSet___init__ c vs H Q E → vs.length = (["self", "numbers"] : List Str).length := by
  rintro vs H Q E ⟨x, dx, nums, xs, rfl, _⟩; rfl
/-- NumberSet.__init__ -/
def t_NumberSet___init__ (c : Cs) (E : XK) : TS :=
  tSeq (sFld c.K (tVar 0) (tDNewK) "by_upper")
    (tSeq (tFor (iSeq c.K (tOrT c.K (tVar 1) (tTup (tNil)))) (gName 2) (tDrop (tCall (sp_need_number c) [] E (tCons (tVar 2) (tNil)))))
    (tFor (iSeq c.K (tOrT c.K (tVar 1) (tTup (tNil)))) (gName 2) (tDrop (tMethF (fam_put c) "put" [] E (tVar 0) (tCons (tVar 2) (tNil))))))
theorem Kn.but {d : Addr} {H H' : Hp} {x : V} (k : Kn H x) (b : But d H H') (hd : ∀ x, H d = some x → (∀ q, x ≠ .tup q) ∧ (∀ q, x ≠ .lst q) ∧ ∀ q, x ≠ .dK q) : Kn H' x := by
  cases k with
  | non => exact .non
  | bl b => exact .bl b
  | int i => exact .int i
  | str x => exact .str x
  | tup h => exact .tup (b _ _ (fun e => (hd _ (e ▸ h)).1 _ rfl) h)
  | lst h => exact .lst (b _ _ (fun e => (hd _ (e ▸ h)).2.1 _ rfl) h)
  | dK h => exact .dK (b _ _ (fun e => (hd _ (e ▸ h)).2.2 _ rfl) h)
theorem pure_NumberSet___init__ {c : Cs} (G : GoodS c) (vs : List V) (H : Hp) (Q : VK) (E : XK) (h : sp_NumberSet___init__ c vs H Q E) : t_NumberSet___init__ c E { nx := fun _ H' => Q .non H', rt := Q } (start ["self", "numbers", "number"] vs) H := by
  obtain ⟨x, dx, nums, xs, rfl, hx, hn, hk, hQ, hE⟩ := h
  unfold t_NumberSet___init__
  show tSeq _ _ _ [some (.ref x), some nums, none] H
  walk_at "go"
  intro d nd
  walk_at "go"
  obtain ⟨s1, hd1, _⟩ := new_of (o := .dK []) nd rfl
  generalize upd H d (.dK []) = H1 at s1 hd1
  have hx1 := s1 _ _ hx
  have ndx : d ≠ x := ne_of hd1 hx1 (by intro z; cases z)
  refine ⟨x, _, dx, [], rfl, hx1, G.cs, G.ns, by decide, ?_⟩
  have bx : But x H1 (upd H1 x (.ins c.set dx [("by_upper", .ref d)])) := But.upd
  have hx2 : upd H1 x (.ins c.set dx [("by_upper", .ref d)]) x = some (.ins c.set dx [("by_upper", .ref d)]) := upd_same
  have insx : ∀ o, H x = some o → (∀ q, o ≠ .tup q) ∧ (∀ q, o ≠ .lst q) ∧ ∀ q, o ≠ .dK q := fun o h => by
    rw [hx] at h; cases h
    exact ⟨fun _ e => (by cases e), fun _ e => (by cases e), fun _ e => (by cases e)⟩
  show tSeq _ _ _ _ (upd H1 x (.ins c.set dx [("by_upper", .ref d)]))
  generalize upd H1 x (.ins c.set dx [("by_upper", .ref d)]) = H2 at bx hx2
  have b2 : But x H H2 := (But.of s1).trans bx
  have hd2 : H2 d = some (.dK []) := bx _ _ ndx hd1
  have s0 : SetAt c H2 x d 0 := ⟨⟨dx, hx2⟩, ⟨[], hd2, List.Pairwise.nil, fun p hp => (by cases hp), fun u hu => absurd (sl_zero u) hu⟩, in24_zero⟩
  have hk2 : ∀ y ∈ xs, Kn H2 y := fun y hy => (hk y hy).but b2 insx
  have hn2 : NumsAt c.K H2 nums xs := by
    rcases hn with h | ⟨p, e, h | h⟩
    · exact .inl h
    · refine .inr ⟨p, e, .inl ?_⟩
      rcases h with (h | ⟨o, h⟩) | h
      · exact .inl (.inl (b2 p _ (ne_of h hx (by intro z; cases z)) h))
      · exact .inl (.inr ⟨o, b2 p _ (ne_of h hx (by intro z; cases z)) h⟩)
      · exact .inr h
    · exact .inr ⟨p, e, .inr (b2.sqt ⟨_, hx, (fun ⟨_, _, e⟩ => by cases e), fun _ e => by cases e⟩ h)⟩
  walk_at "go"
  refine for_nums (d := d) rfl hn2 ⟨_, hd2⟩ (fun H3 i σ H4 => H4 = H3 ∧ ∃ v, σ = [some (.ref x), some nums, v] ∧ ∀ y ∈ xs.take i, numV y = true) (fun H3 _ => ⟨rfl, none, rfl, fun y hy => by simp at hy⟩) (fun H3 _ i σ H4 ⟨e, _⟩ => by rw [e]; exact But.refl _ _) ?_ ?_
  · rintro H3 s3 i y σ H4 hi ⟨rfl, v, rfl, hall⟩
    have hy : y ∈ xs := List.mem_of_getElem? hi
    walk_at "go"
    refine ⟨y, rfl, (hk2 y hy).same s3, fun z => ?_, fun z => ?_⟩
    · walk_at "go"
      refine ⟨rfl, _, rfl, fun u hu => ?_⟩
      rw [take_more hi] at hu
      rcases List.mem_append.mp hu with hu | hu
      · exact hall u hu
      · have : u = y := by simpa using hu
        exact this ▸ z
    · exact hE ⟨y, hy, z⟩ _ (b2.trans (But.of s3))
  · rintro H3 s3 σ H4 ⟨rfl, v, rfl, hall⟩
    rw [List.take_length] at hall
    have s03 := s0.same s3
    dsimp only
    refine for_nums (d := d) rfl (hn2.same s3) s03.d (fun H5 i σ H6 => But d H5 H6 ∧ SetAt c H6 x d (orV (xs.take i)) ∧ ∃ v, σ = [some (.ref x), some nums, v]) (fun H5 s5 => ⟨But.refl _ _, s03.same s5, v, rfl⟩) (fun H5 _ i σ H6 h => h.1) ?_ ?_
    · rintro H5 s5 i y σ H6 hi ⟨b6, s6, v, rfl⟩
      have hy : y ∈ xs := List.mem_of_getElem? hi
      obtain ⟨n, rfl, hn⟩ := num_nat (hall y hy)
      walk_at "go"
      refine s6.at (m := "put") (fam := fam_put c) ⟨rfl, rfl⟩ (by decide +kernel) ?_
      walk_at "go"
      refine ⟨x, d, _, _, rfl, s6, .int _, fun m H7 em hm b7 s7 => ?_, fun z => by rw [num_of hn] at z; cases z⟩
      have em : m = n := by
        have := V.int.inj em
        omega
      subst em
      walk_at "go"
      refine ⟨b6.trans b7, ?_, _, rfl⟩
      rw [take_more hi, orV_snoc]
      exact s7
    · rintro H5 s5 σ H6 ⟨b6, s6, v, rfl⟩
      rw [List.take_length] at s6
      have bb : But x H H6 := by
        intro p o np hp
        have q := ((b2.trans (But.of s3)).trans (But.of s5)) p o np hp
        exact b6 p o (fun e => by rw [e, nd] at hp; cases hp) q
      exact hQ hall d H6 nd bb s6
/-- behind NumberSet(..) -/
theorem mk_set {c : Cs} {H1 : Hp} {args dvs : List V} {nums : V} {xs : List V} {Q : Addr → Hp → Prop} {E : XK} (ha : args ++ dvs = [nums]) (hn : NumsAt c.K H1 nums xs) (hk : ∀ y ∈ xs, Kn H1 y)
    (q : (∀ y ∈ xs, numV y = true) → ∀ (x d : Addr) (H2 : Hp), H1 x = none → H1 d = none → Same H1 H2 → SetAt c H2 x d (orV xs) → Q x H2) (e : (∃ y ∈ xs, numV y = false) → ∀ H2, Same H1 H2 → E (.ref c.eNoNumber) none H2) :
    ∀ x dx, H1 x = none → H1 dx = none → dx ≠ x → sp_NumberSet___init__ c (.ref x :: (args ++ dvs)) (upd (upd H1 dx (.own x)) x (.ins c.set dx [])) (fun v H2 => v = .non ∧ Q x H2) E := by
  intro x dx nx ndx ne
  rw [ha]
  have s1 : Same H1 (upd (upd H1 dx (.own x)) x (.ins c.set dx [])) := by
    intro a o h
    rw [upd_ne (ne_of_none h nx), upd_ne (ne_of_none h ndx)]
    exact h
  have sx : ∀ {H2 : Hp}, But x (upd (upd H1 dx (.own x)) x (.ins c.set dx [])) H2 → Same H1 H2 := fun b a o h => b a o (ne_of_none h nx) (s1 a o h)
  exact ⟨x, dx, nums, xs, rfl, upd_same, hn.same s1, fun y hy => (hk y hy).same s1, fun h d H2 nd b s => ⟨rfl, q h x d H2 nx (s1.free nd) (sx b) s⟩, fun h H2 b => e h H2 (sx b)⟩
/-! ### the sacks -/
def sackD (N u : Nat) : PyData := .tuple [.int (u : Int), formD (sl N u)]
def sacksD (N : Nat) : List PyData := (upsOf N).map (sackD N)
theorem Sm.sack (N u : Nat) : Sm 4 (sackD N u) := .tuple fun d hd => by
  rcases List.mem_cons.mp hd with rfl | hd
  · exact .int _
  · have : d = formD (sl N u) := by simpa using hd
    subst this; exact Sm.form _
theorem Sm.sacks (N : Nat) : Sm 5 (.list (sacksD N)) := .list fun d hd => by
  obtain ⟨u, _, rfl⟩ := List.mem_map.mp hd
  exact Sm.sack N u
def sp_NumberSet_sacks (c : Cs) : Sp := fun vs H Q _ => ∃ (a d N : Nat), vs = [.ref a] ∧ SetAt c H a d N ∧ GivesL c H Q (sacksD N)
def fam_sacks (c : Cs) (C : Addr) (sp : Sp) : Prop := C = c.set ∧ sp = sp_NumberSet_sacks c
theorem len_NumberSet_sacks (c : Cs) : ∀ vs H Q E, sp_NumberSet_sacks c vs H Q E → vs.length = (["self"] : List Str).length := by
  rintro vs H Q E ⟨a, d, N, rfl, _⟩; rfl
/-- NumberSet.sacks -/
def t_NumberSet_sacks (c : Cs) (E : XK) : TS :=
  tRet (tLc (iSeq c.K (tMethF (fam_uppers c) "uppers" [] E (tVar 0) tNil)) (gName 1) (tYes) (tTup (tCons (tVar 1) (tCons (tMethF (fam_form c) "form" [] E0 (tDGet (tFld c.K (tVar 0) "by_upper") (tVar 1)) tNil) (tNil)))) [1])
theorem pure_NumberSet_sacks {c : Cs} (G : GoodS c) (vs : List V) (H : Hp) (Q : VK) (E : XK) (h : sp_NumberSet_sacks c vs H Q E) : t_NumberSet_sacks c E { nx := fun _ H' => Q .non H', rt := Q } (start ["self", "upper"] vs) H := by
  obtain ⟨a, d, N, rfl, hs, hQ⟩ := h
  unfold t_NumberSet_sacks
  show tRet _ _ [some (.ref a), none] H
  walk_at "go"
  refine .inl ?_
  walk_at "go"
  refine hs.at (m := "uppers") (fam := fam_uppers c) ⟨rfl, rfl⟩ (by decide +kernel) ?_
  walk_at "go"
  refine ⟨a, d, N, rfl, hs, fun p H1 s1 np hp => ?_⟩
  refine ⟨p, rfl, ⟨_, SqL.of hp⟩, fun D nD => ?_⟩
  refine lcL (K := c.K) (fun _ => true) (fun i => sackD N ((upsOf N).getD i 0)) nD (SqL.of hp) (by rw [nzv_len]; have := ups_len N; omega) (fun i x H2 Rk Rs hi s2 hk hn => ?_) (fun H2 acc s2 hD hf => ?_)
  · obtain ⟨u, hu, rfl⟩ := nz_get hi
    rw [getD_of hu] at hk
    have hu0 := ups_ne (List.mem_of_getElem? hu)
    have hs2 := (hs.same s1).same s2
    simp only [wipe, List.set_cons_zero, List.set_cons_succ]
    walk_at "go"
    refine ⟨(by first | exact rfl | exact trivial), ?_⟩
    walk_at "go"
    refine hs2.fld (G := G) ?_
    walk_at "go"
    obtain ⟨s, hg, hks⟩ := hs2.get hu0
    refine ⟨d, .ref s, rfl, hg, ?_⟩
    refine hks.at (m := "form") (fam := fam_form c) (dvs := []) ⟨_, rfl, rfl⟩ (by decide +kernel) ?_
    walk_at "go"
    refine ⟨s, _, _, rfl, hks, sl_lt _ _, fun u3 xs3 H3 s3 nu3 hu3 hf3 => ?_⟩
    walk_at "go"
    refine ⟨sz5 (by simp), fun q nq => ?_⟩
    generalize eq : upd H3 q _ = H4
    obtain ⟨sH4, hq, dH4⟩ := new_of nq eq
    refine hk rfl _ H4 (s3.trans sH4) ?_
    exact Fd.tup (s3.free nq) hq (Fds.cons (.int _) (Fds.cons ((Fd.tup nu3 hu3 hf3).to (New.same sH4)) .nil))
  · rw [nzv_len, pickD_all, range_get] at hf
    exact hQ D acc H2 (s1.trans s2) (s1.free nD) hD (hf.left fun b q => s1.free q)
/-! ### all numbers between two -/
/-! ### how many numbers -/
def sp_NumberSet_count (c : Cs) : Sp := fun vs H Q _ => ∃ (a d N : Nat), vs = [.ref a] ∧ SetAt c H a d N ∧ ∀ H', Same H H' → Q (.int (popc N : Nat)) H'
def fam_countS (c : Cs) (C : Addr) (sp : Sp) : Prop := C = c.set ∧ sp = sp_NumberSet_count c
def fam_count (c : Cs) (C : Addr) (sp : Sp) : Prop := ∃ k, C = c.kd k ∧ sp = sp_Sack_count c
theorem len_NumberSet_count (c : Cs) : ∀ vs H Q E, sp_NumberSet_count c vs H Q E → vs.length = (["self"] : List Str).length := by
  rintro vs H Q E ⟨a, d, N, rfl, _⟩; rfl
/-- NumberSet.count -/
def t_NumberSet_count (c : Cs) (E : XK) : TS :=
  tRet (tCB (rSum c.K) (tCons (tLockE (tLc (iVals (tFld c.K (tVar 0) "by_upper")) (gName 1) (tYes) (tMethF (fam_count c) "count" [] E0 (tVar 1) tNil) [1])) (tNil)))
theorem Sacks.item {c : Cs} {H : Hp} {kvs : List (Key × V)} {N i : Nat} {k : Key} {v : V} (h : Sacks c H kvs N) (hi : kvs[i]? = some (k, v)) : ∃ (u : Nat) (s : Addr), k = .inl (u : Int) ∧ v = .ref s ∧ (kvs.map fun p => (keyI p.1).toNat).getD i 0 = u ∧ sl N u ≠ 0 ∧ SackK c H s (kdB (sl N u)) (sl N u) := by
  obtain ⟨u, s, e, h1, h2⟩ := h.2.1 _ (List.mem_of_getElem? hi)
  cases e
  refine ⟨u, s, rfl, rfl, ?_, h1, h2⟩
  rw [List.getD_eq_getElem?_getD, List.getElem?_map, hi]
  simp [keyI]
theorem pure_NumberSet_count {c : Cs} (G : GoodS c) (vs : List V) (H : Hp) (Q : VK) (E : XK) (h : sp_NumberSet_count c vs H Q E) : t_NumberSet_count c E { nx := fun _ H' => Q .non H', rt := Q } (start ["self", "sack"] vs) H := by
  obtain ⟨a, d, N, rfl, hs, hQ⟩ := h
  unfold t_NumberSet_count
  show tRet _ _ [some (.ref a), none] H
  walk_at "go"
  obtain ⟨kvs, hd, hk⟩ := hs.ex
  refine ⟨d, _, hd, trivial, fun od => ?_⟩
  walk_at "go"
  have ha1 : ∃ dx, upd H d (.frz od (.dK kvs)) a = some (.ins c.set dx [("by_upper", .ref d)]) := by
    obtain ⟨dx, hi⟩ := hs.i
    exact ⟨dx, by rw [upd_ne (ne_of hi hd (by intro z; cases z))]; exact hi⟩
  obtain ⟨dx, ha1⟩ := ha1
  have hd1 : upd H d (.frz od (.dK kvs)) d = some (.frz od (.dK kvs)) := upd_same
  have hl1 : ∀ {s k b}, SackK c H s k b → SackK c (upd H d (.frz od (.dK kvs))) s k b := fun h => lock_ins h hd
  have un : ∀ H', Same (upd H d (.frz od (.dK kvs))) H' → Same H (upd H' d (.dK kvs)) := fun H' s => unlock hd s
  generalize upd H d (.frz od (.dK kvs)) = H1 at ha1 hd1 hl1 un
  refine ⟨a, _, dx, _, _, rfl, ha1, G.cs, G.ns, lk1, ?_⟩
  refine ⟨d, od, kvs, rfl, hd1, fun D nD => ?_⟩
  refine lcV (K := c.K) (fun _ => true) (fun i => .int (popc (sl N ((kvs.map fun p => (keyI p.1).toNat).getD i 0)) : Nat)) nD hd1 (by have := hk.len hs.b; omega) (fun i k x H2 Rk Rs hi s2 hkk hnn => ?_) (fun H2 acc s2 hD hf => ?_)
  · obtain ⟨u, s, rfl, rfl, e, hu, hks⟩ := hk.item hi
    rw [e] at hkk
    simp only [wipe, List.set_cons_zero, List.set_cons_succ]
    walk_at "go"
    refine ⟨(by first | exact rfl | exact trivial), ?_⟩
    walk_at "go"
    refine ((hl1 hks).same s2).at (m := "count") (fam := fam_count c) (dvs := []) ⟨_, rfl, rfl⟩ (by decide +kernel) ?_
    walk_at "go"
    refine ⟨s, _, _, rfl, (hl1 hks).same s2, sl_lt _ _, fun H3 s3 => ?_⟩
    exact hkk rfl _ H3 s3 (.int _)
  · have hd2 := s2 _ _ hd1
    refine ⟨hd2, ?_⟩
    have e : pickD (fun _ => true) (fun i => PyData.int (popc (sl N ((kvs.map fun p => (keyI p.1).toNat).getD i 0)) : Nat)) kvs.length = (nz ((kvs.map fun p => (keyI p.1).toNat).map fun u => popc (sl N u))).map PyData.int := by
      have := range_get (d := 0) (fun u => PyData.int (popc (sl N u) : Nat)) (kvs.map fun p => (keyI p.1).toNat)
      rw [List.length_map] at this
      rw [pickD_all, this]
      unfold nz
      simp only [List.map_map]; rfl
    rw [e] at hf
    rw [hf.intsInv] at hD
    walk_at "go"
    have nDd : D ≠ d := ne_of hD hd2 (by intro z; cases z)
    refine r_sum (p := D) (ns := nz ((kvs.map fun p => (keyI p.1).toNat).map fun u => popc (sl N u))) (SqL.of (by rw [upd_ne nDd]; exact hD)) ?_
    have e2 : (nz ((kvs.map fun p => (keyI p.1).toNat).map fun u => popc (sl N u))).sum = ((popc N : Nat) : Int) := by
      have s1 : ∀ l : List Nat, (nz l).sum = ((l.sum : Nat) : Int) := fun l => by
        induction l with
        | nil => rfl
        | cons x l ih => show (x : Int) + (nz l).sum = _; rw [ih, List.sum_cons]; omega
      rw [s1, ← popc_ups hs.b, ((hk.perm hs.b).map _).sum_nat]
    rw [e2]
    exact hQ _ (un H2 s2)
/-! ### is it there -/
/-! ### stretches as bits -/
def mask (m n : Nat) : Nat := 2 ^ (n + 1) - 2 ^ m
theorem mask_mul {m n : Nat} (h : m ≤ n + 1) : mask m n = (2 ^ (n + 1 - m) - 1) * 2 ^ m := by
  unfold mask
  rw [Nat.sub_mul, ← Nat.pow_add, Nat.one_mul]
  congr 2; omega
theorem mask_bit {m n : Nat} (h : m ≤ n + 1) (i : Nat) : (mask m n).testBit i = (decide (m ≤ i) && decide (i ≤ n)) := by
  rw [mask_mul h, Nat.testBit_mul_two_pow, Nat.testBit_two_pow_sub_one]
  by_cases c : m ≤ i
  · rw [decide_eq_true c, Bool.true_and, Bool.true_and, decide_eq_decide]; omega
  · rw [decide_eq_false c, Bool.false_and, Bool.false_and]
/-- a way, bit by bit -/
def Wy.bop : Wy → Bool → Bool → Bool
  | .putA, a, b => a || b
  | .dropA, a, b => a && !b
  | .turnA, a, b => a ^^ b
  | .joinW, a, b => a || b
  | .metW, a, b => a && b
  | .lessW, a, b => a && !b
  | .apartW, a, b => a ^^ b
theorem op_bit (k : Wy) (a b i : Nat) : (k.op a b).testBit i = k.bop (a.testBit i) (b.testBit i) := by
  cases k <;> simp only [Wy.op, Wy.bop, andn_bit, Nat.testBit_or, Nat.testBit_and, Nat.testBit_xor]
theorem bop_ff (k : Wy) : k.bop false false = false := by cases k <;> rfl
def Wy.mild (k : Wy) : Prop := k ≠ .metW
theorem bop_f {k : Wy} (h : k.mild) (a : Bool) : k.bop a false = a := by
  cases k <;> first | exact absurd rfl h | (cases a <;> rfl)
theorem op_lt {k : Wy} {a b n : Nat} (ha : a < 2 ^ n) (hb : b < 2 ^ n) : k.op a b < 2 ^ n := by
  apply Nat.lt_pow_two_of_testBit
  intro i hi
  rw [op_bit, Nat.testBit_lt_two_pow (lt_pow_mono ha hi), Nat.testBit_lt_two_pow (lt_pow_mono hb hi), bop_ff]
theorem op_mul (k : Wy) (a b n : Nat) : k.op a b * 2 ^ n = k.op (a * 2 ^ n) (b * 2 ^ n) := by
  apply Nat.eq_of_testBit_eq
  intro i
  rw [op_bit, Nat.testBit_mul_two_pow, Nat.testBit_mul_two_pow, Nat.testBit_mul_two_pow, op_bit]
  by_cases c : n ≤ i
  · rw [decide_eq_true c, Bool.true_and, Bool.true_and, Bool.true_and]
  · rw [decide_eq_false c, Bool.false_and, Bool.false_and, Bool.false_and, bop_ff]
theorem mask_shift (m n k : Nat) : mask (k + m) (k + n) = mask m n * 2 ^ k := by
  unfold mask
  rw [Nat.sub_mul, ← Nat.pow_add, ← Nat.pow_add]
  congr 2 <;> omega
theorem mask_lt {m n k : Nat} (h : n < k) : mask m n < 2 ^ k := by
  unfold mask
  have : 2 ^ (n + 1) ≤ 2 ^ k := Nat.pow_le_pow_right (by decide) (by omega)
  have := Nat.two_pow_pos m
  have := Nat.two_pow_pos (n + 1)
  omega
theorem mod_bit (a n i : Nat) : (a % 2 ^ n).testBit i = (decide (i < n) && a.testBit i) := Nat.testBit_mod_two_pow _ _ _
/-- the low part of a stretch -/
theorem mask_mod0 {m n u : Nat} (h : m ≤ n + 1) (hu : 256 * u ≤ m) : mask m n % 2 ^ (256 * u) = 0 := by
  apply Nat.eq_of_testBit_eq
  intro i
  rw [mod_bit, mask_bit h, Nat.zero_testBit]
  by_cases c : i < 256 * u
  · rw [decide_eq_false (show ¬ m ≤ i by omega)]; simp
  · rw [decide_eq_false c, Bool.false_and]
theorem mask_mod1 {m n u : Nat} (hu : n < 256 * u) : mask m n % 2 ^ (256 * u) = mask m n := Nat.mod_eq_of_lt (mask_lt hu)
/-- one sack more -/
theorem op_step {k : Wy} {N M t : Nat} (h : k.mild) : setSl (k.op N (M % 2 ^ (256 * t))) t (k.op (sl N t) (sl M t)) = k.op N (M % 2 ^ (256 * (t + 1))) := by
  apply Nat.eq_of_testBit_eq
  intro i
  rw [setSl_bit (op_lt (sl_lt _ _) (sl_lt _ _)), op_bit, op_bit, op_bit, mod_bit, mod_bit, sl_bit, sl_bit]
  by_cases c : i / 256 = t
  · rw [if_pos c, decide_eq_true (show i % 256 < 256 by omega), decide_eq_true (show i < 256 * (t + 1) by omega), Bool.true_and, Bool.true_and, Bool.true_and]
    have e : 256 * t + i % 256 = i := by omega
    rw [e]
  · rw [if_neg c]
    have : decide (i < 256 * t) = decide (i < 256 * (t + 1)) := by rw [decide_eq_decide]; omega
    rw [this]
theorem op_sl {k : Wy} {N M t : Nat} (h : k.mild) : sl (k.op N (M % 2 ^ (256 * t))) t = sl N t := by
  apply Nat.eq_of_testBit_eq
  intro i
  rw [sl_bit, sl_bit, op_bit, mod_bit]
  by_cases c : i < 256
  · rw [decide_eq_false (show ¬ 256 * t + i < 256 * t by omega), Bool.false_and, bop_f h]
  · rw [decide_eq_false c, Bool.false_and, Bool.false_and]
theorem op_zero {k : Wy} {N : Nat} (h : k.mild) : k.op N 0 = N := by
  apply Nat.eq_of_testBit_eq
  intro i
  rw [op_bit, Nat.zero_testBit, bop_f h]
/-- a stretch's bits within a sack -/
theorem sl_mask {m n u : Nat} (h : m ≤ n) (h1 : m / 256 ≤ u) (h2 : u ≤ n / 256) : sl (mask m n) u = mask (m - 256 * u) (if n - 256 * u < 255 then n - 256 * u else 255) := by
  apply Nat.eq_of_testBit_eq
  intro i
  have hm : m - 256 * u ≤ (if n - 256 * u < 255 then n - 256 * u else 255) + 1 := by split <;> omega
  rw [sl_bit, mask_bit (by omega), mask_bit hm]
  by_cases c : i < 256
  · rw [decide_eq_true c, Bool.true_and]
    have e1 : decide (m ≤ 256 * u + i) = decide (m - 256 * u ≤ i) := by rw [decide_eq_decide]; omega
    have e2 : decide (256 * u + i ≤ n) = decide (i ≤ if n - 256 * u < 255 then n - 256 * u else 255) := by
      rw [decide_eq_decide]; split <;> omega
    rw [e1, e2]
  · rw [decide_eq_false c, Bool.false_and, decide_eq_false (show ¬ i ≤ (if n - 256 * u < 255 then n - 256 * u else 255) by split <;> omega), Bool.and_false]
theorem In24.op {k : Wy} {N M : Nat} (h : In24 N) (g : In24 M) : In24 (k.op N M) := by
  intro i hi
  rw [op_bit] at hi
  apply Classical.byContradiction
  intro c
  have a : N.testBit i = false := by
    cases e : N.testBit i with
    | false => rfl
    | true => exact absurd (h i e) c
  have b : M.testBit i = false := by
    cases e : M.testBit i with
    | false => rfl
    | true => exact absurd (g i e) c
  rw [a, b, bop_ff] at hi
  cases hi
local macro_rules | `(tactic| walk_at "go1") => `(tactic| with_reducible refine w_lam ?_)
/-! ### heaps that differ at one dict and at the tables -/
def ButX (d : Addr) (H H' : Hp) : Prop := ∀ p o, p ≠ d → (∀ ps, o ≠ .tbl ps) → H p = some o → H' p = some o
theorem ButX.refl (d : Addr) (H : Hp) : ButX d H H := fun _ _ _ _ h => h
theorem ButX.trans {d : Addr} {H H1 H2 : Hp} (a : ButX d H H1) (b : ButX d H1 H2) : ButX d H H2 := fun p o n t h => b p o n t (a p o n t h)
theorem But.x {d : Addr} {H H1 : Hp} (b : But d H H1) : ButX d H H1 := fun p o n _ h => b p o n h
theorem ButX.same {d : Addr} {H H1 : Hp} (s : Same H H1) : ButX d H H1 := (But.of s).x
theorem ButX.ext {d : Addr} {H H1 : Hp} (s : LamX.ExtN H H1) : ButX d H H1 := fun p o _ t h => s p o h t
theorem ButX.lst {d p : Addr} {H H1 : Hp} {xs : List V} (b : ButX d H H1) (hd : ∃ kvs, H d = some (.dK kvs)) (h : H p = some (.lst xs)) : H1 p = some (.lst xs) := by
  obtain ⟨kvs, hd⟩ := hd
  exact b p _ (ne_of h hd (by intro z; cases z)) (fun _ z => by cases z) h
theorem ButX.tup {d p : Addr} {H H1 : Hp} {xs : List V} (b : ButX d H H1) (hd : ∃ kvs, H d = some (.dK kvs)) (h : H p = some (.tup xs)) : H1 p = some (.tup xs) := by
  obtain ⟨kvs, hd⟩ := hd
  exact b p _ (ne_of h hd (by intro z; cases z)) (fun _ z => by cases z) h
theorem ButX.seq {K : PySem.W.Frag} {d p : Addr} {H H1 : Hp} {xs : List V} (b : ButX d H H1) (hd : ∃ kvs, H d = some (.dK kvs)) (h : SqL K H p xs) : SqL K H1 p xs := by
  rcases h with (h | ⟨o, h⟩) | h
  · exact .inl (.inl (b.lst hd h))
  · obtain ⟨kvs, hd⟩ := hd
    exact .inl (.inr ⟨o, b p _ (ne_of h hd (by intro z; cases z)) (fun _ z => by cases z) h⟩)
  · exact .inr h
theorem SetAt.ext {c : Cs} {H H' : Hp} {a d : Addr} {N : Nat} (h : SetAt c H a d N) (e : LamX.ExtN H H') : SetAt c H' a d N := by
  obtain ⟨dx, hi⟩ := h.i
  obtain ⟨kvs, h1, h2⟩ := h.ex
  refine ⟨⟨dx, e _ _ hi fun _ z => (by cases z)⟩, ⟨kvs, e _ _ h1 fun _ z => (by cases z), h2.ext fun s k b q => ?_⟩, h.b⟩
  obtain ⟨dx, q⟩ := q
  exact ⟨dx, e _ _ q fun _ z => (by cases z)⟩
theorem Kn.ext {H H' : Hp} {x : V} (k : Kn H x) (e : LamX.ExtN H H') : Kn H' x := by
  cases k with
  | non => exact .non
  | bl b => exact .bl b
  | int i => exact .int i
  | str x => exact .str x
  | tup h => exact .tup (e _ _ h fun _ z => by cases z)
  | lst h => exact .lst (e _ _ h fun _ z => by cases z)
  | dK h => exact .dK (e _ _ h fun _ z => by cases z)
theorem seq_ext {K : PySem.W.Frag} {p : Addr} {H H1 : Hp} {xs : List V} (b : LamX.ExtN H H1) (h : SqL K H p xs) : SqL K H1 p xs := by
  rcases h with (h | ⟨o, h⟩) | h
  · exact .inl (.inl (b _ _ h fun _ z => by cases z))
  · exact .inl (.inr ⟨o, b _ _ h fun _ z => by cases z⟩)
  · exact .inr h
theorem tabs_but {T : List (Addr × Str)} {d : Addr} {H H' : Hp} (t : LamX.Tabs T H) (b : But d H H') (hd : ∃ kvs, H d = some (.dK kvs)) : LamX.Tabs T H' := by
  obtain ⟨kvs, hd⟩ := hd
  intro p hp
  obtain ⟨ps, h1, h2, h3⟩ := t p hp
  refine ⟨ps, b _ _ (ne_of h1 hd (by intro z; cases z)) h1, h2, fun pos cv hc => ?_⟩
  obtain ⟨z, e1, e2⟩ := h3 pos cv hc
  exact ⟨z, e1, b _ _ (ne_of e2 hd (codeO_dK _)) e2⟩
theorem WayAt.but {c : Cs} {d : Addr} {H H' : Hp} {f : Addr} {k : Wy} (w : WayAt c H f k) (b : But d H H') (hd : ∃ kvs, H d = some (.dK kvs)) : WayAt c H' f k := by
  obtain ⟨kvs, hd⟩ := hd
  obtain ⟨z, h1, h2⟩ := w
  exact ⟨z, b _ _ (ne_of h1 hd (lamO_dK _)) h1, b _ _ (ne_of h2 hd (codeO_dK _)) h2⟩
theorem WayAt.same {c : Cs} {H H' : Hp} {f : Addr} {k : Wy} (w : WayAt c H f k) (b : Same H H') : WayAt c H' f k := by
  obtain ⟨z, h1, h2⟩ := w
  exact ⟨z, b _ _ h1, b _ _ h2⟩
/-! ### stretches -/
def sp_need_stretch (c : Cs) : Sp := fun vs H Q E => ∃ m n : Nat, vs = [.int (m : Int), .int (n : Int)] ∧ (m ≤ n → n - m ≤ 99999 → Q .non H) ∧ (n < m ∨ 99999 < n - m → E (.ref c.eNoStretch) none H)
theorem len_need_stretch (c : Cs) : ∀ vs H Q E, sp_need_stretch c vs H Q E → vs.length = (["first", "last"] : List Str).length := by
  rintro vs H Q E ⟨m, n, rfl, _⟩; rfl
/-- need_stretch -/
def t_need_stretch (c : Cs) (E : XK) : TS :=
  tIfS (tOr (tTest (tOp (rLt) (tVar 1) (tVar 0))) (tTest (tOp (rGt) (tOp rSub (tVar 1) (tVar 0)) (tC (.int 99999))))) (fun _ σ H => E (.ref c.eNoStretch) none H) (tNext)
theorem pure_need_stretch {c : Cs} (G : Good c) (vs : List V) (H : Hp) (Q : VK) (E : XK) (h : sp_need_stretch c vs H Q E) : t_need_stretch c E { nx := fun _ H' => Q .non H', rt := Q } (start ["first", "last"] vs) H := by
  obtain ⟨m, n, rfl, hQ, hE⟩ := h
  unfold t_need_stretch
  show tIfS _ _ _ _ [some (.int (m : Int)), some (.int (n : Int))] H
  walk_at "go"
  refine if_d (fun z => ?_) (fun z => ?_)
  · exact hE (.inl (by omega))
  · walk_at "go"
    refine if_d (fun z2 => ?_) (fun z2 => ?_)
    · exact hE (.inr (by omega))
    · walk_at "go"
      exact hQ (by omega) (by omega)
def sp_stretch_bits (c : Cs) : Sp := fun vs H Q _ => ∃ u m n : Nat, vs = [.int (u : Int), .int (m : Int), .int (n : Int)] ∧ m ≤ n ∧ m / 256 ≤ u ∧ u ≤ n / 256 ∧ Q (.int ((sl (mask m n) u : Nat) : Int)) H
theorem len_stretch_bits (c : Cs) : ∀ vs H Q E, sp_stretch_bits c vs H Q E → vs.length = (["upper", "first", "last"] : List Str).length := by
  rintro vs H Q E ⟨u, m, n, rfl, _⟩; rfl
/-- stretch_bits -/
def t_stretch_bits (c : Cs) (E : XK) : TS :=
  tSeq (tAsg (tCB (rMaxU c.K) (tCons (tOp rSub (tVar 1) (tOp rMul (tC (.int 256)) (tVar 0))) (tCons (tC (.int 0)) (tNil)))) (gName 3))
    (tSeq (tAsg (tCB (rMinU c.K) (tCons (tOp rSub (tVar 2) (tOp rMul (tC (.int 256)) (tVar 0))) (tCons (tOp rSub (tC (.int 256)) (tC (.int 1))) (tNil)))) (gName 4))
    (tRet (tOp rSub (tOp rShl (tC (.int 1)) (tOp rAdd (tVar 4) (tC (.int 1)))) (tOp rShl (tC (.int 1)) (tVar 3)))))
theorem mask_int {l h : Nat} (e : l ≤ h + 1) : (1 : Int) * 2 ^ ((h : Int) + 1).toNat - (1 : Int) * 2 ^ ((l : Nat) : Int).toNat = ((mask l h : Nat) : Int) := by
  have e1 : ((h : Int) + 1).toNat = h + 1 := by omega
  have p : 2 ^ l ≤ 2 ^ (h + 1) := Nat.pow_le_pow_right (by decide) e
  unfold mask
  rw [e1, Int.toNat_natCast, Int.one_mul, Int.one_mul, Int.ofNat_sub p, Int.natCast_pow, Int.natCast_pow]; rfl
theorem pure_stretch_bits {c : Cs} (G : Good c) (vs : List V) (H : Hp) (Q : VK) (E : XK) (h : sp_stretch_bits c vs H Q E) : t_stretch_bits c E { nx := fun _ H' => Q .non H', rt := Q } (start ["upper", "first", "last", "low", "high"] vs) H := by
  obtain ⟨u, m, n, rfl, h0, h1, h2, hQ⟩ := h
  unfold t_stretch_bits
  show tSeq _ _ _ [some (.int (u : Int)), some (.int (m : Int)), some (.int (n : Int)), none, none] H
  walk_at "go"
  have e1 : (if (0 : Int) > (m : Int) - 256 * (u : Int) then (0 : Int) else (m : Int) - 256 * (u : Int)) = ((m - 256 * u : Nat) : Int) := by split <;> omega
  have e2 : (if (256 : Int) - 1 < (n : Int) - 256 * (u : Int) then (256 : Int) - 1 else (n : Int) - 256 * (u : Int)) = (((if n - 256 * u < 255 then n - 256 * u else 255) : Nat) : Int) := by split <;> split <;> omega
  rw [sl_mask h0 h1 h2] at hQ
  have l1 : m - 256 * u ≤ (if n - 256 * u < 255 then n - 256 * u else 255) + 1 := by split <;> omega
  have l2 : (if n - 256 * u < 255 then n - 256 * u else 255) ≤ 255 := by split <;> omega
  rw [e2]
  generalize (if n - 256 * u < 255 then n - 256 * u else 255) = h at l1 l2 hQ
  walk_at "go"
  rw [e1]
  walk_at "go"
  rw [mask_int l1]
  exact hQ
def lastV (x y : V) : V := if y = .non then x else y
theorem if_last {D : Ends} {H : Hp} {s0 s3 s4 s5 : Option V} {x y : V} (h : D.nx [s0, some x, some (lastV x y), s3, s4, s5] H) :
    tIfS (tTest (tOp rIsN (tVar 2) (tC .non))) (tAsg (tVar 1) (gName 2)) tNext D [s0, some x, some y, s3, s4, s5] H := by
  walk_at "go"
  refine if_d (fun z => ?_) (fun z => ?_)
  · walk_at "go"
    unfold lastV at h
    rw [if_pos z] at h
    exact h
  · walk_at "go"
    unfold lastV at h
    rw [if_neg z] at h
    exact h
def sp_NumberSet_by_stretch (c : Cs) : Sp := fun vs H Q E => ∃ (a d N f : Nat) (x y : V) (k : Wy), vs = [.ref a, x, y, .ref f] ∧ SetAt c H a d N ∧ Kn H x ∧ Kn H y ∧ k.mild ∧ WayAt c H f k ∧
  (∀ (m n : Nat) (H' : Hp), x = .int (m : Int) → lastV x y = .int (n : Int) → m ≤ n → n - m ≤ 99999 → n < 16777216 → But d H H' → SetAt c H' a d (k.op N (mask m n)) → Q (.int ((popc (k.op N (mask m n)) : Int) - (popc N : Int))) H') ∧
  (numV x = false ∨ numV (lastV x y) = false → E (.ref c.eNoNumber) none H) ∧
  (∀ m n : Nat, x = .int (m : Int) → lastV x y = .int (n : Int) → m < 16777216 → n < 16777216 → n < m ∨ 99999 < n - m → E (.ref c.eNoStretch) none H)
def fam_by_stretch (c : Cs) (C : Addr) (sp : Sp) : Prop := C = c.set ∧ sp = sp_NumberSet_by_stretch c
theorem len_NumberSet_by_stretch (c : Cs) : ∀ vs H Q E, sp_NumberSet_by_stretch c vs H Q E → vs.length = (["self", "first", "last", "way"] : List Str).length := by
  rintro vs H Q E ⟨a, d, N, f, x, y, k, rfl, _⟩; rfl
/-- NumberSet.by_stretch -/
def t_NumberSet_by_stretch (c : Cs) (E : XK) : TS :=
  tSeq (tDrop (tCall (sp_need_number c) [] E (tCons (tVar 1) (tNil))))
    (tSeq (tIfS (tTest (tOp (rIsN) (tVar 2) (tC .non))) (tAsg (tVar 1) (gName 2)) (tNext))
    (tSeq (tDrop (tCall (sp_need_number c) [] E (tCons (tVar 2) (tNil))))
    (tSeq (tDrop (tCall (sp_need_stretch c) [] E (tCons (tVar 1) (tCons (tVar 2) (tNil)))))
    (tSeq (tAsg (tC (.int 0)) (gName 4))
    (tSeq (tFor (iRng2 (tCons (tOp rFdv (tVar 1) (tC (.int 256))) (tCons (tOp rAdd (tOp rFdv (tVar 2) (tC (.int 256))) (tC (.int 1))) (tNil)))) (gName 5) (tAug 4 (tMethF (fam_set_bits c) "set_bits" [] E (tVar 0) (tCons (tVar 5) (tCons (tWay c 3 (tCons (tMethF (fam_bits_at c) "bits_at" [] E (tVar 0) (tCons (tVar 5) (tNil))) (tCons (tCall (sp_stretch_bits c) [] E (tCons (tVar 5) (tCons (tVar 1) (tCons (tVar 2) (tNil))))) (tNil)))) (tNil)))) pAdd))
    (tRet (tVar 4)))))))
theorem kn_last {H : Hp} {x y : V} (kx : Kn H x) (ky : Kn H y) : Kn H (lastV x y) := by
  unfold lastV
  split
  · exact kx
  · exact ky
theorem pure_NumberSet_by_stretch {c : Cs} (G : GoodS c) (vs : List V) (H : Hp) (Q : VK) (E : XK) (h : sp_NumberSet_by_stretch c vs H Q E) : t_NumberSet_by_stretch c E { nx := fun _ H' => Q .non H', rt := Q } (start ["self", "first", "last", "way", "more", "upper"] vs) H := by
  obtain ⟨a, d, N, f, x, y, k, rfl, hs, kx, ky, hm, hw, hQ, hE, hE2⟩ := h
  unfold t_NumberSet_by_stretch
  show tSeq _ _ _ [some (.ref a), some x, some y, some (.ref f), none, none] H
  walk_at "go"
  refine ⟨x, rfl, kx, fun zx => ?_, fun z => hE (.inl z)⟩
  refine w_seq (if_last ?_)
  have kl := kn_last kx ky
  obtain ⟨m, rfl, hmb⟩ := num_nat zx
  generalize hz : lastV (.int (m : Int)) y = z at *
  walk_at "go"
  refine ⟨z, rfl, kl, fun zz => ?_, fun zz => hE (.inr zz)⟩
  obtain ⟨n, rfl, hnb⟩ := num_nat zz
  walk_at "go"
  refine ⟨m, n, rfl, fun h1 h2 => ?_, fun h3 => hE2 m n rfl rfl hmb hnb h3⟩
  walk_at "go"
  have e0 : (m : Int) / 256 = ((m / 256 : Nat) : Int) := by omega
  have e1 : (n : Int) / 256 = ((n / 256 : Nat) : Int) := by omega
  rw [e0, e1]
  have hmn : mask m n % 2 ^ (256 * (m / 256)) = 0 := mask_mod0 (by omega) (by omega)
  refine ⟨_, _, rfl, ⟨by omega, by omega, by omega, by omega⟩, for_range (lo := ((m / 256 : Nat) : Int)) (n := (((n / 256 : Nat) : Int) + 1 - ((m / 256 : Nat) : Int)).toNat) (fun i σ H1 => ∃ v, σ = [some (.ref a), some (.int (m : Int)), some (.int (n : Int)), some (.ref f), some (.int ((popc (k.op N (mask m n % 2 ^ (256 * (m / 256 + i)))) : Int) - (popc N : Int))), v] ∧ But d H H1 ∧ SetAt c H1 a d (k.op N (mask m n % 2 ^ (256 * (m / 256 + i)))))
    ⟨none, ?_, But.refl _ _, ?_⟩ ?_ ?_⟩
  · rw [Nat.add_zero, hmn, op_zero hm]; simp
  · rw [Nat.add_zero, hmn, op_zero hm]; exact hs
  · rintro i σ H1 hi ⟨v, rfl, b1, s1⟩
    have w1 := hw.but b1 hs.d
    have ei : ((m / 256 : Nat) : Int) + (i : Int) = ((m / 256 + i : Nat) : Int) := by omega
    have hi2 : m / 256 + i ≤ n / 256 := by omega
    rw [ei]
    generalize ht : m / 256 + i = t at *
    walk_at "go"
    refine s1.at (m := "set_bits") (fam := fam_set_bits c) ⟨rfl, rfl⟩ (by decide +kernel) ?_
    walk_at "go"
    refine w_way rfl w1 ?_
    walk_at "go"
    refine s1.at (m := "bits_at") (fam := fam_bits_at c) ⟨rfl, rfl⟩ (by decide +kernel) ?_
    walk_at "go"
    refine ⟨a, d, _, t, rfl, s1, ?_⟩
    walk_at "go"
    refine ⟨t, m, n, rfl, h1, by omega, hi2, ?_⟩
    walk_at "go"
    rw [op_sl hm]
    refine ⟨_, _, rfl, w1, ?_⟩
    walk_at "go"
    have hlt : k.op (sl N t) (sl (mask m n) t) < 2 ^ 256 := op_lt (sl_lt _ _) (sl_lt _ _)
    refine ⟨a, d, _, t, _, rfl, s1, by omega, hlt, fun H2 b2 s2 => ?_⟩
    have pc := @setSl_popc (k.op N (mask m n % 2 ^ (256 * t))) t _ hlt
    rw [op_step hm, op_sl hm] at pc
    rw [op_step hm] at s2
    rw [op_sl hm]
    walk_at "go"
    have e3 : m / 256 + (i + 1) = t + 1 := by omega
    rw [e3]
    have e4 : ((popc (k.op N (mask m n % 2 ^ (256 * t))) : Int) - (popc N : Int)) + ((popc (k.op (sl N t) (sl (mask m n) t)) : Int) - (popc (sl N t) : Int)) = (popc (k.op N (mask m n % 2 ^ (256 * (t + 1)))) : Int) - (popc N : Int) := by omega
    rw [← e4]
    exact ⟨_, rfl, b1.trans b2, s2⟩
  · rintro σ H1 ⟨v, rfl, b1, s1⟩
    have e5 : m / 256 + (((n / 256 : Nat) : Int) + 1 - ((m / 256 : Nat) : Int)).toNat = n / 256 + 1 := by omega
    rw [e5, mask_mod1 (by omega)] at s1
    rw [e5, mask_mod1 (by omega)]
    walk_at "go"
    exact hQ m n H1 rfl rfl h1 h2 hnb b1 s1
/-! ### put_all, drop_all, turn -/
def sp_deed (c : Cs) (k : Wy) : Sp := fun vs H Q E => ∃ (a d N : Nat) (x y : V), vs = [.ref a, x, y] ∧ SetAt c H a d N ∧ Kn H x ∧ Kn H y ∧ LamX.Tabs c.T H ∧
  (∀ (m n : Nat) (H' : Hp), x = .int (m : Int) → lastV x y = .int (n : Int) → m ≤ n → n - m ≤ 99999 → n < 16777216 → ButX d H H' → LamX.Tabs c.T H' → SetAt c H' a d (k.op N (mask m n)) → Q (.int ((popc (k.op N (mask m n)) : Int) - (popc N : Int))) H') ∧
  (numV x = false ∨ numV (lastV x y) = false → ∀ H', LamX.ExtN H H' → LamX.Tabs c.T H' → E (.ref c.eNoNumber) none H') ∧
  (∀ m n : Nat, x = .int (m : Int) → lastV x y = .int (n : Int) → m < 16777216 → n < 16777216 → n < m ∨ 99999 < n - m → ∀ H', LamX.ExtN H H' → LamX.Tabs c.T H' → E (.ref c.eNoStretch) none H')
def sp_NumberSet_turn (c : Cs) : Sp := sp_deed c .turnA
def fam_turn (c : Cs) (C : Addr) (sp : Sp) : Prop := C = c.set ∧ sp = sp_NumberSet_turn c
theorem deed_pure {c : Cs} (G : GoodS c) {k : Wy} {E : XK} {H : Hp} {Q : VK} {vs : List V} (hk : k.mild) (h : sp_deed c k vs H Q E) :
    tRet (tMethF (fam_by_stretch c) "by_stretch" [] E (tVar 0) (tCons (tVar 1) (tCons (tVar 2) (tCons (tLam c.T (c.way k)) (tNil))))) { nx := fun _ H' => Q .non H', rt := Q } (start ["self", "first", "last"] vs) H := by
  obtain ⟨a, d, N, x, y, rfl, hs, kx, ky, hT, hQ, hE, hE2⟩ := h
  show tRet _ _ [some (.ref a), some x, some y] H
  walk_at "go"
  refine hs.at (m := "by_stretch") (fam := fam_by_stretch c) ⟨rfl, rfl⟩ (by decide +kernel) ?_
  walk_at "go"
  refine ⟨hT, fun f z H1 e1 T1 nf hf hz => ?_⟩
  walk_at "go"
  have s1 := hs.ext e1
  refine ⟨a, d, N, f, x, y, k, rfl, s1, kx.ext e1, ky.ext e1, hk, ⟨z, hf, hz⟩, fun m n H2 ex ey h1 h2 hn b2 s2 => ?_, fun zz => hE zz H1 e1 T1, fun m n ex ey hm hn zz => hE2 m n ex ey hm hn zz H1 e1 T1⟩
  exact hQ m n H2 ex ey h1 h2 hn ((ButX.ext e1).trans b2.x) (tabs_but T1 b2 s1.d) s2
theorem len_NumberSet_turn (c : Cs) : ∀ vs H Q E, sp_NumberSet_turn c vs H Q E → vs.length = (["self", "first", "last"] : List Str).length := by
  rintro vs H Q E ⟨a, d, N, x, y, rfl, _⟩; rfl
/-- NumberSet.turn -/
def t_NumberSet_turn (c : Cs) (E : XK) : TS :=
  tRet (tMethF (fam_by_stretch c) "by_stretch" [] E (tVar 0) (tCons (tVar 1) (tCons (tVar 2) (tCons (tLam c.T (c.way .turnA)) (tNil)))))
theorem pure_NumberSet_turn {c : Cs} (G : GoodS c) (vs : List V) (H : Hp) (Q : VK) (E : XK) (h : sp_NumberSet_turn c vs H Q E) : t_NumberSet_turn c E { nx := fun _ H' => Q .non H', rt := Q } (start ["self", "first", "last"] vs) H := by
  unfold t_NumberSet_turn
  exact deed_pure G (fun e => by cases e) h
/-! ### a window of twelve sacks -/
def sp__law_begin (c : Cs) : Sp := fun vs H Q _ => ∃ n : Nat, vs = [.int (n : Int)] ∧ n < 4611686018427387904 ∧ ∀ (w : Nat) (H' : Hp), w ≤ 65524 → Same H H' → Q (.int ((256 * w : Nat) : Int)) H'
theorem len__law_begin (c : Cs) : ∀ vs H Q E, sp__law_begin c vs H Q E → vs.length = (["_law_cell"] : List Str).length := by
  rintro vs H Q E ⟨n, rfl, _⟩; rfl
/-- _law_begin -/
def t__law_begin (c : Cs) (E : XK) : TS :=
  tRet (tOp rMul (tC (.int 256)) (tOp (rIx c.K) (tLst (tCons (tC (.int 0)) (tCons (tC (.int 65524)) (tCons (tOp rMod (tOp rFdv (tVar 0) (tC (.int 3))) (tC (.int 65525))) (tNil))))) (tOp rMod (tVar 0) (tC (.int 3)))))
theorem pure__law_begin {c : Cs} (G : Good c) (vs : List V) (H : Hp) (Q : VK) (E : XK) (h : sp__law_begin c vs H Q E) : t__law_begin c E { nx := fun _ H' => Q .non H', rt := Q } (start ["_law_cell"] vs) H := by
  obtain ⟨n, rfl, hn, hQ⟩ := h
  unfold t__law_begin
  show tRet _ _ [some (.int (n : Int))] H
  walk_at "go"
  obtain ⟨r, hr⟩ : ∃ r : Nat, (n : Int) / 3 % 65525 = r := ⟨n / 3 % 65525, by omega⟩
  rw [hr]
  refine ⟨sz5 (by simp), fun p np => ?_⟩
  generalize ep : upd H p _ = H1
  obtain ⟨sH1, hp, dH1⟩ := new_of np ep
  walk_at "go"
  obtain ⟨j, hj⟩ : ∃ j : Nat, (n : Int) % 3 = j := ⟨n % 3, by omega⟩
  rw [hj]
  have hj3 : j < 3 := by omega
  obtain ⟨w, hw, hw2⟩ : ∃ w : Nat, atI [V.int 0, .int 65524, .int (r : Int)] (j : Int) = some (.int (w : Int)) ∧ w ≤ 65524 := by
    match j, hj3 with
    | 0, _ => exact ⟨0, rfl, by omega⟩
    | 1, _ => exact ⟨65524, rfl, by omega⟩
    | 2, _ => exact ⟨r, rfl, by omega⟩
  refine r_ixL (SqL.of hp) hw ?_
  walk_at "go"
  have e : (256 : Int) * (w : Int) = ((256 * w : Nat) : Int) := by omega
  rw [e]
  exact hQ w H1 hw2 sH1
theorem mask_sl (m k : Nat) : Builtin.bitAnd ((m : Int) / 2 ^ ((256 : Int) * ((0 : Int) + (k : Int))).toNat) ((1 : Int) * 2 ^ (256 : Int).toNat - 1) = ((sl m k : Nat) : Int) := by
  have e1 : ((256 : Int) * ((0 : Int) + (k : Int))).toNat = 256 * k := by omega
  have e2 : (m : Int) / 2 ^ (256 * k) = ((m / 2 ^ (256 * k) : Nat) : Int) := by rw [Int.natCast_ediv, Int.natCast_pow]; rfl
  have e3 : ((1 : Int) * 2 ^ (256 : Int).toNat - 1) = ((2 ^ 256 - 1 : Nat) : Int) := by decide +kernel
  rw [e1, e2, e3, and_cast, Nat.and_two_pow_sub_one_eq_mod]
  rfl
/-- the sacks that are there, below n -/
def winK (m n : Nat) : List Nat := (List.range n).filter fun k => decide (sl m k ≠ 0)
theorem winK_succ (m n : Nat) : winK m (n + 1) = if sl m n ≠ 0 then winK m n ++ [n] else winK m n := by
  unfold winK
  rw [List.range_succ, List.filter_append, List.filter_cons]
  by_cases h : sl m n ≠ 0
  · rw [if_pos h, if_pos (decide_eq_true h)]; rfl
  · rw [if_neg h, if_neg (by simpa using h)]; simp
theorem winK_len (m n : Nat) : (winK m n).length ≤ n := Nat.le_trans (List.length_filter_le _ _) (by simp)
def winD (m w : Nat) (l : List Nat) : List PyData := l.map fun k => .tuple [.int ((w + k : Nat) : Int), formD (sl m k)]
theorem winD_sacks {m w n : Nat} (h : m < 2 ^ (256 * n)) (hw : w + n ≤ 65536) : winD m w (winK m n) = sacksD (m * 2 ^ (256 * w)) := by
  unfold winD sacksD
  rw [win_ups h hw, List.map_map]
  apply List.map_congr_left
  intro k _
  show _ = sackD _ (w + k)
  unfold sackD
  rw [win_sl]
def sp__law_forms (c : Cs) : Sp := fun vs H Q _ => ∃ (m w : Nat), vs = [.int (m : Int), .int ((256 * w : Nat) : Int)] ∧ m < 2 ^ 3072 ∧ w + 12 ≤ 65536 ∧ GivesL c H Q (sacksD (m * 2 ^ (256 * w)))
theorem len__law_forms (c : Cs) : ∀ vs H Q E, sp__law_forms c vs H Q E → vs.length = (["_law_mask", "_law_begin_here"] : List Str).length := by
  rintro vs H Q E ⟨m, w, rfl, _⟩; rfl
/-- _law_forms -/
def t__law_forms (c : Cs) (E : XK) : TS :=
  tSeq (tAsg (tLst (tNil)) (gName 2))
    (tSeq (tFor (iRng1 (tCons (tC (.int 12)) (tNil))) (gName 3) (tSeq (tAsg (tOp rBan (tOp rShr (tVar 0) (tOp rMul (tC (.int 256)) (tVar 3))) (tOp rSub (tOp rShl (tC (.int 1)) (tC (.int 256))) (tC (.int 1)))) (gName 4))
    (tIfS (tTest (tOp (rNeu c.K) (tVar 4) (tC (.int 0)))) (tDrop (tBM c.K "list" rAppend (tVar 2) (tCons (tTup (tCons (tOp rAdd (tOp rFdv (tVar 1) (tC (.int 256))) (tVar 3)) (tCons (tOp (rIx c.K) (tCall (sp__law_form c) [] E (tCons (tVar 4) (tNil))) (tC (.int 0))) (tNil)))) (tNil)))) (tNext))))
    (tRet (tVar 2)))
theorem pure__law_forms {c : Cs} (G : Good c) (vs : List V) (H : Hp) (Q : VK) (E : XK) (h : sp__law_forms c vs H Q E) : t__law_forms c E { nx := fun _ H' => Q .non H', rt := Q } (start ["_law_mask", "_law_begin_here", "_law_found", "_law_k", "_law_bits_here"] vs) H := by
  obtain ⟨m, w, rfl, hm, hw, hQ⟩ := h
  unfold t__law_forms
  show tSeq _ _ _ [some (.int (m : Int)), some (.int ((256 * w : Nat) : Int)), none, none, none] H
  walk_at "go"
  refine ⟨sz5 (by simp), fun f nf => ?_⟩
  generalize ef : upd H f _ = H1
  obtain ⟨sH1, hf, dH1⟩ := new_of nf ef
  walk_at "go"
  refine ⟨12, rfl, by decide, by decide, for_range (lo := 0) (n := 12) (fun i σ H2 => ∃ v1 v2 xs, σ = [some (.int (m : Int)), some (.int ((256 * w : Nat) : Int)), some (.ref f), v1, v2] ∧ Same H H2 ∧ H2 f = some (.lst xs) ∧ (∀ b, H2 b = none → H1 b = none) ∧ Fds c.K H1 H2 xs (winD m w (winK m i)))
    ⟨none, none, [], rfl, sH1, hf, fun _ q => q, Fds.nil⟩ ?_ ?_⟩
  · rintro i σ H2 hi ⟨v1, v2, xs, rfl, s2, hf2, dom, hfd⟩
    walk_at "go"
    rw [mask_sl]
    refine if_nd (fun z => ?_) (fun z => ?_)
    · have hne : sl m i ≠ 0 := fun e => z (by rw [e]; rfl)
      walk_at "go"
      refine ⟨tyL hf2, ?_⟩
      walk_at "go"
      refine ⟨sl m i, rfl, sl_lt _ _, fun u ys H3 s3 nu hu hfy => ?_⟩
      obtain ⟨fv, ws, rfl, hfv, hws⟩ := fds_cons_inv hfy
      refine r_ixT (SqT.of hu) (atI_nat (j := 0) rfl) ?_
      walk_at "go"
      refine ⟨sz5 (by simp), fun q nq => ?_⟩
      generalize eq : upd H3 q _ = H4
      obtain ⟨sH4, hq, dH4⟩ := new_of nq eq
      walk_at "go"
      have l1 : xs.length ≤ i := by rw [hfd.len]; unfold winD; rw [List.length_map]; exact winK_len m i
      refine r_append (sH4 _ _ (s3 _ _ hf2)) (sl5 (by omega)) ?_
      walk_at "go"
      have hf4 := sH4 _ _ (s3 _ _ hf2)
      refine ⟨_, _, _, rfl, ((s2.trans s3).trans sH4).mut nf, upd_same, dom_mut (fun b q => dom b (s3.free (sH4.free q))) (by rw [hf4]; simp), ?_⟩
      have e1 : ((256 * w : Nat) : Int) / 256 + ((0 : Int) + (i : Int)) = ((w + i : Nat) : Int) := by omega
      rw [e1] at hq
      rw [winK_succ, if_pos hne]
      unfold winD
      rw [List.map_append]
      have nm : New H1 H4 (upd H4 f (.lst (xs ++ [V.ref q]))) := New.mut hf New.refl
      have df : ∀ b, H4 b = none → H3 b = none := fun b q => sH4.free q
      refine Fds.snoc ((hfd.to (New.same (s3.trans sH4))).to nm) ?_
      have t1 : Fd c.K H2 H4 (.ref q) (.tuple [.int ((w + i : Nat) : Int), formD (sl m i)]) := Fd.tup (s3.free nq) hq (Fds.cons (.int _) (Fds.cons (hfv.to (New.same sH4)) .nil))
      exact (t1.left dom).to nm
    · have h0 : sl m i = 0 := by omega
      walk_at "go"
      refine ⟨_, _, xs, rfl, s2, hf2, dom, ?_⟩
      rw [winK_succ, if_neg (by simpa using h0)]
      exact hfd
  · rintro σ H2 ⟨v1, v2, xs, rfl, s2, hf2, dom, hfd⟩
    walk_at "go"
    rw [winD_sacks (by simpa using hm) hw] at hfd
    exact hQ f xs H2 s2 nf hf2 (hfd.left dH1)
def sp__law_numbers (c : Cs) : Sp := fun vs H Q _ => ∃ (m w : Nat), vs = [.int (m : Int), .int ((256 * w : Nat) : Int)] ∧ m < 2 ^ 3072 ∧ w + 12 ≤ 65536 ∧
  ∀ (p : Addr) (H' : Hp), Same H H' → H p = none → H' p = some (.lst ((nz (bitsOf (m * 2 ^ (256 * w)))).map V.int)) → Q (.ref p) H'
theorem len__law_numbers (c : Cs) : ∀ vs H Q E, sp__law_numbers c vs H Q E → vs.length = (["_law_mask", "_law_begin_here"] : List Str).length := by
  rintro vs H Q E ⟨m, w, rfl, _⟩; rfl
/-- _law_numbers -/
def t__law_numbers (c : Cs) (E : XK) : TS :=
  tSeq (tAsg (tLst (tNil)) (gName 2))
    (tSeq (tFor (iRng1 (tCons (tC (.int 12)) (tNil))) (gName 3) (tSeq (tAsg (tOp rBan (tOp rShr (tVar 0) (tOp rMul (tC (.int 256)) (tVar 3))) (tOp rSub (tOp rShl (tC (.int 1)) (tC (.int 256))) (tC (.int 1)))) (gName 4))
    (tIfS (tTest (tOp (rNeu c.K) (tVar 4) (tC (.int 0)))) (tAug 2 (tLc (iSeq c.K (tCall (sp__law_lows c) [] E (tCons (tVar 4) (tNil)))) (gName 5) (tYes) (tOp rAdd (tOp rAdd (tVar 1) (tOp rMul (tC (.int 256)) (tVar 3))) (tVar 5)) [5]) pAdd) (tNext))))
    (tRet (tVar 2)))
theorem flat_lt {m : Nat} : ∀ {l : List Nat}, (flat m l).length ≤ 256 * l.length
  | [] => Nat.zero_le _
  | u :: l => by
    have ih := @flat_lt m l
    have := bitsOf_len (sl_lt m u)
    show ((bitsOf (sl m u)).map (256 * u + ·) ++ flat m l).length ≤ _
    rw [List.length_append, List.length_map, List.length_cons]; omega
theorem pure__law_numbers {c : Cs} (G : Good c) (vs : List V) (H : Hp) (Q : VK) (E : XK) (h : sp__law_numbers c vs H Q E) : t__law_numbers c E { nx := fun _ H' => Q .non H', rt := Q } (start ["_law_mask", "_law_begin_here", "_law_found", "_law_k", "_law_bits_here", "_law_low"] vs) H := by
  obtain ⟨m, w, rfl, hm, hw, hQ⟩ := h
  unfold t__law_numbers
  show tSeq _ _ _ [some (.int (m : Int)), some (.int ((256 * w : Nat) : Int)), none, none, none, none] H
  walk_at "go"
  refine ⟨sz5 (by simp), fun f nf => ?_⟩
  generalize ef : upd H f _ = H1
  obtain ⟨sH1, hf, dH1⟩ := new_of nf ef
  walk_at "go"
  refine ⟨12, rfl, by decide, by decide, for_range (lo := 0) (n := 12) (fun i σ H2 => ∃ v1 v2 v3, σ = [some (.int (m : Int)), some (.int ((256 * w : Nat) : Int)), some (.ref f), v1, v2, v3] ∧ Same H H2 ∧ H2 f = some (.lst ((nz ((flat m (winK m i)).map (256 * w + ·))).map V.int)))
    ⟨none, none, none, rfl, sH1, hf⟩ ?_ ?_⟩
  · rintro i σ H2 hi ⟨v1, v2, v3, rfl, s2, hf2⟩
    walk_at "go"
    rw [mask_sl]
    refine if_nd (fun z => ?_) (fun z => ?_)
    · have hne : sl m i ≠ 0 := fun e => z (by rw [e]; rfl)
      walk_at "go"
      refine .inl ?_
      walk_at "go"
      refine ⟨sl m i, rfl, lt_pow_mono (sl_lt _ _) (by decide), fun p H3 s3 np hp => ?_⟩
      refine ⟨p, rfl, ⟨_, SqL.of hp⟩, fun D nD => ?_⟩
      refine lcI (K := c.K) (fun _ => true) (fun x : Nat => ((256 * w + (256 * i + x) : Nat) : Int)) nD (SqL.of hp) (by have := bitsOf_len (sl_lt m i); omega) (fun x H4 Rk Rs hx s4 hk hnn => ?_) (fun H4 s4 hD => ?_)
      · simp only [wipe, List.set_cons_zero, List.set_cons_succ]
        walk_at "go"
        refine ⟨(by first | exact rfl | exact trivial), ?_⟩
        walk_at "go"
        have e : ((256 * w : Nat) : Int) + (256 : Int) * ((0 : Int) + (i : Int)) + (x : Int) = ((256 * w + (256 * i + x) : Nat) : Int) := by omega
        rw [e]
        exact hk rfl H4 (Same.refl _)
      · rw [List.filter_eq_self.mpr (fun _ _ => rfl)] at hD
        have e3 : (((bitsOf (sl m i)).map fun x : Nat => ((256 * w + (256 * i + x) : Nat) : Int)).map V.int) = ((nz (((bitsOf (sl m i)).map (256 * i + ·)).map (256 * w + ·))).map V.int) := by
          unfold nz; simp only [List.map_map]; rfl
        rw [e3] at hD
        have l1 := @flat_lt m (winK m i)
        have l2 := bitsOf_len (sl_lt m i)
        have l3 := winK_len m i
        refine .inr (.inr ⟨f, D, _, _, rfl, rfl, s4 _ _ (s3 _ _ hf2), hD, sz5 (by rw [nzv_len, nzv_len, List.length_map, List.length_map, List.length_map]; omega), ?_⟩)
        walk_at "go"
        refine ⟨_, _, _, rfl, (s2.trans (s3.trans s4)).mut nf, ?_⟩
        rw [upd_same, nzv_app, winK_succ, if_pos hne, flat_snoc, List.map_append]
    · have h0 : sl m i = 0 := by omega
      walk_at "go"
      refine ⟨_, _, _, rfl, s2, ?_⟩
      rw [winK_succ, if_neg (by simpa using h0)]
      exact hf2
  · rintro σ H2 ⟨v1, v2, v3, rfl, s2, hf2⟩
    walk_at "go"
    have e : flat m (winK m 12) = bitsOf m := flat_win (n := 12) (by simpa using hm)
    rw [e, ← bitsOf_mul] at hf2
    exact hQ f H2 s2 nf hf2
/-! ### numbers in a window -/
theorem lowN_nat (n : Nat) : lowN (.int (n : Int)) = n := Int.toNat_natCast n
theorem win_or {m w x : Nat} : (m * 2 ^ (256 * w)) ||| 2 ^ (256 * w + x) = (m ||| 2 ^ x) * 2 ^ (256 * w) := by
  apply Nat.eq_of_testBit_eq
  intro i
  rw [Nat.testBit_or, Nat.testBit_mul_two_pow, Nat.testBit_mul_two_pow, Nat.testBit_or, Nat.testBit_two_pow, Nat.testBit_two_pow]
  by_cases h : 256 * w ≤ i
  · rw [decide_eq_true h]
    have : decide (256 * w + x = i) = decide (x = i - 256 * w) := by rw [decide_eq_decide]; omega
    rw [this]; simp
  · rw [decide_eq_false h, decide_eq_false (show ¬ 256 * w + x = i by omega)]; simp
/-! ### stretches in a window -/
def sp__law_stretch (c : Cs) : Sp := fun vs H Q _ => ∃ n : Nat, vs = [.int (n : Int)] ∧ n < 4611686018427387904 ∧ ∀ (f l : Nat) (p : Addr) (H' : Hp), f ≤ l → l < 3072 → Same H H' → H p = none → H' p = some (.tup [.int (f : Int), .int (l : Int)]) → Q (.ref p) H'
theorem len__law_stretch (c : Cs) : ∀ vs H Q E, sp__law_stretch c vs H Q E → vs.length = (["_law_cell"] : List Str).length := by
  rintro vs H Q E ⟨n, rfl, _⟩; rfl
/-- _law_stretch -/
def t__law_stretch (c : Cs) (E : XK) : TS :=
  tSeq (tAsg (tOp rMod (tOp rFdv (tVar 0) (tC (.int 4))) (tC (.int 3072))) (gName 1))
    (tSeq (tAsg (tOp (rIx c.K) (tLst (tCons (tC (.int 1)) (tCons (tOp rAdd (tC (.int 1)) (tOp rMod (tOp rFdv (tVar 0) (tC (.int 12288))) (tC (.int 12)))) (tCons (tC (.int 256)) (tCons (tOp rAdd (tC (.int 1)) (tOp rMod (tOp rFdv (tVar 0) (tC (.int 12288))) (tC (.int 900)))) (tNil)))))) (tOp rMod (tVar 0) (tC (.int 4)))) (gName 2))
    (tSeq (tIfS (tTest (tOp (rEqu c.K) (tOp rMod (tVar 0) (tC (.int 4))) (tC (.int 2)))) (tAsg (tOp rAdd (tOp rMul (tOp rFdv (tVar 1) (tC (.int 256))) (tC (.int 256))) (tOp (rIx c.K) (tLst (tCons (tC (.int 0)) (tCons (tC (.int 1)) (tCons (tC (.int 255)) (tCons (tC (.int 0)) (tNil)))))) (tOp rMod (tOp rFdv (tVar 0) (tC (.int 12288))) (tC (.int 4))))) (gName 1)) (tNext))
    (tRet (tTup (tCons (tVar 1) (tCons (tCB (rMinU c.K) (tCons (tC (.int 3071)) (tCons (tOp rSub (tOp rAdd (tVar 1) (tVar 2)) (tC (.int 1))) (tNil)))) (tNil)))))))
theorem four {P : Nat → Prop} {j : Nat} (h : j < 4) (h0 : P 0) (h1 : P 1) (h2 : P 2) (h3 : P 3) : P j := by
  match j, h with
  | 0, _ => exact h0
  | 1, _ => exact h1
  | 2, _ => exact h2
  | 3, _ => exact h3
theorem pure__law_stretch {c : Cs} (G : Good c) (vs : List V) (H : Hp) (Q : VK) (E : XK) (h : sp__law_stretch c vs H Q E) : t__law_stretch c E { nx := fun _ H' => Q .non H', rt := Q } (start ["_law_cell", "_law_first", "_law_size"] vs) H := by
  obtain ⟨n, rfl, hn, hQ⟩ := h
  unfold t__law_stretch
  show tSeq _ _ _ [some (.int (n : Int)), none, none] H
  walk_at "go"
  obtain ⟨f, hf, hf2⟩ : ∃ f : Nat, (n : Int) / 4 % 3072 = f ∧ f < 3072 := ⟨n / 4 % 3072, by omega, by omega⟩
  obtain ⟨s1, hs1, hs12⟩ : ∃ s : Nat, (1 : Int) + (n : Int) / 12288 % 12 = s ∧ 1 ≤ s := ⟨1 + n / 12288 % 12, by omega, by omega⟩
  obtain ⟨s2, hs2, hs22⟩ : ∃ s : Nat, (1 : Int) + (n : Int) / 12288 % 900 = s ∧ 1 ≤ s := ⟨1 + n / 12288 % 900, by omega, by omega⟩
  obtain ⟨j, hj, hj4⟩ : ∃ j : Nat, (n : Int) % 4 = j ∧ j < 4 := ⟨n % 4, by omega, by omega⟩
  rw [hf, hs1, hs2]
  refine ⟨sz5 (by simp), fun q nq => ?_⟩
  generalize eq : upd H q _ = H1
  obtain ⟨sH1, hq, dH1⟩ := new_of nq eq
  walk_at "go"
  rw [hj]
  obtain ⟨z, hz, hz1⟩ : ∃ z : Nat, atI [V.int 1, .int (s1 : Int), .int 256, .int (s2 : Int)] (j : Int) = some (.int (z : Int)) ∧ 1 ≤ z :=
    four (P := fun j : Nat => ∃ z : Nat, atI [V.int 1, .int (s1 : Int), .int 256, .int (s2 : Int)] (j : Int) = some (.int (z : Int)) ∧ 1 ≤ z) hj4 ⟨1, rfl, by omega⟩ ⟨s1, rfl, hs12⟩ ⟨256, rfl, by omega⟩ ⟨s2, rfl, hs22⟩
  refine r_ixL (SqL.of hq) hz ?_
  walk_at "go"
  have fin : ∀ (f : Nat) (H2 : Hp), f < 3072 → Same H H2 → [V.int (f : Int), V.int (if (f : Int) + (z : Int) - 1 < 3071 then (f : Int) + (z : Int) - 1 else 3071)].length ≤ sizeLine ∧ ∀ p, H2 p = none → Q (.ref p) (upd H2 p (.tup [V.int (f : Int), V.int (if (f : Int) + (z : Int) - 1 < 3071 then (f : Int) + (z : Int) - 1 else 3071)])) := by
    intro f H2 hf s2
    obtain ⟨l, hl, hl2, hl3⟩ : ∃ l : Nat, (if (f : Int) + (z : Int) - 1 < 3071 then (f : Int) + (z : Int) - 1 else 3071) = l ∧ f ≤ l ∧ l < 3072 := ⟨if f + z - 1 < 3071 then f + z - 1 else 3071, by split <;> split <;> omega, by split <;> omega, by split <;> omega⟩
    rw [hl]
    refine ⟨sz5 (by simp), fun t nt => ?_⟩
    generalize et : upd H2 t _ = H3
    obtain ⟨sH3, ht, dH3⟩ := new_of nt et
    exact hQ f l t H3 hl2 hl3 (s2.trans sH3) (s2.free nt) ht
  rw [hj]
  refine if_d (fun z2 => ?_) (fun z2 => ?_)
  · walk_at "go"
    obtain ⟨i, hi, hi4⟩ : ∃ i : Nat, (n : Int) / 12288 % 4 = i ∧ i < 4 := ⟨n / 12288 % 4, by omega, by omega⟩
    refine ⟨sz5 (by simp), fun q2 nq2 => ?_⟩
    generalize eq2 : upd H1 q2 _ = H2
    obtain ⟨sH2, hq2, dH2⟩ := new_of nq2 eq2
    walk_at "go"
    rw [hi]
    obtain ⟨y, hy, hy2⟩ : ∃ y : Nat, atI [V.int 0, .int 1, .int 255, .int 0] (i : Int) = some (.int (y : Int)) ∧ y < 256 :=
      four (P := fun i : Nat => ∃ y : Nat, atI [V.int 0, .int 1, .int 255, .int 0] (i : Int) = some (.int (y : Int)) ∧ y < 256) hi4 ⟨0, rfl, by omega⟩ ⟨1, rfl, by omega⟩ ⟨255, rfl, by omega⟩ ⟨0, rfl, by omega⟩
    refine r_ixL (SqL.of hq2) hy ?_
    have e : (f : Int) / 256 * 256 + (y : Int) = ((f / 256 * 256 + y : Nat) : Int) := by omega
    walk_at "go"
    rw [e]
    exact fin _ H2 (by omega) (sH1.trans sH2)
  · walk_at "go"
    exact fin f H1 hf2 sH1
def sp__law_bits (c : Cs) : Sp := fun vs H Q _ => ∃ f l : Nat, vs = [.int (f : Int), .int (l : Int)] ∧ f ≤ l + 1 ∧ l ≤ 90000 ∧ Q (.int (mask f l : Nat)) H
theorem len__law_bits (c : Cs) : ∀ vs H Q E, sp__law_bits c vs H Q E → vs.length = (["_law_first", "_law_last"] : List Str).length := by
  rintro vs H Q E ⟨f, l, rfl, _⟩; rfl
/-- _law_bits -/
def t__law_bits (c : Cs) (E : XK) : TS :=
  tRet (tOp rSub (tOp rShl (tC (.int 1)) (tOp rAdd (tVar 1) (tC (.int 1)))) (tOp rShl (tC (.int 1)) (tVar 0)))
theorem pure__law_bits {c : Cs} (G : Good c) (vs : List V) (H : Hp) (Q : VK) (E : XK) (h : sp__law_bits c vs H Q E) : t__law_bits c E { nx := fun _ H' => Q .non H', rt := Q } (start ["_law_first", "_law_last"] vs) H := by
  obtain ⟨f, l, rfl, h1, h2, hQ⟩ := h
  unfold t__law_bits
  show tRet _ _ [some (.int (f : Int)), some (.int (l : Int))] H
  walk_at "go"
  rw [mask_int h1]
  exact hQ
/-! ### a sack filled -/
def sp__law_filled (c : Cs) : Sp := fun vs H Q _ => ∃ a d m w n : Nat, vs = [.ref a, .int ((256 * w : Nat) : Int), .int (n : Int)] ∧ SetAt c H a d (m * 2 ^ (256 * w)) ∧ w + 12 ≤ 65536 ∧ n < 4611686018427387904 ∧
  ∀ (x : Nat) (H' : Hp), x < 2 ^ 3072 → But d H H' → SetAt c H' a d ((m ||| x) * 2 ^ (256 * w)) → Q (.int (x : Int)) H'
theorem len__law_filled (c : Cs) : ∀ vs H Q E, sp__law_filled c vs H Q E → vs.length = (["_law_numbers_here", "_law_begin_here", "_law_cell"] : List Str).length := by
  rintro vs H Q E ⟨a, d, m, w, n, rfl, _⟩; rfl
/-- _law_filled -/
def t__law_filled (c : Cs) (E : XK) : TS :=
  tSeq (tAsg (tOp rMod (tVar 2) (tC (.int 12))) (gName 3))
    (tSeq (tAsg (tCall (sp__law_pattern c) [] E (tCons (tOp rFdv (tVar 2) (tC (.int 12))) (tNil))) (gName 4))
    (tSeq (tFor (iSeq c.K (tCall (sp__law_lows c) [] E (tCons (tVar 4) (tNil)))) (gName 5) (tDrop (tMethF (fam_put c) "put" [] E (tVar 0) (tCons (tOp rAdd (tOp rAdd (tVar 1) (tOp rMul (tC (.int 256)) (tVar 3))) (tVar 5)) (tNil)))))
    (tRet (tOp rShl (tVar 4) (tOp rMul (tC (.int 256)) (tVar 3))))))
theorem pure__law_filled {c : Cs} (G : GoodS c) (vs : List V) (H : Hp) (Q : VK) (E : XK) (h : sp__law_filled c vs H Q E) : t__law_filled c E { nx := fun _ H' => Q .non H', rt := Q } (start ["_law_numbers_here", "_law_begin_here", "_law_cell", "_law_at", "_law_bits_here", "_law_low"] vs) H := by
  obtain ⟨a, d, m, w, n, rfl, hs, hw, hn, hQ⟩ := h
  unfold t__law_filled
  show tSeq _ _ _ [some (.ref a), some (.int ((256 * w : Nat) : Int)), some (.int (n : Int)), none, none, none] H
  walk_at "go"
  obtain ⟨k, hk, hk2⟩ : ∃ k : Nat, (n : Int) % 12 = k ∧ k < 12 := ⟨n % 12, by omega, by omega⟩
  obtain ⟨r, hr, hr2⟩ : ∃ r : Nat, (n : Int) / 12 = r ∧ r < 4611686018427387904 := ⟨n / 12, by omega, by omega⟩
  rw [hk, hr]
  refine ⟨r, rfl, hr2, fun b H1 hb s1 => ?_⟩
  walk_at "go"
  refine .inl ?_
  walk_at "go"
  refine ⟨b, rfl, lt_pow_mono hb (by decide), fun p H2 s2 np hp => ?_⟩
  have hs2 := (hs.same s1).same s2
  refine ⟨p, rfl, ⟨_, SqL.of hp⟩, for_list (K := c.K) (a := p) (xs := (nz (bitsOf b)).map V.int) (fun i σ Hf => ∃ v, σ = [some (.ref a), some (.int ((256 * w : Nat) : Int)), some (.int (n : Int)), some (.int (k : Int)), some (.int (b : Int)), v] ∧ But d H2 Hf ∧ SetAt c Hf a d ((m ||| orV (((nz (bitsOf b)).map V.int).take i) * 2 ^ (256 * k)) * 2 ^ (256 * w)))
    ⟨none, rfl, But.refl _ _, ?_⟩ (fun i σ Hf _ ⟨_, _, b1, _⟩ => b1.seq hs2.d (SqL.of hp)) ?_ ?_⟩
  · rw [List.take_zero]
    have : orV [] = 0 := rfl
    rw [this]; simpa using hs2
  · rintro i y σ Hf hi ⟨v, rfl, b1, sf⟩
    obtain ⟨l, hl, rfl⟩ := nz_get hi
    have hl2 := bitsOf_lt hb (List.mem_of_getElem? hl)
    walk_at "go"
    refine sf.at (m := "put") (fam := fam_put c) ⟨rfl, rfl⟩ (by decide +kernel) ?_
    walk_at "go"
    have e : ((256 * w : Nat) : Int) + 256 * (k : Int) + (l : Int) = ((256 * w + (256 * k + l) : Nat) : Int) := by omega
    rw [e]
    refine ⟨a, d, _, _, rfl, sf, .int _, fun n2 H3 e2 hn2 b3 s3 => ?_, fun z => by rw [num_of (by omega)] at z; cases z⟩
    have e2 : n2 = 256 * w + (256 * k + l) := by have := V.int.inj e2; omega
    subst e2
    rw [win_or] at s3
    refine ⟨_, rfl, b1.trans b3, ?_⟩
    rw [take_more hi, orV_snoc, lowN_nat]
    have e4 : m ||| orV (((nz (bitsOf b)).map V.int).take i) * 2 ^ (256 * k) ||| 2 ^ (256 * k + l) = m ||| (orV (((nz (bitsOf b)).map V.int).take i) ||| 2 ^ l) * 2 ^ (256 * k) := by
      rw [← win_or (m := orV (((nz (bitsOf b)).map V.int).take i)) (w := k), Nat.or_assoc]
    rw [e4] at s3
    exact s3
  · rintro σ Hf ⟨v, rfl, b1, sf⟩
    rw [List.take_length, orV_nz (b := b) fun x => Iff.rfl] at sf
    walk_at "go1"
    refine w_op ?_
    walk_at "go"
    have hk3 : (256 : Int) * (k : Int) = ((256 * k : Nat) : Int) := by omega
    have hlt : b * 2 ^ (256 * k) < 2 ^ 3072 := by
      have h1 : b * 2 ^ (256 * k) < 2 ^ 256 * 2 ^ (256 * k) := Nat.mul_lt_mul_of_pos_right hb (Nat.two_pow_pos _)
      rw [← Nat.pow_add] at h1
      exact lt_pow_mono h1 (by omega)
    rw [hk3]
    refine ⟨_, _, rfl, rfl, CShl_nat hb (by omega) (by omega), ?_⟩
    have e5 : (b : Int) * 2 ^ ((256 * k : Nat) : Int).toNat = ((b * 2 ^ (256 * k) : Nat) : Int) := by rw [Int.toNat_natCast, Int.natCast_mul, Int.natCast_pow]; rfl
    show Q (.int ((b : Int) * 2 ^ ((256 * k : Nat) : Int).toNat)) Hf
    rw [e5]
    exact hQ _ Hf hlt ((But.of s1).trans ((But.of s2).trans b1)) sf
/-! ### a stretch put in, taken out, turned about -/
theorem lastV_int (x : V) (i : Int) : lastV x (.int i) = .int i := by unfold lastV; rw [if_neg (by simp)]
/-- the promise of a deed, by a stretch that is one -/
theorem deed_of {c : Cs} {k : Wy} {H : Hp} {Q : VK} {E : XK} {a d N : Nat} {y : V} {m n : Nat} (hs : SetAt c H a d N) (hT : LamX.Tabs c.T H) (hy : lastV (.int (m : Int)) y = .int (n : Int)) (ky : Kn H y) (h1 : m ≤ n) (h2 : n - m ≤ 99999) (h3 : n < 16777216)
    (hQ : ∀ H', ButX d H H' → LamX.Tabs c.T H' → SetAt c H' a d (k.op N (mask m n)) → Q (.int ((popc (k.op N (mask m n)) : Int) - (popc N : Int))) H') : sp_deed c k [.ref a, .int (m : Int), y] H Q E := by
  refine ⟨a, d, N, .int (m : Int), y, rfl, hs, .int _, ky, hT, fun m2 n2 H' e1 e2 _ _ _ b t s => ?_, fun z => ?_, fun m2 n2 e1 e2 _ _ z => ?_⟩
  · have e1 : m2 = m := by have := V.int.inj e1; omega
    rw [hy] at e2
    have e2 : n2 = n := by have := V.int.inj e2; omega
    subst e1 e2
    exact hQ H' b t s
  · rw [hy] at z
    rcases z with z | z <;> rw [num_of (by omega)] at z <;> cases z
  · have e1 : m2 = m := by have := V.int.inj e1; omega
    rw [hy] at e2
    have e2 : n2 = n := by have := V.int.inj e2; omega
    omega
/-- the bits of a window -/
theorem win_op {k : Wy} {m w f l : Nat} : k.op (m * 2 ^ (256 * w)) (mask (256 * w + f) (256 * w + l)) = k.op m (mask f l) * 2 ^ (256 * w) := by
  rw [mask_shift, op_mul]
/-! ### a set as the laws build it -/
theorem ext_new {d : Addr} {H H1 H2 : Hp} (s : Same H H1) (nd : H d = none) (b : ButX d H1 H2) : LamX.ExtN H H2 := fun p o h t => b p o (ne_of_none h nd) t (s p o h)
def sp__law_built (c : Cs) : Sp := fun vs H Q _ => ∃ (a : Addr) (ns : List Int) (w : Nat), vs = [.ref a, .int ((256 * w : Nat) : Int)] ∧ SqL c.K H a (ns.map V.int) ∧ LamX.Tabs c.T H ∧ w + 12 ≤ 65536 ∧
  ∀ (x d m p : Nat) (H' : Hp), m < 2 ^ 3072 → H x = none → H d = none → LamX.ExtN H H' → LamX.Tabs c.T H' → SetAt c H' x d (m * 2 ^ (256 * w)) → H' p = some (.tup [.ref x, .int (m : Int)]) → Q (.ref p) H'
theorem len__law_built (c : Cs) : ∀ vs H Q E, sp__law_built c vs H Q E → vs.length = (["_law_script", "_law_begin_here"] : List Str).length := by
  rintro vs H Q E ⟨a, ns, w, rfl, _⟩; rfl
/-- _law_built -/
def t__law_built (c : Cs) (E : XK) : TS :=
  tSeq (tAsg (tMake c.set (sp_NumberSet___init__ c) [.non] E tNil) (gName 2))
    (tSeq (tAsg (tC (.int 0)) (gName 3))
    (tSeq (tFor (iRng1 (tCons (tOp rMod (tCall (sp__law_cell_at c) [] E (tCons (tVar 0) (tCons (tC (.int 1)) (tNil)))) (tC (.int 5))) (tNil))) (gName 4) (tAug 3 (tCall (sp__law_filled c) [] E (tCons (tVar 2) (tCons (tVar 1) (tCons (tCall (sp__law_cell_at c) [] E (tCons (tVar 0) (tCons (tOp rAdd (tC (.int 50)) (tVar 4)) (tNil)))) (tNil))))) pBor))
    (tSeq (tFor (iRng1 (tCons (tOp rMod (tCall (sp__law_cell_at c) [] E (tCons (tVar 0) (tCons (tC (.int 2)) (tNil)))) (tC (.int 6))) (tNil))) (gName 4) (tSeq (tAsg (tCall (sp__law_stretch c) [] E (tCons (tCall (sp__law_cell_at c) [] E (tCons (tVar 0) (tCons (tOp rAdd (tC (.int 60)) (tVar 4)) (tNil)))) (tNil))) (gTup c.K 2 (gCons (gName 5) (gCons (gName 6) (gNil)))))
    (tSeq (tDrop (tMethF (fam_turn c) "turn" [] E (tVar 2) (tCons (tOp rAdd (tVar 1) (tVar 5)) (tCons (tOp rAdd (tVar 1) (tVar 6)) (tNil)))))
    (tAug 3 (tCall (sp__law_bits c) [] E (tCons (tVar 5) (tCons (tVar 6) (tNil)))) pBxo))))
    (tRet (tTup (tCons (tVar 2) (tCons (tVar 3) (tNil))))))))
theorem pure__law_built {c : Cs} (G : GoodS c) (vs : List V) (H : Hp) (Q : VK) (E : XK) (h : sp__law_built c vs H Q E) : t__law_built c E { nx := fun _ H' => Q .non H', rt := Q } (start ["_law_script", "_law_begin_here", "_law_numbers_here", "_law_mask", "_law_k", "_law_first", "_law_last"] vs) H := by
  obtain ⟨a, ns, w, rfl, ha, hT, hw, hQ⟩ := h
  unfold t__law_built
  show tSeq _ _ _ [some (.ref a), some (.int ((256 * w : Nat) : Int)), none, none, none, none, none] H
  walk_at "go"
  refine mk_set (c := c) (xs := []) rfl (.inl ⟨rfl, rfl⟩) (fun y hy => (by cases hy)) (fun _ x d H2 nx nd s2 set2 => ?_) (fun ⟨y, hy, _⟩ => (by cases hy))
  walk_at "go"
  refine ⟨a, ns, 1, rfl, s2.seq ha, by decide, by decide, ?_⟩
  walk_at "go"
  obtain ⟨n1, hn1, hn2⟩ : ∃ n : Nat, (cellN ns 1 : Int) % 5 = n ∧ n < 5 := ⟨cellN ns 1 % 5, by omega, by omega⟩
  rw [hn1]
  refine ⟨_, rfl, by omega, by omega, for_range (lo := 0) (n := (n1 : Int).toNat) (fun i σ Hf => ∃ (m : Nat) (v : Option V), σ = [some (.ref a), some (.int ((256 * w : Nat) : Int)), some (.ref x), some (.int (m : Int)), v, none, none] ∧ But d H2 Hf ∧ SetAt c Hf x d (m * 2 ^ (256 * w)) ∧ m < 2 ^ 3072)
    ⟨0, none, rfl, But.refl _ _, (by simpa [orV] using set2), Nat.two_pow_pos _⟩ ?_ ?_⟩
  · rintro i σ Hf hi ⟨m, v, rfl, bf, setf, hm⟩
    walk_at "go"
    refine ⟨a, ns, _, rfl, bf.seq set2.d (s2.seq ha), by omega, by omega, ?_⟩
    walk_at "go"
    refine ⟨x, d, m, w, _, rfl, setf, by omega, cellN_lt _ _, fun b H3 hb b3 s3 => ?_⟩
    walk_at "go"
    rw [or_cast]
    exact ⟨_, _, rfl, bf.trans b3, s3, Nat.or_lt_two_pow hm hb⟩
  rintro σ Hf ⟨m, v, rfl, bf, setf, hm⟩
  have haf := bf.seq set2.d (s2.seq ha)
  have hTf := tabs_but (hT.ext s2) bf set2.d
  walk_at "go"
  refine ⟨a, ns, 2, rfl, haf, by decide, by decide, ?_⟩
  walk_at "go"
  obtain ⟨n3, hn3, hn4⟩ : ∃ n : Nat, (cellN ns 2 : Int) % 6 = n ∧ n < 6 := ⟨cellN ns 2 % 6, by omega, by omega⟩
  rw [hn3]
  refine ⟨_, rfl, by omega, by omega, for_range (lo := 0) (n := (n3 : Int).toNat) (fun i σ Hg => ∃ (m : Nat) (v4 v5 v6 : Option V), σ = [some (.ref a), some (.int ((256 * w : Nat) : Int)), some (.ref x), some (.int (m : Int)), v4, v5, v6] ∧ ButX d H2 Hg ∧ LamX.Tabs c.T Hg ∧ SetAt c Hg x d (m * 2 ^ (256 * w)) ∧ m < 2 ^ 3072)
    ⟨m, _, _, _, rfl, bf.x, hTf, setf, hm⟩ ?_ ?_⟩
  · rintro i σ Hg hi ⟨m, v4, v5, v6, rfl, bg, hTg, setg, hm⟩
    walk_at "go"
    refine ⟨a, ns, _, rfl, bg.seq set2.d (s2.seq ha), by omega, by omega, ?_⟩
    walk_at "go"
    refine ⟨_, rfl, cellN_lt _ _, fun f l p H3 hfl hl3 s3 np hp => ?_⟩
    walk_at "go"
    refine ⟨p, _, rfl, SqT.of hp, rfl, ?_⟩
    walk_at "go"
    have set3 := setg.same s3
    refine set3.at (m := "turn") (fam := fam_turn c) ⟨rfl, rfl⟩ (by decide +kernel) ?_
    walk_at "go"
    have ef : ((256 * w : Nat) : Int) + (f : Int) = ((256 * w + f : Nat) : Int) := by omega
    have el : ((256 * w : Nat) : Int) + (l : Int) = ((256 * w + l : Nat) : Int) := by omega
    rw [ef, el]
    refine deed_of set3 (hTg.ext s3) (lastV_int _ _) (.int _) (by omega) (by omega) (by omega) fun H4 b4 t4 set4 => ?_
    rw [win_op] at set4
    walk_at "go"
    refine ⟨f, l, rfl, by omega, by omega, ?_⟩
    walk_at "go"
    rw [xor_cast]
    exact ⟨_, _, _, _, rfl, (bg.trans (ButX.same s3)).trans b4, t4, set4, op_lt (k := .turnA) hm (mask_lt hl3)⟩
  rintro σ Hg ⟨m, v4, v5, v6, rfl, bg, hTg, setg, hm⟩
  walk_at "go"
  refine ⟨sz5 (by simp), fun p np => ?_⟩
  generalize ep : upd Hg p _ = Hh
  obtain ⟨sHh, hp, dHh⟩ := new_of np ep
  have bh := bg.trans (ButX.same sHh)
  exact hQ x d m p Hh hm nx nd (ext_new s2 nd bh) (hTg.ext sHh) (setg.same sHh) hp
def sp__law_spot (c : Cs) : Sp := fun vs H Q _ => ∃ n w : Nat, vs = [.int (n : Int), .int ((256 * w : Nat) : Int)] ∧ n < 4611686018427387904 ∧ w + 12 ≤ 65536 ∧ ∀ (x : Nat) (H' : Hp), x < 16777216 → Same H H' → Q (.int (x : Int)) H'
theorem len__law_spot (c : Cs) : ∀ vs H Q E, sp__law_spot c vs H Q E → vs.length = (["_law_cell", "_law_begin_here"] : List Str).length := by
  rintro vs H Q E ⟨n, w, rfl, _⟩; rfl
/-- _law_spot -/
def t__law_spot (c : Cs) (E : XK) : TS :=
  tSeq (tIfS (tTest (tOp (rEqu c.K) (tOp rMod (tVar 0) (tC (.int 4))) (tC (.int 0)))) (tRet (tOp rMod (tOp rFdv (tVar 0) (tC (.int 4))) (tC (.int 16777216)))) (tNext))
    (tSeq (tIfS (tTest (tOp (rEqu c.K) (tOp rMod (tVar 0) (tC (.int 4))) (tC (.int 1)))) (tRet (tOp rAdd (tOp rAdd (tVar 1) (tOp rMul (tC (.int 256)) (tOp rMod (tOp rFdv (tVar 0) (tC (.int 4))) (tC (.int 12))))) (tOp (rIx c.K) (tLst (tCons (tC (.int 0)) (tCons (tC (.int 255)) (tCons (tC (.int 1)) (tCons (tC (.int 254)) (tNil)))))) (tOp rMod (tOp rFdv (tVar 0) (tC (.int 48))) (tC (.int 4)))))) (tNext))
    (tRet (tOp rAdd (tVar 1) (tOp rMod (tOp rFdv (tVar 0) (tC (.int 4))) (tC (.int 3072))))))
theorem pure__law_spot {c : Cs} (G : Good c) (vs : List V) (H : Hp) (Q : VK) (E : XK) (h : sp__law_spot c vs H Q E) : t__law_spot c E { nx := fun _ H' => Q .non H', rt := Q } (start ["_law_cell", "_law_begin_here"] vs) H := by
  obtain ⟨n, w, rfl, hn, hw, hQ⟩ := h
  unfold t__law_spot
  show tSeq _ _ _ [some (.int (n : Int)), some (.int ((256 * w : Nat) : Int))] H
  walk_at "go"
  refine if_d (fun z => ?_) (fun z => ?_)
  · walk_at "go"
    obtain ⟨r, hr, hr2⟩ : ∃ r : Nat, (n : Int) / 4 % 16777216 = r ∧ r < 16777216 := ⟨n / 4 % 16777216, by omega, by omega⟩
    rw [hr]
    exact hQ r H hr2 (Same.refl _)
  walk_at "go"
  refine if_d (fun z => ?_) (fun z => ?_)
  · walk_at "go"
    refine ⟨sz5 (by simp), fun p np => ?_⟩
    generalize ep : upd H p _ = H1
    obtain ⟨sH1, hp, dH1⟩ := new_of np ep
    walk_at "go"
    obtain ⟨j, hj, hj4⟩ : ∃ j : Nat, (n : Int) / 48 % 4 = j ∧ j < 4 := ⟨n / 48 % 4, by omega, by omega⟩
    rw [hj]
    obtain ⟨y, hy, hy2⟩ : ∃ y : Nat, atI [V.int 0, .int 255, .int 1, .int 254] (j : Int) = some (.int (y : Int)) ∧ y < 256 :=
      four (P := fun i : Nat => ∃ y : Nat, atI [V.int 0, .int 255, .int 1, .int 254] (i : Int) = some (.int (y : Int)) ∧ y < 256) hj4 ⟨0, rfl, by omega⟩ ⟨255, rfl, by omega⟩ ⟨1, rfl, by omega⟩ ⟨254, rfl, by omega⟩
    refine r_ixL (SqL.of hp) hy ?_
    walk_at "go"
    obtain ⟨s, hs, hs2⟩ : ∃ s : Nat, ((256 * w : Nat) : Int) + 256 * ((n : Int) / 4 % 12) + (y : Int) = s ∧ s < 16777216 := ⟨256 * w + 256 * (n / 4 % 12) + y, by omega, by omega⟩
    rw [hs]
    exact hQ s H1 hs2 sH1
  walk_at "go"
  obtain ⟨s, hs, hs2⟩ : ∃ s : Nat, ((256 * w : Nat) : Int) + (n : Int) / 4 % 3072 = s ∧ s < 16777216 := ⟨256 * w + n / 4 % 3072, by omega, by omega⟩
  rw [hs]
  exact hQ s H hs2 (Same.refl _)
/-! ### ranks -/
theorem popc_le_sum (N : Nat) (l : List Nat) (f : Nat → Nat) : (l.map fun v => if v < N then f v else 0).sum = ((l.filter fun v => decide (v < N)).map f).sum := by
  induction l with
  | nil => rfl
  | cons x l ih =>
    rw [List.map_cons, List.sum_cons, List.filter_cons, ih]
    by_cases c : x < N
    · rw [if_pos c, if_pos (decide_eq_true c), List.map_cons, List.sum_cons]
    · rw [if_neg c, if_neg (by simpa using c), Nat.zero_add]
theorem sl_mod {N u v : Nat} : sl (N % 2 ^ (256 * u)) v = if v < u then sl N v else 0 := by
  apply Nat.eq_of_testBit_eq
  intro i
  rw [sl_bit, mod_bit]
  by_cases c : v < u
  · rw [if_pos c, sl_bit]
    by_cases hi : i < 256
    · rw [decide_eq_true (show 256 * v + i < 256 * u by omega), Bool.true_and]
    · rw [decide_eq_false hi, Bool.false_and, Bool.false_and]
  · rw [if_neg c, Nat.zero_testBit, decide_eq_false (show ¬ 256 * v + i < 256 * u by omega)]; simp
theorem In24.mod {N k : Nat} (h : In24 N) : In24 (N % 2 ^ k) := fun i hi => by
  rw [mod_bit, Bool.and_eq_true] at hi
  exact h i hi.2
theorem ups_mod {N u : Nat} (h : In24 N) : upsOf (N % 2 ^ (256 * u)) = (upsOf N).filter fun v => decide (v < u) := by
  refine (ups_eq h.mod (List.Pairwise.filter _ (ups_sorted N)) fun v => ?_).symm
  rw [List.mem_filter, mem_ups h, sl_mod, decide_eq_true_eq]
  by_cases c : v < u
  · rw [if_pos c]; exact ⟨fun x => x.1, fun x => ⟨x, c⟩⟩
  · rw [if_neg c]; exact ⟨fun x => absurd x.2 c, fun x => absurd rfl x⟩
theorem popc_low {N u : Nat} (h : In24 N) : ((upsOf N).map fun v => if v < u then popc (sl N v) else 0).sum = popc (N % 2 ^ (256 * u)) := by
  rw [popc_le_sum, ← ups_mod h, ← popc_ups (h.mod (k := 256 * u))]
  have e : ∀ v ∈ upsOf (N % 2 ^ (256 * u)), popc (sl N v) = popc (sl (N % 2 ^ (256 * u)) v) := by
    intro v hv
    rw [ups_mod h, List.mem_filter, decide_eq_true_eq] at hv
    rw [sl_mod, if_pos hv.2]
  rw [List.map_congr_left e]
theorem popc_split {N u l : Nat} (hl : l < 256) : popc (N % 2 ^ (256 * u + l)) = popc (N % 2 ^ (256 * u)) + popc (sl N u % 2 ^ l) := by
  rw [← popc_mul (sl N u % 2 ^ l) (256 * u)]
  have := @popc_sum (N % 2 ^ (256 * u + l)) 0 (N % 2 ^ (256 * u)) ((sl N u % 2 ^ l) * 2 ^ (256 * u)) fun i => by
    rw [mod_bit, mod_bit, Nat.zero_testBit, Nat.testBit_mul_two_pow, mod_bit, sl_bit]
    by_cases c : i < 256 * u
    · rw [decide_eq_true c, decide_eq_true (show i < 256 * u + l by omega), decide_eq_false (show ¬ 256 * u ≤ i by omega)]; simp
    · rw [decide_eq_false c, decide_eq_true (show 256 * u ≤ i by omega)]
      by_cases d : i < 256 * u + l
      · rw [decide_eq_true d, decide_eq_true (show i - 256 * u < l by omega), decide_eq_true (show i - 256 * u < 256 by omega)]
        have e : 256 * u + (i - 256 * u) = i := by omega
        rw [e]; simp
      · rw [decide_eq_false d, decide_eq_false (show ¬ i - 256 * u < l by omega)]; simp
  rw [popc_zero] at this
  exact this
/-- how many are less -/
theorem rank_eq {N n : Nat} : popc (N % 2 ^ n) = ((bitsOf N).filter fun x => decide (x < n)).length := by
  unfold popc
  congr 1
  refine sorted_ext (bitsOf_sorted _) (List.Pairwise.filter _ (bitsOf_sorted N)) fun x => ?_
  rw [mem_bitsOf, mod_bit, List.mem_filter, mem_bitsOf, Bool.and_eq_true, decide_eq_true_eq]
  exact ⟨fun h => ⟨h.2, h.1⟩, fun h => ⟨h.2, h.1⟩⟩
/-- the element at a place of a list in parts -/
theorem at_part {a b c : List Nat} {r : Nat} (h1 : a.length ≤ r) (h2 : r - a.length < b.length) : (a ++ (b ++ c)).getD r 0 = b.getD (r - a.length) 0 := by
  rw [List.getD_eq_getElem?_getD, List.getElem?_append_right h1, List.getElem?_append_left h2, List.getD_eq_getElem?_getD]
theorem flat_app (N : Nat) (l m : List Nat) : flat N (l ++ m) = flat N l ++ flat N m := by unfold flat; rw [List.flatMap_append]
theorem bits_at_part {N i u r : Nat} (h : In24 N) (hi : (upsOf N)[i]? = some u) (h1 : (flat N ((upsOf N).take i)).length ≤ r) (h2 : r - (flat N ((upsOf N).take i)).length < popc (sl N u)) :
    (bitsOf N).getD r 0 = 256 * u + (bitsOf (sl N u)).getD (r - (flat N ((upsOf N).take i)).length) 0 := by
  have e : upsOf N = (upsOf N).take i ++ (u :: (upsOf N).drop (i + 1)) := by
    have hlt := (List.getElem?_eq_some_iff.mp hi)
    obtain ⟨h3, h4⟩ := hlt
    rw [← h4, List.getElem_cons_drop_succ_eq_drop h3, List.take_append_drop]
  have f : flat N (upsOf N) = flat N ((upsOf N).take i) ++ ((bitsOf (sl N u)).map (256 * u + ·) ++ flat N ((upsOf N).drop (i + 1))) := by
    have e2 := congrArg (flat N) e
    rw [flat_app] at e2
    exact e2
  have h3 : r - (flat N ((upsOf N).take i)).length < ((bitsOf (sl N u)).map (256 * u + ·)).length := by rw [List.length_map]; exact h2
  rw [← flat_ups h, f, at_part h1 h3]
  generalize r - (flat N ((upsOf N).take i)).length = q at h2
  have h4 : q < (bitsOf (sl N u)).length := h2
  rw [List.getD_eq_getElem?_getD, List.getElem?_map, List.getD_eq_getElem?_getD, List.getElem?_eq_getElem h4]; rfl
/-! ### the next, the one ahead -/
/-- how many of a rising list are less than one of it -/
theorem below_nth : ∀ {l : List Nat} {r : Nat}, l.Pairwise (· < ·) → (h : r < l.length) → (l.filter fun x => decide (x < l[r])).length = r
  | [], _, _, h => by simp at h
  | a :: l, 0, hs, _ => by
    obtain ⟨h1, _⟩ := List.pairwise_cons.mp hs
    have e : (a :: l).filter (fun x => decide (x < (a :: l)[0])) = [] := by
      refine List.filter_eq_nil_iff.mpr fun x hx => ?_
      show ¬ decide (x < a) = true
      rw [decide_eq_true_eq]
      rcases List.mem_cons.mp hx with rfl | hx
      · omega
      · have := h1 x hx
        omega
    rw [e]; rfl
  | a :: l, r + 1, hs, h => by
    obtain ⟨h1, h2⟩ := List.pairwise_cons.mp hs
    have hr : r < l.length := by simpa using h
    have ih := below_nth h2 hr
    have e : (a :: l)[r + 1] = l[r] := rfl
    have la := h1 _ (List.getElem_mem hr)
    rw [e, List.filter_cons, if_pos (decide_eq_true la), List.length_cons, ih]
/-! ### walks over a dict's items -/
theorem for_items {d : Addr} {o : Obj} {kvs : List (Key × V)} {g : TG} {tb : TS} {D : Ends} {σ : L2.St} {H : Hp} (Pv : Nat → L2.St → Hp → Prop) (h0 : Pv 0 σ H) (hl : ∀ i σ H, Pv i σ H → H d = some (.frz o (.dK kvs)))
    (hs : ∀ i k v σ H T, kvs[i]? = some (k, v) → Pv i σ H → H T = none → g (.ref T) σ (upd H T (.tup [kV k, v])) fun σ2 H2 => tb { D with nx := Pv (i + 1), ct := Pv (i + 1), bk := D.nx } σ2 H2) (hd : ∀ σ H, Pv kvs.length σ H → D.nx σ H) :
    ∃ W : Nat → Nat → L2.St → Hp → Prop, (∃ m, W 0 m σ H) ∧ ∀ i m σ H, W i m σ H → ((Iti d o kvs).stop i H ∧ D.nx σ H) ∨
      ((Iti d o kvs).go i H ∧ ∃ N : L2.St → Hp → Prop, (∀ σ' H', N σ' H' → ∃ m', m' < m ∧ W (i + 1) m' σ' H') ∧ ∀ x H', (Iti d o kvs).yld i H x H' → g x σ H' fun σ2 H2 => tb { D with nx := N, ct := N, bk := D.nx } σ2 H2) := by
  refine ⟨fun i m σ H => m = kvs.length - i ∧ i ≤ kvs.length ∧ Pv i σ H, ⟨kvs.length, rfl, Nat.zero_le _, h0⟩, ?_⟩
  rintro i m σ H ⟨rfl, hi, p⟩
  have q := hl i σ H p
  by_cases c : i < kvs.length
  · refine .inr ⟨⟨q, c⟩, Pv (i + 1), fun σ' H' p' => ⟨kvs.length - (i + 1), by omega, rfl, c, p'⟩, ?_⟩
    rintro x H' ⟨T, k, v, hk, rfl, nT, rfl⟩
    exact hs i k v σ H T hk p nT
  · have e : i = kvs.length := by omega
    subst e
    exact .inl ⟨⟨q, Nat.le_refl _⟩, hd σ H p⟩
theorem low_mask (b l : Nat) : Builtin.bitAnd (b : Int) ((1 : Int) * 2 ^ ((l : Nat) : Int).toNat - 1) = ((b % 2 ^ l : Nat) : Int) := by
  have e : (1 : Int) * 2 ^ ((l : Nat) : Int).toNat - 1 = ((2 ^ l - 1 : Nat) : Int) := by
    have := Nat.two_pow_pos l
    rw [one_shl', Int.ofNat_sub this]; rfl
  rw [e, and_cast, Nat.and_two_pow_sub_one_eq_mod]
theorem mod_lt256 {b l : Nat} (h : b < 2 ^ 256) : b % 2 ^ l < 2 ^ 256 := Nat.lt_of_le_of_lt (Nat.mod_le _ _) h
theorem two_rows {N n : Nat} : N % 2 ^ n = N % 2 ^ (256 * (n / 256) + n % 256) := by
  have e : 256 * (n / 256) + n % 256 = n := by omega
  rw [e]
/-! ### below -/
def sp_NumberSet_below (c : Cs) : Sp := fun vs H Q E => ∃ (a d N : Nat) (x : V), vs = [.ref a, x] ∧ SetAt c H a d N ∧ Kn H x ∧
  (∀ (n : Nat) (H' : Hp), x = .int (n : Int) → n < 16777216 → Same H H' → Q (.int ((popc (N % 2 ^ n) : Nat) : Int)) H') ∧ (numV x = false → E (.ref c.eNoNumber) none H)
def fam_below (c : Cs) (C : Addr) (sp : Sp) : Prop := C = c.set ∧ sp = sp_NumberSet_below c
theorem len_NumberSet_below (c : Cs) : ∀ vs H Q E, sp_NumberSet_below c vs H Q E → vs.length = (["self", "number"] : List Str).length := by
  rintro vs H Q E ⟨a, d, N, x, rfl, _⟩; rfl
/-- NumberSet.below -/
def t_NumberSet_below (c : Cs) (E : XK) : TS :=
  tSeq (tDrop (tCall (sp_need_number c) [] E (tCons (tVar 1) (tNil))))
    (tSeq (tAsg (tCB (rDivmod) (tCons (tVar 1) (tCons (tC (.int 256)) (tNil)))) (gTup c.K 2 (gCons (gName 2) (gCons (gName 3) (gNil)))))
    (tSeq (tAsg (tCall (sp_count_of c) [] E (tCons (tOp rBan (tMethF (fam_bits_at c) "bits_at" [] E (tVar 0) (tCons (tVar 2) (tNil))) (tOp rSub (tOp rShl (tC (.int 1)) (tVar 3)) (tC (.int 1)))) (tNil))) (gName 4))
    (tSeq (tLock (tFor (iItems (tFld c.K (tVar 0) "by_upper")) (gTup c.K 2 (gCons (gName 5) (gCons (gName 6) (gNil)))) (tIfS (tTest (tOp (rLt) (tVar 5) (tVar 2))) (tAug 4 (tMethF (fam_count c) "count" [] E (tVar 6) tNil) pAdd) (tNext))))
    (tRet (tVar 4)))))
theorem pure_NumberSet_below {c : Cs} (G : GoodS c) (vs : List V) (H : Hp) (Q : VK) (E : XK) (h : sp_NumberSet_below c vs H Q E) : t_NumberSet_below c E { nx := fun _ H' => Q .non H', rt := Q } (start ["self", "number", "upper", "low", "found", "other", "sack"] vs) H := by
  obtain ⟨a, d, N, x, rfl, hs, hk, hQ, hE⟩ := h
  unfold t_NumberSet_below
  show tSeq _ _ _ [some (.ref a), some x, none, none, none, none, none] H
  walk_at "go"
  refine ⟨x, rfl, hk, fun z => ?_, hE⟩
  obtain ⟨n, rfl, hn⟩ := num_nat z
  walk_at "go"
  refine ⟨_, _, rfl, ⟨by omega, by omega⟩, ?_⟩
  intro t nt
  generalize et : upd H t _ = H1
  obtain ⟨sH1, ht, dH1⟩ := new_of nt et
  walk_at "go"
  refine ⟨t, _, rfl, SqT.of ht, rfl, ?_⟩
  walk_at "go"
  rw [divmod256.1, divmod256.2]
  have hs1 := hs.same sH1
  refine hs1.at (m := "bits_at") (fam := fam_bits_at c) ⟨rfl, rfl⟩ (by decide +kernel) ?_
  walk_at "go"
  refine ⟨a, d, N, _, rfl, hs1, ?_⟩
  walk_at "go"
  rw [low_mask]
  refine ⟨_, rfl, mod_lt256 (sl_lt _ _), fun H2 s2 => ?_⟩
  have hs2 := hs1.same s2
  walk_at "go"
  obtain ⟨kvs, hd, hkv⟩ := hs2.ex
  refine ⟨d, _, hd, trivial, fun od => ?_⟩
  have ha3 : ∃ dx, upd H2 d (.frz od (.dK kvs)) a = some (.ins c.set dx [("by_upper", .ref d)]) := by
    obtain ⟨dx, hi⟩ := hs2.i
    exact ⟨dx, by rw [upd_ne (ne_of hi hd (by intro z; cases z))]; exact hi⟩
  obtain ⟨dx, ha3⟩ := ha3
  have hd3 : upd H2 d (.frz od (.dK kvs)) d = some (.frz od (.dK kvs)) := upd_same
  have hl3 : ∀ {s k b}, SackK c H2 s k b → SackK c (upd H2 d (.frz od (.dK kvs))) s k b := fun h => lock_ins h hd
  have un : ∀ H', Same (upd H2 d (.frz od (.dK kvs))) H' → Same H2 (upd H' d (.dK kvs)) := fun H' s => unlock hd s
  generalize upd H2 d (.frz od (.dK kvs)) = H3 at ha3 hd3 hl3 un
  walk_at "go"
  refine ⟨a, _, dx, _, _, rfl, ha3, G.cs, G.ns, lk1, ?_⟩
  refine ⟨d, od, kvs, rfl, hd3, for_items (fun i σ H4 => ∃ v5 v6, σ = [some (.ref a), some (.int (n : Int)), some (.int ((n / 256 : Nat) : Int)), some (.int ((n % 256 : Nat) : Int)), some (.int ((popc (sl N (n / 256) % 2 ^ (n % 256)) + (((kvs.take i).map fun p => (keyI p.1).toNat).map fun v => if v < n / 256 then popc (sl N v) else 0).sum : Nat) : Int)), v5, v6] ∧ Same H3 H4)
    ⟨_, _, rfl, Same.refl _⟩ (fun i σ H4 ⟨_, _, _, s⟩ => s _ _ hd3) ?_ ?_⟩
  · rintro i k v σ H4 T hi ⟨v5, v6, rfl, s4⟩ nT
    obtain ⟨u, s, rfl, rfl, e, hu, hks⟩ := hkv.item hi
    generalize eT : upd H4 T _ = H5
    obtain ⟨s5, hT, _⟩ := new_of nT eT
    walk_at "go"
    refine ⟨T, _, rfl, SqT.of hT, rfl, ?_⟩
    walk_at "go"
    have step : ((kvs.take (i + 1)).map fun p => (keyI p.1).toNat).map (fun v => if v < n / 256 then popc (sl N v) else 0) = (((kvs.take i).map fun p => (keyI p.1).toNat).map fun v => if v < n / 256 then popc (sl N v) else 0) ++ [if u < n / 256 then popc (sl N u) else 0] := by
      rw [take_more hi, List.map_append, List.map_append]
      simp [keyI]
    have ekv : kV (Sum.inl (u : Int)) = .int (u : Int) := rfl
    rw [ekv]
    walk_at "go"
    refine if_d (fun z1 => ?_) (fun z1 => ?_)
    · have z1 : u < n / 256 := by have : (u : Int) < ((n / 256 : Nat) : Int) := z1; omega
      walk_at "go"
      refine ((hl3 hks).same (s4.trans s5)).at (m := "count") (fam := fam_count c) (dvs := []) ⟨_, rfl, rfl⟩ (by decide +kernel) ?_
      walk_at "go"
      refine ⟨s, _, _, rfl, (hl3 hks).same (s4.trans s5), sl_lt _ _, fun H6 s6 => ?_⟩
      walk_at "go"
      rw [step, List.sum_append, List.sum_cons, List.sum_nil, if_pos z1]
      have ee : ((popc (sl N (n / 256) % 2 ^ (n % 256)) + ((((kvs.take i).map fun p => (keyI p.1).toNat).map fun v => if v < n / 256 then popc (sl N v) else 0).sum + (popc (sl N u) + 0)) : Nat) : Int) = ((popc (sl N (n / 256) % 2 ^ (n % 256)) + (((kvs.take i).map fun p => (keyI p.1).toNat).map fun v => if v < n / 256 then popc (sl N v) else 0).sum : Nat) : Int) + ((popc (sl N u) : Nat) : Int) := by omega
      rw [ee]
      exact ⟨_, _, rfl, (s4.trans s5).trans s6⟩
    · have z1 : ¬ u < n / 256 := by have : ¬ (u : Int) < ((n / 256 : Nat) : Int) := z1; omega
      walk_at "go"
      rw [step, List.sum_append, List.sum_cons, List.sum_nil, if_neg z1]
      exact ⟨_, _, rfl, s4.trans s5⟩
  · rintro σ H4 ⟨v5, v6, rfl, s4⟩
    rw [List.take_length]
    refine ⟨s4 _ _ hd3, ?_⟩
    walk_at "go"
    have e : (((kvs.map fun p => (keyI p.1).toNat).map fun v => if v < n / 256 then popc (sl N v) else 0).sum) = popc (N % 2 ^ (256 * (n / 256))) := by
      rw [((hkv.perm hs.b).map _).sum_nat]
      exact popc_low hs.b
    rw [e, Nat.add_comm, ← popc_split (by omega), ← two_rows]
    exact hQ n _ rfl hn ((sH1.trans s2).trans (un H4 s4))
/-! ### the number at a rank -/
def sp_NumberSet_at (c : Cs) : Sp := fun vs H Q E => ∃ (a d N : Nat) (x : V), vs = [.ref a, x] ∧ SetAt c H a d N ∧ Kn H x ∧
  (∀ (r : Nat) (H' : Hp), x = .int (r : Int) → r < popc N → Same H H' → Q (.int (((bitsOf N).getD r 0 : Nat) : Int)) H') ∧ ((∀ r : Nat, x = .int (r : Int) → ¬ r < popc N) → ∀ H', Same H H' → E (.ref c.eNoRank) none H')
def fam_at (c : Cs) (C : Addr) (sp : Sp) : Prop := C = c.set ∧ sp = sp_NumberSet_at c
theorem len_NumberSet_at (c : Cs) : ∀ vs H Q E, sp_NumberSet_at c vs H Q E → vs.length = (["self", "rank"] : List Str).length := by
  rintro vs H Q E ⟨a, d, N, x, rfl, _⟩; rfl
/-- NumberSet.at -/
def t_NumberSet_at (c : Cs) (E : XK) : TS :=
  tSeq (tIfS (tOr (tNot (tB (tCB (rIsiU c.K) (tCons (tVar 1) (tCons (tC (.ty "int")) (tNil)))))) (tOr (tB (tCB (rIsiU c.K) (tCons (tVar 1) (tCons (tC (.ty "bool")) (tNil))))) (tNot (tTest (tChain (rLe) (rLt) (tC (.int 0)) (tVar 1) (tMethF (fam_countS c) "count" [] E (tVar 0) tNil)))))) (fun _ σ H => E (.ref c.eNoRank) none H) (tNext))
    (tSeq (tFor (iSeq c.K (tMethF (fam_uppers c) "uppers" [] E (tVar 0) tNil)) (gName 2) (tSeq (tAsg (tMethF (fam_count c) "count" [] E (tDGet (tFld c.K (tVar 0) "by_upper") (tVar 2)) tNil) (gName 3))
    (tSeq (tIfS (tTest (tOp (rLt) (tVar 1) (tVar 3))) (tRet (tOp rAdd (tOp rMul (tC (.int 256)) (tVar 2)) (tOp (rIx c.K) (tMethF (fam_lows c) "lows" [] E (tDGet (tFld c.K (tVar 0) "by_upper") (tVar 2)) tNil) (tVar 1)))) (tNext))
    (tAug 1 (tVar 3) pSub))))
    (tRet (tC .non)))
theorem pure_NumberSet_at {c : Cs} (G : GoodS c) (vs : List V) (H : Hp) (Q : VK) (E : XK) (h : sp_NumberSet_at c vs H Q E) : t_NumberSet_at c E { nx := fun _ H' => Q .non H', rt := Q } (start ["self", "rank", "upper", "many"] vs) H := by
  obtain ⟨a, d, N, x, rfl, hs, hk, hQ, hE⟩ := h
  unfold t_NumberSet_at
  show tSeq _ _ _ [some (.ref a), some x, none, none] H
  walk_at "go"
  refine r_isi_kn_int hk ?_
  walk_at "go"
  by_cases hx : isI x = true
  · rw [hx]
    refine if_f rfl ?_
    walk_at "go"
    refine r_isi_kn_bool hk ?_
    walk_at "go"
    by_cases hx2 : isB x = true
    · rw [hx2]
      refine if_t rfl ?_
      walk_at "go"
      refine hE (fun r e => ?_) H (Same.refl _)
      subst e; cases hx2
    · have hx2 : isB x = false := by simpa using hx2
      rw [hx2]
      refine if_f rfl ?_
      obtain ⟨n, rfl⟩ : ∃ n, x = .int n := by
        cases x <;> simp [isI, isB] at hx hx2
        exact ⟨_, rfl⟩
      walk_at "go"
      have bad : (∀ r : Nat, V.int n = V.int (r : Int) → ¬ r < popc N) → ∀ H', Same H H' → E (.ref c.eNoRank) none H' := hE
      refine if_d (fun z1 => ?_) (fun z1 => ?_)
      · obtain ⟨r, rfl⟩ := Int.eq_ofNat_of_zero_le z1
        walk_at "go"
        refine hs.at (m := "count") (fam := fam_countS c) ⟨rfl, rfl⟩ (by decide +kernel) ?_
        walk_at "go"
        refine ⟨a, d, N, rfl, hs, fun H1 s1 => ?_⟩
        walk_at "go"
        have hs1 := hs.same s1
        refine if_nd (fun z2 => ?_) (fun z2 => ?_)
        · refine bad (fun r' e => ?_) H1 s1
          have : r' = r := by have := V.int.inj e; omega
          subst this
          omega
        have z2 : r < popc N := by omega
        walk_at "go"
        refine .inl ?_
        walk_at "go"
        refine hs1.at (m := "uppers") (fam := fam_uppers c) ⟨rfl, rfl⟩ (by decide +kernel) ?_
        walk_at "go"
        refine ⟨a, d, N, rfl, hs1, fun p H2 s2 np hp => ?_⟩
        have s02 := s1.trans s2
        refine ⟨p, rfl, ⟨_, SqL.of hp⟩, for_list (K := c.K) (a := p) (xs := (nz (upsOf N)).map V.int) (fun i σ H3 => ∃ v2 v3 q, σ = [some (.ref a), some (.int (q : Nat)), v2, v3] ∧ Same H2 H3 ∧ q + (flat N ((upsOf N).take i)).length = r)
          ⟨none, none, r, rfl, Same.refl _, rfl⟩ (fun i σ H3 _ ⟨_, _, _, _, s, _⟩ => SqL.of (s _ _ hp)) ?_ ?_⟩
        · rintro i y σ H3 hi ⟨v2, v3, q, rfl, s3, hq⟩
          obtain ⟨u, hu, rfl⟩ := nz_get hi
          have hu0 := ups_ne (List.mem_of_getElem? hu)
          have hs3 := hs.same (s02.trans s3)
          walk_at "go"
          refine hs3.fld (G := G) ?_
          walk_at "go"
          obtain ⟨s, hg, hks⟩ := hs3.get hu0
          refine ⟨d, .ref s, rfl, hg, ?_⟩
          refine hks.at (m := "count") (fam := fam_count c) (dvs := []) ⟨_, rfl, rfl⟩ (by decide +kernel) ?_
          walk_at "go"
          refine ⟨s, _, _, rfl, hks, sl_lt _ _, fun H4 s4 => ?_⟩
          walk_at "go"
          refine if_d (fun z3 => ?_) (fun z3 => ?_)
          · have z3 : q < popc (sl N u) := by omega
            walk_at "go"
            have hs4 := hs3.same s4
            refine hs4.fld (G := G) ?_
            walk_at "go"
            obtain ⟨s', hg', hks'⟩ := hs4.get hu0
            refine ⟨d, .ref s', rfl, hg', ?_⟩
            refine hks'.at (m := "lows") (fam := fam_lows c) (dvs := []) ⟨_, rfl, rfl⟩ (by decide +kernel) ?_
            walk_at "go"
            refine ⟨s', _, _, rfl, hks', sl_lt _ _, fun p5 H5 s5 np5 hp5 => ?_⟩
            walk_at "go"
            have hlt : q < (bitsOf (sl N u)).length := z3
            have hx : atI ((nz (bitsOf (sl N u))).map V.int) ((q : Nat) : Int) = some (.int (((bitsOf (sl N u)).getD q 0 : Nat) : Int)) := by
              refine atI_nat ?_
              unfold nz
              rw [List.getElem?_map, List.getElem?_map, List.getElem?_eq_getElem hlt, List.getD_eq_getElem?_getD, List.getElem?_eq_getElem hlt]; rfl
            refine r_ixL (SqL.of hp5) hx ?_
            walk_at "go"
            have bp := bits_at_part hs.b hu (r := r) (by omega) (by have e : r - (flat N ((upsOf N).take i)).length = q := by omega
                                                                    rw [e]; exact z3)
            have e : r - (flat N ((upsOf N).take i)).length = q := by omega
            rw [e] at bp
            have e2 : (256 : Int) * (u : Int) + (((bitsOf (sl N u)).getD q 0 : Nat) : Int) = (((bitsOf N).getD r 0 : Nat) : Int) := by rw [bp]; omega
            rw [e2]
            exact hQ r H5 rfl z2 ((s02.trans s3).trans (s4.trans s5))
          · have z3 : ¬ q < popc (sl N u) := by omega
            walk_at "go"
            have e : ((q : Nat) : Int) - ((popc (sl N u) : Nat) : Int) = ((q - popc (sl N u) : Nat) : Int) := by omega
            rw [e]
            refine ⟨_, _, q - popc (sl N u), rfl, s3.trans s4, ?_⟩
            rw [take_more hu, flat_snoc, List.length_append, List.length_map]
            have : (bitsOf (sl N u)).length = popc (sl N u) := rfl
            omega
        · rintro σ H3 ⟨v2, v3, q, rfl, s3, hq⟩
          rw [nzv_len, List.take_length, flat_ups hs.b] at hq
          have : (bitsOf N).length = popc N := rfl
          omega
      · refine ⟨_, rfl, ?_⟩
        walk_at "go"
        refine bad (fun r' e => ?_) H (Same.refl _)
        have := V.int.inj e
        omega
  · have hx : isI x = false := by simpa using hx
    rw [hx]
    refine if_t rfl ?_
    walk_at "go"
    refine hE (fun r e => ?_) H (Same.refl _)
    subst e; cases hx
/-! ### the next, the one ahead -/
/-! ### set(l) of a list of ints, sorted(..) of it -/
abbrev bare0 (w : World) : Obj := { cls := .type "set", dict := none, data := .set #[] 0 (.fresh 0 0 (!w.params.followText "set-order")) }
section
variable {P : Program} {w : World} {A : Around} {E : Value → Shared → Prop} {st : Shared}
set_option maxRecDepth 100000 in
set_option maxHeartbeats 3200000 in
theorem set_ints {b : Addr} {its : Array Value} (ns : List Int) {Q : Value → Shared → Prop} (calm : A.handled = none) (lst : st.heap.IsList b its) (are : IntsAre its.toList ns) (small : ns.length + 1 < scanBound)
    (fin : ∀ (g : Heap) (tk k : Nat), SetR w g st.heap.objs.size (fun j => decide (j ∈ ns)) k → k ≤ ns.length → (∀ x o, st.heap.get? x = some o → g.get? x = some o) → Q (.ref st.heap.objs.size) { st with heap := g, toks := tk }) :
    wpAny (model P w) A (call (.type "set") [.ref b]) Q E st := by
  have many : its.size = ns.length := by rw [← are.length, Array.length_toList]
  obtain ⟨_, _, hmro⟩ := F.called_set.mro
  have a1 := F.called_set.made
  have a2 := F.called_set.sub
  have a3 := F.called_set.notType
  have a4 := F.called_set.canCreate
  have a5 := F.typeCall_set_1 (.ref b)
  apply wpAny_call
  apply codeAny_of_tree
  show wpAny _ _ (callAny (.type "set") ⟨[.ref b], []⟩) _ _ st
  apply wpAny_pure
  refine ⟨Code.quiet_builtin _ (by decide +kernel), ?_⟩
  apply codeAny_builtin F.entry_type_call
  rw [Around.under_plain (weight_type_call_type "set" [.ref b] []) rfl]
  repeat (any_goals (first | assumption | wp_step))
  apply codeAny_mono (code_set_led1 (.ref b) (E := E) (Q₁ := fun u t => u = .ref st.heap.objs.size ∧ t = { st with heap := st.heap.push (bare0 w) }) ⟨rfl, rfl⟩)
  rintro (e | fl) t1 hr
  · exact hr
  cases fl with
  | ret u =>
    obtain ⟨rfl, rfl⟩ := hr
    have hS : (st.heap.push (bare0 w)).get? st.heap.objs.size = some (bare0 w) := Heap.get?_push_size _ rfl
    have hT : Shared.TypeIs { st with heap := st.heap.push (bare0 w) } (.ref st.heap.objs.size) "set" := ⟨_, hS, rfl⟩
    have a6 := F.called_set.init.lookup
    have a7 := F.called_set.init.bind (.ref st.heap.objs.size)
    repeat (any_goals (first | assumption | wp_step))
    refine codeAny_mono (codeAny_call_builtin (R := wants (fun v t => v = .none ∧ ∃ g tk k, t = { st with heap := g, toks := tk } ∧ SetR w g st.heap.objs.size (fun j => decide (j ∈ ns)) k ∧ k ≤ ns.length ∧ (∀ x o, st.heap.get? x = some o → g.get? x = some o)) E)
      F.called_set.init.plain F.entry_set_init (check_set_init_1 hT ?_)) ?_
    · obtain ⟨⟨ocls, odict, odata, oslots⟩, ho, hcl, nl, hdl⟩ := lst
      simp only at hcl hdl
      subst hcl hdl
      have ho' : (st.heap.push (bare0 w)).get? b = some ⟨.type "list", odict, .seq its nl, oslots⟩ := Heap.get?_push_of_some _ ho
      have l1 : (st.heap.push (bare0 w)).IsList b its := ⟨_, ho', rfl, nl, rfl⟩
      have n1 := F.sub_list_set
      have n2 := F.sub_list_frozenset
      have n3 : (Value.type "list" == Value.type "dict") = false := by decide
      unfold Builtin.«set.__init__» noKeywords Builtin.Frozenset.updateFrom
      generalize hPI : pyIter = PI
      wp_walk
      subst hPI
      apply wpAny_pyIter_list l1
      apply wpAny_bind
      apply wpAny_runValue
      have bl : b < st.heap.objs.size := Heap.lt_size ho
      have sz : (st.heap.push (bare0 w)).objs.size = st.heap.objs.size + 1 := Heap.size_push ..
      have calm3 : A.in1.in1.in1.handled = none := by simp [calm]
      have vals : ∀ (i : Nat) (v : Value), its[i]? = some v → ∃ k t, ns[i]? = some k ∧ v = .int k t := by
        intro i v hv
        obtain ⟨hi, _⟩ := Array.getElem?_eq_some_iff.mp hv
        rw [many] at hi
        obtain ⟨t, e⟩ := IntsAre.int_at are i v (by rw [Array.getElem?_toList]; exact hv)
        rw [List.getD_eq_getElem?_getD, List.getElem?_eq_getElem hi] at e
        exact ⟨ns[i], t, List.getElem?_eq_getElem hi, e⟩
      have nf : st.heap.objs.size ∉ [(st.heap.push (bare0 w)).objs.size, b] := by
        rw [sz]
        intro z
        rcases List.mem_cons.mp z with z | z
        · exact absurd z (Nat.ne_of_lt (Nat.lt_succ_self _))
        · have : st.heap.objs.size = b := by simpa using z
          exact absurd this (Nat.ne_of_gt bl)
      apply set_update_ints (Walks.list calm3 _ b (Nat.ne_of_lt (by rw [sz]; exact Nat.lt_succ_of_lt bl)) its).toS st.heap.objs.size nf ns many small vals (its.size - 0) 0 _ (by omega) (Nat.zero_le _)
      · exact ⟨⟨_, Heap.get?_push_size _ rfl, rfl, rfl⟩, l1.push _⟩
      · exact ⟨0, Nat.le_refl 0, setR_new_at (Heap.get?_push_of_some _ hS)⟩
      · rintro ⟨g, gs, dr, tk, os⟩ k mv hk hR
        have e1 : gs = st.gens := mv.gens
        have e2 : dr = st.drawn := mv.drawn
        have e3 : os = st.os := mv.os
        subst e1 e2 e3
        apply wpAny_pure
        show wpAny _ _ (ret Value.none) _ _ _
        rw [many] at hk
        refine wpAny_pure ⟨rfl, g, tk, k, rfl, hR, hk, fun x o e => ?_⟩
        have xl : x < st.heap.objs.size := Heap.lt_size e
        refine mv.heap x o (fun z => ?_) (Heap.get?_push_of_some _ (Heap.get?_push_of_some _ e))
        rcases List.mem_cons.mp z with z | z
        · exact absurd z (Nat.ne_of_lt xl)
        · have e2 : x = (st.heap.push (bare0 w)).objs.size := by simpa using z
          rw [sz] at e2
          exact absurd e2 (Nat.ne_of_lt (Nat.lt_succ_of_lt xl))
    · rintro (e | f2) t2 hr2
      · exact hr2
      cases f2 with
      | ret v =>
        obtain ⟨rfl, g, tk, k, rfl, hR, hk, keep⟩ := hr2
        repeat (any_goals (first | assumption | wp_step))
        exact fin _ _ _ hR hk keep
      | _ => exact hr2.elim
  | _ => exact hr.elim
end
section
variable {P : Program} {w : World} {A : Around} {E : Value → Shared → Prop} {st : Shared}
theorem sort_made {S : Int → Bool} {n : Nat} {b : Addr} {Q : Value → Shared → Prop} (R : SetR w st.heap b S n) (calm : A.handled = none)
    (fin : ∀ (t : Shared) (p : Addr) (out : Array Value) (k : Nat) (ns : List Int), (∀ x o, st.heap.get? x = some o → t.heap.get? x = some o) → t.gens = st.gens → t.os = st.os → st.heap.objs.size ≤ p → t.heap.get? p = some (seqObj "list" out k) → IntsAre out.toList ns → ns.Pairwise (· < ·) → (∀ i, i ∈ ns ↔ S i = true) → ns.length ≤ 4096 → Q (.ref p) t) :
    wpAny (model P w) A (call (.builtin "sorted") [.ref b]) Q E st := by
  obtain ⟨o, es, ep, tb, ho, hex, hd, good, nd, mem, small, fits, hn, ris, led⟩ := R
  apply Calls.call_function_entry PyProof.Rows.kind_sorted PyProof.Rows.plain_sorted PyProof.Rows.entry_sorted (PyProof.Rows.args_sorted1 _)
  unfold Builtin.«sorted»
  apply wpAny_bind (m := checkCount "sorted" 1 1 _)
  apply wpAny_pure
  apply wpAny_bind
  apply collect_set (A := A.in1) calm ⟨o, ho, hex.1, hd⟩ fits small ris led
  intro t vs keep sz gs os pm
  have len : vs.length = es.size := by rw [pm.length_eq, List.length_map, Array.length_toList]
  have isi : IntsAre vs (vs.map Builtin.Re.reRawOf) := by
    apply ints_of
    intro v hv
    obtain ⟨e, he, rfl⟩ := List.mem_map.mp (pm.mem_iff.mp hv)
    obtain ⟨k, tk, h1, _⟩ := good e he
    exact ⟨k, tk, h1⟩
  have perm : (vs.map Builtin.Re.reRawOf).Perm (es.toList.map keyOf) := by
    have := pm.map Builtin.Re.reRawOf
    rw [List.map_map] at this
    exact this
  have le : vs.length ≤ 4096 := by
    rw [len]
    exact Nat.le_of_lt small
  have lz : vs.length ≤ sizeLine := sz5 (by omega)
  apply wpAny_bind
  refine wpAny_newList ?_ lz
  have ob : (t.heap.push (seqObj "list" vs.toArray 0)).get? t.heap.objs.size = some (seqObj "list" vs.toArray 0) := Heap.get?_push_size _ rfl
  apply wpAny_bind
  apply wpAny_holding
  refine wpAny_call_entry PyProof.Rows.slot_list_sort ⟨_, ob, rfl⟩ PyProof.Rows.entry_list_sort ?_ (PyProof.Rows.args_list_sort _)
  refine SrtO.list_sort_ord (s := { t with heap := t.heap.push (seqObj "list" vs.toArray 0) }) SrtO.swo_int ob lz (fun h2 => SrtO.ints_sortable isi h2) ?_
  intro out g1 g2
  refine ⟨_, rfl, ?_⟩
  obtain ⟨k1, k2, k3⟩ := SrtO.ints_out isi g1 g2
  obtain ⟨k, at_⟩ := PyProof.Rows.sortedHeap_at (vs := vs) (out := out.toArray) ob
  have pn : (out.map SrtO.iv).Perm (es.toList.map keyOf) := k2.trans perm
  refine wpAny_pure ⟨_, rfl, fin _ t.heap.objs.size out.toArray k (out.map SrtO.iv) (fun x u e => ?_) gs os sz at_ k1 (lt_of_le_nodup _ k3 (pn.nodup_iff.mpr nd)) (fun i => by rw [pn.mem_iff, ← mem i]) ?_⟩
  · have e2 := keep x u e
    have xl := Heap.lt_size e2
    exact (PyProof.Rows.sortedHeap_old (vs := vs) (out := out.toArray) (Nat.ne_of_lt xl) (by rw [size_push']; exact Nat.lt_succ_of_lt xl)).trans (Heap.get?_push_of_some (seqObj "list" vs.toArray 0) e2)
  · rw [pn.length_eq, List.length_map, Array.length_toList, ← len]; exact le
end
/-- sorted(set(e)), e a list of ints -/
def tSortSet (K : PySem.W.Frag) (ta : TE) : TE := fun σ H Q => ta σ H fun x H1 => ∃ (l : Addr) (ns : List Int), x = .ref l ∧ SqL K H1 l (ns.map V.int) ∧ ns.length ≤ 4000 ∧
  ∀ (ys : List Int) (p : Addr), ys.Pairwise (· < ·) → (∀ k, k ∈ ys ↔ k ∈ ns) → H1 p = none → Q (.ref p) (upd H1 p (.lst (ys.map V.int)))
theorem pe_sortSet {X : Cx} {a : Expr} {ta : TE} {p p2 q pos : Pos} (hg : Gl X "sorted") (hm : X.mg "sorted" = none) (hg2 : Gl X "set") (hm2 : X.mg "set" = none) (ha : PE X a ta) (hc : X.calm = true := by rfl)
    (na : starEach [a] X.env = (false, eval a X.env) :: starEach [] X.env := by rfl) : PE X (.Call (.Name "sorted" p) [.Call (.Name "set" p2) [a] [] q] [] pos) (tSortSet X.K ta) := by
  constructor
  intro pins s σ H Q I h
  apply wpAny_Call_Name_kw (ld_blt I hg hm (show bootBuiltins "sorted" = some (.builtin "sorted") by decide +kernel) ?_)
  refine PyProof.Rows.callWith_builtin1 (PyProof.Rows.args_cons ?_ rfl) rfl
  apply wpAny_Call_Name_kw (ld_blt I hg2 hm2 (show bootBuiltins "set" = some (.type "set") by decide +kernel) ?_)
  refine PyProof.Rows.callWith_type1 (PyProof.Rows.args_cons (thn (ha.run pins s σ H _ I h) ?_) na) na
  rintro v s1 ⟨x, H1, I1, r1, l, ns, rfl, hq, hl, q1⟩
  apply PyProof.Rows.args_nil
  cases r1
  obtain ⟨its, r, pl, hz⟩ := I1.list hq
  refine set_ints ns (I1.ok.hd hc) pl.isList (by simpa using r.ints) (by unfold scanBound; omega) ?_
  intro g tk k hR hk keep
  apply PyProof.Rows.args_nil
  have I2 : Inv X pins σ H1 { s1 with heap := g, toks := tk } := I1.kept keep
  have hR2 : SetR X.w ({ s1 with heap := g, toks := tk } : Shared).heap s1.heap.objs.size (fun j => decide (j ∈ ns)) k := hR
  generalize ({ s1 with heap := g, toks := tk } : Shared) = s2 at I2 hR2
  refine sort_made hR2 (I2.ok.hd hc) ?_
  intro t b out c ys keep2 gs os hp hat hi hs hmem hlen
  have nb : H1 b = none := I2.hok.fresh hp
  have hlz : (ys.map V.int).length ≤ sizeLine := sz5 (by rw [List.length_map]; omega)
  have J : Inv X pins σ (upd H1 b (.lst (ys.map V.int))) { s2 with heap := t.heap, gens := t.gens, drawn := t.drawn, toks := t.toks } :=
    I2.call (ch := []) (Un.laid keep2 hp nb) (I2.hok.laid keep2 hp ⟨hlz, out.toList, c, vals_of_ints hi, hat⟩) (by rw [gs]; exact I2.bare) (fun _ z => nomatch z)
  have e : t = { s2 with heap := t.heap, gens := t.gens, drawn := t.drawn, toks := t.toks } := by
    cases t; cases s2; cases os; rfl
  rw [e]
  exact ⟨.ref b, _, J, rfl, q1 ys b hs (fun i => (hmem i).trans ⟨of_decide_eq_true, decide_eq_true⟩) nb⟩
theorem w_sortSet {K : PySem.W.Frag} {ta : TE} {σ : L2.St} {H : Hp} {Q : VK} (h : ta σ H fun x H1 => ∃ (l : Addr) (ns : List Int), x = .ref l ∧ SqL K H1 l (ns.map V.int) ∧ ns.length ≤ 4000 ∧
    ∀ (ys : List Int) (p : Addr), ys.Pairwise (· < ·) → (∀ k, k ∈ ys ↔ k ∈ ns) → H1 p = none → Q (.ref p) (upd H1 p (.lst (ys.map V.int)))) : tSortSet K ta σ H Q := h
/-! ### helpers of the later laws -/
theorem popc_win {m w : Nat} (hm : m < 2 ^ 3072) : popc (m * 2 ^ (256 * w)) ≤ 3072 := by
  rw [popc_mul]
  exact bitsOf_len hm
theorem put_of {c : Cs} {H : Hp} {Q : VK} {E : XK} {a d N n : Nat} (hs : SetAt c H a d N) (hn : n < 16777216) (hQ : ∀ H', But d H H' → SetAt c H' a d (N ||| 2 ^ n) → Q (.bl (!N.testBit n)) H') : sp_NumberSet_put c [.ref a, .int (n : Int)] H Q E := by
  refine ⟨a, d, N, _, rfl, hs, .int _, fun n2 H' e _ b s => ?_, fun z => by rw [num_of hn] at z; cases z⟩
  have e : n2 = n := by have := V.int.inj e; omega
  subst e
  exact hQ H' b s
theorem drop_of {c : Cs} {H : Hp} {Q : VK} {E : XK} {a d N n : Nat} (hs : SetAt c H a d N) (hn : n < 16777216) (hQ : ∀ H', But d H H' → SetAt c H' a d (andn N (2 ^ n)) → Q (.bl (N.testBit n)) H') : sp_NumberSet_drop c [.ref a, .int (n : Int)] H Q E := by
  refine ⟨a, d, N, _, rfl, hs, .int _, fun n2 H' e _ b s => ?_, fun z => by rw [num_of hn] at z; cases z⟩
  have e : n2 = n := by have := V.int.inj e; omega
  subst e
  exact hQ H' b s
theorem below_of {c : Cs} {H : Hp} {Q : VK} {E : XK} {a d N n : Nat} (hs : SetAt c H a d N) (hn : n < 16777216) (hQ : ∀ H', Same H H' → Q (.int ((popc (N % 2 ^ n) : Nat) : Int)) H') : sp_NumberSet_below c [.ref a, .int (n : Int)] H Q E := by
  refine ⟨a, d, N, _, rfl, hs, .int _, fun n2 H' e _ s => ?_, fun z => by rw [num_of hn] at z; cases z⟩
  have e : n2 = n := by have := V.int.inj e; omega
  subst e
  exact hQ H' s
/-- what rises and has the same ones is the same -/
theorem rise_eq {ys : List Int} {l : List Nat} (h1 : ys.Pairwise (· < ·)) (h2 : l.Pairwise (· < ·)) (hm : ∀ k : Int, k ∈ ys ↔ k ∈ nz l) : ys = nz l := by
  have n2 : (nz l).Pairwise (· < ·) := by
    unfold nz
    rw [List.pairwise_map]
    exact h2.imp fun h => by omega
  have p : ys.Perm (nz l) := (List.perm_ext_iff_of_nodup (h1.imp fun h => Int.ne_of_lt h) (n2.imp fun h => Int.ne_of_lt h)).mpr hm
  exact p.eq_of_pairwise (le := (· ≤ ·)) (fun a b _ _ x y => Int.le_antisymm x y) (h1.imp fun h => Int.le_of_lt h) (n2.imp fun h => Int.le_of_lt h)
theorem mem_nz {l : List Nat} {k : Int} : k ∈ nz l ↔ ∃ n : Nat, n ∈ l ∧ k = (n : Int) := by
  unfold nz
  rw [List.mem_map]
  exact ⟨fun ⟨n, h, e⟩ => ⟨n, h, e.symm⟩, fun ⟨n, h, e⟩ => ⟨n, h, e.symm⟩⟩
theorem orV_has {L : List Nat} {x : Nat} : (orV ((nz L).map V.int)).testBit x = decide (x ∈ L) := by
  rw [orV_bit]
  unfold nz
  rw [List.map_map, List.any_map, Bool.eq_iff_iff, List.any_eq_true, decide_eq_true_eq]
  constructor
  · rintro ⟨y, hy, e⟩
    have e2 : lowN (.int (y : Int)) = x := of_decide_eq_true e
    rw [lowN_nat] at e2
    exact e2 ▸ hy
  · intro h
    exact ⟨x, h, decide_eq_true (show lowN (.int (x : Int)) = x from lowN_nat x)⟩
/-- what lies outside the window -/
def Far (w x : Nat) : Prop := x < 256 * w ∨ 256 * w + 3072 ≤ x
theorem win_far {m w x : Nat} (hm : m < 2 ^ 3072) (h : Far w x) : (m * 2 ^ (256 * w)).testBit x = false := by
  rw [Nat.testBit_mul_two_pow]
  rcases h with h | h
  · rw [decide_eq_false (show ¬ 256 * w ≤ x by omega), Bool.false_and]
  · rw [Nat.testBit_lt_two_pow (lt_pow_mono hm (show 3072 ≤ x - 256 * w by omega)), Bool.and_false]
/-- a stretch of the window turned about, some far ones staying -/
theorem far_turn {m w f l F : Nat} (hf : f ≤ l) (hl : l < 3072) (hF : ∀ x, F.testBit x = true → Far w x) : Wy.op .turnA (m * 2 ^ (256 * w) ||| F) (mask (256 * w + f) (256 * w + l)) = (m ^^^ mask f l) * 2 ^ (256 * w) ||| F := by
  have e : (m ^^^ mask f l) * 2 ^ (256 * w) = m * 2 ^ (256 * w) ^^^ mask (256 * w + f) (256 * w + l) := by
    have := @op_mul .turnA m (mask f l) (256 * w)
    rw [← mask_shift] at this
    exact this
  rw [e]
  apply Nat.eq_of_testBit_eq
  intro i
  rw [op_bit, Nat.testBit_or, Nat.testBit_or, Nat.testBit_xor, mask_bit (by omega)]
  show Bool.xor ((m * 2 ^ (256 * w)).testBit i || F.testBit i) _ = _
  cases hFi : F.testBit i with
  | false => simp
  | true =>
    have z : (decide (256 * w + f ≤ i) && decide (i ≤ 256 * w + l)) = false := by
      rcases hF i hFi with h | h
      · rw [decide_eq_false (show ¬ 256 * w + f ≤ i by omega), Bool.false_and]
      · rw [decide_eq_false (show ¬ i ≤ 256 * w + l by omega), Bool.and_false]
    rw [z]; simp
/-- one far one taken out -/
theorem far_drop {m w F x : Nat} (hm : m < 2 ^ 3072) (h : Far w x) : andn (m * 2 ^ (256 * w) ||| F) (2 ^ x) = m * 2 ^ (256 * w) ||| andn F (2 ^ x) := by
  apply Nat.eq_of_testBit_eq
  intro i
  rw [andn_bit, Nat.testBit_or, Nat.testBit_or, andn_bit, Nat.testBit_two_pow]
  by_cases c : x = i
  · subst c
    rw [win_far hm h]; simp
  · rw [decide_eq_false c]; simp
theorem all_of {m w : Nat} {L : List Nat} {ys : List Int} (h1 : ys.Pairwise (· < ·)) (h2 : ∀ k : Int, k ∈ ys ↔ k ∈ nz (bitsOf (m * 2 ^ (256 * w)) ++ L)) : ys = nz (bitsOf (m * 2 ^ (256 * w) ||| orV ((nz L).map V.int))) := by
  refine rise_eq h1 (bitsOf_sorted _) fun k => ?_
  rw [h2, mem_nz, mem_nz]
  constructor
  · rintro ⟨n, hn, rfl⟩
    refine ⟨n, mem_bitsOf.mpr ?_, rfl⟩
    rw [Nat.testBit_or, orV_has]
    rcases List.mem_append.mp hn with h | h
    · rw [mem_bitsOf.mp h]; rfl
    · rw [decide_eq_true h, Bool.or_true]
  · rintro ⟨n, hn, rfl⟩
    refine ⟨n, ?_, rfl⟩
    have := mem_bitsOf.mp hn
    rw [Nat.testBit_or, orV_has, Bool.or_eq_true, decide_eq_true_eq] at this
    rcases this with h | h
    · exact List.mem_append_left _ (mem_bitsOf.mpr h)
    · exact List.mem_append_right _ h
theorem popc_far {m w : Nat} {L : List Nat} (hm : m < 2 ^ 3072) (hl : L.length ≤ 900) : popc (m * 2 ^ (256 * w) ||| orV ((nz L).map V.int)) ≤ 4000 := by
  have h1 : popc (m * 2 ^ (256 * w) ||| orV ((nz L).map V.int)) ≤ (bitsOf (m * 2 ^ (256 * w)) ++ L).length := by
    unfold popc
    refine nodup_le ((bitsOf_sorted _).imp fun h => Nat.ne_of_lt h) fun x hx => ?_
    have := mem_bitsOf.mp hx
    rw [Nat.testBit_or, orV_has, Bool.or_eq_true, decide_eq_true_eq] at this
    rcases this with h | h
    · exact List.mem_append_left _ (mem_bitsOf.mpr h)
    · exact List.mem_append_right _ h
  rw [List.length_append] at h1
  have := popc_win (w := w) hm
  unfold popc at this
  omega
local macro_rules | `(tactic| walk_at "go1") => `(tactic| with_reducible refine w_sortSet ?_)
/-- what is told of a rank that is none -/
def noRank : List V := [.bl false, .bl false, .bl true, .bl false, .bl true]
def sp__law_at (c : Cs) : Sp := fun vs H Q _ => ∃ (a d N : Nat) (x : V), vs = [.ref a, x] ∧ SetAt c H a d N ∧ Kn H x ∧
  (∀ (r : Nat) (H' : Hp), x = .int (r : Int) → r < popc N → Same H H' → Q (.int (((bitsOf N).getD r 0 : Nat) : Int)) H') ∧
  ((∀ r : Nat, x = .int (r : Int) → ¬ r < popc N) → ∀ (p : Addr) (H' : Hp), Same H H' → H p = none → H' p = some (.lst noRank) → Q (.ref p) H')
theorem len__law_at (c : Cs) : ∀ vs H Q E, sp__law_at c vs H Q E → vs.length = (["_law_numbers_here", "_law_rank"] : List Str).length := by
  rintro vs H Q E ⟨a, d, N, x, rfl, _⟩; rfl
/-- _law_at -/
def t__law_at (c : Cs) (E : XK) : TS :=
  tSeq (tAsg (tC .non) (gName 2))
    (tSeq (tTry c.K (.ref c.eSackError) 3 (fun a cls d => tAsg (tOp rAdd (tCallP (sp__law_marks c) cls d a (tCons (tVar 3) (tNil))) (tLst (tCons (tCB (rIsX c.K cls d a) (tCons (tVar 3) (tCons (tC (.ty "ValueError")) (tNil)))) (tNil)))) (gName 2)) (fun cls d _ H => E cls d H) (fun W => tAsg (tMethW (fam_at c) "at" [] W (tVar 0) (tCons (tVar 1) (tNil))) (gName 2)))
    (tRet (tVar 2)))
theorem pure__law_at {c : Cs} (G : Good c) (GE : GoodE c) (vs : List V) (H : Hp) (Q : VK) (E : XK) (h : sp__law_at c vs H Q E) : t__law_at c E { nx := fun _ H' => Q .non H', rt := Q } (start ["_law_numbers_here", "_law_rank", "_law_told", "_law_e"] vs) H := by
  obtain ⟨a, d, N, x, rfl, hs, hk, hQ, hE⟩ := h
  unfold t__law_at
  show tSeq _ _ _ [some (.ref a), some x, none, none] H
  walk_at "go"
  refine hs.at (m := "at") (fam := fam_at c) ⟨rfl, rfl⟩ (by decide +kernel) ?_
  walk_at "go"
  refine ⟨a, d, N, x, rfl, hs, hk, fun r H1 e hr s1 => ?_, fun z H1 s1 => ?_⟩
  · walk_at "go"
    exact hQ r H1 e hr s1
  · refine we_yes (GE.got .rank) fun e ne => ?_
    simp only [List.set_cons_zero, List.set_cons_succ]
    walk_at "go"
    refine ⟨.rank, rfl, rfl, rfl, fun p H2 s2 np hp => ?_⟩
    walk_at "go"
    refine r_isxT (GE.x .rank) (GE.val .rank) ?_
    walk_at "go"
    refine ⟨sz5 (by simp), fun q nq => ?_⟩
    generalize eq : upd H2 q _ = H3
    obtain ⟨sH3, hq, dH3⟩ := new_of nq eq
    refine .inr (.inr ⟨p, q, _, _, rfl, rfl, sH3 _ _ hp, hq, sz5 (by simp [marksV]), ?_⟩)
    intro r nr
    generalize er : upd H3 r _ = H4
    obtain ⟨sH4, hr, dH4⟩ := new_of nr er
    walk_at "go"
    exact hE z r H4 (((s1.trans s2).trans sH3).trans sH4) (s1.free (s2.free (sH3.free nr))) hr
theorem told_eq {K : PySem.W.Frag} {H : Hp} {Q : VK} {p q : Addr} (hp : H p = some (.lst noRank)) (hq : H q = some (.lst noRank)) (h : Q (.bl true) H) : rEqu K (.ref p) (.ref q) H Q := by
  have d : ∀ {r : Addr}, H r = some (.lst noRank) → Dp K H (.ref r) (.list [.bool false, .bool false, .bool true, .bool false, .bool true]) := fun h => .lst (SqL.of h) (.cons (.bl _) (.cons (.bl _) (.cons (.bl _) (.cons (.bl _) (.cons (.bl _) .nil)))))
  have sm : Sm 1 (.list [.bool false, .bool false, .bool true, .bool false, .bool true]) := Sm.list fun d hd => by
    simp only [List.mem_cons, List.not_mem_nil, or_false] at hd
    rcases hd with rfl | rfl | rfl | rfl | rfl <;> exact .bl _
  refine r_eqd (d hp) (d hq) sm.shaped sm.shaped ?_
  rw [sm.refl]
  exact h
/-- a plain value of the ranks' list -/
def Pl : V → Bool
  | .int _ => true
  | .bl _ => true
  | .non => true
  | .str _ => true
  | _ => false
theorem Pl.kn {H : Hp} {x : V} (h : Pl x = true) : Kn H x := by
  cases x <;> first | exact .int _ | exact .bl _ | exact .non | exact .str _ | cases h
theorem at_all {xs : List V} {j : Nat} (hj : j < xs.length) (h : xs.all Pl = true) : ∃ x, atI xs (j : Int) = some x ∧ Pl x = true := by
  refine ⟨xs[j], atI_nat (List.getElem?_eq_getElem hj), ?_⟩
  exact List.all_eq_true.mp h _ (List.getElem_mem hj)
theorem ix_all {K : PySem.W.Frag} {p : Addr} {xs : List V} {j : Nat} {H : Hp} {Q : VK} (h : SqL K H p xs) (hj : j < xs.length) (ha : xs.all Pl = true) (q : ∀ x, Pl x = true → Q x H) : rIx K (.ref p) (.int (j : Int)) H Q := by
  obtain ⟨x, hx, hp⟩ := at_all hj ha
  exact r_ixL h hx (q x hp)
def sp__law_ranked (c : Cs) : Sp := fun vs H Q _ => ∃ a d N p n w : Nat, vs = [.ref a, .ref p, .int (n : Int), .int ((256 * w : Nat) : Int)] ∧ SetAt c H a d N ∧ SqL c.K H p ((nz (bitsOf N)).map V.int) ∧ popc N ≤ 4000 ∧ n < 4611686018427387904 ∧ w + 12 ≤ 65536 ∧ ∀ H', Same H H' → Q (.bl true) H'
theorem len__law_ranked (c : Cs) : ∀ vs H Q E, sp__law_ranked c vs H Q E → vs.length = (["_law_numbers_here", "_law_all_of", "_law_cell", "_law_begin_here"] : List Str).length := by
  rintro vs H Q E ⟨a, d, N, p, n, w, rfl, _⟩; rfl
/-- _law_ranked -/
def t__law_ranked (c : Cs) (E : XK) : TS :=
  tSeq (tAsg (tCall (sp__law_spot c) [] E (tCons (tOp rFdv (tVar 2) (tC (.int 8))) (tCons (tVar 3) (tNil)))) (gName 4))
    (tSeq (tAsg (tMethF (fam_below c) "below" [] E (tVar 0) (tCons (tVar 4) (tNil))) (gName 5))
    (tSeq (tIfS (tOr (tNot (tB (tCall (sp__law_plain c) [] E (tCons (tVar 5) (tNil))))) (tTest (tOp (rNeu c.K) (tVar 5) (tCB (rLen c.K) (tCons (tLc (iSeq c.K (tVar 1)) (gName 9) (tTest (tOp (rLt) (tVar 9) (tVar 4))) (tVar 9) [9]) (tNil)))))) (tRet (tC (.bl false))) (tNext))
    (tSeq (tAsg (tCB (rLen c.K) (tCons (tVar 1) (tNil))) (gName 6))
    (tSeq (tAsg (tOp (rIx c.K) (tLst (tCons (tOp rMod (tOp rFdv (tVar 2) (tC (.int 64))) (tOp rAdd (tVar 6) (tC (.int 1)))) (tCons (tC (.int 0)) (tCons (tOp rSub (tVar 6) (tC (.int 1))) (tCons (tVar 6) (tCons (tUn rNeg (tC (.int 1))) (tCons (tC (.bl true)) (tCons (tC .non) (tCons (tC (.str "0")) (tCons (tOp rPow (tC (.int 10)) (tC (.int 20))) (tCons (tUn rNeg (tVar 6)) (tNil)))))))))))) (tOp rMod (tOp rFdv (tVar 2) (tC (.int 4))) (tC (.int 10)))) (gName 7))
    (tSeq (tAsg (tCall (sp__law_at c) [] E (tCons (tVar 0) (tCons (tVar 7) (tNil)))) (gName 8))
    (tSeq (tIfS (tAnd (tB (tCB (rIsiU c.K) (tCons (tVar 7) (tCons (tC (.ty "int")) (tNil))))) (tAnd (tNot (tB (tCB (rIsiU c.K) (tCons (tVar 7) (tCons (tC (.ty "bool")) (tNil)))))) (tTest (tChain (rLe) (rLt) (tC (.int 0)) (tVar 7) (tVar 6))))) (tRet (tAndV (tCall (sp__law_plain c) [] E (tCons (tVar 8) (tNil))) (tAndV (tOp (rEqu c.K) (tVar 8) (tOp (rIx c.K) (tVar 1) (tVar 7))) (tOp (rEqu c.K) (tMethF (fam_below c) "below" [] E (tVar 0) (tCons (tVar 8) (tNil))) (tVar 7))))) (tNext))
    (tRet (tOp (rEqu c.K) (tVar 8) (tLst (tCons (tC (.bl false)) (tCons (tC (.bl false)) (tCons (tC (.bl true)) (tCons (tC (.bl false)) (tCons (tC (.bl true)) (tNil)))))))))))))))
theorem pure__law_ranked {c : Cs} (G : GoodS c) (vs : List V) (H : Hp) (Q : VK) (E : XK) (h : sp__law_ranked c vs H Q E) : t__law_ranked c E { nx := fun _ H' => Q .non H', rt := Q } (start ["_law_numbers_here", "_law_all_of", "_law_cell", "_law_begin_here", "_law_spot_here", "_law_found", "_law_many", "_law_rank", "_law_told", "_law_one"] vs) H := by
  obtain ⟨a, d, N, p, n, w, rfl, hs, hp, hpc, hn, hw, hQ⟩ := h
  unfold t__law_ranked
  show tSeq _ _ _ [some (.ref a), some (.ref p), some (.int (n : Int)), some (.int ((256 * w : Nat) : Int)), none, none, none, none, none, none] H
  walk_at "go"
  obtain ⟨r8, hr8, hr82⟩ : ∃ r : Nat, (n : Int) / 8 = r ∧ r < 4611686018427387904 := ⟨n / 8, by omega, by omega⟩
  rw [hr8]
  refine ⟨r8, w, rfl, hr82, hw, fun s H1 hs1 s1 => ?_⟩
  have set1 := hs.same s1
  walk_at "go"
  refine set1.at (m := "below") (fam := fam_below c) ⟨rfl, rfl⟩ (by decide +kernel) ?_
  walk_at "go"
  refine below_of set1 hs1 fun H2 s2 => ?_
  have set2 := set1.same s2
  have hp2 := s2.seq (s1.seq hp)
  walk_at "go"
  refine ⟨_, rfl, .int _, ?_⟩
  walk_at "go"
  refine if_f rfl ?_
  walk_at "go"
  refine .inl ?_
  walk_at "go"
  refine ⟨p, rfl, ⟨_, hp2⟩, fun D nD => ?_⟩
  have hl0 : (bitsOf N).length ≤ 4000 := hpc
  refine lcI (K := c.K) (fun x => decide (x < s)) (fun x : Nat => (x : Int)) nD hp2 (by omega) (fun x H3 Rk Rs hx s3 hk hnn => ?_) (fun H3 s3 hD => ?_)
  · simp only [wipe, List.set_cons_zero, List.set_cons_succ]
    walk_at "go"
    refine ⟨(by first | exact rfl | exact trivial), ?_⟩
    walk_at "go"
    refine if_d (fun z1 => ?_) (fun z1 => ?_)
    · walk_at "go"
      exact hk (decide_eq_true (by omega)) H3 (Same.refl _)
    · exact hnn (decide_eq_false (by omega)) H3 (Same.refl _)
  walk_at "go"
  refine r_len_l (SqL.of hD) ?_
  have e1 : ((((bitsOf N).filter fun x => decide (x < s)).map fun x : Nat => (x : Int)).map V.int).length = popc (N % 2 ^ s) := by rw [List.length_map, List.length_map, rank_eq]
  rw [e1]
  walk_at "go"
  refine if_nd (fun z => absurd rfl z) (fun _ => ?_)
  have set3 := set2.same s3
  have hp3 := s3.seq hp2
  walk_at "go"
  refine r_len_l hp3 ?_
  rw [nzv_len]
  have e2 : ((bitsOf N).length : Int) = ((popc N : Nat) : Int) := rfl
  walk_at "go"
  refine ⟨sz5 (by simp), fun q nq => ?_⟩
  generalize eq : upd H3 q _ = H4
  obtain ⟨sH4, hq, dH4⟩ := new_of nq eq
  walk_at "go"
  obtain ⟨j, hj, hj2⟩ : ∃ j : Nat, (n : Int) / 4 % 10 = j ∧ j < 10 := ⟨n / 4 % 10, by omega, by omega⟩
  rw [hj]
  refine ix_all (SqL.of hq) hj2 rfl fun x hpl => ?_
  walk_at "go"
  have set4 := set3.same sH4
  have hp4 := sH4.seq hp3
  have s04 := ((s1.trans s2).trans s3).trans sH4
  refine ⟨a, d, N, x, rfl, set4, Pl.kn hpl, fun r H5 e hr s5 => ?_, fun z p5 H5 s5 np5 hp5 => ?_⟩
  · subst e
    walk_at "go"
    refine if_d (fun z1 => ?_) (fun z1 => absurd (by omega) z1)
    walk_at "go"
    refine if_d (fun z2 => ?_) (fun z2 => absurd (by rw [e2]; omega) z2)
    walk_at "go"
    refine ⟨_, rfl, .int _, ?_⟩
    refine ⟨_, rfl, if_t rfl ?_⟩
    walk_at "go"
    have hr' : r < (bitsOf N).length := hr
    have hx5 : atI ((nz (bitsOf N)).map V.int) ((r : Nat) : Int) = some (.int (((bitsOf N).getD r 0 : Nat) : Int)) := by
      refine atI_nat ?_
      unfold nz
      rw [List.getElem?_map, List.getElem?_map, List.getElem?_eq_getElem hr', List.getD_eq_getElem?_getD, List.getElem?_eq_getElem hr']; rfl
    refine r_ixL (s5.seq hp4) hx5 ?_
    walk_at "go"
    refine if_d (fun z3 => ?_) (fun z3 => absurd rfl z3)
    have set5 := set4.same s5
    walk_at "go"
    refine set5.at (m := "below") (fam := fam_below c) ⟨rfl, rfl⟩ (by decide +kernel) ?_
    walk_at "go"
    have hin : (bitsOf N).getD r 0 ∈ bitsOf N := by
      rw [List.getD_eq_getElem?_getD, List.getElem?_eq_getElem hr']
      exact List.getElem_mem hr'
    refine below_of set5 (hs.b _ (mem_bitsOf.mp hin)) fun H6 s6 => ?_
    walk_at "go"
    have e3 : popc (N % 2 ^ ((bitsOf N).getD r 0)) = r := by
      rw [rank_eq, List.getD_eq_getElem?_getD, List.getElem?_eq_getElem hr']
      exact below_nth (bitsOf_sorted N) hr'
    rw [e3, decide_eq_true rfl]
    exact hQ H6 ((s04.trans s5).trans s6)
  · have fin : ∀ H', Same H5 H' → Q (.bl true) H' := fun H' s' => hQ H' ((s04.trans s5).trans s')
    cases x with
    | int i =>
      walk_at "go"
      refine if_d (fun z1 => ?_) (fun z1 => ?_)
      · walk_at "go"
        refine if_d (fun z2 => ?_) (fun z2 => ?_)
        · obtain ⟨r, rfl⟩ := Int.eq_ofNat_of_zero_le z1
          exact absurd (by rw [e2] at z2; omega) (z r rfl)
        · walk_at "go"
          refine ⟨sz5 (by simp), fun q2 nq2 => ?_⟩
          generalize eq2 : upd H5 q2 _ = H6
          obtain ⟨sH6, hq2, dH6⟩ := new_of nq2 eq2
          exact told_eq (sH6 _ _ hp5) hq2 (fin H6 sH6)
      · walk_at "go"
        refine ⟨sz5 (by simp), fun q2 nq2 => ?_⟩
        generalize eq2 : upd H5 q2 _ = H6
        obtain ⟨sH6, hq2, dH6⟩ := new_of nq2 eq2
        exact told_eq (sH6 _ _ hp5) hq2 (fin H6 sH6)
    | bl b =>
      walk_at "go"
      refine ⟨sz5 (by simp), fun q2 nq2 => ?_⟩
      generalize eq2 : upd H5 q2 _ = H6
      obtain ⟨sH6, hq2, dH6⟩ := new_of nq2 eq2
      exact told_eq (sH6 _ _ hp5) hq2 (fin H6 sH6)
    | non =>
      walk_at "go"
      refine ⟨sz5 (by simp), fun q2 nq2 => ?_⟩
      generalize eq2 : upd H5 q2 _ = H6
      obtain ⟨sH6, hq2, dH6⟩ := new_of nq2 eq2
      exact told_eq (sH6 _ _ hp5) hq2 (fin H6 sH6)
    | str t =>
      walk_at "go"
      refine ⟨sz5 (by simp), fun q2 nq2 => ?_⟩
      generalize eq2 : upd H5 q2 _ = H6
      obtain ⟨sH6, hq2, dH6⟩ := new_of nq2 eq2
      exact told_eq (sH6 _ _ hp5) hq2 (fin H6 sH6)
    | _ => cases hpl
theorem len_law (c : Cs) : ∀ vs H Q E, sp_law c vs H Q E → vs.length = (["_law_script"] : List Str).length := by
  rintro vs H Q E ⟨a, ns, rfl, _⟩; rfl
/-- law -/
def t_law (c : Cs) (E : XK) : TS :=
  tSeq (tAsg (tCall (sp__law_begin c) [] E (tCons (tCall (sp__law_cell_at c) [] E (tCons (tVar 0) (tCons (tC (.int 0)) (tNil)))) (tNil))) (gName 1))
    (tSeq (tAsg (tCall (sp__law_built c) [] E (tCons (tVar 0) (tCons (tVar 1) (tNil)))) (gTup c.K 2 (gCons (gName 2) (gCons (gName 3) (gNil)))))
    (tSeq (tAsg (tSl (rSlU c.K) (tLst (tCons (tC (.int 0)) (tCons (tC (.int 16777215)) (tCons (tOp rMod (tCall (sp__law_cell_at c) [] E (tCons (tVar 0) (tCons (tC (.int 77)) (tNil)))) (tC (.int 16777216))) (tNil))))) (tNoPart) (tPart (tOp rMod (tCall (sp__law_cell_at c) [] E (tCons (tVar 0) (tCons (tC (.int 76)) (tNil)))) (tC (.int 4))))) (gName 4))
    (tSeq (tAsg (tLc (iSeq c.K (tVar 4)) (gName 5) (tNot (tTest (tChain (rLe) (rLt) (tVar 1) (tVar 5) (tOp rAdd (tVar 1) (tC (.int 3072)))))) (tVar 5) [5]) (gName 4))
    (tSeq (tFor (iSeq c.K (tVar 4)) (gName 5) (tDrop (tMethF (fam_put c) "put" [] E (tVar 2) (tCons (tVar 5) (tNil)))))
    (tSeq (tFor (iRng1 (tCons (tC (.int 2)) (tNil))) (gName 6) (tSeq (tAsg (tSortSet c.K (tOp rAdd (tCall (sp__law_numbers c) [] E (tCons (tVar 3) (tCons (tVar 1) (tNil)))) (tVar 4))) (gName 7))
    (tSeq (tFor (iRng2 (tCons (tC (.int 3)) (tCons (tOp rAdd (tC (.int 3)) (tOp rMod (tCall (sp__law_cell_at c) [] E (tCons (tVar 0) (tCons (tOp rAdd (tC (.int 70)) (tVar 6)) (tNil)))) (tC (.int 11)))) (tNil)))) (gName 8) (tIfS (tNot (tB (tCall (sp__law_ranked c) [] E (tCons (tVar 2) (tCons (tVar 7) (tCons (tCall (sp__law_cell_at c) [] E (tCons (tVar 0) (tCons (tOp rAdd (tVar 8) (tOp rMul (tC (.int 100)) (tVar 6))) (tNil)))) (tCons (tVar 1) (tNil)))))))) (tRet (tC (.bl false))) (tNext)))
    (tSeq (tAsg (tCall (sp__law_stretch c) [] E (tCons (tCall (sp__law_cell_at c) [] E (tCons (tVar 0) (tCons (tC (.int 72)) (tNil)))) (tNil))) (gTup c.K 2 (gCons (gName 9) (gCons (gName 10) (gNil)))))
    (tSeq (tDrop (tMethF (fam_turn c) "turn" [] E (tVar 2) (tCons (tOp rAdd (tVar 1) (tVar 9)) (tCons (tOp rAdd (tVar 1) (tVar 10)) (tNil)))))
    (tAug 3 (tCall (sp__law_bits c) [] E (tCons (tVar 9) (tCons (tVar 10) (tNil)))) pBxo))))))
    (tSeq (tFor (iSeq c.K (tVar 4)) (gName 5) (tDrop (tMethF (fam_drop c) "drop" [] E (tVar 2) (tCons (tVar 5) (tNil)))))
    (tRet (tOp (rEqu c.K) (tMethF (fam_sacks c) "sacks" [] E (tVar 2) tNil) (tCall (sp__law_forms c) [] E (tCons (tVar 3) (tCons (tVar 1) (tNil))))))))))))
theorem far_of {w : Nat} {l : List Nat} (h : ∀ x ∈ l, x < 16777216) : ∀ x ∈ l.filter (fun x => !(decide (256 * w ≤ x) && decide (x < 256 * w + 3072))), x < 16777216 ∧ Far w x := by
  intro x hx
  obtain ⟨h1, h2⟩ := List.mem_filter.mp hx
  refine ⟨h x h1, ?_⟩
  by_cases c : 256 * w ≤ x
  · refine .inr ?_
    rw [decide_eq_true c, Bool.true_and, Bool.not_eq_true', decide_eq_false_iff_not] at h2
    omega
  · exact .inl (by omega)
theorem pure_law {c : Cs} (G : GoodS c) (vs : List V) (H : Hp) (Q : VK) (E : XK) (h : sp_law c vs H Q E) : t_law c E { nx := fun _ H' => Q .non H', rt := Q } (start ["_law_script", "_law_begin_here", "_law_numbers_here", "_law_mask", "_law_far", "_law_one", "_law_turn", "_law_all_of", "_law_k", "_law_first", "_law_last"] vs) H := by
  obtain ⟨a, ns, rfl, ha, hl, hT, hQ⟩ := h
  unfold t_law
  show tSeq _ _ _ [some (.ref a), none, none, none, none, none, none, none, none, none, none] H
  walk_at "go"
  refine ⟨a, ns, 0, rfl, ha, by decide, by decide, ?_⟩
  walk_at "go"
  refine ⟨_, rfl, cellN_lt _ _, fun w H1 hw s1 => ?_⟩
  walk_at "go"
  refine ⟨a, ns, w, rfl, s1.seq ha, hT.ext s1, by omega, fun x d m p H2 hm nx nd e2 t2 set2 hp => ?_⟩
  walk_at "go"
  refine ⟨p, _, rfl, SqT.of hp, rfl, ?_⟩
  walk_at "go"
  have ha2 := seq_ext e2 (s1.seq ha)
  refine ⟨a, ns, 77, rfl, ha2, by decide, by decide, ?_⟩
  walk_at "go"
  obtain ⟨z, hz, hz2⟩ : ∃ n : Nat, (cellN ns 77 : Int) % 16777216 = n ∧ n < 16777216 := ⟨cellN ns 77 % 16777216, by omega, by omega⟩
  rw [hz]
  refine ⟨sz5 (by simp), fun p3 np3 => ?_⟩
  generalize ep3 : upd H2 p3 _ = H3
  obtain ⟨sH3, hp3, dH3⟩ := new_of np3 ep3
  walk_at "go"
  have ha3 := sH3.seq ha2
  refine ⟨a, ns, 76, rfl, ha3, by decide, by decide, ?_⟩
  walk_at "go"
  obtain ⟨k4, hk4, hk42⟩ : ∃ n : Nat, (cellN ns 76 : Int) % 4 = n ∧ n < 4 := ⟨cellN ns 76 % 4, by omega, by omega⟩
  rw [hk4]
  have e3 : [V.int 0, .int 16777215, .int (z : Int)] = (nz [0, 16777215, z]).map V.int := rfl
  rw [e3] at hp3
  refine .inl ⟨p3, _, rfl, SqL.of hp3, ?_⟩
  rw [cut_to]
  intro p4 np4
  generalize ep4 : upd H3 p4 _ = H4
  obtain ⟨sH4, hp4, dH4⟩ := new_of np4 ep4
  walk_at "go"
  refine .inl ?_
  walk_at "go"
  refine ⟨p4, rfl, ⟨_, SqL.of hp4⟩, fun D nD => ?_⟩
  have hl4 : ([0, 16777215, z].take k4).length ≤ 3 := by rw [List.length_take]; simp; omega
  have hL0 : ∀ x ∈ [0, 16777215, z].take k4, x < 16777216 := by
    intro y hy
    have hy := List.mem_of_mem_take hy
    simp only [List.mem_cons, List.not_mem_nil, or_false] at hy
    rcases hy with rfl | rfl | rfl
    · omega
    · omega
    · exact hz2
  refine lcI (K := c.K) (fun x => !(decide (256 * w ≤ x) && decide (x < 256 * w + 3072))) (fun x : Nat => (x : Int)) nD (SqL.of hp4) (by omega) (fun x H5 Rk Rs hx s5 hk hnn => ?_) (fun H5 s5 hD => ?_)
  · simp only [wipe, List.set_cons_zero, List.set_cons_succ]
    walk_at "go"
    refine ⟨(by first | exact rfl | exact trivial), ?_⟩
    walk_at "go"
    refine if_d (fun z1 => ?_) (fun z1 => ?_)
    · walk_at "go"
      refine if_nd (fun z2 => ?_) (fun z2 => ?_)
      · walk_at "go"
        exact hk (by rw [decide_eq_false (show ¬ x < 256 * w + 3072 by omega), Bool.and_false]; rfl) H5 (Same.refl _)
      · exact hnn (by rw [decide_eq_true (show 256 * w ≤ x by omega), decide_eq_true (show x < 256 * w + 3072 by omega)]; rfl) H5 (Same.refl _)
    · walk_at "go"
      exact hk (by rw [decide_eq_false (show ¬ 256 * w ≤ x by omega)]; rfl) H5 (Same.refl _)
  have hLf := far_of (w := w) hL0
  have hLl : (([0, 16777215, z].take k4).filter (fun x => !(decide (256 * w ≤ x) && decide (x < 256 * w + 3072)))).length ≤ 3 := Nat.le_trans (List.length_filter_le _ _) hl4
  have hD0 : H5 D = some (.lst ((nz (([0, 16777215, z].take k4).filter (fun x => !(decide (256 * w ≤ x) && decide (x < 256 * w + 3072))))).map V.int)) := hD
  clear hD
  generalize ([0, 16777215, z].take k4).filter (fun x => !(decide (256 * w ≤ x) && decide (x < 256 * w + 3072))) = L at hLf hLl hD0
  have s25 := (sH3.trans sH4).trans s5
  have set5 := set2.same s25
  have ha5 := s25.seq ha2
  have t5 := t2.ext s25
  walk_at "go"
  refine .inl ?_
  walk_at "go"
  refine ⟨D, rfl, ⟨_, SqL.of hD0⟩, for_list (K := c.K) (a := D) (xs := (nz L).map V.int) (fun i σ Hf => ∃ v, σ = [some (.ref a), some (.int ((256 * w : Nat) : Int)), some (.ref x), some (.int (m : Int)), some (.ref D), v, none, none, none, none, none] ∧ But d H5 Hf ∧ SetAt c Hf x d (m * 2 ^ (256 * w) ||| orV (((nz L).map V.int).take i)))
    ⟨none, rfl, But.refl _ _, ?_⟩ (fun i σ Hf _ ⟨_, _, b, _⟩ => b.seq set5.d (SqL.of hD0)) ?_ ?_⟩
  · rw [List.take_zero]
    have : orV [] = 0 := rfl
    rw [this, Nat.or_zero]
    exact set5
  · rintro i y σ Hf hi ⟨v, rfl, bf, setf⟩
    obtain ⟨q, hq, rfl⟩ := nz_get hi
    have hq2 := hLf q (List.mem_of_getElem? hq)
    walk_at "go"
    refine setf.at (m := "put") (fam := fam_put c) ⟨rfl, rfl⟩ (by decide +kernel) ?_
    walk_at "go"
    refine put_of setf hq2.1 fun H6 b6 set6 => ?_
    walk_at "go"
    refine ⟨_, rfl, bf.trans b6, ?_⟩
    rw [take_more hi, orV_snoc, lowN_nat, ← Nat.or_assoc]
    exact set6
  rintro σ Hf ⟨v, rfl, bf, setf⟩
  rw [List.take_length] at setf
  have hF : ∀ y, (orV ((nz L).map V.int)).testBit y = true → Far w y := fun y hy => by
    rw [orV_has, decide_eq_true_eq] at hy
    exact (hLf y hy).2
  walk_at "go"
  refine ⟨2, rfl, by decide, by decide, for_range (lo := 0) (n := 2) (fun i σ Hg => ∃ (m : Nat) (v5 v6 v7 v8 v9 v10 : Option V), σ = [some (.ref a), some (.int ((256 * w : Nat) : Int)), some (.ref x), some (.int (m : Int)), some (.ref D), v5, v6, v7, v8, v9, v10] ∧ m < 2 ^ 3072 ∧ SqL c.K Hg a (ns.map V.int) ∧ LamX.Tabs c.T Hg ∧ Hg D = some (.lst ((nz L).map V.int)) ∧ SetAt c Hg x d (m * 2 ^ (256 * w) ||| orV ((nz L).map V.int)))
    ⟨m, _, _, _, _, _, _, rfl, hm, bf.seq set5.d ha5, tabs_but t5 bf set5.d, bf.lst set5.d hD0, setf⟩ ?_ ?_⟩
  · clear hm setf
    rintro i σ Hg hi ⟨m, v5, v6, v7, v8, v9, v10, rfl, hm, hag, tg, hDg, setg⟩
    walk_at "go"
    refine ⟨m, w, rfl, hm, by omega, fun q1 H7 s7 nq1 hq1 => ?_⟩
    walk_at "go"
    have hD7 := s7 _ _ hDg
    have hlm := popc_win (w := w) hm
    unfold popc at hlm
    refine .inr (.inr ⟨q1, D, _, _, rfl, rfl, hq1, hD7, sz5 (by rw [nzv_len, nzv_len]; omega), ?_⟩)
    rw [nzv_app]
    intro q2 nq2
    generalize eq2 : upd H7 q2 _ = H8
    obtain ⟨sH8, hq2, dH8⟩ := new_of nq2 eq2
    refine ⟨q2, _, rfl, SqL.of hq2, by rw [nz_len, List.length_append]; omega, fun ys q3 y1 y2 nq3 => ?_⟩
    rw [all_of y1 y2]
    generalize eq9 : upd H8 q3 _ = H9
    obtain ⟨sH9, hq3, _⟩ := new_of nq3 eq9
    have s79 := (s7.trans sH8).trans sH9
    have set9 := setg.same s79
    have ha9 := s79.seq hag
    have t9 := tg.ext s79
    have hD9 := sH9 _ _ (sH8 _ _ hD7)
    walk_at "go"
    refine ⟨a, ns, _, rfl, ha9, by omega, by omega, ?_⟩
    walk_at "go"
    obtain ⟨n3, hn3, hn4⟩ : ∃ n : Nat, (cellN ns ((70 : Int) + ((0 : Int) + (i : Int))) : Int) % 11 = n ∧ n < 11 := ⟨cellN ns ((70 : Int) + ((0 : Int) + (i : Int))) % 11, by omega, by omega⟩
    rw [hn3]
    refine ⟨3, _, rfl, ⟨by omega, by omega, by omega, by omega⟩, for_range (lo := 3) (n := ((3 : Int) + (n3 : Int) - 3).toNat) (fun j σ Hh => ∃ (v8 : Option V), σ = [some (.ref a), some (.int ((256 * w : Nat) : Int)), some (.ref x), some (.int (m : Int)), some (.ref D), v5, some (.int ((0 : Int) + (i : Int))), some (.ref q3), v8, v9, v10] ∧ Same H9 Hh)
      ⟨_, rfl, Same.refl _⟩ ?_ ?_⟩
    · rintro j σ Hh hj ⟨v8, rfl, sh⟩
      walk_at "go"
      refine ⟨a, ns, _, rfl, sh.seq ha9, by omega, by omega, ?_⟩
      walk_at "go"
      refine ⟨x, d, _, q3, _, w, rfl, set9.same sh, SqL.of (sh _ _ hq3), popc_far hm (by omega), cellN_lt _ _, by omega, fun H10 s10 => ?_⟩
      walk_at "go"
      exact ⟨_, rfl, sh.trans s10⟩
    · rintro σ Hh ⟨v8, rfl, sh⟩
      have seth := set9.same sh
      walk_at "go"
      refine ⟨a, ns, 72, rfl, sh.seq ha9, by decide, by decide, ?_⟩
      walk_at "go"
      refine ⟨_, rfl, cellN_lt _ _, fun f l p5 H11 hfl hl3 s11 np5 hp5 => ?_⟩
      walk_at "go"
      refine ⟨p5, _, rfl, SqT.of hp5, rfl, ?_⟩
      walk_at "go"
      have set11 := seth.same s11
      refine set11.at (m := "turn") (fam := fam_turn c) ⟨rfl, rfl⟩ (by decide +kernel) ?_
      walk_at "go"
      have ef : ((256 * w : Nat) : Int) + (f : Int) = ((256 * w + f : Nat) : Int) := by omega
      have el : ((256 * w : Nat) : Int) + (l : Int) = ((256 * w + l : Nat) : Int) := by omega
      rw [ef, el]
      refine deed_of set11 ((t9.ext sh).ext s11) (lastV_int _ _) (.int _) (by omega) (by omega) (by omega) fun H12 b12 t12 set12 => ?_
      rw [far_turn hfl hl3 hF] at set12
      walk_at "go"
      refine ⟨f, l, rfl, by omega, by omega, ?_⟩
      walk_at "go"
      rw [xor_cast]
      exact ⟨_, _, _, _, _, _, _, rfl, op_lt (k := .turnA) hm (mask_lt hl3), b12.seq set11.d (s11.seq (sh.seq ha9)), t12, b12.lst set11.d (s11 _ _ (sh _ _ hD9)), set12⟩
  · rintro σ Hg ⟨m, v5, v6, v7, v8, v9, v10, rfl, hm, hag, tg, hDg, setg⟩
    walk_at "go"
    refine .inl ?_
    walk_at "go"
    refine ⟨D, rfl, ⟨_, SqL.of hDg⟩, for_list (K := c.K) (a := D) (xs := (nz L).map V.int) (fun i σ Hh => ∃ v5 G, σ = [some (.ref a), some (.int ((256 * w : Nat) : Int)), some (.ref x), some (.int (m : Int)), some (.ref D), v5, v6, v7, v8, v9, v10] ∧ But d Hg Hh ∧ SetAt c Hh x d (m * 2 ^ (256 * w) ||| G) ∧ ∀ y, G.testBit y = true → y ∈ L.drop i)
      ⟨_, _, rfl, But.refl _ _, setg, fun y hy => by rw [orV_has, decide_eq_true_eq] at hy; exact hy⟩ (fun i σ Hh _ ⟨_, _, _, b, _⟩ => b.seq setg.d (SqL.of hDg)) ?_ ?_⟩
    · rintro i y σ Hh hi ⟨v5, G, rfl, bh, seth, hG⟩
      obtain ⟨q, hq, rfl⟩ := nz_get hi
      have hq2 := hLf q (List.mem_of_getElem? hq)
      walk_at "go"
      refine seth.at (m := "drop") (fam := fam_drop c) ⟨rfl, rfl⟩ (by decide +kernel) ?_
      walk_at "go"
      refine drop_of seth hq2.1 fun H6 b6 set6 => ?_
      rw [far_drop hm hq2.2] at set6
      walk_at "go"
      refine ⟨_, _, rfl, bh.trans b6, set6, fun y hy => ?_⟩
      rw [andn_bit, Bool.and_eq_true, Nat.testBit_two_pow, Bool.not_eq_true', decide_eq_false_iff_not] at hy
      have h3 := hG y hy.1
      have e4 : L.drop i = q :: L.drop (i + 1) := by
        obtain ⟨h5, h6⟩ := List.getElem?_eq_some_iff.mp hq
        rw [← h6, List.getElem_cons_drop_succ_eq_drop h5]
      rw [e4] at h3
      rcases List.mem_cons.mp h3 with rfl | h3
      · exact absurd rfl hy.2
      · exact h3
    · rintro σ Hh ⟨v5, G, rfl, bh, seth, hG⟩
      have hG0 : G = 0 := by
        apply Nat.eq_of_testBit_eq
        intro y
        rw [Nat.zero_testBit]
        cases e : G.testBit y with
        | false => rfl
        | true =>
          have := hG y e
          rw [nzv_len, List.drop_length] at this
          cases this
      rw [hG0, Nat.or_zero] at seth
      walk_at "go"
      refine seth.at (m := "sacks") (fam := fam_sacks c) ⟨rfl, rfl⟩ (by decide +kernel) ?_
      walk_at "go"
      refine ⟨_, _, _, rfl, seth, fun p10 xs10 Ha sa na ha10 hf10 => ?_⟩
      walk_at "go"
      refine ⟨_, _, rfl, hm, by omega, fun p11 xs11 Hb sb nb hb11 hf11 => ?_⟩
      refine r_eqd (.lst (SqL.of (sb _ _ ha10)) (hf10.now.ext sb)) (.lst (SqL.of hb11) hf11.now) (Sm.sacks _).shaped (Sm.sacks _).shaped ?_
      rw [(Sm.sacks _).refl]
      exact hQ Hb
section
variable {P : Program} {w : World} {mg : Str → Option Value} {base : Heap} {c : Cs}
theorem sc_Sack___init__ : FnScope ["self", "bits"] ["self", "bits"] (defScope s_Sack___init__) := ⟨rfl, rfl, rfl, by decide +kernel, rfl, by decide +kernel, by decide +kernel⟩
theorem ok_Sack___init__ {f : Addr} {fd : FuncData} {dvs : List V} (G : GoodS c) (C : Addr) (F : FunD c.K "__init__" "Sack.__init__" (defArgs s_Sack___init__) (defBody s_Sack___init__) (defScope s_Sack___init__) dvs [] f fd) : FnOk P w c.K mg base (L2N.CX P w) 1 f fd ["self", "bits"] (sp_Sack___init__ c C) := by
  refine F.ok sc_Sack___init__ (len_Sack___init__ c C) fun cdv A outer s H vs Q E hr h => ⟨t_Sack___init__ c E, ?_, pure_Sack___init__ G.toGood C vs H Q E h⟩
  have sc := sc_Sack___init__
  exact pss_one (ps_fld (pv 0) (pv 1) rfl)
theorem sc_Sack_form : FnScope ["self"] ["self"] (defScope s_Sack_form) := ⟨rfl, rfl, rfl, by decide +kernel, rfl, by decide +kernel, by decide +kernel⟩
theorem ok_Sack_form {f : Addr} {fd : FuncData} {dvs : List V} (G : GoodS c) (F : FunD c.K "form" "Sack.form" (defArgs s_Sack_form) (defBody s_Sack_form) (defScope s_Sack_form) dvs [] f fd) (m_kind : ∀ C sp, fam_kind c C sp → Met P w c.K mg base 1 C "kind" sp []) (m_held : ∀ C sp, fam_held c C sp → Met P w c.K mg base 2 C "held" sp []) : FnOk P w c.K mg base (L2N.CX P w) 3 f fd ["self"] (sp_Sack_form c) := by
  refine F.ok sc_Sack_form (len_Sack_form c) fun cdv A outer s H vs Q E hr h => ⟨t_Sack_form c E, ?_, pure_Sack_form G.toGood vs H Q E h⟩
  have sc := sc_Sack_form
  exact pss_one (ps_ret (pe_tup (pa_cons (pe_m0 m_kind hr (by decide) passUp (pv 0)) (pa_cons (pe_m0 m_held hr (by decide) passUp (pv 0)) (pa_nil)))))
theorem sc_Sack_count : FnScope ["self"] ["self"] (defScope s_Sack_count) := ⟨rfl, rfl, rfl, by decide +kernel, rfl, by decide +kernel, by decide +kernel⟩
theorem ok_Sack_count {f : Addr} {fd : FuncData} {dvs : List V} (G : GoodS c) (F : FunD c.K "count" "Sack.count" (defArgs s_Sack_count) (defBody s_Sack_count) (defScope s_Sack_count) dvs [] f fd) (c_count_of : Cal P w c.K mg base 2 "count_of" (sp_count_of c) []) : FnOk P w c.K mg base (L2N.CX P w) 3 f fd ["self"] (sp_Sack_count c) := by
  refine F.ok sc_Sack_count (len_Sack_count c) fun cdv A outer s H vs Q E hr h => ⟨t_Sack_count c E, ?_, pure_Sack_count G.toGood vs H Q E h⟩
  have sc := sc_Sack_count
  exact pss_one (ps_ret (pe_c c_count_of hr (by decide) rfl passUp (pa_cons (pe_fld (pv 0) rfl) (pa_nil))))
theorem sc_Sack_lows : FnScope ["self"] ["self"] (defScope s_Sack_lows) := ⟨rfl, rfl, rfl, by decide +kernel, rfl, by decide +kernel, by decide +kernel⟩
theorem ok_Sack_lows {f : Addr} {fd : FuncData} {dvs : List V} (G : GoodS c) (F : FunD c.K "lows" "Sack.lows" (defArgs s_Sack_lows) (defBody s_Sack_lows) (defScope s_Sack_lows) dvs [] f fd) (c_lows_of : Cal P w c.K mg base 1 "lows_of" (sp_lows_of c) []) : FnOk P w c.K mg base (L2N.CX P w) 2 f fd ["self"] (sp_Sack_lows c) := by
  refine F.ok sc_Sack_lows (len_Sack_lows c) fun cdv A outer s H vs Q E hr h => ⟨t_Sack_lows c E, ?_, pure_Sack_lows G.toGood vs H Q E h⟩
  have sc := sc_Sack_lows
  exact pss_one (ps_ret (pe_c c_lows_of hr (by decide) rfl passUp (pa_cons (pe_fld (pv 0) rfl) (pa_nil))))
theorem sc_RowSack_kind : FnScope ["self"] ["self"] (defScope s_RowSack_kind) := ⟨rfl, rfl, rfl, by decide +kernel, rfl, by decide +kernel, by decide +kernel⟩
theorem ok_RowSack_kind {f : Addr} {fd : FuncData} {dvs : List V} (G : GoodS c) (F : FunD c.K "kind" "RowSack.kind" (defArgs s_RowSack_kind) (defBody s_RowSack_kind) (defScope s_RowSack_kind) dvs [] f fd) : FnOk P w c.K mg base (L2N.CX P w) 1 f fd ["self"] (sp_RowSack_kind c) := by
  refine F.ok sc_RowSack_kind (len_RowSack_kind c) fun cdv A outer s H vs Q E hr h => ⟨t_RowSack_kind c E, ?_, pure_RowSack_kind G.toGood vs H Q E h⟩
  have sc := sc_RowSack_kind
  exact pss_one (ps_ret (pe_str))
theorem sc_RowSack_held : FnScope ["self"] ["self"] (defScope s_RowSack_held) := ⟨rfl, rfl, rfl, by decide +kernel, rfl, by decide +kernel, by decide +kernel⟩
theorem ok_RowSack_held {f : Addr} {fd : FuncData} {dvs : List V} (G : GoodS c) (F : FunD c.K "held" "RowSack.held" (defArgs s_RowSack_held) (defBody s_RowSack_held) (defScope s_RowSack_held) dvs [] f fd) (c_lows_of : Cal P w c.K mg base 1 "lows_of" (sp_lows_of c) []) (f_tuple : mg "tuple" = none) : FnOk P w c.K mg base (L2N.CX P w) 2 f fd ["self"] (sp_RowSack_held c) := by
  refine F.ok sc_RowSack_held (len_RowSack_held c) fun cdv A outer s H vs Q E hr h => ⟨t_RowSack_held c E, ?_, pure_RowSack_held G.toGood vs H Q E h⟩
  have sc := sc_RowSack_held
  exact pss_one (ps_ret (pe_callTy u_tuple (by rfl) f_tuple (by decide +kernel) (pa_cons (pe_c c_lows_of hr (by decide) rfl passUp (pa_cons (pe_fld (pv 0) rfl) (pa_nil))) (pa_nil))))
theorem sc_RowSack_weight : FnScope ["self"] ["self"] (defScope s_RowSack_weight) := ⟨rfl, rfl, rfl, by decide +kernel, rfl, by decide +kernel, by decide +kernel⟩
theorem ok_RowSack_weight {f : Addr} {fd : FuncData} {dvs : List V} (G : GoodS c) (F : FunD c.K "weight" "RowSack.weight" (defArgs s_RowSack_weight) (defBody s_RowSack_weight) (defScope s_RowSack_weight) dvs [] f fd) (c_count_of : Cal P w c.K mg base 2 "count_of" (sp_count_of c) []) : FnOk P w c.K mg base (L2N.CX P w) 3 f fd ["self"] (sp_RowSack_weight c) := by
  refine F.ok sc_RowSack_weight (len_RowSack_weight c) fun cdv A outer s H vs Q E hr h => ⟨t_RowSack_weight c E, ?_, pure_RowSack_weight G.toGood vs H Q E h⟩
  have sc := sc_RowSack_weight
  exact pss_one (ps_ret (pe_c c_count_of hr (by decide) rfl passUp (pa_cons (pe_fld (pv 0) rfl) (pa_nil))))
theorem sc_RunsSack_kind : FnScope ["self"] ["self"] (defScope s_RunsSack_kind) := ⟨rfl, rfl, rfl, by decide +kernel, rfl, by decide +kernel, by decide +kernel⟩
theorem ok_RunsSack_kind {f : Addr} {fd : FuncData} {dvs : List V} (G : GoodS c) (F : FunD c.K "kind" "RunsSack.kind" (defArgs s_RunsSack_kind) (defBody s_RunsSack_kind) (defScope s_RunsSack_kind) dvs [] f fd) : FnOk P w c.K mg base (L2N.CX P w) 1 f fd ["self"] (sp_RunsSack_kind c) := by
  refine F.ok sc_RunsSack_kind (len_RunsSack_kind c) fun cdv A outer s H vs Q E hr h => ⟨t_RunsSack_kind c E, ?_, pure_RunsSack_kind G.toGood vs H Q E h⟩
  have sc := sc_RunsSack_kind
  exact pss_one (ps_ret (pe_str))
theorem sc_RunsSack_held : FnScope ["self"] ["self"] (defScope s_RunsSack_held) := ⟨rfl, rfl, rfl, by decide +kernel, rfl, by decide +kernel, by decide +kernel⟩
theorem ok_RunsSack_held {f : Addr} {fd : FuncData} {dvs : List V} (G : GoodS c) (F : FunD c.K "held" "RunsSack.held" (defArgs s_RunsSack_held) (defBody s_RunsSack_held) (defScope s_RunsSack_held) dvs [] f fd) (c_runs_of : Cal P w c.K mg base 1 "runs_of" (sp_runs_of c) []) (f_tuple : mg "tuple" = none) : FnOk P w c.K mg base (L2N.CX P w) 2 f fd ["self"] (sp_RunsSack_held c) := by
  refine F.ok sc_RunsSack_held (len_RunsSack_held c) fun cdv A outer s H vs Q E hr h => ⟨t_RunsSack_held c E, ?_, pure_RunsSack_held G.toGood vs H Q E h⟩
  have sc := sc_RunsSack_held
  exact pss_one (ps_ret (pe_callTy u_tuple (by rfl) f_tuple (by decide +kernel) (pa_cons (pe_c c_runs_of hr (by decide) rfl passUp (pa_cons (pe_fld (pv 0) rfl) (pa_nil))) (pa_nil))))
theorem sc_RunsSack_weight : FnScope ["self"] ["self"] (defScope s_RunsSack_weight) := ⟨rfl, rfl, rfl, by decide +kernel, rfl, by decide +kernel, by decide +kernel⟩
theorem ok_RunsSack_weight {f : Addr} {fd : FuncData} {dvs : List V} (G : GoodS c) (F : FunD c.K "weight" "RunsSack.weight" (defArgs s_RunsSack_weight) (defBody s_RunsSack_weight) (defScope s_RunsSack_weight) dvs [] f fd) (m_held : ∀ C sp, fam_held c C sp → Met P w c.K mg base 2 C "held" sp []) (f_len : mg "len" = none) : FnOk P w c.K mg base (L2N.CX P w) 3 f fd ["self"] (sp_RunsSack_weight c) := by
  refine F.ok sc_RunsSack_weight (len_RunsSack_weight c) fun cdv A outer s H vs Q E hr h => ⟨t_RunsSack_weight c E, ?_, pure_RunsSack_weight G.toGood vs H Q E h⟩
  have sc := sc_RunsSack_weight
  exact pss_one (ps_ret (pe_op u_mul (pe_int) (pe_callB u_len (by rfl) f_len PySem.boot_len (pa_cons (pe_m0 m_held hr (by decide) passUp (pv 0)) (pa_nil)))))
theorem sc_BitsSack_kind : FnScope ["self"] ["self"] (defScope s_BitsSack_kind) := ⟨rfl, rfl, rfl, by decide +kernel, rfl, by decide +kernel, by decide +kernel⟩
theorem ok_BitsSack_kind {f : Addr} {fd : FuncData} {dvs : List V} (G : GoodS c) (F : FunD c.K "kind" "BitsSack.kind" (defArgs s_BitsSack_kind) (defBody s_BitsSack_kind) (defScope s_BitsSack_kind) dvs [] f fd) : FnOk P w c.K mg base (L2N.CX P w) 1 f fd ["self"] (sp_BitsSack_kind c) := by
  refine F.ok sc_BitsSack_kind (len_BitsSack_kind c) fun cdv A outer s H vs Q E hr h => ⟨t_BitsSack_kind c E, ?_, pure_BitsSack_kind G.toGood vs H Q E h⟩
  have sc := sc_BitsSack_kind
  exact pss_one (ps_ret (pe_str))
theorem sc_BitsSack_held : FnScope ["self", "k"] ["self"] (defScope s_BitsSack_held) := ⟨rfl, rfl, rfl, by decide +kernel, rfl, by decide +kernel, by decide +kernel⟩
theorem ok_BitsSack_held {f : Addr} {fd : FuncData} {dvs : List V} (G : GoodS c) (F : FunD c.K "held" "BitsSack.held" (defArgs s_BitsSack_held) (defBody s_BitsSack_held) (defScope s_BitsSack_held) dvs [] f fd) (g_WORDS : ∃ t, mg "WORDS" = some (.int 4 t)) (f_range : mg "range" = none) (g_WORD : ∃ t, mg "WORD" = some (.int 64 t)) (g_FULL_WORD : ∃ t, mg "FULL_WORD" = some (.int 18446744073709551615 t)) (f_tuple : mg "tuple" = none) : FnOk P w c.K mg base (L2N.CX P w) 1 f fd ["self"] (sp_BitsSack_held c) := by
  refine F.ok sc_BitsSack_held (len_BitsSack_held c) fun cdv A outer s H vs Q E hr h => ⟨t_BitsSack_held c E, ?_, pure_BitsSack_held G.toGood vs H Q E h⟩
  have sc := sc_BitsSack_held
  exact pss_one (ps_ret (pe_callTy u_tuple (by rfl) f_tuple (by decide +kernel) (pa_cons (pe_lc (own := [("k", 1)]) (g := gName 1) (tt := tYes) rfl sc.nd (pi_range1 rfl f_range (pa_cons (C8.pe_gc (v := .int 4) rfl (gl_int g_WORDS)) (pa_nil))) (blkOk_by (own := [("k", 1)]) (N := ["self", "k"]) (sc := defScope s_BitsSack_held) (by decide +kernel)) (fun _ _ _ _ _ => pg_name (i := 1) sc.nd rfl (by first | exact Or.inl rfl | exact Or.inr rfl)) (fun _ _ _ _ _ => pts_nil) (fun _ _ _ _ _ => pe_op u_ban (pe_op u_shr (pe_fld (pv 0) rfl) (pe_op u_mul (C8.pe_gc (v := .int 64) rfl (gl_int g_WORD)) (pv 1))) (C8.pe_gc (v := .int 18446744073709551615) rfl (gl_int g_FULL_WORD)))) (pa_nil))))
theorem sc_BitsSack_weight : FnScope ["self"] ["self"] (defScope s_BitsSack_weight) := ⟨rfl, rfl, rfl, by decide +kernel, rfl, by decide +kernel, by decide +kernel⟩
theorem ok_BitsSack_weight {f : Addr} {fd : FuncData} {dvs : List V} (G : GoodS c) (F : FunD c.K "weight" "BitsSack.weight" (defArgs s_BitsSack_weight) (defBody s_BitsSack_weight) (defScope s_BitsSack_weight) dvs [] f fd) (g_BITS_WEIGHT : ∃ t, mg "BITS_WEIGHT" = some (.int 32 t)) : FnOk P w c.K mg base (L2N.CX P w) 1 f fd ["self"] (sp_BitsSack_weight c) := by
  refine F.ok sc_BitsSack_weight (len_BitsSack_weight c) fun cdv A outer s H vs Q E hr h => ⟨t_BitsSack_weight c E, ?_, pure_BitsSack_weight G.toGood vs H Q E h⟩
  have sc := sc_BitsSack_weight
  exact pss_one (ps_ret (C8.pe_gc (v := .int 32) rfl (gl_int g_BITS_WEIGHT)))
theorem sc_lows_of : FnScope ["bits", "found", "low"] ["bits"] (defScope s_lows_of) := ⟨rfl, rfl, rfl, by decide +kernel, rfl, by decide +kernel, by decide +kernel⟩
theorem ok_lows_of {f : Addr} {fd : FuncData} {dvs : List V} (G : GoodS c) (F : FunD c.K "lows_of" "lows_of" (defArgs s_lows_of) (defBody s_lows_of) (defScope s_lows_of) dvs [] f fd) : FnOk P w c.K mg base (L2N.CX P w) 1 f fd ["bits"] (sp_lows_of c) := by
  refine F.ok sc_lows_of (len_lows_of c) fun cdv A outer s H vs Q E hr h => ⟨t_lows_of c E, ?_, pure_lows_of G.toGood vs H Q E h⟩
  have sc := sc_lows_of
  exact pss_cons (ps_set (i := 1) sc.nd rfl (by first | exact Or.inl rfl | exact Or.inr rfl) (pe_lst (pa_nil)))
      (pss_cons (ps_while ownUp (pt_cmpR u_gt (pv 0) (pe_int) (nomark _)) (pss_cons (ps_set (i := 2) sc.nd rfl (by first | exact Or.inl rfl | exact Or.inr rfl) (pe_op u_ban (pv 0) (pe_un u_neg (pv 0))))
      (pss_cons (ps_expr (pe_bm PySem.F.plainAttrs_list PySem.F.slot_list_append PySem.F.type_list_append mt_append (pv 1) (pa_cons (pe_op u_sub (pe_bits (pv 2)) (pe_int)) (pa_nil))))
      (pss_one (ps_aug (i := 0) sc.nd rfl (by first | exact Or.inl rfl | exact Or.inr rfl) (pv 2) p_bxo)))))
      (pss_one (ps_ret (pv 1))))
theorem sc_runs_of : FnScope ["bits", "found", "place", "gap", "many"] ["bits"] (defScope s_runs_of) := ⟨rfl, rfl, rfl, by decide +kernel, rfl, by decide +kernel, by decide +kernel⟩
theorem ok_runs_of {f : Addr} {fd : FuncData} {dvs : List V} (G : GoodS c) (F : FunD c.K "runs_of" "runs_of" (defArgs s_runs_of) (defBody s_runs_of) (defScope s_runs_of) dvs [] f fd) : FnOk P w c.K mg base (L2N.CX P w) 1 f fd ["bits"] (sp_runs_of c) := by
  refine F.ok sc_runs_of (len_runs_of c) fun cdv A outer s H vs Q E hr h => ⟨t_runs_of c E, ?_, pure_runs_of G.toGood vs H Q E h⟩
  have sc := sc_runs_of
  exact pss_cons (ps_set (i := 1) sc.nd rfl (by first | exact Or.inl rfl | exact Or.inr rfl) (pe_lst (pa_nil)))
      (pss_cons (ps_set (i := 2) sc.nd rfl (by first | exact Or.inl rfl | exact Or.inr rfl) (pe_int))
      (pss_cons (ps_while ownUp (pt_cmpR u_gt (pv 0) (pe_int) (nomark _)) (pss_cons (ps_set (i := 3) sc.nd rfl (by first | exact Or.inl rfl | exact Or.inr rfl) (pe_op u_sub (pe_bits (pe_op u_ban (pv 0) (pe_un u_neg (pv 0)))) (pe_int)))
      (pss_cons (ps_aug (i := 0) sc.nd rfl (by first | exact Or.inl rfl | exact Or.inr rfl) (pv 3) p_shr)
      (pss_cons (ps_set (i := 4) sc.nd rfl (by first | exact Or.inl rfl | exact Or.inr rfl) (pe_op u_sub (pe_bits (pe_op u_ban (pe_op u_add (pv 0) (pe_int)) (pe_un u_inv (pv 0)))) (pe_int)))
      (pss_cons (ps_aug (i := 0) sc.nd rfl (by first | exact Or.inl rfl | exact Or.inr rfl) (pv 4) p_shr)
      (pss_cons (ps_expr (pe_bm PySem.F.plainAttrs_list PySem.F.slot_list_append PySem.F.type_list_append mt_append (pv 1) (pa_cons (pe_tup (pa_cons (pe_op u_add (pv 2) (pv 3)) (pa_cons (pe_op u_sub (pe_op u_add (pe_op u_add (pv 2) (pv 3)) (pv 4)) (pe_int)) (pa_nil)))) (pa_nil))))
      (pss_one (ps_aug (i := 2) sc.nd rfl (by first | exact Or.inl rfl | exact Or.inr rfl) (pe_op u_add (pv 3) (pv 4)) p_add))))))))
      (pss_one (ps_ret (pv 1)))))
theorem sc_count_of : FnScope ["bits", "first", "last"] ["bits"] (defScope s_count_of) := ⟨rfl, rfl, rfl, by decide +kernel, rfl, by decide +kernel, by decide +kernel⟩
theorem ok_count_of {f : Addr} {fd : FuncData} {dvs : List V} (G : GoodS c) (F : FunD c.K "count_of" "count_of" (defArgs s_count_of) (defBody s_count_of) (defScope s_count_of) dvs [] f fd) (c_runs_of : Cal P w c.K mg base 1 "runs_of" (sp_runs_of c) []) (f_sum : mg "sum" = none) : FnOk P w c.K mg base (L2N.CX P w) 2 f fd ["bits"] (sp_count_of c) := by
  refine F.ok sc_count_of (len_count_of c) fun cdv A outer s H vs Q E hr h => ⟨t_count_of c E, ?_, pure_count_of G.toGood vs H Q E h⟩
  have sc := sc_count_of
  exact pss_one (ps_ret (pe_callB (cr_sum rfl) (by rfl) f_sum (by decide +kernel) (pa_cons (pe_lc (own := [("first", 1), ("last", 2)]) (g := gTup c.K 2 (gCons (gName 1) (gCons (gName 2) (gNil)))) (tt := tYes) rfl sc.nd (pi_seq (pe_c c_runs_of hr (by decide) rfl passUp (pa_cons (pv 0) (pa_nil)))) (blkOk_by (own := [("first", 1), ("last", 2)]) (N := ["bits", "first", "last"]) (sc := defScope s_count_of) (by decide +kernel)) (fun _ _ _ _ _ => pg_tup rfl (pgs_cons (pg_name (i := 1) sc.nd rfl (by first | exact Or.inl rfl | exact Or.inr rfl)) (pgs_cons (pg_name (i := 2) sc.nd rfl (by first | exact Or.inl rfl | exact Or.inr rfl)) (pgs_nil)))) (fun _ _ _ _ _ => pts_nil) (fun _ _ _ _ _ => pe_op u_add (pe_op u_sub (pv 2) (pv 1)) (pe_int))) (pa_nil))))
theorem sc_least_sack : FnScope ["bits", "found", "other"] ["bits"] (defScope s_least_sack) := ⟨rfl, rfl, rfl, by decide +kernel, rfl, by decide +kernel, by decide +kernel⟩
theorem ok_least_sack {f : Addr} {fd : FuncData} {dvs : List V} (G : GoodS c) (F : FunD c.K "least_sack" "least_sack" (defArgs s_least_sack) (defBody s_least_sack) (defScope s_least_sack) dvs [] f fd) (k_RowSack : Mak P w c.K mg base 1 "RowSack" c.row (sp_Sack___init__ c c.row) []) (k_RunsSack : Mak P w c.K mg base 1 "RunsSack" c.runs (sp_Sack___init__ c c.runs) []) (k_BitsSack : Mak P w c.K mg base 1 "BitsSack" c.bits (sp_Sack___init__ c c.bits) []) (m_weight : ∀ C sp, fam_weight c C sp → Met P w c.K mg base 3 C "weight" sp []) : FnOk P w c.K mg base (L2N.CX P w) 4 f fd ["bits"] (sp_least_sack c) := by
  refine F.ok sc_least_sack (len_least_sack c) fun cdv A outer s H vs Q E hr h => ⟨t_least_sack c E, ?_, pure_least_sack G.toGood vs H Q E h⟩
  have sc := sc_least_sack
  exact pss_cons (ps_if (pt_cmpR (u_eq hr) (pv 0) (pe_int) (nomark _)) (pss_one (ps_ret (pe_non))) (pss_nil))
      (pss_cons (ps_set (i := 1) sc.nd rfl (by first | exact Or.inl rfl | exact Or.inr rfl) (pe_mk k_RowSack hr (by decide) rfl passUp (pa_cons (pv 0) (pa_nil))))
      (pss_cons (ps_for ownUp rfl (pi_seq (pe_tup (pa_cons (pe_mk k_RunsSack hr (by decide) rfl passUp (pa_cons (pv 0) (pa_nil))) (pa_cons (pe_mk k_BitsSack hr (by decide) rfl passUp (pa_cons (pv 0) (pa_nil))) (pa_nil))))) (pg_name (i := 2) sc.nd rfl (by first | exact Or.inl rfl | exact Or.inr rfl)) (pss_one (ps_if (pt_cmpR u_lt (pe_m0 m_weight hr (by decide) passUp (pv 2)) (pe_m0 m_weight hr (by decide) passUp (pv 1)) (nomark _)) (pss_one (ps_set (i := 1) sc.nd rfl (by first | exact Or.inl rfl | exact Or.inr rfl) (pv 2))) (pss_nil))))
      (pss_one (ps_ret (pv 1)))))
theorem sc_is_number : FnScope ["thing"] ["thing"] (defScope s_is_number) := ⟨rfl, rfl, rfl, by decide +kernel, rfl, by decide +kernel, by decide +kernel⟩
theorem ok_is_number {f : Addr} {fd : FuncData} {dvs : List V} (G : GoodS c) (F : FunD c.K "is_number" "is_number" (defArgs s_is_number) (defBody s_is_number) (defScope s_is_number) dvs [] f fd) (f_int : mg "int" = none) (f_isinstance : mg "isinstance" = none) (f_bool : mg "bool" = none) (g_GREATEST : ∃ t, mg "GREATEST" = some (.int 16777215 t)) : FnOk P w c.K mg base (L2N.CX P w) 1 f fd ["thing"] (sp_is_number c) := by
  refine F.ok sc_is_number (len_is_number c) fun cdv A outer s H vs Q E hr h => ⟨t_is_number c E, ?_, pure_is_number G.toGood vs H Q E h⟩
  have sc := sc_is_number
  exact pss_one (ps_ret (pe_and (pe_callB u_isi (by rfl) f_isinstance (by decide +kernel) (pa_cons (pv 0) (pa_cons (pe_bltn (v := .ty "int") (by rfl) f_int (by decide +kernel) rfl) (pa_nil)))) (pe_and (pe_not (pe_callB u_isi (by rfl) f_isinstance (by decide +kernel) (pa_cons (pv 0) (pa_cons (pe_bltn (v := .ty "bool") (by rfl) f_bool (by decide +kernel) rfl) (pa_nil))))) (pe_one (pe_chain u_le u_le (pe_int) (pv 0) (C8.pe_gc (v := .int 16777215) rfl (gl_int g_GREATEST)))))))
theorem sc_need_number : FnScope ["thing"] ["thing"] (defScope s_need_number) := ⟨rfl, rfl, rfl, by decide +kernel, rfl, by decide +kernel, by decide +kernel⟩
theorem ok_need_number {f : Addr} {fd : FuncData} {dvs : List V} (G : GoodS c) (F : FunD c.K "need_number" "need_number" (defArgs s_need_number) (defBody s_need_number) (defScope s_need_number) dvs [] f fd) (c_is_number : Cal P w c.K mg base 1 "is_number" (sp_is_number c) []) (x_NoNumber : ExcF c.K mg "NoNumber" c.eNoNumber) : FnOk P w c.K mg base (L2N.CX P w) 2 f fd ["thing"] (sp_need_number c) := by
  refine F.ok sc_need_number (len_need_number c) fun cdv A outer s H vs Q E hr h => ⟨t_need_number c E, ?_, pure_need_number G.toGood vs H Q E h⟩
  have sc := sc_need_number
  exact pss_one (ps_if (pt_not (pt_val (pe_c c_is_number hr (by decide) rfl passUp (pa_cons (pv 0) (pa_nil))))) (pss_one (L2N.ps_raise rfl (L2N.takes_of rfl rfl rfl rfl) (pmk_x x_NoNumber (by exact rfl)))) (pss_nil))
theorem sc_need_stretch : FnScope ["first", "last"] ["first", "last"] (defScope s_need_stretch) := ⟨rfl, rfl, rfl, by decide +kernel, rfl, by decide +kernel, by decide +kernel⟩
theorem ok_need_stretch {f : Addr} {fd : FuncData} {dvs : List V} (G : GoodS c) (F : FunD c.K "need_stretch" "need_stretch" (defArgs s_need_stretch) (defBody s_need_stretch) (defScope s_need_stretch) dvs [] f fd) (g_LONGEST : ∃ t, mg "LONGEST" = some (.int 99999 t)) (x_NoStretch : ExcF c.K mg "NoStretch" c.eNoStretch) : FnOk P w c.K mg base (L2N.CX P w) 1 f fd ["first", "last"] (sp_need_stretch c) := by
  refine F.ok sc_need_stretch (len_need_stretch c) fun cdv A outer s H vs Q E hr h => ⟨t_need_stretch c E, ?_, pure_need_stretch G.toGood vs H Q E h⟩
  have sc := sc_need_stretch
  exact pss_one (ps_if (PW.pt (pw_or (pt_cmpR u_lt (pv 1) (pv 0) (nomark _)) (pw_or1 (pt_cmpR u_gt (pe_op u_sub (pv 1) (pv 0)) (C8.pe_gc (v := .int 99999) rfl (gl_int g_LONGEST)) (nomark _))))) (pss_one (L2N.ps_raise rfl (L2N.takes_of rfl rfl rfl rfl) (pmk_x x_NoStretch (by exact rfl)))) (pss_nil))
theorem sc_stretch_bits : FnScope ["upper", "first", "last", "low", "high"] ["upper", "first", "last"] (defScope s_stretch_bits) := ⟨rfl, rfl, rfl, by decide +kernel, rfl, by decide +kernel, by decide +kernel⟩
theorem ok_stretch_bits {f : Addr} {fd : FuncData} {dvs : List V} (G : GoodS c) (F : FunD c.K "stretch_bits" "stretch_bits" (defArgs s_stretch_bits) (defBody s_stretch_bits) (defScope s_stretch_bits) dvs [] f fd) (g_SIZE : ∃ t, mg "SIZE" = some (.int 256 t)) (f_max : mg "max" = none) (f_min : mg "min" = none) : FnOk P w c.K mg base (L2N.CX P w) 1 f fd ["upper", "first", "last"] (sp_stretch_bits c) := by
  refine F.ok sc_stretch_bits (len_stretch_bits c) fun cdv A outer s H vs Q E hr h => ⟨t_stretch_bits c E, ?_, pure_stretch_bits G.toGood vs H Q E h⟩
  have sc := sc_stretch_bits
  exact pss_cons (ps_set (i := 3) sc.nd rfl (by first | exact Or.inl rfl | exact Or.inr rfl) (pe_callB u_max (by rfl) f_max (by decide +kernel) (pa_cons (pe_op u_sub (pv 1) (pe_op u_mul (C8.pe_gc (v := .int 256) rfl (gl_int g_SIZE)) (pv 0))) (pa_cons (pe_int) (pa_nil)))))
      (pss_cons (ps_set (i := 4) sc.nd rfl (by first | exact Or.inl rfl | exact Or.inr rfl) (pe_callB u_min (by rfl) f_min (by decide +kernel) (pa_cons (pe_op u_sub (pv 2) (pe_op u_mul (C8.pe_gc (v := .int 256) rfl (gl_int g_SIZE)) (pv 0))) (pa_cons (pe_op u_sub (C8.pe_gc (v := .int 256) rfl (gl_int g_SIZE)) (pe_int)) (pa_nil)))))
      (pss_one (ps_ret (pe_op u_sub (pe_op u_shl (pe_int) (pe_op u_add (pv 4) (pe_int))) (pe_op u_shl (pe_int) (pv 3))))))
theorem sc_NumberSet___init__ : FnScope ["self", "numbers", "number"] ["self", "numbers"] (defScope s_NumberSet___init__) := ⟨rfl, rfl, rfl, by decide +kernel, rfl, by decide +kernel, by decide +kernel⟩
theorem ok_NumberSet___init__ {f : Addr} {fd : FuncData} {dvs : List V} (G : GoodS c) (F : FunD c.K "__init__" "NumberSet.__init__" (defArgs s_NumberSet___init__) (defBody s_NumberSet___init__) (defScope s_NumberSet___init__) dvs [] f fd) (c_need_number : Cal P w c.K mg base 2 "need_number" (sp_need_number c) []) (m_put : ∀ C sp, fam_put c C sp → Met P w c.K mg base 6 C "put" sp []) : FnOk P w c.K mg base (L2N.CX P w) 7 f fd ["self", "numbers"] (sp_NumberSet___init__ c) := by
  refine F.ok sc_NumberSet___init__ (len_NumberSet___init__ c) fun cdv A outer s H vs Q E hr h => ⟨t_NumberSet___init__ c E, ?_, pure_NumberSet___init__ G vs H Q E h⟩
  have sc := sc_NumberSet___init__
  exact pss_cons (ps_fld (pv 0) (pe_dnewK) rfl)
      (pss_cons (ps_for ownUp rfl (pi_seq (pe_orT (pv 1) (pe_one (pe_tup (pa_nil))))) (pg_name (i := 2) sc.nd rfl (by first | exact Or.inl rfl | exact Or.inr rfl)) (pss_one (ps_expr (pe_c c_need_number hr (by decide) rfl passUp (pa_cons (pv 2) (pa_nil))))))
      (pss_one (ps_for ownUp rfl (pi_seq (pe_orT (pv 1) (pe_one (pe_tup (pa_nil))))) (pg_name (i := 2) sc.nd rfl (by first | exact Or.inl rfl | exact Or.inr rfl)) (pss_one (ps_expr (pe_m m_put hr (by decide) passUp (pv 0) (pa_cons (pv 2) (pa_nil))))))))
theorem sc_NumberSet_bits_at : FnScope ["self", "upper"] ["self", "upper"] (defScope s_NumberSet_bits_at) := ⟨rfl, rfl, rfl, by decide +kernel, rfl, by decide +kernel, by decide +kernel⟩
theorem ok_NumberSet_bits_at {f : Addr} {fd : FuncData} {dvs : List V} (G : GoodS c) (F : FunD c.K "bits_at" "NumberSet.bits_at" (defArgs s_NumberSet_bits_at) (defBody s_NumberSet_bits_at) (defScope s_NumberSet_bits_at) dvs [] f fd) : FnOk P w c.K mg base (L2N.CX P w) 1 f fd ["self", "upper"] (sp_NumberSet_bits_at c) := by
  refine F.ok sc_NumberSet_bits_at (len_NumberSet_bits_at c) fun cdv A outer s H vs Q E hr h => ⟨t_NumberSet_bits_at c E, ?_, pure_NumberSet_bits_at G vs H Q E h⟩
  have sc := sc_NumberSet_bits_at
  exact pss_cons (ps_if (pt_cmp (pc_din (hu_of hr) (pv 1) (pe_fld (pv 0) rfl))) (pss_one (ps_ret (pe_fld (pe_dget (hu_of hr) (pe_fld (pv 0) rfl) (pv 1) (fun _ _ => rfl)) rfl))) (pss_nil))
      (pss_one (ps_ret (pe_int)))
theorem sc_NumberSet_set_bits : FnScope ["self", "upper", "bits", "ahead", "sack"] ["self", "upper", "bits"] (defScope s_NumberSet_set_bits) := ⟨rfl, rfl, rfl, by decide +kernel, rfl, by decide +kernel, by decide +kernel⟩
theorem ok_NumberSet_set_bits {f : Addr} {fd : FuncData} {dvs : List V} (G : GoodS c) (F : FunD c.K "set_bits" "NumberSet.set_bits" (defArgs s_NumberSet_set_bits) (defBody s_NumberSet_set_bits) (defScope s_NumberSet_set_bits) dvs [] f fd) (m_bits_at : ∀ C sp, fam_bits_at c C sp → Met P w c.K mg base 1 C "bits_at" sp []) (c_least_sack : Cal P w c.K mg base 4 "least_sack" (sp_least_sack c) []) (c_count_of : Cal P w c.K mg base 2 "count_of" (sp_count_of c) []) : FnOk P w c.K mg base (L2N.CX P w) 5 f fd ["self", "upper", "bits"] (sp_NumberSet_set_bits c) := by
  refine F.ok sc_NumberSet_set_bits (len_NumberSet_set_bits c) fun cdv A outer s H vs Q E hr h => ⟨t_NumberSet_set_bits c E, ?_, pure_NumberSet_set_bits G vs H Q E h⟩
  have sc := sc_NumberSet_set_bits
  exact pss_cons (ps_set (i := 3) sc.nd rfl (by first | exact Or.inl rfl | exact Or.inr rfl) (pe_m m_bits_at hr (by decide) passUp (pv 0) (pa_cons (pv 1) (pa_nil))))
      (pss_cons (ps_set (i := 4) sc.nd rfl (by first | exact Or.inl rfl | exact Or.inr rfl) (pe_c c_least_sack hr (by decide) rfl passUp (pa_cons (pv 2) (pa_nil))))
      (pss_cons (ps_if (pt_cmpR u_is (pv 4) (pe_non) (nomark _)) (pss_one (ps_expr (pe_dpop2 (pe_fld (pv 0) rfl) (pv 1) (pe_non) ⟨by rfl, by rfl, by rfl, by rfl⟩))) (pss_one (ps_dput (hu_of hr) (pe_fld (pv 0) rfl) (pv 1) (pv 4) rfl)))
      (pss_one (ps_ret (pe_op u_sub (pe_c c_count_of hr (by decide) rfl passUp (pa_cons (pv 2) (pa_nil))) (pe_c c_count_of hr (by decide) rfl passUp (pa_cons (pv 3) (pa_nil))))))))
theorem sc_NumberSet_uppers : FnScope ["self"] ["self"] (defScope s_NumberSet_uppers) := ⟨rfl, rfl, rfl, by decide +kernel, rfl, by decide +kernel, by decide +kernel⟩
theorem ok_NumberSet_uppers {f : Addr} {fd : FuncData} {dvs : List V} (G : GoodS c) (F : FunD c.K "uppers" "NumberSet.uppers" (defArgs s_NumberSet_uppers) (defBody s_NumberSet_uppers) (defScope s_NumberSet_uppers) dvs [] f fd) (f_sorted : mg "sorted" = none) : FnOk P w c.K mg base (L2N.CX P w) 1 f fd ["self"] (sp_NumberSet_uppers c) := by
  refine F.ok sc_NumberSet_uppers (len_NumberSet_uppers c) fun cdv A outer s H vs Q E hr h => ⟨t_NumberSet_uppers c E, ?_, pure_NumberSet_uppers G vs H Q E h⟩
  have sc := sc_NumberSet_uppers
  exact pss_one (ps_ret (pe_callB u_sorted (by rfl) f_sorted (by decide +kernel) (pa_cons (pe_fld (pv 0) rfl) (pa_nil))))
theorem sc_NumberSet_put : FnScope ["self", "number", "upper", "low"] ["self", "number"] (defScope s_NumberSet_put) := ⟨rfl, rfl, rfl, by decide +kernel, rfl, by decide +kernel, by decide +kernel⟩
theorem ok_NumberSet_put {f : Addr} {fd : FuncData} {dvs : List V} (G : GoodS c) (F : FunD c.K "put" "NumberSet.put" (defArgs s_NumberSet_put) (defBody s_NumberSet_put) (defScope s_NumberSet_put) dvs [] f fd) (c_need_number : Cal P w c.K mg base 2 "need_number" (sp_need_number c) []) (g_SIZE : ∃ t, mg "SIZE" = some (.int 256 t)) (f_divmod : mg "divmod" = none) (m_set_bits : ∀ C sp, fam_set_bits c C sp → Met P w c.K mg base 5 C "set_bits" sp []) (m_bits_at : ∀ C sp, fam_bits_at c C sp → Met P w c.K mg base 1 C "bits_at" sp []) : FnOk P w c.K mg base (L2N.CX P w) 6 f fd ["self", "number"] (sp_NumberSet_put c) := by
  refine F.ok sc_NumberSet_put (len_NumberSet_put c) fun cdv A outer s H vs Q E hr h => ⟨t_NumberSet_put c E, ?_, pure_NumberSet_put G vs H Q E h⟩
  have sc := sc_NumberSet_put
  exact pss_cons (ps_expr (pe_c c_need_number hr (by decide) rfl passUp (pa_cons (pv 1) (pa_nil))))
      (pss_cons (ps_asg (pe_callB u_divmod (by rfl) f_divmod (by decide +kernel) (pa_cons (pv 1) (pa_cons (C8.pe_gc (v := .int 256) rfl (gl_int g_SIZE)) (pa_nil)))) (pg_tup rfl (pgs_cons (pg_name (i := 2) sc.nd rfl (by first | exact Or.inl rfl | exact Or.inr rfl)) (pgs_cons (pg_name (i := 3) sc.nd rfl (by first | exact Or.inl rfl | exact Or.inr rfl)) (pgs_nil)))))
      (pss_one (ps_ret (pe_cmpR (u_eq hr) (pe_m m_set_bits hr (by decide) passUp (pv 0) (pa_cons (pv 2) (pa_cons (pe_op u_bor (pe_m m_bits_at hr (by decide) passUp (pv 0) (pa_cons (pv 2) (pa_nil))) (pe_op u_shl (pe_int) (pv 3))) (pa_nil)))) (pe_int) (nomark _)))))
theorem sc_NumberSet_drop : FnScope ["self", "number", "upper", "low"] ["self", "number"] (defScope s_NumberSet_drop) := ⟨rfl, rfl, rfl, by decide +kernel, rfl, by decide +kernel, by decide +kernel⟩
theorem ok_NumberSet_drop {f : Addr} {fd : FuncData} {dvs : List V} (G : GoodS c) (F : FunD c.K "drop" "NumberSet.drop" (defArgs s_NumberSet_drop) (defBody s_NumberSet_drop) (defScope s_NumberSet_drop) dvs [] f fd) (c_need_number : Cal P w c.K mg base 2 "need_number" (sp_need_number c) []) (g_SIZE : ∃ t, mg "SIZE" = some (.int 256 t)) (f_divmod : mg "divmod" = none) (m_set_bits : ∀ C sp, fam_set_bits c C sp → Met P w c.K mg base 5 C "set_bits" sp []) (m_bits_at : ∀ C sp, fam_bits_at c C sp → Met P w c.K mg base 1 C "bits_at" sp []) : FnOk P w c.K mg base (L2N.CX P w) 6 f fd ["self", "number"] (sp_NumberSet_drop c) := by
  refine F.ok sc_NumberSet_drop (len_NumberSet_drop c) fun cdv A outer s H vs Q E hr h => ⟨t_NumberSet_drop c E, ?_, pure_NumberSet_drop G vs H Q E h⟩
  have sc := sc_NumberSet_drop
  exact pss_cons (ps_expr (pe_c c_need_number hr (by decide) rfl passUp (pa_cons (pv 1) (pa_nil))))
      (pss_cons (ps_asg (pe_callB u_divmod (by rfl) f_divmod (by decide +kernel) (pa_cons (pv 1) (pa_cons (C8.pe_gc (v := .int 256) rfl (gl_int g_SIZE)) (pa_nil)))) (pg_tup rfl (pgs_cons (pg_name (i := 2) sc.nd rfl (by first | exact Or.inl rfl | exact Or.inr rfl)) (pgs_cons (pg_name (i := 3) sc.nd rfl (by first | exact Or.inl rfl | exact Or.inr rfl)) (pgs_nil)))))
      (pss_one (ps_ret (pe_cmpR (u_eq hr) (pe_m m_set_bits hr (by decide) passUp (pv 0) (pa_cons (pv 2) (pa_cons (pe_op u_ban (pe_m m_bits_at hr (by decide) passUp (pv 0) (pa_cons (pv 2) (pa_nil))) (pe_un u_inv (pe_op u_shl (pe_int) (pv 3)))) (pa_nil)))) (pe_un u_neg (pe_int)) (nomark _)))))
theorem sc_NumberSet_by_stretch : FnScope ["self", "first", "last", "way", "more", "upper"] ["self", "first", "last", "way"] (defScope s_NumberSet_by_stretch) := ⟨rfl, rfl, rfl, by decide +kernel, rfl, by decide +kernel, by decide +kernel⟩
theorem ok_NumberSet_by_stretch {f : Addr} {fd : FuncData} {dvs : List V} (G : GoodS c) (F : FunD c.K "by_stretch" "NumberSet.by_stretch" (defArgs s_NumberSet_by_stretch) (defBody s_NumberSet_by_stretch) (defScope s_NumberSet_by_stretch) dvs [] f fd) (c_need_number : Cal P w c.K mg base 2 "need_number" (sp_need_number c) []) (c_need_stretch : Cal P w c.K mg base 1 "need_stretch" (sp_need_stretch c) []) (g_SIZE : ∃ t, mg "SIZE" = some (.int 256 t)) (f_range : mg "range" = none) (m_set_bits : ∀ C sp, fam_set_bits c C sp → Met P w c.K mg base 5 C "set_bits" sp []) (m_bits_at : ∀ C sp, fam_bits_at c C sp → Met P w c.K mg base 1 C "bits_at" sp []) (c_stretch_bits : Cal P w c.K mg base 1 "stretch_bits" (sp_stretch_bits c) []) (hW : ∀ k, WayOk (c.way k) k) : FnOk P w c.K mg base (L2N.CX P w) 6 f fd ["self", "first", "last", "way"] (sp_NumberSet_by_stretch c) := by
  refine F.ok sc_NumberSet_by_stretch (len_NumberSet_by_stretch c) fun cdv A outer s H vs Q E hr h => ⟨t_NumberSet_by_stretch c E, ?_, pure_NumberSet_by_stretch G vs H Q E h⟩
  have sc := sc_NumberSet_by_stretch
  exact pss_cons (ps_expr (pe_c c_need_number hr (by decide) rfl passUp (pa_cons (pv 1) (pa_nil))))
      (pss_cons (ps_if (pt_cmpR u_is (pv 2) (pe_non) (nomark _)) (pss_one (ps_set (i := 2) sc.nd rfl (by first | exact Or.inl rfl | exact Or.inr rfl) (pv 1))) (pss_nil))
      (pss_cons (ps_expr (pe_c c_need_number hr (by decide) rfl passUp (pa_cons (pv 2) (pa_nil))))
      (pss_cons (ps_expr (pe_c c_need_stretch hr (by decide) rfl passUp (pa_cons (pv 1) (pa_cons (pv 2) (pa_nil)))))
      (pss_cons (ps_set (i := 4) sc.nd rfl (by first | exact Or.inl rfl | exact Or.inr rfl) (pe_int))
      (pss_cons (ps_for ownUp rfl (pi_range2 rfl f_range (pa_cons (pe_op u_fdv (pv 1) (C8.pe_gc (v := .int 256) rfl (gl_int g_SIZE))) (pa_cons (pe_op u_add (pe_op u_fdv (pv 2) (C8.pe_gc (v := .int 256) rfl (gl_int g_SIZE))) (pe_int)) (pa_nil)))) (pg_name (i := 5) sc.nd rfl (by first | exact Or.inl rfl | exact Or.inr rfl)) (pss_one (ps_aug (i := 4) sc.nd rfl (by first | exact Or.inl rfl | exact Or.inr rfl) (pe_m m_set_bits hr (by decide) passUp (pv 0) (pa_cons (pv 5) (pa_cons (pe_way (i := 3) hW hr (by decide) passLN rfl (Or.inl rfl) (pa_cons (pe_m m_bits_at hr (by decide) passUp (pv 0) (pa_cons (pv 5) (pa_nil))) (pa_cons (pe_c c_stretch_bits hr (by decide) rfl passUp (pa_cons (pv 5) (pa_cons (pv 1) (pa_cons (pv 2) (pa_nil))))) (pa_nil)))) (pa_nil)))) p_add)))
      (pss_one (ps_ret (pv 4))))))))
theorem sc_NumberSet_turn : FnScope ["self", "first", "last"] ["self", "first", "last"] (defScope s_NumberSet_turn) := ⟨rfl, rfl, rfl, by decide +kernel, rfl, by decide +kernel, by decide +kernel⟩
theorem ok_NumberSet_turn {f : Addr} {fd : FuncData} {dvs : List V} (G : GoodS c) (F : FunD c.K "turn" "NumberSet.turn" (defArgs s_NumberSet_turn) (defBody s_NumberSet_turn) (defScope s_NumberSet_turn) dvs [] f fd) (m_by_stretch : ∀ C sp, fam_by_stretch c C sp → Met P w c.K mg base 6 C "by_stretch" sp []) (w_turnA : c.way .turnA = lamOf "NumberSet.turn.<locals>.<lambda>" s_NumberSet_turn) (hW : ∀ k, WayOk (c.way k) k) (cd_turnA : CodF mg base c.T fd (c.way .turnA)) : FnOk P w c.K mg base (L2N.CX P w) 7 f fd ["self", "first", "last"] (sp_NumberSet_turn c) := by
  refine F.okC cd_turnA sc_NumberSet_turn (len_NumberSet_turn c) fun cdv cc Pt cdc cdb cdm cdu A outer s H vs Q E hr h => ⟨t_NumberSet_turn c E, ?_, pure_NumberSet_turn G vs H Q E h⟩
  have sc := sc_NumberSet_turn
  exact pss_one (ps_ret (pe_m m_by_stretch hr (by decide) passUp (pv 0) (pa_cons (pv 1) (pa_cons (pv 2) (pa_cons (pe_lamW (k := .turnA) w_turnA hW cdc cdb (by kernel_rfl) cdm cdu) (pa_nil))))))
theorem sc_NumberSet_count : FnScope ["self", "sack"] ["self"] (defScope s_NumberSet_count) := ⟨rfl, rfl, rfl, by decide +kernel, rfl, by decide +kernel, by decide +kernel⟩
theorem ok_NumberSet_count {f : Addr} {fd : FuncData} {dvs : List V} (G : GoodS c) (F : FunD c.K "count" "NumberSet.count" (defArgs s_NumberSet_count) (defBody s_NumberSet_count) (defScope s_NumberSet_count) dvs [] f fd) (m_count : ∀ C sp, fam_count c C sp → Met P w c.K mg base 3 C "count" sp []) (f_sum : mg "sum" = none) : FnOk P w c.K mg base (L2N.CX P w) 4 f fd ["self"] (sp_NumberSet_count c) := by
  refine F.ok sc_NumberSet_count (len_NumberSet_count c) fun cdv A outer s H vs Q E hr h => ⟨t_NumberSet_count c E, ?_, pure_NumberSet_count G vs H Q E h⟩
  have sc := sc_NumberSet_count
  exact pss_one (ps_ret (pe_callB (cr_sum rfl) (by rfl) f_sum (by decide +kernel) (pa_cons (pe_lock (pe_lc (own := [("sack", 1)]) (g := gName 1) (tt := tYes) rfl sc.nd (pi_values (pe_fld (pv 0) rfl)) (blkOk_by (own := [("sack", 1)]) (N := ["self", "sack"]) (sc := defScope s_NumberSet_count) (by decide +kernel)) (fun _ _ _ _ _ => pg_name (i := 1) sc.nd rfl (by first | exact Or.inl rfl | exact Or.inr rfl)) (fun _ _ _ _ _ => pts_nil) (fun _ _ _ _ _ => pe_m0 m_count hr (by decide) passLN (pv 1)))) (pa_nil))))
theorem sc_NumberSet_sacks : FnScope ["self", "upper"] ["self"] (defScope s_NumberSet_sacks) := ⟨rfl, rfl, rfl, by decide +kernel, rfl, by decide +kernel, by decide +kernel⟩
theorem ok_NumberSet_sacks {f : Addr} {fd : FuncData} {dvs : List V} (G : GoodS c) (F : FunD c.K "sacks" "NumberSet.sacks" (defArgs s_NumberSet_sacks) (defBody s_NumberSet_sacks) (defScope s_NumberSet_sacks) dvs [] f fd) (m_uppers : ∀ C sp, fam_uppers c C sp → Met P w c.K mg base 1 C "uppers" sp []) (m_form : ∀ C sp, fam_form c C sp → Met P w c.K mg base 3 C "form" sp []) : FnOk P w c.K mg base (L2N.CX P w) 4 f fd ["self"] (sp_NumberSet_sacks c) := by
  refine F.ok sc_NumberSet_sacks (len_NumberSet_sacks c) fun cdv A outer s H vs Q E hr h => ⟨t_NumberSet_sacks c E, ?_, pure_NumberSet_sacks G vs H Q E h⟩
  have sc := sc_NumberSet_sacks
  exact pss_one (ps_ret (pe_lc (own := [("upper", 1)]) (g := gName 1) (tt := tYes) rfl sc.nd (pi_seq (pe_m0 m_uppers hr (by decide) passUp (pv 0))) (blkOk_by (own := [("upper", 1)]) (N := ["self", "upper"]) (sc := defScope s_NumberSet_sacks) (by decide +kernel)) (fun _ _ _ _ _ => pg_name (i := 1) sc.nd rfl (by first | exact Or.inl rfl | exact Or.inr rfl)) (fun _ _ _ _ _ => pts_nil) (fun _ _ _ _ _ => pe_tup (pa_cons (pv 1) (pa_cons (pe_m0 m_form hr (by decide) passLN (pe_dget (hu_of hr) (pe_fld (pv 0) rfl) (pv 1) (fun _ _ => rfl))) (pa_nil))))))
theorem sc_NumberSet_below : FnScope ["self", "number", "upper", "low", "found", "other", "sack"] ["self", "number"] (defScope s_NumberSet_below) := ⟨rfl, rfl, rfl, by decide +kernel, rfl, by decide +kernel, by decide +kernel⟩
theorem ok_NumberSet_below {f : Addr} {fd : FuncData} {dvs : List V} (G : GoodS c) (F : FunD c.K "below" "NumberSet.below" (defArgs s_NumberSet_below) (defBody s_NumberSet_below) (defScope s_NumberSet_below) dvs [] f fd) (c_need_number : Cal P w c.K mg base 2 "need_number" (sp_need_number c) []) (g_SIZE : ∃ t, mg "SIZE" = some (.int 256 t)) (f_divmod : mg "divmod" = none) (c_count_of : Cal P w c.K mg base 2 "count_of" (sp_count_of c) []) (m_bits_at : ∀ C sp, fam_bits_at c C sp → Met P w c.K mg base 1 C "bits_at" sp []) (m_count : ∀ C sp, fam_count c C sp → Met P w c.K mg base 3 C "count" sp []) : FnOk P w c.K mg base (L2N.CX P w) 4 f fd ["self", "number"] (sp_NumberSet_below c) := by
  refine F.ok sc_NumberSet_below (len_NumberSet_below c) fun cdv A outer s H vs Q E hr h => ⟨t_NumberSet_below c E, ?_, pure_NumberSet_below G vs H Q E h⟩
  have sc := sc_NumberSet_below
  exact pss_cons (ps_expr (pe_c c_need_number hr (by decide) rfl passUp (pa_cons (pv 1) (pa_nil))))
      (pss_cons (ps_asg (pe_callB u_divmod (by rfl) f_divmod (by decide +kernel) (pa_cons (pv 1) (pa_cons (C8.pe_gc (v := .int 256) rfl (gl_int g_SIZE)) (pa_nil)))) (pg_tup rfl (pgs_cons (pg_name (i := 2) sc.nd rfl (by first | exact Or.inl rfl | exact Or.inr rfl)) (pgs_cons (pg_name (i := 3) sc.nd rfl (by first | exact Or.inl rfl | exact Or.inr rfl)) (pgs_nil)))))
      (pss_cons (ps_set (i := 4) sc.nd rfl (by first | exact Or.inl rfl | exact Or.inr rfl) (pe_c c_count_of hr (by decide) rfl passUp (pa_cons (pe_op u_ban (pe_m m_bits_at hr (by decide) passUp (pv 0) (pa_cons (pv 2) (pa_nil))) (pe_op u_sub (pe_op u_shl (pe_int) (pv 3)) (pe_int))) (pa_nil))))
      (pss_cons (ps_lock (ps_for ownUp rfl (pi_items (pe_fld (pv 0) rfl)) (pg_tup rfl (pgs_cons (pg_name (i := 5) sc.nd rfl (by first | exact Or.inl rfl | exact Or.inr rfl)) (pgs_cons (pg_name (i := 6) sc.nd rfl (by first | exact Or.inl rfl | exact Or.inr rfl)) (pgs_nil)))) (pss_one (ps_if (pt_cmpR u_lt (pv 5) (pv 2) (nomark _)) (pss_one (ps_aug (i := 4) sc.nd rfl (by first | exact Or.inl rfl | exact Or.inr rfl) (pe_m0 m_count hr (by decide) passUp (pv 6)) p_add)) (pss_nil)))))
      (pss_one (ps_ret (pv 4))))))
theorem sc_NumberSet_at : FnScope ["self", "rank", "upper", "many"] ["self", "rank"] (defScope s_NumberSet_at) := ⟨rfl, rfl, rfl, by decide +kernel, rfl, by decide +kernel, by decide +kernel⟩
theorem ok_NumberSet_at {f : Addr} {fd : FuncData} {dvs : List V} (G : GoodS c) (F : FunD c.K "at" "NumberSet.at" (defArgs s_NumberSet_at) (defBody s_NumberSet_at) (defScope s_NumberSet_at) dvs [] f fd) (f_int : mg "int" = none) (f_isinstance : mg "isinstance" = none) (f_bool : mg "bool" = none) (m_countS : ∀ C sp, fam_countS c C sp → Met P w c.K mg base 4 C "count" sp []) (x_NoRank : ExcF c.K mg "NoRank" c.eNoRank) (m_uppers : ∀ C sp, fam_uppers c C sp → Met P w c.K mg base 1 C "uppers" sp []) (m_count : ∀ C sp, fam_count c C sp → Met P w c.K mg base 3 C "count" sp []) (g_SIZE : ∃ t, mg "SIZE" = some (.int 256 t)) (m_lows : ∀ C sp, fam_lows c C sp → Met P w c.K mg base 2 C "lows" sp []) : FnOk P w c.K mg base (L2N.CX P w) 5 f fd ["self", "rank"] (sp_NumberSet_at c) := by
  refine F.ok sc_NumberSet_at (len_NumberSet_at c) fun cdv A outer s H vs Q E hr h => ⟨t_NumberSet_at c E, ?_, pure_NumberSet_at G vs H Q E h⟩
  have sc := sc_NumberSet_at
  exact pss_cons (ps_if (PW.pt (pw_or (pt_not (pt_val (pe_callB u_isi (by rfl) f_isinstance (by decide +kernel) (pa_cons (pv 1) (pa_cons (pe_bltn (v := .ty "int") (by rfl) f_int (by decide +kernel) rfl) (pa_nil)))))) (pw_or (pt_val (pe_callB u_isi (by rfl) f_isinstance (by decide +kernel) (pa_cons (pv 1) (pa_cons (pe_bltn (v := .ty "bool") (by rfl) f_bool (by decide +kernel) rfl) (pa_nil))))) (pw_or1 (pt_not (pt_chain u_le u_lt (pe_int) (pv 1) (pe_m0 m_countS hr (by decide) passUp (pv 0)))))))) (pss_one (L2N.ps_raise rfl (L2N.takes_of rfl rfl rfl rfl) (pmk_x x_NoRank (by exact rfl)))) (pss_nil))
      (pss_cons (ps_for ownUp rfl (pi_seq (pe_m0 m_uppers hr (by decide) passUp (pv 0))) (pg_name (i := 2) sc.nd rfl (by first | exact Or.inl rfl | exact Or.inr rfl)) (pss_cons (ps_set (i := 3) sc.nd rfl (by first | exact Or.inl rfl | exact Or.inr rfl) (pe_m0 m_count hr (by decide) passUp (pe_dget (hu_of hr) (pe_fld (pv 0) rfl) (pv 2) (fun _ _ => rfl))))
      (pss_cons (ps_if (pt_cmpR u_lt (pv 1) (pv 3) (nomark _)) (pss_one (ps_ret (pe_op u_add (pe_op u_mul (C8.pe_gc (v := .int 256) rfl (gl_int g_SIZE)) (pv 2)) (pe_ix ix_seq (pe_m0 m_lows hr (by decide) passUp (pe_dget (hu_of hr) (pe_fld (pv 0) rfl) (pv 2) (fun _ _ => rfl))) (pv 1) (fun _ _ => rfl))))) (pss_nil))
      (pss_one (ps_aug (i := 1) sc.nd rfl (by first | exact Or.inl rfl | exact Or.inr rfl) (pv 3) p_sub)))))
      (pss_one (ps_ret (pe_non))))
theorem sc__law_cell_at : FnScope ["_law_script", "_law_k", "_law_cell", "_law_one", "_law_two"] ["_law_script", "_law_k"] (defScope s__law_cell_at) := ⟨rfl, rfl, rfl, by decide +kernel, rfl, by decide +kernel, by decide +kernel⟩
theorem ok__law_cell_at {f : Addr} {fd : FuncData} {dvs : List V} (G : GoodS c) (F : FunD c.K "_law_cell_at" "_law_cell_at" (defArgs s__law_cell_at) (defBody s__law_cell_at) (defScope s__law_cell_at) dvs [] f fd) (f_len : mg "len" = none) : FnOk P w c.K mg base (L2N.CX P w) 1 f fd ["_law_script", "_law_k"] (sp__law_cell_at c) := by
  refine F.ok sc__law_cell_at (len__law_cell_at c) fun cdv A outer s H vs Q E hr h => ⟨t__law_cell_at c E, ?_, pure__law_cell_at G.toGood vs H Q E h⟩
  have sc := sc__law_cell_at
  exact pss_cons (ps_set (i := 2) sc.nd rfl (by first | exact Or.inl rfl | exact Or.inr rfl) (pe_int))
      (pss_cons (ps_if (pt_cmpR u_gt (pe_callB u_len (by rfl) f_len PySem.boot_len (pa_cons (pv 0) (pa_nil))) (pe_int) (nomark _)) (pss_one (ps_set (i := 2) sc.nd rfl (by first | exact Or.inl rfl | exact Or.inr rfl) (pe_ix ix_seq (pv 0) (pe_op u_mod (pv 1) (pe_callB u_len (by rfl) f_len PySem.boot_len (pa_cons (pv 0) (pa_nil)))) (fun _ _ => rfl)))) (pss_nil))
      (pss_cons (ps_set (i := 3) sc.nd rfl (by first | exact Or.inl rfl | exact Or.inr rfl) (pe_op u_mod (pe_op u_add (pe_op u_add (pe_op u_add (pe_op u_mul (pv 2) (pe_int)) (pe_op u_mul (pe_op u_mul (pe_int) (pv 1)) (pv 1))) (pe_op u_mul (pe_int) (pv 1))) (pe_int)) (pe_int)))
      (pss_cons (ps_set (i := 4) sc.nd rfl (by first | exact Or.inl rfl | exact Or.inr rfl) (pe_op u_mod (pe_op u_mul (pe_op u_mod (pe_op u_mul (pv 3) (pv 3)) (pe_int)) (pe_int)) (pe_int)))
      (pss_one (ps_ret (pe_op u_add (pe_op u_mul (pe_op u_mod (pe_op u_mul (pv 4) (pv 4)) (pe_int)) (pe_int)) (pv 4)))))))
theorem sc__law_plain : FnScope ["_law_thing"] ["_law_thing"] (defScope s__law_plain) := ⟨rfl, rfl, rfl, by decide +kernel, rfl, by decide +kernel, by decide +kernel⟩
theorem ok__law_plain {f : Addr} {fd : FuncData} {dvs : List V} (G : GoodS c) (F : FunD c.K "_law_plain" "_law_plain" (defArgs s__law_plain) (defBody s__law_plain) (defScope s__law_plain) dvs [] f fd) (f_int : mg "int" = none) (f_isinstance : mg "isinstance" = none) (f_bool : mg "bool" = none) : FnOk P w c.K mg base (L2N.CX P w) 1 f fd ["_law_thing"] (sp__law_plain c) := by
  refine F.ok sc__law_plain (len__law_plain c) fun cdv A outer s H vs Q E hr h => ⟨t__law_plain c E, ?_, pure__law_plain G.toGood vs H Q E h⟩
  have sc := sc__law_plain
  exact pss_one (ps_ret (pe_and (pe_callB u_isi (by rfl) f_isinstance (by decide +kernel) (pa_cons (pv 0) (pa_cons (pe_bltn (v := .ty "int") (by rfl) f_int (by decide +kernel) rfl) (pa_nil)))) (pe_one (pe_not (pe_callB u_isi (by rfl) f_isinstance (by decide +kernel) (pa_cons (pv 0) (pa_cons (pe_bltn (v := .ty "bool") (by rfl) f_bool (by decide +kernel) rfl) (pa_nil))))))))
theorem sc__law_lows : FnScope ["_law_bits_here", "_law_found"] ["_law_bits_here"] (defScope s__law_lows) := ⟨rfl, rfl, rfl, by decide +kernel, rfl, by decide +kernel, by decide +kernel⟩
theorem ok__law_lows {f : Addr} {fd : FuncData} {dvs : List V} (G : GoodS c) (F : FunD c.K "_law_lows" "_law_lows" (defArgs s__law_lows) (defBody s__law_lows) (defScope s__law_lows) dvs [] f fd) : FnOk P w c.K mg base (L2N.CX P w) 1 f fd ["_law_bits_here"] (sp__law_lows c) := by
  refine F.ok sc__law_lows (len__law_lows c) fun cdv A outer s H vs Q E hr h => ⟨t__law_lows c E, ?_, pure__law_lows G.toGood vs H Q E h⟩
  have sc := sc__law_lows
  exact pss_cons (ps_set (i := 1) sc.nd rfl (by first | exact Or.inl rfl | exact Or.inr rfl) (pe_lst (pa_nil)))
      (pss_cons (ps_while ownUp (pt_cmpR u_gt (pv 0) (pe_int) (nomark _)) (pss_cons (ps_expr (pe_bm PySem.F.plainAttrs_list PySem.F.slot_list_append PySem.F.type_list_append mt_append (pv 1) (pa_cons (pe_op u_sub (pe_bits (pe_op u_ban (pv 0) (pe_un u_neg (pv 0)))) (pe_int)) (pa_nil))))
      (pss_one (ps_aug (i := 0) sc.nd rfl (by first | exact Or.inl rfl | exact Or.inr rfl) (pe_op u_sub (pv 0) (pe_int)) p_ban))))
      (pss_one (ps_ret (pv 1))))
theorem sc__law_runs : FnScope ["_law_lows_here", "_law_found", "_law_low"] ["_law_lows_here"] (defScope s__law_runs) := ⟨rfl, rfl, rfl, by decide +kernel, rfl, by decide +kernel, by decide +kernel⟩
theorem ok__law_runs {f : Addr} {fd : FuncData} {dvs : List V} (G : GoodS c) (F : FunD c.K "_law_runs" "_law_runs" (defArgs s__law_runs) (defBody s__law_runs) (defScope s__law_runs) dvs [] f fd) : FnOk P w c.K mg base (L2N.CX P w) 1 f fd ["_law_lows_here"] (sp__law_runs c) := by
  refine F.ok sc__law_runs (len__law_runs c) fun cdv A outer s H vs Q E hr h => ⟨t__law_runs c E, ?_, pure__law_runs G.toGood vs H Q E h⟩
  have sc := sc__law_runs
  exact pss_cons (ps_set (i := 1) sc.nd rfl (by first | exact Or.inl rfl | exact Or.inr rfl) (pe_lst (pa_nil)))
      (pss_cons (ps_for ownUp rfl (pi_seq (pv 0)) (pg_name (i := 2) sc.nd rfl (by first | exact Or.inl rfl | exact Or.inr rfl)) (pss_one (ps_if (PW.pt (pw_and (pt_cmpR (u_ne hr) (pv 1) (pe_lst (pa_nil)) (nomark _)) (pw_and1 (pt_cmpR (u_eq hr) (pe_op u_add (pe_ix ix_seq (pe_ix ix_seq (pv 1) (pe_un u_neg (pe_int)) (fun _ _ => rfl)) (pe_int) (fun _ _ => rfl)) (pe_int)) (pv 2) (nomark _))))) (pss_one (ps_asg (pe_tup (pa_cons (pe_ix ix_seq (pe_ix ix_seq (pv 1) (pe_un u_neg (pe_int)) (fun _ _ => rfl)) (pe_int) (fun _ _ => rfl)) (pa_cons (pv 2) (pa_nil)))) (pg_sub (pv 1) (pe_un u_neg (pe_int)) set_list))) (pss_one (ps_expr (pe_bm PySem.F.plainAttrs_list PySem.F.slot_list_append PySem.F.type_list_append mt_append (pv 1) (pa_cons (pe_tup (pa_cons (pv 2) (pa_cons (pv 2) (pa_nil)))) (pa_nil))))))))
      (pss_one (ps_ret (pv 1))))
theorem sc__law_form : FnScope ["_law_bits_here", "_law_lows_here", "_law_runs_here", "_law_k"] ["_law_bits_here"] (defScope s__law_form) := ⟨rfl, rfl, rfl, by decide +kernel, rfl, by decide +kernel, by decide +kernel⟩
theorem ok__law_form {f : Addr} {fd : FuncData} {dvs : List V} (G : GoodS c) (F : FunD c.K "_law_form" "_law_form" (defArgs s__law_form) (defBody s__law_form) (defScope s__law_form) dvs [] f fd) (c__law_lows : Cal P w c.K mg base 1 "_law_lows" (sp__law_lows c) []) (c__law_runs : Cal P w c.K mg base 1 "_law_runs" (sp__law_runs c) []) (f_len : mg "len" = none) (f_tuple : mg "tuple" = none) (f_range : mg "range" = none) : FnOk P w c.K mg base (L2N.CX P w) 2 f fd ["_law_bits_here"] (sp__law_form c) := by
  refine F.ok sc__law_form (len__law_form c) fun cdv A outer s H vs Q E hr h => ⟨t__law_form c E, ?_, pure__law_form G.toGood vs H Q E h⟩
  have sc := sc__law_form
  exact pss_cons (ps_set (i := 1) sc.nd rfl (by first | exact Or.inl rfl | exact Or.inr rfl) (pe_c c__law_lows hr (by decide) rfl passUp (pa_cons (pv 0) (pa_nil))))
      (pss_cons (ps_set (i := 2) sc.nd rfl (by first | exact Or.inl rfl | exact Or.inr rfl) (pe_c c__law_runs hr (by decide) rfl passUp (pa_cons (pv 1) (pa_nil))))
      (pss_cons (ps_if (PW.pt (pw_and (pt_cmpR u_le (pe_callB u_len (by rfl) f_len PySem.boot_len (pa_cons (pv 1) (pa_nil))) (pe_op u_mul (pe_int) (pe_callB u_len (by rfl) f_len PySem.boot_len (pa_cons (pv 2) (pa_nil)))) (nomark _)) (pw_and1 (pt_cmpR u_le (pe_callB u_len (by rfl) f_len PySem.boot_len (pa_cons (pv 1) (pa_nil))) (pe_int) (nomark _))))) (pss_one (ps_ret (pe_tup (pa_cons (pe_tup (pa_cons (pe_str) (pa_cons (pe_callTy u_tuple (by rfl) f_tuple (by decide +kernel) (pa_cons (pv 1) (pa_nil))) (pa_nil)))) (pa_cons (pe_callB u_len (by rfl) f_len PySem.boot_len (pa_cons (pv 1) (pa_nil))) (pa_nil)))))) (pss_nil))
      (pss_cons (ps_if (pt_cmpR u_le (pe_op u_mul (pe_int) (pe_callB u_len (by rfl) f_len PySem.boot_len (pa_cons (pv 2) (pa_nil)))) (pe_int) (nomark _)) (pss_one (ps_ret (pe_tup (pa_cons (pe_tup (pa_cons (pe_str) (pa_cons (pe_callTy u_tuple (by rfl) f_tuple (by decide +kernel) (pa_cons (pv 2) (pa_nil))) (pa_nil)))) (pa_cons (pe_op u_mul (pe_int) (pe_callB u_len (by rfl) f_len PySem.boot_len (pa_cons (pv 2) (pa_nil)))) (pa_nil)))))) (pss_nil))
      (pss_one (ps_ret (pe_tup (pa_cons (pe_tup (pa_cons (pe_str) (pa_cons (pe_callTy u_tuple (by rfl) f_tuple (by decide +kernel) (pa_cons (pe_lc (own := [("_law_k", 3)]) (g := gName 3) (tt := tYes) rfl sc.nd (pi_range1 rfl f_range (pa_cons (pe_int) (pa_nil))) (blkOk_by (own := [("_law_k", 3)]) (N := ["_law_bits_here", "_law_lows_here", "_law_runs_here", "_law_k"]) (sc := defScope s__law_form) (by decide +kernel)) (fun _ _ _ _ _ => pg_name (i := 3) sc.nd rfl (by first | exact Or.inl rfl | exact Or.inr rfl)) (fun _ _ _ _ _ => pts_nil) (fun _ _ _ _ _ => pe_op u_ban (pe_op u_shr (pv 0) (pe_op u_mul (pe_int) (pv 3))) (pe_int))) (pa_nil))) (pa_nil)))) (pa_cons (pe_int) (pa_nil)))))))))
theorem sc__law_pattern : FnScope ["_law_cell", "_law_way", "_law_rest", "_law_found", "_law_size", "_law_far", "_law_k", "_law_first"] ["_law_cell"] (defScope s__law_pattern) := ⟨rfl, rfl, rfl, by decide +kernel, rfl, by decide +kernel, by decide +kernel⟩
theorem ok__law_pattern {f : Addr} {fd : FuncData} {dvs : List V} (G : GoodS c) (F : FunD c.K "_law_pattern" "_law_pattern" (defArgs s__law_pattern) (defBody s__law_pattern) (defScope s__law_pattern) dvs [] f fd) (f_range : mg "range" = none) : FnOk P w c.K mg base (L2N.CX P w) 1 f fd ["_law_cell"] (sp__law_pattern c) := by
  refine F.ok sc__law_pattern (len__law_pattern c) fun cdv A outer s H vs Q E hr h => ⟨t__law_pattern c E, ?_, pure__law_pattern G.toGood vs H Q E h⟩
  have sc := sc__law_pattern
  exact pss_cons (ps_set (i := 1) sc.nd rfl (by first | exact Or.inl rfl | exact Or.inr rfl) (pe_op u_mod (pv 0) (pe_int)))
      (pss_cons (ps_set (i := 2) sc.nd rfl (by first | exact Or.inl rfl | exact Or.inr rfl) (pe_op u_fdv (pv 0) (pe_int)))
      (pss_cons (ps_set (i := 3) sc.nd rfl (by first | exact Or.inl rfl | exact Or.inr rfl) (pe_int))
      (pss_cons (ps_if (pt_cmpR (u_eq hr) (pv 1) (pe_int) (nomark _)) (pss_cons (ps_set (i := 4) sc.nd rfl (by first | exact Or.inl rfl | exact Or.inr rfl) (pe_op u_add (pe_int) (pe_op u_mod (pv 2) (pe_int))))
      (pss_cons (ps_set (i := 5) sc.nd rfl (by first | exact Or.inl rfl | exact Or.inr rfl) (pe_op u_add (pe_op u_add (pv 4) (pe_int)) (pe_op u_mod (pe_op u_fdv (pv 2) (pe_int)) (pe_int))))
      (pss_cons (ps_for ownUp rfl (pi_range1 rfl f_range (pa_cons (pe_op u_add (pe_int) (pe_op u_mod (pe_op u_fdv (pv 2) (pe_int)) (pe_int))) (pa_nil))) (pg_name (i := 6) sc.nd rfl (by first | exact Or.inl rfl | exact Or.inr rfl)) (pss_one (ps_if (pt_cmpR u_le (pe_op u_add (pe_op u_mul (pv 5) (pv 6)) (pv 4)) (pe_int) (nomark _)) (pss_one (ps_aug (i := 3) sc.nd rfl (by first | exact Or.inl rfl | exact Or.inr rfl) (pe_op u_shl (pe_op u_sub (pe_op u_shl (pe_int) (pv 4)) (pe_int)) (pe_op u_mul (pv 5) (pv 6))) p_bor)) (pss_nil))))
      (pss_one (ps_ret (pv 3)))))) (pss_nil))
      (pss_cons (ps_if (pt_cmpR (u_eq hr) (pv 1) (pe_int) (nomark _)) (pss_cons (ps_set (i := 5) sc.nd rfl (by first | exact Or.inl rfl | exact Or.inr rfl) (pe_op u_add (pe_int) (pe_op u_mod (pv 2) (pe_int))))
      (pss_cons (ps_for ownUp rfl (pi_range1 rfl f_range (pa_cons (pe_op u_add (pe_op u_fdv (pe_op u_mod (pe_op u_fdv (pv 2) (pe_int)) (pe_int)) (pv 5)) (pe_int)) (pa_nil))) (pg_name (i := 6) sc.nd rfl (by first | exact Or.inl rfl | exact Or.inr rfl)) (pss_one (ps_aug (i := 3) sc.nd rfl (by first | exact Or.inl rfl | exact Or.inr rfl) (pe_op u_shl (pe_int) (pe_op u_mul (pv 5) (pv 6))) p_bor)))
      (pss_one (ps_ret (pv 3))))) (pss_nil))
      (pss_cons (ps_if (pt_cmpR (u_eq hr) (pv 1) (pe_int) (nomark _)) (pss_one (ps_ret (pe_op u_mod (pe_op u_mul (pe_op u_mul (pe_op u_mul (pv 2) (pe_op u_add (pv 2) (pe_int))) (pe_op u_add (pv 2) (pe_int))) (pe_op u_add (pv 2) (pe_int))) (pe_op u_shl (pe_int) (pe_int))))) (pss_nil))
      (pss_cons (ps_if (pt_cmpR (u_eq hr) (pv 1) (pe_int) (nomark _)) (pss_cons (ps_set (i := 7) sc.nd rfl (by first | exact Or.inl rfl | exact Or.inr rfl) (pe_op u_mod (pv 2) (pe_int)))
      (pss_one (ps_ret (pe_op u_sub (pe_op u_shl (pe_int) (pe_op u_add (pe_op u_add (pe_int) (pv 7)) (pe_op u_mod (pe_op u_fdv (pv 2) (pe_int)) (pe_op u_sub (pe_int) (pv 7))))) (pe_op u_shl (pe_int) (pv 7)))))) (pss_nil))
      (pss_cons (ps_for ownUp rfl (pi_range1 rfl f_range (pa_cons (pe_op u_add (pe_int) (pe_op u_mod (pv 2) (pe_int))) (pa_nil))) (pg_name (i := 6) sc.nd rfl (by first | exact Or.inl rfl | exact Or.inr rfl)) (pss_one (ps_aug (i := 3) sc.nd rfl (by first | exact Or.inl rfl | exact Or.inr rfl) (pe_op u_shl (pe_int) (pe_op u_mod (pe_op u_mul (pe_op u_fdv (pv 2) (pe_op u_add (pe_int) (pv 6))) (pe_op u_add (pv 6) (pe_int))) (pe_int))) p_bor)))
      (pss_one (ps_ret (pe_ix ix_seq (pe_lst (pa_cons (pv 3) (pa_cons (pe_op u_sub (pe_op u_sub (pe_op u_shl (pe_int) (pe_int)) (pe_int)) (pv 3)) (pa_nil)))) (pe_op u_sub (pv 1) (pe_int)) (fun _ _ => rfl)))))))))))
theorem sc__law_begin : FnScope ["_law_cell"] ["_law_cell"] (defScope s__law_begin) := ⟨rfl, rfl, rfl, by decide +kernel, rfl, by decide +kernel, by decide +kernel⟩
theorem ok__law_begin {f : Addr} {fd : FuncData} {dvs : List V} (G : GoodS c) (F : FunD c.K "_law_begin" "_law_begin" (defArgs s__law_begin) (defBody s__law_begin) (defScope s__law_begin) dvs [] f fd) : FnOk P w c.K mg base (L2N.CX P w) 1 f fd ["_law_cell"] (sp__law_begin c) := by
  refine F.ok sc__law_begin (len__law_begin c) fun cdv A outer s H vs Q E hr h => ⟨t__law_begin c E, ?_, pure__law_begin G.toGood vs H Q E h⟩
  have sc := sc__law_begin
  exact pss_one (ps_ret (pe_op u_mul (pe_int) (pe_ix ix_seq (pe_lst (pa_cons (pe_int) (pa_cons (pe_int) (pa_cons (pe_op u_mod (pe_op u_fdv (pv 0) (pe_int)) (pe_int)) (pa_nil))))) (pe_op u_mod (pv 0) (pe_int)) (fun _ _ => rfl))))
theorem sc__law_stretch : FnScope ["_law_cell", "_law_first", "_law_size"] ["_law_cell"] (defScope s__law_stretch) := ⟨rfl, rfl, rfl, by decide +kernel, rfl, by decide +kernel, by decide +kernel⟩
theorem ok__law_stretch {f : Addr} {fd : FuncData} {dvs : List V} (G : GoodS c) (F : FunD c.K "_law_stretch" "_law_stretch" (defArgs s__law_stretch) (defBody s__law_stretch) (defScope s__law_stretch) dvs [] f fd) (f_min : mg "min" = none) : FnOk P w c.K mg base (L2N.CX P w) 1 f fd ["_law_cell"] (sp__law_stretch c) := by
  refine F.ok sc__law_stretch (len__law_stretch c) fun cdv A outer s H vs Q E hr h => ⟨t__law_stretch c E, ?_, pure__law_stretch G.toGood vs H Q E h⟩
  have sc := sc__law_stretch
  exact pss_cons (ps_set (i := 1) sc.nd rfl (by first | exact Or.inl rfl | exact Or.inr rfl) (pe_op u_mod (pe_op u_fdv (pv 0) (pe_int)) (pe_int)))
      (pss_cons (ps_set (i := 2) sc.nd rfl (by first | exact Or.inl rfl | exact Or.inr rfl) (pe_ix ix_seq (pe_lst (pa_cons (pe_int) (pa_cons (pe_op u_add (pe_int) (pe_op u_mod (pe_op u_fdv (pv 0) (pe_int)) (pe_int))) (pa_cons (pe_int) (pa_cons (pe_op u_add (pe_int) (pe_op u_mod (pe_op u_fdv (pv 0) (pe_int)) (pe_int))) (pa_nil)))))) (pe_op u_mod (pv 0) (pe_int)) (fun _ _ => rfl)))
      (pss_cons (ps_if (pt_cmpR (u_eq hr) (pe_op u_mod (pv 0) (pe_int)) (pe_int) (nomark _)) (pss_one (ps_set (i := 1) sc.nd rfl (by first | exact Or.inl rfl | exact Or.inr rfl) (pe_op u_add (pe_op u_mul (pe_op u_fdv (pv 1) (pe_int)) (pe_int)) (pe_ix ix_seq (pe_lst (pa_cons (pe_int) (pa_cons (pe_int) (pa_cons (pe_int) (pa_cons (pe_int) (pa_nil)))))) (pe_op u_mod (pe_op u_fdv (pv 0) (pe_int)) (pe_int)) (fun _ _ => rfl))))) (pss_nil))
      (pss_one (ps_ret (pe_tup (pa_cons (pv 1) (pa_cons (pe_callB u_min (by rfl) f_min (by decide +kernel) (pa_cons (pe_int) (pa_cons (pe_op u_sub (pe_op u_add (pv 1) (pv 2)) (pe_int)) (pa_nil)))) (pa_nil))))))))
theorem sc__law_bits : FnScope ["_law_first", "_law_last"] ["_law_first", "_law_last"] (defScope s__law_bits) := ⟨rfl, rfl, rfl, by decide +kernel, rfl, by decide +kernel, by decide +kernel⟩
theorem ok__law_bits {f : Addr} {fd : FuncData} {dvs : List V} (G : GoodS c) (F : FunD c.K "_law_bits" "_law_bits" (defArgs s__law_bits) (defBody s__law_bits) (defScope s__law_bits) dvs [] f fd) : FnOk P w c.K mg base (L2N.CX P w) 1 f fd ["_law_first", "_law_last"] (sp__law_bits c) := by
  refine F.ok sc__law_bits (len__law_bits c) fun cdv A outer s H vs Q E hr h => ⟨t__law_bits c E, ?_, pure__law_bits G.toGood vs H Q E h⟩
  have sc := sc__law_bits
  exact pss_one (ps_ret (pe_op u_sub (pe_op u_shl (pe_int) (pe_op u_add (pv 1) (pe_int))) (pe_op u_shl (pe_int) (pv 0))))
theorem sc__law_forms : FnScope ["_law_mask", "_law_begin_here", "_law_found", "_law_k", "_law_bits_here"] ["_law_mask", "_law_begin_here"] (defScope s__law_forms) := ⟨rfl, rfl, rfl, by decide +kernel, rfl, by decide +kernel, by decide +kernel⟩
theorem ok__law_forms {f : Addr} {fd : FuncData} {dvs : List V} (G : GoodS c) (F : FunD c.K "_law_forms" "_law_forms" (defArgs s__law_forms) (defBody s__law_forms) (defScope s__law_forms) dvs [] f fd) (f_range : mg "range" = none) (c__law_form : Cal P w c.K mg base 2 "_law_form" (sp__law_form c) []) : FnOk P w c.K mg base (L2N.CX P w) 3 f fd ["_law_mask", "_law_begin_here"] (sp__law_forms c) := by
  refine F.ok sc__law_forms (len__law_forms c) fun cdv A outer s H vs Q E hr h => ⟨t__law_forms c E, ?_, pure__law_forms G.toGood vs H Q E h⟩
  have sc := sc__law_forms
  exact pss_cons (ps_set (i := 2) sc.nd rfl (by first | exact Or.inl rfl | exact Or.inr rfl) (pe_lst (pa_nil)))
      (pss_cons (ps_for ownUp rfl (pi_range1 rfl f_range (pa_cons (pe_int) (pa_nil))) (pg_name (i := 3) sc.nd rfl (by first | exact Or.inl rfl | exact Or.inr rfl)) (pss_cons (ps_set (i := 4) sc.nd rfl (by first | exact Or.inl rfl | exact Or.inr rfl) (pe_op u_ban (pe_op u_shr (pv 0) (pe_op u_mul (pe_int) (pv 3))) (pe_op u_sub (pe_op u_shl (pe_int) (pe_int)) (pe_int))))
      (pss_one (ps_if (pt_cmpR (u_ne hr) (pv 4) (pe_int) (nomark _)) (pss_one (ps_expr (pe_bm PySem.F.plainAttrs_list PySem.F.slot_list_append PySem.F.type_list_append mt_append (pv 2) (pa_cons (pe_tup (pa_cons (pe_op u_add (pe_op u_fdv (pv 1) (pe_int)) (pv 3)) (pa_cons (pe_ix ix_seq (pe_c c__law_form hr (by decide) rfl passUp (pa_cons (pv 4) (pa_nil))) (pe_int) (fun _ _ => rfl)) (pa_nil)))) (pa_nil))))) (pss_nil)))))
      (pss_one (ps_ret (pv 2))))
theorem sc__law_numbers : FnScope ["_law_mask", "_law_begin_here", "_law_found", "_law_k", "_law_bits_here", "_law_low"] ["_law_mask", "_law_begin_here"] (defScope s__law_numbers) := ⟨rfl, rfl, rfl, by decide +kernel, rfl, by decide +kernel, by decide +kernel⟩
theorem ok__law_numbers {f : Addr} {fd : FuncData} {dvs : List V} (G : GoodS c) (F : FunD c.K "_law_numbers" "_law_numbers" (defArgs s__law_numbers) (defBody s__law_numbers) (defScope s__law_numbers) dvs [] f fd) (f_range : mg "range" = none) (c__law_lows : Cal P w c.K mg base 1 "_law_lows" (sp__law_lows c) []) : FnOk P w c.K mg base (L2N.CX P w) 2 f fd ["_law_mask", "_law_begin_here"] (sp__law_numbers c) := by
  refine F.ok sc__law_numbers (len__law_numbers c) fun cdv A outer s H vs Q E hr h => ⟨t__law_numbers c E, ?_, pure__law_numbers G.toGood vs H Q E h⟩
  have sc := sc__law_numbers
  exact pss_cons (ps_set (i := 2) sc.nd rfl (by first | exact Or.inl rfl | exact Or.inr rfl) (pe_lst (pa_nil)))
      (pss_cons (ps_for ownUp rfl (pi_range1 rfl f_range (pa_cons (pe_int) (pa_nil))) (pg_name (i := 3) sc.nd rfl (by first | exact Or.inl rfl | exact Or.inr rfl)) (pss_cons (ps_set (i := 4) sc.nd rfl (by first | exact Or.inl rfl | exact Or.inr rfl) (pe_op u_ban (pe_op u_shr (pv 0) (pe_op u_mul (pe_int) (pv 3))) (pe_op u_sub (pe_op u_shl (pe_int) (pe_int)) (pe_int))))
      (pss_one (ps_if (pt_cmpR (u_ne hr) (pv 4) (pe_int) (nomark _)) (pss_one (ps_aug (i := 2) sc.nd rfl (by first | exact Or.inl rfl | exact Or.inr rfl) (pe_lc (own := [("_law_low", 5)]) (g := gName 5) (tt := tYes) rfl sc.nd (pi_seq (pe_c c__law_lows hr (by decide) rfl passUp (pa_cons (pv 4) (pa_nil)))) (blkOk_by (own := [("_law_low", 5)]) (N := ["_law_mask", "_law_begin_here", "_law_found", "_law_k", "_law_bits_here", "_law_low"]) (sc := defScope s__law_numbers) (by decide +kernel)) (fun _ _ _ _ _ => pg_name (i := 5) sc.nd rfl (by first | exact Or.inl rfl | exact Or.inr rfl)) (fun _ _ _ _ _ => pts_nil) (fun _ _ _ _ _ => pe_op u_add (pe_op u_add (pv 1) (pe_op u_mul (pe_int) (pv 3))) (pv 5))) p_add)) (pss_nil)))))
      (pss_one (ps_ret (pv 2))))
theorem sc__law_filled : FnScope ["_law_numbers_here", "_law_begin_here", "_law_cell", "_law_at_here", "_law_bits_here", "_law_low"] ["_law_numbers_here", "_law_begin_here", "_law_cell"] (defScope s__law_filled) := ⟨rfl, rfl, rfl, by decide +kernel, rfl, by decide +kernel, by decide +kernel⟩
theorem ok__law_filled {f : Addr} {fd : FuncData} {dvs : List V} (G : GoodS c) (F : FunD c.K "_law_filled" "_law_filled" (defArgs s__law_filled) (defBody s__law_filled) (defScope s__law_filled) dvs [] f fd) (c__law_pattern : Cal P w c.K mg base 1 "_law_pattern" (sp__law_pattern c) []) (c__law_lows : Cal P w c.K mg base 1 "_law_lows" (sp__law_lows c) []) (m_put : ∀ C sp, fam_put c C sp → Met P w c.K mg base 6 C "put" sp []) : FnOk P w c.K mg base (L2N.CX P w) 7 f fd ["_law_numbers_here", "_law_begin_here", "_law_cell"] (sp__law_filled c) := by
  refine F.ok sc__law_filled (len__law_filled c) fun cdv A outer s H vs Q E hr h => ⟨t__law_filled c E, ?_, pure__law_filled G vs H Q E h⟩
  have sc := sc__law_filled
  exact pss_cons (ps_set (i := 3) sc.nd rfl (by first | exact Or.inl rfl | exact Or.inr rfl) (pe_op u_mod (pv 2) (pe_int)))
      (pss_cons (ps_set (i := 4) sc.nd rfl (by first | exact Or.inl rfl | exact Or.inr rfl) (pe_c c__law_pattern hr (by decide) rfl passUp (pa_cons (pe_op u_fdv (pv 2) (pe_int)) (pa_nil))))
      (pss_cons (ps_for ownUp rfl (pi_seq (pe_c c__law_lows hr (by decide) rfl passUp (pa_cons (pv 4) (pa_nil)))) (pg_name (i := 5) sc.nd rfl (by first | exact Or.inl rfl | exact Or.inr rfl)) (pss_one (ps_expr (pe_m m_put hr (by decide) passUp (pv 0) (pa_cons (pe_op u_add (pe_op u_add (pv 1) (pe_op u_mul (pe_int) (pv 3))) (pv 5)) (pa_nil))))))
      (pss_one (ps_ret (pe_op u_shl (pv 4) (pe_op u_mul (pe_int) (pv 3)))))))
theorem sc__law_built : FnScope ["_law_script", "_law_begin_here", "_law_numbers_here", "_law_mask", "_law_k", "_law_first", "_law_last"] ["_law_script", "_law_begin_here"] (defScope s__law_built) := ⟨rfl, rfl, rfl, by decide +kernel, rfl, by decide +kernel, by decide +kernel⟩
theorem ok__law_built {f : Addr} {fd : FuncData} {dvs : List V} (G : GoodS c) (F : FunD c.K "_law_built" "_law_built" (defArgs s__law_built) (defBody s__law_built) (defScope s__law_built) dvs [] f fd) (k_NumberSet0 : Mak P w c.K mg base 7 "NumberSet" c.set (sp_NumberSet___init__ c) [.non]) (c__law_cell_at : Cal P w c.K mg base 1 "_law_cell_at" (sp__law_cell_at c) []) (f_range : mg "range" = none) (c__law_filled : Cal P w c.K mg base 7 "_law_filled" (sp__law_filled c) []) (c__law_stretch : Cal P w c.K mg base 1 "_law_stretch" (sp__law_stretch c) []) (m_turn : ∀ C sp, fam_turn c C sp → Met P w c.K mg base 7 C "turn" sp []) (c__law_bits : Cal P w c.K mg base 1 "_law_bits" (sp__law_bits c) []) : FnOk P w c.K mg base (L2N.CX P w) 9 f fd ["_law_script", "_law_begin_here"] (sp__law_built c) := by
  refine F.ok sc__law_built (len__law_built c) fun cdv A outer s H vs Q E hr h => ⟨t__law_built c E, ?_, pure__law_built G vs H Q E h⟩
  have sc := sc__law_built
  exact pss_cons (ps_set (i := 2) sc.nd rfl (by first | exact Or.inl rfl | exact Or.inr rfl) (pe_mk0 k_NumberSet0 hr (by decide) rfl passUp))
      (pss_cons (ps_set (i := 3) sc.nd rfl (by first | exact Or.inl rfl | exact Or.inr rfl) (pe_int))
      (pss_cons (ps_for ownUp rfl (pi_range1 rfl f_range (pa_cons (pe_op u_mod (pe_c c__law_cell_at hr (by decide) rfl passUp (pa_cons (pv 0) (pa_cons (pe_int) (pa_nil)))) (pe_int)) (pa_nil))) (pg_name (i := 4) sc.nd rfl (by first | exact Or.inl rfl | exact Or.inr rfl)) (pss_one (ps_aug (i := 3) sc.nd rfl (by first | exact Or.inl rfl | exact Or.inr rfl) (pe_c c__law_filled hr (by decide) rfl passUp (pa_cons (pv 2) (pa_cons (pv 1) (pa_cons (pe_c c__law_cell_at hr (by decide) rfl passUp (pa_cons (pv 0) (pa_cons (pe_op u_add (pe_int) (pv 4)) (pa_nil)))) (pa_nil))))) p_bor)))
      (pss_cons (ps_for ownUp rfl (pi_range1 rfl f_range (pa_cons (pe_op u_mod (pe_c c__law_cell_at hr (by decide) rfl passUp (pa_cons (pv 0) (pa_cons (pe_int) (pa_nil)))) (pe_int)) (pa_nil))) (pg_name (i := 4) sc.nd rfl (by first | exact Or.inl rfl | exact Or.inr rfl)) (pss_cons (ps_asg (pe_c c__law_stretch hr (by decide) rfl passUp (pa_cons (pe_c c__law_cell_at hr (by decide) rfl passUp (pa_cons (pv 0) (pa_cons (pe_op u_add (pe_int) (pv 4)) (pa_nil)))) (pa_nil))) (pg_tup rfl (pgs_cons (pg_name (i := 5) sc.nd rfl (by first | exact Or.inl rfl | exact Or.inr rfl)) (pgs_cons (pg_name (i := 6) sc.nd rfl (by first | exact Or.inl rfl | exact Or.inr rfl)) (pgs_nil)))))
      (pss_cons (ps_expr (pe_m m_turn hr (by decide) passUp (pv 2) (pa_cons (pe_op u_add (pv 1) (pv 5)) (pa_cons (pe_op u_add (pv 1) (pv 6)) (pa_nil)))))
      (pss_one (ps_aug (i := 3) sc.nd rfl (by first | exact Or.inl rfl | exact Or.inr rfl) (pe_c c__law_bits hr (by decide) rfl passUp (pa_cons (pv 5) (pa_cons (pv 6) (pa_nil)))) p_bxo)))))
      (pss_one (ps_ret (pe_tup (pa_cons (pv 2) (pa_cons (pv 3) (pa_nil)))))))))
theorem sc__law_spot : FnScope ["_law_cell", "_law_begin_here"] ["_law_cell", "_law_begin_here"] (defScope s__law_spot) := ⟨rfl, rfl, rfl, by decide +kernel, rfl, by decide +kernel, by decide +kernel⟩
theorem ok__law_spot {f : Addr} {fd : FuncData} {dvs : List V} (G : GoodS c) (F : FunD c.K "_law_spot" "_law_spot" (defArgs s__law_spot) (defBody s__law_spot) (defScope s__law_spot) dvs [] f fd) : FnOk P w c.K mg base (L2N.CX P w) 1 f fd ["_law_cell", "_law_begin_here"] (sp__law_spot c) := by
  refine F.ok sc__law_spot (len__law_spot c) fun cdv A outer s H vs Q E hr h => ⟨t__law_spot c E, ?_, pure__law_spot G.toGood vs H Q E h⟩
  have sc := sc__law_spot
  exact pss_cons (ps_if (pt_cmpR (u_eq hr) (pe_op u_mod (pv 0) (pe_int)) (pe_int) (nomark _)) (pss_one (ps_ret (pe_op u_mod (pe_op u_fdv (pv 0) (pe_int)) (pe_int)))) (pss_nil))
      (pss_cons (ps_if (pt_cmpR (u_eq hr) (pe_op u_mod (pv 0) (pe_int)) (pe_int) (nomark _)) (pss_one (ps_ret (pe_op u_add (pe_op u_add (pv 1) (pe_op u_mul (pe_int) (pe_op u_mod (pe_op u_fdv (pv 0) (pe_int)) (pe_int)))) (pe_ix ix_seq (pe_lst (pa_cons (pe_int) (pa_cons (pe_int) (pa_cons (pe_int) (pa_cons (pe_int) (pa_nil)))))) (pe_op u_mod (pe_op u_fdv (pv 0) (pe_int)) (pe_int)) (fun _ _ => rfl))))) (pss_nil))
      (pss_one (ps_ret (pe_op u_add (pv 1) (pe_op u_mod (pe_op u_fdv (pv 0) (pe_int)) (pe_int))))))
theorem sc__law_marks : FnScope ["_law_e"] ["_law_e"] (defScope s__law_marks) := ⟨rfl, rfl, rfl, by decide +kernel, rfl, by decide +kernel, by decide +kernel⟩
theorem ok__law_marks {f : Addr} {fd : FuncData} {dvs : List V} (G : GoodS c) (GE : GoodE c) (F : FunD c.K "_law_marks" "_law_marks" (defArgs s__law_marks) (defBody s__law_marks) (defScope s__law_marks) dvs [] f fd) (g_NoNumber : mg "NoNumber" = some (.ref c.eNoNumber)) (f_isinstance : mg "isinstance" = none) (g_NoStretch : mg "NoStretch" = some (.ref c.eNoStretch)) (g_NoRank : mg "NoRank" = some (.ref c.eNoRank)) (g_NoText : mg "NoText" = some (.ref c.eNoText)) : FnP P w c.K mg base 1 f fd ["_law_e"] (sp__law_marks c) := by
  refine FnP.of F sc__law_marks (len__law_marks c) fun cdv A outer s H vs Q E p cls dd hot hr hz h => ⟨t__law_marks c cls dd p.1, ?_, pure__law_marks G.toGood GE cls dd p.1 vs H Q E h⟩
  have sc := sc__law_marks
  exact pss_one (ps_ret (pe_lst (pa_cons (pe_callB (u_isx (p := p) List.mem_cons_self hz) (by rfl) f_isinstance (by decide +kernel) (pa_cons (pv 0) (pa_cons (C8.pe_gc (v := .ref c.eNoNumber) rfl ⟨_, g_NoNumber, rfl⟩) (pa_nil)))) (pa_cons (pe_callB (u_isx (p := p) List.mem_cons_self hz) (by rfl) f_isinstance (by decide +kernel) (pa_cons (pv 0) (pa_cons (C8.pe_gc (v := .ref c.eNoStretch) rfl ⟨_, g_NoStretch, rfl⟩) (pa_nil)))) (pa_cons (pe_callB (u_isx (p := p) List.mem_cons_self hz) (by rfl) f_isinstance (by decide +kernel) (pa_cons (pv 0) (pa_cons (C8.pe_gc (v := .ref c.eNoRank) rfl ⟨_, g_NoRank, rfl⟩) (pa_nil)))) (pa_cons (pe_callB (u_isx (p := p) List.mem_cons_self hz) (by rfl) f_isinstance (by decide +kernel) (pa_cons (pv 0) (pa_cons (C8.pe_gc (v := .ref c.eNoText) rfl ⟨_, g_NoText, rfl⟩) (pa_nil)))) (pa_nil)))))))
theorem sc__law_at : FnScope ["_law_numbers_here", "_law_rank", "_law_told", "_law_e"] ["_law_numbers_here", "_law_rank"] (defScope s__law_at) := ⟨rfl, rfl, rfl, by decide +kernel, rfl, by decide +kernel, by decide +kernel⟩
theorem ok__law_at {f : Addr} {fd : FuncData} {dvs : List V} (G : GoodS c) (GE : GoodE c) (F : FunD c.K "_law_at" "_law_at" (defArgs s__law_at) (defBody s__law_at) (defScope s__law_at) dvs [] f fd) (g_SackError : mg "SackError" = some (.ref c.eSackError)) (m_at : ∀ C sp, fam_at c C sp → Met P w c.K mg base 5 C "at" sp []) (c__law_marks : CalP P w c.K mg base 1 "_law_marks" (sp__law_marks c)) (f_ValueError : mg "ValueError" = none) (f_isinstance : mg "isinstance" = none) : FnOk P w c.K mg base (L2N.CX P w) 6 f fd ["_law_numbers_here", "_law_rank"] (sp__law_at c) := by
  refine F.ok sc__law_at (len__law_at c) fun cdv A outer s H vs Q E hr h => ⟨t__law_at c E, ?_, pure__law_at G.toGood GE vs H Q E h⟩
  have sc := sc__law_at
  exact pss_cons (ps_set (i := 2) sc.nd rfl (by first | exact Or.inl rfl | exact Or.inr rfl) (pe_non))
      (pss_cons (ps_tryT (i := 3) rfl rfl sc.nd rfl rfl ⟨rfl, by decide, .inl g_SackError⟩ (L2N.takes_of rfl rfl rfl rfl) (tb := fun W => tAsg (tMethW (fam_at c) "at" [] W (tVar 0) (tCons (tVar 1) (tNil))) (gName 2)) (ts := fun a cls d => tAsg (tOp rAdd (tCallP (sp__law_marks c) cls d a (tCons (tVar 3) (tNil))) (tLst (tCons (tCB (rIsX c.K cls d a) (tCons (tVar 3) (tCons (tC (.ty "ValueError")) (tNil)))) (tNil)))) (gName 2)) (fun W pn xe tk po => pss_one (ps_set (i := 2) sc.nd rfl (by first | exact Or.inl rfl | exact Or.inr rfl) (pe_mW m_at hr (by decide) (wo_of tk) (pv 0) (pa_cons (pv 1) (pa_nil))))) (fun a oe cls d pn hz hf => pss_one (ps_set (i := 2) sc.nd rfl (by first | exact Or.inl rfl | exact Or.inr rfl) (pe_op u_add (pe_cP c__law_marks (L2H.roomH_mark hr _) (by decide) rfl (p := (a, oe)) List.mem_cons_self (hot_of hz hf) (told_of hz hf) (pa_cons (pv 3) (pa_nil))) (pe_lst (pa_cons (pe_callB (u_isx (p := (a, oe)) List.mem_cons_self (told_of hz hf)) (by rfl) f_isinstance (by decide +kernel) (pa_cons (pv 3) (pa_cons (pe_bltn (v := .ty "ValueError") (by rfl) f_ValueError (by decide +kernel) rfl) (pa_nil)))) (pa_nil)))))))
      (pss_one (ps_ret (pv 2))))
theorem sc__law_ranked : FnScope ["_law_numbers_here", "_law_all_of", "_law_cell", "_law_begin_here", "_law_spot_here", "_law_found", "_law_many", "_law_rank", "_law_told", "_law_one"] ["_law_numbers_here", "_law_all_of", "_law_cell", "_law_begin_here"] (defScope s__law_ranked) := ⟨rfl, rfl, rfl, by decide +kernel, rfl, by decide +kernel, by decide +kernel⟩
theorem ok__law_ranked {f : Addr} {fd : FuncData} {dvs : List V} (G : GoodS c) (F : FunD c.K "_law_ranked" "_law_ranked" (defArgs s__law_ranked) (defBody s__law_ranked) (defScope s__law_ranked) dvs [] f fd) (c__law_spot : Cal P w c.K mg base 1 "_law_spot" (sp__law_spot c) []) (m_below : ∀ C sp, fam_below c C sp → Met P w c.K mg base 4 C "below" sp []) (c__law_plain : Cal P w c.K mg base 1 "_law_plain" (sp__law_plain c) []) (f_len : mg "len" = none) (c__law_at : Cal P w c.K mg base 6 "_law_at" (sp__law_at c) []) (f_int : mg "int" = none) (f_isinstance : mg "isinstance" = none) (f_bool : mg "bool" = none) : FnOk P w c.K mg base (L2N.CX P w) 7 f fd ["_law_numbers_here", "_law_all_of", "_law_cell", "_law_begin_here"] (sp__law_ranked c) := by
  refine F.ok sc__law_ranked (len__law_ranked c) fun cdv A outer s H vs Q E hr h => ⟨t__law_ranked c E, ?_, pure__law_ranked G vs H Q E h⟩
  have sc := sc__law_ranked
  exact pss_cons (ps_set (i := 4) sc.nd rfl (by first | exact Or.inl rfl | exact Or.inr rfl) (pe_c c__law_spot hr (by decide) rfl passUp (pa_cons (pe_op u_fdv (pv 2) (pe_int)) (pa_cons (pv 3) (pa_nil)))))
      (pss_cons (ps_set (i := 5) sc.nd rfl (by first | exact Or.inl rfl | exact Or.inr rfl) (pe_m m_below hr (by decide) passUp (pv 0) (pa_cons (pv 4) (pa_nil))))
      (pss_cons (ps_if (PW.pt (pw_or (pt_not (pt_val (pe_c c__law_plain hr (by decide) rfl passUp (pa_cons (pv 5) (pa_nil))))) (pw_or1 (pt_cmpR (u_ne hr) (pv 5) (pe_callB u_len (by rfl) f_len PySem.boot_len (pa_cons (pe_lc (own := [("_law_one", 9)]) (g := gName 9) (tt := tTest (tOp (rLt) (tVar 9) (tVar 4))) rfl sc.nd (pi_seq (pv 1)) (blkOk_by (own := [("_law_one", 9)]) (N := ["_law_numbers_here", "_law_all_of", "_law_cell", "_law_begin_here", "_law_spot_here", "_law_found", "_law_many", "_law_rank", "_law_told", "_law_one"]) (sc := defScope s__law_ranked) (by decide +kernel)) (fun _ _ _ _ _ => pg_name (i := 9) sc.nd rfl (by first | exact Or.inl rfl | exact Or.inr rfl)) (fun _ _ _ _ _ => pts_one (pt_cmpR u_lt (pv 9) (pv 4) (nomark _))) (fun _ _ _ _ _ => pv 9)) (pa_nil))) (nomark _))))) (pss_one (ps_ret (pe_bl))) (pss_nil))
      (pss_cons (ps_set (i := 6) sc.nd rfl (by first | exact Or.inl rfl | exact Or.inr rfl) (pe_callB u_len (by rfl) f_len PySem.boot_len (pa_cons (pv 1) (pa_nil))))
      (pss_cons (ps_set (i := 7) sc.nd rfl (by first | exact Or.inl rfl | exact Or.inr rfl) (pe_ix ix_seq (pe_lst (pa_cons (pe_op u_mod (pe_op u_fdv (pv 2) (pe_int)) (pe_op u_add (pv 6) (pe_int))) (pa_cons (pe_int) (pa_cons (pe_op u_sub (pv 6) (pe_int)) (pa_cons (pv 6) (pa_cons (pe_un u_neg (pe_int)) (pa_cons (pe_bl) (pa_cons (pe_non) (pa_cons (pe_str) (pa_cons (pe_op u_pow (pe_int) (pe_int)) (pa_cons (pe_un u_neg (pv 6)) (pa_nil)))))))))))) (pe_op u_mod (pe_op u_fdv (pv 2) (pe_int)) (pe_int)) (fun _ _ => rfl)))
      (pss_cons (ps_set (i := 8) sc.nd rfl (by first | exact Or.inl rfl | exact Or.inr rfl) (pe_c c__law_at hr (by decide) rfl passUp (pa_cons (pv 0) (pa_cons (pv 7) (pa_nil)))))
      (pss_cons (ps_if (PW.pt (pw_and (pt_val (pe_callB u_isi (by rfl) f_isinstance (by decide +kernel) (pa_cons (pv 7) (pa_cons (pe_bltn (v := .ty "int") (by rfl) f_int (by decide +kernel) rfl) (pa_nil))))) (pw_and (pt_not (pt_val (pe_callB u_isi (by rfl) f_isinstance (by decide +kernel) (pa_cons (pv 7) (pa_cons (pe_bltn (v := .ty "bool") (by rfl) f_bool (by decide +kernel) rfl) (pa_nil)))))) (pw_and1 (pt_chain u_le u_lt (pe_int) (pv 7) (pv 6)))))) (pss_one (ps_ret (pe_and (pe_c c__law_plain hr (by decide) rfl passUp (pa_cons (pv 8) (pa_nil))) (pe_and (pe_cmpR (u_eq hr) (pv 8) (pe_ix ix_seq (pv 1) (pv 7) (fun _ _ => rfl)) (nomark _)) (pe_one (pe_cmpR (u_eq hr) (pe_m m_below hr (by decide) passUp (pv 0) (pa_cons (pv 8) (pa_nil))) (pv 7) (nomark _))))))) (pss_nil))
      (pss_one (ps_ret (pe_cmpR (u_eq hr) (pv 8) (pe_lst (pa_cons (pe_bl) (pa_cons (pe_bl) (pa_cons (pe_bl) (pa_cons (pe_bl) (pa_cons (pe_bl) (pa_nil))))))) (nomark _))))))))))
theorem sc_law : FnScope ["_law_script", "_law_begin_here", "_law_numbers_here", "_law_mask", "_law_far", "_law_one", "_law_turn", "_law_all_of", "_law_k", "_law_first", "_law_last"] ["_law_script"] (defScope s_law) := ⟨rfl, rfl, rfl, by decide +kernel, rfl, by decide +kernel, by decide +kernel⟩
theorem ok_law {f : Addr} {fd : FuncData} {dvs : List V} (G : GoodS c) (F : FunD c.K "law" "law" (defArgs s_law) (defBody s_law) (defScope s_law) dvs [] f fd) (c__law_begin : Cal P w c.K mg base 1 "_law_begin" (sp__law_begin c) []) (c__law_cell_at : Cal P w c.K mg base 1 "_law_cell_at" (sp__law_cell_at c) []) (c__law_built : Cal P w c.K mg base 9 "_law_built" (sp__law_built c) []) (m_put : ∀ C sp, fam_put c C sp → Met P w c.K mg base 6 C "put" sp []) (f_range : mg "range" = none) (c__law_numbers : Cal P w c.K mg base 2 "_law_numbers" (sp__law_numbers c) []) (f_sorted : mg "sorted" = none) (f_set : mg "set" = none) (c__law_ranked : Cal P w c.K mg base 7 "_law_ranked" (sp__law_ranked c) []) (c__law_stretch : Cal P w c.K mg base 1 "_law_stretch" (sp__law_stretch c) []) (m_turn : ∀ C sp, fam_turn c C sp → Met P w c.K mg base 7 C "turn" sp []) (c__law_bits : Cal P w c.K mg base 1 "_law_bits" (sp__law_bits c) []) (m_drop : ∀ C sp, fam_drop c C sp → Met P w c.K mg base 6 C "drop" sp []) (m_sacks : ∀ C sp, fam_sacks c C sp → Met P w c.K mg base 4 C "sacks" sp []) (c__law_forms : Cal P w c.K mg base 3 "_law_forms" (sp__law_forms c) []) : FnOk P w c.K mg base (L2N.CX P w) 10 f fd ["_law_script"] (sp_law c) := by
  refine F.ok sc_law (len_law c) fun cdv A outer s H vs Q E hr h => ⟨t_law c E, ?_, pure_law G vs H Q E h⟩
  have sc := sc_law
  exact pss_cons (ps_set (i := 1) sc.nd rfl (by first | exact Or.inl rfl | exact Or.inr rfl) (pe_c c__law_begin hr (by decide) rfl passUp (pa_cons (pe_c c__law_cell_at hr (by decide) rfl passUp (pa_cons (pv 0) (pa_cons (pe_int) (pa_nil)))) (pa_nil))))
      (pss_cons (ps_asg (pe_c c__law_built hr (by decide) rfl passUp (pa_cons (pv 0) (pa_cons (pv 1) (pa_nil)))) (pg_tup rfl (pgs_cons (pg_name (i := 2) sc.nd rfl (by first | exact Or.inl rfl | exact Or.inr rfl)) (pgs_cons (pg_name (i := 3) sc.nd rfl (by first | exact Or.inl rfl | exact Or.inr rfl)) (pgs_nil)))))
      (pss_cons (ps_set (i := 4) sc.nd rfl (by first | exact Or.inl rfl | exact Or.inr rfl) (pe_slice u_sl (pe_lst (pa_cons (pe_int) (pa_cons (pe_int) (pa_cons (pe_op u_mod (pe_c c__law_cell_at hr (by decide) rfl passUp (pa_cons (pv 0) (pa_cons (pe_int) (pa_nil)))) (pe_int)) (pa_nil))))) (po_none) (po_some (pe_op u_mod (pe_c c__law_cell_at hr (by decide) rfl passUp (pa_cons (pv 0) (pa_cons (pe_int) (pa_nil)))) (pe_int)))))
      (pss_cons (ps_setLc (i := 4) (own := [("_law_one", 5)]) (g := gName 5) (tt := tNot (tTest (tChain (rLe) (rLt) (tVar 1) (tVar 5) (tOp rAdd (tVar 1) (tC (.int 3072)))))) rfl sc.nd rfl rfl (sw_true rfl rfl rfl (by decide +kernel)) (pi_seq (pv 4)) (blkOk_by (own := [("_law_one", 5)]) (N := ["_law_script", "_law_begin_here", "_law_numbers_here", "_law_mask", "_law_far", "_law_one", "_law_turn", "_law_all_of", "_law_k", "_law_first", "_law_last"]) (sc := defScope s_law) (by decide +kernel)) (fun _ _ _ _ _ => pg_name (i := 5) sc.nd rfl (by first | exact Or.inl rfl | exact Or.inr rfl)) (fun _ _ _ _ _ => pts_one (pt_not (pt_chain u_le u_lt (pv 1) (pv 5) (pe_op u_add (pv 1) (pe_int))))) (fun _ _ _ _ _ => pv 5))
      (pss_cons (ps_for ownUp rfl (pi_seq (pv 4)) (pg_name (i := 5) sc.nd rfl (by first | exact Or.inl rfl | exact Or.inr rfl)) (pss_one (ps_expr (pe_m m_put hr (by decide) passUp (pv 2) (pa_cons (pv 5) (pa_nil))))))
      (pss_cons (ps_for ownUp rfl (pi_range1 rfl f_range (pa_cons (pe_int) (pa_nil))) (pg_name (i := 6) sc.nd rfl (by first | exact Or.inl rfl | exact Or.inr rfl)) (pss_cons (ps_set (i := 7) sc.nd rfl (by first | exact Or.inl rfl | exact Or.inr rfl) (pe_sortSet (by rfl) f_sorted (by rfl) f_set (pe_op u_add (pe_c c__law_numbers hr (by decide) rfl passUp (pa_cons (pv 3) (pa_cons (pv 1) (pa_nil)))) (pv 4))))
      (pss_cons (ps_for ownUp rfl (pi_range2 rfl f_range (pa_cons (pe_int) (pa_cons (pe_op u_add (pe_int) (pe_op u_mod (pe_c c__law_cell_at hr (by decide) rfl passUp (pa_cons (pv 0) (pa_cons (pe_op u_add (pe_int) (pv 6)) (pa_nil)))) (pe_int))) (pa_nil)))) (pg_name (i := 8) sc.nd rfl (by first | exact Or.inl rfl | exact Or.inr rfl)) (pss_one (ps_if (pt_not (pt_val (pe_c c__law_ranked hr (by decide) rfl passUp (pa_cons (pv 2) (pa_cons (pv 7) (pa_cons (pe_c c__law_cell_at hr (by decide) rfl passUp (pa_cons (pv 0) (pa_cons (pe_op u_add (pv 8) (pe_op u_mul (pe_int) (pv 6))) (pa_nil)))) (pa_cons (pv 1) (pa_nil)))))))) (pss_one (ps_ret (pe_bl))) (pss_nil))))
      (pss_cons (ps_asg (pe_c c__law_stretch hr (by decide) rfl passUp (pa_cons (pe_c c__law_cell_at hr (by decide) rfl passUp (pa_cons (pv 0) (pa_cons (pe_int) (pa_nil)))) (pa_nil))) (pg_tup rfl (pgs_cons (pg_name (i := 9) sc.nd rfl (by first | exact Or.inl rfl | exact Or.inr rfl)) (pgs_cons (pg_name (i := 10) sc.nd rfl (by first | exact Or.inl rfl | exact Or.inr rfl)) (pgs_nil)))))
      (pss_cons (ps_expr (pe_m m_turn hr (by decide) passUp (pv 2) (pa_cons (pe_op u_add (pv 1) (pv 9)) (pa_cons (pe_op u_add (pv 1) (pv 10)) (pa_nil)))))
      (pss_one (ps_aug (i := 3) sc.nd rfl (by first | exact Or.inl rfl | exact Or.inr rfl) (pe_c c__law_bits hr (by decide) rfl passUp (pa_cons (pv 9) (pa_cons (pv 10) (pa_nil)))) p_bxo)))))))
      (pss_cons (ps_for ownUp rfl (pi_seq (pv 4)) (pg_name (i := 5) sc.nd rfl (by first | exact Or.inl rfl | exact Or.inr rfl)) (pss_one (ps_expr (pe_m m_drop hr (by decide) passUp (pv 2) (pa_cons (pv 5) (pa_nil))))))
      (pss_one (ps_ret (pe_cmpR (u_eq hr) (pe_m0 m_sacks hr (by decide) passUp (pv 2)) (pe_c c__law_forms hr (by decide) rfl passUp (pa_cons (pv 3) (pa_cons (pv 1) (pa_nil)))) (nomark _))))))))))
end
abbrev p0 : Pos := ⟨0, 0, 0, 0⟩
abbrev lam_turnA : LamD := lamOf "NumberSet.turn.<locals>.<lambda>" s_NumberSet_turn
def wayL : Wy → LamD
  | .putA => ⟨lam_turnA.q, lam_turnA.params, .BinOp (.Name "bits" p0) .BitOr (.Name "some" p0) p0, lam_turnA.scope⟩
  | .dropA => ⟨lam_turnA.q, lam_turnA.params, .BinOp (.Name "bits" p0) .BitAnd (.UnaryOp .Invert (.Name "some" p0) p0) p0, lam_turnA.scope⟩
  | .turnA => lam_turnA
  | .joinW => ⟨lam_turnA.q, lam_turnA.params, .BinOp (.Name "bits" p0) .BitOr (.Name "some" p0) p0, lam_turnA.scope⟩
  | .metW => ⟨lam_turnA.q, lam_turnA.params, .BinOp (.Name "bits" p0) .BitAnd (.Name "some" p0) p0, lam_turnA.scope⟩
  | .lessW => ⟨lam_turnA.q, lam_turnA.params, .BinOp (.Name "bits" p0) .BitAnd (.UnaryOp .Invert (.Name "some" p0) p0) p0, lam_turnA.scope⟩
  | .apartW => ⟨lam_turnA.q, lam_turnA.params, .BinOp (.Name "bits" p0) .BitXor (.Name "some" p0) p0, lam_turnA.scope⟩
theorem lamOk_turnA : LamOk lam_turnA wNs := lamOk_by (fun _ => by rfl) (by decide +kernel) (fun _ => by rfl) (by decide +kernel) (fun _ _ _ us hl => match us, hl with | [_, _], _ => rfl)
theorem hWay : ∀ k, WayOk (wayL k) k := fun k => by
  cases k
  · exact ⟨⟨lamOk_turnA.cl, lamOk_turnA.fr, lamOk_turnA.df, lamOk_turnA.sc, fun _ _ _ us hl => match us, hl with | [_, _], _ => rfl⟩, fun X hN hs => body_or hN (by rw [hs]; decide +kernel) (by rw [hs]; decide +kernel)⟩
  · exact ⟨⟨lamOk_turnA.cl, lamOk_turnA.fr, lamOk_turnA.df, lamOk_turnA.sc, fun _ _ _ us hl => match us, hl with | [_, _], _ => rfl⟩, fun X hN hs => body_andn hN (by rw [hs]; decide +kernel) (by rw [hs]; decide +kernel)⟩
  · exact ⟨lamOk_turnA, fun X hN hs => body_xor hN (by rw [hs]; decide +kernel) (by rw [hs]; decide +kernel)⟩
  · exact ⟨⟨lamOk_turnA.cl, lamOk_turnA.fr, lamOk_turnA.df, lamOk_turnA.sc, fun _ _ _ us hl => match us, hl with | [_, _], _ => rfl⟩, fun X hN hs => body_or hN (by rw [hs]; decide +kernel) (by rw [hs]; decide +kernel)⟩
  · exact ⟨⟨lamOk_turnA.cl, lamOk_turnA.fr, lamOk_turnA.df, lamOk_turnA.sc, fun _ _ _ us hl => match us, hl with | [_, _], _ => rfl⟩, fun X hN hs => body_and hN (by rw [hs]; decide +kernel) (by rw [hs]; decide +kernel)⟩
  · exact ⟨⟨lamOk_turnA.cl, lamOk_turnA.fr, lamOk_turnA.df, lamOk_turnA.sc, fun _ _ _ us hl => match us, hl with | [_, _], _ => rfl⟩, fun X hN hs => body_andn hN (by rw [hs]; decide +kernel) (by rw [hs]; decide +kernel)⟩
  · exact ⟨⟨lamOk_turnA.cl, lamOk_turnA.fr, lamOk_turnA.df, lamOk_turnA.sc, fun _ _ _ us hl => match us, hl with | [_, _], _ => rfl⟩, fun X hN hs => body_xor hN (by rw [hs]; decide +kernel) (by rw [hs]; decide +kernel)⟩
def cs (K : PySem.W.Frag) : Cs := ⟨K, He.ga K "RowSack", He.ga K "RunsSack", He.ga K "BitsSack", He.ga K "NumberSet", He.ga K "Sack", He.ga K "SackError", He.ga K "NoNumber", He.ga K "NoStretch", He.ga K "NoRank", He.ga K "NoText", wayL, tT K⟩
theorem exB_e {K : PySem.W.Frag} (e : exB K = true) : GoodE (cs K) := by
  unfold exB at e
  simp only [Bool.and_eq_true, List.all_eq_true, decide_eq_true_eq] at e
  obtain ⟨⟨h, h2⟩, h3⟩ := e
  have n : ∀ k, (cs K).ex k = He.ga K (eN k) := fun k => by cases k <;> rfl
  have m : ∀ k, eN k ∈ exL := fun k => by cases k <;> simp [eN, exL]
  have d : ∀ k k', decide (eN k = eN k') = decide (k = k') := fun k k' => by cases k <;> cases k' <;> decide +kernel
  have q : ∀ k, exO K (eN k) = true := fun k => h _ (m k)
  unfold exO at q
  simp only [Bool.and_eq_true, List.all_eq_true, decide_eq_true_eq] at q
  refine ⟨fun k => ?_, fun k k' => ?_, fun k => ?_, fun k => ?_⟩
  · rw [n]
    obtain ⟨⟨⟨⟨⟨⟨⟨⟨a1, a2⟩, a3⟩, a4⟩, a5⟩, a6⟩, _⟩, _⟩, _⟩ := q k
    exact ⟨He.eqO_ok a1, He.eqO_ok a2, a3, a4, He.eqO_ok a5, He.eqO_ok h2, h3, a6⟩
  · rw [n, n, ← d]
    exact (q k).2 _ (m k')
  · rw [n]
    exact (q k).1.1.2
  · rw [n]
    exact (q k).1.2
theorem facts {P : Program} {w : World} {K : PySem.W.Frag} {h : Heap} {mg : Str → Option Value} {f : Addr} (X : K.In h) (G0 : h.Ns mainGlobals mg) (hfa : mg ("law" : Str) = some (.ref f)) (S : He.SaysD faL fnL K) (ex : exB K = true) (hnd : ((tT K).map (·.1)).Nodup) :
    ∃ fd : FuncData, (∀ (s : Shared) (v : Value), BindsTo s fd ⟨[v], []⟩ [("_law_script", v)]) ∧ ∀ base : Heap, K.In base → base.Ns mainGlobals mg → (∀ p ∈ tf.map (He.cT K), LamX.TabB base mg p.1 p.2) → FnOk P w K mg base (L2N.CX P w) 10 f fd ["_law_script"] (sp_law (cs K)) := by
  have G1 : Good (cs K) := ⟨fun k => by (cases k; exact He.cls_ok (S.fact 0 (f := .cls "RowSack") rfl); exact He.cls_ok (S.fact 2 (f := .cls "RunsSack") rfl); exact He.cls_ok (S.fact 4 (f := .cls "BitsSack") rfl)), fun k => by (cases k; exact He.noat_ok (S.fact 1 (f := .noat "RowSack" "bits") rfl); exact He.noat_ok (S.fact 3 (f := .noat "RunsSack" "bits") rfl); exact He.noat_ok (S.fact 5 (f := .noat "BitsSack" "bits") rfl))⟩
  have G : GoodS (cs K) := ⟨G1, He.cls_ok (S.fact 6 (f := .cls "NumberSet") rfl), He.noat_ok (S.fact 7 (f := .noat "NumberSet" "by_upper") rfl)⟩
  have GE : GoodE (cs K) := exB_e ex
  obtain ⟨d0, F0⟩ := S.def_ 0 (d := fnL[0]) rfl
  obtain ⟨d1, F1⟩ := S.def_ 1 (d := fnL[1]) rfl
  obtain ⟨d2, F2⟩ := S.def_ 2 (d := fnL[2]) rfl
  obtain ⟨d3, F3⟩ := S.def_ 3 (d := fnL[3]) rfl
  obtain ⟨d4, F4⟩ := S.def_ 4 (d := fnL[4]) rfl
  obtain ⟨d5, F5⟩ := S.def_ 5 (d := fnL[5]) rfl
  obtain ⟨d6, F6⟩ := S.def_ 6 (d := fnL[6]) rfl
  obtain ⟨d7, F7⟩ := S.def_ 7 (d := fnL[7]) rfl
  obtain ⟨d8, F8⟩ := S.def_ 8 (d := fnL[8]) rfl
  obtain ⟨d9, F9⟩ := S.def_ 9 (d := fnL[9]) rfl
  obtain ⟨d10, F10⟩ := S.def_ 10 (d := fnL[10]) rfl
  obtain ⟨d11, F11⟩ := S.def_ 11 (d := fnL[11]) rfl
  obtain ⟨d12, F12⟩ := S.def_ 12 (d := fnL[12]) rfl
  obtain ⟨d13, F13⟩ := S.def_ 13 (d := fnL[13]) rfl
  obtain ⟨d14, F14⟩ := S.def_ 14 (d := fnL[14]) rfl
  obtain ⟨d15, F15⟩ := S.def_ 15 (d := fnL[15]) rfl
  obtain ⟨d16, F16⟩ := S.def_ 16 (d := fnL[16]) rfl
  obtain ⟨d17, F17⟩ := S.def_ 17 (d := fnL[17]) rfl
  obtain ⟨d18, F18⟩ := S.def_ 18 (d := fnL[18]) rfl
  obtain ⟨d19, F19⟩ := S.def_ 19 (d := fnL[19]) rfl
  obtain ⟨d20, F20⟩ := S.def_ 20 (d := fnL[20]) rfl
  obtain ⟨d21, F21⟩ := S.def_ 21 (d := fnL[21]) rfl
  obtain ⟨d22, F22⟩ := S.def_ 22 (d := fnL[22]) rfl
  obtain ⟨d23, F23⟩ := S.def_ 23 (d := fnL[23]) rfl
  obtain ⟨d24, F24⟩ := S.def_ 24 (d := fnL[24]) rfl
  obtain ⟨d25, F25⟩ := S.def_ 25 (d := fnL[25]) rfl
  obtain ⟨d26, F26⟩ := S.def_ 26 (d := fnL[26]) rfl
  obtain ⟨d27, F27⟩ := S.def_ 27 (d := fnL[27]) rfl
  obtain ⟨d28, F28⟩ := S.def_ 28 (d := fnL[28]) rfl
  obtain ⟨d29, F29⟩ := S.def_ 29 (d := fnL[29]) rfl
  obtain ⟨d30, F30⟩ := S.def_ 30 (d := fnL[30]) rfl
  obtain ⟨d31, F31⟩ := S.def_ 31 (d := fnL[31]) rfl
  obtain ⟨d32, F32⟩ := S.def_ 32 (d := fnL[32]) rfl
  obtain ⟨d33, F33⟩ := S.def_ 33 (d := fnL[33]) rfl
  obtain ⟨d34, F34⟩ := S.def_ 34 (d := fnL[34]) rfl
  obtain ⟨d35, F35⟩ := S.def_ 35 (d := fnL[35]) rfl
  obtain ⟨d36, F36⟩ := S.def_ 36 (d := fnL[36]) rfl
  obtain ⟨d37, F37⟩ := S.def_ 37 (d := fnL[37]) rfl
  obtain ⟨d38, F38⟩ := S.def_ 38 (d := fnL[38]) rfl
  obtain ⟨d39, F39⟩ := S.def_ 39 (d := fnL[39]) rfl
  obtain ⟨d40, F40⟩ := S.def_ 40 (d := fnL[40]) rfl
  obtain ⟨d41, F41⟩ := S.def_ 41 (d := fnL[41]) rfl
  obtain ⟨d42, F42⟩ := S.def_ 42 (d := fnL[42]) rfl
  obtain ⟨d43, F43⟩ := S.def_ 43 (d := fnL[43]) rfl
  obtain ⟨d44, F44⟩ := S.def_ 44 (d := fnL[44]) rfl
  obtain ⟨d45, F45⟩ := S.def_ 45 (d := fnL[45]) rfl
  obtain ⟨d46, F46⟩ := S.def_ 46 (d := fnL[46]) rfl
  obtain ⟨d47, F47⟩ := S.def_ 47 (d := fnL[47]) rfl
  obtain ⟨d48, F48⟩ := S.def_ 48 (d := fnL[48]) rfl
  obtain ⟨d49, F49⟩ := S.def_ 49 (d := fnL[49]) rfl
  obtain ⟨d50, F50⟩ := S.def_ 50 (d := fnL[50]) rfl
  obtain ⟨d51, F51⟩ := S.def_ 51 (d := fnL[51]) rfl
  obtain ⟨d52, F52⟩ := S.def_ 52 (d := fnL[52]) rfl
  obtain ⟨d53, F53⟩ := S.def_ 53 (d := fnL[53]) rfl
  obtain ⟨d54, F54⟩ := S.def_ 54 (d := fnL[54]) rfl
  obtain ⟨d55, F55⟩ := S.def_ 55 (d := fnL[55]) rfl
  obtain ⟨d56, F56⟩ := S.def_ 56 (d := fnL[56]) rfl
  obtain ⟨d57, F57⟩ := S.def_ 57 (d := fnL[57]) rfl
  obtain ⟨d58, F58⟩ := S.def_ 58 (d := fnL[58]) rfl
  obtain ⟨d59, F59⟩ := S.def_ 59 (d := fnL[59]) rfl
  have e := hfa.symm.trans (He.glo_ok X G0 (S.fact 69 (f := .glo "law") rfl))
  cases e
  refine ⟨d59, fun s v => FunD.bindsA (ps := ["_law_script"]) F59 (fun _ _ _ _ _ _ us hl => match us, hl with | [_], _ => rfl) s [v] rfl, fun base Xb Gb hB => ?_⟩
  have f_tuple := He.free_ok X G0 (S.fact 10 (f := .free "tuple") rfl)
  have f_len := He.free_ok X G0 (S.fact 12 (f := .free "len") rfl)
  have g_WORDS := He.int_ok X G0 (S.fact 13 (f := .int "WORDS" 4) rfl)
  have f_range := He.free_ok X G0 (S.fact 14 (f := .free "range") rfl)
  have g_WORD := He.int_ok X G0 (S.fact 15 (f := .int "WORD" 64) rfl)
  have g_FULL_WORD := He.int_ok X G0 (S.fact 16 (f := .int "FULL_WORD" 18446744073709551615) rfl)
  have g_BITS_WEIGHT := He.int_ok X G0 (S.fact 17 (f := .int "BITS_WEIGHT" 32) rfl)
  have f_sum := He.free_ok X G0 (S.fact 18 (f := .free "sum") rfl)
  have f_int := He.free_ok X G0 (S.fact 25 (f := .free "int") rfl)
  have f_isinstance := He.free_ok X G0 (S.fact 26 (f := .free "isinstance") rfl)
  have f_bool := He.free_ok X G0 (S.fact 27 (f := .free "bool") rfl)
  have g_GREATEST := He.int_ok X G0 (S.fact 28 (f := .int "GREATEST" 16777215) rfl)
  have x_NoNumber := exc_of X G0 (S.fact 31 (f := .exc "NoNumber") rfl) (S.fact 30 (f := .glo "NoNumber") rfl)
  have g_LONGEST := He.int_ok X G0 (S.fact 32 (f := .int "LONGEST" 99999) rfl)
  have x_NoStretch := exc_of X G0 (S.fact 34 (f := .exc "NoStretch") rfl) (S.fact 33 (f := .glo "NoStretch") rfl)
  have g_SIZE := He.int_ok X G0 (S.fact 35 (f := .int "SIZE" 256) rfl)
  have f_max := He.free_ok X G0 (S.fact 36 (f := .free "max") rfl)
  have f_min := He.free_ok X G0 (S.fact 37 (f := .free "min") rfl)
  have f_sorted := He.free_ok X G0 (S.fact 40 (f := .free "sorted") rfl)
  have f_divmod := He.free_ok X G0 (S.fact 41 (f := .free "divmod") rfl)
  have x_NoRank := exc_of X G0 (S.fact 45 (f := .exc "NoRank") rfl) (S.fact 44 (f := .glo "NoRank") rfl)
  have g_NoNumber := He.glo_ok X G0 (S.fact 30 (f := .glo "NoNumber") rfl)
  have g_NoStretch := He.glo_ok X G0 (S.fact 33 (f := .glo "NoStretch") rfl)
  have g_NoRank := He.glo_ok X G0 (S.fact 44 (f := .glo "NoRank") rfl)
  have g_NoText := He.glo_ok X G0 (S.fact 56 (f := .glo "NoText") rfl)
  have g_SackError := He.glo_ok X G0 (S.fact 57 (f := .glo "SackError") rfl)
  have f_ValueError := He.free_ok X G0 (S.fact 59 (f := .free "ValueError") rfl)
  have f_set := He.free_ok X G0 (S.fact 66 (f := .free "set") rfl)
  have hW : ∀ k, WayOk ((cs K).way k) k := hWay
  have w_turnA : (cs K).way .turnA = lamOf "NumberSet.turn.<locals>.<lambda>" s_NumberSet_turn := rfl
  have cd_turnA : CodF mg base (cs K).T d36 ((cs K).way .turnA) := codF_of (p := ("NumberSet", some "turn")) F36 (hB _ (List.mem_map.mpr ⟨_, List.mem_map.mpr ⟨(("NumberSet", some "turn"), "NumberSet.turn.<locals>.<lambda>"), by decide +kernel, rfl⟩, rfl⟩)) (List.mem_map.mpr ⟨(("NumberSet", some "turn"), "NumberSet.turn.<locals>.<lambda>"), by decide +kernel, rfl⟩) hnd
  have c_lows_of : Cal P w (cs K).K mg base 1 "lows_of" (sp_lows_of (cs K)) [] := ⟨_, d21, _, [], ok_lows_of (P := P) (w := w) (mg := mg) (base := base) (c := cs K) G F21 , He.glo_ok X G0 (S.fact 9 (f := .glo "lows_of") rfl), F21.kp, F21.bindsN (ps := ["bits"]) fun _ _ _ _ _ _ us hl => match us, hl with | [_], _ => rfl, .nil⟩
  have c_runs_of : Cal P w (cs K).K mg base 1 "runs_of" (sp_runs_of (cs K)) [] := ⟨_, d22, _, [], ok_runs_of (P := P) (w := w) (mg := mg) (base := base) (c := cs K) G F22 , He.glo_ok X G0 (S.fact 11 (f := .glo "runs_of") rfl), F22.kp, F22.bindsN (ps := ["bits"]) fun _ _ _ _ _ _ us hl => match us, hl with | [_], _ => rfl, .nil⟩
  have c_is_number : Cal P w (cs K).K mg base 1 "is_number" (sp_is_number (cs K)) [] := ⟨_, d25, _, [], ok_is_number (P := P) (w := w) (mg := mg) (base := base) (c := cs K) G F25 f_int f_isinstance f_bool g_GREATEST, He.glo_ok X G0 (S.fact 29 (f := .glo "is_number") rfl), F25.kp, F25.bindsN (ps := ["thing"]) fun _ _ _ _ _ _ us hl => match us, hl with | [_], _ => rfl, .nil⟩
  have c_need_stretch : Cal P w (cs K).K mg base 1 "need_stretch" (sp_need_stretch (cs K)) [] := ⟨_, d27, _, [], ok_need_stretch (P := P) (w := w) (mg := mg) (base := base) (c := cs K) G F27 g_LONGEST x_NoStretch, He.glo_ok X G0 (S.fact 42 (f := .glo "need_stretch") rfl), F27.kp, F27.bindsN (ps := ["first", "last"]) fun _ _ _ _ _ _ us hl => match us, hl with | [_, _], _ => rfl, .nil⟩
  have c_stretch_bits : Cal P w (cs K).K mg base 1 "stretch_bits" (sp_stretch_bits (cs K)) [] := ⟨_, d28, _, [], ok_stretch_bits (P := P) (w := w) (mg := mg) (base := base) (c := cs K) G F28 g_SIZE f_max f_min, He.glo_ok X G0 (S.fact 43 (f := .glo "stretch_bits") rfl), F28.kp, F28.bindsN (ps := ["upper", "first", "last"]) fun _ _ _ _ _ _ us hl => match us, hl with | [_, _, _], _ => rfl, .nil⟩
  have c__law_cell_at : Cal P w (cs K).K mg base 1 "_law_cell_at" (sp__law_cell_at (cs K)) [] := ⟨_, d42, _, [], ok__law_cell_at (P := P) (w := w) (mg := mg) (base := base) (c := cs K) G F42 f_len, He.glo_ok X G0 (S.fact 52 (f := .glo "_law_cell_at") rfl), F42.kp, F42.bindsN (ps := ["_law_script", "_law_k"]) fun _ _ _ _ _ _ us hl => match us, hl with | [_, _], _ => rfl, .nil⟩
  have c__law_plain : Cal P w (cs K).K mg base 1 "_law_plain" (sp__law_plain (cs K)) [] := ⟨_, d43, _, [], ok__law_plain (P := P) (w := w) (mg := mg) (base := base) (c := cs K) G F43 f_int f_isinstance f_bool, He.glo_ok X G0 (S.fact 61 (f := .glo "_law_plain") rfl), F43.kp, F43.bindsN (ps := ["_law_thing"]) fun _ _ _ _ _ _ us hl => match us, hl with | [_], _ => rfl, .nil⟩
  have c__law_lows : Cal P w (cs K).K mg base 1 "_law_lows" (sp__law_lows (cs K)) [] := ⟨_, d44, _, [], ok__law_lows (P := P) (w := w) (mg := mg) (base := base) (c := cs K) G F44 , He.glo_ok X G0 (S.fact 46 (f := .glo "_law_lows") rfl), F44.kp, F44.bindsN (ps := ["_law_bits_here"]) fun _ _ _ _ _ _ us hl => match us, hl with | [_], _ => rfl, .nil⟩
  have c__law_runs : Cal P w (cs K).K mg base 1 "_law_runs" (sp__law_runs (cs K)) [] := ⟨_, d45, _, [], ok__law_runs (P := P) (w := w) (mg := mg) (base := base) (c := cs K) G F45 , He.glo_ok X G0 (S.fact 47 (f := .glo "_law_runs") rfl), F45.kp, F45.bindsN (ps := ["_law_lows_here"]) fun _ _ _ _ _ _ us hl => match us, hl with | [_], _ => rfl, .nil⟩
  have c__law_pattern : Cal P w (cs K).K mg base 1 "_law_pattern" (sp__law_pattern (cs K)) [] := ⟨_, d47, _, [], ok__law_pattern (P := P) (w := w) (mg := mg) (base := base) (c := cs K) G F47 f_range, He.glo_ok X G0 (S.fact 49 (f := .glo "_law_pattern") rfl), F47.kp, F47.bindsN (ps := ["_law_cell"]) fun _ _ _ _ _ _ us hl => match us, hl with | [_], _ => rfl, .nil⟩
  have c__law_begin : Cal P w (cs K).K mg base 1 "_law_begin" (sp__law_begin (cs K)) [] := ⟨_, d48, _, [], ok__law_begin (P := P) (w := w) (mg := mg) (base := base) (c := cs K) G F48 , He.glo_ok X G0 (S.fact 63 (f := .glo "_law_begin") rfl), F48.kp, F48.bindsN (ps := ["_law_cell"]) fun _ _ _ _ _ _ us hl => match us, hl with | [_], _ => rfl, .nil⟩
  have c__law_stretch : Cal P w (cs K).K mg base 1 "_law_stretch" (sp__law_stretch (cs K)) [] := ⟨_, d49, _, [], ok__law_stretch (P := P) (w := w) (mg := mg) (base := base) (c := cs K) G F49 f_min, He.glo_ok X G0 (S.fact 54 (f := .glo "_law_stretch") rfl), F49.kp, F49.bindsN (ps := ["_law_cell"]) fun _ _ _ _ _ _ us hl => match us, hl with | [_], _ => rfl, .nil⟩
  have c__law_bits : Cal P w (cs K).K mg base 1 "_law_bits" (sp__law_bits (cs K)) [] := ⟨_, d50, _, [], ok__law_bits (P := P) (w := w) (mg := mg) (base := base) (c := cs K) G F50 , He.glo_ok X G0 (S.fact 55 (f := .glo "_law_bits") rfl), F50.kp, F50.bindsN (ps := ["_law_first", "_law_last"]) fun _ _ _ _ _ _ us hl => match us, hl with | [_, _], _ => rfl, .nil⟩
  have c__law_spot : Cal P w (cs K).K mg base 1 "_law_spot" (sp__law_spot (cs K)) [] := ⟨_, d55, _, [], ok__law_spot (P := P) (w := w) (mg := mg) (base := base) (c := cs K) G F55 , He.glo_ok X G0 (S.fact 60 (f := .glo "_law_spot") rfl), F55.kp, F55.bindsN (ps := ["_law_cell", "_law_begin_here"]) fun _ _ _ _ _ _ us hl => match us, hl with | [_, _], _ => rfl, .nil⟩
  have c__law_marks : CalP P w (cs K).K mg base 1 "_law_marks" (sp__law_marks (cs K)) := ⟨_, d56, _, ok__law_marks (P := P) (w := w) (mg := mg) (base := base) (c := cs K) G GE F56 g_NoNumber f_isinstance g_NoStretch g_NoRank g_NoText, He.glo_ok X G0 (S.fact 58 (f := .glo "_law_marks") rfl), F56.kp, F56.bindsN (ps := ["_law_e"]) fun _ _ _ _ _ _ us hl => match us, hl with | [_], _ => rfl⟩
  have c_count_of : Cal P w (cs K).K mg base 2 "count_of" (sp_count_of (cs K)) [] := ⟨_, d23, _, [], ok_count_of (P := P) (w := w) (mg := mg) (base := base) (c := cs K) G F23 c_runs_of f_sum, He.glo_ok X G0 (S.fact 8 (f := .glo "count_of") rfl), F23.kp, F23.bindsN (ps := ["bits"]) fun _ _ _ _ _ _ us hl => match us, hl with | [_], _ => rfl, .nil⟩
  have c_need_number : Cal P w (cs K).K mg base 2 "need_number" (sp_need_number (cs K)) [] := ⟨_, d26, _, [], ok_need_number (P := P) (w := w) (mg := mg) (base := base) (c := cs K) G F26 c_is_number x_NoNumber, He.glo_ok X G0 (S.fact 38 (f := .glo "need_number") rfl), F26.kp, F26.bindsN (ps := ["thing"]) fun _ _ _ _ _ _ us hl => match us, hl with | [_], _ => rfl, .nil⟩
  have c__law_form : Cal P w (cs K).K mg base 2 "_law_form" (sp__law_form (cs K)) [] := ⟨_, d46, _, [], ok__law_form (P := P) (w := w) (mg := mg) (base := base) (c := cs K) G F46 c__law_lows c__law_runs f_len f_tuple f_range, He.glo_ok X G0 (S.fact 48 (f := .glo "_law_form") rfl), F46.kp, F46.bindsN (ps := ["_law_bits_here"]) fun _ _ _ _ _ _ us hl => match us, hl with | [_], _ => rfl, .nil⟩
  have c__law_numbers : Cal P w (cs K).K mg base 2 "_law_numbers" (sp__law_numbers (cs K)) [] := ⟨_, d52, _, [], ok__law_numbers (P := P) (w := w) (mg := mg) (base := base) (c := cs K) G F52 f_range c__law_lows, He.glo_ok X G0 (S.fact 65 (f := .glo "_law_numbers") rfl), F52.kp, F52.bindsN (ps := ["_law_mask", "_law_begin_here"]) fun _ _ _ _ _ _ us hl => match us, hl with | [_, _], _ => rfl, .nil⟩
  have m_kind : ∀ C sp, fam_kind (cs K) C sp → Met P w (cs K).K mg base 1 C "kind" sp [] := by
    rintro C sp ⟨k, rfl, rfl⟩
    cases k
    · exact ⟨_, d12, _, _, He.cls_ok (S.fact 0 (f := .cls "RowSack") rfl), He.meth_ok (S.fact 79 (f := .meth "RowSack" "kind") rfl), (ok_RowSack_kind (P := P) (w := w) (mg := mg) (base := base) (c := cs K) G F12 ).mono (by decide), F12.bindsN (ps := ["self"]) fun _ _ _ _ _ _ us hl => match us, hl with | [_], _ => rfl, .nil⟩
    · exact ⟨_, d15, _, _, He.cls_ok (S.fact 2 (f := .cls "RunsSack") rfl), He.meth_ok (S.fact 82 (f := .meth "RunsSack" "kind") rfl), (ok_RunsSack_kind (P := P) (w := w) (mg := mg) (base := base) (c := cs K) G F15 ).mono (by decide), F15.bindsN (ps := ["self"]) fun _ _ _ _ _ _ us hl => match us, hl with | [_], _ => rfl, .nil⟩
    · exact ⟨_, d18, _, _, He.cls_ok (S.fact 4 (f := .cls "BitsSack") rfl), He.meth_ok (S.fact 85 (f := .meth "BitsSack" "kind") rfl), (ok_BitsSack_kind (P := P) (w := w) (mg := mg) (base := base) (c := cs K) G F18 ).mono (by decide), F18.bindsN (ps := ["self"]) fun _ _ _ _ _ _ us hl => match us, hl with | [_], _ => rfl, .nil⟩
  have m_held : ∀ C sp, fam_held (cs K) C sp → Met P w (cs K).K mg base 2 C "held" sp [] := by
    rintro C sp ⟨k, rfl, rfl⟩
    cases k
    · exact ⟨_, d13, _, _, He.cls_ok (S.fact 0 (f := .cls "RowSack") rfl), He.meth_ok (S.fact 80 (f := .meth "RowSack" "held") rfl), (ok_RowSack_held (P := P) (w := w) (mg := mg) (base := base) (c := cs K) G F13 c_lows_of f_tuple).mono (by decide), F13.bindsN (ps := ["self"]) fun _ _ _ _ _ _ us hl => match us, hl with | [_], _ => rfl, .nil⟩
    · exact ⟨_, d16, _, _, He.cls_ok (S.fact 2 (f := .cls "RunsSack") rfl), He.meth_ok (S.fact 83 (f := .meth "RunsSack" "held") rfl), (ok_RunsSack_held (P := P) (w := w) (mg := mg) (base := base) (c := cs K) G F16 c_runs_of f_tuple).mono (by decide), F16.bindsN (ps := ["self"]) fun _ _ _ _ _ _ us hl => match us, hl with | [_], _ => rfl, .nil⟩
    · exact ⟨_, d19, _, _, He.cls_ok (S.fact 4 (f := .cls "BitsSack") rfl), He.meth_ok (S.fact 86 (f := .meth "BitsSack" "held") rfl), (ok_BitsSack_held (P := P) (w := w) (mg := mg) (base := base) (c := cs K) G F19 g_WORDS f_range g_WORD g_FULL_WORD f_tuple).mono (by decide), F19.bindsN (ps := ["self"]) fun _ _ _ _ _ _ us hl => match us, hl with | [_], _ => rfl, .nil⟩
  have m_uppers : ∀ C sp, fam_uppers (cs K) C sp → Met P w (cs K).K mg base 1 C "uppers" sp [] := by
    rintro C sp ⟨rfl, rfl⟩
    exact ⟨_, d32, _, _, He.cls_ok (S.fact 6 (f := .cls "NumberSet") rfl), He.meth_ok (S.fact 90 (f := .meth "NumberSet" "uppers") rfl), (ok_NumberSet_uppers (P := P) (w := w) (mg := mg) (base := base) (c := cs K) G F32 f_sorted).mono (by decide), F32.bindsN (ps := ["self"]) fun _ _ _ _ _ _ us hl => match us, hl with | [_], _ => rfl, .nil⟩
  have m_lows : ∀ C sp, fam_lows (cs K) C sp → Met P w (cs K).K mg base 2 C "lows" sp [] := by
    rintro C sp ⟨k, rfl, rfl⟩
    cases k
    · exact ⟨_, d9, _, _, He.cls_ok (S.fact 0 (f := .cls "RowSack") rfl), He.meth_ok (S.fact 76 (f := .meth "RowSack" "lows") rfl), (ok_Sack_lows (P := P) (w := w) (mg := mg) (base := base) (c := cs K) G F9 c_lows_of).mono (by decide), F9.bindsN (ps := ["self"]) fun _ _ _ _ _ _ us hl => match us, hl with | [_], _ => rfl, .nil⟩
    · exact ⟨_, d10, _, _, He.cls_ok (S.fact 2 (f := .cls "RunsSack") rfl), He.meth_ok (S.fact 77 (f := .meth "RunsSack" "lows") rfl), (ok_Sack_lows (P := P) (w := w) (mg := mg) (base := base) (c := cs K) G F10 c_lows_of).mono (by decide), F10.bindsN (ps := ["self"]) fun _ _ _ _ _ _ us hl => match us, hl with | [_], _ => rfl, .nil⟩
    · exact ⟨_, d11, _, _, He.cls_ok (S.fact 4 (f := .cls "BitsSack") rfl), He.meth_ok (S.fact 78 (f := .meth "BitsSack" "lows") rfl), (ok_Sack_lows (P := P) (w := w) (mg := mg) (base := base) (c := cs K) G F11 c_lows_of).mono (by decide), F11.bindsN (ps := ["self"]) fun _ _ _ _ _ _ us hl => match us, hl with | [_], _ => rfl, .nil⟩
  have c__law_forms : Cal P w (cs K).K mg base 3 "_law_forms" (sp__law_forms (cs K)) [] := ⟨_, d51, _, [], ok__law_forms (P := P) (w := w) (mg := mg) (base := base) (c := cs K) G F51 f_range c__law_form, He.glo_ok X G0 (S.fact 68 (f := .glo "_law_forms") rfl), F51.kp, F51.bindsN (ps := ["_law_mask", "_law_begin_here"]) fun _ _ _ _ _ _ us hl => match us, hl with | [_, _], _ => rfl, .nil⟩
  have k_RowSack : Mak P w (cs K).K mg base 1 "RowSack" (cs K).row (sp_Sack___init__ (cs K) (cs K).row) [] := ⟨_, d0, _, _, He.mkr_ok (S.fact 20 (f := .mkr "RowSack") rfl), ok_Sack___init__ (P := P) (w := w) (mg := mg) (base := base) (c := cs K) G (He.ga K "RowSack") F0 , He.glo_ok X G0 (S.fact 19 (f := .glo "RowSack") rfl), F0.bindsN (ps := ["self", "bits"]) fun _ _ _ _ _ _ us hl => match us, hl with | [_, _], _ => rfl, .nil⟩
  have k_RunsSack : Mak P w (cs K).K mg base 1 "RunsSack" (cs K).runs (sp_Sack___init__ (cs K) (cs K).runs) [] := ⟨_, d1, _, _, He.mkr_ok (S.fact 22 (f := .mkr "RunsSack") rfl), ok_Sack___init__ (P := P) (w := w) (mg := mg) (base := base) (c := cs K) G (He.ga K "RunsSack") F1 , He.glo_ok X G0 (S.fact 21 (f := .glo "RunsSack") rfl), F1.bindsN (ps := ["self", "bits"]) fun _ _ _ _ _ _ us hl => match us, hl with | [_, _], _ => rfl, .nil⟩
  have k_BitsSack : Mak P w (cs K).K mg base 1 "BitsSack" (cs K).bits (sp_Sack___init__ (cs K) (cs K).bits) [] := ⟨_, d2, _, _, He.mkr_ok (S.fact 24 (f := .mkr "BitsSack") rfl), ok_Sack___init__ (P := P) (w := w) (mg := mg) (base := base) (c := cs K) G (He.ga K "BitsSack") F2 , He.glo_ok X G0 (S.fact 23 (f := .glo "BitsSack") rfl), F2.bindsN (ps := ["self", "bits"]) fun _ _ _ _ _ _ us hl => match us, hl with | [_, _], _ => rfl, .nil⟩
  have m_weight : ∀ C sp, fam_weight (cs K) C sp → Met P w (cs K).K mg base 3 C "weight" sp [] := by
    rintro C sp ⟨k, rfl, rfl⟩
    cases k
    · exact ⟨_, d14, _, _, He.cls_ok (S.fact 0 (f := .cls "RowSack") rfl), He.meth_ok (S.fact 81 (f := .meth "RowSack" "weight") rfl), (ok_RowSack_weight (P := P) (w := w) (mg := mg) (base := base) (c := cs K) G F14 c_count_of).mono (by decide), F14.bindsN (ps := ["self"]) fun _ _ _ _ _ _ us hl => match us, hl with | [_], _ => rfl, .nil⟩
    · exact ⟨_, d17, _, _, He.cls_ok (S.fact 2 (f := .cls "RunsSack") rfl), He.meth_ok (S.fact 84 (f := .meth "RunsSack" "weight") rfl), (ok_RunsSack_weight (P := P) (w := w) (mg := mg) (base := base) (c := cs K) G F17 m_held f_len).mono (by decide), F17.bindsN (ps := ["self"]) fun _ _ _ _ _ _ us hl => match us, hl with | [_], _ => rfl, .nil⟩
    · exact ⟨_, d20, _, _, He.cls_ok (S.fact 4 (f := .cls "BitsSack") rfl), He.meth_ok (S.fact 87 (f := .meth "BitsSack" "weight") rfl), (ok_BitsSack_weight (P := P) (w := w) (mg := mg) (base := base) (c := cs K) G F20 g_BITS_WEIGHT).mono (by decide), F20.bindsN (ps := ["self"]) fun _ _ _ _ _ _ us hl => match us, hl with | [_], _ => rfl, .nil⟩
  have c_least_sack : Cal P w (cs K).K mg base 4 "least_sack" (sp_least_sack (cs K)) [] := ⟨_, d24, _, [], ok_least_sack (P := P) (w := w) (mg := mg) (base := base) (c := cs K) G F24 k_RowSack k_RunsSack k_BitsSack m_weight, He.glo_ok X G0 (S.fact 39 (f := .glo "least_sack") rfl), F24.kp, F24.bindsN (ps := ["bits"]) fun _ _ _ _ _ _ us hl => match us, hl with | [_], _ => rfl, .nil⟩
  have m_count : ∀ C sp, fam_count (cs K) C sp → Met P w (cs K).K mg base 3 C "count" sp [] := by
    rintro C sp ⟨k, rfl, rfl⟩
    cases k
    · exact ⟨_, d6, _, _, He.cls_ok (S.fact 0 (f := .cls "RowSack") rfl), He.meth_ok (S.fact 73 (f := .meth "RowSack" "count") rfl), (ok_Sack_count (P := P) (w := w) (mg := mg) (base := base) (c := cs K) G F6 c_count_of).mono (by decide), F6.bindsN (ps := ["self"]) fun _ _ _ _ _ _ us hl => match us, hl with | [_], _ => rfl, .nil⟩
    · exact ⟨_, d7, _, _, He.cls_ok (S.fact 2 (f := .cls "RunsSack") rfl), He.meth_ok (S.fact 74 (f := .meth "RunsSack" "count") rfl), (ok_Sack_count (P := P) (w := w) (mg := mg) (base := base) (c := cs K) G F7 c_count_of).mono (by decide), F7.bindsN (ps := ["self"]) fun _ _ _ _ _ _ us hl => match us, hl with | [_], _ => rfl, .nil⟩
    · exact ⟨_, d8, _, _, He.cls_ok (S.fact 4 (f := .cls "BitsSack") rfl), He.meth_ok (S.fact 75 (f := .meth "BitsSack" "count") rfl), (ok_Sack_count (P := P) (w := w) (mg := mg) (base := base) (c := cs K) G F8 c_count_of).mono (by decide), F8.bindsN (ps := ["self"]) fun _ _ _ _ _ _ us hl => match us, hl with | [_], _ => rfl, .nil⟩
  have m_form : ∀ C sp, fam_form (cs K) C sp → Met P w (cs K).K mg base 3 C "form" sp [] := by
    rintro C sp ⟨k, rfl, rfl⟩
    cases k
    · exact ⟨_, d3, _, _, He.cls_ok (S.fact 0 (f := .cls "RowSack") rfl), He.meth_ok (S.fact 70 (f := .meth "RowSack" "form") rfl), (ok_Sack_form (P := P) (w := w) (mg := mg) (base := base) (c := cs K) G F3 m_kind m_held).mono (by decide), F3.bindsN (ps := ["self"]) fun _ _ _ _ _ _ us hl => match us, hl with | [_], _ => rfl, .nil⟩
    · exact ⟨_, d4, _, _, He.cls_ok (S.fact 2 (f := .cls "RunsSack") rfl), He.meth_ok (S.fact 71 (f := .meth "RunsSack" "form") rfl), (ok_Sack_form (P := P) (w := w) (mg := mg) (base := base) (c := cs K) G F4 m_kind m_held).mono (by decide), F4.bindsN (ps := ["self"]) fun _ _ _ _ _ _ us hl => match us, hl with | [_], _ => rfl, .nil⟩
    · exact ⟨_, d5, _, _, He.cls_ok (S.fact 4 (f := .cls "BitsSack") rfl), He.meth_ok (S.fact 72 (f := .meth "BitsSack" "form") rfl), (ok_Sack_form (P := P) (w := w) (mg := mg) (base := base) (c := cs K) G F5 m_kind m_held).mono (by decide), F5.bindsN (ps := ["self"]) fun _ _ _ _ _ _ us hl => match us, hl with | [_], _ => rfl, .nil⟩
  have m_bits_at : ∀ C sp, fam_bits_at (cs K) C sp → Met P w (cs K).K mg base 1 C "bits_at" sp [] := by
    rintro C sp ⟨rfl, rfl⟩
    exact ⟨_, d30, _, _, He.cls_ok (S.fact 6 (f := .cls "NumberSet") rfl), He.meth_ok (S.fact 88 (f := .meth "NumberSet" "bits_at") rfl), (ok_NumberSet_bits_at (P := P) (w := w) (mg := mg) (base := base) (c := cs K) G F30 ).mono (by decide), F30.bindsN (ps := ["self", "upper"]) fun _ _ _ _ _ _ us hl => match us, hl with | [_, _], _ => rfl, .nil⟩
  have m_countS : ∀ C sp, fam_countS (cs K) C sp → Met P w (cs K).K mg base 4 C "count" sp [] := by
    rintro C sp ⟨rfl, rfl⟩
    exact ⟨_, d37, _, _, He.cls_ok (S.fact 6 (f := .cls "NumberSet") rfl), He.meth_ok (S.fact 95 (f := .meth "NumberSet" "count") rfl), (ok_NumberSet_count (P := P) (w := w) (mg := mg) (base := base) (c := cs K) G F37 m_count f_sum).mono (by decide), F37.bindsN (ps := ["self"]) fun _ _ _ _ _ _ us hl => match us, hl with | [_], _ => rfl, .nil⟩
  have m_set_bits : ∀ C sp, fam_set_bits (cs K) C sp → Met P w (cs K).K mg base 5 C "set_bits" sp [] := by
    rintro C sp ⟨rfl, rfl⟩
    exact ⟨_, d31, _, _, He.cls_ok (S.fact 6 (f := .cls "NumberSet") rfl), He.meth_ok (S.fact 89 (f := .meth "NumberSet" "set_bits") rfl), (ok_NumberSet_set_bits (P := P) (w := w) (mg := mg) (base := base) (c := cs K) G F31 m_bits_at c_least_sack c_count_of).mono (by decide), F31.bindsN (ps := ["self", "upper", "bits"]) fun _ _ _ _ _ _ us hl => match us, hl with | [_, _, _], _ => rfl, .nil⟩
  have m_at : ∀ C sp, fam_at (cs K) C sp → Met P w (cs K).K mg base 5 C "at" sp [] := by
    rintro C sp ⟨rfl, rfl⟩
    exact ⟨_, d41, _, _, He.cls_ok (S.fact 6 (f := .cls "NumberSet") rfl), He.meth_ok (S.fact 99 (f := .meth "NumberSet" "at") rfl), (ok_NumberSet_at (P := P) (w := w) (mg := mg) (base := base) (c := cs K) G F41 f_int f_isinstance f_bool m_countS x_NoRank m_uppers m_count g_SIZE m_lows).mono (by decide), F41.bindsN (ps := ["self", "rank"]) fun _ _ _ _ _ _ us hl => match us, hl with | [_, _], _ => rfl, .nil⟩
  have c__law_at : Cal P w (cs K).K mg base 6 "_law_at" (sp__law_at (cs K)) [] := ⟨_, d57, _, [], ok__law_at (P := P) (w := w) (mg := mg) (base := base) (c := cs K) G GE F57 g_SackError m_at c__law_marks f_ValueError f_isinstance, He.glo_ok X G0 (S.fact 62 (f := .glo "_law_at") rfl), F57.kp, F57.bindsN (ps := ["_law_numbers_here", "_law_rank"]) fun _ _ _ _ _ _ us hl => match us, hl with | [_, _], _ => rfl, .nil⟩
  have m_put : ∀ C sp, fam_put (cs K) C sp → Met P w (cs K).K mg base 6 C "put" sp [] := by
    rintro C sp ⟨rfl, rfl⟩
    exact ⟨_, d33, _, _, He.cls_ok (S.fact 6 (f := .cls "NumberSet") rfl), He.meth_ok (S.fact 91 (f := .meth "NumberSet" "put") rfl), (ok_NumberSet_put (P := P) (w := w) (mg := mg) (base := base) (c := cs K) G F33 c_need_number g_SIZE f_divmod m_set_bits m_bits_at).mono (by decide), F33.bindsN (ps := ["self", "number"]) fun _ _ _ _ _ _ us hl => match us, hl with | [_, _], _ => rfl, .nil⟩
  have m_by_stretch : ∀ C sp, fam_by_stretch (cs K) C sp → Met P w (cs K).K mg base 6 C "by_stretch" sp [] := by
    rintro C sp ⟨rfl, rfl⟩
    exact ⟨_, d35, _, _, He.cls_ok (S.fact 6 (f := .cls "NumberSet") rfl), He.meth_ok (S.fact 93 (f := .meth "NumberSet" "by_stretch") rfl), (ok_NumberSet_by_stretch (P := P) (w := w) (mg := mg) (base := base) (c := cs K) G F35 c_need_number c_need_stretch g_SIZE f_range m_set_bits m_bits_at c_stretch_bits hW).mono (by decide), F35.bindsN (ps := ["self", "first", "last", "way"]) fun _ _ _ _ _ _ us hl => match us, hl with | [_, _, _, _], _ => rfl, .nil⟩
  have c__law_filled : Cal P w (cs K).K mg base 7 "_law_filled" (sp__law_filled (cs K)) [] := ⟨_, d53, _, [], ok__law_filled (P := P) (w := w) (mg := mg) (base := base) (c := cs K) G F53 c__law_pattern c__law_lows m_put, He.glo_ok X G0 (S.fact 53 (f := .glo "_law_filled") rfl), F53.kp, F53.bindsN (ps := ["_law_numbers_here", "_law_begin_here", "_law_cell"]) fun _ _ _ _ _ _ us hl => match us, hl with | [_, _, _], _ => rfl, .nil⟩
  have m_below : ∀ C sp, fam_below (cs K) C sp → Met P w (cs K).K mg base 4 C "below" sp [] := by
    rintro C sp ⟨rfl, rfl⟩
    exact ⟨_, d40, _, _, He.cls_ok (S.fact 6 (f := .cls "NumberSet") rfl), He.meth_ok (S.fact 98 (f := .meth "NumberSet" "below") rfl), (ok_NumberSet_below (P := P) (w := w) (mg := mg) (base := base) (c := cs K) G F40 c_need_number g_SIZE f_divmod c_count_of m_bits_at m_count).mono (by decide), F40.bindsN (ps := ["self", "number"]) fun _ _ _ _ _ _ us hl => match us, hl with | [_, _], _ => rfl, .nil⟩
  have c__law_ranked : Cal P w (cs K).K mg base 7 "_law_ranked" (sp__law_ranked (cs K)) [] := ⟨_, d58, _, [], ok__law_ranked (P := P) (w := w) (mg := mg) (base := base) (c := cs K) G F58 c__law_spot m_below c__law_plain f_len c__law_at f_int f_isinstance f_bool, He.glo_ok X G0 (S.fact 67 (f := .glo "_law_ranked") rfl), F58.kp, F58.bindsN (ps := ["_law_numbers_here", "_law_all_of", "_law_cell", "_law_begin_here"]) fun _ _ _ _ _ _ us hl => match us, hl with | [_, _, _, _], _ => rfl, .nil⟩
  obtain ⟨ds_b29_1, hv_b29_1, hb_b29_1⟩ := F29.binds1 (ps := ["self", "numbers"]) 1 0 (List.cons_ne_nil _ _) rfl (fun _ _ _ _ _ _ _ us its hl hi => match us, its, hl, hi with | [_], [_], _, _ => ⟨_, rfl, rfl⟩)
  have k_NumberSet0 : Mak P w (cs K).K mg base 7 "NumberSet" (cs K).set (sp_NumberSet___init__ (cs K)) [.non] := ⟨_, d29, _, _, He.mkr_ok (S.fact 51 (f := .mkr "NumberSet") rfl), ok_NumberSet___init__ (P := P) (w := w) (mg := mg) (base := base) (c := cs K) G F29 c_need_number m_put, He.glo_ok X G0 (S.fact 50 (f := .glo "NumberSet") rfl), hb_b29_1, hv_b29_1⟩
  obtain ⟨ds_b36_0, hv_b36_0, hb_b36_0⟩ := F36.binds1 (ps := ["self", "first", "last"]) 3 1 (List.cons_ne_nil _ _) rfl (fun _ _ _ _ _ _ _ us its hl hi => match us, its, hl, hi with | [_, _, _], [_], _, _ => ⟨_, rfl, rfl⟩)
  have m_turn : ∀ C sp, fam_turn (cs K) C sp → Met P w (cs K).K mg base 7 C "turn" sp [] := by
    rintro C sp ⟨rfl, rfl⟩
    exact ⟨_, d36, _, _, He.cls_ok (S.fact 6 (f := .cls "NumberSet") rfl), He.meth_ok (S.fact 94 (f := .meth "NumberSet" "turn") rfl), (ok_NumberSet_turn (P := P) (w := w) (mg := mg) (base := base) (c := cs K) G F36 m_by_stretch w_turnA hW cd_turnA).mono (by decide), hb_b36_0, hv_b36_0⟩
  have c__law_built : Cal P w (cs K).K mg base 9 "_law_built" (sp__law_built (cs K)) [] := ⟨_, d54, _, [], ok__law_built (P := P) (w := w) (mg := mg) (base := base) (c := cs K) G F54 k_NumberSet0 c__law_cell_at f_range c__law_filled c__law_stretch m_turn c__law_bits, He.glo_ok X G0 (S.fact 64 (f := .glo "_law_built") rfl), F54.kp, F54.bindsN (ps := ["_law_script", "_law_begin_here"]) fun _ _ _ _ _ _ us hl => match us, hl with | [_, _], _ => rfl, .nil⟩
  have m_drop : ∀ C sp, fam_drop (cs K) C sp → Met P w (cs K).K mg base 6 C "drop" sp [] := by
    rintro C sp ⟨rfl, rfl⟩
    exact ⟨_, d34, _, _, He.cls_ok (S.fact 6 (f := .cls "NumberSet") rfl), He.meth_ok (S.fact 92 (f := .meth "NumberSet" "drop") rfl), (ok_NumberSet_drop (P := P) (w := w) (mg := mg) (base := base) (c := cs K) G F34 c_need_number g_SIZE f_divmod m_set_bits m_bits_at).mono (by decide), F34.bindsN (ps := ["self", "number"]) fun _ _ _ _ _ _ us hl => match us, hl with | [_, _], _ => rfl, .nil⟩
  have m_sacks : ∀ C sp, fam_sacks (cs K) C sp → Met P w (cs K).K mg base 4 C "sacks" sp [] := by
    rintro C sp ⟨rfl, rfl⟩
    exact ⟨_, d39, _, _, He.cls_ok (S.fact 6 (f := .cls "NumberSet") rfl), He.meth_ok (S.fact 97 (f := .meth "NumberSet" "sacks") rfl), (ok_NumberSet_sacks (P := P) (w := w) (mg := mg) (base := base) (c := cs K) G F39 m_uppers m_form).mono (by decide), F39.bindsN (ps := ["self"]) fun _ _ _ _ _ _ us hl => match us, hl with | [_], _ => rfl, .nil⟩
  exact ok_law (P := P) (w := w) (mg := mg) (base := base) (c := cs K) G F59 c__law_begin c__law_cell_at c__law_built m_put f_range c__law_numbers f_sorted f_set c__law_ranked c__law_stretch m_turn c__law_bits m_drop m_sacks c__law_forms
end Sx
open PySem PySem.W PySem.Calls PyProof.Rows
set_option maxRecDepth 100000 in
set_option maxHeartbeats 0 in
theorem PySem.Challenge.cw_sackset_k06_ranks_holds : PySem.Challenge.rw_sackset_k06_ranks.Holds := by
  w_on; o_law
  refine HandSHeadRun.head_any (r := OpenLaw.row PySem.Challenge.rw_sackset_k06_ranks) (q := view (OpenLaw.row PySem.Challenge.rw_sackset_k06_ranks).prog [47]) (H := Sx.hk) (ob := Sx.ob) (M := 6000) (loose := Sx.nms) (d := HandSHeadRun.topDef (OpenLaw.row PySem.Challenge.rw_sackset_k06_ranks).prog 47) (kwd := []) Sx.ob_eq
    (by kernel_rfl) (fun s => by kernel_rfl) Sx.run (by kernel_rfl) (by kernel_rfl) (by kernel_rfl) (by rfl) (by first | assumption | decide +kernel) (by decide +kernel) ⟨rfl, rfl, rfl, rfl, rfl, by decide +kernel⟩ ?hw ?hc
  case hw => w_witness2
  case hc =>
    refine LamX.walk_ofTsE (l := PySem.Challenge.rw_sackset_k06_ranks) (n := 63) (k := 10) (x := "_law_script") (CX := fun _ => L2.CX0) rfl (by decide) (by kernel_rfl) ⟨rfl, by decide, by decide⟩ ?F (fun _ _ _ _ _ z => z)
    intro w mg fa h Y G hmg0
    obtain ⟨K, KX, c, ext, t⟩ := Y
    obtain ⟨ex, hnd0⟩ := He.ba ext
    have hnd := of_decide_eq_true hnd0
    have hmg : mg ("law" : PySem.Str) = some (.ref fa) := by
      have e : (HandSHeadRun.topDef (OpenLaw.row PySem.Challenge.rw_sackset_k06_ranks).prog 47).name = ("law" : PySem.Str) := by kernel_rfl
      rw [← e]
      exact hmg0
    obtain ⟨fd, hb, hF⟩ := Sx.facts (P := (PySem.Challenge.rw_sackset_k06_ranks).prog) (w := w) KX G hmg c ex hnd
    refine ⟨K, KX, fd, Sx.tf.map (He.cT K), fun vs H Q _ => Sx.sp_law (Sx.cs K) vs H Q L2.E0, fun p hp => ?_, fun p hp => ?_, fun p hp => ?_, hb, fun H a ns hl _ hH hS => ⟨a, ns, rfl, hS, hl, Sx.tabs_start hH fun p hp => ?_, fun _ => rfl⟩, fun base Xb Gb hB => Sx.fn_cx0 (hF base Xb Gb hB)⟩
    · obtain ⟨q, hq, rfl⟩ := List.mem_map.mp hp
      exact t.emp q hq
    · obtain ⟨q, hq, rfl⟩ := List.mem_map.mp hp
      exact t.out q hq
    · obtain ⟨q, hq, rfl⟩ := List.mem_map.mp hp
      exact PySem.W.codeHd_of_K KX (t.hd q hq)
    · obtain ⟨x, hx, rfl⟩ := List.mem_map.mp hp
      exact List.mem_map.mpr ⟨x.1, List.mem_map.mpr ⟨x, hx, rfl⟩, rfl⟩
