import PyProof.Rows.All
import Wide.All
import OpenK.AllK
import Wide.FinOn
import HandS.WideBits
import HandS.ForMost
import HandS.Exc
import HandS.TryOnly
import HandS.ExcOwn
import HandS.ExcCtx
import HandS.Hot
import HandS.HotCalls
import HandS.WordsExc
import HandS.Flow
import HandS.Style
import HandS.IsInst
import HandS.SortInts
import HandS.Defaults
import HandS.More
import HandS.Codes
import HandS.Lambda
import HandS.ExcIs
import HandS.ExcInitHot
import HandS.Set
import HandS.Nested
import HandS.Head0
import HandS.Head1
import HandS.Head2
import HandS.HeadEnd
import HandS.HeadHook1
import HandS.HeadHook2
import HandS.HeadHook3
import HandS.HeadHook4
import HandS.EndTab
import HandS.HeadWalk
import HandS.NestedK
import KE.GoesRaise
import HandS.Comp
import HandS.StrMore
import HandS.Steps
import KE.KStateDown
import PySem.Challenge.RW_sackset_k09_written
set_option Elab.async false
set_option linter.all false
set_option maxRecDepth 100000
set_option maxHeartbeats 4000000
set_option exponentiation.threshold 10000
namespace Sx
open PySem PySem.Spec PyProof.Rows L2
/-- the place of the least bit that is set (0 for 0) -/
def tz (b : Nat) : Nat := if h : b = 0 then 0 else if b % 2 = 1 then 0 else tz (b / 2) + 1
termination_by b
decreasing_by omega
theorem tz_odd {b : Nat} (h : b % 2 = 1) : tz b = 0 := by
  rw [tz, dif_neg (by omega), if_pos h]
theorem tz_even {b : Nat} (h0 : 0 < b) (h : b % 2 = 0) : tz b = tz (b / 2) + 1 := by
  rw [tz, dif_neg (by omega), if_neg (by omega)]
theorem tz_spec : ∀ (n b : Nat), b ≤ n → 0 < b → b.testBit (tz b) = true ∧ ∀ i, i < tz b → b.testBit i = false := by
  intro n
  induction n with
  | zero => intro b h1 h2; omega
  | succ n ih =>
    intro b h1 h2
    by_cases ho : b % 2 = 1
    · rw [tz_odd ho]
      refine ⟨?_, fun i hi => by omega⟩
      rw [Nat.testBit_zero]; simp [ho]
    · have he : b % 2 = 0 := by omega
      rw [tz_even h2 he]
      obtain ⟨a, c⟩ := ih (b / 2) (by omega) (by omega)
      refine ⟨by rw [Nat.testBit_succ]; exact a, fun i hi => ?_⟩
      cases i with
      | zero => rw [Nat.testBit_zero]; simp [he]
      | succ i => rw [Nat.testBit_succ]; exact c i (by omega)
theorem tz_bit {b : Nat} (h : 0 < b) : b.testBit (tz b) = true := (tz_spec b b (Nat.le_refl _) h).1
theorem tz_low {b i : Nat} (h : 0 < b) (hi : i < tz b) : b.testBit i = false := (tz_spec b b (Nat.le_refl _) h).2 i hi
/-- b - 1: all bits below the least turned, that one gone -/
theorem pred_testBit : ∀ (n b : Nat), b ≤ n → 0 < b → ∀ i, (b - 1).testBit i = if i < tz b then true else if i = tz b then false else b.testBit i := by
  intro n
  induction n with
  | zero => intro b h1 h2; omega
  | succ n ih =>
    intro b h1 h2 i
    by_cases ho : b % 2 = 1
    · rw [tz_odd ho, if_neg (Nat.not_lt_zero _)]
      cases i with
      | zero => rw [if_pos rfl, Nat.testBit_zero]; simp; omega
      | succ i =>
        rw [if_neg (by omega), Nat.testBit_succ, Nat.testBit_succ]
        have e : (b - 1) / 2 = b / 2 := by omega
        rw [e]
    · have he : b % 2 = 0 := by omega
      rw [tz_even h2 he]
      have e : (b - 1) / 2 = b / 2 - 1 := by omega
      cases i with
      | zero =>
        have : (b - 1) % 2 = 1 := by omega
        rw [if_pos (by omega), Nat.testBit_zero, this]; rfl
      | succ i =>
        rw [Nat.testBit_succ, Nat.testBit_succ, e, ih (b / 2) (by omega) (by omega) i]
        by_cases c1 : i < tz (b / 2)
        · rw [if_pos c1, if_pos (by omega)]
        · by_cases c2 : i = tz (b / 2)
          · rw [if_neg c1, if_pos c2, if_neg (by omega), if_pos (by omega)]
          · rw [if_neg c1, if_neg c2, if_neg (by omega), if_neg (by omega)]
theorem pred_bit {b : Nat} (h : 0 < b) (i : Nat) : (b - 1).testBit i = if i < tz b then true else if i = tz b then false else b.testBit i := pred_testBit b b (Nat.le_refl _) h i
theorem and_mod2 (x y : Nat) : (x &&& y) % 2 = (x % 2) * (y % 2) := by
  have a : (x &&& y) % 2 ^ 1 = (x % 2 ^ 1) &&& (y % 2 ^ 1) := Nat.and_mod_two_pow
  rw [show (2 : Nat) ^ 1 = 2 from rfl] at a
  rw [a]
  rcases Nat.mod_two_eq_zero_or_one x with h | h <;> rcases Nat.mod_two_eq_zero_or_one y with h' | h' <;> rw [h, h'] <;> rfl
theorem land_pred' : ∀ (n b : Nat), b ≤ n → 0 < b → (b &&& (b - 1)) + 2 ^ tz b = b := by
  intro n
  induction n with
  | zero => intro b h1 h2; omega
  | succ n ih =>
    intro b h1 h2
    have d : (b &&& (b - 1)) / 2 = b / 2 &&& (b - 1) / 2 := Nat.and_div_two
    have m := and_mod2 b (b - 1)
    by_cases ho : b % 2 = 1
    · rw [tz_odd ho]
      have e : (b - 1) / 2 = b / 2 := by omega
      rw [e, Nat.and_self] at d
      have e2 : (b - 1) % 2 = 0 := by omega
      rw [e2, Nat.mul_zero] at m
      omega
    · have he : b % 2 = 0 := by omega
      have e : (b - 1) / 2 = b / 2 - 1 := by omega
      rw [e] at d
      rw [he, Nat.zero_mul] at m
      have k := ih (b / 2) (by omega) (by omega)
      rw [tz_even h2 he, Nat.pow_succ]
      omega
theorem land_pred {b : Nat} (h : 0 < b) : (b &&& (b - 1)) + 2 ^ tz b = b := land_pred' b b (Nat.le_refl _) h
/-- the least bit gone -/
def clr (b : Nat) : Nat := b &&& (b - 1)
theorem clr_bit {b : Nat} (h : 0 < b) (i : Nat) : (clr b).testBit i = (b.testBit i && decide (i ≠ tz b)) := by
  unfold clr
  rw [Nat.testBit_and, pred_bit h]
  by_cases c1 : i < tz b
  · rw [if_pos c1, tz_low h c1]; simp
  · rw [if_neg c1]
    by_cases c2 : i = tz b
    · rw [if_pos c2]; simp [c2]
    · rw [if_neg c2]; simp [c2]
theorem clr_lt {b : Nat} (h : 0 < b) : clr b < b := by
  have := land_pred h
  have p := Nat.two_pow_pos (tz b)
  unfold clr
  omega
theorem clr_xor {b : Nat} (h : 0 < b) : b ^^^ 2 ^ tz b = clr b := by
  apply Nat.eq_of_testBit_eq
  intro i
  rw [clr_bit h, Nat.testBit_xor, Nat.testBit_two_pow]
  by_cases c : i = tz b
  · subst c; simp [tz_bit h]
  · simp [c, Ne.symm c]
/-! ### Python's bits -/
theorem and_cast (a b : Nat) : Builtin.bitAnd (a : Int) (b : Int) = ((a &&& b : Nat) : Int) := by
  simp [Builtin.bitAnd]
theorem not_not (x : Int) : Builtin.bitNot (Builtin.bitNot x) = x := by unfold Builtin.bitNot; omega
theorem or_cast (a b : Nat) : Builtin.bitOr (a : Int) (b : Int) = ((a ||| b : Nat) : Int) := by
  have h1 : ¬ (0 ≤ Builtin.bitNot (a : Int)) := by unfold Builtin.bitNot; omega
  have h2 : ¬ (0 ≤ Builtin.bitNot (b : Int)) := by unfold Builtin.bitNot; omega
  unfold Builtin.bitOr Builtin.bitAnd
  rw [decide_eq_false h1, decide_eq_false h2]
  show Builtin.bitNot (Builtin.bitNot _) = _
  rw [not_not, not_not, not_not]
  rfl
theorem xor_add (a b : Nat) : (a ^^^ b) + (a &&& b) = (a ||| b) := by
  have key : ∀ n a b : Nat, a ≤ n → (a ^^^ b) + (a &&& b) = (a ||| b) := by
    intro n
    induction n with
    | zero =>
      intro a b h
      obtain rfl : a = 0 := by omega
      simp
    | succ n ih =>
      intro a b h
      have d1 : (a ^^^ b) / 2 = a / 2 ^^^ b / 2 := Nat.xor_div_two
      have d2 : (a &&& b) / 2 = a / 2 &&& b / 2 := Nat.and_div_two
      have d3 : (a ||| b) / 2 = a / 2 ||| b / 2 := Nat.or_div_two
      have m2 := and_mod2 a b
      have m1 : (a ^^^ b) % 2 ^ 1 = (a % 2 ^ 1) ^^^ (b % 2 ^ 1) := Nat.xor_mod_two_pow
      have m3 : (a ||| b) % 2 ^ 1 = (a % 2 ^ 1) ||| (b % 2 ^ 1) := Nat.or_mod_two_pow
      rw [show (2 : Nat) ^ 1 = 2 from rfl] at m1 m3
      by_cases c : a = 0
      · subst c; simp
      · have k := ih (a / 2) (b / 2) (by omega)
        have q : (a ^^^ b) % 2 + (a &&& b) % 2 = (a ||| b) % 2 := by
          rw [m1, m2, m3]
          rcases Nat.mod_two_eq_zero_or_one a with h | h <;> rcases Nat.mod_two_eq_zero_or_one b with h' | h' <;> rw [h, h'] <;> rfl
        omega
  exact key a a b (Nat.le_refl _)
theorem xor_cast (a b : Nat) : Builtin.bitXor (a : Int) (b : Int) = ((a ^^^ b : Nat) : Int) := by
  unfold Builtin.bitXor
  rw [or_cast, and_cast]
  have := xor_add a b
  omega
/-- b & -b -/
theorem and_neg {b : Nat} (h : 0 < b) : Builtin.bitAnd (b : Int) (-(b : Int)) = ((2 ^ tz b : Nat) : Int) := by
  have h1 : ¬ (0 : Int) ≤ -(b : Int) := by omega
  unfold Builtin.bitAnd
  rw [decide_eq_true (show (0 : Int) ≤ (b : Int) by omega), decide_eq_false h1]
  show (b : Int) - (((b : Int).toNat &&& (Builtin.bitNot (-(b : Int))).toNat : Nat) : Int) = _
  have e : (Builtin.bitNot (-(b : Int))).toNat = b - 1 := by unfold Builtin.bitNot; omega
  rw [e, Int.toNat_natCast]
  have := land_pred h
  omega
/-- b + 1 & ~b -/
theorem and_not_succ (b : Nat) : Builtin.bitAnd ((b : Int) + 1) (Builtin.bitNot (b : Int)) = ((2 ^ tz (b + 1) : Nat) : Int) := by
  have e1 : ((b : Int) + 1) = ((b + 1 : Nat) : Int) := by omega
  have e2 : Builtin.bitNot (b : Int) = -((b + 1 : Nat) : Int) := by unfold Builtin.bitNot; omega
  rw [e1, e2]
  exact and_neg (by omega)
/-- a & ~b -/
theorem and_not_cast (a b : Nat) : Builtin.bitAnd (a : Int) (Builtin.bitNot (b : Int)) = ((a ^^^ (a &&& b) : Nat) : Int) := by
  have h1 : ¬ (0 : Int) ≤ Builtin.bitNot (b : Int) := by unfold Builtin.bitNot; omega
  unfold Builtin.bitAnd
  rw [decide_eq_true (show (0 : Int) ≤ (a : Int) by omega), decide_eq_false h1]
  show (a : Int) - (((a : Int).toNat &&& (Builtin.bitNot (Builtin.bitNot (b : Int))).toNat : Nat) : Int) = _
  rw [not_not, Int.toNat_natCast, Int.toNat_natCast]
  have e := xor_add a (a &&& b)
  have e2 : a &&& (a &&& b) = a &&& b := by
    apply Nat.eq_of_testBit_eq; intro i; simp only [Nat.testBit_and]; cases a.testBit i <;> simp
  have e3 : a ||| (a &&& b) = a := by
    apply Nat.eq_of_testBit_eq; intro i; simp only [Nat.testBit_and, Nat.testBit_or]; cases a.testBit i <;> simp
  rw [e2, e3] at e
  omega
/-- a & ~b -/
def andn (a b : Nat) : Nat := a ^^^ (a &&& b)
theorem andn_bit (a b i : Nat) : (andn a b).testBit i = (a.testBit i && !b.testBit i) := by
  unfold andn
  rw [Nat.testBit_xor, Nat.testBit_and]
  cases a.testBit i <;> cases b.testBit i <;> rfl
theorem bits_pow (k : Nat) : Builtin.Int.intBits ((2 ^ k : Nat) : Int) = k + 1 := by
  unfold Builtin.Int.intBits
  have : ¬ (((2 ^ k : Nat) : Int) == 0) = true := by
    have p := Nat.two_pow_pos k
    simp only [beq_iff_eq]
    omega
  rw [if_neg this]
  have e : (((2 ^ k : Nat) : Int)).natAbs = 2 ^ k := Int.natAbs_natCast _
  rw [e, Nat.log2_two_pow]
theorem sorted_ext : ∀ {l1 l2 : List Nat}, l1.Pairwise (· < ·) → l2.Pairwise (· < ·) → (∀ x, x ∈ l1 ↔ x ∈ l2) → l1 = l2
  | [], [], _, _, _ => rfl
  | [], b :: l2, _, _, h => absurd ((h b).mpr List.mem_cons_self) (by simp)
  | a :: l1, [], _, _, h => absurd ((h a).mp List.mem_cons_self) (by simp)
  | a :: l1, b :: l2, p1, p2, h => by
    obtain ⟨q1, r1⟩ := List.pairwise_cons.mp p1
    obtain ⟨q2, r2⟩ := List.pairwise_cons.mp p2
    have e : a = b := by
      rcases List.mem_cons.mp ((h a).mp List.mem_cons_self) with e | e
      · exact e
      · rcases List.mem_cons.mp ((h b).mpr List.mem_cons_self) with e' | e'
        · exact e'.symm
        · have := q2 a e
          have := q1 b e'
          omega
    subst e
    have t : ∀ x, x ∈ l1 ↔ x ∈ l2 := fun x => by
      constructor
      · intro hx
        rcases List.mem_cons.mp ((h x).mp (List.mem_cons_of_mem _ hx)) with e | e
        · have := q1 x hx; omega
        · exact e
      · intro hx
        rcases List.mem_cons.mp ((h x).mpr (List.mem_cons_of_mem _ hx)) with e | e
        · have := q2 x hx; omega
        · exact e
    rw [sorted_ext r1 r2 t]
/-- the places of the bits, rising -/
def bitsOf (b : Nat) : List Nat := (List.range (b.log2 + 1)).filter b.testBit
theorem mem_bitsOf {b i : Nat} : i ∈ bitsOf b ↔ b.testBit i = true := by
  unfold bitsOf
  rw [List.mem_filter, List.mem_range]
  refine ⟨fun h => h.2, fun h => ⟨?_, h⟩⟩
  have a := Nat.ge_two_pow_of_testBit h
  have c : b < 2 ^ (b.log2 + 1) := Nat.lt_log2_self
  have d : 2 ^ i < 2 ^ (b.log2 + 1) := by omega
  exact (Nat.pow_lt_pow_iff_right (by decide : 1 < 2)).mp d
theorem range_sorted (n : Nat) : (List.range n).Pairwise (· < ·) := List.pairwise_lt_range
theorem bitsOf_sorted (b : Nat) : (bitsOf b).Pairwise (· < ·) := List.Pairwise.filter _ (range_sorted _)
theorem bitsOf_eq {b n : Nat} (h : b < 2 ^ n) : bitsOf b = (List.range n).filter b.testBit := by
  refine sorted_ext (bitsOf_sorted b) (List.Pairwise.filter _ (range_sorted _)) fun x => ?_
  rw [mem_bitsOf, List.mem_filter, List.mem_range]
  refine ⟨fun q => ⟨?_, q⟩, fun q => q.2⟩
  have a := Nat.ge_two_pow_of_testBit q
  have d : 2 ^ x < 2 ^ n := by omega
  exact (Nat.pow_lt_pow_iff_right (by decide : 1 < 2)).mp d
theorem bitsOf_zero : bitsOf 0 = [] := by
  refine List.eq_nil_iff_forall_not_mem.mpr fun x hx => ?_
  rw [mem_bitsOf] at hx; simp at hx
theorem bitsOf_lt {b n i : Nat} (h : b < 2 ^ n) (hi : i ∈ bitsOf b) : i < n := by
  rw [bitsOf_eq h, List.mem_filter, List.mem_range] at hi
  exact hi.1
theorem bitsOf_clr {b : Nat} (h : 0 < b) : bitsOf b = tz b :: bitsOf (clr b) := by
  refine sorted_ext (bitsOf_sorted b) ?_ fun x => ?_
  · refine List.pairwise_cons.mpr ⟨fun y hy => ?_, bitsOf_sorted _⟩
    rw [mem_bitsOf, clr_bit h] at hy
    simp only [Bool.and_eq_true, decide_eq_true_eq] at hy
    rcases Nat.lt_trichotomy (tz b) y with q | q | q
    · exact q
    · exact absurd q.symm hy.2
    · rw [tz_low h q] at hy; exact absurd hy.1 (by simp)
  · rw [List.mem_cons, mem_bitsOf, mem_bitsOf, clr_bit h]
    by_cases c : x = tz b
    · subst c; simp [tz_bit h]
    · simp [c]
theorem bitsOf_len {b n : Nat} (h : b < 2 ^ n) : (bitsOf b).length ≤ n := by
  rw [bitsOf_eq h]
  exact Nat.le_trans (List.length_filter_le _ _) (by simp)
/-- how many bits -/
def popc (b : Nat) : Nat := (bitsOf b).length
theorem popc_zero : popc 0 = 0 := by unfold popc; rw [bitsOf_zero]; rfl
theorem popc_clr {b : Nat} (h : 0 < b) : popc b = popc (clr b) + 1 := by unfold popc; rw [bitsOf_clr h]; rfl
theorem popc_pos {b : Nat} (h : 0 < b) : 0 < popc b := by rw [popc_clr h]; omega
/-! ### runs -/
abbrev Pr := Nat × Nat
def stepR (acc : List Pr) (x : Nat) : List Pr :=
  match acc.getLast? with
  | some p => if p.2 + 1 = x then acc.dropLast ++ [(p.1, x)] else acc ++ [(x, x)]
  | none => [(x, x)]
/-- the longest runs of a rising list -/
def runsL (l : List Nat) : List Pr := l.foldl stepR []
theorem stepR_snoc (pre : List Pr) (p : Pr) (x : Nat) : stepR (pre ++ [p]) x = if p.2 + 1 = x then pre ++ [(p.1, x)] else pre ++ [p] ++ [(x, x)] := by
  unfold stepR
  rw [List.getLast?_append]
  simp
theorem stepR_ne {acc : List Pr} (x : Nat) : stepR acc x ≠ [] := by
  unfold stepR
  split
  · split <;> simp
  · simp
theorem stepR_app {pre acc : List Pr} (h : acc ≠ []) (x : Nat) : stepR (pre ++ acc) x = pre ++ stepR acc x := by
  obtain ⟨q, p, rfl⟩ : ∃ q p, acc = q ++ [p] := ⟨acc.dropLast, acc.getLast h, (List.dropLast_concat_getLast h).symm⟩
  rw [← List.append_assoc, stepR_snoc, stepR_snoc]
  split <;> simp
theorem fold_app : ∀ (l : List Nat) {pre acc : List Pr}, acc ≠ [] → l.foldl stepR (pre ++ acc) = pre ++ l.foldl stepR acc
  | [], _, _, _ => rfl
  | x :: l, pre, acc, h => by
    rw [List.foldl_cons, List.foldl_cons, stepR_app h]
    exact fold_app l (stepR_ne x)
theorem fold_far {l : List Nat} {p : Pr} (h : ∀ x, l.head? = some x → p.2 + 1 < x) : l.foldl stepR [p] = p :: runsL l := by
  cases l with
  | nil => rfl
  | cons x l =>
    have := h x rfl
    unfold runsL
    rw [List.foldl_cons, List.foldl_cons]
    have e : stepR [p] x = [p] ++ [(x, x)] := by
      have := stepR_snoc [] p x
      rw [List.nil_append, if_neg (by omega)] at this
      simpa using this
    have e2 : stepR [] x = [(x, x)] := rfl
    rw [e, e2, fold_app l (by simp)]
    rfl
/-- a, a + 1, .., of m numbers -/
def upto (a m : Nat) : List Nat := (List.range m).map (a + ·)
theorem upto_succ (a m : Nat) : upto a (m + 1) = upto a m ++ [a + m] := by
  unfold upto
  rw [List.range_succ, List.map_append]; rfl
theorem upto_cons (a m : Nat) : upto a (m + 1) = a :: upto (a + 1) m := by
  unfold upto
  rw [List.range_succ_eq_map, List.map_cons, List.map_map]
  congr 1
  apply List.map_congr_left
  intro x _
  simp; omega
theorem mem_upto {a m x : Nat} : x ∈ upto a m ↔ a ≤ x ∧ x < a + m := by
  unfold upto
  rw [List.mem_map]
  constructor
  · rintro ⟨y, h, rfl⟩
    rw [List.mem_range] at h
    omega
  · intro h
    exact ⟨x - a, List.mem_range.mpr (by omega), by omega⟩
theorem upto_sorted (a m : Nat) : (upto a m).Pairwise (· < ·) := by
  unfold upto
  rw [List.pairwise_map]
  exact (range_sorted m).imp fun h => by omega
theorem upto_len (a m : Nat) : (upto a m).length = m := by unfold upto; simp
theorem fold_upto (pre : List Pr) (a b : Nat) : ∀ k, (upto (b + 1) k).foldl stepR (pre ++ [(a, b)]) = pre ++ [(a, b + k)]
  | 0 => rfl
  | k + 1 => by
    rw [upto_succ, List.foldl_append, fold_upto pre a b k, List.foldl_cons, List.foldl_nil, stepR_snoc, if_pos (by simp; omega)]
    simp; omega
theorem runsL_run {a m : Nat} {l : List Nat} (h : ∀ x, l.head? = some x → a + m < x) (hm : 0 < m) : runsL (upto a m ++ l) = (a, a + m - 1) :: runsL l := by
  obtain ⟨k, rfl⟩ : ∃ k, m = k + 1 := ⟨m - 1, by omega⟩
  unfold runsL
  rw [List.foldl_append, upto_cons, List.foldl_cons]
  have e : stepR [] a = [] ++ [(a, a)] := rfl
  rw [e, fold_upto [] a a k, List.nil_append, fold_far (fun x hx => by have := h x hx; simp; omega)]
  rfl
/-- all runs lie within -/
theorem stepR_mem {acc : List Pr} {x : Nat} {p : Pr} (h : p ∈ stepR acc x) : p ∈ acc ∨ (p.2 = x ∧ (p.1 = x ∨ ∃ q ∈ acc, q.1 = p.1 ∧ q.2 + 1 = x)) := by
  unfold stepR at h
  split at h
  · rename_i q hq
    have hm := List.mem_of_getLast? hq
    split at h
    · rename_i c
      rcases List.mem_append.mp h with h | h
      · exact .inl ((List.dropLast_subset _ h))
      · simp at h; subst h; exact .inr ⟨rfl, .inr ⟨q, hm, rfl, c⟩⟩
    · rcases List.mem_append.mp h with h | h
      · exact .inl h
      · simp at h; subst h; exact .inr ⟨rfl, .inl rfl⟩
  · simp at h; subst h; exact .inr ⟨rfl, .inl rfl⟩
theorem runsL_snoc (l : List Nat) (x : Nat) : runsL (l ++ [x]) = stepR (runsL l) x := by
  unfold runsL; rw [List.foldl_append]; rfl
theorem runsL_mem : ∀ (n : Nat) (l : List Nat), l.length = n → ∀ p ∈ runsL l, p.1 ∈ l ∧ p.2 ∈ l ∧ p.1 ≤ p.2 := by
  intro n
  induction n with
  | zero => intro l hl p hp; have : l = [] := List.eq_nil_of_length_eq_zero hl; subst this; simp [runsL] at hp
  | succ n ih =>
    intro l hl p hp
    obtain ⟨q, x, rfl⟩ : ∃ q x, l = q ++ [x] := by
      have h : l ≠ [] := by intro e; subst e; simp at hl
      exact ⟨l.dropLast, l.getLast h, (List.dropLast_concat_getLast h).symm⟩
    rw [runsL_snoc] at hp
    have hq : q.length = n := by simpa using hl
    rcases stepR_mem hp with h | ⟨h1, h2 | ⟨r, hr, h2, h3⟩⟩
    · obtain ⟨a, b, c⟩ := ih q hq p h
      exact ⟨List.mem_append_left _ a, List.mem_append_left _ b, c⟩
    · exact ⟨by simp [h2], by simp [h1], by omega⟩
    · obtain ⟨a, b, c⟩ := ih q hq r hr
      exact ⟨by rw [← h2]; exact List.mem_append_left _ a, by simp [h1], by omega⟩
theorem runsL_len : ∀ (n : Nat) (l : List Nat), l.length = n → (runsL l).length ≤ n := by
  intro n
  induction n with
  | zero => intro l hl; have : l = [] := List.eq_nil_of_length_eq_zero hl; subst this; simp [runsL]
  | succ n ih =>
    intro l hl
    obtain ⟨q, x, rfl⟩ : ∃ q x, l = q ++ [x] := by
      have h : l ≠ [] := by intro e; subst e; simp at hl
      exact ⟨l.dropLast, l.getLast h, (List.dropLast_concat_getLast h).symm⟩
    rw [runsL_snoc]
    have := ih q (by simpa using hl)
    unfold stepR
    split
    · split
      · simp; omega
      · simp; omega
    · simp
/-- how many there are in the runs -/
def runSum (l : List Pr) : Int := (l.map fun p => (p.2 : Int) - (p.1 : Int) + 1).sum
theorem runSum_app (l m : List Pr) : runSum (l ++ m) = runSum l + runSum m := by unfold runSum; rw [List.map_append, List.sum_append]
theorem runSum_step (acc : List Pr) (x : Nat) : runSum (stepR acc x) = runSum acc + 1 := by
  by_cases h : acc = []
  · subst h; simp [stepR, runSum]
  · obtain ⟨q, p, rfl⟩ : ∃ q p, acc = q ++ [p] := ⟨acc.dropLast, acc.getLast h, (List.dropLast_concat_getLast h).symm⟩
    rw [stepR_snoc]
    split
    · rename_i c
      rw [runSum_app, runSum_app]
      simp [runSum]; omega
    · rw [runSum_app]
      simp [runSum]
theorem runSum_runs (l : List Nat) : runSum (runsL l) = l.length := by
  have : ∀ (l : List Nat) (acc : List Pr), runSum (l.foldl stepR acc) = runSum acc + l.length := by
    intro l
    induction l with
    | nil => intro acc; simp
    | cons x l ih => intro acc; rw [List.foldl_cons, ih, runSum_step]; simp; omega
  have h := this l []
  unfold runsL
  rw [h]; simp [runSum]
/-! ### the program's own way through the runs -/
/-- what is left behind a gap and a run -/
theorem peel {b : Nat} (h : 0 < b) (g c m r : Nat) (hg : g = tz b) (hc : c = b / 2 ^ g) (hm : m = tz (c + 1)) (hr : r = c / 2 ^ m) :
    0 < m ∧ bitsOf b = upto g m ++ (bitsOf r).map (g + m + ·) ∧ (∀ x, ((bitsOf r).map (g + m + ·)).head? = some x → g + m < x) ∧ r < b := by
  have cb : ∀ i, c.testBit i = b.testBit (i + g) := fun i => by rw [hc, Nat.testBit_div_two_pow]
  have c0 : c.testBit 0 = true := by rw [cb, Nat.zero_add, hg]; exact tz_bit h
  have codd : c % 2 = 1 := by
    rw [Nat.testBit_zero] at c0; simpa using c0
  have hm0 : 0 < m := by rw [hm, tz_even (by omega) (by omega)]; omega
  have clow : ∀ i, i < m → c.testBit i = true := fun i hi => by
    have := pred_bit (b := c + 1) (by omega) i
    rw [Nat.add_sub_cancel, if_pos (by omega)] at this
    exact this
  have cm : c.testBit m = false := by
    have := pred_bit (b := c + 1) (by omega) m
    rw [Nat.add_sub_cancel, if_neg (by omega), if_pos hm] at this
    exact this
  have rb : ∀ i, r.testBit i = c.testBit (i + m) := fun i => by rw [hr, Nat.testBit_div_two_pow]
  have r0 : r.testBit 0 = false := by rw [rb, Nat.zero_add]; exact cm
  have far : ∀ x ∈ (bitsOf r).map (g + m + ·), g + m < x := fun x hx => by
    obtain ⟨y, hy, rfl⟩ := List.mem_map.mp hx
    rw [mem_bitsOf] at hy
    cases y with
    | zero => rw [r0] at hy; cases hy
    | succ y => omega
  refine ⟨hm0, ?_, fun x hx => far x (List.mem_of_mem_head? hx), ?_⟩
  · refine sorted_ext (bitsOf_sorted b) ?_ fun x => ?_
    · refine List.pairwise_append.mpr ⟨upto_sorted _ _, ?_, fun x hx y hy => ?_⟩
      · rw [List.pairwise_map]
        exact (bitsOf_sorted r).imp fun q => by omega
      · have := far y hy
        rw [mem_upto] at hx
        omega
    · rw [mem_bitsOf, List.mem_append, mem_upto, List.mem_map]
      by_cases c1 : x < g
      · rw [tz_low h (by omega)]
        constructor
        · intro z; cases z
        · rintro (z | ⟨y, _, z⟩) <;> omega
      · obtain ⟨y, rfl⟩ : ∃ y, x = y + g := ⟨x - g, by omega⟩
        rw [← cb]
        by_cases c2 : y < m
        · rw [clow y c2]
          simp; left; omega
        · obtain ⟨z, rfl⟩ : ∃ z, y = z + m := ⟨y - m, by omega⟩
          rw [← rb]
          constructor
          · intro q; exact .inr ⟨z, mem_bitsOf.mpr q, by omega⟩
          · rintro (q | ⟨u, hu, q⟩)
            · omega
            · have : u = z := by omega
              subst this; exact mem_bitsOf.mp hu
  · have a : c ≤ b := by rw [hc]; exact Nat.div_le_self _ _
    have : r < c := by
      rw [hr]
      exact Nat.div_lt_self (by omega) (by have := Nat.pow_lt_pow_right (a := 2) (by decide) hm0; omega)
    omega
theorem runs_map_add (k : Nat) (l : List Nat) : runsL (l.map (k + ·)) = (runsL l).map fun p => (k + p.1, k + p.2) := by
  have : ∀ (l : List Nat) (acc : List Pr), (l.map (k + ·)).foldl stepR (acc.map fun p => (k + p.1, k + p.2)) = (l.foldl stepR acc).map fun p => (k + p.1, k + p.2) := by
    intro l
    induction l with
    | nil => intro acc; rfl
    | cons x l ih =>
      intro acc
      rw [List.map_cons, List.foldl_cons, List.foldl_cons, ← ih]
      congr 1
      by_cases h : acc = []
      · subst h; rfl
      · obtain ⟨q, p, rfl⟩ : ∃ q p, acc = q ++ [p] := ⟨acc.dropLast, acc.getLast h, (List.dropLast_concat_getLast h).symm⟩
        rw [List.map_append, List.map_cons, List.map_nil, stepR_snoc, stepR_snoc]
        by_cases c : p.2 + 1 = x
        · rw [if_pos c, if_pos (by simp; omega)]; simp
        · rw [if_neg c, if_neg (by simp; omega)]; simp
  exact this l []
/-- the runs of bits -/
def runsB (b : Nat) : List Pr := runsL (bitsOf b)
theorem runsB_zero : runsB 0 = [] := by unfold runsB; rw [bitsOf_zero]; rfl
theorem runsB_peel {b : Nat} (h : 0 < b) (g c m r : Nat) (hg : g = tz b) (hc : c = b / 2 ^ g) (hm : m = tz (c + 1)) (hr : r = c / 2 ^ m) :
    runsB b = (g, g + m - 1) :: (runsB r).map fun p => (g + m + p.1, g + m + p.2) := by
  obtain ⟨h1, h2, h3, _⟩ := peel h g c m r hg hc hm hr
  unfold runsB
  rw [h2, runsL_run h3 h1, runs_map_add]
theorem runSum_B (b : Nat) : runSum (runsB b) = popc b := runSum_runs _
/-! ### what weighs least: 0 a row, 1 runs, 2 words -/
/-! ### callables -/
structure Cal (P : Program) (w : World) (K : PySem.W.Frag) (mg : Str → Option Value) (base : Heap) (k : Nat) (x : Str) (sp : Sp) (dvs : List V) : Prop where
  ex : ∃ (f : Addr) (fd : FuncData) (ps : List Str) (ds : List Value), FnOk P w K mg base (L2N.CX P w) k f fd ps sp ∧ mg x = some (.ref f) ∧ PySem.W.keepIn K (.ref f) = true ∧ Binds K fd ps ds ∧ Vals dvs ds
structure Met (P : Program) (w : World) (K : PySem.W.Frag) (mg : Str → Option Value) (base : Heap) (k : Nat) (C : Addr) (m : Str) (sp : Sp) (dvs : List V) : Prop where
  ex : ∃ (f : Addr) (fd : FuncData) (ps : List Str) (ds : List Value), Cls K C ∧ L2.Meth K C m f ∧ FnOk P w K mg base (L2N.CX P w) k f fd ps sp ∧ Binds K fd ps ds ∧ Vals dvs ds
structure Mak (P : Program) (w : World) (K : PySem.W.Frag) (mg : Str → Option Value) (base : Heap) (k : Nat) (x : Str) (C : Addr) (sp : Sp) (dvs : List V) : Prop where
  ex : ∃ (f : Addr) (fd : FuncData) (ps : List Str) (ds : List Value), L2.Mk K C f ∧ FnOk P w K mg base (L2N.CX P w) k f fd ps sp ∧ mg x = some (.ref C) ∧ Binds K fd ps ds ∧ Vals dvs ds
/-- a method of one of several classes: fam says which promise a class's own has -/
def tMethF (fam : Addr → Sp → Prop) (m : Str) (dvs : List V) (E : XK) (ta : TE) (t : TA) : TE := fun σ H Q => ta σ H fun x H1 => ∃ a C dx fs sp, x = .ref a ∧ H1 a = some (.ins C dx fs) ∧ fam C sp ∧ fs.lookup m = none ∧
  t σ H1 fun vs H2 => sp (x :: (vs ++ dvs)) H2 Q E
section
variable {X : Cx} {k j : Nat} {C : Addr} {sp : Sp} {dvs : List V} {E : XK} {x m : Str} {p pos apos : Pos} {e o : Expr} {es : List Expr} {ta : TE} {t : TA}
theorem pe_c (c : Cal X.prog X.w X.K X.mg X.base k x sp dvs) (hr : Room j X.A) (hk : k ≤ j) (hg : Gl X x) (hx : Passes (L2N.CX X.prog X.w) X E) (ha : PA X (e :: es) t) (hdb : (x == ("__debug__" : Str)) = false := by decide)
    (he : starEach (e :: es) X.env = (false, eval e X.env) :: starEach es X.env := by rfl) (hpl : (backTo pos (starEach es X.env)).any (·.1) = false := by rfl) : PE X (.Call (.Name x p) (e :: es) [] pos) (tCall sp dvs E t) := by
  obtain ⟨f, fd, ps, ds, F, hm, kp, b, v⟩ := c.ex
  exact pe_call F (hr.mono hk) hg hm kp b v hx ha hdb he hpl
theorem pe_mk (c : Mak X.prog X.w X.K X.mg X.base k x C sp dvs) (hr : Room j X.A) (hk : k + 1 ≤ j) (hg : Gl X x) (hx : Passes (L2N.CX X.prog X.w) X E) (ha : PA X (e :: es) t) (hdb : (x == ("__debug__" : Str)) = false := by decide)
    (he : starEach (e :: es) X.env = (false, eval e X.env) :: starEach es X.env := by rfl) (hpl : (backTo pos (starEach es X.env)).any (·.1) = false := by rfl) : PE X (.Call (.Name x p) (e :: es) [] pos) (tMake C sp dvs E t) := by
  obtain ⟨f, fd, ps, ds, M, F, hm, b, v⟩ := c.ex
  exact pe_make M F (hr.mono hk) hg hm b v hx ha hdb he hpl
theorem pe_mk0 (c : Mak X.prog X.w X.K X.mg X.base k x C sp dvs) (hr : Room j X.A) (hk : k + 1 ≤ j) (hg : Gl X x) (hx : Passes (L2N.CX X.prog X.w) X E) (hdb : (x == ("__debug__" : Str)) = false := by decide) : PE X (.Call (.Name x p) [] [] pos) (tMake C sp dvs E tNil) := by
  obtain ⟨f, fd, ps, ds, M, F, hm, b, v⟩ := c.ex
  exact pe_make0 M F (hr.mono hk) hg hm b v hx hdb
theorem pe_m {fam : Addr → Sp → Prop} {pl : Sem Bool} (c : ∀ C sp, fam C sp → Met X.prog X.w X.K X.mg X.base k C m sp dvs) (hr : Room j X.A) (hk : k ≤ j) (hx : Passes (L2N.CX X.prog X.w) X E) (he : PE X o ta) (ha : PA X (e :: es) t)
    (hst : starEach (e :: es) X.env = (false, eval e X.env) :: starEach es X.env := by rfl) (hpl : (backTo pos (starEach es X.env)).any (·.1) = false := by rfl)
    (ht : eval (.Call (.Attribute o m apos) (e :: es) [] pos) X.env = (do
      let ov ← eval o X.env
      standAt apos.atName
      let (f, first) ← holding [ov] (getMethod ov m pl)
      callWith pos f first (backTo pos (starEach (e :: es) X.env)) (backToKw pos (keywordEach [] X.env))) := by rfl) :
    PE X (.Call (.Attribute o m apos) (e :: es) [] pos) (tMethF fam m dvs E ta t) := by
  refine ⟨fun pins s σ H Q I h => ?_⟩
  refine PySem.W.methodCall_KW (pl := pl) (thn (he.run pins s σ H _ I h) fun u s1 ⟨x, H1, I1, rx, a, C, dx, fs, sp, ex, ea, fm, l, q⟩ => ?_) ht
  obtain ⟨f, fd, ps, ds, cl, me, F, b, v⟩ := (c C sp fm).ex
  subst ex
  obtain rfl : u = Value.ref a := rx
  refine getmeth_ok I1 ea cl me l ?_
  refine PySem.W.callWith_K (first := [.ref a]) (h₀ := X.base) I.ok.mod.kin me.kp (thn (ha.run pos pins s1 σ H1 _ I1 q) fun us s2 ⟨vs, H2, I2, r, q2⟩ => ⟨I2.kIn, ?_⟩) hst hpl
  exact run_fn (us := .ref a :: us) (vs := .ref a :: vs) F (hr.mono hk) b v hx I2 (.cons rfl r) q2
theorem pe_m0 {fam : Addr → Sp → Prop} {pl : Sem Bool} (c : ∀ C sp, fam C sp → Met X.prog X.w X.K X.mg X.base k C m sp dvs) (hr : Room j X.A) (hk : k ≤ j) (hx : Passes (L2N.CX X.prog X.w) X E) (he : PE X o ta)
    (ht : eval (.Call (.Attribute o m apos) [] [] pos) X.env = (do
      let ov ← eval o X.env
      standAt apos.atName
      let (f, first) ← holding [ov] (getMethod ov m pl)
      callWith pos f first (backTo pos (starEach [] X.env)) (backToKw pos (keywordEach [] X.env))) := by rfl) :
    PE X (.Call (.Attribute o m apos) [] [] pos) (tMethF fam m dvs E ta tNil) := by
  refine ⟨fun pins s σ H Q I h => ?_⟩
  refine PySem.W.methodCall_KW (pl := pl) (thn (he.run pins s σ H _ I h) fun u s1 ⟨x, H1, I1, rx, a, C, dx, fs, sp, ex, ea, fm, l, q⟩ => ?_) ht
  obtain ⟨f, fd, ps, ds, cl, me, F, b, v⟩ := (c C sp fm).ex
  subst ex
  obtain rfl : u = Value.ref a := rx
  refine getmeth_ok I1 ea cl me l ?_
  exact PySem.W.callWith_K0 (first := [.ref a]) I1.kIn me.kp (run_fn (us := [.ref a]) (vs := [.ref a]) F (hr.mono hk) b v hx I1 (.cons rfl .nil) q)
end
/-! ### operators of several kinds -/
def rAdd : R2 := fun x y H Q => rI0 (fun i j => .int (i + j)) x y H Q ∨ (∃ i j, x = .str i ∧ y = .str j ∧ i.length + j.length ≤ sizeLine ∧ Q (.str (i ++ j)) H) ∨ rCat x y H Q
theorem u_add {X : Cx} : OpR X (binaryOp .Add) rAdd := op_add.or (op_add_str.or op_cat)
def rSub : R2 := rI0 fun i j => .int (i - j)
theorem u_sub {X : Cx} : OpR X (binaryOp .Sub) rSub := op_sub
def rMul : R2 := fun x y H Q => rI CMul (fun i j => .int (i * j)) x y H Q ∨ rI CMulX (fun i j => .int (i * j)) x y H Q ∨ rRep x y H Q
theorem u_mul {X : Cx} : OpR X (binaryOp .Mult) rMul := op_mul.or (op_mulX.or op_rep)
def rFdv : R2 := rI CDiv fun i j => .int (i / j)
theorem u_fdv {X : Cx} : OpR X (binaryOp .FloorDiv) rFdv := op_fdiv
def rMod : R2 := rI (fun _ j => 0 < j) fun i j => .int (i % j)
theorem u_mod {X : Cx} : OpR X (binaryOp .Mod) rMod := op_mod
def rShl : R2 := rI CShl fun i j => .int (i * 2 ^ j.toNat)
theorem u_shl {X : Cx} : OpR X (binaryOp .LShift) rShl := op_shlW
def rShr : R2 := rI (fun _ j => 0 ≤ j) fun i j => .int (i / 2 ^ j.toNat)
theorem u_shr {X : Cx} : OpR X (binaryOp .RShift) rShr := op_shr
def rBan : R2 := rI0 fun i j => .int (Builtin.bitAnd i j)
theorem u_ban {X : Cx} : OpR X (binaryOp .BitAnd) rBan := op_and
def rBor : R2 := rI0 fun i j => .int (Builtin.bitOr i j)
theorem u_bor {X : Cx} : OpR X (binaryOp .BitOr) rBor := op_or
def rBxo : R2 := rI0 fun i j => .int (Builtin.bitXor i j)
theorem u_bxo {X : Cx} : OpR X (binaryOp .BitXor) rBxo := op_xor
def rNeg : V → Hp → VK → Prop := rU fun i => .int (-i)
theorem u_neg {X : Cx} : UnR X (unaryOp .USub) rNeg := un_neg
def rInv : V → Hp → VK → Prop := rU fun i => .int (Builtin.bitNot i)
theorem u_inv {X : Cx} : UnR X (unaryOp .Invert) rInv := un_inv
/-- in place -/
def pAdd : R2 := fun x y H Q => rI0 (fun i j => .int (i + j)) x y H Q ∨ (∃ i j, x = .str i ∧ y = .str j ∧ i.length + j.length ≤ sizeLine ∧ Q (.str (i ++ j)) H) ∨ rExt2 x y H Q
theorem p_add {X : Cx} : PIp X .Add pAdd := iop_add.or (iop_add_str.or iop_ext)
def pSub : R2 := rI0 fun i j => .int (i - j)
def pShr : R2 := rI (fun _ j => 0 ≤ j) fun i j => .int (i / 2 ^ j.toNat)
theorem p_shr {X : Cx} : PIp X .RShift pShr := iop_shr
def pBan : R2 := rI0 fun i j => .int (Builtin.bitAnd i j)
theorem p_ban {X : Cx} : PIp X .BitAnd pBan := iop_and
def pBor : R2 := rI0 fun i j => .int (Builtin.bitOr i j)
theorem p_bor {X : Cx} : PIp X .BitOr pBor := iop_or
def pBxo : R2 := rI0 fun i j => .int (Builtin.bitXor i j)
theorem p_bxo {X : Cx} : PIp X .BitXor pBxo := iop_xor
/-- comparisons -/
def rEqu (K : PySem.W.Frag) : R2 := fun x y H Q => rEq x y H Q ∨ rEqD K x y H Q
theorem u_eq {X : Cx} {k : Nat} (hr : Room k X.A) : OpR X (compareOp .Eq) (rEqu X.K) := op_eq.or (op_eqD (by have := hr.un; omega))
def rNeu (K : PySem.W.Frag) : R2 := fun x y H Q => rNe x y H Q ∨ rNeD K x y H Q
theorem u_ne {X : Cx} {k : Nat} (hr : Room k X.A) : OpR X (compareOp .NotEq) (rNeu X.K) := op_ne.or (op_neD (by have := hr.un; omega))
def rLt : R2 := rI0 fun i j => .bl (decide (i < j))
theorem u_lt {X : Cx} : OpR X (compareOp .Lt) rLt := op_lt
def rLe : R2 := rI0 fun i j => .bl (decide (i ≤ j))
theorem u_le {X : Cx} : OpR X (compareOp .LtE) rLe := op_le
def rGt : R2 := rI0 fun i j => .bl (decide (j < i))
theorem u_gt {X : Cx} : OpR X (compareOp .Gt) rGt := op_gt
def rGe : R2 := rI0 fun i j => .bl (decide (j ≤ i))
def rIsN : R2 := fun x y H Q => y = .non ∧ Q (.bl (decide (x = .non))) H
theorem u_is {X : Cx} : OpR X (compareOp .Is) rIsN := op_isN
def rNotN : R2 := fun x y H Q => y = .non ∧ Q (.bl (!decide (x = .non))) H
/-- walked: a list, a tuple, a text -/
def iSeq (K : PySem.W.Frag) (tl : TE) : TI := fun σ H R => iList K tl σ H R ∨ iTup K tl σ H R ∨ iStr tl σ H R
theorem PI.or {X : Cx} {tg e : Expr} {w1 w2 : TI} (h1 : PI X tg e w1) (h2 : PI X tg e w2) : PI X tg e (fun σ H R => w1 σ H R ∨ w2 σ H R) := by
  constructor
  intros
  first
  | (rename_i h; rcases h with h | h; · exact h1.run _ _ _ _ _ (by assumption) h
     · exact h2.run _ _ _ _ _ (by assumption) h)
theorem pi_seq {X : Cx} {tg e : Expr} {tl : TE} (h : PE X e tl) : PI X tg e (iSeq X.K tl) := PI.or (pi_list h) (PI.or (pi_tup h) (pi_str h))
/-- a call's way out, within a def -/
theorem passUp {P : Program} {w : World} {K : PySem.W.Frag} {mg : Str → Option Value} {base : Heap} {N : List Str} {qual : Str} {scope : Scope} {f : Addr} {cd : Value} {A : Around} {outer : List Env} {s : Shared} {H : Hp} {E : XK} :
    Passes (L2N.CX P w) (cxOf (L2N.CX P w) P w K mg base N qual scope f cd A outer s H E) E :=
  L2N.passes_call (L2N.takes_of (X := cxOf (L2N.CX P w) P w K mg base N qual scope f cd A outer s H E) rfl rfl rfl rfl) fun _ _ _ _ h => h
theorem ownUp {P : Program} {w : World} {K : PySem.W.Frag} {mg : Str → Option Value} {base : Heap} {N : List Str} {qual : Str} {scope : Scope} {f : Addr} {cd : Value} {A : Around} {outer : List Env} {s : Shared} {H : Hp} {E : XK} :
    PassesOwn (model P w) (cxOf (L2N.CX P w) P w K mg base N qual scope f cd A outer s H E).A (cxOf (L2N.CX P w) P w K mg base N qual scope f cd A outer s H E).env (cxOf (L2N.CX P w) P w K mg base N qual scope f cd A outer s H E).xe :=
  passes_of (X := cxOf (L2N.CX P w) P w K mg base N qual scope f cd A outer s H E) rfl
/-! ### readings, from the left -/
section
variable {K : PySem.W.Frag} {σ : L2.St} {H H1 H2 : Hp} {Q : VK} {D : Ends} {v x y : V}
theorem w_var {i : Nat} (h : σ[i]? = some (some v)) (q : Q v H) : tVar i σ H Q := ⟨v, h, q⟩
theorem w_c (q : Q v H) : tC v σ H Q := q
theorem w_op {r : R2} {ta tb : TE} (h : ta σ H fun x H1 => tb σ H1 fun y H2 => r x y H2 Q) : tOp r ta tb σ H Q := h
theorem w_un {r : V → Hp → VK → Prop} {ta : TE} (h : ta σ H fun x H1 => r x H1 Q) : tUn r ta σ H Q := h
theorem w_nil {R : List V → Hp → Prop} (q : R [] H) : tNil σ H R := q
theorem w_cons {ta : TE} {tr : TA} {R : List V → Hp → Prop} (h : ta σ H fun x H1 => tr σ H1 fun xs H2 => R (x :: xs) H2) : tCons ta tr σ H R := h
theorem w_tup {t : TA} (h : t σ H fun xs H1 => xs.length ≤ sizeLine ∧ ∀ p, H1 p = none → Q (.ref p) (upd H1 p (.tup xs))) : tTup t σ H Q := h
theorem w_lst {t : TA} (h : t σ H fun xs H1 => xs.length ≤ sizeLine ∧ ∀ p, H1 p = none → Q (.ref p) (upd H1 p (.lst xs))) : tLst t σ H Q := h
theorem w_cb {r : List V → Hp → VK → Prop} {t : TA} (h : t σ H fun vs H1 => r vs H1 Q) : tCB r t σ H Q := h
theorem w_call {sp : Sp} {dvs : List V} {E : XK} {t : TA} (h : t σ H fun vs H1 => sp (vs ++ dvs) H1 Q E) : tCall sp dvs E t σ H Q := h
theorem w_meth {fam : Addr → Sp → Prop} {m : Str} {dvs : List V} {E : XK} {ta : TE} {t : TA} (h : ta σ H fun x H1 => ∃ a C dx fs sp, x = .ref a ∧ H1 a = some (.ins C dx fs) ∧ fam C sp ∧ fs.lookup m = none ∧ t σ H1 fun vs H2 => sp (x :: (vs ++ dvs)) H2 Q E) : tMethF fam m dvs E ta t σ H Q := h
theorem w_make {C : Addr} {sp : Sp} {dvs : List V} {E : XK} {t : TA} (h : t σ H fun vs H1 => ∀ x dx, H1 x = none → H1 dx = none → dx ≠ x → sp (.ref x :: (vs ++ dvs)) (upd (upd H1 dx (.own x)) x (.ins C dx [])) (fun v H2 => v = .non ∧ Q (.ref x) H2) E) : tMake C sp dvs E t σ H Q := h
theorem w_fld {ta : TE} {f : Str} (h : ta σ H fun x H1 => ∃ a C dx fs v, x = .ref a ∧ H1 a = some (.ins C dx fs) ∧ Cls K C ∧ NoAttr K C f ∧ fs.lookup f = some v ∧ Q v H1) : tFld K ta f σ H Q := h
theorem w_bm {T : String} {r : V → List V → Hp → VK → Prop} {to : TE} {t : TA} (h : to σ H fun x H1 => tyV K T x H1 ∧ t σ H1 fun xs H2 => r x xs H2 Q) : tBM K T r to t σ H Q := h
theorem w_bm0 {T : String} {r : V → List V → Hp → VK → Prop} {to : TE} (h : to σ H fun x H1 => tyV K T x H1 ∧ r x [] H1 Q) : tBM0 K T r to σ H Q := h
theorem w_bits {to : TE} (h : to σ H fun x H1 => ∃ i, x = .int i ∧ Q (.int (Builtin.Int.intBits i : Nat)) H1) : tBits to σ H Q := h
theorem w_bits1 {i : Int} {R : Int → Prop} (q : R i) : ∃ j, V.int i = .int j ∧ R j := ⟨i, rfl, q⟩
theorem w_sl {r : V → Option Int → Option Int → Hp → VK → Prop} {te : TE} {tl th : TO} (h : te σ H fun x H1 => tl σ H1 fun l H2 => th σ H2 fun u H3 => r x l u H3 Q) : tSl r te tl th σ H Q := h
theorem w_nopart {R : Option Int → Hp → Prop} (q : R none H) : tNoPart σ H R := q
theorem w_part {t : TE} {R : Option Int → Hp → Prop} (h : t σ H fun x H1 => ∃ i, x = .int i ∧ R (some i) H1) : tPart t σ H R := h
theorem w_ife {t : TT} {ta tb : TE} (h : t σ H fun c H1 => if c = true then ta σ H1 Q else tb σ H1 Q) : tIf t ta tb σ H Q := h
theorem w_andv {ta tb : TE} (h : ta σ H fun x H1 => ∃ c, x = .bl c ∧ if c = true then tb σ H1 Q else Q (.bl false) H1) : tAndV ta tb σ H Q := h
theorem w_orv {ta tb : TE} (h : ta σ H fun x H1 => ∃ c, x = .bl c ∧ if c = true then Q (.bl true) H1 else tb σ H1 Q) : tOrV ta tb σ H Q := h
theorem w_notv {ta : TE} (h : ta σ H fun x H1 => ∃ c, x = .bl c ∧ Q (.bl (!c)) H1) : tNotV ta σ H Q := h
theorem w_chain {r r' : R2} {ta tb tc : TE} (h : ta σ H fun x H1 => tb σ H1 fun y H2 => r x y H2 fun z H3 => ∃ k, z = .bl k ∧ (if k = true then tc σ H3 fun w' H4 => r' y w' H4 Q else Q (.bl false) H3)) : tChain r r' ta tb tc σ H Q := h
/-- tests -/
theorem w_test {t : TE} {R : Bool → Hp → Prop} (h : t σ H fun x H1 => ∃ k, x = .bl k ∧ R k H1) : tTest t σ H R := h
theorem w_tb {t : TE} {R : Bool → Hp → Prop} (h : t σ H fun x H1 => ∃ k, x = .bl k ∧ R k H1) : tB t σ H R := h
theorem w_bl {b : Bool} {R : Bool → Prop} (q : R b) : ∃ k, V.bl b = .bl k ∧ R k := ⟨b, rfl, q⟩
theorem w_and {t u : TT} {R : Bool → Hp → Prop} (h : t σ H fun c H1 => if c = true then u σ H1 R else R false H1) : tAnd t u σ H R := h
theorem w_or {t u : TT} {R : Bool → Hp → Prop} (h : t σ H fun c H1 => if c = true then R true H1 else u σ H1 R) : tOr t u σ H R := h
theorem w_not {t : TT} {R : Bool → Hp → Prop} (h : t σ H fun c H1 => R (!c) H1) : tNot t σ H R := h
/-- statements -/
theorem w_seq {t u : TS} (h : t { D with nx := u D } σ H) : tSeq t u D σ H := h
theorem w_next (h : D.nx σ H) : tNext D σ H := h
theorem w_drop {te : TE} (h : te σ H fun _ H1 => D.nx σ H1) : tDrop te D σ H := h
theorem w_ret {te : TE} (h : te σ H D.rt) : tRet te D σ H := h
theorem w_retn (h : D.rt .non H) : tRetN D σ H := h
theorem w_ifs {c : TT} {t u : TS} (h : c σ H fun b H1 => if b = true then t D σ H1 else u D σ H1) : tIfS c t u D σ H := h
theorem w_asg {te : TE} {g : TG} (h : te σ H fun x H1 => g x σ H1 D.nx) : tAsg te g D σ H := h
theorem w_name {i : Nat} {R : L2.St → Hp → Prop} (q : R (σ.set i (some v)) H) : gName i v σ H R := q
theorem w_gsub {to ti : TE} {t : TSet} {R : L2.St → Hp → Prop} (q : to σ H fun o H1 => ti σ H1 fun i H2 => t o i v H2 fun H3 => R σ H3) : gSub to ti t v σ H R := q
theorem w_yes {R : Bool → Hp → Prop} (q : R true H) : tYes σ H R := q
theorem w_gnil {R : L2.St → Hp → Prop} (q : R σ H) : gNil [] σ H R := ⟨rfl, q⟩
theorem w_gcons {t : TG} {u : TGs} {r : List V} {R : L2.St → Hp → Prop} (q : t v σ H fun σ' H' => u r σ' H' R) : gCons t u (v :: r) σ H R := ⟨v, r, rfl, q⟩
theorem w_aug {i : Nat} {te : TE} {ti : TIp} (h : σ[i]? = some (some x)) (q : te σ H fun y H1 => ti x y H1 fun z H2 => D.nx (σ.set i (some z)) H2) : tAug i te ti D σ H := ⟨x, h, q⟩
/-- operators by values -/
theorem r_add {i j : Int} (q : Q (.int (i + j)) H) : rAdd (.int i) (.int j) H Q := .inl ⟨i, j, rfl, rfl, q⟩
theorem r_adds {i j : Str} (h : i.length + j.length ≤ sizeLine) (q : Q (.str (i ++ j)) H) : rAdd (.str i) (.str j) H Q := .inr (.inl ⟨i, j, rfl, rfl, h, q⟩)
theorem r_sub {i j : Int} (q : Q (.int (i - j)) H) : rSub (.int i) (.int j) H Q := ⟨i, j, rfl, rfl, q⟩
theorem r_mul {i j : Int} (h : CMul i j) (q : Q (.int (i * j)) H) : rMul (.int i) (.int j) H Q := .inl ⟨i, j, rfl, rfl, h, q⟩
theorem r_fdv {i j : Int} (h : CDiv i j) (q : Q (.int (i / j)) H) : rFdv (.int i) (.int j) H Q := ⟨i, j, rfl, rfl, h, q⟩
theorem r_mod {i j : Int} (h : 0 < j) (q : Q (.int (i % j)) H) : rMod (.int i) (.int j) H Q := ⟨i, j, rfl, rfl, h, q⟩
theorem r_shl {i j : Int} (h : CShl i j) (q : Q (.int (i * 2 ^ j.toNat)) H) : rShl (.int i) (.int j) H Q := ⟨i, j, rfl, rfl, h, q⟩
theorem r_shr {i j : Int} (h : 0 ≤ j) (q : Q (.int (i / 2 ^ j.toNat)) H) : rShr (.int i) (.int j) H Q := ⟨i, j, rfl, rfl, h, q⟩
theorem r_ban {i j : Int} (q : Q (.int (Builtin.bitAnd i j)) H) : rBan (.int i) (.int j) H Q := ⟨i, j, rfl, rfl, q⟩
theorem r_bor {i j : Int} (q : Q (.int (Builtin.bitOr i j)) H) : rBor (.int i) (.int j) H Q := ⟨i, j, rfl, rfl, q⟩
theorem r_bxo {i j : Int} (q : Q (.int (Builtin.bitXor i j)) H) : rBxo (.int i) (.int j) H Q := ⟨i, j, rfl, rfl, q⟩
theorem r_neg {i : Int} (q : Q (.int (-i)) H) : rNeg (.int i) H Q := ⟨i, rfl, q⟩
theorem r_inv {i : Int} (q : Q (.int (Builtin.bitNot i)) H) : rInv (.int i) H Q := ⟨i, rfl, q⟩
theorem r_padd {i j : Int} (q : Q (.int (i + j)) H) : pAdd (.int i) (.int j) H Q := .inl ⟨i, j, rfl, rfl, q⟩
theorem r_padds {i j : Str} (h : i.length + j.length ≤ sizeLine) (q : Q (.str (i ++ j)) H) : pAdd (.str i) (.str j) H Q := .inr (.inl ⟨i, j, rfl, rfl, h, q⟩)
theorem r_psub {i j : Int} (q : Q (.int (i - j)) H) : pSub (.int i) (.int j) H Q := ⟨i, j, rfl, rfl, q⟩
theorem r_pshr {i j : Int} (h : 0 ≤ j) (q : Q (.int (i / 2 ^ j.toNat)) H) : pShr (.int i) (.int j) H Q := ⟨i, j, rfl, rfl, h, q⟩
theorem r_pban {i j : Int} (q : Q (.int (Builtin.bitAnd i j)) H) : pBan (.int i) (.int j) H Q := ⟨i, j, rfl, rfl, q⟩
theorem r_pbor {i j : Int} (q : Q (.int (Builtin.bitOr i j)) H) : pBor (.int i) (.int j) H Q := ⟨i, j, rfl, rfl, q⟩
theorem r_pbxo {i j : Int} (q : Q (.int (Builtin.bitXor i j)) H) : pBxo (.int i) (.int j) H Q := ⟨i, j, rfl, rfl, q⟩
theorem r_eqi {i j : Int} (q : Q (.bl (decide (i = j))) H) : rEqu K (.int i) (.int j) H Q := .inl ⟨rfl, by
  have e : decide (V.int i = V.int j) = decide (i = j) := by rw [dec_int, Bool.beq_eq_decide_eq]
  rw [e]; exact q⟩
theorem r_nei {i j : Int} (q : Q (.bl (!decide (i = j))) H) : rNeu K (.int i) (.int j) H Q := .inl ⟨rfl, by
  have e : decide (V.int i = V.int j) = decide (i = j) := by rw [dec_int, Bool.beq_eq_decide_eq]
  rw [e]; exact q⟩
theorem r_eqb {i j : Bool} (q : Q (.bl (decide (i = j))) H) : rEqu K (.bl i) (.bl j) H Q := .inl ⟨rfl, by
  have e : decide (V.bl i = V.bl j) = decide (i = j) := by rw [dec_bl, Bool.beq_eq_decide_eq]
  rw [e]; exact q⟩
theorem r_neb {i j : Bool} (q : Q (.bl (!decide (i = j))) H) : rNeu K (.bl i) (.bl j) H Q := .inl ⟨rfl, by
  have e : decide (V.bl i = V.bl j) = decide (i = j) := by rw [dec_bl, Bool.beq_eq_decide_eq]
  rw [e]; exact q⟩
theorem r_eqs {i j : Str} (q : Q (.bl (decide (i = j))) H) : rEqu K (.str i) (.str j) H Q := .inl ⟨rfl, by
  have e : decide (V.str i = V.str j) = decide (i = j) := by rw [Bool.eq_iff_iff]; simp
  rw [e]; exact q⟩
theorem r_nes {i j : Str} (q : Q (.bl (!decide (i = j))) H) : rNeu K (.str i) (.str j) H Q := .inl ⟨rfl, by
  have e : decide (V.str i = V.str j) = decide (i = j) := by rw [Bool.eq_iff_iff]; simp
  rw [e]; exact q⟩
theorem r_eqd {d e : PyData} (hd : Dp K H x d) (he : Dp K H y e) (sd : SeqAt.shaped d = true) (se : SeqAt.shaped e = true) (q : Q (.bl (PyData.eqv d e)) H) : rEqu K x y H Q := .inr ⟨d, e, hd, he, sd, se, q⟩
theorem r_ned {d e : PyData} (hd : Dp K H x d) (he : Dp K H y e) (sd : SeqAt.shaped d = true) (se : SeqAt.shaped e = true) (q : Q (.bl (!PyData.eqv d e)) H) : rNeu K x y H Q := .inr ⟨d, e, hd, he, sd, se, q⟩
theorem r_lt {i j : Int} (q : Q (.bl (decide (i < j))) H) : rLt (.int i) (.int j) H Q := ⟨i, j, rfl, rfl, q⟩
theorem r_le {i j : Int} (q : Q (.bl (decide (i ≤ j))) H) : rLe (.int i) (.int j) H Q := ⟨i, j, rfl, rfl, q⟩
theorem r_gt {i j : Int} (q : Q (.bl (decide (j < i))) H) : rGt (.int i) (.int j) H Q := ⟨i, j, rfl, rfl, q⟩
theorem r_ge {i j : Int} (q : Q (.bl (decide (j ≤ i))) H) : rGe (.int i) (.int j) H Q := ⟨i, j, rfl, rfl, q⟩
theorem r_is (q : Q (.bl (decide (x = .non))) H) : rIsN x .non H Q := ⟨rfl, q⟩
theorem r_isnot (q : Q (.bl (!decide (x = .non))) H) : rNotN x .non H Q := ⟨rfl, q⟩
/-- subscripts -/
theorem r_ixL {p : Addr} {xs : List V} {i : Int} (h : SqL K H p xs) (e : atI xs i = some v) (q : Q v H) : rIx K (.ref p) (.int i) H Q := .inl ⟨p, xs, i, v, rfl, rfl, h, e, q⟩
theorem r_ixT {p : Addr} {xs : List V} {i : Int} (h : SqT K H p xs) (e : atI xs i = some v) (q : Q v H) : rIx K (.ref p) (.int i) H Q := .inr (.inl ⟨p, xs, i, v, rfl, rfl, h, e, q⟩)
end
/-! ### if -/
theorem if_t {c : Bool} {A B : Prop} (h : c = true) (a : A) : if c = true then A else B := by rw [if_pos h]; exact a
theorem if_f {c : Bool} {A B : Prop} (h : c = false) (b : B) : if c = true then A else B := by rw [h, if_neg Bool.false_ne_true]; exact b
theorem if_d {c : Prop} [Decidable c] {A B : Prop} (h1 : c → A) (h2 : ¬ c → B) : if decide c = true then A else B := by
  by_cases h : c
  · rw [decide_eq_true h, if_pos rfl]; exact h1 h
  · rw [decide_eq_false h, if_neg Bool.false_ne_true]; exact h2 h
theorem if_nd {c : Prop} [Decidable c] {A B : Prop} (h1 : ¬ c → A) (h2 : c → B) : if (!decide c) = true then A else B := by
  by_cases h : c
  · rw [decide_eq_true h]; exact h2 h
  · rw [decide_eq_false h]; exact h1 h
theorem if_b {c : Bool} {A B : Prop} (h1 : c = true → A) (h2 : c = false → B) : if c = true then A else B := by
  cases c
  · exact h2 rfl
  · exact h1 rfl
theorem w_nT {A B : Prop} (h : B) : if (!true) = true then A else B := h
theorem w_nF {A B : Prop} (h : A) : if (!false) = true then A else B := h
/-! ### while, for -/
theorem w_while {c : TT} {tb : TS} {D : Ends} {σ : L2.St} {H : Hp} (W : Nat → L2.St → Hp → Prop) (m : Nat) (h0 : W m σ H) (hs : ∀ m σ H, W m σ H → c σ H fun b H1 => if b = true then ∃ N : L2.St → Hp → Prop, (∀ σ' H', N σ' H' → ∃ m', m' < m ∧ W m' σ' H') ∧ tb { D with nx := N, ct := N, bk := D.nx } σ H1 else D.nx σ H1) :
    tWhile c tb D σ H := ⟨W, ⟨m, h0⟩, hs⟩
theorem w_body {W : Nat → L2.St → Hp → Prop} {m : Nat} {tb : (L2.St → Hp → Prop) → Prop} (h : tb fun σ' H' => ∃ m', m' < m ∧ W m' σ' H') : ∃ N : L2.St → Hp → Prop, (∀ σ' H', N σ' H' → ∃ m', m' < m ∧ W m' σ' H') ∧ tb N := ⟨_, fun _ _ x => x, h⟩
section
variable {K : PySem.W.Frag} {tl : TE} {g : TG} {tb : TS} {D : Ends} {σ : L2.St} {H : Hp}
theorem w_for {wi : TI} (h : wi σ H fun J H1 => ∃ W : Nat → Nat → L2.St → Hp → Prop, (∃ m, W 0 m σ H1) ∧ ∀ i m σ H, W i m σ H →
    (J.stop i H ∧ D.nx σ H) ∨ (J.go i H ∧ ∃ N : L2.St → Hp → Prop, (∀ σ' H', N σ' H' → ∃ m', m' < m ∧ W (i + 1) m' σ' H') ∧ ∀ x H', J.yld i H x H' → g x σ H' fun σ2 H2 => tb { D with nx := N, ct := N, bk := D.nx } σ2 H2)) : tFor wi g tb D σ H := h
theorem w_rng1 {ta : TA} {R : It → Hp → Prop} (h : ta σ H fun vs H1 => ∃ j : Int, vs = [.int j] ∧ -(2 ^ 62) ≤ j ∧ j < 2 ^ 62 ∧ R (Itr 0 j.toNat) H1) : iRng1 ta σ H R := h
theorem w_rng2 {ta : TA} {R : It → Hp → Prop} (h : ta σ H fun vs H1 => ∃ i j : Int, vs = [.int i, .int j] ∧ (-(2 ^ 62) ≤ i ∧ i < 2 ^ 62 ∧ -(2 ^ 62) ≤ j ∧ j < 2 ^ 62) ∧ R (Itr i (j - i).toNat) H1) : iRng2 ta σ H R := h
theorem w_iList {R : It → Hp → Prop} (h : tl σ H fun x H1 => ∃ a, x = .ref a ∧ (∃ xs, SqL K H1 a xs) ∧ R (Itl K a) H1) : iList K tl σ H R := h
theorem w_iTup {R : It → Hp → Prop} (h : tl σ H fun x H1 => ∃ a, x = .ref a ∧ (∃ xs, SqT K H1 a xs) ∧ R (Itt K a) H1) : iTup K tl σ H R := h
theorem w_iStr {R : It → Hp → Prop} (h : tl σ H fun v H1 => ∃ x, v = .str x ∧ R (Its x) H1) : iStr tl σ H R := h
theorem w_ort {ta tb : TE} {Q : VK} (h : ta σ H fun x H1 => ∃ k, TruV K x H1 k ∧ if k = true then Q x H1 else tb σ H1 Q) : tOrT K ta tb σ H Q := h
theorem w_revL {ta : TE} {Q : VK} (h : ta σ H fun x H1 => ∃ a xs, x = .ref a ∧ SqL K H1 a xs ∧ ∀ p, H1 p = none → Q (.ref p) (upd H1 p (.lst xs.reverse))) : tRevL K ta σ H Q := h
theorem w_lockE {t : TE} {Q : VK} (h : ∃ d u, H d = some u ∧ Mut (some u) ∧ ∀ od, t σ (upd H d (.frz od u)) fun v H' => H' d = some (.frz od u) ∧ Q v (upd H' d u)) : tLockE t σ H Q := h
theorem w_lockS {t : TS} (h : ∃ d u, H d = some u ∧ Mut (some u) ∧ ∀ od, t ⟨fun σ' H' => H' d = some (.frz od u) ∧ D.nx σ' (upd H' d u), fun v H' => H' d = some (.frz od u) ∧ D.rt v (upd H' d u), fun σ' H' => H' d = some (.frz od u) ∧ D.bk σ' (upd H' d u), fun σ' H' => H' d = some (.frz od u) ∧ D.ct σ' (upd H' d u)⟩ σ (upd H d (.frz od u))) : tLock t D σ H := h
theorem w_dget {td ty : TE} {Q : VK} (h : td σ H fun x H1 => ty σ H1 fun y H2 => ∃ a v, x = .ref a ∧ DGet H2 a y (some v) ∧ Q v H2) : tDGet td ty σ H Q := h
theorem w_din {td ty : TE} {Q : VK} (h : ty σ H fun y H1 => td σ H1 fun x H2 => ∃ a o, x = .ref a ∧ DGet H2 a y o ∧ Q (.bl o.isSome) H2) : tDIn ty td σ H Q := h
theorem w_dnotin {td ty : TE} {Q : VK} (h : ty σ H fun y H1 => td σ H1 fun x H2 => ∃ a o, x = .ref a ∧ DGet H2 a y o ∧ Q (.bl (!o.isSome)) H2) : tDNotIn ty td σ H Q := h
theorem w_dput {td ty tv : TE} (h : tv σ H fun v H1 => td σ H1 fun x H2 => ty σ H2 fun y H3 => ∃ a H4, x = .ref a ∧ DPut H3 a y v H4 ∧ D.nx σ H4) : sDPut td ty tv D σ H := h
theorem w_dpop2 {td ty tx : TE} {Q : VK} (h : td σ H fun x H1 => ∃ a, x = .ref a ∧ IsD H1 a ∧ ty σ H1 fun y H2 => tx σ H2 fun z H3 => ∃ kvs k, H3 a = some (.dK kvs) ∧ y = kV k ∧ (∀ v, valV kvs k = some v → Q v (upd H3 a (.dK (dropK kvs k)))) ∧ (valV kvs k = none → Q z H3)) : tDPop2 td ty tx σ H Q := h
theorem w_sfld {ta tv : TE} {f : Str} (h : tv σ H fun y H1 => ta σ H1 fun x H2 => ∃ a C dx fs, x = .ref a ∧ H2 a = some (.ins C dx fs) ∧ Cls K C ∧ NoAttr K C f ∧ fs.length < 1000 ∧ D.nx σ (upd H2 a (.ins C dx (putF f y fs)))) : sFld K ta tv f D σ H := h
theorem w_iItems {R : It → Hp → Prop} (h : tl σ H fun x H1 => ∃ d o kvs, x = .ref d ∧ H1 d = some (.frz o (.dK kvs)) ∧ R (Iti d o kvs) H1) : iItems tl σ H R := h
theorem w_iVals {R : It → Hp → Prop} (h : tl σ H fun x H1 => ∃ d o kvs, x = .ref d ∧ H1 d = some (.frz o (.dK kvs)) ∧ R (Itd d o kvs) H1) : iVals tl σ H R := h
theorem w_iKeys {R : It → Hp → Prop} (h : tl σ H fun x H1 => ∃ d o, x = .ref d ∧ ((∃ kvs, H1 d = some (.frz o (.dK kvs)) ∧ R (Itk d o kvs) H1) ∨ ∃ kvs, H1 d = some (.frz o (.dT kvs)) ∧ R (Itkt d o kvs) H1)) : iKeys tl σ H R := h
theorem w_lc {wi : TI} {tt : TT} {te : TE} {vs : List Nat} {Q : VK} (h : wi σ H fun J H1 => ∀ D, H1 D = none → ∃ W : Nat → Nat → Hp → Prop, (∃ m, W 0 m (upd H1 D (.lst []))) ∧ ∀ i m H, W i m H →
  (J.stop i H ∧ Q (.ref D) H) ∨ (J.go i H ∧ ∃ Nx : Hp → Prop, (∀ H', Nx H' → ∃ m', m' < m ∧ W (i + 1) m' H') ∧ ∀ x H', J.yld i H x H' → g x (wipe σ vs) H' fun σ2 H2 => wipe σ2 vs = wipe σ vs ∧ tt σ2 H2 fun b H3 =>
    if b = true then te σ2 H3 fun y H4 => ∃ acc, H4 D = some (.lst acc) ∧ acc.length < sizeLine ∧ Nx (upd H4 D (.lst (acc ++ [y]))) else Nx H3)) : tLc wi g tt te vs σ H Q := h
end
/-! ### heaps that grow -/
theorem new_of {H H1 : Hp} {p : Addr} {o : HO} (np : H p = none) (e : upd H p o = H1) : Same H H1 ∧ H1 p = some o ∧ ∀ b, H1 b = none → H b = none := by
  subst e
  refine ⟨fun b u q => ?_, upd_same, fun b q => ?_⟩
  · rw [upd_ne (ne_of_none q np)]; exact q
  · by_cases c : b = p
    · subst c; exact np
    · rw [upd_ne c] at q; exact q
/-- what the caller knew stays, though the local list at p is written -/
theorem _root_.L2.Same.mut {H H' : Hp} {p : Addr} {o : HO} (s : Same H H') (h : H p = none) : Same H (upd H' p o) := fun b u q => by
  rw [upd_ne (ne_of_none q h)]; exact s b u q
theorem _root_.L2.Same.tup {K : PySem.W.Frag} {H H' : Hp} {a : Addr} {xs : List V} (e : Same H H') (h : SqT K H a xs) : SqT K H' a xs := by
  rcases h with (h | ⟨o, h⟩) | h
  · exact .inl (.inl (e _ _ h))
  · exact .inl (.inr ⟨o, e _ _ h⟩)
  · exact .inr h
mutual
theorem dp_ext {K : PySem.W.Frag} {H H' : Hp} (e : Same H H') : ∀ (d : PyData) {v : V}, Dp K H v d → Dp K H' v d
  | .none, _, h => by cases h; exact .non
  | .bool b, _, h => by cases h; exact .bl b
  | .int i, _, h => by cases h; exact .int i
  | .str x, _, h => by cases h; exact .str x
  | .list ds, _, h => by
    cases h with
    | lst h1 h2 => exact .lst (e.seq h1) (dpa_ext e ds h2)
  | .tuple ds, _, h => by
    cases h with
    | tup h1 h2 => exact .tup (Same.tup e h1) (dpa_ext e ds h2)
  | .dict _, _, h => by cases h
theorem dpa_ext {K : PySem.W.Frag} {H H' : Hp} (e : Same H H') : ∀ (ds : List PyData) {vs : List V}, DpAll K H vs ds → DpAll K H' vs ds
  | [], _, h => by cases h; exact .nil
  | d :: ds, _, h => by
    cases h with
    | cons h1 h2 => exact .cons (dp_ext e d h1) (dpa_ext e ds h2)
end
theorem _root_.L2.Dp.ext {K : PySem.W.Frag} {H H' : Hp} {v : V} {d : PyData} (h : Dp K H v d) (e : Same H H') : Dp K H' v d := dp_ext e d h
theorem _root_.L2.DpAll.ext {K : PySem.W.Frag} {H H' : Hp} {vs : List V} {ds : List PyData} (h : DpAll K H vs ds) (e : Same H H') : DpAll K H' vs ds := dpa_ext e ds h
theorem dpa_len {K : PySem.W.Frag} {H : Hp} : ∀ {vs : List V} {ds : List PyData}, DpAll K H vs ds → vs.length = ds.length
  | _, _, .nil => rfl
  | _, _, .cons _ t => by simp [dpa_len t]
theorem dpa_get {K : PySem.W.Frag} {H : Hp} : ∀ {vs : List V} {ds : List PyData} {i : Nat} {v : V}, DpAll K H vs ds → vs[i]? = some v → ∃ d, ds[i]? = some d ∧ Dp K H v d
  | _, _, _, _, .nil, e => by simp at e
  | _, _, 0, _, .cons h _, e => by simp at e; subst e; exact ⟨_, rfl, h⟩
  | _, _, i + 1, v, .cons _ t, e => by
    obtain ⟨d, h1, h2⟩ := dpa_get (i := i) (v := v) t (by simpa using e)
    exact ⟨d, by simpa using h1, h2⟩
theorem dpa_app {K : PySem.W.Frag} {H : Hp} : ∀ {vs ws : List V} {ds es : List PyData}, DpAll K H vs ds → DpAll K H ws es → DpAll K H (vs ++ ws) (ds ++ es)
  | _, _, _, _, .nil, s => s
  | _, _, _, _, .cons r t, s => .cons r (dpa_app t s)
theorem _root_.L2.DpAll.len {K : PySem.W.Frag} {H : Hp} {vs : List V} {ds : List PyData} (h : DpAll K H vs ds) : vs.length = ds.length := dpa_len h
theorem _root_.L2.DpAll.get {K : PySem.W.Frag} {H : Hp} {vs : List V} {ds : List PyData} {i : Nat} {v : V} (h : DpAll K H vs ds) (e : vs[i]? = some v) : ∃ d, ds[i]? = some d ∧ Dp K H v d := dpa_get h e
theorem _root_.L2.DpAll.append {K : PySem.W.Frag} {H : Hp} {vs ws : List V} {ds es : List PyData} (h : DpAll K H vs ds) (g : DpAll K H ws es) : DpAll K H (vs ++ ws) (ds ++ es) := dpa_app h g
theorem dpa_ints {K : PySem.W.Frag} {H : Hp} : ∀ ns : List Int, DpAll K H (ns.map V.int) (ns.map PyData.int)
  | [] => .nil
  | n :: ns => .cons (.int n) (dpa_ints ns)
theorem dpa_split {K : PySem.W.Frag} {H : Hp} : ∀ {ys : List V} {ds : List PyData} {v : V} {d : PyData}, ys.length = ds.length → DpAll K H (ys ++ [v]) (ds ++ [d]) → DpAll K H ys ds ∧ Dp K H v d
  | [], [], _, _, _, h => by
    cases h with
    | cons h1 h2 => exact ⟨.nil, h1⟩
  | [], _ :: _, _, _, e, _ => by simp at e
  | _ :: _, [], _, _, e, _ => by simp at e
  | y :: ys, e :: ds, v, d, l, h => by
    cases h with
    | cons h1 h2 =>
      obtain ⟨a, b⟩ := dpa_split (by simpa using l) h2
      exact ⟨.cons h1 a, b⟩
/-! ### data that a callee made: it stays while the new objects stay -/
def New (H H' H'' : Hp) : Prop := ∀ b o, H b = none → H' b = some o → H'' b = some o
def Fd (K : PySem.W.Frag) (H H' : Hp) (v : V) (d : PyData) : Prop := ∀ H'', New H H' H'' → Dp K H'' v d
def Fds (K : PySem.W.Frag) (H H' : Hp) (vs : List V) (ds : List PyData) : Prop := ∀ H'', New H H' H'' → DpAll K H'' vs ds
section
variable {K : PySem.W.Frag} {H H0 H1 H2 H' : Hp} {v : V} {d : PyData} {vs : List V} {ds : List PyData} {p : Addr}
theorem New.refl : New H H' H' := fun _ _ _ q => q
theorem New.same (s : Same H1 H2) : New H H1 H2 := fun b o _ q => s b o q
theorem New.trans (a : New H H1 H2) (b : New H H2 H') : New H H1 H' := fun c o n q => b c o n (a c o n q)
theorem New.left (h : ∀ b, H0 b = none → H b = none) (a : New H H1 H2) : New H0 H1 H2 := fun c o n q => a c o (h c n) q
/-- an object of the left heap is written -/
theorem New.mut {o u : HO} (hp : H p = some u) (e : New H H1 H2) : New H H1 (upd H2 p o) := fun b q n z => by
  rw [upd_ne (fun e => by rw [e, hp] at n; cases n)]; exact e b q n z
theorem Fd.now (h : Fd K H H' v d) : Dp K H' v d := h H' New.refl
theorem Fds.now (h : Fds K H H' vs ds) : DpAll K H' vs ds := h H' New.refl
theorem Fd.to (h : Fd K H H1 v d) (e : New H H1 H2) : Fd K H H2 v d := fun H'' n => h H'' (e.trans n)
theorem Fds.to (h : Fds K H H1 vs ds) (e : New H H1 H2) : Fds K H H2 vs ds := fun H'' n => h H'' (e.trans n)
theorem Fd.left (h : Fd K H H1 v d) (e : ∀ b, H b = none → H0 b = none) : Fd K H0 H1 v d := fun H'' n => h H'' (fun b o q z => n b o (e b q) z)
theorem Fds.left (h : Fds K H H1 vs ds) (e : ∀ b, H b = none → H0 b = none) : Fds K H0 H1 vs ds := fun H'' n => h H'' (fun b o q z => n b o (e b q) z)
theorem Fd.int (i : Int) : Fd K H H' (.int i) (.int i) := fun _ _ => .int i
theorem Fd.str (i : Str) : Fd K H H' (.str i) (.str i) := fun _ _ => .str i
theorem Fd.bl (i : Bool) : Fd K H H' (.bl i) (.bool i) := fun _ _ => .bl i
theorem Fd.non : Fd K H H' .non .none := fun _ _ => .non
theorem Fds.nil : Fds K H H' [] [] := fun _ _ => .nil
theorem Fds.cons (a : Fd K H H' v d) (b : Fds K H H' vs ds) : Fds K H H' (v :: vs) (d :: ds) := fun H'' n => .cons (a H'' n) (b H'' n)
theorem Fds.snoc (b : Fds K H H' vs ds) (a : Fd K H H' v d) : Fds K H H' (vs ++ [v]) (ds ++ [d]) := fun H'' n => dpa_app (b H'' n) (.cons (a H'' n) .nil)
theorem Fds.ints (ns : List Int) : Fds K H H' (ns.map V.int) (ns.map PyData.int) := fun _ _ => dpa_ints ns
theorem Fd.lst (np : H p = none) (hp : H' p = some (.lst vs)) (h : Fds K H H' vs ds) : Fd K H H' (.ref p) (.list ds) := fun H'' n => .lst (.inl (.inl (n p _ np hp))) (h H'' n)
theorem Fd.tup (np : H p = none) (hp : H' p = some (.tup vs)) (h : Fds K H H' vs ds) : Fd K H H' (.ref p) (.tuple ds) := fun H'' n => .tup (.inl (.inl (n p _ np hp))) (h H'' n)
theorem Fds.len (h : Fds K H H' vs ds) : vs.length = ds.length := h.now.len
end
/-! ### what a list of data holds -/
theorem _root_.L2.Dp.tup_inv {K : PySem.W.Frag} {H : Hp} {v : V} {ds : List PyData} (h : Dp K H v (.tuple ds)) : ∃ a xs, v = .ref a ∧ SqT K H a xs ∧ DpAll K H xs ds := by
  cases h with
  | tup h1 h2 => exact ⟨_, _, rfl, h1, h2⟩
theorem dpa_ints_inv {K : PySem.W.Frag} {H : Hp} : ∀ {vs : List V} {ns : List Int}, DpAll K H vs (ns.map PyData.int) → vs = ns.map V.int
  | _, [], h => by cases h; rfl
  | _, n :: ns, h => by
    cases h with
    | cons h1 h2 =>
      cases h1
      rw [dpa_ints_inv h2]; rfl
theorem sz5 {n : Nat} (h : n ≤ 100000) : n ≤ sizeLine := Nat.le_trans h (by decide)
theorem sl5 {n : Nat} (h : n < 100000) : n < sizeLine := Nat.lt_of_lt_of_le h (by decide)
/-! ### the program's addresses -/
inductive Kd where | row | runs | bits
  deriving DecidableEq
/-- a lambda's words -/
structure LamD where
  q : Str
  params : Arguments
  body : Expr
  scope : Scope
/-- the program's ways to make bits of bits -/
inductive Wy where | putA | dropA | turnA | joinW | metW | lessW | apartW
  deriving DecidableEq
def Wy.op : Wy → Nat → Nat → Nat
  | .putA, a, b => a ||| b
  | .dropA, a, b => andn a b
  | .turnA, a, b => a ^^^ b
  | .joinW, a, b => a ||| b
  | .metW, a, b => a &&& b
  | .lessW, a, b => andn a b
  | .apartW, a, b => a ^^^ b
structure Cs where
  K : PySem.W.Frag
  row : Addr
  runs : Addr
  bits : Addr
  set : Addr
  sack : Addr
  eSackError : Addr
  eNoNumber : Addr
  eNoStretch : Addr
  eNoRank : Addr
  eNoText : Addr
  way : Wy → LamD
  T : List (Addr × Str)
def Cs.kd (c : Cs) : Kd → Addr
  | .row => c.row
  | .runs => c.runs
  | .bits => c.bits
/-- what the sacks' classes are -/
structure Good (c : Cs) : Prop where
  cl : ∀ k, Cls c.K (c.kd k)
  na : ∀ k, NoAttr c.K (c.kd k) "bits"
structure GoodS (c : Cs) : Prop extends Good c where
  cs : Cls c.K c.set
  ns : NoAttr c.K c.set "by_upper"
/-- an exception's class of the program's own -/
structure ExcF (K : PySem.W.Frag) (mg : Str → Option Value) (x : Str) (C : Addr) : Prop where
  xi : PySem.W.excIn K C [.type "ValueError", .type "Exception", .type "BaseException", .type "object"] "ValueError.__new__" = true
  g : mg x = some (.ref C)
  k : PySem.W.keepIn K (.ref C) = true
  b : PySem.W.subIn K (.ref C) (.type "BaseException") = some true
  t : PySem.W.typeIn K (.ref C) = some (.type "type")
theorem pmk_x {X : Cx} {x m : Str} {C : Addr} {j : Nat} {p p2 pos : Pos} (h : ExcF X.K X.mg x C) (hg : Gl X x) (hdb : (x == ("__debug__" : Str)) = false := by decide) :
    L2N.PMk X (.Call (.Name x p) [.Constant (.str m) j p2] [] pos) (fun _ H Q => Q (.ref C) none H) := L2N.pmk_own PySem.F.excBase_ValueError h.xi h.g h.k (raises_own h.b h.t) hg hdb
theorem gl_int {mg : Str → Option Value} {x : Str} {i : Int} (h : ∃ t, mg x = some (.int i t)) : ∃ u, mg x = some u ∧ RelV (.int i) u := by
  obtain ⟨t, h⟩ := h
  exact ⟨_, h, _, rfl⟩
theorem gl_str {mg : Str → Option Value} {x : Str} {i : Str} (h : ∃ t, mg x = some (.str i t)) : ∃ u, mg x = some u ∧ RelV (.str i) u := by
  obtain ⟨t, h⟩ := h
  exact ⟨_, h, _, rfl⟩
/-! ### built-ins -/
def rLen (K : PySem.W.Frag) : List V → Hp → VK → Prop := fun xs H Q => ∃ x n, xs = [x] ∧ LenV K x H n ∧ Q (.int n) H
theorem u_len {X : Cx} : CallR X (.builtin "len") (rLen X.K) := call_len
def rTuple (K : PySem.W.Frag) : List V → Hp → VK → Prop := fun xs H Q => ∃ p ys, xs = [.ref p] ∧ ((SqL K H p ys ∧ ∀ l, H l = none → Q (.ref l) (upd H l (.tup ys))) ∨ (SqT K H p ys ∧ Q (.ref p) H))
theorem u_tuple {X : Cx} : CallR X (.type "tuple") (rTuple X.K) := call_tuple_of
def rIsiU (K : PySem.W.Frag) : List V → Hp → VK → Prop := rIsi K
theorem u_isi {X : Cx} : CallR X (.builtin "isinstance") (rIsiU X.K) := call_isi
def rMaxU (K : PySem.W.Frag) : List V → Hp → VK → Prop := fun xs H Q => (∃ i j, xs = [.int i, .int j] ∧ Q (.int (if j > i then j else i)) H) ∨ rMax K xs H Q
theorem u_max {X : Cx} (hc : X.calm = true := by rfl) : CallR X (.builtin "max") (rMaxU X.K) := (call_max2 hc).or (cr_max hc)
def rMinU (K : PySem.W.Frag) : List V → Hp → VK → Prop := fun xs H Q => (∃ i j, xs = [.int i, .int j] ∧ Q (.int (if j < i then j else i)) H) ∨ rMin K xs H Q
theorem u_min {X : Cx} (hc : X.calm = true := by rfl) : CallR X (.builtin "min") (rMinU X.K) := (call_min2 hc).or (cr_min hc)
def rDivmod : List V → Hp → VK → Prop := fun xs H Q => ∃ i j, xs = [.int i, .int j] ∧ CDiv i j ∧ ∀ p, H p = none → Q (.ref p) (upd H p (.tup [.int (i / j), .int (i % j)]))
theorem u_divmod {X : Cx} : CallR X (.builtin "divmod") rDivmod := call_divmod
def rInt : List V → Hp → VK → Prop := fun xs H Q => ((∃ i, xs = [.int i] ∧ Q (.int i) H) ∨ ∃ k, xs = [.bl k] ∧ Q (.int (if k then 1 else 0)) H) ∨ ∃ a n, xs = [.str a] ∧ PySem.intText? a = some n ∧ a.length ≤ 640 ∧ Q (.int n) H
theorem u_int {X : Cx} : CallR X (.type "int") rInt := call_int1.or call_int_str
def rStrI : List V → Hp → VK → Prop := fun xs H Q => ∃ i, xs = [.int i] ∧ i.natAbs.log2 < 1920 ∧ Q (.str (toString i)) H
theorem u_str {X : Cx} : CallR X (.type "str") rStrI := call_str_int
section
variable {K : PySem.W.Frag} {H : Hp} {Q : VK}
theorem r_len_l {p : Addr} {xs : List V} (h : SqL K H p xs) (q : Q (.int (xs.length : Nat)) H) : rLen K [.ref p] H Q := ⟨_, _, rfl, .inl ⟨xs, h, rfl⟩, q⟩
theorem r_len_t {p : Addr} {xs : List V} (h : SqT K H p xs) (q : Q (.int (xs.length : Nat)) H) : rLen K [.ref p] H Q := ⟨_, _, rfl, .inr ⟨xs, h, rfl⟩, q⟩
theorem r_len_s {z : Str} (h : z.length ≤ sizeLine) (q : Q (.int (z.length : Nat)) H) : rLen K [.str z] H Q := ⟨_, _, rfl, ⟨h, rfl⟩, q⟩
theorem r_tuple_l {p : Addr} {xs : List V} (h : SqL K H p xs) (q : ∀ l, H l = none → Q (.ref l) (upd H l (.tup xs))) : rTuple K [.ref p] H Q := ⟨p, xs, rfl, .inl ⟨h, q⟩⟩
theorem r_isi {x : V} {t : String} {n : String} {b : Bool} (h : TyX K H x (.type t)) (e : kitB t n = some b) (q : Q (.bl b) H) : rIsiU K [x, .ty n] H Q := ⟨x, .ty n, .type t, .type n, b, rfl, .ty n, h, kit_ty e, q⟩
theorem r_isi_int_int {i : Int} (q : Q (.bl true) H) : rIsiU K [.int i, .ty "int"] H Q := r_isi (.base (.int i)) (by decide +kernel) q
theorem r_isi_int_bool {i : Int} (q : Q (.bl false) H) : rIsiU K [.int i, .ty "bool"] H Q := r_isi (.base (.int i)) (by decide +kernel) q
theorem r_isi_bl_bool {i : Bool} (q : Q (.bl true) H) : rIsiU K [.bl i, .ty "bool"] H Q := r_isi (.base (.bl i)) (by decide +kernel) q
theorem r_isi_bl_int {i : Bool} (q : Q (.bl true) H) : rIsiU K [.bl i, .ty "int"] H Q := r_isi (.base (.bl i)) (by decide +kernel) q
theorem r_isi_non_int (q : Q (.bl false) H) : rIsiU K [.non, .ty "int"] H Q := r_isi (.base .non) (by decide +kernel) q
theorem r_isi_non_bool (q : Q (.bl false) H) : rIsiU K [.non, .ty "bool"] H Q := r_isi (.base .non) (by decide +kernel) q
theorem r_isi_str_int {i : Str} (q : Q (.bl false) H) : rIsiU K [.str i, .ty "int"] H Q := r_isi (.base (.str i)) (by decide +kernel) q
theorem r_isi_str_str {i : Str} (q : Q (.bl true) H) : rIsiU K [.str i, .ty "str"] H Q := r_isi (.base (.str i)) (by decide +kernel) q
theorem r_max2 {i j : Int} (q : Q (.int (if j > i then j else i)) H) : rMaxU K [.int i, .int j] H Q := .inl ⟨i, j, rfl, q⟩
theorem r_min2 {i j : Int} (q : Q (.int (if j < i then j else i)) H) : rMinU K [.int i, .int j] H Q := .inl ⟨i, j, rfl, q⟩
theorem r_inti {i : Int} (q : Q (.int i) H) : rInt [.int i] H Q := .inl (.inl ⟨i, rfl, q⟩)
theorem r_intb {k : Bool} (q : Q (.int (if k then 1 else 0)) H) : rInt [.bl k] H Q := .inl (.inr ⟨k, rfl, q⟩)
theorem r_append {p : Addr} {xs : List V} {y : V} (h : H p = some (.lst xs)) (l : xs.length < sizeLine) (q : Q .non (upd H p (.lst (xs ++ [y])))) : rAppend (.ref p) [y] H Q := ⟨p, xs, y, rfl, rfl, h, l, q⟩
theorem r_sum {p : Addr} {ns : List Int} (h : SqL K H p (ns.map V.int)) (q : Q (.int ns.sum) H) : rSum K [.ref p] H Q := ⟨p, ns, rfl, h, q⟩
/-- a method on a tracked list -/
theorem tyL {p : Addr} {xs : List V} (h : H p = some (.lst xs)) : tyV K "list" (.ref p) H := .inl ⟨rfl, _, .inl (.inl h)⟩
end
/-! ### shifts of one -/
theorem CShl_one {j : Int} (h0 : 0 ≤ j) (h : j ≤ 100000) : CShl 1 j := by
  obtain ⟨k, rfl⟩ := Int.eq_ofNat_of_zero_le h0
  exact shl_ok (n := 1) (by decide) (by omega)
theorem CShl_nat {b n : Nat} {j : Int} (hb : b < 2 ^ n) (h0 : 0 ≤ j) (h : n + j.toNat ≤ 100000) : CShl (b : Int) j := by
  obtain ⟨k, rfl⟩ := Int.eq_ofNat_of_zero_le h0
  exact shl_ok (n := n) (by rw [Int.natAbs_natCast]; exact hb) (by omega)
/-! ### naturals as ints -/
def nz (l : List Nat) : List Int := l.map fun i : Nat => (i : Int)
theorem nz_app (l m : List Nat) : nz (l ++ m) = nz l ++ nz m := by unfold nz; rw [List.map_append]
theorem nz_len (l : List Nat) : (nz l).length = l.length := by unfold nz; rw [List.length_map]
theorem nzv_len (l : List Nat) : ((nz l).map V.int).length = l.length := by rw [List.length_map, nz_len]
theorem nz_get {l : List Nat} {i : Nat} {x : V} (h : ((nz l).map V.int)[i]? = some x) : ∃ n : Nat, l[i]? = some n ∧ x = .int (n : Int) := by
  unfold nz at h
  rw [List.getElem?_map, List.getElem?_map] at h
  cases e : l[i]? with
  | none => rw [e] at h; cases h
  | some n =>
    rw [e] at h
    exact ⟨n, rfl, (Option.some.inj h).symm⟩
/-! ### the fields of a sack -/
theorem lk1 {k : Str} {v : V} {r : List (Str × V)} : List.lookup k ((k, v) :: r) = some v := by
  have e : (k == k) = true := beq_self_eq_true k
  simp only [List.lookup, e]
theorem lk0 {k g : Str} {v : V} (h : (k == g) = false) : List.lookup k [(g, v)] = none := by
  simp only [List.lookup, h]
def SackK (c : Cs) (H : Hp) (s : Addr) (k : Kd) (b : Nat) : Prop := ∃ dx, H s = some (.ins (c.kd k) dx [("bits", .int (b : Int))])
theorem SackK.same {c : Cs} {H H' : Hp} {s : Addr} {k : Kd} {b : Nat} (h : SackK c H s k b) (e : Same H H') : SackK c H' s k b := by
  obtain ⟨dx, h⟩ := h
  exact ⟨dx, e _ _ h⟩
/-! ### calls within a try's body: what leaves them may ask for the slots -/
section
variable {X : Cx} {k j : Nat} {C : Addr} {sp : Sp} {dvs : List V} {W : WX} {x m : Str} {p pos apos : Pos} {e o : Expr} {es : List Expr} {ta : TE} {t : TA}
/-- the context of the try's body takes what W says -/
abbrev WO (X : Cx) (W : WX) : Prop := ∀ σ, PassesAt (L2N.CX X.prog X.w) X σ (WE W σ)
theorem wo_of (tk : L2N.Takes X W) : WO X W := L2N.passAt tk
def tCallW (sp : Sp) (dvs : List V) (W : WX) (t : TA) : TE := fun σ H Q => t σ H fun vs H1 => sp (vs ++ dvs) H1 Q (WE W σ)
def tMethW (fam : Addr → Sp → Prop) (m : Str) (dvs : List V) (W : WX) (ta : TE) (t : TA) : TE := fun σ H Q => ta σ H fun x H1 => ∃ a C dx fs sp, x = .ref a ∧ H1 a = some (.ins C dx fs) ∧ fam C sp ∧ fs.lookup m = none ∧
  t σ H1 fun vs H2 => sp (x :: (vs ++ dvs)) H2 Q (WE W σ)
theorem runW {ds : List Value} {ps : List Str} {f : Addr} {fd : FuncData} {pins : List (Addr × Obj)} {σ : L2.St} {H : Hp} {s : Shared} {Q : VK} {us : List Value} {vs : List V} (F : FnOk X.prog X.w X.K X.mg X.base (L2N.CX X.prog X.w) k f fd ps sp)
    (hr : Room k X.A) (b : Binds X.K fd ps ds) (v : Vals dvs ds) (hx : WO X W) (I : Inv X pins σ H s) (r : Vals vs us) (h : sp (vs ++ dvs) H Q (WE W σ)) :
    wpAny (model X.prog X.w) X.A (call (.ref f) us) (EP X pins σ Q) X.xe s := by
  have rr := r.append v
  have n : (us ++ ds).length = ps.length := rr.length.symm.trans (F.len _ _ _ _ h)
  apply wpAny_call
  refine codeAny_mono (F.run _ _ _ _ ⟨us, []⟩ _ _ _ _ hr I.env0 (b s us I.kIn n) rr h) ?_
  rintro (e | fl) s1 hq
  · exact hx σ pins H s e s1 I hq
  · cases fl with
    | ret u => exact I.after hq
    | _ => exact hq.elim
theorem pe_cW (c : Cal X.prog X.w X.K X.mg X.base k x sp dvs) (hr : Room j X.A) (hk : k ≤ j) (hg : Gl X x) (hx : WO X W) (ha : PA X (e :: es) t) (hdb : (x == ("__debug__" : Str)) = false := by decide)
    (he : starEach (e :: es) X.env = (false, eval e X.env) :: starEach es X.env := by rfl) (hpl : (backTo pos (starEach es X.env)).any (·.1) = false := by rfl) : PE X (.Call (.Name x p) (e :: es) [] pos) (tCallW sp dvs W t) := by
  obtain ⟨f, fd, ps, ds, F, hm, kp, b, v⟩ := c.ex
  constructor
  intro pins s σ H Q I h
  apply wpAny_Call_Name_kw (ld_glob I hg hm ?_ hdb)
  refine PySem.W.callWith_K (h₀ := X.base) I.ok.mod.kin kp (thn (ha.run pos pins s σ H _ I h) ?_) he hpl
  rintro us s1 ⟨vs, H1, I1, r, q⟩
  exact ⟨I1.kIn, runW F (hr.mono hk) b v hx I1 r q⟩
theorem w_callW {σ : L2.St} {H : Hp} {Q : VK} (h : t σ H fun vs H1 => sp (vs ++ dvs) H1 Q (WE W σ)) : tCallW sp dvs W t σ H Q := h
theorem w_methW {fam : Addr → Sp → Prop} {σ : L2.St} {H : Hp} {Q : VK} (h : ta σ H fun x H1 => ∃ a C dx fs sp, x = .ref a ∧ H1 a = some (.ins C dx fs) ∧ fam C sp ∧ fs.lookup m = none ∧ t σ H1 fun vs H2 => sp (x :: (vs ++ dvs)) H2 Q (WE W σ)) : tMethW fam m dvs W ta t σ H Q := h
end
theorem passLN {X : Cx} : Passes (L2N.CX X.prog X.w) X E0 := by
  intro pins σ H s e s' _ h
  obtain ⟨_, _, _, _, _, _, _, _, _, _, _, _, z⟩ := (show L2N.CX X.prog X.w X.stack H s E0 e s' from h)
  exact z.elim
/-! ### isinstance of what is caught -/
/-- what is known of the object that is caught -/
def Told (cls : Value) (dd : Option Addr) (p : Addr × Obj) : Prop := Zc cls dd p.2 ∧ ∃ vs, p.2.data = .fields vs
/-! ### a def that is called while an exception is handled, with that exception -/
structure FnP (P : Program) (w : World) (K : PySem.W.Frag) (mg : Str → Option Value) (base : Heap) (k : Nat) (f : Addr) (fd : FuncData) (ps : List Str) (sp : Value → Option Addr → Addr → Sp) : Prop where
  len : ∀ cls dd a vs H Q E, sp cls dd a vs H Q E → vs.length = ps.length
  run : ∀ (A : Around) (outer : List Env) (s : Shared) (H : Hp) (args : Args) (us : List Value) (vs : List V) (Q : VK) (E : XK) (p : Addr × Obj) (cls : Value) (dd : Option Addr), L2H.RoomH k A → L2H.Hot1 A p → L2H.PinOk outer H s p → Told cls dd p →
    Env0 P w K mg base A outer s H → BindsTo s fd args (ps.zip us) → Vals vs us → sp cls dd p.1 vs H Q E → codeAny (model P w) A (.call (.ref f) args) (CR (L2N.CX P w) outer P w H s Q E) s
theorem FnP.of {P : Program} {w : World} {K : PySem.W.Frag} {mg : Str → Option Value} {base : Heap} {k : Nat} {x qual : Str} {params : Arguments} {body : List Stmt} {scope : Scope} {dvs : List V} {kws : List (Str × V)} {f : Addr} {fd : FuncData} {N ps : List Str} {sp : Value → Option Addr → Addr → Sp}
    (F : FunD K x qual params body scope dvs kws f fd) (S : FnScope N ps scope) (len : ∀ cls dd a vs H Q E, sp cls dd a vs H Q E → vs.length = ps.length)
    (hb : ∀ (cdv : Value) (A : Around) (outer : List Env) (s : Shared) (H : Hp) (vs : List V) (Q : VK) (E : XK) (p : Addr × Obj) (cls : Value) (dd : Option Addr), L2H.Hot1 A p → L2H.RoomH k (A.deeper (envOfC qual scope s.heap.objs.size f cdv)) → Told cls dd p → sp cls dd p.1 vs H Q E →
      ∃ t, PSs (L2H.cxH (L2N.CX P w) P w K mg base N qual scope f cdv A outer s H E p) body t ∧ t { nx := fun _ H' => Q .non H', rt := Q } (start N vs) H) : FnP P w K mg base (k + 1) f fd ps sp := by
  obtain ⟨oc, od, dV, kV, doc, pm, an, cdv, ct, osl, rfl, lk, hcd, _, _⟩ := F.ex
  constructor
  · exact len
  intro A outer s H args us vs Q E p cls dd hr hot hpin hz e0 bt r hs
  obtain ⟨t, ht, hq⟩ := hb cdv A outer s H vs Q E p cls dd hot (hr.deeper _) hz hs
  have KX : K.In s.heap := e0.mod.kin.keeps fun b o e => (e0.bs b o e).1
  apply codeAny_call_function hr.depth (KX _ _ lk) rfl S.co S.gen rfl (PySem.W.codeRec_of KX hcd)
  apply bt
  refine wpAny_newFunctionEnv_cells S.kind ?_ ?_
  · rintro ⟨n, v⟩ hy
    exact (S.par n (List.of_mem_zip hy).1).imp id fun q => ⟨q, PySem.W.cellsFrom_some _ _ _ (.inl q)⟩
  rintro env rfl s1 y
  have I := L2H.inv_startH (CX := L2N.CX P w) (E := E) S hpin e0 (len _ _ _ _ _ _ _ hs) r y
  refine ⟨(e0.mod.nolimit.keeps fun b o e => (e0.bs b o e).1 : s.heap.NoLimit).keeps y.toInCall.keep, codeAny_func ?_⟩
  refine wpAny_mono (ht.run [] s1 (start N vs) H _ I hq) ?_ fun _ _ z => z
  rintro (_ | _ | _ | u) s2 z
  · obtain ⟨σ, H2, J, q⟩ := z
    exact ⟨.non, H2, J.os, J.bare, J.base, J.hok, rfl, q⟩
  all_goals first | (obtain ⟨v, σ, H2, J, rv, q⟩ := z; exact ⟨v, H2, J.os, J.bare, J.base, J.hok, rv, q⟩) | (obtain ⟨_, _, _, q⟩ := z; exact q.elim)
def tCallP (sp : Value → Option Addr → Addr → Sp) (cls : Value) (dd : Option Addr) (a : Addr) (t : TA) : TE := fun σ H Q => t σ H fun vs H1 => sp cls dd a vs H1 Q E0
theorem w_callP {σ : L2.St} {H : Hp} {Q : VK} {sp : Value → Option Addr → Addr → Sp} {cls : Value} {dd : Option Addr} {a : Addr} {t : TA} (h : t σ H fun vs H1 => sp cls dd a vs H1 Q E0) : tCallP sp cls dd a t σ H Q := h
/-! ### try .. except x as n -/
def tTry (K : PySem.W.Frag) (c : Value) (i : Nat) (ts : Addr → Value → Option Addr → TS) (Wout : WX) (tb : WX → TS) : TS := fun D σ H => tb (wAs K c i ts Wout D) D σ H
theorem w_try {K : PySem.W.Frag} {c : Value} {i : Nat} {ts : Addr → Value → Option Addr → TS} {Wout : WX} {tb : WX → TS} {D : Ends} {σ : L2.St} {H : Hp} (h : tb (wAs K c i ts Wout D) D σ H) : tTry K c i ts Wout tb D σ H := h
def rPow : R2 := rI CPow fun i j => .int (i ^ j.toNat)
theorem r_pow {i j : Int} {H : Hp} {Q : VK} (h : CPow i j) (q : Q (.int (i ^ j.toNat)) H) : rPow (.int i) (.int j) H Q := ⟨i, j, rfl, rfl, h, q⟩
/-! ### the errors' classes -/
inductive Ek | number | stretch | rank | text
  deriving DecidableEq
def Cs.ex (c : Cs) : Ek → Addr
  | .number => c.eNoNumber
  | .stretch => c.eNoStretch
  | .rank => c.eNoRank
  | .text => c.eNoText
/-! ### how many bits, by counting -/
def cnt (N K : Nat) : Nat := ((List.range K).filter N.testBit).length
theorem cnt_succ (N K : Nat) : cnt N (K + 1) = cnt N K + if N.testBit K = true then 1 else 0 := by
  unfold cnt
  rw [List.range_succ, List.filter_append, List.length_append]
  by_cases h : N.testBit K = true
  · rw [if_pos h, List.filter_cons, if_pos h]; rfl
  · rw [if_neg h, List.filter_cons, if_neg h]; rfl
theorem popc_cnt {N K : Nat} (h : N < 2 ^ K) : popc N = cnt N K := by unfold popc cnt; rw [bitsOf_eq h]
theorem lt_pow_log (N : Nat) : N < 2 ^ (N.log2 + 1) := Nat.lt_log2_self
theorem lt_pow_mono {N a b : Nat} (h : N < 2 ^ a) (e : a ≤ b) : N < 2 ^ b := Nat.lt_of_lt_of_le h (Nat.pow_le_pow_right (by decide) e)
/-- a bound for some at once -/
theorem all_lt (a b c d : Nat) : ∃ K, a < 2 ^ K ∧ b < 2 ^ K ∧ c < 2 ^ K ∧ d < 2 ^ K := by
  refine ⟨a.log2 + 1 + (b.log2 + 1) + (c.log2 + 1) + (d.log2 + 1), lt_pow_mono (lt_pow_log a) (by omega), lt_pow_mono (lt_pow_log b) (by omega), lt_pow_mono (lt_pow_log c) (by omega), lt_pow_mono (lt_pow_log d) (by omega)⟩
/-- counts that agree bit by bit -/
theorem popc_sum {a b c d : Nat} (h : ∀ i, ((if a.testBit i = true then 1 else 0) + (if b.testBit i = true then 1 else 0) : Nat) = (if c.testBit i = true then 1 else 0) + (if d.testBit i = true then 1 else 0)) : popc a + popc b = popc c + popc d := by
  obtain ⟨K, ha, hb, hc, hd⟩ := all_lt a b c d
  rw [popc_cnt ha, popc_cnt hb, popc_cnt hc, popc_cnt hd]
  clear ha hb hc hd
  induction K with
  | zero => rfl
  | succ K ih =>
    rw [cnt_succ, cnt_succ, cnt_succ, cnt_succ]
    have := h K
    omega
theorem popc_mul (x k : Nat) : popc (x * 2 ^ k) = popc x := by
  unfold popc
  have e : bitsOf (x * 2 ^ k) = (bitsOf x).map (k + ·) := by
    refine sorted_ext (bitsOf_sorted _) ?_ fun i => ?_
    · rw [List.pairwise_map]
      exact (bitsOf_sorted x).imp fun h => by omega
    · rw [mem_bitsOf, Nat.testBit_mul_two_pow, List.mem_map, Bool.and_eq_true, decide_eq_true_eq]
      constructor
      · rintro ⟨h1, h2⟩
        exact ⟨i - k, mem_bitsOf.mpr h2, by omega⟩
      · rintro ⟨j, hj, rfl⟩
        exact ⟨by omega, by rw [Nat.add_sub_cancel_left]; exact mem_bitsOf.mp hj⟩
  rw [e, List.length_map]
theorem popc_or {a b : Nat} (h : ∀ i, a.testBit i = true → b.testBit i = false) : popc (a ||| b) = popc a + popc b := by
  have := @popc_sum (a ||| b) 0 a b fun i => by
    rw [Nat.testBit_or, Nat.zero_testBit]
    have := h i
    cases x : a.testBit i <;> cases y : b.testBit i <;> simp_all
  rw [popc_zero] at this
  exact this
/-! ### the sack at an upper part -/
def sl (N u : Nat) : Nat := N / 2 ^ (256 * u) % 2 ^ 256
theorem sl_lt (N u : Nat) : sl N u < 2 ^ 256 := Nat.mod_lt _ (Nat.two_pow_pos _)
theorem sl_bit (N u i : Nat) : (sl N u).testBit i = (decide (i < 256) && N.testBit (256 * u + i)) := by
  unfold sl
  rw [Nat.testBit_mod_two_pow, Nat.testBit_div_two_pow, Nat.add_comm i]
theorem sl_zero (u : Nat) : sl 0 u = 0 := by unfold sl; simp
/-- the bits at an upper part are others -/
def setSl (N u b : Nat) : Nat := N ^^^ ((sl N u ^^^ b) * 2 ^ (256 * u))
theorem setSl_bit {N u b : Nat} (hb : b < 2 ^ 256) (j : Nat) : (setSl N u b).testBit j = if j / 256 = u then b.testBit (j % 256) else N.testBit j := by
  unfold setSl
  rw [Nat.testBit_xor, Nat.testBit_mul_two_pow, Nat.testBit_xor, sl_bit]
  by_cases c : j / 256 = u
  · rw [if_pos c]
    have e1 : 256 * u ≤ j := by omega
    have e2 : j - 256 * u = j % 256 := by omega
    have e3 : 256 * u + j % 256 = j := by omega
    rw [e2, e3, decide_eq_true e1, decide_eq_true (show j % 256 < 256 by omega)]
    cases N.testBit j <;> cases b.testBit (j % 256) <;> rfl
  · rw [if_neg c]
    by_cases e1 : 256 * u ≤ j
    · have e2 : ¬ j - 256 * u < 256 := by omega
      have e3 : b.testBit (j - 256 * u) = false := Nat.testBit_lt_two_pow (lt_pow_mono hb (by omega))
      rw [decide_eq_false e2, e3]; simp
    · rw [decide_eq_false e1]; simp
theorem setSl_sl {N u b v : Nat} (hb : b < 2 ^ 256) : sl (setSl N u b) v = if v = u then b else sl N v := by
  apply Nat.eq_of_testBit_eq
  intro i
  rw [sl_bit, setSl_bit hb]
  by_cases hi : i < 256
  · have e1 : (256 * v + i) / 256 = v := by omega
    have e2 : (256 * v + i) % 256 = i := by omega
    rw [e1, e2, decide_eq_true hi, Bool.true_and]
    by_cases c : v = u
    · rw [if_pos c, if_pos c]
    · rw [if_neg c, if_neg c, sl_bit, decide_eq_true hi, Bool.true_and]
  · rw [decide_eq_false hi, Bool.false_and]
    have h2 : (if v = u then b else sl N v) < 2 ^ 256 := by
      split
      · exact hb
      · exact sl_lt _ _
    exact (Nat.testBit_lt_two_pow (lt_pow_mono h2 (by omega))).symm
theorem setSl_popc {N u b : Nat} (hb : b < 2 ^ 256) : popc (setSl N u b) + popc (sl N u) = popc N + popc b := by
  rw [← popc_mul (sl N u) (256 * u), ← popc_mul b (256 * u)]
  refine popc_sum fun j => ?_
  rw [setSl_bit hb, Nat.testBit_mul_two_pow, Nat.testBit_mul_two_pow, sl_bit]
  by_cases c : j / 256 = u
  · rw [if_pos c]
    have e1 : 256 * u ≤ j := by omega
    have e2 : j - 256 * u = j % 256 := by omega
    have e3 : 256 * u + j % 256 = j := by omega
    rw [e2, e3, decide_eq_true e1, decide_eq_true (show j % 256 < 256 by omega)]
    cases N.testBit j <;> cases b.testBit (j % 256) <;> rfl
  · rw [if_neg c]
    by_cases e1 : 256 * u ≤ j
    · have e2 : ¬ j - 256 * u < 256 := by omega
      have e3 : b.testBit (j - 256 * u) = false := Nat.testBit_lt_two_pow (lt_pow_mono hb (by omega))
      rw [decide_eq_false e2, e3]; simp
    · rw [decide_eq_false e1]; simp
/-- all numbers lie below 256 * 65536 -/
def In24 (N : Nat) : Prop := ∀ i, N.testBit i = true → i < 16777216
theorem in24_zero : In24 0 := fun i h => by simp at h
theorem sl_ne {N u : Nat} : sl N u ≠ 0 ↔ ∃ i, i < 256 ∧ N.testBit (256 * u + i) = true := by
  constructor
  · intro h
    obtain ⟨i, hi⟩ := Nat.exists_testBit_of_ne_zero h
    rw [sl_bit, Bool.and_eq_true, decide_eq_true_eq] at hi
    exact ⟨i, hi⟩
  · rintro ⟨i, h1, h2⟩ e
    have : (sl N u).testBit i = true := by rw [sl_bit, h2, decide_eq_true h1]; rfl
    rw [e] at this; simp at this
theorem In24.up {N u : Nat} (h : In24 N) (hu : sl N u ≠ 0) : u < 65536 := by
  obtain ⟨i, h1, h2⟩ := sl_ne.mp hu
  have := h _ h2
  omega
theorem In24.set {N u b : Nat} (h : In24 N) (hu : u < 65536) (hb : b < 2 ^ 256) : In24 (setSl N u b) := by
  intro i hi
  rw [setSl_bit hb] at hi
  by_cases c : i / 256 = u
  · omega
  · rw [if_neg c] at hi; exact h i hi
theorem setSl_or {N n : Nat} : setSl N (n / 256) (sl N (n / 256) ||| 2 ^ (n % 256)) = N ||| 2 ^ n := by
  have hb : sl N (n / 256) ||| 2 ^ (n % 256) < 2 ^ 256 := Nat.or_lt_two_pow (sl_lt _ _) (Nat.pow_lt_pow_right (by decide) (by omega))
  apply Nat.eq_of_testBit_eq
  intro j
  rw [setSl_bit hb, Nat.testBit_or, Nat.testBit_or, Nat.testBit_two_pow, Nat.testBit_two_pow, sl_bit]
  by_cases c : j / 256 = n / 256
  · rw [if_pos c, decide_eq_true (show j % 256 < 256 by omega), Bool.true_and]
    have e3 : 256 * (n / 256) + j % 256 = j := by omega
    rw [e3]
    have : decide (n % 256 = j % 256) = decide (n = j) := by
      rw [decide_eq_decide]; omega
    rw [this]
  · rw [if_neg c]
    have : ¬ n = j := fun e => c (by rw [e])
    rw [decide_eq_false this]; simp
/-! ### the upper parts -/
def upsOf (N : Nat) : List Nat := (List.range 65536).filter fun u => decide (sl N u ≠ 0)
theorem mem_ups {N u : Nat} (h : In24 N) : u ∈ upsOf N ↔ sl N u ≠ 0 := by
  unfold upsOf
  rw [List.mem_filter, List.mem_range, decide_eq_true_eq]
  exact ⟨fun x => x.2, fun x => ⟨h.up x, x⟩⟩
theorem ups_sorted (N : Nat) : (upsOf N).Pairwise (· < ·) := List.Pairwise.filter _ (range_sorted _)
theorem ups_lt {N u : Nat} (h : u ∈ upsOf N) : u < 65536 := List.mem_range.mp (List.mem_filter.mp h).1
theorem ups_len (N : Nat) : (upsOf N).length ≤ 65536 := Nat.le_trans (List.length_filter_le _ _) (by rw [List.length_range]; exact Nat.le_refl _)
/-- all numbers, sack by sack -/
def flat (N : Nat) (l : List Nat) : List Nat := l.flatMap fun u => (bitsOf (sl N u)).map (256 * u + ·)
theorem flat_snoc (N : Nat) (l : List Nat) (u : Nat) : flat N (l ++ [u]) = flat N l ++ (bitsOf (sl N u)).map (256 * u + ·) := by
  unfold flat
  rw [List.flatMap_append, List.flatMap_cons, List.flatMap_nil, List.append_nil]
theorem mem_flat {N x : Nat} {l : List Nat} : x ∈ flat N l ↔ x / 256 ∈ l ∧ N.testBit x = true := by
  unfold flat
  rw [List.mem_flatMap]
  constructor
  · rintro ⟨u, hu, hx⟩
    obtain ⟨i, hi, rfl⟩ := List.mem_map.mp hx
    rw [mem_bitsOf, sl_bit, Bool.and_eq_true, decide_eq_true_eq] at hi
    have : (256 * u + i) / 256 = u := by omega
    rw [this]
    exact ⟨hu, hi.2⟩
  · rintro ⟨hu, hx⟩
    refine ⟨x / 256, hu, List.mem_map.mpr ⟨x % 256, ?_, by omega⟩⟩
    rw [mem_bitsOf, sl_bit, decide_eq_true (show x % 256 < 256 by omega), Bool.true_and]
    have : 256 * (x / 256) + x % 256 = x := by omega
    rw [this]; exact hx
theorem flat_sorted {N : Nat} : ∀ {l : List Nat}, l.Pairwise (· < ·) → (flat N l).Pairwise (· < ·)
  | [], _ => List.Pairwise.nil
  | u :: l, h => by
    obtain ⟨h1, h2⟩ := List.pairwise_cons.mp h
    show ((bitsOf (sl N u)).map (256 * u + ·) ++ flat N l).Pairwise (· < ·)
    refine List.pairwise_append.mpr ⟨?_, flat_sorted h2, fun x hx y hy => ?_⟩
    · rw [List.pairwise_map]
      exact (bitsOf_sorted _).imp fun h => by omega
    · obtain ⟨i, hi, rfl⟩ := List.mem_map.mp hx
      have := bitsOf_lt (sl_lt N u) hi
      have := h1 _ (mem_flat.mp hy).1
      omega
theorem flat_ups {N : Nat} (h : In24 N) : flat N (upsOf N) = bitsOf N := by
  refine sorted_ext (flat_sorted (ups_sorted N)) (bitsOf_sorted N) fun x => ?_
  rw [mem_flat, mem_bitsOf, mem_ups h, sl_ne]
  refine ⟨fun q => q.2, fun q => ⟨⟨x % 256, by omega, ?_⟩, q⟩⟩
  have : 256 * (x / 256) + x % 256 = x := by omega
  rw [this]; exact q
theorem flat_len (N : Nat) (l : List Nat) : (flat N l).length = (l.map fun u => popc (sl N u)).sum := by
  unfold flat
  rw [List.length_flatMap]
  congr 1
  apply List.map_congr_left
  intro u _
  rw [List.length_map]; rfl
theorem popc_ups {N : Nat} (h : In24 N) : ((upsOf N).map fun u => popc (sl N u)).sum = popc N := by rw [← flat_len, flat_ups h]; rfl
/-! ### a window -/
theorem bitsOf_mul (x k : Nat) : bitsOf (x * 2 ^ k) = (bitsOf x).map (k + ·) := by
  refine sorted_ext (bitsOf_sorted _) ?_ fun i => ?_
  · rw [List.pairwise_map]
    exact (bitsOf_sorted x).imp fun h => by omega
  · rw [mem_bitsOf, Nat.testBit_mul_two_pow, List.mem_map, Bool.and_eq_true, decide_eq_true_eq]
    constructor
    · rintro ⟨h1, h2⟩
      exact ⟨i - k, mem_bitsOf.mpr h2, by omega⟩
    · rintro ⟨j, hj, rfl⟩
      exact ⟨by omega, by rw [Nat.add_sub_cancel_left]; exact mem_bitsOf.mp hj⟩
/-- of a window's numbers -/
theorem flat_win {m n : Nat} (h : m < 2 ^ (256 * n)) : flat m ((List.range n).filter fun k => decide (sl m k ≠ 0)) = bitsOf m := by
  refine sorted_ext (flat_sorted (List.Pairwise.filter _ (range_sorted _))) (bitsOf_sorted m) fun x => ?_
  rw [mem_flat, mem_bitsOf, List.mem_filter, List.mem_range, decide_eq_true_eq, sl_ne]
  refine ⟨fun q => q.2, fun q => ⟨⟨?_, ⟨x % 256, by omega, ?_⟩⟩, q⟩⟩
  · apply Classical.byContradiction
    intro c
    rw [Nat.testBit_lt_two_pow (lt_pow_mono h (by omega))] at q
    cases q
  · have : 256 * (x / 256) + x % 256 = x := by omega
    rw [this]; exact q
/-! ### sorted of a dict, its keys ints, any number of them -/
def rSortedD : List V → Hp → VK → Prop := fun xs H Q => ∃ (a : Addr) (kvs : List (Key × V)) (ks : List Int), xs = [.ref a] ∧ Rd H a (.dK kvs) ∧ kvs.map (·.1) = ks.map Sum.inl ∧
  ∀ (ys : List Int) (p : Addr), ys.Perm ks → ys.Pairwise (· ≤ ·) → H p = none → Q (.ref p) (upd H p (.lst (ys.map V.int)))
theorem call_sortedD {X : Cx} (hc : X.calm = true) : CallR X (.builtin "sorted") rSortedD := by
  rintro pins s σ H xs us Q I r ⟨a, kvs, ks, rfl, hd, hk, q⟩
  obtain ⟨u, rfl, rx⟩ := vals1 r
  cases rx
  obtain ⟨z, lo, vs, rel, dd⟩ := dk_rd I.hok hd
  obtain ⟨ep, hat⟩ := dd.dictAt
  have hv : vs.map (·.1) = ks.map Sum.inl := rel.keys.symm.trans hk
  have hl : vs.length = ks.length := by simpa using congrArg List.length hv
  have hz : vs.length ≤ sizeLine := by rw [← rel.length]; exact z
  apply Calls.call_function_entry PyProof.Rows.kind_sorted PyProof.Rows.plain_sorted PyProof.Rows.entry_sorted (PyProof.Rows.args_sorted1 _)
  unfold Builtin.«sorted»
  refine wpAny_bind (m := checkCount "sorted" 1 1 _) (wpAny_pure ?_)
  apply wpAny_bind
  refine PySem.W.kdu_collect (A := X.A.in1) (PySem.W.kdl_dict (knd := mixKind X.prog X.w) (kvs := vs) (ep := ep) lo) (I.ok.hd hc) hat hz ?_
  intro h1 tk acc hkeep hacc
  have al : acc.toList.length = ks.length := by rw [Array.length_toList, hacc.1, hl]
  have hi : IntsAre acc.toList ks := by
    refine ints_each al fun j v e => ?_
    obtain ⟨k, x, e1, e2⟩ := hacc.2 j v (by rw [← Array.getElem?_toList]; exact e)
    have e3 : (ks.map Sum.inl)[j]? = some k := by rw [← hv, List.getElem?_map, e1]; rfl
    rw [List.getElem?_map] at e3
    obtain ⟨y, e4, e5⟩ := Option.map_eq_some_iff.mp e3
    subst e5
    rcases keyIs_shape (show keyIs (Sum.inl y) v = true from e2) with ⟨i, t, ek, ev⟩ | ⟨z, t, ek, ev⟩
    · cases ek; exact ⟨y, t, e4, ev⟩
    · cases ek
  have I1 : Inv X pins σ H { s with heap := h1, toks := tk } := I.kept hkeep
  apply wpAny_bind
  refine wpAny_newList ?_ (by rw [al, ← hl]; exact hz)
  have hob : (h1.push (seqObj "list" acc.toList.toArray 0)).get? h1.objs.size = some (seqObj "list" acc.toList.toArray 0) := Heap.get?_push_size _ rfl
  show wpAny _ _ _ _ _ { s with heap := h1.push (seqObj "list" acc.toList.toArray 0), toks := tk }
  apply wpAny_bind
  apply wpAny_holding
  refine wpAny_call_entry PyProof.Rows.slot_list_sort ⟨_, hob, rfl⟩ PyProof.Rows.entry_list_sort ?_ (PyProof.Rows.args_list_sort _)
  refine SrtO.list_sort_ord (s := { s with heap := h1.push (seqObj "list" acc.toList.toArray 0), toks := tk }) SrtO.swo_int hob (by rw [al, ← hl]; exact hz) (fun h2 => SrtO.ints_sortable hi h2) ?_
  intro out g1 g2
  refine ⟨_, rfl, ?_⟩
  obtain ⟨k1, k2, k3⟩ := SrtO.ints_out hi g1 g2
  obtain ⟨e', he'⟩ := PyProof.Rows.sortedHeap_at (vs := acc.toList) (out := out.toArray) hob
  have hlen : ((out.map SrtO.iv).map V.int).length ≤ sizeLine := by rw [List.length_map, k2.length_eq, ← hl]; exact hz
  have old : ∀ b u, h1.get? b = some u → _ := fun b u e => (PyProof.Rows.sortedHeap_old (vs := acc.toList) (out := out.toArray) (Nat.ne_of_lt (Heap.lt_size e)) (by rw [size_push']; exact Nat.lt_succ_of_lt (Heap.lt_size e))).trans (Heap.get?_push_of_some (seqObj "list" acc.toList.toArray 0) e)
  exact wpAny_pure ⟨_, rfl, .ref h1.objs.size, upd H h1.objs.size (.lst ((out.map SrtO.iv).map V.int)), I1.laid (t' := tk) old (Nat.le_refl _) ⟨hlen, out, e', vals_of_ints k1, he'⟩, rfl, q _ _ k2 k3 (I1.hok.fresh (Nat.le_refl _))⟩
def rSortedU (K : PySem.W.Frag) : List V → Hp → VK → Prop := fun xs H Q => rSortedD xs H Q ∨ rSortedI K xs H Q
theorem u_sorted {X : Cx} (hc : X.calm = true := by rfl) : CallR X (.builtin "sorted") (rSortedU X.K) := (call_sortedD hc).or cr_sortedI
/-! ### lambdas with parameters, handed on and called -/
/-- the function at f is that lambda, its code object at z -/
def LamO (f : Addr) (D : LamD) (z : Addr) : HO := .ext fun h => ∃ (od : Option Addr) (sl : Array (Option Value)) (pm ct : Value), h.get? f = some ⟨.type "function", od, .func (PySem.W.kla_fn "<lambda>" D.q D.params D.body D.scope [] pm (.ref z) ct), sl⟩
theorem lamO_dK {f z : Addr} {D : LamD} (ps : List (Key × V)) : LamO f D z ≠ .dK ps := by
  unfold LamO
  intro e; cases e
theorem codeO_dK {z : Addr} {q : Str} (ps : List (Key × V)) : LamX.CodeO z q ≠ .dK ps := by
  unfold LamX.CodeO
  intro e; cases e
def WayAt (c : Cs) (H : Hp) (f : Addr) (k : Wy) : Prop := ∃ z, H f = some (LamO f (c.way k) z) ∧ H z = some (LamX.CodeO z (c.way k).q)
abbrev nfD (D : LamD) (z : Addr) : NdefX.NF := ⟨"<lambda>", D.q, D.params, [], D.scope, [], z⟩
def tLam (T : List (Addr × Str)) (D : LamD) : TE := fun _ H Q => LamX.Tabs T H ∧ ∀ (f z : Addr) (H1 : Hp), LamX.ExtN H H1 → LamX.Tabs T H1 → H f = none → H1 f = some (LamO f D z) → H1 z = some (LamX.CodeO z D.q) → Q (.ref f) H1
/-- what a lambda's words must be -/
structure LamOk (D : LamD) (ps : List Str) : Prop where
  cl : ∀ cells : List (Str × Addr), cloFrom cells D.scope.names [] = []
  fr : ∀ y ∈ D.scope.names, y.2 ≠ .free
  df : ∀ env : Env, defaultsOf D.params env = ([], [])
  sc : NdefX.NScope ps ps [] D.scope
  bd : ∀ (pm cv ct : Value) (us : List Value), us.length = ps.length → bindArgs (PySem.W.kla_fn "<lambda>" D.q D.params D.body D.scope [] pm cv ct) ⟨us, []⟩ = pure (ps.zip us)
section
variable {X : Cx} {pins : List (Addr × Obj)} {σ : L2.St} {H : Hp} {s : Shared} {D : LamD} {ps : List Str}
theorem inv_lam {z : Addr} {o : Obj} {tk : Nat} {pm ct : Value} (I : Inv X pins σ H s) (ho : o = PySem.W.kla_obj "<lambda>" D.q D.params D.body D.scope [] pm z ct) :
    Inv X pins σ (upd H s.heap.objs.size (LamO s.heap.objs.size D z)) { s with heap := s.heap.push o, toks := tk } := by
  subst ho
  apply I.laid (a := s.heap.objs.size) (fun b u => Heap.get?_push_of_some _) (Nat.le_refl _)
  have g : (s.heap.push (PySem.W.kla_obj "<lambda>" D.q D.params D.body D.scope [] pm z ct)).get? s.heap.objs.size = some (PySem.W.kla_obj "<lambda>" D.q D.params D.body D.scope [] pm z ct) := Heap.get?_push_size _ rfl
  refine ⟨⟨_, _, pm, ct, g⟩, ⟨_, g⟩, ?_⟩
  rintro h1 h2 ⟨od, sl, p, t, q⟩ st
  exact ⟨od, sl, p, t, st _ q⟩
theorem pe_lam {T : List (Addr × Str)} {cc P : Addr} {pos : Pos} (L : LamOk D ps) (B : LamX.TabB X.base X.mg cc P) (hcode : X.env.code = .ref cc) (hq : X.env.qual ++ "<lambda>" = D.q) (hm : (P, D.q) ∈ T) (hu : ∀ p ∈ T, p.1 = P → p.2 = D.q) :
    PE X (.Lambda D.params D.body D.scope pos) (tLam T D) := by
  constructor
  rintro pins s σ H Q I ⟨hT, h⟩
  apply PySem.W.kla_eval (L.df _)
  rw [hq]
  obtain ⟨ts, hP, tr, am⟩ := hT _ hm
  have hcl : closureFor D.scope X.env = pure [] := by
    have := closure_ok (scope := D.scope) (env := X.env) fun y hy e => absurd e (L.fr y hy)
    rw [L.cl] at this
    exact this
  have gP : s.heap.get? P = some { cls := .none, data := .fields ts } := I.hok P _ hP
  have bP : s.heap.BuiltinsAt X.mg P := B.bm.keeps I.bk
  cases hc : codeAmong pos ts.toList with
  | some cv =>
    obtain ⟨z, rfl, hz⟩ := am pos cv hc
    apply PySem.W.kla_makeFunctionHit (mg := X.mg) (c := cc) (P := P) (ps := ts) hcl I.ok.glob (I.mod.glob.keeps I.bk) hcode (B.code.keeps I.bk) gP tr hc bP
    intro ct h' tk hx hsz
    have I1 : Inv X pins σ H { s with heap := h', toks := tk } := I.kept hx
    have nF := I1.hok.fresh (Nat.le_refl _)
    have I2 := inv_lam (D := D) (z := z) (tk := tk) (pm := (X.mg "__name__").getD .none) (ct := ct) I1 rfl
    have up : ∀ b o, H b = some o → upd H h'.objs.size (LamO h'.objs.size D z) b = some o := fun b o e => by rw [upd_ne (ne_of_none e nF)]; exact e
    exact ⟨.ref h'.objs.size, _, I2, rfl, h h'.objs.size z _ (.of up) (hT.ext up) nF upd_same (up _ _ hz)⟩
  | none =>
    apply PySem.W.kla_makeFunction (mg := X.mg) (c := cc) (P := P) (ps := ts) hcl I.ok.glob (I.mod.glob.keeps I.bk) hcode (B.code.keeps I.bk) gP tr hc B.gP bP
    rintro z ct h' tk hx hge hlt ⟨z', oc, vs, t, ez, g1, g2, g3⟩ htb
    cases ez
    have nZ : H z = none := I.hok.fresh hge
    have I1 := LamX.inv_table (q := D.q) (t' := tk) (more := #[rawInt pos.line, rawInt pos.col, .ref z]) (h' := h') I hP (fun b o hb e => hx b o hb e) htb hge ⟨oc, vs, t, g1, g2, g3⟩
    have ex1 : LamX.ExtN H (upd (upd H P (.tbl (ts ++ #[rawInt pos.line, rawInt pos.col, .ref z]))) z (LamX.CodeO z D.q)) := by
      intro b o e n
      have bz := ne_of_none e nZ
      have bp : b ≠ P := by
        rintro rfl
        rw [hP] at e
        exact n _ (Option.some.inj e).symm
      rw [upd_ne bz, upd_ne bp]; exact e
    have T1 : LamX.Tabs T (upd (upd H P (.tbl (ts ++ #[rawInt pos.line, rawInt pos.col, .ref z]))) z (LamX.CodeO z D.q)) := by
      intro p hp
      by_cases hb : p.1 = P
      · rw [hu p hp hb, hb]
        have el : (ts ++ #[rawInt pos.line, rawInt pos.col, .ref z]).toList = ts.toList ++ [rawInt pos.line, rawInt pos.col, .ref z] := by simp
        refine ⟨_, (by rw [upd_ne (ne_of_none hP nZ), upd_same]), (by rw [el]; exact PySem.TriplesOk_snoc _ _ _ _ tr), ?_⟩
        intro p2 cv hcv
        rw [el] at hcv
        rcases LamX.among_app _ tr hcv with y | rfl
        · obtain ⟨z0, e1, e2⟩ := am p2 cv y
          exact ⟨z0, e1, ex1 _ _ e2 LamX.codeO_ne⟩
        · exact ⟨z, rfl, upd_same⟩
      · obtain ⟨ts', a1, a2, a3⟩ := hT p hp
        refine ⟨ts', (by rw [upd_ne (ne_of_none a1 nZ), upd_ne hb]; exact a1), a2, ?_⟩
        intro p2 cv hcv
        obtain ⟨z0, e1, e2⟩ := a3 p2 cv hcv
        exact ⟨z0, e1, ex1 _ _ e2 LamX.codeO_ne⟩
    have nF := I1.hok.fresh (Nat.le_refl _)
    have nF0 : H h'.objs.size = none := I.hok.fresh (Nat.le_trans hge (Nat.le_of_lt hlt))
    have I2 := inv_lam (D := D) (z := z) (tk := tk) (pm := (X.mg "__name__").getD .none) (ct := ct) I1 rfl
    refine ⟨.ref h'.objs.size, _, I2, rfl, h h'.objs.size z _ ?_ (T1.ext fun b o e => by rw [upd_ne (ne_of_none e nF)]; exact e) nF0 upd_same ?_⟩
    · intro b o e n
      have e1 := ex1 b o e n
      rw [upd_ne (ne_of_none e1 nF)]; exact e1
    · rw [upd_ne (Nat.ne_of_lt hlt)]; exact upd_same
end
/-! ### its call -/
section
variable {P : Program} {w : World} {K : PySem.W.Frag} {mg : Str → Option Value} {base : Heap} {CX : CXT} {D : LamD} {ps : List Str} {f z : Addr}
/-- the reading of a lambda's body -/
theorem lam_code {A : Around} {outer : List Env} {s : Shared} {H : Hp} {us : List Value} {vs : List V} {Q : VK} {E : XK} {tb : TE} (L : LamOk D ps) (hr : Room 1 A) (e0 : Env0 P w K mg base A outer s H) (hf : H f = some (LamO f D z)) (hz : H z = some (LamX.CodeO z D.q)) (r : Vals vs us) (hl : vs.length = ps.length)
    (hb : PE (NdefX.ncx CX P w K mg base ps (nfD D z) f A outer s H E) D.body tb) (h : tb (NdefX.startF ps vs []) H Q) : codeAny (model P w) A (.call (.ref f) ⟨us, []⟩) (CR CX outer P w H s Q E) s := by
  obtain ⟨⟨od, sl, pm, ct, ho⟩, _, _⟩ := e0.hok f _ hf
  obtain ⟨⟨oc, vz, t, g1, g2, g3⟩, _, _⟩ := e0.hok z _ hz
  have lim : s.heap.NoLimit := e0.mod.nolimit.keeps fun b o e => (e0.bs b o e).1
  apply PySem.W.kla_callFunE hr.depth ho rfl L.sc.co L.sc.gen rfl ⟨z, oc, vz, t, rfl, g1, g2, g3⟩
  rw [L.bd pm (.ref z) ct us (r.length.symm.trans hl)]
  apply wpAny_pure
  refine wpAny_newFunctionEnv L.sc.nocell (fun y hy => L.sc.par y.1 (List.of_mem_zip (show (y.1, y.2) ∈ ps.zip us from hy)).1) (fun h₁ hns hsb => ⟨lim.fresh _ hsb, ?_⟩) L.sc.kind
  have kp : ∀ b o, s.heap.get? b = some o → h₁.get? b = some o := fun b o e => hsb.extBut b o (Nat.ne_of_lt (Heap.lt_size e)) (Heap.get?_push_of_some _ e)
  have C : NdefX.CellsAt (nfD D z).cl [] [] s.heap H := ⟨rfl, fun y c e => by simp at e, fun x y c e => by simp at e, fun i y e => by simp at e⟩
  have J := NdefX.inv_startN (CX := CX) (E := E) (F := nfD D z) (f := f) (h₁ := h₁) (tk := s.toks + (ps.zip us).length) L.sc hr.hd e0 hl r C hns kp
  show codeAny _ _ (.expr D.body (NdefX.envF (nfD D z) f s.heap.objs.size)) _ _
  apply PySem.W.kla_codeExpr
  refine wpAny_mono (hb.run [] _ _ H Q J h) (fun v s' hq => ?_) fun e s' hq => hq
  obtain ⟨v', H', J', rv, q⟩ := hq
  exact ⟨v', H', J'.os, J'.bare, J'.base, J'.hok, rv, q⟩
end
/-- what a way's body must tell -/
def wNs : List Str := ["bits", "some"]
structure WayOk (D : LamD) (k : Wy) : Prop where
  ok : LamOk D wNs
  body : ∀ X : Cx, X.N = wNs → X.env.scope = D.scope → PE X D.body fun σ H Q => ∃ a b : Nat, σ = [some (.int (a : Int)), some (.int (b : Int))] ∧ Q (.int (k.op a b : Nat)) H
/-- way(e1, e2), way the slot i -/
def tWay (c : Cs) (i : Nat) (t : TA) : TE := fun σ H Q => ∃ f k, σ[i]? = some (some (.ref f)) ∧ WayAt c H f k ∧ t σ H fun vs H1 => ∃ a b : Nat, vs = [.int (a : Int), .int (b : Int)] ∧ WayAt c H1 f k ∧ Q (.int (k.op a b : Nat)) H1
section
variable {X : Cx} {c : Cs} {i j : Nat} {x : Str} {e : Expr} {es : List Expr} {p pos : Pos} {t : TA}
theorem fnAt_way {pins : List (Addr × Obj)} {σ : L2.St} {H : Hp} {s : Shared} {f : Addr} {k : Wy} (I : Inv X pins σ H s) (h : WayAt c H f k) : PySem.W.FnAt f s.heap := by
  obtain ⟨z, h1, _⟩ := h
  obtain ⟨⟨od, sl, pm, ct, g⟩, _, _⟩ := I.hok f _ h1
  exact ⟨_, od, _, sl, g⟩
theorem pe_way (W : ∀ k, WayOk (c.way k) k) (hr : Room j X.A) (hk : 1 ≤ j) (hx : Passes (L2N.CX X.prog X.w) X E0) (hN : X.N[i]? = some x) (hv : Vis X.env.scope x) (ha : PA X (e :: es) t)
    (hd : (x == ("__debug__" : Str)) = false := by decide) (hcd : (x == ("__classdict__" : Str)) = false := by decide)
    (he : starEach (e :: es) X.env = (false, eval e X.env) :: starEach es X.env := by rfl) (hpl : (backTo pos (starEach es X.env)).any (·.1) = false := by rfl) :
    PE X (.Call (.Name x p) (e :: es) [] pos) (tWay c i t) := by
  constructor
  rintro pins s σ H Q I ⟨f, k, hs, hf, ht⟩
  apply wpAny_Call_Name_kw
  refine thn ((pe_var (pos := p) hN hv hd hcd).run pins s σ H (fun v H1 => v = .ref f ∧ H1 = H) I ⟨.ref f, hs, rfl, rfl⟩) ?_
  rintro u s1 ⟨v, H1, I1, r1, rfl, rfl⟩
  obtain rfl : u = Value.ref f := r1
  refine PySem.W.callWith_F (first := []) (fnAt_way I1 hf) (thn (ha.run pos pins s1 σ H1 _ I1 ht) ?_) he hpl
  rintro us s2 ⟨vs, H2, I2, r, a, b, rfl, hw, q⟩
  refine ⟨fnAt_way I2 hw, ?_⟩
  show wpAny _ _ (call (.ref f) us) _ _ _
  obtain ⟨z, h1, h2⟩ := hw
  have cd := lam_code (CX := L2N.CX X.prog X.w) (Q := Q) (E := E0) (W k).ok (hr.mono hk) I2.env0 h1 h2 r rfl ((W k).body _ rfl rfl) ⟨a, b, rfl, q⟩
  apply wpAny_call
  refine codeAny_mono cd ?_
  rintro (er | fl) s3 hq
  · exact hx pins σ H2 s2 er s3 I2 hq
  · cases fl with
    | ret u => exact I2.after hq
    | _ => exact hq.elim
theorem w_way {σ : L2.St} {H : Hp} {Q : VK} {f : Addr} {k : Wy} (hs : σ[i]? = some (some (.ref f))) (hw : WayAt c H f k) (h : t σ H fun vs H1 => ∃ a b : Nat, vs = [.int (a : Int), .int (b : Int)] ∧ WayAt c H1 f k ∧ Q (.int (k.op a b : Nat)) H1) : tWay c i t σ H Q := ⟨f, k, hs, hw, h⟩
theorem w_lam {T : List (Addr × Str)} {D : LamD} {σ : L2.St} {H : Hp} {Q : VK} (h : LamX.Tabs T H ∧ ∀ (f z : Addr) (H1 : Hp), LamX.ExtN H H1 → LamX.Tabs T H1 → H f = none → H1 f = some (LamO f D z) → H1 z = some (LamX.CodeO z D.q) → Q (.ref f) H1) : tLam T D σ H Q := h
end
/-! ### the bodies -/
section
variable {X : Cx} {D : LamD} {p1 p2 p3 p4 : Pos}
theorem body_or (hN : X.N = wNs) (hb : X.env.scope.names.lookup ("bits" : Str) = some .local) (hs : X.env.scope.names.lookup ("some" : Str) = some .local) : PE X (.BinOp (.Name "bits" p1) .BitOr (.Name "some" p2) p3) fun σ H Q => ∃ a b : Nat, σ = [some (.int (a : Int)), some (.int (b : Int))] ∧ Q (.int ((a ||| b : Nat) : Int)) H := by
  have h := pe_op (pos := p3) u_bor (pe_var (pos := p1) (i := 0) (by rw [hN]; rfl) (.inl hb)) (pe_var (pos := p2) (i := 1) (by rw [hN]; rfl) (.inl hs))
  constructor
  rintro pins s σ H Q I ⟨a, b, rfl, q⟩
  refine h.run pins s _ H Q I ⟨_, rfl, _, rfl, a, b, rfl, rfl, ?_⟩
  show Q (.int (Builtin.bitOr (a : Int) (b : Int))) H
  rw [or_cast]; exact q
theorem body_and (hN : X.N = wNs) (hb : X.env.scope.names.lookup ("bits" : Str) = some .local) (hs : X.env.scope.names.lookup ("some" : Str) = some .local) : PE X (.BinOp (.Name "bits" p1) .BitAnd (.Name "some" p2) p3) fun σ H Q => ∃ a b : Nat, σ = [some (.int (a : Int)), some (.int (b : Int))] ∧ Q (.int ((a &&& b : Nat) : Int)) H := by
  have h := pe_op (pos := p3) u_ban (pe_var (pos := p1) (i := 0) (by rw [hN]; rfl) (.inl hb)) (pe_var (pos := p2) (i := 1) (by rw [hN]; rfl) (.inl hs))
  constructor
  rintro pins s σ H Q I ⟨a, b, rfl, q⟩
  refine h.run pins s _ H Q I ⟨_, rfl, _, rfl, a, b, rfl, rfl, ?_⟩
  show Q (.int (Builtin.bitAnd (a : Int) (b : Int))) H
  rw [and_cast]; exact q
theorem body_xor (hN : X.N = wNs) (hb : X.env.scope.names.lookup ("bits" : Str) = some .local) (hs : X.env.scope.names.lookup ("some" : Str) = some .local) : PE X (.BinOp (.Name "bits" p1) .BitXor (.Name "some" p2) p3) fun σ H Q => ∃ a b : Nat, σ = [some (.int (a : Int)), some (.int (b : Int))] ∧ Q (.int ((a ^^^ b : Nat) : Int)) H := by
  have h := pe_op (pos := p3) u_bxo (pe_var (pos := p1) (i := 0) (by rw [hN]; rfl) (.inl hb)) (pe_var (pos := p2) (i := 1) (by rw [hN]; rfl) (.inl hs))
  constructor
  rintro pins s σ H Q I ⟨a, b, rfl, q⟩
  refine h.run pins s _ H Q I ⟨_, rfl, _, rfl, a, b, rfl, rfl, ?_⟩
  show Q (.int (Builtin.bitXor (a : Int) (b : Int))) H
  rw [xor_cast]; exact q
theorem body_andn (hN : X.N = wNs) (hb : X.env.scope.names.lookup ("bits" : Str) = some .local) (hs : X.env.scope.names.lookup ("some" : Str) = some .local) : PE X (.BinOp (.Name "bits" p1) .BitAnd (.UnaryOp .Invert (.Name "some" p2) p4) p3) fun σ H Q => ∃ a b : Nat, σ = [some (.int (a : Int)), some (.int (b : Int))] ∧ Q (.int ((andn a b : Nat) : Int)) H := by
  have h := pe_op (pos := p3) u_ban (pe_var (pos := p1) (i := 0) (by rw [hN]; rfl) (.inl hb)) (pe_un (pos := p4) u_inv (pe_var (pos := p2) (i := 1) (by rw [hN]; rfl) (.inl hs)))
  constructor
  rintro pins s σ H Q I ⟨a, b, rfl, q⟩
  refine h.run pins s _ H Q I ⟨_, rfl, _, rfl, b, rfl, a, _, rfl, rfl, ?_⟩
  show Q (.int (Builtin.bitAnd (a : Int) (Builtin.bitNot (b : Int)))) H
  rw [and_not_cast]; exact q
end
/-! ### a def that makes one -/
/-- the lambda that a def hands on in its last row -/
def lamOf (q : Str) (st : Stmt) : LamD := match defBody st with
  | [.Return (some (.Call _ es _ _)) _] => (match es.getLast? with
    | some (.Lambda ps b sc _) => ⟨q, ps, b, sc⟩
    | _ => ⟨q, defArgs st, .Name "x" ⟨0, 0, 0, 0⟩, defScope st⟩)
  | _ => ⟨q, defArgs st, .Name "x" ⟨0, 0, 0, 0⟩, defScope st⟩
/-- the def's code object and its table -/
def CodF (mg : Str → Option Value) (base : Heap) (T : List (Addr × Str)) (fd : FuncData) (D : LamD) : Prop := ∃ cc P, fd.code = .ref cc ∧ LamX.TabB base mg cc P ∧ (P, D.q) ∈ T ∧ ∀ p ∈ T, p.1 = P → p.2 = D.q
theorem _root_.L2.FunD.okC {P : Program} {w : World} {K : PySem.W.Frag} {mg : Str → Option Value} {base : Heap} {x qual : Str} {params : Arguments} {body : List Stmt} {scope : Scope} {dvs : List V} {kws : List (Str × V)} {f : Addr} {fd : FuncData} {CX : CXT} {N ps : List Str} {k : Nat} {sp : Sp} {T : List (Addr × Str)} {D : LamD}
    (F : FunD K x qual params body scope dvs kws f fd) (C : CodF mg base T fd D) (S : FnScope N ps scope) (len : ∀ vs H Q E, sp vs H Q E → vs.length = ps.length)
    (hb : ∀ (cdv : Value) (cc Pt : Addr), cdv = .ref cc → LamX.TabB base mg cc Pt → (Pt, D.q) ∈ T → (∀ p ∈ T, p.1 = Pt → p.2 = D.q) → ∀ (A : Around) (outer : List Env) (s : Shared) (H : Hp) (vs : List V) (Q : VK) (E : XK), Room k (A.deeper (envOfC qual scope s.heap.objs.size f cdv)) → sp vs H Q E →
      ∃ t, PSs (cxOf CX P w K mg base N qual scope f cdv A outer s H E) body t ∧ t { nx := fun _ H' => Q .non H', rt := Q } (start N vs) H) : FnOk P w K mg base CX (k + 1) f fd ps sp := by
  obtain ⟨oc, od, dV, kV, doc, pm, an, cdv, ct, osl, rfl, lk, hcd, _, _⟩ := F.ex
  obtain ⟨cc, Pt, e1, e2, e3, e4⟩ := C
  exact fn_of lk hcd S len fun A outer s H vs Q E hr hs => hb cdv cc Pt e1 e2 e3 e4 A outer s H vs Q E hr hs
theorem pe_lamW {X : Cx} {c : Cs} {k : Wy} {D : LamD} {cc Pt : Addr} {pos : Pos} {cdv : Value} (hw : c.way k = D) (W : ∀ k, WayOk (c.way k) k) (cdc : cdv = .ref cc) (B : LamX.TabB X.base X.mg cc Pt) (hq : X.env.qual ++ "<lambda>" = D.q) (hm : (Pt, (c.way k).q) ∈ c.T) (hu : ∀ p ∈ c.T, p.1 = Pt → p.2 = (c.way k).q) (hc : X.env.code = cdv := by rfl) :
    PE X (.Lambda D.params D.body D.scope pos) (tLam c.T (c.way k)) := by
  subst hw
  exact pe_lam (W k).ok B (hc.trans cdc) hq hm hu
/-! ### looks at a lambda's words -/
theorem lamOk_by {D : LamD} {ps : List Str} (h1 : ∀ cells : List (Str × Addr), cloFrom cells D.scope.names [] = []) (h2 : D.scope.names.all (fun y => !decide (y.2 = .free)) = true) (h3 : ∀ env : Env, defaultsOf D.params env = ([], [])) (h4 : NdefX.nscB ps ps [] D.scope = true)
    (h5 : ∀ (pm cv ct : Value) (us : List Value), us.length = ps.length → bindArgs (PySem.W.kla_fn "<lambda>" D.q D.params D.body D.scope [] pm cv ct) ⟨us, []⟩ = pure (ps.zip us)) : LamOk D ps := by
  refine ⟨h1, fun y hy e => ?_, h3, NdefX.nscope_by h4, h5⟩
  have := List.all_eq_true.mp h2 y hy
  rw [e] at this
  simp at this
theorem nodup_fst {T : List (Addr × Str)} {P : Addr} {q : Str} (h : (T.map (·.1)).Nodup) (hm : (P, q) ∈ T) : ∀ p ∈ T, p.1 = P → p.2 = q := by
  induction T with
  | nil => cases hm
  | cons t T ih =>
    rw [List.map_cons, List.nodup_cons] at h
    intro p hp e
    rcases List.mem_cons.mp hp with e1 | h1
    · rcases List.mem_cons.mp hm with e2 | h2
      · rw [e1, ← e2]
      · exact absurd (show t.1 ∈ T.map (·.1) from List.mem_map.mpr ⟨_, h2, by rw [← e, e1]⟩) h.1
    · rcases List.mem_cons.mp hm with e2 | h2
      · exact absurd (show t.1 ∈ T.map (·.1) from List.mem_map.mpr ⟨_, h1, by rw [e, ← e2]⟩) h.1
      · exact ih h.2 h2 p h1 e
/-! ### the head's facts, with one more test of one's own -/
/-! ### a promise that nothing leaves -/
theorem fn_cx0 {P : Program} {w : World} {K : PySem.W.Frag} {mg : Str → Option Value} {base : Heap} {k : Nat} {f : Addr} {fd : FuncData} {ps : List Str} {sp : Sp} (F : FnOk P w K mg base (L2N.CX P w) k f fd ps sp) :
    FnOk P w K mg base CX0 k f fd ps (fun vs H Q _ => sp vs H Q E0) := by
  refine ⟨fun vs H Q E q => F.len vs H Q _ q, fun A outer s H args us vs Q E hr he hb hv hs => codeAny_mono (F.run A outer s H args us vs Q E0 hr he hb hv hs) fun r s' hq => ?_⟩
  cases r with
  | error e =>
    obtain ⟨_, _, _, _, _, _, _, _, _, _, _, _, z⟩ := (show L2N.CX P w outer H s E0 e s' from hq)
    exact z.elim
  | ok fl => cases fl <;> exact hq
section
variable {P : Program} {w : World} {K : PySem.W.Frag} {mg : Str → Option Value} {base : Heap} {k : Nat} {sp : Sp}
theorem exc_of {x : Str} {h : Heap} (X : K.In h) (G : h.Ns mainGlobals mg) (c : (He.Fa.exc x).ok K = true) (g : (He.Fa.glo x).ok K = true) : ExcF K mg x (He.ga K x) := by
  obtain ⟨a, b, d, e⟩ := He.exc_ok c
  exact ⟨a, He.glo_ok X G g, b, d, e⟩
end
/-! ### the head's facts, with empty tables -/
def obsXT (n : Nat) (fa : List He.Fa) (fn : List He.DefD) (tf : List He.Defn) (ex : PySem.W.Frag → Bool) (g : Addr → Option Obj) : He.AlD × Bool := (He.obsD fa fn (He.frT g (He.asD g n)), ex (He.frT g (He.asD g n)) && He.tabsB g tf (He.frT g (He.asD g n)))
/-- the defs' tables: empty, not told of by K -/
structure Tbl (tf : List He.Defn) (h : Heap) (K : PySem.W.Frag) : Prop where
  hd : ∀ p ∈ tf, PySem.W.codeHdIn K (He.cT K p).1 (He.cT K p).2 = true
  out : ∀ p ∈ tf, K.lookup (He.cT K p).2 = none
  emp : ∀ p ∈ tf, h.get? (He.cT K p).2 = some { cls := .none, data := .fields #[] }
theorem tbl_of {n : Nat} {tf : List He.Defn} {h : Heap} (e : He.tabsB h.get? tf (He.frT h.get? (He.asD h.get? n)) = true) : Tbl tf h (He.frT h.get? (He.asD h.get? n)) := by
  generalize hK : He.frT h.get? (He.asD h.get? n) = K at e
  have key : ∀ p ∈ tf, PySem.W.codeHdIn K (He.cT K p).1 (He.cT K p).2 = true ∧ ∃ o, h.get? (He.cT K p).2 = some o ∧ He.emptyTab o = true := by
    intro p hp
    have e1 := List.all_eq_true.mp e p hp
    obtain ⟨a, b⟩ := He.ba e1
    refine ⟨a, ?_⟩
    cases q : h.get? (He.cT K p).2 with
    | none => rw [q] at b; cases b
    | some o => rw [q] at b; exact ⟨o, rfl, b⟩
  refine ⟨fun p hp => (key p hp).1, fun p hp => ?_, fun p hp => ?_⟩
  · obtain ⟨_, o, q, z⟩ := key p hp
    subst hK
    exact He.frT_none q z
  · obtain ⟨_, o, q, z⟩ := key p hp
    rw [q, He.emptyTab_eq z]
def hookXT (n : Nat) (fa : List He.Fa) (fn : List He.DefD) (tf : List He.Defn) (ex : PySem.W.Frag → Bool) : PySem.W.Hook where
  α := He.AlD × Bool
  obs := fun s => obsXT n fa fn tf ex s.heap.get?
  val := fun _ => (He.valD fn, true)
  says := fun _ h => ∃ K : PySem.W.Frag, K.In h ∧ He.SaysD fa fn K ∧ ex K = true ∧ Tbl tf h K
  of := fun _ _ e => ⟨_, He.frT_in, congrArg (fun z : He.AlD × Bool => z.1) e, (He.ba (congrArg (fun z : He.AlD × Bool => z.2) e)).1, tbl_of (He.ba (congrArg (fun z : He.AlD × Bool => z.2) e)).2⟩
  keeps := fun _ _ _ ⟨K, hK, c, e, t⟩ k => ⟨K, PySem.W.Frag.In.keeps hK k, c, e, t.hd, t.out, fun p hp => k _ _ (t.emp p hp)⟩
theorem obsXT_eq {n : Nat} {fa : List He.Fa} {fn : List He.DefD} {tf : List He.Defn} {ex : PySem.W.Frag → Bool} {g : Addr → Option Obj} {s : Shared} (h : ∀ a, g a = s.heap.get? a) : obsXT n fa fn tf ex g = (hookXT n fa fn tf ex).obs s := by
  have e : g = s.heap.get? := funext h
  rw [e] <;> rfl
theorem codF_of {K : PySem.W.Frag} {mg : Str → Option Value} {base : Heap} {T : List (Addr × Str)} {p : He.Defn} {x qual : Str} {params : Arguments} {body : List Stmt} {scope : Scope} {dvs : List V} {kws : List (Str × V)} {fd : FuncData} {D : LamD}
    (F : FunD K x qual params body scope dvs kws (He.fAd K p) fd) (B : LamX.TabB base mg (He.cT K p).1 (He.cT K p).2) (hm : ((He.cT K p).2, D.q) ∈ T) (hn : (T.map (·.1)).Nodup) : CodF mg base T fd D := by
  obtain ⟨oc, od, dV, kV, doc, pm, an, cdv, ct, osl, rfl, lk, hcd, _, _⟩ := F.ex
  obtain ⟨cc, e⟩ := He.codeIn_ref hcd
  have e2 := He.codeOf_eq lk e
  refine ⟨cc, (He.cT K p).2, e, ?_, hm, nodup_fst hn hm⟩
  have : (He.cT K p).1 = cc := e2
  rw [this] at B
  exact B
/-- the tables at the law's entry -/
theorem tabs_start {tf : List He.Defn} {K : PySem.W.Frag} {H : Hp} {T : List (Addr × Str)} (h : ∀ p ∈ tf.map (He.cT K), H p.2 = some (.tbl #[])) (hT : ∀ p ∈ T, p.1 ∈ tf.map fun q => (He.cT K q).2) : LamX.Tabs T H := by
  intro p hp
  obtain ⟨q, hq, e⟩ := List.mem_map.mp (hT p hp)
  have := h _ (List.mem_map.mpr ⟨q, hq, rfl⟩)
  refine LamX.TabS.nil ?_
  rw [← e]; exact this
def top (i : Nat) : Stmt := PySem.Challenge.pw_sackset_k09_written.main.body.getD i (.Pass ⟨0, 0, 0, 0⟩)
abbrev s_Sack___init__ : Stmt := inClass (top 13) 0
abbrev s_Sack_form : Stmt := inClass (top 13) 4
abbrev s_Sack_count : Stmt := inClass (top 13) 5
abbrev s_Sack_lows : Stmt := inClass (top 13) 6
abbrev s_RowSack_kind : Stmt := inClass (top 14) 0
abbrev s_RowSack_held : Stmt := inClass (top 14) 1
abbrev s_RowSack_weight : Stmt := inClass (top 14) 2
abbrev s_RunsSack_kind : Stmt := inClass (top 15) 0
abbrev s_RunsSack_held : Stmt := inClass (top 15) 1
abbrev s_RunsSack_weight : Stmt := inClass (top 15) 2
abbrev s_BitsSack_kind : Stmt := inClass (top 16) 0
abbrev s_BitsSack_held : Stmt := inClass (top 16) 1
abbrev s_BitsSack_weight : Stmt := inClass (top 16) 2
abbrev s_lows_of : Stmt := top 17
abbrev s_runs_of : Stmt := top 18
abbrev s_count_of : Stmt := top 19
abbrev s_least_sack : Stmt := top 20
abbrev s_is_number : Stmt := top 24
abbrev s_need_number : Stmt := top 25
abbrev s_need_stretch : Stmt := top 26
abbrev s_stretch_bits : Stmt := top 27
abbrev s_NumberSet___init__ : Stmt := inClass (top 28) 0
abbrev s_NumberSet_bits_at : Stmt := inClass (top 28) 1
abbrev s_NumberSet_set_bits : Stmt := inClass (top 28) 2
abbrev s_NumberSet_uppers : Stmt := inClass (top 28) 3
abbrev s_NumberSet_put : Stmt := inClass (top 28) 4
abbrev s_NumberSet_by_stretch : Stmt := inClass (top 28) 6
abbrev s_NumberSet_put_all : Stmt := inClass (top 28) 7
abbrev s_NumberSet_drop_all : Stmt := inClass (top 28) 8
abbrev s_NumberSet_turn : Stmt := inClass (top 28) 9
abbrev s_NumberSet_count : Stmt := inClass (top 28) 11
abbrev s_NumberSet_numbers : Stmt := inClass (top 28) 12
abbrev s_NumberSet_sacks : Stmt := inClass (top 28) 13
abbrev s_NumberSet_stretches : Stmt := inClass (top 28) 18
abbrev s_together : Stmt := top 29
abbrev s_apart : Stmt := top 30
abbrev s_same : Stmt := top 31
abbrev s_written : Stmt := top 35
abbrev s_read_number : Stmt := top 36
abbrev s_read_stretch : Stmt := top 37
abbrev s_read : Stmt := top 38
abbrev s__law_cell_at : Stmt := top 40
abbrev s__law_lows : Stmt := top 41
abbrev s__law_runs : Stmt := top 42
abbrev s__law_form : Stmt := top 43
abbrev s__law_pattern : Stmt := top 44
abbrev s__law_begin : Stmt := top 45
abbrev s__law_stretch : Stmt := top 46
abbrev s__law_bits : Stmt := top 47
abbrev s__law_forms : Stmt := top 48
abbrev s__law_numbers : Stmt := top 49
abbrev s__law_filled : Stmt := top 50
abbrev s__law_built : Stmt := top 51
abbrev s__law_spot : Stmt := top 52
abbrev s__law_stretches : Stmt := top 53
abbrev s__law_text : Stmt := top 54
abbrev s__law_wide : Stmt := top 55
abbrev s_law : Stmt := top 56
def fnL : List He.DefD := [
  ⟨("RowSack", some "__init__"), "__init__", "Sack.__init__", defArgs s_Sack___init__, defBody s_Sack___init__, defScope s_Sack___init__, [], []⟩,
  ⟨("RunsSack", some "__init__"), "__init__", "Sack.__init__", defArgs s_Sack___init__, defBody s_Sack___init__, defScope s_Sack___init__, [], []⟩,
  ⟨("BitsSack", some "__init__"), "__init__", "Sack.__init__", defArgs s_Sack___init__, defBody s_Sack___init__, defScope s_Sack___init__, [], []⟩,
  ⟨("RowSack", some "form"), "form", "Sack.form", defArgs s_Sack_form, defBody s_Sack_form, defScope s_Sack_form, [], []⟩,
  ⟨("RunsSack", some "form"), "form", "Sack.form", defArgs s_Sack_form, defBody s_Sack_form, defScope s_Sack_form, [], []⟩,
  ⟨("BitsSack", some "form"), "form", "Sack.form", defArgs s_Sack_form, defBody s_Sack_form, defScope s_Sack_form, [], []⟩,
  ⟨("RowSack", some "count"), "count", "Sack.count", defArgs s_Sack_count, defBody s_Sack_count, defScope s_Sack_count, [], []⟩,
  ⟨("RunsSack", some "count"), "count", "Sack.count", defArgs s_Sack_count, defBody s_Sack_count, defScope s_Sack_count, [], []⟩,
  ⟨("BitsSack", some "count"), "count", "Sack.count", defArgs s_Sack_count, defBody s_Sack_count, defScope s_Sack_count, [], []⟩,
  ⟨("RowSack", some "lows"), "lows", "Sack.lows", defArgs s_Sack_lows, defBody s_Sack_lows, defScope s_Sack_lows, [], []⟩,
  ⟨("RunsSack", some "lows"), "lows", "Sack.lows", defArgs s_Sack_lows, defBody s_Sack_lows, defScope s_Sack_lows, [], []⟩,
  ⟨("BitsSack", some "lows"), "lows", "Sack.lows", defArgs s_Sack_lows, defBody s_Sack_lows, defScope s_Sack_lows, [], []⟩,
  ⟨("RowSack", some "kind"), "kind", "RowSack.kind", defArgs s_RowSack_kind, defBody s_RowSack_kind, defScope s_RowSack_kind, [], []⟩,
  ⟨("RowSack", some "held"), "held", "RowSack.held", defArgs s_RowSack_held, defBody s_RowSack_held, defScope s_RowSack_held, [], []⟩,
  ⟨("RowSack", some "weight"), "weight", "RowSack.weight", defArgs s_RowSack_weight, defBody s_RowSack_weight, defScope s_RowSack_weight, [], []⟩,
  ⟨("RunsSack", some "kind"), "kind", "RunsSack.kind", defArgs s_RunsSack_kind, defBody s_RunsSack_kind, defScope s_RunsSack_kind, [], []⟩,
  ⟨("RunsSack", some "held"), "held", "RunsSack.held", defArgs s_RunsSack_held, defBody s_RunsSack_held, defScope s_RunsSack_held, [], []⟩,
  ⟨("RunsSack", some "weight"), "weight", "RunsSack.weight", defArgs s_RunsSack_weight, defBody s_RunsSack_weight, defScope s_RunsSack_weight, [], []⟩,
  ⟨("BitsSack", some "kind"), "kind", "BitsSack.kind", defArgs s_BitsSack_kind, defBody s_BitsSack_kind, defScope s_BitsSack_kind, [], []⟩,
  ⟨("BitsSack", some "held"), "held", "BitsSack.held", defArgs s_BitsSack_held, defBody s_BitsSack_held, defScope s_BitsSack_held, [], []⟩,
  ⟨("BitsSack", some "weight"), "weight", "BitsSack.weight", defArgs s_BitsSack_weight, defBody s_BitsSack_weight, defScope s_BitsSack_weight, [], []⟩,
  ⟨("lows_of", none), "lows_of", "lows_of", defArgs s_lows_of, defBody s_lows_of, defScope s_lows_of, [], []⟩,
  ⟨("runs_of", none), "runs_of", "runs_of", defArgs s_runs_of, defBody s_runs_of, defScope s_runs_of, [], []⟩,
  ⟨("count_of", none), "count_of", "count_of", defArgs s_count_of, defBody s_count_of, defScope s_count_of, [], []⟩,
  ⟨("least_sack", none), "least_sack", "least_sack", defArgs s_least_sack, defBody s_least_sack, defScope s_least_sack, [], []⟩,
  ⟨("is_number", none), "is_number", "is_number", defArgs s_is_number, defBody s_is_number, defScope s_is_number, [], []⟩,
  ⟨("need_number", none), "need_number", "need_number", defArgs s_need_number, defBody s_need_number, defScope s_need_number, [], []⟩,
  ⟨("need_stretch", none), "need_stretch", "need_stretch", defArgs s_need_stretch, defBody s_need_stretch, defScope s_need_stretch, [], []⟩,
  ⟨("stretch_bits", none), "stretch_bits", "stretch_bits", defArgs s_stretch_bits, defBody s_stretch_bits, defScope s_stretch_bits, [], []⟩,
  ⟨("NumberSet", some "__init__"), "__init__", "NumberSet.__init__", defArgs s_NumberSet___init__, defBody s_NumberSet___init__, defScope s_NumberSet___init__, [.non], []⟩,
  ⟨("NumberSet", some "bits_at"), "bits_at", "NumberSet.bits_at", defArgs s_NumberSet_bits_at, defBody s_NumberSet_bits_at, defScope s_NumberSet_bits_at, [], []⟩,
  ⟨("NumberSet", some "set_bits"), "set_bits", "NumberSet.set_bits", defArgs s_NumberSet_set_bits, defBody s_NumberSet_set_bits, defScope s_NumberSet_set_bits, [], []⟩,
  ⟨("NumberSet", some "uppers"), "uppers", "NumberSet.uppers", defArgs s_NumberSet_uppers, defBody s_NumberSet_uppers, defScope s_NumberSet_uppers, [], []⟩,
  ⟨("NumberSet", some "put"), "put", "NumberSet.put", defArgs s_NumberSet_put, defBody s_NumberSet_put, defScope s_NumberSet_put, [], []⟩,
  ⟨("NumberSet", some "by_stretch"), "by_stretch", "NumberSet.by_stretch", defArgs s_NumberSet_by_stretch, defBody s_NumberSet_by_stretch, defScope s_NumberSet_by_stretch, [], []⟩,
  ⟨("NumberSet", some "put_all"), "put_all", "NumberSet.put_all", defArgs s_NumberSet_put_all, defBody s_NumberSet_put_all, defScope s_NumberSet_put_all, [.non], []⟩,
  ⟨("NumberSet", some "drop_all"), "drop_all", "NumberSet.drop_all", defArgs s_NumberSet_drop_all, defBody s_NumberSet_drop_all, defScope s_NumberSet_drop_all, [.non], []⟩,
  ⟨("NumberSet", some "turn"), "turn", "NumberSet.turn", defArgs s_NumberSet_turn, defBody s_NumberSet_turn, defScope s_NumberSet_turn, [.non], []⟩,
  ⟨("NumberSet", some "count"), "count", "NumberSet.count", defArgs s_NumberSet_count, defBody s_NumberSet_count, defScope s_NumberSet_count, [], []⟩,
  ⟨("NumberSet", some "numbers"), "numbers", "NumberSet.numbers", defArgs s_NumberSet_numbers, defBody s_NumberSet_numbers, defScope s_NumberSet_numbers, [.int 0, .int 16777215], []⟩,
  ⟨("NumberSet", some "sacks"), "sacks", "NumberSet.sacks", defArgs s_NumberSet_sacks, defBody s_NumberSet_sacks, defScope s_NumberSet_sacks, [], []⟩,
  ⟨("NumberSet", some "stretches"), "stretches", "NumberSet.stretches", defArgs s_NumberSet_stretches, defBody s_NumberSet_stretches, defScope s_NumberSet_stretches, [], []⟩,
  ⟨("together", none), "together", "together", defArgs s_together, defBody s_together, defScope s_together, [], []⟩,
  ⟨("apart", none), "apart", "apart", defArgs s_apart, defBody s_apart, defScope s_apart, [], []⟩,
  ⟨("same", none), "same", "same", defArgs s_same, defBody s_same, defScope s_same, [], []⟩,
  ⟨("written", none), "written", "written", defArgs s_written, defBody s_written, defScope s_written, [], []⟩,
  ⟨("read_number", none), "read_number", "read_number", defArgs s_read_number, defBody s_read_number, defScope s_read_number, [], []⟩,
  ⟨("read_stretch", none), "read_stretch", "read_stretch", defArgs s_read_stretch, defBody s_read_stretch, defScope s_read_stretch, [], []⟩,
  ⟨("read", none), "read", "read", defArgs s_read, defBody s_read, defScope s_read, [], []⟩,
  ⟨("_law_cell_at", none), "_law_cell_at", "_law_cell_at", defArgs s__law_cell_at, defBody s__law_cell_at, defScope s__law_cell_at, [], []⟩,
  ⟨("_law_lows", none), "_law_lows", "_law_lows", defArgs s__law_lows, defBody s__law_lows, defScope s__law_lows, [], []⟩,
  ⟨("_law_runs", none), "_law_runs", "_law_runs", defArgs s__law_runs, defBody s__law_runs, defScope s__law_runs, [], []⟩,
  ⟨("_law_form", none), "_law_form", "_law_form", defArgs s__law_form, defBody s__law_form, defScope s__law_form, [], []⟩,
  ⟨("_law_pattern", none), "_law_pattern", "_law_pattern", defArgs s__law_pattern, defBody s__law_pattern, defScope s__law_pattern, [], []⟩,
  ⟨("_law_begin", none), "_law_begin", "_law_begin", defArgs s__law_begin, defBody s__law_begin, defScope s__law_begin, [], []⟩,
  ⟨("_law_stretch", none), "_law_stretch", "_law_stretch", defArgs s__law_stretch, defBody s__law_stretch, defScope s__law_stretch, [], []⟩,
  ⟨("_law_bits", none), "_law_bits", "_law_bits", defArgs s__law_bits, defBody s__law_bits, defScope s__law_bits, [], []⟩,
  ⟨("_law_forms", none), "_law_forms", "_law_forms", defArgs s__law_forms, defBody s__law_forms, defScope s__law_forms, [], []⟩,
  ⟨("_law_numbers", none), "_law_numbers", "_law_numbers", defArgs s__law_numbers, defBody s__law_numbers, defScope s__law_numbers, [], []⟩,
  ⟨("_law_filled", none), "_law_filled", "_law_filled", defArgs s__law_filled, defBody s__law_filled, defScope s__law_filled, [], []⟩,
  ⟨("_law_built", none), "_law_built", "_law_built", defArgs s__law_built, defBody s__law_built, defScope s__law_built, [], []⟩,
  ⟨("_law_spot", none), "_law_spot", "_law_spot", defArgs s__law_spot, defBody s__law_spot, defScope s__law_spot, [], []⟩,
  ⟨("_law_stretches", none), "_law_stretches", "_law_stretches", defArgs s__law_stretches, defBody s__law_stretches, defScope s__law_stretches, [], []⟩,
  ⟨("_law_text", none), "_law_text", "_law_text", defArgs s__law_text, defBody s__law_text, defScope s__law_text, [], []⟩,
  ⟨("_law_wide", none), "_law_wide", "_law_wide", defArgs s__law_wide, defBody s__law_wide, defScope s__law_wide, [], []⟩,
  ⟨("law", none), "law", "law", defArgs s_law, defBody s_law, defScope s_law, [], []⟩]
def faL0 : List He.Fa := [.cls "RowSack", .noat "RowSack" "bits", .cls "RunsSack", .noat "RunsSack" "bits", .cls "BitsSack", .noat "BitsSack" "bits", .cls "NumberSet", .noat "NumberSet" "by_upper", .glo "count_of", .glo "lows_of", .free "tuple", .glo "runs_of", .free "len", .int "WORDS" 4, .free "range", .int "WORD" 64, .int "FULL_WORD" 18446744073709551615, .int "BITS_WEIGHT" 32, .free "sum", .glo "RowSack", .mkr "RowSack", .glo "RunsSack", .mkr "RunsSack", .glo "BitsSack", .mkr "BitsSack", .free "int", .free "isinstance", .free "bool", .int "GREATEST" 16777215, .glo "is_number"]
def faL1 : List He.Fa := [.glo "NoNumber", .exc "NoNumber", .int "LONGEST" 99999, .glo "NoStretch", .exc "NoStretch", .int "SIZE" 256, .free "max", .free "min", .glo "need_number", .glo "least_sack", .free "sorted", .free "divmod", .glo "need_stretch", .glo "stretch_bits", .glo "NumberSet", .mkr "NumberSet", .glo "together", .glo "apart", .free "str", .int "MOST_FIGURES" 8, .str "FIGURES" "0123456789", .glo "NoText", .exc "NoText", .glo "read_number", .glo "read_stretch", .glo "_law_lows", .glo "_law_runs", .glo "_law_form", .glo "_law_pattern", .glo "_law_cell_at"]
def faL2 : List He.Fa := [.glo "_law_filled", .glo "_law_stretch", .glo "_law_bits", .glo "_law_stretches", .glo "written", .glo "read", .glo "_law_begin", .glo "_law_built", .glo "_law_text", .glo "_law_numbers", .glo "same", .glo "_law_wide", .glo "law", .meth "RowSack" "form", .meth "RunsSack" "form", .meth "BitsSack" "form", .meth "RowSack" "count", .meth "RunsSack" "count", .meth "BitsSack" "count", .meth "RowSack" "lows", .meth "RunsSack" "lows", .meth "BitsSack" "lows", .meth "RowSack" "kind", .meth "RowSack" "held", .meth "RowSack" "weight", .meth "RunsSack" "kind", .meth "RunsSack" "held", .meth "RunsSack" "weight", .meth "BitsSack" "kind", .meth "BitsSack" "held"]
def faL3 : List He.Fa := [.meth "BitsSack" "weight", .meth "NumberSet" "bits_at", .meth "NumberSet" "set_bits", .meth "NumberSet" "uppers", .meth "NumberSet" "put", .meth "NumberSet" "by_stretch", .meth "NumberSet" "put_all", .meth "NumberSet" "drop_all", .meth "NumberSet" "turn", .meth "NumberSet" "count", .meth "NumberSet" "numbers", .meth "NumberSet" "sacks", .meth "NumberSet" "stretches"]
def faL : List He.Fa := faL0 ++ faL1 ++ faL2 ++ faL3
def tfq : List (He.Defn × Str) := [(("NumberSet", some "put_all"), "NumberSet.put_all.<locals>.<lambda>"), (("NumberSet", some "drop_all"), "NumberSet.drop_all.<locals>.<lambda>"), (("NumberSet", some "turn"), "NumberSet.turn.<locals>.<lambda>"), (("apart", none), "apart.<locals>.<lambda>")]
def tf : List He.Defn := tfq.map (·.1)
def tT (K : PySem.W.Frag) : List (Addr × Str) := tfq.map fun x => ((He.cT K x.1).2, x.2)
def exB (_ : PySem.W.Frag) : Bool := true
def exNb (K : PySem.W.Frag) : Bool := decide (PySem.W.exmOne K (.ref (He.ga K "NoStretch")) (.ref (He.ga K "NoStretch")) = some true)
def exB2 (K : PySem.W.Frag) : Bool := exB K && exNb K
abbrev R : PySem.W.OpenRow := PySem.W.OpenLaw.row PySem.Challenge.rw_sackset_k09_written
def exT (K : PySem.W.Frag) : Bool := exB2 K && decide (((tT K).map (·.1)).Nodup)
abbrev hk : PySem.W.Hook := hookXT 5 faL fnL tf exT
def ob (s : PySem.W.SharedT) : He.AlD × Bool := obsXT 5 faL fnL tf exT (HandSHeadRun.getT s)
theorem ob_eq (s : PySem.W.SharedT) : ob s = hk.obs s.abs := obsXT_eq (HandSHeadRun.getT_eq s)
def nm0 : List Str := ["_wall", "SackError", "NoNumber", "NoStretch", "NoRank", "NoText", "SIZE", "WORD", "WORDS", "FULL_WORD", "BITS_WEIGHT", "Sack", "RowSack", "RunsSack", "BitsSack", "lows_of", "runs_of", "count_of", "least_sack", "GREATEST"]
def nm1 : List Str := ["LONGEST", "is_number", "need_number", "need_stretch", "stretch_bits", "NumberSet", "together", "apart", "same", "FIGURES", "MOST_FIGURES", "written", "read_number", "read_stretch", "read", "_law_cell_at", "_law_lows", "_law_runs", "_law_form", "_law_pattern"]
def nm2 : List Str := ["_law_begin", "_law_stretch", "_law_bits", "_law_forms", "_law_numbers", "_law_filled", "_law_built", "_law_spot", "_law_stretches", "_law_text", "_law_wide"]
def nms : List Str := nm0 ++ nm1 ++ nm2
set_option maxHeartbeats 0 in
theorem run (w : World) : HandSHeadRun.RunEq R (PySem.W.view R.prog [56]) hk ob 6000 nms w := by
  intro os
  kernel_rfl
local macro_rules | `(tactic| walk_at "go1") => `(tactic| first
  | ((with_reducible apply w_var); exact rfl)
  | with_reducible refine w_c ?_ | with_reducible refine w_op ?_ | with_reducible refine w_un ?_ | with_reducible refine w_nil ?_ | with_reducible refine w_cons ?_
  | with_reducible refine w_tup ?_ | with_reducible refine w_lst ?_ | with_reducible refine w_cb ?_ | with_reducible refine w_call ?_ | with_reducible refine w_meth ?_ | with_reducible refine w_make ?_
  | with_reducible refine w_fld ?_ | with_reducible refine w_bm ?_ | with_reducible refine w_bm0 ?_ | with_reducible refine w_bits ?_ | with_reducible refine w_bits1 ?_
  | with_reducible refine w_sl ?_ | with_reducible refine w_nopart ?_ | with_reducible refine w_part ?_ | with_reducible refine w_ife ?_ | with_reducible refine w_andv ?_ | with_reducible refine w_orv ?_ | with_reducible refine w_notv ?_ | with_reducible refine w_chain ?_
  | with_reducible refine w_test ?_ | with_reducible refine w_tb ?_ | with_reducible refine w_bl ?_ | with_reducible refine w_and ?_ | with_reducible refine w_or ?_ | with_reducible refine w_not ?_
  | with_reducible refine w_seq ?_ | with_reducible refine w_next ?_ | with_reducible refine w_drop ?_ | with_reducible refine w_ret ?_ | with_reducible refine w_retn ?_ | with_reducible refine w_ifs ?_ | with_reducible refine w_asg ?_
  | ((with_reducible refine w_name ?_); simp only [List.set_cons_zero, List.set_cons_succ])
  | ((with_reducible apply w_aug); exact rfl)
  | with_reducible refine r_add ?_ | with_reducible refine r_sub ?_ | with_reducible refine r_ban ?_ | with_reducible refine r_bor ?_ | with_reducible refine r_bxo ?_ | with_reducible refine r_neg ?_ | with_reducible refine r_inv ?_
  | with_reducible refine r_padd ?_ | with_reducible refine r_psub ?_ | with_reducible refine r_pban ?_ | with_reducible refine r_pbor ?_ | with_reducible refine r_pbxo ?_
  | with_reducible refine r_eqi ?_ | with_reducible refine r_nei ?_ | with_reducible refine r_eqb ?_ | with_reducible refine r_neb ?_ | with_reducible refine r_eqs ?_ | with_reducible refine r_nes ?_
  | with_reducible refine r_lt ?_ | with_reducible refine r_le ?_ | with_reducible refine r_gt ?_ | with_reducible refine r_ge ?_ | with_reducible refine r_is ?_ | with_reducible refine r_isnot ?_
  | with_reducible refine r_isi_int_int ?_ | with_reducible refine r_isi_int_bool ?_ | with_reducible refine r_isi_bl_bool ?_ | with_reducible refine r_isi_bl_int ?_ | with_reducible refine r_isi_non_int ?_ | with_reducible refine r_isi_non_bool ?_ | with_reducible refine r_isi_str_int ?_ | with_reducible refine r_isi_str_str ?_
  | with_reducible refine w_yes ?_ | ((with_reducible refine w_gnil ?_)) | (with_reducible refine w_gcons ?_)
  | ((with_reducible refine r_mul ?_ ?_); (first | exact Or.inl ⟨by omega, by omega⟩ | exact Or.inr ⟨by omega, by omega⟩))
  | ((with_reducible refine r_fdv ?_ ?_); exact ⟨by omega, by omega⟩) | ((with_reducible refine r_mod ?_ ?_); omega) | ((with_reducible refine r_shr ?_ ?_); omega) | ((with_reducible refine r_pshr ?_ ?_); omega)
  | ((with_reducible refine r_shl ?_ ?_); exact CShl_one (by omega) (by omega)) | with_reducible refine w_gsub ?_
  | with_reducible refine w_for ?_ | with_reducible refine w_lc ?_ | with_reducible refine w_rng1 ?_ | with_reducible refine w_rng2 ?_ | with_reducible refine w_iList ?_ | with_reducible refine w_iTup ?_ | with_reducible refine w_iStr ?_ | with_reducible refine w_ort ?_ | with_reducible refine w_revL ?_ | with_reducible refine w_lockE ?_ | with_reducible refine w_lockS ?_ | with_reducible refine w_dget ?_ | with_reducible refine w_din ?_ | with_reducible refine w_dnotin ?_ | with_reducible refine w_dput ?_ | with_reducible refine w_dpop2 ?_ | with_reducible refine w_sfld ?_ | with_reducible refine w_iItems ?_ | with_reducible refine w_iVals ?_ | with_reducible refine w_iKeys ?_
  | with_reducible refine iteF ?_ | with_reducible refine iteT ?_ | with_reducible refine w_nT ?_ | with_reducible refine w_nF ?_
  | with_reducible refine w_callW ?_ | with_reducible refine w_callP ?_ | with_reducible refine w_methW ?_ | with_reducible refine w_try ?_ | ((with_reducible refine r_pow ?_ ?_); exact ⟨by decide, by decide, by decide⟩)
  | with_reducible refine r_max2 ?_ | with_reducible refine r_min2 ?_ | with_reducible refine r_inti ?_ | with_reducible refine r_intb ?_)
local macro_rules | `(tactic| walk_at "go") => `(tactic| repeat (walk_at "go1"))
/-! ### data within the lines -/
def Sm (n : Nat) (d : PyData) : Prop := d.canLay0 = true ∧ d.depth ≤ n
theorem can_all {ds : List PyData} (h : ∀ d ∈ ds, d.canLay0 = true) : PyData.canLayAll0 ds = true := by
  induction ds with
  | nil => rfl
  | cons d ds ih =>
    unfold PyData.canLayAll0
    rw [h d List.mem_cons_self, ih fun e he => h e (List.mem_cons_of_mem _ he)]; rfl
theorem depth_all {n : Nat} {ds : List PyData} (h : ∀ d ∈ ds, d.depth ≤ n) : PyData.depthAll ds ≤ n := by
  induction ds with
  | nil => exact Nat.zero_le _
  | cons d ds ih =>
    unfold PyData.depthAll
    have a := h d List.mem_cons_self
    have b := ih fun e he => h e (List.mem_cons_of_mem _ he)
    exact Nat.max_le.mpr ⟨a, b⟩
theorem Sm.int (i : Int) {n : Nat} : Sm n (.int i) := ⟨rfl, Nat.zero_le _⟩
theorem Sm.bl (i : Bool) {n : Nat} : Sm n (.bool i) := ⟨rfl, Nat.zero_le _⟩
theorem Sm.non {n : Nat} : Sm n .none := ⟨rfl, Nat.zero_le _⟩
theorem Sm.str {x : Str} (h : PyData.strOk x = true) {n : Nat} : Sm n (.str x) := ⟨h, Nat.zero_le _⟩
theorem Sm.list {n : Nat} {ds : List PyData} (h : ∀ d ∈ ds, Sm n d) : Sm (n + 1) (.list ds) := ⟨by unfold PyData.canLay0; exact can_all fun d hd => (h d hd).1, by unfold PyData.depth; exact Nat.succ_le_succ (depth_all fun d hd => (h d hd).2)⟩
theorem Sm.tuple {n : Nat} {ds : List PyData} (h : ∀ d ∈ ds, Sm n d) : Sm (n + 1) (.tuple ds) := ⟨by unfold PyData.canLay0; exact can_all fun d hd => (h d hd).1, by unfold PyData.depth; exact Nat.succ_le_succ (depth_all fun d hd => (h d hd).2)⟩
theorem Sm.mono {n m : Nat} {d : PyData} (h : Sm n d) (e : n ≤ m) : Sm m d := ⟨h.1, Nat.le_trans h.2 e⟩
theorem Sm.shaped {n : Nat} {d : PyData} (h : Sm n d) (e : n ≤ 64 := by decide) : SeqAt.shaped d = true := by
  unfold SeqAt.shaped
  rw [h.1, decide_eq_true (Nat.le_trans h.2 e)]; rfl
theorem Sm.refl {n : Nat} {d : PyData} (h : Sm n d) : PyData.eqv d d = true := SeqAt.eqv_refl d h.1
/-! ### pairs, forms -/
def dPairs (l : List Pr) : List PyData := l.map fun p : Pr => .tuple [.int (p.1 : Int), .int (p.2 : Int)]
theorem dPairs_app (l m : List Pr) : dPairs (l ++ m) = dPairs l ++ dPairs m := by unfold dPairs; rw [List.map_append]
theorem dPairs_len (l : List Pr) : (dPairs l).length = l.length := by unfold dPairs; rw [List.length_map]
theorem Sm.pair (i j : Int) {n : Nat} : Sm (n + 1) (.tuple [.int i, .int j]) := .tuple fun d hd => by
  rcases List.mem_cons.mp hd with rfl | hd
  · exact .int _
  · rcases List.mem_cons.mp hd with rfl | hd
    · exact .int _
    · cases hd
theorem Sm.pairs {n : Nat} (l : List Pr) : ∀ d ∈ dPairs l, Sm (n + 1) d := fun d hd => by
  obtain ⟨p, _, rfl⟩ := List.mem_map.mp hd
  exact .pair _ _
def kdB (b : Nat) : Kd := if popc b ≤ 2 * (runsB b).length ∧ popc b ≤ 32 then .row else if 2 * (runsB b).length ≤ 32 then .runs else .bits
def kindS : Kd → Str
  | .row => "row"
  | .runs => "runs"
  | .bits => "bits"
def wordB (b k : Nat) : Nat := b / 2 ^ (64 * k) % 2 ^ 64
def heldD (k : Kd) (b : Nat) : List PyData := match k with
  | .row => (nz (bitsOf b)).map .int
  | .runs => dPairs (runsB b)
  | .bits => (nz ((List.range 4).map (wordB b))).map .int
def formDs (k : Kd) (b : Nat) : List PyData := [.str (kindS k), .tuple (heldD k b)]
def formD (b : Nat) : PyData := .tuple (formDs (kdB b) b)
def weightK (k : Kd) (b : Nat) : Nat := match k with
  | .row => popc b
  | .runs => 2 * (runsB b).length
  | .bits => 32
/-! ### what a def hands back: a new list, a new tuple of data -/
def GivesL (c : Cs) (H : Hp) (Q : VK) (ds : List PyData) : Prop := ∀ (p : Addr) (xs : List V) (H' : Hp), Same H H' → H p = none → H' p = some (.lst xs) → Fds c.K H H' xs ds → Q (.ref p) H'
def GivesT (c : Cs) (H : Hp) (Q : VK) (ds : List PyData) : Prop := ∀ (p : Addr) (xs : List V) (H' : Hp), Same H H' → H p = none → H' p = some (.tup xs) → Fds c.K H H' xs ds → Q (.ref p) H'
/-- all of a list's domain stays -/
theorem dom_mut {H H' : Hp} {p : Addr} {o : HO} (d : ∀ b, H' b = none → H b = none) (hp : H' p ≠ none) : ∀ b, upd H' p o b = none → H b = none := fun b q => by
  by_cases c : b = p
  · subst c; rw [upd_same] at q; cases q
  · rw [upd_ne c] at q; exact d b q
theorem take_more {α : Type} : ∀ {l : List α} {i : Nat} {x : α}, l[i]? = some x → l.take (i + 1) = l.take i ++ [x]
  | [], i, x, h => by simp at h
  | a :: l, 0, x, h => by
    have e : a = x := Option.some.inj h
    subst e
    rfl
  | a :: l, i + 1, x, h => by
    have ih := take_more (l := l) (i := i) (x := x) h
    show a :: l.take (i + 1) = a :: l.take i ++ [x]
    rw [ih]
    rfl
/-! ### a comprehension by what each item gives -/
/-- the data of the items below i that are kept -/
def pickD (keep : Nat → Bool) (f : Nat → PyData) (n : Nat) : List PyData := ((List.range n).filter keep).map f
theorem pickD_succ {keep : Nat → Bool} {f : Nat → PyData} (n : Nat) : pickD keep f (n + 1) = if keep n = true then pickD keep f n ++ [f n] else pickD keep f n := by
  unfold pickD
  rw [List.range_succ, List.filter_append, List.map_append]
  by_cases h : keep n = true
  · rw [if_pos h, List.filter_cons, if_pos h]; rfl
  · rw [if_neg h, List.filter_cons, if_neg h]; simp
theorem pickD_len (keep : Nat → Bool) (f : Nat → PyData) (n : Nat) : (pickD keep f n).length ≤ n := by
  unfold pickD
  rw [List.length_map]
  exact Nat.le_trans (List.length_filter_le _ _) (by simp)
/-- what holds between two turns -/
def LcInv (K : PySem.W.Frag) (H1 : Hp) (D : Addr) (keep : Nat → Bool) (f : Nat → PyData) (i : Nat) (H : Hp) : Prop := ∃ acc : List V, Same H1 H ∧ H D = some (.lst acc) ∧ (∀ b, H b = none → upd H1 D (.lst []) b = none) ∧ Fds K (upd H1 D (.lst [])) H acc (pickD keep f i)
theorem lcInv0 {K : PySem.W.Frag} {H1 : Hp} {D : Addr} {keep : Nat → Bool} {f : Nat → PyData} (nD : H1 D = none) : LcInv K H1 D keep f 0 (upd H1 D (.lst [])) := ⟨[], (new_of nD rfl).1, upd_same, fun _ q => q, Fds.nil⟩
theorem lcInv_keep {K : PySem.W.Frag} {H1 H H4 : Hp} {D : Addr} {keep : Nat → Bool} {f : Nat → PyData} {i : Nat} {y : V} (nD : H1 D = none) (h : LcInv K H1 D keep f i H) (hk : keep i = true) (s : Same H H4) (hy : Fd K H H4 y (f i)) (hl : i ≤ 99998) :
    ∃ acc, H4 D = some (.lst acc) ∧ acc.length < sizeLine ∧ LcInv K H1 D keep f (i + 1) (upd H4 D (.lst (acc ++ [y]))) := by
  obtain ⟨acc, s1, hD, dom, hf⟩ := h
  have l := hf.len
  have l2 := pickD_len keep f i
  refine ⟨acc, s _ _ hD, sl5 (by omega), acc ++ [y], (s1.trans s).mut nD, upd_same, dom_mut (fun b q => dom b (s.free q)) (by rw [s _ _ hD]; simp), ?_⟩
  rw [pickD_succ, if_pos hk]
  exact Fds.snoc ((hf.to (New.same s)).to (New.mut upd_same New.refl)) ((hy.left dom).to (New.mut upd_same New.refl))
theorem lcInv_skip {K : PySem.W.Frag} {H1 H H4 : Hp} {D : Addr} {keep : Nat → Bool} {f : Nat → PyData} {i : Nat} (h : LcInv K H1 D keep f i H) (hk : keep i = false) (s : Same H H4) : LcInv K H1 D keep f (i + 1) H4 := by
  obtain ⟨acc, s1, hD, dom, hf⟩ := h
  refine ⟨acc, s1.trans s, s _ _ hD, fun b q => dom b (s.free q), ?_⟩
  rw [pickD_succ, if_neg (by rw [hk]; simp)]
  exact hf.to (New.same s)
section
variable {K : PySem.W.Frag} {g : TG} {tt : TT} {te : TE} {vs : List Nat} {σ : L2.St} {H1 : Hp} {D : Addr} {Qd : Hp → Prop} (keep : Nat → Bool) (f : Nat → PyData)
theorem lcL {a : Addr} {xs : List V} (nD : H1 D = none) (hx : SqL K H1 a xs) (hl : xs.length ≤ 99999)
    (hs : ∀ (i : Nat) (x : V) (H : Hp) (Rk : VK) (Rs : Hp → Prop), xs[i]? = some x → Same H1 H → (keep i = true → ∀ y H4, Same H H4 → Fd K H H4 y (f i) → Rk y H4) → (keep i = false → ∀ H3, Same H H3 → Rs H3) →
      g x (wipe σ vs) H fun σ2 H2 => wipe σ2 vs = wipe σ vs ∧ tt σ2 H2 fun b H3 => if b = true then te σ2 H3 Rk else Rs H3)
    (hd : ∀ H acc, Same H1 H → H D = some (.lst acc) → Fds K H1 H acc (pickD keep f xs.length) → Qd H) :
    ∃ W : Nat → Nat → Hp → Prop, (∃ m, W 0 m (upd H1 D (.lst []))) ∧ ∀ i m H, W i m H →
      ((Itl K a).stop i H ∧ Qd H) ∨ ((Itl K a).go i H ∧ ∃ Nx : Hp → Prop, (∀ H', Nx H' → ∃ m', m' < m ∧ W (i + 1) m' H') ∧ ∀ x H', (Itl K a).yld i H x H' → g x (wipe σ vs) H' fun σ2 H2 => wipe σ2 vs = wipe σ vs ∧ tt σ2 H2 fun b H3 =>
        if b = true then te σ2 H3 fun y H4 => ∃ acc, H4 D = some (.lst acc) ∧ acc.length < sizeLine ∧ Nx (upd H4 D (.lst (acc ++ [y]))) else Nx H3) := by
  refine lc_list (K := K) (a := a) (xs := xs) (LcInv K H1 D keep f) (lcInv0 nD) (fun i H _ ⟨_, s, _⟩ => s.seq hx) (fun i x H hi P => ?_) (fun H ⟨acc, s, h, dom, hf⟩ => hd H acc s h (hf.left fun b q => ?_))
  · have il := (List.getElem?_eq_some_iff.mp hi).1
    exact hs i x H _ _ hi P.choose_spec.1 (fun hk y H4 s hy => lcInv_keep nD P hk s hy (by omega)) fun hk H3 s => lcInv_skip P hk s
  · exact (new_of nD rfl).2.2 b q
theorem lcR {lo : Int} {n : Nat} (nD : H1 D = none) (hl : n ≤ 99999)
    (hs : ∀ (i : Nat) (H : Hp) (Rk : VK) (Rs : Hp → Prop), i < n → Same H1 H → (keep i = true → ∀ y H4, Same H H4 → Fd K H H4 y (f i) → Rk y H4) → (keep i = false → ∀ H3, Same H H3 → Rs H3) →
      g (.int (lo + i)) (wipe σ vs) H fun σ2 H2 => wipe σ2 vs = wipe σ vs ∧ tt σ2 H2 fun b H3 => if b = true then te σ2 H3 Rk else Rs H3)
    (hd : ∀ H acc, Same H1 H → H D = some (.lst acc) → Fds K H1 H acc (pickD keep f n) → Qd H) :
    ∃ W : Nat → Nat → Hp → Prop, (∃ m, W 0 m (upd H1 D (.lst []))) ∧ ∀ i m H, W i m H →
      ((Itr lo n).stop i H ∧ Qd H) ∨ ((Itr lo n).go i H ∧ ∃ Nx : Hp → Prop, (∀ H', Nx H' → ∃ m', m' < m ∧ W (i + 1) m' H') ∧ ∀ x H', (Itr lo n).yld i H x H' → g x (wipe σ vs) H' fun σ2 H2 => wipe σ2 vs = wipe σ vs ∧ tt σ2 H2 fun b H3 =>
        if b = true then te σ2 H3 fun y H4 => ∃ acc, H4 D = some (.lst acc) ∧ acc.length < sizeLine ∧ Nx (upd H4 D (.lst (acc ++ [y]))) else Nx H3) := by
  refine lc_range (LcInv K H1 D keep f) (lcInv0 nD) (fun i H hi P => ?_) (fun H ⟨acc, s, h, dom, hf⟩ => hd H acc s h (hf.left fun b q => ?_))
  · exact hs i H _ _ hi P.choose_spec.1 (fun hk y H4 s hy => lcInv_keep nD P hk s hy (by omega)) fun hk H3 s => lcInv_skip P hk s
  · exact (new_of nD rfl).2.2 b q
end
/-- kept all, whole numbers -/
theorem pickD_all {f : Nat → PyData} (n : Nat) : pickD (fun _ => true) f n = (List.range n).map f := by
  unfold pickD
  rw [List.filter_eq_self.mpr (fun _ _ => rfl)]
theorem Fds.intsInv {K : PySem.W.Frag} {H H' : Hp} {vs : List V} {ns : List Int} (h : Fds K H H' vs (ns.map PyData.int)) : vs = ns.map V.int := dpa_ints_inv h.now
/-! ### what data say of the values -/
theorem mem_bits_dec (b i : Nat) : decide (i ∈ bitsOf b) = b.testBit i := by
  rw [Bool.eq_iff_iff, decide_eq_true_eq, mem_bitsOf]
/-! ### lows_of -/
def sp_lows_of (c : Cs) : Sp := fun vs H Q _ => ∃ b : Nat, vs = [.int (b : Int)] ∧ b < 2 ^ 256 ∧ ∀ (p : Addr) (H' : Hp), Same H H' → H p = none → H' p = some (.lst ((nz (bitsOf b)).map V.int)) → Q (.ref p) H'
theorem len_lows_of (c : Cs) : ∀ vs H Q E, sp_lows_of c vs H Q E → vs.length = (["bits"] : List Str).length := by
  rintro vs H Q E ⟨b, rfl, _⟩; rfl
/-- lows_of -/
def t_lows_of (c : Cs) (E : XK) : TS :=
  tSeq (tAsg (tLst (tNil)) (gName 1))
    (tSeq (tWhile (tTest (tOp (rGt) (tVar 0) (tC (.int 0)))) (tSeq (tAsg (tOp rBan (tVar 0) (tUn rNeg (tVar 0))) (gName 2))
    (tSeq (tDrop (tBM c.K "list" rAppend (tVar 1) (tCons (tOp rSub (tBits (tVar 2)) (tC (.int 1))) (tNil))))
    (tAug 0 (tVar 2) pBxo))))
    (tRet (tVar 1)))
theorem pure_lows_of {c : Cs} (G : Good c) (vs : List V) (H : Hp) (Q : VK) (E : XK) (h : sp_lows_of c vs H Q E) : t_lows_of c E { nx := fun _ H' => Q .non H', rt := Q } (start ["bits", "found", "low"] vs) H := by
  obtain ⟨b0, rfl, hb, hQ⟩ := h
  unfold t_lows_of
  show tSeq _ _ _ [some (.int (b0 : Int)), none, none] H
  walk_at "go"
  refine ⟨sz5 (by decide), fun p np => ?_⟩
  walk_at "go"
  refine w_while (fun m σ H1 => ∃ (b : Nat) (acc : List Nat) (v : Option V), m = b ∧ σ = [some (.int (b : Int)), some (.ref p), v] ∧ b ≤ b0 ∧ Same H H1 ∧ H1 p = some (.lst ((nz acc).map V.int)) ∧ acc ++ bitsOf b = bitsOf b0) b0
    ⟨b0, [], none, rfl, rfl, Nat.le_refl _, (new_of np rfl).1, upd_same, rfl⟩ ?_
  rintro m σ H1 ⟨b, acc, v, rfl, rfl, hle, s, hp, he⟩
  walk_at "go"
  refine if_d (fun h0 => ?_) (fun h0 => ?_)
  · have h0 : 0 < m := by omega
    refine w_body ?_
    walk_at "go"
    rw [and_neg h0]
    refine ⟨tyL hp, ?_⟩
    walk_at "go"
    rw [bits_pow]
    have hl : acc.length ≤ 256 := by
      have := congrArg List.length he
      rw [List.length_append] at this
      have := bitsOf_len hb
      omega
    refine r_append hp (by rw [nzv_len]; exact sl5 (by omega)) ?_
    walk_at "go"
    rw [xor_cast, clr_xor h0]
    have e1 : (((tz m + 1 : Nat) : Int) - 1) = ((tz m : Nat) : Int) := by omega
    rw [e1]
    refine ⟨clr m, clr_lt h0, clr m, acc ++ [tz m], _, rfl, rfl, Nat.le_trans (Nat.le_of_lt (clr_lt h0)) hle, s.mut np, ?_, ?_⟩
    · rw [upd_same, nz_app, List.map_append]; rfl
    · rw [List.append_assoc, ← he, bitsOf_clr h0]; rfl
  · have h0 : m = 0 := by omega
    subst h0
    walk_at "go"
    rw [bitsOf_zero, List.append_nil] at he
    exact hQ p H1 s np (by rw [hp, he])
/-! ### runs_of -/
def sp_runs_of (c : Cs) : Sp := fun vs H Q _ => ∃ b : Nat, vs = [.int (b : Int)] ∧ b < 2 ^ 256 ∧ GivesL c H Q (dPairs (runsB b))
theorem len_runs_of (c : Cs) : ∀ vs H Q E, sp_runs_of c vs H Q E → vs.length = (["bits"] : List Str).length := by
  rintro vs H Q E ⟨b, rfl, _⟩; rfl
/-- runs_of -/
def t_runs_of (c : Cs) (E : XK) : TS :=
  tSeq (tAsg (tLst (tNil)) (gName 1))
    (tSeq (tAsg (tC (.int 0)) (gName 2))
    (tSeq (tWhile (tTest (tOp (rGt) (tVar 0) (tC (.int 0)))) (tSeq (tAsg (tOp rSub (tBits (tOp rBan (tVar 0) (tUn rNeg (tVar 0)))) (tC (.int 1))) (gName 3))
    (tSeq (tAug 0 (tVar 3) pShr)
    (tSeq (tAsg (tOp rSub (tBits (tOp rBan (tOp rAdd (tVar 0) (tC (.int 1))) (tUn rInv (tVar 0)))) (tC (.int 1))) (gName 4))
    (tSeq (tAug 0 (tVar 4) pShr)
    (tSeq (tDrop (tBM c.K "list" rAppend (tVar 1) (tCons (tTup (tCons (tOp rAdd (tVar 2) (tVar 3)) (tCons (tOp rSub (tOp rAdd (tOp rAdd (tVar 2) (tVar 3)) (tVar 4)) (tC (.int 1))) (tNil)))) (tNil))))
    (tAug 2 (tOp rAdd (tVar 3) (tVar 4)) pAdd)))))))
    (tRet (tVar 1))))
/-- what is left of the runs behind some -/
def runsFrom (place b : Nat) : List Pr := (runsB b).map fun p => (place + p.1, place + p.2)
theorem runsFrom_step {place b : Nat} (h : 0 < b) : runsFrom place b = (place + tz b, place + tz b + tz (b / 2 ^ tz b + 1) - 1) :: runsFrom (place + (tz b + tz (b / 2 ^ tz b + 1))) (b / 2 ^ tz b / 2 ^ tz (b / 2 ^ tz b + 1)) := by
  unfold runsFrom
  rw [runsB_peel h _ _ _ _ rfl rfl rfl rfl, List.map_cons, List.map_map]
  have hm := (peel h _ _ _ _ rfl rfl rfl rfl).1
  congr 1
  · simp; omega
  · apply List.map_congr_left
    intro p _
    simp; omega
theorem pure_runs_of {c : Cs} (G : Good c) (vs : List V) (H : Hp) (Q : VK) (E : XK) (h : sp_runs_of c vs H Q E) : t_runs_of c E { nx := fun _ H' => Q .non H', rt := Q } (start ["bits", "found", "place", "gap", "many"] vs) H := by
  obtain ⟨b0, rfl, hb, hQ⟩ := h
  unfold t_runs_of
  show tSeq _ _ _ [some (.int (b0 : Int)), none, none, none, none] H
  walk_at "go"
  refine ⟨sz5 (by decide), fun p np => ?_⟩
  walk_at "go"
  generalize e1 : upd H p _ = H1
  obtain ⟨s1, hp1, d1⟩ := new_of np e1
  refine w_while (fun m σ H2 => ∃ (b place : Nat) (acc : List Pr) (xs : List V) (u v : Option V), m = b ∧ σ = [some (.int (b : Int)), some (.ref p), some (.int (place : Int)), u, v] ∧ b ≤ b0 ∧ Same H H2 ∧ H2 p = some (.lst xs) ∧ (∀ q, H2 q = none → H1 q = none) ∧ Fds c.K H1 H2 xs (dPairs acc) ∧ acc ++ runsFrom place b = runsB b0) b0
    ⟨b0, 0, [], [], none, none, rfl, rfl, Nat.le_refl _, s1, hp1, fun _ q => q, Fds.nil, ?_⟩ ?_
  · unfold runsFrom; simp
  rintro m σ H2 ⟨b, place, acc, xs, u, v, rfl, rfl, hle, s, hp, dom, hf, he⟩
  walk_at "go"
  refine if_d (fun h0 => ?_) (fun h0 => ?_)
  · have h0 : 0 < m := by omega
    have st := runsFrom_step (place := place) h0
    obtain ⟨hm0, _, _, hlt⟩ := peel h0 _ _ _ _ rfl rfl rfl rfl
    refine w_body ?_
    walk_at "go"
    rw [and_neg h0]
    walk_at "go"
    rw [bits_pow]
    walk_at "go"
    have eg : (((tz m + 1 : Nat) : Int) - 1) = ((tz m : Nat) : Int) := by omega
    rw [eg]
    have es : ((m : Int) / 2 ^ ((tz m : Nat) : Int).toNat) = ((m / 2 ^ tz m : Nat) : Int) := by rw [Int.toNat_natCast, Int.natCast_ediv, Int.natCast_pow]; rfl
    rw [es]
    generalize hc : m / 2 ^ tz m = cc at *
    rw [and_not_succ, bits_pow]
    generalize hmm : tz (cc + 1) = mm at *
    have em : (((mm + 1 : Nat) : Int) - 1) = ((mm : Nat) : Int) := by omega
    rw [em]
    walk_at "go"
    have es2 : ((cc : Int) / 2 ^ ((mm : Nat) : Int).toNat) = ((cc / 2 ^ mm : Nat) : Int) := by rw [Int.toNat_natCast, Int.natCast_ediv, Int.natCast_pow]; rfl
    rw [es2]
    refine ⟨tyL hp, ?_⟩
    walk_at "go"
    refine ⟨sz5 (by simp), fun t nt => ?_⟩
    generalize et : upd H2 t _ = H3
    obtain ⟨sH3, ht, dH3⟩ := new_of nt et
    walk_at "go"
    have hp3 := sH3 _ _ hp
    have hl : xs.length ≤ 256 := by
      have a := hf.len
      rw [dPairs_len] at a
      have b1 := congrArg List.length he
      rw [List.length_append] at b1
      have b2 := runsL_len _ (bitsOf b0) rfl
      have b3 := bitsOf_len hb
      unfold runsB at b1
      omega
    refine r_append hp3 (sl5 (by omega)) ?_
    walk_at "go"
    have ep : ((place : Int) + (((tz m : Nat) : Int) + (mm : Int))) = ((place + (tz m + mm) : Nat) : Int) := by omega
    rw [ep]
    refine ⟨cc / 2 ^ mm, hlt, cc / 2 ^ mm, place + (tz m + mm), acc ++ [(place + tz m, place + tz m + mm - 1)], xs ++ [.ref t], _, _, rfl, rfl, by omega, (s.trans sH3).mut np, upd_same, ?_, ?_, ?_⟩
    · refine dom_mut (fun q z => dom q (dH3 q z)) (by rw [hp3]; simp)
    · rw [dPairs_app]
      refine Fds.snoc ((hf.to (New.same sH3)).to (New.mut hp1 New.refl)) ?_
      have e4 : ((place : Int) + ((tz m : Nat) : Int)) = ((place + tz m : Nat) : Int) := by omega
      have e5 : ((place : Int) + ((tz m : Nat) : Int) + (mm : Int) - 1) = ((place + tz m + mm - 1 : Nat) : Int) := by omega
      rw [e5, e4] at ht
      exact (Fd.tup (dom _ nt) ht (Fds.cons (.int _) (Fds.cons (.int _) .nil))).to (New.mut hp1 New.refl)
    · rw [List.append_assoc, ← he, st]; rfl
  · have h0 : m = 0 := by omega
    subst h0
    walk_at "go"
    have e0 : runsFrom place 0 = [] := by unfold runsFrom; rw [runsB_zero]; rfl
    rw [e0, List.append_nil] at he
    rw [he] at hf
    exact hQ p xs H2 s np hp (hf.left d1)
/-! ### count_of -/
def sp_count_of (c : Cs) : Sp := fun vs H Q _ => ∃ b : Nat, vs = [.int (b : Int)] ∧ b < 2 ^ 256 ∧ ∀ H', Same H H' → Q (.int (popc b : Nat)) H'
theorem len_count_of (c : Cs) : ∀ vs H Q E, sp_count_of c vs H Q E → vs.length = (["bits"] : List Str).length := by
  rintro vs H Q E ⟨b, rfl, _⟩; rfl
/-- count_of -/
def t_count_of (c : Cs) (E : XK) : TS :=
  tRet (tCB (rSum c.K) (tCons (tLc (iSeq c.K (tCall (sp_runs_of c) [] E (tCons (tVar 0) (tNil)))) (gTup c.K 2 (gCons (gName 1) (gCons (gName 2) (gNil)))) (tYes) (tOp rAdd (tOp rSub (tVar 2) (tVar 1)) (tC (.int 1))) [1, 2]) (tNil)))
theorem pure_count_of {c : Cs} (G : Good c) (vs : List V) (H : Hp) (Q : VK) (E : XK) (h : sp_count_of c vs H Q E) : t_count_of c E { nx := fun _ H' => Q .non H', rt := Q } (start ["bits", "first", "last"] vs) H := by
  obtain ⟨b, rfl, hb, hQ⟩ := h
  unfold t_count_of
  show tRet _ _ [some (.int (b : Int)), none, none] H
  walk_at "go"
  refine .inl ?_
  show tCall _ _ _ _ _ _ _
  walk_at "go"
  refine ⟨b, rfl, hb, fun p xs H1 s1 np hp hf => ⟨p, rfl, ⟨xs, SqL.of hp⟩, fun D nD => ?_⟩⟩
  have fl : xs.length = (runsB b).length := by rw [hf.len, dPairs_len]
  refine lc_list (K := c.K) (a := p) (xs := xs) (fun i H2 => ∃ ns : List Int, Same H1 H2 ∧ H2 D = some (.lst (ns.map V.int)) ∧ ns = ((runsB b).take i).map fun q => (q.2 : Int) - (q.1 : Int) + 1)
    ⟨[], (new_of nD rfl).1, upd_same, rfl⟩ (fun i H2 _ ⟨_, s, _⟩ => s.seq (SqL.of hp)) ?_ ?_
  · rintro i x H2 hi ⟨ns, s2, hD, en⟩
    obtain ⟨d, hd, hx⟩ := hf.now.get hi
    have hx := hx.ext s2
    obtain ⟨q, hq, rfl⟩ : ∃ q, (runsB b)[i]? = some q ∧ d = .tuple [.int (q.1 : Int), .int (q.2 : Int)] := by
      unfold dPairs at hd
      rw [List.getElem?_map] at hd
      cases e : (runsB b)[i]? with
      | none => rw [e] at hd; cases hd
      | some q => rw [e] at hd; exact ⟨q, rfl, (Option.some.inj hd).symm⟩
    obtain ⟨t, ys, rfl, ht, hys⟩ := hx.tup_inv
    cases hys with
    | cons h1 h2 =>
    cases h2 with
    | cons h2 h3 =>
    cases h3
    cases h1
    cases h2
    refine ⟨t, _, rfl, ht, rfl, ?_⟩
    simp only [wipe, List.set_cons_zero, List.set_cons_succ]
    walk_at "go"
    refine ⟨rfl, ?_⟩
    walk_at "go"
    have il : i < (runsB b).length := (List.getElem?_eq_some_iff.mp hi).1 |> fun z => by omega
    have hl : ns.length ≤ 256 := by
      rw [en, List.length_map, List.length_take]
      have b2 := runsL_len _ (bitsOf b) rfl
      have b3 := bitsOf_len hb
      unfold runsB
      omega
    refine ⟨_, hD, by rw [List.length_map]; exact sl5 (by omega), ns ++ [(q.2 : Int) - (q.1 : Int) + 1], s2.mut nD, by rw [upd_same, List.map_append]; rfl, ?_⟩
    rw [en, take_more hq, List.map_append]; rfl
  · rintro H2 ⟨ns, s2, hD, en⟩
    walk_at "go"
    refine r_sum (SqL.of hD) ?_
    have e : ns.sum = (popc b : Int) := by
      rw [en, fl, List.take_length, ← runSum_B]; rfl
    rw [e]
    exact hQ H2 (s1.trans s2)
/-! ### the sacks' methods, by kind -/
theorem SackK.at {c : Cs} {H : Hp} {s : Addr} {k : Kd} {b : Nat} {m : Str} {fam : Addr → Sp → Prop} {sp : Sp} {R : Sp → Prop} {dvs : List V} (h : SackK c H s k b) (hf : fam (c.kd k) sp) (hm : (m == ("bits" : Str)) = false) (q : R sp) :
    ∃ a C dx fs sp, V.ref s = .ref a ∧ H a = some (.ins C dx fs) ∧ fam C sp ∧ fs.lookup m = none ∧ R sp := by
  obtain ⟨dx, h⟩ := h
  exact ⟨s, _, dx, _, sp, rfl, h, hf, lk0 hm, q⟩
theorem SackK.fld {c : Cs} (G : Good c) {H : Hp} {s : Addr} {k : Kd} {b : Nat} {R : V → Prop} (h : SackK c H s k b) (q : R (.int (b : Int))) :
    ∃ a C dx fs v, V.ref s = .ref a ∧ H a = some (.ins C dx fs) ∧ Cls c.K C ∧ NoAttr c.K C "bits" ∧ fs.lookup ("bits" : Str) = some v ∧ R v := by
  obtain ⟨dx, h⟩ := h
  exact ⟨s, _, dx, _, _, rfl, h, G.cl k, G.na k, lk1, q⟩
def sp_m_kind (c : Cs) (k : Kd) : Sp := fun vs H Q _ => ∃ (s : Addr) (b : Nat), vs = [.ref s] ∧ SackK c H s k b ∧ Q (.str (kindS k)) H
def fam_kind (c : Cs) (C : Addr) (sp : Sp) : Prop := ∃ k, C = c.kd k ∧ sp = sp_m_kind c k
def sp_RowSack_kind (c : Cs) := sp_m_kind c .row
def sp_RunsSack_kind (c : Cs) := sp_m_kind c .runs
def sp_BitsSack_kind (c : Cs) := sp_m_kind c .bits
theorem len_RowSack_kind (c : Cs) : ∀ vs H Q E, sp_RowSack_kind c vs H Q E → vs.length = (["self"] : List Str).length := by
  rintro vs H Q E ⟨s, b, rfl, _⟩; rfl
/-- RowSack.kind -/
def t_RowSack_kind (c : Cs) (E : XK) : TS :=
  tRet (tC (.str "row"))
theorem pure_RowSack_kind {c : Cs} (G : Good c) (vs : List V) (H : Hp) (Q : VK) (E : XK) (h : sp_RowSack_kind c vs H Q E) : t_RowSack_kind c E { nx := fun _ H' => Q .non H', rt := Q } (start ["self"] vs) H := by
  obtain ⟨s, b, rfl, hs, hQ⟩ := h
  exact hQ
theorem len_RunsSack_kind (c : Cs) : ∀ vs H Q E, sp_RunsSack_kind c vs H Q E → vs.length = (["self"] : List Str).length := by
  rintro vs H Q E ⟨s, b, rfl, _⟩; rfl
/-- RunsSack.kind -/
def t_RunsSack_kind (c : Cs) (E : XK) : TS :=
  tRet (tC (.str "runs"))
theorem pure_RunsSack_kind {c : Cs} (G : Good c) (vs : List V) (H : Hp) (Q : VK) (E : XK) (h : sp_RunsSack_kind c vs H Q E) : t_RunsSack_kind c E { nx := fun _ H' => Q .non H', rt := Q } (start ["self"] vs) H := by
  obtain ⟨s, b, rfl, hs, hQ⟩ := h
  exact hQ
theorem len_BitsSack_kind (c : Cs) : ∀ vs H Q E, sp_BitsSack_kind c vs H Q E → vs.length = (["self"] : List Str).length := by
  rintro vs H Q E ⟨s, b, rfl, _⟩; rfl
/-- BitsSack.kind -/
def t_BitsSack_kind (c : Cs) (E : XK) : TS :=
  tRet (tC (.str "bits"))
theorem pure_BitsSack_kind {c : Cs} (G : Good c) (vs : List V) (H : Hp) (Q : VK) (E : XK) (h : sp_BitsSack_kind c vs H Q E) : t_BitsSack_kind c E { nx := fun _ H' => Q .non H', rt := Q } (start ["self"] vs) H := by
  obtain ⟨s, b, rfl, hs, hQ⟩ := h
  exact hQ
def sp_m_held (c : Cs) (k : Kd) : Sp := fun vs H Q _ => ∃ (s : Addr) (b : Nat), vs = [.ref s] ∧ SackK c H s k b ∧ b < 2 ^ 256 ∧ GivesT c H Q (heldD k b)
def fam_held (c : Cs) (C : Addr) (sp : Sp) : Prop := ∃ k, C = c.kd k ∧ sp = sp_m_held c k
def sp_RowSack_held (c : Cs) := sp_m_held c .row
def sp_RunsSack_held (c : Cs) := sp_m_held c .runs
def sp_BitsSack_held (c : Cs) := sp_m_held c .bits
theorem len_RowSack_held (c : Cs) : ∀ vs H Q E, sp_RowSack_held c vs H Q E → vs.length = (["self"] : List Str).length := by
  rintro vs H Q E ⟨s, b, rfl, _⟩; rfl
/-- RowSack.held -/
def t_RowSack_held (c : Cs) (E : XK) : TS :=
  tRet (tCB (rTuple c.K) (tCons (tCall (sp_lows_of c) [] E (tCons (tFld c.K (tVar 0) "bits") (tNil))) (tNil)))
theorem pure_RowSack_held {c : Cs} (G : Good c) (vs : List V) (H : Hp) (Q : VK) (E : XK) (h : sp_RowSack_held c vs H Q E) : t_RowSack_held c E { nx := fun _ H' => Q .non H', rt := Q } (start ["self"] vs) H := by
  obtain ⟨s, b, rfl, hs, hb, hQ⟩ := h
  unfold t_RowSack_held
  show tRet _ _ [some (.ref s)] H
  walk_at "go"
  refine hs.fld G ?_
  walk_at "go"
  refine ⟨b, rfl, hb, fun p H1 s1 np hp => ?_⟩
  walk_at "go"
  refine r_tuple_l (SqL.of hp) ?_
  intro q nq
  generalize eq : upd H1 q _ = H2
  obtain ⟨sH2, hq, dH2⟩ := new_of nq eq
  exact hQ q _ H2 (s1.trans sH2) (s1.free nq) hq (Fds.ints _)
theorem len_RunsSack_held (c : Cs) : ∀ vs H Q E, sp_RunsSack_held c vs H Q E → vs.length = (["self"] : List Str).length := by
  rintro vs H Q E ⟨s, b, rfl, _⟩; rfl
/-- RunsSack.held -/
def t_RunsSack_held (c : Cs) (E : XK) : TS :=
  tRet (tCB (rTuple c.K) (tCons (tCall (sp_runs_of c) [] E (tCons (tFld c.K (tVar 0) "bits") (tNil))) (tNil)))
theorem pure_RunsSack_held {c : Cs} (G : Good c) (vs : List V) (H : Hp) (Q : VK) (E : XK) (h : sp_RunsSack_held c vs H Q E) : t_RunsSack_held c E { nx := fun _ H' => Q .non H', rt := Q } (start ["self"] vs) H := by
  obtain ⟨s, b, rfl, hs, hb, hQ⟩ := h
  unfold t_RunsSack_held
  show tRet _ _ [some (.ref s)] H
  walk_at "go"
  refine hs.fld G ?_
  walk_at "go"
  refine ⟨b, rfl, hb, fun p xs H1 s1 np hp hf => ?_⟩
  walk_at "go"
  refine r_tuple_l (SqL.of hp) ?_
  intro q nq
  generalize eq : upd H1 q _ = H2
  obtain ⟨sH2, hq, dH2⟩ := new_of nq eq
  exact hQ q xs H2 (s1.trans sH2) (s1.free nq) hq (hf.to (New.same sH2))
theorem word_cast (b k : Nat) : Builtin.bitAnd ((b : Int) / 2 ^ ((64 : Int) * ((0 : Int) + (k : Int))).toNat) 18446744073709551615 = ((wordB b k : Nat) : Int) := by
  have e1 : ((64 : Int) * ((0 : Int) + (k : Int))).toNat = 64 * k := by omega
  have e2 : (b : Int) / 2 ^ (64 * k) = ((b / 2 ^ (64 * k) : Nat) : Int) := by rw [Int.natCast_ediv, Int.natCast_pow]; rfl
  have e3 : (18446744073709551615 : Int) = ((2 ^ 64 - 1 : Nat) : Int) := rfl
  rw [e1, e2, e3, and_cast, Nat.and_two_pow_sub_one_eq_mod]
  rfl
theorem words_eq (b : Nat) : (nz ((List.range 4).map (wordB b))).map PyData.int = pickD (fun _ => true) (fun i => PyData.int ((wordB b i : Nat) : Int)) 4 := by
  rw [pickD_all]; rfl
theorem len_BitsSack_held (c : Cs) : ∀ vs H Q E, sp_BitsSack_held c vs H Q E → vs.length = (["self"] : List Str).length := by
  rintro vs H Q E ⟨s, b, rfl, _⟩; rfl
/-- BitsSack.held -/
def t_BitsSack_held (c : Cs) (E : XK) : TS :=
  tRet (tCB (rTuple c.K) (tCons (tLc (iRng1 (tCons (tC (.int 4)) (tNil))) (gName 1) (tYes) (tOp rBan (tOp rShr (tFld c.K (tVar 0) "bits") (tOp rMul (tC (.int 64)) (tVar 1))) (tC (.int 18446744073709551615))) [1]) (tNil)))
theorem pure_BitsSack_held {c : Cs} (G : Good c) (vs : List V) (H : Hp) (Q : VK) (E : XK) (h : sp_BitsSack_held c vs H Q E) : t_BitsSack_held c E { nx := fun _ H' => Q .non H', rt := Q } (start ["self", "k"] vs) H := by
  obtain ⟨s, b, rfl, hs, hb, hQ⟩ := h
  unfold t_BitsSack_held
  show tRet _ _ [some (.ref s), none] H
  walk_at "go"
  refine ⟨4, rfl, by decide, by decide, fun D nD => ?_⟩
  refine lcR (K := c.K) (lo := 0) (n := 4) (fun _ => true) (fun i => .int ((wordB b i : Nat) : Int)) nD (by decide) (fun i H1 Rk Rs hi s1 hk hn => ?_) (fun H1 acc s1 hD hf => ?_)
  · simp only [wipe, List.set_cons_zero, List.set_cons_succ]
    walk_at "go"
    refine ⟨(by first | exact rfl | exact trivial), ?_⟩
    walk_at "go"
    refine (hs.same s1).fld G ?_
    walk_at "go"
    rw [word_cast]
    exact hk rfl _ H1 (Same.refl _) (.int _)
  · walk_at "go"
    refine r_tuple_l (SqL.of hD) ?_
    intro q nq
    generalize eq : upd H1 q _ = H2
    obtain ⟨sH2, hq, dH2⟩ := new_of nq eq
    refine hQ q acc H2 (s1.trans sH2) (s1.free nq) hq ?_
    show Fds c.K H H2 acc ((nz ((List.range 4).map (wordB b))).map PyData.int)
    rw [words_eq]
    exact hf.to (New.same sH2)
def sp_m_weight (c : Cs) (k : Kd) : Sp := fun vs H Q _ => ∃ (s : Addr) (b : Nat), vs = [.ref s] ∧ SackK c H s k b ∧ b < 2 ^ 256 ∧ ∀ H', Same H H' → Q (.int (weightK k b : Nat)) H'
def fam_weight (c : Cs) (C : Addr) (sp : Sp) : Prop := ∃ k, C = c.kd k ∧ sp = sp_m_weight c k
def sp_RowSack_weight (c : Cs) := sp_m_weight c .row
def sp_RunsSack_weight (c : Cs) := sp_m_weight c .runs
def sp_BitsSack_weight (c : Cs) := sp_m_weight c .bits
theorem len_RowSack_weight (c : Cs) : ∀ vs H Q E, sp_RowSack_weight c vs H Q E → vs.length = (["self"] : List Str).length := by
  rintro vs H Q E ⟨s, b, rfl, _⟩; rfl
/-- RowSack.weight -/
def t_RowSack_weight (c : Cs) (E : XK) : TS :=
  tRet (tCall (sp_count_of c) [] E (tCons (tFld c.K (tVar 0) "bits") (tNil)))
theorem pure_RowSack_weight {c : Cs} (G : Good c) (vs : List V) (H : Hp) (Q : VK) (E : XK) (h : sp_RowSack_weight c vs H Q E) : t_RowSack_weight c E { nx := fun _ H' => Q .non H', rt := Q } (start ["self"] vs) H := by
  obtain ⟨s, b, rfl, hs, hb, hQ⟩ := h
  unfold t_RowSack_weight
  show tRet _ _ [some (.ref s)] H
  walk_at "go"
  refine hs.fld G ?_
  walk_at "go"
  exact ⟨b, rfl, hb, hQ⟩
theorem len_RunsSack_weight (c : Cs) : ∀ vs H Q E, sp_RunsSack_weight c vs H Q E → vs.length = (["self"] : List Str).length := by
  rintro vs H Q E ⟨s, b, rfl, _⟩; rfl
/-- RunsSack.weight -/
def t_RunsSack_weight (c : Cs) (E : XK) : TS :=
  tRet (tOp rMul (tC (.int 2)) (tCB (rLen c.K) (tCons (tMethF (fam_held c) "held" [] E (tVar 0) tNil) (tNil))))
theorem pure_RunsSack_weight {c : Cs} (G : Good c) (vs : List V) (H : Hp) (Q : VK) (E : XK) (h : sp_RunsSack_weight c vs H Q E) : t_RunsSack_weight c E { nx := fun _ H' => Q .non H', rt := Q } (start ["self"] vs) H := by
  obtain ⟨s, b, rfl, hs, hb, hQ⟩ := h
  unfold t_RunsSack_weight
  show tRet _ _ [some (.ref s)] H
  walk_at "go"
  refine hs.at (m := "held") (fam := fam_held c) (dvs := []) ⟨.runs, rfl, rfl⟩ (by decide +kernel) ?_
  walk_at "go"
  refine ⟨s, b, rfl, hs, hb, fun p xs H1 s1 np hp hf => ?_⟩
  walk_at "go"
  refine r_len_t (SqT.of hp) ?_
  walk_at "go"
  have e : (2 : Int) * ((xs.length : Nat) : Int) = ((weightK .runs b : Nat) : Int) := by
    rw [hf.len]
    show (2 : Int) * ((dPairs (runsB b)).length : Int) = ((2 * (runsB b).length : Nat) : Int)
    rw [dPairs_len]; omega
  rw [e]
  exact hQ H1 s1
theorem len_BitsSack_weight (c : Cs) : ∀ vs H Q E, sp_BitsSack_weight c vs H Q E → vs.length = (["self"] : List Str).length := by
  rintro vs H Q E ⟨s, b, rfl, _⟩; rfl
/-- BitsSack.weight -/
def t_BitsSack_weight (c : Cs) (E : XK) : TS :=
  tRet (tC (.int 32))
theorem pure_BitsSack_weight {c : Cs} (G : Good c) (vs : List V) (H : Hp) (Q : VK) (E : XK) (h : sp_BitsSack_weight c vs H Q E) : t_BitsSack_weight c E { nx := fun _ H' => Q .non H', rt := Q } (start ["self"] vs) H := by
  obtain ⟨s, b, rfl, hs, hb, hQ⟩ := h
  exact hQ H (Same.refl _)
def sp_Sack_form (c : Cs) : Sp := fun vs H Q _ => ∃ (s : Addr) (k : Kd) (b : Nat), vs = [.ref s] ∧ SackK c H s k b ∧ b < 2 ^ 256 ∧ GivesT c H Q (formDs k b)
def fam_form (c : Cs) (C : Addr) (sp : Sp) : Prop := ∃ k, C = c.kd k ∧ sp = sp_Sack_form c
theorem len_Sack_form (c : Cs) : ∀ vs H Q E, sp_Sack_form c vs H Q E → vs.length = (["self"] : List Str).length := by
  rintro vs H Q E ⟨s, k, b, rfl, _⟩; rfl
/-- Sack.form -/
def t_Sack_form (c : Cs) (E : XK) : TS :=
  tRet (tTup (tCons (tMethF (fam_kind c) "kind" [] E (tVar 0) tNil) (tCons (tMethF (fam_held c) "held" [] E (tVar 0) tNil) (tNil))))
theorem pure_Sack_form {c : Cs} (G : Good c) (vs : List V) (H : Hp) (Q : VK) (E : XK) (h : sp_Sack_form c vs H Q E) : t_Sack_form c E { nx := fun _ H' => Q .non H', rt := Q } (start ["self"] vs) H := by
  obtain ⟨s, k, b, rfl, hs, hb, hQ⟩ := h
  unfold t_Sack_form
  show tRet _ _ [some (.ref s)] H
  walk_at "go"
  refine hs.at (m := "kind") (fam := fam_kind c) (dvs := []) ⟨k, rfl, rfl⟩ (by decide +kernel) ?_
  walk_at "go"
  refine ⟨s, b, rfl, hs, ?_⟩
  walk_at "go"
  refine hs.at (m := "held") (fam := fam_held c) (dvs := []) ⟨k, rfl, rfl⟩ (by decide +kernel) ?_
  walk_at "go"
  refine ⟨s, b, rfl, hs, hb, fun p xs H1 s1 np hp hf => ?_⟩
  walk_at "go"
  refine ⟨sz5 (by simp), fun q nq => ?_⟩
  generalize eq : upd H1 q _ = H2
  obtain ⟨sH2, hq, dH2⟩ := new_of nq eq
  refine hQ q _ H2 (s1.trans sH2) (s1.free nq) hq (Fds.cons (.str _) (Fds.cons ?_ .nil))
  exact (Fd.tup np hp hf).to (New.same sH2)
def sp_Sack_count (c : Cs) : Sp := fun vs H Q _ => ∃ (s : Addr) (k : Kd) (b : Nat), vs = [.ref s] ∧ SackK c H s k b ∧ b < 2 ^ 256 ∧ ∀ H', Same H H' → Q (.int (popc b : Nat)) H'
theorem len_Sack_count (c : Cs) : ∀ vs H Q E, sp_Sack_count c vs H Q E → vs.length = (["self"] : List Str).length := by
  rintro vs H Q E ⟨s, k, b, rfl, _⟩; rfl
/-- Sack.count -/
def t_Sack_count (c : Cs) (E : XK) : TS :=
  tRet (tCall (sp_count_of c) [] E (tCons (tFld c.K (tVar 0) "bits") (tNil)))
theorem pure_Sack_count {c : Cs} (G : Good c) (vs : List V) (H : Hp) (Q : VK) (E : XK) (h : sp_Sack_count c vs H Q E) : t_Sack_count c E { nx := fun _ H' => Q .non H', rt := Q } (start ["self"] vs) H := by
  obtain ⟨s, k, b, rfl, hs, hb, hQ⟩ := h
  unfold t_Sack_count
  show tRet _ _ [some (.ref s)] H
  walk_at "go"
  refine hs.fld G ?_
  walk_at "go"
  exact ⟨b, rfl, hb, hQ⟩
def sp_Sack_lows (c : Cs) : Sp := fun vs H Q _ => ∃ (s : Addr) (k : Kd) (b : Nat), vs = [.ref s] ∧ SackK c H s k b ∧ b < 2 ^ 256 ∧ ∀ (p : Addr) (H' : Hp), Same H H' → H p = none → H' p = some (.lst ((nz (bitsOf b)).map V.int)) → Q (.ref p) H'
def fam_lows (c : Cs) (C : Addr) (sp : Sp) : Prop := ∃ k, C = c.kd k ∧ sp = sp_Sack_lows c
theorem len_Sack_lows (c : Cs) : ∀ vs H Q E, sp_Sack_lows c vs H Q E → vs.length = (["self"] : List Str).length := by
  rintro vs H Q E ⟨s, k, b, rfl, _⟩; rfl
/-- Sack.lows -/
def t_Sack_lows (c : Cs) (E : XK) : TS :=
  tRet (tCall (sp_lows_of c) [] E (tCons (tFld c.K (tVar 0) "bits") (tNil)))
theorem pure_Sack_lows {c : Cs} (G : Good c) (vs : List V) (H : Hp) (Q : VK) (E : XK) (h : sp_Sack_lows c vs H Q E) : t_Sack_lows c E { nx := fun _ H' => Q .non H', rt := Q } (start ["self"] vs) H := by
  obtain ⟨s, k, b, rfl, hs, hb, hQ⟩ := h
  unfold t_Sack_lows
  show tRet _ _ [some (.ref s)] H
  walk_at "go"
  refine hs.fld G ?_
  walk_at "go"
  exact ⟨b, rfl, hb, hQ⟩
/-! ### a sack is made -/
def sp_Sack___init__ (c : Cs) (C : Addr) : Sp := fun vs H Q _ => ∃ (x dx : Addr) (k : Kd) (b : Nat), vs = [.ref x, .int (b : Int)] ∧ C = c.kd k ∧ H x = some (.ins C dx []) ∧ Q .non (upd H x (.ins C dx [("bits", .int (b : Int))]))
theorem len_Sack___init__ (c : Cs) (C : Addr) : ∀ vs H Q E, sp_Sack___init__ c C vs H Q E → vs.length = (["self", "bits"] : List Str).length := by
  rintro vs H Q E ⟨x, dx, k, b, rfl, _⟩; rfl
/-- Sack.__init__ -/
def t_Sack___init__ (c : Cs) (E : XK) : TS :=
  sFld c.K (tVar 0) (tVar 1) "bits"
theorem pure_Sack___init__ {c : Cs} (G : Good c) (C : Addr) (vs : List V) (H : Hp) (Q : VK) (E : XK) (h : sp_Sack___init__ c C vs H Q E) : t_Sack___init__ c E { nx := fun _ H' => Q .non H', rt := Q } (start ["self", "bits"] vs) H := by
  obtain ⟨x, dx, k, b, rfl, rfl, hx, hQ⟩ := h
  exact ⟨_, rfl, _, rfl, x, _, dx, [], rfl, hx, G.cl k, G.na k, by decide, hQ⟩
/-- behind C(bits) -/
theorem mk_sack {c : Cs} {H1 : Hp} {k : Kd} {b : Nat} {Q : Addr → Hp → Prop} {E : XK} (q : ∀ (x : Addr) (H2 : Hp), H1 x = none → Same H1 H2 → SackK c H2 x k b → (∀ y, H2 y = none → H1 y = none) → Q x H2) :
    ∀ x dx, H1 x = none → H1 dx = none → dx ≠ x → sp_Sack___init__ c (c.kd k) (.ref x :: ([V.int (b : Int)] ++ [])) (upd (upd H1 dx (.own x)) x (.ins (c.kd k) dx [])) (fun v H2 => v = .non ∧ Q x H2) E := by
  intro x dx nx ndx ne
  refine ⟨x, dx, k, b, rfl, rfl, upd_same, rfl, q x _ nx ?_ ⟨dx, upd_same⟩ ?_⟩
  · intro a o h
    rw [upd_ne (ne_of_none h nx), upd_ne (ne_of_none h nx), upd_ne (ne_of_none h ndx)]
    exact h
  · intro y hy
    by_cases c1 : y = x
    · subst c1; exact nx
    · rw [upd_ne c1, upd_ne c1] at hy
      by_cases c2 : y = dx
      · subst c2; exact ndx
      · rw [upd_ne c2] at hy; exact hy
def sp_least_sack (c : Cs) : Sp := fun vs H Q _ => ∃ b : Nat, vs = [.int (b : Int)] ∧ b < 2 ^ 256 ∧ (b = 0 → Q .non H) ∧ (0 < b → ∀ (x : Addr) (H' : Hp), Same H H' → H x = none → SackK c H' x (kdB b) b → Q (.ref x) H')
theorem len_least_sack (c : Cs) : ∀ vs H Q E, sp_least_sack c vs H Q E → vs.length = (["bits"] : List Str).length := by
  rintro vs H Q E ⟨b, rfl, _⟩; rfl
/-- least_sack -/
def t_least_sack (c : Cs) (E : XK) : TS :=
  tSeq (tIfS (tTest (tOp (rEqu c.K) (tVar 0) (tC (.int 0)))) (tRet (tC .non)) (tNext))
    (tSeq (tAsg (tMake c.row (sp_Sack___init__ c c.row) [] E (tCons (tVar 0) (tNil))) (gName 1))
    (tSeq (tFor (iSeq c.K (tTup (tCons (tMake c.runs (sp_Sack___init__ c c.runs) [] E (tCons (tVar 0) (tNil))) (tCons (tMake c.bits (sp_Sack___init__ c c.bits) [] E (tCons (tVar 0) (tNil))) (tNil))))) (gName 2) (tIfS (tTest (tOp (rLt) (tMethF (fam_weight c) "weight" [] E (tVar 2) tNil) (tMethF (fam_weight c) "weight" [] E (tVar 1) tNil))) (tAsg (tVar 2) (gName 1)) (tNext)))
    (tRet (tVar 1))))
/-- the kind behind i of the two others -/
def bestK (b : Nat) : Nat → Kd
  | 0 => .row
  | 1 => if weightK .runs b < weightK .row b then .runs else .row
  | _ => if weightK .bits b < weightK (if weightK .runs b < weightK .row b then .runs else .row) b then .bits else if weightK .runs b < weightK .row b then .runs else .row
theorem best_2 (b : Nat) : bestK b 2 = kdB b := by
  have e : bestK b 2 = if 32 < weightK (if 2 * (runsB b).length < popc b then .runs else .row) b then Kd.bits else if 2 * (runsB b).length < popc b then .runs else .row := rfl
  rw [e]
  unfold kdB
  by_cases h : 2 * (runsB b).length < popc b
  · rw [if_pos h, if_neg (show ¬ (popc b ≤ 2 * (runsB b).length ∧ popc b ≤ 32) by omega)]
    have w : weightK .runs b = 2 * (runsB b).length := rfl
    rw [w]
    by_cases h2 : 2 * (runsB b).length ≤ 32
    · rw [if_neg (by omega), if_pos h2]
    · rw [if_pos (by omega), if_neg h2]
  · rw [if_neg h]
    have w : weightK .row b = popc b := rfl
    rw [w]
    by_cases h2 : popc b ≤ 32
    · rw [if_neg (by omega), if_pos ⟨by omega, h2⟩]
    · rw [if_pos (by omega), if_neg (by omega), if_neg (by omega)]
theorem pure_least_sack {c : Cs} (G : Good c) (vs : List V) (H : Hp) (Q : VK) (E : XK) (h : sp_least_sack c vs H Q E) : t_least_sack c E { nx := fun _ H' => Q .non H', rt := Q } (start ["bits", "found", "other"] vs) H := by
  obtain ⟨b, rfl, hb, h0, hQ⟩ := h
  unfold t_least_sack
  show tSeq _ _ _ [some (.int (b : Int)), none, none] H
  walk_at "go"
  refine if_d (fun z => ?_) (fun z => ?_)
  · walk_at "go"
    exact h0 (by omega)
  walk_at "go"
  refine mk_sack (c := c) (k := .row) fun x H1 nx s1 hx d1 => ?_
  walk_at "go"
  refine .inr (.inl ?_)
  show tTup _ _ _ _
  walk_at "go"
  refine mk_sack (c := c) (k := .runs) fun y H2 ny s2 hy d2 => ?_
  walk_at "go"
  refine mk_sack (c := c) (k := .bits) fun u H3 nu s3 hu d3 => ?_
  walk_at "go"
  refine ⟨sz5 (by simp), fun t nt => ?_⟩
  generalize et : upd H3 t _ = H4
  obtain ⟨sH4, ht, dH4⟩ := new_of nt et
  have hxx : SackK c H4 x .row b := ((hx.same s2).same s3).same sH4
  have hyy : SackK c H4 y .runs b := (hy.same s3).same sH4
  have huu : SackK c H4 u .bits b := hu.same sH4
  refine ⟨t, rfl, ⟨_, SqT.of ht⟩, for_tup (K := c.K) (a := t) (xs := [.ref y, .ref u]) (fun i σ H5 => ∃ (v : Option V) (r : Addr), σ = [some (.int (b : Int)), some (.ref r), v] ∧ Same H4 H5 ∧ H r = none ∧ SackK c H5 r (bestK b i) b)
    ⟨none, x, rfl, Same.refl _, nx, hxx⟩ (fun i σ H5 _ ⟨_, _, _, s, _⟩ => s.tup (SqT.of ht)) ?_ ?_⟩
  · rintro i v σ H5 hi ⟨v0, r, rfl, s5, nr, hr⟩
    obtain ⟨w, kw, hw, nw, rfl, hbest⟩ : ∃ w kw, SackK c H5 w kw b ∧ H w = none ∧ v = .ref w ∧ bestK b (i + 1) = if weightK kw b < weightK (bestK b i) b then kw else bestK b i := by
      match i, hi with
      | 0, hi => exact ⟨y, .runs, hyy.same s5, s1.free ny, (Option.some.inj hi).symm, rfl⟩
      | 1, hi => exact ⟨u, .bits, huu.same s5, s1.free (s2.free nu), (Option.some.inj hi).symm, rfl⟩
      | n + 2, hi => simp at hi
    walk_at "go"
    refine hw.at (m := "weight") (fam := fam_weight c) (dvs := []) ⟨kw, rfl, rfl⟩ (by decide +kernel) ?_
    walk_at "go"
    refine ⟨w, b, rfl, hw, hb, fun H6 s6 => ?_⟩
    walk_at "go"
    refine (hr.same s6).at (m := "weight") (fam := fam_weight c) (dvs := []) ⟨bestK b i, rfl, rfl⟩ (by decide +kernel) ?_
    walk_at "go"
    refine ⟨r, b, rfl, hr.same s6, hb, fun H7 s7 => ?_⟩
    walk_at "go"
    refine if_d (fun z => ?_) (fun z => ?_)
    · walk_at "go"
      exact ⟨_, w, rfl, (s5.trans s6).trans s7, nw, by rw [hbest, if_pos (by omega)]; exact (hw.same s6).same s7⟩
    · walk_at "go"
      exact ⟨_, r, rfl, (s5.trans s6).trans s7, nr, by rw [hbest, if_neg (by omega)]; exact (hr.same s6).same s7⟩
  · rintro σ H5 ⟨v0, r, rfl, s5, nr, hr⟩
    walk_at "go"
    refine hQ (by omega) r H5 (((s1.trans s2).trans s3).trans (sH4.trans s5)) nr ?_
    rw [← best_2]
    exact hr
/-! ### sack_of -/
/-- a thing whose class is known -/
inductive Kn (H : Hp) : V → Prop where
  | non : Kn H .non
  | bl (b : Bool) : Kn H (.bl b)
  | int (i : Int) : Kn H (.int i)
  | str (x : Str) : Kn H (.str x)
  | tup {p : Addr} {xs : List V} (h : H p = some (.tup xs)) : Kn H (.ref p)
  | lst {p : Addr} {xs : List V} (h : H p = some (.lst xs)) : Kn H (.ref p)
  | dK {p : Addr} {xs : List (Key × V)} (h : H p = some (.dK xs)) : Kn H (.ref p)
theorem Kn.same {H H' : Hp} {x : V} (k : Kn H x) (s : Same H H') : Kn H' x := by
  cases k with
  | non => exact .non
  | bl b => exact .bl b
  | int i => exact .int i
  | str x => exact .str x
  | tup h => exact .tup (s _ _ h)
  | lst h => exact .lst (s _ _ h)
  | dK h => exact .dK (s _ _ h)
def isI : V → Bool
  | .int _ => true
  | .bl _ => true
  | _ => false
def isB : V → Bool
  | .bl _ => true
  | _ => false
section
variable {K : PySem.W.Frag} {H : Hp} {Q : VK} {x : V}
theorem r_isi_kn_int (k : Kn H x) (q : Q (.bl (isI x)) H) : rIsiU K [x, .ty "int"] H Q := by
  cases k with
  | non => exact r_isi (b := false) (.base .non) (by decide +kernel) q
  | bl b => exact r_isi (b := true) (.base (.bl b)) (by decide +kernel) q
  | int i => exact r_isi (b := true) (.base (.int i)) (by decide +kernel) q
  | str x => exact r_isi (b := false) (.base (.str x)) (by decide +kernel) q
  | tup h => exact r_isi (b := false) (.base (.tup h)) (by decide +kernel) q
  | lst h => exact r_isi (b := false) (.base (.lst h)) (by decide +kernel) q
  | dK h => exact r_isi (b := false) (.base (.dK h)) (by decide +kernel) q
theorem r_isi_kn_bool (k : Kn H x) (q : Q (.bl (isB x)) H) : rIsiU K [x, .ty "bool"] H Q := by
  cases k with
  | non => exact r_isi (b := false) (.base .non) (by decide +kernel) q
  | bl b => exact r_isi (b := true) (.base (.bl b)) (by decide +kernel) q
  | int i => exact r_isi (b := false) (.base (.int i)) (by decide +kernel) q
  | str x => exact r_isi (b := false) (.base (.str x)) (by decide +kernel) q
  | tup h => exact r_isi (b := false) (.base (.tup h)) (by decide +kernel) q
  | lst h => exact r_isi (b := false) (.base (.lst h)) (by decide +kernel) q
  | dK h => exact r_isi (b := false) (.base (.dK h)) (by decide +kernel) q
end
def lowN : V → Nat
  | .int i => i.toNat
  | _ => 0
def orV (xs : List V) : Nat := xs.foldl (fun b x => b ||| 2 ^ lowN x) 0
theorem orV_snoc (xs : List V) (x : V) : orV (xs ++ [x]) = orV xs ||| 2 ^ lowN x := by unfold orV; rw [List.foldl_append]; rfl
theorem orV_bit (xs : List V) (i : Nat) : (orV xs).testBit i = xs.any fun x => decide (lowN x = i) := by
  have : ∀ (xs : List V) (b : Nat), (xs.foldl (fun b x => b ||| 2 ^ lowN x) b).testBit i = (b.testBit i || xs.any fun x => decide (lowN x = i)) := by
    intro xs
    induction xs with
    | nil => intro b; simp
    | cons x xs ih => intro b; rw [List.foldl_cons, ih, Nat.testBit_or, Nat.testBit_two_pow, List.any_cons, Bool.or_assoc]
  unfold orV
  rw [this]; simp
/-! ### what the laws draw -/
def cellV (ns : List Int) (k : Int) : Int := if ns = [] then 0 else ns.getD (k % ns.length).toNat 0
def cellA (ns : List Int) (k : Int) : Int := (cellV ns k * 48271 + 7919 * k * k + 104729 * k + 11) % 2147483647
def cellB (ns : List Int) (k : Int) : Int := cellA ns k * cellA ns k % 2147483629 * 69621 % 2147483647
def cellN (ns : List Int) (k : Int) : Nat := (cellB ns k * cellB ns k % 2147483587 * 2147483647 + cellB ns k).toNat
theorem cellB_lt (ns : List Int) (k : Int) : 0 ≤ cellB ns k ∧ cellB ns k < 2147483647 := by unfold cellB; omega
theorem cellN_eq (ns : List Int) (k : Int) : ((cellN ns k : Nat) : Int) = cellB ns k * cellB ns k % 2147483587 * 2147483647 + cellB ns k := by
  unfold cellN
  have := cellB_lt ns k
  generalize cellB ns k * cellB ns k = x
  omega
theorem cellN_lt (ns : List Int) (k : Int) : cellN ns k < 4611686018427387904 := by
  unfold cellN
  have := cellB_lt ns k
  generalize cellB ns k * cellB ns k = x
  omega
def sp__law_cell_at (c : Cs) : Sp := fun vs H Q _ => ∃ (a : Addr) (ns : List Int) (k : Int), vs = [.ref a, .int k] ∧ SqL c.K H a (ns.map V.int) ∧ 0 ≤ k ∧ k ≤ 1000000 ∧ Q (.int (cellN ns k : Nat)) H
theorem len__law_cell_at (c : Cs) : ∀ vs H Q E, sp__law_cell_at c vs H Q E → vs.length = (["_law_script", "_law_k"] : List Str).length := by
  rintro vs H Q E ⟨a, ns, k, rfl, _⟩; rfl
/-- _law_cell_at -/
def t__law_cell_at (c : Cs) (E : XK) : TS :=
  tSeq (tAsg (tC (.int 0)) (gName 2))
    (tSeq (tIfS (tTest (tOp (rGt) (tCB (rLen c.K) (tCons (tVar 0) (tNil))) (tC (.int 0)))) (tAsg (tOp (rIx c.K) (tVar 0) (tOp rMod (tVar 1) (tCB (rLen c.K) (tCons (tVar 0) (tNil))))) (gName 2)) (tNext))
    (tSeq (tAsg (tOp rMod (tOp rAdd (tOp rAdd (tOp rAdd (tOp rMul (tVar 2) (tC (.int 48271))) (tOp rMul (tOp rMul (tC (.int 7919)) (tVar 1)) (tVar 1))) (tOp rMul (tC (.int 104729)) (tVar 1))) (tC (.int 11))) (tC (.int 2147483647))) (gName 3))
    (tSeq (tAsg (tOp rMod (tOp rMul (tOp rMod (tOp rMul (tVar 3) (tVar 3)) (tC (.int 2147483629))) (tC (.int 69621))) (tC (.int 2147483647))) (gName 4))
    (tRet (tOp rAdd (tOp rMul (tOp rMod (tOp rMul (tVar 4) (tVar 4)) (tC (.int 2147483587))) (tC (.int 2147483647))) (tVar 4))))))
theorem pure__law_cell_at {c : Cs} (G : Good c) (vs : List V) (H : Hp) (Q : VK) (E : XK) (h : sp__law_cell_at c vs H Q E) : t__law_cell_at c E { nx := fun _ H' => Q .non H', rt := Q } (start ["_law_script", "_law_k", "_law_cell", "_law_one", "_law_two"] vs) H := by
  obtain ⟨a, ns, k, rfl, ha, h0, h1, hQ⟩ := h
  unfold t__law_cell_at
  show tSeq _ _ _ [some (.ref a), some (.int k), none, none, none] H
  walk_at "go"
  refine r_len_l ha ?_
  walk_at "go"
  have hq2 : Q (.int (cellB ns k * cellB ns k % 2147483587 * 2147483647 + cellB ns k)) H := by rw [← cellN_eq]; exact hQ
  refine if_d (fun z => ?_) (fun z => ?_)
  · walk_at "go"
    refine r_len_l ha ?_
    walk_at "go"
    have hl : 0 < ns.length := by rw [List.length_map] at z; omega
    have m0 : 0 ≤ k % (ns.length : Int) := Int.emod_nonneg _ (by omega)
    have m1 : k % (ns.length : Int) < ns.length := Int.emod_lt_of_pos _ (by omega)
    rw [List.length_map]
    obtain ⟨j, hj⟩ := Int.eq_ofNat_of_zero_le m0
    have hjl : j < ns.length := by omega
    refine r_ixL ha (v := .int (cellV ns k)) ?_ ?_
    · rw [hj]
      refine atI_nat ?_
      rw [List.getElem?_map, List.getElem?_eq_getElem hjl]
      unfold cellV
      rw [if_neg (by intro e; rw [e] at hl; simp at hl), hj]
      simp [List.getD, List.getElem?_eq_getElem hjl]
    · walk_at "go"
      exact hq2
  · walk_at "go"
    have e0 : cellV ns k = 0 := by
      unfold cellV
      rw [if_pos]
      rw [List.length_map] at z
      exact List.eq_nil_of_length_eq_zero (by omega)
    unfold cellB cellA at hq2
    rw [e0] at hq2
    exact hq2
def sp__law_lows (c : Cs) : Sp := fun vs H Q _ => ∃ b : Nat, vs = [.int (b : Int)] ∧ b < 2 ^ 8192 ∧ ∀ (p : Addr) (H' : Hp), Same H H' → H p = none → H' p = some (.lst ((nz (bitsOf b)).map V.int)) → Q (.ref p) H'
theorem len__law_lows (c : Cs) : ∀ vs H Q E, sp__law_lows c vs H Q E → vs.length = (["_law_bits_here"] : List Str).length := by
  rintro vs H Q E ⟨b, rfl, _⟩; rfl
/-- _law_lows -/
def t__law_lows (c : Cs) (E : XK) : TS :=
  tSeq (tAsg (tLst (tNil)) (gName 1))
    (tSeq (tWhile (tTest (tOp (rGt) (tVar 0) (tC (.int 0)))) (tSeq (tDrop (tBM c.K "list" rAppend (tVar 1) (tCons (tOp rSub (tBits (tOp rBan (tVar 0) (tUn rNeg (tVar 0)))) (tC (.int 1))) (tNil))))
    (tAug 0 (tOp rSub (tVar 0) (tC (.int 1))) pBan)))
    (tRet (tVar 1)))
theorem sub_one {b : Nat} (h : 0 < b) : (b : Int) - 1 = ((b - 1 : Nat) : Int) := by omega
theorem pure__law_lows {c : Cs} (G : Good c) (vs : List V) (H : Hp) (Q : VK) (E : XK) (h : sp__law_lows c vs H Q E) : t__law_lows c E { nx := fun _ H' => Q .non H', rt := Q } (start ["_law_bits_here", "_law_found"] vs) H := by
  obtain ⟨b0, rfl, hb, hQ⟩ := h
  have hb0 := bitsOf_len hb
  clear hb
  unfold t__law_lows
  show tSeq _ _ _ [some (.int (b0 : Int)), none] H
  walk_at "go"
  refine ⟨sz5 (by decide), fun p np => ?_⟩
  walk_at "go"
  refine w_while (fun m σ H1 => ∃ (b : Nat) (acc : List Nat), m = b ∧ σ = [some (.int (b : Int)), some (.ref p)] ∧ Same H H1 ∧ H1 p = some (.lst ((nz acc).map V.int)) ∧ acc ++ bitsOf b = bitsOf b0) b0
    ⟨b0, [], rfl, rfl, (new_of np rfl).1, upd_same, rfl⟩ ?_
  rintro m σ H1 ⟨b, acc, rfl, rfl, s, hp, he⟩
  walk_at "go"
  refine if_d (fun h0 => ?_) (fun h0 => ?_)
  · have h0 : 0 < m := by omega
    refine w_body ?_
    walk_at "go"
    refine ⟨tyL hp, ?_⟩
    walk_at "go"
    rw [and_neg h0, bits_pow]
    have hl : acc.length ≤ 8192 := by
      have := congrArg List.length he
      rw [List.length_append] at this
      omega
    refine r_append hp (by rw [nzv_len]; exact sl5 (by omega)) ?_
    walk_at "go"
    have e1 : (((tz m + 1 : Nat) : Int) - 1) = ((tz m : Nat) : Int) := by omega
    rw [e1, sub_one h0, and_cast]
    refine ⟨clr m, clr_lt h0, clr m, acc ++ [tz m], rfl, rfl, s.mut np, ?_, ?_⟩
    · rw [upd_same, nz_app, List.map_append]; rfl
    · rw [List.append_assoc, ← he, bitsOf_clr h0]; rfl
  · have h0 : m = 0 := by omega
    subst h0
    walk_at "go"
    rw [bitsOf_zero, List.append_nil] at he
    exact hQ p H1 s np (by rw [hp, he])
/-! ### runs by a rising list -/
def sp__law_runs (c : Cs) : Sp := fun vs H Q _ => ∃ (a : Addr) (l : List Nat), vs = [.ref a] ∧ SqL c.K H a ((nz l).map V.int) ∧ l.length ≤ 50000 ∧ GivesL c H Q (dPairs (runsL l))
theorem len__law_runs (c : Cs) : ∀ vs H Q E, sp__law_runs c vs H Q E → vs.length = (["_law_lows_here"] : List Str).length := by
  rintro vs H Q E ⟨a, l, rfl, _⟩; rfl
/-- _law_runs -/
def t__law_runs (c : Cs) (E : XK) : TS :=
  tSeq (tAsg (tLst (tNil)) (gName 1))
    (tSeq (tFor (iSeq c.K (tVar 0)) (gName 2) (tIfS (tAnd (tTest (tOp (rNeu c.K) (tVar 1) (tLst (tNil)))) (tTest (tOp (rEqu c.K) (tOp rAdd (tOp (rIx c.K) (tOp (rIx c.K) (tVar 1) (tUn rNeg (tC (.int 1)))) (tC (.int 1))) (tC (.int 1))) (tVar 2)))) (tAsg (tTup (tCons (tOp (rIx c.K) (tOp (rIx c.K) (tVar 1) (tUn rNeg (tC (.int 1)))) (tC (.int 0))) (tCons (tVar 2) (tNil)))) (gSub (tVar 1) (tUn rNeg (tC (.int 1))) rSetL)) (tDrop (tBM c.K "list" rAppend (tVar 1) (tCons (tTup (tCons (tVar 2) (tCons (tVar 2) (tNil)))) (tNil))))))
    (tRet (tVar 1)))
theorem eqv_nil (ds : List PyData) : PyData.eqv (.list ds) (.list []) = ds.isEmpty := by cases ds <;> rfl
theorem dPairs_snoc_inv {K : PySem.W.Frag} {H H' : Hp} {xs : List V} {l : List Pr} {q : Pr} (h : Fds K H H' xs (dPairs (l ++ [q]))) : ∃ ys t, xs = ys ++ [.ref t] ∧ SqT K H' t [.int (q.1 : Int), .int (q.2 : Int)] ∧ Fds K H H' ys (dPairs l) := by
  have hl := h.len
  rw [dPairs_app, List.length_append] at hl
  have hne : xs ≠ [] := by intro e; subst e; simp [dPairs] at hl
  obtain ⟨ys, v, rfl⟩ : ∃ ys v, xs = ys ++ [v] := ⟨xs.dropLast, xs.getLast hne, (List.dropLast_concat_getLast hne).symm⟩
  have hl2 : ys.length = (dPairs l).length := by simp [dPairs] at hl ⊢; omega
  have split : ∀ H'', New H H' H'' → DpAll K H'' ys (dPairs l) ∧ Dp K H'' v (.tuple [.int (q.1 : Int), .int (q.2 : Int)]) := by
    intro H'' n
    have a := h H'' n
    rw [dPairs_app] at a
    exact dpa_split hl2 a
  obtain ⟨_, d⟩ := split H' New.refl
  obtain ⟨t, zs, rfl, ht, hz⟩ := d.tup_inv
  have : zs = [.int (q.1 : Int), .int (q.2 : Int)] := dpa_ints_inv (ns := [(q.1 : Int), (q.2 : Int)]) hz
  subst this
  exact ⟨ys, t, rfl, ht, fun H'' n => (split H'' n).1⟩
theorem pure__law_runs {c : Cs} (G : Good c) (vs : List V) (H : Hp) (Q : VK) (E : XK) (h : sp__law_runs c vs H Q E) : t__law_runs c E { nx := fun _ H' => Q .non H', rt := Q } (start ["_law_lows_here", "_law_found", "_law_low"] vs) H := by
  obtain ⟨a, l, rfl, ha, hl, hQ⟩ := h
  unfold t__law_runs
  show tSeq _ _ _ [some (.ref a), none, none] H
  walk_at "go"
  refine ⟨sz5 (by decide), fun p np => ?_⟩
  walk_at "go"
  generalize e1 : upd H p _ = H1
  obtain ⟨s1, hp1, d1⟩ := new_of np e1
  refine .inl ?_
  show tVar _ _ _ _
  walk_at "go"
  refine ⟨a, rfl, ⟨_, s1.seq ha⟩, for_list (K := c.K) (a := a) (xs := (nz l).map V.int) (fun i σ H2 => ∃ (xs : List V) (v : Option V), σ = [some (.ref a), some (.ref p), v] ∧ Same H H2 ∧ H2 p = some (.lst xs) ∧ (∀ q, H2 q = none → H1 q = none) ∧ Fds c.K H1 H2 xs (dPairs (runsL (l.take i))))
    ⟨[], none, rfl, s1, hp1, fun _ q => q, Fds.nil⟩ (fun i σ H2 _ ⟨_, _, _, s, _⟩ => s.seq ha) ?_ ?_⟩
  · rintro i x σ H2 hi ⟨xs, v, rfl, s, hp, dom, hf⟩
    obtain ⟨n, hn, rfl⟩ := nz_get hi
    have il := (List.getElem?_eq_some_iff.mp hn).1
    have tk := take_more hn
    have rl := runsL_len _ (l.take i) rfl
    rw [List.length_take] at rl
    have xl := hf.len
    rw [dPairs_len] at xl
    -- behind the turn
    have fin : ∀ (H4 : Hp) (acc : List V), Same H2 H4 → H4 p = some (.lst acc) → True := fun _ _ _ _ => trivial
    walk_at "go"
    refine ⟨sz5 (by simp), fun q nq => ?_⟩
    generalize eq : upd H2 q _ = H3
    obtain ⟨sH3, hq, dH3⟩ := new_of nq eq
    walk_at "go"
    refine r_ned (.lst (SqL.of (sH3 _ _ hp)) (hf.now.ext sH3)) (.lst (SqL.of hq) .nil) (Sm.list (n := 2) fun d hd => (Sm.pairs (n := 0) _ d hd).mono (by decide)).shaped (Sm.list (n := 0) (fun d hd => by cases hd)).shaped ?_
    rw [eqv_nil]
    walk_at "go"
    have hp3 := sH3 _ _ hp
    have hf3 := hf.to (New.same sH3)
    have dom3 : ∀ b, H3 b = none → H1 b = none := fun b z => dom b (dH3 b z)
    have addnew : (runsL (l.take (i + 1)) = runsL (l.take i) ++ [(n, n)]) → tDrop (tBM c.K "list" rAppend (tVar 1) (tCons (tTup (tCons (tVar 2) (tCons (tVar 2) (tNil)))) (tNil)))
        { nx := fun σ H2 => ∃ (xs : List V) (v : Option V), σ = [some (.ref a), some (.ref p), v] ∧ Same H H2 ∧ H2 p = some (.lst xs) ∧ (∀ q, H2 q = none → H1 q = none) ∧ Fds c.K H1 H2 xs (dPairs (runsL (l.take (i + 1)))), rt := Q, bk := tRet (tVar 1) { nx := fun _ H' => Q .non H', rt := Q }, ct := fun σ H2 => ∃ (xs : List V) (v : Option V), σ = [some (.ref a), some (.ref p), v] ∧ Same H H2 ∧ H2 p = some (.lst xs) ∧ (∀ q, H2 q = none → H1 q = none) ∧ Fds c.K H1 H2 xs (dPairs (runsL (l.take (i + 1)))) } [some (.ref a), some (.ref p), some (.int (n : Int))] H3 := by
      intro er
      walk_at "go"
      refine ⟨tyL hp3, ?_⟩
      walk_at "go"
      refine ⟨sz5 (by simp), fun t nt => ?_⟩
      generalize et : upd H3 t _ = H4
      obtain ⟨sH4, ht, dH4⟩ := new_of nt et
      walk_at "go"
      refine r_append (sH4 _ _ hp3) (sl5 (by omega)) ?_
      refine ⟨xs ++ [.ref t], _, rfl, ((s.trans sH3).trans sH4).mut np, upd_same, dom_mut (fun b z => dom3 b (dH4 b z)) (by rw [sH4 _ _ hp3]; simp), ?_⟩
      rw [er, dPairs_app]
      refine Fds.snoc ((hf3.to (New.same sH4)).to (New.mut hp1 New.refl)) ?_
      exact (Fd.tup (dom3 _ nt) ht (Fds.cons (.int _) (Fds.cons (.int _) .nil))).to (New.mut hp1 New.refl)
    by_cases e0 : runsL (l.take i) = []
    · rw [e0]
      refine if_f rfl ?_
      refine if_f rfl ?_
      refine addnew ?_
      rw [tk, runsL_snoc, e0]; rfl
    · obtain ⟨rs, r, er⟩ : ∃ rs r, runsL (l.take i) = rs ++ [r] := ⟨_, _, (List.dropLast_concat_getLast e0).symm⟩
      rw [er] at hf3
      obtain ⟨ys, t, rfl, ht, hys⟩ := dPairs_snoc_inv hf3
      refine if_t (by rw [er]; simp [dPairs]) ?_
      walk_at "go"
      refine r_ixL (SqL.of hp3) (atI_last _ _) ?_
      walk_at "go"
      refine r_ixT ht (atI_nat (j := 1) rfl) ?_
      walk_at "go"
      refine if_d (fun z => ?_) (fun z => ?_)
      · walk_at "go"
        refine r_ixL (SqL.of hp3) (atI_last _ _) ?_
        walk_at "go"
        refine r_ixT ht (atI_nat (j := 0) rfl) ?_
        walk_at "go"
        refine ⟨sz5 (by simp), fun u nu => ?_⟩
        generalize eu : upd H3 u _ = H4
        obtain ⟨sH4, hu, dH4⟩ := new_of nu eu
        walk_at "go"
        refine ⟨p, _, _, ys.length, rfl, rfl, sH4 _ _ hp3, ?_, ?_⟩
        · unfold ixN
          rw [if_neg (by omega), if_pos (by simp; omega)]
          simp; omega
        · have e9 : (ys ++ [V.ref t]).set ys.length (.ref u) = ys ++ [.ref u] := by simp
          rw [e9]
          refine ⟨ys ++ [.ref u], _, rfl, ((s.trans sH3).trans sH4).mut np, upd_same, dom_mut (fun b z => dom3 b (dH4 b z)) (by rw [sH4 _ _ hp3]; simp), ?_⟩
          rw [tk, runsL_snoc, er, stepR_snoc, if_pos (by omega), dPairs_app]
          refine Fds.snoc ((hys.to (New.same sH4)).to (New.mut hp1 New.refl)) ?_
          exact (Fd.tup (dom3 _ nu) hu (Fds.cons (.int _) (Fds.cons (.int _) .nil))).to (New.mut hp1 New.refl)
      · refine addnew ?_
        rw [tk, runsL_snoc, er, stepR_snoc, if_neg (by omega)]
  · rintro σ H2 ⟨xs, v, rfl, s, hp, dom, hf⟩
    walk_at "go"
    rw [nzv_len, List.take_length] at hf
    exact hQ p xs H2 s np hp (hf.left d1)
def sp__law_form (c : Cs) : Sp := fun vs H Q _ => ∃ b : Nat, vs = [.int (b : Int)] ∧ b < 2 ^ 256 ∧ GivesT c H Q [formD b, .int (weightK (kdB b) b : Nat)]
theorem len__law_form (c : Cs) : ∀ vs H Q E, sp__law_form c vs H Q E → vs.length = (["_law_bits_here"] : List Str).length := by
  rintro vs H Q E ⟨b, rfl, _⟩; rfl
/-- _law_form -/
def t__law_form (c : Cs) (E : XK) : TS :=
  tSeq (tAsg (tCall (sp__law_lows c) [] E (tCons (tVar 0) (tNil))) (gName 1))
    (tSeq (tAsg (tCall (sp__law_runs c) [] E (tCons (tVar 1) (tNil))) (gName 2))
    (tSeq (tIfS (tAnd (tTest (tOp (rLe) (tCB (rLen c.K) (tCons (tVar 1) (tNil))) (tOp rMul (tC (.int 2)) (tCB (rLen c.K) (tCons (tVar 2) (tNil)))))) (tTest (tOp (rLe) (tCB (rLen c.K) (tCons (tVar 1) (tNil))) (tC (.int 32))))) (tRet (tTup (tCons (tTup (tCons (tC (.str "row")) (tCons (tCB (rTuple c.K) (tCons (tVar 1) (tNil))) (tNil)))) (tCons (tCB (rLen c.K) (tCons (tVar 1) (tNil))) (tNil))))) (tNext))
    (tSeq (tIfS (tTest (tOp (rLe) (tOp rMul (tC (.int 2)) (tCB (rLen c.K) (tCons (tVar 2) (tNil)))) (tC (.int 32)))) (tRet (tTup (tCons (tTup (tCons (tC (.str "runs")) (tCons (tCB (rTuple c.K) (tCons (tVar 2) (tNil))) (tNil)))) (tCons (tOp rMul (tC (.int 2)) (tCB (rLen c.K) (tCons (tVar 2) (tNil)))) (tNil))))) (tNext))
    (tRet (tTup (tCons (tTup (tCons (tC (.str "bits")) (tCons (tCB (rTuple c.K) (tCons (tLc (iRng1 (tCons (tC (.int 4)) (tNil))) (gName 3) (tYes) (tOp rBan (tOp rShr (tVar 0) (tOp rMul (tC (.int 64)) (tVar 3))) (tC (.int 18446744073709551615))) [3]) (tNil))) (tNil)))) (tCons (tC (.int 32)) (tNil))))))))
theorem pure__law_form {c : Cs} (G : Good c) (vs : List V) (H : Hp) (Q : VK) (E : XK) (h : sp__law_form c vs H Q E) : t__law_form c E { nx := fun _ H' => Q .non H', rt := Q } (start ["_law_bits_here", "_law_lows_here", "_law_runs_here", "_law_k"] vs) H := by
  obtain ⟨b, rfl, hb, hQ⟩ := h
  unfold t__law_form
  show tSeq _ _ _ [some (.int (b : Int)), none, none, none] H
  walk_at "go"
  refine ⟨b, rfl, Nat.lt_of_lt_of_le hb (Nat.pow_le_pow_right (by decide) (by decide)), fun p H1 s1 np hp => ?_⟩
  walk_at "go"
  refine ⟨p, bitsOf b, rfl, SqL.of hp, by have := bitsOf_len hb; omega, fun r xs H2 s2 nr hr hf => ?_⟩
  walk_at "go"
  have hp2 := s2 _ _ hp
  have xl : xs.length = (runsB b).length := by rw [hf.len, dPairs_len]; rfl
  have pl : ((nz (bitsOf b)).map V.int).length = popc b := by rw [nzv_len]; rfl
  refine r_len_l (SqL.of hp2) ?_
  walk_at "go"
  refine r_len_l (SqL.of hr) ?_
  walk_at "go"
  rw [xl, pl]
  by_cases hrow : popc b ≤ 2 * (runsB b).length ∧ popc b ≤ 32
  · refine if_d (fun z1 => ?_) (fun z1 => absurd z1 (by omega))
    walk_at "go"
    refine r_len_l (SqL.of hp2) ?_
    walk_at "go"
    rw [pl]
    refine if_d (fun z2 => ?_) (fun z2 => absurd z2 (by omega))
    have ek : kdB b = .row := by unfold kdB; rw [if_pos hrow]
    walk_at "go"
    refine r_tuple_l (SqL.of hp2) ?_
    intro u nu
    generalize eu : upd H2 u _ = H3
    obtain ⟨sH3, hu, dH3⟩ := new_of nu eu
    walk_at "go"
    refine ⟨sz5 (by simp), fun t nt => ?_⟩
    generalize et : upd H3 t _ = H4
    obtain ⟨sH4, ht, dH4⟩ := new_of nt et
    walk_at "go"
    refine r_len_l (SqL.of (sH4 _ _ (sH3 _ _ hp2))) ?_
    walk_at "go"
    refine ⟨sz5 (by simp), fun q nq => ?_⟩
    generalize eq : upd H4 q _ = H5
    obtain ⟨sH5, hq, dH5⟩ := new_of nq eq
    refine hQ q _ H5 (((s1.trans s2).trans (sH3.trans sH4)).trans sH5) (s1.free (s2.free (sH3.free (sH4.free nq)))) hq (Fds.cons ?_ (Fds.cons ?_ .nil))
    · unfold formD; rw [ek]
      refine (Fd.tup (s1.free (s2.free (sH3.free nt))) (sH5 _ _ ht) (Fds.cons (.str _) (Fds.cons ?_ .nil)))
      exact Fd.tup (s1.free (s2.free nu)) (sH5 _ _ (sH4 _ _ hu)) (Fds.ints _)
    · rw [ek, pl]; exact .int _
  · refine if_d (fun z1 => ?_) (fun z1 => ?_)
    · walk_at "go"
      refine r_len_l (SqL.of hp2) ?_
      walk_at "go"
      rw [pl]
      refine if_d (fun z2 => absurd ⟨by omega, by omega⟩ hrow) (fun z2 => ?_)
      walk_at "go"
      refine r_len_l (SqL.of hr) ?_
      walk_at "go"
      rw [xl]
      refine if_d (fun z3 => ?_) (fun z3 => ?_)
      · have ek : kdB b = .runs := by unfold kdB; rw [if_neg hrow, if_pos (by omega)]
        walk_at "go"
        refine r_tuple_l (SqL.of hr) ?_
        intro u nu
        generalize eu : upd H2 u _ = H3
        obtain ⟨sH3, hu, dH3⟩ := new_of nu eu
        walk_at "go"
        refine ⟨sz5 (by simp), fun t nt => ?_⟩
        generalize et : upd H3 t _ = H4
        obtain ⟨sH4, ht, dH4⟩ := new_of nt et
        walk_at "go"
        refine r_len_l (SqL.of (sH4 _ _ (sH3 _ _ hr))) ?_
        walk_at "go"
        refine ⟨sz5 (by simp), fun q nq => ?_⟩
        generalize eq : upd H4 q _ = H5
        obtain ⟨sH5, hq, dH5⟩ := new_of nq eq
        refine hQ q _ H5 (((s1.trans s2).trans (sH3.trans sH4)).trans sH5) (s1.free (s2.free (sH3.free (sH4.free nq)))) hq (Fds.cons ?_ (Fds.cons ?_ .nil))
        · unfold formD; rw [ek]
          refine (Fd.tup (s1.free (s2.free (sH3.free nt))) (sH5 _ _ ht) (Fds.cons (.str _) (Fds.cons ?_ .nil)))
          exact Fd.tup (s1.free (s2.free nu)) (sH5 _ _ (sH4 _ _ hu)) (((hf.left (fun b z => s1.free z)).to (New.same (sH3.trans (sH4.trans sH5)))))
        · rw [ek, xl]; exact .int _
      · have ek : kdB b = .bits := by unfold kdB; rw [if_neg hrow, if_neg (by omega)]
        walk_at "go"
        refine ⟨4, rfl, by decide, by decide, fun D nD => ?_⟩
        refine lcR (K := c.K) (lo := 0) (n := 4) (fun _ => true) (fun i => .int ((wordB b i : Nat) : Int)) nD (by decide) (fun i H3 Rk Rs hi s3 hk hn => ?_) (fun H3 acc s3 hD hfd => ?_)
        · simp only [wipe, List.set_cons_zero, List.set_cons_succ]
          walk_at "go"
          refine ⟨(by first | exact rfl | exact trivial), ?_⟩
          walk_at "go"
          rw [word_cast]
          exact hk rfl _ H3 (Same.refl _) (.int _)
        · walk_at "go"
          refine r_tuple_l (SqL.of hD) ?_
          intro u nu
          generalize eu : upd H3 u _ = H4
          obtain ⟨sH4, hu, dH4⟩ := new_of nu eu
          walk_at "go"
          refine ⟨sz5 (by simp), fun t nt => ?_⟩
          generalize et : upd H4 t _ = H5
          obtain ⟨sH5, ht, dH5⟩ := new_of nt et
          walk_at "go"
          refine ⟨sz5 (by simp), fun q nq => ?_⟩
          generalize eq : upd H5 q _ = H6
          obtain ⟨sH6, hq, dH6⟩ := new_of nq eq
          refine hQ q _ H6 ((s1.trans s2).trans ((s3.trans sH4).trans (sH5.trans sH6))) (s1.free (s2.free (s3.free (sH4.free (sH5.free nq))))) hq (Fds.cons ?_ (Fds.cons ?_ .nil))
          · unfold formD; rw [ek]
            refine (Fd.tup (s1.free (s2.free (s3.free (sH4.free nt)))) (sH6 _ _ ht) (Fds.cons (.str _) (Fds.cons ?_ .nil)))
            refine Fd.tup (s1.free (s2.free (s3.free nu))) (sH6 _ _ (sH5 _ _ hu)) ?_
            show Fds c.K H H6 acc ((nz ((List.range 4).map (wordB b))).map PyData.int)
            rw [words_eq]
            exact (hfd.left fun z zz => s1.free (s2.free zz)).to (New.same (sH4.trans (sH5.trans sH6)))
          · rw [ek]; exact .int _
    · walk_at "go"
      refine r_len_l (SqL.of hr) ?_
      walk_at "go"
      rw [xl]
      refine if_d (fun z3 => ?_) (fun z3 => ?_)
      · have ek : kdB b = .runs := by unfold kdB; rw [if_neg hrow, if_pos (by omega)]
        walk_at "go"
        refine r_tuple_l (SqL.of hr) ?_
        intro u nu
        generalize eu : upd H2 u _ = H3
        obtain ⟨sH3, hu, dH3⟩ := new_of nu eu
        walk_at "go"
        refine ⟨sz5 (by simp), fun t nt => ?_⟩
        generalize et : upd H3 t _ = H4
        obtain ⟨sH4, ht, dH4⟩ := new_of nt et
        walk_at "go"
        refine r_len_l (SqL.of (sH4 _ _ (sH3 _ _ hr))) ?_
        walk_at "go"
        refine ⟨sz5 (by simp), fun q nq => ?_⟩
        generalize eq : upd H4 q _ = H5
        obtain ⟨sH5, hq, dH5⟩ := new_of nq eq
        refine hQ q _ H5 (((s1.trans s2).trans (sH3.trans sH4)).trans sH5) (s1.free (s2.free (sH3.free (sH4.free nq)))) hq (Fds.cons ?_ (Fds.cons ?_ .nil))
        · unfold formD; rw [ek]
          refine (Fd.tup (s1.free (s2.free (sH3.free nt))) (sH5 _ _ ht) (Fds.cons (.str _) (Fds.cons ?_ .nil)))
          exact Fd.tup (s1.free (s2.free nu)) (sH5 _ _ (sH4 _ _ hu)) (((hf.left (fun b z => s1.free z)).to (New.same (sH3.trans (sH4.trans sH5)))))
        · rw [ek, xl]; exact .int _
      · have ek : kdB b = .bits := by unfold kdB; rw [if_neg hrow, if_neg (by omega)]
        walk_at "go"
        refine ⟨4, rfl, by decide, by decide, fun D nD => ?_⟩
        refine lcR (K := c.K) (lo := 0) (n := 4) (fun _ => true) (fun i => .int ((wordB b i : Nat) : Int)) nD (by decide) (fun i H3 Rk Rs hi s3 hk hn => ?_) (fun H3 acc s3 hD hfd => ?_)
        · simp only [wipe, List.set_cons_zero, List.set_cons_succ]
          walk_at "go"
          refine ⟨(by first | exact rfl | exact trivial), ?_⟩
          walk_at "go"
          rw [word_cast]
          exact hk rfl _ H3 (Same.refl _) (.int _)
        · walk_at "go"
          refine r_tuple_l (SqL.of hD) ?_
          intro u nu
          generalize eu : upd H3 u _ = H4
          obtain ⟨sH4, hu, dH4⟩ := new_of nu eu
          walk_at "go"
          refine ⟨sz5 (by simp), fun t nt => ?_⟩
          generalize et : upd H4 t _ = H5
          obtain ⟨sH5, ht, dH5⟩ := new_of nt et
          walk_at "go"
          refine ⟨sz5 (by simp), fun q nq => ?_⟩
          generalize eq : upd H5 q _ = H6
          obtain ⟨sH6, hq, dH6⟩ := new_of nq eq
          refine hQ q _ H6 ((s1.trans s2).trans ((s3.trans sH4).trans (sH5.trans sH6))) (s1.free (s2.free (s3.free (sH4.free (sH5.free nq))))) hq (Fds.cons ?_ (Fds.cons ?_ .nil))
          · unfold formD; rw [ek]
            refine (Fd.tup (s1.free (s2.free (s3.free (sH4.free nt)))) (sH6 _ _ ht) (Fds.cons (.str _) (Fds.cons ?_ .nil)))
            refine Fd.tup (s1.free (s2.free (s3.free nu))) (sH6 _ _ (sH5 _ _ hu)) ?_
            show Fds c.K H H6 acc ((nz ((List.range 4).map (wordB b))).map PyData.int)
            rw [words_eq]
            exact (hfd.left fun z zz => s1.free (s2.free zz)).to (New.same (sH4.trans (sH5.trans sH6)))
          · rw [ek]; exact .int _
/-! ### the patterns: any bits of a sack -/
def sp__law_pattern (c : Cs) : Sp := fun vs H Q _ => ∃ n : Nat, vs = [.int (n : Int)] ∧ n < 4611686018427387904 ∧ ∀ (b : Nat) (H' : Hp), b < 2 ^ 256 → Same H H' → Q (.int (b : Int)) H'
theorem len__law_pattern (c : Cs) : ∀ vs H Q E, sp__law_pattern c vs H Q E → vs.length = (["_law_cell"] : List Str).length := by
  rintro vs H Q E ⟨n, rfl, _⟩; rfl
/-- _law_pattern -/
def t__law_pattern (c : Cs) (E : XK) : TS :=
  tSeq (tAsg (tOp rMod (tVar 0) (tC (.int 6))) (gName 1))
    (tSeq (tAsg (tOp rFdv (tVar 0) (tC (.int 6))) (gName 2))
    (tSeq (tAsg (tC (.int 0)) (gName 3))
    (tSeq (tIfS (tTest (tOp (rEqu c.K) (tVar 1) (tC (.int 0)))) (tSeq (tAsg (tOp rAdd (tC (.int 1)) (tOp rMod (tVar 2) (tC (.int 5)))) (gName 4))
    (tSeq (tAsg (tOp rAdd (tOp rAdd (tVar 4) (tC (.int 1))) (tOp rMod (tOp rFdv (tVar 2) (tC (.int 5))) (tC (.int 3)))) (gName 5))
    (tSeq (tFor (iRng1 (tCons (tOp rAdd (tC (.int 1)) (tOp rMod (tOp rFdv (tVar 2) (tC (.int 15))) (tC (.int 20)))) (tNil))) (gName 6) (tIfS (tTest (tOp (rLe) (tOp rAdd (tOp rMul (tVar 5) (tVar 6)) (tVar 4)) (tC (.int 256)))) (tAug 3 (tOp rShl (tOp rSub (tOp rShl (tC (.int 1)) (tVar 4)) (tC (.int 1))) (tOp rMul (tVar 5) (tVar 6))) pBor) (tNext)))
    (tRet (tVar 3))))) (tNext))
    (tSeq (tIfS (tTest (tOp (rEqu c.K) (tVar 1) (tC (.int 1)))) (tSeq (tAsg (tOp rAdd (tC (.int 2)) (tOp rMod (tVar 2) (tC (.int 6)))) (gName 5))
    (tSeq (tFor (iRng1 (tCons (tOp rAdd (tOp rFdv (tOp rMod (tOp rFdv (tVar 2) (tC (.int 6))) (tC (.int 256))) (tVar 5)) (tC (.int 1))) (tNil))) (gName 6) (tAug 3 (tOp rShl (tC (.int 1)) (tOp rMul (tVar 5) (tVar 6))) pBor))
    (tRet (tVar 3)))) (tNext))
    (tSeq (tIfS (tTest (tOp (rEqu c.K) (tVar 1) (tC (.int 2)))) (tRet (tOp rMod (tOp rMul (tOp rMul (tOp rMul (tVar 2) (tOp rAdd (tVar 2) (tC (.int 77777)))) (tOp rAdd (tVar 2) (tC (.int 3)))) (tOp rAdd (tVar 2) (tC (.int 12345)))) (tOp rShl (tC (.int 1)) (tC (.int 256))))) (tNext))
    (tSeq (tIfS (tTest (tOp (rEqu c.K) (tVar 1) (tC (.int 3)))) (tSeq (tAsg (tOp rMod (tVar 2) (tC (.int 256))) (gName 7))
    (tRet (tOp rSub (tOp rShl (tC (.int 1)) (tOp rAdd (tOp rAdd (tC (.int 1)) (tVar 7)) (tOp rMod (tOp rFdv (tVar 2) (tC (.int 256))) (tOp rSub (tC (.int 256)) (tVar 7))))) (tOp rShl (tC (.int 1)) (tVar 7))))) (tNext))
    (tSeq (tFor (iRng1 (tCons (tOp rAdd (tC (.int 1)) (tOp rMod (tVar 2) (tC (.int 30)))) (tNil))) (gName 6) (tAug 3 (tOp rShl (tC (.int 1)) (tOp rMod (tOp rMul (tOp rFdv (tVar 2) (tOp rAdd (tC (.int 1)) (tVar 6))) (tOp rAdd (tVar 6) (tC (.int 5)))) (tC (.int 256)))) pBor))
    (tRet (tOp (rIx c.K) (tLst (tCons (tVar 3) (tCons (tOp rSub (tOp rSub (tOp rShl (tC (.int 1)) (tC (.int 256))) (tC (.int 1))) (tVar 3)) (tNil)))) (tOp rSub (tVar 1) (tC (.int 4))))))))))))
theorem pow_le256 {k : Nat} (h : k ≤ 256) : 2 ^ k ≤ 2 ^ 256 := Nat.pow_le_pow_right (by decide) h
theorem pow_lt256 {k : Nat} (h : k < 256) : 2 ^ k < 2 ^ 256 := Nat.pow_lt_pow_right (by decide) h
theorem one_shl {j : Int} {k : Nat} (h : j = (k : Int)) : (1 : Int) * 2 ^ j.toNat = ((2 ^ k : Nat) : Int) := by
  rw [h, Int.one_mul, Int.toNat_natCast, Int.natCast_pow]; rfl
theorem nat_shl {b k : Nat} {j : Int} (h : j = (k : Int)) : (b : Int) * 2 ^ j.toNat = ((b * 2 ^ k : Nat) : Int) := by
  rw [h, Int.toNat_natCast, Int.natCast_mul, Int.natCast_pow]; rfl
theorem pow_sub {a b : Nat} (h : a ≤ b) : ((2 ^ b : Nat) : Int) - ((2 ^ a : Nat) : Int) = ((2 ^ b - 2 ^ a : Nat) : Int) := by
  have := Nat.pow_le_pow_right (n := 2) (by decide) h
  omega
theorem pure__law_pattern {c : Cs} (G : Good c) (vs : List V) (H : Hp) (Q : VK) (E : XK) (h : sp__law_pattern c vs H Q E) : t__law_pattern c E { nx := fun _ H' => Q .non H', rt := Q } (start ["_law_cell", "_law_way", "_law_rest", "_law_found", "_law_size", "_law_far", "_law_k", "_law_first"] vs) H := by
  obtain ⟨n, rfl, hn, hQ⟩ := h
  unfold t__law_pattern
  show tSeq _ _ _ [some (.int (n : Int)), none, none, none, none, none, none, none] H
  walk_at "go"
  obtain ⟨w, hw⟩ : ∃ w : Nat, (n : Int) % 6 = w := ⟨n % 6, by omega⟩
  obtain ⟨r, hr⟩ : ∃ r : Nat, (n : Int) / 6 = r := ⟨n / 6, by omega⟩
  rw [hw, hr]
  have hr2 : r < 4611686018427387904 := by omega
  have hw2 : w < 6 := by omega
  clear hw hr hn
  refine if_d (fun z => ?_) (fun z0 => ?_)
  · walk_at "go"
    obtain ⟨sz, hsz, h1, h2⟩ : ∃ sz : Nat, (1 : Int) + (r : Int) % 5 = sz ∧ 1 ≤ sz ∧ sz ≤ 5 := ⟨1 + r % 5, by omega, by omega, by omega⟩
    rw [hsz]
    obtain ⟨far, hfar, h3⟩ : ∃ far : Nat, (sz : Int) + 1 + (r : Int) / 5 % 3 = far ∧ far ≤ 8 := ⟨sz + 1 + r / 5 % 3, by omega, by omega⟩
    rw [hfar]
    refine ⟨_, rfl, by omega, by omega, for_range (lo := 0) (n := ((1 : Int) + (r : Int) / 15 % 20).toNat) (fun i σ H1 => ∃ (f : Nat) (v : Option V), H1 = H ∧ f < 2 ^ 256 ∧ σ = [some (.int (n : Int)), some (.int (w : Int)), some (.int (r : Int)), some (.int (f : Int)), some (.int (sz : Int)), some (.int (far : Int)), v, none])
      ⟨0, none, rfl, by decide, rfl⟩ ?_ ?_⟩
    · rintro i σ H1 hi ⟨f, v, rfl, hf, rfl⟩
      walk_at "go"
      obtain ⟨m, hm⟩ : ∃ m : Nat, (far : Int) * ((0 : Int) + (i : Int)) = m := ⟨far * i, by rw [Int.zero_add]; exact (Int.natCast_mul _ _).symm⟩
      rw [hm]
      refine if_d (fun z1 => ?_) (fun z1 => ?_)
      · walk_at "go"
        rw [hm, one_shl (k := sz) rfl]
        have e : ((2 ^ sz : Nat) : Int) - 1 = ((2 ^ sz - 1 : Nat) : Int) := by have := Nat.two_pow_pos sz; omega
        rw [e]
        refine r_shl (CShl_nat (n := 256) (Nat.lt_of_lt_of_le (by have := Nat.two_pow_pos sz; omega) (pow_le256 (k := sz) (by omega))) (by omega) (by omega)) ?_
        walk_at "go"
        rw [nat_shl (k := m) rfl, or_cast]
        refine ⟨f ||| (2 ^ sz - 1) * 2 ^ m, some (.int ((0 : Int) + (i : Int))), rfl, ?_, rfl⟩
        refine Nat.or_lt_two_pow hf (Nat.lt_of_lt_of_le ?_ (pow_le256 (k := sz + m) (by omega)))
        rw [Nat.pow_add]
        exact Nat.mul_lt_mul_of_pos_right (by have := Nat.two_pow_pos sz; omega) (Nat.two_pow_pos m)
      · walk_at "go"
        exact ⟨f, _, rfl, hf, rfl⟩
    · rintro σ H1 ⟨f, v, rfl, hf, rfl⟩
      walk_at "go"
      exact hQ f H1 hf (Same.refl _)
  walk_at "go"
  refine if_d (fun z => ?_) (fun z1 => ?_)
  · walk_at "go"
    obtain ⟨far, hfar, h1, h2⟩ : ∃ far : Nat, (2 : Int) + (r : Int) % 6 = far ∧ 2 ≤ far ∧ far ≤ 7 := ⟨2 + r % 6, by omega, by omega, by omega⟩
    rw [hfar]
    obtain ⟨u, hu, hu2⟩ : ∃ u : Nat, (r : Int) / 6 % 256 = u ∧ u ≤ 255 := ⟨r / 6 % 256, by omega, by omega⟩
    rw [hu]
    have eq : (u : Int) / (far : Int) = ((u / far : Nat) : Int) := (Int.natCast_ediv _ _).symm
    rw [eq]
    have hq : u / far ≤ 255 := Nat.le_trans (Nat.div_le_self _ _) hu2
    have hmul := Nat.mul_div_le u far
    generalize u / far = qq at hq hmul ⊢
    refine ⟨_, rfl, by omega, by omega, for_range (lo := 0) (n := ((qq : Int) + 1).toNat) (fun i σ H1 => ∃ (f : Nat) (v : Option V), H1 = H ∧ f < 2 ^ 256 ∧ σ = [some (.int (n : Int)), some (.int (w : Int)), some (.int (r : Int)), some (.int (f : Int)), none, some (.int (far : Int)), v, none])
      ⟨0, none, rfl, by decide, rfl⟩ ?_ ?_⟩
    · rintro i σ H1 hi ⟨f, v, rfl, hf, rfl⟩
      have hi2 : i ≤ qq := by omega
      have hm2 : far * i ≤ 255 := Nat.le_trans (Nat.le_trans (Nat.mul_le_mul_left far hi2) hmul) hu2
      walk_at "go"
      obtain ⟨m, hm, hm3⟩ : ∃ m : Nat, (far : Int) * ((0 : Int) + (i : Int)) = m ∧ m ≤ 255 := ⟨far * i, by rw [Int.zero_add]; exact (Int.natCast_mul _ _).symm, hm2⟩
      rw [hm]
      walk_at "go"
      rw [one_shl (k := m) rfl, or_cast]
      exact ⟨f ||| 2 ^ m, some (.int ((0 : Int) + (i : Int))), rfl, Nat.or_lt_two_pow hf (pow_lt256 (by omega)), rfl⟩
    · rintro σ H1 ⟨f, v, rfl, hf, rfl⟩
      walk_at "go"
      exact hQ f H1 hf (Same.refl _)
  walk_at "go"
  refine if_d (fun z => ?_) (fun z2 => ?_)
  · walk_at "go"
    rw [one_shl (j := 256) (k := 256) rfl]
    refine r_mod (by decide) ?_
    generalize (r : Int) * ((r : Int) + 77777) * ((r : Int) + 3) * ((r : Int) + 12345) = x
    have p0 : (0 : Int) ≤ x % ((2 ^ 256 : Nat) : Int) := Int.emod_nonneg _ (by decide)
    have p1 : x % ((2 ^ 256 : Nat) : Int) < ((2 ^ 256 : Nat) : Int) := Int.emod_lt_of_pos _ (by decide)
    obtain ⟨b, hb⟩ := Int.eq_ofNat_of_zero_le p0
    rw [hb] at p1 ⊢
    exact hQ b H (Int.ofNat_lt.mp p1) (Same.refl _)
  walk_at "go"
  refine if_d (fun z => ?_) (fun z3 => ?_)
  · walk_at "go"
    obtain ⟨f, hf, h1⟩ : ∃ f : Nat, (r : Int) % 256 = f ∧ f ≤ 255 := ⟨r % 256, by omega, by omega⟩
    rw [hf]
    walk_at "go"
    have p0 : (0 : Int) ≤ (r : Int) / 256 % (256 - (f : Int)) := Int.emod_nonneg _ (by omega)
    have p1 : (r : Int) / 256 % (256 - (f : Int)) < 256 - (f : Int) := Int.emod_lt_of_pos _ (by omega)
    obtain ⟨y, hy⟩ := Int.eq_ofNat_of_zero_le p0
    rw [hy] at p1 ⊢
    walk_at "go"
    rw [one_shl (j := 1 + (f : Int) + (y : Int)) (k := 1 + f + y) (by omega), one_shl (k := f) rfl, pow_sub (by omega)]
    refine hQ _ H ?_ (Same.refl _)
    have := pow_le256 (k := 1 + f + y) (by omega)
    have := Nat.two_pow_pos f
    omega
  walk_at "go"
  obtain ⟨cnt, hcnt, hc1⟩ : ∃ cnt : Nat, (1 : Int) + (r : Int) % 30 = cnt ∧ cnt ≤ 30 := ⟨1 + r % 30, by omega, by omega⟩
  rw [hcnt]
  refine ⟨_, rfl, by omega, by omega, for_range (lo := 0) (n := ((cnt : Int)).toNat) (fun i σ H1 => ∃ (f : Nat) (v : Option V), H1 = H ∧ f < 2 ^ 256 ∧ σ = [some (.int (n : Int)), some (.int (w : Int)), some (.int (r : Int)), some (.int (f : Int)), none, none, v, none])
    ⟨0, none, rfl, by decide, rfl⟩ ?_ ?_⟩
  · rintro i σ H1 hi ⟨f, v, rfl, hf, rfl⟩
    have hi2 : i ≤ 30 := by omega
    walk_at "go"
    have p0 : (0 : Int) ≤ (r : Int) / (1 + ((0 : Int) + (i : Int))) * ((0 : Int) + (i : Int) + 5) % 256 := Int.emod_nonneg _ (by decide)
    have p1 : (r : Int) / (1 + ((0 : Int) + (i : Int))) * ((0 : Int) + (i : Int) + 5) % 256 < 256 := Int.emod_lt_of_pos _ (by decide)
    obtain ⟨m, hm⟩ := Int.eq_ofNat_of_zero_le p0
    rw [hm] at p1 ⊢
    walk_at "go"
    rw [one_shl (k := m) rfl, or_cast]
    exact ⟨f ||| 2 ^ m, some (.int ((0 : Int) + (i : Int))), rfl, Nat.or_lt_two_pow hf (pow_lt256 (by omega)), rfl⟩
  · rintro σ H1 ⟨f, v, rfl, hf, rfl⟩
    walk_at "go"
    rw [one_shl (j := 256) (k := 256) rfl]
    refine ⟨sz5 (by simp), fun q nq => ?_⟩
    generalize eq : upd H1 q _ = H2
    obtain ⟨sH2, hq, dH2⟩ := new_of nq eq
    walk_at "go"
    have e : ((2 ^ 256 : Nat) : Int) - 1 - (f : Int) = ((2 ^ 256 - 1 - f : Nat) : Int) := by omega
    rw [e] at hq
    obtain ⟨b, hb, hv⟩ : ∃ b : Nat, b < 2 ^ 256 ∧ [V.int (f : Int), V.int ((2 ^ 256 - 1 - f : Nat) : Int)][w - 4]? = some (.int (b : Int)) := by
      have : w = 4 ∨ w = 5 := by omega
      rcases this with rfl | rfl
      · exact ⟨f, hf, rfl⟩
      · exact ⟨2 ^ 256 - 1 - f, by omega, rfl⟩
    have ew : (w : Int) - 4 = ((w - 4 : Nat) : Int) := by omega
    rw [ew]
    refine r_ixL (SqL.of hq) (atI_nat hv) ?_
    exact hQ b H2 hb sH2
/-! ### the marks of what is caught -/
/-! ### told in some order -/
theorem nzv_app (l m : List Nat) : (nz l).map V.int ++ (nz m).map V.int = (nz (l ++ m)).map V.int := by rw [nz_app, List.map_append]
theorem orV_nz {l : List Nat} {b : Nat} (h : ∀ x, x ∈ l ↔ x ∈ bitsOf b) : orV ((nz l).map V.int) = b := by
  apply Nat.eq_of_testBit_eq
  intro i
  rw [orV_bit, ← mem_bits_dec]
  unfold nz
  rw [List.map_map, List.any_map, Bool.eq_iff_iff, List.any_eq_true, decide_eq_true_eq, ← h]
  constructor
  · rintro ⟨x, hx, e⟩
    have e2 : lowN (.int (x : Int)) = i := of_decide_eq_true e
    have : x = i := by simpa [lowN] using e2
    exact this ▸ hx
  · intro hi
    exact ⟨i, hi, decide_eq_true (show lowN (.int (i : Int)) = i by simp [lowN])⟩
def sp_law (c : Cs) : Sp := fun vs H Q _ => ∃ (a : Addr) (ns : List Int), vs = [.ref a] ∧ SqL c.K H a (ns.map V.int) ∧ ns.length ≤ 63 ∧ LamX.Tabs c.T H ∧ ∀ H', Q (.bl true) H'
/-! ### heaps that differ at one dict -/
def But (d : Addr) (H H' : Hp) : Prop := ∀ p o, p ≠ d → H p = some o → H' p = some o
theorem But.refl (d : Addr) (H : Hp) : But d H H := fun _ _ _ h => h
theorem But.trans {d : Addr} {H H1 H2 : Hp} (a : But d H H1) (b : But d H1 H2) : But d H H2 := fun p o n h => b p o n (a p o n h)
theorem But.of {d : Addr} {H H1 : Hp} (s : Same H H1) : But d H H1 := fun p o _ h => s p o h
theorem But.upd {d : Addr} {H : Hp} {o : HO} : But d H (upd H d o) := fun p u n h => by rw [upd_ne n]; exact h
/-- what is a list, a tuple, an instance stays -/
theorem But.lst {d p : Addr} {H H1 : Hp} {xs : List V} (b : But d H H1) (hd : ∃ kvs, H d = some (.dK kvs)) (h : H p = some (.lst xs)) : H1 p = some (.lst xs) := by
  obtain ⟨kvs, hd⟩ := hd
  exact b p _ (ne_of h hd (by intro z; cases z)) h
theorem But.tup {d p : Addr} {H H1 : Hp} {xs : List V} (b : But d H H1) (hd : ∃ kvs, H d = some (.dK kvs)) (h : H p = some (.tup xs)) : H1 p = some (.tup xs) := by
  obtain ⟨kvs, hd⟩ := hd
  exact b p _ (ne_of h hd (by intro z; cases z)) h
theorem But.ins {d p C : Addr} {H H1 : Hp} {dx : Addr} {fs : List (Str × V)} (b : But d H H1) (hd : ∃ kvs, H d = some (.dK kvs)) (h : H p = some (.ins C dx fs)) : H1 p = some (.ins C dx fs) := by
  obtain ⟨kvs, hd⟩ := hd
  exact b p _ (ne_of h hd (by intro z; cases z)) h
theorem But.seq {K : PySem.W.Frag} {d p : Addr} {H H1 : Hp} {xs : List V} (b : But d H H1) (hd : ∃ kvs, H d = some (.dK kvs)) (h : SqL K H p xs) : SqL K H1 p xs := by
  rcases h with (h | ⟨o, h⟩) | h
  · exact .inl (.inl (b.lst hd h))
  · obtain ⟨kvs, hd⟩ := hd
    exact .inl (.inr ⟨o, b p _ (ne_of h hd (by intro z; cases z)) h⟩)
  · exact .inr h
/-! ### tables -/
theorem mem_putK {κ : Type} [DecidableEq κ] {kvs : List (κ × V)} {k : κ} {v : V} {p : κ × V} (hn : (kvs.map (·.1)).Nodup) : p ∈ putK kvs k v ↔ (p = (k, v) ∨ (p.1 ≠ k ∧ p ∈ kvs)) := by
  unfold putK
  by_cases a : (kvs.any fun kv => decide (kv.1 = k)) = true
  · rw [if_pos a, List.mem_map]
    obtain ⟨q, hq, e⟩ := List.any_eq_true.mp a
    have e : q.1 = k := of_decide_eq_true e
    constructor
    · rintro ⟨r, hr, rfl⟩
      by_cases c : r.1 = k
      · rw [if_pos c, c]; exact .inl rfl
      · rw [if_neg c]; exact .inr ⟨c, hr⟩
    · rintro (rfl | ⟨h1, h2⟩)
      · exact ⟨q, hq, by rw [if_pos e, e]⟩
      · exact ⟨p, h2, by rw [if_neg h1]⟩
  · rw [if_neg a, List.mem_append, List.mem_singleton]
    have no : ∀ q ∈ kvs, q.1 ≠ k := fun q hq e => a (List.any_eq_true.mpr ⟨q, hq, decide_eq_true e⟩)
    constructor
    · rintro (h | h)
      · exact .inr ⟨no p h, h⟩
      · exact .inl h
    · rintro (h | ⟨_, h⟩)
      · exact .inr h
      · exact .inl h
theorem nodup_putK {κ : Type} [DecidableEq κ] {kvs : List (κ × V)} {k : κ} {v : V} (hn : (kvs.map (·.1)).Nodup) : ((putK kvs k v).map (·.1)).Nodup := by
  unfold putK
  by_cases a : (kvs.any fun kv => decide (kv.1 = k)) = true
  · rw [if_pos a, List.map_map]
    have e : ((fun x : κ × V => x.1) ∘ fun kv => if kv.1 = k then (kv.1, v) else kv) = fun x => x.1 := by
      funext x
      show (if x.1 = k then (x.1, v) else x).1 = x.1
      split <;> rfl
    rw [e]; exact hn
  · rw [if_neg a, List.map_append]
    refine List.nodup_append.mpr ⟨hn, List.Pairwise.cons (fun _ h => by cases h) List.Pairwise.nil, fun x hx y hy => ?_⟩
    obtain ⟨q, hq, rfl⟩ := List.mem_map.mp hx
    have : y = k := by simpa using hy
    subst this
    exact fun e => a (List.any_eq_true.mpr ⟨q, hq, decide_eq_true e⟩)
theorem mem_dropK {κ : Type} [DecidableEq κ] {kvs : List (κ × V)} {k : κ} {p : κ × V} : p ∈ dropK kvs k ↔ p ∈ kvs ∧ p.1 ≠ k := by
  unfold dropK
  rw [List.mem_filter, decide_eq_true_eq]
theorem nodup_dropK {κ : Type} [DecidableEq κ] {kvs : List (κ × V)} {k : κ} (hn : (kvs.map (·.1)).Nodup) : ((dropK kvs k).map (·.1)).Nodup := by
  unfold dropK
  exact hn.sublist (List.Sublist.map _ (List.filter_sublist))
theorem valV_mem {κ : Type} [DecidableEq κ] {kvs : List (κ × V)} {k : κ} {v : V} (h : valV kvs k = some v) : (k, v) ∈ kvs := by
  unfold valV at h
  obtain ⟨p, hp, rfl⟩ := Option.map_eq_some_iff.mp h
  have h1 := List.mem_of_find?_eq_some hp
  have h2 : p.1 = k := by simpa using List.find?_some hp
  rw [← h2]; exact h1
/-- a list without doubles whose all lie in another is no longer -/
theorem nodup_le {α : Type} [DecidableEq α] : ∀ {l m : List α}, l.Nodup → (∀ x ∈ l, x ∈ m) → l.length ≤ m.length
  | [], _, _, _ => Nat.zero_le _
  | x :: l, m, hn, hs => by
    obtain ⟨h1, h2⟩ := List.nodup_cons.mp hn
    have hx := hs x List.mem_cons_self
    have := nodup_le (l := l) (m := m.erase x) h2 fun y hy => (List.mem_erase_of_ne (fun e => h1 (by rw [← e]; exact hy))).mpr (hs y (List.mem_cons_of_mem _ hy))
    rw [List.length_erase_of_mem hx] at this
    have := List.length_pos_of_mem hx
    rw [List.length_cons]; omega
/-! ### a set of numbers -/
/-- the sacks of the numbers whose bits N has -/
def Sacks (c : Cs) (H : Hp) (kvs : List (Key × V)) (N : Nat) : Prop :=
  (kvs.map (·.1)).Nodup ∧ (∀ p ∈ kvs, ∃ (u : Nat) (s : Addr), p = (.inl (u : Int), .ref s) ∧ sl N u ≠ 0 ∧ SackK c H s (kdB (sl N u)) (sl N u)) ∧ ∀ u, sl N u ≠ 0 → ∃ v, ((.inl (u : Int) : Key), v) ∈ kvs
structure SetAt (c : Cs) (H : Hp) (a d : Addr) (N : Nat) : Prop where
  i : ∃ dx, H a = some (.ins c.set dx [("by_upper", .ref d)])
  ex : ∃ kvs, H d = some (.dK kvs) ∧ Sacks c H kvs N
  b : In24 N
theorem Sacks.ext {c : Cs} {H H' : Hp} {kvs : List (Key × V)} {N : Nat} (h : Sacks c H kvs N) (e : ∀ s k b, SackK c H s k b → SackK c H' s k b) : Sacks c H' kvs N :=
  ⟨h.1, fun p hp => by obtain ⟨u, s, a, b, d⟩ := h.2.1 p hp; exact ⟨u, s, a, b, e _ _ _ d⟩, h.2.2⟩
theorem SetAt.d {c : Cs} {H : Hp} {a d : Addr} {N : Nat} (h : SetAt c H a d N) : ∃ kvs, H d = some (.dK kvs) := by
  obtain ⟨kvs, h1, _⟩ := h.ex
  exact ⟨kvs, h1⟩
theorem SackK.but {c : Cs} {H H' : Hp} {s d : Addr} {k : Kd} {b : Nat} (h : SackK c H s k b) (e : But d H H') (hd : ∃ kvs, H d = some (.dK kvs)) : SackK c H' s k b := by
  obtain ⟨dx, h⟩ := h
  exact ⟨dx, e.ins hd h⟩
theorem SetAt.same {c : Cs} {H H' : Hp} {a d : Addr} {N : Nat} (h : SetAt c H a d N) (e : Same H H') : SetAt c H' a d N := by
  obtain ⟨dx, hi⟩ := h.i
  obtain ⟨kvs, h1, h2⟩ := h.ex
  exact ⟨⟨dx, e _ _ hi⟩, ⟨kvs, e _ _ h1, h2.ext fun _ _ _ q => q.same e⟩, h.b⟩
/-- another set stays -/
theorem SetAt.but {c : Cs} {H H' : Hp} {a d e : Addr} {N : Nat} (h : SetAt c H a d N) (b : But e H H') (he : ∃ kvs, H e = some (.dK kvs)) (ne : d ≠ e) : SetAt c H' a d N := by
  obtain ⟨dx, hi⟩ := h.i
  obtain ⟨kvs, h1, h2⟩ := h.ex
  exact ⟨⟨dx, b.ins he hi⟩, ⟨kvs, b _ _ ne h1, h2.ext fun _ _ _ q => q.but b he⟩, h.b⟩
section
variable {c : Cs} {H : Hp} {a d u : Nat} {N : Nat}
theorem SetAt.fld {G : GoodS c} {R : V → Prop} (h : SetAt c H a d N) (q : R (.ref d)) :
    ∃ x C dx fs v, V.ref a = .ref x ∧ H x = some (.ins C dx fs) ∧ Cls c.K C ∧ NoAttr c.K C "by_upper" ∧ fs.lookup ("by_upper" : Str) = some v ∧ R v := by
  obtain ⟨dx, h⟩ := h.i
  exact ⟨a, _, dx, _, _, rfl, h, G.cs, G.ns, lk1, q⟩
theorem SetAt.at {m : Str} {fam : Addr → Sp → Prop} {sp : Sp} {R : Sp → Prop} (h : SetAt c H a d N) (hf : fam c.set sp) (hm : (m == ("by_upper" : Str)) = false) (q : R sp) :
    ∃ x C dx fs sp, V.ref a = .ref x ∧ H x = some (.ins C dx fs) ∧ fam C sp ∧ fs.lookup m = none ∧ R sp := by
  obtain ⟨dx, h⟩ := h.i
  exact ⟨a, _, dx, _, sp, rfl, h, hf, lk0 hm, q⟩
theorem Sacks.val {kvs : List (Key × V)} (h : Sacks c H kvs N) (hu : sl N u ≠ 0) : ∃ s, valV kvs (.inl (u : Int)) = some (.ref s) ∧ SackK c H s (kdB (sl N u)) (sl N u) := by
  obtain ⟨h1, h2, h3⟩ := h
  obtain ⟨v, hv⟩ := h3 u hu
  obtain ⟨u', s, e, _, hs⟩ := h2 _ hv
  cases e
  exact ⟨s, val_nodup h1 _ hv, hs⟩
theorem Sacks.noval {kvs : List (Key × V)} (h : Sacks c H kvs N) (hu : sl N u = 0) : valV kvs (.inl (u : Int)) = none := by
  cases e : valV kvs (.inl (u : Int)) with
  | none => rfl
  | some v =>
    obtain ⟨u', s, e', hs, _⟩ := h.2.1 _ (valV_mem e)
    cases e'
    exact absurd hu hs
theorem SetAt.get (h : SetAt c H a d N) (hu : sl N u ≠ 0) : ∃ s, DGet H d (.int (u : Int)) (some (.ref s)) ∧ SackK c H s (kdB (sl N u)) (sl N u) := by
  obtain ⟨kvs, h1, h2⟩ := h.ex
  obtain ⟨s, e, hs⟩ := h2.val hu
  have := DGet.k (k := .inl (u : Int)) h1
  rw [e] at this
  exact ⟨s, this, hs⟩
theorem SetAt.noget (h : SetAt c H a d N) (hu : sl N u = 0) : DGet H d (.int (u : Int)) none := by
  obtain ⟨kvs, h1, h2⟩ := h.ex
  have := DGet.k (k := .inl (u : Int)) h1
  rw [h2.noval hu] at this
  exact this
theorem SetAt.putS {kvs : List (Key × V)} {s : Addr} {b : Nat} (h : SetAt c H a d N) (hd : H d = some (.dK kvs)) (hs : SackK c H s (kdB b) b) (h0 : 0 < b) (hb : b < 2 ^ 256) (hu : u < 65536) : SetAt c (upd H d (.dK (putK kvs (.inl (u : Int)) (.ref s)))) a d (setSl N u b) := by
  obtain ⟨dx, hi⟩ := h.i
  obtain ⟨kv2, h1, h2⟩ := h.ex
  cases h1.symm.trans hd
  have bt : But d H (upd H d (.dK (putK kvs (.inl (u : Int)) (.ref s)))) := But.upd
  refine ⟨⟨dx, bt.ins h.d hi⟩, ⟨_, upd_same, ?_⟩, h.b.set hu hb⟩
  obtain ⟨n1, n2, n3⟩ := h2
  refine ⟨nodup_putK n1, fun p hp => ?_, fun v hv => ?_⟩
  · rcases (mem_putK n1).mp hp with rfl | ⟨hne, hp⟩
    · exact ⟨u, s, rfl, by rw [setSl_sl hb, if_pos rfl]; omega, by rw [setSl_sl hb, if_pos rfl]; exact hs.but bt h.d⟩
    · obtain ⟨v, s', rfl, q1, q2⟩ := n2 p hp
      have nv : v ≠ u := fun e => hne (by rw [e])
      exact ⟨v, s', rfl, by rw [setSl_sl hb, if_neg nv]; exact q1, by rw [setSl_sl hb, if_neg nv]; exact q2.but bt h.d⟩
  · rw [setSl_sl hb] at hv
    by_cases e : v = u
    · subst e
      exact ⟨_, (mem_putK n1).mpr (.inl rfl)⟩
    · rw [if_neg e] at hv
      obtain ⟨w, hw⟩ := n3 v hv
      exact ⟨w, (mem_putK n1).mpr (.inr ⟨fun z => e (by have := Sum.inl.inj z; omega), hw⟩)⟩
theorem SetAt.dropS {kvs : List (Key × V)} (h : SetAt c H a d N) (hd : H d = some (.dK kvs)) (hu : u < 65536) : SetAt c (upd H d (.dK (dropK kvs (.inl (u : Int))))) a d (setSl N u 0) := by
  obtain ⟨dx, hi⟩ := h.i
  obtain ⟨kv2, h1, h2⟩ := h.ex
  cases h1.symm.trans hd
  have hb : 0 < 2 ^ 256 := Nat.two_pow_pos _
  have bt : But d H (upd H d (.dK (dropK kvs (.inl (u : Int))))) := But.upd
  refine ⟨⟨dx, bt.ins h.d hi⟩, ⟨_, upd_same, ?_⟩, h.b.set hu hb⟩
  obtain ⟨n1, n2, n3⟩ := h2
  refine ⟨nodup_dropK n1, fun p hp => ?_, fun v hv => ?_⟩
  · obtain ⟨hp, hne⟩ := mem_dropK.mp hp
    obtain ⟨v, s', rfl, q1, q2⟩ := n2 p hp
    have nv : v ≠ u := fun e => hne (by rw [e])
    exact ⟨v, s', rfl, by rw [setSl_sl hb, if_neg nv]; exact q1, by rw [setSl_sl hb, if_neg nv]; exact q2.but bt h.d⟩
  · rw [setSl_sl hb] at hv
    by_cases e : v = u
    · rw [if_pos e] at hv; exact absurd rfl hv
    · rw [if_neg e] at hv
      obtain ⟨w, hw⟩ := n3 v hv
      exact ⟨w, mem_dropK.mpr ⟨hw, fun z => e (by have := Sum.inl.inj z; omega)⟩⟩
/-- nothing there: nothing changes -/
theorem SetAt.noset (h : SetAt c H a d N) (hu : sl N u = 0) : SetAt c H a d (setSl N u 0) := by
  have e : setSl N u 0 = N := by
    unfold setSl; rw [hu]; simp
  rw [e]; exact h
end
/-! ### what a number is -/
def numV : V → Bool
  | .int i => decide (0 ≤ i) && decide (i ≤ 16777215)
  | _ => false
def sp_is_number (c : Cs) : Sp := fun vs H Q _ => ∃ x, vs = [x] ∧ Kn H x ∧ Q (.bl (numV x)) H
theorem len_is_number (c : Cs) : ∀ vs H Q E, sp_is_number c vs H Q E → vs.length = (["thing"] : List Str).length := by
  rintro vs H Q E ⟨x, rfl, _⟩; rfl
/-- is_number -/
def t_is_number (c : Cs) (E : XK) : TS :=
  tRet (tAndV (tCB (rIsiU c.K) (tCons (tVar 0) (tCons (tC (.ty "int")) (tNil)))) (tAndV (tNotV (tCB (rIsiU c.K) (tCons (tVar 0) (tCons (tC (.ty "bool")) (tNil))))) (tChain (rLe) (rLe) (tC (.int 0)) (tVar 0) (tC (.int 16777215)))))
theorem pure_is_number {c : Cs} (G : Good c) (vs : List V) (H : Hp) (Q : VK) (E : XK) (h : sp_is_number c vs H Q E) : t_is_number c E { nx := fun _ H' => Q .non H', rt := Q } (start ["thing"] vs) H := by
  obtain ⟨x, rfl, hk, hQ⟩ := h
  unfold t_is_number
  show tRet _ _ [some x] H
  walk_at "go"
  refine r_isi_kn_int hk ?_
  walk_at "go"
  refine if_b (fun z => ?_) (fun z => ?_)
  · walk_at "go"
    refine r_isi_kn_bool hk ?_
    walk_at "go"
    refine if_b (fun z2 => ?_) (fun z2 => ?_)
    · have e : isB x = false := by simpa using z2
      obtain ⟨n, rfl⟩ : ∃ n, x = .int n := by
        cases x <;> simp [isI, isB] at z e
        exact ⟨_, rfl⟩
      walk_at "go"
      refine if_d (fun z3 => ?_) (fun z3 => ?_)
      · walk_at "go"
        have e2 : numV (.int n) = decide (n ≤ 16777215) := by show (decide (0 ≤ n) && _) = _; rw [decide_eq_true z3, Bool.true_and]
        rw [← e2]; exact hQ
      · have e2 : numV (.int n) = false := by show (decide (0 ≤ n) && _) = _; rw [decide_eq_false z3, Bool.false_and]
        rw [e2] at hQ; exact hQ
    · have e : isB x = true := by simpa using z2
      have e2 : numV x = false := by cases x <;> simp [isB] at e <;> rfl
      rw [e2] at hQ; exact hQ
  · have e2 : numV x = false := by cases x <;> simp [isI] at z <;> rfl
    rw [e2] at hQ; exact hQ
def sp_need_number (c : Cs) : Sp := fun vs H Q E => ∃ x, vs = [x] ∧ Kn H x ∧ (numV x = true → Q .non H) ∧ (numV x = false → E (.ref c.eNoNumber) none H)
theorem len_need_number (c : Cs) : ∀ vs H Q E, sp_need_number c vs H Q E → vs.length = (["thing"] : List Str).length := by
  rintro vs H Q E ⟨x, rfl, _⟩; rfl
/-- need_number -/
def t_need_number (c : Cs) (E : XK) : TS :=
  tIfS (tNot (tB (tCall (sp_is_number c) [] E (tCons (tVar 0) (tNil))))) (fun _ σ H => E (.ref c.eNoNumber) none H) (tNext)
theorem pure_need_number {c : Cs} (G : Good c) (vs : List V) (H : Hp) (Q : VK) (E : XK) (h : sp_need_number c vs H Q E) : t_need_number c E { nx := fun _ H' => Q .non H', rt := Q } (start ["thing"] vs) H := by
  obtain ⟨x, rfl, hk, hQ, hE⟩ := h
  unfold t_need_number
  show tIfS _ _ _ _ [some x] H
  walk_at "go"
  refine ⟨x, rfl, hk, ?_⟩
  walk_at "go"
  refine if_b (fun z => ?_) (fun z => ?_)
  · exact hE (by simpa using z)
  · walk_at "go"
    exact hQ (by simpa using z)
theorem num_nat {x : V} (h : numV x = true) : ∃ n : Nat, x = .int (n : Int) ∧ n < 16777216 := by
  cases x <;> simp [numV] at h
  rename_i i
  exact ⟨i.toNat, by rw [Int.toNat_of_nonneg h.1], by omega⟩
theorem num_of {n : Nat} (h : n < 16777216) : numV (.int (n : Int)) = true := by simp [numV]; omega
/-! ### the methods of a set -/
def sp_NumberSet_bits_at (c : Cs) : Sp := fun vs H Q _ => ∃ (a d N u : Nat), vs = [.ref a, .int (u : Int)] ∧ SetAt c H a d N ∧ Q (.int (sl N u : Nat)) H
def fam_bits_at (c : Cs) (C : Addr) (sp : Sp) : Prop := C = c.set ∧ sp = sp_NumberSet_bits_at c
theorem len_NumberSet_bits_at (c : Cs) : ∀ vs H Q E, sp_NumberSet_bits_at c vs H Q E → vs.length = (["self", "upper"] : List Str).length := by
  rintro vs H Q E ⟨a, d, N, u, rfl, _⟩; rfl
/-- NumberSet.bits_at -/
def t_NumberSet_bits_at (c : Cs) (E : XK) : TS :=
  tSeq (tIfS (tB (tDIn (tVar 1) (tFld c.K (tVar 0) "by_upper"))) (tRet (tFld c.K (tDGet (tFld c.K (tVar 0) "by_upper") (tVar 1)) "bits")) (tNext))
    (tRet (tC (.int 0)))
theorem pure_NumberSet_bits_at {c : Cs} (G : GoodS c) (vs : List V) (H : Hp) (Q : VK) (E : XK) (h : sp_NumberSet_bits_at c vs H Q E) : t_NumberSet_bits_at c E { nx := fun _ H' => Q .non H', rt := Q } (start ["self", "upper"] vs) H := by
  obtain ⟨a, d, N, u, rfl, hs, hQ⟩ := h
  unfold t_NumberSet_bits_at
  show tSeq _ _ _ [some (.ref a), some (.int (u : Int))] H
  walk_at "go"
  refine hs.fld (G := G) ?_
  by_cases hu : sl N u = 0
  · refine ⟨d, none, rfl, hs.noget hu, ?_⟩
    walk_at "go"
    rw [hu] at hQ; exact hQ
  · obtain ⟨s, hg, hk⟩ := hs.get hu
    refine ⟨d, some (.ref s), rfl, hg, ?_⟩
    walk_at "go"
    refine if_t rfl ?_
    walk_at "go"
    refine hs.fld (G := G) ?_
    walk_at "go"
    refine ⟨d, .ref s, rfl, hg, ?_⟩
    exact hk.fld G.toGood hQ
def sp_NumberSet_set_bits (c : Cs) : Sp := fun vs H Q _ => ∃ (a d N u b : Nat), vs = [.ref a, .int (u : Int), .int (b : Int)] ∧ SetAt c H a d N ∧ u < 65536 ∧ b < 2 ^ 256 ∧
  ∀ H', But d H H' → SetAt c H' a d (setSl N u b) → Q (.int ((popc b : Int) - (popc (sl N u) : Int))) H'
def fam_set_bits (c : Cs) (C : Addr) (sp : Sp) : Prop := C = c.set ∧ sp = sp_NumberSet_set_bits c
theorem len_NumberSet_set_bits (c : Cs) : ∀ vs H Q E, sp_NumberSet_set_bits c vs H Q E → vs.length = (["self", "upper", "bits"] : List Str).length := by
  rintro vs H Q E ⟨a, d, N, u, b, rfl, _⟩; rfl
/-- NumberSet.set_bits -/
def t_NumberSet_set_bits (c : Cs) (E : XK) : TS :=
  tSeq (tAsg (tMethF (fam_bits_at c) "bits_at" [] E (tVar 0) (tCons (tVar 1) (tNil))) (gName 3))
    (tSeq (tAsg (tCall (sp_least_sack c) [] E (tCons (tVar 2) (tNil))) (gName 4))
    (tSeq (tIfS (tTest (tOp (rIsN) (tVar 4) (tC .non))) (tDrop (tDPop2 (tFld c.K (tVar 0) "by_upper") (tVar 1) (tC .non))) (sDPut (tFld c.K (tVar 0) "by_upper") (tVar 1) (tVar 4)))
    (tRet (tOp rSub (tCall (sp_count_of c) [] E (tCons (tVar 2) (tNil))) (tCall (sp_count_of c) [] E (tCons (tVar 3) (tNil)))))))
theorem pure_NumberSet_set_bits {c : Cs} (G : GoodS c) (vs : List V) (H : Hp) (Q : VK) (E : XK) (h : sp_NumberSet_set_bits c vs H Q E) : t_NumberSet_set_bits c E { nx := fun _ H' => Q .non H', rt := Q } (start ["self", "upper", "bits", "ahead", "sack"] vs) H := by
  obtain ⟨a, d, N, u, b, rfl, hs, hu, hb, hQ⟩ := h
  unfold t_NumberSet_set_bits
  show tSeq _ _ _ [some (.ref a), some (.int (u : Int)), some (.int (b : Int)), none, none] H
  walk_at "go"
  refine hs.at (m := "bits_at") (fam := fam_bits_at c) ⟨rfl, rfl⟩ (by decide +kernel) ?_
  walk_at "go"
  refine ⟨a, d, N, u, rfl, hs, ?_⟩
  walk_at "go"
  have fin : ∀ (v : Option V) (H1 : Hp), But d H H1 → SetAt c H1 a d (setSl N u b) → tRet (tOp rSub (tCall (sp_count_of c) [] E (tCons (tVar 2) (tNil))) (tCall (sp_count_of c) [] E (tCons (tVar 3) (tNil)))) { nx := fun _ H' => Q .non H', rt := Q } [some (.ref a), some (.int (u : Int)), some (.int (b : Int)), some (.int (sl N u : Nat)), v] H1 := by
    intro v H1 b1 s1
    walk_at "go"
    refine ⟨b, rfl, hb, fun H2 s2 => ?_⟩
    walk_at "go"
    refine ⟨sl N u, rfl, sl_lt _ _, fun H3 s3 => ?_⟩
    walk_at "go"
    exact hQ H3 ((b1.trans (But.of s2)).trans (But.of s3)) ((s1.same s2).same s3)
  refine ⟨b, rfl, hb, fun z => ?_, fun z x H1 s1 nx hx => ?_⟩
  · subst z
    walk_at "go"
    refine if_t (by simp) ?_
    walk_at "go"
    refine hs.fld (G := G) ?_
    obtain ⟨kvs, hd, hk⟩ := hs.ex
    refine ⟨d, rfl, .inl ⟨kvs, .inl hd⟩, ?_⟩
    walk_at "go"
    refine ⟨kvs, .inl (u : Int), hd, rfl, fun v hv => ?_, fun hv => ?_⟩
    · exact fin _ _ But.upd (hs.dropS hd hu)
    · refine fin _ _ (But.refl _ _) (hs.noset ?_)
      apply Classical.byContradiction
      intro hz
      obtain ⟨s, e, _⟩ := hk.val hz
      rw [hv] at e; cases e
  · walk_at "go"
    refine if_f (by simp) ?_
    walk_at "go"
    have hs1 := hs.same s1
    refine hs1.fld (G := G) ?_
    walk_at "go"
    obtain ⟨kvs, hd, hk⟩ := hs1.ex
    have hlen : kvs.length < sizeLine := sl5 (by
      have : kvs.length ≤ 65536 := by
        have n1 := hk.1
        have sub : ∀ k ∈ kvs.map (·.1), k ∈ (List.range 65536).map fun u : Nat => (Sum.inl (u : Int) : Key) := fun k hk' => by
          obtain ⟨p, hp, rfl⟩ := List.mem_map.mp hk'
          obtain ⟨v, s, rfl, h1, _⟩ := hk.2.1 p hp
          exact List.mem_map.mpr ⟨v, List.mem_range.mpr (hs1.b.up h1), rfl⟩
        have := nodup_le n1 sub
        rw [List.length_map, List.length_map, List.length_range] at this
        exact this
      omega)
    refine ⟨d, _, rfl, DPut.k (k := .inl (u : Int)) hd hlen, ?_⟩
    exact fin _ _ ((But.of s1).trans But.upd) (hs1.putS hd hx z hb hu)
/-! ### comprehensions over numbers -/
theorem range_get {α β : Type} {d : α} (f : α → β) : ∀ l : List α, (List.range l.length).map (fun i => f (l.getD i d)) = l.map f
  | [] => rfl
  | x :: l => by
    rw [List.length_cons, List.range_succ_eq_map, List.map_cons, List.map_map]
    exact congrArg (f x :: ·) (range_get f l)
theorem range_pick {α β : Type} {d : α} (p : α → Bool) (f : α → β) : ∀ l : List α, ((List.range l.length).filter (fun i => p (l.getD i d))).map (fun i => f (l.getD i d)) = (l.filter p).map f
  | [] => rfl
  | x :: l => by
    have ih := range_pick (d := d) p f l
    rw [List.length_cons, List.range_succ_eq_map, List.filter_cons, List.filter_map, List.filter_cons]
    have e : ((fun i => p ((x :: l).getD i d)) ∘ Nat.succ) = fun i => p (l.getD i d) := rfl
    rw [e]
    have e2 : (List.map Nat.succ (List.filter (fun i => p (l.getD i d)) (List.range l.length))).map (fun i => f ((x :: l).getD i d)) = (l.filter p).map f := by rw [List.map_map]; exact ih
    by_cases h : p x = true
    · rw [if_pos (show p ((x :: l).getD 0 d) = true from h), if_pos h, List.map_cons, List.map_cons, e2]; rfl
    · rw [if_neg (show ¬ p ((x :: l).getD 0 d) = true from h), if_neg h, e2]
theorem getD_of {α : Type} {l : List α} {i : Nat} {x d : α} (h : l[i]? = some x) : l.getD i d = x := by rw [List.getD_eq_getElem?_getD, h]; rfl
section
variable {K : PySem.W.Frag} {g : TG} {tt : TT} {te : TE} {vs : List Nat} {σ : L2.St} {H1 : Hp} {D : Addr} {Qd : Hp → Prop}
/-- numbers out of numbers -/
theorem lcI {a : Addr} {l : List Nat} (p : Nat → Bool) (f : Nat → Int) (nD : H1 D = none) (hx : SqL K H1 a ((nz l).map V.int)) (hl : l.length ≤ 99999)
    (hs : ∀ (x : Nat) (H : Hp) (Rk : VK) (Rs : Hp → Prop), x ∈ l → Same H1 H → (p x = true → ∀ H4, Same H H4 → Rk (.int (f x)) H4) → (p x = false → ∀ H3, Same H H3 → Rs H3) →
      g (.int (x : Int)) (wipe σ vs) H fun σ2 H2 => wipe σ2 vs = wipe σ vs ∧ tt σ2 H2 fun b H3 => if b = true then te σ2 H3 Rk else Rs H3)
    (hd : ∀ H, Same H1 H → H D = some (.lst (((l.filter p).map f).map V.int)) → Qd H) :
    ∃ W : Nat → Nat → Hp → Prop, (∃ m, W 0 m (upd H1 D (.lst []))) ∧ ∀ i m H, W i m H →
      ((Itl K a).stop i H ∧ Qd H) ∨ ((Itl K a).go i H ∧ ∃ Nx : Hp → Prop, (∀ H', Nx H' → ∃ m', m' < m ∧ W (i + 1) m' H') ∧ ∀ x H', (Itl K a).yld i H x H' → g x (wipe σ vs) H' fun σ2 H2 => wipe σ2 vs = wipe σ vs ∧ tt σ2 H2 fun b H3 =>
        if b = true then te σ2 H3 fun y H4 => ∃ acc, H4 D = some (.lst acc) ∧ acc.length < sizeLine ∧ Nx (upd H4 D (.lst (acc ++ [y]))) else Nx H3) := by
  refine lcL (K := K) (fun i => p (l.getD i 0)) (fun i => .int (f (l.getD i 0))) nD hx (by rw [nzv_len]; exact hl) (fun i x H Rk Rs hi s hk hn => ?_) (fun H acc s hD hf => ?_)
  · obtain ⟨m, hm, rfl⟩ := nz_get hi
    rw [getD_of hm] at hk hn
    exact hs m H Rk Rs (List.mem_of_getElem? hm) s (fun z H4 s4 => hk z _ H4 s4 (.int _)) hn
  · refine hd H s ?_
    have e : pickD (fun i => p (l.getD i 0)) (fun i => PyData.int (f (l.getD i 0))) ((nz l).map V.int).length = ((l.filter p).map f).map PyData.int := by
      rw [nzv_len, List.map_map]
      exact range_pick p (fun x => PyData.int (f x)) l
    rw [e] at hf
    rw [hD, hf.intsInv]
/-- over a dict's values -/
theorem lcV {d : Addr} {o : Obj} {kvs : List (Key × V)} (keep : Nat → Bool) (f : Nat → PyData) (nD : H1 D = none) (hx : H1 d = some (.frz o (.dK kvs))) (hl : kvs.length ≤ 99999)
    (hs : ∀ (i : Nat) (k : Key) (x : V) (H : Hp) (Rk : VK) (Rs : Hp → Prop), kvs[i]? = some (k, x) → Same H1 H → (keep i = true → ∀ y H4, Same H H4 → Fd K H H4 y (f i) → Rk y H4) → (keep i = false → ∀ H3, Same H H3 → Rs H3) →
      g x (wipe σ vs) H fun σ2 H2 => wipe σ2 vs = wipe σ vs ∧ tt σ2 H2 fun b H3 => if b = true then te σ2 H3 Rk else Rs H3)
    (hd : ∀ H acc, Same H1 H → H D = some (.lst acc) → Fds K H1 H acc (pickD keep f kvs.length) → Qd H) :
    ∃ W : Nat → Nat → Hp → Prop, (∃ m, W 0 m (upd H1 D (.lst []))) ∧ ∀ i m H, W i m H →
      ((Itd d o kvs).stop i H ∧ Qd H) ∨ ((Itd d o kvs).go i H ∧ ∃ Nx : Hp → Prop, (∀ H', Nx H' → ∃ m', m' < m ∧ W (i + 1) m' H') ∧ ∀ x H', (Itd d o kvs).yld i H x H' → g x (wipe σ vs) H' fun σ2 H2 => wipe σ2 vs = wipe σ vs ∧ tt σ2 H2 fun b H3 =>
        if b = true then te σ2 H3 fun y H4 => ∃ acc, H4 D = some (.lst acc) ∧ acc.length < sizeLine ∧ Nx (upd H4 D (.lst (acc ++ [y]))) else Nx H3) := by
  refine ⟨fun i m H => m = kvs.length - i ∧ i ≤ kvs.length ∧ LcInv K H1 D keep f i H, ⟨kvs.length, rfl, Nat.zero_le _, lcInv0 nD⟩, ?_⟩
  rintro i m H ⟨rfl, hi, P⟩
  have hf : H d = some (.frz o (.dK kvs)) := P.choose_spec.1 _ _ hx
  by_cases c : i < kvs.length
  · refine .inr ⟨⟨hf, c⟩, LcInv K H1 D keep f (i + 1), fun H' p => ⟨_, by omega, rfl, c, p⟩, ?_⟩
    rintro x H' ⟨rfl, k, hk⟩
    exact hs i k x H' _ _ hk P.choose_spec.1 (fun hk y H4 s hy => lcInv_keep nD P hk s hy (by omega)) fun hk H3 s => lcInv_skip P hk s
  · have e : i = kvs.length := by omega
    subst e
    obtain ⟨acc, s, h, dom, hfd⟩ := P
    exact .inl ⟨⟨hf, Nat.le_refl _⟩, hd H acc s h (hfd.left fun b q => (new_of nD rfl).2.2 b q)⟩
end
/-- a lock comes off -/
theorem unlock {H H' : Hp} {d : Addr} {u f : HO} (h : H d = some u) (s : Same (upd H d f) H') : Same H (upd H' d u) := by
  intro p o hp
  by_cases c : p = d
  · subst c
    rw [upd_same, ← hp, h]
  · rw [upd_ne c]
    exact s p o (by rw [upd_ne c]; exact hp)
theorem lock_ins {c : Cs} {H : Hp} {d s : Addr} {k : Kd} {b : Nat} {f : HO} {kvs : List (Key × V)} (h : SackK c H s k b) (hd : H d = some (.dK kvs)) : SackK c (upd H d f) s k b := by
  obtain ⟨dx, h⟩ := h
  exact ⟨dx, by rw [upd_ne (ne_of h hd (by intro z; cases z))]; exact h⟩
/-! ### the upper parts, rising -/
def keyI : Key → Int
  | .inl i => i
  | .inr _ => 0
theorem Sacks.keys {c : Cs} {H : Hp} {kvs : List (Key × V)} {N : Nat} (h : Sacks c H kvs N) : kvs.map (·.1) = (kvs.map fun p => keyI p.1).map Sum.inl := by
  rw [List.map_map]
  apply List.map_congr_left
  intro p hp
  obtain ⟨u, s, rfl, _⟩ := h.2.1 p hp
  rfl
theorem Sacks.nat {c : Cs} {H : Hp} {kvs : List (Key × V)} {N : Nat} (h : Sacks c H kvs N) : (kvs.map fun p => keyI p.1) = nz (kvs.map fun p => (keyI p.1).toNat) := by
  unfold nz
  rw [List.map_map]
  apply List.map_congr_left
  intro p hp
  obtain ⟨u, s, rfl, _⟩ := h.2.1 p hp
  rfl
theorem Sacks.perm {c : Cs} {H : Hp} {kvs : List (Key × V)} {N : Nat} (h : Sacks c H kvs N) (hb : In24 N) : (kvs.map fun p => (keyI p.1).toNat).Perm (upsOf N) := by
  have hn : (kvs.map fun p => (keyI p.1).toNat).Nodup := by
    have h1 := h.1
    rw [h.keys, h.nat] at h1
    unfold nz at h1
    rw [List.map_map] at h1
    exact List.Pairwise.imp (fun hne e => hne (congrArg _ e)) (List.pairwise_map.mp h1)
  refine (List.perm_ext_iff_of_nodup hn ((ups_sorted N).imp fun h => Nat.ne_of_lt h)).mpr fun u => ?_
  rw [mem_ups hb, List.mem_map]
  constructor
  · rintro ⟨p, hp, rfl⟩
    obtain ⟨u, s, rfl, hu, _⟩ := h.2.1 p hp
    exact hu
  · intro hu
    obtain ⟨v, hv⟩ := h.2.2 u hu
    exact ⟨_, hv, by simp [keyI]⟩
theorem sorted_ups {N : Nat} {l : List Nat} {ys : List Int} (hp : l.Perm (upsOf N)) (h1 : ys.Perm (nz l)) (h2 : ys.Pairwise (· ≤ ·)) : ys = nz (upsOf N) := by
  have p : ys.Perm (nz (upsOf N)) := h1.trans (by unfold nz; exact hp.map _)
  refine p.eq_of_pairwise (le := (· ≤ ·)) (fun a b _ _ x y => Int.le_antisymm x y) h2 ?_
  unfold nz
  rw [List.pairwise_map]
  exact (ups_sorted N).imp fun h => by omega
theorem Sacks.len {c : Cs} {H : Hp} {kvs : List (Key × V)} {N : Nat} (h : Sacks c H kvs N) (hb : In24 N) : kvs.length ≤ 65536 := by
  have := (h.perm hb).length_eq
  rw [List.length_map] at this
  rw [this]; exact ups_len N
def sp_NumberSet_uppers (c : Cs) : Sp := fun vs H Q _ => ∃ (a d N : Nat), vs = [.ref a] ∧ SetAt c H a d N ∧ ∀ (p : Addr) (H' : Hp), Same H H' → H p = none → H' p = some (.lst ((nz (upsOf N)).map V.int)) → Q (.ref p) H'
def fam_uppers (c : Cs) (C : Addr) (sp : Sp) : Prop := C = c.set ∧ sp = sp_NumberSet_uppers c
theorem len_NumberSet_uppers (c : Cs) : ∀ vs H Q E, sp_NumberSet_uppers c vs H Q E → vs.length = (["self"] : List Str).length := by
  rintro vs H Q E ⟨a, d, N, rfl, _⟩; rfl
/-- NumberSet.uppers -/
def t_NumberSet_uppers (c : Cs) (E : XK) : TS :=
  tRet (tCB (rSortedU c.K) (tCons (tFld c.K (tVar 0) "by_upper") (tNil)))
theorem pure_NumberSet_uppers {c : Cs} (G : GoodS c) (vs : List V) (H : Hp) (Q : VK) (E : XK) (h : sp_NumberSet_uppers c vs H Q E) : t_NumberSet_uppers c E { nx := fun _ H' => Q .non H', rt := Q } (start ["self"] vs) H := by
  obtain ⟨a, d, N, rfl, hs, hQ⟩ := h
  unfold t_NumberSet_uppers
  show tRet _ _ [some (.ref a)] H
  walk_at "go"
  refine hs.fld (G := G) ?_
  walk_at "go"
  obtain ⟨kvs, hd, hk⟩ := hs.ex
  refine .inl ⟨d, kvs, _, rfl, .inl hd, hk.keys, fun ys p h1 h2 np => ?_⟩
  rw [hk.nat] at h1
  rw [sorted_ups (hk.perm hs.b) h1 h2]
  generalize e : upd H p _ = H1
  obtain ⟨s1, hp, _⟩ := new_of np e
  exact hQ p H1 s1 np hp
/-! ### one number put in, taken out -/
theorem popc_bit {b i : Nat} : popc (b ||| 2 ^ i) = popc b + if b.testBit i = true then 0 else 1 := by
  have p1 : popc (2 ^ i) = 1 := by
    have e : bitsOf (2 ^ i) = [i] := by
      refine sorted_ext (bitsOf_sorted _) (List.Pairwise.cons (fun _ h => by cases h) List.Pairwise.nil) fun x => ?_
      rw [mem_bitsOf, Nat.testBit_two_pow, decide_eq_true_eq, List.mem_singleton]
      exact ⟨fun h => h.symm, fun h => h.symm⟩
    unfold popc; rw [e]; rfl
  by_cases h : b.testBit i = true
  · rw [if_pos h]
    have : b ||| 2 ^ i = b := by
      apply Nat.eq_of_testBit_eq
      intro j
      rw [Nat.testBit_or, Nat.testBit_two_pow]
      by_cases c : i = j
      · subst c; rw [h]; simp
      · rw [decide_eq_false c]; simp
    rw [this]; rfl
  · rw [if_neg h, popc_or, p1]
    intro j hj
    rw [Nat.testBit_two_pow]
    exact decide_eq_false fun e => h (e ▸ hj)
theorem divmod256 {n : Nat} : (n : Int) / 256 = ((n / 256 : Nat) : Int) ∧ (n : Int) % 256 = ((n % 256 : Nat) : Int) := ⟨by omega, by omega⟩
theorem one_shl' (k : Nat) : (1 : Int) * 2 ^ ((k : Nat) : Int).toNat = ((2 ^ k : Nat) : Int) := by rw [Int.one_mul, Int.toNat_natCast, Int.natCast_pow]; rfl
def sp_NumberSet_put (c : Cs) : Sp := fun vs H Q E => ∃ (a d N : Nat) (x : V), vs = [.ref a, x] ∧ SetAt c H a d N ∧ Kn H x ∧
  (∀ (n : Nat) (H' : Hp), x = .int (n : Int) → n < 16777216 → But d H H' → SetAt c H' a d (N ||| 2 ^ n) → Q (.bl (!N.testBit n)) H') ∧ (numV x = false → E (.ref c.eNoNumber) none H)
def fam_put (c : Cs) (C : Addr) (sp : Sp) : Prop := C = c.set ∧ sp = sp_NumberSet_put c
theorem len_NumberSet_put (c : Cs) : ∀ vs H Q E, sp_NumberSet_put c vs H Q E → vs.length = (["self", "number"] : List Str).length := by
  rintro vs H Q E ⟨a, d, N, x, rfl, _⟩; rfl
/-- NumberSet.put -/
def t_NumberSet_put (c : Cs) (E : XK) : TS :=
  tSeq (tDrop (tCall (sp_need_number c) [] E (tCons (tVar 1) (tNil))))
    (tSeq (tAsg (tCB (rDivmod) (tCons (tVar 1) (tCons (tC (.int 256)) (tNil)))) (gTup c.K 2 (gCons (gName 2) (gCons (gName 3) (gNil)))))
    (tRet (tOp (rEqu c.K) (tMethF (fam_set_bits c) "set_bits" [] E (tVar 0) (tCons (tVar 2) (tCons (tOp rBor (tMethF (fam_bits_at c) "bits_at" [] E (tVar 0) (tCons (tVar 2) (tNil))) (tOp rShl (tC (.int 1)) (tVar 3))) (tNil)))) (tC (.int 1)))))
theorem pure_NumberSet_put {c : Cs} (G : GoodS c) (vs : List V) (H : Hp) (Q : VK) (E : XK) (h : sp_NumberSet_put c vs H Q E) : t_NumberSet_put c E { nx := fun _ H' => Q .non H', rt := Q } (start ["self", "number", "upper", "low"] vs) H := by
  obtain ⟨a, d, N, x, rfl, hs, hk, hQ, hE⟩ := h
  unfold t_NumberSet_put
  show tSeq _ _ _ [some (.ref a), some x, none, none] H
  walk_at "go"
  refine ⟨x, rfl, hk, fun z => ?_, hE⟩
  obtain ⟨n, rfl, hn⟩ := num_nat z
  walk_at "go"
  refine ⟨_, _, rfl, ⟨by omega, by omega⟩, ?_⟩
  intro t nt
  generalize et : upd H t _ = H1
  obtain ⟨sH1, ht, dH1⟩ := new_of nt et
  walk_at "go"
  refine ⟨t, _, rfl, SqT.of ht, rfl, ?_⟩
  walk_at "go"
  rw [divmod256.1, divmod256.2]
  have hs1 := hs.same sH1
  refine hs1.at (m := "set_bits") (fam := fam_set_bits c) ⟨rfl, rfl⟩ (by decide +kernel) ?_
  walk_at "go"
  refine hs1.at (m := "bits_at") (fam := fam_bits_at c) ⟨rfl, rfl⟩ (by decide +kernel) ?_
  walk_at "go"
  refine ⟨a, d, N, _, rfl, hs1, ?_⟩
  walk_at "go"
  rw [one_shl', or_cast]
  have hb : sl N (n / 256) ||| 2 ^ (n % 256) < 2 ^ 256 := Nat.or_lt_two_pow (sl_lt _ _) (Nat.pow_lt_pow_right (by decide) (by omega))
  refine ⟨a, d, N, _, _, rfl, hs1, by omega, hb, fun H2 b2 s2 => ?_⟩
  walk_at "go"
  rw [setSl_or] at s2
  have e : decide ((popc (sl N (n / 256) ||| 2 ^ (n % 256)) : Int) - (popc (sl N (n / 256)) : Int) = 1) = !N.testBit n := by
    have q : (sl N (n / 256)).testBit (n % 256) = N.testBit n := by
      rw [sl_bit, decide_eq_true (show n % 256 < 256 by omega), Bool.true_and]
      congr 1; omega
    rw [popc_bit, q]
    cases N.testBit n
    · exact decide_eq_true (by simp; omega)
    · exact decide_eq_false (by simp)
  rw [e]
  exact hQ n H2 rfl hn ((But.of sH1).trans b2) s2
/-! ### a set is made -/
def NumsAt (K : PySem.W.Frag) (H : Hp) (nums : V) (xs : List V) : Prop := (nums = .non ∧ xs = []) ∨ ∃ p, nums = .ref p ∧ (SqL K H p xs ∨ SqT K H p xs)
theorem NumsAt.same {K : PySem.W.Frag} {H H' : Hp} {nums : V} {xs : List V} (h : NumsAt K H nums xs) (s : Same H H') : NumsAt K H' nums xs := by
  rcases h with h | ⟨p, e, h | h⟩
  · exact .inl h
  · exact .inr ⟨p, e, .inl (s.seq h)⟩
  · exact .inr ⟨p, e, .inr (s.tup h)⟩
theorem But.sqt {K : PySem.W.Frag} {d p : Addr} {H H1 : Hp} {xs : List V} (b : But d H H1) (hd : ∃ o, H d = some o ∧ ¬ (∃ q o', o = .frz o' (.tup q)) ∧ ∀ q, o ≠ .tup q) (h : SqT K H p xs) : SqT K H1 p xs := by
  obtain ⟨o, hd, n1, n2⟩ := hd
  rcases h with (h | ⟨o', h⟩) | h
  · exact .inl (.inl (b p _ (ne_of h hd (fun e => n2 _ e.symm)) h))
  · exact .inl (.inr ⟨o', b p _ (ne_of h hd (fun e => n1 ⟨_, _, e.symm⟩)) h⟩)
  · exact .inr h
theorem But.tupd {K : PySem.W.Frag} {d p : Addr} {H H1 : Hp} {xs : List V} (b : But d H H1) (hd : ∃ kvs, H d = some (.dK kvs)) (h : SqT K H p xs) : SqT K H1 p xs := by
  obtain ⟨kvs, hd⟩ := hd
  exact b.sqt ⟨_, hd, (fun ⟨_, _, e⟩ => by cases e), fun _ e => by cases e⟩ h
theorem for_nums {K : PySem.W.Frag} {σ : L2.St} {H1 : Hp} {nums : V} {xs : List V} {tb : TS} {D : Ends} {d : Addr} (hσ : σ[1]? = some (some nums)) (hn : NumsAt K H1 nums xs) (hd : ∃ kvs, H1 d = some (.dK kvs)) (P : Hp → Nat → L2.St → Hp → Prop)
    (h0 : ∀ H2, Same H1 H2 → P H2 0 σ H2) (hl : ∀ H2, Same H1 H2 → ∀ i σ H, P H2 i σ H → But d H2 H)
    (hs : ∀ H2, Same H1 H2 → ∀ i x σ H, xs[i]? = some x → P H2 i σ H → gName 2 x σ H fun σ2 H3 => tb { D with nx := P H2 (i + 1), ct := P H2 (i + 1), bk := D.nx } σ2 H3)
    (hdn : ∀ H2, Same H1 H2 → ∀ σ H, P H2 xs.length σ H → D.nx σ H) : tFor (iSeq K (tOrT K (tVar 1) (tTup (tNil)))) (gName 2) tb D σ H1 := by
  -- an empty row
  have empty : xs = [] → ∀ p, H1 p = none → iTup K (fun _ H Q => Q (.ref p) H) σ (upd H1 p (.tup [])) fun J H1 => ∃ W : Nat → Nat → L2.St → Hp → Prop, (∃ m, W 0 m σ H1) ∧ ∀ i m σ H, W i m σ H →
      (J.stop i H ∧ D.nx σ H) ∨ (J.go i H ∧ ∃ N : L2.St → Hp → Prop, (∀ σ' H', N σ' H' → ∃ m', m' < m ∧ W (i + 1) m' σ' H') ∧ ∀ x H', J.yld i H x H' → gName 2 x σ H' fun σ2 H2 => tb { D with nx := N, ct := N, bk := D.nx } σ2 H2) := by
    intro e p np
    subst e
    obtain ⟨s, hp, _⟩ := new_of np rfl
    refine ⟨p, rfl, ⟨[], SqT.of hp⟩, for_tup (K := K) (a := p) (xs := []) (P (upd H1 p (.tup []))) (h0 _ s) (fun i σ H _ h => ?_) (fun i x σ H hi => by simp at hi) (hdn _ s)⟩
    obtain ⟨kvs, hd⟩ := hd
    exact (hl _ s i σ H h).tupd ⟨kvs, s _ _ hd⟩ (SqT.of hp)
  by_cases e : xs = []
  · refine .inr (.inl ?_)
    show iTup K _ σ H1 _
    refine ⟨nums, hσ, false, ?_, ?_⟩
    · rcases hn with ⟨rfl, _⟩ | ⟨p, rfl, h | h⟩
      · rfl
      · exact .inl ⟨xs, h, by rw [e]; rfl⟩
      · exact .inr (.inl ⟨xs, h, by rw [e]; rfl⟩)
    · rw [if_neg (by simp)]
      exact ⟨sz5 (by simp), fun p np => empty e p np⟩
  · have ne : (!xs.isEmpty) = true := by cases xs with
      | nil => exact absurd rfl e
      | cons _ _ => rfl
    rcases hn with ⟨_, e2⟩ | ⟨p, rfl, h | h⟩
    · exact absurd e2 e
    · refine .inl ?_
      refine ⟨.ref p, hσ, true, .inl ⟨xs, h, ne.symm⟩, ?_⟩
      rw [if_pos rfl]
      exact ⟨p, rfl, ⟨xs, h⟩, for_list (K := K) (a := p) (xs := xs) (P H1) (h0 _ (Same.refl _)) (fun i σ H _ q => (hl _ (Same.refl _) i σ H q).seq hd h) (hs _ (Same.refl _)) (hdn _ (Same.refl _))⟩
    · refine .inr (.inl ?_)
      refine ⟨.ref p, hσ, true, .inr (.inl ⟨xs, h, ne.symm⟩), ?_⟩
      rw [if_pos rfl]
      exact ⟨p, rfl, ⟨xs, h⟩, for_tup (K := K) (a := p) (xs := xs) (P H1) (h0 _ (Same.refl _)) (fun i σ H _ q => (hl _ (Same.refl _) i σ H q).tupd hd h) (hs _ (Same.refl _)) (hdn _ (Same.refl _))⟩
def sp_NumberSet___init__ (c : Cs) : Sp := fun vs H Q E => ∃ (x dx : Addr) (nums : V) (xs : List V), vs = [.ref x, nums] ∧ H x = some (.ins c.set dx []) ∧ NumsAt c.K H nums xs ∧ (∀ y ∈ xs, Kn H y) ∧
  ((∀ y ∈ xs, numV y = true) → ∀ (d : Addr) (H' : Hp), H d = none → But x H H' → SetAt c H' x d (orV xs) → Q .non H') ∧ ((∃ y ∈ xs, numV y = false) → ∀ H', But x H H' → E (.ref c.eNoNumber) none H')
theorem len_NumberSet___init__ (c : Cs) : ∀ vs H Q E, sp_NumberSet___init__ c vs H Q E → vs.length = (["self", "numbers"] : List Str).length := by
  rintro vs H Q E ⟨x, dx, nums, xs, rfl, _⟩; rfl
/-- NumberSet.__init__ -/
def t_NumberSet___init__ (c : Cs) (E : XK) : TS :=
  tSeq (sFld c.K (tVar 0) (tDNewK) "by_upper")
    (tSeq (tFor (iSeq c.K (tOrT c.K (tVar 1) (tTup (tNil)))) (gName 2) (tDrop (tCall (sp_need_number c) [] E (tCons (tVar 2) (tNil)))))
    (tFor (iSeq c.K (tOrT c.K (tVar 1) (tTup (tNil)))) (gName 2) (tDrop (tMethF (fam_put c) "put" [] E (tVar 0) (tCons (tVar 2) (tNil))))))
theorem Kn.but {d : Addr} {H H' : Hp} {x : V} (k : Kn H x) (b : But d H H') (hd : ∀ x, H d = some x → (∀ q, x ≠ .tup q) ∧ (∀ q, x ≠ .lst q) ∧ ∀ q, x ≠ .dK q) : Kn H' x := by
  cases k with
  | non => exact .non
  | bl b => exact .bl b
  | int i => exact .int i
  | str x => exact .str x
  | tup h => exact .tup (b _ _ (fun e => (hd _ (e ▸ h)).1 _ rfl) h)
  | lst h => exact .lst (b _ _ (fun e => (hd _ (e ▸ h)).2.1 _ rfl) h)
  | dK h => exact .dK (b _ _ (fun e => (hd _ (e ▸ h)).2.2 _ rfl) h)
theorem pure_NumberSet___init__ {c : Cs} (G : GoodS c) (vs : List V) (H : Hp) (Q : VK) (E : XK) (h : sp_NumberSet___init__ c vs H Q E) : t_NumberSet___init__ c E { nx := fun _ H' => Q .non H', rt := Q } (start ["self", "numbers", "number"] vs) H := by
  obtain ⟨x, dx, nums, xs, rfl, hx, hn, hk, hQ, hE⟩ := h
  unfold t_NumberSet___init__
  show tSeq _ _ _ [some (.ref x), some nums, none] H
  walk_at "go"
  intro d nd
  walk_at "go"
  obtain ⟨s1, hd1, _⟩ := new_of (o := .dK []) nd rfl
  generalize upd H d (.dK []) = H1 at s1 hd1
  have hx1 := s1 _ _ hx
  have ndx : d ≠ x := ne_of hd1 hx1 (by intro z; cases z)
  refine ⟨x, _, dx, [], rfl, hx1, G.cs, G.ns, by decide, ?_⟩
  have bx : But x H1 (upd H1 x (.ins c.set dx [("by_upper", .ref d)])) := But.upd
  have hx2 : upd H1 x (.ins c.set dx [("by_upper", .ref d)]) x = some (.ins c.set dx [("by_upper", .ref d)]) := upd_same
  have insx : ∀ o, H x = some o → (∀ q, o ≠ .tup q) ∧ (∀ q, o ≠ .lst q) ∧ ∀ q, o ≠ .dK q := fun o h => by
    rw [hx] at h; cases h
    exact ⟨fun _ e => (by cases e), fun _ e => (by cases e), fun _ e => (by cases e)⟩
  show tSeq _ _ _ _ (upd H1 x (.ins c.set dx [("by_upper", .ref d)]))
  generalize upd H1 x (.ins c.set dx [("by_upper", .ref d)]) = H2 at bx hx2
  have b2 : But x H H2 := (But.of s1).trans bx
  have hd2 : H2 d = some (.dK []) := bx _ _ ndx hd1
  have s0 : SetAt c H2 x d 0 := ⟨⟨dx, hx2⟩, ⟨[], hd2, List.Pairwise.nil, fun p hp => (by cases hp), fun u hu => absurd (sl_zero u) hu⟩, in24_zero⟩
  have hk2 : ∀ y ∈ xs, Kn H2 y := fun y hy => (hk y hy).but b2 insx
  have hn2 : NumsAt c.K H2 nums xs := by
    rcases hn with h | ⟨p, e, h | h⟩
    · exact .inl h
    · refine .inr ⟨p, e, .inl ?_⟩
      rcases h with (h | ⟨o, h⟩) | h
      · exact .inl (.inl (b2 p _ (ne_of h hx (by intro z; cases z)) h))
      · exact .inl (.inr ⟨o, b2 p _ (ne_of h hx (by intro z; cases z)) h⟩)
      · exact .inr h
    · exact .inr ⟨p, e, .inr (b2.sqt ⟨_, hx, (fun ⟨_, _, e⟩ => by cases e), fun _ e => by cases e⟩ h)⟩
  walk_at "go"
  refine for_nums (d := d) rfl hn2 ⟨_, hd2⟩ (fun H3 i σ H4 => H4 = H3 ∧ ∃ v, σ = [some (.ref x), some nums, v] ∧ ∀ y ∈ xs.take i, numV y = true) (fun H3 _ => ⟨rfl, none, rfl, fun y hy => by simp at hy⟩) (fun H3 _ i σ H4 ⟨e, _⟩ => by rw [e]; exact But.refl _ _) ?_ ?_
  · rintro H3 s3 i y σ H4 hi ⟨rfl, v, rfl, hall⟩
    have hy : y ∈ xs := List.mem_of_getElem? hi
    walk_at "go"
    refine ⟨y, rfl, (hk2 y hy).same s3, fun z => ?_, fun z => ?_⟩
    · walk_at "go"
      refine ⟨rfl, _, rfl, fun u hu => ?_⟩
      rw [take_more hi] at hu
      rcases List.mem_append.mp hu with hu | hu
      · exact hall u hu
      · have : u = y := by simpa using hu
        exact this ▸ z
    · exact hE ⟨y, hy, z⟩ _ (b2.trans (But.of s3))
  · rintro H3 s3 σ H4 ⟨rfl, v, rfl, hall⟩
    rw [List.take_length] at hall
    have s03 := s0.same s3
    dsimp only
    refine for_nums (d := d) rfl (hn2.same s3) s03.d (fun H5 i σ H6 => But d H5 H6 ∧ SetAt c H6 x d (orV (xs.take i)) ∧ ∃ v, σ = [some (.ref x), some nums, v]) (fun H5 s5 => ⟨But.refl _ _, s03.same s5, v, rfl⟩) (fun H5 _ i σ H6 h => h.1) ?_ ?_
    · rintro H5 s5 i y σ H6 hi ⟨b6, s6, v, rfl⟩
      have hy : y ∈ xs := List.mem_of_getElem? hi
      obtain ⟨n, rfl, hn⟩ := num_nat (hall y hy)
      walk_at "go"
      refine s6.at (m := "put") (fam := fam_put c) ⟨rfl, rfl⟩ (by decide +kernel) ?_
      walk_at "go"
      refine ⟨x, d, _, _, rfl, s6, .int _, fun m H7 em hm b7 s7 => ?_, fun z => by rw [num_of hn] at z; cases z⟩
      have em : m = n := by
        have := V.int.inj em
        omega
      subst em
      walk_at "go"
      refine ⟨b6.trans b7, ?_, _, rfl⟩
      rw [take_more hi, orV_snoc]
      exact s7
    · rintro H5 s5 σ H6 ⟨b6, s6, v, rfl⟩
      rw [List.take_length] at s6
      have bb : But x H H6 := by
        intro p o np hp
        have q := ((b2.trans (But.of s3)).trans (But.of s5)) p o np hp
        exact b6 p o (fun e => by rw [e, nd] at hp; cases hp) q
      exact hQ hall d H6 nd bb s6
/-- behind NumberSet(..) -/
theorem mk_set {c : Cs} {H1 : Hp} {args dvs : List V} {nums : V} {xs : List V} {Q : Addr → Hp → Prop} {E : XK} (ha : args ++ dvs = [nums]) (hn : NumsAt c.K H1 nums xs) (hk : ∀ y ∈ xs, Kn H1 y)
    (q : (∀ y ∈ xs, numV y = true) → ∀ (x d : Addr) (H2 : Hp), H1 x = none → H1 d = none → Same H1 H2 → SetAt c H2 x d (orV xs) → Q x H2) (e : (∃ y ∈ xs, numV y = false) → ∀ H2, Same H1 H2 → E (.ref c.eNoNumber) none H2) :
    ∀ x dx, H1 x = none → H1 dx = none → dx ≠ x → sp_NumberSet___init__ c (.ref x :: (args ++ dvs)) (upd (upd H1 dx (.own x)) x (.ins c.set dx [])) (fun v H2 => v = .non ∧ Q x H2) E := by
  intro x dx nx ndx ne
  rw [ha]
  have s1 : Same H1 (upd (upd H1 dx (.own x)) x (.ins c.set dx [])) := by
    intro a o h
    rw [upd_ne (ne_of_none h nx), upd_ne (ne_of_none h ndx)]
    exact h
  have sx : ∀ {H2 : Hp}, But x (upd (upd H1 dx (.own x)) x (.ins c.set dx [])) H2 → Same H1 H2 := fun b a o h => b a o (ne_of_none h nx) (s1 a o h)
  exact ⟨x, dx, nums, xs, rfl, upd_same, hn.same s1, fun y hy => (hk y hy).same s1, fun h d H2 nd b s => ⟨rfl, q h x d H2 nx (s1.free nd) (sx b) s⟩, fun h H2 b => e h H2 (sx b)⟩
/-! ### the sacks -/
/-! ### all numbers between two -/
def between (m n : Nat) (x : Nat) : Bool := decide (m ≤ x) && decide (x ≤ n)
theorem flat_le {N : Nat} {l : List Nat} (h : In24 N) (hs : l.Sublist (upsOf N)) : (flat N l).length ≤ popc N := by
  refine nodup_le ((flat_sorted ((ups_sorted N).sublist hs)).imp fun h => Nat.ne_of_lt h) fun x hx => ?_
  exact mem_bitsOf.mpr (mem_flat.mp hx).2
/-! ### how many numbers -/
def sp_NumberSet_count (c : Cs) : Sp := fun vs H Q _ => ∃ (a d N : Nat), vs = [.ref a] ∧ SetAt c H a d N ∧ ∀ H', Same H H' → Q (.int (popc N : Nat)) H'
def fam_countS (c : Cs) (C : Addr) (sp : Sp) : Prop := C = c.set ∧ sp = sp_NumberSet_count c
def fam_count (c : Cs) (C : Addr) (sp : Sp) : Prop := ∃ k, C = c.kd k ∧ sp = sp_Sack_count c
theorem len_NumberSet_count (c : Cs) : ∀ vs H Q E, sp_NumberSet_count c vs H Q E → vs.length = (["self"] : List Str).length := by
  rintro vs H Q E ⟨a, d, N, rfl, _⟩; rfl
/-- NumberSet.count -/
def t_NumberSet_count (c : Cs) (E : XK) : TS :=
  tRet (tCB (rSum c.K) (tCons (tLockE (tLc (iVals (tFld c.K (tVar 0) "by_upper")) (gName 1) (tYes) (tMethF (fam_count c) "count" [] E0 (tVar 1) tNil) [1])) (tNil)))
theorem Sacks.item {c : Cs} {H : Hp} {kvs : List (Key × V)} {N i : Nat} {k : Key} {v : V} (h : Sacks c H kvs N) (hi : kvs[i]? = some (k, v)) : ∃ (u : Nat) (s : Addr), k = .inl (u : Int) ∧ v = .ref s ∧ (kvs.map fun p => (keyI p.1).toNat).getD i 0 = u ∧ sl N u ≠ 0 ∧ SackK c H s (kdB (sl N u)) (sl N u) := by
  obtain ⟨u, s, e, h1, h2⟩ := h.2.1 _ (List.mem_of_getElem? hi)
  cases e
  refine ⟨u, s, rfl, rfl, ?_, h1, h2⟩
  rw [List.getD_eq_getElem?_getD, List.getElem?_map, hi]
  simp [keyI]
theorem pure_NumberSet_count {c : Cs} (G : GoodS c) (vs : List V) (H : Hp) (Q : VK) (E : XK) (h : sp_NumberSet_count c vs H Q E) : t_NumberSet_count c E { nx := fun _ H' => Q .non H', rt := Q } (start ["self", "sack"] vs) H := by
  obtain ⟨a, d, N, rfl, hs, hQ⟩ := h
  unfold t_NumberSet_count
  show tRet _ _ [some (.ref a), none] H
  walk_at "go"
  obtain ⟨kvs, hd, hk⟩ := hs.ex
  refine ⟨d, _, hd, trivial, fun od => ?_⟩
  walk_at "go"
  have ha1 : ∃ dx, upd H d (.frz od (.dK kvs)) a = some (.ins c.set dx [("by_upper", .ref d)]) := by
    obtain ⟨dx, hi⟩ := hs.i
    exact ⟨dx, by rw [upd_ne (ne_of hi hd (by intro z; cases z))]; exact hi⟩
  obtain ⟨dx, ha1⟩ := ha1
  have hd1 : upd H d (.frz od (.dK kvs)) d = some (.frz od (.dK kvs)) := upd_same
  have hl1 : ∀ {s k b}, SackK c H s k b → SackK c (upd H d (.frz od (.dK kvs))) s k b := fun h => lock_ins h hd
  have un : ∀ H', Same (upd H d (.frz od (.dK kvs))) H' → Same H (upd H' d (.dK kvs)) := fun H' s => unlock hd s
  generalize upd H d (.frz od (.dK kvs)) = H1 at ha1 hd1 hl1 un
  refine ⟨a, _, dx, _, _, rfl, ha1, G.cs, G.ns, lk1, ?_⟩
  refine ⟨d, od, kvs, rfl, hd1, fun D nD => ?_⟩
  refine lcV (K := c.K) (fun _ => true) (fun i => .int (popc (sl N ((kvs.map fun p => (keyI p.1).toNat).getD i 0)) : Nat)) nD hd1 (by have := hk.len hs.b; omega) (fun i k x H2 Rk Rs hi s2 hkk hnn => ?_) (fun H2 acc s2 hD hf => ?_)
  · obtain ⟨u, s, rfl, rfl, e, hu, hks⟩ := hk.item hi
    rw [e] at hkk
    simp only [wipe, List.set_cons_zero, List.set_cons_succ]
    walk_at "go"
    refine ⟨(by first | exact rfl | exact trivial), ?_⟩
    walk_at "go"
    refine ((hl1 hks).same s2).at (m := "count") (fam := fam_count c) (dvs := []) ⟨_, rfl, rfl⟩ (by decide +kernel) ?_
    walk_at "go"
    refine ⟨s, _, _, rfl, (hl1 hks).same s2, sl_lt _ _, fun H3 s3 => ?_⟩
    exact hkk rfl _ H3 s3 (.int _)
  · have hd2 := s2 _ _ hd1
    refine ⟨hd2, ?_⟩
    have e : pickD (fun _ => true) (fun i => PyData.int (popc (sl N ((kvs.map fun p => (keyI p.1).toNat).getD i 0)) : Nat)) kvs.length = (nz ((kvs.map fun p => (keyI p.1).toNat).map fun u => popc (sl N u))).map PyData.int := by
      have := range_get (d := 0) (fun u => PyData.int (popc (sl N u) : Nat)) (kvs.map fun p => (keyI p.1).toNat)
      rw [List.length_map] at this
      rw [pickD_all, this]
      unfold nz
      simp only [List.map_map]; rfl
    rw [e] at hf
    rw [hf.intsInv] at hD
    walk_at "go"
    have nDd : D ≠ d := ne_of hD hd2 (by intro z; cases z)
    refine r_sum (p := D) (ns := nz ((kvs.map fun p => (keyI p.1).toNat).map fun u => popc (sl N u))) (SqL.of (by rw [upd_ne nDd]; exact hD)) ?_
    have e2 : (nz ((kvs.map fun p => (keyI p.1).toNat).map fun u => popc (sl N u))).sum = ((popc N : Nat) : Int) := by
      have s1 : ∀ l : List Nat, (nz l).sum = ((l.sum : Nat) : Int) := fun l => by
        induction l with
        | nil => rfl
        | cons x l ih => show (x : Int) + (nz l).sum = _; rw [ih, List.sum_cons]; omega
      rw [s1, ← popc_ups hs.b, ((hk.perm hs.b).map _).sum_nat]
    rw [e2]
    exact hQ _ (un H2 s2)
/-! ### is it there -/
/-! ### stretches as bits -/
def mask (m n : Nat) : Nat := 2 ^ (n + 1) - 2 ^ m
theorem mask_mul {m n : Nat} (h : m ≤ n + 1) : mask m n = (2 ^ (n + 1 - m) - 1) * 2 ^ m := by
  unfold mask
  rw [Nat.sub_mul, ← Nat.pow_add, Nat.one_mul]
  congr 2; omega
theorem mask_bit {m n : Nat} (h : m ≤ n + 1) (i : Nat) : (mask m n).testBit i = (decide (m ≤ i) && decide (i ≤ n)) := by
  rw [mask_mul h, Nat.testBit_mul_two_pow, Nat.testBit_two_pow_sub_one]
  by_cases c : m ≤ i
  · rw [decide_eq_true c, Bool.true_and, Bool.true_and, decide_eq_decide]; omega
  · rw [decide_eq_false c, Bool.false_and, Bool.false_and]
/-- a way, bit by bit -/
def Wy.bop : Wy → Bool → Bool → Bool
  | .putA, a, b => a || b
  | .dropA, a, b => a && !b
  | .turnA, a, b => a ^^ b
  | .joinW, a, b => a || b
  | .metW, a, b => a && b
  | .lessW, a, b => a && !b
  | .apartW, a, b => a ^^ b
theorem op_bit (k : Wy) (a b i : Nat) : (k.op a b).testBit i = k.bop (a.testBit i) (b.testBit i) := by
  cases k <;> simp only [Wy.op, Wy.bop, andn_bit, Nat.testBit_or, Nat.testBit_and, Nat.testBit_xor]
theorem bop_ff (k : Wy) : k.bop false false = false := by cases k <;> rfl
def Wy.mild (k : Wy) : Prop := k ≠ .metW
theorem bop_f {k : Wy} (h : k.mild) (a : Bool) : k.bop a false = a := by
  cases k <;> first | exact absurd rfl h | (cases a <;> rfl)
theorem op_lt {k : Wy} {a b n : Nat} (ha : a < 2 ^ n) (hb : b < 2 ^ n) : k.op a b < 2 ^ n := by
  apply Nat.lt_pow_two_of_testBit
  intro i hi
  rw [op_bit, Nat.testBit_lt_two_pow (lt_pow_mono ha hi), Nat.testBit_lt_two_pow (lt_pow_mono hb hi), bop_ff]
theorem op_mul (k : Wy) (a b n : Nat) : k.op a b * 2 ^ n = k.op (a * 2 ^ n) (b * 2 ^ n) := by
  apply Nat.eq_of_testBit_eq
  intro i
  rw [op_bit, Nat.testBit_mul_two_pow, Nat.testBit_mul_two_pow, Nat.testBit_mul_two_pow, op_bit]
  by_cases c : n ≤ i
  · rw [decide_eq_true c, Bool.true_and, Bool.true_and, Bool.true_and]
  · rw [decide_eq_false c, Bool.false_and, Bool.false_and, Bool.false_and, bop_ff]
theorem mask_shift (m n k : Nat) : mask (k + m) (k + n) = mask m n * 2 ^ k := by
  unfold mask
  rw [Nat.sub_mul, ← Nat.pow_add, ← Nat.pow_add]
  congr 2 <;> omega
theorem mask_lt {m n k : Nat} (h : n < k) : mask m n < 2 ^ k := by
  unfold mask
  have : 2 ^ (n + 1) ≤ 2 ^ k := Nat.pow_le_pow_right (by decide) (by omega)
  have := Nat.two_pow_pos m
  have := Nat.two_pow_pos (n + 1)
  omega
theorem mod_bit (a n i : Nat) : (a % 2 ^ n).testBit i = (decide (i < n) && a.testBit i) := Nat.testBit_mod_two_pow _ _ _
/-- the low part of a stretch -/
theorem mask_mod0 {m n u : Nat} (h : m ≤ n + 1) (hu : 256 * u ≤ m) : mask m n % 2 ^ (256 * u) = 0 := by
  apply Nat.eq_of_testBit_eq
  intro i
  rw [mod_bit, mask_bit h, Nat.zero_testBit]
  by_cases c : i < 256 * u
  · rw [decide_eq_false (show ¬ m ≤ i by omega)]; simp
  · rw [decide_eq_false c, Bool.false_and]
theorem mask_mod1 {m n u : Nat} (hu : n < 256 * u) : mask m n % 2 ^ (256 * u) = mask m n := Nat.mod_eq_of_lt (mask_lt hu)
/-- one sack more -/
theorem op_step {k : Wy} {N M t : Nat} (h : k.mild) : setSl (k.op N (M % 2 ^ (256 * t))) t (k.op (sl N t) (sl M t)) = k.op N (M % 2 ^ (256 * (t + 1))) := by
  apply Nat.eq_of_testBit_eq
  intro i
  rw [setSl_bit (op_lt (sl_lt _ _) (sl_lt _ _)), op_bit, op_bit, op_bit, mod_bit, mod_bit, sl_bit, sl_bit]
  by_cases c : i / 256 = t
  · rw [if_pos c, decide_eq_true (show i % 256 < 256 by omega), decide_eq_true (show i < 256 * (t + 1) by omega), Bool.true_and, Bool.true_and, Bool.true_and]
    have e : 256 * t + i % 256 = i := by omega
    rw [e]
  · rw [if_neg c]
    have : decide (i < 256 * t) = decide (i < 256 * (t + 1)) := by rw [decide_eq_decide]; omega
    rw [this]
theorem op_sl {k : Wy} {N M t : Nat} (h : k.mild) : sl (k.op N (M % 2 ^ (256 * t))) t = sl N t := by
  apply Nat.eq_of_testBit_eq
  intro i
  rw [sl_bit, sl_bit, op_bit, mod_bit]
  by_cases c : i < 256
  · rw [decide_eq_false (show ¬ 256 * t + i < 256 * t by omega), Bool.false_and, bop_f h]
  · rw [decide_eq_false c, Bool.false_and, Bool.false_and]
theorem op_zero {k : Wy} {N : Nat} (h : k.mild) : k.op N 0 = N := by
  apply Nat.eq_of_testBit_eq
  intro i
  rw [op_bit, Nat.zero_testBit, bop_f h]
/-- a stretch's bits within a sack -/
theorem sl_mask {m n u : Nat} (h : m ≤ n) (h1 : m / 256 ≤ u) (h2 : u ≤ n / 256) : sl (mask m n) u = mask (m - 256 * u) (if n - 256 * u < 255 then n - 256 * u else 255) := by
  apply Nat.eq_of_testBit_eq
  intro i
  have hm : m - 256 * u ≤ (if n - 256 * u < 255 then n - 256 * u else 255) + 1 := by split <;> omega
  rw [sl_bit, mask_bit (by omega), mask_bit hm]
  by_cases c : i < 256
  · rw [decide_eq_true c, Bool.true_and]
    have e1 : decide (m ≤ 256 * u + i) = decide (m - 256 * u ≤ i) := by rw [decide_eq_decide]; omega
    have e2 : decide (256 * u + i ≤ n) = decide (i ≤ if n - 256 * u < 255 then n - 256 * u else 255) := by
      rw [decide_eq_decide]; split <;> omega
    rw [e1, e2]
  · rw [decide_eq_false c, Bool.false_and, decide_eq_false (show ¬ i ≤ (if n - 256 * u < 255 then n - 256 * u else 255) by split <;> omega), Bool.and_false]
theorem In24.op {k : Wy} {N M : Nat} (h : In24 N) (g : In24 M) : In24 (k.op N M) := by
  intro i hi
  rw [op_bit] at hi
  apply Classical.byContradiction
  intro c
  have a : N.testBit i = false := by
    cases e : N.testBit i with
    | false => rfl
    | true => exact absurd (h i e) c
  have b : M.testBit i = false := by
    cases e : M.testBit i with
    | false => rfl
    | true => exact absurd (g i e) c
  rw [a, b, bop_ff] at hi
  cases hi
local macro_rules | `(tactic| walk_at "go1") => `(tactic| with_reducible refine w_lam ?_)
/-! ### heaps that differ at one dict and at the tables -/
def ButX (d : Addr) (H H' : Hp) : Prop := ∀ p o, p ≠ d → (∀ ps, o ≠ .tbl ps) → H p = some o → H' p = some o
theorem ButX.refl (d : Addr) (H : Hp) : ButX d H H := fun _ _ _ _ h => h
theorem ButX.trans {d : Addr} {H H1 H2 : Hp} (a : ButX d H H1) (b : ButX d H1 H2) : ButX d H H2 := fun p o n t h => b p o n t (a p o n t h)
theorem But.x {d : Addr} {H H1 : Hp} (b : But d H H1) : ButX d H H1 := fun p o n _ h => b p o n h
theorem ButX.same {d : Addr} {H H1 : Hp} (s : Same H H1) : ButX d H H1 := (But.of s).x
theorem ButX.ext {d : Addr} {H H1 : Hp} (s : LamX.ExtN H H1) : ButX d H H1 := fun p o _ t h => s p o h t
theorem ButX.lst {d p : Addr} {H H1 : Hp} {xs : List V} (b : ButX d H H1) (hd : ∃ kvs, H d = some (.dK kvs)) (h : H p = some (.lst xs)) : H1 p = some (.lst xs) := by
  obtain ⟨kvs, hd⟩ := hd
  exact b p _ (ne_of h hd (by intro z; cases z)) (fun _ z => by cases z) h
theorem ButX.tup {d p : Addr} {H H1 : Hp} {xs : List V} (b : ButX d H H1) (hd : ∃ kvs, H d = some (.dK kvs)) (h : H p = some (.tup xs)) : H1 p = some (.tup xs) := by
  obtain ⟨kvs, hd⟩ := hd
  exact b p _ (ne_of h hd (by intro z; cases z)) (fun _ z => by cases z) h
theorem ButX.seq {K : PySem.W.Frag} {d p : Addr} {H H1 : Hp} {xs : List V} (b : ButX d H H1) (hd : ∃ kvs, H d = some (.dK kvs)) (h : SqL K H p xs) : SqL K H1 p xs := by
  rcases h with (h | ⟨o, h⟩) | h
  · exact .inl (.inl (b.lst hd h))
  · obtain ⟨kvs, hd⟩ := hd
    exact .inl (.inr ⟨o, b p _ (ne_of h hd (by intro z; cases z)) (fun _ z => by cases z) h⟩)
  · exact .inr h
theorem SetAt.ext {c : Cs} {H H' : Hp} {a d : Addr} {N : Nat} (h : SetAt c H a d N) (e : LamX.ExtN H H') : SetAt c H' a d N := by
  obtain ⟨dx, hi⟩ := h.i
  obtain ⟨kvs, h1, h2⟩ := h.ex
  refine ⟨⟨dx, e _ _ hi fun _ z => (by cases z)⟩, ⟨kvs, e _ _ h1 fun _ z => (by cases z), h2.ext fun s k b q => ?_⟩, h.b⟩
  obtain ⟨dx, q⟩ := q
  exact ⟨dx, e _ _ q fun _ z => (by cases z)⟩
theorem Kn.ext {H H' : Hp} {x : V} (k : Kn H x) (e : LamX.ExtN H H') : Kn H' x := by
  cases k with
  | non => exact .non
  | bl b => exact .bl b
  | int i => exact .int i
  | str x => exact .str x
  | tup h => exact .tup (e _ _ h fun _ z => by cases z)
  | lst h => exact .lst (e _ _ h fun _ z => by cases z)
  | dK h => exact .dK (e _ _ h fun _ z => by cases z)
theorem seq_ext {K : PySem.W.Frag} {p : Addr} {H H1 : Hp} {xs : List V} (b : LamX.ExtN H H1) (h : SqL K H p xs) : SqL K H1 p xs := by
  rcases h with (h | ⟨o, h⟩) | h
  · exact .inl (.inl (b _ _ h fun _ z => by cases z))
  · exact .inl (.inr ⟨o, b _ _ h fun _ z => by cases z⟩)
  · exact .inr h
theorem tabs_but {T : List (Addr × Str)} {d : Addr} {H H' : Hp} (t : LamX.Tabs T H) (b : But d H H') (hd : ∃ kvs, H d = some (.dK kvs)) : LamX.Tabs T H' := by
  obtain ⟨kvs, hd⟩ := hd
  intro p hp
  obtain ⟨ps, h1, h2, h3⟩ := t p hp
  refine ⟨ps, b _ _ (ne_of h1 hd (by intro z; cases z)) h1, h2, fun pos cv hc => ?_⟩
  obtain ⟨z, e1, e2⟩ := h3 pos cv hc
  exact ⟨z, e1, b _ _ (ne_of e2 hd (codeO_dK _)) e2⟩
theorem WayAt.but {c : Cs} {d : Addr} {H H' : Hp} {f : Addr} {k : Wy} (w : WayAt c H f k) (b : But d H H') (hd : ∃ kvs, H d = some (.dK kvs)) : WayAt c H' f k := by
  obtain ⟨kvs, hd⟩ := hd
  obtain ⟨z, h1, h2⟩ := w
  exact ⟨z, b _ _ (ne_of h1 hd (lamO_dK _)) h1, b _ _ (ne_of h2 hd (codeO_dK _)) h2⟩
theorem WayAt.same {c : Cs} {H H' : Hp} {f : Addr} {k : Wy} (w : WayAt c H f k) (b : Same H H') : WayAt c H' f k := by
  obtain ⟨z, h1, h2⟩ := w
  exact ⟨z, b _ _ h1, b _ _ h2⟩
/-! ### stretches -/
def sp_need_stretch (c : Cs) : Sp := fun vs H Q E => ∃ m n : Nat, vs = [.int (m : Int), .int (n : Int)] ∧ (m ≤ n → n - m ≤ 99999 → Q .non H) ∧ (n < m ∨ 99999 < n - m → E (.ref c.eNoStretch) none H)
theorem len_need_stretch (c : Cs) : ∀ vs H Q E, sp_need_stretch c vs H Q E → vs.length = (["first", "last"] : List Str).length := by
  rintro vs H Q E ⟨m, n, rfl, _⟩; rfl
/-- need_stretch -/
def t_need_stretch (c : Cs) (E : XK) : TS :=
  tIfS (tOr (tTest (tOp (rLt) (tVar 1) (tVar 0))) (tTest (tOp (rGt) (tOp rSub (tVar 1) (tVar 0)) (tC (.int 99999))))) (fun _ σ H => E (.ref c.eNoStretch) none H) (tNext)
theorem pure_need_stretch {c : Cs} (G : Good c) (vs : List V) (H : Hp) (Q : VK) (E : XK) (h : sp_need_stretch c vs H Q E) : t_need_stretch c E { nx := fun _ H' => Q .non H', rt := Q } (start ["first", "last"] vs) H := by
  obtain ⟨m, n, rfl, hQ, hE⟩ := h
  unfold t_need_stretch
  show tIfS _ _ _ _ [some (.int (m : Int)), some (.int (n : Int))] H
  walk_at "go"
  refine if_d (fun z => ?_) (fun z => ?_)
  · exact hE (.inl (by omega))
  · walk_at "go"
    refine if_d (fun z2 => ?_) (fun z2 => ?_)
    · exact hE (.inr (by omega))
    · walk_at "go"
      exact hQ (by omega) (by omega)
def sp_stretch_bits (c : Cs) : Sp := fun vs H Q _ => ∃ u m n : Nat, vs = [.int (u : Int), .int (m : Int), .int (n : Int)] ∧ m ≤ n ∧ m / 256 ≤ u ∧ u ≤ n / 256 ∧ Q (.int ((sl (mask m n) u : Nat) : Int)) H
theorem len_stretch_bits (c : Cs) : ∀ vs H Q E, sp_stretch_bits c vs H Q E → vs.length = (["upper", "first", "last"] : List Str).length := by
  rintro vs H Q E ⟨u, m, n, rfl, _⟩; rfl
/-- stretch_bits -/
def t_stretch_bits (c : Cs) (E : XK) : TS :=
  tSeq (tAsg (tCB (rMaxU c.K) (tCons (tOp rSub (tVar 1) (tOp rMul (tC (.int 256)) (tVar 0))) (tCons (tC (.int 0)) (tNil)))) (gName 3))
    (tSeq (tAsg (tCB (rMinU c.K) (tCons (tOp rSub (tVar 2) (tOp rMul (tC (.int 256)) (tVar 0))) (tCons (tOp rSub (tC (.int 256)) (tC (.int 1))) (tNil)))) (gName 4))
    (tRet (tOp rSub (tOp rShl (tC (.int 1)) (tOp rAdd (tVar 4) (tC (.int 1)))) (tOp rShl (tC (.int 1)) (tVar 3)))))
theorem mask_int {l h : Nat} (e : l ≤ h + 1) : (1 : Int) * 2 ^ ((h : Int) + 1).toNat - (1 : Int) * 2 ^ ((l : Nat) : Int).toNat = ((mask l h : Nat) : Int) := by
  have e1 : ((h : Int) + 1).toNat = h + 1 := by omega
  have p : 2 ^ l ≤ 2 ^ (h + 1) := Nat.pow_le_pow_right (by decide) e
  unfold mask
  rw [e1, Int.toNat_natCast, Int.one_mul, Int.one_mul, Int.ofNat_sub p, Int.natCast_pow, Int.natCast_pow]; rfl
theorem pure_stretch_bits {c : Cs} (G : Good c) (vs : List V) (H : Hp) (Q : VK) (E : XK) (h : sp_stretch_bits c vs H Q E) : t_stretch_bits c E { nx := fun _ H' => Q .non H', rt := Q } (start ["upper", "first", "last", "low", "high"] vs) H := by
  obtain ⟨u, m, n, rfl, h0, h1, h2, hQ⟩ := h
  unfold t_stretch_bits
  show tSeq _ _ _ [some (.int (u : Int)), some (.int (m : Int)), some (.int (n : Int)), none, none] H
  walk_at "go"
  have e1 : (if (0 : Int) > (m : Int) - 256 * (u : Int) then (0 : Int) else (m : Int) - 256 * (u : Int)) = ((m - 256 * u : Nat) : Int) := by split <;> omega
  have e2 : (if (256 : Int) - 1 < (n : Int) - 256 * (u : Int) then (256 : Int) - 1 else (n : Int) - 256 * (u : Int)) = (((if n - 256 * u < 255 then n - 256 * u else 255) : Nat) : Int) := by split <;> split <;> omega
  rw [sl_mask h0 h1 h2] at hQ
  have l1 : m - 256 * u ≤ (if n - 256 * u < 255 then n - 256 * u else 255) + 1 := by split <;> omega
  have l2 : (if n - 256 * u < 255 then n - 256 * u else 255) ≤ 255 := by split <;> omega
  rw [e2]
  generalize (if n - 256 * u < 255 then n - 256 * u else 255) = h at l1 l2 hQ
  walk_at "go"
  rw [e1]
  walk_at "go"
  rw [mask_int l1]
  exact hQ
def lastV (x y : V) : V := if y = .non then x else y
theorem if_last {D : Ends} {H : Hp} {s0 s3 s4 s5 : Option V} {x y : V} (h : D.nx [s0, some x, some (lastV x y), s3, s4, s5] H) :
    tIfS (tTest (tOp rIsN (tVar 2) (tC .non))) (tAsg (tVar 1) (gName 2)) tNext D [s0, some x, some y, s3, s4, s5] H := by
  walk_at "go"
  refine if_d (fun z => ?_) (fun z => ?_)
  · walk_at "go"
    unfold lastV at h
    rw [if_pos z] at h
    exact h
  · walk_at "go"
    unfold lastV at h
    rw [if_neg z] at h
    exact h
def sp_NumberSet_by_stretch (c : Cs) : Sp := fun vs H Q E => ∃ (a d N f : Nat) (x y : V) (k : Wy), vs = [.ref a, x, y, .ref f] ∧ SetAt c H a d N ∧ Kn H x ∧ Kn H y ∧ k.mild ∧ WayAt c H f k ∧
  (∀ (m n : Nat) (H' : Hp), x = .int (m : Int) → lastV x y = .int (n : Int) → m ≤ n → n - m ≤ 99999 → n < 16777216 → But d H H' → SetAt c H' a d (k.op N (mask m n)) → Q (.int ((popc (k.op N (mask m n)) : Int) - (popc N : Int))) H') ∧
  (numV x = false ∨ numV (lastV x y) = false → E (.ref c.eNoNumber) none H) ∧
  (∀ m n : Nat, x = .int (m : Int) → lastV x y = .int (n : Int) → m < 16777216 → n < 16777216 → n < m ∨ 99999 < n - m → E (.ref c.eNoStretch) none H)
def fam_by_stretch (c : Cs) (C : Addr) (sp : Sp) : Prop := C = c.set ∧ sp = sp_NumberSet_by_stretch c
theorem len_NumberSet_by_stretch (c : Cs) : ∀ vs H Q E, sp_NumberSet_by_stretch c vs H Q E → vs.length = (["self", "first", "last", "way"] : List Str).length := by
  rintro vs H Q E ⟨a, d, N, f, x, y, k, rfl, _⟩; rfl
/-- NumberSet.by_stretch -/
def t_NumberSet_by_stretch (c : Cs) (E : XK) : TS :=
  tSeq (tDrop (tCall (sp_need_number c) [] E (tCons (tVar 1) (tNil))))
    (tSeq (tIfS (tTest (tOp (rIsN) (tVar 2) (tC .non))) (tAsg (tVar 1) (gName 2)) (tNext))
    (tSeq (tDrop (tCall (sp_need_number c) [] E (tCons (tVar 2) (tNil))))
    (tSeq (tDrop (tCall (sp_need_stretch c) [] E (tCons (tVar 1) (tCons (tVar 2) (tNil)))))
    (tSeq (tAsg (tC (.int 0)) (gName 4))
    (tSeq (tFor (iRng2 (tCons (tOp rFdv (tVar 1) (tC (.int 256))) (tCons (tOp rAdd (tOp rFdv (tVar 2) (tC (.int 256))) (tC (.int 1))) (tNil)))) (gName 5) (tAug 4 (tMethF (fam_set_bits c) "set_bits" [] E (tVar 0) (tCons (tVar 5) (tCons (tWay c 3 (tCons (tMethF (fam_bits_at c) "bits_at" [] E (tVar 0) (tCons (tVar 5) (tNil))) (tCons (tCall (sp_stretch_bits c) [] E (tCons (tVar 5) (tCons (tVar 1) (tCons (tVar 2) (tNil))))) (tNil)))) (tNil)))) pAdd))
    (tRet (tVar 4)))))))
theorem kn_last {H : Hp} {x y : V} (kx : Kn H x) (ky : Kn H y) : Kn H (lastV x y) := by
  unfold lastV
  split
  · exact kx
  · exact ky
theorem pure_NumberSet_by_stretch {c : Cs} (G : GoodS c) (vs : List V) (H : Hp) (Q : VK) (E : XK) (h : sp_NumberSet_by_stretch c vs H Q E) : t_NumberSet_by_stretch c E { nx := fun _ H' => Q .non H', rt := Q } (start ["self", "first", "last", "way", "more", "upper"] vs) H := by
  obtain ⟨a, d, N, f, x, y, k, rfl, hs, kx, ky, hm, hw, hQ, hE, hE2⟩ := h
  unfold t_NumberSet_by_stretch
  show tSeq _ _ _ [some (.ref a), some x, some y, some (.ref f), none, none] H
  walk_at "go"
  refine ⟨x, rfl, kx, fun zx => ?_, fun z => hE (.inl z)⟩
  refine w_seq (if_last ?_)
  have kl := kn_last kx ky
  obtain ⟨m, rfl, hmb⟩ := num_nat zx
  generalize hz : lastV (.int (m : Int)) y = z at *
  walk_at "go"
  refine ⟨z, rfl, kl, fun zz => ?_, fun zz => hE (.inr zz)⟩
  obtain ⟨n, rfl, hnb⟩ := num_nat zz
  walk_at "go"
  refine ⟨m, n, rfl, fun h1 h2 => ?_, fun h3 => hE2 m n rfl rfl hmb hnb h3⟩
  walk_at "go"
  have e0 : (m : Int) / 256 = ((m / 256 : Nat) : Int) := by omega
  have e1 : (n : Int) / 256 = ((n / 256 : Nat) : Int) := by omega
  rw [e0, e1]
  have hmn : mask m n % 2 ^ (256 * (m / 256)) = 0 := mask_mod0 (by omega) (by omega)
  refine ⟨_, _, rfl, ⟨by omega, by omega, by omega, by omega⟩, for_range (lo := ((m / 256 : Nat) : Int)) (n := (((n / 256 : Nat) : Int) + 1 - ((m / 256 : Nat) : Int)).toNat) (fun i σ H1 => ∃ v, σ = [some (.ref a), some (.int (m : Int)), some (.int (n : Int)), some (.ref f), some (.int ((popc (k.op N (mask m n % 2 ^ (256 * (m / 256 + i)))) : Int) - (popc N : Int))), v] ∧ But d H H1 ∧ SetAt c H1 a d (k.op N (mask m n % 2 ^ (256 * (m / 256 + i)))))
    ⟨none, ?_, But.refl _ _, ?_⟩ ?_ ?_⟩
  · rw [Nat.add_zero, hmn, op_zero hm]; simp
  · rw [Nat.add_zero, hmn, op_zero hm]; exact hs
  · rintro i σ H1 hi ⟨v, rfl, b1, s1⟩
    have w1 := hw.but b1 hs.d
    have ei : ((m / 256 : Nat) : Int) + (i : Int) = ((m / 256 + i : Nat) : Int) := by omega
    have hi2 : m / 256 + i ≤ n / 256 := by omega
    rw [ei]
    generalize ht : m / 256 + i = t at *
    walk_at "go"
    refine s1.at (m := "set_bits") (fam := fam_set_bits c) ⟨rfl, rfl⟩ (by decide +kernel) ?_
    walk_at "go"
    refine w_way rfl w1 ?_
    walk_at "go"
    refine s1.at (m := "bits_at") (fam := fam_bits_at c) ⟨rfl, rfl⟩ (by decide +kernel) ?_
    walk_at "go"
    refine ⟨a, d, _, t, rfl, s1, ?_⟩
    walk_at "go"
    refine ⟨t, m, n, rfl, h1, by omega, hi2, ?_⟩
    walk_at "go"
    rw [op_sl hm]
    refine ⟨_, _, rfl, w1, ?_⟩
    walk_at "go"
    have hlt : k.op (sl N t) (sl (mask m n) t) < 2 ^ 256 := op_lt (sl_lt _ _) (sl_lt _ _)
    refine ⟨a, d, _, t, _, rfl, s1, by omega, hlt, fun H2 b2 s2 => ?_⟩
    have pc := @setSl_popc (k.op N (mask m n % 2 ^ (256 * t))) t _ hlt
    rw [op_step hm, op_sl hm] at pc
    rw [op_step hm] at s2
    rw [op_sl hm]
    walk_at "go"
    have e3 : m / 256 + (i + 1) = t + 1 := by omega
    rw [e3]
    have e4 : ((popc (k.op N (mask m n % 2 ^ (256 * t))) : Int) - (popc N : Int)) + ((popc (k.op (sl N t) (sl (mask m n) t)) : Int) - (popc (sl N t) : Int)) = (popc (k.op N (mask m n % 2 ^ (256 * (t + 1)))) : Int) - (popc N : Int) := by omega
    rw [← e4]
    exact ⟨_, rfl, b1.trans b2, s2⟩
  · rintro σ H1 ⟨v, rfl, b1, s1⟩
    have e5 : m / 256 + (((n / 256 : Nat) : Int) + 1 - ((m / 256 : Nat) : Int)).toNat = n / 256 + 1 := by omega
    rw [e5, mask_mod1 (by omega)] at s1
    rw [e5, mask_mod1 (by omega)]
    walk_at "go"
    exact hQ m n H1 rfl rfl h1 h2 hnb b1 s1
/-! ### put_all, drop_all, turn -/
def sp_deed (c : Cs) (k : Wy) : Sp := fun vs H Q E => ∃ (a d N : Nat) (x y : V), vs = [.ref a, x, y] ∧ SetAt c H a d N ∧ Kn H x ∧ Kn H y ∧ LamX.Tabs c.T H ∧
  (∀ (m n : Nat) (H' : Hp), x = .int (m : Int) → lastV x y = .int (n : Int) → m ≤ n → n - m ≤ 99999 → n < 16777216 → ButX d H H' → LamX.Tabs c.T H' → SetAt c H' a d (k.op N (mask m n)) → Q (.int ((popc (k.op N (mask m n)) : Int) - (popc N : Int))) H') ∧
  (numV x = false ∨ numV (lastV x y) = false → ∀ H', LamX.ExtN H H' → LamX.Tabs c.T H' → E (.ref c.eNoNumber) none H') ∧
  (∀ m n : Nat, x = .int (m : Int) → lastV x y = .int (n : Int) → m < 16777216 → n < 16777216 → n < m ∨ 99999 < n - m → ∀ H', LamX.ExtN H H' → LamX.Tabs c.T H' → E (.ref c.eNoStretch) none H')
def sp_NumberSet_put_all (c : Cs) : Sp := sp_deed c .putA
def sp_NumberSet_drop_all (c : Cs) : Sp := sp_deed c .dropA
def sp_NumberSet_turn (c : Cs) : Sp := sp_deed c .turnA
def fam_put_all (c : Cs) (C : Addr) (sp : Sp) : Prop := C = c.set ∧ sp = sp_NumberSet_put_all c
def fam_drop_all (c : Cs) (C : Addr) (sp : Sp) : Prop := C = c.set ∧ sp = sp_NumberSet_drop_all c
def fam_turn (c : Cs) (C : Addr) (sp : Sp) : Prop := C = c.set ∧ sp = sp_NumberSet_turn c
theorem deed_pure {c : Cs} (G : GoodS c) {k : Wy} {E : XK} {H : Hp} {Q : VK} {vs : List V} (hk : k.mild) (h : sp_deed c k vs H Q E) :
    tRet (tMethF (fam_by_stretch c) "by_stretch" [] E (tVar 0) (tCons (tVar 1) (tCons (tVar 2) (tCons (tLam c.T (c.way k)) (tNil))))) { nx := fun _ H' => Q .non H', rt := Q } (start ["self", "first", "last"] vs) H := by
  obtain ⟨a, d, N, x, y, rfl, hs, kx, ky, hT, hQ, hE, hE2⟩ := h
  show tRet _ _ [some (.ref a), some x, some y] H
  walk_at "go"
  refine hs.at (m := "by_stretch") (fam := fam_by_stretch c) ⟨rfl, rfl⟩ (by decide +kernel) ?_
  walk_at "go"
  refine ⟨hT, fun f z H1 e1 T1 nf hf hz => ?_⟩
  walk_at "go"
  have s1 := hs.ext e1
  refine ⟨a, d, N, f, x, y, k, rfl, s1, kx.ext e1, ky.ext e1, hk, ⟨z, hf, hz⟩, fun m n H2 ex ey h1 h2 hn b2 s2 => ?_, fun zz => hE zz H1 e1 T1, fun m n ex ey hm hn zz => hE2 m n ex ey hm hn zz H1 e1 T1⟩
  exact hQ m n H2 ex ey h1 h2 hn ((ButX.ext e1).trans b2.x) (tabs_but T1 b2 s1.d) s2
theorem len_NumberSet_put_all (c : Cs) : ∀ vs H Q E, sp_NumberSet_put_all c vs H Q E → vs.length = (["self", "first", "last"] : List Str).length := by
  rintro vs H Q E ⟨a, d, N, x, y, rfl, _⟩; rfl
/-- NumberSet.put_all -/
def t_NumberSet_put_all (c : Cs) (E : XK) : TS :=
  tRet (tMethF (fam_by_stretch c) "by_stretch" [] E (tVar 0) (tCons (tVar 1) (tCons (tVar 2) (tCons (tLam c.T (c.way .putA)) (tNil)))))
theorem pure_NumberSet_put_all {c : Cs} (G : GoodS c) (vs : List V) (H : Hp) (Q : VK) (E : XK) (h : sp_NumberSet_put_all c vs H Q E) : t_NumberSet_put_all c E { nx := fun _ H' => Q .non H', rt := Q } (start ["self", "first", "last"] vs) H := by
  unfold t_NumberSet_put_all
  exact deed_pure G (fun e => by cases e) h
theorem len_NumberSet_drop_all (c : Cs) : ∀ vs H Q E, sp_NumberSet_drop_all c vs H Q E → vs.length = (["self", "first", "last"] : List Str).length := by
  rintro vs H Q E ⟨a, d, N, x, y, rfl, _⟩; rfl
/-- NumberSet.drop_all -/
def t_NumberSet_drop_all (c : Cs) (E : XK) : TS :=
  tRet (tMethF (fam_by_stretch c) "by_stretch" [] E (tVar 0) (tCons (tVar 1) (tCons (tVar 2) (tCons (tLam c.T (c.way .dropA)) (tNil)))))
theorem pure_NumberSet_drop_all {c : Cs} (G : GoodS c) (vs : List V) (H : Hp) (Q : VK) (E : XK) (h : sp_NumberSet_drop_all c vs H Q E) : t_NumberSet_drop_all c E { nx := fun _ H' => Q .non H', rt := Q } (start ["self", "first", "last"] vs) H := by
  unfold t_NumberSet_drop_all
  exact deed_pure G (fun e => by cases e) h
theorem len_NumberSet_turn (c : Cs) : ∀ vs H Q E, sp_NumberSet_turn c vs H Q E → vs.length = (["self", "first", "last"] : List Str).length := by
  rintro vs H Q E ⟨a, d, N, x, y, rfl, _⟩; rfl
/-- NumberSet.turn -/
def t_NumberSet_turn (c : Cs) (E : XK) : TS :=
  tRet (tMethF (fam_by_stretch c) "by_stretch" [] E (tVar 0) (tCons (tVar 1) (tCons (tVar 2) (tCons (tLam c.T (c.way .turnA)) (tNil)))))
theorem pure_NumberSet_turn {c : Cs} (G : GoodS c) (vs : List V) (H : Hp) (Q : VK) (E : XK) (h : sp_NumberSet_turn c vs H Q E) : t_NumberSet_turn c E { nx := fun _ H' => Q .non H', rt := Q } (start ["self", "first", "last"] vs) H := by
  unfold t_NumberSet_turn
  exact deed_pure G (fun e => by cases e) h
/-! ### a window of twelve sacks -/
def sp__law_begin (c : Cs) : Sp := fun vs H Q _ => ∃ n : Nat, vs = [.int (n : Int)] ∧ n < 4611686018427387904 ∧ ∀ (w : Nat) (H' : Hp), w ≤ 65524 → Same H H' → Q (.int ((256 * w : Nat) : Int)) H'
theorem len__law_begin (c : Cs) : ∀ vs H Q E, sp__law_begin c vs H Q E → vs.length = (["_law_cell"] : List Str).length := by
  rintro vs H Q E ⟨n, rfl, _⟩; rfl
/-- _law_begin -/
def t__law_begin (c : Cs) (E : XK) : TS :=
  tRet (tOp rMul (tC (.int 256)) (tOp (rIx c.K) (tLst (tCons (tC (.int 0)) (tCons (tC (.int 65524)) (tCons (tOp rMod (tOp rFdv (tVar 0) (tC (.int 3))) (tC (.int 65525))) (tNil))))) (tOp rMod (tVar 0) (tC (.int 3)))))
theorem pure__law_begin {c : Cs} (G : Good c) (vs : List V) (H : Hp) (Q : VK) (E : XK) (h : sp__law_begin c vs H Q E) : t__law_begin c E { nx := fun _ H' => Q .non H', rt := Q } (start ["_law_cell"] vs) H := by
  obtain ⟨n, rfl, hn, hQ⟩ := h
  unfold t__law_begin
  show tRet _ _ [some (.int (n : Int))] H
  walk_at "go"
  obtain ⟨r, hr⟩ : ∃ r : Nat, (n : Int) / 3 % 65525 = r := ⟨n / 3 % 65525, by omega⟩
  rw [hr]
  refine ⟨sz5 (by simp), fun p np => ?_⟩
  generalize ep : upd H p _ = H1
  obtain ⟨sH1, hp, dH1⟩ := new_of np ep
  walk_at "go"
  obtain ⟨j, hj⟩ : ∃ j : Nat, (n : Int) % 3 = j := ⟨n % 3, by omega⟩
  rw [hj]
  have hj3 : j < 3 := by omega
  obtain ⟨w, hw, hw2⟩ : ∃ w : Nat, atI [V.int 0, .int 65524, .int (r : Int)] (j : Int) = some (.int (w : Int)) ∧ w ≤ 65524 := by
    match j, hj3 with
    | 0, _ => exact ⟨0, rfl, by omega⟩
    | 1, _ => exact ⟨65524, rfl, by omega⟩
    | 2, _ => exact ⟨r, rfl, by omega⟩
  refine r_ixL (SqL.of hp) hw ?_
  walk_at "go"
  have e : (256 : Int) * (w : Int) = ((256 * w : Nat) : Int) := by omega
  rw [e]
  exact hQ w H1 hw2 sH1
theorem mask_sl (m k : Nat) : Builtin.bitAnd ((m : Int) / 2 ^ ((256 : Int) * ((0 : Int) + (k : Int))).toNat) ((1 : Int) * 2 ^ (256 : Int).toNat - 1) = ((sl m k : Nat) : Int) := by
  have e1 : ((256 : Int) * ((0 : Int) + (k : Int))).toNat = 256 * k := by omega
  have e2 : (m : Int) / 2 ^ (256 * k) = ((m / 2 ^ (256 * k) : Nat) : Int) := by rw [Int.natCast_ediv, Int.natCast_pow]; rfl
  have e3 : ((1 : Int) * 2 ^ (256 : Int).toNat - 1) = ((2 ^ 256 - 1 : Nat) : Int) := by decide +kernel
  rw [e1, e2, e3, and_cast, Nat.and_two_pow_sub_one_eq_mod]
  rfl
/-- the sacks that are there, below n -/
def winK (m n : Nat) : List Nat := (List.range n).filter fun k => decide (sl m k ≠ 0)
theorem winK_succ (m n : Nat) : winK m (n + 1) = if sl m n ≠ 0 then winK m n ++ [n] else winK m n := by
  unfold winK
  rw [List.range_succ, List.filter_append, List.filter_cons]
  by_cases h : sl m n ≠ 0
  · rw [if_pos h, if_pos (decide_eq_true h)]; rfl
  · rw [if_neg h, if_neg (by simpa using h)]; simp
theorem winK_len (m n : Nat) : (winK m n).length ≤ n := Nat.le_trans (List.length_filter_le _ _) (by simp)
def sp__law_numbers (c : Cs) : Sp := fun vs H Q _ => ∃ (m w : Nat), vs = [.int (m : Int), .int ((256 * w : Nat) : Int)] ∧ m < 2 ^ 3072 ∧ w + 12 ≤ 65536 ∧
  ∀ (p : Addr) (H' : Hp), Same H H' → H p = none → H' p = some (.lst ((nz (bitsOf (m * 2 ^ (256 * w)))).map V.int)) → Q (.ref p) H'
theorem len__law_numbers (c : Cs) : ∀ vs H Q E, sp__law_numbers c vs H Q E → vs.length = (["_law_mask", "_law_begin_here"] : List Str).length := by
  rintro vs H Q E ⟨m, w, rfl, _⟩; rfl
/-- _law_numbers -/
def t__law_numbers (c : Cs) (E : XK) : TS :=
  tSeq (tAsg (tLst (tNil)) (gName 2))
    (tSeq (tFor (iRng1 (tCons (tC (.int 12)) (tNil))) (gName 3) (tSeq (tAsg (tOp rBan (tOp rShr (tVar 0) (tOp rMul (tC (.int 256)) (tVar 3))) (tOp rSub (tOp rShl (tC (.int 1)) (tC (.int 256))) (tC (.int 1)))) (gName 4))
    (tIfS (tTest (tOp (rNeu c.K) (tVar 4) (tC (.int 0)))) (tAug 2 (tLc (iSeq c.K (tCall (sp__law_lows c) [] E (tCons (tVar 4) (tNil)))) (gName 5) (tYes) (tOp rAdd (tOp rAdd (tVar 1) (tOp rMul (tC (.int 256)) (tVar 3))) (tVar 5)) [5]) pAdd) (tNext))))
    (tRet (tVar 2)))
theorem flat_lt {m : Nat} : ∀ {l : List Nat}, (flat m l).length ≤ 256 * l.length
  | [] => Nat.zero_le _
  | u :: l => by
    have ih := @flat_lt m l
    have := bitsOf_len (sl_lt m u)
    show ((bitsOf (sl m u)).map (256 * u + ·) ++ flat m l).length ≤ _
    rw [List.length_append, List.length_map, List.length_cons]; omega
theorem pure__law_numbers {c : Cs} (G : Good c) (vs : List V) (H : Hp) (Q : VK) (E : XK) (h : sp__law_numbers c vs H Q E) : t__law_numbers c E { nx := fun _ H' => Q .non H', rt := Q } (start ["_law_mask", "_law_begin_here", "_law_found", "_law_k", "_law_bits_here", "_law_low"] vs) H := by
  obtain ⟨m, w, rfl, hm, hw, hQ⟩ := h
  unfold t__law_numbers
  show tSeq _ _ _ [some (.int (m : Int)), some (.int ((256 * w : Nat) : Int)), none, none, none, none] H
  walk_at "go"
  refine ⟨sz5 (by simp), fun f nf => ?_⟩
  generalize ef : upd H f _ = H1
  obtain ⟨sH1, hf, dH1⟩ := new_of nf ef
  walk_at "go"
  refine ⟨12, rfl, by decide, by decide, for_range (lo := 0) (n := 12) (fun i σ H2 => ∃ v1 v2 v3, σ = [some (.int (m : Int)), some (.int ((256 * w : Nat) : Int)), some (.ref f), v1, v2, v3] ∧ Same H H2 ∧ H2 f = some (.lst ((nz ((flat m (winK m i)).map (256 * w + ·))).map V.int)))
    ⟨none, none, none, rfl, sH1, hf⟩ ?_ ?_⟩
  · rintro i σ H2 hi ⟨v1, v2, v3, rfl, s2, hf2⟩
    walk_at "go"
    rw [mask_sl]
    refine if_nd (fun z => ?_) (fun z => ?_)
    · have hne : sl m i ≠ 0 := fun e => z (by rw [e]; rfl)
      walk_at "go"
      refine .inl ?_
      walk_at "go"
      refine ⟨sl m i, rfl, lt_pow_mono (sl_lt _ _) (by decide), fun p H3 s3 np hp => ?_⟩
      refine ⟨p, rfl, ⟨_, SqL.of hp⟩, fun D nD => ?_⟩
      refine lcI (K := c.K) (fun _ => true) (fun x : Nat => ((256 * w + (256 * i + x) : Nat) : Int)) nD (SqL.of hp) (by have := bitsOf_len (sl_lt m i); omega) (fun x H4 Rk Rs hx s4 hk hnn => ?_) (fun H4 s4 hD => ?_)
      · simp only [wipe, List.set_cons_zero, List.set_cons_succ]
        walk_at "go"
        refine ⟨(by first | exact rfl | exact trivial), ?_⟩
        walk_at "go"
        have e : ((256 * w : Nat) : Int) + (256 : Int) * ((0 : Int) + (i : Int)) + (x : Int) = ((256 * w + (256 * i + x) : Nat) : Int) := by omega
        rw [e]
        exact hk rfl H4 (Same.refl _)
      · rw [List.filter_eq_self.mpr (fun _ _ => rfl)] at hD
        have e3 : (((bitsOf (sl m i)).map fun x : Nat => ((256 * w + (256 * i + x) : Nat) : Int)).map V.int) = ((nz (((bitsOf (sl m i)).map (256 * i + ·)).map (256 * w + ·))).map V.int) := by
          unfold nz; simp only [List.map_map]; rfl
        rw [e3] at hD
        have l1 := @flat_lt m (winK m i)
        have l2 := bitsOf_len (sl_lt m i)
        have l3 := winK_len m i
        refine .inr (.inr ⟨f, D, _, _, rfl, rfl, s4 _ _ (s3 _ _ hf2), hD, sz5 (by rw [nzv_len, nzv_len, List.length_map, List.length_map, List.length_map]; omega), ?_⟩)
        walk_at "go"
        refine ⟨_, _, _, rfl, (s2.trans (s3.trans s4)).mut nf, ?_⟩
        rw [upd_same, nzv_app, winK_succ, if_pos hne, flat_snoc, List.map_append]
    · have h0 : sl m i = 0 := by omega
      walk_at "go"
      refine ⟨_, _, _, rfl, s2, ?_⟩
      rw [winK_succ, if_neg (by simpa using h0)]
      exact hf2
  · rintro σ H2 ⟨v1, v2, v3, rfl, s2, hf2⟩
    walk_at "go"
    have e : flat m (winK m 12) = bitsOf m := flat_win (n := 12) (by simpa using hm)
    rw [e, ← bitsOf_mul] at hf2
    exact hQ f H2 s2 nf hf2
/-! ### numbers in a window -/
theorem lowN_nat (n : Nat) : lowN (.int (n : Int)) = n := Int.toNat_natCast n
theorem win_or {m w x : Nat} : (m * 2 ^ (256 * w)) ||| 2 ^ (256 * w + x) = (m ||| 2 ^ x) * 2 ^ (256 * w) := by
  apply Nat.eq_of_testBit_eq
  intro i
  rw [Nat.testBit_or, Nat.testBit_mul_two_pow, Nat.testBit_mul_two_pow, Nat.testBit_or, Nat.testBit_two_pow, Nat.testBit_two_pow]
  by_cases h : 256 * w ≤ i
  · rw [decide_eq_true h]
    have : decide (256 * w + x = i) = decide (x = i - 256 * w) := by rw [decide_eq_decide]; omega
    rw [this]; simp
  · rw [decide_eq_false h, decide_eq_false (show ¬ 256 * w + x = i by omega)]; simp
/-! ### stretches in a window -/
def sp__law_stretch (c : Cs) : Sp := fun vs H Q _ => ∃ n : Nat, vs = [.int (n : Int)] ∧ n < 4611686018427387904 ∧ ∀ (f l : Nat) (p : Addr) (H' : Hp), f ≤ l → l < 3072 → Same H H' → H p = none → H' p = some (.tup [.int (f : Int), .int (l : Int)]) → Q (.ref p) H'
theorem len__law_stretch (c : Cs) : ∀ vs H Q E, sp__law_stretch c vs H Q E → vs.length = (["_law_cell"] : List Str).length := by
  rintro vs H Q E ⟨n, rfl, _⟩; rfl
/-- _law_stretch -/
def t__law_stretch (c : Cs) (E : XK) : TS :=
  tSeq (tAsg (tOp rMod (tOp rFdv (tVar 0) (tC (.int 4))) (tC (.int 3072))) (gName 1))
    (tSeq (tAsg (tOp (rIx c.K) (tLst (tCons (tC (.int 1)) (tCons (tOp rAdd (tC (.int 1)) (tOp rMod (tOp rFdv (tVar 0) (tC (.int 12288))) (tC (.int 12)))) (tCons (tC (.int 256)) (tCons (tOp rAdd (tC (.int 1)) (tOp rMod (tOp rFdv (tVar 0) (tC (.int 12288))) (tC (.int 900)))) (tNil)))))) (tOp rMod (tVar 0) (tC (.int 4)))) (gName 2))
    (tSeq (tIfS (tTest (tOp (rEqu c.K) (tOp rMod (tVar 0) (tC (.int 4))) (tC (.int 2)))) (tAsg (tOp rAdd (tOp rMul (tOp rFdv (tVar 1) (tC (.int 256))) (tC (.int 256))) (tOp (rIx c.K) (tLst (tCons (tC (.int 0)) (tCons (tC (.int 1)) (tCons (tC (.int 255)) (tCons (tC (.int 0)) (tNil)))))) (tOp rMod (tOp rFdv (tVar 0) (tC (.int 12288))) (tC (.int 4))))) (gName 1)) (tNext))
    (tRet (tTup (tCons (tVar 1) (tCons (tCB (rMinU c.K) (tCons (tC (.int 3071)) (tCons (tOp rSub (tOp rAdd (tVar 1) (tVar 2)) (tC (.int 1))) (tNil)))) (tNil)))))))
theorem four {P : Nat → Prop} {j : Nat} (h : j < 4) (h0 : P 0) (h1 : P 1) (h2 : P 2) (h3 : P 3) : P j := by
  match j, h with
  | 0, _ => exact h0
  | 1, _ => exact h1
  | 2, _ => exact h2
  | 3, _ => exact h3
theorem pure__law_stretch {c : Cs} (G : Good c) (vs : List V) (H : Hp) (Q : VK) (E : XK) (h : sp__law_stretch c vs H Q E) : t__law_stretch c E { nx := fun _ H' => Q .non H', rt := Q } (start ["_law_cell", "_law_first", "_law_size"] vs) H := by
  obtain ⟨n, rfl, hn, hQ⟩ := h
  unfold t__law_stretch
  show tSeq _ _ _ [some (.int (n : Int)), none, none] H
  walk_at "go"
  obtain ⟨f, hf, hf2⟩ : ∃ f : Nat, (n : Int) / 4 % 3072 = f ∧ f < 3072 := ⟨n / 4 % 3072, by omega, by omega⟩
  obtain ⟨s1, hs1, hs12⟩ : ∃ s : Nat, (1 : Int) + (n : Int) / 12288 % 12 = s ∧ 1 ≤ s := ⟨1 + n / 12288 % 12, by omega, by omega⟩
  obtain ⟨s2, hs2, hs22⟩ : ∃ s : Nat, (1 : Int) + (n : Int) / 12288 % 900 = s ∧ 1 ≤ s := ⟨1 + n / 12288 % 900, by omega, by omega⟩
  obtain ⟨j, hj, hj4⟩ : ∃ j : Nat, (n : Int) % 4 = j ∧ j < 4 := ⟨n % 4, by omega, by omega⟩
  rw [hf, hs1, hs2]
  refine ⟨sz5 (by simp), fun q nq => ?_⟩
  generalize eq : upd H q _ = H1
  obtain ⟨sH1, hq, dH1⟩ := new_of nq eq
  walk_at "go"
  rw [hj]
  obtain ⟨z, hz, hz1⟩ : ∃ z : Nat, atI [V.int 1, .int (s1 : Int), .int 256, .int (s2 : Int)] (j : Int) = some (.int (z : Int)) ∧ 1 ≤ z :=
    four (P := fun j : Nat => ∃ z : Nat, atI [V.int 1, .int (s1 : Int), .int 256, .int (s2 : Int)] (j : Int) = some (.int (z : Int)) ∧ 1 ≤ z) hj4 ⟨1, rfl, by omega⟩ ⟨s1, rfl, hs12⟩ ⟨256, rfl, by omega⟩ ⟨s2, rfl, hs22⟩
  refine r_ixL (SqL.of hq) hz ?_
  walk_at "go"
  have fin : ∀ (f : Nat) (H2 : Hp), f < 3072 → Same H H2 → [V.int (f : Int), V.int (if (f : Int) + (z : Int) - 1 < 3071 then (f : Int) + (z : Int) - 1 else 3071)].length ≤ sizeLine ∧ ∀ p, H2 p = none → Q (.ref p) (upd H2 p (.tup [V.int (f : Int), V.int (if (f : Int) + (z : Int) - 1 < 3071 then (f : Int) + (z : Int) - 1 else 3071)])) := by
    intro f H2 hf s2
    obtain ⟨l, hl, hl2, hl3⟩ : ∃ l : Nat, (if (f : Int) + (z : Int) - 1 < 3071 then (f : Int) + (z : Int) - 1 else 3071) = l ∧ f ≤ l ∧ l < 3072 := ⟨if f + z - 1 < 3071 then f + z - 1 else 3071, by split <;> split <;> omega, by split <;> omega, by split <;> omega⟩
    rw [hl]
    refine ⟨sz5 (by simp), fun t nt => ?_⟩
    generalize et : upd H2 t _ = H3
    obtain ⟨sH3, ht, dH3⟩ := new_of nt et
    exact hQ f l t H3 hl2 hl3 (s2.trans sH3) (s2.free nt) ht
  rw [hj]
  refine if_d (fun z2 => ?_) (fun z2 => ?_)
  · walk_at "go"
    obtain ⟨i, hi, hi4⟩ : ∃ i : Nat, (n : Int) / 12288 % 4 = i ∧ i < 4 := ⟨n / 12288 % 4, by omega, by omega⟩
    refine ⟨sz5 (by simp), fun q2 nq2 => ?_⟩
    generalize eq2 : upd H1 q2 _ = H2
    obtain ⟨sH2, hq2, dH2⟩ := new_of nq2 eq2
    walk_at "go"
    rw [hi]
    obtain ⟨y, hy, hy2⟩ : ∃ y : Nat, atI [V.int 0, .int 1, .int 255, .int 0] (i : Int) = some (.int (y : Int)) ∧ y < 256 :=
      four (P := fun i : Nat => ∃ y : Nat, atI [V.int 0, .int 1, .int 255, .int 0] (i : Int) = some (.int (y : Int)) ∧ y < 256) hi4 ⟨0, rfl, by omega⟩ ⟨1, rfl, by omega⟩ ⟨255, rfl, by omega⟩ ⟨0, rfl, by omega⟩
    refine r_ixL (SqL.of hq2) hy ?_
    have e : (f : Int) / 256 * 256 + (y : Int) = ((f / 256 * 256 + y : Nat) : Int) := by omega
    walk_at "go"
    rw [e]
    exact fin _ H2 (by omega) (sH1.trans sH2)
  · walk_at "go"
    exact fin f H1 hf2 sH1
def sp__law_bits (c : Cs) : Sp := fun vs H Q _ => ∃ f l : Nat, vs = [.int (f : Int), .int (l : Int)] ∧ f ≤ l + 1 ∧ l ≤ 90000 ∧ Q (.int (mask f l : Nat)) H
theorem len__law_bits (c : Cs) : ∀ vs H Q E, sp__law_bits c vs H Q E → vs.length = (["_law_first", "_law_last"] : List Str).length := by
  rintro vs H Q E ⟨f, l, rfl, _⟩; rfl
/-- _law_bits -/
def t__law_bits (c : Cs) (E : XK) : TS :=
  tRet (tOp rSub (tOp rShl (tC (.int 1)) (tOp rAdd (tVar 1) (tC (.int 1)))) (tOp rShl (tC (.int 1)) (tVar 0)))
theorem pure__law_bits {c : Cs} (G : Good c) (vs : List V) (H : Hp) (Q : VK) (E : XK) (h : sp__law_bits c vs H Q E) : t__law_bits c E { nx := fun _ H' => Q .non H', rt := Q } (start ["_law_first", "_law_last"] vs) H := by
  obtain ⟨f, l, rfl, h1, h2, hQ⟩ := h
  unfold t__law_bits
  show tRet _ _ [some (.int (f : Int)), some (.int (l : Int))] H
  walk_at "go"
  rw [mask_int h1]
  exact hQ
/-! ### a sack filled -/
def sp__law_filled (c : Cs) : Sp := fun vs H Q _ => ∃ a d m w n : Nat, vs = [.ref a, .int ((256 * w : Nat) : Int), .int (n : Int)] ∧ SetAt c H a d (m * 2 ^ (256 * w)) ∧ w + 12 ≤ 65536 ∧ n < 4611686018427387904 ∧
  ∀ (x : Nat) (H' : Hp), x < 2 ^ 3072 → But d H H' → SetAt c H' a d ((m ||| x) * 2 ^ (256 * w)) → Q (.int (x : Int)) H'
theorem len__law_filled (c : Cs) : ∀ vs H Q E, sp__law_filled c vs H Q E → vs.length = (["_law_numbers_here", "_law_begin_here", "_law_cell"] : List Str).length := by
  rintro vs H Q E ⟨a, d, m, w, n, rfl, _⟩; rfl
/-- _law_filled -/
def t__law_filled (c : Cs) (E : XK) : TS :=
  tSeq (tAsg (tOp rMod (tVar 2) (tC (.int 12))) (gName 3))
    (tSeq (tAsg (tCall (sp__law_pattern c) [] E (tCons (tOp rFdv (tVar 2) (tC (.int 12))) (tNil))) (gName 4))
    (tSeq (tFor (iSeq c.K (tCall (sp__law_lows c) [] E (tCons (tVar 4) (tNil)))) (gName 5) (tDrop (tMethF (fam_put c) "put" [] E (tVar 0) (tCons (tOp rAdd (tOp rAdd (tVar 1) (tOp rMul (tC (.int 256)) (tVar 3))) (tVar 5)) (tNil)))))
    (tRet (tOp rShl (tVar 4) (tOp rMul (tC (.int 256)) (tVar 3))))))
theorem pure__law_filled {c : Cs} (G : GoodS c) (vs : List V) (H : Hp) (Q : VK) (E : XK) (h : sp__law_filled c vs H Q E) : t__law_filled c E { nx := fun _ H' => Q .non H', rt := Q } (start ["_law_numbers_here", "_law_begin_here", "_law_cell", "_law_at", "_law_bits_here", "_law_low"] vs) H := by
  obtain ⟨a, d, m, w, n, rfl, hs, hw, hn, hQ⟩ := h
  unfold t__law_filled
  show tSeq _ _ _ [some (.ref a), some (.int ((256 * w : Nat) : Int)), some (.int (n : Int)), none, none, none] H
  walk_at "go"
  obtain ⟨k, hk, hk2⟩ : ∃ k : Nat, (n : Int) % 12 = k ∧ k < 12 := ⟨n % 12, by omega, by omega⟩
  obtain ⟨r, hr, hr2⟩ : ∃ r : Nat, (n : Int) / 12 = r ∧ r < 4611686018427387904 := ⟨n / 12, by omega, by omega⟩
  rw [hk, hr]
  refine ⟨r, rfl, hr2, fun b H1 hb s1 => ?_⟩
  walk_at "go"
  refine .inl ?_
  walk_at "go"
  refine ⟨b, rfl, lt_pow_mono hb (by decide), fun p H2 s2 np hp => ?_⟩
  have hs2 := (hs.same s1).same s2
  refine ⟨p, rfl, ⟨_, SqL.of hp⟩, for_list (K := c.K) (a := p) (xs := (nz (bitsOf b)).map V.int) (fun i σ Hf => ∃ v, σ = [some (.ref a), some (.int ((256 * w : Nat) : Int)), some (.int (n : Int)), some (.int (k : Int)), some (.int (b : Int)), v] ∧ But d H2 Hf ∧ SetAt c Hf a d ((m ||| orV (((nz (bitsOf b)).map V.int).take i) * 2 ^ (256 * k)) * 2 ^ (256 * w)))
    ⟨none, rfl, But.refl _ _, ?_⟩ (fun i σ Hf _ ⟨_, _, b1, _⟩ => b1.seq hs2.d (SqL.of hp)) ?_ ?_⟩
  · rw [List.take_zero]
    have : orV [] = 0 := rfl
    rw [this]; simpa using hs2
  · rintro i y σ Hf hi ⟨v, rfl, b1, sf⟩
    obtain ⟨l, hl, rfl⟩ := nz_get hi
    have hl2 := bitsOf_lt hb (List.mem_of_getElem? hl)
    walk_at "go"
    refine sf.at (m := "put") (fam := fam_put c) ⟨rfl, rfl⟩ (by decide +kernel) ?_
    walk_at "go"
    have e : ((256 * w : Nat) : Int) + 256 * (k : Int) + (l : Int) = ((256 * w + (256 * k + l) : Nat) : Int) := by omega
    rw [e]
    refine ⟨a, d, _, _, rfl, sf, .int _, fun n2 H3 e2 hn2 b3 s3 => ?_, fun z => by rw [num_of (by omega)] at z; cases z⟩
    have e2 : n2 = 256 * w + (256 * k + l) := by have := V.int.inj e2; omega
    subst e2
    rw [win_or] at s3
    refine ⟨_, rfl, b1.trans b3, ?_⟩
    rw [take_more hi, orV_snoc, lowN_nat]
    have e4 : m ||| orV (((nz (bitsOf b)).map V.int).take i) * 2 ^ (256 * k) ||| 2 ^ (256 * k + l) = m ||| (orV (((nz (bitsOf b)).map V.int).take i) ||| 2 ^ l) * 2 ^ (256 * k) := by
      rw [← win_or (m := orV (((nz (bitsOf b)).map V.int).take i)) (w := k), Nat.or_assoc]
    rw [e4] at s3
    exact s3
  · rintro σ Hf ⟨v, rfl, b1, sf⟩
    rw [List.take_length, orV_nz (b := b) fun x => Iff.rfl] at sf
    walk_at "go1"
    refine w_op ?_
    walk_at "go"
    have hk3 : (256 : Int) * (k : Int) = ((256 * k : Nat) : Int) := by omega
    have hlt : b * 2 ^ (256 * k) < 2 ^ 3072 := by
      have h1 : b * 2 ^ (256 * k) < 2 ^ 256 * 2 ^ (256 * k) := Nat.mul_lt_mul_of_pos_right hb (Nat.two_pow_pos _)
      rw [← Nat.pow_add] at h1
      exact lt_pow_mono h1 (by omega)
    rw [hk3]
    refine ⟨_, _, rfl, rfl, CShl_nat hb (by omega) (by omega), ?_⟩
    have e5 : (b : Int) * 2 ^ ((256 * k : Nat) : Int).toNat = ((b * 2 ^ (256 * k) : Nat) : Int) := by rw [Int.toNat_natCast, Int.natCast_mul, Int.natCast_pow]; rfl
    show Q (.int ((b : Int) * 2 ^ ((256 * k : Nat) : Int).toNat)) Hf
    rw [e5]
    exact hQ _ Hf hlt ((But.of s1).trans ((But.of s2).trans b1)) sf
/-! ### a stretch put in, taken out, turned about -/
theorem lastV_int (x : V) (i : Int) : lastV x (.int i) = .int i := by unfold lastV; rw [if_neg (by simp)]
/-- the promise of a deed, by a stretch that is one -/
theorem deed_of {c : Cs} {k : Wy} {H : Hp} {Q : VK} {E : XK} {a d N : Nat} {y : V} {m n : Nat} (hs : SetAt c H a d N) (hT : LamX.Tabs c.T H) (hy : lastV (.int (m : Int)) y = .int (n : Int)) (ky : Kn H y) (h1 : m ≤ n) (h2 : n - m ≤ 99999) (h3 : n < 16777216)
    (hQ : ∀ H', ButX d H H' → LamX.Tabs c.T H' → SetAt c H' a d (k.op N (mask m n)) → Q (.int ((popc (k.op N (mask m n)) : Int) - (popc N : Int))) H') : sp_deed c k [.ref a, .int (m : Int), y] H Q E := by
  refine ⟨a, d, N, .int (m : Int), y, rfl, hs, .int _, ky, hT, fun m2 n2 H' e1 e2 _ _ _ b t s => ?_, fun z => ?_, fun m2 n2 e1 e2 _ _ z => ?_⟩
  · have e1 : m2 = m := by have := V.int.inj e1; omega
    rw [hy] at e2
    have e2 : n2 = n := by have := V.int.inj e2; omega
    subst e1 e2
    exact hQ H' b t s
  · rw [hy] at z
    rcases z with z | z <;> rw [num_of (by omega)] at z <;> cases z
  · have e1 : m2 = m := by have := V.int.inj e1; omega
    rw [hy] at e2
    have e2 : n2 = n := by have := V.int.inj e2; omega
    omega
/-- the bits of a window -/
theorem win_op {k : Wy} {m w f l : Nat} : k.op (m * 2 ^ (256 * w)) (mask (256 * w + f) (256 * w + l)) = k.op m (mask f l) * 2 ^ (256 * w) := by
  rw [mask_shift, op_mul]
/-! ### a set as the laws build it -/
theorem ext_new {d : Addr} {H H1 H2 : Hp} (s : Same H H1) (nd : H d = none) (b : ButX d H1 H2) : LamX.ExtN H H2 := fun p o h t => b p o (ne_of_none h nd) t (s p o h)
def sp__law_built (c : Cs) : Sp := fun vs H Q _ => ∃ (a : Addr) (ns : List Int) (w : Nat), vs = [.ref a, .int ((256 * w : Nat) : Int)] ∧ SqL c.K H a (ns.map V.int) ∧ LamX.Tabs c.T H ∧ w + 12 ≤ 65536 ∧
  ∀ (x d m p : Nat) (H' : Hp), m < 2 ^ 3072 → H x = none → H d = none → LamX.ExtN H H' → LamX.Tabs c.T H' → SetAt c H' x d (m * 2 ^ (256 * w)) → H' p = some (.tup [.ref x, .int (m : Int)]) → Q (.ref p) H'
theorem len__law_built (c : Cs) : ∀ vs H Q E, sp__law_built c vs H Q E → vs.length = (["_law_script", "_law_begin_here"] : List Str).length := by
  rintro vs H Q E ⟨a, ns, w, rfl, _⟩; rfl
/-- _law_built -/
def t__law_built (c : Cs) (E : XK) : TS :=
  tSeq (tAsg (tMake c.set (sp_NumberSet___init__ c) [.non] E tNil) (gName 2))
    (tSeq (tAsg (tC (.int 0)) (gName 3))
    (tSeq (tFor (iRng1 (tCons (tOp rMod (tCall (sp__law_cell_at c) [] E (tCons (tVar 0) (tCons (tC (.int 1)) (tNil)))) (tC (.int 5))) (tNil))) (gName 4) (tAug 3 (tCall (sp__law_filled c) [] E (tCons (tVar 2) (tCons (tVar 1) (tCons (tCall (sp__law_cell_at c) [] E (tCons (tVar 0) (tCons (tOp rAdd (tC (.int 50)) (tVar 4)) (tNil)))) (tNil))))) pBor))
    (tSeq (tFor (iRng1 (tCons (tOp rMod (tCall (sp__law_cell_at c) [] E (tCons (tVar 0) (tCons (tC (.int 2)) (tNil)))) (tC (.int 6))) (tNil))) (gName 4) (tSeq (tAsg (tCall (sp__law_stretch c) [] E (tCons (tCall (sp__law_cell_at c) [] E (tCons (tVar 0) (tCons (tOp rAdd (tC (.int 60)) (tVar 4)) (tNil)))) (tNil))) (gTup c.K 2 (gCons (gName 5) (gCons (gName 6) (gNil)))))
    (tSeq (tDrop (tMethF (fam_turn c) "turn" [] E (tVar 2) (tCons (tOp rAdd (tVar 1) (tVar 5)) (tCons (tOp rAdd (tVar 1) (tVar 6)) (tNil)))))
    (tAug 3 (tCall (sp__law_bits c) [] E (tCons (tVar 5) (tCons (tVar 6) (tNil)))) pBxo))))
    (tRet (tTup (tCons (tVar 2) (tCons (tVar 3) (tNil))))))))
theorem pure__law_built {c : Cs} (G : GoodS c) (vs : List V) (H : Hp) (Q : VK) (E : XK) (h : sp__law_built c vs H Q E) : t__law_built c E { nx := fun _ H' => Q .non H', rt := Q } (start ["_law_script", "_law_begin_here", "_law_numbers_here", "_law_mask", "_law_k", "_law_first", "_law_last"] vs) H := by
  obtain ⟨a, ns, w, rfl, ha, hT, hw, hQ⟩ := h
  unfold t__law_built
  show tSeq _ _ _ [some (.ref a), some (.int ((256 * w : Nat) : Int)), none, none, none, none, none] H
  walk_at "go"
  refine mk_set (c := c) (xs := []) rfl (.inl ⟨rfl, rfl⟩) (fun y hy => (by cases hy)) (fun _ x d H2 nx nd s2 set2 => ?_) (fun ⟨y, hy, _⟩ => (by cases hy))
  walk_at "go"
  refine ⟨a, ns, 1, rfl, s2.seq ha, by decide, by decide, ?_⟩
  walk_at "go"
  obtain ⟨n1, hn1, hn2⟩ : ∃ n : Nat, (cellN ns 1 : Int) % 5 = n ∧ n < 5 := ⟨cellN ns 1 % 5, by omega, by omega⟩
  rw [hn1]
  refine ⟨_, rfl, by omega, by omega, for_range (lo := 0) (n := (n1 : Int).toNat) (fun i σ Hf => ∃ (m : Nat) (v : Option V), σ = [some (.ref a), some (.int ((256 * w : Nat) : Int)), some (.ref x), some (.int (m : Int)), v, none, none] ∧ But d H2 Hf ∧ SetAt c Hf x d (m * 2 ^ (256 * w)) ∧ m < 2 ^ 3072)
    ⟨0, none, rfl, But.refl _ _, (by simpa [orV] using set2), Nat.two_pow_pos _⟩ ?_ ?_⟩
  · rintro i σ Hf hi ⟨m, v, rfl, bf, setf, hm⟩
    walk_at "go"
    refine ⟨a, ns, _, rfl, bf.seq set2.d (s2.seq ha), by omega, by omega, ?_⟩
    walk_at "go"
    refine ⟨x, d, m, w, _, rfl, setf, by omega, cellN_lt _ _, fun b H3 hb b3 s3 => ?_⟩
    walk_at "go"
    rw [or_cast]
    exact ⟨_, _, rfl, bf.trans b3, s3, Nat.or_lt_two_pow hm hb⟩
  rintro σ Hf ⟨m, v, rfl, bf, setf, hm⟩
  have haf := bf.seq set2.d (s2.seq ha)
  have hTf := tabs_but (hT.ext s2) bf set2.d
  walk_at "go"
  refine ⟨a, ns, 2, rfl, haf, by decide, by decide, ?_⟩
  walk_at "go"
  obtain ⟨n3, hn3, hn4⟩ : ∃ n : Nat, (cellN ns 2 : Int) % 6 = n ∧ n < 6 := ⟨cellN ns 2 % 6, by omega, by omega⟩
  rw [hn3]
  refine ⟨_, rfl, by omega, by omega, for_range (lo := 0) (n := (n3 : Int).toNat) (fun i σ Hg => ∃ (m : Nat) (v4 v5 v6 : Option V), σ = [some (.ref a), some (.int ((256 * w : Nat) : Int)), some (.ref x), some (.int (m : Int)), v4, v5, v6] ∧ ButX d H2 Hg ∧ LamX.Tabs c.T Hg ∧ SetAt c Hg x d (m * 2 ^ (256 * w)) ∧ m < 2 ^ 3072)
    ⟨m, _, _, _, rfl, bf.x, hTf, setf, hm⟩ ?_ ?_⟩
  · rintro i σ Hg hi ⟨m, v4, v5, v6, rfl, bg, hTg, setg, hm⟩
    walk_at "go"
    refine ⟨a, ns, _, rfl, bg.seq set2.d (s2.seq ha), by omega, by omega, ?_⟩
    walk_at "go"
    refine ⟨_, rfl, cellN_lt _ _, fun f l p H3 hfl hl3 s3 np hp => ?_⟩
    walk_at "go"
    refine ⟨p, _, rfl, SqT.of hp, rfl, ?_⟩
    walk_at "go"
    have set3 := setg.same s3
    refine set3.at (m := "turn") (fam := fam_turn c) ⟨rfl, rfl⟩ (by decide +kernel) ?_
    walk_at "go"
    have ef : ((256 * w : Nat) : Int) + (f : Int) = ((256 * w + f : Nat) : Int) := by omega
    have el : ((256 * w : Nat) : Int) + (l : Int) = ((256 * w + l : Nat) : Int) := by omega
    rw [ef, el]
    refine deed_of set3 (hTg.ext s3) (lastV_int _ _) (.int _) (by omega) (by omega) (by omega) fun H4 b4 t4 set4 => ?_
    rw [win_op] at set4
    walk_at "go"
    refine ⟨f, l, rfl, by omega, by omega, ?_⟩
    walk_at "go"
    rw [xor_cast]
    exact ⟨_, _, _, _, rfl, (bg.trans (ButX.same s3)).trans b4, t4, set4, op_lt (k := .turnA) hm (mask_lt hl3)⟩
  rintro σ Hg ⟨m, v4, v5, v6, rfl, bg, hTg, setg, hm⟩
  walk_at "go"
  refine ⟨sz5 (by simp), fun p np => ?_⟩
  generalize ep : upd Hg p _ = Hh
  obtain ⟨sHh, hp, dHh⟩ := new_of np ep
  have bh := bg.trans (ButX.same sHh)
  exact hQ x d m p Hh hm nx nd (ext_new s2 nd bh) (hTg.ext sHh) (setg.same sHh) hp
/-! ### data stay -/
mutual
theorem dp_to {K : PySem.W.Frag} {H H' : Hp} (e1 : ∀ p xs, SqL K H p xs → SqL K H' p xs) (e2 : ∀ p xs, SqT K H p xs → SqT K H' p xs) : ∀ (d : PyData) (v : V), Dp K H v d → Dp K H' v d
  | .none, _, h => by cases h; exact .non
  | .bool b, _, h => by cases h; exact .bl b
  | .int b, _, h => by cases h; exact .int b
  | .str b, _, h => by cases h; exact .str b
  | .list ds, _, h => by
    cases h with
    | lst h1 h2 => exact .lst (e1 _ _ h1) (dpa_to e1 e2 ds _ h2)
  | .tuple ds, _, h => by
    cases h with
    | tup h1 h2 => exact .tup (e2 _ _ h1) (dpa_to e1 e2 ds _ h2)
  | .dict _, _, h => by cases h
theorem dpa_to {K : PySem.W.Frag} {H H' : Hp} (e1 : ∀ p xs, SqL K H p xs → SqL K H' p xs) (e2 : ∀ p xs, SqT K H p xs → SqT K H' p xs) : ∀ (ds : List PyData) (vs : List V), DpAll K H vs ds → DpAll K H' vs ds
  | [], _, h => by cases h; exact .nil
  | d :: ds, _, h => by
    cases h with
    | cons h1 h2 => exact .cons (dp_to e1 e2 d _ h1) (dpa_to e1 e2 ds _ h2)
end
theorem ButX.sqt {K : PySem.W.Frag} {d p : Addr} {H H1 : Hp} {xs : List V} (b : ButX d H H1) (hd : ∃ kvs, H d = some (.dK kvs)) (h : SqT K H p xs) : SqT K H1 p xs := by
  obtain ⟨kvs, hd⟩ := hd
  rcases h with (h | ⟨o, h⟩) | h
  · exact .inl (.inl (b p _ (ne_of h hd (by intro z; cases z)) (fun _ z => by cases z) h))
  · exact .inl (.inr ⟨o, b p _ (ne_of h hd (by intro z; cases z)) (fun _ z => by cases z) h⟩)
  · exact .inr h
theorem ButX.dp {K : PySem.W.Frag} {d : Addr} {H H1 : Hp} {v : V} {x : PyData} (b : ButX d H H1) (hd : ∃ kvs, H d = some (.dK kvs)) (h : Dp K H v x) : Dp K H1 v x := dp_to (fun _ _ q => b.seq hd q) (fun _ _ q => b.sqt hd q) x v h
local macro_rules | `(tactic| walk_at "go1") => `(tactic| with_reducible refine w_lam ?_)
/-! ### two sets -/
theorem same_new {d : Addr} {H H1 H2 : Hp} (s : Same H H1) (nd : H d = none) (b : But d H1 H2) : Same H H2 := fun p o h => b p o (ne_of_none h nd) (s p o h)
def sp_together (c : Cs) : Sp := fun vs H Q _ => ∃ (a d N b e M f : Nat) (k : Wy), vs = [.ref a, .ref b, .ref f] ∧ SetAt c H a d N ∧ SetAt c H b e M ∧ WayAt c H f k ∧
  ∀ (x y : Nat) (H' : Hp), H x = none → H y = none → Same H H' → SetAt c H' x y (k.op N M) → Q (.ref x) H'
theorem len_together (c : Cs) : ∀ vs H Q E, sp_together c vs H Q E → vs.length = (["one", "other", "way"] : List Str).length := by
  rintro vs H Q E ⟨a, d, N, b, e, M, f, k, rfl, _⟩; rfl
/-- together -/
def t_together (c : Cs) (E : XK) : TS :=
  tSeq (tAsg (tMake c.set (sp_NumberSet___init__ c) [.non] E tNil) (gName 3))
    (tSeq (tFor (iSeq c.K (tOp rAdd (tMethF (fam_uppers c) "uppers" [] E (tVar 0) tNil) (tMethF (fam_uppers c) "uppers" [] E (tVar 1) tNil))) (gName 4) (tDrop (tMethF (fam_set_bits c) "set_bits" [] E (tVar 3) (tCons (tVar 4) (tCons (tWay c 2 (tCons (tMethF (fam_bits_at c) "bits_at" [] E (tVar 0) (tCons (tVar 4) (tNil))) (tCons (tMethF (fam_bits_at c) "bits_at" [] E (tVar 1) (tCons (tVar 4) (tNil))) (tNil)))) (tNil))))))
    (tRet (tVar 3)))
theorem ups_list {N u : Nat} (h : N.testBit u = true) (hb : In24 N) : u / 256 ∈ upsOf N := by
  rw [mem_ups hb, sl_ne]
  refine ⟨u % 256, by omega, ?_⟩
  have e : 256 * (u / 256) + u % 256 = u := by omega
  rw [e]; exact h
theorem pure_together {c : Cs} (G : GoodS c) (vs : List V) (H : Hp) (Q : VK) (E : XK) (h : sp_together c vs H Q E) : t_together c E { nx := fun _ H' => Q .non H', rt := Q } (start ["one", "other", "way", "found", "upper"] vs) H := by
  obtain ⟨a, d, N, b, e, M, f, k, rfl, hs, hs', hw, hQ⟩ := h
  unfold t_together
  show tSeq _ _ _ [some (.ref a), some (.ref b), some (.ref f), none, none] H
  walk_at "go"
  refine mk_set (c := c) (xs := []) rfl (.inl ⟨rfl, rfl⟩) (fun y hy => (by cases hy)) (fun _ x y H1 nx ny s1 set1 => ?_) (fun ⟨y, hy, _⟩ => (by cases hy))
  have hs1 := hs.same s1
  have hs1' := hs'.same s1
  walk_at "go"
  refine .inl ?_
  walk_at "go"
  refine hs1.at (m := "uppers") (fam := fam_uppers c) ⟨rfl, rfl⟩ (by decide +kernel) ?_
  walk_at "go"
  refine ⟨a, d, N, rfl, hs1, fun p H2 s2 np hp => ?_⟩
  have hs2' := hs1'.same s2
  walk_at "go"
  refine hs2'.at (m := "uppers") (fam := fam_uppers c) ⟨rfl, rfl⟩ (by decide +kernel) ?_
  walk_at "go"
  refine ⟨b, e, M, rfl, hs2', fun q H3 s3 nq hq => ?_⟩
  walk_at "go"
  have l1 := ups_len N
  have l2 := ups_len M
  by_cases hbig : ((nz (upsOf N)).map V.int).length + ((nz (upsOf M)).map V.int).length ≤ sizeLine
  · refine .inr (.inr ⟨p, q, _, _, rfl, rfl, s3 _ _ hp, hq, hbig, ?_⟩)
    rw [nzv_app]
    intro r nr
    generalize er : upd H3 r _ = H4
    obtain ⟨sH4, hr, dH4⟩ := new_of nr er
    have s14 := (s2.trans s3).trans sH4
    have set4 := set1.same s14
    refine ⟨r, rfl, ⟨_, SqL.of hr⟩, for_list (K := c.K) (a := r) (xs := (nz (upsOf N ++ upsOf M)).map V.int) (fun i σ Hf => ∃ v P, σ = [some (.ref a), some (.ref b), some (.ref f), some (.ref x), v] ∧ But y H4 Hf ∧ SetAt c Hf x y P ∧ ∀ j, P.testBit j = (decide (j / 256 ∈ (upsOf N ++ upsOf M).take i) && (k.op N M).testBit j))
      ⟨none, 0, rfl, But.refl _ _, (by simpa [orV] using set4), fun j => by simp⟩ (fun i σ Hf _ ⟨_, _, _, bf, _⟩ => bf.seq set4.d (SqL.of hr)) ?_ ?_⟩
    · rintro i z σ Hf hi ⟨v, P, rfl, bf, setf, hP⟩
      obtain ⟨u, hu, rfl⟩ := nz_get hi
      have hlt : u < 65536 := by
        rcases List.mem_append.mp (List.mem_of_getElem? hu) with h | h <;> exact ups_lt h
      have hsf := (hs1.same s14).but bf set4.d (fun e2 => by
        obtain ⟨kv, h1⟩ := hs.d
        rw [e2] at h1
        rw [h1] at ny
        cases ny)
      have hsf' := (hs1'.same s14).but bf set4.d (fun e2 => by
        obtain ⟨kv, h1⟩ := hs'.d
        rw [e2] at h1
        rw [h1] at ny
        cases ny)
      have wf := (hw.same (s1.trans s14)).but bf set4.d
      walk_at "go"
      refine setf.at (m := "set_bits") (fam := fam_set_bits c) ⟨rfl, rfl⟩ (by decide +kernel) ?_
      walk_at "go"
      refine w_way rfl wf ?_
      walk_at "go"
      refine hsf.at (m := "bits_at") (fam := fam_bits_at c) ⟨rfl, rfl⟩ (by decide +kernel) ?_
      walk_at "go"
      refine ⟨a, d, _, u, rfl, hsf, ?_⟩
      walk_at "go"
      refine hsf'.at (m := "bits_at") (fam := fam_bits_at c) ⟨rfl, rfl⟩ (by decide +kernel) ?_
      walk_at "go"
      refine ⟨b, e, _, u, rfl, hsf', ?_⟩
      walk_at "go"
      refine ⟨_, _, rfl, wf, ?_⟩
      walk_at "go"
      have hop : k.op (sl N u) (sl M u) < 2 ^ 256 := op_lt (sl_lt _ _) (sl_lt _ _)
      refine ⟨x, y, P, u, _, rfl, setf, hlt, hop, fun H5 b5 s5 => ?_⟩
      walk_at "go"
      refine ⟨_, _, rfl, bf.trans b5, s5, fun j => ?_⟩
      rw [setSl_bit hop, take_more hu]
      by_cases c2 : j / 256 = u
      · rw [if_pos c2, decide_eq_true (List.mem_append_right _ (by rw [c2]; exact List.mem_singleton.mpr rfl)), Bool.true_and, op_bit, op_bit, sl_bit, sl_bit, decide_eq_true (show j % 256 < 256 by omega), Bool.true_and, Bool.true_and]
        have e3 : 256 * u + j % 256 = j := by omega
        rw [e3]
      · rw [if_neg c2, hP j]
        have : decide (j / 256 ∈ (upsOf N ++ upsOf M).take i ++ [u]) = decide (j / 256 ∈ (upsOf N ++ upsOf M).take i) := by
          rw [decide_eq_decide, List.mem_append, List.mem_singleton]
          exact ⟨fun h => h.elim id fun h => absurd h c2, .inl⟩
        rw [this]
    · rintro σ Hf ⟨v, P, rfl, bf, setf, hP⟩
      rw [nzv_len, List.take_length] at hP
      have hPe : P = k.op N M := by
        apply Nat.eq_of_testBit_eq
        intro j
        rw [hP j]
        by_cases hj : j / 256 ∈ upsOf N ++ upsOf M
        · rw [decide_eq_true hj, Bool.true_and]
        · rw [decide_eq_false hj, Bool.false_and, op_bit]
          have n1 : N.testBit j = false := by
            cases z : N.testBit j with
            | false => rfl
            | true => exact absurd (List.mem_append_left _ (ups_list z hs.b)) hj
          have n2 : M.testBit j = false := by
            cases z : M.testBit j with
            | false => rfl
            | true => exact absurd (List.mem_append_right _ (ups_list z hs'.b)) hj
          rw [n1, n2, bop_ff]
      subst hPe
      walk_at "go"
      exact hQ x y Hf nx ny (same_new (s1.trans s14) ny bf) setf
  · exact absurd (by rw [nzv_len, nzv_len]; have : (sizeLine : Nat) = 16777216 := rfl; omega) hbig
/-! ### joined, met, less, apart, same, within -/
/-- nothing but a table may have stood there -/
def Nw (H : Hp) (x : Addr) : Prop := ∀ o, H x = some o → ∃ ps, o = .tbl ps
def sp_two (c : Cs) (k : Wy) : Sp := fun vs H Q _ => ∃ (a d N b e M : Nat), vs = [.ref a, .ref b] ∧ SetAt c H a d N ∧ SetAt c H b e M ∧ LamX.Tabs c.T H ∧
  ∀ (x y : Nat) (H' : Hp), Nw H x → Nw H y → LamX.ExtN H H' → LamX.Tabs c.T H' → SetAt c H' x y (k.op N M) → Q (.ref x) H'
def sp_apart (c : Cs) : Sp := sp_two c .apartW
theorem Nw.of {H : Hp} {x : Addr} (h : H x = none) : Nw H x := fun o e => by rw [h] at e; cases e
theorem Nw.ext {H H' : Hp} {x : Addr} (e : LamX.ExtN H H') (h : Nw H' x) : Nw H x := fun o q => by
  apply Classical.byContradiction
  intro t
  obtain ⟨ps, rfl⟩ := h o (e x o q fun ps z => t ⟨ps, z⟩)
  exact t ⟨ps, rfl⟩
theorem two_pure {c : Cs} {k : Wy} {E : XK} {H : Hp} {Q : VK} {vs : List V} (h : sp_two c k vs H Q E) :
    tRet (tCall (sp_together c) [] E (tCons (tVar 0) (tCons (tVar 1) (tCons (tLam c.T (c.way k)) (tNil))))) { nx := fun _ H' => Q .non H', rt := Q } (start ["one", "other"] vs) H := by
  obtain ⟨a, d, N, b, e, M, rfl, hs, hs', hT, hQ⟩ := h
  show tRet _ _ [some (.ref a), some (.ref b)] H
  walk_at "go"
  refine ⟨hT, fun f z H1 e1 T1 nf hf hz => ?_⟩
  walk_at "go"
  refine ⟨a, d, N, b, e, M, f, k, rfl, hs.ext e1, hs'.ext e1, ⟨z, hf, hz⟩, fun x y H2 nx ny s2 set2 => ?_⟩
  exact hQ x y H2 ((Nw.of nx).ext e1) ((Nw.of ny).ext e1) (e1.trans (.of s2)) (T1.ext s2) set2
theorem len_apart (c : Cs) : ∀ vs H Q E, sp_apart c vs H Q E → vs.length = (["one", "other"] : List Str).length := by
  rintro vs H Q E ⟨a, d, N, b, e, M, rfl, _⟩; rfl
/-- apart -/
def t_apart (c : Cs) (E : XK) : TS :=
  tRet (tCall (sp_together c) [] E (tCons (tVar 0) (tCons (tVar 1) (tCons (tLam c.T (c.way .apartW)) (tNil)))))
theorem pure_apart {c : Cs} (G : Good c) (vs : List V) (H : Hp) (Q : VK) (E : XK) (h : sp_apart c vs H Q E) : t_apart c E { nx := fun _ H' => Q .non H', rt := Q } (start ["one", "other"] vs) H := by
  unfold t_apart
  exact two_pure h
theorem popc_none {b : Nat} : popc b = 0 ↔ b = 0 := by
  constructor
  · intro h
    apply Classical.byContradiction
    intro c
    have := popc_pos (Nat.pos_of_ne_zero c)
    omega
  · intro h; subst h; exact popc_zero
theorem xor_none {a b : Nat} : a ^^^ b = 0 ↔ a = b := by
  constructor
  · intro h
    apply Nat.eq_of_testBit_eq
    intro i
    have := congrArg (fun z => z.testBit i) h
    simp only [Nat.testBit_xor, Nat.zero_testBit] at this
    cases e1 : a.testBit i <;> cases e2 : b.testBit i <;> rw [e1, e2] at this <;> first | rfl | cases this
  · intro h; subst h; exact Nat.xor_self a
def sp_same (c : Cs) : Sp := fun vs H Q _ => ∃ (a d N b e M : Nat), vs = [.ref a, .ref b] ∧ SetAt c H a d N ∧ SetAt c H b e M ∧ LamX.Tabs c.T H ∧ ∀ H', LamX.ExtN H H' → LamX.Tabs c.T H' → Q (.bl (decide (N = M))) H'
theorem len_same (c : Cs) : ∀ vs H Q E, sp_same c vs H Q E → vs.length = (["one", "other"] : List Str).length := by
  rintro vs H Q E ⟨a, d, N, b, e, M, rfl, _⟩; rfl
/-- same -/
def t_same (c : Cs) (E : XK) : TS :=
  tRet (tOp (rEqu c.K) (tMethF (fam_countS c) "count" [] E (tCall (sp_apart c) [] E (tCons (tVar 0) (tCons (tVar 1) (tNil)))) tNil) (tC (.int 0)))
theorem pure_same {c : Cs} (G : Good c) (vs : List V) (H : Hp) (Q : VK) (E : XK) (h : sp_same c vs H Q E) : t_same c E { nx := fun _ H' => Q .non H', rt := Q } (start ["one", "other"] vs) H := by
  obtain ⟨a, d, N, b, e, M, rfl, hs, hs', hT, hQ⟩ := h
  unfold t_same
  show tRet _ _ [some (.ref a), some (.ref b)] H
  walk_at "go"
  refine ⟨a, d, N, b, e, M, rfl, hs, hs', hT, fun x y H1 nx ny e1 T1 set1 => ?_⟩
  refine set1.at (m := "count") (fam := fam_countS c) ⟨rfl, rfl⟩ (by decide +kernel) ?_
  walk_at "go"
  refine ⟨x, y, _, rfl, set1, fun H2 s2 => ?_⟩
  walk_at "go"
  have q : decide (((popc (Wy.op .apartW N M) : Nat) : Int) = 0) = decide (N = M) := by
    rw [decide_eq_decide]
    have h1 : popc (Wy.op .apartW N M) = 0 ↔ N = M := popc_none.trans xor_none
    rw [← h1]; omega
  rw [q]
  exact hQ H2 (e1.trans (.of s2)) (T1.ext s2)
/-! an exception out of a list comprehension -/
/-- a heap without one place -/
theorem lose (h : Heap) (C : Addr) : ∃ G : Heap, (∀ b, b ≠ C → G.get? b = h.get? b) ∧ G.get? C = none := by
  obtain ⟨G, g1, g2⟩ := restrict h fun b => decide (b ≠ C)
  exact ⟨G, fun b hb => g1 b (by simpa using hb), g2 C (by simp)⟩
theorem funFrames_but {B B' h h' : Heap} {C : Addr} (bB : ∀ b, b ≠ C → B'.get? b = B.get? b) (bC : B'.get? C = none) (sb : ∀ b, b ≠ C → h'.get? b = h.get? b) (hC : ∃ o, h'.get? C = some o ∧ ∀ vs, o.data ≠ .fields vs) :
    ∀ {l : List Env}, h.FunFrames B l → h'.FunFrames B' l
  | [], _ => trivial
  | env :: l, ⟨k, ⟨L, o, e1, e2, e3, e4⟩, r⟩ => by
    refine ⟨k, ?_, funFrames_but bB bC sb hC r⟩
    by_cases c : L = C
    · subst c
      obtain ⟨o', q1, q2⟩ := hC
      exact ⟨L, o', e1, bC, q1, q2⟩
    · exact ⟨L, o, e1, (bB L c).trans e2, (sb L c).trans e3, e4⟩
theorem heldZ_but {B B' h h' : Heap} {C L a : Addr} {l : List Env} {Z : Obj → Prop} (hh : HandSPX.HeldZ B l a Z L h) (bB : ∀ b, b ≠ C → B'.get? b = B.get? b) (bC : B'.get? C = none) (sb : ∀ b, b ≠ C → h'.get? b = h.get? b)
    (hC : ∃ o, h.get? C = some o ∧ ∀ vs, o.data ≠ .fields vs) (hC' : ∃ o, h'.get? C = some o ∧ ∀ vs, o.data ≠ .fields vs) : HandSPX.HeldZ B' l a Z L h' := by
  obtain ⟨b1, b0, ff, oe, vs, T, oT, ts, he, hz, hd, h1, hnT, hTe, hT, hdT, h3⟩ := hh
  obtain ⟨oc, c1, c2⟩ := hC
  have aC : a ≠ C := fun e => by
    rw [e, c1] at he
    cases he
    exact c2 _ hd
  have tC : T ≠ C := fun e => by
    rw [e, c1] at hT
    cases hT
    exact c2 _ hdT
  refine ⟨fun b o e => ?_, ?_, funFrames_but bB bC sb hC' ff, oe, vs, T, oT, ts, (sb a aC).trans he, hz, hd, h1, ?_, hTe, (sb T tC).trans hT, hdT, h3⟩
  · by_cases c : b = C
    · rw [c, bC] at e
      cases e
    · rw [bB b c] at e
      exact (sb b c).trans (b1 b o e)
  · rw [bB a aC]
    exact b0
  · rw [bB T tC]
    exact hnT
theorem ns_fields {h : Heap} {C : Addr} {m : Str → Option Value} (n : h.Ns C m) : ∃ o, h.get? C = some o ∧ ∀ vs, o.data ≠ .fields vs := by
  obtain ⟨o, es, ep, h1, h2, r⟩ := n
  exact ⟨o, h1, fun vs q => by rw [h2] at q; cases q⟩
section
variable {X : Cx} {W : WX} {pins : List (Addr × Obj)} {σ : L2.St} {H : Hp} {s s' : Shared} {E : XK} {e : Value} {C : Addr} {ce : Env} {m : Str → Option Value}
/-- what comes out of a call in a comprehension's block goes on in the def -/
theorem blk_raise (I : Inv X pins σ H s) (f : FpOk X pins H C) (hm : s.heap.Ns C m) (tk : L2N.Takes X W) (hW : ∀ cls d H', E cls d H' → W cls d σ H')
    (hs : X.stack = X.env :: X.outer) (hf : X.env.frame = some X.env.locals) (hl : ce.locals = C) (hfr : ce.frame = X.env.frame) (c : L2N.CX X.prog X.w X.stack H s E e s') :
    notedBy (model X.prog X.w) X.A ce (CompFails (model X.prog X.w) X.A X.xe ce) e s' := by
  obtain ⟨a, B, H', cls, d, rfl, fl, hok, ub, na, os, ag, hE⟩ := c
  have J : Inv (X.tr (X.pn ++ pins) X.xe) [] σ H s := I.toTry X.xe
  obtain ⟨a2, B2, sI, pins2, σ2, H2, cls2, d2, ea, I2, nb, up, sky, na2, os2, ag2, w1, w2, w3, w4⟩ :=
    L2N.XE.of_call (X := X.tr (X.pn ++ pins) X.xe) (E := fun c' d' H'' => c' = cls ∧ d' = d ∧ H'' = H') (W := fun c' d' σ' H'' => σ' = σ ∧ c' = cls ∧ d' = d ∧ H'' = H') J (fun _ _ _ h => ⟨rfl, h⟩)
      (u := .ref a) (s' := s') ⟨a, B, H', cls, d, rfl, fl, hok, ub, na, os, ag, rfl, rfl, rfl⟩
  cases ea
  subst w1 w2 w3 w4
  have I3 : Inv X pins σ2 H2 sI := I2.ofTry I.ok
  obtain ⟨f0, f1, f2, f3, f4, f5⟩ := f
  obtain ⟨oc, es, ep, hoc, r⟩ := hm
  have nst : C ∉ frs X.stack := fun z => by
    rcases List.mem_cons.mp (I.stkSub C z) with z | z
    · exact f1 z
    · exact f2 z
  have nC : H2 C = none := ub.free C oc hoc f0
  have hn' : s'.heap.Ns C m := ⟨oc, es, ep, fl.1 C oc (ub.keep C oc hoc f0 nst), r⟩
  have fr : X.A.frames = some (X.env :: X.outer) := by rw [I.ok.frames, hs]
  show wpAny (model X.prog X.w) X.A (noteFrame (.ref a) ce) (fun _ s2 => CompFails (model X.prog X.w) X.A X.xe ce (.ref a) s2) _ s'
  rw [noteFrame_env _ hfr]
  have fin : ∀ h1, HandSPX.HeldZ B2 (X.env :: X.outer) a (L2N.Zn cls2 d2) X.env.locals h1 → s'.heap.UpToSlots h1 → CompFails (model X.prog X.w) X.A X.xe ce (.ref a) { s' with heap := h1 } := by
    intro h1 hh u1
    have n1 : h1.Ns C m := hn'.upToSlots u1
    refine ⟨m, by rw [hl]; exact n1, fun h2 m2 n2 sb2 => ?_⟩
    rw [hl] at n2 sb2
    obtain ⟨B', b1, b2⟩ := lose B2 C
    obtain ⟨G', g1, g2⟩ := lose sI.heap C
    have hh2 : HandSPX.HeldZ B' (X.env :: X.outer) a (L2N.Zn cls2 d2) X.env.locals h2 := heldZ_but hh b1 b2 sb2.2 (ns_fields n1) (ns_fields n2)
    have hh2' := hh2
    obtain ⟨_, _, _, oe, vs, T, oT, ts, he, hz, hd, hv, _⟩ := hh2'
    unfold PySem.passOn
    refine wpAny_bind (wpAny_field he hd hv ?_)
    rw [if_neg (by simp), hfr, hf]
    refine wpAny_bind (HandSPX.setFlight_onZ hh2 fun h3 hh3 u3 => wpAny_throw ?_)
    refine tk _ _ ⟨a, B', { sI with heap := G' }, pins, σ2, H2, cls2, d2, rfl, I3.turned (t' := sI.toks) (it := C) (fun b o hb q => (g1 b hb).trans q) nC f1 f3 f4 f5, fun b o q hb => ?_, fun b o q hnf => ?_, ?_, na2, os2, ag2, hW _ _ _ hE⟩
    · by_cases z : b = C
      · rw [z] at q
        exact absurd (q.symm.trans g2) (by simp)
      · rw [b1 b z]
        exact nb b o ((g1 b z).symm.trans q) hb
    · by_cases z : b = C
      · rw [z] at q
        exact absurd (q.symm.trans g2) (by simp)
      · obtain ⟨t1, q1⟩ := up b o ((g1 b z).symm.trans q) hnf
        obtain ⟨t2, q2⟩ := u1 b _ q1 hnf
        obtain ⟨t3, q3⟩ := u3 b _ ((sb2.2 b z).trans q2) hnf
        exact ⟨t3, q3⟩
    · rw [hs]
      exact .inr (.inr hh3)
  have sky : L2.Sky B2 X.stack a (L2N.Zn cls2 d2) X.env.locals s'.heap := sky
  rw [hs] at sky
  rcases sky with ⟨hB, hn, hfl, oe, vs, he, hz, hd, h1⟩ | fl2 | hh
  · exact PXN.look_newZ L2N.Zn.steady fr hfl hf he hB hn hd h1 hz fin
  · exact PXN.looks_onZ L2N.Zn.steady fr hf fl2 fin
  · exact HandSPX.againZ hf hh.2.2.2 (fin _ hh (Heap.UpToSlots.refl _))
end
/-- the block's context where what is raised meets xe -/
abbrev blkX (X : Cx) (s : Shared) (H : Hp) (scope : Scope) (ce : Env) (fp : List Addr) (xe : Value → Shared → Prop) : Cx := (X.blk s H scope ce fp).tr [] xe
/-- the element lets out what the def lets out -/
abbrev EltX (X : Cx) (EO : XK) (scope : Scope) (elt : Expr) (te : TE) : Prop := ∀ (s : Shared) (H : Hp) (C : Addr) (cl : List (Str × Addr)) (fp : List Addr) (xe : Value → Shared → Prop),
  (∀ E : XK, (∀ cls d H', E cls d H' → EO cls d H') → Passes (L2N.CX X.prog X.w) (blkX X s H scope (compEnvC scope cl C X.env) fp xe) E) →
  PE (blkX X s H scope (compEnvC scope cl C X.env) fp xe) elt te
section
variable {X : Cx} {pins : List (Addr × Obj)} {σ : L2.St} {H : Hp} {s : Shared} {EO : XK}
theorem inv_x {s0 : Shared} {H0 : Hp} {scope : Scope} {ce : Env} {fp : List Addr} {xe : Value → Shared → Prop} (I : Inv (X.blk s0 H0 scope ce fp) [] σ H s) : Inv (blkX X s0 H0 scope ce fp xe) [] σ H s := I.toTry xe
theorem lc_run {Q : VK} {elt tg iter : Expr} {scope : Scope} {own : List (Str × Nat)} {pos pos' : Pos} {wi : TI} {g : TG} {te : TE} {use : Option (Value → Sem Unit)} {Qf : Value → Shared → Prop}
    (hc : X.calm = true) (hN : X.N.Nodup) (hst : X.stack = X.env :: X.outer) (hfr : X.env.frame = some X.env.locals) (tk : L2N.Takes X (fun cls d _ H => EO cls d H)) (I : Inv X pins σ H s) (hi : PI X tg iter wi) (ok : BlkOk X.N X.env.scope scope own)
    (hg : ∀ (s : Shared) (H : Hp) (C : Addr) (cl : List (Str × Addr)) (fp : List Addr) (xe : Value → Shared → Prop), PG (blkX X s H scope (compEnvC scope cl C X.env) fp xe) tg g)
    (he : EltX X EO scope elt te) (hs : ∀ x, foldedSetIterable iter X.env x = pure x)
    (h : tLc wi g tYes te (own.map (·.2)) σ H Q)
    (hend : ∀ D ce s' m H', Inv X pins σ H' s' → Q (.ref D) H' → s'.heap.Ns ce.locals m → FpOk X pins H' ce.locals → compEnds (model X.prog X.w) X.A X.xe use Qf (.ref D) ce (.ok .next) s') :
    wpAny (model X.prog X.w) X.A (comprehension (.ListComp elt [⟨tg, iter, [], 0⟩] scope pos) scope X.env pos' (newList []) false (eval iter X.env) use) Qf X.xe s := by
  have capt : ∀ y ∈ scope.names, y.2 = .free → ∃ c, X.env.cells.lookup y.1 = some c := by
    intro y hy e
    exact (ok.free y hy e).elim (fun k => I.ok.has _ (.inl k)) fun k => I.ok.has _ (.inr k)
  refine comprehension_at (use := use) rfl hs (closure_ok capt) ok.kind (fun y hy e => (ok.uniq y hy).trans (by rw [e])) (thn (hi.run pins s σ H _ I h) fun _ _ hx => thn hx fun _ t ht => ?_)
  obtain ⟨it, fp, tn, J, G, rfl, IG, T, tn0, fpG, q⟩ := ht
  refine wpAny_newObj_type (newEnv_comp ?_) (by show 0 ≤ sizeLine; decide)
  obtain ⟨L, eL⟩ : ∃ L, t.heap.objs.size = L := ⟨_, rfl⟩
  obtain ⟨W, ⟨m0, w0⟩, turn⟩ := q L (IG.hok.fresh (Nat.le_of_eq eL))
  rw [eL]
  obtain ⟨t1, e1⟩ : ∃ t1 : Shared, { t with heap := t.heap.push { cls := .type "list", data := .seq ([] : List Value).toArray } } = t1 := ⟨_, rfl⟩
  have hp1 : t.heap.push { cls := .type "list", data := .seq ([] : List Value).toArray } = t1.heap := by rw [← e1]
  have I1 : Inv X pins σ (upd G L (.lst [])) t1 := by
    rw [← e1]
    refine IG.laid (t' := t.toks) (fun b o e => Heap.get?_push_of_some _ e) (Nat.le_of_eq eL) ⟨Nat.zero_le _, [], 0, .nil, ?_⟩
    rw [← eL]
    exact Heap.get?_push_size _ rfl
  have old : ∀ b ∈ fp, b < t.heap.objs.size := fun b hb => (T.obj _ _ tn0 b hb).elim fun _ z => Heap.lt_size z.1
  have fp1 : ∀ b ∈ fp, FpOk X pins (upd G L (.lst [])) b ∧ b < t1.heap.objs.size := by
    intro b hb
    have lt := old b hb
    have ne : b ≠ L := by rw [← eL]; exact Nat.ne_of_lt lt
    refine ⟨⟨?_, (fpG b hb).2⟩, ?_⟩
    · rw [upd_ne ne]; exact (fpG b hb).1
    · rw [← hp1, Heap.size_push]; exact Nat.lt_succ_of_lt lt
  have tn1 : tn 0 t1.heap := T.keep _ _ _ tn0 fun b _ o e => by rw [← hp1]; exact Heap.get?_push_of_some _ e
  have IB := block_start I1 ok hN fp1
  rw [hp1]
  show codeAny _ _ (.compStart (.ListComp elt [⟨tg, iter, [], 0⟩] scope pos) 0 (.ref it) (.ref L) (compEnvC scope (cellsFrom (t1.heap.objs.size + 1) scope.names (cloFrom X.env.cells scope.names [])) t1.heap.objs.size X.env))
    (compEnds (model X.prog X.w) X.A X.xe use Qf (.ref L) (compEnvC scope (cellsFrom (t1.heap.objs.size + 1) scope.names (cloFrom X.env.cells scope.names [])) t1.heap.objs.size X.env)) { t with heap := pushCells (t1.heap.push { cls := .type "dict", data := .dict #[] }) scope.names }
  have et : ({ t with heap := pushCells (t1.heap.push { cls := .type "dict", data := .dict #[] }) scope.names } : Shared) = { t1 with heap := pushCells (t1.heap.push { cls := .type "dict", data := .dict #[] }) scope.names } := by rw [← e1]
  rw [et]
  have pg0 := hg t1 (upd G L (.lst [])) t1.heap.objs.size (cellsFrom (t1.heap.objs.size + 1) scope.names (cloFrom X.env.cells scope.names [])) fp
  have pe0 := he t1 (upd G L (.lst [])) t1.heap.objs.size (cellsFrom (t1.heap.objs.size + 1) scope.names (cloFrom X.env.cells scope.names [])) fp
  have none1 : ∀ b ∈ fp, (upd G L (.lst [])) b = none := fun b hb => (fp1 b hb).1.1
  obtain ⟨ce, hce⟩ : ∃ ce, compEnvC scope (cellsFrom (t1.heap.objs.size + 1) scope.names (cloFrom X.env.cells scope.names [])) t1.heap.objs.size X.env = ce := ⟨_, rfl⟩
  have cL : ce.locals = t1.heap.objs.size := by rw [← hce]; rfl
  have cF : ce.frame = X.env.frame := by rw [← hce]; rfl
  rw [hce] at IB pg0 pe0 ⊢
  obtain ⟨t2, e2⟩ : ∃ t2 : Shared, { t1 with heap := pushCells (t1.heap.push { cls := .type "dict", data := .dict #[] }) scope.names } = t2 := ⟨_, rfl⟩
  rw [e2] at IB ⊢
  have tn2 : tn 0 t2.heap := T.keep _ _ _ tn1 fun b _ o e => by rw [← e2]; exact pushCells_keeps _ _ _ _ (Heap.get?_push_of_some _ e)
  obtain ⟨H1, eH⟩ : ∃ H1, upd G L (.lst []) = H1 := ⟨_, rfl⟩
  rw [eH] at I1 IB pg0 pe0 w0 none1 fp1
  -- what meets a raise in the block
  obtain ⟨xe, exe⟩ : ∃ xe, notedBy (model X.prog X.w) X.A ce (CompFails (model X.prog X.w) X.A X.xe ce) = xe := ⟨_, rfl⟩
  have back : ∀ {pins' : List (Addr × Obj)} {σ' : L2.St} {H' : Hp} {s' : Shared}, Inv (blkX X t1 H1 scope ce fp xe) pins' σ' H' s' → Inv X pins σ H' s' ∧ FpOk X pins H' ce.locals ∧ ∃ m, s'.heap.Ns ce.locals m := fun {pins' σ' H' s'} I' => by
    refine ⟨I1.call' (ch := fp) I'.os I'.base I'.hok I'.bare fun b hb => ⟨(fp1 b hb).1.2.2.2.1, (fp1 b hb).1.2.1, (fp1 b hb).1.2.2.2.2.1, (fp1 b hb).1.2.2.2.2.2⟩, ?_, ?_⟩
    · have z : H' ce.locals = none := I'.free
      exact I1.fpOk (Nat.le_of_eq cL.symm) z
    · obtain ⟨m, hn, _⟩ := I'.loc
      exact ⟨m, hn⟩
  have pg := pg0 xe
  have pe := pe0 xe (fun E hE pins' σ' H' s' e s'' I' cx => by
    obtain ⟨i1, i2, m, i3⟩ := back I'
    show xe e s''
    rw [← exe]
    exact blk_raise (W := fun cls d _ H => EO cls d H) i1 i2 i3 tk hE hst hfr rfl cF cx)
  have stat : ∀ {σ' : L2.St} {H' : Hp} {s' : Shared}, Inv (blkX X t1 H1 scope ce fp xe) [] σ' H' s' → (∀ b ∈ fp, H' b = none) → ∀ b ∈ fp, FpOk (blkX X t1 H1 scope ce fp xe) [] H' b := fun {σ' H' s'} I' hn b hb =>
    ⟨hn b hb, (I'.ok.exf b hb).1, I'.ok.exfs b hb, .inl hb, fun x c e => (I'.ok.exf b hb).2 x c e, fun p hp => absurd (show p ∈ ([] : List (Addr × Obj)) ++ [] from hp) (by simp)⟩
  have loop : codeAny (model X.prog X.w) X.A (.compLoop (.ListComp elt [⟨tg, iter, [], 0⟩] scope pos) 0 (.ref it) (.ref L) ce) (compEnds (model X.prog X.w) X.A X.xe use Qf (.ref L) ce) t2 := by
    refine compLoop_any (fun n s' => ∃ i H', Inv (blkX X t1 H1 scope ce fp xe) [] (wipe σ (own.map (·.2))) H' s' ∧ tn i s'.heap ∧ (∀ b ∈ fp, H' b = none) ∧ W i n H') ?_ m0 ⟨0, H1, inv_x IB, tn2, none1, w0⟩
    rintro n s5 ⟨i, H5, I5, st5, n5, w5⟩
    have exq : (notedBy (model X.prog X.w) X.A ce fun e s' => compEnds (model X.prog X.w) X.A X.xe use Qf (.ref L) ce (.error e) s') = xe := by
      rw [← exe]
      cases use <;> rfl
    rw [exq]
    rcases turn i n H5 w5 with ⟨stop, qq⟩ | ⟨go, Nx, hNx, step⟩
    · refine thnF (T.done (blkX X t1 H1 scope ce fp xe) rfl rfl rfl hc i [] s5 _ H5 (fun _ _ => False) I5 (stat I5 n5) st5 stop) fun r s6 ⟨hr, I6⟩ => ?_
      subst hr
      obtain ⟨i1, i2, m, i3⟩ := back I6
      exact hend L ce s6 m H5 i1 qq i3 i2
    · refine thnF (T.item (blkX X t1 H1 scope ce fp xe) rfl rfl rfl hc i [] s5 _ H5 (fun _ _ => False) I5 (stat I5 n5) st5 go) fun r s6 ⟨u, hr, h6⟩ => ?_
      subst hr
      refine thnF h6 fun _ s7 ⟨x, H7, I7, r7, y7, st7, n7⟩ => ?_
      have J7 := I7.pinned (stat I7 n7) (T.obj _ _ st7)
      refine thn (pg.run _ s7 _ H7 x u _ J7 r7 (step x H7 y7)) fun _ s8 ⟨σ8, H8, I8, hw8, q8⟩ => ?_
      refine wpAny_tests_nil ?_
      have fin : ∀ {s' : Shared} {H' : Hp}, Inv (blkX X t1 H1 scope ce fp xe) ([] ++ pinsAt fp s7.heap) σ8 H' s' → Nx H' → ∃ m, m < n ∧ ∃ i H', Inv (blkX X t1 H1 scope ce fp xe) [] (wipe σ (own.map (·.2))) H' s' ∧ tn i s'.heap ∧ (∀ b ∈ fp, H' b = none) ∧ W i m H' := by
        intro s' H' I' nx
        obtain ⟨m', hm, w'⟩ := hNx H' nx
        have pin' : ∀ b ∈ fp, ∀ o, s7.heap.get? b = some o → s'.heap.get? b = some o ∧ H' b = none := by
          intro b hb o e
          have z := I'.pin (b, o) (List.mem_append_right _ (List.mem_append_right _ (mem_pinsAt hb e)))
          exact ⟨z.1, z.2.1⟩
        have hl : (wipe σ (own.map (·.2))).length = σ8.length := by rw [← hw8, wipe_length]
        refine ⟨m', hm, i + 1, H', (I'.unpinned (pins := [])).weak hl (fun j v e => ?_), T.keep _ _ _ st7 fun b hb o e => (pin' b hb o e).1, fun b hb => ?_, w'⟩
        · rw [← hw8] at e
          exact (wipe_some e).1
        · exact (T.obj _ _ st7 b hb).elim fun o z => (pin' b hb o z.1).2
      simp only [if_true]
      have q9 : te σ8 H8 _ := q8
      refine thn (pe.run _ s8 σ8 H8 _ I8 q9) fun z s10 ⟨yv, H10, I10, r10, acc, hD10, hz10, nx⟩ => ?_
      exact app_ok (X := blkX X t1 H1 scope ce fp xe) I10 hD10 hz10 r10 fun s11 I11 => fin I11 nx
  exact codeAny_compStart_list loop (T.self X.A 0 _ _ _ tn2 loop)
/-- name = [..], an element may raise -/
theorem ps_setLcX {i : Nat} {y : Str} {py : Pos} {elt tg iter : Expr} {scope : Scope} {own : List (Str × Nat)} {pos spos : Pos} {wi : TI} {g : TG} {te : TE} (hc : X.calm = true) (hst : X.stack = X.env :: X.outer) (hfr : X.env.frame = some X.env.locals) (tk : L2N.Takes X (fun cls d _ H => EO cls d H))
    (hN : X.N.Nodup) (hy : X.N[i]? = some y) (hyl : X.env.scope.names.lookup y = some .local) (hsw : swapsWith (.ListComp elt [⟨tg, iter, [], 0⟩] scope pos) (some (.Name y py)) spos.line X.env = pure true)
    (hi : PI X tg iter wi) (ok : BlkOk X.N X.env.scope scope own)
    (hg : ∀ (s : Shared) (H : Hp) (C : Addr) (cl : List (Str × Addr)) (fp : List Addr) (xe : Value → Shared → Prop), PG (blkX X s H scope (compEnvC scope cl C X.env) fp xe) tg g)
    (he : EltX X EO scope elt te) (hs : ∀ x, foldedSetIterable iter X.env x = pure x := by intro _; rfl) :
    PS X (.Assign [.Name y py] (.ListComp elt [⟨tg, iter, [], 0⟩] scope pos) spos) (tAsg (tLc wi g tYes te (own.map (·.2))) (gName i)) := by
  constructor
  intro pins s σ H D I h
  rw [exec_Assign_Name_used _ _ _ _ hsw]
  refine wpAny_bind (wpAny_standAt (wpAny_bind ?_))
  show wpAny _ X.A (do let _ ← comprehension (.ListComp elt [⟨tg, iter, [], 0⟩] scope pos) scope X.env (firstIterPos [⟨tg, iter, [], 0⟩] pos) (newList []) false (eval iter X.env) (some (assign (.Name y py) X.env))) _ _ s
  refine wpAny_bind (thn (lc_run (Q := fun x H1 => gName i x σ H1 D.nx) (Qf := fun _ s' => SP X pins D .next s') hc hN hst hfr tk I hi ok hg he hs h fun L ce s' m H' I' q hn f => ?_) fun _ s' hq => wpAny_pure (wpAny_pure hq))
  show wpAny _ _ (assign (.Name y py) X.env (.ref L)) _ _ _
  refine wpAny_assign_Name (store_ok2 (v := V.ref L) I' hN hy (.inl hyl) rfl (fun s2 I2 ⟨a, sb, ha⟩ => ?_) (.inr hyl))
  obtain ⟨f0, f1, f2, f3, f4, f5⟩ := f
  have ne : ce.locals ≠ a := ha.elim (fun z => z ▸ f1) fun z e => f4 y a z e.symm
  exact ⟨m, hn.sameBut sb ne, fun h3 sb3 => ⟨_, H', I2.turned (t' := s2.toks) (fun b o hb e => (sb3.2 b hb).trans e) f0 f1 f3 f4 f5, q⟩⟩
end
/-! texts -/
/-! ### rules -/
def rSplitS : V → List V → Hp → VK → Prop := fun x xs H Q => ∃ a b, x = .str a ∧ xs = [.str b] ∧ (b.length == 0) = false ∧ a.length + 2 ≤ sizeLine ∧ rNewStrs (Txt.split a b) H Q
theorem m_splitS {X : Cx} : MtR X "str.split" rSplitS := mt_split
def rStripS : V → List V → Hp → VK → Prop := fun x xs H Q => ∃ a b, x = .str a ∧ xs = [.str b] ∧ a.length ≤ sizeLine ∧ Q (.str (Txt.stripChars a b)) H
theorem m_stripS {X : Cx} : MtR X "str.strip" rStripS := mt_stripChars
def rJoinS (K : PySem.W.Frag) : V → List V → Hp → VK → Prop := fun x xs H Q => ∃ a p, ∃ ys : List Str, x = .str a ∧ xs = [.ref p] ∧ (SqL K H p (ys.map V.str) ∨ SqT K H p (ys.map V.str)) ∧
  (ys.map (·.length)).sum + ys.length * a.length ≤ 16777216 ∧ Q (.str (Txt.join a ys)) H
theorem m_joinS {X : Cx} : MtR X "str.join" (rJoinS X.K) := mt_join
/-- text * int, none or once or some times -/
def rMulS : R2 := fun x y H Q => ∃ (a : Str) (n : Nat), x = .str a ∧ y = .int (n : Int) ∧ n ≤ 1000 ∧ a.length ≤ 1000 ∧ Q (.str (Txt.mul a n)) H
theorem u_mulS {X : Cx} : OpR X (binaryOp .Mult) rMulS := by
  rintro pins s σ H x y u v Q I rx ry ⟨a, n, rfl, rfl, h1, h2, q⟩
  obtain ⟨t, rfl⟩ := rx
  obtain ⟨t', rfl⟩ := ry
  refine SB.mul ⟨?_, fun h3 _ => ?_, fun _ _ => ?_⟩ fun t2 k => ⟨.str (Txt.mul a n), H, I.tok _, ⟨_, rfl⟩, q⟩
  · have e1 : ¬ ((n : Int) < -(2 ^ 63 : Int)) := by omega
    have e2 : ¬ ((n : Int) ≥ 2 ^ 63) := by omega
    rw [decide_eq_false e1, decide_eq_false e2]; rfl
  · have hn : (0 : Int) < n := by omega
    have : (1000 : Int) ≤ (2 ^ 63 - 1) / (n : Int) := by
      rw [Int.le_ediv_iff_mul_le hn]
      omega
    omega
  · rw [Int.toNat_natCast]
    have : a.length * n ≤ 1000 * 1000 := Nat.mul_le_mul h2 h1
    have sl : sizeLine = 16777216 := rfl
    exact decide_eq_false (by rw [sl]; omega)
/-- a text in a text -/
def rInT : R2 := fun x y H Q => ∃ i j, x = .str i ∧ y = .str j ∧ Q (.bl (!(Builtin.Str.occurrences j i 0 j.length 1).isEmpty)) H
theorem u_inT {X : Cx} : OpR X (compareOp .In) rInT := op_in_str
/-! ### a list cut at both ends -/
def trim (g : Nat → Bool) (l : List Nat) : List Nat := ((l.dropWhile g).reverse.dropWhile g).reverse
theorem drop_tw (g : Nat → Bool) : ∀ l : List Nat, l.drop (l.takeWhile g).length = l.dropWhile g
  | [] => rfl
  | a :: l => by
    rw [List.takeWhile_cons, List.dropWhile_cons]
    by_cases h : g a = true
    · rw [if_pos h, if_pos h]; exact drop_tw g l
    · rw [if_neg h, if_neg h]; rfl
theorem tl_strip (x y : Str) : TL.tl (Txt.stripChars x y) = trim y.cps.contains (TL.tl x) := by
  unfold Txt.stripChars
  rw [PySem.W.stripBy_eq]
  unfold PySem.W.stripped
  rw [TL.tl_strSub]
  simp only [if_true]
  show ((TL.tl x).drop ((TL.tl x).takeWhile _).length).take _ = _
  rw [drop_tw]
  unfold trim
  rw [← drop_tw _ ((TL.tl x).dropWhile _).reverse, List.reverse_drop, List.reverse_reverse, List.length_reverse]
  congr 1
  have h1 := TL.len_tl x
  have h2 := congrArg List.length (drop_tw y.cps.contains (TL.tl x))
  rw [List.length_drop] at h2
  show _ = (List.dropWhile y.cps.contains x.cps.toList).length - (List.takeWhile y.cps.contains (List.dropWhile y.cps.contains x.cps.toList).reverse).length
  have h3 : x.length = x.cps.toList.length := h1
  have h4 : x.cps.toList.length - (List.takeWhile y.cps.contains x.cps.toList).length = (List.dropWhile y.cps.contains x.cps.toList).length := h2
  omega
theorem dw_nil {g : Nat → Bool} : ∀ {l : List Nat}, l.dropWhile g = [] ↔ ∀ c ∈ l, g c = true
  | [] => by simp
  | a :: l => by
    rw [List.dropWhile_cons]
    by_cases h : g a = true
    · rw [if_pos h, dw_nil]; simp [h]
    · rw [if_neg h]; simp [h]
theorem trim_nil {g : Nat → Bool} {l : List Nat} : trim g l = [] ↔ ∀ c ∈ l, g c = true := by
  unfold trim
  rw [List.reverse_eq_nil_iff, dw_nil]
  constructor
  · intro h c hc
    by_cases g1 : g c = true
    · exact g1
    · have : c ∈ l.dropWhile g := by
        induction l with
        | nil => cases hc
        | cons a l ih =>
          rw [List.dropWhile_cons] at h ⊢
          by_cases h1 : g a = true
          · rw [if_pos h1] at h ⊢
            rcases List.mem_cons.mp hc with rfl | hc
            · exact absurd h1 g1
            · exact ih h hc
          · rw [if_neg h1]; exact hc
      exact h c (List.mem_reverse.mpr this)
  · intro h c hc
    exact h c ((List.dropWhile_sublist _).subset (List.mem_reverse.mp hc))
/-- nothing goes where both ends stay -/
theorem trim_same {g : Nat → Bool} {l : List Nat} (h : ∀ c ∈ l, g c = false) : trim g l = l := by
  have d : ∀ m : List Nat, (∀ c ∈ m, g c = false) → m.dropWhile g = m := fun m hm => by
    cases m with
    | nil => rfl
    | cons a m => rw [List.dropWhile_cons, if_neg (by rw [hm a List.mem_cons_self]; simp)]
  unfold trim
  rw [d l h, d l.reverse (fun c hc => h c (List.mem_reverse.mp hc)), List.reverse_reverse]
/-! ### a number's text -/
def blank (c : Nat) : Bool := decide (c = 32)
def figure (c : Nat) : Bool := decide (48 ≤ c ∧ c ≤ 57)
theorem has_blank : (Str.ofString " ").cps.contains = blank := by
  have e : (Str.ofString " ").cps = #[32] := by decide +kernel
  rw [e]
  funext c
  unfold blank
  simp
theorem has_figure : (Str.ofString "0123456789").cps.contains = figure := by
  have e : (Str.ofString "0123456789").cps = #[48, 49, 50, 51, 52, 53, 54, 55, 56, 57] := by decide +kernel
  rw [e]
  funext c
  unfold figure
  rw [Bool.eq_iff_iff]
  simp
  omega
/-- what is left without the blanks about it -/
def word (x : Str) : Str := Txt.stripChars x " "
theorem tl_word (x : Str) : TL.tl (word x) = trim blank (TL.tl x) := by
  unfold word
  rw [tl_strip, has_blank]
def okW (x : Str) : Bool := decide (1 ≤ (word x).length) && decide ((word x).length ≤ 8) && (TL.tl (word x)).all figure && decide (NumText.digitsVal (TL.tl (word x)) ≤ 16777215)
def valW (x : Str) : Nat := NumText.digitsVal (TL.tl (word x))
theorem word_figs (x : Str) : Txt.stripChars (word x) "0123456789" = Str.ofString "" ↔ (TL.tl (word x)).all figure = true := by
  have h : TL.tl (Txt.stripChars (word x) "0123456789") = trim figure (TL.tl (word x)) := by rw [tl_strip, has_figure]
  have e0 : TL.tl (Str.ofString "") = [] := by decide +kernel
  rw [List.all_eq_true, ← trim_nil, ← h]
  constructor
  · intro e
    rw [e, e0]
  · intro e
    exact TL.ext_tl (by rw [e, e0])
theorem word_int {x : Str} (h : (TL.tl (word x)).all figure = true) (h1 : 1 ≤ (word x).length) (h2 : (word x).length ≤ 8) : PySem.intText? (word x) = some ((valW x : Nat) : Int) := by
  refine intText_digits (fun c hc => ?_) (fun e => ?_) (by omega)
  · have := List.all_eq_true.mp h c hc
    unfold figure at this
    exact of_decide_eq_true this
  · have h3 : (word x).length = (word x).cps.toList.length := TL.len_tl (word x)
    rw [e] at h3
    simp at h3
    omega
/-- the text of a number -/
def numS (n : Nat) : Str := Str.ofString (toString ((n : Nat) : Int))
theorem tl_numS (n : Nat) : TL.tl (numS n) = TL.numL n := TL.tl_num n
theorem numS_free {n c : Nat} (h : c < 48 ∨ 57 < c) : c ∉ TL.tl (numS n) := by
  rw [tl_numS]
  exact TL.numL_free h
theorem word_numS (n : Nat) : word (numS n) = numS n := by
  refine TL.ext_tl ?_
  rw [tl_word, trim_same]
  intro c hc
  unfold blank
  refine decide_eq_false fun e => ?_
  subst e
  exact numS_free (.inl (by decide)) hc
theorem numS_len {n : Nat} (h : n < 10 ^ 8) : (numS n).length ≤ 8 := by
  rw [TL.len_tl, tl_numS]
  exact TL.numL_len (by decide) h
theorem numS_pos (n : Nat) : 1 ≤ (numS n).length := by
  rw [TL.len_tl, tl_numS]
  exact List.length_pos_iff.mpr (TL.numL_ne n)
theorem okW_numS {n : Nat} (h : n < 16777216) : okW (numS n) = true ∧ valW (numS n) = n := by
  have v : valW (numS n) = n := by
    unfold valW
    rw [word_numS, tl_numS]
    exact TL.numL_val n
  refine ⟨?_, v⟩
  have v' : NumText.digitsVal (TL.tl (word (numS n))) = n := v
  unfold okW
  rw [v', word_numS, decide_eq_true (numS_pos n), decide_eq_true (numS_len (by omega)), decide_eq_true (show n ≤ 16777215 by omega), List.all_eq_true.mpr]
  · rfl
  · intro c hc
    rw [tl_numS] at hc
    unfold figure
    exact decide_eq_true (TL.numL_digits n c hc)
/-! ### a stretch's text -/
def cuts (x : Str) : List Str := Txt.split x "-"
def okS (x : Str) : Bool := decide ((cuts x).length ≤ 2) && (cuts x).all okW
def pairS (x : Str) : Pr := (valW ((cuts x).headD x), valW ((cuts x).getLastD x))
def parts (x : Str) : List Str := Txt.split x ","
theorem cuts_ne (x : Str) : cuts x ≠ [] := fun e => by
  have h := PyProof.Rows.split_pos x "-"
  unfold cuts at e
  rw [e] at h
  simp at h
def stretchS (p : Pr) : Str := if p.2 > p.1 then numS p.1 ++ (Str.ofString "-" ++ numS p.2) else numS p.1
theorem tl_dash : TL.tl (Str.ofString "-") = [45] := by decide +kernel
theorem tl_comma : TL.tl (Str.ofString ",") = [44] := by decide +kernel
theorem stretch_free (p : Pr) : 44 ∉ TL.tl (stretchS p) := by
  unfold stretchS
  split
  · rw [TL.tl_append, TL.tl_append, tl_dash]
    intro h
    rcases List.mem_append.mp h with h | h
    · exact numS_free (.inl (by decide)) h
    · rcases List.mem_append.mp h with h | h
      · simp at h
      · exact numS_free (.inl (by decide)) h
  · exact numS_free (.inl (by decide))
theorem stretch_len {p : Pr} (h1 : p.1 < 16777216) (h2 : p.2 < 16777216) : (stretchS p).length ≤ 17 := by
  have a := numS_len (n := p.1) (by omega)
  have b := numS_len (n := p.2) (by omega)
  have e : (Str.ofString "-").length = 1 := by decide +kernel
  unfold stretchS
  split
  · rw [Str.length_append, Str.length_append, e]; omega
  · omega
theorem cuts_one (n : Nat) : cuts (numS n) = [numS n] := by
  have := TL.split_join (y := Str.ofString "-") (s := 45) (S := []) tl_dash (by decide +kernel) (parts := [numS n]) (by simp) (fun p hp => by
    rw [List.mem_singleton.mp hp]; exact numS_free (.inl (by decide)))
  rw [TL.join_eq] at this
  exact this
theorem cuts_two (m n : Nat) : cuts (numS m ++ (Str.ofString "-" ++ numS n)) = [numS m, numS n] := by
  have := TL.split_join (y := Str.ofString "-") (s := 45) (S := []) tl_dash (by decide +kernel) (parts := [numS m, numS n]) (by simp) (fun p hp => by
    rcases List.mem_cons.mp hp with rfl | hp
    · exact numS_free (.inl (by decide))
    · rw [List.mem_singleton.mp hp]; exact numS_free (.inl (by decide)))
  rw [TL.join_eq] at this
  have e : Str.join (Str.ofString "-") [numS m, numS n] = numS m ++ (Str.ofString "-" ++ numS n) := by
    refine TL.ext_tl ?_
    rw [TL.tl_join, TL.tl_append, TL.tl_append]; rfl
  rw [e] at this
  exact this
theorem okS_stretch {p : Pr} (h1 : p.1 ≤ p.2) (h2 : p.2 < 16777216) : okS (stretchS p) = true ∧ pairS (stretchS p) = p := by
  obtain ⟨a1, a2⟩ := okW_numS (n := p.1) (by omega)
  obtain ⟨b1, b2⟩ := okW_numS (n := p.2) h2
  unfold stretchS okS pairS
  split
  · rw [cuts_two]
    simp only [List.headD_cons, List.getLastD_cons, List.getLastD_nil, List.all_cons, List.all_nil, a1, a2, b1, b2, List.length_cons, List.length_nil]
    exact ⟨rfl, trivial⟩
  · rw [cuts_one]
    have e : p.1 = p.2 := by omega
    simp only [List.headD_cons, List.getLastD_cons, List.getLastD_nil, List.all_cons, List.all_nil, a1, a2, List.length_cons, List.length_nil]
    exact ⟨rfl, by rw [Prod.ext_iff]; exact ⟨rfl, e⟩⟩
/-- the text of some stretches -/
def textS (l : List Pr) : Str := if l = [] then "none" else Txt.join "," (l.map stretchS)
theorem parts_text {l : List Pr} (h : l ≠ []) : parts (textS l) = l.map stretchS := by
  unfold textS parts
  rw [if_neg h]
  refine TL.split_join (s := 44) (S := []) tl_comma (by decide +kernel) (by simpa using h) fun p hp => ?_
  obtain ⟨q, _, rfl⟩ := List.mem_map.mp hp
  exact stretch_free q
/-! ### runs put to runs -/
/-- a run put behind some -/
def addR (acc : List Pr) (p : Pr) : List Pr := match acc.getLast? with
  | some q => if q.2 + 1 = p.1 then acc.dropLast ++ [(q.1, p.2)] else acc ++ [p]
  | none => acc ++ [p]
theorem addR_snoc (l : List Pr) (q p : Pr) : addR (l ++ [q]) p = if q.2 + 1 = p.1 then l ++ [(q.1, p.2)] else l ++ [q] ++ [p] := by
  unfold addR
  rw [List.getLast?_concat]
  simp only [List.dropLast_concat]
theorem addR_end (acc : List Pr) (p : Pr) : ∃ (l : List Pr) (a : Nat), addR acc p = l ++ [(a, p.2)] ∧ ∀ b, addR acc (p.1, b) = l ++ [(a, b)] := by
  rcases List.eq_nil_or_concat acc with rfl | ⟨l, q, rfl⟩
  · exact ⟨[], p.1, rfl, fun _ => rfl⟩
  · rw [List.concat_eq_append]
    by_cases h : q.2 + 1 = p.1
    · exact ⟨l, q.1, by rw [addR_snoc, if_pos h], fun b => by rw [addR_snoc, if_pos h]⟩
    · exact ⟨l ++ [q], p.1, by rw [addR_snoc, if_neg h], fun b => by rw [addR_snoc, if_neg h]⟩
theorem stepR_addR (acc : List Pr) (x : Nat) : stepR acc x = addR acc (x, x) := by
  rcases List.eq_nil_or_concat acc with rfl | ⟨l, q, rfl⟩
  · rfl
  · rw [List.concat_eq_append, stepR_snoc, addR_snoc]
theorem runs_put (l : List Nat) : ∀ (n : Nat) (m : List Nat), m.length = n → runsL (l ++ m) = (runsL m).foldl addR (runsL l) := by
  intro n
  induction n with
  | zero =>
    intro m hm
    rw [List.length_eq_zero_iff.mp hm, List.append_nil]; rfl
  | succ n ih =>
    intro m hm
    rcases List.eq_nil_or_concat m with rfl | ⟨k, x, rfl⟩
    · simp at hm
    rw [List.concat_eq_append] at hm ⊢
    have hk : k.length = n := by simpa using hm
    rw [← List.append_assoc, runsL_snoc, ih k hk, runsL_snoc]
    rcases List.eq_nil_or_concat (runsL k) with e | ⟨rs, r, e⟩
    · rw [e]
      show stepR (runsL l) x = addR (runsL l) (x, x)
      exact stepR_addR _ _
    · rw [e, List.concat_eq_append, List.foldl_append]
      show stepR (addR (rs.foldl addR (runsL l)) r) x = (stepR (rs ++ [r]) x).foldl addR (runsL l)
      obtain ⟨t, a, e1, e2⟩ := addR_end (rs.foldl addR (runsL l)) r
      rw [stepR_snoc, e1, stepR_snoc]
      by_cases h : r.2 + 1 = x
      · rw [if_pos h, if_pos h, List.foldl_append]
        exact (e2 x).symm
      · rw [if_neg h, if_neg h, List.foldl_append, List.foldl_append]
        show t ++ [(a, r.2)] ++ [(x, x)] = addR (addR (rs.foldl addR (runsL l)) r) (x, x)
        rw [e1, addR_snoc, if_neg h]
/-- the runs of a part, as numbers -/
def runsAt (N u : Nat) : List Pr := (runsB (sl N u)).map fun p => (256 * u + p.1, 256 * u + p.2)
def runsTo (N : Nat) (us : List Nat) : List Pr := us.foldl (fun acc u => (runsAt N u).foldl addR acc) []
theorem runsTo_snoc (N : Nat) (us : List Nat) (u : Nat) : runsTo N (us ++ [u]) = (runsAt N u).foldl addR (runsTo N us) := by
  unfold runsTo
  rw [List.foldl_append]; rfl
theorem runsTo_flat (N : Nat) : ∀ (n : Nat) (us : List Nat), us.length = n → runsTo N us = runsL (flat N us) := by
  intro n
  induction n with
  | zero =>
    intro us h
    rw [List.length_eq_zero_iff.mp h]; rfl
  | succ n ih =>
    intro us h
    rcases List.eq_nil_or_concat us with rfl | ⟨vs, u, rfl⟩
    · simp at h
    rw [List.concat_eq_append] at h ⊢
    have hk : vs.length = n := by simpa using h
    rw [runsTo_snoc, flat_snoc, runs_put _ _ _ rfl, ih vs hk, runs_map_add]; rfl
theorem runsTo_all {N : Nat} (h : In24 N) : runsTo N (upsOf N) = runsB N := by
  rw [runsTo_flat N _ _ rfl, flat_ups h]; rfl
/-- no more than there are numbers -/
theorem addR_le (acc : List Pr) (p : Pr) : (addR acc p).length ≤ acc.length + 1 := by
  rcases List.eq_nil_or_concat acc with rfl | ⟨l, q, rfl⟩
  · exact Nat.le_refl _
  · rw [List.concat_eq_append, addR_snoc]
    split <;> simp
/-! ### what runs cover -/
def cov (l : List Pr) (i : Nat) : Prop := ∃ p ∈ l, p.1 ≤ i ∧ i ≤ p.2
theorem cov_snoc (l : List Pr) (p : Pr) (i : Nat) : cov (l ++ [p]) i ↔ cov l i ∨ (p.1 ≤ i ∧ i ≤ p.2) := by
  unfold cov
  constructor
  · rintro ⟨q, hq, h⟩
    rcases List.mem_append.mp hq with hq | hq
    · exact .inl ⟨q, hq, h⟩
    · rw [List.mem_singleton.mp hq] at h; exact .inr h
  · rintro (⟨q, hq, h⟩ | h)
    · exact ⟨q, List.mem_append_left _ hq, h⟩
    · exact ⟨p, by simp, h⟩
theorem runs_le (l : List Nat) {p : Pr} (h : p ∈ runsL l) : p.1 ≤ p.2 := (runsL_mem _ l rfl p h).2.2
theorem cov_runs : ∀ (n : Nat) (l : List Nat), l.length = n → ∀ i, cov (runsL l) i ↔ i ∈ l := by
  intro n
  induction n with
  | zero =>
    intro l h i
    rw [List.length_eq_zero_iff.mp h]
    constructor
    · rintro ⟨p, hp, _⟩; cases hp
    · intro h; cases h
  | succ n ih =>
    intro l h i
    rcases List.eq_nil_or_concat l with rfl | ⟨m, x, rfl⟩
    · simp at h
    rw [List.concat_eq_append] at h ⊢
    have hk : m.length = n := by simpa using h
    have ihm := ih m hk
    rw [runsL_snoc, stepR_addR, List.mem_append, List.mem_singleton, ← ihm]
    rcases List.eq_nil_or_concat (runsL m) with e | ⟨rs, r, e⟩
    · rw [e]
      show cov ([] ++ [(x, x)]) i ↔ _
      rw [cov_snoc]
      have : x ≤ i ∧ i ≤ x ↔ i = x := by omega
      exact or_congr Iff.rfl this
    · have rle := runs_le m (p := r) (by rw [e]; simp)
      rw [e, List.concat_eq_append, addR_snoc]
      by_cases z : r.2 + 1 = x
      · rw [if_pos z, cov_snoc, cov_snoc]
        simp only
        have : r.1 ≤ i ∧ i ≤ x ↔ (r.1 ≤ i ∧ i ≤ r.2) ∨ i = x := by omega
        rw [this, or_assoc]
      · rw [if_neg z, cov_snoc]
        simp only
        have : x ≤ i ∧ i ≤ x ↔ i = x := by omega
        rw [this]
theorem cov_bits (N i : Nat) : cov (runsB N) i ↔ N.testBit i = true := by
  unfold runsB
  rw [cov_runs _ _ rfl, mem_bitsOf]
/-- the numbers of some stretches -/
def orM (l : List Pr) : Nat := l.foldl (fun n p => n ||| mask p.1 p.2) 0
theorem orM_snoc (l : List Pr) (p : Pr) : orM (l ++ [p]) = orM l ||| mask p.1 p.2 := by unfold orM; rw [List.foldl_append]; rfl
theorem orM_bit : ∀ (n : Nat) (l : List Pr), l.length = n → (∀ p ∈ l, p.1 ≤ p.2) → ∀ i, (orM l).testBit i = true ↔ cov l i := by
  intro n
  induction n with
  | zero =>
    intro l h _ i
    rw [List.length_eq_zero_iff.mp h]
    unfold orM cov
    simp
  | succ n ih =>
    intro l h hp i
    rcases List.eq_nil_or_concat l with rfl | ⟨m, x, rfl⟩
    · simp at h
    rw [List.concat_eq_append] at h hp ⊢
    have hk : m.length = n := by simpa using h
    have hx := hp x (by simp)
    rw [orM_snoc, Nat.testBit_or, Bool.or_eq_true, ih m hk (fun p h => hp p (List.mem_append_left _ h)), mask_bit (by omega), cov_snoc, Bool.and_eq_true, decide_eq_true_eq, decide_eq_true_eq]
theorem bits_ext {a b : Nat} (h : ∀ i, a.testBit i = true ↔ b.testBit i = true) : a = b := by
  refine Nat.eq_of_testBit_eq fun i => ?_
  have := h i
  cases x : a.testBit i <;> cases y : b.testBit i <;> simp_all
theorem orM_runs (N : Nat) : orM (runsB N) = N := by
  refine bits_ext fun i => ?_
  rw [orM_bit _ (runsB N) rfl (fun p hp => runs_le (bitsOf N) hp), cov_bits]
/-- one run -/
theorem bits_mask {m n : Nat} (h : m ≤ n) : bitsOf (mask m n) = upto m (n + 1 - m) := by
  refine sorted_ext (bitsOf_sorted _) (upto_sorted _ _) fun i => ?_
  rw [mem_bitsOf, mask_bit (by omega), Bool.and_eq_true, decide_eq_true_eq, decide_eq_true_eq]
  unfold upto
  rw [List.mem_map]
  constructor
  · rintro ⟨h1, h2⟩
    exact ⟨i - m, List.mem_range.mpr (by omega), by omega⟩
  · rintro ⟨k, hk, rfl⟩
    have := List.mem_range.mp hk
    omega
theorem runs_mask {m n : Nat} (h : m ≤ n) : runsB (mask m n) = [(m, n)] := by
  have := runsL_run (a := m) (m := n + 1 - m) (l := []) (fun x hx => by cases hx) (by omega)
  unfold runsB
  rw [bits_mask h]
  rw [List.append_nil] at this
  rw [this]
  have e : m + (n + 1 - m) - 1 = n := by omega
  rw [e]; rfl
theorem popc_mask {m n : Nat} (h : m ≤ n) : popc (mask m n) = n + 1 - m := by
  unfold popc
  rw [bits_mask h, upto_len]
theorem mask_or {m k n : Nat} (h1 : m ≤ k) (h2 : k < n) : mask m k ||| mask (k + 1) n = mask m n := by
  refine Nat.eq_of_testBit_eq fun i => ?_
  rw [Nat.testBit_or, mask_bit (by omega), mask_bit (by omega), mask_bit (by omega), Bool.eq_iff_iff]
  simp only [Bool.or_eq_true, Bool.and_eq_true, decide_eq_true_eq]
  omega
/-! ### a text read again -/
theorem mem_join {s : Nat} {c : Nat} : ∀ ys : List (List Nat), c ∈ TL.joinL [s] ys → c = s ∨ ∃ y ∈ ys, c ∈ y
  | [], h => by cases h
  | [y], h => .inr ⟨y, by simp, h⟩
  | y :: z :: r, h => by
    have h : c ∈ y ++ ([s] ++ TL.joinL [s] (z :: r)) := h
    rcases List.mem_append.mp h with h | h
    · exact .inr ⟨y, by simp, h⟩
    · rcases List.mem_append.mp h with h | h
      · exact .inl (List.mem_singleton.mp h)
      · rcases mem_join (z :: r) h with h | ⟨w, hw, h⟩
        · exact .inl h
        · exact .inr ⟨w, List.mem_cons_of_mem _ hw, h⟩
theorem stretch_signs (p : Pr) : ∀ c ∈ TL.tl (stretchS p), c = 45 ∨ (48 ≤ c ∧ c ≤ 57) := by
  have hf : ∀ n : Nat, ∀ c ∈ TL.tl (numS n), 48 ≤ c ∧ c ≤ 57 := fun n c hc => by
    rw [tl_numS] at hc
    exact TL.numL_digits n c hc
  unfold stretchS
  split
  · rw [TL.tl_append, TL.tl_append, tl_dash]
    intro c hc
    rcases List.mem_append.mp hc with h | h
    · exact .inr (hf _ c h)
    · rcases List.mem_append.mp h with h | h
      · exact .inl (List.mem_singleton.mp h)
      · exact .inr (hf _ c h)
  · exact fun c hc => .inr (hf _ c hc)
theorem text_signs {l : List Pr} (h : l ≠ []) : ∀ c ∈ TL.tl (textS l), c = 44 ∨ c = 45 ∨ (48 ≤ c ∧ c ≤ 57) := by
  unfold textS
  rw [if_neg h]
  intro c hc
  have e : TL.tl (Txt.join "," (l.map stretchS)) = TL.joinL [44] ((l.map stretchS).map TL.tl) := by
    rw [TL.join_eq, TL.tl_join]
    exact congrArg (fun z => TL.joinL z _) tl_comma
  rw [e] at hc
  rcases mem_join _ hc with h | ⟨y, hy, h⟩
  · exact .inl h
  · obtain ⟨s, hs, rfl⟩ := List.mem_map.mp hy
    obtain ⟨p, _, rfl⟩ := List.mem_map.mp hs
    exact .inr (stretch_signs p c h)
def isNone (x : Str) : Bool := decide (word x = "none")
theorem text_some {l : List Pr} (h : l ≠ []) : isNone (textS l) = false := by
  unfold isNone
  refine decide_eq_false fun e => ?_
  have e2 : TL.tl (word (textS l)) = [110, 111, 110, 101] := by
    rw [e]; decide +kernel
  rw [tl_word, trim_same] at e2
  · have := text_signs h 110 (by rw [e2]; simp)
    omega
  · intro c hc
    have := text_signs h c hc
    unfold blank
    exact decide_eq_false (by omega)
theorem text_none : isNone (textS []) = true := by decide +kernel
theorem text_len {l : List Pr} (hl : l.length ≤ 200000) (h : ∀ p ∈ l, p.1 < 16777216 ∧ p.2 < 16777216) : (textS l).length ≤ 3600000 := by
  unfold textS
  split
  · decide +kernel
  · have e : (Str.ofString ",").length = 1 := by decide +kernel
    rw [TL.join_eq]
    refine Nat.le_trans (StrLaws.join_length_le _ _) ?_
    rw [e]
    have : ∀ m : List Pr, (∀ p ∈ m, p.1 < 16777216 ∧ p.2 < 16777216) → ((m.map stretchS).map (·.length)).sum ≤ m.length * 17 := by
      intro m hm
      induction m with
      | nil => exact Nat.le_refl _
      | cons p m ih =>
        have h1 := stretch_len (hm p List.mem_cons_self).1 (hm p List.mem_cons_self).2
        have h2 := ih fun q hq => hm q (List.mem_cons_of_mem _ hq)
        rw [List.map_cons, List.map_cons, List.sum_cons, List.length_cons]
        omega
    have := this l h
    rw [List.length_map]
    omega
theorem sl2 {n : Nat} (h : n < 10000000) : n < sizeLine := Nat.lt_of_lt_of_le h (by decide)
/-! ### the longest stretches -/
def sp_NumberSet_stretches (c : Cs) : Sp := fun vs H Q _ => ∃ (a d N : Nat), vs = [.ref a] ∧ SetAt c H a d N ∧ popc N ≤ 200000 ∧ GivesL c H Q (dPairs (runsB N))
def fam_stretches (c : Cs) (C : Addr) (sp : Sp) : Prop := C = c.set ∧ sp = sp_NumberSet_stretches c
theorem len_NumberSet_stretches (c : Cs) : ∀ vs H Q E, sp_NumberSet_stretches c vs H Q E → vs.length = (["self"] : List Str).length := by
  rintro vs H Q E ⟨a, d, N, rfl, _⟩; rfl
/-- NumberSet.stretches -/
def t_NumberSet_stretches (c : Cs) (E : XK) : TS :=
  tSeq (tAsg (tLst (tNil)) (gName 1))
    (tSeq (tFor (iSeq c.K (tMethF (fam_uppers c) "uppers" [] E (tVar 0) tNil)) (gName 2) (tFor (iSeq c.K (tCall (sp_runs_of c) [] E (tCons (tMethF (fam_bits_at c) "bits_at" [] E (tVar 0) (tCons (tVar 2) (tNil))) (tNil)))) (gTup c.K 2 (gCons (gName 3) (gCons (gName 4) (gNil)))) (tSeq (tIfS (tAnd (tTest (tOp (rNeu c.K) (tVar 1) (tLst (tNil)))) (tTest (tOp (rEqu c.K) (tOp rAdd (tOp (rIx c.K) (tOp (rIx c.K) (tVar 1) (tUn rNeg (tC (.int 1)))) (tC (.int 1))) (tC (.int 1))) (tOp rAdd (tOp rMul (tC (.int 256)) (tVar 2)) (tVar 3))))) (tAsg (tOp rSub (tOp (rIx c.K) (tBM0 c.K "list" rPop (tVar 1)) (tC (.int 0))) (tOp rMul (tC (.int 256)) (tVar 2))) (gName 3)) (tNext))
    (tDrop (tBM c.K "list" rAppend (tVar 1) (tCons (tTup (tCons (tOp rAdd (tOp rMul (tC (.int 256)) (tVar 2)) (tVar 3)) (tCons (tOp rAdd (tOp rMul (tC (.int 256)) (tVar 2)) (tVar 4)) (tNil)))) (tNil)))))))
    (tRet (tVar 1)))
def t_str_if (c : Cs) (E : XK) : TS :=
  tIfS (tAnd (tTest (tOp (rNeu c.K) (tVar 1) (tLst (tNil)))) (tTest (tOp (rEqu c.K) (tOp rAdd (tOp (rIx c.K) (tOp (rIx c.K) (tVar 1) (tUn rNeg (tC (.int 1)))) (tC (.int 1))) (tC (.int 1))) (tOp rAdd (tOp rMul (tC (.int 256)) (tVar 2)) (tVar 3))))) (tAsg (tOp rSub (tOp (rIx c.K) (tBM0 c.K "list" rPop (tVar 1)) (tC (.int 0))) (tOp rMul (tC (.int 256)) (tVar 2))) (gName 3)) (tNext)
theorem str_if {c : Cs} {E : XK} {D : Ends} {H1 H5 : Hp} {a f u m n : Nat} {xs xs0 : List V} {acc : List Pr} (hp1 : H1 f = some (.lst xs0)) (hf5 : H5 f = some (.lst xs)) (dom : ∀ q, H5 q = none → H1 q = none) (hd : Fds c.K H1 H5 xs (dPairs acc))
    (h : ∀ (fi : Int) (H6 : Hp) (xs' : List V) (acc' : List Pr), But f H5 H6 → H6 f = some (.lst xs') → (∀ q, H6 q = none → H1 q = none) → Fds c.K H1 H6 xs' (dPairs acc') → xs'.length ≤ xs.length →
      (∃ t : Nat, 256 * (u : Int) + fi = (t : Nat) ∧ acc' ++ [(t, 256 * u + n)] = addR acc (256 * u + m, 256 * u + n)) → D.nx [some (.ref a), some (.ref f), some (.int (u : Int)), some (.int fi), some (.int (n : Int))] H6) :
    t_str_if c E D [some (.ref a), some (.ref f), some (.int (u : Int)), some (.int (m : Int)), some (.int (n : Int))] H5 := by
  unfold t_str_if
  walk_at "go"
  refine ⟨sz5 (by simp), fun q nq => ?_⟩
  generalize eq : upd H5 q _ = H6
  obtain ⟨sH6, hq, dH6⟩ := new_of nq eq
  walk_at "go"
  have hf6 := sH6 _ _ hf5
  have hd6 := hd.to (New.same sH6)
  refine r_ned (.lst (SqL.of hf6) hd6.now) (.lst (SqL.of hq) .nil) (Sm.list (n := 2) fun d hd => (Sm.pairs (n := 0) _ d hd).mono (by decide)).shaped (Sm.list (n := 0) (fun d hd => by cases hd)).shaped ?_
  rw [eqv_nil]
  walk_at "go"
  rcases List.eq_nil_or_concat acc with rfl | ⟨l, r, rfl⟩
  · refine if_f rfl ?_
    refine if_f rfl ?_
    walk_at "go"
    exact h m H6 xs [] (But.of sH6) hf6 (fun b z => dom b (dH6 b z)) hd6 (Nat.le_refl _) ⟨256 * u + m, by omega, rfl⟩
  · rw [List.concat_eq_append] at hd6 h ⊢
    obtain ⟨ys, t, rfl, ht, hys⟩ := dPairs_snoc_inv hd6
    refine if_t (by simp [dPairs]) ?_
    walk_at "go"
    refine r_ixL (SqL.of hf6) (atI_last _ _) ?_
    walk_at "go"
    refine r_ixT ht (atI_nat (j := 1) rfl) ?_
    walk_at "go"
    refine if_d (fun z => ?_) (fun z => ?_)
    · walk_at "go"
      refine ⟨tyL hf6, ?_⟩
      refine ⟨f, _, .ref t, rfl, rfl, hf6, by simp, ?_⟩
      walk_at "go"
      obtain ⟨ys2, t2, e2, ht2, hys2⟩ := dPairs_snoc_inv (hd6.to (New.mut (o := .lst (ys ++ [V.ref t]).dropLast) hp1 New.refl))
      obtain ⟨e3, e4⟩ := List.append_inj' e2 rfl
      have e5 : t = t2 := by simpa using e4
      subst e3 e5
      refine r_ixT ht2 (atI_nat (j := 0) rfl) ?_
      walk_at "go"
      refine h _ _ ys l ((But.of sH6).trans But.upd) (by rw [upd_same, List.dropLast_concat]) (dom_mut (fun b z => dom b (dH6 b z)) (by rw [hf6]; simp)) hys2 (by simp) ⟨r.1, by omega, ?_⟩
      rw [addR_snoc, if_pos (by omega)]
    · walk_at "go"
      exact h m H6 _ (l ++ [r]) (But.of sH6) hf6 (fun b z => dom b (dH6 b z)) hd6 (Nat.le_refl _) ⟨256 * u + m, by omega, by rw [addR_snoc, if_neg (by omega)]⟩
theorem foldR_le (l : List Pr) : ∀ acc : List Pr, (l.foldl addR acc).length ≤ acc.length + l.length := by
  induction l with
  | nil => intro acc; exact Nat.le_refl _
  | cons p l ih =>
    intro acc
    have a := ih (addR acc p)
    have b := addR_le acc p
    rw [List.foldl_cons, List.length_cons]; omega
theorem pure_NumberSet_stretches {c : Cs} (G : GoodS c) (vs : List V) (H : Hp) (Q : VK) (E : XK) (h : sp_NumberSet_stretches c vs H Q E) : t_NumberSet_stretches c E { nx := fun _ H' => Q .non H', rt := Q } (start ["self", "found", "upper", "first", "last"] vs) H := by
  obtain ⟨a, d, N, rfl, hs, hpc, hQ⟩ := h
  unfold t_NumberSet_stretches
  show tSeq _ _ _ [some (.ref a), none, none, none, none] H
  walk_at "go"
  refine ⟨sz5 (by simp), fun f nf => ?_⟩
  generalize ef : upd H f _ = H1
  obtain ⟨sH1, hf, dH1⟩ := new_of nf ef
  walk_at "go"
  refine .inl ?_
  walk_at "go"
  have hs1 := hs.same sH1
  refine hs1.at (m := "uppers") (fam := fam_uppers c) ⟨rfl, rfl⟩ (by decide +kernel) ?_
  walk_at "go"
  refine ⟨a, d, N, rfl, hs1, fun p H2 s2 np hp => ?_⟩
  have pf : p ≠ f := fun e => by rw [e, hf] at np; cases np
  have n1 := nf
  have dom2 : ∀ q, H2 q = none → H1 q = none := fun q z => s2.free z
  refine ⟨p, rfl, ⟨_, SqL.of hp⟩, for_list (K := c.K) (a := p) (xs := (nz (upsOf N)).map V.int) (fun i σ H3 => ∃ (xs : List V) (v w z : Option V), σ = [some (.ref a), some (.ref f), v, w, z] ∧ Same H H3 ∧ H3 p = some (.lst ((nz (upsOf N)).map V.int)) ∧ H3 f = some (.lst xs) ∧ (∀ q, H3 q = none → H1 q = none) ∧ Fds c.K H1 H3 xs (dPairs (runsTo N ((upsOf N).take i))))
    ⟨[], none, none, none, rfl, sH1.trans s2, hp, s2 _ _ hf, dom2, Fds.nil⟩ (fun i σ H3 _ ⟨_, _, _, _, _, _, h, _⟩ => SqL.of h) ?_ ?_⟩
  · rintro i x σ H3 hi ⟨xs, v, w, z, rfl, s3, hp3, hf3, dom3, hd3⟩
    obtain ⟨u, hu, rfl⟩ := nz_get hi
    have hs3 := hs.same s3
    have lacc : (runsTo N ((upsOf N).take i)).length ≤ 200000 := by
      rw [runsTo_flat N _ _ rfl]
      have a1 := runsL_len _ (flat N ((upsOf N).take i)) rfl
      have a2 := flat_le hs.b (List.take_sublist i (upsOf N))
      omega
    walk_at "go"
    refine .inl ?_
    walk_at "go"
    refine hs3.at (m := "bits_at") (fam := fam_bits_at c) ⟨rfl, rfl⟩ (by decide +kernel) ?_
    walk_at "go"
    refine ⟨a, d, N, u, rfl, hs3, ?_⟩
    walk_at "go"
    refine ⟨_, rfl, sl_lt _ _, fun q ys H4 s4 nq hq hdq => ?_⟩
    have hf4 := s4 _ _ hf3
    have lru : (runsB (sl N u)).length ≤ 256 := Nat.le_trans (runsL_len _ _ rfl) (bitsOf_len (sl_lt N u))
    have lys : ys.length = (runsB (sl N u)).length := by rw [hdq.len, dPairs_len]
    have qf : q ≠ f := fun e => by rw [e, hf3] at nq; cases nq
    refine ⟨q, rfl, ⟨_, SqL.of hq⟩, for_list (K := c.K) (a := q) (xs := ys) (fun j σ H5 => ∃ (xs : List V) (w z : Option V), σ = [some (.ref a), some (.ref f), some (.int (u : Int)), w, z] ∧ But f H4 H5 ∧ H5 f = some (.lst xs) ∧ (∀ q, H5 q = none → H1 q = none) ∧ Fds c.K H1 H5 xs (dPairs (((runsAt N u).take j).foldl addR (runsTo N ((upsOf N).take i)))))
      ⟨xs, w, z, rfl, But.refl _ _, hf4, fun q z => dom3 q (s4.free z), hd3.to (New.same s4)⟩ (fun j σ H5 _ ⟨_, _, _, _, b, _⟩ => SqL.of (b _ _ qf hq)) ?_ ?_⟩
    · rintro j x σ H5 hj ⟨xs5, w5, z5, rfl, b5, hf5, dom5, hd5⟩
      have hdq5 := hdq.to (show New H3 H4 H5 from fun b o n e => b5 b o (fun z => by rw [z, hf3] at n; cases n) e)
      obtain ⟨dd, hdd, hx⟩ := hdq5.now.get hj
      obtain ⟨r, hr, rfl⟩ : ∃ r, (runsB (sl N u))[j]? = some r ∧ dd = .tuple [.int (r.1 : Int), .int (r.2 : Int)] := by
        unfold dPairs at hdd
        rw [List.getElem?_map] at hdd
        cases e : (runsB (sl N u))[j]? with
        | none => rw [e] at hdd; cases hdd
        | some r => rw [e] at hdd; exact ⟨r, rfl, (Option.some.inj hdd).symm⟩
      obtain ⟨t, zs, rfl, ht, hz⟩ := hx.tup_inv
      have : zs = [.int (r.1 : Int), .int (r.2 : Int)] := dpa_ints_inv (ns := [(r.1 : Int), (r.2 : Int)]) hz
      subst this
      have hr2 : (runsAt N u)[j]? = some (256 * u + r.1, 256 * u + r.2) := by
        unfold runsAt
        rw [List.getElem?_map, hr]; rfl
      refine ⟨t, _, rfl, ht, rfl, ?_⟩
      refine w_gcons (w_name ?_)
      simp only [List.set_cons_zero, List.set_cons_succ]
      refine w_gcons (w_name ?_)
      simp only [List.set_cons_zero, List.set_cons_succ]
      refine w_gnil (w_seq ?_)
      refine str_if (E := E) (a := a) (u := u) (m := r.1) (n := r.2) hf hf5 dom5 hd5 fun fi H6 xs6 acc6 b6 hf6 dom6 hd6 l6 ⟨t6, ht6, ha6⟩ => ?_
      walk_at "go"
      refine ⟨tyL hf6, ?_⟩
      walk_at "go"
      rw [ht6]
      refine ⟨sz5 (by simp), fun y ny => ?_⟩
      generalize ey : upd H6 y _ = H7
      obtain ⟨sH7, hy, dH7⟩ := new_of ny ey
      walk_at "go"
      have l7 : xs6.length < 10000000 := by
        have a1 := hd5.len
        rw [dPairs_len] at a1
        have a2 := foldR_le ((runsAt N u).take j) (runsTo N ((upsOf N).take i))
        have a3 : ((runsAt N u).take j).length ≤ 256 := by
          rw [List.length_take]
          unfold runsAt
          rw [List.length_map]; omega
        omega
      refine r_append (sH7 _ _ hf6) (sl2 l7) ?_
      refine ⟨xs6 ++ [.ref y], _, _, rfl, ((b5.trans b6).trans (But.of sH7)).trans But.upd, upd_same, dom_mut (fun b z => dom6 b (dH7 b z)) (by rw [sH7 _ _ hf6]; simp), ?_⟩
      rw [take_more hr2, List.foldl_append]
      show Fds c.K H1 _ _ (dPairs (addR _ _))
      rw [← ha6, dPairs_app]
      refine Fds.snoc ((hd6.to (New.same sH7)).to (New.mut hf New.refl)) ?_
      have e4 : (256 * (u : Int) + (r.2 : Int)) = ((256 * u + r.2 : Nat) : Int) := by omega
      rw [e4] at hy
      exact (Fd.tup (dom6 _ ny) hy (Fds.cons (.int _) (Fds.cons (.int _) .nil))).to (New.mut hf New.refl)
    · rintro σ H5 ⟨xs5, w5, z5, rfl, b5, hf5, dom5, hd5⟩
      refine ⟨xs5, _, _, _, rfl, same_new (s3.trans s4) n1 b5, b5 _ _ pf (s4 _ _ hp3), hf5, dom5, ?_⟩
      rw [take_more hu, runsTo_snoc]
      have e : (runsAt N u).take ys.length = runsAt N u := by
        refine List.take_of_length_le ?_
        unfold runsAt
        rw [List.length_map]; omega
      rw [e] at hd5
      exact hd5
  · rintro σ H3 ⟨xs, v, w, z, rfl, s3, hp3, hf3, dom3, hd3⟩
    rw [nzv_len, List.take_length, runsTo_all hs.b] at hd3
    walk_at "go"
    exact hQ f xs H3 s3 nf hf3 (hd3.left dH1)
/-! ### the text of a set -/
theorem r_strN {n : Nat} {H : Hp} {Q : VK} (h : n < 16777216) (q : Q (.str (numS n)) H) : rStrI [.int (n : Int)] H Q := by
  refine ⟨_, rfl, ?_, q⟩
  rw [Int.natAbs_natCast]
  by_cases z : n = 0
  · subst z; decide
  · rw [Nat.log2_lt z]
    exact Nat.lt_of_lt_of_le (show n < 2 ^ 24 by omega) (Nat.pow_le_pow_right (n := 2) (by decide) (show 24 ≤ 1920 by decide))
theorem runsB_bound {N : Nat} (h : In24 N) {p : Pr} (hp : p ∈ runsB N) : p.1 ≤ p.2 ∧ p.2 < 16777216 := by
  obtain ⟨h1, h2, h3⟩ := runsL_mem _ (bitsOf N) rfl p hp
  exact ⟨h3, h _ (mem_bitsOf.mp h2)⟩
theorem sum_le {l : List Nat} {k : Nat} (h : ∀ x ∈ l, x ≤ k) : l.sum ≤ l.length * k := by
  induction l with
  | nil => simp
  | cons a l ih =>
    have h1 := h a List.mem_cons_self
    have h2 := ih fun x hx => h x (List.mem_cons_of_mem _ hx)
    rw [List.sum_cons, List.length_cons, Nat.succ_mul]; omega
theorem join_len {l : List Pr} (hl : l.length ≤ 200000) (h : ∀ p ∈ l, p.1 < 16777216 ∧ p.2 < 16777216) : ((l.map stretchS).map (·.length)).sum + (l.map stretchS).length * (Str.ofString ",").length ≤ 16777216 := by
  have e : (Str.ofString ",").length = 1 := by decide +kernel
  have a := sum_le (l := (l.map stretchS).map (·.length)) (k := 17) fun x hx => by
    obtain ⟨y, hy, rfl⟩ := List.mem_map.mp hx
    obtain ⟨p, hp, rfl⟩ := List.mem_map.mp hy
    exact stretch_len (h p hp).1 (h p hp).2
  rw [List.length_map, List.length_map] at a
  rw [e, List.length_map]; omega
theorem join_none {l : List Pr} : (Txt.join "," (l.map stretchS)).length = 0 ↔ l = [] := by
  constructor
  · intro h
    cases l with
    | nil => rfl
    | cons p l =>
      have pos : 1 ≤ (stretchS p).length := by
        have := numS_pos p.1
        unfold stretchS
        split
        · rw [Str.length_append]; omega
        · exact this
      have e : TL.tl (Txt.join "," ((p :: l).map stretchS)) = [] := by
        rw [TL.len_tl] at h
        exact List.length_eq_zero_iff.mp h
      rw [TL.join_eq, TL.tl_join, List.map_cons, List.map_cons] at e
      rw [TL.len_tl] at pos
      cases l with
      | nil =>
        have e2 : TL.tl (stretchS p) = [] := e
        rw [e2] at pos; simp at pos
      | cons q l =>
        have e2 : TL.tl (stretchS p) ++ _ = [] := e
        rw [(List.append_eq_nil_iff.mp e2).1] at pos; simp at pos
  · rintro rfl
    rfl
/-- what is joined, or none -/
theorem or_none {K : PySem.W.Frag} {H : Hp} {σ : L2.St} {Q : VK} {l : List Pr} (hl : l.length ≤ 200000) (h : ∀ p ∈ l, p.1 < 16777216 ∧ p.2 < 16777216) (q : Q (.str (textS l)) H) :
    ∃ k, TruV K (.str (Txt.join "," (l.map stretchS))) H k ∧ if k = true then Q (.str (Txt.join "," (l.map stretchS))) H else tC (.str "none") σ H Q := by
  refine ⟨_, ⟨?_, rfl⟩, ?_⟩
  · have a := join_len hl h
    rw [TL.join_eq]
    refine Nat.le_trans (StrLaws.join_length_le _ _) ?_
    exact a
  · unfold textS at q
    by_cases z : l = []
    · rw [if_pos z] at q
      rw [if_neg (by rw [join_none.mpr z]; decide)]
      exact q
    · rw [if_neg z] at q
      have : (Txt.join "," (l.map stretchS)).length ≠ 0 := fun e => z (join_none.mp e)
      rw [if_pos (by simp; omega)]
      exact q
def sp_written (c : Cs) : Sp := fun vs H Q _ => ∃ (a d N : Nat), vs = [.ref a] ∧ SetAt c H a d N ∧ popc N ≤ 200000 ∧ ∀ H', Same H H' → Q (.str (textS (runsB N))) H'
theorem len_written (c : Cs) : ∀ vs H Q E, sp_written c vs H Q E → vs.length = (["numbers"] : List Str).length := by
  rintro vs H Q E ⟨a, d, N, rfl, _⟩; rfl
/-- written -/
def t_written (c : Cs) (E : XK) : TS :=
  tSeq (tAsg (tLst (tNil)) (gName 1))
    (tSeq (tFor (iSeq c.K (tMethF (fam_stretches c) "stretches" [] E (tVar 0) tNil)) (gTup c.K 2 (gCons (gName 2) (gCons (gName 3) (gNil)))) (tSeq (tAsg (tCB (rStrI) (tCons (tVar 2) (tNil))) (gName 4))
    (tSeq (tIfS (tTest (tOp (rGt) (tVar 3) (tVar 2))) (tAug 4 (tOp rAdd (tC (.str "-")) (tCB (rStrI) (tCons (tVar 3) (tNil)))) pAdd) (tNext))
    (tDrop (tBM c.K "list" rAppend (tVar 1) (tCons (tVar 4) (tNil)))))))
    (tRet (tOrT c.K (tM1 (rJoinS c.K) (tC (.str ",")) (tVar 1)) (tC (.str "none")))))
theorem dPairs_get {K : PySem.W.Frag} {H0 H : Hp} {xs : List V} {l : List Pr} {i : Nat} {x : V} (h : Fds K H0 H xs (dPairs l)) (hi : xs[i]? = some x) : ∃ r t, l[i]? = some r ∧ x = .ref t ∧ SqT K H t [.int (r.1 : Int), .int (r.2 : Int)] := by
  obtain ⟨dd, hdd, hx⟩ := h.now.get hi
  obtain ⟨r, hr, rfl⟩ : ∃ r, l[i]? = some r ∧ dd = .tuple [.int (r.1 : Int), .int (r.2 : Int)] := by
    unfold dPairs at hdd
    rw [List.getElem?_map] at hdd
    cases e : l[i]? with
    | none => rw [e] at hdd; cases hdd
    | some r => rw [e] at hdd; exact ⟨r, rfl, (Option.some.inj hdd).symm⟩
  obtain ⟨t, zs, rfl, ht, hz⟩ := hx.tup_inv
  have : zs = [.int (r.1 : Int), .int (r.2 : Int)] := dpa_ints_inv (ns := [(r.1 : Int), (r.2 : Int)]) hz
  subst this
  exact ⟨r, t, hr, rfl, ht⟩
theorem pure_written {c : Cs} (G : GoodS c) (vs : List V) (H : Hp) (Q : VK) (E : XK) (h : sp_written c vs H Q E) : t_written c E { nx := fun _ H' => Q .non H', rt := Q } (start ["numbers", "found", "first", "last", "text"] vs) H := by
  obtain ⟨a, d, N, rfl, hs, hpc, hQ⟩ := h
  unfold t_written
  show tSeq _ _ _ [some (.ref a), none, none, none, none] H
  walk_at "go"
  refine ⟨sz5 (by simp), fun f nf => ?_⟩
  generalize ef : upd H f _ = H1
  obtain ⟨sH1, hf, dH1⟩ := new_of nf ef
  walk_at "go"
  refine .inl ?_
  walk_at "go"
  have hs1 := hs.same sH1
  refine hs1.at (m := "stretches") (fam := fam_stretches c) ⟨rfl, rfl⟩ (by decide +kernel) ?_
  walk_at "go"
  refine ⟨a, d, N, rfl, hs1, hpc, fun p xs H2 s2 np hp hd => ?_⟩
  have pf : p ≠ f := fun e => by rw [e, hf] at np; cases np
  have n1 := nf
  have lx : xs.length = (runsB N).length := by rw [hd.len, dPairs_len]
  have lr : (runsB N).length ≤ 200000 := Nat.le_trans (runsL_len _ (bitsOf N) rfl) hpc
  refine ⟨p, rfl, ⟨_, SqL.of hp⟩, for_list (K := c.K) (a := p) (xs := xs) (fun i σ H3 => ∃ (v w z : Option V), σ = [some (.ref a), some (.ref f), v, w, z] ∧ But f H2 H3 ∧ H3 f = some (.lst ((((runsB N).take i).map stretchS).map V.str)))
    ⟨none, none, none, rfl, But.refl _ _, s2 _ _ hf⟩ (fun i σ H3 _ ⟨_, _, _, _, b, _⟩ => SqL.of (b _ _ pf hp)) ?_ ?_⟩
  · rintro i x σ H3 hi ⟨v, w, z, rfl, b3, hf3⟩
    have hd3 := hd.to (show New H1 H2 H3 from fun b o n e => b3 b o (fun z => by rw [z, hf] at n; cases n) e)
    obtain ⟨r, t, hr, rfl, ht⟩ := dPairs_get hd3 hi
    obtain ⟨r1, r2⟩ := runsB_bound hs.b (List.mem_of_getElem? hr)
    have l3 : (((runsB N).take i).map stretchS).length ≤ 200000 := by
      rw [List.length_map, List.length_take]; omega
    refine ⟨t, _, rfl, ht, rfl, ?_⟩
    walk_at "go"
    refine r_strN (by omega) ?_
    walk_at "go"
    have fin : ∀ H4, Same H3 H4 → tDrop (tBM c.K "list" rAppend (tVar 1) (tCons (tVar 4) (tNil))) { nx := fun σ H3 => ∃ (v w z : Option V), σ = [some (.ref a), some (.ref f), v, w, z] ∧ But f H2 H3 ∧ H3 f = some (.lst ((((runsB N).take (i + 1)).map stretchS).map V.str)), rt := Q, bk := tRet (tOrT c.K (tM1 (rJoinS c.K) (tC (.str ",")) (tVar 1)) (tC (.str "none"))) { nx := fun _ H' => Q .non H', rt := Q }, ct := fun σ H3 => ∃ (v w z : Option V), σ = [some (.ref a), some (.ref f), v, w, z] ∧ But f H2 H3 ∧ H3 f = some (.lst ((((runsB N).take (i + 1)).map stretchS).map V.str)) }
        [some (.ref a), some (.ref f), some (.int (r.1 : Int)), some (.int (r.2 : Int)), some (.str (stretchS r))] H4 := by
      intro H4 s4
      walk_at "go"
      refine ⟨tyL (s4 _ _ hf3), ?_⟩
      walk_at "go"
      refine r_append (s4 _ _ hf3) (sl2 (by rw [List.length_map]; omega)) ?_
      refine ⟨_, _, _, rfl, (b3.trans (But.of s4)).trans But.upd, ?_⟩
      rw [upd_same, take_more hr, List.map_append, List.map_append]; rfl
    refine if_d (fun z => ?_) (fun z => ?_)
    · walk_at "go"
      refine r_strN r2 ?_
      have e1 : (Str.ofString "-").length = 1 := by decide +kernel
      have e2 := numS_len (n := r.1) (by omega)
      have e3 := numS_len (n := r.2) (by omega)
      have sl : sizeLine = 16777216 := rfl
      refine r_adds (by rw [e1, sl]; omega) ?_
      refine r_padds (by rw [Str.length_append, e1, sl]; omega) ?_
      have es : stretchS r = numS r.1 ++ (Str.ofString "-" ++ numS r.2) := by unfold stretchS; rw [if_pos (by omega)]
      have := fin H3 (Same.refl _)
      rw [es] at this
      exact this
    · refine w_next ?_
      have es : stretchS r = numS r.1 := by unfold stretchS; rw [if_neg (by omega)]
      have := fin H3 (Same.refl _)
      rw [es] at this
      exact this
  · rintro σ H3 ⟨v, w, z, rfl, b3, hf3⟩
    rw [lx, List.take_length] at hf3
    walk_at "go"
    have bd : ∀ p ∈ runsB N, p.1 < 16777216 ∧ p.2 < 16777216 := fun p hp => by
      have := runsB_bound hs.b hp
      omega
    refine ⟨⟨_, rfl⟩, ?_⟩
    walk_at "go"
    refine ⟨_, f, (runsB N).map stretchS, rfl, rfl, .inl (SqL.of hf3), join_len lr bd, ?_⟩
    exact or_none lr bd (hQ H3 (same_new (sH1.trans s2) n1 b3))
theorem w_m1 {r : V → List V → Hp → VK → Prop} {to te : TE} {σ : L2.St} {H : Hp} {Q : VK} (h : to σ H fun x H1 => (∃ a, x = .str a) ∧ te σ H1 fun y H2 => r x [y] H2 Q) : tM1 r to te σ H Q := h
theorem w_isS {x : Str} {R : Prop} (q : R) : (∃ a, V.str x = .str a) ∧ R := ⟨⟨_, rfl⟩, q⟩
local macro_rules | `(tactic| walk_at "go1") => `(tactic| first | with_reducible refine w_m1 ?_ | with_reducible refine w_isS ?_)
/-! ### a number's text -/
theorem trim_len (g : Nat → Bool) (l : List Nat) : (trim g l).length ≤ l.length := by
  unfold trim
  rw [List.length_reverse]
  have a := (List.dropWhile_sublist (p := g) (l := (l.dropWhile g).reverse)).length_le
  have b := (List.dropWhile_sublist (p := g) (l := l)).length_le
  rw [List.length_reverse] at a
  omega
theorem word_len (x : Str) : (word x).length ≤ x.length := by
  rw [TL.len_tl, TL.len_tl, tl_word]
  exact trim_len _ _
theorem r_strip {x y : Str} {H : Hp} {Q : VK} (h : x.length ≤ sizeLine) (q : Q (.str (Txt.stripChars x y)) H) : rStripS (.str x) [.str y] H Q := ⟨x, y, rfl, rfl, h, q⟩
theorem r_intS {x : Str} {n : Int} {H : Hp} {Q : VK} (h : PySem.intText? x = some n) (hl : x.length ≤ 640) (q : Q (.int n) H) : rInt [.str x] H Q := .inr ⟨x, n, rfl, h, hl, q⟩
def sp_read_number (c : Cs) : Sp := fun vs H Q E => ∃ x : Str, vs = [.str x] ∧ x.length ≤ sizeLine ∧ (okW x = true → Q (.int (valW x : Nat)) H) ∧ (okW x = false → E (.ref c.eNoText) none H)
theorem len_read_number (c : Cs) : ∀ vs H Q E, sp_read_number c vs H Q E → vs.length = (["text"] : List Str).length := by
  rintro vs H Q E ⟨x, rfl, _⟩; rfl
/-- read_number -/
def t_read_number (c : Cs) (E : XK) : TS :=
  tSeq (tAsg (tM1 (rStripS) (tVar 0) (tC (.str " "))) (gName 1))
    (tSeq (tIfS (tOr (tNot (tTest (tChain (rLe) (rLe) (tC (.int 1)) (tCB (rLen c.K) (tCons (tVar 1) (tNil))) (tC (.int 8))))) (tOr (tTest (tOp (rNeu c.K) (tM1 (rStripS) (tVar 1) (tC (.str "0123456789"))) (tC (.str "")))) (tTest (tOp (rGt) (tCB (rInt) (tCons (tVar 1) (tNil))) (tC (.int 16777215)))))) (fun _ σ H => E (.ref c.eNoText) none H) (tNext))
    (tRet (tCB (rInt) (tCons (tVar 1) (tNil)))))
theorem okW_iff (x : Str) : okW x = true ↔ 1 ≤ (word x).length ∧ (word x).length ≤ 8 ∧ (TL.tl (word x)).all figure = true ∧ valW x ≤ 16777215 := by
  unfold okW valW
  rw [Bool.and_eq_true, Bool.and_eq_true, Bool.and_eq_true, decide_eq_true_eq, decide_eq_true_eq, decide_eq_true_eq, and_assoc, and_assoc]
theorem pure_read_number {c : Cs} (G : Good c) (vs : List V) (H : Hp) (Q : VK) (E : XK) (h : sp_read_number c vs H Q E) : t_read_number c E { nx := fun _ H' => Q .non H', rt := Q } (start ["text", "word"] vs) H := by
  obtain ⟨x, rfl, hx, hQ, hE⟩ := h
  unfold t_read_number
  show tSeq _ _ _ [some (.str x), none] H
  have bad : ¬ (1 ≤ (word x).length ∧ (word x).length ≤ 8 ∧ (TL.tl (word x)).all figure = true ∧ valW x ≤ 16777215) → E (.ref c.eNoText) none H := fun z => hE (by
    rw [← okW_iff] at z
    simpa using z)
  rw [okW_iff] at hQ
  have lw := Nat.le_trans (word_len x) hx
  walk_at "go"
  refine r_strip hx ?_
  show gName 1 (.str (word x)) _ _ _
  walk_at "go"
  refine r_len_s lw ?_
  walk_at "go"
  refine if_d (fun z1 => ?_) (fun z1 => ?_)
  · walk_at "go"
    refine if_nd (fun z2 => ?_) (fun z2 => ?_)
    · refine if_t rfl ?_
      exact bad fun h => z2 (by omega)
    · walk_at "go"
      refine r_strip lw ?_
      walk_at "go"
      refine if_nd (fun z3 => ?_) (fun z3 => ?_)
      · refine if_t rfl ?_
        exact bad fun h => z3 ((word_figs x).mpr h.2.2.1)
      · walk_at "go"
        have fg := (word_figs x).mp z3
        refine r_intS (word_int fg (by omega) (by omega)) (by omega) ?_
        walk_at "go"
        refine if_d (fun z4 => ?_) (fun z4 => ?_)
        · exact bad fun h => by omega
        · walk_at "go"
          refine r_intS (word_int fg (by omega) (by omega)) (by omega) ?_
          walk_at "go"
          exact hQ ⟨by omega, by omega, fg, by omega⟩
  · walk_at "go"
    exact bad fun h => z1 (by omega)
theorem lcInv_keep2 {K : PySem.W.Frag} {H1 H H4 : Hp} {D : Addr} {keep : Nat → Bool} {f : Nat → PyData} {i : Nat} {y : V} (nD : H1 D = none) (h : LcInv K H1 D keep f i H) (hk : keep i = true) (s : Same H H4) (hy : Fd K H H4 y (f i)) (hl : i ≤ 9000000) :
    ∃ acc, H4 D = some (.lst acc) ∧ acc.length < sizeLine ∧ LcInv K H1 D keep f (i + 1) (upd H4 D (.lst (acc ++ [y]))) := by
  obtain ⟨acc, s1, hD, dom, hf⟩ := h
  have l := hf.len
  have l2 := pickD_len keep f i
  refine ⟨acc, s _ _ hD, sl2 (by omega), acc ++ [y], (s1.trans s).mut nD, upd_same, dom_mut (fun b q => dom b (s.free q)) (by rw [s _ _ hD]; simp), ?_⟩
  rw [pickD_succ, if_pos hk]
  exact Fds.snoc ((hf.to (New.same s)).to (New.mut upd_same New.refl)) ((hy.left dom).to (New.mut upd_same New.refl))
/-- a comprehension whose items must be right -/
theorem lcLX {K : PySem.W.Frag} {g : TG} {tt : TT} {te : TE} {vs : List Nat} {σ : L2.St} {H1 : Hp} {D : Addr} {Qd : Hp → Prop} (ok : Nat → Prop) (f : Nat → PyData) {a : Addr} {xs : List V} (nD : H1 D = none) (hx : SqL K H1 a xs) (hl : xs.length ≤ 9000000)
    (hs : ∀ (i : Nat) (x : V) (H : Hp) (Rk : VK) (Rs : Hp → Prop), xs[i]? = some x → Same H1 H → (ok i → ∀ y H4, Same H H4 → Fd K H H4 y (f i) → Rk y H4) → g x (wipe σ vs) H fun σ2 H2 => wipe σ2 vs = wipe σ vs ∧ tt σ2 H2 fun b H3 => if b = true then te σ2 H3 Rk else Rs H3)
    (hd : ∀ H acc, (∀ i, i < xs.length → ok i) → Same H1 H → H D = some (.lst acc) → Fds K H1 H acc (pickD (fun _ => true) f xs.length) → Qd H) :
    ∃ W : Nat → Nat → Hp → Prop, (∃ m, W 0 m (upd H1 D (.lst []))) ∧ ∀ i m H, W i m H →
      ((Itl K a).stop i H ∧ Qd H) ∨ ((Itl K a).go i H ∧ ∃ Nx : Hp → Prop, (∀ H', Nx H' → ∃ m', m' < m ∧ W (i + 1) m' H') ∧ ∀ x H', (Itl K a).yld i H x H' → g x (wipe σ vs) H' fun σ2 H2 => wipe σ2 vs = wipe σ vs ∧ tt σ2 H2 fun b H3 =>
        if b = true then te σ2 H3 fun y H4 => ∃ acc, H4 D = some (.lst acc) ∧ acc.length < sizeLine ∧ Nx (upd H4 D (.lst (acc ++ [y]))) else Nx H3) := by
  refine lc_list (K := K) (a := a) (xs := xs) (fun i H => LcInv K H1 D (fun _ => true) f i H ∧ ∀ j, j < i → ok j) ⟨lcInv0 nD, fun j h => by omega⟩ (fun i H _ ⟨⟨_, s, _⟩, _⟩ => s.seq hx) (fun i x H hi P => ?_) (fun H ⟨⟨acc, s, h, dom, hf⟩, o⟩ => hd H acc o s h (hf.left fun b q => ?_))
  · have il := (List.getElem?_eq_some_iff.mp hi).1
    refine hs i x H _ _ hi P.1.choose_spec.1 fun oi y H4 s hy => ?_
    obtain ⟨acc, h1, h2, h3⟩ := lcInv_keep2 nD P.1 rfl s hy (by omega)
    refine ⟨acc, h1, h2, h3, fun j hj => ?_⟩
    by_cases e : j = i
    · subst e; exact oi
    · exact P.2 j (by omega)
  · exact (new_of nD rfl).2.2 b q
/-! ### a stretch's text -/
def sp_read_stretch (c : Cs) : Sp := fun vs H Q E => ∃ x : Str, vs = [.str x] ∧ x.length + 2 ≤ sizeLine ∧
  (okS x = true → ∀ (p : Addr) (H' : Hp), Same H H' → H p = none → H' p = some (.tup [.int ((pairS x).1 : Nat), .int ((pairS x).2 : Nat)]) → Q (.ref p) H') ∧ (okS x = false → ∀ H', Same H H' → E (.ref c.eNoText) none H')
theorem len_read_stretch (c : Cs) : ∀ vs H Q E, sp_read_stretch c vs H Q E → vs.length = (["text"] : List Str).length := by
  rintro vs H Q E ⟨x, rfl, _⟩; rfl
/-- read_stretch -/
def t_read_stretch (c : Cs) (E : XK) : TS :=
  tSeq (tAsg (tM1 (rSplitS) (tVar 0) (tC (.str "-"))) (gName 1))
    (tSeq (tIfS (tTest (tOp (rGt) (tCB (rLen c.K) (tCons (tVar 1) (tNil))) (tC (.int 2)))) (fun _ σ H => E (.ref c.eNoText) none H) (tNext))
    (tSeq (tAsg (tLc (iSeq c.K (tVar 1)) (gName 3) (tYes) (tCall (sp_read_number c) [] E (tCons (tVar 3) (tNil))) [3]) (gName 2))
    (tRet (tTup (tCons (tOp (rIx c.K) (tVar 2) (tC (.int 0))) (tCons (tOp (rIx c.K) (tVar 2) (tUn rNeg (tC (.int 1)))) (tNil)))))))
theorem r_split {x y : Str} {H : Hp} {Q : VK} (h : x.length + 2 ≤ sizeLine) (e : (y.length == 0) = false) (q : ∀ p, H p = none → Q (.ref p) (upd H p (.lst ((Txt.split x y).map V.str)))) : rSplitS (.str x) [.str y] H Q := ⟨x, y, rfl, rfl, e, h, q⟩
theorem strs_get {l : List Str} {i : Nat} {v : V} (h : (l.map V.str)[i]? = some v) : ∃ s, l[i]? = some s ∧ v = .str s := by
  rw [List.getElem?_map] at h
  obtain ⟨s, h1, h2⟩ := Option.map_eq_some_iff.mp h
  exact ⟨s, h1, h2.symm⟩
theorem pure_read_stretch {c : Cs} (G : Good c) (vs : List V) (H : Hp) (Q : VK) (E : XK) (h : sp_read_stretch c vs H Q E) : t_read_stretch c E { nx := fun _ H' => Q .non H', rt := Q } (start ["text", "parts", "numbers", "part"] vs) H := by
  obtain ⟨x, rfl, hx, hQ, hE⟩ := h
  unfold t_read_stretch
  show tSeq _ _ _ [some (.str x), none, none, none] H
  walk_at "go"
  refine r_split hx (by decide +kernel) fun p np => ?_
  show gName 1 (.ref p) _ (upd H p (.lst ((cuts x).map V.str))) _
  generalize eH : upd H p _ = H1
  obtain ⟨sH1, hp, dH1⟩ := new_of np eH
  walk_at "go"
  refine r_len_l (SqL.of hp) ?_
  walk_at "go"
  have short : ∀ w ∈ cuts x, w.length ≤ sizeLine := fun w hw => by
    have a := PyProof.Rows.part_short hw
    omega
  have lc : (cuts x).length ≤ sizeLine := by
    have a := PyProof.Rows.split_le x "-"
    unfold cuts
    omega
  refine if_d (fun z => ?_) (fun z => ?_)
  · refine hE ?_ H1 sH1
    rw [List.length_map] at z
    unfold okS
    rw [decide_eq_false (by omega)]; rfl
  rw [List.length_map] at z
  walk_at "go"
  refine .inl ?_
  walk_at "go"
  refine ⟨p, rfl, ⟨_, SqL.of hp⟩, fun D nD => ?_⟩
  refine lcLX (K := c.K) (fun i => okW ((cuts x).getD i x) = true) (fun i => .int (valW ((cuts x).getD i x) : Nat)) nD (SqL.of hp) (by rw [List.length_map]; omega) (fun i y H2 Rk Rs hi s2 hk => ?_) (fun H2 acc oks s2 hD hf => ?_)
  · obtain ⟨w, hw, rfl⟩ := strs_get hi
    have mw := List.mem_of_getElem? hw
    have gw : (cuts x).getD i x = w := by rw [List.getD_eq_getElem?_getD, hw]; rfl
    rw [gw] at hk
    simp only [wipe, List.set_cons_zero, List.set_cons_succ]
    walk_at "go"
    refine ⟨(by first | exact rfl | exact trivial), ?_⟩
    walk_at "go"
    refine ⟨w, rfl, short w mw, fun ok => ?_, fun bad => ?_⟩
    · exact hk ok _ H2 (Same.refl _) (.int _)
    · refine hE ?_ H2 (sH1.trans s2)
      unfold okS
      rw [Bool.and_eq_false_iff]
      refine .inr ?_
      rw [List.all_eq_false]
      exact ⟨w, mw, by rw [bad]; simp⟩
  · have all : okS x = true := by
      unfold okS
      rw [decide_eq_true (by omega), Bool.true_and, List.all_eq_true]
      intro w hw
      obtain ⟨i, hi⟩ := List.getElem?_of_mem hw
      have il := (List.getElem?_eq_some_iff.mp hi).1
      have := oks i (by rw [List.length_map]; exact il)
      rw [List.getD_eq_getElem?_getD, hi] at this
      exact this
    rw [List.length_map] at hf
    have ea : acc = (cuts x).map fun w => V.int (valW w : Nat) := by
      have r := range_get (d := x) (fun w => PyData.int (valW w : Nat)) (cuts x)
      rw [pickD_all, r] at hf
      have : ((cuts x).map fun w => PyData.int (valW w : Nat)) = ((cuts x).map fun w => ((valW w : Nat) : Int)).map PyData.int := by rw [List.map_map]; rfl
      rw [this] at hf
      have := hf.intsInv
      rw [this, List.map_map]; rfl
    subst ea
    have hQ := hQ all
    unfold pairS at hQ
    walk_at "go"
    have ne := cuts_ne x
    rcases e : cuts x with _ | ⟨w1, _ | ⟨w2, _ | ⟨w3, l⟩⟩⟩
    · exact absurd e ne
    · rw [e] at hD hQ
      refine r_ixL (SqL.of hD) (atI_nat (j := 0) rfl) ?_
      walk_at "go"
      refine r_ixL (SqL.of hD) (atI_last [] _) ?_
      walk_at "go"
      refine ⟨sz5 (by simp), fun q nq => ?_⟩
      generalize eq : upd H2 q _ = H3
      obtain ⟨sH3, hq, dH3⟩ := new_of nq eq
      walk_at "go"
      exact hQ q H3 ((sH1.trans s2).trans sH3) (sH1.free (s2.free nq)) hq
    · rw [e] at hD hQ
      refine r_ixL (SqL.of hD) (atI_nat (j := 0) rfl) ?_
      walk_at "go"
      refine r_ixL (SqL.of hD) (atI_last [_] _) ?_
      walk_at "go"
      refine ⟨sz5 (by simp), fun q nq => ?_⟩
      generalize eq : upd H2 q _ = H3
      obtain ⟨sH3, hq, dH3⟩ := new_of nq eq
      walk_at "go"
      exact hQ q H3 ((sH1.trans s2).trans sH3) (sH1.free (s2.free nq)) hq
    · rw [e] at z
      simp at z; omega
/-! ### a set's text -/
def okT (x : Str) : Bool := (parts x).all okS
def goodP (p : Pr) : Bool := decide (p.1 ≤ p.2) && decide (p.2 - p.1 ≤ 99999)
def sp_read (c : Cs) : Sp := fun vs H Q E => ∃ x : Str, vs = [.str x] ∧ x.length + 2 ≤ sizeLine ∧ (parts x).length ≤ 9000000 ∧ LamX.Tabs c.T H ∧
  (∀ (s d N : Nat) (H' : Hp), (isNone x = true ∧ N = 0) ∨ (isNone x = false ∧ okT x = true ∧ ((parts x).map pairS).all goodP = true ∧ N = orM ((parts x).map pairS)) → H s = none → H d = none → LamX.ExtN H H' → LamX.Tabs c.T H' → SetAt c H' s d N → Q (.ref s) H') ∧
  (isNone x = false → okT x = false → ∀ H', LamX.ExtN H H' → LamX.Tabs c.T H' → E (.ref c.eNoText) none H') ∧
  (isNone x = false → okT x = true → ((parts x).map pairS).all goodP = false → ∀ H', LamX.ExtN H H' → LamX.Tabs c.T H' → E (.ref c.eNoStretch) none H')
theorem len_read (c : Cs) : ∀ vs H Q E, sp_read c vs H Q E → vs.length = (["text"] : List Str).length := by
  rintro vs H Q E ⟨x, rfl, _⟩; rfl
/-- read -/
def t_read (c : Cs) (E : XK) : TS :=
  tSeq (tAsg (tMake c.set (sp_NumberSet___init__ c) [.non] E tNil) (gName 1))
    (tSeq (tIfS (tTest (tOp (rEqu c.K) (tM1 (rStripS) (tVar 0) (tC (.str " "))) (tC (.str "none")))) (tRet (tVar 1)) (tNext))
    (tSeq (tAsg (tLc (iSeq c.K (tM1 (rSplitS) (tVar 0) (tC (.str ",")))) (gName 5) (tYes) (tCall (sp_read_stretch c) [] E (tCons (tVar 5) (tNil))) [5]) (gName 2))
    (tSeq (tFor (iSeq c.K (tVar 2)) (gTup c.K 2 (gCons (gName 3) (gCons (gName 4) (gNil)))) (tDrop (tCall (sp_need_stretch c) [] E (tCons (tVar 3) (tCons (tVar 4) (tNil))))))
    (tSeq (tFor (iSeq c.K (tVar 2)) (gTup c.K 2 (gCons (gName 3) (gCons (gName 4) (gNil)))) (tDrop (tMethF (fam_put_all c) "put_all" [] E (tVar 1) (tCons (tVar 3) (tCons (tVar 4) (tNil))))))
    (tRet (tVar 1))))))
theorem valW_lt {x : Str} (h : okW x = true) : valW x < 16777216 := by
  have := (okW_iff x).mp h
  omega
theorem pairS_lt {x : Str} (h : okS x = true) : (pairS x).1 < 16777216 ∧ (pairS x).2 < 16777216 := by
  unfold okS at h
  rw [Bool.and_eq_true, List.all_eq_true] at h
  have ne := cuts_ne x
  unfold pairS
  refine ⟨valW_lt (h.2 _ ?_), valW_lt (h.2 _ ?_)⟩
  · rcases e : cuts x with _ | ⟨w, l⟩
    · exact absurd e ne
    · exact List.mem_cons_self
  · rw [List.getLastD_eq_getLast?, List.getLast?_eq_some_getLast ne]
    exact List.getLast_mem ne
theorem dPairs_at {K : PySem.W.Frag} {H : Hp} {xs : List V} {l : List Pr} {i : Nat} {x : V} (h : DpAll K H xs (dPairs l)) (hi : xs[i]? = some x) : ∃ r, l[i]? = some r ∧ Dp K H x (.tuple [.int (r.1 : Int), .int (r.2 : Int)]) := by
  obtain ⟨dd, hdd, hx⟩ := h.get hi
  unfold dPairs at hdd
  rw [List.getElem?_map] at hdd
  cases e : l[i]? with
  | none => rw [e] at hdd; cases hdd
  | some r => rw [e] at hdd; exact ⟨r, rfl, by rw [← Option.some.inj hdd] at hx; exact hx⟩
theorem pair_inv {K : PySem.W.Frag} {H : Hp} {x : V} {i j : Int} (h : Dp K H x (.tuple [.int i, .int j])) : ∃ t, x = .ref t ∧ SqT K H t [.int i, .int j] := by
  obtain ⟨t, zs, rfl, ht, hz⟩ := h.tup_inv
  have : zs = [.int i, .int j] := dpa_ints_inv (ns := [i, j]) hz
  subst this
  exact ⟨t, rfl, ht⟩
theorem pure_read {c : Cs} (G : GoodS c) (vs : List V) (H : Hp) (Q : VK) (E : XK) (h : sp_read c vs H Q E) : t_read c E { nx := fun _ H' => Q .non H', rt := Q } (start ["text", "found", "pairs", "first", "last", "part"] vs) H := by
  obtain ⟨x, rfl, hx, hl, hT, hQ, hE, hE2⟩ := h
  unfold t_read
  show tSeq _ _ _ [some (.str x), none, none, none, none, none] H
  walk_at "go"
  refine mk_set (c := c) (xs := []) rfl (.inl ⟨rfl, rfl⟩) (fun y hy => (by cases hy)) (fun _ s d H1 ns nd s1 set1 => ?_) (fun ⟨y, hy, _⟩ => (by cases hy))
  walk_at "go"
  refine r_strip (by omega) ?_
  walk_at "go"
  have T1 := hT.ext s1
  refine if_d (fun z => ?_) (fun z => ?_)
  · have z : word x = "none" := z
    walk_at "go"
    exact hQ s d 0 H1 (.inl ⟨decide_eq_true z, rfl⟩) ns nd (.of s1) T1 (by simpa [orV] using set1)
  have z : ¬ word x = "none" := z
  have iz : isNone x = false := decide_eq_false z
  walk_at "go"
  refine .inl ?_
  walk_at "go"
  refine r_split hx (by decide +kernel) fun p np => ?_
  generalize eH : upd H1 p (.lst ((Txt.split x (Str.ofString ",")).map V.str)) = H2
  obtain ⟨sH2, hp0, dH2⟩ := new_of np eH
  have hp : H2 p = some (.lst ((parts x).map V.str)) := hp0
  have T2 := T1.ext sH2
  refine ⟨p, rfl, ⟨_, SqL.of hp⟩, fun D nD => ?_⟩
  have short : ∀ w ∈ parts x, w.length ≤ x.length := fun w hw => PyProof.Rows.part_short hw
  refine lcLX (K := c.K) (fun i => okS ((parts x).getD i x) = true) (fun i => .tuple [.int ((pairS ((parts x).getD i x)).1 : Nat), .int ((pairS ((parts x).getD i x)).2 : Nat)]) nD (SqL.of hp) (by rw [List.length_map]; omega) (fun i y H3 Rk Rs hi s3 hk => ?_) (fun H3 acc oks s3 hD hf => ?_)
  · obtain ⟨w, hw, rfl⟩ := strs_get hi
    have mw := List.mem_of_getElem? hw
    have gw : (parts x).getD i x = w := by rw [List.getD_eq_getElem?_getD, hw]; rfl
    rw [gw] at hk
    have lw := short w mw
    simp only [wipe, List.set_cons_zero, List.set_cons_succ]
    walk_at "go"
    refine ⟨(by first | exact rfl | exact trivial), ?_⟩
    walk_at "go"
    refine ⟨w, rfl, by omega, fun ok q H4 s4 nq hq => ?_, fun bad H4 s4 => ?_⟩
    · exact hk ok _ H4 s4 (Fd.tup nq hq (Fds.cons (.int _) (Fds.cons (.int _) .nil)))
    · refine hE iz ?_ H4 (.of (((s1.trans sH2).trans s3).trans s4)) ((T2.ext s3).ext s4)
      unfold okT
      rw [List.all_eq_false]
      exact ⟨w, mw, by rw [bad]; simp⟩
  have all : okT x = true := by
    unfold okT
    rw [List.all_eq_true]
    intro w hw
    obtain ⟨i, hi⟩ := List.getElem?_of_mem hw
    have il := (List.getElem?_eq_some_iff.mp hi).1
    have := oks i (by rw [List.length_map]; exact il)
    rw [List.getD_eq_getElem?_getD, hi] at this
    exact this
  rw [List.length_map] at hf
  have ef : pickD (fun _ => true) (fun i => PyData.tuple [.int ((pairS ((parts x).getD i x)).1 : Nat), .int ((pairS ((parts x).getD i x)).2 : Nat)]) (parts x).length = dPairs ((parts x).map pairS) := by
    rw [pickD_all, range_get (d := x) (fun w => PyData.tuple [.int ((pairS w).1 : Nat), .int ((pairS w).2 : Nat)]) (parts x)]
    unfold dPairs
    rw [List.map_map]; rfl
  rw [ef] at hf
  have hE2 := hE2 iz all
  have hQ := fun N g e => fun Hf e1 e2 e3 => hQ s d N Hf (.inr ⟨iz, all, g, e⟩) ns nd e1 e2 e3
  have lt : ∀ p ∈ (parts x).map pairS, p.1 < 16777216 ∧ p.2 < 16777216 := fun p hp => by
    obtain ⟨w, hw, rfl⟩ := List.mem_map.mp hp
    exact pairS_lt (List.all_eq_true.mp all w hw)
  clear oks all ef
  generalize (parts x).map pairS = ps at *
  have lx : acc.length = ps.length := by rw [hf.len, dPairs_len]
  have T3 := T2.ext s3
  have set3 := (set1.same sH2).same s3
  have s13 := sH2.trans s3
  walk_at "go"
  refine .inl ?_
  walk_at "go"
  refine ⟨D, rfl, ⟨_, SqL.of hD⟩, for_list (K := c.K) (a := D) (xs := acc) (fun i σ Hc => ∃ (v w : Option V), σ = [some (.str x), some (.ref s), some (.ref D), v, w, none] ∧ Hc = H3 ∧ (ps.take i).all goodP = true)
    ⟨none, none, rfl, rfl, rfl⟩ (fun i σ Hc _ ⟨_, _, _, e, _⟩ => by rw [e]; exact SqL.of hD) ?_ ?_⟩
  · rintro i y σ Hc hi ⟨v, w, rfl, rfl, hg⟩
    obtain ⟨r, hr, hx⟩ := dPairs_at hf.now hi
    obtain ⟨t, rfl, ht⟩ := pair_inv hx
    refine ⟨t, _, rfl, ht, rfl, ?_⟩
    walk_at "go"
    refine ⟨r.1, r.2, rfl, fun g1 g2 => ?_, fun g => ?_⟩
    · walk_at "go"
      refine ⟨_, _, rfl, rfl, ?_⟩
      rw [take_more hr, List.all_append, hg]
      unfold goodP
      simp [g1]
      omega
    · refine hE2 ?_ Hc (.of (s1.trans s13)) T3
      rw [List.all_eq_false]
      refine ⟨r, List.mem_of_getElem? hr, ?_⟩
      unfold goodP
      simp; omega
  rintro σ Hc ⟨v, w, rfl, rfl, hg⟩
  rw [lx, List.take_length] at hg
  walk_at "go"
  refine .inl ?_
  walk_at "go"
  have nsD : D ≠ d := by
    intro e
    obtain ⟨kv, h1⟩ := set3.d
    rw [← e, hD] at h1
    cases h1
  refine ⟨D, rfl, ⟨_, SqL.of hD⟩, for_list (K := c.K) (a := D) (xs := acc) (fun i σ Hf => ∃ (v w : Option V), σ = [some (.str x), some (.ref s), some (.ref D), v, w, none] ∧ ButX d Hc Hf ∧ LamX.Tabs c.T Hf ∧ SetAt c Hf s d (orM (ps.take i)))
    ⟨v, w, rfl, ButX.refl _ _, T3, set3⟩ (fun i σ Hf _ ⟨_, _, _, b, _⟩ => SqL.of (b _ _ nsD (fun _ z => by cases z) hD)) ?_ ?_⟩
  · rintro i y σ Hf hi ⟨v, w, rfl, bf, Tf, setf⟩
    obtain ⟨r, hr, hx⟩ := dPairs_at hf.now hi
    obtain ⟨t, rfl, ht⟩ := pair_inv (bf.dp set3.d hx)
    obtain ⟨g1, g2⟩ := lt r (List.mem_of_getElem? hr)
    refine ⟨t, _, rfl, ht, rfl, ?_⟩
    walk_at "go"
    refine setf.at (m := "put_all") (fam := fam_put_all c) ⟨rfl, rfl⟩ (by decide +kernel) ?_
    walk_at "go"
    have gr := List.all_eq_true.mp hg r (List.mem_of_getElem? hr)
    unfold goodP at gr
    rw [Bool.and_eq_true, decide_eq_true_eq, decide_eq_true_eq] at gr
    refine ⟨s, d, _, _, _, rfl, setf, .int _, .int _, Tf, fun m n H5 e1 e2 h1 h2 h3 b5 T5 set5 => ?_, fun zz => ?_, fun m n e1 e2 h1 h2 h3 => ?_⟩
    · have e1' : (r.1 : Int) = (m : Int) := V.int.inj e1
      have e2' : (r.2 : Int) = (n : Int) := V.int.inj e2
      have e1 : r.1 = m := by omega
      have e2 : r.2 = n := by omega
      subst e1 e2
      walk_at "go"
      refine ⟨_, _, rfl, bf.trans b5, T5, ?_⟩
      rw [take_more hr, orM_snoc]
      exact set5
    · exfalso
      have f1 : numV (.int (r.1 : Int)) = true := by unfold numV; simp; omega
      have f2 : numV (lastV (.int (r.1 : Int)) (.int (r.2 : Int))) = true := by unfold lastV; rw [if_neg (by simp)]; unfold numV; simp; omega
      rcases zz with zz | zz
      · rw [f1] at zz; cases zz
      · have zz : numV (lastV (.int (r.1 : Int)) (.int (r.2 : Int))) = false := zz
        rw [f2] at zz; cases zz
    · exfalso
      have e1' : (r.1 : Int) = (m : Int) := V.int.inj e1
      have e2' : (r.2 : Int) = (n : Int) := V.int.inj e2
      omega
  · rintro σ Hf ⟨v, w, rfl, bf, Tf, setf⟩
    rw [lx, List.take_length] at setf
    walk_at "go"
    exact hQ _ hg rfl Hf (ext_new (s1.trans s13) nd bf) Tf setf
local macro_rules | `(tactic| walk_at "go1") => `(tactic| first | with_reducible refine w_m1 ?_ | with_reducible refine w_isS ?_)
/-! ### the text of some numbers, as a law puts it together -/
def sp__law_stretches (c : Cs) : Sp := sp__law_runs c
theorem len__law_stretches (c : Cs) : ∀ vs H Q E, sp__law_stretches c vs H Q E → vs.length = (["_law_numbers_here"] : List Str).length := by
  rintro vs H Q E ⟨a, l, rfl, _⟩; rfl
/-- _law_stretches -/
def t__law_stretches (c : Cs) (E : XK) : TS :=
  tSeq (tAsg (tLst (tNil)) (gName 1))
    (tSeq (tFor (iSeq c.K (tVar 0)) (gName 2) (tIfS (tAnd (tTest (tOp (rNeu c.K) (tVar 1) (tLst (tNil)))) (tTest (tOp (rEqu c.K) (tOp rAdd (tOp (rIx c.K) (tOp (rIx c.K) (tVar 1) (tUn rNeg (tC (.int 1)))) (tC (.int 1))) (tC (.int 1))) (tVar 2)))) (tAsg (tTup (tCons (tOp (rIx c.K) (tOp (rIx c.K) (tVar 1) (tUn rNeg (tC (.int 1)))) (tC (.int 0))) (tCons (tVar 2) (tNil)))) (gSub (tVar 1) (tUn rNeg (tC (.int 1))) rSetL)) (tDrop (tBM c.K "list" rAppend (tVar 1) (tCons (tTup (tCons (tVar 2) (tCons (tVar 2) (tNil)))) (tNil))))))
    (tRet (tVar 1)))
theorem pure__law_stretches {c : Cs} (G : Good c) (vs : List V) (H : Hp) (Q : VK) (E : XK) (h : sp__law_stretches c vs H Q E) : t__law_stretches c E { nx := fun _ H' => Q .non H', rt := Q } (start ["_law_numbers_here", "_law_found", "_law_number"] vs) H := by
  exact pure__law_runs G vs H Q E h
theorem strOk_stretch (p : Pr) : PyData.strOk (stretchS p) = true := by
  have hf : ∀ n : Nat, ∀ c ∈ TL.tl (numS n), c < 1114112 := fun n c hc => by
    rw [tl_numS] at hc
    have := TL.numL_digits n c hc
    omega
  have : ∀ c ∈ TL.tl (stretchS p), c < 1114112 := by
    unfold stretchS
    split
    · rw [TL.tl_append, TL.tl_append, tl_dash]
      intro c hc
      rcases List.mem_append.mp hc with h | h
      · exact hf _ c h
      · rcases List.mem_append.mp h with h | h
        · simp at h; omega
        · exact hf _ c h
    · exact hf _
  unfold PyData.strOk
  rw [← Array.all_toList, List.all_eq_true]
  intro c hc
  exact decide_eq_true (this c hc)
theorem dp_strs {K : PySem.W.Frag} {H : Hp} : ∀ l : List Str, DpAll K H (l.map V.str) (l.map PyData.str)
  | [] => .nil
  | s :: l => .cons (.str s) (dp_strs l)
theorem Sm.strs {n : Nat} (l : List Pr) : ∀ d ∈ (l.map stretchS).map PyData.str, Sm n d := fun d hd => by
  obtain ⟨s, hs, rfl⟩ := List.mem_map.mp hd
  obtain ⟨p, _, rfl⟩ := List.mem_map.mp hs
  exact .str (strOk_stretch p)
theorem mul_one (x : Str) : Txt.mul x ((1 : Nat) : Int) = x := by
  unfold Txt.mul
  rw [if_neg (by decide), if_pos (by rfl)]
theorem mul_none (x : Str) : Txt.mul x ((0 : Nat) : Int) = Str.empty := by
  unfold Txt.mul
  rw [if_pos (by decide)]
theorem r_mulS {a : Str} {n : Nat} {H : Hp} {Q : VK} (h1 : n ≤ 1000) (h2 : a.length ≤ 1000) (q : Q (.str (Txt.mul a n)) H) : rMulS (.str a) (.int (n : Int)) H Q := ⟨a, n, rfl, rfl, h1, h2, q⟩
def sp__law_text (c : Cs) : Sp := fun vs H Q _ => ∃ (a : Addr) (l : List Nat), vs = [.ref a] ∧ SqL c.K H a ((nz l).map V.int) ∧ l.length ≤ 50000 ∧ (∀ x ∈ l, x < 16777216) ∧ ∀ H', Same H H' → Q (.str (textS (runsL l))) H'
theorem len__law_text (c : Cs) : ∀ vs H Q E, sp__law_text c vs H Q E → vs.length = (["_law_numbers_here"] : List Str).length := by
  rintro vs H Q E ⟨a, l, rfl, _⟩; rfl
/-- _law_text -/
def t__law_text (c : Cs) (E : XK) : TS :=
  tSeq (tAsg (tLst (tNil)) (gName 1))
    (tSeq (tFor (iSeq c.K (tCall (sp__law_stretches c) [] E (tCons (tVar 0) (tNil)))) (gTup c.K 2 (gCons (gName 2) (gCons (gName 3) (gNil)))) (tDrop (tBM c.K "list" rAppend (tVar 1) (tCons (tOp rAdd (tCB (rStrI) (tCons (tVar 2) (tNil))) (tOp rMulS (tOp rAdd (tC (.str "-")) (tCB (rStrI) (tCons (tVar 3) (tNil)))) (tCB (rInt) (tCons (tOp (rGt) (tVar 3) (tVar 2)) (tNil))))) (tNil)))))
    (tRet (tOp (rIx c.K) (tLst (tCons (tM1 (rJoinS c.K) (tC (.str ",")) (tVar 1)) (tCons (tC (.str "none")) (tNil)))) (tCB (rInt) (tCons (tOp (rEqu c.K) (tVar 1) (tLst (tNil))) (tNil))))))
theorem pure__law_text {c : Cs} (G : Good c) (vs : List V) (H : Hp) (Q : VK) (E : XK) (h : sp__law_text c vs H Q E) : t__law_text c E { nx := fun _ H' => Q .non H', rt := Q } (start ["_law_numbers_here", "_law_parts", "_law_first", "_law_last"] vs) H := by
  obtain ⟨a, l, rfl, ha, hl, hlt, hQ⟩ := h
  unfold t__law_text
  show tSeq _ _ _ [some (.ref a), none, none, none] H
  walk_at "go"
  refine ⟨sz5 (by simp), fun f nf => ?_⟩
  generalize ef : upd H f _ = H1
  obtain ⟨sH1, hf, dH1⟩ := new_of nf ef
  walk_at "go"
  refine .inl ?_
  walk_at "go"
  refine ⟨a, l, rfl, sH1.seq ha, hl, fun p xs H2 s2 np hp hd => ?_⟩
  have pf : p ≠ f := fun e => by rw [e, hf] at np; cases np
  have n1 := nf
  have lx : xs.length = (runsL l).length := by rw [hd.len, dPairs_len]
  have lr : (runsL l).length ≤ 50000 := Nat.le_trans (runsL_len _ l rfl) hl
  have bd : ∀ p ∈ runsL l, p.1 < 16777216 ∧ p.2 < 16777216 := fun p hp => by
    obtain ⟨h1, h2, h3⟩ := runsL_mem _ l rfl p hp
    exact ⟨hlt _ h1, hlt _ h2⟩
  refine ⟨p, rfl, ⟨_, SqL.of hp⟩, for_list (K := c.K) (a := p) (xs := xs) (fun i σ H3 => ∃ (v w : Option V), σ = [some (.ref a), some (.ref f), v, w] ∧ But f H2 H3 ∧ H3 f = some (.lst ((((runsL l).take i).map stretchS).map V.str)))
    ⟨none, none, rfl, But.refl _ _, s2 _ _ hf⟩ (fun i σ H3 _ ⟨_, _, _, b, _⟩ => SqL.of (b _ _ pf hp)) ?_ ?_⟩
  · rintro i x σ H3 hi ⟨v, w, rfl, b3, hf3⟩
    have hd3 := hd.to (show New H1 H2 H3 from fun b o n e => b3 b o (fun z => by rw [z, hf] at n; cases n) e)
    obtain ⟨r, t, hr, rfl, ht⟩ := dPairs_get hd3 hi
    obtain ⟨r1, r2⟩ := bd r (List.mem_of_getElem? hr)
    have l3 : (((runsL l).take i).map stretchS).length ≤ 50000 := by
      rw [List.length_map, List.length_take]; omega
    have e1 : (Str.ofString "-").length = 1 := by decide +kernel
    have e2 := numS_len (n := r.1) (by omega)
    have e3 := numS_len (n := r.2) (by omega)
    have sl : sizeLine = 16777216 := rfl
    refine ⟨t, _, rfl, ht, rfl, ?_⟩
    walk_at "go"
    refine ⟨tyL hf3, ?_⟩
    walk_at "go"
    refine r_strN r1 ?_
    walk_at "go"
    refine r_strN r2 ?_
    refine r_adds (by rw [e1, sl]; omega) ?_
    walk_at "go"
    have es : stretchS r = numS r.1 ++ Txt.mul (Str.ofString "-" ++ numS r.2) (((if r.1 < r.2 then 1 else 0) : Nat) : Int) := by
      unfold stretchS
      by_cases z : r.1 < r.2
      · rw [if_pos z, if_pos z, mul_one]
      · rw [if_neg z, if_neg z, mul_none]
        refine TL.ext_tl ?_
        rw [TL.tl_append]
        show _ = _ ++ ([] : List Nat)
        rw [List.append_nil]
    have ei : (if decide ((r.1 : Int) < (r.2 : Int)) = true then (1 : Int) else 0) = (((if r.1 < r.2 then 1 else 0) : Nat) : Int) := by
      by_cases z : r.1 < r.2
      · rw [if_pos z, decide_eq_true (by omega)]; rfl
      · rw [if_neg z, decide_eq_false (by omega)]; rfl
    rw [ei]
    have l17 := stretch_len (p := r) r1 r2
    rw [es, Str.length_append] at l17
    refine r_mulS (by split <;> omega) (by rw [Str.length_append, e1]; omega) ?_
    refine r_adds (by rw [sl]; omega) ?_
    rw [← es]
    walk_at "go"
    refine r_append hf3 (sl2 (by rw [List.length_map]; omega)) ?_
    refine ⟨_, _, rfl, b3.trans But.upd, ?_⟩
    rw [upd_same, take_more hr, List.map_append, List.map_append]; rfl
  · rintro σ H3 ⟨v, w, rfl, b3, hf3⟩
    rw [lx, List.take_length] at hf3
    have s3 := same_new (sH1.trans s2) n1 b3
    walk_at "go"
    refine ⟨_, f, (runsL l).map stretchS, rfl, rfl, .inl (SqL.of hf3), join_len (by omega) bd, ?_⟩
    walk_at "go"
    refine ⟨sz5 (by simp), fun q nq => ?_⟩
    generalize eq : upd H3 q _ = H4
    obtain ⟨sH4, hq, dH4⟩ := new_of nq eq
    walk_at "go"
    refine ⟨sz5 (by simp), fun y ny => ?_⟩
    generalize ey : upd H4 y _ = H5
    obtain ⟨sH5, hy, dH5⟩ := new_of ny ey
    walk_at "go"
    refine r_eqd (.lst (SqL.of (sH5 _ _ (sH4 _ _ hf3))) (dp_strs _)) (.lst (SqL.of hy) .nil) (Sm.list (n := 0) (Sm.strs _)).shaped (Sm.list (n := 0) (fun d hd => by cases hd)).shaped ?_
    rw [eqv_nil]
    walk_at "go"
    have hq5 := sH5 _ _ hq
    have hQ := hQ H5 ((s3.trans sH4).trans sH5)
    unfold textS at hQ
    by_cases z : runsL l = []
    · rw [if_pos z] at hQ
      rw [z]
      refine r_ixL (SqL.of hq5) (atI_nat (j := 1) rfl) ?_
      exact hQ
    · rw [if_neg z] at hQ
      have e : (((runsL l).map stretchS).map PyData.str).isEmpty = false := by
        cases e : runsL l with
        | nil => exact absurd e z
        | cons a b => rfl
      rw [e]
      refine r_ixL (SqL.of hq5) (atI_nat (j := 0) rfl) ?_
      exact hQ
/-! ### read back -/
theorem text_parts {l : List Pr} (h : l ≠ []) (hl : ∀ p ∈ l, p.1 ≤ p.2 ∧ p.2 < 16777216) : okT (textS l) = true ∧ (parts (textS l)).map pairS = l ∧ (parts (textS l)).length = l.length := by
  rw [parts_text h]
  refine ⟨?_, ?_, by rw [List.length_map]⟩
  · unfold okT
    rw [parts_text h, List.all_eq_true]
    intro s hs
    obtain ⟨p, hp, rfl⟩ := List.mem_map.mp hs
    exact (okS_stretch (hl p hp).1 (hl p hp).2).1
  · rw [List.map_map]
    have : ∀ p ∈ l, (pairS ∘ stretchS) p = p := fun p hp => (okS_stretch (hl p hp).1 (hl p hp).2).2
    rw [List.map_congr_left this]
    exact List.map_id' l
theorem parts_none : (parts (textS [])).length = 1 := by decide +kernel
theorem runs_ne {N : Nat} (h : N ≠ 0) : runsB N ≠ [] := fun e => by
  have : ∀ i, N.testBit i = false := fun i => by
    have := cov_bits N i
    rw [e] at this
    cases z : N.testBit i with
    | false => rfl
    | true => obtain ⟨p, hp, _⟩ := this.mpr z; cases hp
  exact h (Nat.eq_of_testBit_eq fun i => by rw [this i, Nat.zero_testBit])
theorem read_back {c : Cs} {H : Hp} {Q : VK} {E : XK} {N : Nat} (hb : In24 N) (hp : popc N ≤ 200000) (hT : LamX.Tabs c.T H) (hw : ∀ p ∈ runsB N, p.2 - p.1 ≤ 99999)
    (q : ∀ (s d : Nat) (H' : Hp), H s = none → H d = none → LamX.ExtN H H' → LamX.Tabs c.T H' → SetAt c H' s d N → Q (.ref s) H') : sp_read c [.str (textS (runsB N))] H Q E := by
  have lr : (runsB N).length ≤ 200000 := Nat.le_trans (runsL_len _ (bitsOf N) rfl) hp
  have bd : ∀ p ∈ runsB N, p.1 ≤ p.2 ∧ p.2 < 16777216 := fun p h => runsB_bound hb h
  have tl := text_len lr fun p h => by have := bd p h; omega
  have sl : sizeLine = 16777216 := rfl
  by_cases z : N = 0
  · subst z
    rw [runsB_zero] at tl ⊢
    refine ⟨_, rfl, by omega, by rw [parts_none]; decide, hT, fun s d M H' h n1 n2 e t st => ?_, fun h => ?_, fun h => ?_⟩
    · rcases h with ⟨_, rfl⟩ | ⟨h, _⟩
      · exact q s d H' n1 n2 e t st
      · rw [text_none] at h; cases h
    · rw [text_none] at h; cases h
    · rw [text_none] at h; cases h
  · have ne := runs_ne z
    obtain ⟨k1, k2, k3⟩ := text_parts ne bd
    have good : ((parts (textS (runsB N))).map pairS).all goodP = true := by
      rw [k2, List.all_eq_true]
      intro p h
      unfold goodP
      rw [decide_eq_true (bd p h).1, decide_eq_true (hw p h)]; rfl
    refine ⟨_, rfl, by omega, by omega, hT, fun s d M H' h n1 n2 e t st => ?_, fun _ h => ?_, fun _ _ h => ?_⟩
    · rcases h with ⟨h, _⟩ | ⟨_, _, _, h⟩
      · rw [text_some ne] at h; cases h
      · rw [k2, orM_runs] at h
        subst h
        exact q s d H' n1 n2 e t st
    · rw [k1] at h; cases h
    · rw [good] at h; cases h
theorem read_wide {c : Cs} {H : Hp} {Q : VK} {E : XK} {m n : Nat} (hT : LamX.Tabs c.T H) (h1 : m + 99999 < n) (h2 : n < 16777216)
    (q : ∀ H', LamX.ExtN H H' → LamX.Tabs c.T H' → E (.ref c.eNoStretch) none H') : sp_read c [.str (textS [(m, n)])] H Q E := by
  have bd : ∀ p ∈ [((m, n) : Pr)], p.1 ≤ p.2 ∧ p.2 < 16777216 := fun p h => by
    rw [List.mem_singleton.mp h]; exact ⟨by show m ≤ n; omega, h2⟩
  obtain ⟨k1, k2, k3⟩ := text_parts (l := [(m, n)]) (by simp) bd
  have tl := text_len (l := [(m, n)]) (by simp) fun p h => by have := bd p h; omega
  have sl : sizeLine = 16777216 := rfl
  have good : ((parts (textS [(m, n)])).map pairS).all goodP = false := by
    rw [k2]
    unfold goodP
    simp
    omega
  refine ⟨_, rfl, by omega, by rw [k3]; simp, hT, fun s d M H' h n1 n2 e t st => ?_, fun _ h => ?_, fun _ _ _ => q⟩
  · rcases h with ⟨h, _⟩ | ⟨_, _, h, _⟩
    · rw [text_some (by simp)] at h; cases h
    · rw [good] at h; cases h
  · rw [k1] at h; cases h
/-! ### try .. except X without a name -/
def tTryN (K : PySem.W.Frag) (c : Value) (ts : Addr → Value → Option Addr → TS) (Wout : WX) (tb : WX → TS) : TS := fun D σ H => tb (wMany K Wout D [(c, ts)]) D σ H
theorem w_tryN {K : PySem.W.Frag} {c : Value} {ts : Addr → Value → Option Addr → TS} {Wout : WX} {tb : WX → TS} {D : Ends} {σ : L2.St} {H : Hp} (h : tb (wMany K Wout D [(c, ts)]) D σ H) : tTryN K c ts Wout tb D σ H := h
theorem we_yesN {K : PySem.W.Frag} {c cls : Value} {d : Option Addr} {ts : Addr → Value → Option Addr → TS} {Wout : WX} {D : Ends} {σ : L2.St} {H : Hp} (e : PySem.W.exmOne K cls c = some true) (h : ∀ a, H a = none → ts a cls d D σ H) : WE (wMany K Wout D [(c, ts)]) σ cls d H :=
  ⟨true, e, fun _ => h, fun z => by cases z⟩
theorem ps_tryN {X : Cx} {x : Str} {c : Value} {body suite : List Stmt} {b₀ : Stmt} {np pos pos' : Pos} {tb : WX → TS} {ts : Addr → Value → Option Addr → TS} {Wout : WX} (hs : X.stack = X.env :: X.outer) (hf : X.env.frame = some X.env.locals) (hc : Names X x c) (tk : L2N.Takes X Wout)
    (hb : ∀ (W : WX) (pn : List (Addr × Obj)) (xe : Value → Shared → Prop), L2N.Takes (X.tr pn xe) W → PassesOwn (model X.prog X.w) X.A X.env xe → PSs (X.tr pn xe) body (tb W))
    (hu : ∀ (a : Addr) (oe : Obj) (cls : Value) (d : Option Addr) (pn : List (Addr × Obj)), L2N.Zn cls d oe → (∃ vs, oe.data = .fields vs) → PSs (X.suite a ((a, oe) :: pn)) (b₀ :: suite) (ts a cls d)) :
    PS X (.Try body [.ExceptHandler (some (.Name x np)) none (b₀ :: suite) pos'] [] [] pos) (tTryN X.K c ts Wout tb) := L2N.ps_try_many hs hf tk hb (.cons hc hu .nil)
/-- NoStretch is caught as such -/
structure GoodN (c : Cs) : Prop where
  got : PySem.W.exmOne c.K (.ref c.eNoStretch) (.ref c.eNoStretch) = some true
def sp__law_wide (c : Cs) : Sp := fun vs H Q _ => ∃ (m k : Nat), vs = [.int (m : Int), .int (k : Int)] ∧ m ≤ 16600000 ∧ k < 300 ∧ LamX.Tabs c.T H ∧ ∀ H', LamX.ExtN H H' → LamX.Tabs c.T H' → Q (.bl true) H'
theorem len__law_wide (c : Cs) : ∀ vs H Q E, sp__law_wide c vs H Q E → vs.length = (["_law_first", "_law_more"] : List Str).length := by
  rintro vs H Q E ⟨m, k, rfl, _⟩; rfl
/-- _law_wide -/
def t__law_wide (c : Cs) (E : XK) : TS :=
  tSeq (tAsg (tMake c.set (sp_NumberSet___init__ c) [.non] E tNil) (gName 2))
    (tSeq (tDrop (tMethF (fam_put_all c) "put_all" [] E (tVar 2) (tCons (tVar 0) (tCons (tOp rAdd (tVar 0) (tC (.int 99999))) (tNil)))))
    (tSeq (tDrop (tMethF (fam_put_all c) "put_all" [] E (tVar 2) (tCons (tOp rAdd (tVar 0) (tC (.int 100000))) (tCons (tOp rAdd (tOp rAdd (tVar 0) (tC (.int 100000))) (tVar 1)) (tNil)))))
    (tSeq (tAsg (tCall (sp_written c) [] E (tCons (tVar 2) (tNil))) (gName 3))
    (tSeq (tAsg (tC (.bl false)) (gName 4))
    (tSeq (tTryN c.K (.ref c.eNoStretch) (fun a cls d => tAsg (tC (.bl true)) (gName 4)) (fun cls d _ H => E cls d H) (fun W => tDrop (tCallW (sp_read c) [] W (tCons (tVar 3) (tNil)))))
    (tRet (tAndV (tOp (rEqu c.K) (tVar 3) (tOp rAdd (tOp rAdd (tCB (rStrI) (tCons (tVar 0) (tNil))) (tC (.str "-"))) (tCB (rStrI) (tCons (tOp rAdd (tOp rAdd (tVar 0) (tC (.int 100000))) (tVar 1)) (tNil))))) (tVar 4))))))))
/-- put_all of numbers -/
theorem put_all_of {c : Cs} {H : Hp} {Q : VK} {E : XK} {a d N m n : Nat} (hs : SetAt c H a d N) (hT : LamX.Tabs c.T H) (h1 : m ≤ n) (h2 : n - m ≤ 99999) (h3 : n < 16777216)
    (q : ∀ H', ButX d H H' → LamX.Tabs c.T H' → SetAt c H' a d (N ||| mask m n) → Q (.int ((popc (N ||| mask m n) : Int) - (popc N : Int))) H') : sp_NumberSet_put_all c [.ref a, .int (m : Int), .int (n : Int)] H Q E := by
  refine ⟨a, d, N, _, _, rfl, hs, .int _, .int _, hT, fun m' n' H' e1 e2 _ _ _ b t s => ?_, fun zz => ?_, fun m' n' e1 e2 _ _ z => ?_⟩
  · have e1' : (m : Int) = (m' : Int) := V.int.inj e1
    have e2' : (n : Int) = (n' : Int) := V.int.inj e2
    have e1 : m = m' := by omega
    have e2 : n = n' := by omega
    subst e1 e2
    exact q H' b t s
  · exfalso
    have f1 : numV (.int (m : Int)) = true := by unfold numV; simp; omega
    have f2 : numV (.int (n : Int)) = true := by unfold numV; simp; omega
    rcases zz with zz | zz
    · rw [f1] at zz; cases zz
    · have zz : numV (.int (n : Int)) = false := zz
      rw [f2] at zz; cases zz
  · exfalso
    have e1' : (m : Int) = (m' : Int) := V.int.inj e1
    have e2' : (n : Int) = (n' : Int) := V.int.inj e2
    omega
theorem pure__law_wide {c : Cs} (G : GoodS c) (GN : GoodN c) (vs : List V) (H : Hp) (Q : VK) (E : XK) (h : sp__law_wide c vs H Q E) : t__law_wide c E { nx := fun _ H' => Q .non H', rt := Q } (start ["_law_first", "_law_more", "_law_wide_here", "_law_text_here", "_law_refused"] vs) H := by
  obtain ⟨m, k, rfl, hm, hk, hT, hQ⟩ := h
  unfold t__law_wide
  show tSeq _ _ _ [some (.int (m : Int)), some (.int (k : Int)), none, none, none] H
  walk_at "go"
  refine mk_set (c := c) (xs := []) rfl (.inl ⟨rfl, rfl⟩) (fun y hy => (by cases hy)) (fun _ s d H1 ns nd s1 set1 => ?_) (fun ⟨y, hy, _⟩ => (by cases hy))
  have T1 := hT.ext s1
  have e0 : orV [] = 0 := by simp [orV]
  rw [e0] at set1
  walk_at "go"
  refine set1.at (m := "put_all") (fam := fam_put_all c) ⟨rfl, rfl⟩ (by decide +kernel) ?_
  walk_at "go"
  have ea : (m : Int) + 99999 = ((m + 99999 : Nat) : Int) := by omega
  rw [ea]
  refine put_all_of set1 T1 (by omega) (by omega) (by omega) fun H2 b2 T2 set2 => ?_
  rw [Nat.zero_or] at set2
  walk_at "go"
  refine set2.at (m := "put_all") (fam := fam_put_all c) ⟨rfl, rfl⟩ (by decide +kernel) ?_
  walk_at "go"
  have eb : (m : Int) + 100000 = ((m + 99999 + 1 : Nat) : Int) := by omega
  have ec : ((m + 99999 + 1 : Nat) : Int) + (k : Int) = ((m + 100000 + k : Nat) : Int) := by omega
  rw [eb, ec]
  refine put_all_of set2 T2 (by omega) (by omega) (by omega) fun H3 b3 T3 set3 => ?_
  rw [mask_or (by omega) (by omega)] at set3
  walk_at "go"
  have pc := popc_mask (m := m) (n := m + 100000 + k) (by omega)
  refine ⟨s, d, _, rfl, set3, by omega, fun H4 s4 => ?_⟩
  rw [runs_mask (by omega)]
  have T4 := T3.ext s4
  have e14 : LamX.ExtN H H4 := (ext_new s1 nd (b2.trans b3)).trans (.of s4)
  have es : textS [(m, m + 100000 + k)] = numS m ++ (Str.ofString "-" ++ numS (m + 100000 + k)) := by
    have : stretchS (m, m + 100000 + k) = numS m ++ (Str.ofString "-" ++ numS (m + 100000 + k)) := by
      unfold stretchS
      rw [if_pos (by show m + 100000 + k > m; omega)]
    rw [← this]; rfl
  walk_at "go"
  refine w_tryN ?_
  walk_at "go"
  refine read_wide T4 (by omega) (by omega) fun H5 e5 T5 => ?_
  refine we_yesN GN.got fun ez nez => ?_
  walk_at "go"
  refine r_strN (by omega) ?_
  have sl : sizeLine = 16777216 := rfl
  have l1 : (Str.ofString "-").length = 1 := by decide +kernel
  have l2 := numS_len (n := m) (by omega)
  have l3 := numS_len (n := m + 100000 + k) (by omega)
  refine r_adds (by rw [l1, sl]; omega) ?_
  walk_at "go"
  rw [eb, ec]
  refine r_strN (by omega) ?_
  refine r_adds (by rw [Str.length_append, l1, sl]; omega) ?_
  have e6 : numS m ++ Str.ofString "-" ++ numS (m + 100000 + k) = textS [(m, m + 100000 + k)] := by
    rw [es]
    refine TL.ext_tl ?_
    rw [TL.tl_append, TL.tl_append, TL.tl_append, TL.tl_append, List.append_assoc]
  rw [e6]
  walk_at "go"
  rw [decide_eq_true rfl]
  walk_at "go"
  exact hQ H5 (e14.trans e5) T5
local macro_rules | `(tactic| walk_at "go1") => `(tactic| first | with_reducible refine w_m1 ?_ | with_reducible refine w_isS ?_)
theorem popc_win9 {m w : Nat} (hm : m < 2 ^ 3072) : popc (m * 2 ^ (256 * w)) ≤ 3072 := by
  rw [popc_mul]
  exact bitsOf_len hm
/-! ### a text in a text -/
theorem join_has {s : Nat} {y : List Nat} : ∀ {ys : List (List Nat)}, y ∈ ys → ∃ a b, TL.joinL [s] ys = a ++ (y ++ b)
  | [], h => by cases h
  | [x], h => ⟨[], [], by rw [List.mem_singleton.mp h]; simp [TL.joinL]⟩
  | x :: z :: r, h => by
    have e : TL.joinL [s] (x :: z :: r) = x ++ ([s] ++ TL.joinL [s] (z :: r)) := rfl
    rcases List.mem_cons.mp h with rfl | h
    · exact ⟨[], _, e⟩
    · obtain ⟨a, b, h2⟩ := join_has (s := s) h
      exact ⟨x ++ ([s] ++ a), b, by rw [e, h2]; simp⟩
theorem found_in {x y : Str} {a b : List Nat} (hy : TL.tl y ≠ []) (h : TL.tl x = a ++ (TL.tl y ++ b)) : (!(Builtin.Str.occurrences x y 0 x.length 1).isEmpty) = true := by
  refine (StrLaws.found_iff x y).mpr ⟨a.length, ?_⟩
  refine (TL.at_iff hy a.length).mpr ?_
  rw [h, List.drop_left]
  unfold TL.pre
  rw [List.take_left]
  exact beq_self_eq_true _
theorem str_found {l : List Pr} {f e : Nat} (h : (f, e) ∈ l) : (!(Builtin.Str.occurrences (textS l) (numS f) 0 (textS l).length 1).isEmpty) = true := by
  have ne : l ≠ [] := fun z => by rw [z] at h; cases h
  obtain ⟨t, ht⟩ : ∃ t, TL.tl (stretchS (f, e)) = TL.tl (numS f) ++ t := by
    unfold stretchS
    split
    · exact ⟨_, TL.tl_append _ _⟩
    · exact ⟨[], (List.append_nil _).symm⟩
  have ej : TL.tl (textS l) = TL.joinL [44] ((l.map stretchS).map TL.tl) := by
    unfold textS
    rw [if_neg ne, TL.join_eq, TL.tl_join]
    exact congrArg (fun z => TL.joinL z _) tl_comma
  obtain ⟨a, b, hab⟩ := join_has (s := 44) (y := TL.tl (stretchS (f, e))) (ys := (l.map stretchS).map TL.tl) (List.mem_map.mpr ⟨_, List.mem_map.mpr ⟨_, h, rfl⟩, rfl⟩)
  refine found_in (a := a) (b := t ++ b) (by rw [tl_numS]; exact TL.numL_ne f) ?_
  rw [ej, hab, ht, List.append_assoc]
/-! ### a wide stretch beside the window -/
theorem len_split (p : Nat → Bool) : ∀ l : List Nat, (l.filter p).length + (l.filter fun x => !p x).length = l.length
  | [] => rfl
  | x :: l => by
    have ih := len_split p l
    rw [List.filter_cons, List.filter_cons, List.length_cons]
    cases h : p x
    · simp only [Bool.false_eq_true, if_false, Bool.not_false, if_true, List.length_cons]; omega
    · simp only [if_true, Bool.not_true, Bool.false_eq_true, if_false, List.length_cons]; omega
theorem filt_ext {a b : Nat} {p : Nat → Bool} (h : ∀ i, (a.testBit i && p i) = b.testBit i) : (bitsOf a).filter p = bitsOf b := by
  refine sorted_ext (List.Pairwise.filter _ (bitsOf_sorted _)) (bitsOf_sorted _) fun i => ?_
  rw [List.mem_filter, mem_bitsOf, mem_bitsOf, ← h i, Bool.and_eq_true]
theorem mask_btw {f l : Nat} (h : f ≤ l) (i : Nat) : (mask f l).testBit i = between f l i := mask_bit (by omega) i
theorem popc_put {N f l : Nat} (h : f ≤ l) : popc (N ||| mask f l) + ((bitsOf N).filter (between f l)).length = popc N + (l + 1 - f) := by
  have h1 := len_split (between f l) (bitsOf (N ||| mask f l))
  have h2 := len_split (between f l) (bitsOf N)
  have e1 : (bitsOf (N ||| mask f l)).filter (between f l) = bitsOf (mask f l) := filt_ext fun i => by
    rw [Nat.testBit_or, mask_btw h]
    cases N.testBit i <;> cases between f l i <;> rfl
  have e2 : (bitsOf (N ||| mask f l)).filter (fun x => !between f l x) = (bitsOf N).filter (fun x => !between f l x) := by
    refine sorted_ext (List.Pairwise.filter _ (bitsOf_sorted _)) (List.Pairwise.filter _ (bitsOf_sorted _)) fun i => ?_
    rw [List.mem_filter, List.mem_filter, mem_bitsOf, mem_bitsOf, Nat.testBit_or, mask_btw h]
    cases N.testBit i <;> cases between f l i <;> simp
  have e3 := popc_mask h
  unfold popc at e3 ⊢
  rw [e1, e2] at h1
  omega
theorem drop_put {N f l : Nat} (h : f ≤ l) : (bitsOf N).filter (fun x => !between f l x) = bitsOf (Wy.op .dropA (N ||| mask f l) (mask f l)) := filt_ext fun i => by
  rw [op_bit, Nat.testBit_or, mask_btw h]
  cases N.testBit i <;> cases between f l i <;> rfl
theorem bit_win {m w i : Nat} (hm : m < 2 ^ 3072) (h : (m * 2 ^ (256 * w)).testBit i = true) : 256 * w ≤ i ∧ i < 256 * w + 3072 := by
  rw [Nat.testBit_mul_two_pow, Bool.and_eq_true, decide_eq_true_eq] at h
  refine ⟨h.1, ?_⟩
  refine Nat.lt_of_not_le fun z => ?_
  rw [Nat.testBit_lt_two_pow (lt_pow_mono hm (show 3072 ≤ i - 256 * w by omega))] at h
  exact absurd h.2 (by simp)
theorem win_width {m w : Nat} (hm : m < 2 ^ 3072) : ∀ p ∈ runsB (m * 2 ^ (256 * w)), p.2 - p.1 ≤ 99999 := fun p hp => by
  obtain ⟨h1, h2, h3⟩ := runsL_mem _ (bitsOf (m * 2 ^ (256 * w))) rfl p hp
  have a := bit_win hm (mem_bitsOf.mp h1)
  have b := bit_win hm (mem_bitsOf.mp h2)
  omega
/-- how the stretch lies by the window -/
def Beside (w f l : Nat) : Prop := f ≤ l ∧ l - f ≤ 99999 ∧ l < 16777216 ∧ (f = 256 * w + 4000 ∨ (f + 4000 = 256 * w ∧ l ≤ f + 9999))
theorem put_bit {m w f l i : Nat} (hm : m < 2 ^ 3072) (h : Beside w f l) (hi : (m * 2 ^ (256 * w) ||| mask f l).testBit i = true) : (256 * w ≤ i ∧ i < 256 * w + 3072) ∨ (f ≤ i ∧ i ≤ l) := by
  obtain ⟨h1, _⟩ := h
  rw [Nat.testBit_or, Bool.or_eq_true] at hi
  rcases hi with hi | hi
  · exact .inl (bit_win hm hi)
  · rw [mask_bit (by omega), Bool.and_eq_true, decide_eq_true_eq, decide_eq_true_eq] at hi
    exact .inr hi
theorem put_width {m w f l : Nat} (hm : m < 2 ^ 3072) (h : Beside w f l) : ∀ p ∈ runsB (m * 2 ^ (256 * w) ||| mask f l), p.2 - p.1 ≤ 99999 := fun p hp => by
  have c : ∀ i, p.1 ≤ i → i ≤ p.2 → (256 * w ≤ i ∧ i < 256 * w + 3072) ∨ (f ≤ i ∧ i ≤ l) := fun i a b => put_bit hm h ((cov_bits _ i).mp ⟨p, hp, a, b⟩)
  have le := runs_le _ hp
  have c1 := c p.1 (Nat.le_refl _) le
  have c2 := c p.2 le (Nat.le_refl _)
  obtain ⟨h1, h2, h3, h4⟩ := h
  rcases h4 with h4 | ⟨h4, h5⟩
  · by_cases z : p.1 ≤ 256 * w + 3072 ∧ 256 * w + 3072 ≤ p.2
    · have := c _ z.1 z.2
      omega
    · omega
  · omega
theorem put_start {m w f l : Nat} (hm : m < 2 ^ 3072) (h : Beside w f l) : ∃ e, (f, e) ∈ runsB (m * 2 ^ (256 * w) ||| mask f l) := by
  have hf : (m * 2 ^ (256 * w) ||| mask f l).testBit f = true := by
    rw [Nat.testBit_or, mask_bit (by have := h.1; omega), decide_eq_true (Nat.le_refl _), decide_eq_true h.1]; simp
  obtain ⟨p, hp, a, b⟩ := (cov_bits _ f).mpr hf
  have : p.1 = f := by
    refine Nat.le_antisymm a (Nat.le_of_not_lt fun z => ?_)
    have := put_bit hm h ((cov_bits _ (f - 1)).mp ⟨p, hp, by omega, by omega⟩)
    obtain ⟨h1, h2, h3, h4⟩ := h
    omega
  exact ⟨p.2, by have : p = (f, p.2) := Prod.ext this rfl
                 rw [← this]; exact hp⟩
theorem put_in24 {N f l : Nat} (hN : In24 N) (h : f ≤ l) (hl : l < 16777216) : In24 (N ||| mask f l) := fun i hi => by
  rw [Nat.testBit_or, Bool.or_eq_true] at hi
  rcases hi with hi | hi
  · exact hN i hi
  · rw [mask_bit (by omega), Bool.and_eq_true, decide_eq_true_eq, decide_eq_true_eq] at hi
    omega
/-- read twice, or read and held against another -/
theorem same_of {c : Cs} {H : Hp} {Q : VK} {E : XK} {a d b e N : Nat} (h1 : SetAt c H a d N) (h2 : SetAt c H b e N) (hT : LamX.Tabs c.T H) (q : ∀ H', LamX.ExtN H H' → LamX.Tabs c.T H' → Q (.bl true) H') : sp_same c [.ref a, .ref b] H Q E :=
  ⟨a, d, N, b, e, N, rfl, h1, h2, hT, fun H' e t => by rw [decide_eq_true rfl]; exact q H' e t⟩
theorem drop_all_of {c : Cs} {H : Hp} {Q : VK} {E : XK} {a d N m n : Nat} (hs : SetAt c H a d N) (hT : LamX.Tabs c.T H) (h1 : m ≤ n) (h2 : n - m ≤ 99999) (h3 : n < 16777216)
    (q : ∀ v H', ButX d H H' → LamX.Tabs c.T H' → SetAt c H' a d (Wy.op .dropA N (mask m n)) → Q v H') : sp_NumberSet_drop_all c [.ref a, .int (m : Int), .int (n : Int)] H Q E := by
  refine ⟨a, d, N, _, _, rfl, hs, .int _, .int _, hT, fun m' n' H' e1 e2 _ _ _ b t s => ?_, fun zz => ?_, fun m' n' e1 e2 _ _ z => ?_⟩
  · have e1' : (m : Int) = (m' : Int) := V.int.inj e1
    have e2' : (n : Int) = (n' : Int) := V.int.inj e2
    have e1 : m = m' := by omega
    have e2 : n = n' := by omega
    subst e1 e2
    exact q _ H' b t s
  · exfalso
    have f1 : numV (.int (m : Int)) = true := by unfold numV; simp; omega
    have f2 : numV (.int (n : Int)) = true := by unfold numV; simp; omega
    rcases zz with zz | zz
    · rw [f1] at zz; cases zz
    · have zz : numV (.int (n : Int)) = false := zz
      rw [f2] at zz; cases zz
  · exfalso
    have e1' : (m : Int) = (m' : Int) := V.int.inj e1
    have e2' : (n : Int) = (n' : Int) := V.int.inj e2
    omega
def t_wide (c : Cs) (E : XK) : TS :=
  tIfS (tAnd (tTest (tOp (rEqu c.K) (tOp rMod (tCall (sp__law_cell_at c) [] E (tCons (tVar 0) (tCons (tC (.int 92)) (tNil)))) (tC (.int 12))) (tC (.int 1)))) (tNot (tB (tCall (sp__law_wide c) [] E (tCons (tCB (rMinU c.K) (tCons (tVar 1) (tCons (tC (.int 16600000)) (tNil)))) (tCons (tOp rMod (tCall (sp__law_cell_at c) [] E (tCons (tVar 0) (tCons (tC (.int 93)) (tNil)))) (tC (.int 300))) (tNil))))))) (tRet (tC (.bl false))) (tNext)
theorem wide_if {c : Cs} {E : XK} {D : Ends} {H : Hp} {a : Addr} {ns : List Int} {w : Nat} {v2 v3 v4 v5 v6 v7 v8 v9 v10 v11 : Option V} (ha : SqL c.K H a (ns.map V.int)) (hT : LamX.Tabs c.T H) (hw : w ≤ 65524)
    (h : ∀ H', LamX.ExtN H H' → LamX.Tabs c.T H' → D.nx [some (.ref a), some (.int ((256 * w : Nat) : Int)), v2, v3, v4, v5, v6, v7, v8, v9, v10, v11] H') :
    t_wide c E D [some (.ref a), some (.int ((256 * w : Nat) : Int)), v2, v3, v4, v5, v6, v7, v8, v9, v10, v11] H := by
  unfold t_wide
  walk_at "go"
  refine ⟨a, ns, 92, rfl, ha, by decide, by decide, ?_⟩
  walk_at "go"
  refine if_d (fun z => ?_) (fun z => ?_)
  · walk_at "go"
    refine ⟨a, ns, 93, rfl, ha, by decide, by decide, ?_⟩
    walk_at "go"
    obtain ⟨k, hk, hk2⟩ : ∃ k : Nat, (cellN ns 93 : Int) % 300 = k ∧ k < 300 := ⟨cellN ns 93 % 300, by omega, by omega⟩
    rw [hk]
    have em : (if (16600000 : Int) < ((256 * w : Nat) : Int) then (16600000 : Int) else ((256 * w : Nat) : Int)) = ((if 16600000 < 256 * w then 16600000 else 256 * w : Nat) : Int) := by
      split <;> split <;> omega
    rw [em]
    refine ⟨_, k, rfl, by split <;> omega, hk2, hT, fun H1 e1 t1 => ?_⟩
    walk_at "go"
    exact h H1 e1 t1
  · walk_at "go"
    exact h H (LamX.ExtN.of (Same.refl _)) hT
theorem len_law (c : Cs) : ∀ vs H Q E, sp_law c vs H Q E → vs.length = (["_law_script"] : List Str).length := by
  rintro vs H Q E ⟨a, ns, rfl, _⟩; rfl
/-- law -/
def t_law (c : Cs) (E : XK) : TS :=
  tSeq (tAsg (tCall (sp__law_begin c) [] E (tCons (tCall (sp__law_cell_at c) [] E (tCons (tVar 0) (tCons (tC (.int 0)) (tNil)))) (tNil))) (gName 1))
    (tSeq (tAsg (tCall (sp__law_built c) [] E (tCons (tVar 0) (tCons (tVar 1) (tNil)))) (gTup c.K 2 (gCons (gName 2) (gCons (gName 3) (gNil)))))
    (tSeq (tAsg (tCall (sp__law_text c) [] E (tCons (tCall (sp__law_numbers c) [] E (tCons (tVar 3) (tCons (tVar 1) (tNil)))) (tNil))) (gName 4))
    (tSeq (tAsg (tCall (sp_written c) [] E (tCons (tVar 2) (tNil))) (gName 5))
    (tSeq (tIfS (tOr (tNot (tB (tCB (rIsiU c.K) (tCons (tVar 5) (tCons (tC (.ty "str")) (tNil)))))) (tOr (tTest (tOp (rNeu c.K) (tVar 5) (tVar 4))) (tOr (tTest (tOp (rNeu c.K) (tCall (sp_written c) [] E (tCons (tCall (sp_read c) [] E (tCons (tVar 5) (tNil))) (tNil))) (tVar 4))) (tNot (tB (tCall (sp_same c) [] E (tCons (tCall (sp_read c) [] E (tCons (tVar 5) (tNil))) (tCons (tVar 2) (tNil))))))))) (tRet (tC (.bl false))) (tNext))
    (tSeq (tIfS (tAnd (tTest (tOp (rEqu c.K) (tOp rMod (tCall (sp__law_cell_at c) [] E (tCons (tVar 0) (tCons (tC (.int 92)) (tNil)))) (tC (.int 12))) (tC (.int 1)))) (tNot (tB (tCall (sp__law_wide c) [] E (tCons (tCB (rMinU c.K) (tCons (tVar 1) (tCons (tC (.int 16600000)) (tNil)))) (tCons (tOp rMod (tCall (sp__law_cell_at c) [] E (tCons (tVar 0) (tCons (tC (.int 93)) (tNil)))) (tC (.int 300))) (tNil))))))) (tRet (tC (.bl false))) (tNext))
    (tSeq (tIfS (tTest (tOp (rEqu c.K) (tOp rMod (tCall (sp__law_cell_at c) [] E (tCons (tVar 0) (tCons (tC (.int 90)) (tNil)))) (tC (.int 12))) (tC (.int 1)))) (tSeq (tAsg (tOp rSub (tOp rAdd (tVar 1) (tC (.int 4000))) (tOp rMul (tC (.int 8000)) (tCB (rInt) (tCons (tOp (rGt) (tVar 1) (tC (.int 16000000))) (tNil))))) (gName 6))
    (tSeq (tAsg (tOp rSub (tOp rAdd (tVar 6) (tOp rMod (tCall (sp__law_cell_at c) [] E (tCons (tVar 0) (tCons (tC (.int 91)) (tNil)))) (tC (.int 100000)))) (tOp rMul (tC (.int 90000)) (tCB (rInt) (tCons (tOp (rGt) (tVar 1) (tC (.int 16000000))) (tNil))))) (gName 7))
    (tSeq (tAsg (tCB (rMinU c.K) (tCons (tC (.int 16777215)) (tCons (tCB (rMaxU c.K) (tCons (tVar 6) (tCons (tVar 7) (tNil)))) (tNil)))) (gName 7))
    (tSeq (tAsg (tMethF (fam_put_all c) "put_all" [] E (tVar 2) (tCons (tVar 6) (tCons (tVar 7) (tNil)))) (gName 8))
    (tSeq (tIfS (tTest (tOp (rNeu c.K) (tVar 8) (tOp rSub (tOp rAdd (tOp rSub (tVar 7) (tVar 6)) (tC (.int 1))) (tCB (rLen c.K) (tCons (tLc (iSeq c.K (tCall (sp__law_numbers c) [] E (tCons (tVar 3) (tCons (tVar 1) (tNil))))) (gName 11) (tTest (tChain (rLe) (rLe) (tVar 6) (tVar 11) (tVar 7))) (tVar 11) [11]) (tNil)))))) (tRet (tC (.bl false))) (tNext))
    (tSeq (tAsg (tCall (sp_written c) [] E (tCons (tVar 2) (tNil))) (gName 9))
    (tSeq (tDrop (tMethF (fam_drop_all c) "drop_all" [] E (tVar 2) (tCons (tVar 6) (tCons (tVar 7) (tNil)))))
    (tSeq (tAsg (tLc (iSeq c.K (tCall (sp__law_numbers c) [] E (tCons (tVar 3) (tCons (tVar 1) (tNil))))) (gName 11) (tNot (tTest (tChain (rLe) (rLe) (tVar 6) (tVar 11) (tVar 7)))) (tVar 11) [11]) (gName 10))
    (tRet (tAndV (tOp rInT (tCB (rStrI) (tCons (tVar 6) (tNil))) (tVar 9)) (tAndV (tOp (rEqu c.K) (tCall (sp_written c) [] E (tCons (tVar 2) (tNil))) (tCall (sp__law_text c) [] E (tCons (tVar 10) (tNil)))) (tCall (sp_same c) [] E (tCons (tCall (sp_read c) [] E (tCons (tVar 9) (tNil))) (tCons (tCall (sp_read c) [] E (tCons (tVar 9) (tNil))) (tNil))))))))))))))) (tNext))
    (tRet (tOp (rEqu c.K) (tCall (sp_written c) [] E (tCons (tVar 2) (tNil))) (tVar 4)))))))))
theorem pure_law {c : Cs} (G : GoodS c) (GN : GoodN c) (vs : List V) (H : Hp) (Q : VK) (E : XK) (h : sp_law c vs H Q E) : t_law c E { nx := fun _ H' => Q .non H', rt := Q } (start ["_law_script", "_law_begin_here", "_law_numbers_here", "_law_mask", "_law_text_here", "_law_found", "_law_first", "_law_last", "_law_many", "_law_far", "_law_kept", "_law_one"] vs) H := by
  obtain ⟨a, ns, rfl, ha, hl, hT, hQ⟩ := h
  unfold t_law
  show tSeq _ _ _ [some (.ref a), none, none, none, none, none, none, none, none, none, none, none] H
  walk_at "go"
  refine ⟨a, ns, 0, rfl, ha, by decide, by decide, ?_⟩
  walk_at "go"
  refine ⟨_, rfl, cellN_lt _ _, fun w H1 hw s1 => ?_⟩
  walk_at "go"
  refine ⟨a, ns, w, rfl, s1.seq ha, hT.ext s1, by omega, fun x d m p H2 hm nx nd e2 t2 set2 hp => ?_⟩
  walk_at "go"
  refine ⟨p, _, rfl, SqT.of hp, rfl, ?_⟩
  walk_at "go"
  have ha2 := seq_ext e2 (s1.seq ha)
  have hpc := popc_win9 (w := w) hm
  have hww := win_width (w := w) hm
  refine ⟨m, w, rfl, hm, by omega, fun p3 H3 s3 n3 h3 => ?_⟩
  have hb := set2.b
  refine ⟨p3, _, rfl, SqL.of h3, by unfold popc at hpc; omega, fun y hy => hb y (mem_bitsOf.mp hy), fun H4 s4 => ?_⟩
  show gName 4 (.str (textS (runsB (m * 2 ^ (256 * w))))) _ _ _
  walk_at "go"
  have set4 := (set2.same s3).same s4
  have ha4 := s4.seq (s3.seq ha2)
  have t4 := (t2.ext s3).ext s4
  refine ⟨x, d, _, rfl, set4, by omega, fun H5 s5 => ?_⟩
  have set5 := set4.same s5
  have ha5 := s5.seq ha4
  have t5 := t4.ext s5
  walk_at "go"
  rw [decide_eq_true rfl]
  walk_at "go"
  refine read_back hb (by omega) t5 hww fun s6 d6 H6 n6 n6' e6 t6 set6 => ?_
  walk_at "go"
  refine ⟨s6, d6, _, rfl, set6, by omega, fun H7 s7 => ?_⟩
  have t7 := t6.ext s7
  walk_at "go"
  rw [decide_eq_true rfl]
  walk_at "go"
  refine read_back hb (by omega) t7 hww fun s8 d8 H8 n8 n8' e8 t8 set8 => ?_
  have set8' := ((set5.ext e6).same s7).ext e8
  walk_at "go"
  refine same_of set8 set8' t8 fun H9 e9 t9 => ?_
  have ha9 := seq_ext e9 (seq_ext e8 (s7.seq (seq_ext e6 ha5)))
  have set9 := set8'.ext e9
  refine ⟨_, rfl, ?_⟩
  refine w_nT ?_
  refine w_next ?_
  refine w_seq ?_
  refine wide_if (E := E) ha9 t9 hw fun HA eA tA => ?_
  have setA := set9.ext eA
  have haA := seq_ext eA ha9
  walk_at "go"
  refine ⟨a, ns, 90, rfl, haA, by decide, by decide, ?_⟩
  walk_at "go"
  refine if_d (fun z => ?_) (fun z => ?_)
  case refine_2 =>
    walk_at "go"
    refine ⟨x, d, _, rfl, setA, by omega, fun HB sB => ?_⟩
    walk_at "go"
    rw [decide_eq_true rfl]
    exact hQ HB
  walk_at "go"
  obtain ⟨b, hb1, hb2⟩ : ∃ b : Nat, (if decide ((16000000 : Int) < ((256 * w : Nat) : Int)) = true then (1 : Int) else 0) = (b : Int) ∧ ((b = 1 ∧ 16000000 < 256 * w) ∨ (b = 0 ∧ 256 * w ≤ 16000000)) := by
    by_cases big : 16000000 < 256 * w
    · exact ⟨1, by rw [decide_eq_true (by omega)]; rfl, .inl ⟨rfl, big⟩⟩
    · exact ⟨0, by rw [decide_eq_false (by omega)]; rfl, .inr ⟨rfl, by omega⟩⟩
  rw [hb1]
  walk_at "go"
  obtain ⟨f, hf⟩ : ∃ f : Nat, ((256 * w : Nat) : Int) + 4000 - 8000 * (b : Int) = (f : Int) := ⟨(((256 * w : Nat) : Int) + 4000 - 8000 * (b : Int)).toNat, by omega⟩
  rw [hf]
  refine ⟨a, ns, 91, rfl, haA, by decide, by decide, ?_⟩
  walk_at "go"
  obtain ⟨k, hk, hk2⟩ : ∃ k : Nat, (cellN ns 91 : Int) % 100000 = k ∧ k < 100000 := ⟨cellN ns 91 % 100000, by omega, by omega⟩
  rw [hk, hb1]
  walk_at "go"
  obtain ⟨l, hl1, hl2⟩ : ∃ l : Nat, (if (if ((f : Int) + (k : Int) - 90000 * (b : Int)) > (f : Int) then ((f : Int) + (k : Int) - 90000 * (b : Int)) else (f : Int)) < 16777215 then (if ((f : Int) + (k : Int) - 90000 * (b : Int)) > (f : Int) then ((f : Int) + (k : Int) - 90000 * (b : Int)) else (f : Int)) else (16777215 : Int)) = (l : Int) ∧ Beside w f l := by
    refine ⟨(if (if ((f : Int) + (k : Int) - 90000 * (b : Int)) > (f : Int) then ((f : Int) + (k : Int) - 90000 * (b : Int)) else (f : Int)) < 16777215 then (if ((f : Int) + (k : Int) - 90000 * (b : Int)) > (f : Int) then ((f : Int) + (k : Int) - 90000 * (b : Int)) else (f : Int)) else (16777215 : Int)).toNat, ?_, ?_⟩
    · split <;> split <;> omega
    · unfold Beside
      split <;> split <;> omega
  rw [hl1]
  have hl3 := hl2
  obtain ⟨fl1, fl2, fl3, fl4⟩ := hl3
  clear hl1 hb1 hk
  refine setA.at (m := "put_all") (fam := fam_put_all c) ⟨rfl, rfl⟩ (by decide +kernel) ?_
  walk_at "go"
  refine put_all_of setA tA fl1 fl2 fl3 fun HB bB tB setB => ?_
  walk_at "go"
  have N0 : ∃ N, m * 2 ^ (256 * w) = N := ⟨_, rfl⟩
  have pp := popc_put (N := m * 2 ^ (256 * w)) fl1
  have lfil := List.length_filter_le (between f l) (bitsOf (m * 2 ^ (256 * w)))
  have hb2 := put_in24 hb fl1 fl3
  have wid := put_width hm hl2
  have hbl : (bitsOf (m * 2 ^ (256 * w))).length ≤ 99999 := Nat.le_trans hpc (by decide)
  have lbp : (bitsOf (m * 2 ^ (256 * w))).length ≤ 3072 := hpc
  refine .inl ?_
  walk_at "go"
  refine ⟨m, w, rfl, hm, by omega, fun q HC sC nC hC => ?_⟩
  refine ⟨q, rfl, ⟨_, SqL.of hC⟩, fun D nD => ?_⟩
  refine lcI (K := c.K) (between f l) (fun x : Nat => (x : Int)) nD (SqL.of hC) hbl (fun y H4 Rk Rs hy s4 hk hnn => ?_) (fun HD sD hD => ?_)
  · simp only [wipe, List.set_cons_zero, List.set_cons_succ]
    walk_at "go"
    refine ⟨(by first | exact rfl | exact trivial), ?_⟩
    walk_at "go"
    refine if_d (fun z1 => ?_) (fun z1 => ?_)
    · walk_at "go"
      refine if_d (fun z2 => ?_) (fun z2 => ?_)
      · walk_at "go"
        exact hk (by unfold between; rw [decide_eq_true (show f ≤ y by omega), decide_eq_true (show y ≤ l by omega)]; rfl) H4 (Same.refl _)
      · exact hnn (by unfold between; rw [decide_eq_false (show ¬ y ≤ l by omega)]; simp) H4 (Same.refl _)
    · walk_at "go"
      exact hnn (by unfold between; rw [decide_eq_false (show ¬ f ≤ y by omega)]; simp) H4 (Same.refl _)
  walk_at "go"
  refine r_len_l (SqL.of hD) ?_
  rw [List.length_map, List.length_map]
  walk_at "go"
  refine if_nd (fun z3 => ?_) (fun z3 => ?_)
  · exact absurd (by omega) z3
  have sBD := sC.trans sD
  have setD := setB.same sBD
  have tD := tB.ext sBD
  walk_at "go"
  refine ⟨x, d, _, rfl, setD, by omega, fun HE sE => ?_⟩
  have setE := setD.same sE
  have tE := tD.ext sE
  walk_at "go"
  refine setE.at (m := "drop_all") (fam := fam_drop_all c) ⟨rfl, rfl⟩ (by decide +kernel) ?_
  walk_at "go"
  refine drop_all_of setE tE fl1 fl2 fl3 fun v HF bF tF setF => ?_
  walk_at "go"
  refine .inl ?_
  walk_at "go"
  refine ⟨m, w, rfl, hm, by omega, fun q2 HG sG nG hG => ?_⟩
  refine ⟨q2, rfl, ⟨_, SqL.of hG⟩, fun D2 nD2 => ?_⟩
  refine lcI (K := c.K) (fun i => !between f l i) (fun x : Nat => (x : Int)) nD2 (SqL.of hG) hbl (fun y H4 Rk Rs hy s4 hk hnn => ?_) (fun HK sK hK => ?_)
  · simp only [wipe, List.set_cons_zero, List.set_cons_succ]
    walk_at "go"
    refine ⟨(by first | exact rfl | exact trivial), ?_⟩
    walk_at "go"
    refine if_d (fun z1 => ?_) (fun z1 => ?_)
    · walk_at "go"
      refine if_nd (fun z2 => ?_) (fun z2 => ?_)
      · walk_at "go"
        exact hk (by unfold between; rw [decide_eq_false (show ¬ y ≤ l by omega)]; simp) H4 (Same.refl _)
      · exact hnn (by unfold between; rw [decide_eq_true (show f ≤ y by omega), decide_eq_true (show y ≤ l by omega)]; rfl) H4 (Same.refl _)
    · walk_at "go"
      exact hk (by unfold between; rw [decide_eq_false (show ¬ f ≤ y by omega)]; simp) H4 (Same.refl _)
  have sFK := sG.trans sK
  have setK := setF.same sFK
  have tK := tF.ext sFK
  rw [drop_put fl1] at hK
  walk_at "go"
  refine r_strN (by omega) ?_
  walk_at "go"
  refine ⟨_, _, rfl, rfl, ?_⟩
  obtain ⟨e0, he0⟩ := put_start hm hl2
  rw [str_found he0]
  refine ⟨_, rfl, if_t rfl ?_⟩
  have pk : popc (Wy.op .dropA (m * 2 ^ (256 * w) ||| mask f l) (mask f l)) ≤ 3072 := by
    unfold popc
    rw [← drop_put fl1]
    exact Nat.le_trans (List.length_filter_le _ _) lbp
  have bk := setK.b
  walk_at "go"
  refine ⟨x, d, _, rfl, setK, by omega, fun HL sL => ?_⟩
  have setL := setK.same sL
  have tL := tK.ext sL
  walk_at "go"
  refine ⟨D2, bitsOf (Wy.op .dropA (m * 2 ^ (256 * w) ||| mask f l) (mask f l)), rfl, SqL.of (sL _ _ hK), by unfold popc at pk; omega, fun y hy => bk y (mem_bitsOf.mp hy), fun HM sM => ?_⟩
  have tM := tL.ext sM
  refine r_eqs ?_
  show ∃ c, V.bl (decide (textS (runsB (Wy.op .dropA (m * 2 ^ (256 * w) ||| mask f l) (mask f l))) = textS (runsB (Wy.op .dropA (m * 2 ^ (256 * w) ||| mask f l) (mask f l))))) = V.bl c ∧ _
  rw [decide_eq_true rfl]
  refine ⟨_, rfl, if_t rfl ?_⟩
  walk_at "go"
  refine read_back hb2 (by omega) tM wid fun s6 d6 H6 n6 n6' e6 t6 set6 => ?_
  walk_at "go"
  refine read_back hb2 (by omega) t6 wid fun s8 d8 H8 n8 n8' e8 t8 set8 => ?_
  walk_at "go"
  exact same_of (set6.ext e8) set8 t8 fun H9 e9 t9 => hQ H9
section
variable {P : Program} {w : World} {mg : Str → Option Value} {base : Heap} {c : Cs}
theorem sc_Sack___init__ : FnScope ["self", "bits"] ["self", "bits"] (defScope s_Sack___init__) := ⟨rfl, rfl, rfl, by decide +kernel, rfl, by decide +kernel, by decide +kernel⟩
theorem ok_Sack___init__ {f : Addr} {fd : FuncData} {dvs : List V} (G : GoodS c) (C : Addr) (F : FunD c.K "__init__" "Sack.__init__" (defArgs s_Sack___init__) (defBody s_Sack___init__) (defScope s_Sack___init__) dvs [] f fd) : FnOk P w c.K mg base (L2N.CX P w) 1 f fd ["self", "bits"] (sp_Sack___init__ c C) := by
  refine F.ok sc_Sack___init__ (len_Sack___init__ c C) fun cdv A outer s H vs Q E hr h => ⟨t_Sack___init__ c E, ?_, pure_Sack___init__ G.toGood C vs H Q E h⟩
  have sc := sc_Sack___init__
  exact pss_one (ps_fld (pv 0) (pv 1) rfl)
theorem sc_Sack_form : FnScope ["self"] ["self"] (defScope s_Sack_form) := ⟨rfl, rfl, rfl, by decide +kernel, rfl, by decide +kernel, by decide +kernel⟩
theorem ok_Sack_form {f : Addr} {fd : FuncData} {dvs : List V} (G : GoodS c) (F : FunD c.K "form" "Sack.form" (defArgs s_Sack_form) (defBody s_Sack_form) (defScope s_Sack_form) dvs [] f fd) (m_kind : ∀ C sp, fam_kind c C sp → Met P w c.K mg base 1 C "kind" sp []) (m_held : ∀ C sp, fam_held c C sp → Met P w c.K mg base 2 C "held" sp []) : FnOk P w c.K mg base (L2N.CX P w) 3 f fd ["self"] (sp_Sack_form c) := by
  refine F.ok sc_Sack_form (len_Sack_form c) fun cdv A outer s H vs Q E hr h => ⟨t_Sack_form c E, ?_, pure_Sack_form G.toGood vs H Q E h⟩
  have sc := sc_Sack_form
  exact pss_one (ps_ret (pe_tup (pa_cons (pe_m0 m_kind hr (by decide) passUp (pv 0)) (pa_cons (pe_m0 m_held hr (by decide) passUp (pv 0)) (pa_nil)))))
theorem sc_Sack_count : FnScope ["self"] ["self"] (defScope s_Sack_count) := ⟨rfl, rfl, rfl, by decide +kernel, rfl, by decide +kernel, by decide +kernel⟩
theorem ok_Sack_count {f : Addr} {fd : FuncData} {dvs : List V} (G : GoodS c) (F : FunD c.K "count" "Sack.count" (defArgs s_Sack_count) (defBody s_Sack_count) (defScope s_Sack_count) dvs [] f fd) (c_count_of : Cal P w c.K mg base 2 "count_of" (sp_count_of c) []) : FnOk P w c.K mg base (L2N.CX P w) 3 f fd ["self"] (sp_Sack_count c) := by
  refine F.ok sc_Sack_count (len_Sack_count c) fun cdv A outer s H vs Q E hr h => ⟨t_Sack_count c E, ?_, pure_Sack_count G.toGood vs H Q E h⟩
  have sc := sc_Sack_count
  exact pss_one (ps_ret (pe_c c_count_of hr (by decide) rfl passUp (pa_cons (pe_fld (pv 0) rfl) (pa_nil))))
theorem sc_Sack_lows : FnScope ["self"] ["self"] (defScope s_Sack_lows) := ⟨rfl, rfl, rfl, by decide +kernel, rfl, by decide +kernel, by decide +kernel⟩
theorem ok_Sack_lows {f : Addr} {fd : FuncData} {dvs : List V} (G : GoodS c) (F : FunD c.K "lows" "Sack.lows" (defArgs s_Sack_lows) (defBody s_Sack_lows) (defScope s_Sack_lows) dvs [] f fd) (c_lows_of : Cal P w c.K mg base 1 "lows_of" (sp_lows_of c) []) : FnOk P w c.K mg base (L2N.CX P w) 2 f fd ["self"] (sp_Sack_lows c) := by
  refine F.ok sc_Sack_lows (len_Sack_lows c) fun cdv A outer s H vs Q E hr h => ⟨t_Sack_lows c E, ?_, pure_Sack_lows G.toGood vs H Q E h⟩
  have sc := sc_Sack_lows
  exact pss_one (ps_ret (pe_c c_lows_of hr (by decide) rfl passUp (pa_cons (pe_fld (pv 0) rfl) (pa_nil))))
theorem sc_RowSack_kind : FnScope ["self"] ["self"] (defScope s_RowSack_kind) := ⟨rfl, rfl, rfl, by decide +kernel, rfl, by decide +kernel, by decide +kernel⟩
theorem ok_RowSack_kind {f : Addr} {fd : FuncData} {dvs : List V} (G : GoodS c) (F : FunD c.K "kind" "RowSack.kind" (defArgs s_RowSack_kind) (defBody s_RowSack_kind) (defScope s_RowSack_kind) dvs [] f fd) : FnOk P w c.K mg base (L2N.CX P w) 1 f fd ["self"] (sp_RowSack_kind c) := by
  refine F.ok sc_RowSack_kind (len_RowSack_kind c) fun cdv A outer s H vs Q E hr h => ⟨t_RowSack_kind c E, ?_, pure_RowSack_kind G.toGood vs H Q E h⟩
  have sc := sc_RowSack_kind
  exact pss_one (ps_ret (pe_str))
theorem sc_RowSack_held : FnScope ["self"] ["self"] (defScope s_RowSack_held) := ⟨rfl, rfl, rfl, by decide +kernel, rfl, by decide +kernel, by decide +kernel⟩
theorem ok_RowSack_held {f : Addr} {fd : FuncData} {dvs : List V} (G : GoodS c) (F : FunD c.K "held" "RowSack.held" (defArgs s_RowSack_held) (defBody s_RowSack_held) (defScope s_RowSack_held) dvs [] f fd) (c_lows_of : Cal P w c.K mg base 1 "lows_of" (sp_lows_of c) []) (f_tuple : mg "tuple" = none) : FnOk P w c.K mg base (L2N.CX P w) 2 f fd ["self"] (sp_RowSack_held c) := by
  refine F.ok sc_RowSack_held (len_RowSack_held c) fun cdv A outer s H vs Q E hr h => ⟨t_RowSack_held c E, ?_, pure_RowSack_held G.toGood vs H Q E h⟩
  have sc := sc_RowSack_held
  exact pss_one (ps_ret (pe_callTy u_tuple (by rfl) f_tuple (by decide +kernel) (pa_cons (pe_c c_lows_of hr (by decide) rfl passUp (pa_cons (pe_fld (pv 0) rfl) (pa_nil))) (pa_nil))))
theorem sc_RowSack_weight : FnScope ["self"] ["self"] (defScope s_RowSack_weight) := ⟨rfl, rfl, rfl, by decide +kernel, rfl, by decide +kernel, by decide +kernel⟩
theorem ok_RowSack_weight {f : Addr} {fd : FuncData} {dvs : List V} (G : GoodS c) (F : FunD c.K "weight" "RowSack.weight" (defArgs s_RowSack_weight) (defBody s_RowSack_weight) (defScope s_RowSack_weight) dvs [] f fd) (c_count_of : Cal P w c.K mg base 2 "count_of" (sp_count_of c) []) : FnOk P w c.K mg base (L2N.CX P w) 3 f fd ["self"] (sp_RowSack_weight c) := by
  refine F.ok sc_RowSack_weight (len_RowSack_weight c) fun cdv A outer s H vs Q E hr h => ⟨t_RowSack_weight c E, ?_, pure_RowSack_weight G.toGood vs H Q E h⟩
  have sc := sc_RowSack_weight
  exact pss_one (ps_ret (pe_c c_count_of hr (by decide) rfl passUp (pa_cons (pe_fld (pv 0) rfl) (pa_nil))))
theorem sc_RunsSack_kind : FnScope ["self"] ["self"] (defScope s_RunsSack_kind) := ⟨rfl, rfl, rfl, by decide +kernel, rfl, by decide +kernel, by decide +kernel⟩
theorem ok_RunsSack_kind {f : Addr} {fd : FuncData} {dvs : List V} (G : GoodS c) (F : FunD c.K "kind" "RunsSack.kind" (defArgs s_RunsSack_kind) (defBody s_RunsSack_kind) (defScope s_RunsSack_kind) dvs [] f fd) : FnOk P w c.K mg base (L2N.CX P w) 1 f fd ["self"] (sp_RunsSack_kind c) := by
  refine F.ok sc_RunsSack_kind (len_RunsSack_kind c) fun cdv A outer s H vs Q E hr h => ⟨t_RunsSack_kind c E, ?_, pure_RunsSack_kind G.toGood vs H Q E h⟩
  have sc := sc_RunsSack_kind
  exact pss_one (ps_ret (pe_str))
theorem sc_RunsSack_held : FnScope ["self"] ["self"] (defScope s_RunsSack_held) := ⟨rfl, rfl, rfl, by decide +kernel, rfl, by decide +kernel, by decide +kernel⟩
theorem ok_RunsSack_held {f : Addr} {fd : FuncData} {dvs : List V} (G : GoodS c) (F : FunD c.K "held" "RunsSack.held" (defArgs s_RunsSack_held) (defBody s_RunsSack_held) (defScope s_RunsSack_held) dvs [] f fd) (c_runs_of : Cal P w c.K mg base 1 "runs_of" (sp_runs_of c) []) (f_tuple : mg "tuple" = none) : FnOk P w c.K mg base (L2N.CX P w) 2 f fd ["self"] (sp_RunsSack_held c) := by
  refine F.ok sc_RunsSack_held (len_RunsSack_held c) fun cdv A outer s H vs Q E hr h => ⟨t_RunsSack_held c E, ?_, pure_RunsSack_held G.toGood vs H Q E h⟩
  have sc := sc_RunsSack_held
  exact pss_one (ps_ret (pe_callTy u_tuple (by rfl) f_tuple (by decide +kernel) (pa_cons (pe_c c_runs_of hr (by decide) rfl passUp (pa_cons (pe_fld (pv 0) rfl) (pa_nil))) (pa_nil))))
theorem sc_RunsSack_weight : FnScope ["self"] ["self"] (defScope s_RunsSack_weight) := ⟨rfl, rfl, rfl, by decide +kernel, rfl, by decide +kernel, by decide +kernel⟩
theorem ok_RunsSack_weight {f : Addr} {fd : FuncData} {dvs : List V} (G : GoodS c) (F : FunD c.K "weight" "RunsSack.weight" (defArgs s_RunsSack_weight) (defBody s_RunsSack_weight) (defScope s_RunsSack_weight) dvs [] f fd) (m_held : ∀ C sp, fam_held c C sp → Met P w c.K mg base 2 C "held" sp []) (f_len : mg "len" = none) : FnOk P w c.K mg base (L2N.CX P w) 3 f fd ["self"] (sp_RunsSack_weight c) := by
  refine F.ok sc_RunsSack_weight (len_RunsSack_weight c) fun cdv A outer s H vs Q E hr h => ⟨t_RunsSack_weight c E, ?_, pure_RunsSack_weight G.toGood vs H Q E h⟩
  have sc := sc_RunsSack_weight
  exact pss_one (ps_ret (pe_op u_mul (pe_int) (pe_callB u_len (by rfl) f_len PySem.boot_len (pa_cons (pe_m0 m_held hr (by decide) passUp (pv 0)) (pa_nil)))))
theorem sc_BitsSack_kind : FnScope ["self"] ["self"] (defScope s_BitsSack_kind) := ⟨rfl, rfl, rfl, by decide +kernel, rfl, by decide +kernel, by decide +kernel⟩
theorem ok_BitsSack_kind {f : Addr} {fd : FuncData} {dvs : List V} (G : GoodS c) (F : FunD c.K "kind" "BitsSack.kind" (defArgs s_BitsSack_kind) (defBody s_BitsSack_kind) (defScope s_BitsSack_kind) dvs [] f fd) : FnOk P w c.K mg base (L2N.CX P w) 1 f fd ["self"] (sp_BitsSack_kind c) := by
  refine F.ok sc_BitsSack_kind (len_BitsSack_kind c) fun cdv A outer s H vs Q E hr h => ⟨t_BitsSack_kind c E, ?_, pure_BitsSack_kind G.toGood vs H Q E h⟩
  have sc := sc_BitsSack_kind
  exact pss_one (ps_ret (pe_str))
theorem sc_BitsSack_held : FnScope ["self", "k"] ["self"] (defScope s_BitsSack_held) := ⟨rfl, rfl, rfl, by decide +kernel, rfl, by decide +kernel, by decide +kernel⟩
theorem ok_BitsSack_held {f : Addr} {fd : FuncData} {dvs : List V} (G : GoodS c) (F : FunD c.K "held" "BitsSack.held" (defArgs s_BitsSack_held) (defBody s_BitsSack_held) (defScope s_BitsSack_held) dvs [] f fd) (g_WORDS : ∃ t, mg "WORDS" = some (.int 4 t)) (f_range : mg "range" = none) (g_WORD : ∃ t, mg "WORD" = some (.int 64 t)) (g_FULL_WORD : ∃ t, mg "FULL_WORD" = some (.int 18446744073709551615 t)) (f_tuple : mg "tuple" = none) : FnOk P w c.K mg base (L2N.CX P w) 1 f fd ["self"] (sp_BitsSack_held c) := by
  refine F.ok sc_BitsSack_held (len_BitsSack_held c) fun cdv A outer s H vs Q E hr h => ⟨t_BitsSack_held c E, ?_, pure_BitsSack_held G.toGood vs H Q E h⟩
  have sc := sc_BitsSack_held
  exact pss_one (ps_ret (pe_callTy u_tuple (by rfl) f_tuple (by decide +kernel) (pa_cons (pe_lc (own := [("k", 1)]) (g := gName 1) (tt := tYes) rfl sc.nd (pi_range1 rfl f_range (pa_cons (C8.pe_gc (v := .int 4) rfl (gl_int g_WORDS)) (pa_nil))) (blkOk_by (own := [("k", 1)]) (N := ["self", "k"]) (sc := defScope s_BitsSack_held) (by decide +kernel)) (fun _ _ _ _ _ => pg_name (i := 1) sc.nd rfl (by first | exact Or.inl rfl | exact Or.inr rfl)) (fun _ _ _ _ _ => pts_nil) (fun _ _ _ _ _ => pe_op u_ban (pe_op u_shr (pe_fld (pv 0) rfl) (pe_op u_mul (C8.pe_gc (v := .int 64) rfl (gl_int g_WORD)) (pv 1))) (C8.pe_gc (v := .int 18446744073709551615) rfl (gl_int g_FULL_WORD)))) (pa_nil))))
theorem sc_BitsSack_weight : FnScope ["self"] ["self"] (defScope s_BitsSack_weight) := ⟨rfl, rfl, rfl, by decide +kernel, rfl, by decide +kernel, by decide +kernel⟩
theorem ok_BitsSack_weight {f : Addr} {fd : FuncData} {dvs : List V} (G : GoodS c) (F : FunD c.K "weight" "BitsSack.weight" (defArgs s_BitsSack_weight) (defBody s_BitsSack_weight) (defScope s_BitsSack_weight) dvs [] f fd) (g_BITS_WEIGHT : ∃ t, mg "BITS_WEIGHT" = some (.int 32 t)) : FnOk P w c.K mg base (L2N.CX P w) 1 f fd ["self"] (sp_BitsSack_weight c) := by
  refine F.ok sc_BitsSack_weight (len_BitsSack_weight c) fun cdv A outer s H vs Q E hr h => ⟨t_BitsSack_weight c E, ?_, pure_BitsSack_weight G.toGood vs H Q E h⟩
  have sc := sc_BitsSack_weight
  exact pss_one (ps_ret (C8.pe_gc (v := .int 32) rfl (gl_int g_BITS_WEIGHT)))
theorem sc_lows_of : FnScope ["bits", "found", "low"] ["bits"] (defScope s_lows_of) := ⟨rfl, rfl, rfl, by decide +kernel, rfl, by decide +kernel, by decide +kernel⟩
theorem ok_lows_of {f : Addr} {fd : FuncData} {dvs : List V} (G : GoodS c) (F : FunD c.K "lows_of" "lows_of" (defArgs s_lows_of) (defBody s_lows_of) (defScope s_lows_of) dvs [] f fd) : FnOk P w c.K mg base (L2N.CX P w) 1 f fd ["bits"] (sp_lows_of c) := by
  refine F.ok sc_lows_of (len_lows_of c) fun cdv A outer s H vs Q E hr h => ⟨t_lows_of c E, ?_, pure_lows_of G.toGood vs H Q E h⟩
  have sc := sc_lows_of
  exact pss_cons (ps_set (i := 1) sc.nd rfl (by first | exact Or.inl rfl | exact Or.inr rfl) (pe_lst (pa_nil)))
      (pss_cons (ps_while ownUp (pt_cmpR u_gt (pv 0) (pe_int) (nomark _)) (pss_cons (ps_set (i := 2) sc.nd rfl (by first | exact Or.inl rfl | exact Or.inr rfl) (pe_op u_ban (pv 0) (pe_un u_neg (pv 0))))
      (pss_cons (ps_expr (pe_bm PySem.F.plainAttrs_list PySem.F.slot_list_append PySem.F.type_list_append mt_append (pv 1) (pa_cons (pe_op u_sub (pe_bits (pv 2)) (pe_int)) (pa_nil))))
      (pss_one (ps_aug (i := 0) sc.nd rfl (by first | exact Or.inl rfl | exact Or.inr rfl) (pv 2) p_bxo)))))
      (pss_one (ps_ret (pv 1))))
theorem sc_runs_of : FnScope ["bits", "found", "place", "gap", "many"] ["bits"] (defScope s_runs_of) := ⟨rfl, rfl, rfl, by decide +kernel, rfl, by decide +kernel, by decide +kernel⟩
theorem ok_runs_of {f : Addr} {fd : FuncData} {dvs : List V} (G : GoodS c) (F : FunD c.K "runs_of" "runs_of" (defArgs s_runs_of) (defBody s_runs_of) (defScope s_runs_of) dvs [] f fd) : FnOk P w c.K mg base (L2N.CX P w) 1 f fd ["bits"] (sp_runs_of c) := by
  refine F.ok sc_runs_of (len_runs_of c) fun cdv A outer s H vs Q E hr h => ⟨t_runs_of c E, ?_, pure_runs_of G.toGood vs H Q E h⟩
  have sc := sc_runs_of
  exact pss_cons (ps_set (i := 1) sc.nd rfl (by first | exact Or.inl rfl | exact Or.inr rfl) (pe_lst (pa_nil)))
      (pss_cons (ps_set (i := 2) sc.nd rfl (by first | exact Or.inl rfl | exact Or.inr rfl) (pe_int))
      (pss_cons (ps_while ownUp (pt_cmpR u_gt (pv 0) (pe_int) (nomark _)) (pss_cons (ps_set (i := 3) sc.nd rfl (by first | exact Or.inl rfl | exact Or.inr rfl) (pe_op u_sub (pe_bits (pe_op u_ban (pv 0) (pe_un u_neg (pv 0)))) (pe_int)))
      (pss_cons (ps_aug (i := 0) sc.nd rfl (by first | exact Or.inl rfl | exact Or.inr rfl) (pv 3) p_shr)
      (pss_cons (ps_set (i := 4) sc.nd rfl (by first | exact Or.inl rfl | exact Or.inr rfl) (pe_op u_sub (pe_bits (pe_op u_ban (pe_op u_add (pv 0) (pe_int)) (pe_un u_inv (pv 0)))) (pe_int)))
      (pss_cons (ps_aug (i := 0) sc.nd rfl (by first | exact Or.inl rfl | exact Or.inr rfl) (pv 4) p_shr)
      (pss_cons (ps_expr (pe_bm PySem.F.plainAttrs_list PySem.F.slot_list_append PySem.F.type_list_append mt_append (pv 1) (pa_cons (pe_tup (pa_cons (pe_op u_add (pv 2) (pv 3)) (pa_cons (pe_op u_sub (pe_op u_add (pe_op u_add (pv 2) (pv 3)) (pv 4)) (pe_int)) (pa_nil)))) (pa_nil))))
      (pss_one (ps_aug (i := 2) sc.nd rfl (by first | exact Or.inl rfl | exact Or.inr rfl) (pe_op u_add (pv 3) (pv 4)) p_add))))))))
      (pss_one (ps_ret (pv 1)))))
theorem sc_count_of : FnScope ["bits", "first", "last"] ["bits"] (defScope s_count_of) := ⟨rfl, rfl, rfl, by decide +kernel, rfl, by decide +kernel, by decide +kernel⟩
theorem ok_count_of {f : Addr} {fd : FuncData} {dvs : List V} (G : GoodS c) (F : FunD c.K "count_of" "count_of" (defArgs s_count_of) (defBody s_count_of) (defScope s_count_of) dvs [] f fd) (c_runs_of : Cal P w c.K mg base 1 "runs_of" (sp_runs_of c) []) (f_sum : mg "sum" = none) : FnOk P w c.K mg base (L2N.CX P w) 2 f fd ["bits"] (sp_count_of c) := by
  refine F.ok sc_count_of (len_count_of c) fun cdv A outer s H vs Q E hr h => ⟨t_count_of c E, ?_, pure_count_of G.toGood vs H Q E h⟩
  have sc := sc_count_of
  exact pss_one (ps_ret (pe_callB (cr_sum rfl) (by rfl) f_sum (by decide +kernel) (pa_cons (pe_lc (own := [("first", 1), ("last", 2)]) (g := gTup c.K 2 (gCons (gName 1) (gCons (gName 2) (gNil)))) (tt := tYes) rfl sc.nd (pi_seq (pe_c c_runs_of hr (by decide) rfl passUp (pa_cons (pv 0) (pa_nil)))) (blkOk_by (own := [("first", 1), ("last", 2)]) (N := ["bits", "first", "last"]) (sc := defScope s_count_of) (by decide +kernel)) (fun _ _ _ _ _ => pg_tup rfl (pgs_cons (pg_name (i := 1) sc.nd rfl (by first | exact Or.inl rfl | exact Or.inr rfl)) (pgs_cons (pg_name (i := 2) sc.nd rfl (by first | exact Or.inl rfl | exact Or.inr rfl)) (pgs_nil)))) (fun _ _ _ _ _ => pts_nil) (fun _ _ _ _ _ => pe_op u_add (pe_op u_sub (pv 2) (pv 1)) (pe_int))) (pa_nil))))
theorem sc_least_sack : FnScope ["bits", "found", "other"] ["bits"] (defScope s_least_sack) := ⟨rfl, rfl, rfl, by decide +kernel, rfl, by decide +kernel, by decide +kernel⟩
theorem ok_least_sack {f : Addr} {fd : FuncData} {dvs : List V} (G : GoodS c) (F : FunD c.K "least_sack" "least_sack" (defArgs s_least_sack) (defBody s_least_sack) (defScope s_least_sack) dvs [] f fd) (k_RowSack : Mak P w c.K mg base 1 "RowSack" c.row (sp_Sack___init__ c c.row) []) (k_RunsSack : Mak P w c.K mg base 1 "RunsSack" c.runs (sp_Sack___init__ c c.runs) []) (k_BitsSack : Mak P w c.K mg base 1 "BitsSack" c.bits (sp_Sack___init__ c c.bits) []) (m_weight : ∀ C sp, fam_weight c C sp → Met P w c.K mg base 3 C "weight" sp []) : FnOk P w c.K mg base (L2N.CX P w) 4 f fd ["bits"] (sp_least_sack c) := by
  refine F.ok sc_least_sack (len_least_sack c) fun cdv A outer s H vs Q E hr h => ⟨t_least_sack c E, ?_, pure_least_sack G.toGood vs H Q E h⟩
  have sc := sc_least_sack
  exact pss_cons (ps_if (pt_cmpR (u_eq hr) (pv 0) (pe_int) (nomark _)) (pss_one (ps_ret (pe_non))) (pss_nil))
      (pss_cons (ps_set (i := 1) sc.nd rfl (by first | exact Or.inl rfl | exact Or.inr rfl) (pe_mk k_RowSack hr (by decide) rfl passUp (pa_cons (pv 0) (pa_nil))))
      (pss_cons (ps_for ownUp rfl (pi_seq (pe_tup (pa_cons (pe_mk k_RunsSack hr (by decide) rfl passUp (pa_cons (pv 0) (pa_nil))) (pa_cons (pe_mk k_BitsSack hr (by decide) rfl passUp (pa_cons (pv 0) (pa_nil))) (pa_nil))))) (pg_name (i := 2) sc.nd rfl (by first | exact Or.inl rfl | exact Or.inr rfl)) (pss_one (ps_if (pt_cmpR u_lt (pe_m0 m_weight hr (by decide) passUp (pv 2)) (pe_m0 m_weight hr (by decide) passUp (pv 1)) (nomark _)) (pss_one (ps_set (i := 1) sc.nd rfl (by first | exact Or.inl rfl | exact Or.inr rfl) (pv 2))) (pss_nil))))
      (pss_one (ps_ret (pv 1)))))
theorem sc_is_number : FnScope ["thing"] ["thing"] (defScope s_is_number) := ⟨rfl, rfl, rfl, by decide +kernel, rfl, by decide +kernel, by decide +kernel⟩
theorem ok_is_number {f : Addr} {fd : FuncData} {dvs : List V} (G : GoodS c) (F : FunD c.K "is_number" "is_number" (defArgs s_is_number) (defBody s_is_number) (defScope s_is_number) dvs [] f fd) (f_int : mg "int" = none) (f_isinstance : mg "isinstance" = none) (f_bool : mg "bool" = none) (g_GREATEST : ∃ t, mg "GREATEST" = some (.int 16777215 t)) : FnOk P w c.K mg base (L2N.CX P w) 1 f fd ["thing"] (sp_is_number c) := by
  refine F.ok sc_is_number (len_is_number c) fun cdv A outer s H vs Q E hr h => ⟨t_is_number c E, ?_, pure_is_number G.toGood vs H Q E h⟩
  have sc := sc_is_number
  exact pss_one (ps_ret (pe_and (pe_callB u_isi (by rfl) f_isinstance (by decide +kernel) (pa_cons (pv 0) (pa_cons (pe_bltn (v := .ty "int") (by rfl) f_int (by decide +kernel) rfl) (pa_nil)))) (pe_and (pe_not (pe_callB u_isi (by rfl) f_isinstance (by decide +kernel) (pa_cons (pv 0) (pa_cons (pe_bltn (v := .ty "bool") (by rfl) f_bool (by decide +kernel) rfl) (pa_nil))))) (pe_one (pe_chain u_le u_le (pe_int) (pv 0) (C8.pe_gc (v := .int 16777215) rfl (gl_int g_GREATEST)))))))
theorem sc_need_number : FnScope ["thing"] ["thing"] (defScope s_need_number) := ⟨rfl, rfl, rfl, by decide +kernel, rfl, by decide +kernel, by decide +kernel⟩
theorem ok_need_number {f : Addr} {fd : FuncData} {dvs : List V} (G : GoodS c) (F : FunD c.K "need_number" "need_number" (defArgs s_need_number) (defBody s_need_number) (defScope s_need_number) dvs [] f fd) (c_is_number : Cal P w c.K mg base 1 "is_number" (sp_is_number c) []) (x_NoNumber : ExcF c.K mg "NoNumber" c.eNoNumber) : FnOk P w c.K mg base (L2N.CX P w) 2 f fd ["thing"] (sp_need_number c) := by
  refine F.ok sc_need_number (len_need_number c) fun cdv A outer s H vs Q E hr h => ⟨t_need_number c E, ?_, pure_need_number G.toGood vs H Q E h⟩
  have sc := sc_need_number
  exact pss_one (ps_if (pt_not (pt_val (pe_c c_is_number hr (by decide) rfl passUp (pa_cons (pv 0) (pa_nil))))) (pss_one (L2N.ps_raise rfl (L2N.takes_of rfl rfl rfl rfl) (pmk_x x_NoNumber (by exact rfl)))) (pss_nil))
theorem sc_need_stretch : FnScope ["first", "last"] ["first", "last"] (defScope s_need_stretch) := ⟨rfl, rfl, rfl, by decide +kernel, rfl, by decide +kernel, by decide +kernel⟩
theorem ok_need_stretch {f : Addr} {fd : FuncData} {dvs : List V} (G : GoodS c) (F : FunD c.K "need_stretch" "need_stretch" (defArgs s_need_stretch) (defBody s_need_stretch) (defScope s_need_stretch) dvs [] f fd) (g_LONGEST : ∃ t, mg "LONGEST" = some (.int 99999 t)) (x_NoStretch : ExcF c.K mg "NoStretch" c.eNoStretch) : FnOk P w c.K mg base (L2N.CX P w) 1 f fd ["first", "last"] (sp_need_stretch c) := by
  refine F.ok sc_need_stretch (len_need_stretch c) fun cdv A outer s H vs Q E hr h => ⟨t_need_stretch c E, ?_, pure_need_stretch G.toGood vs H Q E h⟩
  have sc := sc_need_stretch
  exact pss_one (ps_if (PW.pt (pw_or (pt_cmpR u_lt (pv 1) (pv 0) (nomark _)) (pw_or1 (pt_cmpR u_gt (pe_op u_sub (pv 1) (pv 0)) (C8.pe_gc (v := .int 99999) rfl (gl_int g_LONGEST)) (nomark _))))) (pss_one (L2N.ps_raise rfl (L2N.takes_of rfl rfl rfl rfl) (pmk_x x_NoStretch (by exact rfl)))) (pss_nil))
theorem sc_stretch_bits : FnScope ["upper", "first", "last", "low", "high"] ["upper", "first", "last"] (defScope s_stretch_bits) := ⟨rfl, rfl, rfl, by decide +kernel, rfl, by decide +kernel, by decide +kernel⟩
theorem ok_stretch_bits {f : Addr} {fd : FuncData} {dvs : List V} (G : GoodS c) (F : FunD c.K "stretch_bits" "stretch_bits" (defArgs s_stretch_bits) (defBody s_stretch_bits) (defScope s_stretch_bits) dvs [] f fd) (g_SIZE : ∃ t, mg "SIZE" = some (.int 256 t)) (f_max : mg "max" = none) (f_min : mg "min" = none) : FnOk P w c.K mg base (L2N.CX P w) 1 f fd ["upper", "first", "last"] (sp_stretch_bits c) := by
  refine F.ok sc_stretch_bits (len_stretch_bits c) fun cdv A outer s H vs Q E hr h => ⟨t_stretch_bits c E, ?_, pure_stretch_bits G.toGood vs H Q E h⟩
  have sc := sc_stretch_bits
  exact pss_cons (ps_set (i := 3) sc.nd rfl (by first | exact Or.inl rfl | exact Or.inr rfl) (pe_callB u_max (by rfl) f_max (by decide +kernel) (pa_cons (pe_op u_sub (pv 1) (pe_op u_mul (C8.pe_gc (v := .int 256) rfl (gl_int g_SIZE)) (pv 0))) (pa_cons (pe_int) (pa_nil)))))
      (pss_cons (ps_set (i := 4) sc.nd rfl (by first | exact Or.inl rfl | exact Or.inr rfl) (pe_callB u_min (by rfl) f_min (by decide +kernel) (pa_cons (pe_op u_sub (pv 2) (pe_op u_mul (C8.pe_gc (v := .int 256) rfl (gl_int g_SIZE)) (pv 0))) (pa_cons (pe_op u_sub (C8.pe_gc (v := .int 256) rfl (gl_int g_SIZE)) (pe_int)) (pa_nil)))))
      (pss_one (ps_ret (pe_op u_sub (pe_op u_shl (pe_int) (pe_op u_add (pv 4) (pe_int))) (pe_op u_shl (pe_int) (pv 3))))))
theorem sc_NumberSet___init__ : FnScope ["self", "numbers", "number"] ["self", "numbers"] (defScope s_NumberSet___init__) := ⟨rfl, rfl, rfl, by decide +kernel, rfl, by decide +kernel, by decide +kernel⟩
theorem ok_NumberSet___init__ {f : Addr} {fd : FuncData} {dvs : List V} (G : GoodS c) (F : FunD c.K "__init__" "NumberSet.__init__" (defArgs s_NumberSet___init__) (defBody s_NumberSet___init__) (defScope s_NumberSet___init__) dvs [] f fd) (c_need_number : Cal P w c.K mg base 2 "need_number" (sp_need_number c) []) (m_put : ∀ C sp, fam_put c C sp → Met P w c.K mg base 6 C "put" sp []) : FnOk P w c.K mg base (L2N.CX P w) 7 f fd ["self", "numbers"] (sp_NumberSet___init__ c) := by
  refine F.ok sc_NumberSet___init__ (len_NumberSet___init__ c) fun cdv A outer s H vs Q E hr h => ⟨t_NumberSet___init__ c E, ?_, pure_NumberSet___init__ G vs H Q E h⟩
  have sc := sc_NumberSet___init__
  exact pss_cons (ps_fld (pv 0) (pe_dnewK) rfl)
      (pss_cons (ps_for ownUp rfl (pi_seq (pe_orT (pv 1) (pe_one (pe_tup (pa_nil))))) (pg_name (i := 2) sc.nd rfl (by first | exact Or.inl rfl | exact Or.inr rfl)) (pss_one (ps_expr (pe_c c_need_number hr (by decide) rfl passUp (pa_cons (pv 2) (pa_nil))))))
      (pss_one (ps_for ownUp rfl (pi_seq (pe_orT (pv 1) (pe_one (pe_tup (pa_nil))))) (pg_name (i := 2) sc.nd rfl (by first | exact Or.inl rfl | exact Or.inr rfl)) (pss_one (ps_expr (pe_m m_put hr (by decide) passUp (pv 0) (pa_cons (pv 2) (pa_nil))))))))
theorem sc_NumberSet_bits_at : FnScope ["self", "upper"] ["self", "upper"] (defScope s_NumberSet_bits_at) := ⟨rfl, rfl, rfl, by decide +kernel, rfl, by decide +kernel, by decide +kernel⟩
theorem ok_NumberSet_bits_at {f : Addr} {fd : FuncData} {dvs : List V} (G : GoodS c) (F : FunD c.K "bits_at" "NumberSet.bits_at" (defArgs s_NumberSet_bits_at) (defBody s_NumberSet_bits_at) (defScope s_NumberSet_bits_at) dvs [] f fd) : FnOk P w c.K mg base (L2N.CX P w) 1 f fd ["self", "upper"] (sp_NumberSet_bits_at c) := by
  refine F.ok sc_NumberSet_bits_at (len_NumberSet_bits_at c) fun cdv A outer s H vs Q E hr h => ⟨t_NumberSet_bits_at c E, ?_, pure_NumberSet_bits_at G vs H Q E h⟩
  have sc := sc_NumberSet_bits_at
  exact pss_cons (ps_if (pt_cmp (pc_din (hu_of hr) (pv 1) (pe_fld (pv 0) rfl))) (pss_one (ps_ret (pe_fld (pe_dget (hu_of hr) (pe_fld (pv 0) rfl) (pv 1) (fun _ _ => rfl)) rfl))) (pss_nil))
      (pss_one (ps_ret (pe_int)))
theorem sc_NumberSet_set_bits : FnScope ["self", "upper", "bits", "ahead", "sack"] ["self", "upper", "bits"] (defScope s_NumberSet_set_bits) := ⟨rfl, rfl, rfl, by decide +kernel, rfl, by decide +kernel, by decide +kernel⟩
theorem ok_NumberSet_set_bits {f : Addr} {fd : FuncData} {dvs : List V} (G : GoodS c) (F : FunD c.K "set_bits" "NumberSet.set_bits" (defArgs s_NumberSet_set_bits) (defBody s_NumberSet_set_bits) (defScope s_NumberSet_set_bits) dvs [] f fd) (m_bits_at : ∀ C sp, fam_bits_at c C sp → Met P w c.K mg base 1 C "bits_at" sp []) (c_least_sack : Cal P w c.K mg base 4 "least_sack" (sp_least_sack c) []) (c_count_of : Cal P w c.K mg base 2 "count_of" (sp_count_of c) []) : FnOk P w c.K mg base (L2N.CX P w) 5 f fd ["self", "upper", "bits"] (sp_NumberSet_set_bits c) := by
  refine F.ok sc_NumberSet_set_bits (len_NumberSet_set_bits c) fun cdv A outer s H vs Q E hr h => ⟨t_NumberSet_set_bits c E, ?_, pure_NumberSet_set_bits G vs H Q E h⟩
  have sc := sc_NumberSet_set_bits
  exact pss_cons (ps_set (i := 3) sc.nd rfl (by first | exact Or.inl rfl | exact Or.inr rfl) (pe_m m_bits_at hr (by decide) passUp (pv 0) (pa_cons (pv 1) (pa_nil))))
      (pss_cons (ps_set (i := 4) sc.nd rfl (by first | exact Or.inl rfl | exact Or.inr rfl) (pe_c c_least_sack hr (by decide) rfl passUp (pa_cons (pv 2) (pa_nil))))
      (pss_cons (ps_if (pt_cmpR u_is (pv 4) (pe_non) (nomark _)) (pss_one (ps_expr (pe_dpop2 (pe_fld (pv 0) rfl) (pv 1) (pe_non) ⟨by rfl, by rfl, by rfl, by rfl⟩))) (pss_one (ps_dput (hu_of hr) (pe_fld (pv 0) rfl) (pv 1) (pv 4) rfl)))
      (pss_one (ps_ret (pe_op u_sub (pe_c c_count_of hr (by decide) rfl passUp (pa_cons (pv 2) (pa_nil))) (pe_c c_count_of hr (by decide) rfl passUp (pa_cons (pv 3) (pa_nil))))))))
theorem sc_NumberSet_uppers : FnScope ["self"] ["self"] (defScope s_NumberSet_uppers) := ⟨rfl, rfl, rfl, by decide +kernel, rfl, by decide +kernel, by decide +kernel⟩
theorem ok_NumberSet_uppers {f : Addr} {fd : FuncData} {dvs : List V} (G : GoodS c) (F : FunD c.K "uppers" "NumberSet.uppers" (defArgs s_NumberSet_uppers) (defBody s_NumberSet_uppers) (defScope s_NumberSet_uppers) dvs [] f fd) (f_sorted : mg "sorted" = none) : FnOk P w c.K mg base (L2N.CX P w) 1 f fd ["self"] (sp_NumberSet_uppers c) := by
  refine F.ok sc_NumberSet_uppers (len_NumberSet_uppers c) fun cdv A outer s H vs Q E hr h => ⟨t_NumberSet_uppers c E, ?_, pure_NumberSet_uppers G vs H Q E h⟩
  have sc := sc_NumberSet_uppers
  exact pss_one (ps_ret (pe_callB u_sorted (by rfl) f_sorted (by decide +kernel) (pa_cons (pe_fld (pv 0) rfl) (pa_nil))))
theorem sc_NumberSet_put : FnScope ["self", "number", "upper", "low"] ["self", "number"] (defScope s_NumberSet_put) := ⟨rfl, rfl, rfl, by decide +kernel, rfl, by decide +kernel, by decide +kernel⟩
theorem ok_NumberSet_put {f : Addr} {fd : FuncData} {dvs : List V} (G : GoodS c) (F : FunD c.K "put" "NumberSet.put" (defArgs s_NumberSet_put) (defBody s_NumberSet_put) (defScope s_NumberSet_put) dvs [] f fd) (c_need_number : Cal P w c.K mg base 2 "need_number" (sp_need_number c) []) (g_SIZE : ∃ t, mg "SIZE" = some (.int 256 t)) (f_divmod : mg "divmod" = none) (m_set_bits : ∀ C sp, fam_set_bits c C sp → Met P w c.K mg base 5 C "set_bits" sp []) (m_bits_at : ∀ C sp, fam_bits_at c C sp → Met P w c.K mg base 1 C "bits_at" sp []) : FnOk P w c.K mg base (L2N.CX P w) 6 f fd ["self", "number"] (sp_NumberSet_put c) := by
  refine F.ok sc_NumberSet_put (len_NumberSet_put c) fun cdv A outer s H vs Q E hr h => ⟨t_NumberSet_put c E, ?_, pure_NumberSet_put G vs H Q E h⟩
  have sc := sc_NumberSet_put
  exact pss_cons (ps_expr (pe_c c_need_number hr (by decide) rfl passUp (pa_cons (pv 1) (pa_nil))))
      (pss_cons (ps_asg (pe_callB u_divmod (by rfl) f_divmod (by decide +kernel) (pa_cons (pv 1) (pa_cons (C8.pe_gc (v := .int 256) rfl (gl_int g_SIZE)) (pa_nil)))) (pg_tup rfl (pgs_cons (pg_name (i := 2) sc.nd rfl (by first | exact Or.inl rfl | exact Or.inr rfl)) (pgs_cons (pg_name (i := 3) sc.nd rfl (by first | exact Or.inl rfl | exact Or.inr rfl)) (pgs_nil)))))
      (pss_one (ps_ret (pe_cmpR (u_eq hr) (pe_m m_set_bits hr (by decide) passUp (pv 0) (pa_cons (pv 2) (pa_cons (pe_op u_bor (pe_m m_bits_at hr (by decide) passUp (pv 0) (pa_cons (pv 2) (pa_nil))) (pe_op u_shl (pe_int) (pv 3))) (pa_nil)))) (pe_int) (nomark _)))))
theorem sc_NumberSet_by_stretch : FnScope ["self", "first", "last", "way", "more", "upper"] ["self", "first", "last", "way"] (defScope s_NumberSet_by_stretch) := ⟨rfl, rfl, rfl, by decide +kernel, rfl, by decide +kernel, by decide +kernel⟩
theorem ok_NumberSet_by_stretch {f : Addr} {fd : FuncData} {dvs : List V} (G : GoodS c) (F : FunD c.K "by_stretch" "NumberSet.by_stretch" (defArgs s_NumberSet_by_stretch) (defBody s_NumberSet_by_stretch) (defScope s_NumberSet_by_stretch) dvs [] f fd) (c_need_number : Cal P w c.K mg base 2 "need_number" (sp_need_number c) []) (c_need_stretch : Cal P w c.K mg base 1 "need_stretch" (sp_need_stretch c) []) (g_SIZE : ∃ t, mg "SIZE" = some (.int 256 t)) (f_range : mg "range" = none) (m_set_bits : ∀ C sp, fam_set_bits c C sp → Met P w c.K mg base 5 C "set_bits" sp []) (m_bits_at : ∀ C sp, fam_bits_at c C sp → Met P w c.K mg base 1 C "bits_at" sp []) (c_stretch_bits : Cal P w c.K mg base 1 "stretch_bits" (sp_stretch_bits c) []) (hW : ∀ k, WayOk (c.way k) k) : FnOk P w c.K mg base (L2N.CX P w) 6 f fd ["self", "first", "last", "way"] (sp_NumberSet_by_stretch c) := by
  refine F.ok sc_NumberSet_by_stretch (len_NumberSet_by_stretch c) fun cdv A outer s H vs Q E hr h => ⟨t_NumberSet_by_stretch c E, ?_, pure_NumberSet_by_stretch G vs H Q E h⟩
  have sc := sc_NumberSet_by_stretch
  exact pss_cons (ps_expr (pe_c c_need_number hr (by decide) rfl passUp (pa_cons (pv 1) (pa_nil))))
      (pss_cons (ps_if (pt_cmpR u_is (pv 2) (pe_non) (nomark _)) (pss_one (ps_set (i := 2) sc.nd rfl (by first | exact Or.inl rfl | exact Or.inr rfl) (pv 1))) (pss_nil))
      (pss_cons (ps_expr (pe_c c_need_number hr (by decide) rfl passUp (pa_cons (pv 2) (pa_nil))))
      (pss_cons (ps_expr (pe_c c_need_stretch hr (by decide) rfl passUp (pa_cons (pv 1) (pa_cons (pv 2) (pa_nil)))))
      (pss_cons (ps_set (i := 4) sc.nd rfl (by first | exact Or.inl rfl | exact Or.inr rfl) (pe_int))
      (pss_cons (ps_for ownUp rfl (pi_range2 rfl f_range (pa_cons (pe_op u_fdv (pv 1) (C8.pe_gc (v := .int 256) rfl (gl_int g_SIZE))) (pa_cons (pe_op u_add (pe_op u_fdv (pv 2) (C8.pe_gc (v := .int 256) rfl (gl_int g_SIZE))) (pe_int)) (pa_nil)))) (pg_name (i := 5) sc.nd rfl (by first | exact Or.inl rfl | exact Or.inr rfl)) (pss_one (ps_aug (i := 4) sc.nd rfl (by first | exact Or.inl rfl | exact Or.inr rfl) (pe_m m_set_bits hr (by decide) passUp (pv 0) (pa_cons (pv 5) (pa_cons (pe_way (i := 3) hW hr (by decide) passLN rfl (Or.inl rfl) (pa_cons (pe_m m_bits_at hr (by decide) passUp (pv 0) (pa_cons (pv 5) (pa_nil))) (pa_cons (pe_c c_stretch_bits hr (by decide) rfl passUp (pa_cons (pv 5) (pa_cons (pv 1) (pa_cons (pv 2) (pa_nil))))) (pa_nil)))) (pa_nil)))) p_add)))
      (pss_one (ps_ret (pv 4))))))))
theorem sc_NumberSet_put_all : FnScope ["self", "first", "last"] ["self", "first", "last"] (defScope s_NumberSet_put_all) := ⟨rfl, rfl, rfl, by decide +kernel, rfl, by decide +kernel, by decide +kernel⟩
theorem ok_NumberSet_put_all {f : Addr} {fd : FuncData} {dvs : List V} (G : GoodS c) (F : FunD c.K "put_all" "NumberSet.put_all" (defArgs s_NumberSet_put_all) (defBody s_NumberSet_put_all) (defScope s_NumberSet_put_all) dvs [] f fd) (m_by_stretch : ∀ C sp, fam_by_stretch c C sp → Met P w c.K mg base 6 C "by_stretch" sp []) (w_putA : c.way .putA = lamOf "NumberSet.put_all.<locals>.<lambda>" s_NumberSet_put_all) (hW : ∀ k, WayOk (c.way k) k) (cd_putA : CodF mg base c.T fd (c.way .putA)) : FnOk P w c.K mg base (L2N.CX P w) 7 f fd ["self", "first", "last"] (sp_NumberSet_put_all c) := by
  refine F.okC cd_putA sc_NumberSet_put_all (len_NumberSet_put_all c) fun cdv cc Pt cdc cdb cdm cdu A outer s H vs Q E hr h => ⟨t_NumberSet_put_all c E, ?_, pure_NumberSet_put_all G vs H Q E h⟩
  have sc := sc_NumberSet_put_all
  exact pss_one (ps_ret (pe_m m_by_stretch hr (by decide) passUp (pv 0) (pa_cons (pv 1) (pa_cons (pv 2) (pa_cons (pe_lamW (k := .putA) w_putA hW cdc cdb (by kernel_rfl) cdm cdu) (pa_nil))))))
theorem sc_NumberSet_drop_all : FnScope ["self", "first", "last"] ["self", "first", "last"] (defScope s_NumberSet_drop_all) := ⟨rfl, rfl, rfl, by decide +kernel, rfl, by decide +kernel, by decide +kernel⟩
theorem ok_NumberSet_drop_all {f : Addr} {fd : FuncData} {dvs : List V} (G : GoodS c) (F : FunD c.K "drop_all" "NumberSet.drop_all" (defArgs s_NumberSet_drop_all) (defBody s_NumberSet_drop_all) (defScope s_NumberSet_drop_all) dvs [] f fd) (m_by_stretch : ∀ C sp, fam_by_stretch c C sp → Met P w c.K mg base 6 C "by_stretch" sp []) (w_dropA : c.way .dropA = lamOf "NumberSet.drop_all.<locals>.<lambda>" s_NumberSet_drop_all) (hW : ∀ k, WayOk (c.way k) k) (cd_dropA : CodF mg base c.T fd (c.way .dropA)) : FnOk P w c.K mg base (L2N.CX P w) 7 f fd ["self", "first", "last"] (sp_NumberSet_drop_all c) := by
  refine F.okC cd_dropA sc_NumberSet_drop_all (len_NumberSet_drop_all c) fun cdv cc Pt cdc cdb cdm cdu A outer s H vs Q E hr h => ⟨t_NumberSet_drop_all c E, ?_, pure_NumberSet_drop_all G vs H Q E h⟩
  have sc := sc_NumberSet_drop_all
  exact pss_one (ps_ret (pe_m m_by_stretch hr (by decide) passUp (pv 0) (pa_cons (pv 1) (pa_cons (pv 2) (pa_cons (pe_lamW (k := .dropA) w_dropA hW cdc cdb (by kernel_rfl) cdm cdu) (pa_nil))))))
theorem sc_NumberSet_turn : FnScope ["self", "first", "last"] ["self", "first", "last"] (defScope s_NumberSet_turn) := ⟨rfl, rfl, rfl, by decide +kernel, rfl, by decide +kernel, by decide +kernel⟩
theorem ok_NumberSet_turn {f : Addr} {fd : FuncData} {dvs : List V} (G : GoodS c) (F : FunD c.K "turn" "NumberSet.turn" (defArgs s_NumberSet_turn) (defBody s_NumberSet_turn) (defScope s_NumberSet_turn) dvs [] f fd) (m_by_stretch : ∀ C sp, fam_by_stretch c C sp → Met P w c.K mg base 6 C "by_stretch" sp []) (w_turnA : c.way .turnA = lamOf "NumberSet.turn.<locals>.<lambda>" s_NumberSet_turn) (hW : ∀ k, WayOk (c.way k) k) (cd_turnA : CodF mg base c.T fd (c.way .turnA)) : FnOk P w c.K mg base (L2N.CX P w) 7 f fd ["self", "first", "last"] (sp_NumberSet_turn c) := by
  refine F.okC cd_turnA sc_NumberSet_turn (len_NumberSet_turn c) fun cdv cc Pt cdc cdb cdm cdu A outer s H vs Q E hr h => ⟨t_NumberSet_turn c E, ?_, pure_NumberSet_turn G vs H Q E h⟩
  have sc := sc_NumberSet_turn
  exact pss_one (ps_ret (pe_m m_by_stretch hr (by decide) passUp (pv 0) (pa_cons (pv 1) (pa_cons (pv 2) (pa_cons (pe_lamW (k := .turnA) w_turnA hW cdc cdb (by kernel_rfl) cdm cdu) (pa_nil))))))
theorem sc_NumberSet_count : FnScope ["self", "sack"] ["self"] (defScope s_NumberSet_count) := ⟨rfl, rfl, rfl, by decide +kernel, rfl, by decide +kernel, by decide +kernel⟩
theorem ok_NumberSet_count {f : Addr} {fd : FuncData} {dvs : List V} (G : GoodS c) (F : FunD c.K "count" "NumberSet.count" (defArgs s_NumberSet_count) (defBody s_NumberSet_count) (defScope s_NumberSet_count) dvs [] f fd) (m_count : ∀ C sp, fam_count c C sp → Met P w c.K mg base 3 C "count" sp []) (f_sum : mg "sum" = none) : FnOk P w c.K mg base (L2N.CX P w) 4 f fd ["self"] (sp_NumberSet_count c) := by
  refine F.ok sc_NumberSet_count (len_NumberSet_count c) fun cdv A outer s H vs Q E hr h => ⟨t_NumberSet_count c E, ?_, pure_NumberSet_count G vs H Q E h⟩
  have sc := sc_NumberSet_count
  exact pss_one (ps_ret (pe_callB (cr_sum rfl) (by rfl) f_sum (by decide +kernel) (pa_cons (pe_lock (pe_lc (own := [("sack", 1)]) (g := gName 1) (tt := tYes) rfl sc.nd (pi_values (pe_fld (pv 0) rfl)) (blkOk_by (own := [("sack", 1)]) (N := ["self", "sack"]) (sc := defScope s_NumberSet_count) (by decide +kernel)) (fun _ _ _ _ _ => pg_name (i := 1) sc.nd rfl (by first | exact Or.inl rfl | exact Or.inr rfl)) (fun _ _ _ _ _ => pts_nil) (fun _ _ _ _ _ => pe_m0 m_count hr (by decide) passLN (pv 1)))) (pa_nil))))
theorem sc_NumberSet_stretches : FnScope ["self", "found", "upper", "first", "last"] ["self"] (defScope s_NumberSet_stretches) := ⟨rfl, rfl, rfl, by decide +kernel, rfl, by decide +kernel, by decide +kernel⟩
theorem ok_NumberSet_stretches {f : Addr} {fd : FuncData} {dvs : List V} (G : GoodS c) (F : FunD c.K "stretches" "NumberSet.stretches" (defArgs s_NumberSet_stretches) (defBody s_NumberSet_stretches) (defScope s_NumberSet_stretches) dvs [] f fd) (m_uppers : ∀ C sp, fam_uppers c C sp → Met P w c.K mg base 1 C "uppers" sp []) (c_runs_of : Cal P w c.K mg base 1 "runs_of" (sp_runs_of c) []) (m_bits_at : ∀ C sp, fam_bits_at c C sp → Met P w c.K mg base 1 C "bits_at" sp []) (g_SIZE : ∃ t, mg "SIZE" = some (.int 256 t)) : FnOk P w c.K mg base (L2N.CX P w) 2 f fd ["self"] (sp_NumberSet_stretches c) := by
  refine F.ok sc_NumberSet_stretches (len_NumberSet_stretches c) fun cdv A outer s H vs Q E hr h => ⟨t_NumberSet_stretches c E, ?_, pure_NumberSet_stretches G vs H Q E h⟩
  have sc := sc_NumberSet_stretches
  exact pss_cons (ps_set (i := 1) sc.nd rfl (by first | exact Or.inl rfl | exact Or.inr rfl) (pe_lst (pa_nil)))
      (pss_cons (ps_for ownUp rfl (pi_seq (pe_m0 m_uppers hr (by decide) passUp (pv 0))) (pg_name (i := 2) sc.nd rfl (by first | exact Or.inl rfl | exact Or.inr rfl)) (pss_one (ps_for ownUp rfl (pi_seq (pe_c c_runs_of hr (by decide) rfl passUp (pa_cons (pe_m m_bits_at hr (by decide) passUp (pv 0) (pa_cons (pv 2) (pa_nil))) (pa_nil)))) (pg_tup rfl (pgs_cons (pg_name (i := 3) sc.nd rfl (by first | exact Or.inl rfl | exact Or.inr rfl)) (pgs_cons (pg_name (i := 4) sc.nd rfl (by first | exact Or.inl rfl | exact Or.inr rfl)) (pgs_nil)))) (pss_cons (ps_if (PW.pt (pw_and (pt_cmpR (u_ne hr) (pv 1) (pe_lst (pa_nil)) (nomark _)) (pw_and1 (pt_cmpR (u_eq hr) (pe_op u_add (pe_ix ix_seq (pe_ix ix_seq (pv 1) (pe_un u_neg (pe_int)) (fun _ _ => rfl)) (pe_int) (fun _ _ => rfl)) (pe_int)) (pe_op u_add (pe_op u_mul (C8.pe_gc (v := .int 256) rfl (gl_int g_SIZE)) (pv 2)) (pv 3)) (nomark _))))) (pss_one (ps_set (i := 3) sc.nd rfl (by first | exact Or.inl rfl | exact Or.inr rfl) (pe_op u_sub (pe_ix ix_seq (pe_bm0 PySem.F.plainAttrs_list PySem.F.slot_list_pop PySem.F.type_list_pop mt_pop (pv 1)) (pe_int) (fun _ _ => rfl)) (pe_op u_mul (C8.pe_gc (v := .int 256) rfl (gl_int g_SIZE)) (pv 2))))) (pss_nil))
      (pss_one (ps_expr (pe_bm PySem.F.plainAttrs_list PySem.F.slot_list_append PySem.F.type_list_append mt_append (pv 1) (pa_cons (pe_tup (pa_cons (pe_op u_add (pe_op u_mul (C8.pe_gc (v := .int 256) rfl (gl_int g_SIZE)) (pv 2)) (pv 3)) (pa_cons (pe_op u_add (pe_op u_mul (C8.pe_gc (v := .int 256) rfl (gl_int g_SIZE)) (pv 2)) (pv 4)) (pa_nil)))) (pa_nil)))))))))
      (pss_one (ps_ret (pv 1))))
theorem sc_together : FnScope ["one", "other", "way", "found", "upper"] ["one", "other", "way"] (defScope s_together) := ⟨rfl, rfl, rfl, by decide +kernel, rfl, by decide +kernel, by decide +kernel⟩
theorem ok_together {f : Addr} {fd : FuncData} {dvs : List V} (G : GoodS c) (F : FunD c.K "together" "together" (defArgs s_together) (defBody s_together) (defScope s_together) dvs [] f fd) (k_NumberSet0 : Mak P w c.K mg base 7 "NumberSet" c.set (sp_NumberSet___init__ c) [.non]) (m_uppers : ∀ C sp, fam_uppers c C sp → Met P w c.K mg base 1 C "uppers" sp []) (m_set_bits : ∀ C sp, fam_set_bits c C sp → Met P w c.K mg base 5 C "set_bits" sp []) (m_bits_at : ∀ C sp, fam_bits_at c C sp → Met P w c.K mg base 1 C "bits_at" sp []) (hW : ∀ k, WayOk (c.way k) k) : FnOk P w c.K mg base (L2N.CX P w) 9 f fd ["one", "other", "way"] (sp_together c) := by
  refine F.ok sc_together (len_together c) fun cdv A outer s H vs Q E hr h => ⟨t_together c E, ?_, pure_together G vs H Q E h⟩
  have sc := sc_together
  exact pss_cons (ps_set (i := 3) sc.nd rfl (by first | exact Or.inl rfl | exact Or.inr rfl) (pe_mk0 k_NumberSet0 hr (by decide) rfl passUp))
      (pss_cons (ps_for ownUp rfl (pi_seq (pe_op u_add (pe_m0 m_uppers hr (by decide) passUp (pv 0)) (pe_m0 m_uppers hr (by decide) passUp (pv 1)))) (pg_name (i := 4) sc.nd rfl (by first | exact Or.inl rfl | exact Or.inr rfl)) (pss_one (ps_expr (pe_m m_set_bits hr (by decide) passUp (pv 3) (pa_cons (pv 4) (pa_cons (pe_way (i := 2) hW hr (by decide) passLN rfl (Or.inl rfl) (pa_cons (pe_m m_bits_at hr (by decide) passUp (pv 0) (pa_cons (pv 4) (pa_nil))) (pa_cons (pe_m m_bits_at hr (by decide) passUp (pv 1) (pa_cons (pv 4) (pa_nil))) (pa_nil)))) (pa_nil)))))))
      (pss_one (ps_ret (pv 3))))
theorem sc_apart : FnScope ["one", "other"] ["one", "other"] (defScope s_apart) := ⟨rfl, rfl, rfl, by decide +kernel, rfl, by decide +kernel, by decide +kernel⟩
theorem ok_apart {f : Addr} {fd : FuncData} {dvs : List V} (G : GoodS c) (F : FunD c.K "apart" "apart" (defArgs s_apart) (defBody s_apart) (defScope s_apart) dvs [] f fd) (c_together : Cal P w c.K mg base 9 "together" (sp_together c) []) (w_apartW : c.way .apartW = lamOf "apart.<locals>.<lambda>" s_apart) (hW : ∀ k, WayOk (c.way k) k) (cd_apartW : CodF mg base c.T fd (c.way .apartW)) : FnOk P w c.K mg base (L2N.CX P w) 10 f fd ["one", "other"] (sp_apart c) := by
  refine F.okC cd_apartW sc_apart (len_apart c) fun cdv cc Pt cdc cdb cdm cdu A outer s H vs Q E hr h => ⟨t_apart c E, ?_, pure_apart G.toGood vs H Q E h⟩
  have sc := sc_apart
  exact pss_one (ps_ret (pe_c c_together hr (by decide) rfl passUp (pa_cons (pv 0) (pa_cons (pv 1) (pa_cons (pe_lamW (k := .apartW) w_apartW hW cdc cdb (by kernel_rfl) cdm cdu) (pa_nil))))))
theorem sc_same : FnScope ["one", "other"] ["one", "other"] (defScope s_same) := ⟨rfl, rfl, rfl, by decide +kernel, rfl, by decide +kernel, by decide +kernel⟩
theorem ok_same {f : Addr} {fd : FuncData} {dvs : List V} (G : GoodS c) (F : FunD c.K "same" "same" (defArgs s_same) (defBody s_same) (defScope s_same) dvs [] f fd) (c_apart : Cal P w c.K mg base 10 "apart" (sp_apart c) []) (m_countS : ∀ C sp, fam_countS c C sp → Met P w c.K mg base 4 C "count" sp []) : FnOk P w c.K mg base (L2N.CX P w) 11 f fd ["one", "other"] (sp_same c) := by
  refine F.ok sc_same (len_same c) fun cdv A outer s H vs Q E hr h => ⟨t_same c E, ?_, pure_same G.toGood vs H Q E h⟩
  have sc := sc_same
  exact pss_one (ps_ret (pe_cmpR (u_eq hr) (pe_m0 m_countS hr (by decide) passUp (pe_c c_apart hr (by decide) rfl passUp (pa_cons (pv 0) (pa_cons (pv 1) (pa_nil))))) (pe_int) (nomark _)))
theorem sc_written : FnScope ["numbers", "found", "first", "last", "text"] ["numbers"] (defScope s_written) := ⟨rfl, rfl, rfl, by decide +kernel, rfl, by decide +kernel, by decide +kernel⟩
theorem ok_written {f : Addr} {fd : FuncData} {dvs : List V} (G : GoodS c) (F : FunD c.K "written" "written" (defArgs s_written) (defBody s_written) (defScope s_written) dvs [] f fd) (m_stretches : ∀ C sp, fam_stretches c C sp → Met P w c.K mg base 2 C "stretches" sp []) (f_str : mg "str" = none) : FnOk P w c.K mg base (L2N.CX P w) 3 f fd ["numbers"] (sp_written c) := by
  refine F.ok sc_written (len_written c) fun cdv A outer s H vs Q E hr h => ⟨t_written c E, ?_, pure_written G vs H Q E h⟩
  have sc := sc_written
  exact pss_cons (ps_set (i := 1) sc.nd rfl (by first | exact Or.inl rfl | exact Or.inr rfl) (pe_lst (pa_nil)))
      (pss_cons (ps_for ownUp rfl (pi_seq (pe_m0 m_stretches hr (by decide) passUp (pv 0))) (pg_tup rfl (pgs_cons (pg_name (i := 2) sc.nd rfl (by first | exact Or.inl rfl | exact Or.inr rfl)) (pgs_cons (pg_name (i := 3) sc.nd rfl (by first | exact Or.inl rfl | exact Or.inr rfl)) (pgs_nil)))) (pss_cons (ps_set (i := 4) sc.nd rfl (by first | exact Or.inl rfl | exact Or.inr rfl) (pe_callTy u_str (by rfl) f_str (by decide +kernel) (pa_cons (pv 2) (pa_nil))))
      (pss_cons (ps_if (pt_cmpR u_gt (pv 3) (pv 2) (nomark _)) (pss_one (ps_aug (i := 4) sc.nd rfl (by first | exact Or.inl rfl | exact Or.inr rfl) (pe_op u_add (pe_str) (pe_callTy u_str (by rfl) f_str (by decide +kernel) (pa_cons (pv 3) (pa_nil)))) p_add)) (pss_nil))
      (pss_one (ps_expr (pe_bm PySem.F.plainAttrs_list PySem.F.slot_list_append PySem.F.type_list_append mt_append (pv 1) (pa_cons (pv 4) (pa_nil))))))))
      (pss_one (ps_ret (pe_orT (pe_m1 PySem.F.slot_str_join PySem.F.type_str_join m_joinS (pe_str) (pv 1)) (pe_one (pe_str))))))
theorem sc_read_number : FnScope ["text", "word"] ["text"] (defScope s_read_number) := ⟨rfl, rfl, rfl, by decide +kernel, rfl, by decide +kernel, by decide +kernel⟩
theorem ok_read_number {f : Addr} {fd : FuncData} {dvs : List V} (G : GoodS c) (F : FunD c.K "read_number" "read_number" (defArgs s_read_number) (defBody s_read_number) (defScope s_read_number) dvs [] f fd) (f_len : mg "len" = none) (g_MOST_FIGURES : ∃ t, mg "MOST_FIGURES" = some (.int 8 t)) (g_FIGURES : ∃ t, mg "FIGURES" = some (.str "0123456789" t)) (f_int : mg "int" = none) (g_GREATEST : ∃ t, mg "GREATEST" = some (.int 16777215 t)) (x_NoText : ExcF c.K mg "NoText" c.eNoText) : FnOk P w c.K mg base (L2N.CX P w) 1 f fd ["text"] (sp_read_number c) := by
  refine F.ok sc_read_number (len_read_number c) fun cdv A outer s H vs Q E hr h => ⟨t_read_number c E, ?_, pure_read_number G.toGood vs H Q E h⟩
  have sc := sc_read_number
  exact pss_cons (ps_set (i := 1) sc.nd rfl (by first | exact Or.inl rfl | exact Or.inr rfl) (pe_m1 PySem.F.slot_str_strip PySem.F.type_str_strip m_stripS (pv 0) (pe_str)))
      (pss_cons (ps_if (PW.pt (pw_or (pt_not (pt_chain u_le u_le (pe_int) (pe_callB u_len (by rfl) f_len PySem.boot_len (pa_cons (pv 1) (pa_nil))) (C8.pe_gc (v := .int 8) rfl (gl_int g_MOST_FIGURES)))) (pw_or (pt_cmpR (u_ne hr) (pe_m1 PySem.F.slot_str_strip PySem.F.type_str_strip m_stripS (pv 1) (C8.pe_gc (v := .str "0123456789") rfl (gl_str g_FIGURES))) (pe_str) (nomark _)) (pw_or1 (pt_cmpR u_gt (pe_callTy u_int (by rfl) f_int (by decide +kernel) (pa_cons (pv 1) (pa_nil))) (C8.pe_gc (v := .int 16777215) rfl (gl_int g_GREATEST)) (nomark _)))))) (pss_one (L2N.ps_raise rfl (L2N.takes_of rfl rfl rfl rfl) (pmk_x x_NoText (by exact rfl)))) (pss_nil))
      (pss_one (ps_ret (pe_callTy u_int (by rfl) f_int (by decide +kernel) (pa_cons (pv 1) (pa_nil))))))
theorem sc_read_stretch : FnScope ["text", "parts", "numbers", "part"] ["text"] (defScope s_read_stretch) := ⟨rfl, rfl, rfl, by decide +kernel, rfl, by decide +kernel, by decide +kernel⟩
theorem ok_read_stretch {f : Addr} {fd : FuncData} {dvs : List V} (G : GoodS c) (F : FunD c.K "read_stretch" "read_stretch" (defArgs s_read_stretch) (defBody s_read_stretch) (defScope s_read_stretch) dvs [] f fd) (f_len : mg "len" = none) (x_NoText : ExcF c.K mg "NoText" c.eNoText) (c_read_number : Cal P w c.K mg base 1 "read_number" (sp_read_number c) []) : FnOk P w c.K mg base (L2N.CX P w) 2 f fd ["text"] (sp_read_stretch c) := by
  refine F.ok sc_read_stretch (len_read_stretch c) fun cdv A outer s H vs Q E hr h => ⟨t_read_stretch c E, ?_, pure_read_stretch G.toGood vs H Q E h⟩
  have sc := sc_read_stretch
  exact pss_cons (ps_set (i := 1) sc.nd rfl (by first | exact Or.inl rfl | exact Or.inr rfl) (pe_m1 PySem.F.slot_str_split PySem.F.type_str_split m_splitS (pv 0) (pe_str)))
      (pss_cons (ps_if (pt_cmpR u_gt (pe_callB u_len (by rfl) f_len PySem.boot_len (pa_cons (pv 1) (pa_nil))) (pe_int) (nomark _)) (pss_one (L2N.ps_raise rfl (L2N.takes_of rfl rfl rfl rfl) (pmk_x x_NoText (by exact rfl)))) (pss_nil))
      (pss_cons (ps_setLcX (EO := E) (i := 2) (own := [("part", 3)]) (g := gName 3) rfl rfl rfl (L2N.takes_of rfl rfl rfl rfl) sc.nd rfl rfl (sw_true rfl rfl rfl (by decide +kernel)) (pi_seq (pv 1)) (blkOk_by (own := [("part", 3)]) (N := ["text", "parts", "numbers", "part"]) (sc := defScope s_read_stretch) (by decide +kernel)) (fun _ _ _ _ _ _ => pg_name (i := 3) sc.nd rfl (by first | exact Or.inl rfl | exact Or.inr rfl)) (fun _ _ _ _ _ _ hp => pe_c c_read_number hr (by decide) rfl (hp E fun _ _ _ h => h) (pa_cons (pv 3) (pa_nil))))
      (pss_one (ps_ret (pe_tup (pa_cons (pe_ix ix_seq (pv 2) (pe_int) (fun _ _ => rfl)) (pa_cons (pe_ix ix_seq (pv 2) (pe_un u_neg (pe_int)) (fun _ _ => rfl)) (pa_nil))))))))
theorem sc_read : FnScope ["text", "found", "pairs", "first", "last", "part"] ["text"] (defScope s_read) := ⟨rfl, rfl, rfl, by decide +kernel, rfl, by decide +kernel, by decide +kernel⟩
theorem ok_read {f : Addr} {fd : FuncData} {dvs : List V} (G : GoodS c) (F : FunD c.K "read" "read" (defArgs s_read) (defBody s_read) (defScope s_read) dvs [] f fd) (k_NumberSet0 : Mak P w c.K mg base 7 "NumberSet" c.set (sp_NumberSet___init__ c) [.non]) (c_read_stretch : Cal P w c.K mg base 2 "read_stretch" (sp_read_stretch c) []) (c_need_stretch : Cal P w c.K mg base 1 "need_stretch" (sp_need_stretch c) []) (m_put_all : ∀ C sp, fam_put_all c C sp → Met P w c.K mg base 7 C "put_all" sp []) : FnOk P w c.K mg base (L2N.CX P w) 9 f fd ["text"] (sp_read c) := by
  refine F.ok sc_read (len_read c) fun cdv A outer s H vs Q E hr h => ⟨t_read c E, ?_, pure_read G vs H Q E h⟩
  have sc := sc_read
  exact pss_cons (ps_set (i := 1) sc.nd rfl (by first | exact Or.inl rfl | exact Or.inr rfl) (pe_mk0 k_NumberSet0 hr (by decide) rfl passUp))
      (pss_cons (ps_if (pt_cmpR (u_eq hr) (pe_m1 PySem.F.slot_str_strip PySem.F.type_str_strip m_stripS (pv 0) (pe_str)) (pe_str) (nomark _)) (pss_one (ps_ret (pv 1))) (pss_nil))
      (pss_cons (ps_setLcX (EO := E) (i := 2) (own := [("part", 5)]) (g := gName 5) rfl rfl rfl (L2N.takes_of rfl rfl rfl rfl) sc.nd rfl rfl (sw_true rfl rfl rfl (by decide +kernel)) (pi_seq (pe_m1 PySem.F.slot_str_split PySem.F.type_str_split m_splitS (pv 0) (pe_str))) (blkOk_by (own := [("part", 5)]) (N := ["text", "found", "pairs", "first", "last", "part"]) (sc := defScope s_read) (by decide +kernel)) (fun _ _ _ _ _ _ => pg_name (i := 5) sc.nd rfl (by first | exact Or.inl rfl | exact Or.inr rfl)) (fun _ _ _ _ _ _ hp => pe_c c_read_stretch hr (by decide) rfl (hp E fun _ _ _ h => h) (pa_cons (pv 5) (pa_nil))))
      (pss_cons (ps_for ownUp rfl (pi_seq (pv 2)) (pg_tup rfl (pgs_cons (pg_name (i := 3) sc.nd rfl (by first | exact Or.inl rfl | exact Or.inr rfl)) (pgs_cons (pg_name (i := 4) sc.nd rfl (by first | exact Or.inl rfl | exact Or.inr rfl)) (pgs_nil)))) (pss_one (ps_expr (pe_c c_need_stretch hr (by decide) rfl passUp (pa_cons (pv 3) (pa_cons (pv 4) (pa_nil)))))))
      (pss_cons (ps_for ownUp rfl (pi_seq (pv 2)) (pg_tup rfl (pgs_cons (pg_name (i := 3) sc.nd rfl (by first | exact Or.inl rfl | exact Or.inr rfl)) (pgs_cons (pg_name (i := 4) sc.nd rfl (by first | exact Or.inl rfl | exact Or.inr rfl)) (pgs_nil)))) (pss_one (ps_expr (pe_m m_put_all hr (by decide) passUp (pv 1) (pa_cons (pv 3) (pa_cons (pv 4) (pa_nil)))))))
      (pss_one (ps_ret (pv 1)))))))
theorem sc__law_cell_at : FnScope ["_law_script", "_law_k", "_law_cell", "_law_one", "_law_two"] ["_law_script", "_law_k"] (defScope s__law_cell_at) := ⟨rfl, rfl, rfl, by decide +kernel, rfl, by decide +kernel, by decide +kernel⟩
theorem ok__law_cell_at {f : Addr} {fd : FuncData} {dvs : List V} (G : GoodS c) (F : FunD c.K "_law_cell_at" "_law_cell_at" (defArgs s__law_cell_at) (defBody s__law_cell_at) (defScope s__law_cell_at) dvs [] f fd) (f_len : mg "len" = none) : FnOk P w c.K mg base (L2N.CX P w) 1 f fd ["_law_script", "_law_k"] (sp__law_cell_at c) := by
  refine F.ok sc__law_cell_at (len__law_cell_at c) fun cdv A outer s H vs Q E hr h => ⟨t__law_cell_at c E, ?_, pure__law_cell_at G.toGood vs H Q E h⟩
  have sc := sc__law_cell_at
  exact pss_cons (ps_set (i := 2) sc.nd rfl (by first | exact Or.inl rfl | exact Or.inr rfl) (pe_int))
      (pss_cons (ps_if (pt_cmpR u_gt (pe_callB u_len (by rfl) f_len PySem.boot_len (pa_cons (pv 0) (pa_nil))) (pe_int) (nomark _)) (pss_one (ps_set (i := 2) sc.nd rfl (by first | exact Or.inl rfl | exact Or.inr rfl) (pe_ix ix_seq (pv 0) (pe_op u_mod (pv 1) (pe_callB u_len (by rfl) f_len PySem.boot_len (pa_cons (pv 0) (pa_nil)))) (fun _ _ => rfl)))) (pss_nil))
      (pss_cons (ps_set (i := 3) sc.nd rfl (by first | exact Or.inl rfl | exact Or.inr rfl) (pe_op u_mod (pe_op u_add (pe_op u_add (pe_op u_add (pe_op u_mul (pv 2) (pe_int)) (pe_op u_mul (pe_op u_mul (pe_int) (pv 1)) (pv 1))) (pe_op u_mul (pe_int) (pv 1))) (pe_int)) (pe_int)))
      (pss_cons (ps_set (i := 4) sc.nd rfl (by first | exact Or.inl rfl | exact Or.inr rfl) (pe_op u_mod (pe_op u_mul (pe_op u_mod (pe_op u_mul (pv 3) (pv 3)) (pe_int)) (pe_int)) (pe_int)))
      (pss_one (ps_ret (pe_op u_add (pe_op u_mul (pe_op u_mod (pe_op u_mul (pv 4) (pv 4)) (pe_int)) (pe_int)) (pv 4)))))))
theorem sc__law_lows : FnScope ["_law_bits_here", "_law_found"] ["_law_bits_here"] (defScope s__law_lows) := ⟨rfl, rfl, rfl, by decide +kernel, rfl, by decide +kernel, by decide +kernel⟩
theorem ok__law_lows {f : Addr} {fd : FuncData} {dvs : List V} (G : GoodS c) (F : FunD c.K "_law_lows" "_law_lows" (defArgs s__law_lows) (defBody s__law_lows) (defScope s__law_lows) dvs [] f fd) : FnOk P w c.K mg base (L2N.CX P w) 1 f fd ["_law_bits_here"] (sp__law_lows c) := by
  refine F.ok sc__law_lows (len__law_lows c) fun cdv A outer s H vs Q E hr h => ⟨t__law_lows c E, ?_, pure__law_lows G.toGood vs H Q E h⟩
  have sc := sc__law_lows
  exact pss_cons (ps_set (i := 1) sc.nd rfl (by first | exact Or.inl rfl | exact Or.inr rfl) (pe_lst (pa_nil)))
      (pss_cons (ps_while ownUp (pt_cmpR u_gt (pv 0) (pe_int) (nomark _)) (pss_cons (ps_expr (pe_bm PySem.F.plainAttrs_list PySem.F.slot_list_append PySem.F.type_list_append mt_append (pv 1) (pa_cons (pe_op u_sub (pe_bits (pe_op u_ban (pv 0) (pe_un u_neg (pv 0)))) (pe_int)) (pa_nil))))
      (pss_one (ps_aug (i := 0) sc.nd rfl (by first | exact Or.inl rfl | exact Or.inr rfl) (pe_op u_sub (pv 0) (pe_int)) p_ban))))
      (pss_one (ps_ret (pv 1))))
theorem sc__law_runs : FnScope ["_law_lows_here", "_law_found", "_law_low"] ["_law_lows_here"] (defScope s__law_runs) := ⟨rfl, rfl, rfl, by decide +kernel, rfl, by decide +kernel, by decide +kernel⟩
theorem ok__law_runs {f : Addr} {fd : FuncData} {dvs : List V} (G : GoodS c) (F : FunD c.K "_law_runs" "_law_runs" (defArgs s__law_runs) (defBody s__law_runs) (defScope s__law_runs) dvs [] f fd) : FnOk P w c.K mg base (L2N.CX P w) 1 f fd ["_law_lows_here"] (sp__law_runs c) := by
  refine F.ok sc__law_runs (len__law_runs c) fun cdv A outer s H vs Q E hr h => ⟨t__law_runs c E, ?_, pure__law_runs G.toGood vs H Q E h⟩
  have sc := sc__law_runs
  exact pss_cons (ps_set (i := 1) sc.nd rfl (by first | exact Or.inl rfl | exact Or.inr rfl) (pe_lst (pa_nil)))
      (pss_cons (ps_for ownUp rfl (pi_seq (pv 0)) (pg_name (i := 2) sc.nd rfl (by first | exact Or.inl rfl | exact Or.inr rfl)) (pss_one (ps_if (PW.pt (pw_and (pt_cmpR (u_ne hr) (pv 1) (pe_lst (pa_nil)) (nomark _)) (pw_and1 (pt_cmpR (u_eq hr) (pe_op u_add (pe_ix ix_seq (pe_ix ix_seq (pv 1) (pe_un u_neg (pe_int)) (fun _ _ => rfl)) (pe_int) (fun _ _ => rfl)) (pe_int)) (pv 2) (nomark _))))) (pss_one (ps_asg (pe_tup (pa_cons (pe_ix ix_seq (pe_ix ix_seq (pv 1) (pe_un u_neg (pe_int)) (fun _ _ => rfl)) (pe_int) (fun _ _ => rfl)) (pa_cons (pv 2) (pa_nil)))) (pg_sub (pv 1) (pe_un u_neg (pe_int)) set_list))) (pss_one (ps_expr (pe_bm PySem.F.plainAttrs_list PySem.F.slot_list_append PySem.F.type_list_append mt_append (pv 1) (pa_cons (pe_tup (pa_cons (pv 2) (pa_cons (pv 2) (pa_nil)))) (pa_nil))))))))
      (pss_one (ps_ret (pv 1))))
theorem sc__law_form : FnScope ["_law_bits_here", "_law_lows_here", "_law_runs_here", "_law_k"] ["_law_bits_here"] (defScope s__law_form) := ⟨rfl, rfl, rfl, by decide +kernel, rfl, by decide +kernel, by decide +kernel⟩
theorem ok__law_form {f : Addr} {fd : FuncData} {dvs : List V} (G : GoodS c) (F : FunD c.K "_law_form" "_law_form" (defArgs s__law_form) (defBody s__law_form) (defScope s__law_form) dvs [] f fd) (c__law_lows : Cal P w c.K mg base 1 "_law_lows" (sp__law_lows c) []) (c__law_runs : Cal P w c.K mg base 1 "_law_runs" (sp__law_runs c) []) (f_len : mg "len" = none) (f_tuple : mg "tuple" = none) (f_range : mg "range" = none) : FnOk P w c.K mg base (L2N.CX P w) 2 f fd ["_law_bits_here"] (sp__law_form c) := by
  refine F.ok sc__law_form (len__law_form c) fun cdv A outer s H vs Q E hr h => ⟨t__law_form c E, ?_, pure__law_form G.toGood vs H Q E h⟩
  have sc := sc__law_form
  exact pss_cons (ps_set (i := 1) sc.nd rfl (by first | exact Or.inl rfl | exact Or.inr rfl) (pe_c c__law_lows hr (by decide) rfl passUp (pa_cons (pv 0) (pa_nil))))
      (pss_cons (ps_set (i := 2) sc.nd rfl (by first | exact Or.inl rfl | exact Or.inr rfl) (pe_c c__law_runs hr (by decide) rfl passUp (pa_cons (pv 1) (pa_nil))))
      (pss_cons (ps_if (PW.pt (pw_and (pt_cmpR u_le (pe_callB u_len (by rfl) f_len PySem.boot_len (pa_cons (pv 1) (pa_nil))) (pe_op u_mul (pe_int) (pe_callB u_len (by rfl) f_len PySem.boot_len (pa_cons (pv 2) (pa_nil)))) (nomark _)) (pw_and1 (pt_cmpR u_le (pe_callB u_len (by rfl) f_len PySem.boot_len (pa_cons (pv 1) (pa_nil))) (pe_int) (nomark _))))) (pss_one (ps_ret (pe_tup (pa_cons (pe_tup (pa_cons (pe_str) (pa_cons (pe_callTy u_tuple (by rfl) f_tuple (by decide +kernel) (pa_cons (pv 1) (pa_nil))) (pa_nil)))) (pa_cons (pe_callB u_len (by rfl) f_len PySem.boot_len (pa_cons (pv 1) (pa_nil))) (pa_nil)))))) (pss_nil))
      (pss_cons (ps_if (pt_cmpR u_le (pe_op u_mul (pe_int) (pe_callB u_len (by rfl) f_len PySem.boot_len (pa_cons (pv 2) (pa_nil)))) (pe_int) (nomark _)) (pss_one (ps_ret (pe_tup (pa_cons (pe_tup (pa_cons (pe_str) (pa_cons (pe_callTy u_tuple (by rfl) f_tuple (by decide +kernel) (pa_cons (pv 2) (pa_nil))) (pa_nil)))) (pa_cons (pe_op u_mul (pe_int) (pe_callB u_len (by rfl) f_len PySem.boot_len (pa_cons (pv 2) (pa_nil)))) (pa_nil)))))) (pss_nil))
      (pss_one (ps_ret (pe_tup (pa_cons (pe_tup (pa_cons (pe_str) (pa_cons (pe_callTy u_tuple (by rfl) f_tuple (by decide +kernel) (pa_cons (pe_lc (own := [("_law_k", 3)]) (g := gName 3) (tt := tYes) rfl sc.nd (pi_range1 rfl f_range (pa_cons (pe_int) (pa_nil))) (blkOk_by (own := [("_law_k", 3)]) (N := ["_law_bits_here", "_law_lows_here", "_law_runs_here", "_law_k"]) (sc := defScope s__law_form) (by decide +kernel)) (fun _ _ _ _ _ => pg_name (i := 3) sc.nd rfl (by first | exact Or.inl rfl | exact Or.inr rfl)) (fun _ _ _ _ _ => pts_nil) (fun _ _ _ _ _ => pe_op u_ban (pe_op u_shr (pv 0) (pe_op u_mul (pe_int) (pv 3))) (pe_int))) (pa_nil))) (pa_nil)))) (pa_cons (pe_int) (pa_nil)))))))))
theorem sc__law_pattern : FnScope ["_law_cell", "_law_way", "_law_rest", "_law_found", "_law_size", "_law_far", "_law_k", "_law_first"] ["_law_cell"] (defScope s__law_pattern) := ⟨rfl, rfl, rfl, by decide +kernel, rfl, by decide +kernel, by decide +kernel⟩
theorem ok__law_pattern {f : Addr} {fd : FuncData} {dvs : List V} (G : GoodS c) (F : FunD c.K "_law_pattern" "_law_pattern" (defArgs s__law_pattern) (defBody s__law_pattern) (defScope s__law_pattern) dvs [] f fd) (f_range : mg "range" = none) : FnOk P w c.K mg base (L2N.CX P w) 1 f fd ["_law_cell"] (sp__law_pattern c) := by
  refine F.ok sc__law_pattern (len__law_pattern c) fun cdv A outer s H vs Q E hr h => ⟨t__law_pattern c E, ?_, pure__law_pattern G.toGood vs H Q E h⟩
  have sc := sc__law_pattern
  exact pss_cons (ps_set (i := 1) sc.nd rfl (by first | exact Or.inl rfl | exact Or.inr rfl) (pe_op u_mod (pv 0) (pe_int)))
      (pss_cons (ps_set (i := 2) sc.nd rfl (by first | exact Or.inl rfl | exact Or.inr rfl) (pe_op u_fdv (pv 0) (pe_int)))
      (pss_cons (ps_set (i := 3) sc.nd rfl (by first | exact Or.inl rfl | exact Or.inr rfl) (pe_int))
      (pss_cons (ps_if (pt_cmpR (u_eq hr) (pv 1) (pe_int) (nomark _)) (pss_cons (ps_set (i := 4) sc.nd rfl (by first | exact Or.inl rfl | exact Or.inr rfl) (pe_op u_add (pe_int) (pe_op u_mod (pv 2) (pe_int))))
      (pss_cons (ps_set (i := 5) sc.nd rfl (by first | exact Or.inl rfl | exact Or.inr rfl) (pe_op u_add (pe_op u_add (pv 4) (pe_int)) (pe_op u_mod (pe_op u_fdv (pv 2) (pe_int)) (pe_int))))
      (pss_cons (ps_for ownUp rfl (pi_range1 rfl f_range (pa_cons (pe_op u_add (pe_int) (pe_op u_mod (pe_op u_fdv (pv 2) (pe_int)) (pe_int))) (pa_nil))) (pg_name (i := 6) sc.nd rfl (by first | exact Or.inl rfl | exact Or.inr rfl)) (pss_one (ps_if (pt_cmpR u_le (pe_op u_add (pe_op u_mul (pv 5) (pv 6)) (pv 4)) (pe_int) (nomark _)) (pss_one (ps_aug (i := 3) sc.nd rfl (by first | exact Or.inl rfl | exact Or.inr rfl) (pe_op u_shl (pe_op u_sub (pe_op u_shl (pe_int) (pv 4)) (pe_int)) (pe_op u_mul (pv 5) (pv 6))) p_bor)) (pss_nil))))
      (pss_one (ps_ret (pv 3)))))) (pss_nil))
      (pss_cons (ps_if (pt_cmpR (u_eq hr) (pv 1) (pe_int) (nomark _)) (pss_cons (ps_set (i := 5) sc.nd rfl (by first | exact Or.inl rfl | exact Or.inr rfl) (pe_op u_add (pe_int) (pe_op u_mod (pv 2) (pe_int))))
      (pss_cons (ps_for ownUp rfl (pi_range1 rfl f_range (pa_cons (pe_op u_add (pe_op u_fdv (pe_op u_mod (pe_op u_fdv (pv 2) (pe_int)) (pe_int)) (pv 5)) (pe_int)) (pa_nil))) (pg_name (i := 6) sc.nd rfl (by first | exact Or.inl rfl | exact Or.inr rfl)) (pss_one (ps_aug (i := 3) sc.nd rfl (by first | exact Or.inl rfl | exact Or.inr rfl) (pe_op u_shl (pe_int) (pe_op u_mul (pv 5) (pv 6))) p_bor)))
      (pss_one (ps_ret (pv 3))))) (pss_nil))
      (pss_cons (ps_if (pt_cmpR (u_eq hr) (pv 1) (pe_int) (nomark _)) (pss_one (ps_ret (pe_op u_mod (pe_op u_mul (pe_op u_mul (pe_op u_mul (pv 2) (pe_op u_add (pv 2) (pe_int))) (pe_op u_add (pv 2) (pe_int))) (pe_op u_add (pv 2) (pe_int))) (pe_op u_shl (pe_int) (pe_int))))) (pss_nil))
      (pss_cons (ps_if (pt_cmpR (u_eq hr) (pv 1) (pe_int) (nomark _)) (pss_cons (ps_set (i := 7) sc.nd rfl (by first | exact Or.inl rfl | exact Or.inr rfl) (pe_op u_mod (pv 2) (pe_int)))
      (pss_one (ps_ret (pe_op u_sub (pe_op u_shl (pe_int) (pe_op u_add (pe_op u_add (pe_int) (pv 7)) (pe_op u_mod (pe_op u_fdv (pv 2) (pe_int)) (pe_op u_sub (pe_int) (pv 7))))) (pe_op u_shl (pe_int) (pv 7)))))) (pss_nil))
      (pss_cons (ps_for ownUp rfl (pi_range1 rfl f_range (pa_cons (pe_op u_add (pe_int) (pe_op u_mod (pv 2) (pe_int))) (pa_nil))) (pg_name (i := 6) sc.nd rfl (by first | exact Or.inl rfl | exact Or.inr rfl)) (pss_one (ps_aug (i := 3) sc.nd rfl (by first | exact Or.inl rfl | exact Or.inr rfl) (pe_op u_shl (pe_int) (pe_op u_mod (pe_op u_mul (pe_op u_fdv (pv 2) (pe_op u_add (pe_int) (pv 6))) (pe_op u_add (pv 6) (pe_int))) (pe_int))) p_bor)))
      (pss_one (ps_ret (pe_ix ix_seq (pe_lst (pa_cons (pv 3) (pa_cons (pe_op u_sub (pe_op u_sub (pe_op u_shl (pe_int) (pe_int)) (pe_int)) (pv 3)) (pa_nil)))) (pe_op u_sub (pv 1) (pe_int)) (fun _ _ => rfl)))))))))))
theorem sc__law_begin : FnScope ["_law_cell"] ["_law_cell"] (defScope s__law_begin) := ⟨rfl, rfl, rfl, by decide +kernel, rfl, by decide +kernel, by decide +kernel⟩
theorem ok__law_begin {f : Addr} {fd : FuncData} {dvs : List V} (G : GoodS c) (F : FunD c.K "_law_begin" "_law_begin" (defArgs s__law_begin) (defBody s__law_begin) (defScope s__law_begin) dvs [] f fd) : FnOk P w c.K mg base (L2N.CX P w) 1 f fd ["_law_cell"] (sp__law_begin c) := by
  refine F.ok sc__law_begin (len__law_begin c) fun cdv A outer s H vs Q E hr h => ⟨t__law_begin c E, ?_, pure__law_begin G.toGood vs H Q E h⟩
  have sc := sc__law_begin
  exact pss_one (ps_ret (pe_op u_mul (pe_int) (pe_ix ix_seq (pe_lst (pa_cons (pe_int) (pa_cons (pe_int) (pa_cons (pe_op u_mod (pe_op u_fdv (pv 0) (pe_int)) (pe_int)) (pa_nil))))) (pe_op u_mod (pv 0) (pe_int)) (fun _ _ => rfl))))
theorem sc__law_stretch : FnScope ["_law_cell", "_law_first", "_law_size"] ["_law_cell"] (defScope s__law_stretch) := ⟨rfl, rfl, rfl, by decide +kernel, rfl, by decide +kernel, by decide +kernel⟩
theorem ok__law_stretch {f : Addr} {fd : FuncData} {dvs : List V} (G : GoodS c) (F : FunD c.K "_law_stretch" "_law_stretch" (defArgs s__law_stretch) (defBody s__law_stretch) (defScope s__law_stretch) dvs [] f fd) (f_min : mg "min" = none) : FnOk P w c.K mg base (L2N.CX P w) 1 f fd ["_law_cell"] (sp__law_stretch c) := by
  refine F.ok sc__law_stretch (len__law_stretch c) fun cdv A outer s H vs Q E hr h => ⟨t__law_stretch c E, ?_, pure__law_stretch G.toGood vs H Q E h⟩
  have sc := sc__law_stretch
  exact pss_cons (ps_set (i := 1) sc.nd rfl (by first | exact Or.inl rfl | exact Or.inr rfl) (pe_op u_mod (pe_op u_fdv (pv 0) (pe_int)) (pe_int)))
      (pss_cons (ps_set (i := 2) sc.nd rfl (by first | exact Or.inl rfl | exact Or.inr rfl) (pe_ix ix_seq (pe_lst (pa_cons (pe_int) (pa_cons (pe_op u_add (pe_int) (pe_op u_mod (pe_op u_fdv (pv 0) (pe_int)) (pe_int))) (pa_cons (pe_int) (pa_cons (pe_op u_add (pe_int) (pe_op u_mod (pe_op u_fdv (pv 0) (pe_int)) (pe_int))) (pa_nil)))))) (pe_op u_mod (pv 0) (pe_int)) (fun _ _ => rfl)))
      (pss_cons (ps_if (pt_cmpR (u_eq hr) (pe_op u_mod (pv 0) (pe_int)) (pe_int) (nomark _)) (pss_one (ps_set (i := 1) sc.nd rfl (by first | exact Or.inl rfl | exact Or.inr rfl) (pe_op u_add (pe_op u_mul (pe_op u_fdv (pv 1) (pe_int)) (pe_int)) (pe_ix ix_seq (pe_lst (pa_cons (pe_int) (pa_cons (pe_int) (pa_cons (pe_int) (pa_cons (pe_int) (pa_nil)))))) (pe_op u_mod (pe_op u_fdv (pv 0) (pe_int)) (pe_int)) (fun _ _ => rfl))))) (pss_nil))
      (pss_one (ps_ret (pe_tup (pa_cons (pv 1) (pa_cons (pe_callB u_min (by rfl) f_min (by decide +kernel) (pa_cons (pe_int) (pa_cons (pe_op u_sub (pe_op u_add (pv 1) (pv 2)) (pe_int)) (pa_nil)))) (pa_nil))))))))
theorem sc__law_bits : FnScope ["_law_first", "_law_last"] ["_law_first", "_law_last"] (defScope s__law_bits) := ⟨rfl, rfl, rfl, by decide +kernel, rfl, by decide +kernel, by decide +kernel⟩
theorem ok__law_bits {f : Addr} {fd : FuncData} {dvs : List V} (G : GoodS c) (F : FunD c.K "_law_bits" "_law_bits" (defArgs s__law_bits) (defBody s__law_bits) (defScope s__law_bits) dvs [] f fd) : FnOk P w c.K mg base (L2N.CX P w) 1 f fd ["_law_first", "_law_last"] (sp__law_bits c) := by
  refine F.ok sc__law_bits (len__law_bits c) fun cdv A outer s H vs Q E hr h => ⟨t__law_bits c E, ?_, pure__law_bits G.toGood vs H Q E h⟩
  have sc := sc__law_bits
  exact pss_one (ps_ret (pe_op u_sub (pe_op u_shl (pe_int) (pe_op u_add (pv 1) (pe_int))) (pe_op u_shl (pe_int) (pv 0))))
theorem sc__law_numbers : FnScope ["_law_mask", "_law_begin_here", "_law_found", "_law_k", "_law_bits_here", "_law_low"] ["_law_mask", "_law_begin_here"] (defScope s__law_numbers) := ⟨rfl, rfl, rfl, by decide +kernel, rfl, by decide +kernel, by decide +kernel⟩
theorem ok__law_numbers {f : Addr} {fd : FuncData} {dvs : List V} (G : GoodS c) (F : FunD c.K "_law_numbers" "_law_numbers" (defArgs s__law_numbers) (defBody s__law_numbers) (defScope s__law_numbers) dvs [] f fd) (f_range : mg "range" = none) (c__law_lows : Cal P w c.K mg base 1 "_law_lows" (sp__law_lows c) []) : FnOk P w c.K mg base (L2N.CX P w) 2 f fd ["_law_mask", "_law_begin_here"] (sp__law_numbers c) := by
  refine F.ok sc__law_numbers (len__law_numbers c) fun cdv A outer s H vs Q E hr h => ⟨t__law_numbers c E, ?_, pure__law_numbers G.toGood vs H Q E h⟩
  have sc := sc__law_numbers
  exact pss_cons (ps_set (i := 2) sc.nd rfl (by first | exact Or.inl rfl | exact Or.inr rfl) (pe_lst (pa_nil)))
      (pss_cons (ps_for ownUp rfl (pi_range1 rfl f_range (pa_cons (pe_int) (pa_nil))) (pg_name (i := 3) sc.nd rfl (by first | exact Or.inl rfl | exact Or.inr rfl)) (pss_cons (ps_set (i := 4) sc.nd rfl (by first | exact Or.inl rfl | exact Or.inr rfl) (pe_op u_ban (pe_op u_shr (pv 0) (pe_op u_mul (pe_int) (pv 3))) (pe_op u_sub (pe_op u_shl (pe_int) (pe_int)) (pe_int))))
      (pss_one (ps_if (pt_cmpR (u_ne hr) (pv 4) (pe_int) (nomark _)) (pss_one (ps_aug (i := 2) sc.nd rfl (by first | exact Or.inl rfl | exact Or.inr rfl) (pe_lc (own := [("_law_low", 5)]) (g := gName 5) (tt := tYes) rfl sc.nd (pi_seq (pe_c c__law_lows hr (by decide) rfl passUp (pa_cons (pv 4) (pa_nil)))) (blkOk_by (own := [("_law_low", 5)]) (N := ["_law_mask", "_law_begin_here", "_law_found", "_law_k", "_law_bits_here", "_law_low"]) (sc := defScope s__law_numbers) (by decide +kernel)) (fun _ _ _ _ _ => pg_name (i := 5) sc.nd rfl (by first | exact Or.inl rfl | exact Or.inr rfl)) (fun _ _ _ _ _ => pts_nil) (fun _ _ _ _ _ => pe_op u_add (pe_op u_add (pv 1) (pe_op u_mul (pe_int) (pv 3))) (pv 5))) p_add)) (pss_nil)))))
      (pss_one (ps_ret (pv 2))))
theorem sc__law_filled : FnScope ["_law_numbers_here", "_law_begin_here", "_law_cell", "_law_at", "_law_bits_here", "_law_low"] ["_law_numbers_here", "_law_begin_here", "_law_cell"] (defScope s__law_filled) := ⟨rfl, rfl, rfl, by decide +kernel, rfl, by decide +kernel, by decide +kernel⟩
theorem ok__law_filled {f : Addr} {fd : FuncData} {dvs : List V} (G : GoodS c) (F : FunD c.K "_law_filled" "_law_filled" (defArgs s__law_filled) (defBody s__law_filled) (defScope s__law_filled) dvs [] f fd) (c__law_pattern : Cal P w c.K mg base 1 "_law_pattern" (sp__law_pattern c) []) (c__law_lows : Cal P w c.K mg base 1 "_law_lows" (sp__law_lows c) []) (m_put : ∀ C sp, fam_put c C sp → Met P w c.K mg base 6 C "put" sp []) : FnOk P w c.K mg base (L2N.CX P w) 7 f fd ["_law_numbers_here", "_law_begin_here", "_law_cell"] (sp__law_filled c) := by
  refine F.ok sc__law_filled (len__law_filled c) fun cdv A outer s H vs Q E hr h => ⟨t__law_filled c E, ?_, pure__law_filled G vs H Q E h⟩
  have sc := sc__law_filled
  exact pss_cons (ps_set (i := 3) sc.nd rfl (by first | exact Or.inl rfl | exact Or.inr rfl) (pe_op u_mod (pv 2) (pe_int)))
      (pss_cons (ps_set (i := 4) sc.nd rfl (by first | exact Or.inl rfl | exact Or.inr rfl) (pe_c c__law_pattern hr (by decide) rfl passUp (pa_cons (pe_op u_fdv (pv 2) (pe_int)) (pa_nil))))
      (pss_cons (ps_for ownUp rfl (pi_seq (pe_c c__law_lows hr (by decide) rfl passUp (pa_cons (pv 4) (pa_nil)))) (pg_name (i := 5) sc.nd rfl (by first | exact Or.inl rfl | exact Or.inr rfl)) (pss_one (ps_expr (pe_m m_put hr (by decide) passUp (pv 0) (pa_cons (pe_op u_add (pe_op u_add (pv 1) (pe_op u_mul (pe_int) (pv 3))) (pv 5)) (pa_nil))))))
      (pss_one (ps_ret (pe_op u_shl (pv 4) (pe_op u_mul (pe_int) (pv 3)))))))
theorem sc__law_built : FnScope ["_law_script", "_law_begin_here", "_law_numbers_here", "_law_mask", "_law_k", "_law_first", "_law_last"] ["_law_script", "_law_begin_here"] (defScope s__law_built) := ⟨rfl, rfl, rfl, by decide +kernel, rfl, by decide +kernel, by decide +kernel⟩
theorem ok__law_built {f : Addr} {fd : FuncData} {dvs : List V} (G : GoodS c) (F : FunD c.K "_law_built" "_law_built" (defArgs s__law_built) (defBody s__law_built) (defScope s__law_built) dvs [] f fd) (k_NumberSet0 : Mak P w c.K mg base 7 "NumberSet" c.set (sp_NumberSet___init__ c) [.non]) (c__law_cell_at : Cal P w c.K mg base 1 "_law_cell_at" (sp__law_cell_at c) []) (f_range : mg "range" = none) (c__law_filled : Cal P w c.K mg base 7 "_law_filled" (sp__law_filled c) []) (c__law_stretch : Cal P w c.K mg base 1 "_law_stretch" (sp__law_stretch c) []) (m_turn : ∀ C sp, fam_turn c C sp → Met P w c.K mg base 7 C "turn" sp []) (c__law_bits : Cal P w c.K mg base 1 "_law_bits" (sp__law_bits c) []) : FnOk P w c.K mg base (L2N.CX P w) 9 f fd ["_law_script", "_law_begin_here"] (sp__law_built c) := by
  refine F.ok sc__law_built (len__law_built c) fun cdv A outer s H vs Q E hr h => ⟨t__law_built c E, ?_, pure__law_built G vs H Q E h⟩
  have sc := sc__law_built
  exact pss_cons (ps_set (i := 2) sc.nd rfl (by first | exact Or.inl rfl | exact Or.inr rfl) (pe_mk0 k_NumberSet0 hr (by decide) rfl passUp))
      (pss_cons (ps_set (i := 3) sc.nd rfl (by first | exact Or.inl rfl | exact Or.inr rfl) (pe_int))
      (pss_cons (ps_for ownUp rfl (pi_range1 rfl f_range (pa_cons (pe_op u_mod (pe_c c__law_cell_at hr (by decide) rfl passUp (pa_cons (pv 0) (pa_cons (pe_int) (pa_nil)))) (pe_int)) (pa_nil))) (pg_name (i := 4) sc.nd rfl (by first | exact Or.inl rfl | exact Or.inr rfl)) (pss_one (ps_aug (i := 3) sc.nd rfl (by first | exact Or.inl rfl | exact Or.inr rfl) (pe_c c__law_filled hr (by decide) rfl passUp (pa_cons (pv 2) (pa_cons (pv 1) (pa_cons (pe_c c__law_cell_at hr (by decide) rfl passUp (pa_cons (pv 0) (pa_cons (pe_op u_add (pe_int) (pv 4)) (pa_nil)))) (pa_nil))))) p_bor)))
      (pss_cons (ps_for ownUp rfl (pi_range1 rfl f_range (pa_cons (pe_op u_mod (pe_c c__law_cell_at hr (by decide) rfl passUp (pa_cons (pv 0) (pa_cons (pe_int) (pa_nil)))) (pe_int)) (pa_nil))) (pg_name (i := 4) sc.nd rfl (by first | exact Or.inl rfl | exact Or.inr rfl)) (pss_cons (ps_asg (pe_c c__law_stretch hr (by decide) rfl passUp (pa_cons (pe_c c__law_cell_at hr (by decide) rfl passUp (pa_cons (pv 0) (pa_cons (pe_op u_add (pe_int) (pv 4)) (pa_nil)))) (pa_nil))) (pg_tup rfl (pgs_cons (pg_name (i := 5) sc.nd rfl (by first | exact Or.inl rfl | exact Or.inr rfl)) (pgs_cons (pg_name (i := 6) sc.nd rfl (by first | exact Or.inl rfl | exact Or.inr rfl)) (pgs_nil)))))
      (pss_cons (ps_expr (pe_m m_turn hr (by decide) passUp (pv 2) (pa_cons (pe_op u_add (pv 1) (pv 5)) (pa_cons (pe_op u_add (pv 1) (pv 6)) (pa_nil)))))
      (pss_one (ps_aug (i := 3) sc.nd rfl (by first | exact Or.inl rfl | exact Or.inr rfl) (pe_c c__law_bits hr (by decide) rfl passUp (pa_cons (pv 5) (pa_cons (pv 6) (pa_nil)))) p_bxo)))))
      (pss_one (ps_ret (pe_tup (pa_cons (pv 2) (pa_cons (pv 3) (pa_nil)))))))))
theorem sc__law_stretches : FnScope ["_law_numbers_here", "_law_found", "_law_number"] ["_law_numbers_here"] (defScope s__law_stretches) := ⟨rfl, rfl, rfl, by decide +kernel, rfl, by decide +kernel, by decide +kernel⟩
theorem ok__law_stretches {f : Addr} {fd : FuncData} {dvs : List V} (G : GoodS c) (F : FunD c.K "_law_stretches" "_law_stretches" (defArgs s__law_stretches) (defBody s__law_stretches) (defScope s__law_stretches) dvs [] f fd) : FnOk P w c.K mg base (L2N.CX P w) 1 f fd ["_law_numbers_here"] (sp__law_stretches c) := by
  refine F.ok sc__law_stretches (len__law_stretches c) fun cdv A outer s H vs Q E hr h => ⟨t__law_stretches c E, ?_, pure__law_stretches G.toGood vs H Q E h⟩
  have sc := sc__law_stretches
  exact pss_cons (ps_set (i := 1) sc.nd rfl (by first | exact Or.inl rfl | exact Or.inr rfl) (pe_lst (pa_nil)))
      (pss_cons (ps_for ownUp rfl (pi_seq (pv 0)) (pg_name (i := 2) sc.nd rfl (by first | exact Or.inl rfl | exact Or.inr rfl)) (pss_one (ps_if (PW.pt (pw_and (pt_cmpR (u_ne hr) (pv 1) (pe_lst (pa_nil)) (nomark _)) (pw_and1 (pt_cmpR (u_eq hr) (pe_op u_add (pe_ix ix_seq (pe_ix ix_seq (pv 1) (pe_un u_neg (pe_int)) (fun _ _ => rfl)) (pe_int) (fun _ _ => rfl)) (pe_int)) (pv 2) (nomark _))))) (pss_one (ps_asg (pe_tup (pa_cons (pe_ix ix_seq (pe_ix ix_seq (pv 1) (pe_un u_neg (pe_int)) (fun _ _ => rfl)) (pe_int) (fun _ _ => rfl)) (pa_cons (pv 2) (pa_nil)))) (pg_sub (pv 1) (pe_un u_neg (pe_int)) set_list))) (pss_one (ps_expr (pe_bm PySem.F.plainAttrs_list PySem.F.slot_list_append PySem.F.type_list_append mt_append (pv 1) (pa_cons (pe_tup (pa_cons (pv 2) (pa_cons (pv 2) (pa_nil)))) (pa_nil))))))))
      (pss_one (ps_ret (pv 1))))
theorem sc__law_text : FnScope ["_law_numbers_here", "_law_parts", "_law_first", "_law_last"] ["_law_numbers_here"] (defScope s__law_text) := ⟨rfl, rfl, rfl, by decide +kernel, rfl, by decide +kernel, by decide +kernel⟩
theorem ok__law_text {f : Addr} {fd : FuncData} {dvs : List V} (G : GoodS c) (F : FunD c.K "_law_text" "_law_text" (defArgs s__law_text) (defBody s__law_text) (defScope s__law_text) dvs [] f fd) (c__law_stretches : Cal P w c.K mg base 1 "_law_stretches" (sp__law_stretches c) []) (f_str : mg "str" = none) (f_int : mg "int" = none) : FnOk P w c.K mg base (L2N.CX P w) 2 f fd ["_law_numbers_here"] (sp__law_text c) := by
  refine F.ok sc__law_text (len__law_text c) fun cdv A outer s H vs Q E hr h => ⟨t__law_text c E, ?_, pure__law_text G.toGood vs H Q E h⟩
  have sc := sc__law_text
  exact pss_cons (ps_set (i := 1) sc.nd rfl (by first | exact Or.inl rfl | exact Or.inr rfl) (pe_lst (pa_nil)))
      (pss_cons (ps_for ownUp rfl (pi_seq (pe_c c__law_stretches hr (by decide) rfl passUp (pa_cons (pv 0) (pa_nil)))) (pg_tup rfl (pgs_cons (pg_name (i := 2) sc.nd rfl (by first | exact Or.inl rfl | exact Or.inr rfl)) (pgs_cons (pg_name (i := 3) sc.nd rfl (by first | exact Or.inl rfl | exact Or.inr rfl)) (pgs_nil)))) (pss_one (ps_expr (pe_bm PySem.F.plainAttrs_list PySem.F.slot_list_append PySem.F.type_list_append mt_append (pv 1) (pa_cons (pe_op u_add (pe_callTy u_str (by rfl) f_str (by decide +kernel) (pa_cons (pv 2) (pa_nil))) (pe_op u_mulS (pe_op u_add (pe_str) (pe_callTy u_str (by rfl) f_str (by decide +kernel) (pa_cons (pv 3) (pa_nil)))) (pe_callTy u_int (by rfl) f_int (by decide +kernel) (pa_cons (pe_cmpR u_gt (pv 3) (pv 2) (nomark _)) (pa_nil))))) (pa_nil))))))
      (pss_one (ps_ret (pe_ix ix_seq (pe_lst (pa_cons (pe_m1 PySem.F.slot_str_join PySem.F.type_str_join m_joinS (pe_str) (pv 1)) (pa_cons (pe_str) (pa_nil)))) (pe_callTy u_int (by rfl) f_int (by decide +kernel) (pa_cons (pe_cmpR (u_eq hr) (pv 1) (pe_lst (pa_nil)) (nomark _)) (pa_nil))) (fun _ _ => rfl)))))
theorem sc__law_wide : FnScope ["_law_first", "_law_more", "_law_wide_here", "_law_text_here", "_law_refused"] ["_law_first", "_law_more"] (defScope s__law_wide) := ⟨rfl, rfl, rfl, by decide +kernel, rfl, by decide +kernel, by decide +kernel⟩
theorem ok__law_wide {f : Addr} {fd : FuncData} {dvs : List V} (G : GoodS c) (GN : GoodN c) (F : FunD c.K "_law_wide" "_law_wide" (defArgs s__law_wide) (defBody s__law_wide) (defScope s__law_wide) dvs [] f fd) (k_NumberSet0 : Mak P w c.K mg base 7 "NumberSet" c.set (sp_NumberSet___init__ c) [.non]) (m_put_all : ∀ C sp, fam_put_all c C sp → Met P w c.K mg base 7 C "put_all" sp []) (c_written : Cal P w c.K mg base 3 "written" (sp_written c) []) (g_NoStretch : mg "NoStretch" = some (.ref c.eNoStretch)) (c_read : Cal P w c.K mg base 9 "read" (sp_read c) []) (f_str : mg "str" = none) : FnOk P w c.K mg base (L2N.CX P w) 10 f fd ["_law_first", "_law_more"] (sp__law_wide c) := by
  refine F.ok sc__law_wide (len__law_wide c) fun cdv A outer s H vs Q E hr h => ⟨t__law_wide c E, ?_, pure__law_wide G GN vs H Q E h⟩
  have sc := sc__law_wide
  exact pss_cons (ps_set (i := 2) sc.nd rfl (by first | exact Or.inl rfl | exact Or.inr rfl) (pe_mk0 k_NumberSet0 hr (by decide) rfl passUp))
      (pss_cons (ps_expr (pe_m m_put_all hr (by decide) passUp (pv 2) (pa_cons (pv 0) (pa_cons (pe_op u_add (pv 0) (pe_int)) (pa_nil)))))
      (pss_cons (ps_expr (pe_m m_put_all hr (by decide) passUp (pv 2) (pa_cons (pe_op u_add (pv 0) (pe_int)) (pa_cons (pe_op u_add (pe_op u_add (pv 0) (pe_int)) (pv 1)) (pa_nil)))))
      (pss_cons (ps_set (i := 3) sc.nd rfl (by first | exact Or.inl rfl | exact Or.inr rfl) (pe_c c_written hr (by decide) rfl passUp (pa_cons (pv 2) (pa_nil))))
      (pss_cons (ps_set (i := 4) sc.nd rfl (by first | exact Or.inl rfl | exact Or.inr rfl) (pe_bl))
      (pss_cons (ps_tryN rfl rfl ⟨rfl, by decide, .inl g_NoStretch⟩ (L2N.takes_of rfl rfl rfl rfl) (tb := fun W => tDrop (tCallW (sp_read c) [] W (tCons (tVar 3) (tNil)))) (ts := fun a cls d => tAsg (tC (.bl true)) (gName 4)) (fun W pn xe tk po => pss_one (ps_expr (pe_cW c_read hr (by decide) rfl (wo_of tk) (pa_cons (pv 3) (pa_nil))))) (fun a oe cls d pn hz hf => pss_one (ps_set (i := 4) sc.nd rfl (by first | exact Or.inl rfl | exact Or.inr rfl) (pe_bl))))
      (pss_one (ps_ret (pe_and (pe_cmpR (u_eq hr) (pv 3) (pe_op u_add (pe_op u_add (pe_callTy u_str (by rfl) f_str (by decide +kernel) (pa_cons (pv 0) (pa_nil))) (pe_str)) (pe_callTy u_str (by rfl) f_str (by decide +kernel) (pa_cons (pe_op u_add (pe_op u_add (pv 0) (pe_int)) (pv 1)) (pa_nil)))) (nomark _)) (pe_one (pv 4))))))))))
theorem sc_law : FnScope ["_law_script", "_law_begin_here", "_law_numbers_here", "_law_mask", "_law_text_here", "_law_found", "_law_first", "_law_last", "_law_many", "_law_far", "_law_kept", "_law_one"] ["_law_script"] (defScope s_law) := ⟨rfl, rfl, rfl, by decide +kernel, rfl, by decide +kernel, by decide +kernel⟩
theorem ok_law {f : Addr} {fd : FuncData} {dvs : List V} (G : GoodS c) (GN : GoodN c) (F : FunD c.K "law" "law" (defArgs s_law) (defBody s_law) (defScope s_law) dvs [] f fd) (c__law_begin : Cal P w c.K mg base 1 "_law_begin" (sp__law_begin c) []) (c__law_cell_at : Cal P w c.K mg base 1 "_law_cell_at" (sp__law_cell_at c) []) (c__law_built : Cal P w c.K mg base 9 "_law_built" (sp__law_built c) []) (c__law_text : Cal P w c.K mg base 2 "_law_text" (sp__law_text c) []) (c__law_numbers : Cal P w c.K mg base 2 "_law_numbers" (sp__law_numbers c) []) (c_written : Cal P w c.K mg base 3 "written" (sp_written c) []) (f_str : mg "str" = none) (f_isinstance : mg "isinstance" = none) (c_read : Cal P w c.K mg base 9 "read" (sp_read c) []) (c_same : Cal P w c.K mg base 11 "same" (sp_same c) []) (c__law_wide : Cal P w c.K mg base 10 "_law_wide" (sp__law_wide c) []) (f_min : mg "min" = none) (f_int : mg "int" = none) (f_max : mg "max" = none) (m_put_all : ∀ C sp, fam_put_all c C sp → Met P w c.K mg base 7 C "put_all" sp []) (f_len : mg "len" = none) (m_drop_all : ∀ C sp, fam_drop_all c C sp → Met P w c.K mg base 7 C "drop_all" sp []) : FnOk P w c.K mg base (L2N.CX P w) 12 f fd ["_law_script"] (sp_law c) := by
  refine F.ok sc_law (len_law c) fun cdv A outer s H vs Q E hr h => ⟨t_law c E, ?_, pure_law G GN vs H Q E h⟩
  have sc := sc_law
  exact pss_cons (ps_set (i := 1) sc.nd rfl (by first | exact Or.inl rfl | exact Or.inr rfl) (pe_c c__law_begin hr (by decide) rfl passUp (pa_cons (pe_c c__law_cell_at hr (by decide) rfl passUp (pa_cons (pv 0) (pa_cons (pe_int) (pa_nil)))) (pa_nil))))
      (pss_cons (ps_asg (pe_c c__law_built hr (by decide) rfl passUp (pa_cons (pv 0) (pa_cons (pv 1) (pa_nil)))) (pg_tup rfl (pgs_cons (pg_name (i := 2) sc.nd rfl (by first | exact Or.inl rfl | exact Or.inr rfl)) (pgs_cons (pg_name (i := 3) sc.nd rfl (by first | exact Or.inl rfl | exact Or.inr rfl)) (pgs_nil)))))
      (pss_cons (ps_set (i := 4) sc.nd rfl (by first | exact Or.inl rfl | exact Or.inr rfl) (pe_c c__law_text hr (by decide) rfl passUp (pa_cons (pe_c c__law_numbers hr (by decide) rfl passUp (pa_cons (pv 3) (pa_cons (pv 1) (pa_nil)))) (pa_nil))))
      (pss_cons (ps_set (i := 5) sc.nd rfl (by first | exact Or.inl rfl | exact Or.inr rfl) (pe_c c_written hr (by decide) rfl passUp (pa_cons (pv 2) (pa_nil))))
      (pss_cons (ps_if (PW.pt (pw_or (pt_not (pt_val (pe_callB u_isi (by rfl) f_isinstance (by decide +kernel) (pa_cons (pv 5) (pa_cons (pe_bltn (v := .ty "str") (by rfl) f_str (by decide +kernel) rfl) (pa_nil)))))) (pw_or (pt_cmpR (u_ne hr) (pv 5) (pv 4) (nomark _)) (pw_or (pt_cmpR (u_ne hr) (pe_c c_written hr (by decide) rfl passUp (pa_cons (pe_c c_read hr (by decide) rfl passUp (pa_cons (pv 5) (pa_nil))) (pa_nil))) (pv 4) (nomark _)) (pw_or1 (pt_not (pt_val (pe_c c_same hr (by decide) rfl passUp (pa_cons (pe_c c_read hr (by decide) rfl passUp (pa_cons (pv 5) (pa_nil))) (pa_cons (pv 2) (pa_nil))))))))))) (pss_one (ps_ret (pe_bl))) (pss_nil))
      (pss_cons (ps_if (PW.pt (pw_and (pt_cmpR (u_eq hr) (pe_op u_mod (pe_c c__law_cell_at hr (by decide) rfl passUp (pa_cons (pv 0) (pa_cons (pe_int) (pa_nil)))) (pe_int)) (pe_int) (nomark _)) (pw_and1 (pt_not (pt_val (pe_c c__law_wide hr (by decide) rfl passUp (pa_cons (pe_callB u_min (by rfl) f_min (by decide +kernel) (pa_cons (pv 1) (pa_cons (pe_int) (pa_nil)))) (pa_cons (pe_op u_mod (pe_c c__law_cell_at hr (by decide) rfl passUp (pa_cons (pv 0) (pa_cons (pe_int) (pa_nil)))) (pe_int)) (pa_nil))))))))) (pss_one (ps_ret (pe_bl))) (pss_nil))
      (pss_cons (ps_if (pt_cmpR (u_eq hr) (pe_op u_mod (pe_c c__law_cell_at hr (by decide) rfl passUp (pa_cons (pv 0) (pa_cons (pe_int) (pa_nil)))) (pe_int)) (pe_int) (nomark _)) (pss_cons (ps_set (i := 6) sc.nd rfl (by first | exact Or.inl rfl | exact Or.inr rfl) (pe_op u_sub (pe_op u_add (pv 1) (pe_int)) (pe_op u_mul (pe_int) (pe_callTy u_int (by rfl) f_int (by decide +kernel) (pa_cons (pe_cmpR u_gt (pv 1) (pe_int) (nomark _)) (pa_nil))))))
      (pss_cons (ps_set (i := 7) sc.nd rfl (by first | exact Or.inl rfl | exact Or.inr rfl) (pe_op u_sub (pe_op u_add (pv 6) (pe_op u_mod (pe_c c__law_cell_at hr (by decide) rfl passUp (pa_cons (pv 0) (pa_cons (pe_int) (pa_nil)))) (pe_int))) (pe_op u_mul (pe_int) (pe_callTy u_int (by rfl) f_int (by decide +kernel) (pa_cons (pe_cmpR u_gt (pv 1) (pe_int) (nomark _)) (pa_nil))))))
      (pss_cons (ps_set (i := 7) sc.nd rfl (by first | exact Or.inl rfl | exact Or.inr rfl) (pe_callB u_min (by rfl) f_min (by decide +kernel) (pa_cons (pe_int) (pa_cons (pe_callB u_max (by rfl) f_max (by decide +kernel) (pa_cons (pv 6) (pa_cons (pv 7) (pa_nil)))) (pa_nil)))))
      (pss_cons (ps_set (i := 8) sc.nd rfl (by first | exact Or.inl rfl | exact Or.inr rfl) (pe_m m_put_all hr (by decide) passUp (pv 2) (pa_cons (pv 6) (pa_cons (pv 7) (pa_nil)))))
      (pss_cons (ps_if (pt_cmpR (u_ne hr) (pv 8) (pe_op u_sub (pe_op u_add (pe_op u_sub (pv 7) (pv 6)) (pe_int)) (pe_callB u_len (by rfl) f_len PySem.boot_len (pa_cons (pe_lc (own := [("_law_one", 11)]) (g := gName 11) (tt := tTest (tChain (rLe) (rLe) (tVar 6) (tVar 11) (tVar 7))) rfl sc.nd (pi_seq (pe_c c__law_numbers hr (by decide) rfl passUp (pa_cons (pv 3) (pa_cons (pv 1) (pa_nil))))) (blkOk_by (own := [("_law_one", 11)]) (N := ["_law_script", "_law_begin_here", "_law_numbers_here", "_law_mask", "_law_text_here", "_law_found", "_law_first", "_law_last", "_law_many", "_law_far", "_law_kept", "_law_one"]) (sc := defScope s_law) (by decide +kernel)) (fun _ _ _ _ _ => pg_name (i := 11) sc.nd rfl (by first | exact Or.inl rfl | exact Or.inr rfl)) (fun _ _ _ _ _ => pts_one (pt_chain u_le u_le (pv 6) (pv 11) (pv 7))) (fun _ _ _ _ _ => pv 11)) (pa_nil)))) (nomark _)) (pss_one (ps_ret (pe_bl))) (pss_nil))
      (pss_cons (ps_set (i := 9) sc.nd rfl (by first | exact Or.inl rfl | exact Or.inr rfl) (pe_c c_written hr (by decide) rfl passUp (pa_cons (pv 2) (pa_nil))))
      (pss_cons (ps_expr (pe_m m_drop_all hr (by decide) passUp (pv 2) (pa_cons (pv 6) (pa_cons (pv 7) (pa_nil)))))
      (pss_cons (ps_setLc (i := 10) (own := [("_law_one", 11)]) (g := gName 11) (tt := tNot (tTest (tChain (rLe) (rLe) (tVar 6) (tVar 11) (tVar 7)))) rfl sc.nd rfl rfl (sw_true rfl rfl rfl (by decide +kernel)) (pi_seq (pe_c c__law_numbers hr (by decide) rfl passUp (pa_cons (pv 3) (pa_cons (pv 1) (pa_nil))))) (blkOk_by (own := [("_law_one", 11)]) (N := ["_law_script", "_law_begin_here", "_law_numbers_here", "_law_mask", "_law_text_here", "_law_found", "_law_first", "_law_last", "_law_many", "_law_far", "_law_kept", "_law_one"]) (sc := defScope s_law) (by decide +kernel)) (fun _ _ _ _ _ => pg_name (i := 11) sc.nd rfl (by first | exact Or.inl rfl | exact Or.inr rfl)) (fun _ _ _ _ _ => pts_one (pt_not (pt_chain u_le u_le (pv 6) (pv 11) (pv 7)))) (fun _ _ _ _ _ => pv 11))
      (pss_one (ps_ret (pe_and (pe_cmpR u_inT (pe_callTy u_str (by rfl) f_str (by decide +kernel) (pa_cons (pv 6) (pa_nil))) (pv 9) (by rfl)) (pe_and (pe_cmpR (u_eq hr) (pe_c c_written hr (by decide) rfl passUp (pa_cons (pv 2) (pa_nil))) (pe_c c__law_text hr (by decide) rfl passUp (pa_cons (pv 10) (pa_nil))) (nomark _)) (pe_one (pe_c c_same hr (by decide) rfl passUp (pa_cons (pe_c c_read hr (by decide) rfl passUp (pa_cons (pv 9) (pa_nil))) (pa_cons (pe_c c_read hr (by decide) rfl passUp (pa_cons (pv 9) (pa_nil))) (pa_nil))))))))))))))))) (pss_nil))
      (pss_one (ps_ret (pe_cmpR (u_eq hr) (pe_c c_written hr (by decide) rfl passUp (pa_cons (pv 2) (pa_nil))) (pv 4) (nomark _))))))))))
end
abbrev p0 : Pos := ⟨0, 0, 0, 0⟩
abbrev lam_putA : LamD := lamOf "NumberSet.put_all.<locals>.<lambda>" s_NumberSet_put_all
abbrev lam_dropA : LamD := lamOf "NumberSet.drop_all.<locals>.<lambda>" s_NumberSet_drop_all
abbrev lam_turnA : LamD := lamOf "NumberSet.turn.<locals>.<lambda>" s_NumberSet_turn
abbrev lam_apartW : LamD := lamOf "apart.<locals>.<lambda>" s_apart
def wayL : Wy → LamD
  | .putA => lam_putA
  | .dropA => lam_dropA
  | .turnA => lam_turnA
  | .joinW => ⟨lam_putA.q, lam_putA.params, .BinOp (.Name "bits" p0) .BitOr (.Name "some" p0) p0, lam_putA.scope⟩
  | .metW => ⟨lam_putA.q, lam_putA.params, .BinOp (.Name "bits" p0) .BitAnd (.Name "some" p0) p0, lam_putA.scope⟩
  | .lessW => ⟨lam_putA.q, lam_putA.params, .BinOp (.Name "bits" p0) .BitAnd (.UnaryOp .Invert (.Name "some" p0) p0) p0, lam_putA.scope⟩
  | .apartW => lam_apartW
theorem lamOk_putA : LamOk lam_putA wNs := lamOk_by (fun _ => by rfl) (by decide +kernel) (fun _ => by rfl) (by decide +kernel) (fun _ _ _ us hl => match us, hl with | [_, _], _ => rfl)
theorem lamOk_dropA : LamOk lam_dropA wNs := lamOk_by (fun _ => by rfl) (by decide +kernel) (fun _ => by rfl) (by decide +kernel) (fun _ _ _ us hl => match us, hl with | [_, _], _ => rfl)
theorem lamOk_turnA : LamOk lam_turnA wNs := lamOk_by (fun _ => by rfl) (by decide +kernel) (fun _ => by rfl) (by decide +kernel) (fun _ _ _ us hl => match us, hl with | [_, _], _ => rfl)
theorem lamOk_apartW : LamOk lam_apartW wNs := lamOk_by (fun _ => by rfl) (by decide +kernel) (fun _ => by rfl) (by decide +kernel) (fun _ _ _ us hl => match us, hl with | [_, _], _ => rfl)
theorem hWay : ∀ k, WayOk (wayL k) k := fun k => by
  cases k
  · exact ⟨lamOk_putA, fun X hN hs => body_or hN (by rw [hs]; decide +kernel) (by rw [hs]; decide +kernel)⟩
  · exact ⟨lamOk_dropA, fun X hN hs => body_andn hN (by rw [hs]; decide +kernel) (by rw [hs]; decide +kernel)⟩
  · exact ⟨lamOk_turnA, fun X hN hs => body_xor hN (by rw [hs]; decide +kernel) (by rw [hs]; decide +kernel)⟩
  · exact ⟨⟨lamOk_putA.cl, lamOk_putA.fr, lamOk_putA.df, lamOk_putA.sc, fun _ _ _ us hl => match us, hl with | [_, _], _ => rfl⟩, fun X hN hs => body_or hN (by rw [hs]; decide +kernel) (by rw [hs]; decide +kernel)⟩
  · exact ⟨⟨lamOk_putA.cl, lamOk_putA.fr, lamOk_putA.df, lamOk_putA.sc, fun _ _ _ us hl => match us, hl with | [_, _], _ => rfl⟩, fun X hN hs => body_and hN (by rw [hs]; decide +kernel) (by rw [hs]; decide +kernel)⟩
  · exact ⟨⟨lamOk_putA.cl, lamOk_putA.fr, lamOk_putA.df, lamOk_putA.sc, fun _ _ _ us hl => match us, hl with | [_, _], _ => rfl⟩, fun X hN hs => body_andn hN (by rw [hs]; decide +kernel) (by rw [hs]; decide +kernel)⟩
  · exact ⟨lamOk_apartW, fun X hN hs => body_xor hN (by rw [hs]; decide +kernel) (by rw [hs]; decide +kernel)⟩
def cs (K : PySem.W.Frag) : Cs := ⟨K, He.ga K "RowSack", He.ga K "RunsSack", He.ga K "BitsSack", He.ga K "NumberSet", He.ga K "Sack", He.ga K "SackError", He.ga K "NoNumber", He.ga K "NoStretch", He.ga K "NoRank", He.ga K "NoText", wayL, tT K⟩
theorem exB_n {K : PySem.W.Frag} (e : exNb K = true) : GoodN (cs K) := ⟨of_decide_eq_true e⟩
theorem facts {P : Program} {w : World} {K : PySem.W.Frag} {h : Heap} {mg : Str → Option Value} {f : Addr} (X : K.In h) (G0 : h.Ns mainGlobals mg) (hfa : mg ("law" : Str) = some (.ref f)) (S : He.SaysD faL fnL K) (ex : exB2 K = true) (hnd : ((tT K).map (·.1)).Nodup) :
    ∃ fd : FuncData, (∀ (s : Shared) (v : Value), BindsTo s fd ⟨[v], []⟩ [("_law_script", v)]) ∧ ∀ base : Heap, K.In base → base.Ns mainGlobals mg → (∀ p ∈ tf.map (He.cT K), LamX.TabB base mg p.1 p.2) → FnOk P w K mg base (L2N.CX P w) 12 f fd ["_law_script"] (sp_law (cs K)) := by
  have G1 : Good (cs K) := ⟨fun k => by (cases k; exact He.cls_ok (S.fact 0 (f := .cls "RowSack") rfl); exact He.cls_ok (S.fact 2 (f := .cls "RunsSack") rfl); exact He.cls_ok (S.fact 4 (f := .cls "BitsSack") rfl)), fun k => by (cases k; exact He.noat_ok (S.fact 1 (f := .noat "RowSack" "bits") rfl); exact He.noat_ok (S.fact 3 (f := .noat "RunsSack" "bits") rfl); exact He.noat_ok (S.fact 5 (f := .noat "BitsSack" "bits") rfl))⟩
  have G : GoodS (cs K) := ⟨G1, He.cls_ok (S.fact 6 (f := .cls "NumberSet") rfl), He.noat_ok (S.fact 7 (f := .noat "NumberSet" "by_upper") rfl)⟩
  obtain ⟨ex, exN⟩ := He.ba ex
  have GN : GoodN (cs K) := exB_n exN
  obtain ⟨d0, F0⟩ := S.def_ 0 (d := fnL[0]) rfl
  obtain ⟨d1, F1⟩ := S.def_ 1 (d := fnL[1]) rfl
  obtain ⟨d2, F2⟩ := S.def_ 2 (d := fnL[2]) rfl
  obtain ⟨d3, F3⟩ := S.def_ 3 (d := fnL[3]) rfl
  obtain ⟨d4, F4⟩ := S.def_ 4 (d := fnL[4]) rfl
  obtain ⟨d5, F5⟩ := S.def_ 5 (d := fnL[5]) rfl
  obtain ⟨d6, F6⟩ := S.def_ 6 (d := fnL[6]) rfl
  obtain ⟨d7, F7⟩ := S.def_ 7 (d := fnL[7]) rfl
  obtain ⟨d8, F8⟩ := S.def_ 8 (d := fnL[8]) rfl
  obtain ⟨d9, F9⟩ := S.def_ 9 (d := fnL[9]) rfl
  obtain ⟨d10, F10⟩ := S.def_ 10 (d := fnL[10]) rfl
  obtain ⟨d11, F11⟩ := S.def_ 11 (d := fnL[11]) rfl
  obtain ⟨d12, F12⟩ := S.def_ 12 (d := fnL[12]) rfl
  obtain ⟨d13, F13⟩ := S.def_ 13 (d := fnL[13]) rfl
  obtain ⟨d14, F14⟩ := S.def_ 14 (d := fnL[14]) rfl
  obtain ⟨d15, F15⟩ := S.def_ 15 (d := fnL[15]) rfl
  obtain ⟨d16, F16⟩ := S.def_ 16 (d := fnL[16]) rfl
  obtain ⟨d17, F17⟩ := S.def_ 17 (d := fnL[17]) rfl
  obtain ⟨d18, F18⟩ := S.def_ 18 (d := fnL[18]) rfl
  obtain ⟨d19, F19⟩ := S.def_ 19 (d := fnL[19]) rfl
  obtain ⟨d20, F20⟩ := S.def_ 20 (d := fnL[20]) rfl
  obtain ⟨d21, F21⟩ := S.def_ 21 (d := fnL[21]) rfl
  obtain ⟨d22, F22⟩ := S.def_ 22 (d := fnL[22]) rfl
  obtain ⟨d23, F23⟩ := S.def_ 23 (d := fnL[23]) rfl
  obtain ⟨d24, F24⟩ := S.def_ 24 (d := fnL[24]) rfl
  obtain ⟨d25, F25⟩ := S.def_ 25 (d := fnL[25]) rfl
  obtain ⟨d26, F26⟩ := S.def_ 26 (d := fnL[26]) rfl
  obtain ⟨d27, F27⟩ := S.def_ 27 (d := fnL[27]) rfl
  obtain ⟨d28, F28⟩ := S.def_ 28 (d := fnL[28]) rfl
  obtain ⟨d29, F29⟩ := S.def_ 29 (d := fnL[29]) rfl
  obtain ⟨d30, F30⟩ := S.def_ 30 (d := fnL[30]) rfl
  obtain ⟨d31, F31⟩ := S.def_ 31 (d := fnL[31]) rfl
  obtain ⟨d32, F32⟩ := S.def_ 32 (d := fnL[32]) rfl
  obtain ⟨d33, F33⟩ := S.def_ 33 (d := fnL[33]) rfl
  obtain ⟨d34, F34⟩ := S.def_ 34 (d := fnL[34]) rfl
  obtain ⟨d35, F35⟩ := S.def_ 35 (d := fnL[35]) rfl
  obtain ⟨d36, F36⟩ := S.def_ 36 (d := fnL[36]) rfl
  obtain ⟨d37, F37⟩ := S.def_ 37 (d := fnL[37]) rfl
  obtain ⟨d38, F38⟩ := S.def_ 38 (d := fnL[38]) rfl
  obtain ⟨d39, F39⟩ := S.def_ 39 (d := fnL[39]) rfl
  obtain ⟨d40, F40⟩ := S.def_ 40 (d := fnL[40]) rfl
  obtain ⟨d41, F41⟩ := S.def_ 41 (d := fnL[41]) rfl
  obtain ⟨d42, F42⟩ := S.def_ 42 (d := fnL[42]) rfl
  obtain ⟨d43, F43⟩ := S.def_ 43 (d := fnL[43]) rfl
  obtain ⟨d44, F44⟩ := S.def_ 44 (d := fnL[44]) rfl
  obtain ⟨d45, F45⟩ := S.def_ 45 (d := fnL[45]) rfl
  obtain ⟨d46, F46⟩ := S.def_ 46 (d := fnL[46]) rfl
  obtain ⟨d47, F47⟩ := S.def_ 47 (d := fnL[47]) rfl
  obtain ⟨d48, F48⟩ := S.def_ 48 (d := fnL[48]) rfl
  obtain ⟨d49, F49⟩ := S.def_ 49 (d := fnL[49]) rfl
  obtain ⟨d50, F50⟩ := S.def_ 50 (d := fnL[50]) rfl
  obtain ⟨d51, F51⟩ := S.def_ 51 (d := fnL[51]) rfl
  obtain ⟨d52, F52⟩ := S.def_ 52 (d := fnL[52]) rfl
  obtain ⟨d53, F53⟩ := S.def_ 53 (d := fnL[53]) rfl
  obtain ⟨d54, F54⟩ := S.def_ 54 (d := fnL[54]) rfl
  obtain ⟨d55, F55⟩ := S.def_ 55 (d := fnL[55]) rfl
  obtain ⟨d56, F56⟩ := S.def_ 56 (d := fnL[56]) rfl
  obtain ⟨d57, F57⟩ := S.def_ 57 (d := fnL[57]) rfl
  obtain ⟨d58, F58⟩ := S.def_ 58 (d := fnL[58]) rfl
  obtain ⟨d59, F59⟩ := S.def_ 59 (d := fnL[59]) rfl
  obtain ⟨d60, F60⟩ := S.def_ 60 (d := fnL[60]) rfl
  obtain ⟨d61, F61⟩ := S.def_ 61 (d := fnL[61]) rfl
  obtain ⟨d62, F62⟩ := S.def_ 62 (d := fnL[62]) rfl
  obtain ⟨d63, F63⟩ := S.def_ 63 (d := fnL[63]) rfl
  obtain ⟨d64, F64⟩ := S.def_ 64 (d := fnL[64]) rfl
  obtain ⟨d65, F65⟩ := S.def_ 65 (d := fnL[65]) rfl
  have e := hfa.symm.trans (He.glo_ok X G0 (S.fact 72 (f := .glo "law") rfl))
  cases e
  refine ⟨d65, fun s v => FunD.bindsA (ps := ["_law_script"]) F65 (fun _ _ _ _ _ _ us hl => match us, hl with | [_], _ => rfl) s [v] rfl, fun base Xb Gb hB => ?_⟩
  have f_tuple := He.free_ok X G0 (S.fact 10 (f := .free "tuple") rfl)
  have f_len := He.free_ok X G0 (S.fact 12 (f := .free "len") rfl)
  have g_WORDS := He.int_ok X G0 (S.fact 13 (f := .int "WORDS" 4) rfl)
  have f_range := He.free_ok X G0 (S.fact 14 (f := .free "range") rfl)
  have g_WORD := He.int_ok X G0 (S.fact 15 (f := .int "WORD" 64) rfl)
  have g_FULL_WORD := He.int_ok X G0 (S.fact 16 (f := .int "FULL_WORD" 18446744073709551615) rfl)
  have g_BITS_WEIGHT := He.int_ok X G0 (S.fact 17 (f := .int "BITS_WEIGHT" 32) rfl)
  have f_sum := He.free_ok X G0 (S.fact 18 (f := .free "sum") rfl)
  have f_int := He.free_ok X G0 (S.fact 25 (f := .free "int") rfl)
  have f_isinstance := He.free_ok X G0 (S.fact 26 (f := .free "isinstance") rfl)
  have f_bool := He.free_ok X G0 (S.fact 27 (f := .free "bool") rfl)
  have g_GREATEST := He.int_ok X G0 (S.fact 28 (f := .int "GREATEST" 16777215) rfl)
  have x_NoNumber := exc_of X G0 (S.fact 31 (f := .exc "NoNumber") rfl) (S.fact 30 (f := .glo "NoNumber") rfl)
  have g_LONGEST := He.int_ok X G0 (S.fact 32 (f := .int "LONGEST" 99999) rfl)
  have x_NoStretch := exc_of X G0 (S.fact 34 (f := .exc "NoStretch") rfl) (S.fact 33 (f := .glo "NoStretch") rfl)
  have g_SIZE := He.int_ok X G0 (S.fact 35 (f := .int "SIZE" 256) rfl)
  have f_max := He.free_ok X G0 (S.fact 36 (f := .free "max") rfl)
  have f_min := He.free_ok X G0 (S.fact 37 (f := .free "min") rfl)
  have f_sorted := He.free_ok X G0 (S.fact 40 (f := .free "sorted") rfl)
  have f_divmod := He.free_ok X G0 (S.fact 41 (f := .free "divmod") rfl)
  have f_str := He.free_ok X G0 (S.fact 48 (f := .free "str") rfl)
  have g_MOST_FIGURES := He.int_ok X G0 (S.fact 49 (f := .int "MOST_FIGURES" 8) rfl)
  have g_FIGURES := He.str_ok X G0 (S.fact 50 (f := .str "FIGURES" "0123456789") rfl)
  have x_NoText := exc_of X G0 (S.fact 52 (f := .exc "NoText") rfl) (S.fact 51 (f := .glo "NoText") rfl)
  have g_NoStretch := He.glo_ok X G0 (S.fact 33 (f := .glo "NoStretch") rfl)
  have hW : ∀ k, WayOk ((cs K).way k) k := hWay
  have w_putA : (cs K).way .putA = lamOf "NumberSet.put_all.<locals>.<lambda>" s_NumberSet_put_all := rfl
  have cd_putA : CodF mg base (cs K).T d35 ((cs K).way .putA) := codF_of (p := ("NumberSet", some "put_all")) F35 (hB _ (List.mem_map.mpr ⟨_, List.mem_map.mpr ⟨(("NumberSet", some "put_all"), "NumberSet.put_all.<locals>.<lambda>"), by decide +kernel, rfl⟩, rfl⟩)) (List.mem_map.mpr ⟨(("NumberSet", some "put_all"), "NumberSet.put_all.<locals>.<lambda>"), by decide +kernel, rfl⟩) hnd
  have w_dropA : (cs K).way .dropA = lamOf "NumberSet.drop_all.<locals>.<lambda>" s_NumberSet_drop_all := rfl
  have cd_dropA : CodF mg base (cs K).T d36 ((cs K).way .dropA) := codF_of (p := ("NumberSet", some "drop_all")) F36 (hB _ (List.mem_map.mpr ⟨_, List.mem_map.mpr ⟨(("NumberSet", some "drop_all"), "NumberSet.drop_all.<locals>.<lambda>"), by decide +kernel, rfl⟩, rfl⟩)) (List.mem_map.mpr ⟨(("NumberSet", some "drop_all"), "NumberSet.drop_all.<locals>.<lambda>"), by decide +kernel, rfl⟩) hnd
  have w_turnA : (cs K).way .turnA = lamOf "NumberSet.turn.<locals>.<lambda>" s_NumberSet_turn := rfl
  have cd_turnA : CodF mg base (cs K).T d37 ((cs K).way .turnA) := codF_of (p := ("NumberSet", some "turn")) F37 (hB _ (List.mem_map.mpr ⟨_, List.mem_map.mpr ⟨(("NumberSet", some "turn"), "NumberSet.turn.<locals>.<lambda>"), by decide +kernel, rfl⟩, rfl⟩)) (List.mem_map.mpr ⟨(("NumberSet", some "turn"), "NumberSet.turn.<locals>.<lambda>"), by decide +kernel, rfl⟩) hnd
  have w_apartW : (cs K).way .apartW = lamOf "apart.<locals>.<lambda>" s_apart := rfl
  have cd_apartW : CodF mg base (cs K).T d43 ((cs K).way .apartW) := codF_of (p := ("apart", none)) F43 (hB _ (List.mem_map.mpr ⟨_, List.mem_map.mpr ⟨(("apart", none), "apart.<locals>.<lambda>"), by decide +kernel, rfl⟩, rfl⟩)) (List.mem_map.mpr ⟨(("apart", none), "apart.<locals>.<lambda>"), by decide +kernel, rfl⟩) hnd
  have c_lows_of : Cal P w (cs K).K mg base 1 "lows_of" (sp_lows_of (cs K)) [] := ⟨_, d21, _, [], ok_lows_of (P := P) (w := w) (mg := mg) (base := base) (c := cs K) G F21 , He.glo_ok X G0 (S.fact 9 (f := .glo "lows_of") rfl), F21.kp, F21.bindsN (ps := ["bits"]) fun _ _ _ _ _ _ us hl => match us, hl with | [_], _ => rfl, .nil⟩
  have c_runs_of : Cal P w (cs K).K mg base 1 "runs_of" (sp_runs_of (cs K)) [] := ⟨_, d22, _, [], ok_runs_of (P := P) (w := w) (mg := mg) (base := base) (c := cs K) G F22 , He.glo_ok X G0 (S.fact 11 (f := .glo "runs_of") rfl), F22.kp, F22.bindsN (ps := ["bits"]) fun _ _ _ _ _ _ us hl => match us, hl with | [_], _ => rfl, .nil⟩
  have c_is_number : Cal P w (cs K).K mg base 1 "is_number" (sp_is_number (cs K)) [] := ⟨_, d25, _, [], ok_is_number (P := P) (w := w) (mg := mg) (base := base) (c := cs K) G F25 f_int f_isinstance f_bool g_GREATEST, He.glo_ok X G0 (S.fact 29 (f := .glo "is_number") rfl), F25.kp, F25.bindsN (ps := ["thing"]) fun _ _ _ _ _ _ us hl => match us, hl with | [_], _ => rfl, .nil⟩
  have c_need_stretch : Cal P w (cs K).K mg base 1 "need_stretch" (sp_need_stretch (cs K)) [] := ⟨_, d27, _, [], ok_need_stretch (P := P) (w := w) (mg := mg) (base := base) (c := cs K) G F27 g_LONGEST x_NoStretch, He.glo_ok X G0 (S.fact 42 (f := .glo "need_stretch") rfl), F27.kp, F27.bindsN (ps := ["first", "last"]) fun _ _ _ _ _ _ us hl => match us, hl with | [_, _], _ => rfl, .nil⟩
  have c_stretch_bits : Cal P w (cs K).K mg base 1 "stretch_bits" (sp_stretch_bits (cs K)) [] := ⟨_, d28, _, [], ok_stretch_bits (P := P) (w := w) (mg := mg) (base := base) (c := cs K) G F28 g_SIZE f_max f_min, He.glo_ok X G0 (S.fact 43 (f := .glo "stretch_bits") rfl), F28.kp, F28.bindsN (ps := ["upper", "first", "last"]) fun _ _ _ _ _ _ us hl => match us, hl with | [_, _, _], _ => rfl, .nil⟩
  have c_read_number : Cal P w (cs K).K mg base 1 "read_number" (sp_read_number (cs K)) [] := ⟨_, d46, _, [], ok_read_number (P := P) (w := w) (mg := mg) (base := base) (c := cs K) G F46 f_len g_MOST_FIGURES g_FIGURES f_int g_GREATEST x_NoText, He.glo_ok X G0 (S.fact 53 (f := .glo "read_number") rfl), F46.kp, F46.bindsN (ps := ["text"]) fun _ _ _ _ _ _ us hl => match us, hl with | [_], _ => rfl, .nil⟩
  have c__law_cell_at : Cal P w (cs K).K mg base 1 "_law_cell_at" (sp__law_cell_at (cs K)) [] := ⟨_, d49, _, [], ok__law_cell_at (P := P) (w := w) (mg := mg) (base := base) (c := cs K) G F49 f_len, He.glo_ok X G0 (S.fact 59 (f := .glo "_law_cell_at") rfl), F49.kp, F49.bindsN (ps := ["_law_script", "_law_k"]) fun _ _ _ _ _ _ us hl => match us, hl with | [_, _], _ => rfl, .nil⟩
  have c__law_lows : Cal P w (cs K).K mg base 1 "_law_lows" (sp__law_lows (cs K)) [] := ⟨_, d50, _, [], ok__law_lows (P := P) (w := w) (mg := mg) (base := base) (c := cs K) G F50 , He.glo_ok X G0 (S.fact 55 (f := .glo "_law_lows") rfl), F50.kp, F50.bindsN (ps := ["_law_bits_here"]) fun _ _ _ _ _ _ us hl => match us, hl with | [_], _ => rfl, .nil⟩
  have c__law_runs : Cal P w (cs K).K mg base 1 "_law_runs" (sp__law_runs (cs K)) [] := ⟨_, d51, _, [], ok__law_runs (P := P) (w := w) (mg := mg) (base := base) (c := cs K) G F51 , He.glo_ok X G0 (S.fact 56 (f := .glo "_law_runs") rfl), F51.kp, F51.bindsN (ps := ["_law_lows_here"]) fun _ _ _ _ _ _ us hl => match us, hl with | [_], _ => rfl, .nil⟩
  have c__law_pattern : Cal P w (cs K).K mg base 1 "_law_pattern" (sp__law_pattern (cs K)) [] := ⟨_, d53, _, [], ok__law_pattern (P := P) (w := w) (mg := mg) (base := base) (c := cs K) G F53 f_range, He.glo_ok X G0 (S.fact 58 (f := .glo "_law_pattern") rfl), F53.kp, F53.bindsN (ps := ["_law_cell"]) fun _ _ _ _ _ _ us hl => match us, hl with | [_], _ => rfl, .nil⟩
  have c__law_begin : Cal P w (cs K).K mg base 1 "_law_begin" (sp__law_begin (cs K)) [] := ⟨_, d54, _, [], ok__law_begin (P := P) (w := w) (mg := mg) (base := base) (c := cs K) G F54 , He.glo_ok X G0 (S.fact 66 (f := .glo "_law_begin") rfl), F54.kp, F54.bindsN (ps := ["_law_cell"]) fun _ _ _ _ _ _ us hl => match us, hl with | [_], _ => rfl, .nil⟩
  have c__law_stretch : Cal P w (cs K).K mg base 1 "_law_stretch" (sp__law_stretch (cs K)) [] := ⟨_, d55, _, [], ok__law_stretch (P := P) (w := w) (mg := mg) (base := base) (c := cs K) G F55 f_min, He.glo_ok X G0 (S.fact 61 (f := .glo "_law_stretch") rfl), F55.kp, F55.bindsN (ps := ["_law_cell"]) fun _ _ _ _ _ _ us hl => match us, hl with | [_], _ => rfl, .nil⟩
  have c__law_bits : Cal P w (cs K).K mg base 1 "_law_bits" (sp__law_bits (cs K)) [] := ⟨_, d56, _, [], ok__law_bits (P := P) (w := w) (mg := mg) (base := base) (c := cs K) G F56 , He.glo_ok X G0 (S.fact 62 (f := .glo "_law_bits") rfl), F56.kp, F56.bindsN (ps := ["_law_first", "_law_last"]) fun _ _ _ _ _ _ us hl => match us, hl with | [_, _], _ => rfl, .nil⟩
  have c__law_stretches : Cal P w (cs K).K mg base 1 "_law_stretches" (sp__law_stretches (cs K)) [] := ⟨_, d62, _, [], ok__law_stretches (P := P) (w := w) (mg := mg) (base := base) (c := cs K) G F62 , He.glo_ok X G0 (S.fact 63 (f := .glo "_law_stretches") rfl), F62.kp, F62.bindsN (ps := ["_law_numbers_here"]) fun _ _ _ _ _ _ us hl => match us, hl with | [_], _ => rfl, .nil⟩
  have c_count_of : Cal P w (cs K).K mg base 2 "count_of" (sp_count_of (cs K)) [] := ⟨_, d23, _, [], ok_count_of (P := P) (w := w) (mg := mg) (base := base) (c := cs K) G F23 c_runs_of f_sum, He.glo_ok X G0 (S.fact 8 (f := .glo "count_of") rfl), F23.kp, F23.bindsN (ps := ["bits"]) fun _ _ _ _ _ _ us hl => match us, hl with | [_], _ => rfl, .nil⟩
  have c_need_number : Cal P w (cs K).K mg base 2 "need_number" (sp_need_number (cs K)) [] := ⟨_, d26, _, [], ok_need_number (P := P) (w := w) (mg := mg) (base := base) (c := cs K) G F26 c_is_number x_NoNumber, He.glo_ok X G0 (S.fact 38 (f := .glo "need_number") rfl), F26.kp, F26.bindsN (ps := ["thing"]) fun _ _ _ _ _ _ us hl => match us, hl with | [_], _ => rfl, .nil⟩
  have m_uppers : ∀ C sp, fam_uppers (cs K) C sp → Met P w (cs K).K mg base 1 C "uppers" sp [] := by
    rintro C sp ⟨rfl, rfl⟩
    exact ⟨_, d32, _, _, He.cls_ok (S.fact 6 (f := .cls "NumberSet") rfl), He.meth_ok (S.fact 93 (f := .meth "NumberSet" "uppers") rfl), (ok_NumberSet_uppers (P := P) (w := w) (mg := mg) (base := base) (c := cs K) G F32 f_sorted).mono (by decide), F32.bindsN (ps := ["self"]) fun _ _ _ _ _ _ us hl => match us, hl with | [_], _ => rfl, .nil⟩
  have m_bits_at : ∀ C sp, fam_bits_at (cs K) C sp → Met P w (cs K).K mg base 1 C "bits_at" sp [] := by
    rintro C sp ⟨rfl, rfl⟩
    exact ⟨_, d30, _, _, He.cls_ok (S.fact 6 (f := .cls "NumberSet") rfl), He.meth_ok (S.fact 91 (f := .meth "NumberSet" "bits_at") rfl), (ok_NumberSet_bits_at (P := P) (w := w) (mg := mg) (base := base) (c := cs K) G F30 ).mono (by decide), F30.bindsN (ps := ["self", "upper"]) fun _ _ _ _ _ _ us hl => match us, hl with | [_, _], _ => rfl, .nil⟩
  have c_read_stretch : Cal P w (cs K).K mg base 2 "read_stretch" (sp_read_stretch (cs K)) [] := ⟨_, d47, _, [], ok_read_stretch (P := P) (w := w) (mg := mg) (base := base) (c := cs K) G F47 f_len x_NoText c_read_number, He.glo_ok X G0 (S.fact 54 (f := .glo "read_stretch") rfl), F47.kp, F47.bindsN (ps := ["text"]) fun _ _ _ _ _ _ us hl => match us, hl with | [_], _ => rfl, .nil⟩
  have c__law_form : Cal P w (cs K).K mg base 2 "_law_form" (sp__law_form (cs K)) [] := ⟨_, d52, _, [], ok__law_form (P := P) (w := w) (mg := mg) (base := base) (c := cs K) G F52 c__law_lows c__law_runs f_len f_tuple f_range, He.glo_ok X G0 (S.fact 57 (f := .glo "_law_form") rfl), F52.kp, F52.bindsN (ps := ["_law_bits_here"]) fun _ _ _ _ _ _ us hl => match us, hl with | [_], _ => rfl, .nil⟩
  have c__law_numbers : Cal P w (cs K).K mg base 2 "_law_numbers" (sp__law_numbers (cs K)) [] := ⟨_, d58, _, [], ok__law_numbers (P := P) (w := w) (mg := mg) (base := base) (c := cs K) G F58 f_range c__law_lows, He.glo_ok X G0 (S.fact 69 (f := .glo "_law_numbers") rfl), F58.kp, F58.bindsN (ps := ["_law_mask", "_law_begin_here"]) fun _ _ _ _ _ _ us hl => match us, hl with | [_, _], _ => rfl, .nil⟩
  have c__law_text : Cal P w (cs K).K mg base 2 "_law_text" (sp__law_text (cs K)) [] := ⟨_, d63, _, [], ok__law_text (P := P) (w := w) (mg := mg) (base := base) (c := cs K) G F63 c__law_stretches f_str f_int, He.glo_ok X G0 (S.fact 68 (f := .glo "_law_text") rfl), F63.kp, F63.bindsN (ps := ["_law_numbers_here"]) fun _ _ _ _ _ _ us hl => match us, hl with | [_], _ => rfl, .nil⟩
  have m_kind : ∀ C sp, fam_kind (cs K) C sp → Met P w (cs K).K mg base 1 C "kind" sp [] := by
    rintro C sp ⟨k, rfl, rfl⟩
    cases k
    · exact ⟨_, d12, _, _, He.cls_ok (S.fact 0 (f := .cls "RowSack") rfl), He.meth_ok (S.fact 82 (f := .meth "RowSack" "kind") rfl), (ok_RowSack_kind (P := P) (w := w) (mg := mg) (base := base) (c := cs K) G F12 ).mono (by decide), F12.bindsN (ps := ["self"]) fun _ _ _ _ _ _ us hl => match us, hl with | [_], _ => rfl, .nil⟩
    · exact ⟨_, d15, _, _, He.cls_ok (S.fact 2 (f := .cls "RunsSack") rfl), He.meth_ok (S.fact 85 (f := .meth "RunsSack" "kind") rfl), (ok_RunsSack_kind (P := P) (w := w) (mg := mg) (base := base) (c := cs K) G F15 ).mono (by decide), F15.bindsN (ps := ["self"]) fun _ _ _ _ _ _ us hl => match us, hl with | [_], _ => rfl, .nil⟩
    · exact ⟨_, d18, _, _, He.cls_ok (S.fact 4 (f := .cls "BitsSack") rfl), He.meth_ok (S.fact 88 (f := .meth "BitsSack" "kind") rfl), (ok_BitsSack_kind (P := P) (w := w) (mg := mg) (base := base) (c := cs K) G F18 ).mono (by decide), F18.bindsN (ps := ["self"]) fun _ _ _ _ _ _ us hl => match us, hl with | [_], _ => rfl, .nil⟩
  have m_held : ∀ C sp, fam_held (cs K) C sp → Met P w (cs K).K mg base 2 C "held" sp [] := by
    rintro C sp ⟨k, rfl, rfl⟩
    cases k
    · exact ⟨_, d13, _, _, He.cls_ok (S.fact 0 (f := .cls "RowSack") rfl), He.meth_ok (S.fact 83 (f := .meth "RowSack" "held") rfl), (ok_RowSack_held (P := P) (w := w) (mg := mg) (base := base) (c := cs K) G F13 c_lows_of f_tuple).mono (by decide), F13.bindsN (ps := ["self"]) fun _ _ _ _ _ _ us hl => match us, hl with | [_], _ => rfl, .nil⟩
    · exact ⟨_, d16, _, _, He.cls_ok (S.fact 2 (f := .cls "RunsSack") rfl), He.meth_ok (S.fact 86 (f := .meth "RunsSack" "held") rfl), (ok_RunsSack_held (P := P) (w := w) (mg := mg) (base := base) (c := cs K) G F16 c_runs_of f_tuple).mono (by decide), F16.bindsN (ps := ["self"]) fun _ _ _ _ _ _ us hl => match us, hl with | [_], _ => rfl, .nil⟩
    · exact ⟨_, d19, _, _, He.cls_ok (S.fact 4 (f := .cls "BitsSack") rfl), He.meth_ok (S.fact 89 (f := .meth "BitsSack" "held") rfl), (ok_BitsSack_held (P := P) (w := w) (mg := mg) (base := base) (c := cs K) G F19 g_WORDS f_range g_WORD g_FULL_WORD f_tuple).mono (by decide), F19.bindsN (ps := ["self"]) fun _ _ _ _ _ _ us hl => match us, hl with | [_], _ => rfl, .nil⟩
  have m_lows : ∀ C sp, fam_lows (cs K) C sp → Met P w (cs K).K mg base 2 C "lows" sp [] := by
    rintro C sp ⟨k, rfl, rfl⟩
    cases k
    · exact ⟨_, d9, _, _, He.cls_ok (S.fact 0 (f := .cls "RowSack") rfl), He.meth_ok (S.fact 79 (f := .meth "RowSack" "lows") rfl), (ok_Sack_lows (P := P) (w := w) (mg := mg) (base := base) (c := cs K) G F9 c_lows_of).mono (by decide), F9.bindsN (ps := ["self"]) fun _ _ _ _ _ _ us hl => match us, hl with | [_], _ => rfl, .nil⟩
    · exact ⟨_, d10, _, _, He.cls_ok (S.fact 2 (f := .cls "RunsSack") rfl), He.meth_ok (S.fact 80 (f := .meth "RunsSack" "lows") rfl), (ok_Sack_lows (P := P) (w := w) (mg := mg) (base := base) (c := cs K) G F10 c_lows_of).mono (by decide), F10.bindsN (ps := ["self"]) fun _ _ _ _ _ _ us hl => match us, hl with | [_], _ => rfl, .nil⟩
    · exact ⟨_, d11, _, _, He.cls_ok (S.fact 4 (f := .cls "BitsSack") rfl), He.meth_ok (S.fact 81 (f := .meth "BitsSack" "lows") rfl), (ok_Sack_lows (P := P) (w := w) (mg := mg) (base := base) (c := cs K) G F11 c_lows_of).mono (by decide), F11.bindsN (ps := ["self"]) fun _ _ _ _ _ _ us hl => match us, hl with | [_], _ => rfl, .nil⟩
  have m_stretches : ∀ C sp, fam_stretches (cs K) C sp → Met P w (cs K).K mg base 2 C "stretches" sp [] := by
    rintro C sp ⟨rfl, rfl⟩
    exact ⟨_, d41, _, _, He.cls_ok (S.fact 6 (f := .cls "NumberSet") rfl), He.meth_ok (S.fact 102 (f := .meth "NumberSet" "stretches") rfl), (ok_NumberSet_stretches (P := P) (w := w) (mg := mg) (base := base) (c := cs K) G F41 m_uppers c_runs_of m_bits_at g_SIZE).mono (by decide), F41.bindsN (ps := ["self"]) fun _ _ _ _ _ _ us hl => match us, hl with | [_], _ => rfl, .nil⟩
  have c_written : Cal P w (cs K).K mg base 3 "written" (sp_written (cs K)) [] := ⟨_, d45, _, [], ok_written (P := P) (w := w) (mg := mg) (base := base) (c := cs K) G F45 m_stretches f_str, He.glo_ok X G0 (S.fact 64 (f := .glo "written") rfl), F45.kp, F45.bindsN (ps := ["numbers"]) fun _ _ _ _ _ _ us hl => match us, hl with | [_], _ => rfl, .nil⟩
  have k_RowSack : Mak P w (cs K).K mg base 1 "RowSack" (cs K).row (sp_Sack___init__ (cs K) (cs K).row) [] := ⟨_, d0, _, _, He.mkr_ok (S.fact 20 (f := .mkr "RowSack") rfl), ok_Sack___init__ (P := P) (w := w) (mg := mg) (base := base) (c := cs K) G (He.ga K "RowSack") F0 , He.glo_ok X G0 (S.fact 19 (f := .glo "RowSack") rfl), F0.bindsN (ps := ["self", "bits"]) fun _ _ _ _ _ _ us hl => match us, hl with | [_, _], _ => rfl, .nil⟩
  have k_RunsSack : Mak P w (cs K).K mg base 1 "RunsSack" (cs K).runs (sp_Sack___init__ (cs K) (cs K).runs) [] := ⟨_, d1, _, _, He.mkr_ok (S.fact 22 (f := .mkr "RunsSack") rfl), ok_Sack___init__ (P := P) (w := w) (mg := mg) (base := base) (c := cs K) G (He.ga K "RunsSack") F1 , He.glo_ok X G0 (S.fact 21 (f := .glo "RunsSack") rfl), F1.bindsN (ps := ["self", "bits"]) fun _ _ _ _ _ _ us hl => match us, hl with | [_, _], _ => rfl, .nil⟩
  have k_BitsSack : Mak P w (cs K).K mg base 1 "BitsSack" (cs K).bits (sp_Sack___init__ (cs K) (cs K).bits) [] := ⟨_, d2, _, _, He.mkr_ok (S.fact 24 (f := .mkr "BitsSack") rfl), ok_Sack___init__ (P := P) (w := w) (mg := mg) (base := base) (c := cs K) G (He.ga K "BitsSack") F2 , He.glo_ok X G0 (S.fact 23 (f := .glo "BitsSack") rfl), F2.bindsN (ps := ["self", "bits"]) fun _ _ _ _ _ _ us hl => match us, hl with | [_, _], _ => rfl, .nil⟩
  have m_weight : ∀ C sp, fam_weight (cs K) C sp → Met P w (cs K).K mg base 3 C "weight" sp [] := by
    rintro C sp ⟨k, rfl, rfl⟩
    cases k
    · exact ⟨_, d14, _, _, He.cls_ok (S.fact 0 (f := .cls "RowSack") rfl), He.meth_ok (S.fact 84 (f := .meth "RowSack" "weight") rfl), (ok_RowSack_weight (P := P) (w := w) (mg := mg) (base := base) (c := cs K) G F14 c_count_of).mono (by decide), F14.bindsN (ps := ["self"]) fun _ _ _ _ _ _ us hl => match us, hl with | [_], _ => rfl, .nil⟩
    · exact ⟨_, d17, _, _, He.cls_ok (S.fact 2 (f := .cls "RunsSack") rfl), He.meth_ok (S.fact 87 (f := .meth "RunsSack" "weight") rfl), (ok_RunsSack_weight (P := P) (w := w) (mg := mg) (base := base) (c := cs K) G F17 m_held f_len).mono (by decide), F17.bindsN (ps := ["self"]) fun _ _ _ _ _ _ us hl => match us, hl with | [_], _ => rfl, .nil⟩
    · exact ⟨_, d20, _, _, He.cls_ok (S.fact 4 (f := .cls "BitsSack") rfl), He.meth_ok (S.fact 90 (f := .meth "BitsSack" "weight") rfl), (ok_BitsSack_weight (P := P) (w := w) (mg := mg) (base := base) (c := cs K) G F20 g_BITS_WEIGHT).mono (by decide), F20.bindsN (ps := ["self"]) fun _ _ _ _ _ _ us hl => match us, hl with | [_], _ => rfl, .nil⟩
  have c_least_sack : Cal P w (cs K).K mg base 4 "least_sack" (sp_least_sack (cs K)) [] := ⟨_, d24, _, [], ok_least_sack (P := P) (w := w) (mg := mg) (base := base) (c := cs K) G F24 k_RowSack k_RunsSack k_BitsSack m_weight, He.glo_ok X G0 (S.fact 39 (f := .glo "least_sack") rfl), F24.kp, F24.bindsN (ps := ["bits"]) fun _ _ _ _ _ _ us hl => match us, hl with | [_], _ => rfl, .nil⟩
  have m_count : ∀ C sp, fam_count (cs K) C sp → Met P w (cs K).K mg base 3 C "count" sp [] := by
    rintro C sp ⟨k, rfl, rfl⟩
    cases k
    · exact ⟨_, d6, _, _, He.cls_ok (S.fact 0 (f := .cls "RowSack") rfl), He.meth_ok (S.fact 76 (f := .meth "RowSack" "count") rfl), (ok_Sack_count (P := P) (w := w) (mg := mg) (base := base) (c := cs K) G F6 c_count_of).mono (by decide), F6.bindsN (ps := ["self"]) fun _ _ _ _ _ _ us hl => match us, hl with | [_], _ => rfl, .nil⟩
    · exact ⟨_, d7, _, _, He.cls_ok (S.fact 2 (f := .cls "RunsSack") rfl), He.meth_ok (S.fact 77 (f := .meth "RunsSack" "count") rfl), (ok_Sack_count (P := P) (w := w) (mg := mg) (base := base) (c := cs K) G F7 c_count_of).mono (by decide), F7.bindsN (ps := ["self"]) fun _ _ _ _ _ _ us hl => match us, hl with | [_], _ => rfl, .nil⟩
    · exact ⟨_, d8, _, _, He.cls_ok (S.fact 4 (f := .cls "BitsSack") rfl), He.meth_ok (S.fact 78 (f := .meth "BitsSack" "count") rfl), (ok_Sack_count (P := P) (w := w) (mg := mg) (base := base) (c := cs K) G F8 c_count_of).mono (by decide), F8.bindsN (ps := ["self"]) fun _ _ _ _ _ _ us hl => match us, hl with | [_], _ => rfl, .nil⟩
  have m_form : ∀ C sp, fam_form (cs K) C sp → Met P w (cs K).K mg base 3 C "form" sp [] := by
    rintro C sp ⟨k, rfl, rfl⟩
    cases k
    · exact ⟨_, d3, _, _, He.cls_ok (S.fact 0 (f := .cls "RowSack") rfl), He.meth_ok (S.fact 73 (f := .meth "RowSack" "form") rfl), (ok_Sack_form (P := P) (w := w) (mg := mg) (base := base) (c := cs K) G F3 m_kind m_held).mono (by decide), F3.bindsN (ps := ["self"]) fun _ _ _ _ _ _ us hl => match us, hl with | [_], _ => rfl, .nil⟩
    · exact ⟨_, d4, _, _, He.cls_ok (S.fact 2 (f := .cls "RunsSack") rfl), He.meth_ok (S.fact 74 (f := .meth "RunsSack" "form") rfl), (ok_Sack_form (P := P) (w := w) (mg := mg) (base := base) (c := cs K) G F4 m_kind m_held).mono (by decide), F4.bindsN (ps := ["self"]) fun _ _ _ _ _ _ us hl => match us, hl with | [_], _ => rfl, .nil⟩
    · exact ⟨_, d5, _, _, He.cls_ok (S.fact 4 (f := .cls "BitsSack") rfl), He.meth_ok (S.fact 75 (f := .meth "BitsSack" "form") rfl), (ok_Sack_form (P := P) (w := w) (mg := mg) (base := base) (c := cs K) G F5 m_kind m_held).mono (by decide), F5.bindsN (ps := ["self"]) fun _ _ _ _ _ _ us hl => match us, hl with | [_], _ => rfl, .nil⟩
  have m_set_bits : ∀ C sp, fam_set_bits (cs K) C sp → Met P w (cs K).K mg base 5 C "set_bits" sp [] := by
    rintro C sp ⟨rfl, rfl⟩
    exact ⟨_, d31, _, _, He.cls_ok (S.fact 6 (f := .cls "NumberSet") rfl), He.meth_ok (S.fact 92 (f := .meth "NumberSet" "set_bits") rfl), (ok_NumberSet_set_bits (P := P) (w := w) (mg := mg) (base := base) (c := cs K) G F31 m_bits_at c_least_sack c_count_of).mono (by decide), F31.bindsN (ps := ["self", "upper", "bits"]) fun _ _ _ _ _ _ us hl => match us, hl with | [_, _, _], _ => rfl, .nil⟩
  have m_put : ∀ C sp, fam_put (cs K) C sp → Met P w (cs K).K mg base 6 C "put" sp [] := by
    rintro C sp ⟨rfl, rfl⟩
    exact ⟨_, d33, _, _, He.cls_ok (S.fact 6 (f := .cls "NumberSet") rfl), He.meth_ok (S.fact 94 (f := .meth "NumberSet" "put") rfl), (ok_NumberSet_put (P := P) (w := w) (mg := mg) (base := base) (c := cs K) G F33 c_need_number g_SIZE f_divmod m_set_bits m_bits_at).mono (by decide), F33.bindsN (ps := ["self", "number"]) fun _ _ _ _ _ _ us hl => match us, hl with | [_, _], _ => rfl, .nil⟩
  have m_by_stretch : ∀ C sp, fam_by_stretch (cs K) C sp → Met P w (cs K).K mg base 6 C "by_stretch" sp [] := by
    rintro C sp ⟨rfl, rfl⟩
    exact ⟨_, d34, _, _, He.cls_ok (S.fact 6 (f := .cls "NumberSet") rfl), He.meth_ok (S.fact 95 (f := .meth "NumberSet" "by_stretch") rfl), (ok_NumberSet_by_stretch (P := P) (w := w) (mg := mg) (base := base) (c := cs K) G F34 c_need_number c_need_stretch g_SIZE f_range m_set_bits m_bits_at c_stretch_bits hW).mono (by decide), F34.bindsN (ps := ["self", "first", "last", "way"]) fun _ _ _ _ _ _ us hl => match us, hl with | [_, _, _, _], _ => rfl, .nil⟩
  have c__law_filled : Cal P w (cs K).K mg base 7 "_law_filled" (sp__law_filled (cs K)) [] := ⟨_, d59, _, [], ok__law_filled (P := P) (w := w) (mg := mg) (base := base) (c := cs K) G F59 c__law_pattern c__law_lows m_put, He.glo_ok X G0 (S.fact 60 (f := .glo "_law_filled") rfl), F59.kp, F59.bindsN (ps := ["_law_numbers_here", "_law_begin_here", "_law_cell"]) fun _ _ _ _ _ _ us hl => match us, hl with | [_, _, _], _ => rfl, .nil⟩
  obtain ⟨ds_b29_1, hv_b29_1, hb_b29_1⟩ := F29.binds1 (ps := ["self", "numbers"]) 1 0 (List.cons_ne_nil _ _) rfl (fun _ _ _ _ _ _ _ us its hl hi => match us, its, hl, hi with | [_], [_], _, _ => ⟨_, rfl, rfl⟩)
  have k_NumberSet0 : Mak P w (cs K).K mg base 7 "NumberSet" (cs K).set (sp_NumberSet___init__ (cs K)) [.non] := ⟨_, d29, _, _, He.mkr_ok (S.fact 45 (f := .mkr "NumberSet") rfl), ok_NumberSet___init__ (P := P) (w := w) (mg := mg) (base := base) (c := cs K) G F29 c_need_number m_put, He.glo_ok X G0 (S.fact 44 (f := .glo "NumberSet") rfl), hb_b29_1, hv_b29_1⟩
  have c_together : Cal P w (cs K).K mg base 9 "together" (sp_together (cs K)) [] := ⟨_, d42, _, [], ok_together (P := P) (w := w) (mg := mg) (base := base) (c := cs K) G F42 k_NumberSet0 m_uppers m_set_bits m_bits_at hW, He.glo_ok X G0 (S.fact 46 (f := .glo "together") rfl), F42.kp, F42.bindsN (ps := ["one", "other", "way"]) fun _ _ _ _ _ _ us hl => match us, hl with | [_, _, _], _ => rfl, .nil⟩
  obtain ⟨ds_b35_0, hv_b35_0, hb_b35_0⟩ := F35.binds1 (ps := ["self", "first", "last"]) 3 1 (List.cons_ne_nil _ _) rfl (fun _ _ _ _ _ _ _ us its hl hi => match us, its, hl, hi with | [_, _, _], [_], _, _ => ⟨_, rfl, rfl⟩)
  have m_put_all : ∀ C sp, fam_put_all (cs K) C sp → Met P w (cs K).K mg base 7 C "put_all" sp [] := by
    rintro C sp ⟨rfl, rfl⟩
    exact ⟨_, d35, _, _, He.cls_ok (S.fact 6 (f := .cls "NumberSet") rfl), He.meth_ok (S.fact 96 (f := .meth "NumberSet" "put_all") rfl), (ok_NumberSet_put_all (P := P) (w := w) (mg := mg) (base := base) (c := cs K) G F35 m_by_stretch w_putA hW cd_putA).mono (by decide), hb_b35_0, hv_b35_0⟩
  have c_read : Cal P w (cs K).K mg base 9 "read" (sp_read (cs K)) [] := ⟨_, d48, _, [], ok_read (P := P) (w := w) (mg := mg) (base := base) (c := cs K) G F48 k_NumberSet0 c_read_stretch c_need_stretch m_put_all, He.glo_ok X G0 (S.fact 65 (f := .glo "read") rfl), F48.kp, F48.bindsN (ps := ["text"]) fun _ _ _ _ _ _ us hl => match us, hl with | [_], _ => rfl, .nil⟩
  obtain ⟨ds_b37_0, hv_b37_0, hb_b37_0⟩ := F37.binds1 (ps := ["self", "first", "last"]) 3 1 (List.cons_ne_nil _ _) rfl (fun _ _ _ _ _ _ _ us its hl hi => match us, its, hl, hi with | [_, _, _], [_], _, _ => ⟨_, rfl, rfl⟩)
  have m_turn : ∀ C sp, fam_turn (cs K) C sp → Met P w (cs K).K mg base 7 C "turn" sp [] := by
    rintro C sp ⟨rfl, rfl⟩
    exact ⟨_, d37, _, _, He.cls_ok (S.fact 6 (f := .cls "NumberSet") rfl), He.meth_ok (S.fact 98 (f := .meth "NumberSet" "turn") rfl), (ok_NumberSet_turn (P := P) (w := w) (mg := mg) (base := base) (c := cs K) G F37 m_by_stretch w_turnA hW cd_turnA).mono (by decide), hb_b37_0, hv_b37_0⟩
  have c__law_built : Cal P w (cs K).K mg base 9 "_law_built" (sp__law_built (cs K)) [] := ⟨_, d60, _, [], ok__law_built (P := P) (w := w) (mg := mg) (base := base) (c := cs K) G F60 k_NumberSet0 c__law_cell_at f_range c__law_filled c__law_stretch m_turn c__law_bits, He.glo_ok X G0 (S.fact 67 (f := .glo "_law_built") rfl), F60.kp, F60.bindsN (ps := ["_law_script", "_law_begin_here"]) fun _ _ _ _ _ _ us hl => match us, hl with | [_, _], _ => rfl, .nil⟩
  have c_apart : Cal P w (cs K).K mg base 10 "apart" (sp_apart (cs K)) [] := ⟨_, d43, _, [], ok_apart (P := P) (w := w) (mg := mg) (base := base) (c := cs K) G F43 c_together w_apartW hW cd_apartW, He.glo_ok X G0 (S.fact 47 (f := .glo "apart") rfl), F43.kp, F43.bindsN (ps := ["one", "other"]) fun _ _ _ _ _ _ us hl => match us, hl with | [_, _], _ => rfl, .nil⟩
  have c__law_wide : Cal P w (cs K).K mg base 10 "_law_wide" (sp__law_wide (cs K)) [] := ⟨_, d64, _, [], ok__law_wide (P := P) (w := w) (mg := mg) (base := base) (c := cs K) G GN F64 k_NumberSet0 m_put_all c_written g_NoStretch c_read f_str, He.glo_ok X G0 (S.fact 71 (f := .glo "_law_wide") rfl), F64.kp, F64.bindsN (ps := ["_law_first", "_law_more"]) fun _ _ _ _ _ _ us hl => match us, hl with | [_, _], _ => rfl, .nil⟩
  have m_countS : ∀ C sp, fam_countS (cs K) C sp → Met P w (cs K).K mg base 4 C "count" sp [] := by
    rintro C sp ⟨rfl, rfl⟩
    exact ⟨_, d38, _, _, He.cls_ok (S.fact 6 (f := .cls "NumberSet") rfl), He.meth_ok (S.fact 99 (f := .meth "NumberSet" "count") rfl), (ok_NumberSet_count (P := P) (w := w) (mg := mg) (base := base) (c := cs K) G F38 m_count f_sum).mono (by decide), F38.bindsN (ps := ["self"]) fun _ _ _ _ _ _ us hl => match us, hl with | [_], _ => rfl, .nil⟩
  have c_same : Cal P w (cs K).K mg base 11 "same" (sp_same (cs K)) [] := ⟨_, d44, _, [], ok_same (P := P) (w := w) (mg := mg) (base := base) (c := cs K) G F44 c_apart m_countS, He.glo_ok X G0 (S.fact 70 (f := .glo "same") rfl), F44.kp, F44.bindsN (ps := ["one", "other"]) fun _ _ _ _ _ _ us hl => match us, hl with | [_, _], _ => rfl, .nil⟩
  obtain ⟨ds_b36_0, hv_b36_0, hb_b36_0⟩ := F36.binds1 (ps := ["self", "first", "last"]) 3 1 (List.cons_ne_nil _ _) rfl (fun _ _ _ _ _ _ _ us its hl hi => match us, its, hl, hi with | [_, _, _], [_], _, _ => ⟨_, rfl, rfl⟩)
  have m_drop_all : ∀ C sp, fam_drop_all (cs K) C sp → Met P w (cs K).K mg base 7 C "drop_all" sp [] := by
    rintro C sp ⟨rfl, rfl⟩
    exact ⟨_, d36, _, _, He.cls_ok (S.fact 6 (f := .cls "NumberSet") rfl), He.meth_ok (S.fact 97 (f := .meth "NumberSet" "drop_all") rfl), (ok_NumberSet_drop_all (P := P) (w := w) (mg := mg) (base := base) (c := cs K) G F36 m_by_stretch w_dropA hW cd_dropA).mono (by decide), hb_b36_0, hv_b36_0⟩
  exact ok_law (P := P) (w := w) (mg := mg) (base := base) (c := cs K) G GN F65 c__law_begin c__law_cell_at c__law_built c__law_text c__law_numbers c_written f_str f_isinstance c_read c_same c__law_wide f_min f_int f_max m_put_all f_len m_drop_all
end Sx
open PySem PySem.W PySem.Calls PyProof.Rows
set_option maxRecDepth 100000 in
set_option maxHeartbeats 0 in
theorem PySem.Challenge.cw_sackset_k09_written_holds : PySem.Challenge.rw_sackset_k09_written.Holds := by
  w_on; o_law
  refine HandSHeadRun.head_any (r := OpenLaw.row PySem.Challenge.rw_sackset_k09_written) (q := view (OpenLaw.row PySem.Challenge.rw_sackset_k09_written).prog [56]) (H := Sx.hk) (ob := Sx.ob) (M := 6000) (loose := Sx.nms) (d := HandSHeadRun.topDef (OpenLaw.row PySem.Challenge.rw_sackset_k09_written).prog 56) (kwd := []) Sx.ob_eq
    (by kernel_rfl) (fun s => by kernel_rfl) Sx.run (by kernel_rfl) (by kernel_rfl) (by kernel_rfl) (by rfl) (by first | assumption | decide +kernel) (by decide +kernel) ⟨rfl, rfl, rfl, rfl, rfl, by decide +kernel⟩ ?hw ?hc
  case hw => w_witness2
  case hc =>
    refine LamX.walk_ofTsE (l := PySem.Challenge.rw_sackset_k09_written) (n := 63) (k := 12) (x := "_law_script") (CX := fun _ => L2.CX0) rfl (by decide) (by kernel_rfl) ⟨rfl, by decide, by decide⟩ ?F (fun _ _ _ _ _ z => z)
    intro w mg fa h Y G hmg0
    obtain ⟨K, KX, c, ext, t⟩ := Y
    obtain ⟨ex, hnd0⟩ := He.ba ext
    have hnd := of_decide_eq_true hnd0
    have hmg : mg ("law" : PySem.Str) = some (.ref fa) := by
      have e : (HandSHeadRun.topDef (OpenLaw.row PySem.Challenge.rw_sackset_k09_written).prog 56).name = ("law" : PySem.Str) := by kernel_rfl
      rw [← e]
      exact hmg0
    obtain ⟨fd, hb, hF⟩ := Sx.facts (P := (PySem.Challenge.rw_sackset_k09_written).prog) (w := w) KX G hmg c ex hnd
    refine ⟨K, KX, fd, Sx.tf.map (He.cT K), fun vs H Q _ => Sx.sp_law (Sx.cs K) vs H Q L2.E0, fun p hp => ?_, fun p hp => ?_, fun p hp => ?_, hb, fun H a ns hl _ hH hS => ⟨a, ns, rfl, hS, hl, Sx.tabs_start hH fun p hp => ?_, fun _ => rfl⟩, fun base Xb Gb hB => Sx.fn_cx0 (hF base Xb Gb hB)⟩
    · obtain ⟨q, hq, rfl⟩ := List.mem_map.mp hp
      exact t.emp q hq
    · obtain ⟨q, hq, rfl⟩ := List.mem_map.mp hp
      exact t.out q hq
    · obtain ⟨q, hq, rfl⟩ := List.mem_map.mp hp
      exact PySem.W.codeHd_of_K KX (t.hd q hq)
    · obtain ⟨x, hx, rfl⟩ := List.mem_map.mp hp
      exact List.mem_map.mpr ⟨x.1, List.mem_map.mpr ⟨x, hx, rfl⟩, rfl⟩
