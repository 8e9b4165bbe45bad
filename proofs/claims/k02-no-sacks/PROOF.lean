import PyProof.Rows.All
import Wide.All
import OpenK.AllK
import Wide.FinOn
import HandS.WideBits
import HandS.ForMost
import HandS.Exc
import HandS.TryOnly
import HandS.ExcOwn
import HandS.ExcCtx
import HandS.Hot
import HandS.HotCalls
import HandS.WordsExc
import HandS.Flow
import HandS.Style
import HandS.IsInst
import HandS.SortInts
import HandS.Defaults
import HandS.More
import HandS.Codes
import HandS.ExcIs
import HandS.ExcInitHot
import HandS.Head0
import HandS.Head1
import HandS.Head2
import HandS.HeadEnd
import HandS.HeadHook1
import HandS.HeadHook2
import KE.KStateDown
import PySem.Challenge.RW_sackset_k02_no_sacks
set_option Elab.async false
set_option linter.all false
set_option maxRecDepth 100000
set_option maxHeartbeats 4000000
set_option exponentiation.threshold 10000
namespace Sx
open PySem PySem.Spec PyProof.Rows L2

/-- the place of the least bit that is set (0 for 0) -/
def tz (b : Nat) : Nat := if h : b = 0 then 0 else if b % 2 = 1 then 0 else tz (b / 2) + 1
termination_by b
decreasing_by omega

theorem tz_odd {b : Nat} (h : b % 2 = 1) : tz b = 0 := by
  rw [tz, dif_neg (by omega), if_pos h]
theorem tz_even {b : Nat} (h0 : 0 < b) (h : b % 2 = 0) : tz b = tz (b / 2) + 1 := by
  rw [tz, dif_neg (by omega), if_neg (by omega)]
theorem tz_spec : ∀ (n b : Nat), b ≤ n → 0 < b → b.testBit (tz b) = true ∧ ∀ i, i < tz b → b.testBit i = false := by
  intro n
  induction n with
  | zero => intro b h1 h2; omega
  | succ n ih =>
    intro b h1 h2
    by_cases ho : b % 2 = 1
    · rw [tz_odd ho]
      refine ⟨?_, fun i hi => by omega⟩
      rw [Nat.testBit_zero]; simp [ho]
    · have he : b % 2 = 0 := by omega
      rw [tz_even h2 he]
      obtain ⟨a, c⟩ := ih (b / 2) (by omega) (by omega)
      refine ⟨by rw [Nat.testBit_succ]; exact a, fun i hi => ?_⟩
      cases i with
      | zero => rw [Nat.testBit_zero]; simp [he]
      | succ i => rw [Nat.testBit_succ]; exact c i (by omega)
theorem tz_bit {b : Nat} (h : 0 < b) : b.testBit (tz b) = true := (tz_spec b b (Nat.le_refl _) h).1
theorem tz_low {b i : Nat} (h : 0 < b) (hi : i < tz b) : b.testBit i = false := (tz_spec b b (Nat.le_refl _) h).2 i hi
theorem tz_eq {b k : Nat} (h1 : b.testBit k = true) (h2 : ∀ i, i < k → b.testBit i = false) : tz b = k := by
  have hb : 0 < b := by
    cases b with
    | zero => simp at h1
    | succ n => omega
  have a := tz_bit hb
  rcases Nat.lt_trichotomy (tz b) k with h | h | h
  · rw [h2 _ h] at a; cases a
  · exact h
  · have c := tz_low hb h
    rw [c] at h1; cases h1
theorem tz_pow_le {b : Nat} (h : 0 < b) : 2 ^ tz b ≤ b := Nat.ge_two_pow_of_testBit (tz_bit h)
theorem tz_lt {b n : Nat} (h : 0 < b) (hn : b < 2 ^ n) : tz b < n := by
  have a := tz_pow_le h
  exact (Nat.pow_lt_pow_iff_right (by decide : 1 < 2)).mp (Nat.lt_of_le_of_lt a hn)

/-- b - 1: all bits below the least turned, that one gone -/
theorem pred_testBit : ∀ (n b : Nat), b ≤ n → 0 < b → ∀ i, (b - 1).testBit i = if i < tz b then true else if i = tz b then false else b.testBit i := by
  intro n
  induction n with
  | zero => intro b h1 h2; omega
  | succ n ih =>
    intro b h1 h2 i
    by_cases ho : b % 2 = 1
    · rw [tz_odd ho, if_neg (Nat.not_lt_zero _)]
      cases i with
      | zero => rw [if_pos rfl, Nat.testBit_zero]; simp; omega
      | succ i =>
        rw [if_neg (by omega), Nat.testBit_succ, Nat.testBit_succ]
        have e : (b - 1) / 2 = b / 2 := by omega
        rw [e]
    · have he : b % 2 = 0 := by omega
      rw [tz_even h2 he]
      have e : (b - 1) / 2 = b / 2 - 1 := by omega
      cases i with
      | zero =>
        have : (b - 1) % 2 = 1 := by omega
        rw [if_pos (by omega), Nat.testBit_zero, this]; rfl
      | succ i =>
        rw [Nat.testBit_succ, Nat.testBit_succ, e, ih (b / 2) (by omega) (by omega) i]
        by_cases c1 : i < tz (b / 2)
        · rw [if_pos c1, if_pos (by omega)]
        · by_cases c2 : i = tz (b / 2)
          · rw [if_neg c1, if_pos c2, if_neg (by omega), if_pos (by omega)]
          · rw [if_neg c1, if_neg c2, if_neg (by omega), if_neg (by omega)]
theorem pred_bit {b : Nat} (h : 0 < b) (i : Nat) : (b - 1).testBit i = if i < tz b then true else if i = tz b then false else b.testBit i := pred_testBit b b (Nat.le_refl _) h i

theorem and_mod2 (x y : Nat) : (x &&& y) % 2 = (x % 2) * (y % 2) := by
  have a : (x &&& y) % 2 ^ 1 = (x % 2 ^ 1) &&& (y % 2 ^ 1) := Nat.and_mod_two_pow
  rw [show (2 : Nat) ^ 1 = 2 from rfl] at a
  rw [a]
  rcases Nat.mod_two_eq_zero_or_one x with h | h <;> rcases Nat.mod_two_eq_zero_or_one y with h' | h' <;> rw [h, h'] <;> rfl
theorem land_pred' : ∀ (n b : Nat), b ≤ n → 0 < b → (b &&& (b - 1)) + 2 ^ tz b = b := by
  intro n
  induction n with
  | zero => intro b h1 h2; omega
  | succ n ih =>
    intro b h1 h2
    have d : (b &&& (b - 1)) / 2 = b / 2 &&& (b - 1) / 2 := Nat.and_div_two
    have m := and_mod2 b (b - 1)
    by_cases ho : b % 2 = 1
    · rw [tz_odd ho]
      have e : (b - 1) / 2 = b / 2 := by omega
      rw [e, Nat.and_self] at d
      have e2 : (b - 1) % 2 = 0 := by omega
      rw [e2, Nat.mul_zero] at m
      omega
    · have he : b % 2 = 0 := by omega
      have e : (b - 1) / 2 = b / 2 - 1 := by omega
      rw [e] at d
      rw [he, Nat.zero_mul] at m
      have k := ih (b / 2) (by omega) (by omega)
      rw [tz_even h2 he, Nat.pow_succ]
      omega
theorem land_pred {b : Nat} (h : 0 < b) : (b &&& (b - 1)) + 2 ^ tz b = b := land_pred' b b (Nat.le_refl _) h
/-- the least bit gone -/
def clr (b : Nat) : Nat := b &&& (b - 1)
theorem clr_bit {b : Nat} (h : 0 < b) (i : Nat) : (clr b).testBit i = (b.testBit i && decide (i ≠ tz b)) := by
  unfold clr
  rw [Nat.testBit_and, pred_bit h]
  by_cases c1 : i < tz b
  · rw [if_pos c1, tz_low h c1]; simp
  · rw [if_neg c1]
    by_cases c2 : i = tz b
    · rw [if_pos c2]; simp [c2]
    · rw [if_neg c2]; simp [c2]
theorem clr_lt {b : Nat} (h : 0 < b) : clr b < b := by
  have := land_pred h
  have p := Nat.two_pow_pos (tz b)
  unfold clr
  omega
theorem clr_xor {b : Nat} (h : 0 < b) : b ^^^ 2 ^ tz b = clr b := by
  apply Nat.eq_of_testBit_eq
  intro i
  rw [clr_bit h, Nat.testBit_xor, Nat.testBit_two_pow]
  by_cases c : i = tz b
  · subst c; simp [tz_bit h]
  · simp [c, Ne.symm c]

/-! ### Python's bits -/
theorem and_cast (a b : Nat) : Builtin.bitAnd (a : Int) (b : Int) = ((a &&& b : Nat) : Int) := by
  simp [Builtin.bitAnd]
theorem not_not (x : Int) : Builtin.bitNot (Builtin.bitNot x) = x := by unfold Builtin.bitNot; omega
theorem or_cast (a b : Nat) : Builtin.bitOr (a : Int) (b : Int) = ((a ||| b : Nat) : Int) := by
  have h1 : ¬ (0 ≤ Builtin.bitNot (a : Int)) := by unfold Builtin.bitNot; omega
  have h2 : ¬ (0 ≤ Builtin.bitNot (b : Int)) := by unfold Builtin.bitNot; omega
  unfold Builtin.bitOr Builtin.bitAnd
  rw [decide_eq_false h1, decide_eq_false h2]
  show Builtin.bitNot (Builtin.bitNot _) = _
  rw [not_not, not_not, not_not]
  rfl
theorem xor_add (a b : Nat) : (a ^^^ b) + (a &&& b) = (a ||| b) := by
  have key : ∀ n a b : Nat, a ≤ n → (a ^^^ b) + (a &&& b) = (a ||| b) := by
    intro n
    induction n with
    | zero =>
      intro a b h
      obtain rfl : a = 0 := by omega
      simp
    | succ n ih =>
      intro a b h
      have d1 : (a ^^^ b) / 2 = a / 2 ^^^ b / 2 := Nat.xor_div_two
      have d2 : (a &&& b) / 2 = a / 2 &&& b / 2 := Nat.and_div_two
      have d3 : (a ||| b) / 2 = a / 2 ||| b / 2 := Nat.or_div_two
      have m2 := and_mod2 a b
      have m1 : (a ^^^ b) % 2 ^ 1 = (a % 2 ^ 1) ^^^ (b % 2 ^ 1) := Nat.xor_mod_two_pow
      have m3 : (a ||| b) % 2 ^ 1 = (a % 2 ^ 1) ||| (b % 2 ^ 1) := Nat.or_mod_two_pow
      rw [show (2 : Nat) ^ 1 = 2 from rfl] at m1 m3
      by_cases c : a = 0
      · subst c; simp
      · have k := ih (a / 2) (b / 2) (by omega)
        have q : (a ^^^ b) % 2 + (a &&& b) % 2 = (a ||| b) % 2 := by
          rw [m1, m2, m3]
          rcases Nat.mod_two_eq_zero_or_one a with h | h <;> rcases Nat.mod_two_eq_zero_or_one b with h' | h' <;> rw [h, h'] <;> rfl
        omega
  exact key a a b (Nat.le_refl _)
theorem xor_cast (a b : Nat) : Builtin.bitXor (a : Int) (b : Int) = ((a ^^^ b : Nat) : Int) := by
  unfold Builtin.bitXor
  rw [or_cast, and_cast]
  have := xor_add a b
  omega
/-- b & -b -/
theorem and_neg {b : Nat} (h : 0 < b) : Builtin.bitAnd (b : Int) (-(b : Int)) = ((2 ^ tz b : Nat) : Int) := by
  have h1 : ¬ (0 : Int) ≤ -(b : Int) := by omega
  unfold Builtin.bitAnd
  rw [decide_eq_true (show (0 : Int) ≤ (b : Int) by omega), decide_eq_false h1]
  show (b : Int) - (((b : Int).toNat &&& (Builtin.bitNot (-(b : Int))).toNat : Nat) : Int) = _
  have e : (Builtin.bitNot (-(b : Int))).toNat = b - 1 := by unfold Builtin.bitNot; omega
  rw [e, Int.toNat_natCast]
  have := land_pred h
  omega
/-- b + 1 & ~b -/
theorem and_not_succ (b : Nat) : Builtin.bitAnd ((b : Int) + 1) (Builtin.bitNot (b : Int)) = ((2 ^ tz (b + 1) : Nat) : Int) := by
  have e1 : ((b : Int) + 1) = ((b + 1 : Nat) : Int) := by omega
  have e2 : Builtin.bitNot (b : Int) = -((b + 1 : Nat) : Int) := by unfold Builtin.bitNot; omega
  rw [e1, e2]
  exact and_neg (by omega)
/-- a & ~b -/
theorem and_not_cast (a b : Nat) : Builtin.bitAnd (a : Int) (Builtin.bitNot (b : Int)) = ((a ^^^ (a &&& b) : Nat) : Int) := by
  have h1 : ¬ (0 : Int) ≤ Builtin.bitNot (b : Int) := by unfold Builtin.bitNot; omega
  unfold Builtin.bitAnd
  rw [decide_eq_true (show (0 : Int) ≤ (a : Int) by omega), decide_eq_false h1]
  show (a : Int) - (((a : Int).toNat &&& (Builtin.bitNot (Builtin.bitNot (b : Int))).toNat : Nat) : Int) = _
  rw [not_not, Int.toNat_natCast, Int.toNat_natCast]
  have e := xor_add a (a &&& b)
  have e2 : a &&& (a &&& b) = a &&& b := by
    apply Nat.eq_of_testBit_eq; intro i; simp only [Nat.testBit_and]; cases a.testBit i <;> simp
  have e3 : a ||| (a &&& b) = a := by
    apply Nat.eq_of_testBit_eq; intro i; simp only [Nat.testBit_and, Nat.testBit_or]; cases a.testBit i <;> simp
  rw [e2, e3] at e
  omega
/-- a & ~b -/
def andn (a b : Nat) : Nat := a ^^^ (a &&& b)
theorem andn_bit (a b i : Nat) : (andn a b).testBit i = (a.testBit i && !b.testBit i) := by
  unfold andn
  rw [Nat.testBit_xor, Nat.testBit_and]
  cases a.testBit i <;> cases b.testBit i <;> rfl
theorem bits_pow (k : Nat) : Builtin.Int.intBits ((2 ^ k : Nat) : Int) = k + 1 := by
  unfold Builtin.Int.intBits
  have : ¬ (((2 ^ k : Nat) : Int) == 0) = true := by
    have p := Nat.two_pow_pos k
    simp only [beq_iff_eq]
    omega
  rw [if_neg this]
  have e : (((2 ^ k : Nat) : Int)).natAbs = 2 ^ k := Int.natAbs_natCast _
  rw [e, Nat.log2_two_pow]
theorem bits_cast (b : Nat) : Builtin.Int.intBits (b : Int) = if b = 0 then 0 else b.log2 + 1 := by
  unfold Builtin.Int.intBits
  by_cases c : b = 0
  · subst c; rfl
  · rw [if_neg c, if_neg (by simpa using (show (b : Int) ≠ 0 by omega)), Int.natAbs_natCast]

theorem sorted_ext : ∀ {l1 l2 : List Nat}, l1.Pairwise (· < ·) → l2.Pairwise (· < ·) → (∀ x, x ∈ l1 ↔ x ∈ l2) → l1 = l2
  | [], [], _, _, _ => rfl
  | [], b :: l2, _, _, h => absurd ((h b).mpr List.mem_cons_self) (by simp)
  | a :: l1, [], _, _, h => absurd ((h a).mp List.mem_cons_self) (by simp)
  | a :: l1, b :: l2, p1, p2, h => by
    obtain ⟨q1, r1⟩ := List.pairwise_cons.mp p1
    obtain ⟨q2, r2⟩ := List.pairwise_cons.mp p2
    have e : a = b := by
      rcases List.mem_cons.mp ((h a).mp List.mem_cons_self) with e | e
      · exact e
      · rcases List.mem_cons.mp ((h b).mpr List.mem_cons_self) with e' | e'
        · exact e'.symm
        · have := q2 a e
          have := q1 b e'
          omega
    subst e
    have t : ∀ x, x ∈ l1 ↔ x ∈ l2 := fun x => by
      constructor
      · intro hx
        rcases List.mem_cons.mp ((h x).mp (List.mem_cons_of_mem _ hx)) with e | e
        · have := q1 x hx; omega
        · exact e
      · intro hx
        rcases List.mem_cons.mp ((h x).mpr (List.mem_cons_of_mem _ hx)) with e | e
        · have := q2 x hx; omega
        · exact e
    rw [sorted_ext r1 r2 t]

/-- the places of the bits, rising -/
def bitsOf (b : Nat) : List Nat := (List.range (b.log2 + 1)).filter b.testBit
theorem mem_bitsOf {b i : Nat} : i ∈ bitsOf b ↔ b.testBit i = true := by
  unfold bitsOf
  rw [List.mem_filter, List.mem_range]
  refine ⟨fun h => h.2, fun h => ⟨?_, h⟩⟩
  have a := Nat.ge_two_pow_of_testBit h
  have c : b < 2 ^ (b.log2 + 1) := Nat.lt_log2_self
  have d : 2 ^ i < 2 ^ (b.log2 + 1) := by omega
  exact (Nat.pow_lt_pow_iff_right (by decide : 1 < 2)).mp d
theorem range_sorted (n : Nat) : (List.range n).Pairwise (· < ·) := List.pairwise_lt_range
theorem bitsOf_sorted (b : Nat) : (bitsOf b).Pairwise (· < ·) := List.Pairwise.filter _ (range_sorted _)
theorem bitsOf_eq {b n : Nat} (h : b < 2 ^ n) : bitsOf b = (List.range n).filter b.testBit := by
  refine sorted_ext (bitsOf_sorted b) (List.Pairwise.filter _ (range_sorted _)) fun x => ?_
  rw [mem_bitsOf, List.mem_filter, List.mem_range]
  refine ⟨fun q => ⟨?_, q⟩, fun q => q.2⟩
  have a := Nat.ge_two_pow_of_testBit q
  have d : 2 ^ x < 2 ^ n := by omega
  exact (Nat.pow_lt_pow_iff_right (by decide : 1 < 2)).mp d
theorem bitsOf_zero : bitsOf 0 = [] := by
  refine List.eq_nil_iff_forall_not_mem.mpr fun x hx => ?_
  rw [mem_bitsOf] at hx; simp at hx
theorem bitsOf_lt {b n i : Nat} (h : b < 2 ^ n) (hi : i ∈ bitsOf b) : i < n := by
  rw [bitsOf_eq h, List.mem_filter, List.mem_range] at hi
  exact hi.1
theorem bitsOf_clr {b : Nat} (h : 0 < b) : bitsOf b = tz b :: bitsOf (clr b) := by
  refine sorted_ext (bitsOf_sorted b) ?_ fun x => ?_
  · refine List.pairwise_cons.mpr ⟨fun y hy => ?_, bitsOf_sorted _⟩
    rw [mem_bitsOf, clr_bit h] at hy
    simp only [Bool.and_eq_true, decide_eq_true_eq] at hy
    rcases Nat.lt_trichotomy (tz b) y with q | q | q
    · exact q
    · exact absurd q.symm hy.2
    · rw [tz_low h q] at hy; exact absurd hy.1 (by simp)
  · rw [List.mem_cons, mem_bitsOf, mem_bitsOf, clr_bit h]
    by_cases c : x = tz b
    · subst c; simp [tz_bit h]
    · simp [c]
theorem bitsOf_ne {b : Nat} (h : 0 < b) : bitsOf b ≠ [] := by rw [bitsOf_clr h]; simp
theorem bitsOf_len {b n : Nat} (h : b < 2 ^ n) : (bitsOf b).length ≤ n := by
  rw [bitsOf_eq h]
  exact Nat.le_trans (List.length_filter_le _ _) (by simp)
theorem bitsOf_inj {a b : Nat} (h : bitsOf a = bitsOf b) : a = b := by
  apply Nat.eq_of_testBit_eq
  intro i
  have := @mem_bitsOf a i
  rw [h, mem_bitsOf] at this
  cases x : a.testBit i <;> cases y : b.testBit i <;> simp_all
/-- how many bits -/
def popc (b : Nat) : Nat := (bitsOf b).length
theorem popc_zero : popc 0 = 0 := by unfold popc; rw [bitsOf_zero]; rfl
theorem popc_clr {b : Nat} (h : 0 < b) : popc b = popc (clr b) + 1 := by unfold popc; rw [bitsOf_clr h]; rfl
theorem popc_pos {b : Nat} (h : 0 < b) : 0 < popc b := by rw [popc_clr h]; omega

/-! ### runs -/
abbrev Pr := Nat × Nat
def stepR (acc : List Pr) (x : Nat) : List Pr :=
  match acc.getLast? with
  | some p => if p.2 + 1 = x then acc.dropLast ++ [(p.1, x)] else acc ++ [(x, x)]
  | none => [(x, x)]
/-- the longest runs of a rising list -/
def runsL (l : List Nat) : List Pr := l.foldl stepR []
theorem stepR_snoc (pre : List Pr) (p : Pr) (x : Nat) : stepR (pre ++ [p]) x = if p.2 + 1 = x then pre ++ [(p.1, x)] else pre ++ [p] ++ [(x, x)] := by
  unfold stepR
  rw [List.getLast?_append]
  simp
theorem stepR_ne {acc : List Pr} (x : Nat) : stepR acc x ≠ [] := by
  unfold stepR
  split
  · split <;> simp
  · simp
theorem stepR_app {pre acc : List Pr} (h : acc ≠ []) (x : Nat) : stepR (pre ++ acc) x = pre ++ stepR acc x := by
  obtain ⟨q, p, rfl⟩ : ∃ q p, acc = q ++ [p] := ⟨acc.dropLast, acc.getLast h, (List.dropLast_concat_getLast h).symm⟩
  rw [← List.append_assoc, stepR_snoc, stepR_snoc]
  split <;> simp
theorem fold_app : ∀ (l : List Nat) {pre acc : List Pr}, acc ≠ [] → l.foldl stepR (pre ++ acc) = pre ++ l.foldl stepR acc
  | [], _, _, _ => rfl
  | x :: l, pre, acc, h => by
    rw [List.foldl_cons, List.foldl_cons, stepR_app h]
    exact fold_app l (stepR_ne x)
theorem fold_far {l : List Nat} {p : Pr} (h : ∀ x, l.head? = some x → p.2 + 1 < x) : l.foldl stepR [p] = p :: runsL l := by
  cases l with
  | nil => rfl
  | cons x l =>
    have := h x rfl
    unfold runsL
    rw [List.foldl_cons, List.foldl_cons]
    have e : stepR [p] x = [p] ++ [(x, x)] := by
      have := stepR_snoc [] p x
      rw [List.nil_append, if_neg (by omega)] at this
      simpa using this
    have e2 : stepR [] x = [(x, x)] := rfl
    rw [e, e2, fold_app l (by simp)]
    rfl
/-- a, a + 1, .., of m numbers -/
def upto (a m : Nat) : List Nat := (List.range m).map (a + ·)
theorem upto_succ (a m : Nat) : upto a (m + 1) = upto a m ++ [a + m] := by
  unfold upto
  rw [List.range_succ, List.map_append]; rfl
theorem upto_cons (a m : Nat) : upto a (m + 1) = a :: upto (a + 1) m := by
  unfold upto
  rw [List.range_succ_eq_map, List.map_cons, List.map_map]
  congr 1
  apply List.map_congr_left
  intro x _
  simp; omega
theorem mem_upto {a m x : Nat} : x ∈ upto a m ↔ a ≤ x ∧ x < a + m := by
  unfold upto
  rw [List.mem_map]
  constructor
  · rintro ⟨y, h, rfl⟩
    rw [List.mem_range] at h
    omega
  · intro h
    exact ⟨x - a, List.mem_range.mpr (by omega), by omega⟩
theorem upto_sorted (a m : Nat) : (upto a m).Pairwise (· < ·) := by
  unfold upto
  rw [List.pairwise_map]
  exact (range_sorted m).imp fun h => by omega
theorem upto_len (a m : Nat) : (upto a m).length = m := by unfold upto; simp
theorem fold_upto (pre : List Pr) (a b : Nat) : ∀ k, (upto (b + 1) k).foldl stepR (pre ++ [(a, b)]) = pre ++ [(a, b + k)]
  | 0 => rfl
  | k + 1 => by
    rw [upto_succ, List.foldl_append, fold_upto pre a b k, List.foldl_cons, List.foldl_nil, stepR_snoc, if_pos (by simp; omega)]
    simp; omega
theorem runsL_run {a m : Nat} {l : List Nat} (h : ∀ x, l.head? = some x → a + m < x) (hm : 0 < m) : runsL (upto a m ++ l) = (a, a + m - 1) :: runsL l := by
  obtain ⟨k, rfl⟩ : ∃ k, m = k + 1 := ⟨m - 1, by omega⟩
  unfold runsL
  rw [List.foldl_append, upto_cons, List.foldl_cons]
  have e : stepR [] a = [] ++ [(a, a)] := rfl
  rw [e, fold_upto [] a a k, List.nil_append, fold_far (fun x hx => by have := h x hx; simp; omega)]
  rfl
theorem runsL_nil : runsL [] = [] := rfl
/-- all runs lie within -/
theorem stepR_mem {acc : List Pr} {x : Nat} {p : Pr} (h : p ∈ stepR acc x) : p ∈ acc ∨ (p.2 = x ∧ (p.1 = x ∨ ∃ q ∈ acc, q.1 = p.1 ∧ q.2 + 1 = x)) := by
  unfold stepR at h
  split at h
  · rename_i q hq
    have hm := List.mem_of_getLast? hq
    split at h
    · rename_i c
      rcases List.mem_append.mp h with h | h
      · exact .inl ((List.dropLast_subset _ h))
      · simp at h; subst h; exact .inr ⟨rfl, .inr ⟨q, hm, rfl, c⟩⟩
    · rcases List.mem_append.mp h with h | h
      · exact .inl h
      · simp at h; subst h; exact .inr ⟨rfl, .inl rfl⟩
  · simp at h; subst h; exact .inr ⟨rfl, .inl rfl⟩
theorem runsL_snoc (l : List Nat) (x : Nat) : runsL (l ++ [x]) = stepR (runsL l) x := by
  unfold runsL; rw [List.foldl_append]; rfl
theorem runsL_mem : ∀ (n : Nat) (l : List Nat), l.length = n → ∀ p ∈ runsL l, p.1 ∈ l ∧ p.2 ∈ l ∧ p.1 ≤ p.2 := by
  intro n
  induction n with
  | zero => intro l hl p hp; have : l = [] := List.eq_nil_of_length_eq_zero hl; subst this; simp [runsL] at hp
  | succ n ih =>
    intro l hl p hp
    obtain ⟨q, x, rfl⟩ : ∃ q x, l = q ++ [x] := by
      have h : l ≠ [] := by intro e; subst e; simp at hl
      exact ⟨l.dropLast, l.getLast h, (List.dropLast_concat_getLast h).symm⟩
    rw [runsL_snoc] at hp
    have hq : q.length = n := by simpa using hl
    rcases stepR_mem hp with h | ⟨h1, h2 | ⟨r, hr, h2, h3⟩⟩
    · obtain ⟨a, b, c⟩ := ih q hq p h
      exact ⟨List.mem_append_left _ a, List.mem_append_left _ b, c⟩
    · exact ⟨by simp [h2], by simp [h1], by omega⟩
    · obtain ⟨a, b, c⟩ := ih q hq r hr
      exact ⟨by rw [← h2]; exact List.mem_append_left _ a, by simp [h1], by omega⟩
theorem runsL_len : ∀ (n : Nat) (l : List Nat), l.length = n → (runsL l).length ≤ n := by
  intro n
  induction n with
  | zero => intro l hl; have : l = [] := List.eq_nil_of_length_eq_zero hl; subst this; simp [runsL]
  | succ n ih =>
    intro l hl
    obtain ⟨q, x, rfl⟩ : ∃ q x, l = q ++ [x] := by
      have h : l ≠ [] := by intro e; subst e; simp at hl
      exact ⟨l.dropLast, l.getLast h, (List.dropLast_concat_getLast h).symm⟩
    rw [runsL_snoc]
    have := ih q (by simpa using hl)
    unfold stepR
    split
    · split
      · simp; omega
      · simp; omega
    · simp
/-- how many there are in the runs -/
def runSum (l : List Pr) : Int := (l.map fun p => (p.2 : Int) - (p.1 : Int) + 1).sum
theorem runSum_app (l m : List Pr) : runSum (l ++ m) = runSum l + runSum m := by unfold runSum; rw [List.map_append, List.sum_append]
theorem runSum_step (acc : List Pr) (x : Nat) : runSum (stepR acc x) = runSum acc + 1 := by
  by_cases h : acc = []
  · subst h; simp [stepR, runSum]
  · obtain ⟨q, p, rfl⟩ : ∃ q p, acc = q ++ [p] := ⟨acc.dropLast, acc.getLast h, (List.dropLast_concat_getLast h).symm⟩
    rw [stepR_snoc]
    split
    · rename_i c
      rw [runSum_app, runSum_app]
      simp [runSum]; omega
    · rw [runSum_app]
      simp [runSum]
theorem runSum_runs (l : List Nat) : runSum (runsL l) = l.length := by
  have : ∀ (l : List Nat) (acc : List Pr), runSum (l.foldl stepR acc) = runSum acc + l.length := by
    intro l
    induction l with
    | nil => intro acc; simp
    | cons x l ih => intro acc; rw [List.foldl_cons, ih, runSum_step]; simp; omega
  have h := this l []
  unfold runsL
  rw [h]; simp [runSum]

/-! ### the program's own way through the runs -/
/-- what is left behind a gap and a run -/
theorem peel {b : Nat} (h : 0 < b) (g c m r : Nat) (hg : g = tz b) (hc : c = b / 2 ^ g) (hm : m = tz (c + 1)) (hr : r = c / 2 ^ m) :
    0 < m ∧ bitsOf b = upto g m ++ (bitsOf r).map (g + m + ·) ∧ (∀ x, ((bitsOf r).map (g + m + ·)).head? = some x → g + m < x) ∧ r < b := by
  have cb : ∀ i, c.testBit i = b.testBit (i + g) := fun i => by rw [hc, Nat.testBit_div_two_pow]
  have c0 : c.testBit 0 = true := by rw [cb, Nat.zero_add, hg]; exact tz_bit h
  have codd : c % 2 = 1 := by
    rw [Nat.testBit_zero] at c0; simpa using c0
  have hm0 : 0 < m := by rw [hm, tz_even (by omega) (by omega)]; omega
  have clow : ∀ i, i < m → c.testBit i = true := fun i hi => by
    have := pred_bit (b := c + 1) (by omega) i
    rw [Nat.add_sub_cancel, if_pos (by omega)] at this
    exact this
  have cm : c.testBit m = false := by
    have := pred_bit (b := c + 1) (by omega) m
    rw [Nat.add_sub_cancel, if_neg (by omega), if_pos hm] at this
    exact this
  have rb : ∀ i, r.testBit i = c.testBit (i + m) := fun i => by rw [hr, Nat.testBit_div_two_pow]
  have r0 : r.testBit 0 = false := by rw [rb, Nat.zero_add]; exact cm
  have far : ∀ x ∈ (bitsOf r).map (g + m + ·), g + m < x := fun x hx => by
    obtain ⟨y, hy, rfl⟩ := List.mem_map.mp hx
    rw [mem_bitsOf] at hy
    cases y with
    | zero => rw [r0] at hy; cases hy
    | succ y => omega
  refine ⟨hm0, ?_, fun x hx => far x (List.mem_of_mem_head? hx), ?_⟩
  · refine sorted_ext (bitsOf_sorted b) ?_ fun x => ?_
    · refine List.pairwise_append.mpr ⟨upto_sorted _ _, ?_, fun x hx y hy => ?_⟩
      · rw [List.pairwise_map]
        exact (bitsOf_sorted r).imp fun q => by omega
      · have := far y hy
        rw [mem_upto] at hx
        omega
    · rw [mem_bitsOf, List.mem_append, mem_upto, List.mem_map]
      by_cases c1 : x < g
      · rw [tz_low h (by omega)]
        constructor
        · intro z; cases z
        · rintro (z | ⟨y, _, z⟩) <;> omega
      · obtain ⟨y, rfl⟩ : ∃ y, x = y + g := ⟨x - g, by omega⟩
        rw [← cb]
        by_cases c2 : y < m
        · rw [clow y c2]
          simp; left; omega
        · obtain ⟨z, rfl⟩ : ∃ z, y = z + m := ⟨y - m, by omega⟩
          rw [← rb]
          constructor
          · intro q; exact .inr ⟨z, mem_bitsOf.mpr q, by omega⟩
          · rintro (q | ⟨u, hu, q⟩)
            · omega
            · have : u = z := by omega
              subst this; exact mem_bitsOf.mp hu
  · have a : c ≤ b := by rw [hc]; exact Nat.div_le_self _ _
    have : r < c := by
      rw [hr]
      exact Nat.div_lt_self (by omega) (by have := Nat.pow_lt_pow_right (a := 2) (by decide) hm0; omega)
    omega
theorem runs_map_add (k : Nat) (l : List Nat) : runsL (l.map (k + ·)) = (runsL l).map fun p => (k + p.1, k + p.2) := by
  have : ∀ (l : List Nat) (acc : List Pr), (l.map (k + ·)).foldl stepR (acc.map fun p => (k + p.1, k + p.2)) = (l.foldl stepR acc).map fun p => (k + p.1, k + p.2) := by
    intro l
    induction l with
    | nil => intro acc; rfl
    | cons x l ih =>
      intro acc
      rw [List.map_cons, List.foldl_cons, List.foldl_cons, ← ih]
      congr 1
      by_cases h : acc = []
      · subst h; rfl
      · obtain ⟨q, p, rfl⟩ : ∃ q p, acc = q ++ [p] := ⟨acc.dropLast, acc.getLast h, (List.dropLast_concat_getLast h).symm⟩
        rw [List.map_append, List.map_cons, List.map_nil, stepR_snoc, stepR_snoc]
        by_cases c : p.2 + 1 = x
        · rw [if_pos c, if_pos (by simp; omega)]; simp
        · rw [if_neg c, if_neg (by simp; omega)]; simp
  exact this l []
/-- the runs of bits -/
def runsB (b : Nat) : List Pr := runsL (bitsOf b)
theorem runsB_zero : runsB 0 = [] := by unfold runsB; rw [bitsOf_zero]; rfl
theorem runsB_peel {b : Nat} (h : 0 < b) (g c m r : Nat) (hg : g = tz b) (hc : c = b / 2 ^ g) (hm : m = tz (c + 1)) (hr : r = c / 2 ^ m) :
    runsB b = (g, g + m - 1) :: (runsB r).map fun p => (g + m + p.1, g + m + p.2) := by
  obtain ⟨h1, h2, h3, _⟩ := peel h g c m r hg hc hm hr
  unfold runsB
  rw [h2, runsL_run h3 h1, runs_map_add]
theorem runSum_B (b : Nat) : runSum (runsB b) = popc b := runSum_runs _

/-! ### what weighs least: 0 a row, 1 runs, 2 words -/
def kindB (b : Nat) : Nat :=
  if popc b ≤ 2 * (runsB b).length ∧ popc b ≤ 32 then 0 else if 2 * (runsB b).length ≤ 32 then 1 else 2

/-! ### callables -/
structure Cal (P : Program) (w : World) (K : PySem.W.Frag) (mg : Str → Option Value) (base : Heap) (k : Nat) (x : Str) (sp : Sp) (dvs : List V) : Prop where
  ex : ∃ (f : Addr) (fd : FuncData) (ps : List Str) (ds : List Value), FnOk P w K mg base (L2N.CX P w) k f fd ps sp ∧ mg x = some (.ref f) ∧ PySem.W.keepIn K (.ref f) = true ∧ Binds K fd ps ds ∧ Vals dvs ds
structure Met (P : Program) (w : World) (K : PySem.W.Frag) (mg : Str → Option Value) (base : Heap) (k : Nat) (C : Addr) (m : Str) (sp : Sp) (dvs : List V) : Prop where
  ex : ∃ (f : Addr) (fd : FuncData) (ps : List Str) (ds : List Value), Cls K C ∧ L2.Meth K C m f ∧ FnOk P w K mg base (L2N.CX P w) k f fd ps sp ∧ Binds K fd ps ds ∧ Vals dvs ds
structure Mak (P : Program) (w : World) (K : PySem.W.Frag) (mg : Str → Option Value) (base : Heap) (k : Nat) (x : Str) (C : Addr) (sp : Sp) (dvs : List V) : Prop where
  ex : ∃ (f : Addr) (fd : FuncData) (ps : List Str) (ds : List Value), L2.Mk K C f ∧ FnOk P w K mg base (L2N.CX P w) k f fd ps sp ∧ mg x = some (.ref C) ∧ Binds K fd ps ds ∧ Vals dvs ds
/-- a method of one of several classes: fam says which promise a class's own has -/
def tMethF (fam : Addr → Sp → Prop) (m : Str) (dvs : List V) (E : XK) (ta : TE) (t : TA) : TE := fun σ H Q => ta σ H fun x H1 => ∃ a C dx fs sp, x = .ref a ∧ H1 a = some (.ins C dx fs) ∧ fam C sp ∧ fs.lookup m = none ∧
  t σ H1 fun vs H2 => sp (x :: (vs ++ dvs)) H2 Q E
section
variable {X : Cx} {k j : Nat} {C : Addr} {sp : Sp} {dvs : List V} {E : XK} {x m : Str} {p pos apos : Pos} {e o : Expr} {es : List Expr} {ta : TE} {t : TA}
theorem pe_c (c : Cal X.prog X.w X.K X.mg X.base k x sp dvs) (hr : Room j X.A) (hk : k ≤ j) (hg : Gl X x) (hx : Passes (L2N.CX X.prog X.w) X E) (ha : PA X (e :: es) t) (hdb : (x == ("__debug__" : Str)) = false := by decide)
    (he : starEach (e :: es) X.env = (false, eval e X.env) :: starEach es X.env := by rfl) (hpl : (backTo pos (starEach es X.env)).any (·.1) = false := by rfl) : PE X (.Call (.Name x p) (e :: es) [] pos) (tCall sp dvs E t) := by
  obtain ⟨f, fd, ps, ds, F, hm, kp, b, v⟩ := c.ex
  exact pe_call F (hr.mono hk) hg hm kp b v hx ha hdb he hpl
theorem pe_c0 (c : Cal X.prog X.w X.K X.mg X.base k x sp dvs) (hr : Room j X.A) (hk : k ≤ j) (hg : Gl X x) (hx : Passes (L2N.CX X.prog X.w) X E) (hdb : (x == ("__debug__" : Str)) = false := by decide) : PE X (.Call (.Name x p) [] [] pos) (tCall sp dvs E tNil) := by
  obtain ⟨f, fd, ps, ds, F, hm, kp, b, v⟩ := c.ex
  exact pe_call0 F (hr.mono hk) hg hm kp b v hx hdb
theorem pe_mk (c : Mak X.prog X.w X.K X.mg X.base k x C sp dvs) (hr : Room j X.A) (hk : k + 1 ≤ j) (hg : Gl X x) (hx : Passes (L2N.CX X.prog X.w) X E) (ha : PA X (e :: es) t) (hdb : (x == ("__debug__" : Str)) = false := by decide)
    (he : starEach (e :: es) X.env = (false, eval e X.env) :: starEach es X.env := by rfl) (hpl : (backTo pos (starEach es X.env)).any (·.1) = false := by rfl) : PE X (.Call (.Name x p) (e :: es) [] pos) (tMake C sp dvs E t) := by
  obtain ⟨f, fd, ps, ds, M, F, hm, b, v⟩ := c.ex
  exact pe_make M F (hr.mono hk) hg hm b v hx ha hdb he hpl
theorem pe_mk0 (c : Mak X.prog X.w X.K X.mg X.base k x C sp dvs) (hr : Room j X.A) (hk : k + 1 ≤ j) (hg : Gl X x) (hx : Passes (L2N.CX X.prog X.w) X E) (hdb : (x == ("__debug__" : Str)) = false := by decide) : PE X (.Call (.Name x p) [] [] pos) (tMake C sp dvs E tNil) := by
  obtain ⟨f, fd, ps, ds, M, F, hm, b, v⟩ := c.ex
  exact pe_make0 M F (hr.mono hk) hg hm b v hx hdb
theorem pe_m {fam : Addr → Sp → Prop} {pl : Sem Bool} (c : ∀ C sp, fam C sp → Met X.prog X.w X.K X.mg X.base k C m sp dvs) (hr : Room j X.A) (hk : k ≤ j) (hx : Passes (L2N.CX X.prog X.w) X E) (he : PE X o ta) (ha : PA X (e :: es) t)
    (hst : starEach (e :: es) X.env = (false, eval e X.env) :: starEach es X.env := by rfl) (hpl : (backTo pos (starEach es X.env)).any (·.1) = false := by rfl)
    (ht : eval (.Call (.Attribute o m apos) (e :: es) [] pos) X.env = (do
      let ov ← eval o X.env
      standAt apos.atName
      let (f, first) ← holding [ov] (getMethod ov m pl)
      callWith pos f first (backTo pos (starEach (e :: es) X.env)) (backToKw pos (keywordEach [] X.env))) := by rfl) :
    PE X (.Call (.Attribute o m apos) (e :: es) [] pos) (tMethF fam m dvs E ta t) := by
  refine ⟨fun pins s σ H Q I h => ?_⟩
  refine PySem.W.methodCall_KW (pl := pl) (thn (he.run pins s σ H _ I h) fun u s1 ⟨x, H1, I1, rx, a, C, dx, fs, sp, ex, ea, fm, l, q⟩ => ?_) ht
  obtain ⟨f, fd, ps, ds, cl, me, F, b, v⟩ := (c C sp fm).ex
  subst ex
  obtain rfl : u = Value.ref a := rx
  refine getmeth_ok I1 ea cl me l ?_
  refine PySem.W.callWith_K (first := [.ref a]) (h₀ := X.base) I.ok.mod.kin me.kp (thn (ha.run pos pins s1 σ H1 _ I1 q) fun us s2 ⟨vs, H2, I2, r, q2⟩ => ⟨I2.kIn, ?_⟩) hst hpl
  exact run_fn (us := .ref a :: us) (vs := .ref a :: vs) F (hr.mono hk) b v hx I2 (.cons rfl r) q2
theorem pe_m0 {fam : Addr → Sp → Prop} {pl : Sem Bool} (c : ∀ C sp, fam C sp → Met X.prog X.w X.K X.mg X.base k C m sp dvs) (hr : Room j X.A) (hk : k ≤ j) (hx : Passes (L2N.CX X.prog X.w) X E) (he : PE X o ta)
    (ht : eval (.Call (.Attribute o m apos) [] [] pos) X.env = (do
      let ov ← eval o X.env
      standAt apos.atName
      let (f, first) ← holding [ov] (getMethod ov m pl)
      callWith pos f first (backTo pos (starEach [] X.env)) (backToKw pos (keywordEach [] X.env))) := by rfl) :
    PE X (.Call (.Attribute o m apos) [] [] pos) (tMethF fam m dvs E ta tNil) := by
  refine ⟨fun pins s σ H Q I h => ?_⟩
  refine PySem.W.methodCall_KW (pl := pl) (thn (he.run pins s σ H _ I h) fun u s1 ⟨x, H1, I1, rx, a, C, dx, fs, sp, ex, ea, fm, l, q⟩ => ?_) ht
  obtain ⟨f, fd, ps, ds, cl, me, F, b, v⟩ := (c C sp fm).ex
  subst ex
  obtain rfl : u = Value.ref a := rx
  refine getmeth_ok I1 ea cl me l ?_
  exact PySem.W.callWith_K0 (first := [.ref a]) I1.kIn me.kp (run_fn (us := [.ref a]) (vs := [.ref a]) F (hr.mono hk) b v hx I1 (.cons rfl .nil) q)
end

/-! ### operators of several kinds -/
def rAdd : R2 := fun x y H Q => rI0 (fun i j => .int (i + j)) x y H Q ∨ (∃ i j, x = .str i ∧ y = .str j ∧ i.length + j.length ≤ sizeLine ∧ Q (.str (i ++ j)) H) ∨ rCat x y H Q
theorem u_add {X : Cx} : OpR X (binaryOp .Add) rAdd := op_add.or (op_add_str.or op_cat)
def rSub : R2 := rI0 fun i j => .int (i - j)
theorem u_sub {X : Cx} : OpR X (binaryOp .Sub) rSub := op_sub
def rMul : R2 := fun x y H Q => rI CMul (fun i j => .int (i * j)) x y H Q ∨ rI CMulX (fun i j => .int (i * j)) x y H Q ∨ rRep x y H Q
theorem u_mul {X : Cx} : OpR X (binaryOp .Mult) rMul := op_mul.or (op_mulX.or op_rep)
def rFdv : R2 := rI CDiv fun i j => .int (i / j)
theorem u_fdv {X : Cx} : OpR X (binaryOp .FloorDiv) rFdv := op_fdiv
def rMod : R2 := rI (fun _ j => 0 < j) fun i j => .int (i % j)
theorem u_mod {X : Cx} : OpR X (binaryOp .Mod) rMod := op_mod
def rShl : R2 := rI CShl fun i j => .int (i * 2 ^ j.toNat)
theorem u_shl {X : Cx} : OpR X (binaryOp .LShift) rShl := op_shlW
def rShr : R2 := rI (fun _ j => 0 ≤ j) fun i j => .int (i / 2 ^ j.toNat)
theorem u_shr {X : Cx} : OpR X (binaryOp .RShift) rShr := op_shr
def rBan : R2 := rI0 fun i j => .int (Builtin.bitAnd i j)
theorem u_ban {X : Cx} : OpR X (binaryOp .BitAnd) rBan := op_and
def rBor : R2 := rI0 fun i j => .int (Builtin.bitOr i j)
theorem u_bor {X : Cx} : OpR X (binaryOp .BitOr) rBor := op_or
def rBxo : R2 := rI0 fun i j => .int (Builtin.bitXor i j)
theorem u_bxo {X : Cx} : OpR X (binaryOp .BitXor) rBxo := op_xor
def rNeg : V → Hp → VK → Prop := rU fun i => .int (-i)
theorem u_neg {X : Cx} : UnR X (unaryOp .USub) rNeg := un_neg
def rInv : V → Hp → VK → Prop := rU fun i => .int (Builtin.bitNot i)
theorem u_inv {X : Cx} : UnR X (unaryOp .Invert) rInv := un_inv
/-- in place -/
def pAdd : R2 := fun x y H Q => rI0 (fun i j => .int (i + j)) x y H Q ∨ (∃ i j, x = .str i ∧ y = .str j ∧ i.length + j.length ≤ sizeLine ∧ Q (.str (i ++ j)) H) ∨ rExt2 x y H Q
theorem p_add {X : Cx} : PIp X .Add pAdd := iop_add.or (iop_add_str.or iop_ext)
def pSub : R2 := rI0 fun i j => .int (i - j)
theorem p_sub {X : Cx} : PIp X .Sub pSub := iop_sub
def pShr : R2 := rI (fun _ j => 0 ≤ j) fun i j => .int (i / 2 ^ j.toNat)
theorem p_shr {X : Cx} : PIp X .RShift pShr := iop_shr
def pShl : R2 := rI CShl fun i j => .int (i * 2 ^ j.toNat)
theorem p_shl {X : Cx} : PIp X .LShift pShl := iop_shlW
def pBan : R2 := rI0 fun i j => .int (Builtin.bitAnd i j)
theorem p_ban {X : Cx} : PIp X .BitAnd pBan := iop_and
def pBor : R2 := rI0 fun i j => .int (Builtin.bitOr i j)
theorem p_bor {X : Cx} : PIp X .BitOr pBor := iop_or
def pBxo : R2 := rI0 fun i j => .int (Builtin.bitXor i j)
theorem p_bxo {X : Cx} : PIp X .BitXor pBxo := iop_xor
/-- comparisons -/
def rEqu (K : PySem.W.Frag) : R2 := fun x y H Q => rEq x y H Q ∨ rEqD K x y H Q
theorem u_eq {X : Cx} {k : Nat} (hr : Room k X.A) : OpR X (compareOp .Eq) (rEqu X.K) := op_eq.or (op_eqD (by have := hr.un; omega))
def rNeu (K : PySem.W.Frag) : R2 := fun x y H Q => rNe x y H Q ∨ rNeD K x y H Q
theorem u_ne {X : Cx} {k : Nat} (hr : Room k X.A) : OpR X (compareOp .NotEq) (rNeu X.K) := op_ne.or (op_neD (by have := hr.un; omega))
def rLt : R2 := rI0 fun i j => .bl (decide (i < j))
theorem u_lt {X : Cx} : OpR X (compareOp .Lt) rLt := op_lt
def rLe : R2 := rI0 fun i j => .bl (decide (i ≤ j))
theorem u_le {X : Cx} : OpR X (compareOp .LtE) rLe := op_le
def rGt : R2 := rI0 fun i j => .bl (decide (j < i))
theorem u_gt {X : Cx} : OpR X (compareOp .Gt) rGt := op_gt
def rGe : R2 := rI0 fun i j => .bl (decide (j ≤ i))
theorem u_ge {X : Cx} : OpR X (compareOp .GtE) rGe := op_ge
def rIsN : R2 := fun x y H Q => y = .non ∧ Q (.bl (decide (x = .non))) H
theorem u_is {X : Cx} : OpR X (compareOp .Is) rIsN := op_isN
def rNotN : R2 := fun x y H Q => y = .non ∧ Q (.bl (!decide (x = .non))) H
theorem u_isnot {X : Cx} : OpR X (compareOp .IsNot) rNotN := op_notN
/-- x in: a list, a tuple -/
theorem u_in {X : Cx} : OpR X (compareOp .In) (rIn X.K false) := op_in_seq
theorem u_notin {X : Cx} : OpR X (compareOp .NotIn) (rIn X.K true) := op_notIn_seq
/-- walked: a list, a tuple, a text -/
def iSeq (K : PySem.W.Frag) (tl : TE) : TI := fun σ H R => iList K tl σ H R ∨ iTup K tl σ H R ∨ iStr tl σ H R
theorem PI.or {X : Cx} {tg e : Expr} {w1 w2 : TI} (h1 : PI X tg e w1) (h2 : PI X tg e w2) : PI X tg e (fun σ H R => w1 σ H R ∨ w2 σ H R) := by
  constructor
  intros
  first
  | (rename_i h; rcases h with h | h; · exact h1.run _ _ _ _ _ (by assumption) h
     · exact h2.run _ _ _ _ _ (by assumption) h)
theorem pi_seq {X : Cx} {tg e : Expr} {tl : TE} (h : PE X e tl) : PI X tg e (iSeq X.K tl) := PI.or (pi_list h) (PI.or (pi_tup h) (pi_str h))
/-- a call's way out, within a def -/
theorem passUp {P : Program} {w : World} {K : PySem.W.Frag} {mg : Str → Option Value} {base : Heap} {N : List Str} {qual : Str} {scope : Scope} {f : Addr} {cd : Value} {A : Around} {outer : List Env} {s : Shared} {H : Hp} {E : XK} :
    Passes (L2N.CX P w) (cxOf (L2N.CX P w) P w K mg base N qual scope f cd A outer s H E) E :=
  L2N.passes_call (L2N.takes_of (X := cxOf (L2N.CX P w) P w K mg base N qual scope f cd A outer s H E) rfl rfl rfl rfl) fun _ _ _ _ h => h
theorem ownUp {P : Program} {w : World} {K : PySem.W.Frag} {mg : Str → Option Value} {base : Heap} {N : List Str} {qual : Str} {scope : Scope} {f : Addr} {cd : Value} {A : Around} {outer : List Env} {s : Shared} {H : Hp} {E : XK} :
    PassesOwn (model P w) (cxOf (L2N.CX P w) P w K mg base N qual scope f cd A outer s H E).A (cxOf (L2N.CX P w) P w K mg base N qual scope f cd A outer s H E).env (cxOf (L2N.CX P w) P w K mg base N qual scope f cd A outer s H E).xe :=
  passes_of (X := cxOf (L2N.CX P w) P w K mg base N qual scope f cd A outer s H E) rfl

/-! ### readings, from the left -/
section
variable {K : PySem.W.Frag} {σ : L2.St} {H H1 H2 : Hp} {Q : VK} {D : Ends} {v x y : V}
theorem w_var {i : Nat} (h : σ[i]? = some (some v)) (q : Q v H) : tVar i σ H Q := ⟨v, h, q⟩
theorem w_c (q : Q v H) : tC v σ H Q := q
theorem w_op {r : R2} {ta tb : TE} (h : ta σ H fun x H1 => tb σ H1 fun y H2 => r x y H2 Q) : tOp r ta tb σ H Q := h
theorem w_un {r : V → Hp → VK → Prop} {ta : TE} (h : ta σ H fun x H1 => r x H1 Q) : tUn r ta σ H Q := h
theorem w_nil {R : List V → Hp → Prop} (q : R [] H) : tNil σ H R := q
theorem w_cons {ta : TE} {tr : TA} {R : List V → Hp → Prop} (h : ta σ H fun x H1 => tr σ H1 fun xs H2 => R (x :: xs) H2) : tCons ta tr σ H R := h
theorem w_tup {t : TA} (h : t σ H fun xs H1 => xs.length ≤ sizeLine ∧ ∀ p, H1 p = none → Q (.ref p) (upd H1 p (.tup xs))) : tTup t σ H Q := h
theorem w_lst {t : TA} (h : t σ H fun xs H1 => xs.length ≤ sizeLine ∧ ∀ p, H1 p = none → Q (.ref p) (upd H1 p (.lst xs))) : tLst t σ H Q := h
theorem w_cb {r : List V → Hp → VK → Prop} {t : TA} (h : t σ H fun vs H1 => r vs H1 Q) : tCB r t σ H Q := h
theorem w_call {sp : Sp} {dvs : List V} {E : XK} {t : TA} (h : t σ H fun vs H1 => sp (vs ++ dvs) H1 Q E) : tCall sp dvs E t σ H Q := h
theorem w_meth {fam : Addr → Sp → Prop} {m : Str} {dvs : List V} {E : XK} {ta : TE} {t : TA} (h : ta σ H fun x H1 => ∃ a C dx fs sp, x = .ref a ∧ H1 a = some (.ins C dx fs) ∧ fam C sp ∧ fs.lookup m = none ∧ t σ H1 fun vs H2 => sp (x :: (vs ++ dvs)) H2 Q E) : tMethF fam m dvs E ta t σ H Q := h
theorem w_make {C : Addr} {sp : Sp} {dvs : List V} {E : XK} {t : TA} (h : t σ H fun vs H1 => ∀ x dx, H1 x = none → H1 dx = none → dx ≠ x → sp (.ref x :: (vs ++ dvs)) (upd (upd H1 dx (.own x)) x (.ins C dx [])) (fun v H2 => v = .non ∧ Q (.ref x) H2) E) : tMake C sp dvs E t σ H Q := h
theorem w_fld {ta : TE} {f : Str} (h : ta σ H fun x H1 => ∃ a C dx fs v, x = .ref a ∧ H1 a = some (.ins C dx fs) ∧ Cls K C ∧ NoAttr K C f ∧ fs.lookup f = some v ∧ Q v H1) : tFld K ta f σ H Q := h
theorem w_bm {T : String} {r : V → List V → Hp → VK → Prop} {to : TE} {t : TA} (h : to σ H fun x H1 => tyV K T x H1 ∧ t σ H1 fun xs H2 => r x xs H2 Q) : tBM K T r to t σ H Q := h
theorem w_bm0 {T : String} {r : V → List V → Hp → VK → Prop} {to : TE} (h : to σ H fun x H1 => tyV K T x H1 ∧ r x [] H1 Q) : tBM0 K T r to σ H Q := h
theorem w_bits {to : TE} (h : to σ H fun x H1 => ∃ i, x = .int i ∧ Q (.int (Builtin.Int.intBits i : Nat)) H1) : tBits to σ H Q := h
theorem w_bits1 {i : Int} {R : Int → Prop} (q : R i) : ∃ j, V.int i = .int j ∧ R j := ⟨i, rfl, q⟩
theorem w_bits2 {i : Int} {R : Int → Prop} {j : Int} (e : i = j) (q : R j) : ∃ j, V.int i = .int j ∧ R j := ⟨j, by rw [e], q⟩
theorem w_sl {r : V → Option Int → Option Int → Hp → VK → Prop} {te : TE} {tl th : TO} (h : te σ H fun x H1 => tl σ H1 fun l H2 => th σ H2 fun u H3 => r x l u H3 Q) : tSl r te tl th σ H Q := h
theorem w_nopart {R : Option Int → Hp → Prop} (q : R none H) : tNoPart σ H R := q
theorem w_part {t : TE} {R : Option Int → Hp → Prop} (h : t σ H fun x H1 => ∃ i, x = .int i ∧ R (some i) H1) : tPart t σ H R := h
theorem w_ife {t : TT} {ta tb : TE} (h : t σ H fun c H1 => if c = true then ta σ H1 Q else tb σ H1 Q) : tIf t ta tb σ H Q := h
theorem w_andv {ta tb : TE} (h : ta σ H fun x H1 => ∃ c, x = .bl c ∧ if c = true then tb σ H1 Q else Q (.bl false) H1) : tAndV ta tb σ H Q := h
theorem w_orv {ta tb : TE} (h : ta σ H fun x H1 => ∃ c, x = .bl c ∧ if c = true then Q (.bl true) H1 else tb σ H1 Q) : tOrV ta tb σ H Q := h
theorem w_notv {ta : TE} (h : ta σ H fun x H1 => ∃ c, x = .bl c ∧ Q (.bl (!c)) H1) : tNotV ta σ H Q := h
theorem w_chain {r r' : R2} {ta tb tc : TE} (h : ta σ H fun x H1 => tb σ H1 fun y H2 => r x y H2 fun z H3 => ∃ k, z = .bl k ∧ (if k = true then tc σ H3 fun w' H4 => r' y w' H4 Q else Q (.bl false) H3)) : tChain r r' ta tb tc σ H Q := h
/-- tests -/
theorem w_test {t : TE} {R : Bool → Hp → Prop} (h : t σ H fun x H1 => ∃ k, x = .bl k ∧ R k H1) : tTest t σ H R := h
theorem w_tb {t : TE} {R : Bool → Hp → Prop} (h : t σ H fun x H1 => ∃ k, x = .bl k ∧ R k H1) : tB t σ H R := h
theorem w_bl {b : Bool} {R : Bool → Prop} (q : R b) : ∃ k, V.bl b = .bl k ∧ R k := ⟨b, rfl, q⟩
theorem w_and {t u : TT} {R : Bool → Hp → Prop} (h : t σ H fun c H1 => if c = true then u σ H1 R else R false H1) : tAnd t u σ H R := h
theorem w_or {t u : TT} {R : Bool → Hp → Prop} (h : t σ H fun c H1 => if c = true then R true H1 else u σ H1 R) : tOr t u σ H R := h
theorem w_not {t : TT} {R : Bool → Hp → Prop} (h : t σ H fun c H1 => R (!c) H1) : tNot t σ H R := h
/-- statements -/
theorem w_seq {t u : TS} (h : t { D with nx := u D } σ H) : tSeq t u D σ H := h
theorem w_next (h : D.nx σ H) : tNext D σ H := h
theorem w_drop {te : TE} (h : te σ H fun _ H1 => D.nx σ H1) : tDrop te D σ H := h
theorem w_ret {te : TE} (h : te σ H D.rt) : tRet te D σ H := h
theorem w_retn (h : D.rt .non H) : tRetN D σ H := h
theorem w_ifs {c : TT} {t u : TS} (h : c σ H fun b H1 => if b = true then t D σ H1 else u D σ H1) : tIfS c t u D σ H := h
theorem w_asg {te : TE} {g : TG} (h : te σ H fun x H1 => g x σ H1 D.nx) : tAsg te g D σ H := h
theorem w_name {i : Nat} {R : L2.St → Hp → Prop} (q : R (σ.set i (some v)) H) : gName i v σ H R := q
theorem w_gsub {to ti : TE} {t : TSet} {R : L2.St → Hp → Prop} (q : to σ H fun o H1 => ti σ H1 fun i H2 => t o i v H2 fun H3 => R σ H3) : gSub to ti t v σ H R := q
theorem w_yes {R : Bool → Hp → Prop} (q : R true H) : tYes σ H R := q
theorem w_gnil {R : L2.St → Hp → Prop} (q : R σ H) : gNil [] σ H R := ⟨rfl, q⟩
theorem w_gcons {t : TG} {u : TGs} {r : List V} {R : L2.St → Hp → Prop} (q : t v σ H fun σ' H' => u r σ' H' R) : gCons t u (v :: r) σ H R := ⟨v, r, rfl, q⟩
theorem w_aug {i : Nat} {te : TE} {ti : TIp} (h : σ[i]? = some (some x)) (q : te σ H fun y H1 => ti x y H1 fun z H2 => D.nx (σ.set i (some z)) H2) : tAug i te ti D σ H := ⟨x, h, q⟩
/-- operators by values -/
theorem r_add {i j : Int} (q : Q (.int (i + j)) H) : rAdd (.int i) (.int j) H Q := .inl ⟨i, j, rfl, rfl, q⟩
theorem r_adds {i j : Str} (h : i.length + j.length ≤ sizeLine) (q : Q (.str (i ++ j)) H) : rAdd (.str i) (.str j) H Q := .inr (.inl ⟨i, j, rfl, rfl, h, q⟩)
theorem r_sub {i j : Int} (q : Q (.int (i - j)) H) : rSub (.int i) (.int j) H Q := ⟨i, j, rfl, rfl, q⟩
theorem r_mul {i j : Int} (h : CMul i j) (q : Q (.int (i * j)) H) : rMul (.int i) (.int j) H Q := .inl ⟨i, j, rfl, rfl, h, q⟩
theorem r_mulX {i j : Int} (h : CMulX i j) (q : Q (.int (i * j)) H) : rMul (.int i) (.int j) H Q := .inr (.inl ⟨i, j, rfl, rfl, h, q⟩)
theorem r_fdv {i j : Int} (h : CDiv i j) (q : Q (.int (i / j)) H) : rFdv (.int i) (.int j) H Q := ⟨i, j, rfl, rfl, h, q⟩
theorem r_mod {i j : Int} (h : 0 < j) (q : Q (.int (i % j)) H) : rMod (.int i) (.int j) H Q := ⟨i, j, rfl, rfl, h, q⟩
theorem r_shl {i j : Int} (h : CShl i j) (q : Q (.int (i * 2 ^ j.toNat)) H) : rShl (.int i) (.int j) H Q := ⟨i, j, rfl, rfl, h, q⟩
theorem r_shr {i j : Int} (h : 0 ≤ j) (q : Q (.int (i / 2 ^ j.toNat)) H) : rShr (.int i) (.int j) H Q := ⟨i, j, rfl, rfl, h, q⟩
theorem r_ban {i j : Int} (q : Q (.int (Builtin.bitAnd i j)) H) : rBan (.int i) (.int j) H Q := ⟨i, j, rfl, rfl, q⟩
theorem r_bor {i j : Int} (q : Q (.int (Builtin.bitOr i j)) H) : rBor (.int i) (.int j) H Q := ⟨i, j, rfl, rfl, q⟩
theorem r_bxo {i j : Int} (q : Q (.int (Builtin.bitXor i j)) H) : rBxo (.int i) (.int j) H Q := ⟨i, j, rfl, rfl, q⟩
theorem r_neg {i : Int} (q : Q (.int (-i)) H) : rNeg (.int i) H Q := ⟨i, rfl, q⟩
theorem r_inv {i : Int} (q : Q (.int (Builtin.bitNot i)) H) : rInv (.int i) H Q := ⟨i, rfl, q⟩
theorem r_padd {i j : Int} (q : Q (.int (i + j)) H) : pAdd (.int i) (.int j) H Q := .inl ⟨i, j, rfl, rfl, q⟩
theorem r_padds {i j : Str} (h : i.length + j.length ≤ sizeLine) (q : Q (.str (i ++ j)) H) : pAdd (.str i) (.str j) H Q := .inr (.inl ⟨i, j, rfl, rfl, h, q⟩)
theorem r_psub {i j : Int} (q : Q (.int (i - j)) H) : pSub (.int i) (.int j) H Q := ⟨i, j, rfl, rfl, q⟩
theorem r_pshr {i j : Int} (h : 0 ≤ j) (q : Q (.int (i / 2 ^ j.toNat)) H) : pShr (.int i) (.int j) H Q := ⟨i, j, rfl, rfl, h, q⟩
theorem r_pshl {i j : Int} (h : CShl i j) (q : Q (.int (i * 2 ^ j.toNat)) H) : pShl (.int i) (.int j) H Q := ⟨i, j, rfl, rfl, h, q⟩
theorem r_pban {i j : Int} (q : Q (.int (Builtin.bitAnd i j)) H) : pBan (.int i) (.int j) H Q := ⟨i, j, rfl, rfl, q⟩
theorem r_pbor {i j : Int} (q : Q (.int (Builtin.bitOr i j)) H) : pBor (.int i) (.int j) H Q := ⟨i, j, rfl, rfl, q⟩
theorem r_pbxo {i j : Int} (q : Q (.int (Builtin.bitXor i j)) H) : pBxo (.int i) (.int j) H Q := ⟨i, j, rfl, rfl, q⟩
theorem r_eqi {i j : Int} (q : Q (.bl (decide (i = j))) H) : rEqu K (.int i) (.int j) H Q := .inl ⟨rfl, by
  have e : decide (V.int i = V.int j) = decide (i = j) := by rw [dec_int, Bool.beq_eq_decide_eq]
  rw [e]; exact q⟩
theorem r_nei {i j : Int} (q : Q (.bl (!decide (i = j))) H) : rNeu K (.int i) (.int j) H Q := .inl ⟨rfl, by
  have e : decide (V.int i = V.int j) = decide (i = j) := by rw [dec_int, Bool.beq_eq_decide_eq]
  rw [e]; exact q⟩
theorem r_eqb {i j : Bool} (q : Q (.bl (decide (i = j))) H) : rEqu K (.bl i) (.bl j) H Q := .inl ⟨rfl, by
  have e : decide (V.bl i = V.bl j) = decide (i = j) := by rw [dec_bl, Bool.beq_eq_decide_eq]
  rw [e]; exact q⟩
theorem r_neb {i j : Bool} (q : Q (.bl (!decide (i = j))) H) : rNeu K (.bl i) (.bl j) H Q := .inl ⟨rfl, by
  have e : decide (V.bl i = V.bl j) = decide (i = j) := by rw [dec_bl, Bool.beq_eq_decide_eq]
  rw [e]; exact q⟩
theorem r_eqs {i j : Str} (q : Q (.bl (decide (i = j))) H) : rEqu K (.str i) (.str j) H Q := .inl ⟨rfl, by
  have e : decide (V.str i = V.str j) = decide (i = j) := by rw [Bool.eq_iff_iff]; simp
  rw [e]; exact q⟩
theorem r_nes {i j : Str} (q : Q (.bl (!decide (i = j))) H) : rNeu K (.str i) (.str j) H Q := .inl ⟨rfl, by
  have e : decide (V.str i = V.str j) = decide (i = j) := by rw [Bool.eq_iff_iff]; simp
  rw [e]; exact q⟩
theorem r_eqsc (h : scal x y = true) (q : Q (.bl (decide (x = y))) H) : rEqu K x y H Q := .inl ⟨h, q⟩
theorem r_nesc (h : scal x y = true) (q : Q (.bl (!decide (x = y))) H) : rNeu K x y H Q := .inl ⟨h, q⟩
theorem r_eqd {d e : PyData} (hd : Dp K H x d) (he : Dp K H y e) (sd : SeqAt.shaped d = true) (se : SeqAt.shaped e = true) (q : Q (.bl (PyData.eqv d e)) H) : rEqu K x y H Q := .inr ⟨d, e, hd, he, sd, se, q⟩
theorem r_ned {d e : PyData} (hd : Dp K H x d) (he : Dp K H y e) (sd : SeqAt.shaped d = true) (se : SeqAt.shaped e = true) (q : Q (.bl (!PyData.eqv d e)) H) : rNeu K x y H Q := .inr ⟨d, e, hd, he, sd, se, q⟩
theorem r_lt {i j : Int} (q : Q (.bl (decide (i < j))) H) : rLt (.int i) (.int j) H Q := ⟨i, j, rfl, rfl, q⟩
theorem r_le {i j : Int} (q : Q (.bl (decide (i ≤ j))) H) : rLe (.int i) (.int j) H Q := ⟨i, j, rfl, rfl, q⟩
theorem r_gt {i j : Int} (q : Q (.bl (decide (j < i))) H) : rGt (.int i) (.int j) H Q := ⟨i, j, rfl, rfl, q⟩
theorem r_ge {i j : Int} (q : Q (.bl (decide (j ≤ i))) H) : rGe (.int i) (.int j) H Q := ⟨i, j, rfl, rfl, q⟩
theorem r_is (q : Q (.bl (decide (x = .non))) H) : rIsN x .non H Q := ⟨rfl, q⟩
theorem r_isnot (q : Q (.bl (!decide (x = .non))) H) : rNotN x .non H Q := ⟨rfl, q⟩
/-- subscripts -/
theorem r_ixL {p : Addr} {xs : List V} {i : Int} (h : SqL K H p xs) (e : atI xs i = some v) (q : Q v H) : rIx K (.ref p) (.int i) H Q := .inl ⟨p, xs, i, v, rfl, rfl, h, e, q⟩
theorem r_ixT {p : Addr} {xs : List V} {i : Int} (h : SqT K H p xs) (e : atI xs i = some v) (q : Q v H) : rIx K (.ref p) (.int i) H Q := .inr (.inl ⟨p, xs, i, v, rfl, rfl, h, e, q⟩)
end
/-! ### if -/
theorem if_t {c : Bool} {A B : Prop} (h : c = true) (a : A) : if c = true then A else B := by rw [if_pos h]; exact a
theorem if_f {c : Bool} {A B : Prop} (h : c = false) (b : B) : if c = true then A else B := by rw [h, if_neg Bool.false_ne_true]; exact b
theorem if_d {c : Prop} [Decidable c] {A B : Prop} (h1 : c → A) (h2 : ¬ c → B) : if decide c = true then A else B := by
  by_cases h : c
  · rw [decide_eq_true h, if_pos rfl]; exact h1 h
  · rw [decide_eq_false h, if_neg Bool.false_ne_true]; exact h2 h
theorem if_nd {c : Prop} [Decidable c] {A B : Prop} (h1 : ¬ c → A) (h2 : c → B) : if (!decide c) = true then A else B := by
  by_cases h : c
  · rw [decide_eq_true h]; exact h2 h
  · rw [decide_eq_false h]; exact h1 h
theorem if_b {c : Bool} {A B : Prop} (h1 : c = true → A) (h2 : c = false → B) : if c = true then A else B := by
  cases c
  · exact h2 rfl
  · exact h1 rfl
theorem w_nT {A B : Prop} (h : B) : if (!true) = true then A else B := h
theorem w_nF {A B : Prop} (h : A) : if (!false) = true then A else B := h
/-! ### while, for -/
theorem w_while {c : TT} {tb : TS} {D : Ends} {σ : L2.St} {H : Hp} (W : Nat → L2.St → Hp → Prop) (m : Nat) (h0 : W m σ H) (hs : ∀ m σ H, W m σ H → c σ H fun b H1 => if b = true then ∃ N : L2.St → Hp → Prop, (∀ σ' H', N σ' H' → ∃ m', m' < m ∧ W m' σ' H') ∧ tb { D with nx := N, ct := N, bk := D.nx } σ H1 else D.nx σ H1) :
    tWhile c tb D σ H := ⟨W, ⟨m, h0⟩, hs⟩
theorem w_body {W : Nat → L2.St → Hp → Prop} {m : Nat} {tb : (L2.St → Hp → Prop) → Prop} (h : tb fun σ' H' => ∃ m', m' < m ∧ W m' σ' H') : ∃ N : L2.St → Hp → Prop, (∀ σ' H', N σ' H' → ∃ m', m' < m ∧ W m' σ' H') ∧ tb N := ⟨_, fun _ _ x => x, h⟩
section
variable {K : PySem.W.Frag} {tl : TE} {g : TG} {tb : TS} {D : Ends} {σ : L2.St} {H : Hp}
theorem w_for {wi : TI} (h : wi σ H fun J H1 => ∃ W : Nat → Nat → L2.St → Hp → Prop, (∃ m, W 0 m σ H1) ∧ ∀ i m σ H, W i m σ H →
    (J.stop i H ∧ D.nx σ H) ∨ (J.go i H ∧ ∃ N : L2.St → Hp → Prop, (∀ σ' H', N σ' H' → ∃ m', m' < m ∧ W (i + 1) m' σ' H') ∧ ∀ x H', J.yld i H x H' → g x σ H' fun σ2 H2 => tb { D with nx := N, ct := N, bk := D.nx } σ2 H2)) : tFor wi g tb D σ H := h
theorem w_rng1 {ta : TA} {R : It → Hp → Prop} (h : ta σ H fun vs H1 => ∃ j : Int, vs = [.int j] ∧ -(2 ^ 62) ≤ j ∧ j < 2 ^ 62 ∧ R (Itr 0 j.toNat) H1) : iRng1 ta σ H R := h
theorem w_rng2 {ta : TA} {R : It → Hp → Prop} (h : ta σ H fun vs H1 => ∃ i j : Int, vs = [.int i, .int j] ∧ (-(2 ^ 62) ≤ i ∧ i < 2 ^ 62 ∧ -(2 ^ 62) ≤ j ∧ j < 2 ^ 62) ∧ R (Itr i (j - i).toNat) H1) : iRng2 ta σ H R := h
theorem w_iList {R : It → Hp → Prop} (h : tl σ H fun x H1 => ∃ a, x = .ref a ∧ (∃ xs, SqL K H1 a xs) ∧ R (Itl K a) H1) : iList K tl σ H R := h
theorem w_iTup {R : It → Hp → Prop} (h : tl σ H fun x H1 => ∃ a, x = .ref a ∧ (∃ xs, SqT K H1 a xs) ∧ R (Itt K a) H1) : iTup K tl σ H R := h
theorem w_iStr {R : It → Hp → Prop} (h : tl σ H fun v H1 => ∃ x, v = .str x ∧ R (Its x) H1) : iStr tl σ H R := h
theorem w_ort {ta tb : TE} {Q : VK} (h : ta σ H fun x H1 => ∃ k, TruV K x H1 k ∧ if k = true then Q x H1 else tb σ H1 Q) : tOrT K ta tb σ H Q := h
theorem w_revL {ta : TE} {Q : VK} (h : ta σ H fun x H1 => ∃ a xs, x = .ref a ∧ SqL K H1 a xs ∧ ∀ p, H1 p = none → Q (.ref p) (upd H1 p (.lst xs.reverse))) : tRevL K ta σ H Q := h
theorem w_lockE {t : TE} {Q : VK} (h : ∃ d u, H d = some u ∧ Mut (some u) ∧ ∀ od, t σ (upd H d (.frz od u)) fun v H' => H' d = some (.frz od u) ∧ Q v (upd H' d u)) : tLockE t σ H Q := h
theorem w_lockS {t : TS} (h : ∃ d u, H d = some u ∧ Mut (some u) ∧ ∀ od, t ⟨fun σ' H' => H' d = some (.frz od u) ∧ D.nx σ' (upd H' d u), fun v H' => H' d = some (.frz od u) ∧ D.rt v (upd H' d u), fun σ' H' => H' d = some (.frz od u) ∧ D.bk σ' (upd H' d u), fun σ' H' => H' d = some (.frz od u) ∧ D.ct σ' (upd H' d u)⟩ σ (upd H d (.frz od u))) : tLock t D σ H := h
theorem w_dget {td ty : TE} {Q : VK} (h : td σ H fun x H1 => ty σ H1 fun y H2 => ∃ a v, x = .ref a ∧ DGet H2 a y (some v) ∧ Q v H2) : tDGet td ty σ H Q := h
theorem w_din {td ty : TE} {Q : VK} (h : ty σ H fun y H1 => td σ H1 fun x H2 => ∃ a o, x = .ref a ∧ DGet H2 a y o ∧ Q (.bl o.isSome) H2) : tDIn ty td σ H Q := h
theorem w_dnotin {td ty : TE} {Q : VK} (h : ty σ H fun y H1 => td σ H1 fun x H2 => ∃ a o, x = .ref a ∧ DGet H2 a y o ∧ Q (.bl (!o.isSome)) H2) : tDNotIn ty td σ H Q := h
theorem w_dput {td ty tv : TE} (h : tv σ H fun v H1 => td σ H1 fun x H2 => ty σ H2 fun y H3 => ∃ a H4, x = .ref a ∧ DPut H3 a y v H4 ∧ D.nx σ H4) : sDPut td ty tv D σ H := h
theorem w_dpop2 {td ty tx : TE} {Q : VK} (h : td σ H fun x H1 => ∃ a, x = .ref a ∧ IsD H1 a ∧ ty σ H1 fun y H2 => tx σ H2 fun z H3 => ∃ kvs k, H3 a = some (.dK kvs) ∧ y = kV k ∧ (∀ v, valV kvs k = some v → Q v (upd H3 a (.dK (dropK kvs k)))) ∧ (valV kvs k = none → Q z H3)) : tDPop2 td ty tx σ H Q := h
theorem w_sfld {ta tv : TE} {f : Str} (h : tv σ H fun y H1 => ta σ H1 fun x H2 => ∃ a C dx fs, x = .ref a ∧ H2 a = some (.ins C dx fs) ∧ Cls K C ∧ NoAttr K C f ∧ fs.length < 1000 ∧ D.nx σ (upd H2 a (.ins C dx (putF f y fs)))) : sFld K ta tv f D σ H := h
theorem w_iItems {R : It → Hp → Prop} (h : tl σ H fun x H1 => ∃ d o kvs, x = .ref d ∧ H1 d = some (.frz o (.dK kvs)) ∧ R (Iti d o kvs) H1) : iItems tl σ H R := h
theorem w_iVals {R : It → Hp → Prop} (h : tl σ H fun x H1 => ∃ d o kvs, x = .ref d ∧ H1 d = some (.frz o (.dK kvs)) ∧ R (Itd d o kvs) H1) : iVals tl σ H R := h
theorem w_iKeys {R : It → Hp → Prop} (h : tl σ H fun x H1 => ∃ d o, x = .ref d ∧ ((∃ kvs, H1 d = some (.frz o (.dK kvs)) ∧ R (Itk d o kvs) H1) ∨ ∃ kvs, H1 d = some (.frz o (.dT kvs)) ∧ R (Itkt d o kvs) H1)) : iKeys tl σ H R := h
theorem w_lc {wi : TI} {tt : TT} {te : TE} {vs : List Nat} {Q : VK} (h : wi σ H fun J H1 => ∀ D, H1 D = none → ∃ W : Nat → Nat → Hp → Prop, (∃ m, W 0 m (upd H1 D (.lst []))) ∧ ∀ i m H, W i m H →
  (J.stop i H ∧ Q (.ref D) H) ∨ (J.go i H ∧ ∃ Nx : Hp → Prop, (∀ H', Nx H' → ∃ m', m' < m ∧ W (i + 1) m' H') ∧ ∀ x H', J.yld i H x H' → g x (wipe σ vs) H' fun σ2 H2 => wipe σ2 vs = wipe σ vs ∧ tt σ2 H2 fun b H3 =>
    if b = true then te σ2 H3 fun y H4 => ∃ acc, H4 D = some (.lst acc) ∧ acc.length < sizeLine ∧ Nx (upd H4 D (.lst (acc ++ [y]))) else Nx H3)) : tLc wi g tt te vs σ H Q := h
/-- over a list: P (turn, slots, heap) -/
theorem w_forL (h : tl σ H fun x H1 => ∃ a xs, x = .ref a ∧ SqL K H1 a xs ∧ ∃ P : Nat → L2.St → Hp → Prop, P 0 σ H1 ∧ (∀ i σ H, i ≤ xs.length → P i σ H → SqL K H a xs) ∧
    (∀ i x σ H, xs[i]? = some x → P i σ H → g x σ H fun σ2 H2 => tb { D with nx := P (i + 1), ct := P (i + 1), bk := D.nx } σ2 H2) ∧ ∀ σ H, P xs.length σ H → D.nx σ H)
    (mono : ∀ Q Q' : VK, (∀ v H, Q v H → Q' v H) → tl σ H Q → tl σ H Q') : tFor (iSeq K tl) g tb D σ H := by
  refine .inl (mono _ _ ?_ h)
  rintro v H1 ⟨a, xs, rfl, hx, P, h0, hl, hs, hd⟩
  exact ⟨a, rfl, ⟨xs, hx⟩, for_list (K := K) (a := a) (xs := xs) P h0 hl hs hd⟩
end

/-! ### heaps that grow -/
theorem new_of {H H1 : Hp} {p : Addr} {o : HO} (np : H p = none) (e : upd H p o = H1) : Same H H1 ∧ H1 p = some o ∧ ∀ b, H1 b = none → H b = none := by
  subst e
  refine ⟨fun b u q => ?_, upd_same, fun b q => ?_⟩
  · rw [upd_ne (ne_of_none q np)]; exact q
  · by_cases c : b = p
    · subst c; exact np
    · rw [upd_ne c] at q; exact q
/-- what the caller knew stays, though the local list at p is written -/
theorem _root_.L2.Same.mut {H H' : Hp} {p : Addr} {o : HO} (s : Same H H') (h : H p = none) : Same H (upd H' p o) := fun b u q => by
  rw [upd_ne (ne_of_none q h)]; exact s b u q
theorem _root_.L2.Same.tup {K : PySem.W.Frag} {H H' : Hp} {a : Addr} {xs : List V} (e : Same H H') (h : SqT K H a xs) : SqT K H' a xs := by
  rcases h with (h | ⟨o, h⟩) | h
  · exact .inl (.inl (e _ _ h))
  · exact .inl (.inr ⟨o, e _ _ h⟩)
  · exact .inr h
mutual
theorem dp_ext {K : PySem.W.Frag} {H H' : Hp} (e : Same H H') : ∀ (d : PyData) {v : V}, Dp K H v d → Dp K H' v d
  | .none, _, h => by cases h; exact .non
  | .bool b, _, h => by cases h; exact .bl b
  | .int i, _, h => by cases h; exact .int i
  | .str x, _, h => by cases h; exact .str x
  | .list ds, _, h => by
    cases h with
    | lst h1 h2 => exact .lst (e.seq h1) (dpa_ext e ds h2)
  | .tuple ds, _, h => by
    cases h with
    | tup h1 h2 => exact .tup (Same.tup e h1) (dpa_ext e ds h2)
  | .dict _, _, h => by cases h
theorem dpa_ext {K : PySem.W.Frag} {H H' : Hp} (e : Same H H') : ∀ (ds : List PyData) {vs : List V}, DpAll K H vs ds → DpAll K H' vs ds
  | [], _, h => by cases h; exact .nil
  | d :: ds, _, h => by
    cases h with
    | cons h1 h2 => exact .cons (dp_ext e d h1) (dpa_ext e ds h2)
end
theorem _root_.L2.Dp.ext {K : PySem.W.Frag} {H H' : Hp} {v : V} {d : PyData} (h : Dp K H v d) (e : Same H H') : Dp K H' v d := dp_ext e d h
theorem _root_.L2.DpAll.ext {K : PySem.W.Frag} {H H' : Hp} {vs : List V} {ds : List PyData} (h : DpAll K H vs ds) (e : Same H H') : DpAll K H' vs ds := dpa_ext e ds h
theorem dpa_len {K : PySem.W.Frag} {H : Hp} : ∀ {vs : List V} {ds : List PyData}, DpAll K H vs ds → vs.length = ds.length
  | _, _, .nil => rfl
  | _, _, .cons _ t => by simp [dpa_len t]
theorem dpa_get {K : PySem.W.Frag} {H : Hp} : ∀ {vs : List V} {ds : List PyData} {i : Nat} {v : V}, DpAll K H vs ds → vs[i]? = some v → ∃ d, ds[i]? = some d ∧ Dp K H v d
  | _, _, _, _, .nil, e => by simp at e
  | _, _, 0, _, .cons h _, e => by simp at e; subst e; exact ⟨_, rfl, h⟩
  | _, _, i + 1, v, .cons _ t, e => by
    obtain ⟨d, h1, h2⟩ := dpa_get (i := i) (v := v) t (by simpa using e)
    exact ⟨d, by simpa using h1, h2⟩
theorem dpa_app {K : PySem.W.Frag} {H : Hp} : ∀ {vs ws : List V} {ds es : List PyData}, DpAll K H vs ds → DpAll K H ws es → DpAll K H (vs ++ ws) (ds ++ es)
  | _, _, _, _, .nil, s => s
  | _, _, _, _, .cons r t, s => .cons r (dpa_app t s)
theorem _root_.L2.DpAll.len {K : PySem.W.Frag} {H : Hp} {vs : List V} {ds : List PyData} (h : DpAll K H vs ds) : vs.length = ds.length := dpa_len h
theorem _root_.L2.DpAll.get {K : PySem.W.Frag} {H : Hp} {vs : List V} {ds : List PyData} {i : Nat} {v : V} (h : DpAll K H vs ds) (e : vs[i]? = some v) : ∃ d, ds[i]? = some d ∧ Dp K H v d := dpa_get h e
theorem _root_.L2.DpAll.append {K : PySem.W.Frag} {H : Hp} {vs ws : List V} {ds es : List PyData} (h : DpAll K H vs ds) (g : DpAll K H ws es) : DpAll K H (vs ++ ws) (ds ++ es) := dpa_app h g
theorem dpa_ints {K : PySem.W.Frag} {H : Hp} : ∀ ns : List Int, DpAll K H (ns.map V.int) (ns.map PyData.int)
  | [] => .nil
  | n :: ns => .cons (.int n) (dpa_ints ns)

theorem dpa_split {K : PySem.W.Frag} {H : Hp} : ∀ {ys : List V} {ds : List PyData} {v : V} {d : PyData}, ys.length = ds.length → DpAll K H (ys ++ [v]) (ds ++ [d]) → DpAll K H ys ds ∧ Dp K H v d
  | [], [], _, _, _, h => by
    cases h with
    | cons h1 h2 => exact ⟨.nil, h1⟩
  | [], _ :: _, _, _, e, _ => by simp at e
  | _ :: _, [], _, _, e, _ => by simp at e
  | y :: ys, e :: ds, v, d, l, h => by
    cases h with
    | cons h1 h2 =>
      obtain ⟨a, b⟩ := dpa_split (by simpa using l) h2
      exact ⟨.cons h1 a, b⟩
/-! ### data that a callee made: it stays while the new objects stay -/
def New (H H' H'' : Hp) : Prop := ∀ b o, H b = none → H' b = some o → H'' b = some o
def Fd (K : PySem.W.Frag) (H H' : Hp) (v : V) (d : PyData) : Prop := ∀ H'', New H H' H'' → Dp K H'' v d
def Fds (K : PySem.W.Frag) (H H' : Hp) (vs : List V) (ds : List PyData) : Prop := ∀ H'', New H H' H'' → DpAll K H'' vs ds
section
variable {K : PySem.W.Frag} {H H0 H1 H2 H' : Hp} {v : V} {d : PyData} {vs : List V} {ds : List PyData} {p : Addr}
theorem New.refl : New H H' H' := fun _ _ _ q => q
theorem New.same (s : Same H1 H2) : New H H1 H2 := fun b o _ q => s b o q
theorem New.trans (a : New H H1 H2) (b : New H H2 H') : New H H1 H' := fun c o n q => b c o n (a c o n q)
theorem New.left (h : ∀ b, H0 b = none → H b = none) (a : New H H1 H2) : New H0 H1 H2 := fun c o n q => a c o (h c n) q
/-- an object of the left heap is written -/
theorem New.mut {o u : HO} (hp : H p = some u) (e : New H H1 H2) : New H H1 (upd H2 p o) := fun b q n z => by
  rw [upd_ne (fun e => by rw [e, hp] at n; cases n)]; exact e b q n z
theorem Fd.now (h : Fd K H H' v d) : Dp K H' v d := h H' New.refl
theorem Fds.now (h : Fds K H H' vs ds) : DpAll K H' vs ds := h H' New.refl
theorem Fd.to (h : Fd K H H1 v d) (e : New H H1 H2) : Fd K H H2 v d := fun H'' n => h H'' (e.trans n)
theorem Fds.to (h : Fds K H H1 vs ds) (e : New H H1 H2) : Fds K H H2 vs ds := fun H'' n => h H'' (e.trans n)
theorem Fd.left (h : Fd K H H1 v d) (e : ∀ b, H b = none → H0 b = none) : Fd K H0 H1 v d := fun H'' n => h H'' (fun b o q z => n b o (e b q) z)
theorem Fds.left (h : Fds K H H1 vs ds) (e : ∀ b, H b = none → H0 b = none) : Fds K H0 H1 vs ds := fun H'' n => h H'' (fun b o q z => n b o (e b q) z)
theorem Fd.int (i : Int) : Fd K H H' (.int i) (.int i) := fun _ _ => .int i
theorem Fd.str (i : Str) : Fd K H H' (.str i) (.str i) := fun _ _ => .str i
theorem Fd.bl (i : Bool) : Fd K H H' (.bl i) (.bool i) := fun _ _ => .bl i
theorem Fd.non : Fd K H H' .non .none := fun _ _ => .non
theorem Fds.nil : Fds K H H' [] [] := fun _ _ => .nil
theorem Fds.cons (a : Fd K H H' v d) (b : Fds K H H' vs ds) : Fds K H H' (v :: vs) (d :: ds) := fun H'' n => .cons (a H'' n) (b H'' n)
theorem Fds.snoc (b : Fds K H H' vs ds) (a : Fd K H H' v d) : Fds K H H' (vs ++ [v]) (ds ++ [d]) := fun H'' n => dpa_app (b H'' n) (.cons (a H'' n) .nil)
theorem Fds.ints (ns : List Int) : Fds K H H' (ns.map V.int) (ns.map PyData.int) := fun _ _ => dpa_ints ns
theorem Fd.lst (np : H p = none) (hp : H' p = some (.lst vs)) (h : Fds K H H' vs ds) : Fd K H H' (.ref p) (.list ds) := fun H'' n => .lst (.inl (.inl (n p _ np hp))) (h H'' n)
theorem Fd.tup (np : H p = none) (hp : H' p = some (.tup vs)) (h : Fds K H H' vs ds) : Fd K H H' (.ref p) (.tuple ds) := fun H'' n => .tup (.inl (.inl (n p _ np hp))) (h H'' n)
theorem Fds.len (h : Fds K H H' vs ds) : vs.length = ds.length := h.now.len
end
/-! ### what a list of data holds -/
theorem _root_.L2.Dp.lst_inv {K : PySem.W.Frag} {H : Hp} {v : V} {ds : List PyData} (h : Dp K H v (.list ds)) : ∃ a xs, v = .ref a ∧ SqL K H a xs ∧ DpAll K H xs ds := by
  cases h with
  | lst h1 h2 => exact ⟨_, _, rfl, h1, h2⟩
theorem _root_.L2.Dp.tup_inv {K : PySem.W.Frag} {H : Hp} {v : V} {ds : List PyData} (h : Dp K H v (.tuple ds)) : ∃ a xs, v = .ref a ∧ SqT K H a xs ∧ DpAll K H xs ds := by
  cases h with
  | tup h1 h2 => exact ⟨_, _, rfl, h1, h2⟩
theorem dpa_ints_inv {K : PySem.W.Frag} {H : Hp} : ∀ {vs : List V} {ns : List Int}, DpAll K H vs (ns.map PyData.int) → vs = ns.map V.int
  | _, [], h => by cases h; rfl
  | _, n :: ns, h => by
    cases h with
    | cons h1 h2 =>
      cases h1
      rw [dpa_ints_inv h2]; rfl
theorem sz5 {n : Nat} (h : n ≤ 100000) : n ≤ sizeLine := Nat.le_trans h (by decide)
theorem sl5 {n : Nat} (h : n < 100000) : n < sizeLine := Nat.lt_of_lt_of_le h (by decide)

/-! ### the program's addresses -/
inductive Kd where | row | runs | bits
  deriving DecidableEq
structure Cs where
  K : PySem.W.Frag
  row : Addr
  runs : Addr
  bits : Addr
  set : Addr
  sack : Addr
  eSackError : Addr
  eNoNumber : Addr
  eNoStretch : Addr
  eNoRank : Addr
  eNoText : Addr
def Cs.kd (c : Cs) : Kd → Addr
  | .row => c.row
  | .runs => c.runs
  | .bits => c.bits
/-- what the sacks' classes are -/
structure Good (c : Cs) : Prop where
  cl : ∀ k, Cls c.K (c.kd k)
  na : ∀ k, NoAttr c.K (c.kd k) "bits"
structure GoodS (c : Cs) : Prop extends Good c where
  cs : Cls c.K c.set
  ns : NoAttr c.K c.set "by_upper"
/-- an exception's class of the program's own -/
structure ExcF (K : PySem.W.Frag) (mg : Str → Option Value) (x : Str) (C : Addr) : Prop where
  xi : PySem.W.excIn K C [.type "ValueError", .type "Exception", .type "BaseException", .type "object"] "ValueError.__new__" = true
  g : mg x = some (.ref C)
  k : PySem.W.keepIn K (.ref C) = true
  b : PySem.W.subIn K (.ref C) (.type "BaseException") = some true
  t : PySem.W.typeIn K (.ref C) = some (.type "type")
theorem pmk_x {X : Cx} {x m : Str} {C : Addr} {j : Nat} {p p2 pos : Pos} (h : ExcF X.K X.mg x C) (hg : Gl X x) (hdb : (x == ("__debug__" : Str)) = false := by decide) :
    L2N.PMk X (.Call (.Name x p) [.Constant (.str m) j p2] [] pos) (fun _ H Q => Q (.ref C) none H) := L2N.pmk_own PySem.F.excBase_ValueError h.xi h.g h.k (raises_own h.b h.t) hg hdb

theorem gl_int {mg : Str → Option Value} {x : Str} {i : Int} (h : ∃ t, mg x = some (.int i t)) : ∃ u, mg x = some u ∧ RelV (.int i) u := by
  obtain ⟨t, h⟩ := h
  exact ⟨_, h, _, rfl⟩
theorem gl_str {mg : Str → Option Value} {x : Str} {i : Str} (h : ∃ t, mg x = some (.str i t)) : ∃ u, mg x = some u ∧ RelV (.str i) u := by
  obtain ⟨t, h⟩ := h
  exact ⟨_, h, _, rfl⟩

/-! ### built-ins -/
def rLen (K : PySem.W.Frag) : List V → Hp → VK → Prop := fun xs H Q => ∃ x n, xs = [x] ∧ LenV K x H n ∧ Q (.int n) H
theorem u_len {X : Cx} : CallR X (.builtin "len") (rLen X.K) := call_len
def rTuple (K : PySem.W.Frag) : List V → Hp → VK → Prop := fun xs H Q => ∃ p ys, xs = [.ref p] ∧ ((SqL K H p ys ∧ ∀ l, H l = none → Q (.ref l) (upd H l (.tup ys))) ∨ (SqT K H p ys ∧ Q (.ref p) H))
theorem u_tuple {X : Cx} : CallR X (.type "tuple") (rTuple X.K) := call_tuple_of
def rList (K : PySem.W.Frag) : List V → Hp → VK → Prop := fun xs H Q => ∃ p ys, xs = [.ref p] ∧ (SqL K H p ys ∨ SqT K H p ys) ∧ ∀ l, H l = none → Q (.ref l) (upd H l (.lst ys))
theorem u_list {X : Cx} : CallR X (.type "list") (rList X.K) := call_list_of
def rIsiU (K : PySem.W.Frag) : List V → Hp → VK → Prop := rIsi K
theorem u_isi {X : Cx} : CallR X (.builtin "isinstance") (rIsiU X.K) := call_isi
def rMaxU (K : PySem.W.Frag) : List V → Hp → VK → Prop := fun xs H Q => (∃ i j, xs = [.int i, .int j] ∧ Q (.int (if j > i then j else i)) H) ∨ rMax K xs H Q
theorem u_max {X : Cx} (hc : X.calm = true := by rfl) : CallR X (.builtin "max") (rMaxU X.K) := (call_max2 hc).or (cr_max hc)
def rMinU (K : PySem.W.Frag) : List V → Hp → VK → Prop := fun xs H Q => (∃ i j, xs = [.int i, .int j] ∧ Q (.int (if j < i then j else i)) H) ∨ rMin K xs H Q
theorem u_min {X : Cx} (hc : X.calm = true := by rfl) : CallR X (.builtin "min") (rMinU X.K) := (call_min2 hc).or (cr_min hc)
def rDivmod : List V → Hp → VK → Prop := fun xs H Q => ∃ i j, xs = [.int i, .int j] ∧ CDiv i j ∧ ∀ p, H p = none → Q (.ref p) (upd H p (.tup [.int (i / j), .int (i % j)]))
theorem u_divmod {X : Cx} : CallR X (.builtin "divmod") rDivmod := call_divmod
def rInt : List V → Hp → VK → Prop := fun xs H Q => ((∃ i, xs = [.int i] ∧ Q (.int i) H) ∨ ∃ k, xs = [.bl k] ∧ Q (.int (if k then 1 else 0)) H) ∨ ∃ a n, xs = [.str a] ∧ PySem.intText? a = some n ∧ a.length ≤ 640 ∧ Q (.int n) H
theorem u_int {X : Cx} : CallR X (.type "int") rInt := call_int1.or call_int_str
def rStrI : List V → Hp → VK → Prop := fun xs H Q => ∃ i, xs = [.int i] ∧ i.natAbs.log2 < 1920 ∧ Q (.str (toString i)) H
theorem u_str {X : Cx} : CallR X (.type "str") rStrI := call_str_int
def rSlU (K : PySem.W.Frag) : V → Option Int → Option Int → Hp → VK → Prop := fun x lo hi H Q => rSlL K x lo hi H Q ∨ C8.rSlX x lo hi H Q
theorem u_sl {X : Cx} : SlR X (rSlU X.K) := sl_list.or C8.sl_txt

section
variable {K : PySem.W.Frag} {H : Hp} {Q : VK}
theorem r_len_l {p : Addr} {xs : List V} (h : SqL K H p xs) (q : Q (.int (xs.length : Nat)) H) : rLen K [.ref p] H Q := ⟨_, _, rfl, .inl ⟨xs, h, rfl⟩, q⟩
theorem r_len_t {p : Addr} {xs : List V} (h : SqT K H p xs) (q : Q (.int (xs.length : Nat)) H) : rLen K [.ref p] H Q := ⟨_, _, rfl, .inr ⟨xs, h, rfl⟩, q⟩
theorem r_len_s {z : Str} (h : z.length ≤ sizeLine) (q : Q (.int (z.length : Nat)) H) : rLen K [.str z] H Q := ⟨_, _, rfl, ⟨h, rfl⟩, q⟩
theorem r_tuple_l {p : Addr} {xs : List V} (h : SqL K H p xs) (q : ∀ l, H l = none → Q (.ref l) (upd H l (.tup xs))) : rTuple K [.ref p] H Q := ⟨p, xs, rfl, .inl ⟨h, q⟩⟩
theorem r_list_l {p : Addr} {xs : List V} (h : SqL K H p xs) (q : ∀ l, H l = none → Q (.ref l) (upd H l (.lst xs))) : rList K [.ref p] H Q := ⟨p, xs, rfl, .inl h, q⟩
theorem r_isi {x : V} {t : String} {n : String} {b : Bool} (h : TyX K H x (.type t)) (e : kitB t n = some b) (q : Q (.bl b) H) : rIsiU K [x, .ty n] H Q := ⟨x, .ty n, .type t, .type n, b, rfl, .ty n, h, kit_ty e, q⟩
theorem r_isi_int_int {i : Int} (q : Q (.bl true) H) : rIsiU K [.int i, .ty "int"] H Q := r_isi (.base (.int i)) (by decide +kernel) q
theorem r_isi_int_bool {i : Int} (q : Q (.bl false) H) : rIsiU K [.int i, .ty "bool"] H Q := r_isi (.base (.int i)) (by decide +kernel) q
theorem r_isi_bl_bool {i : Bool} (q : Q (.bl true) H) : rIsiU K [.bl i, .ty "bool"] H Q := r_isi (.base (.bl i)) (by decide +kernel) q
theorem r_isi_bl_int {i : Bool} (q : Q (.bl true) H) : rIsiU K [.bl i, .ty "int"] H Q := r_isi (.base (.bl i)) (by decide +kernel) q
theorem r_isi_non_int (q : Q (.bl false) H) : rIsiU K [.non, .ty "int"] H Q := r_isi (.base .non) (by decide +kernel) q
theorem r_isi_non_bool (q : Q (.bl false) H) : rIsiU K [.non, .ty "bool"] H Q := r_isi (.base .non) (by decide +kernel) q
theorem r_isi_str_int {i : Str} (q : Q (.bl false) H) : rIsiU K [.str i, .ty "int"] H Q := r_isi (.base (.str i)) (by decide +kernel) q
theorem r_isi_str_str {i : Str} (q : Q (.bl true) H) : rIsiU K [.str i, .ty "str"] H Q := r_isi (.base (.str i)) (by decide +kernel) q
theorem r_isi_tup {p : Addr} {xs : List V} {n : String} {b : Bool} (h : H p = some (.tup xs)) (e : kitB "tuple" n = some b) (q : Q (.bl b) H) : rIsiU K [.ref p, .ty n] H Q := r_isi (.base (.tup h)) e q
theorem r_isi_lst {p : Addr} {xs : List V} {n : String} {b : Bool} (h : H p = some (.lst xs)) (e : kitB "list" n = some b) (q : Q (.bl b) H) : rIsiU K [.ref p, .ty n] H Q := r_isi (.base (.lst h)) e q
theorem r_max2 {i j : Int} (q : Q (.int (if j > i then j else i)) H) : rMaxU K [.int i, .int j] H Q := .inl ⟨i, j, rfl, q⟩
theorem r_min2 {i j : Int} (q : Q (.int (if j < i then j else i)) H) : rMinU K [.int i, .int j] H Q := .inl ⟨i, j, rfl, q⟩
theorem r_inti {i : Int} (q : Q (.int i) H) : rInt [.int i] H Q := .inl (.inl ⟨i, rfl, q⟩)
theorem r_intb {k : Bool} (q : Q (.int (if k then 1 else 0)) H) : rInt [.bl k] H Q := .inl (.inr ⟨k, rfl, q⟩)
theorem r_append {p : Addr} {xs : List V} {y : V} (h : H p = some (.lst xs)) (l : xs.length < sizeLine) (q : Q .non (upd H p (.lst (xs ++ [y])))) : rAppend (.ref p) [y] H Q := ⟨p, xs, y, rfl, rfl, h, l, q⟩
theorem r_sum {p : Addr} {ns : List Int} (h : SqL K H p (ns.map V.int)) (q : Q (.int ns.sum) H) : rSum K [.ref p] H Q := ⟨p, ns, rfl, h, q⟩
/-- a method on a tracked list -/
theorem tyL {p : Addr} {xs : List V} (h : H p = some (.lst xs)) : tyV K "list" (.ref p) H := .inl ⟨rfl, _, .inl (.inl h)⟩
end
/-! ### shifts of one -/
theorem CShl_one {j : Int} (h0 : 0 ≤ j) (h : j ≤ 100000) : CShl 1 j := by
  obtain ⟨k, rfl⟩ := Int.eq_ofNat_of_zero_le h0
  exact shl_ok (n := 1) (by decide) (by omega)
theorem CShl_nat {b n : Nat} {j : Int} (hb : b < 2 ^ n) (h0 : 0 ≤ j) (h : n + j.toNat ≤ 100000) : CShl (b : Int) j := by
  obtain ⟨k, rfl⟩ := Int.eq_ofNat_of_zero_le h0
  exact shl_ok (n := n) (by rw [Int.natAbs_natCast]; exact hb) (by omega)
/-! ### naturals as ints -/
def nz (l : List Nat) : List Int := l.map fun i : Nat => (i : Int)
theorem nz_app (l m : List Nat) : nz (l ++ m) = nz l ++ nz m := by unfold nz; rw [List.map_append]
theorem nz_len (l : List Nat) : (nz l).length = l.length := by unfold nz; rw [List.length_map]
theorem nzv_len (l : List Nat) : ((nz l).map V.int).length = l.length := by rw [List.length_map, nz_len]
theorem nz_get {l : List Nat} {i : Nat} {x : V} (h : ((nz l).map V.int)[i]? = some x) : ∃ n : Nat, l[i]? = some n ∧ x = .int (n : Int) := by
  unfold nz at h
  rw [List.getElem?_map, List.getElem?_map] at h
  cases e : l[i]? with
  | none => rw [e] at h; cases h
  | some n =>
    rw [e] at h
    exact ⟨n, rfl, (Option.some.inj h).symm⟩
/-! ### the fields of a sack -/
theorem lk1 {k : Str} {v : V} {r : List (Str × V)} : List.lookup k ((k, v) :: r) = some v := by
  have e : (k == k) = true := beq_self_eq_true k
  simp only [List.lookup, e]
theorem lk0 {k g : Str} {v : V} (h : (k == g) = false) : List.lookup k [(g, v)] = none := by
  simp only [List.lookup, h]
def SackK (c : Cs) (H : Hp) (s : Addr) (k : Kd) (b : Nat) : Prop := ∃ dx, H s = some (.ins (c.kd k) dx [("bits", .int (b : Int))])
theorem SackK.same {c : Cs} {H H' : Hp} {s : Addr} {k : Kd} {b : Nat} (h : SackK c H s k b) (e : Same H H') : SackK c H' s k b := by
  obtain ⟨dx, h⟩ := h
  exact ⟨dx, e _ _ h⟩

/-! ### calls within a try's body: what leaves them may ask for the slots -/
section
variable {X : Cx} {k j : Nat} {C : Addr} {sp : Sp} {dvs : List V} {W : WX} {x m : Str} {p pos apos : Pos} {e o : Expr} {es : List Expr} {ta : TE} {t : TA}
/-- the context of the try's body takes what W says -/
abbrev WO (X : Cx) (W : WX) : Prop := ∀ σ, PassesAt (L2N.CX X.prog X.w) X σ (WE W σ)
theorem wo_of (tk : L2N.Takes X W) : WO X W := L2N.passAt tk
def tCallW (sp : Sp) (dvs : List V) (W : WX) (t : TA) : TE := fun σ H Q => t σ H fun vs H1 => sp (vs ++ dvs) H1 Q (WE W σ)
def tMethW (fam : Addr → Sp → Prop) (m : Str) (dvs : List V) (W : WX) (ta : TE) (t : TA) : TE := fun σ H Q => ta σ H fun x H1 => ∃ a C dx fs sp, x = .ref a ∧ H1 a = some (.ins C dx fs) ∧ fam C sp ∧ fs.lookup m = none ∧
  t σ H1 fun vs H2 => sp (x :: (vs ++ dvs)) H2 Q (WE W σ)
def tMakeW (C : Addr) (sp : Sp) (dvs : List V) (W : WX) (t : TA) : TE := fun σ H Q => t σ H fun vs H1 => ∀ x dx, H1 x = none → H1 dx = none → dx ≠ x →
  sp (.ref x :: (vs ++ dvs)) (upd (upd H1 dx (.own x)) x (.ins C dx [])) (fun v H2 => v = .non ∧ Q (.ref x) H2) (WE W σ)
theorem runW {ds : List Value} {ps : List Str} {f : Addr} {fd : FuncData} {pins : List (Addr × Obj)} {σ : L2.St} {H : Hp} {s : Shared} {Q : VK} {us : List Value} {vs : List V} (F : FnOk X.prog X.w X.K X.mg X.base (L2N.CX X.prog X.w) k f fd ps sp)
    (hr : Room k X.A) (b : Binds X.K fd ps ds) (v : Vals dvs ds) (hx : WO X W) (I : Inv X pins σ H s) (r : Vals vs us) (h : sp (vs ++ dvs) H Q (WE W σ)) :
    wpAny (model X.prog X.w) X.A (call (.ref f) us) (EP X pins σ Q) X.xe s := by
  have rr := r.append v
  have n : (us ++ ds).length = ps.length := rr.length.symm.trans (F.len _ _ _ _ h)
  apply wpAny_call
  refine codeAny_mono (F.run _ _ _ _ ⟨us, []⟩ _ _ _ _ hr I.env0 (b s us I.kIn n) rr h) ?_
  rintro (e | fl) s1 hq
  · exact hx σ pins H s e s1 I hq
  · cases fl with
    | ret u => exact I.after hq
    | _ => exact hq.elim
theorem pe_cW (c : Cal X.prog X.w X.K X.mg X.base k x sp dvs) (hr : Room j X.A) (hk : k ≤ j) (hg : Gl X x) (hx : WO X W) (ha : PA X (e :: es) t) (hdb : (x == ("__debug__" : Str)) = false := by decide)
    (he : starEach (e :: es) X.env = (false, eval e X.env) :: starEach es X.env := by rfl) (hpl : (backTo pos (starEach es X.env)).any (·.1) = false := by rfl) : PE X (.Call (.Name x p) (e :: es) [] pos) (tCallW sp dvs W t) := by
  obtain ⟨f, fd, ps, ds, F, hm, kp, b, v⟩ := c.ex
  constructor
  intro pins s σ H Q I h
  apply wpAny_Call_Name_kw (ld_glob I hg hm ?_ hdb)
  refine PySem.W.callWith_K (h₀ := X.base) I.ok.mod.kin kp (thn (ha.run pos pins s σ H _ I h) ?_) he hpl
  rintro us s1 ⟨vs, H1, I1, r, q⟩
  exact ⟨I1.kIn, runW F (hr.mono hk) b v hx I1 r q⟩
theorem pe_mW {fam : Addr → Sp → Prop} {pl : Sem Bool} (c : ∀ C sp, fam C sp → Met X.prog X.w X.K X.mg X.base k C m sp dvs) (hr : Room j X.A) (hk : k ≤ j) (hx : WO X W) (he : PE X o ta) (ha : PA X (e :: es) t)
    (hst : starEach (e :: es) X.env = (false, eval e X.env) :: starEach es X.env := by rfl) (hpl : (backTo pos (starEach es X.env)).any (·.1) = false := by rfl)
    (ht : eval (.Call (.Attribute o m apos) (e :: es) [] pos) X.env = (do
      let ov ← eval o X.env
      standAt apos.atName
      let (f, first) ← holding [ov] (getMethod ov m pl)
      callWith pos f first (backTo pos (starEach (e :: es) X.env)) (backToKw pos (keywordEach [] X.env))) := by rfl) :
    PE X (.Call (.Attribute o m apos) (e :: es) [] pos) (tMethW fam m dvs W ta t) := by
  constructor
  intro pins s σ H Q I h
  refine PySem.W.methodCall_KW (pl := pl) (thn (he.run pins s σ H _ I h) ?_) ht
  rintro u s1 ⟨x, H1, I1, rx, a, C, dx, fs, sp, rfl, ea, fm, l, q⟩
  obtain ⟨f, fd, ps, ds, cl, me, F, b, v⟩ := (c C sp fm).ex
  obtain rfl : u = Value.ref a := rx
  apply getmeth_ok I1 ea cl me l
  refine PySem.W.callWith_K (first := [.ref a]) (h₀ := X.base) I.ok.mod.kin me.kp (thn (ha.run pos pins s1 σ H1 _ I1 q) ?_) hst hpl
  rintro us s2 ⟨vs, H2, I2, r, q2⟩
  exact ⟨I2.kIn, runW (us := .ref a :: us) (vs := .ref a :: vs) F (hr.mono hk) b v hx I2 (.cons rfl r) q2⟩
theorem pe_m0W {fam : Addr → Sp → Prop} {pl : Sem Bool} (c : ∀ C sp, fam C sp → Met X.prog X.w X.K X.mg X.base k C m sp dvs) (hr : Room j X.A) (hk : k ≤ j) (hx : WO X W) (he : PE X o ta)
    (ht : eval (.Call (.Attribute o m apos) [] [] pos) X.env = (do
      let ov ← eval o X.env
      standAt apos.atName
      let (f, first) ← holding [ov] (getMethod ov m pl)
      callWith pos f first (backTo pos (starEach [] X.env)) (backToKw pos (keywordEach [] X.env))) := by rfl) :
    PE X (.Call (.Attribute o m apos) [] [] pos) (tMethW fam m dvs W ta tNil) := by
  constructor
  intro pins s σ H Q I h
  refine PySem.W.methodCall_KW (pl := pl) (thn (he.run pins s σ H _ I h) ?_) ht
  rintro u s1 ⟨x, H1, I1, rx, a, C, dx, fs, sp, rfl, ea, fm, l, q⟩
  obtain ⟨f, fd, ps, ds, cl, me, F, b, v⟩ := (c C sp fm).ex
  obtain rfl : u = Value.ref a := rx
  apply getmeth_ok I1 ea cl me l
  exact PySem.W.callWith_K0 (first := [.ref a]) I1.kIn me.kp (runW (us := [.ref a]) (vs := [.ref a]) F (hr.mono hk) b v hx I1 (.cons rfl .nil) q)
theorem w_callW {σ : L2.St} {H : Hp} {Q : VK} (h : t σ H fun vs H1 => sp (vs ++ dvs) H1 Q (WE W σ)) : tCallW sp dvs W t σ H Q := h
theorem w_methW {fam : Addr → Sp → Prop} {σ : L2.St} {H : Hp} {Q : VK} (h : ta σ H fun x H1 => ∃ a C dx fs sp, x = .ref a ∧ H1 a = some (.ins C dx fs) ∧ fam C sp ∧ fs.lookup m = none ∧ t σ H1 fun vs H2 => sp (x :: (vs ++ dvs)) H2 Q (WE W σ)) : tMethW fam m dvs W ta t σ H Q := h
end
/-! ### isinstance of what is caught -/
/-- isinstance(e, c), e the exception at a, of class cls -/
def rIsX (K : PySem.W.Frag) (cls : Value) (dd : Option Addr) (a : Addr) : List V → Hp → VK → Prop := fun xs H Q => ∃ D, cls = .ref D ∧ dd = none ∧ ExcC K D ∧ rIsE K D a xs H Q
/-- what is known of the object that is caught -/
def Told (cls : Value) (dd : Option Addr) (p : Addr × Obj) : Prop := Zc cls dd p.2 ∧ ∃ vs, p.2.data = .fields vs
theorem u_isx {X : Cx} {p : Addr × Obj} {cls : Value} {dd : Option Addr} (hp : p ∈ X.pn) (hz : Told cls dd p) : CallR X (.builtin "isinstance") (rIsX X.K cls dd p.1) := by
  rintro pins s σ H xs us Q I r ⟨D, rfl, rfl, C, c, cv, b, rfl, hcv, e, q⟩
  obtain ⟨⟨z1, z2⟩, vs, hv⟩ := hz
  obtain ⟨a, ⟨oc, od, oda, osl⟩⟩ := p
  dsimp only at z1 z2 hv
  subst z1 z2 hv
  cases r with | cons rx rr => cases rr with | cons rt rr =>
  cases rr
  cases rx
  cases hcv _ rt
  have J : PySem.W.InstAt s.heap a _ D none := ⟨(I.pin _ (List.mem_append.mpr (.inl hp))).1, rfl, rfl, trivial⟩
  refine PySem.W.kia_one (PySem.W.handS_kitx_exc C.hg C.hk C.hs C.hd C.ha C.hn C.ht C.hm) I.kIn J e (fun z => by cases z) ?_
  exact fun tk => ⟨.bl b, H, I.kept (t' := tk) fun _ _ z => z, rfl, q⟩
theorem r_isx {K : PySem.W.Frag} {D a C : Addr} {H : Hp} {Q : VK} {b : Bool} (c : ExcC K D) (e : PySem.W.kitOne K (.ref D) (.ref C) = some b) (q : Q (.bl b) H) : rIsX K (.ref D) none a [.ref a, .ref C] H Q :=
  ⟨D, rfl, rfl, c, .ref C, .ref C, b, rfl, fun u h => h, e, q⟩
theorem r_isxT {K : PySem.W.Frag} {D a : Addr} {t : String} {H : Hp} {Q : VK} {b : Bool} (c : ExcC K D) (e : PySem.W.kitOne K (.ref D) (.type t) = some b) (q : Q (.bl b) H) : rIsX K (.ref D) none a [.ref a, .ty t] H Q :=
  ⟨D, rfl, rfl, c, .ty t, .type t, b, rfl, fun u h => h, e, q⟩
/-! ### a def that is called while an exception is handled, with that exception -/
structure FnP (P : Program) (w : World) (K : PySem.W.Frag) (mg : Str → Option Value) (base : Heap) (k : Nat) (f : Addr) (fd : FuncData) (ps : List Str) (sp : Value → Option Addr → Addr → Sp) : Prop where
  len : ∀ cls dd a vs H Q E, sp cls dd a vs H Q E → vs.length = ps.length
  run : ∀ (A : Around) (outer : List Env) (s : Shared) (H : Hp) (args : Args) (us : List Value) (vs : List V) (Q : VK) (E : XK) (p : Addr × Obj) (cls : Value) (dd : Option Addr), L2H.RoomH k A → L2H.Hot1 A p → L2H.PinOk outer H s p → Told cls dd p →
    Env0 P w K mg base A outer s H → BindsTo s fd args (ps.zip us) → Vals vs us → sp cls dd p.1 vs H Q E → codeAny (model P w) A (.call (.ref f) args) (CR (L2N.CX P w) outer P w H s Q E) s
theorem FnP.of {P : Program} {w : World} {K : PySem.W.Frag} {mg : Str → Option Value} {base : Heap} {k : Nat} {x qual : Str} {params : Arguments} {body : List Stmt} {scope : Scope} {dvs : List V} {kws : List (Str × V)} {f : Addr} {fd : FuncData} {N ps : List Str} {sp : Value → Option Addr → Addr → Sp}
    (F : FunD K x qual params body scope dvs kws f fd) (S : FnScope N ps scope) (len : ∀ cls dd a vs H Q E, sp cls dd a vs H Q E → vs.length = ps.length)
    (hb : ∀ (cdv : Value) (A : Around) (outer : List Env) (s : Shared) (H : Hp) (vs : List V) (Q : VK) (E : XK) (p : Addr × Obj) (cls : Value) (dd : Option Addr), L2H.Hot1 A p → L2H.RoomH k (A.deeper (envOfC qual scope s.heap.objs.size f cdv)) → Told cls dd p → sp cls dd p.1 vs H Q E →
      ∃ t, PSs (L2H.cxH (L2N.CX P w) P w K mg base N qual scope f cdv A outer s H E p) body t ∧ t { nx := fun _ H' => Q .non H', rt := Q } (start N vs) H) : FnP P w K mg base (k + 1) f fd ps sp := by
  obtain ⟨oc, od, dV, kV, doc, pm, an, cdv, ct, osl, rfl, lk, hcd, _, _⟩ := F.ex
  constructor
  · exact len
  intro A outer s H args us vs Q E p cls dd hr hot hpin hz e0 bt r hs
  obtain ⟨t, ht, hq⟩ := hb cdv A outer s H vs Q E p cls dd hot (hr.deeper _) hz hs
  have KX : K.In s.heap := e0.mod.kin.keeps fun b o e => (e0.bs b o e).1
  apply codeAny_call_function hr.depth (KX _ _ lk) rfl S.co S.gen rfl (PySem.W.codeRec_of KX hcd)
  apply bt
  refine wpAny_newFunctionEnv_cells S.kind ?_ ?_
  · rintro ⟨n, v⟩ hy
    exact (S.par n (List.of_mem_zip hy).1).imp id fun q => ⟨q, PySem.W.cellsFrom_some _ _ _ (.inl q)⟩
  rintro env rfl s1 y
  have I := L2H.inv_startH (CX := L2N.CX P w) (E := E) S hpin e0 (len _ _ _ _ _ _ _ hs) r y
  refine ⟨(e0.mod.nolimit.keeps fun b o e => (e0.bs b o e).1 : s.heap.NoLimit).keeps y.toInCall.keep, codeAny_func ?_⟩
  refine wpAny_mono (ht.run [] s1 (start N vs) H _ I hq) ?_ fun _ _ z => z
  rintro (_ | _ | _ | u) s2 z
  · obtain ⟨σ, H2, J, q⟩ := z
    exact ⟨.non, H2, J.os, J.bare, J.base, J.hok, rfl, q⟩
  all_goals first | (obtain ⟨v, σ, H2, J, rv, q⟩ := z; exact ⟨v, H2, J.os, J.bare, J.base, J.hok, rv, q⟩) | (obtain ⟨_, _, _, q⟩ := z; exact q.elim)
structure CalP (P : Program) (w : World) (K : PySem.W.Frag) (mg : Str → Option Value) (base : Heap) (k : Nat) (x : Str) (sp : Value → Option Addr → Addr → Sp) : Prop where
  ex : ∃ (f : Addr) (fd : FuncData) (ps : List Str), FnP P w K mg base k f fd ps sp ∧ mg x = some (.ref f) ∧ PySem.W.keepIn K (.ref f) = true ∧ Binds K fd ps []
def tCallP (sp : Value → Option Addr → Addr → Sp) (cls : Value) (dd : Option Addr) (a : Addr) (t : TA) : TE := fun σ H Q => t σ H fun vs H1 => sp cls dd a vs H1 Q E0
theorem hot_of {A : Around} {a : Addr} {oe : Obj} {cls : Value} {dd : Option Addr} (z : L2N.Zn cls dd oe) (h : ∃ vs, oe.data = .fields vs) : L2H.Hot1 (A.mark (some (.ref a))) (a, oe) := by
  obtain ⟨vs, e⟩ := h
  exact ⟨rfl, vs, e, z.2.2 vs e⟩
theorem told_of {a : Addr} {oe : Obj} {cls : Value} {dd : Option Addr} (z : L2N.Zn cls dd oe) (h : ∃ vs, oe.data = .fields vs) : Told cls dd (a, oe) := ⟨z.zc, h⟩
theorem pe_cP {X : Cx} {k j : Nat} {sp : Value → Option Addr → Addr → Sp} {x : Str} {q pos : Pos} {e : Expr} {es : List Expr} {t : TA} {p : Addr × Obj} {cls : Value} {dd : Option Addr} (c : CalP X.prog X.w X.K X.mg X.base k x sp) (hr : L2H.RoomH j X.A) (hk : k ≤ j) (hg : Gl X x)
    (hp : p ∈ X.pn) (hot : L2H.Hot1 X.A p) (hz : Told cls dd p) (ha : PA X (e :: es) t) (hdb : (x == ("__debug__" : Str)) = false := by decide)
    (he : starEach (e :: es) X.env = (false, eval e X.env) :: starEach es X.env := by rfl) (hpl : (backTo pos (starEach es X.env)).any (·.1) = false := by rfl) : PE X (.Call (.Name x q) (e :: es) [] pos) (tCallP sp cls dd p.1 t) := by
  obtain ⟨f, fd, ps, F, hm, kp, b⟩ := c.ex
  constructor
  intro pins s σ H Q I h
  apply wpAny_Call_Name_kw (ld_glob I hg hm ?_ hdb)
  refine PySem.W.callWith_K (h₀ := X.base) I.ok.mod.kin kp (thn (ha.run pos pins s σ H _ I h) ?_) he hpl
  rintro us s1 ⟨vs, H1, I1, r, hs⟩
  refine ⟨I1.kIn, ?_⟩
  have n : (us ++ []).length = ps.length := by rw [List.append_nil, ← r.length]; exact F.len _ _ _ _ _ _ _ hs
  have bt := b s1 us I1.kIn n
  rw [List.append_nil] at bt
  have P1 := I1.pin p (List.mem_append_left _ hp)
  have hpin : L2H.PinOk X.stack H1 s1 p := by
    refine ⟨P1.1, P1.2.1, fun hm => ?_, P1.2.2.2.2⟩
    rcases List.mem_cons.mp (I1.stkSub p.1 hm) with z | z
    · exact P1.2.2.1 z
    · exact P1.2.2.2.1 z
  apply wpAny_call
  refine codeAny_mono (F.run _ _ _ _ ⟨us, []⟩ _ _ _ _ p cls dd (hr.mono hk) hot hpin hz I1.env0 bt r hs) ?_
  rintro (u | fl) s2 hq
  · obtain ⟨_, _, _, _, _, _, _, _, _, _, _, _, z⟩ := (show L2N.CX X.prog X.w X.stack H1 s1 E0 u s2 from hq)
    exact z.elim
  · cases fl with
    | ret u => exact I1.after hq
    | _ => exact hq.elim
theorem w_callP {σ : L2.St} {H : Hp} {Q : VK} {sp : Value → Option Addr → Addr → Sp} {cls : Value} {dd : Option Addr} {a : Addr} {t : TA} (h : t σ H fun vs H1 => sp cls dd a vs H1 Q E0) : tCallP sp cls dd a t σ H Q := h
/-! ### try .. except x as n -/
def tTry (K : PySem.W.Frag) (c : Value) (i : Nat) (ts : Addr → Value → Option Addr → TS) (Wout : WX) (tb : WX → TS) : TS := fun D σ H => tb (wAs K c i ts Wout D) D σ H
theorem w_try {K : PySem.W.Frag} {c : Value} {i : Nat} {ts : Addr → Value → Option Addr → TS} {Wout : WX} {tb : WX → TS} {D : Ends} {σ : L2.St} {H : Hp} (h : tb (wAs K c i ts Wout D) D σ H) : tTry K c i ts Wout tb D σ H := h
/-- it is caught -/
theorem we_yes {K : PySem.W.Frag} {c cls : Value} {d : Option Addr} {i : Nat} {ts : Addr → Value → Option Addr → TS} {Wout : WX} {D : Ends} {σ : L2.St} {H : Hp} (e : PySem.W.exmOne K cls c = some true)
    (h : ∀ a, H a = none → ts a cls d { nx := fun σ' H' => D.nx (σ'.set i none) H', rt := D.rt, bk := fun σ' H' => D.bk (σ'.set i none) H', ct := fun σ' H' => D.ct (σ'.set i none) H' } (σ.set i (some (.ref a))) H) : WE (wAs K c i ts Wout D) σ cls d H :=
  ⟨true, e, fun _ => h, fun z => by cases z⟩
theorem ps_tryT {X : Cx} {x n : Str} {c : Value} {i : Nat} {body suite : List Stmt} {b₀ : Stmt} {np pos pos' : Pos} {tb : WX → TS} {ts : Addr → Value → Option Addr → TS} {Wout : WX} (hs : X.stack = X.env :: X.outer) (hf : X.env.frame = some X.env.locals) (hN : X.N.Nodup)
    (hi : X.N[i]? = some n) (hln : X.env.kindOf n = some .local) (hc : Names X x c) (tk : L2N.Takes X Wout)
    (hb : ∀ (W : WX) (pn : List (Addr × Obj)) (xe : Value → Shared → Prop), L2N.Takes (X.tr pn xe) W → PassesOwn (model X.prog X.w) X.A X.env xe → PSs (X.tr pn xe) body (tb W))
    (hu : ∀ (a : Addr) (oe : Obj) (cls : Value) (d : Option Addr) (pn : List (Addr × Obj)), L2N.Zn cls d oe → (∃ vs, oe.data = .fields vs) → PSs (X.suite a ((a, oe) :: pn)) (b₀ :: suite) (ts a cls d)) :
    PS X (.Try body [.ExceptHandler (some (.Name x np)) (some n) (b₀ :: suite) pos'] [] [] pos) (tTry X.K c i ts Wout tb) := L2N.ps_try_as hs hf hN hi hln hc tk hb hu
def rPow : R2 := rI CPow fun i j => .int (i ^ j.toNat)
theorem u_pow {X : Cx} : OpR X (binaryOp .Pow) rPow := op_pow
theorem r_pow {i j : Int} {H : Hp} {Q : VK} (h : CPow i j) (q : Q (.int (i ^ j.toNat)) H) : rPow (.int i) (.int j) H Q := ⟨i, j, rfl, rfl, h, q⟩
/-! ### the errors' classes -/
inductive Ek | number | stretch | rank | text
  deriving DecidableEq
def Cs.ex (c : Cs) : Ek → Addr
  | .number => c.eNoNumber
  | .stretch => c.eNoStretch
  | .rank => c.eNoRank
  | .text => c.eNoText
structure GoodE (c : Cs) : Prop where
  x : ∀ k, ExcC c.K (c.ex k)
  own : ∀ k k', PySem.W.kitOne c.K (.ref (c.ex k)) (.ref (c.ex k')) = some (decide (k = k'))
  val : ∀ k, PySem.W.kitOne c.K (.ref (c.ex k)) (.type "ValueError") = some true
  got : ∀ k, PySem.W.exmOne c.K (.ref (c.ex k)) (.ref c.eSackError) = some true
/-- what the four marks are -/
def marksV (k : Ek) : List V := [.bl (decide (k = .number)), .bl (decide (k = .stretch)), .bl (decide (k = .rank)), .bl (decide (k = .text))]

local macro_rules | `(tactic| walk_at "go1") => `(tactic| first
  | ((with_reducible apply w_var); exact rfl)
  | with_reducible refine w_c ?_ | with_reducible refine w_op ?_ | with_reducible refine w_un ?_ | with_reducible refine w_nil ?_ | with_reducible refine w_cons ?_
  | with_reducible refine w_tup ?_ | with_reducible refine w_lst ?_ | with_reducible refine w_cb ?_ | with_reducible refine w_call ?_ | with_reducible refine w_meth ?_ | with_reducible refine w_make ?_
  | with_reducible refine w_fld ?_ | with_reducible refine w_bm ?_ | with_reducible refine w_bm0 ?_ | with_reducible refine w_bits ?_ | with_reducible refine w_bits1 ?_
  | with_reducible refine w_sl ?_ | with_reducible refine w_nopart ?_ | with_reducible refine w_part ?_ | with_reducible refine w_ife ?_ | with_reducible refine w_andv ?_ | with_reducible refine w_orv ?_ | with_reducible refine w_notv ?_ | with_reducible refine w_chain ?_
  | with_reducible refine w_test ?_ | with_reducible refine w_tb ?_ | with_reducible refine w_bl ?_ | with_reducible refine w_and ?_ | with_reducible refine w_or ?_ | with_reducible refine w_not ?_
  | with_reducible refine w_seq ?_ | with_reducible refine w_next ?_ | with_reducible refine w_drop ?_ | with_reducible refine w_ret ?_ | with_reducible refine w_retn ?_ | with_reducible refine w_ifs ?_ | with_reducible refine w_asg ?_
  | ((with_reducible refine w_name ?_); simp only [List.set_cons_zero, List.set_cons_succ])
  | ((with_reducible apply w_aug); exact rfl)
  | with_reducible refine r_add ?_ | with_reducible refine r_sub ?_ | with_reducible refine r_ban ?_ | with_reducible refine r_bor ?_ | with_reducible refine r_bxo ?_ | with_reducible refine r_neg ?_ | with_reducible refine r_inv ?_
  | with_reducible refine r_padd ?_ | with_reducible refine r_psub ?_ | with_reducible refine r_pban ?_ | with_reducible refine r_pbor ?_ | with_reducible refine r_pbxo ?_
  | with_reducible refine r_eqi ?_ | with_reducible refine r_nei ?_ | with_reducible refine r_eqb ?_ | with_reducible refine r_neb ?_ | with_reducible refine r_eqs ?_ | with_reducible refine r_nes ?_
  | with_reducible refine r_lt ?_ | with_reducible refine r_le ?_ | with_reducible refine r_gt ?_ | with_reducible refine r_ge ?_ | with_reducible refine r_is ?_ | with_reducible refine r_isnot ?_
  | with_reducible refine r_isi_int_int ?_ | with_reducible refine r_isi_int_bool ?_ | with_reducible refine r_isi_bl_bool ?_ | with_reducible refine r_isi_bl_int ?_ | with_reducible refine r_isi_non_int ?_ | with_reducible refine r_isi_non_bool ?_ | with_reducible refine r_isi_str_int ?_ | with_reducible refine r_isi_str_str ?_
  | with_reducible refine w_yes ?_ | ((with_reducible refine w_gnil ?_)) | (with_reducible refine w_gcons ?_)
  | ((with_reducible refine r_mul ?_ ?_); (first | exact Or.inl ⟨by omega, by omega⟩ | exact Or.inr ⟨by omega, by omega⟩))
  | ((with_reducible refine r_fdv ?_ ?_); exact ⟨by omega, by omega⟩) | ((with_reducible refine r_mod ?_ ?_); omega) | ((with_reducible refine r_shr ?_ ?_); omega) | ((with_reducible refine r_pshr ?_ ?_); omega)
  | ((with_reducible refine r_shl ?_ ?_); exact CShl_one (by omega) (by omega)) | with_reducible refine w_gsub ?_
  | with_reducible refine w_for ?_ | with_reducible refine w_lc ?_ | with_reducible refine w_rng1 ?_ | with_reducible refine w_rng2 ?_ | with_reducible refine w_iList ?_ | with_reducible refine w_iTup ?_ | with_reducible refine w_iStr ?_ | with_reducible refine w_ort ?_ | with_reducible refine w_revL ?_ | with_reducible refine w_lockE ?_ | with_reducible refine w_lockS ?_ | with_reducible refine w_dget ?_ | with_reducible refine w_din ?_ | with_reducible refine w_dnotin ?_ | with_reducible refine w_dput ?_ | with_reducible refine w_dpop2 ?_ | with_reducible refine w_sfld ?_ | with_reducible refine w_iItems ?_ | with_reducible refine w_iVals ?_ | with_reducible refine w_iKeys ?_
  | with_reducible refine iteF ?_ | with_reducible refine iteT ?_ | with_reducible refine w_nT ?_ | with_reducible refine w_nF ?_
  | with_reducible refine w_callW ?_ | with_reducible refine w_callP ?_ | with_reducible refine w_methW ?_ | with_reducible refine w_try ?_ | ((with_reducible refine r_pow ?_ ?_); exact ⟨by decide, by decide, by decide⟩)
  | with_reducible refine r_max2 ?_ | with_reducible refine r_min2 ?_ | with_reducible refine r_inti ?_ | with_reducible refine r_intb ?_)
local macro_rules | `(tactic| walk_at "go") => `(tactic| repeat (walk_at "go1"))
/-! ### data within the lines -/
def Sm (n : Nat) (d : PyData) : Prop := d.canLay0 = true ∧ d.depth ≤ n
theorem can_all {ds : List PyData} (h : ∀ d ∈ ds, d.canLay0 = true) : PyData.canLayAll0 ds = true := by
  induction ds with
  | nil => rfl
  | cons d ds ih =>
    unfold PyData.canLayAll0
    rw [h d List.mem_cons_self, ih fun e he => h e (List.mem_cons_of_mem _ he)]; rfl
theorem depth_all {n : Nat} {ds : List PyData} (h : ∀ d ∈ ds, d.depth ≤ n) : PyData.depthAll ds ≤ n := by
  induction ds with
  | nil => exact Nat.zero_le _
  | cons d ds ih =>
    unfold PyData.depthAll
    have a := h d List.mem_cons_self
    have b := ih fun e he => h e (List.mem_cons_of_mem _ he)
    exact Nat.max_le.mpr ⟨a, b⟩
theorem Sm.int (i : Int) {n : Nat} : Sm n (.int i) := ⟨rfl, Nat.zero_le _⟩
theorem Sm.bl (i : Bool) {n : Nat} : Sm n (.bool i) := ⟨rfl, Nat.zero_le _⟩
theorem Sm.non {n : Nat} : Sm n .none := ⟨rfl, Nat.zero_le _⟩
theorem Sm.str {x : Str} (h : PyData.strOk x = true) {n : Nat} : Sm n (.str x) := ⟨h, Nat.zero_le _⟩
theorem Sm.list {n : Nat} {ds : List PyData} (h : ∀ d ∈ ds, Sm n d) : Sm (n + 1) (.list ds) := ⟨by unfold PyData.canLay0; exact can_all fun d hd => (h d hd).1, by unfold PyData.depth; exact Nat.succ_le_succ (depth_all fun d hd => (h d hd).2)⟩
theorem Sm.tuple {n : Nat} {ds : List PyData} (h : ∀ d ∈ ds, Sm n d) : Sm (n + 1) (.tuple ds) := ⟨by unfold PyData.canLay0; exact can_all fun d hd => (h d hd).1, by unfold PyData.depth; exact Nat.succ_le_succ (depth_all fun d hd => (h d hd).2)⟩
theorem Sm.mono {n m : Nat} {d : PyData} (h : Sm n d) (e : n ≤ m) : Sm m d := ⟨h.1, Nat.le_trans h.2 e⟩
theorem Sm.shaped {n : Nat} {d : PyData} (h : Sm n d) (e : n ≤ 64 := by decide) : SeqAt.shaped d = true := by
  unfold SeqAt.shaped
  rw [h.1, decide_eq_true (Nat.le_trans h.2 e)]; rfl
theorem Sm.refl {n : Nat} {d : PyData} (h : Sm n d) : PyData.eqv d d = true := SeqAt.eqv_refl d h.1
theorem Sm.ints {n : Nat} (l : List Int) : ∀ d ∈ l.map PyData.int, Sm n d := fun d hd => by
  obtain ⟨i, _, rfl⟩ := List.mem_map.mp hd
  exact .int i
/-- two lists of whole numbers -/
theorem eqv_ints : ∀ (l m : List Int), PyData.eqv (.list (l.map .int)) (.list (m.map .int)) = decide (l = m) := by
  intro l m
  rw [PyData.eqv]
  induction l generalizing m with
  | nil => cases m with
    | nil => rfl
    | cons b m => rfl
  | cons a l ih => cases m with
    | nil => rfl
    | cons b m =>
      rw [List.map_cons, List.map_cons, PyData.eqvAll, ih m, PyData.eqv, Bool.beq_eq_decide_eq, Bool.eq_iff_iff]
      simp

/-! ### pairs, forms -/
def dPairs (l : List Pr) : List PyData := l.map fun p : Pr => .tuple [.int (p.1 : Int), .int (p.2 : Int)]
theorem dPairs_app (l m : List Pr) : dPairs (l ++ m) = dPairs l ++ dPairs m := by unfold dPairs; rw [List.map_append]
theorem dPairs_len (l : List Pr) : (dPairs l).length = l.length := by unfold dPairs; rw [List.length_map]
theorem Sm.pair (i j : Int) {n : Nat} : Sm (n + 1) (.tuple [.int i, .int j]) := .tuple fun d hd => by
  rcases List.mem_cons.mp hd with rfl | hd
  · exact .int _
  · rcases List.mem_cons.mp hd with rfl | hd
    · exact .int _
    · cases hd
theorem Sm.pairs {n : Nat} (l : List Pr) : ∀ d ∈ dPairs l, Sm (n + 1) d := fun d hd => by
  obtain ⟨p, _, rfl⟩ := List.mem_map.mp hd
  exact .pair _ _
def kdB (b : Nat) : Kd := if popc b ≤ 2 * (runsB b).length ∧ popc b ≤ 32 then .row else if 2 * (runsB b).length ≤ 32 then .runs else .bits
def kindS : Kd → Str
  | .row => "row"
  | .runs => "runs"
  | .bits => "bits"
def wordB (b k : Nat) : Nat := b / 2 ^ (64 * k) % 2 ^ 64
def heldD (k : Kd) (b : Nat) : List PyData := match k with
  | .row => (nz (bitsOf b)).map .int
  | .runs => dPairs (runsB b)
  | .bits => (nz ((List.range 4).map (wordB b))).map .int
def formDs (k : Kd) (b : Nat) : List PyData := [.str (kindS k), .tuple (heldD k b)]
def formD (b : Nat) : PyData := .tuple (formDs (kdB b) b)
def weightK (k : Kd) (b : Nat) : Nat := match k with
  | .row => popc b
  | .runs => 2 * (runsB b).length
  | .bits => 32
theorem kind_ok (k : Kd) : PyData.strOk (kindS k) = true := by cases k <;> decide +kernel
theorem Sm.held (k : Kd) (b : Nat) : ∀ d ∈ heldD k b, Sm 1 d := by
  cases k with
  | row => exact Sm.ints _
  | runs => exact Sm.pairs _
  | bits => exact Sm.ints _
theorem Sm.formDs (k : Kd) (b : Nat) : ∀ d ∈ formDs k b, Sm 2 d := fun d hd => by
  rcases List.mem_cons.mp hd with rfl | hd
  · exact .str (kind_ok k)
  · rcases List.mem_cons.mp hd with rfl | hd
    · exact .tuple (Sm.held k b)
    · cases hd
theorem Sm.form (b : Nat) : Sm 3 (formD b) := .tuple (Sm.formDs _ b)
theorem weight_least (b : Nat) : weightK (kdB b) b = if popc b ≤ 2 * (runsB b).length ∧ popc b ≤ 32 then popc b else if 2 * (runsB b).length ≤ 32 then 2 * (runsB b).length else 32 := by
  unfold kdB
  split
  · rfl
  · split <;> rfl
/-! ### what a def hands back: a new list, a new tuple of data -/
def GivesL (c : Cs) (H : Hp) (Q : VK) (ds : List PyData) : Prop := ∀ (p : Addr) (xs : List V) (H' : Hp), Same H H' → H p = none → H' p = some (.lst xs) → Fds c.K H H' xs ds → Q (.ref p) H'
def GivesT (c : Cs) (H : Hp) (Q : VK) (ds : List PyData) : Prop := ∀ (p : Addr) (xs : List V) (H' : Hp), Same H H' → H p = none → H' p = some (.tup xs) → Fds c.K H H' xs ds → Q (.ref p) H'
/-- all of a list's domain stays -/
theorem dom_mut {H H' : Hp} {p : Addr} {o : HO} (d : ∀ b, H' b = none → H b = none) (hp : H' p ≠ none) : ∀ b, upd H' p o b = none → H b = none := fun b q => by
  by_cases c : b = p
  · subst c; rw [upd_same] at q; cases q
  · rw [upd_ne c] at q; exact d b q
theorem dom_same {H H' : Hp} (s : Same H H') : ∀ b, H' b = none → H b = none := fun b q => s.free q
theorem take_more {α : Type} : ∀ {l : List α} {i : Nat} {x : α}, l[i]? = some x → l.take (i + 1) = l.take i ++ [x]
  | [], i, x, h => by simp at h
  | a :: l, 0, x, h => by
    have e : a = x := Option.some.inj h
    subst e
    rfl
  | a :: l, i + 1, x, h => by
    have ih := take_more (l := l) (i := i) (x := x) h
    show a :: l.take (i + 1) = a :: l.take i ++ [x]
    rw [ih]
    rfl
/-! ### a comprehension by what each item gives -/
/-- the data of the items below i that are kept -/
def pickD (keep : Nat → Bool) (f : Nat → PyData) (n : Nat) : List PyData := ((List.range n).filter keep).map f
theorem pickD_succ {keep : Nat → Bool} {f : Nat → PyData} (n : Nat) : pickD keep f (n + 1) = if keep n = true then pickD keep f n ++ [f n] else pickD keep f n := by
  unfold pickD
  rw [List.range_succ, List.filter_append, List.map_append]
  by_cases h : keep n = true
  · rw [if_pos h, List.filter_cons, if_pos h]; rfl
  · rw [if_neg h, List.filter_cons, if_neg h]; simp
theorem pickD_len (keep : Nat → Bool) (f : Nat → PyData) (n : Nat) : (pickD keep f n).length ≤ n := by
  unfold pickD
  rw [List.length_map]
  exact Nat.le_trans (List.length_filter_le _ _) (by simp)
/-- what holds between two turns -/
def LcInv (K : PySem.W.Frag) (H1 : Hp) (D : Addr) (keep : Nat → Bool) (f : Nat → PyData) (i : Nat) (H : Hp) : Prop := ∃ acc : List V, Same H1 H ∧ H D = some (.lst acc) ∧ (∀ b, H b = none → upd H1 D (.lst []) b = none) ∧ Fds K (upd H1 D (.lst [])) H acc (pickD keep f i)
theorem lcInv0 {K : PySem.W.Frag} {H1 : Hp} {D : Addr} {keep : Nat → Bool} {f : Nat → PyData} (nD : H1 D = none) : LcInv K H1 D keep f 0 (upd H1 D (.lst [])) := ⟨[], (new_of nD rfl).1, upd_same, fun _ q => q, Fds.nil⟩
theorem lcInv_keep {K : PySem.W.Frag} {H1 H H4 : Hp} {D : Addr} {keep : Nat → Bool} {f : Nat → PyData} {i : Nat} {y : V} (nD : H1 D = none) (h : LcInv K H1 D keep f i H) (hk : keep i = true) (s : Same H H4) (hy : Fd K H H4 y (f i)) (hl : i ≤ 99998) :
    ∃ acc, H4 D = some (.lst acc) ∧ acc.length < sizeLine ∧ LcInv K H1 D keep f (i + 1) (upd H4 D (.lst (acc ++ [y]))) := by
  obtain ⟨acc, s1, hD, dom, hf⟩ := h
  have l := hf.len
  have l2 := pickD_len keep f i
  refine ⟨acc, s _ _ hD, sl5 (by omega), acc ++ [y], (s1.trans s).mut nD, upd_same, dom_mut (fun b q => dom b (s.free q)) (by rw [s _ _ hD]; simp), ?_⟩
  rw [pickD_succ, if_pos hk]
  exact Fds.snoc ((hf.to (New.same s)).to (New.mut upd_same New.refl)) ((hy.left dom).to (New.mut upd_same New.refl))
theorem lcInv_skip {K : PySem.W.Frag} {H1 H H4 : Hp} {D : Addr} {keep : Nat → Bool} {f : Nat → PyData} {i : Nat} (h : LcInv K H1 D keep f i H) (hk : keep i = false) (s : Same H H4) : LcInv K H1 D keep f (i + 1) H4 := by
  obtain ⟨acc, s1, hD, dom, hf⟩ := h
  refine ⟨acc, s1.trans s, s _ _ hD, fun b q => dom b (s.free q), ?_⟩
  rw [pickD_succ, if_neg (by rw [hk]; simp)]
  exact hf.to (New.same s)
section
variable {K : PySem.W.Frag} {g : TG} {tt : TT} {te : TE} {vs : List Nat} {σ : L2.St} {H1 : Hp} {D : Addr} {Qd : Hp → Prop} (keep : Nat → Bool) (f : Nat → PyData)
theorem lcL {a : Addr} {xs : List V} (nD : H1 D = none) (hx : SqL K H1 a xs) (hl : xs.length ≤ 99999)
    (hs : ∀ (i : Nat) (x : V) (H : Hp) (Rk : VK) (Rs : Hp → Prop), xs[i]? = some x → Same H1 H → (keep i = true → ∀ y H4, Same H H4 → Fd K H H4 y (f i) → Rk y H4) → (keep i = false → ∀ H3, Same H H3 → Rs H3) →
      g x (wipe σ vs) H fun σ2 H2 => wipe σ2 vs = wipe σ vs ∧ tt σ2 H2 fun b H3 => if b = true then te σ2 H3 Rk else Rs H3)
    (hd : ∀ H acc, Same H1 H → H D = some (.lst acc) → Fds K H1 H acc (pickD keep f xs.length) → Qd H) :
    ∃ W : Nat → Nat → Hp → Prop, (∃ m, W 0 m (upd H1 D (.lst []))) ∧ ∀ i m H, W i m H →
      ((Itl K a).stop i H ∧ Qd H) ∨ ((Itl K a).go i H ∧ ∃ Nx : Hp → Prop, (∀ H', Nx H' → ∃ m', m' < m ∧ W (i + 1) m' H') ∧ ∀ x H', (Itl K a).yld i H x H' → g x (wipe σ vs) H' fun σ2 H2 => wipe σ2 vs = wipe σ vs ∧ tt σ2 H2 fun b H3 =>
        if b = true then te σ2 H3 fun y H4 => ∃ acc, H4 D = some (.lst acc) ∧ acc.length < sizeLine ∧ Nx (upd H4 D (.lst (acc ++ [y]))) else Nx H3) := by
  refine lc_list (K := K) (a := a) (xs := xs) (LcInv K H1 D keep f) (lcInv0 nD) (fun i H _ ⟨_, s, _⟩ => s.seq hx) (fun i x H hi P => ?_) (fun H ⟨acc, s, h, dom, hf⟩ => hd H acc s h (hf.left fun b q => ?_))
  · have il := (List.getElem?_eq_some_iff.mp hi).1
    exact hs i x H _ _ hi P.choose_spec.1 (fun hk y H4 s hy => lcInv_keep nD P hk s hy (by omega)) fun hk H3 s => lcInv_skip P hk s
  · exact (new_of nD rfl).2.2 b q
theorem lcT {a : Addr} {xs : List V} (nD : H1 D = none) (hx : SqT K H1 a xs) (hl : xs.length ≤ 99999)
    (hs : ∀ (i : Nat) (x : V) (H : Hp) (Rk : VK) (Rs : Hp → Prop), xs[i]? = some x → Same H1 H → (keep i = true → ∀ y H4, Same H H4 → Fd K H H4 y (f i) → Rk y H4) → (keep i = false → ∀ H3, Same H H3 → Rs H3) →
      g x (wipe σ vs) H fun σ2 H2 => wipe σ2 vs = wipe σ vs ∧ tt σ2 H2 fun b H3 => if b = true then te σ2 H3 Rk else Rs H3)
    (hd : ∀ H acc, Same H1 H → H D = some (.lst acc) → Fds K H1 H acc (pickD keep f xs.length) → Qd H) :
    ∃ W : Nat → Nat → Hp → Prop, (∃ m, W 0 m (upd H1 D (.lst []))) ∧ ∀ i m H, W i m H →
      ((Itt K a).stop i H ∧ Qd H) ∨ ((Itt K a).go i H ∧ ∃ Nx : Hp → Prop, (∀ H', Nx H' → ∃ m', m' < m ∧ W (i + 1) m' H') ∧ ∀ x H', (Itt K a).yld i H x H' → g x (wipe σ vs) H' fun σ2 H2 => wipe σ2 vs = wipe σ vs ∧ tt σ2 H2 fun b H3 =>
        if b = true then te σ2 H3 fun y H4 => ∃ acc, H4 D = some (.lst acc) ∧ acc.length < sizeLine ∧ Nx (upd H4 D (.lst (acc ++ [y]))) else Nx H3) := by
  refine lc_tup (K := K) (a := a) (xs := xs) (LcInv K H1 D keep f) (lcInv0 nD) (fun i H _ ⟨_, s, _⟩ => s.tup hx) (fun i x H hi P => ?_) (fun H ⟨acc, s, h, dom, hf⟩ => hd H acc s h (hf.left fun b q => ?_))
  · have il := (List.getElem?_eq_some_iff.mp hi).1
    exact hs i x H _ _ hi P.choose_spec.1 (fun hk y H4 s hy => lcInv_keep nD P hk s hy (by omega)) fun hk H3 s => lcInv_skip P hk s
  · exact (new_of nD rfl).2.2 b q
theorem lcR {lo : Int} {n : Nat} (nD : H1 D = none) (hl : n ≤ 99999)
    (hs : ∀ (i : Nat) (H : Hp) (Rk : VK) (Rs : Hp → Prop), i < n → Same H1 H → (keep i = true → ∀ y H4, Same H H4 → Fd K H H4 y (f i) → Rk y H4) → (keep i = false → ∀ H3, Same H H3 → Rs H3) →
      g (.int (lo + i)) (wipe σ vs) H fun σ2 H2 => wipe σ2 vs = wipe σ vs ∧ tt σ2 H2 fun b H3 => if b = true then te σ2 H3 Rk else Rs H3)
    (hd : ∀ H acc, Same H1 H → H D = some (.lst acc) → Fds K H1 H acc (pickD keep f n) → Qd H) :
    ∃ W : Nat → Nat → Hp → Prop, (∃ m, W 0 m (upd H1 D (.lst []))) ∧ ∀ i m H, W i m H →
      ((Itr lo n).stop i H ∧ Qd H) ∨ ((Itr lo n).go i H ∧ ∃ Nx : Hp → Prop, (∀ H', Nx H' → ∃ m', m' < m ∧ W (i + 1) m' H') ∧ ∀ x H', (Itr lo n).yld i H x H' → g x (wipe σ vs) H' fun σ2 H2 => wipe σ2 vs = wipe σ vs ∧ tt σ2 H2 fun b H3 =>
        if b = true then te σ2 H3 fun y H4 => ∃ acc, H4 D = some (.lst acc) ∧ acc.length < sizeLine ∧ Nx (upd H4 D (.lst (acc ++ [y]))) else Nx H3) := by
  refine lc_range (LcInv K H1 D keep f) (lcInv0 nD) (fun i H hi P => ?_) (fun H ⟨acc, s, h, dom, hf⟩ => hd H acc s h (hf.left fun b q => ?_))
  · exact hs i H _ _ hi P.choose_spec.1 (fun hk y H4 s hy => lcInv_keep nD P hk s hy (by omega)) fun hk H3 s => lcInv_skip P hk s
  · exact (new_of nD rfl).2.2 b q
end
/-- kept all, whole numbers -/
theorem pickD_all {f : Nat → PyData} (n : Nat) : pickD (fun _ => true) f n = (List.range n).map f := by
  unfold pickD
  rw [List.filter_eq_self.mpr (fun _ _ => rfl)]
theorem Fds.intsInv {K : PySem.W.Frag} {H H' : Hp} {vs : List V} {ns : List Int} (h : Fds K H H' vs (ns.map PyData.int)) : vs = ns.map V.int := dpa_ints_inv h.now
/-! ### what data say of the values -/
theorem fds_cons_inv {K : PySem.W.Frag} {H H' : Hp} {vs : List V} {d : PyData} {ds : List PyData} (h : Fds K H H' vs (d :: ds)) : ∃ v ws, vs = v :: ws ∧ Fd K H H' v d ∧ Fds K H H' ws ds := by
  have a := h.now
  cases a with
  | cons h1 h2 =>
    refine ⟨_, _, rfl, fun H'' n => ?_, fun H'' n => ?_⟩
    · cases h H'' n with
      | cons a b => exact a
    · cases h H'' n with
      | cons a b => exact b
theorem fds_nil_inv {K : PySem.W.Frag} {H H' : Hp} {vs : List V} (h : Fds K H H' vs []) : vs = [] := by
  have a := h.now
  cases a; rfl
theorem fd_int_inv {K : PySem.W.Frag} {H H' : Hp} {v : V} {i : Int} (h : Fd K H H' v (.int i)) : v = .int i := by
  have a := h.now
  cases a; rfl
theorem fd_str_inv {K : PySem.W.Frag} {H H' : Hp} {v : V} {i : Str} (h : Fd K H H' v (.str i)) : v = .str i := by
  have a := h.now
  cases a; rfl
theorem dp_int_inv {K : PySem.W.Frag} {H : Hp} {v : V} {i : Int} (a : Dp K H v (.int i)) : v = .int i := by cases a; rfl
theorem dp_str_inv {K : PySem.W.Frag} {H : Hp} {v : V} {i : Str} (a : Dp K H v (.str i)) : v = .str i := by cases a; rfl
theorem dpa_cons_inv {K : PySem.W.Frag} {H : Hp} {vs : List V} {d : PyData} {ds : List PyData} (h : DpAll K H vs (d :: ds)) : ∃ v ws, vs = v :: ws ∧ Dp K H v d ∧ DpAll K H ws ds := by
  cases h with
  | cons h1 h2 => exact ⟨_, _, rfl, h1, h2⟩
theorem dpa_nil_inv {K : PySem.W.Frag} {H : Hp} {vs : List V} (h : DpAll K H vs []) : vs = [] := by cases h; rfl
theorem inV_nz (l : List Nat) (i : Nat) : inV (.int (i : Int)) ((nz l).map V.int) = decide (i ∈ l) := by
  unfold inV nz
  rw [List.map_map, List.any_map]
  rw [Bool.eq_iff_iff, List.any_eq_true, decide_eq_true_eq]
  constructor
  · rintro ⟨x, hx, h⟩
    have : ((x : Int) == (i : Int)) = true := h
    rw [beq_iff_eq] at this
    have : x = i := by omega
    exact this ▸ hx
  · intro h
    exact ⟨i, h, by show ((i : Int) == (i : Int)) = true; simp⟩
theorem flat_ints (l : List Int) : (l.map V.int).all flatV = true := by
  rw [List.all_eq_true]
  intro x hx
  obtain ⟨i, _, rfl⟩ := List.mem_map.mp hx
  rfl
theorem mem_bits_dec (b i : Nat) : decide (i ∈ bitsOf b) = b.testBit i := by
  rw [Bool.eq_iff_iff, decide_eq_true_eq, mem_bitsOf]
/-- a list of whole numbers as data -/
theorem dp_ints {K : PySem.W.Frag} {H : Hp} {p : Addr} {l : List Int} (h : SqL K H p (l.map V.int)) : Dp K H (.ref p) (.list (l.map .int)) := .lst h (dpa_ints l)

/-! ### lows_of -/
def sp_lows_of (c : Cs) : Sp := fun vs H Q _ => ∃ b : Nat, vs = [.int (b : Int)] ∧ b < 2 ^ 256 ∧ ∀ (p : Addr) (H' : Hp), Same H H' → H p = none → H' p = some (.lst ((nz (bitsOf b)).map V.int)) → Q (.ref p) H'
theorem len_lows_of (c : Cs) : ∀ vs H Q E, sp_lows_of c vs H Q E → vs.length = (["bits"] : List Str).length := by
  rintro vs H Q E ⟨b, rfl, _⟩; rfl
/-- lows_of -/
def t_lows_of (c : Cs) (E : XK) : TS :=
  tSeq (tAsg (tLst (tNil)) (gName 1))
    (tSeq (tWhile (tTest (tOp (rGt) (tVar 0) (tC (.int 0)))) (tSeq (tAsg (tOp rBan (tVar 0) (tUn rNeg (tVar 0))) (gName 2))
    (tSeq (tDrop (tBM c.K "list" rAppend (tVar 1) (tCons (tOp rSub (tBits (tVar 2)) (tC (.int 1))) (tNil))))
    (tAug 0 (tVar 2) pBxo))))
    (tRet (tVar 1)))
theorem pure_lows_of {c : Cs} (G : Good c) (vs : List V) (H : Hp) (Q : VK) (E : XK) (h : sp_lows_of c vs H Q E) : t_lows_of c E { nx := fun _ H' => Q .non H', rt := Q } (start ["bits", "found", "low"] vs) H := by
  obtain ⟨b0, rfl, hb, hQ⟩ := h
  unfold t_lows_of
  show tSeq _ _ _ [some (.int (b0 : Int)), none, none] H
  walk_at "go"
  refine ⟨sz5 (by decide), fun p np => ?_⟩
  walk_at "go"
  refine w_while (fun m σ H1 => ∃ (b : Nat) (acc : List Nat) (v : Option V), m = b ∧ σ = [some (.int (b : Int)), some (.ref p), v] ∧ b ≤ b0 ∧ Same H H1 ∧ H1 p = some (.lst ((nz acc).map V.int)) ∧ acc ++ bitsOf b = bitsOf b0) b0
    ⟨b0, [], none, rfl, rfl, Nat.le_refl _, (new_of np rfl).1, upd_same, rfl⟩ ?_
  rintro m σ H1 ⟨b, acc, v, rfl, rfl, hle, s, hp, he⟩
  walk_at "go"
  refine if_d (fun h0 => ?_) (fun h0 => ?_)
  · have h0 : 0 < m := by omega
    refine w_body ?_
    walk_at "go"
    rw [and_neg h0]
    refine ⟨tyL hp, ?_⟩
    walk_at "go"
    rw [bits_pow]
    have hl : acc.length ≤ 256 := by
      have := congrArg List.length he
      rw [List.length_append] at this
      have := bitsOf_len hb
      omega
    refine r_append hp (by rw [nzv_len]; exact sl5 (by omega)) ?_
    walk_at "go"
    rw [xor_cast, clr_xor h0]
    have e1 : (((tz m + 1 : Nat) : Int) - 1) = ((tz m : Nat) : Int) := by omega
    rw [e1]
    refine ⟨clr m, clr_lt h0, clr m, acc ++ [tz m], _, rfl, rfl, Nat.le_trans (Nat.le_of_lt (clr_lt h0)) hle, s.mut np, ?_, ?_⟩
    · rw [upd_same, nz_app, List.map_append]; rfl
    · rw [List.append_assoc, ← he, bitsOf_clr h0]; rfl
  · have h0 : m = 0 := by omega
    subst h0
    walk_at "go"
    rw [bitsOf_zero, List.append_nil] at he
    exact hQ p H1 s np (by rw [hp, he])
/-! ### runs_of -/
def sp_runs_of (c : Cs) : Sp := fun vs H Q _ => ∃ b : Nat, vs = [.int (b : Int)] ∧ b < 2 ^ 256 ∧ GivesL c H Q (dPairs (runsB b))
theorem len_runs_of (c : Cs) : ∀ vs H Q E, sp_runs_of c vs H Q E → vs.length = (["bits"] : List Str).length := by
  rintro vs H Q E ⟨b, rfl, _⟩; rfl
/-- runs_of -/
def t_runs_of (c : Cs) (E : XK) : TS :=
  tSeq (tAsg (tLst (tNil)) (gName 1))
    (tSeq (tAsg (tC (.int 0)) (gName 2))
    (tSeq (tWhile (tTest (tOp (rGt) (tVar 0) (tC (.int 0)))) (tSeq (tAsg (tOp rSub (tBits (tOp rBan (tVar 0) (tUn rNeg (tVar 0)))) (tC (.int 1))) (gName 3))
    (tSeq (tAug 0 (tVar 3) pShr)
    (tSeq (tAsg (tOp rSub (tBits (tOp rBan (tOp rAdd (tVar 0) (tC (.int 1))) (tUn rInv (tVar 0)))) (tC (.int 1))) (gName 4))
    (tSeq (tAug 0 (tVar 4) pShr)
    (tSeq (tDrop (tBM c.K "list" rAppend (tVar 1) (tCons (tTup (tCons (tOp rAdd (tVar 2) (tVar 3)) (tCons (tOp rSub (tOp rAdd (tOp rAdd (tVar 2) (tVar 3)) (tVar 4)) (tC (.int 1))) (tNil)))) (tNil))))
    (tAug 2 (tOp rAdd (tVar 3) (tVar 4)) pAdd)))))))
    (tRet (tVar 1))))
/-- what is left of the runs behind some -/
def runsFrom (place b : Nat) : List Pr := (runsB b).map fun p => (place + p.1, place + p.2)
theorem runsFrom_step {place b : Nat} (h : 0 < b) : runsFrom place b = (place + tz b, place + tz b + tz (b / 2 ^ tz b + 1) - 1) :: runsFrom (place + (tz b + tz (b / 2 ^ tz b + 1))) (b / 2 ^ tz b / 2 ^ tz (b / 2 ^ tz b + 1)) := by
  unfold runsFrom
  rw [runsB_peel h _ _ _ _ rfl rfl rfl rfl, List.map_cons, List.map_map]
  have hm := (peel h _ _ _ _ rfl rfl rfl rfl).1
  congr 1
  · simp; omega
  · apply List.map_congr_left
    intro p _
    simp; omega
theorem pure_runs_of {c : Cs} (G : Good c) (vs : List V) (H : Hp) (Q : VK) (E : XK) (h : sp_runs_of c vs H Q E) : t_runs_of c E { nx := fun _ H' => Q .non H', rt := Q } (start ["bits", "found", "place", "gap", "many"] vs) H := by
  obtain ⟨b0, rfl, hb, hQ⟩ := h
  unfold t_runs_of
  show tSeq _ _ _ [some (.int (b0 : Int)), none, none, none, none] H
  walk_at "go"
  refine ⟨sz5 (by decide), fun p np => ?_⟩
  walk_at "go"
  generalize e1 : upd H p _ = H1
  obtain ⟨s1, hp1, d1⟩ := new_of np e1
  refine w_while (fun m σ H2 => ∃ (b place : Nat) (acc : List Pr) (xs : List V) (u v : Option V), m = b ∧ σ = [some (.int (b : Int)), some (.ref p), some (.int (place : Int)), u, v] ∧ b ≤ b0 ∧ Same H H2 ∧ H2 p = some (.lst xs) ∧ (∀ q, H2 q = none → H1 q = none) ∧ Fds c.K H1 H2 xs (dPairs acc) ∧ acc ++ runsFrom place b = runsB b0) b0
    ⟨b0, 0, [], [], none, none, rfl, rfl, Nat.le_refl _, s1, hp1, fun _ q => q, Fds.nil, ?_⟩ ?_
  · unfold runsFrom; simp
  rintro m σ H2 ⟨b, place, acc, xs, u, v, rfl, rfl, hle, s, hp, dom, hf, he⟩
  walk_at "go"
  refine if_d (fun h0 => ?_) (fun h0 => ?_)
  · have h0 : 0 < m := by omega
    have st := runsFrom_step (place := place) h0
    obtain ⟨hm0, _, _, hlt⟩ := peel h0 _ _ _ _ rfl rfl rfl rfl
    refine w_body ?_
    walk_at "go"
    rw [and_neg h0]
    walk_at "go"
    rw [bits_pow]
    walk_at "go"
    have eg : (((tz m + 1 : Nat) : Int) - 1) = ((tz m : Nat) : Int) := by omega
    rw [eg]
    have es : ((m : Int) / 2 ^ ((tz m : Nat) : Int).toNat) = ((m / 2 ^ tz m : Nat) : Int) := by rw [Int.toNat_natCast, Int.natCast_ediv, Int.natCast_pow]; rfl
    rw [es]
    generalize hc : m / 2 ^ tz m = cc at *
    rw [and_not_succ, bits_pow]
    generalize hmm : tz (cc + 1) = mm at *
    have em : (((mm + 1 : Nat) : Int) - 1) = ((mm : Nat) : Int) := by omega
    rw [em]
    walk_at "go"
    have es2 : ((cc : Int) / 2 ^ ((mm : Nat) : Int).toNat) = ((cc / 2 ^ mm : Nat) : Int) := by rw [Int.toNat_natCast, Int.natCast_ediv, Int.natCast_pow]; rfl
    rw [es2]
    refine ⟨tyL hp, ?_⟩
    walk_at "go"
    refine ⟨sz5 (by simp), fun t nt => ?_⟩
    generalize et : upd H2 t _ = H3
    obtain ⟨sH3, ht, dH3⟩ := new_of nt et
    walk_at "go"
    have hp3 := sH3 _ _ hp
    have hl : xs.length ≤ 256 := by
      have a := hf.len
      rw [dPairs_len] at a
      have b1 := congrArg List.length he
      rw [List.length_append] at b1
      have b2 := runsL_len _ (bitsOf b0) rfl
      have b3 := bitsOf_len hb
      unfold runsB at b1
      omega
    refine r_append hp3 (sl5 (by omega)) ?_
    walk_at "go"
    have ep : ((place : Int) + (((tz m : Nat) : Int) + (mm : Int))) = ((place + (tz m + mm) : Nat) : Int) := by omega
    rw [ep]
    refine ⟨cc / 2 ^ mm, hlt, cc / 2 ^ mm, place + (tz m + mm), acc ++ [(place + tz m, place + tz m + mm - 1)], xs ++ [.ref t], _, _, rfl, rfl, by omega, (s.trans sH3).mut np, upd_same, ?_, ?_, ?_⟩
    · refine dom_mut (fun q z => dom q (dH3 q z)) (by rw [hp3]; simp)
    · rw [dPairs_app]
      refine Fds.snoc ((hf.to (New.same sH3)).to (New.mut hp1 New.refl)) ?_
      have e4 : ((place : Int) + ((tz m : Nat) : Int)) = ((place + tz m : Nat) : Int) := by omega
      have e5 : ((place : Int) + ((tz m : Nat) : Int) + (mm : Int) - 1) = ((place + tz m + mm - 1 : Nat) : Int) := by omega
      rw [e5, e4] at ht
      exact (Fd.tup (dom _ nt) ht (Fds.cons (.int _) (Fds.cons (.int _) .nil))).to (New.mut hp1 New.refl)
    · rw [List.append_assoc, ← he, st]; rfl
  · have h0 : m = 0 := by omega
    subst h0
    walk_at "go"
    have e0 : runsFrom place 0 = [] := by unfold runsFrom; rw [runsB_zero]; rfl
    rw [e0, List.append_nil] at he
    rw [he] at hf
    exact hQ p xs H2 s np hp (hf.left d1)
/-! ### count_of -/
def sp_count_of (c : Cs) : Sp := fun vs H Q _ => ∃ b : Nat, vs = [.int (b : Int)] ∧ b < 2 ^ 256 ∧ ∀ H', Same H H' → Q (.int (popc b : Nat)) H'
theorem len_count_of (c : Cs) : ∀ vs H Q E, sp_count_of c vs H Q E → vs.length = (["bits"] : List Str).length := by
  rintro vs H Q E ⟨b, rfl, _⟩; rfl
/-- count_of -/
def t_count_of (c : Cs) (E : XK) : TS :=
  tRet (tCB (rSum c.K) (tCons (tLc (iSeq c.K (tCall (sp_runs_of c) [] E (tCons (tVar 0) (tNil)))) (gTup c.K 2 (gCons (gName 1) (gCons (gName 2) (gNil)))) (tYes) (tOp rAdd (tOp rSub (tVar 2) (tVar 1)) (tC (.int 1))) [1, 2]) (tNil)))
theorem pure_count_of {c : Cs} (G : Good c) (vs : List V) (H : Hp) (Q : VK) (E : XK) (h : sp_count_of c vs H Q E) : t_count_of c E { nx := fun _ H' => Q .non H', rt := Q } (start ["bits", "first", "last"] vs) H := by
  obtain ⟨b, rfl, hb, hQ⟩ := h
  unfold t_count_of
  show tRet _ _ [some (.int (b : Int)), none, none] H
  walk_at "go"
  refine .inl ?_
  show tCall _ _ _ _ _ _ _
  walk_at "go"
  refine ⟨b, rfl, hb, fun p xs H1 s1 np hp hf => ⟨p, rfl, ⟨xs, SqL.of hp⟩, fun D nD => ?_⟩⟩
  have fl : xs.length = (runsB b).length := by rw [hf.len, dPairs_len]
  refine lc_list (K := c.K) (a := p) (xs := xs) (fun i H2 => ∃ ns : List Int, Same H1 H2 ∧ H2 D = some (.lst (ns.map V.int)) ∧ ns = ((runsB b).take i).map fun q => (q.2 : Int) - (q.1 : Int) + 1)
    ⟨[], (new_of nD rfl).1, upd_same, rfl⟩ (fun i H2 _ ⟨_, s, _⟩ => s.seq (SqL.of hp)) ?_ ?_
  · rintro i x H2 hi ⟨ns, s2, hD, en⟩
    obtain ⟨d, hd, hx⟩ := hf.now.get hi
    have hx := hx.ext s2
    obtain ⟨q, hq, rfl⟩ : ∃ q, (runsB b)[i]? = some q ∧ d = .tuple [.int (q.1 : Int), .int (q.2 : Int)] := by
      unfold dPairs at hd
      rw [List.getElem?_map] at hd
      cases e : (runsB b)[i]? with
      | none => rw [e] at hd; cases hd
      | some q => rw [e] at hd; exact ⟨q, rfl, (Option.some.inj hd).symm⟩
    obtain ⟨t, ys, rfl, ht, hys⟩ := hx.tup_inv
    cases hys with
    | cons h1 h2 =>
    cases h2 with
    | cons h2 h3 =>
    cases h3
    cases h1
    cases h2
    refine ⟨t, _, rfl, ht, rfl, ?_⟩
    simp only [wipe, List.set_cons_zero, List.set_cons_succ]
    walk_at "go"
    refine ⟨rfl, ?_⟩
    walk_at "go"
    have il : i < (runsB b).length := (List.getElem?_eq_some_iff.mp hi).1 |> fun z => by omega
    have hl : ns.length ≤ 256 := by
      rw [en, List.length_map, List.length_take]
      have b2 := runsL_len _ (bitsOf b) rfl
      have b3 := bitsOf_len hb
      unfold runsB
      omega
    refine ⟨_, hD, by rw [List.length_map]; exact sl5 (by omega), ns ++ [(q.2 : Int) - (q.1 : Int) + 1], s2.mut nD, by rw [upd_same, List.map_append]; rfl, ?_⟩
    rw [en, take_more hq, List.map_append]; rfl
  · rintro H2 ⟨ns, s2, hD, en⟩
    walk_at "go"
    refine r_sum (SqL.of hD) ?_
    have e : ns.sum = (popc b : Int) := by
      rw [en, fl, List.take_length, ← runSum_B]; rfl
    rw [e]
    exact hQ H2 (s1.trans s2)

/-! ### the sacks' methods, by kind -/
theorem SackK.at {c : Cs} {H : Hp} {s : Addr} {k : Kd} {b : Nat} {m : Str} {fam : Addr → Sp → Prop} {sp : Sp} {R : Sp → Prop} {dvs : List V} (h : SackK c H s k b) (hf : fam (c.kd k) sp) (hm : (m == ("bits" : Str)) = false) (q : R sp) :
    ∃ a C dx fs sp, V.ref s = .ref a ∧ H a = some (.ins C dx fs) ∧ fam C sp ∧ fs.lookup m = none ∧ R sp := by
  obtain ⟨dx, h⟩ := h
  exact ⟨s, _, dx, _, sp, rfl, h, hf, lk0 hm, q⟩
theorem SackK.fld {c : Cs} (G : Good c) {H : Hp} {s : Addr} {k : Kd} {b : Nat} {R : V → Prop} (h : SackK c H s k b) (q : R (.int (b : Int))) :
    ∃ a C dx fs v, V.ref s = .ref a ∧ H a = some (.ins C dx fs) ∧ Cls c.K C ∧ NoAttr c.K C "bits" ∧ fs.lookup ("bits" : Str) = some v ∧ R v := by
  obtain ⟨dx, h⟩ := h
  exact ⟨s, _, dx, _, _, rfl, h, G.cl k, G.na k, lk1, q⟩
def sp_m_kind (c : Cs) (k : Kd) : Sp := fun vs H Q _ => ∃ (s : Addr) (b : Nat), vs = [.ref s] ∧ SackK c H s k b ∧ Q (.str (kindS k)) H
def fam_kind (c : Cs) (C : Addr) (sp : Sp) : Prop := ∃ k, C = c.kd k ∧ sp = sp_m_kind c k
def sp_RowSack_kind (c : Cs) := sp_m_kind c .row
def sp_RunsSack_kind (c : Cs) := sp_m_kind c .runs
def sp_BitsSack_kind (c : Cs) := sp_m_kind c .bits
theorem len_RowSack_kind (c : Cs) : ∀ vs H Q E, sp_RowSack_kind c vs H Q E → vs.length = (["self"] : List Str).length := by
  rintro vs H Q E ⟨s, b, rfl, _⟩; rfl
/-- RowSack.kind -/
def t_RowSack_kind (c : Cs) (E : XK) : TS :=
  tRet (tC (.str "row"))
theorem pure_RowSack_kind {c : Cs} (G : Good c) (vs : List V) (H : Hp) (Q : VK) (E : XK) (h : sp_RowSack_kind c vs H Q E) : t_RowSack_kind c E { nx := fun _ H' => Q .non H', rt := Q } (start ["self"] vs) H := by
  obtain ⟨s, b, rfl, hs, hQ⟩ := h
  exact hQ
theorem len_RunsSack_kind (c : Cs) : ∀ vs H Q E, sp_RunsSack_kind c vs H Q E → vs.length = (["self"] : List Str).length := by
  rintro vs H Q E ⟨s, b, rfl, _⟩; rfl
/-- RunsSack.kind -/
def t_RunsSack_kind (c : Cs) (E : XK) : TS :=
  tRet (tC (.str "runs"))
theorem pure_RunsSack_kind {c : Cs} (G : Good c) (vs : List V) (H : Hp) (Q : VK) (E : XK) (h : sp_RunsSack_kind c vs H Q E) : t_RunsSack_kind c E { nx := fun _ H' => Q .non H', rt := Q } (start ["self"] vs) H := by
  obtain ⟨s, b, rfl, hs, hQ⟩ := h
  exact hQ
theorem len_BitsSack_kind (c : Cs) : ∀ vs H Q E, sp_BitsSack_kind c vs H Q E → vs.length = (["self"] : List Str).length := by
  rintro vs H Q E ⟨s, b, rfl, _⟩; rfl
/-- BitsSack.kind -/
def t_BitsSack_kind (c : Cs) (E : XK) : TS :=
  tRet (tC (.str "bits"))
theorem pure_BitsSack_kind {c : Cs} (G : Good c) (vs : List V) (H : Hp) (Q : VK) (E : XK) (h : sp_BitsSack_kind c vs H Q E) : t_BitsSack_kind c E { nx := fun _ H' => Q .non H', rt := Q } (start ["self"] vs) H := by
  obtain ⟨s, b, rfl, hs, hQ⟩ := h
  exact hQ
def sp_m_held (c : Cs) (k : Kd) : Sp := fun vs H Q _ => ∃ (s : Addr) (b : Nat), vs = [.ref s] ∧ SackK c H s k b ∧ b < 2 ^ 256 ∧ GivesT c H Q (heldD k b)
def fam_held (c : Cs) (C : Addr) (sp : Sp) : Prop := ∃ k, C = c.kd k ∧ sp = sp_m_held c k
def sp_RowSack_held (c : Cs) := sp_m_held c .row
def sp_RunsSack_held (c : Cs) := sp_m_held c .runs
def sp_BitsSack_held (c : Cs) := sp_m_held c .bits
theorem len_RowSack_held (c : Cs) : ∀ vs H Q E, sp_RowSack_held c vs H Q E → vs.length = (["self"] : List Str).length := by
  rintro vs H Q E ⟨s, b, rfl, _⟩; rfl
/-- RowSack.held -/
def t_RowSack_held (c : Cs) (E : XK) : TS :=
  tRet (tCB (rTuple c.K) (tCons (tCall (sp_lows_of c) [] E (tCons (tFld c.K (tVar 0) "bits") (tNil))) (tNil)))
theorem pure_RowSack_held {c : Cs} (G : Good c) (vs : List V) (H : Hp) (Q : VK) (E : XK) (h : sp_RowSack_held c vs H Q E) : t_RowSack_held c E { nx := fun _ H' => Q .non H', rt := Q } (start ["self"] vs) H := by
  obtain ⟨s, b, rfl, hs, hb, hQ⟩ := h
  unfold t_RowSack_held
  show tRet _ _ [some (.ref s)] H
  walk_at "go"
  refine hs.fld G ?_
  walk_at "go"
  refine ⟨b, rfl, hb, fun p H1 s1 np hp => ?_⟩
  walk_at "go"
  refine r_tuple_l (SqL.of hp) ?_
  intro q nq
  generalize eq : upd H1 q _ = H2
  obtain ⟨sH2, hq, dH2⟩ := new_of nq eq
  exact hQ q _ H2 (s1.trans sH2) (s1.free nq) hq (Fds.ints _)
theorem len_RunsSack_held (c : Cs) : ∀ vs H Q E, sp_RunsSack_held c vs H Q E → vs.length = (["self"] : List Str).length := by
  rintro vs H Q E ⟨s, b, rfl, _⟩; rfl
/-- RunsSack.held -/
def t_RunsSack_held (c : Cs) (E : XK) : TS :=
  tRet (tCB (rTuple c.K) (tCons (tCall (sp_runs_of c) [] E (tCons (tFld c.K (tVar 0) "bits") (tNil))) (tNil)))
theorem pure_RunsSack_held {c : Cs} (G : Good c) (vs : List V) (H : Hp) (Q : VK) (E : XK) (h : sp_RunsSack_held c vs H Q E) : t_RunsSack_held c E { nx := fun _ H' => Q .non H', rt := Q } (start ["self"] vs) H := by
  obtain ⟨s, b, rfl, hs, hb, hQ⟩ := h
  unfold t_RunsSack_held
  show tRet _ _ [some (.ref s)] H
  walk_at "go"
  refine hs.fld G ?_
  walk_at "go"
  refine ⟨b, rfl, hb, fun p xs H1 s1 np hp hf => ?_⟩
  walk_at "go"
  refine r_tuple_l (SqL.of hp) ?_
  intro q nq
  generalize eq : upd H1 q _ = H2
  obtain ⟨sH2, hq, dH2⟩ := new_of nq eq
  exact hQ q xs H2 (s1.trans sH2) (s1.free nq) hq (hf.to (New.same sH2))
theorem word_cast (b k : Nat) : Builtin.bitAnd ((b : Int) / 2 ^ ((64 : Int) * ((0 : Int) + (k : Int))).toNat) 18446744073709551615 = ((wordB b k : Nat) : Int) := by
  have e1 : ((64 : Int) * ((0 : Int) + (k : Int))).toNat = 64 * k := by omega
  have e2 : (b : Int) / 2 ^ (64 * k) = ((b / 2 ^ (64 * k) : Nat) : Int) := by rw [Int.natCast_ediv, Int.natCast_pow]; rfl
  have e3 : (18446744073709551615 : Int) = ((2 ^ 64 - 1 : Nat) : Int) := rfl
  rw [e1, e2, e3, and_cast, Nat.and_two_pow_sub_one_eq_mod]
  rfl
theorem words_eq (b : Nat) : (nz ((List.range 4).map (wordB b))).map PyData.int = pickD (fun _ => true) (fun i => PyData.int ((wordB b i : Nat) : Int)) 4 := by
  rw [pickD_all]; rfl
theorem len_BitsSack_held (c : Cs) : ∀ vs H Q E, sp_BitsSack_held c vs H Q E → vs.length = (["self"] : List Str).length := by
  rintro vs H Q E ⟨s, b, rfl, _⟩; rfl
/-- BitsSack.held -/
def t_BitsSack_held (c : Cs) (E : XK) : TS :=
  tRet (tCB (rTuple c.K) (tCons (tLc (iRng1 (tCons (tC (.int 4)) (tNil))) (gName 1) (tYes) (tOp rBan (tOp rShr (tFld c.K (tVar 0) "bits") (tOp rMul (tC (.int 64)) (tVar 1))) (tC (.int 18446744073709551615))) [1]) (tNil)))
theorem pure_BitsSack_held {c : Cs} (G : Good c) (vs : List V) (H : Hp) (Q : VK) (E : XK) (h : sp_BitsSack_held c vs H Q E) : t_BitsSack_held c E { nx := fun _ H' => Q .non H', rt := Q } (start ["self", "k"] vs) H := by
  obtain ⟨s, b, rfl, hs, hb, hQ⟩ := h
  unfold t_BitsSack_held
  show tRet _ _ [some (.ref s), none] H
  walk_at "go"
  refine ⟨4, rfl, by decide, by decide, fun D nD => ?_⟩
  refine lcR (K := c.K) (lo := 0) (n := 4) (fun _ => true) (fun i => .int ((wordB b i : Nat) : Int)) nD (by decide) (fun i H1 Rk Rs hi s1 hk hn => ?_) (fun H1 acc s1 hD hf => ?_)
  · simp only [wipe, List.set_cons_zero, List.set_cons_succ]
    walk_at "go"
    refine ⟨(by first | exact rfl | exact trivial), ?_⟩
    walk_at "go"
    refine (hs.same s1).fld G ?_
    walk_at "go"
    rw [word_cast]
    exact hk rfl _ H1 (Same.refl _) (.int _)
  · walk_at "go"
    refine r_tuple_l (SqL.of hD) ?_
    intro q nq
    generalize eq : upd H1 q _ = H2
    obtain ⟨sH2, hq, dH2⟩ := new_of nq eq
    refine hQ q acc H2 (s1.trans sH2) (s1.free nq) hq ?_
    show Fds c.K H H2 acc ((nz ((List.range 4).map (wordB b))).map PyData.int)
    rw [words_eq]
    exact hf.to (New.same sH2)
def sp_m_weight (c : Cs) (k : Kd) : Sp := fun vs H Q _ => ∃ (s : Addr) (b : Nat), vs = [.ref s] ∧ SackK c H s k b ∧ b < 2 ^ 256 ∧ ∀ H', Same H H' → Q (.int (weightK k b : Nat)) H'
def fam_weight (c : Cs) (C : Addr) (sp : Sp) : Prop := ∃ k, C = c.kd k ∧ sp = sp_m_weight c k
def sp_RowSack_weight (c : Cs) := sp_m_weight c .row
def sp_RunsSack_weight (c : Cs) := sp_m_weight c .runs
def sp_BitsSack_weight (c : Cs) := sp_m_weight c .bits
theorem len_RowSack_weight (c : Cs) : ∀ vs H Q E, sp_RowSack_weight c vs H Q E → vs.length = (["self"] : List Str).length := by
  rintro vs H Q E ⟨s, b, rfl, _⟩; rfl
/-- RowSack.weight -/
def t_RowSack_weight (c : Cs) (E : XK) : TS :=
  tRet (tCall (sp_count_of c) [] E (tCons (tFld c.K (tVar 0) "bits") (tNil)))
theorem pure_RowSack_weight {c : Cs} (G : Good c) (vs : List V) (H : Hp) (Q : VK) (E : XK) (h : sp_RowSack_weight c vs H Q E) : t_RowSack_weight c E { nx := fun _ H' => Q .non H', rt := Q } (start ["self"] vs) H := by
  obtain ⟨s, b, rfl, hs, hb, hQ⟩ := h
  unfold t_RowSack_weight
  show tRet _ _ [some (.ref s)] H
  walk_at "go"
  refine hs.fld G ?_
  walk_at "go"
  exact ⟨b, rfl, hb, hQ⟩
theorem len_RunsSack_weight (c : Cs) : ∀ vs H Q E, sp_RunsSack_weight c vs H Q E → vs.length = (["self"] : List Str).length := by
  rintro vs H Q E ⟨s, b, rfl, _⟩; rfl
/-- RunsSack.weight -/
def t_RunsSack_weight (c : Cs) (E : XK) : TS :=
  tRet (tOp rMul (tC (.int 2)) (tCB (rLen c.K) (tCons (tMethF (fam_held c) "held" [] E (tVar 0) tNil) (tNil))))
theorem pure_RunsSack_weight {c : Cs} (G : Good c) (vs : List V) (H : Hp) (Q : VK) (E : XK) (h : sp_RunsSack_weight c vs H Q E) : t_RunsSack_weight c E { nx := fun _ H' => Q .non H', rt := Q } (start ["self"] vs) H := by
  obtain ⟨s, b, rfl, hs, hb, hQ⟩ := h
  unfold t_RunsSack_weight
  show tRet _ _ [some (.ref s)] H
  walk_at "go"
  refine hs.at (m := "held") (fam := fam_held c) (dvs := []) ⟨.runs, rfl, rfl⟩ (by decide +kernel) ?_
  walk_at "go"
  refine ⟨s, b, rfl, hs, hb, fun p xs H1 s1 np hp hf => ?_⟩
  walk_at "go"
  refine r_len_t (SqT.of hp) ?_
  walk_at "go"
  have e : (2 : Int) * ((xs.length : Nat) : Int) = ((weightK .runs b : Nat) : Int) := by
    rw [hf.len]
    show (2 : Int) * ((dPairs (runsB b)).length : Int) = ((2 * (runsB b).length : Nat) : Int)
    rw [dPairs_len]; omega
  rw [e]
  exact hQ H1 s1
theorem len_BitsSack_weight (c : Cs) : ∀ vs H Q E, sp_BitsSack_weight c vs H Q E → vs.length = (["self"] : List Str).length := by
  rintro vs H Q E ⟨s, b, rfl, _⟩; rfl
/-- BitsSack.weight -/
def t_BitsSack_weight (c : Cs) (E : XK) : TS :=
  tRet (tC (.int 32))
theorem pure_BitsSack_weight {c : Cs} (G : Good c) (vs : List V) (H : Hp) (Q : VK) (E : XK) (h : sp_BitsSack_weight c vs H Q E) : t_BitsSack_weight c E { nx := fun _ H' => Q .non H', rt := Q } (start ["self"] vs) H := by
  obtain ⟨s, b, rfl, hs, hb, hQ⟩ := h
  exact hQ H (Same.refl _)
def sp_Sack_form (c : Cs) : Sp := fun vs H Q _ => ∃ (s : Addr) (k : Kd) (b : Nat), vs = [.ref s] ∧ SackK c H s k b ∧ b < 2 ^ 256 ∧ GivesT c H Q (formDs k b)
def fam_form (c : Cs) (C : Addr) (sp : Sp) : Prop := ∃ k, C = c.kd k ∧ sp = sp_Sack_form c
theorem len_Sack_form (c : Cs) : ∀ vs H Q E, sp_Sack_form c vs H Q E → vs.length = (["self"] : List Str).length := by
  rintro vs H Q E ⟨s, k, b, rfl, _⟩; rfl
/-- Sack.form -/
def t_Sack_form (c : Cs) (E : XK) : TS :=
  tRet (tTup (tCons (tMethF (fam_kind c) "kind" [] E (tVar 0) tNil) (tCons (tMethF (fam_held c) "held" [] E (tVar 0) tNil) (tNil))))
theorem pure_Sack_form {c : Cs} (G : Good c) (vs : List V) (H : Hp) (Q : VK) (E : XK) (h : sp_Sack_form c vs H Q E) : t_Sack_form c E { nx := fun _ H' => Q .non H', rt := Q } (start ["self"] vs) H := by
  obtain ⟨s, k, b, rfl, hs, hb, hQ⟩ := h
  unfold t_Sack_form
  show tRet _ _ [some (.ref s)] H
  walk_at "go"
  refine hs.at (m := "kind") (fam := fam_kind c) (dvs := []) ⟨k, rfl, rfl⟩ (by decide +kernel) ?_
  walk_at "go"
  refine ⟨s, b, rfl, hs, ?_⟩
  walk_at "go"
  refine hs.at (m := "held") (fam := fam_held c) (dvs := []) ⟨k, rfl, rfl⟩ (by decide +kernel) ?_
  walk_at "go"
  refine ⟨s, b, rfl, hs, hb, fun p xs H1 s1 np hp hf => ?_⟩
  walk_at "go"
  refine ⟨sz5 (by simp), fun q nq => ?_⟩
  generalize eq : upd H1 q _ = H2
  obtain ⟨sH2, hq, dH2⟩ := new_of nq eq
  refine hQ q _ H2 (s1.trans sH2) (s1.free nq) hq (Fds.cons (.str _) (Fds.cons ?_ .nil))
  exact (Fd.tup np hp hf).to (New.same sH2)
def sp_Sack_count (c : Cs) : Sp := fun vs H Q _ => ∃ (s : Addr) (k : Kd) (b : Nat), vs = [.ref s] ∧ SackK c H s k b ∧ b < 2 ^ 256 ∧ ∀ H', Same H H' → Q (.int (popc b : Nat)) H'
theorem len_Sack_count (c : Cs) : ∀ vs H Q E, sp_Sack_count c vs H Q E → vs.length = (["self"] : List Str).length := by
  rintro vs H Q E ⟨s, k, b, rfl, _⟩; rfl
/-- Sack.count -/
def t_Sack_count (c : Cs) (E : XK) : TS :=
  tRet (tCall (sp_count_of c) [] E (tCons (tFld c.K (tVar 0) "bits") (tNil)))
theorem pure_Sack_count {c : Cs} (G : Good c) (vs : List V) (H : Hp) (Q : VK) (E : XK) (h : sp_Sack_count c vs H Q E) : t_Sack_count c E { nx := fun _ H' => Q .non H', rt := Q } (start ["self"] vs) H := by
  obtain ⟨s, k, b, rfl, hs, hb, hQ⟩ := h
  unfold t_Sack_count
  show tRet _ _ [some (.ref s)] H
  walk_at "go"
  refine hs.fld G ?_
  walk_at "go"
  exact ⟨b, rfl, hb, hQ⟩
def sp_Sack_lows (c : Cs) : Sp := fun vs H Q _ => ∃ (s : Addr) (k : Kd) (b : Nat), vs = [.ref s] ∧ SackK c H s k b ∧ b < 2 ^ 256 ∧ ∀ (p : Addr) (H' : Hp), Same H H' → H p = none → H' p = some (.lst ((nz (bitsOf b)).map V.int)) → Q (.ref p) H'
def fam_lows (c : Cs) (C : Addr) (sp : Sp) : Prop := ∃ k, C = c.kd k ∧ sp = sp_Sack_lows c
theorem len_Sack_lows (c : Cs) : ∀ vs H Q E, sp_Sack_lows c vs H Q E → vs.length = (["self"] : List Str).length := by
  rintro vs H Q E ⟨s, k, b, rfl, _⟩; rfl
/-- Sack.lows -/
def t_Sack_lows (c : Cs) (E : XK) : TS :=
  tRet (tCall (sp_lows_of c) [] E (tCons (tFld c.K (tVar 0) "bits") (tNil)))
theorem pure_Sack_lows {c : Cs} (G : Good c) (vs : List V) (H : Hp) (Q : VK) (E : XK) (h : sp_Sack_lows c vs H Q E) : t_Sack_lows c E { nx := fun _ H' => Q .non H', rt := Q } (start ["self"] vs) H := by
  obtain ⟨s, k, b, rfl, hs, hb, hQ⟩ := h
  unfold t_Sack_lows
  show tRet _ _ [some (.ref s)] H
  walk_at "go"
  refine hs.fld G ?_
  walk_at "go"
  exact ⟨b, rfl, hb, hQ⟩
def sp_Sack_has (c : Cs) : Sp := fun vs H Q _ => ∃ (s : Addr) (k : Kd) (b l : Nat), vs = [.ref s, .int (l : Int)] ∧ SackK c H s k b ∧ Q (.bl (b.testBit l)) H
theorem bit_cast (b l : Nat) : decide (Builtin.bitAnd ((b : Int) / 2 ^ ((l : Int)).toNat) 1 = 1) = b.testBit l := by
  have e2 : (b : Int) / 2 ^ ((l : Int)).toNat = ((b / 2 ^ l : Nat) : Int) := by rw [Int.toNat_natCast, Int.natCast_ediv, Int.natCast_pow]; rfl
  have e3 : (1 : Int) = ((1 : Nat) : Int) := rfl
  rw [e2, e3, and_cast, Nat.and_one_is_mod, Nat.testBit_eq_decide_div_mod_eq, Bool.eq_iff_iff, decide_eq_true_eq, decide_eq_true_eq]
  omega
theorem len_Sack_has (c : Cs) : ∀ vs H Q E, sp_Sack_has c vs H Q E → vs.length = (["self", "low"] : List Str).length := by
  rintro vs H Q E ⟨s, k, b, l, rfl, _⟩; rfl
/-- Sack.has -/
def t_Sack_has (c : Cs) (E : XK) : TS :=
  tRet (tOp (rEqu c.K) (tOp rBan (tOp rShr (tFld c.K (tVar 0) "bits") (tVar 1)) (tC (.int 1))) (tC (.int 1)))
theorem pure_Sack_has {c : Cs} (G : Good c) (vs : List V) (H : Hp) (Q : VK) (E : XK) (h : sp_Sack_has c vs H Q E) : t_Sack_has c E { nx := fun _ H' => Q .non H', rt := Q } (start ["self", "low"] vs) H := by
  obtain ⟨s, k, b, l, rfl, hs, hQ⟩ := h
  unfold t_Sack_has
  show tRet _ _ [some (.ref s), some (.int (l : Int))] H
  walk_at "go"
  refine hs.fld G ?_
  walk_at "go"
  rw [bit_cast]
  exact hQ
/-! ### a sack is made -/
def sp_Sack___init__ (c : Cs) (C : Addr) : Sp := fun vs H Q _ => ∃ (x dx : Addr) (k : Kd) (b : Nat), vs = [.ref x, .int (b : Int)] ∧ C = c.kd k ∧ H x = some (.ins C dx []) ∧ Q .non (upd H x (.ins C dx [("bits", .int (b : Int))]))
theorem len_Sack___init__ (c : Cs) (C : Addr) : ∀ vs H Q E, sp_Sack___init__ c C vs H Q E → vs.length = (["self", "bits"] : List Str).length := by
  rintro vs H Q E ⟨x, dx, k, b, rfl, _⟩; rfl
/-- Sack.__init__ -/
def t_Sack___init__ (c : Cs) (E : XK) : TS :=
  sFld c.K (tVar 0) (tVar 1) "bits"
theorem pure_Sack___init__ {c : Cs} (G : Good c) (C : Addr) (vs : List V) (H : Hp) (Q : VK) (E : XK) (h : sp_Sack___init__ c C vs H Q E) : t_Sack___init__ c E { nx := fun _ H' => Q .non H', rt := Q } (start ["self", "bits"] vs) H := by
  obtain ⟨x, dx, k, b, rfl, rfl, hx, hQ⟩ := h
  exact ⟨_, rfl, _, rfl, x, _, dx, [], rfl, hx, G.cl k, G.na k, by decide, hQ⟩
/-- behind C(bits) -/
theorem mk_sack {c : Cs} {H1 : Hp} {k : Kd} {b : Nat} {Q : Addr → Hp → Prop} {E : XK} (q : ∀ (x : Addr) (H2 : Hp), H1 x = none → Same H1 H2 → SackK c H2 x k b → (∀ y, H2 y = none → H1 y = none) → Q x H2) :
    ∀ x dx, H1 x = none → H1 dx = none → dx ≠ x → sp_Sack___init__ c (c.kd k) (.ref x :: ([V.int (b : Int)] ++ [])) (upd (upd H1 dx (.own x)) x (.ins (c.kd k) dx [])) (fun v H2 => v = .non ∧ Q x H2) E := by
  intro x dx nx ndx ne
  refine ⟨x, dx, k, b, rfl, rfl, upd_same, rfl, q x _ nx ?_ ⟨dx, upd_same⟩ ?_⟩
  · intro a o h
    rw [upd_ne (ne_of_none h nx), upd_ne (ne_of_none h nx), upd_ne (ne_of_none h ndx)]
    exact h
  · intro y hy
    by_cases c1 : y = x
    · subst c1; exact nx
    · rw [upd_ne c1, upd_ne c1] at hy
      by_cases c2 : y = dx
      · subst c2; exact ndx
      · rw [upd_ne c2] at hy; exact hy
def sp_least_sack (c : Cs) : Sp := fun vs H Q _ => ∃ b : Nat, vs = [.int (b : Int)] ∧ b < 2 ^ 256 ∧ (b = 0 → Q .non H) ∧ (0 < b → ∀ (x : Addr) (H' : Hp), Same H H' → H x = none → SackK c H' x (kdB b) b → Q (.ref x) H')
theorem len_least_sack (c : Cs) : ∀ vs H Q E, sp_least_sack c vs H Q E → vs.length = (["bits"] : List Str).length := by
  rintro vs H Q E ⟨b, rfl, _⟩; rfl
/-- least_sack -/
def t_least_sack (c : Cs) (E : XK) : TS :=
  tSeq (tIfS (tTest (tOp (rEqu c.K) (tVar 0) (tC (.int 0)))) (tRet (tC .non)) (tNext))
    (tSeq (tAsg (tMake c.row (sp_Sack___init__ c c.row) [] E (tCons (tVar 0) (tNil))) (gName 1))
    (tSeq (tFor (iSeq c.K (tTup (tCons (tMake c.runs (sp_Sack___init__ c c.runs) [] E (tCons (tVar 0) (tNil))) (tCons (tMake c.bits (sp_Sack___init__ c c.bits) [] E (tCons (tVar 0) (tNil))) (tNil))))) (gName 2) (tIfS (tTest (tOp (rLt) (tMethF (fam_weight c) "weight" [] E (tVar 2) tNil) (tMethF (fam_weight c) "weight" [] E (tVar 1) tNil))) (tAsg (tVar 2) (gName 1)) (tNext)))
    (tRet (tVar 1))))
/-- the kind behind i of the two others -/
def bestK (b : Nat) : Nat → Kd
  | 0 => .row
  | 1 => if weightK .runs b < weightK .row b then .runs else .row
  | _ => if weightK .bits b < weightK (if weightK .runs b < weightK .row b then .runs else .row) b then .bits else if weightK .runs b < weightK .row b then .runs else .row
theorem best_2 (b : Nat) : bestK b 2 = kdB b := by
  have e : bestK b 2 = if 32 < weightK (if 2 * (runsB b).length < popc b then .runs else .row) b then Kd.bits else if 2 * (runsB b).length < popc b then .runs else .row := rfl
  rw [e]
  unfold kdB
  by_cases h : 2 * (runsB b).length < popc b
  · rw [if_pos h, if_neg (show ¬ (popc b ≤ 2 * (runsB b).length ∧ popc b ≤ 32) by omega)]
    have w : weightK .runs b = 2 * (runsB b).length := rfl
    rw [w]
    by_cases h2 : 2 * (runsB b).length ≤ 32
    · rw [if_neg (by omega), if_pos h2]
    · rw [if_pos (by omega), if_neg h2]
  · rw [if_neg h]
    have w : weightK .row b = popc b := rfl
    rw [w]
    by_cases h2 : popc b ≤ 32
    · rw [if_neg (by omega), if_pos ⟨by omega, h2⟩]
    · rw [if_pos (by omega), if_neg (by omega), if_neg (by omega)]
theorem pure_least_sack {c : Cs} (G : Good c) (vs : List V) (H : Hp) (Q : VK) (E : XK) (h : sp_least_sack c vs H Q E) : t_least_sack c E { nx := fun _ H' => Q .non H', rt := Q } (start ["bits", "found", "other"] vs) H := by
  obtain ⟨b, rfl, hb, h0, hQ⟩ := h
  unfold t_least_sack
  show tSeq _ _ _ [some (.int (b : Int)), none, none] H
  walk_at "go"
  refine if_d (fun z => ?_) (fun z => ?_)
  · walk_at "go"
    exact h0 (by omega)
  walk_at "go"
  refine mk_sack (c := c) (k := .row) fun x H1 nx s1 hx d1 => ?_
  walk_at "go"
  refine .inr (.inl ?_)
  show tTup _ _ _ _
  walk_at "go"
  refine mk_sack (c := c) (k := .runs) fun y H2 ny s2 hy d2 => ?_
  walk_at "go"
  refine mk_sack (c := c) (k := .bits) fun u H3 nu s3 hu d3 => ?_
  walk_at "go"
  refine ⟨sz5 (by simp), fun t nt => ?_⟩
  generalize et : upd H3 t _ = H4
  obtain ⟨sH4, ht, dH4⟩ := new_of nt et
  have hxx : SackK c H4 x .row b := ((hx.same s2).same s3).same sH4
  have hyy : SackK c H4 y .runs b := (hy.same s3).same sH4
  have huu : SackK c H4 u .bits b := hu.same sH4
  refine ⟨t, rfl, ⟨_, SqT.of ht⟩, for_tup (K := c.K) (a := t) (xs := [.ref y, .ref u]) (fun i σ H5 => ∃ (v : Option V) (r : Addr), σ = [some (.int (b : Int)), some (.ref r), v] ∧ Same H4 H5 ∧ H r = none ∧ SackK c H5 r (bestK b i) b)
    ⟨none, x, rfl, Same.refl _, nx, hxx⟩ (fun i σ H5 _ ⟨_, _, _, s, _⟩ => s.tup (SqT.of ht)) ?_ ?_⟩
  · rintro i v σ H5 hi ⟨v0, r, rfl, s5, nr, hr⟩
    obtain ⟨w, kw, hw, nw, rfl, hbest⟩ : ∃ w kw, SackK c H5 w kw b ∧ H w = none ∧ v = .ref w ∧ bestK b (i + 1) = if weightK kw b < weightK (bestK b i) b then kw else bestK b i := by
      match i, hi with
      | 0, hi => exact ⟨y, .runs, hyy.same s5, s1.free ny, (Option.some.inj hi).symm, rfl⟩
      | 1, hi => exact ⟨u, .bits, huu.same s5, s1.free (s2.free nu), (Option.some.inj hi).symm, rfl⟩
      | n + 2, hi => simp at hi
    walk_at "go"
    refine hw.at (m := "weight") (fam := fam_weight c) (dvs := []) ⟨kw, rfl, rfl⟩ (by decide +kernel) ?_
    walk_at "go"
    refine ⟨w, b, rfl, hw, hb, fun H6 s6 => ?_⟩
    walk_at "go"
    refine (hr.same s6).at (m := "weight") (fam := fam_weight c) (dvs := []) ⟨bestK b i, rfl, rfl⟩ (by decide +kernel) ?_
    walk_at "go"
    refine ⟨r, b, rfl, hr.same s6, hb, fun H7 s7 => ?_⟩
    walk_at "go"
    refine if_d (fun z => ?_) (fun z => ?_)
    · walk_at "go"
      exact ⟨_, w, rfl, (s5.trans s6).trans s7, nw, by rw [hbest, if_pos (by omega)]; exact (hw.same s6).same s7⟩
    · walk_at "go"
      exact ⟨_, r, rfl, (s5.trans s6).trans s7, nr, by rw [hbest, if_neg (by omega)]; exact (hr.same s6).same s7⟩
  · rintro σ H5 ⟨v0, r, rfl, s5, nr, hr⟩
    walk_at "go"
    refine hQ (by omega) r H5 (((s1.trans s2).trans s3).trans (sH4.trans s5)) nr ?_
    rw [← best_2]
    exact hr

/-! ### sack_of -/
/-- a thing whose class is known -/
inductive Kn (H : Hp) : V → Prop where
  | non : Kn H .non
  | bl (b : Bool) : Kn H (.bl b)
  | int (i : Int) : Kn H (.int i)
  | str (x : Str) : Kn H (.str x)
  | tup {p : Addr} {xs : List V} (h : H p = some (.tup xs)) : Kn H (.ref p)
  | lst {p : Addr} {xs : List V} (h : H p = some (.lst xs)) : Kn H (.ref p)
  | dK {p : Addr} {xs : List (Key × V)} (h : H p = some (.dK xs)) : Kn H (.ref p)
theorem Kn.same {H H' : Hp} {x : V} (k : Kn H x) (s : Same H H') : Kn H' x := by
  cases k with
  | non => exact .non
  | bl b => exact .bl b
  | int i => exact .int i
  | str x => exact .str x
  | tup h => exact .tup (s _ _ h)
  | lst h => exact .lst (s _ _ h)
  | dK h => exact .dK (s _ _ h)
def isI : V → Bool
  | .int _ => true
  | .bl _ => true
  | _ => false
def isB : V → Bool
  | .bl _ => true
  | _ => false
section
variable {K : PySem.W.Frag} {H : Hp} {Q : VK} {x : V}
theorem r_isi_kn_int (k : Kn H x) (q : Q (.bl (isI x)) H) : rIsiU K [x, .ty "int"] H Q := by
  cases k with
  | non => exact r_isi (b := false) (.base .non) (by decide +kernel) q
  | bl b => exact r_isi (b := true) (.base (.bl b)) (by decide +kernel) q
  | int i => exact r_isi (b := true) (.base (.int i)) (by decide +kernel) q
  | str x => exact r_isi (b := false) (.base (.str x)) (by decide +kernel) q
  | tup h => exact r_isi (b := false) (.base (.tup h)) (by decide +kernel) q
  | lst h => exact r_isi (b := false) (.base (.lst h)) (by decide +kernel) q
  | dK h => exact r_isi (b := false) (.base (.dK h)) (by decide +kernel) q
theorem r_isi_kn_bool (k : Kn H x) (q : Q (.bl (isB x)) H) : rIsiU K [x, .ty "bool"] H Q := by
  cases k with
  | non => exact r_isi (b := false) (.base .non) (by decide +kernel) q
  | bl b => exact r_isi (b := true) (.base (.bl b)) (by decide +kernel) q
  | int i => exact r_isi (b := false) (.base (.int i)) (by decide +kernel) q
  | str x => exact r_isi (b := false) (.base (.str x)) (by decide +kernel) q
  | tup h => exact r_isi (b := false) (.base (.tup h)) (by decide +kernel) q
  | lst h => exact r_isi (b := false) (.base (.lst h)) (by decide +kernel) q
  | dK h => exact r_isi (b := false) (.base (.dK h)) (by decide +kernel) q
end
def lowV : V → Bool
  | .int i => decide (0 ≤ i) && decide (i < 256)
  | _ => false
def lowN : V → Nat
  | .int i => i.toNat
  | _ => 0
def orV (xs : List V) : Nat := xs.foldl (fun b x => b ||| 2 ^ lowN x) 0
theorem orV_snoc (xs : List V) (x : V) : orV (xs ++ [x]) = orV xs ||| 2 ^ lowN x := by unfold orV; rw [List.foldl_append]; rfl
theorem orV_bit (xs : List V) (i : Nat) : (orV xs).testBit i = xs.any fun x => decide (lowN x = i) := by
  have : ∀ (xs : List V) (b : Nat), (xs.foldl (fun b x => b ||| 2 ^ lowN x) b).testBit i = (b.testBit i || xs.any fun x => decide (lowN x = i)) := by
    intro xs
    induction xs with
    | nil => intro b; simp
    | cons x xs ih => intro b; rw [List.foldl_cons, ih, Nat.testBit_or, Nat.testBit_two_pow, List.any_cons, Bool.or_assoc]
  unfold orV
  rw [this]; simp
theorem orV_lt {xs : List V} (h : ∀ x ∈ xs, lowV x = true) : orV xs < 2 ^ 256 := by
  apply Nat.lt_pow_two_of_testBit
  intro i hi
  rw [orV_bit]
  apply List.any_eq_false.mpr
  intro x hx
  have := h x hx
  have l : lowN x < 256 := by
    cases x <;> simp [lowV] at this
    simp only [lowN]; omega
  have hn : ¬ lowN x = i := fun e => by omega
  rw [decide_eq_false hn]; simp
theorem orV_pos {xs : List V} (h : xs ≠ []) : 0 < orV xs := by
  cases xs with
  | nil => exact absurd rfl h
  | cons x xs =>
    have := Nat.ge_two_pow_of_testBit (x := orV (x :: xs)) (i := lowN x) (by rw [orV_bit]; simp)
    have := Nat.two_pow_pos (lowN x)
    omega
def sp_sack_of (c : Cs) : Sp := fun vs H Q E => ∃ (a : Addr) (xs : List V), vs = [.ref a] ∧ SqL c.K H a xs ∧ (∀ x ∈ xs, Kn H x) ∧
  (xs ≠ [] → (∀ x ∈ xs, lowV x = true) → ∀ (x : Addr) (H' : Hp), Same H H' → H x = none → SackK c H' x (kdB (orV xs)) (orV xs) → Q (.ref x) H') ∧
  ((xs = [] ∨ ∃ x ∈ xs, lowV x = false) → E (.ref c.eNoNumber) none H)
theorem len_sack_of (c : Cs) : ∀ vs H Q E, sp_sack_of c vs H Q E → vs.length = (["lows"] : List Str).length := by
  rintro vs H Q E ⟨a, xs, rfl, _⟩; rfl
/-- sack_of -/
def t_sack_of (c : Cs) (E : XK) : TS :=
  tSeq (tAsg (tC (.int 0)) (gName 1))
    (tSeq (tFor (iSeq c.K (tVar 0)) (gName 2) (tSeq (tIfS (tOr (tNot (tB (tCB (rIsiU c.K) (tCons (tVar 2) (tCons (tC (.ty "int")) (tNil)))))) (tOr (tB (tCB (rIsiU c.K) (tCons (tVar 2) (tCons (tC (.ty "bool")) (tNil))))) (tNot (tTest (tChain (rLe) (rLt) (tC (.int 0)) (tVar 2) (tC (.int 256))))))) (fun _ σ H => E (.ref c.eNoNumber) none H) (tNext))
    (tAug 1 (tOp rShl (tC (.int 1)) (tVar 2)) pBor)))
    (tSeq (tIfS (tTest (tOp (rEqu c.K) (tVar 1) (tC (.int 0)))) (fun _ σ H => E (.ref c.eNoNumber) none H) (tNext))
    (tRet (tCall (sp_least_sack c) [] E (tCons (tVar 1) (tNil))))))
theorem pure_sack_of {c : Cs} (G : Good c) (vs : List V) (H : Hp) (Q : VK) (E : XK) (h : sp_sack_of c vs H Q E) : t_sack_of c E { nx := fun _ H' => Q .non H', rt := Q } (start ["lows", "bits", "low"] vs) H := by
  obtain ⟨a, xs, rfl, ha, hk, hQ, hE⟩ := h
  unfold t_sack_of
  show tSeq _ _ _ [some (.ref a), none, none] H
  walk_at "go"
  refine .inl ?_
  show tVar _ _ _ _
  walk_at "go"
  refine ⟨a, rfl, ⟨_, ha⟩, for_list (K := c.K) (a := a) (xs := xs) (fun i σ H1 => ∃ v, H1 = H ∧ σ = [some (.ref a), some (.int ((orV (xs.take i) : Nat) : Int)), v] ∧ ∀ x ∈ xs.take i, lowV x = true)
    ⟨none, rfl, rfl, fun x hx => by simp at hx⟩ (fun i σ H1 _ ⟨_, e, _⟩ => by rw [e]; exact ha) ?_ ?_⟩
  · rintro i x σ H1 hi ⟨v, rfl, rfl, hl⟩
    have hx : x ∈ xs := List.mem_of_getElem? hi
    have bad : lowV x = false → E (.ref c.eNoNumber) none H1 := fun z => hE (.inr ⟨x, hx, z⟩)
    walk_at "go"
    refine r_isi_kn_int (hk x hx) ?_
    walk_at "go"
    refine if_b (fun z => ?_) (fun z => ?_)
    · have : lowV x = false := by cases x <;> simp [isI] at z <;> rfl
      refine if_t rfl ?_
      exact bad this
    walk_at "go"
    refine r_isi_kn_bool (hk x hx) ?_
    walk_at "go"
    refine if_b (fun z2 => ?_) (fun z2 => ?_)
    · have : lowV x = false := by cases x <;> simp [isB] at z2 <;> rfl
      refine if_t rfl ?_
      exact bad this
    obtain ⟨n, rfl⟩ : ∃ n, x = .int n := by
      cases x <;> simp [isI, isB] at z z2
      exact ⟨_, rfl⟩
    walk_at "go"
    refine if_d (fun z3 => ?_) (fun z3 => ?_)
    · walk_at "go"
      refine if_b (fun z4 => ?_) (fun z4 => ?_)
      · exact bad (by simp [lowV] at z4 ⊢; omega)
      · have z5 : n < 256 := by simpa using z4
        walk_at "go"
        obtain ⟨m, rfl⟩ := Int.eq_ofNat_of_zero_le z3
        refine ⟨some (.int (m : Int)), rfl, ?_, ?_⟩
        · have e : (1 : Int) * 2 ^ ((m : Int)).toNat = ((2 ^ m : Nat) : Int) := by rw [Int.one_mul, Int.toNat_natCast, Int.natCast_pow]; rfl
          rw [e, or_cast, take_more hi, orV_snoc]; rfl
        · rw [take_more hi]
          intro y hy
          rcases List.mem_append.mp hy with hy | hy
          · exact hl y hy
          · have : y = .int (m : Int) := by simpa using hy
            subst this
            simp [lowV]; omega
    · walk_at "go"
      exact bad (by simp [lowV]; omega)
  · rintro σ H1 ⟨v, rfl, rfl, hl⟩
    rw [List.take_length] at hl
    walk_at "go"
    rw [List.take_length]
    refine if_d (fun z => ?_) (fun z => ?_)
    · refine hE (.inl ?_)
      by_cases e : xs = []
      · exact e
      · have := orV_pos e; omega
    · have ne : xs ≠ [] := by rintro rfl; exact z rfl
      walk_at "go"
      exact ⟨orV xs, rfl, orV_lt hl, fun z0 => absurd (orV_pos ne) (by omega), fun _ x H' s nx hx => hQ ne hl x H' s nx hx⟩

/-! ### what the laws draw -/
def cellV (ns : List Int) (k : Int) : Int := if ns = [] then 0 else ns.getD (k % ns.length).toNat 0
def cellA (ns : List Int) (k : Int) : Int := (cellV ns k * 48271 + 7919 * k * k + 104729 * k + 11) % 2147483647
def cellB (ns : List Int) (k : Int) : Int := cellA ns k * cellA ns k % 2147483629 * 69621 % 2147483647
def cellN (ns : List Int) (k : Int) : Nat := (cellB ns k * cellB ns k % 2147483587 * 2147483647 + cellB ns k).toNat
theorem cellA_lt (ns : List Int) (k : Int) : 0 ≤ cellA ns k ∧ cellA ns k < 2147483647 := by unfold cellA; omega
theorem cellB_lt (ns : List Int) (k : Int) : 0 ≤ cellB ns k ∧ cellB ns k < 2147483647 := by unfold cellB; omega
theorem cellN_eq (ns : List Int) (k : Int) : ((cellN ns k : Nat) : Int) = cellB ns k * cellB ns k % 2147483587 * 2147483647 + cellB ns k := by
  unfold cellN
  have := cellB_lt ns k
  generalize cellB ns k * cellB ns k = x
  omega
theorem cellN_lt (ns : List Int) (k : Int) : cellN ns k < 4611686018427387904 := by
  unfold cellN
  have := cellB_lt ns k
  generalize cellB ns k * cellB ns k = x
  omega
def sp__law_cell_at (c : Cs) : Sp := fun vs H Q _ => ∃ (a : Addr) (ns : List Int) (k : Int), vs = [.ref a, .int k] ∧ SqL c.K H a (ns.map V.int) ∧ 0 ≤ k ∧ k ≤ 1000000 ∧ Q (.int (cellN ns k : Nat)) H
theorem len__law_cell_at (c : Cs) : ∀ vs H Q E, sp__law_cell_at c vs H Q E → vs.length = (["_law_script", "_law_k"] : List Str).length := by
  rintro vs H Q E ⟨a, ns, k, rfl, _⟩; rfl
/-- _law_cell_at -/
def t__law_cell_at (c : Cs) (E : XK) : TS :=
  tSeq (tAsg (tC (.int 0)) (gName 2))
    (tSeq (tIfS (tTest (tOp (rGt) (tCB (rLen c.K) (tCons (tVar 0) (tNil))) (tC (.int 0)))) (tAsg (tOp (rIx c.K) (tVar 0) (tOp rMod (tVar 1) (tCB (rLen c.K) (tCons (tVar 0) (tNil))))) (gName 2)) (tNext))
    (tSeq (tAsg (tOp rMod (tOp rAdd (tOp rAdd (tOp rAdd (tOp rMul (tVar 2) (tC (.int 48271))) (tOp rMul (tOp rMul (tC (.int 7919)) (tVar 1)) (tVar 1))) (tOp rMul (tC (.int 104729)) (tVar 1))) (tC (.int 11))) (tC (.int 2147483647))) (gName 3))
    (tSeq (tAsg (tOp rMod (tOp rMul (tOp rMod (tOp rMul (tVar 3) (tVar 3)) (tC (.int 2147483629))) (tC (.int 69621))) (tC (.int 2147483647))) (gName 4))
    (tRet (tOp rAdd (tOp rMul (tOp rMod (tOp rMul (tVar 4) (tVar 4)) (tC (.int 2147483587))) (tC (.int 2147483647))) (tVar 4))))))
theorem pure__law_cell_at {c : Cs} (G : Good c) (vs : List V) (H : Hp) (Q : VK) (E : XK) (h : sp__law_cell_at c vs H Q E) : t__law_cell_at c E { nx := fun _ H' => Q .non H', rt := Q } (start ["_law_script", "_law_k", "_law_cell", "_law_one", "_law_two"] vs) H := by
  obtain ⟨a, ns, k, rfl, ha, h0, h1, hQ⟩ := h
  unfold t__law_cell_at
  show tSeq _ _ _ [some (.ref a), some (.int k), none, none, none] H
  walk_at "go"
  refine r_len_l ha ?_
  walk_at "go"
  have hq2 : Q (.int (cellB ns k * cellB ns k % 2147483587 * 2147483647 + cellB ns k)) H := by rw [← cellN_eq]; exact hQ
  refine if_d (fun z => ?_) (fun z => ?_)
  · walk_at "go"
    refine r_len_l ha ?_
    walk_at "go"
    have hl : 0 < ns.length := by rw [List.length_map] at z; omega
    have m0 : 0 ≤ k % (ns.length : Int) := Int.emod_nonneg _ (by omega)
    have m1 : k % (ns.length : Int) < ns.length := Int.emod_lt_of_pos _ (by omega)
    rw [List.length_map]
    obtain ⟨j, hj⟩ := Int.eq_ofNat_of_zero_le m0
    have hjl : j < ns.length := by omega
    refine r_ixL ha (v := .int (cellV ns k)) ?_ ?_
    · rw [hj]
      refine atI_nat ?_
      rw [List.getElem?_map, List.getElem?_eq_getElem hjl]
      unfold cellV
      rw [if_neg (by intro e; rw [e] at hl; simp at hl), hj]
      simp [List.getD, List.getElem?_eq_getElem hjl]
    · walk_at "go"
      exact hq2
  · walk_at "go"
    have e0 : cellV ns k = 0 := by
      unfold cellV
      rw [if_pos]
      rw [List.length_map] at z
      exact List.eq_nil_of_length_eq_zero (by omega)
    unfold cellB cellA at hq2
    rw [e0] at hq2
    exact hq2
def sp__law_plain (c : Cs) : Sp := fun vs H Q _ => ∃ x, vs = [x] ∧ Kn H x ∧ Q (.bl (isI x && !isB x)) H
theorem len__law_plain (c : Cs) : ∀ vs H Q E, sp__law_plain c vs H Q E → vs.length = (["_law_thing"] : List Str).length := by
  rintro vs H Q E ⟨x, rfl, _⟩; rfl
/-- _law_plain -/
def t__law_plain (c : Cs) (E : XK) : TS :=
  tRet (tAndV (tCB (rIsiU c.K) (tCons (tVar 0) (tCons (tC (.ty "int")) (tNil)))) (tNotV (tCB (rIsiU c.K) (tCons (tVar 0) (tCons (tC (.ty "bool")) (tNil))))))
theorem pure__law_plain {c : Cs} (G : Good c) (vs : List V) (H : Hp) (Q : VK) (E : XK) (h : sp__law_plain c vs H Q E) : t__law_plain c E { nx := fun _ H' => Q .non H', rt := Q } (start ["_law_thing"] vs) H := by
  obtain ⟨x, rfl, hk, hQ⟩ := h
  unfold t__law_plain
  show tRet _ _ [some x] H
  walk_at "go"
  refine r_isi_kn_int hk ?_
  walk_at "go"
  refine if_b (fun z => ?_) (fun z => ?_)
  · walk_at "go"
    refine r_isi_kn_bool hk ?_
    walk_at "go"
    rw [z, Bool.true_and] at hQ
    exact hQ
  · rw [z, Bool.false_and] at hQ
    exact hQ
def sp__law_lows (c : Cs) : Sp := fun vs H Q _ => ∃ b : Nat, vs = [.int (b : Int)] ∧ b < 2 ^ 8192 ∧ ∀ (p : Addr) (H' : Hp), Same H H' → H p = none → H' p = some (.lst ((nz (bitsOf b)).map V.int)) → Q (.ref p) H'
theorem len__law_lows (c : Cs) : ∀ vs H Q E, sp__law_lows c vs H Q E → vs.length = (["_law_bits_here"] : List Str).length := by
  rintro vs H Q E ⟨b, rfl, _⟩; rfl
/-- _law_lows -/
def t__law_lows (c : Cs) (E : XK) : TS :=
  tSeq (tAsg (tLst (tNil)) (gName 1))
    (tSeq (tWhile (tTest (tOp (rGt) (tVar 0) (tC (.int 0)))) (tSeq (tDrop (tBM c.K "list" rAppend (tVar 1) (tCons (tOp rSub (tBits (tOp rBan (tVar 0) (tUn rNeg (tVar 0)))) (tC (.int 1))) (tNil))))
    (tAug 0 (tOp rSub (tVar 0) (tC (.int 1))) pBan)))
    (tRet (tVar 1)))
theorem sub_one {b : Nat} (h : 0 < b) : (b : Int) - 1 = ((b - 1 : Nat) : Int) := by omega
theorem pure__law_lows {c : Cs} (G : Good c) (vs : List V) (H : Hp) (Q : VK) (E : XK) (h : sp__law_lows c vs H Q E) : t__law_lows c E { nx := fun _ H' => Q .non H', rt := Q } (start ["_law_bits_here", "_law_found"] vs) H := by
  obtain ⟨b0, rfl, hb, hQ⟩ := h
  have hb0 := bitsOf_len hb
  clear hb
  unfold t__law_lows
  show tSeq _ _ _ [some (.int (b0 : Int)), none] H
  walk_at "go"
  refine ⟨sz5 (by decide), fun p np => ?_⟩
  walk_at "go"
  refine w_while (fun m σ H1 => ∃ (b : Nat) (acc : List Nat), m = b ∧ σ = [some (.int (b : Int)), some (.ref p)] ∧ Same H H1 ∧ H1 p = some (.lst ((nz acc).map V.int)) ∧ acc ++ bitsOf b = bitsOf b0) b0
    ⟨b0, [], rfl, rfl, (new_of np rfl).1, upd_same, rfl⟩ ?_
  rintro m σ H1 ⟨b, acc, rfl, rfl, s, hp, he⟩
  walk_at "go"
  refine if_d (fun h0 => ?_) (fun h0 => ?_)
  · have h0 : 0 < m := by omega
    refine w_body ?_
    walk_at "go"
    refine ⟨tyL hp, ?_⟩
    walk_at "go"
    rw [and_neg h0, bits_pow]
    have hl : acc.length ≤ 8192 := by
      have := congrArg List.length he
      rw [List.length_append] at this
      omega
    refine r_append hp (by rw [nzv_len]; exact sl5 (by omega)) ?_
    walk_at "go"
    have e1 : (((tz m + 1 : Nat) : Int) - 1) = ((tz m : Nat) : Int) := by omega
    rw [e1, sub_one h0, and_cast]
    refine ⟨clr m, clr_lt h0, clr m, acc ++ [tz m], rfl, rfl, s.mut np, ?_, ?_⟩
    · rw [upd_same, nz_app, List.map_append]; rfl
    · rw [List.append_assoc, ← he, bitsOf_clr h0]; rfl
  · have h0 : m = 0 := by omega
    subst h0
    walk_at "go"
    rw [bitsOf_zero, List.append_nil] at he
    exact hQ p H1 s np (by rw [hp, he])
def sp__law_count (c : Cs) : Sp := fun vs H Q _ => ∃ b : Nat, vs = [.int (b : Int)] ∧ Q (.int (popc b : Nat)) H
theorem len__law_count (c : Cs) : ∀ vs H Q E, sp__law_count c vs H Q E → vs.length = (["_law_mask"] : List Str).length := by
  rintro vs H Q E ⟨b, rfl, _⟩; rfl
/-- _law_count -/
def t__law_count (c : Cs) (E : XK) : TS :=
  tSeq (tAsg (tC (.int 0)) (gName 1))
    (tSeq (tWhile (tTest (tOp (rGt) (tVar 0) (tC (.int 0)))) (tSeq (tAug 0 (tOp rSub (tVar 0) (tC (.int 1))) pBan)
    (tAug 1 (tC (.int 1)) pAdd)))
    (tRet (tVar 1)))
theorem pure__law_count {c : Cs} (G : Good c) (vs : List V) (H : Hp) (Q : VK) (E : XK) (h : sp__law_count c vs H Q E) : t__law_count c E { nx := fun _ H' => Q .non H', rt := Q } (start ["_law_mask", "_law_found"] vs) H := by
  obtain ⟨b0, rfl, hQ⟩ := h
  unfold t__law_count
  show tSeq _ _ _ [some (.int (b0 : Int)), none] H
  walk_at "go"
  refine w_while (fun m σ H1 => ∃ (b n : Nat), m = b ∧ σ = [some (.int (b : Int)), some (.int (n : Int))] ∧ H1 = H ∧ n + popc b = popc b0) b0
    ⟨b0, 0, rfl, rfl, rfl, Nat.zero_add _⟩ ?_
  rintro m σ H1 ⟨b, n, rfl, rfl, rfl, he⟩
  walk_at "go"
  refine if_d (fun h0 => ?_) (fun h0 => ?_)
  · have h0 : 0 < m := by omega
    refine w_body ?_
    walk_at "go"
    rw [sub_one h0, and_cast]
    refine ⟨clr m, clr_lt h0, clr m, n + 1, rfl, ?_, rfl, ?_⟩
    · rfl
    · rw [← he, popc_clr h0]; omega
  · have h0 : m = 0 := by omega
    subst h0
    walk_at "go"
    rw [popc_zero] at he
    rw [← he] at hQ
    exact hQ
/-! ### runs by a rising list -/
def sp__law_runs (c : Cs) : Sp := fun vs H Q _ => ∃ (a : Addr) (l : List Nat), vs = [.ref a] ∧ SqL c.K H a ((nz l).map V.int) ∧ l.length ≤ 50000 ∧ GivesL c H Q (dPairs (runsL l))
theorem len__law_runs (c : Cs) : ∀ vs H Q E, sp__law_runs c vs H Q E → vs.length = (["_law_lows_here"] : List Str).length := by
  rintro vs H Q E ⟨a, l, rfl, _⟩; rfl
/-- _law_runs -/
def t__law_runs (c : Cs) (E : XK) : TS :=
  tSeq (tAsg (tLst (tNil)) (gName 1))
    (tSeq (tFor (iSeq c.K (tVar 0)) (gName 2) (tIfS (tAnd (tTest (tOp (rNeu c.K) (tVar 1) (tLst (tNil)))) (tTest (tOp (rEqu c.K) (tOp rAdd (tOp (rIx c.K) (tOp (rIx c.K) (tVar 1) (tUn rNeg (tC (.int 1)))) (tC (.int 1))) (tC (.int 1))) (tVar 2)))) (tAsg (tTup (tCons (tOp (rIx c.K) (tOp (rIx c.K) (tVar 1) (tUn rNeg (tC (.int 1)))) (tC (.int 0))) (tCons (tVar 2) (tNil)))) (gSub (tVar 1) (tUn rNeg (tC (.int 1))) rSetL)) (tDrop (tBM c.K "list" rAppend (tVar 1) (tCons (tTup (tCons (tVar 2) (tCons (tVar 2) (tNil)))) (tNil))))))
    (tRet (tVar 1)))
theorem eqv_nil (ds : List PyData) : PyData.eqv (.list ds) (.list []) = ds.isEmpty := by cases ds <;> rfl
theorem dPairs_snoc_inv {K : PySem.W.Frag} {H H' : Hp} {xs : List V} {l : List Pr} {q : Pr} (h : Fds K H H' xs (dPairs (l ++ [q]))) : ∃ ys t, xs = ys ++ [.ref t] ∧ SqT K H' t [.int (q.1 : Int), .int (q.2 : Int)] ∧ Fds K H H' ys (dPairs l) := by
  have hl := h.len
  rw [dPairs_app, List.length_append] at hl
  have hne : xs ≠ [] := by intro e; subst e; simp [dPairs] at hl
  obtain ⟨ys, v, rfl⟩ : ∃ ys v, xs = ys ++ [v] := ⟨xs.dropLast, xs.getLast hne, (List.dropLast_concat_getLast hne).symm⟩
  have hl2 : ys.length = (dPairs l).length := by simp [dPairs] at hl ⊢; omega
  have split : ∀ H'', New H H' H'' → DpAll K H'' ys (dPairs l) ∧ Dp K H'' v (.tuple [.int (q.1 : Int), .int (q.2 : Int)]) := by
    intro H'' n
    have a := h H'' n
    rw [dPairs_app] at a
    exact dpa_split hl2 a
  obtain ⟨_, d⟩ := split H' New.refl
  obtain ⟨t, zs, rfl, ht, hz⟩ := d.tup_inv
  have : zs = [.int (q.1 : Int), .int (q.2 : Int)] := dpa_ints_inv (ns := [(q.1 : Int), (q.2 : Int)]) hz
  subst this
  exact ⟨ys, t, rfl, ht, fun H'' n => (split H'' n).1⟩
theorem pure__law_runs {c : Cs} (G : Good c) (vs : List V) (H : Hp) (Q : VK) (E : XK) (h : sp__law_runs c vs H Q E) : t__law_runs c E { nx := fun _ H' => Q .non H', rt := Q } (start ["_law_lows_here", "_law_found", "_law_low"] vs) H := by
  obtain ⟨a, l, rfl, ha, hl, hQ⟩ := h
  unfold t__law_runs
  show tSeq _ _ _ [some (.ref a), none, none] H
  walk_at "go"
  refine ⟨sz5 (by decide), fun p np => ?_⟩
  walk_at "go"
  generalize e1 : upd H p _ = H1
  obtain ⟨s1, hp1, d1⟩ := new_of np e1
  refine .inl ?_
  show tVar _ _ _ _
  walk_at "go"
  refine ⟨a, rfl, ⟨_, s1.seq ha⟩, for_list (K := c.K) (a := a) (xs := (nz l).map V.int) (fun i σ H2 => ∃ (xs : List V) (v : Option V), σ = [some (.ref a), some (.ref p), v] ∧ Same H H2 ∧ H2 p = some (.lst xs) ∧ (∀ q, H2 q = none → H1 q = none) ∧ Fds c.K H1 H2 xs (dPairs (runsL (l.take i))))
    ⟨[], none, rfl, s1, hp1, fun _ q => q, Fds.nil⟩ (fun i σ H2 _ ⟨_, _, _, s, _⟩ => s.seq ha) ?_ ?_⟩
  · rintro i x σ H2 hi ⟨xs, v, rfl, s, hp, dom, hf⟩
    obtain ⟨n, hn, rfl⟩ := nz_get hi
    have il := (List.getElem?_eq_some_iff.mp hn).1
    have tk := take_more hn
    have rl := runsL_len _ (l.take i) rfl
    rw [List.length_take] at rl
    have xl := hf.len
    rw [dPairs_len] at xl
    -- behind the turn
    have fin : ∀ (H4 : Hp) (acc : List V), Same H2 H4 → H4 p = some (.lst acc) → True := fun _ _ _ _ => trivial
    walk_at "go"
    refine ⟨sz5 (by simp), fun q nq => ?_⟩
    generalize eq : upd H2 q _ = H3
    obtain ⟨sH3, hq, dH3⟩ := new_of nq eq
    walk_at "go"
    refine r_ned (.lst (SqL.of (sH3 _ _ hp)) (hf.now.ext sH3)) (.lst (SqL.of hq) .nil) (Sm.list (n := 2) fun d hd => (Sm.pairs (n := 0) _ d hd).mono (by decide)).shaped (Sm.list (n := 0) (fun d hd => by cases hd)).shaped ?_
    rw [eqv_nil]
    walk_at "go"
    have hp3 := sH3 _ _ hp
    have hf3 := hf.to (New.same sH3)
    have dom3 : ∀ b, H3 b = none → H1 b = none := fun b z => dom b (dH3 b z)
    have addnew : (runsL (l.take (i + 1)) = runsL (l.take i) ++ [(n, n)]) → tDrop (tBM c.K "list" rAppend (tVar 1) (tCons (tTup (tCons (tVar 2) (tCons (tVar 2) (tNil)))) (tNil)))
        { nx := fun σ H2 => ∃ (xs : List V) (v : Option V), σ = [some (.ref a), some (.ref p), v] ∧ Same H H2 ∧ H2 p = some (.lst xs) ∧ (∀ q, H2 q = none → H1 q = none) ∧ Fds c.K H1 H2 xs (dPairs (runsL (l.take (i + 1)))), rt := Q, bk := tRet (tVar 1) { nx := fun _ H' => Q .non H', rt := Q }, ct := fun σ H2 => ∃ (xs : List V) (v : Option V), σ = [some (.ref a), some (.ref p), v] ∧ Same H H2 ∧ H2 p = some (.lst xs) ∧ (∀ q, H2 q = none → H1 q = none) ∧ Fds c.K H1 H2 xs (dPairs (runsL (l.take (i + 1)))) } [some (.ref a), some (.ref p), some (.int (n : Int))] H3 := by
      intro er
      walk_at "go"
      refine ⟨tyL hp3, ?_⟩
      walk_at "go"
      refine ⟨sz5 (by simp), fun t nt => ?_⟩
      generalize et : upd H3 t _ = H4
      obtain ⟨sH4, ht, dH4⟩ := new_of nt et
      walk_at "go"
      refine r_append (sH4 _ _ hp3) (sl5 (by omega)) ?_
      refine ⟨xs ++ [.ref t], _, rfl, ((s.trans sH3).trans sH4).mut np, upd_same, dom_mut (fun b z => dom3 b (dH4 b z)) (by rw [sH4 _ _ hp3]; simp), ?_⟩
      rw [er, dPairs_app]
      refine Fds.snoc ((hf3.to (New.same sH4)).to (New.mut hp1 New.refl)) ?_
      exact (Fd.tup (dom3 _ nt) ht (Fds.cons (.int _) (Fds.cons (.int _) .nil))).to (New.mut hp1 New.refl)
    by_cases e0 : runsL (l.take i) = []
    · rw [e0]
      refine if_f rfl ?_
      refine if_f rfl ?_
      refine addnew ?_
      rw [tk, runsL_snoc, e0]; rfl
    · obtain ⟨rs, r, er⟩ : ∃ rs r, runsL (l.take i) = rs ++ [r] := ⟨_, _, (List.dropLast_concat_getLast e0).symm⟩
      rw [er] at hf3
      obtain ⟨ys, t, rfl, ht, hys⟩ := dPairs_snoc_inv hf3
      refine if_t (by rw [er]; simp [dPairs]) ?_
      walk_at "go"
      refine r_ixL (SqL.of hp3) (atI_last _ _) ?_
      walk_at "go"
      refine r_ixT ht (atI_nat (j := 1) rfl) ?_
      walk_at "go"
      refine if_d (fun z => ?_) (fun z => ?_)
      · walk_at "go"
        refine r_ixL (SqL.of hp3) (atI_last _ _) ?_
        walk_at "go"
        refine r_ixT ht (atI_nat (j := 0) rfl) ?_
        walk_at "go"
        refine ⟨sz5 (by simp), fun u nu => ?_⟩
        generalize eu : upd H3 u _ = H4
        obtain ⟨sH4, hu, dH4⟩ := new_of nu eu
        walk_at "go"
        refine ⟨p, _, _, ys.length, rfl, rfl, sH4 _ _ hp3, ?_, ?_⟩
        · unfold ixN
          rw [if_neg (by omega), if_pos (by simp; omega)]
          simp; omega
        · have e9 : (ys ++ [V.ref t]).set ys.length (.ref u) = ys ++ [.ref u] := by simp
          rw [e9]
          refine ⟨ys ++ [.ref u], _, rfl, ((s.trans sH3).trans sH4).mut np, upd_same, dom_mut (fun b z => dom3 b (dH4 b z)) (by rw [sH4 _ _ hp3]; simp), ?_⟩
          rw [tk, runsL_snoc, er, stepR_snoc, if_pos (by omega), dPairs_app]
          refine Fds.snoc ((hys.to (New.same sH4)).to (New.mut hp1 New.refl)) ?_
          exact (Fd.tup (dom3 _ nu) hu (Fds.cons (.int _) (Fds.cons (.int _) .nil))).to (New.mut hp1 New.refl)
      · refine addnew ?_
        rw [tk, runsL_snoc, er, stepR_snoc, if_neg (by omega)]
  · rintro σ H2 ⟨xs, v, rfl, s, hp, dom, hf⟩
    walk_at "go"
    rw [nzv_len, List.take_length] at hf
    exact hQ p xs H2 s np hp (hf.left d1)

def sp__law_form (c : Cs) : Sp := fun vs H Q _ => ∃ b : Nat, vs = [.int (b : Int)] ∧ b < 2 ^ 256 ∧ GivesT c H Q [formD b, .int (weightK (kdB b) b : Nat)]
theorem len__law_form (c : Cs) : ∀ vs H Q E, sp__law_form c vs H Q E → vs.length = (["_law_bits_here"] : List Str).length := by
  rintro vs H Q E ⟨b, rfl, _⟩; rfl
/-- _law_form -/
def t__law_form (c : Cs) (E : XK) : TS :=
  tSeq (tAsg (tCall (sp__law_lows c) [] E (tCons (tVar 0) (tNil))) (gName 1))
    (tSeq (tAsg (tCall (sp__law_runs c) [] E (tCons (tVar 1) (tNil))) (gName 2))
    (tSeq (tIfS (tAnd (tTest (tOp (rLe) (tCB (rLen c.K) (tCons (tVar 1) (tNil))) (tOp rMul (tC (.int 2)) (tCB (rLen c.K) (tCons (tVar 2) (tNil)))))) (tTest (tOp (rLe) (tCB (rLen c.K) (tCons (tVar 1) (tNil))) (tC (.int 32))))) (tRet (tTup (tCons (tTup (tCons (tC (.str "row")) (tCons (tCB (rTuple c.K) (tCons (tVar 1) (tNil))) (tNil)))) (tCons (tCB (rLen c.K) (tCons (tVar 1) (tNil))) (tNil))))) (tNext))
    (tSeq (tIfS (tTest (tOp (rLe) (tOp rMul (tC (.int 2)) (tCB (rLen c.K) (tCons (tVar 2) (tNil)))) (tC (.int 32)))) (tRet (tTup (tCons (tTup (tCons (tC (.str "runs")) (tCons (tCB (rTuple c.K) (tCons (tVar 2) (tNil))) (tNil)))) (tCons (tOp rMul (tC (.int 2)) (tCB (rLen c.K) (tCons (tVar 2) (tNil)))) (tNil))))) (tNext))
    (tRet (tTup (tCons (tTup (tCons (tC (.str "bits")) (tCons (tCB (rTuple c.K) (tCons (tLc (iRng1 (tCons (tC (.int 4)) (tNil))) (gName 3) (tYes) (tOp rBan (tOp rShr (tVar 0) (tOp rMul (tC (.int 64)) (tVar 3))) (tC (.int 18446744073709551615))) [3]) (tNil))) (tNil)))) (tCons (tC (.int 32)) (tNil))))))))
theorem pure__law_form {c : Cs} (G : Good c) (vs : List V) (H : Hp) (Q : VK) (E : XK) (h : sp__law_form c vs H Q E) : t__law_form c E { nx := fun _ H' => Q .non H', rt := Q } (start ["_law_bits_here", "_law_lows_here", "_law_runs_here", "_law_k"] vs) H := by
  obtain ⟨b, rfl, hb, hQ⟩ := h
  unfold t__law_form
  show tSeq _ _ _ [some (.int (b : Int)), none, none, none] H
  walk_at "go"
  refine ⟨b, rfl, Nat.lt_of_lt_of_le hb (Nat.pow_le_pow_right (by decide) (by decide)), fun p H1 s1 np hp => ?_⟩
  walk_at "go"
  refine ⟨p, bitsOf b, rfl, SqL.of hp, by have := bitsOf_len hb; omega, fun r xs H2 s2 nr hr hf => ?_⟩
  walk_at "go"
  have hp2 := s2 _ _ hp
  have xl : xs.length = (runsB b).length := by rw [hf.len, dPairs_len]; rfl
  have pl : ((nz (bitsOf b)).map V.int).length = popc b := by rw [nzv_len]; rfl
  refine r_len_l (SqL.of hp2) ?_
  walk_at "go"
  refine r_len_l (SqL.of hr) ?_
  walk_at "go"
  rw [xl, pl]
  by_cases hrow : popc b ≤ 2 * (runsB b).length ∧ popc b ≤ 32
  · refine if_d (fun z1 => ?_) (fun z1 => absurd z1 (by omega))
    walk_at "go"
    refine r_len_l (SqL.of hp2) ?_
    walk_at "go"
    rw [pl]
    refine if_d (fun z2 => ?_) (fun z2 => absurd z2 (by omega))
    have ek : kdB b = .row := by unfold kdB; rw [if_pos hrow]
    walk_at "go"
    refine r_tuple_l (SqL.of hp2) ?_
    intro u nu
    generalize eu : upd H2 u _ = H3
    obtain ⟨sH3, hu, dH3⟩ := new_of nu eu
    walk_at "go"
    refine ⟨sz5 (by simp), fun t nt => ?_⟩
    generalize et : upd H3 t _ = H4
    obtain ⟨sH4, ht, dH4⟩ := new_of nt et
    walk_at "go"
    refine r_len_l (SqL.of (sH4 _ _ (sH3 _ _ hp2))) ?_
    walk_at "go"
    refine ⟨sz5 (by simp), fun q nq => ?_⟩
    generalize eq : upd H4 q _ = H5
    obtain ⟨sH5, hq, dH5⟩ := new_of nq eq
    refine hQ q _ H5 (((s1.trans s2).trans (sH3.trans sH4)).trans sH5) (s1.free (s2.free (sH3.free (sH4.free nq)))) hq (Fds.cons ?_ (Fds.cons ?_ .nil))
    · unfold formD; rw [ek]
      refine (Fd.tup (s1.free (s2.free (sH3.free nt))) (sH5 _ _ ht) (Fds.cons (.str _) (Fds.cons ?_ .nil)))
      exact Fd.tup (s1.free (s2.free nu)) (sH5 _ _ (sH4 _ _ hu)) (Fds.ints _)
    · rw [ek, pl]; exact .int _
  · refine if_d (fun z1 => ?_) (fun z1 => ?_)
    · walk_at "go"
      refine r_len_l (SqL.of hp2) ?_
      walk_at "go"
      rw [pl]
      refine if_d (fun z2 => absurd ⟨by omega, by omega⟩ hrow) (fun z2 => ?_)
      walk_at "go"
      refine r_len_l (SqL.of hr) ?_
      walk_at "go"
      rw [xl]
      refine if_d (fun z3 => ?_) (fun z3 => ?_)
      · have ek : kdB b = .runs := by unfold kdB; rw [if_neg hrow, if_pos (by omega)]
        walk_at "go"
        refine r_tuple_l (SqL.of hr) ?_
        intro u nu
        generalize eu : upd H2 u _ = H3
        obtain ⟨sH3, hu, dH3⟩ := new_of nu eu
        walk_at "go"
        refine ⟨sz5 (by simp), fun t nt => ?_⟩
        generalize et : upd H3 t _ = H4
        obtain ⟨sH4, ht, dH4⟩ := new_of nt et
        walk_at "go"
        refine r_len_l (SqL.of (sH4 _ _ (sH3 _ _ hr))) ?_
        walk_at "go"
        refine ⟨sz5 (by simp), fun q nq => ?_⟩
        generalize eq : upd H4 q _ = H5
        obtain ⟨sH5, hq, dH5⟩ := new_of nq eq
        refine hQ q _ H5 (((s1.trans s2).trans (sH3.trans sH4)).trans sH5) (s1.free (s2.free (sH3.free (sH4.free nq)))) hq (Fds.cons ?_ (Fds.cons ?_ .nil))
        · unfold formD; rw [ek]
          refine (Fd.tup (s1.free (s2.free (sH3.free nt))) (sH5 _ _ ht) (Fds.cons (.str _) (Fds.cons ?_ .nil)))
          exact Fd.tup (s1.free (s2.free nu)) (sH5 _ _ (sH4 _ _ hu)) (((hf.left (fun b z => s1.free z)).to (New.same (sH3.trans (sH4.trans sH5)))))
        · rw [ek, xl]; exact .int _
      · have ek : kdB b = .bits := by unfold kdB; rw [if_neg hrow, if_neg (by omega)]
        walk_at "go"
        refine ⟨4, rfl, by decide, by decide, fun D nD => ?_⟩
        refine lcR (K := c.K) (lo := 0) (n := 4) (fun _ => true) (fun i => .int ((wordB b i : Nat) : Int)) nD (by decide) (fun i H3 Rk Rs hi s3 hk hn => ?_) (fun H3 acc s3 hD hfd => ?_)
        · simp only [wipe, List.set_cons_zero, List.set_cons_succ]
          walk_at "go"
          refine ⟨(by first | exact rfl | exact trivial), ?_⟩
          walk_at "go"
          rw [word_cast]
          exact hk rfl _ H3 (Same.refl _) (.int _)
        · walk_at "go"
          refine r_tuple_l (SqL.of hD) ?_
          intro u nu
          generalize eu : upd H3 u _ = H4
          obtain ⟨sH4, hu, dH4⟩ := new_of nu eu
          walk_at "go"
          refine ⟨sz5 (by simp), fun t nt => ?_⟩
          generalize et : upd H4 t _ = H5
          obtain ⟨sH5, ht, dH5⟩ := new_of nt et
          walk_at "go"
          refine ⟨sz5 (by simp), fun q nq => ?_⟩
          generalize eq : upd H5 q _ = H6
          obtain ⟨sH6, hq, dH6⟩ := new_of nq eq
          refine hQ q _ H6 ((s1.trans s2).trans ((s3.trans sH4).trans (sH5.trans sH6))) (s1.free (s2.free (s3.free (sH4.free (sH5.free nq))))) hq (Fds.cons ?_ (Fds.cons ?_ .nil))
          · unfold formD; rw [ek]
            refine (Fd.tup (s1.free (s2.free (s3.free (sH4.free nt)))) (sH6 _ _ ht) (Fds.cons (.str _) (Fds.cons ?_ .nil)))
            refine Fd.tup (s1.free (s2.free (s3.free nu))) (sH6 _ _ (sH5 _ _ hu)) ?_
            show Fds c.K H H6 acc ((nz ((List.range 4).map (wordB b))).map PyData.int)
            rw [words_eq]
            exact (hfd.left fun z zz => s1.free (s2.free zz)).to (New.same (sH4.trans (sH5.trans sH6)))
          · rw [ek]; exact .int _
    · walk_at "go"
      refine r_len_l (SqL.of hr) ?_
      walk_at "go"
      rw [xl]
      refine if_d (fun z3 => ?_) (fun z3 => ?_)
      · have ek : kdB b = .runs := by unfold kdB; rw [if_neg hrow, if_pos (by omega)]
        walk_at "go"
        refine r_tuple_l (SqL.of hr) ?_
        intro u nu
        generalize eu : upd H2 u _ = H3
        obtain ⟨sH3, hu, dH3⟩ := new_of nu eu
        walk_at "go"
        refine ⟨sz5 (by simp), fun t nt => ?_⟩
        generalize et : upd H3 t _ = H4
        obtain ⟨sH4, ht, dH4⟩ := new_of nt et
        walk_at "go"
        refine r_len_l (SqL.of (sH4 _ _ (sH3 _ _ hr))) ?_
        walk_at "go"
        refine ⟨sz5 (by simp), fun q nq => ?_⟩
        generalize eq : upd H4 q _ = H5
        obtain ⟨sH5, hq, dH5⟩ := new_of nq eq
        refine hQ q _ H5 (((s1.trans s2).trans (sH3.trans sH4)).trans sH5) (s1.free (s2.free (sH3.free (sH4.free nq)))) hq (Fds.cons ?_ (Fds.cons ?_ .nil))
        · unfold formD; rw [ek]
          refine (Fd.tup (s1.free (s2.free (sH3.free nt))) (sH5 _ _ ht) (Fds.cons (.str _) (Fds.cons ?_ .nil)))
          exact Fd.tup (s1.free (s2.free nu)) (sH5 _ _ (sH4 _ _ hu)) (((hf.left (fun b z => s1.free z)).to (New.same (sH3.trans (sH4.trans sH5)))))
        · rw [ek, xl]; exact .int _
      · have ek : kdB b = .bits := by unfold kdB; rw [if_neg hrow, if_neg (by omega)]
        walk_at "go"
        refine ⟨4, rfl, by decide, by decide, fun D nD => ?_⟩
        refine lcR (K := c.K) (lo := 0) (n := 4) (fun _ => true) (fun i => .int ((wordB b i : Nat) : Int)) nD (by decide) (fun i H3 Rk Rs hi s3 hk hn => ?_) (fun H3 acc s3 hD hfd => ?_)
        · simp only [wipe, List.set_cons_zero, List.set_cons_succ]
          walk_at "go"
          refine ⟨(by first | exact rfl | exact trivial), ?_⟩
          walk_at "go"
          rw [word_cast]
          exact hk rfl _ H3 (Same.refl _) (.int _)
        · walk_at "go"
          refine r_tuple_l (SqL.of hD) ?_
          intro u nu
          generalize eu : upd H3 u _ = H4
          obtain ⟨sH4, hu, dH4⟩ := new_of nu eu
          walk_at "go"
          refine ⟨sz5 (by simp), fun t nt => ?_⟩
          generalize et : upd H4 t _ = H5
          obtain ⟨sH5, ht, dH5⟩ := new_of nt et
          walk_at "go"
          refine ⟨sz5 (by simp), fun q nq => ?_⟩
          generalize eq : upd H5 q _ = H6
          obtain ⟨sH6, hq, dH6⟩ := new_of nq eq
          refine hQ q _ H6 ((s1.trans s2).trans ((s3.trans sH4).trans (sH5.trans sH6))) (s1.free (s2.free (s3.free (sH4.free (sH5.free nq))))) hq (Fds.cons ?_ (Fds.cons ?_ .nil))
          · unfold formD; rw [ek]
            refine (Fd.tup (s1.free (s2.free (s3.free (sH4.free nt)))) (sH6 _ _ ht) (Fds.cons (.str _) (Fds.cons ?_ .nil)))
            refine Fd.tup (s1.free (s2.free (s3.free nu))) (sH6 _ _ (sH5 _ _ hu)) ?_
            show Fds c.K H H6 acc ((nz ((List.range 4).map (wordB b))).map PyData.int)
            rw [words_eq]
            exact (hfd.left fun z zz => s1.free (s2.free zz)).to (New.same (sH4.trans (sH5.trans sH6)))
          · rw [ek]; exact .int _

/-! ### the patterns: any bits of a sack -/
def sp__law_pattern (c : Cs) : Sp := fun vs H Q _ => ∃ n : Nat, vs = [.int (n : Int)] ∧ n < 4611686018427387904 ∧ ∀ (b : Nat) (H' : Hp), b < 2 ^ 256 → Same H H' → Q (.int (b : Int)) H'
theorem len__law_pattern (c : Cs) : ∀ vs H Q E, sp__law_pattern c vs H Q E → vs.length = (["_law_cell"] : List Str).length := by
  rintro vs H Q E ⟨n, rfl, _⟩; rfl
/-- _law_pattern -/
def t__law_pattern (c : Cs) (E : XK) : TS :=
  tSeq (tAsg (tOp rMod (tVar 0) (tC (.int 6))) (gName 1))
    (tSeq (tAsg (tOp rFdv (tVar 0) (tC (.int 6))) (gName 2))
    (tSeq (tAsg (tC (.int 0)) (gName 3))
    (tSeq (tIfS (tTest (tOp (rEqu c.K) (tVar 1) (tC (.int 0)))) (tSeq (tAsg (tOp rAdd (tC (.int 1)) (tOp rMod (tVar 2) (tC (.int 5)))) (gName 4))
    (tSeq (tAsg (tOp rAdd (tOp rAdd (tVar 4) (tC (.int 1))) (tOp rMod (tOp rFdv (tVar 2) (tC (.int 5))) (tC (.int 3)))) (gName 5))
    (tSeq (tFor (iRng1 (tCons (tOp rAdd (tC (.int 1)) (tOp rMod (tOp rFdv (tVar 2) (tC (.int 15))) (tC (.int 20)))) (tNil))) (gName 6) (tIfS (tTest (tOp (rLe) (tOp rAdd (tOp rMul (tVar 5) (tVar 6)) (tVar 4)) (tC (.int 256)))) (tAug 3 (tOp rShl (tOp rSub (tOp rShl (tC (.int 1)) (tVar 4)) (tC (.int 1))) (tOp rMul (tVar 5) (tVar 6))) pBor) (tNext)))
    (tRet (tVar 3))))) (tNext))
    (tSeq (tIfS (tTest (tOp (rEqu c.K) (tVar 1) (tC (.int 1)))) (tSeq (tAsg (tOp rAdd (tC (.int 2)) (tOp rMod (tVar 2) (tC (.int 6)))) (gName 5))
    (tSeq (tFor (iRng1 (tCons (tOp rAdd (tOp rFdv (tOp rMod (tOp rFdv (tVar 2) (tC (.int 6))) (tC (.int 256))) (tVar 5)) (tC (.int 1))) (tNil))) (gName 6) (tAug 3 (tOp rShl (tC (.int 1)) (tOp rMul (tVar 5) (tVar 6))) pBor))
    (tRet (tVar 3)))) (tNext))
    (tSeq (tIfS (tTest (tOp (rEqu c.K) (tVar 1) (tC (.int 2)))) (tRet (tOp rMod (tOp rMul (tOp rMul (tOp rMul (tVar 2) (tOp rAdd (tVar 2) (tC (.int 77777)))) (tOp rAdd (tVar 2) (tC (.int 3)))) (tOp rAdd (tVar 2) (tC (.int 12345)))) (tOp rShl (tC (.int 1)) (tC (.int 256))))) (tNext))
    (tSeq (tIfS (tTest (tOp (rEqu c.K) (tVar 1) (tC (.int 3)))) (tSeq (tAsg (tOp rMod (tVar 2) (tC (.int 256))) (gName 7))
    (tRet (tOp rSub (tOp rShl (tC (.int 1)) (tOp rAdd (tOp rAdd (tC (.int 1)) (tVar 7)) (tOp rMod (tOp rFdv (tVar 2) (tC (.int 256))) (tOp rSub (tC (.int 256)) (tVar 7))))) (tOp rShl (tC (.int 1)) (tVar 7))))) (tNext))
    (tSeq (tFor (iRng1 (tCons (tOp rAdd (tC (.int 1)) (tOp rMod (tVar 2) (tC (.int 30)))) (tNil))) (gName 6) (tAug 3 (tOp rShl (tC (.int 1)) (tOp rMod (tOp rMul (tOp rFdv (tVar 2) (tOp rAdd (tC (.int 1)) (tVar 6))) (tOp rAdd (tVar 6) (tC (.int 5)))) (tC (.int 256)))) pBor))
    (tRet (tOp (rIx c.K) (tLst (tCons (tVar 3) (tCons (tOp rSub (tOp rSub (tOp rShl (tC (.int 1)) (tC (.int 256))) (tC (.int 1))) (tVar 3)) (tNil)))) (tOp rSub (tVar 1) (tC (.int 4))))))))))))
theorem pow_le256 {k : Nat} (h : k ≤ 256) : 2 ^ k ≤ 2 ^ 256 := Nat.pow_le_pow_right (by decide) h
theorem pow_lt256 {k : Nat} (h : k < 256) : 2 ^ k < 2 ^ 256 := Nat.pow_lt_pow_right (by decide) h
theorem one_shl {j : Int} {k : Nat} (h : j = (k : Int)) : (1 : Int) * 2 ^ j.toNat = ((2 ^ k : Nat) : Int) := by
  rw [h, Int.one_mul, Int.toNat_natCast, Int.natCast_pow]; rfl
theorem nat_shl {b k : Nat} {j : Int} (h : j = (k : Int)) : (b : Int) * 2 ^ j.toNat = ((b * 2 ^ k : Nat) : Int) := by
  rw [h, Int.toNat_natCast, Int.natCast_mul, Int.natCast_pow]; rfl
theorem pow_sub {a b : Nat} (h : a ≤ b) : ((2 ^ b : Nat) : Int) - ((2 ^ a : Nat) : Int) = ((2 ^ b - 2 ^ a : Nat) : Int) := by
  have := Nat.pow_le_pow_right (n := 2) (by decide) h
  omega
theorem pure__law_pattern {c : Cs} (G : Good c) (vs : List V) (H : Hp) (Q : VK) (E : XK) (h : sp__law_pattern c vs H Q E) : t__law_pattern c E { nx := fun _ H' => Q .non H', rt := Q } (start ["_law_cell", "_law_way", "_law_rest", "_law_found", "_law_size", "_law_far", "_law_k", "_law_first"] vs) H := by
  obtain ⟨n, rfl, hn, hQ⟩ := h
  unfold t__law_pattern
  show tSeq _ _ _ [some (.int (n : Int)), none, none, none, none, none, none, none] H
  walk_at "go"
  obtain ⟨w, hw⟩ : ∃ w : Nat, (n : Int) % 6 = w := ⟨n % 6, by omega⟩
  obtain ⟨r, hr⟩ : ∃ r : Nat, (n : Int) / 6 = r := ⟨n / 6, by omega⟩
  rw [hw, hr]
  have hr2 : r < 4611686018427387904 := by omega
  have hw2 : w < 6 := by omega
  clear hw hr hn
  refine if_d (fun z => ?_) (fun z0 => ?_)
  · walk_at "go"
    obtain ⟨sz, hsz, h1, h2⟩ : ∃ sz : Nat, (1 : Int) + (r : Int) % 5 = sz ∧ 1 ≤ sz ∧ sz ≤ 5 := ⟨1 + r % 5, by omega, by omega, by omega⟩
    rw [hsz]
    obtain ⟨far, hfar, h3⟩ : ∃ far : Nat, (sz : Int) + 1 + (r : Int) / 5 % 3 = far ∧ far ≤ 8 := ⟨sz + 1 + r / 5 % 3, by omega, by omega⟩
    rw [hfar]
    refine ⟨_, rfl, by omega, by omega, for_range (lo := 0) (n := ((1 : Int) + (r : Int) / 15 % 20).toNat) (fun i σ H1 => ∃ (f : Nat) (v : Option V), H1 = H ∧ f < 2 ^ 256 ∧ σ = [some (.int (n : Int)), some (.int (w : Int)), some (.int (r : Int)), some (.int (f : Int)), some (.int (sz : Int)), some (.int (far : Int)), v, none])
      ⟨0, none, rfl, by decide, rfl⟩ ?_ ?_⟩
    · rintro i σ H1 hi ⟨f, v, rfl, hf, rfl⟩
      walk_at "go"
      obtain ⟨m, hm⟩ : ∃ m : Nat, (far : Int) * ((0 : Int) + (i : Int)) = m := ⟨far * i, by rw [Int.zero_add]; exact (Int.natCast_mul _ _).symm⟩
      rw [hm]
      refine if_d (fun z1 => ?_) (fun z1 => ?_)
      · walk_at "go"
        rw [hm, one_shl (k := sz) rfl]
        have e : ((2 ^ sz : Nat) : Int) - 1 = ((2 ^ sz - 1 : Nat) : Int) := by have := Nat.two_pow_pos sz; omega
        rw [e]
        refine r_shl (CShl_nat (n := 256) (Nat.lt_of_lt_of_le (by have := Nat.two_pow_pos sz; omega) (pow_le256 (k := sz) (by omega))) (by omega) (by omega)) ?_
        walk_at "go"
        rw [nat_shl (k := m) rfl, or_cast]
        refine ⟨f ||| (2 ^ sz - 1) * 2 ^ m, some (.int ((0 : Int) + (i : Int))), rfl, ?_, rfl⟩
        refine Nat.or_lt_two_pow hf (Nat.lt_of_lt_of_le ?_ (pow_le256 (k := sz + m) (by omega)))
        rw [Nat.pow_add]
        exact Nat.mul_lt_mul_of_pos_right (by have := Nat.two_pow_pos sz; omega) (Nat.two_pow_pos m)
      · walk_at "go"
        exact ⟨f, _, rfl, hf, rfl⟩
    · rintro σ H1 ⟨f, v, rfl, hf, rfl⟩
      walk_at "go"
      exact hQ f H1 hf (Same.refl _)
  walk_at "go"
  refine if_d (fun z => ?_) (fun z1 => ?_)
  · walk_at "go"
    obtain ⟨far, hfar, h1, h2⟩ : ∃ far : Nat, (2 : Int) + (r : Int) % 6 = far ∧ 2 ≤ far ∧ far ≤ 7 := ⟨2 + r % 6, by omega, by omega, by omega⟩
    rw [hfar]
    obtain ⟨u, hu, hu2⟩ : ∃ u : Nat, (r : Int) / 6 % 256 = u ∧ u ≤ 255 := ⟨r / 6 % 256, by omega, by omega⟩
    rw [hu]
    have eq : (u : Int) / (far : Int) = ((u / far : Nat) : Int) := (Int.natCast_ediv _ _).symm
    rw [eq]
    have hq : u / far ≤ 255 := Nat.le_trans (Nat.div_le_self _ _) hu2
    have hmul := Nat.mul_div_le u far
    generalize u / far = qq at hq hmul ⊢
    refine ⟨_, rfl, by omega, by omega, for_range (lo := 0) (n := ((qq : Int) + 1).toNat) (fun i σ H1 => ∃ (f : Nat) (v : Option V), H1 = H ∧ f < 2 ^ 256 ∧ σ = [some (.int (n : Int)), some (.int (w : Int)), some (.int (r : Int)), some (.int (f : Int)), none, some (.int (far : Int)), v, none])
      ⟨0, none, rfl, by decide, rfl⟩ ?_ ?_⟩
    · rintro i σ H1 hi ⟨f, v, rfl, hf, rfl⟩
      have hi2 : i ≤ qq := by omega
      have hm2 : far * i ≤ 255 := Nat.le_trans (Nat.le_trans (Nat.mul_le_mul_left far hi2) hmul) hu2
      walk_at "go"
      obtain ⟨m, hm, hm3⟩ : ∃ m : Nat, (far : Int) * ((0 : Int) + (i : Int)) = m ∧ m ≤ 255 := ⟨far * i, by rw [Int.zero_add]; exact (Int.natCast_mul _ _).symm, hm2⟩
      rw [hm]
      walk_at "go"
      rw [one_shl (k := m) rfl, or_cast]
      exact ⟨f ||| 2 ^ m, some (.int ((0 : Int) + (i : Int))), rfl, Nat.or_lt_two_pow hf (pow_lt256 (by omega)), rfl⟩
    · rintro σ H1 ⟨f, v, rfl, hf, rfl⟩
      walk_at "go"
      exact hQ f H1 hf (Same.refl _)
  walk_at "go"
  refine if_d (fun z => ?_) (fun z2 => ?_)
  · walk_at "go"
    rw [one_shl (j := 256) (k := 256) rfl]
    refine r_mod (by decide) ?_
    generalize (r : Int) * ((r : Int) + 77777) * ((r : Int) + 3) * ((r : Int) + 12345) = x
    have p0 : (0 : Int) ≤ x % ((2 ^ 256 : Nat) : Int) := Int.emod_nonneg _ (by decide)
    have p1 : x % ((2 ^ 256 : Nat) : Int) < ((2 ^ 256 : Nat) : Int) := Int.emod_lt_of_pos _ (by decide)
    obtain ⟨b, hb⟩ := Int.eq_ofNat_of_zero_le p0
    rw [hb] at p1 ⊢
    exact hQ b H (Int.ofNat_lt.mp p1) (Same.refl _)
  walk_at "go"
  refine if_d (fun z => ?_) (fun z3 => ?_)
  · walk_at "go"
    obtain ⟨f, hf, h1⟩ : ∃ f : Nat, (r : Int) % 256 = f ∧ f ≤ 255 := ⟨r % 256, by omega, by omega⟩
    rw [hf]
    walk_at "go"
    have p0 : (0 : Int) ≤ (r : Int) / 256 % (256 - (f : Int)) := Int.emod_nonneg _ (by omega)
    have p1 : (r : Int) / 256 % (256 - (f : Int)) < 256 - (f : Int) := Int.emod_lt_of_pos _ (by omega)
    obtain ⟨y, hy⟩ := Int.eq_ofNat_of_zero_le p0
    rw [hy] at p1 ⊢
    walk_at "go"
    rw [one_shl (j := 1 + (f : Int) + (y : Int)) (k := 1 + f + y) (by omega), one_shl (k := f) rfl, pow_sub (by omega)]
    refine hQ _ H ?_ (Same.refl _)
    have := pow_le256 (k := 1 + f + y) (by omega)
    have := Nat.two_pow_pos f
    omega
  walk_at "go"
  obtain ⟨cnt, hcnt, hc1⟩ : ∃ cnt : Nat, (1 : Int) + (r : Int) % 30 = cnt ∧ cnt ≤ 30 := ⟨1 + r % 30, by omega, by omega⟩
  rw [hcnt]
  refine ⟨_, rfl, by omega, by omega, for_range (lo := 0) (n := ((cnt : Int)).toNat) (fun i σ H1 => ∃ (f : Nat) (v : Option V), H1 = H ∧ f < 2 ^ 256 ∧ σ = [some (.int (n : Int)), some (.int (w : Int)), some (.int (r : Int)), some (.int (f : Int)), none, none, v, none])
    ⟨0, none, rfl, by decide, rfl⟩ ?_ ?_⟩
  · rintro i σ H1 hi ⟨f, v, rfl, hf, rfl⟩
    have hi2 : i ≤ 30 := by omega
    walk_at "go"
    have p0 : (0 : Int) ≤ (r : Int) / (1 + ((0 : Int) + (i : Int))) * ((0 : Int) + (i : Int) + 5) % 256 := Int.emod_nonneg _ (by decide)
    have p1 : (r : Int) / (1 + ((0 : Int) + (i : Int))) * ((0 : Int) + (i : Int) + 5) % 256 < 256 := Int.emod_lt_of_pos _ (by decide)
    obtain ⟨m, hm⟩ := Int.eq_ofNat_of_zero_le p0
    rw [hm] at p1 ⊢
    walk_at "go"
    rw [one_shl (k := m) rfl, or_cast]
    exact ⟨f ||| 2 ^ m, some (.int ((0 : Int) + (i : Int))), rfl, Nat.or_lt_two_pow hf (pow_lt256 (by omega)), rfl⟩
  · rintro σ H1 ⟨f, v, rfl, hf, rfl⟩
    walk_at "go"
    rw [one_shl (j := 256) (k := 256) rfl]
    refine ⟨sz5 (by simp), fun q nq => ?_⟩
    generalize eq : upd H1 q _ = H2
    obtain ⟨sH2, hq, dH2⟩ := new_of nq eq
    walk_at "go"
    have e : ((2 ^ 256 : Nat) : Int) - 1 - (f : Int) = ((2 ^ 256 - 1 - f : Nat) : Int) := by omega
    rw [e] at hq
    obtain ⟨b, hb, hv⟩ : ∃ b : Nat, b < 2 ^ 256 ∧ [V.int (f : Int), V.int ((2 ^ 256 - 1 - f : Nat) : Int)][w - 4]? = some (.int (b : Int)) := by
      have : w = 4 ∨ w = 5 := by omega
      rcases this with rfl | rfl
      · exact ⟨f, hf, rfl⟩
      · exact ⟨2 ^ 256 - 1 - f, by omega, rfl⟩
    have ew : (w : Int) - 4 = ((w - 4 : Nat) : Int) := by omega
    rw [ew]
    refine r_ixL (SqL.of hq) (atI_nat hv) ?_
    exact hQ b H2 hb sH2

/-! ### the marks of what is caught -/
def sp__law_marks (c : Cs) (cls : Value) (dd : Option Addr) (a : Addr) : Sp := fun vs H Q _ => ∃ k : Ek, vs = [.ref a] ∧ cls = .ref (c.ex k) ∧ dd = none ∧
  ∀ (p : Addr) (H' : Hp), Same H H' → H p = none → H' p = some (.lst (marksV k)) → Q (.ref p) H'
theorem len__law_marks (c : Cs) : ∀ cls dd a vs H Q E, sp__law_marks c cls dd a vs H Q E → vs.length = (["_law_e"] : List Str).length := by
  rintro cls dd a vs H Q E ⟨k, rfl, _⟩; rfl
/-- _law_marks -/
def t__law_marks (c : Cs) (cls : Value) (dd : Option Addr) (a : Addr) : TS :=
  tRet (tLst (tCons (tCB (rIsX c.K cls dd a) (tCons (tVar 0) (tCons (tC (.ref c.eNoNumber)) (tNil)))) (tCons (tCB (rIsX c.K cls dd a) (tCons (tVar 0) (tCons (tC (.ref c.eNoStretch)) (tNil)))) (tCons (tCB (rIsX c.K cls dd a) (tCons (tVar 0) (tCons (tC (.ref c.eNoRank)) (tNil)))) (tCons (tCB (rIsX c.K cls dd a) (tCons (tVar 0) (tCons (tC (.ref c.eNoText)) (tNil)))) (tNil))))))
theorem pure__law_marks {c : Cs} (G : Good c) (GE : GoodE c) (cls : Value) (dd : Option Addr) (a : Addr) (vs : List V) (H : Hp) (Q : VK) (E : XK) (h : sp__law_marks c cls dd a vs H Q E) : t__law_marks c cls dd a { nx := fun _ H' => Q .non H', rt := Q } (start ["_law_e"] vs) H := by
  obtain ⟨k, rfl, rfl, rfl, hQ⟩ := h
  unfold t__law_marks
  show tRet _ _ [some (.ref a)] H
  walk_at "go"
  refine r_isx (GE.x k) (GE.own k .number) ?_
  walk_at "go"
  refine r_isx (GE.x k) (GE.own k .stretch) ?_
  walk_at "go"
  refine r_isx (GE.x k) (GE.own k .rank) ?_
  walk_at "go"
  refine r_isx (GE.x k) (GE.own k .text) ?_
  walk_at "go"
  refine ⟨sz5 (by simp), fun p np => ?_⟩
  generalize ep : upd H p _ = H1
  obtain ⟨sH1, hp, dH1⟩ := new_of np ep
  exact hQ p H1 sH1 np hp
theorem tyx_t {K : PySem.W.Frag} {H : Hp} {p : Addr} {xs : List V} (h : SqT K H p xs) : TyX K H (.ref p) (.type "tuple") := by
  rcases h with (h | ⟨o, h⟩) | ⟨o, its, n, h1, h2, _⟩
  · exact .base (.tup h)
  · exact .fTuple h
  · exact .kTuple h1 h2
theorem r_clear {p : Addr} {xs : List V} {H : Hp} {Q : VK} (h : H p = some (.lst xs)) (q : Q .non (upd H p (.lst []))) : rClear (.ref p) [] H Q := ⟨p, xs, rfl, rfl, h, q⟩
/-! ### told in some order -/
theorem nz_drop (l : List Nat) (n : Nat) : ((nz l).map V.int).drop n = (nz (l.drop n)).map V.int := by unfold nz; rw [List.map_map, List.map_map, List.map_drop]
theorem nz_take (l : List Nat) (n : Nat) : ((nz l).map V.int).take n = (nz (l.take n)).map V.int := by unfold nz; rw [List.map_map, List.map_map, List.map_take]
theorem nz_rev (l : List Nat) : ((nz l).map V.int).reverse = (nz l.reverse).map V.int := by unfold nz; rw [List.map_map, List.map_map, List.map_reverse]
theorem nzv_app (l m : List Nat) : (nz l).map V.int ++ (nz m).map V.int = (nz (l ++ m)).map V.int := by rw [nz_app, List.map_append]
theorem cut_from (l : List Nat) (n : Nat) (h : n ≤ l.length) : cutV ((nz l).map V.int) (some (n : Int)) none = (nz (l.drop n)).map V.int := by
  unfold cutV
  rw [HT.sIx_nat, HT.sIx_none, nzv_len, Nat.min_eq_left h, nz_drop, nz_take, List.take_of_length_le (by simp)]
theorem cut_to (l : List Nat) (n : Nat) : cutV ((nz l).map V.int) none (some (n : Int)) = (nz (l.take n)).map V.int := by
  unfold cutV
  rw [HT.sIx_nat, HT.sIx_none, nzv_len, Nat.sub_zero, List.drop_zero, nz_take]
  by_cases h : n ≤ l.length
  · rw [Nat.min_eq_left h]
  · rw [Nat.min_eq_right (by omega), List.take_of_length_le (Nat.le_refl _), List.take_of_length_le (by omega)]
/-- x or 1, of bits -/
theorem or_one {K : PySem.W.Frag} {H : Hp} {Q : VK} {σ : L2.St} {b : Nat} (hb : b < 2 ^ 256) (h : ∀ b' : Nat, 0 < b' → b' < 2 ^ 256 → Q (.int (b' : Int)) H) :
    ∃ k, TruV K (.int (b : Int)) H k ∧ if k = true then Q (.int (b : Int)) H else tC (.int 1) σ H Q := by
  refine ⟨((b : Int) != 0), rfl, ?_⟩
  by_cases z : b = 0
  · subst z
    exact h 1 (by decide) (by decide)
  · rw [if_pos (by simpa using z)]
    exact h b (by omega) hb
theorem orV_nz {l : List Nat} {b : Nat} (h : ∀ x, x ∈ l ↔ x ∈ bitsOf b) : orV ((nz l).map V.int) = b := by
  apply Nat.eq_of_testBit_eq
  intro i
  rw [orV_bit, ← mem_bits_dec]
  unfold nz
  rw [List.map_map, List.any_map, Bool.eq_iff_iff, List.any_eq_true, decide_eq_true_eq, ← h]
  constructor
  · rintro ⟨x, hx, e⟩
    have e2 : lowN (.int (x : Int)) = i := of_decide_eq_true e
    have : x = i := by simpa [lowN] using e2
    exact this ▸ hx
  · intro hi
    exact ⟨i, hi, decide_eq_true (show lowN (.int (i : Int)) = i by simp [lowN])⟩
theorem low_nz {l : List Nat} (h : ∀ x ∈ l, x < 256) : ∀ x ∈ (nz l).map V.int, lowV x = true := by
  intro x hx
  unfold nz at hx
  rw [List.map_map] at hx
  obtain ⟨i, hi, rfl⟩ := List.mem_map.mp hx
  have := h i hi
  simp [lowV]; omega
theorem kn_ints {H : Hp} (l : List Int) : ∀ x ∈ l.map V.int, Kn H x := by
  intro x hx
  obtain ⟨i, _, rfl⟩ := List.mem_map.mp hx
  exact .int i
theorem pickD_none {f : Nat → PyData} (n : Nat) : pickD (fun _ => false) f n = [] := by
  unfold pickD
  rw [List.filter_eq_nil_iff.mpr (by simp)]; rfl
def sp_law (c : Cs) : Sp := fun vs H Q _ => ∃ (a : Addr) (ns : List Int), vs = [.ref a] ∧ SqL c.K H a (ns.map V.int) ∧ ns.length ≤ 63 ∧ ∀ H', Q (.bl true) H'

/-! ### what is told of a row that is handed in -/
def toldV : List V := [.bl true, .bl false, .bl false, .bl false, .bl true]
def sp__law_told (c : Cs) : Sp := fun vs H Q _ => ∃ (a : Addr) (xs : List V), vs = [.ref a] ∧ SqL c.K H a xs ∧ (∀ x ∈ xs, Kn H x) ∧
  (xs ≠ [] → (∀ x ∈ xs, lowV x = true) → ∀ H', Same H H' → Q .non H') ∧
  ((xs = [] ∨ ∃ x ∈ xs, lowV x = false) → ∀ (p : Addr) (H' : Hp), Same H H' → H p = none → H' p = some (.lst toldV) → Q (.ref p) H')
theorem len__law_told (c : Cs) : ∀ vs H Q E, sp__law_told c vs H Q E → vs.length = (["_law_lows_here"] : List Str).length := by
  rintro vs H Q E ⟨a, xs, rfl, _⟩; rfl
/-- _law_told -/
def t__law_told (c : Cs) (E : XK) : TS :=
  tSeq (tAsg (tC .non) (gName 1))
    (tSeq (tTry c.K (.ref c.eSackError) 2 (fun a cls d => tAsg (tOp rAdd (tCallP (sp__law_marks c) cls d a (tCons (tVar 2) (tNil))) (tLst (tCons (tCB (rIsX c.K cls d a) (tCons (tVar 2) (tCons (tC (.ty "ValueError")) (tNil)))) (tNil)))) (gName 1)) (fun cls d _ H => E cls d H) (fun W => tDrop (tCallW (sp_sack_of c) [] W (tCons (tVar 0) (tNil)))))
    (tRet (tVar 1)))
theorem pure__law_told {c : Cs} (G : Good c) (GE : GoodE c) (vs : List V) (H : Hp) (Q : VK) (E : XK) (h : sp__law_told c vs H Q E) : t__law_told c E { nx := fun _ H' => Q .non H', rt := Q } (start ["_law_lows_here", "_law_told_here", "_law_e"] vs) H := by
  obtain ⟨a, xs, rfl, ha, hk, hQ, hE⟩ := h
  unfold t__law_told
  show tSeq _ _ _ [some (.ref a), none, none] H
  walk_at "go"
  refine ⟨a, xs, rfl, ha, hk, fun h1 h2 x H1 s1 _ _ => ?_, fun z => ?_⟩
  · walk_at "go"
    exact hQ h1 h2 H1 s1
  · refine we_yes (GE.got .number) fun e ne => ?_
    simp only [List.set_cons_zero, List.set_cons_succ]
    walk_at "go"
    refine ⟨.number, rfl, rfl, rfl, fun p H1 s1 np hp => ?_⟩
    walk_at "go"
    refine r_isxT (GE.x .number) (GE.val .number) ?_
    walk_at "go"
    refine ⟨sz5 (by simp), fun q nq => ?_⟩
    generalize eq : upd H1 q _ = H2
    obtain ⟨sH2, hq, dH2⟩ := new_of nq eq
    refine .inr (.inr ⟨p, q, _, _, rfl, rfl, sH2 _ _ hp, hq, sz5 (by simp [marksV]), ?_⟩)
    intro r nr
    generalize er : upd H2 r _ = H3
    obtain ⟨sH3, hr, dH3⟩ := new_of nr er
    walk_at "go"
    refine hE z r H3 ((s1.trans sH2).trans sH3) (s1.free (sH2.free nr)) hr
/-! ### the law -/
theorem len_law (c : Cs) : ∀ vs H Q E, sp_law c vs H Q E → vs.length = (["_law_script"] : List Str).length := by
  rintro vs H Q E ⟨a, ns, rfl, _⟩; rfl
/-- law -/
def t_law (c : Cs) (E : XK) : TS :=
  tSeq (tAsg (tOrT c.K (tSl (rSlU c.K) (tCall (sp__law_lows c) [] E (tCons (tCall (sp__law_pattern c) [] E (tCons (tCall (sp__law_cell_at c) [] E (tCons (tVar 0) (tCons (tC (.int 0)) (tNil)))) (tNil))) (tNil))) (tNoPart) (tPart (tC (.int 40)))) (tLst (tCons (tC (.int 7)) (tNil)))) (gName 1))
    (tSeq (tAsg (tCall (sp__law_cell_at c) [] E (tCons (tVar 0) (tCons (tC (.int 1)) (tNil)))) (gName 2))
    (tSeq (tAsg (tOp (rIx c.K) (tLst (tCons (tUn rNeg (tC (.int 1))) (tCons (tC (.int 256)) (tCons (tC (.bl true)) (tCons (tC (.bl false)) (tCons (tC .non) (tCons (tC (.str "7")) (tCons (tOp rPow (tC (.int 10)) (tC (.int 30))) (tCons (tUn rNeg (tOp rPow (tC (.int 10)) (tC (.int 20)))) (tCons (tTup (tCons (tC (.int 3)) (tNil))) (tCons (tLst (tCons (tC (.int 4)) (tNil))) (tCons (tC (.int 257)) (tCons (tC (.str "")) (tNil)))))))))))))) (tOp rMod (tVar 2) (tC (.int 12)))) (gName 3))
    (tSeq (tAsg (tOp rMod (tOp rFdv (tVar 2) (tC (.int 12))) (tOp rAdd (tCB (rLen c.K) (tCons (tVar 1) (tNil))) (tC (.int 1)))) (gName 4))
    (tSeq (tAsg (tLst (tCons (tC (.bl true)) (tCons (tC (.bl false)) (tCons (tC (.bl false)) (tCons (tC (.bl false)) (tCons (tC (.bl true)) (tNil))))))) (gName 5))
    (tSeq (tIfS (tOr (tTest (tOp (rNeu c.K) (tCall (sp__law_told c) [] E (tCons (tOp rAdd (tOp rAdd (tSl (rSlU c.K) (tVar 1) (tNoPart) (tPart (tVar 4))) (tLst (tCons (tVar 3) (tNil)))) (tSl (rSlU c.K) (tVar 1) (tPart (tVar 4)) (tNoPart))) (tNil))) (tVar 5))) (tOr (tTest (tOp (rNeu c.K) (tCall (sp__law_told c) [] E (tCons (tLst (tNil)) (tNil))) (tVar 5))) (tTest (tOp (rNeu c.K) (tCall (sp__law_told c) [] E (tCons (tLst (tCons (tVar 3) (tNil))) (tNil))) (tVar 5))))) (tRet (tC (.bl false))) (tNext))
    (tSeq (tAsg (tC (.int 0)) (gName 6))
    (tSeq (tFor (iSeq c.K (tVar 1)) (gName 7) (tAug 6 (tOp rShl (tC (.int 1)) (tVar 7)) pBor))
    (tRet (tAndV (tOp (rIsN) (tCall (sp__law_told c) [] E (tCons (tVar 1) (tNil))) (tC .non)) (tOp (rEqu c.K) (tMethF (fam_form c) "form" [] E (tCall (sp_sack_of c) [] E (tCons (tVar 1) (tNil))) tNil) (tOp (rIx c.K) (tCall (sp__law_form c) [] E (tCons (tVar 6) (tNil))) (tC (.int 0)))))))))))))
theorem told_same {K : PySem.W.Frag} {H : Hp} {Q : VK} {p q : Addr} (hp : H p = some (.lst toldV)) (hq : H q = some (.lst toldV)) (h : Q (.bl false) H) : rNeu K (.ref p) (.ref q) H Q := by
  have d : ∀ {r : Addr}, H r = some (.lst toldV) → Dp K H (.ref r) (.list [.bool true, .bool false, .bool false, .bool false, .bool true]) := fun h => .lst (SqL.of h) (.cons (.bl _) (.cons (.bl _) (.cons (.bl _) (.cons (.bl _) (.cons (.bl _) .nil)))))
  have sm : Sm 1 (.list [.bool true, .bool false, .bool false, .bool false, .bool true]) := Sm.list fun d hd => by
    simp only [List.mem_cons, List.not_mem_nil, or_false] at hd
    rcases hd with rfl | rfl | rfl | rfl | rfl <;> exact .bl _
  refine r_ned (d hp) (d hq) sm.shaped sm.shaped ?_
  rw [sm.refl]
  exact h
theorem at_mem {xs : List V} {n : Nat} (h : n < xs.length) : ∃ v, atI xs (n : Int) = some v ∧ v ∈ xs := ⟨xs[n], atI_nat (List.getElem?_eq_getElem h), List.getElem_mem h⟩
/-- a row, or 7 alone -/
theorem or_row {K : PySem.W.Frag} {σ : L2.St} {H : Hp} {Q : VK} {p : Addr} {L : List Nat} (hp : H p = some (.lst ((nz L).map V.int))) (h : ∀ (q : Addr) (M : List Nat) (H' : Hp), Same H H' → H' q = some (.lst ((nz M).map V.int)) → M ≠ [] → (M = L ∨ M = [7]) → Q (.ref q) H') :
    ∃ k, TruV K (.ref p) H k ∧ if k = true then Q (.ref p) H else tLst (tCons (tC (.int 7)) tNil) σ H Q := by
  refine ⟨_, .inl ⟨_, SqL.of hp, rfl⟩, ?_⟩
  cases L with
  | nil =>
    show tLst (tCons (tC (.int 7)) tNil) σ H Q
    walk_at "go"
    refine ⟨sz5 (by simp), fun q nq => ?_⟩
    generalize eq : upd H q _ = H1
    obtain ⟨sH1, hq, dH1⟩ := new_of nq eq
    exact h q [7] H1 sH1 hq (by simp) (.inr rfl)
  | cons x l => exact h p _ H (Same.refl _) hp (by simp) (.inl rfl)
theorem pure_law {c : Cs} (G : Good c) (vs : List V) (H : Hp) (Q : VK) (E : XK) (h : sp_law c vs H Q E) : t_law c E { nx := fun _ H' => Q .non H', rt := Q } (start ["_law_script", "_law_lows_here", "_law_cell", "_law_odd", "_law_at", "_law_refused", "_law_bits", "_law_low"] vs) H := by
  obtain ⟨a, ns, rfl, ha, hl, hQ⟩ := h
  unfold t_law
  show tSeq _ _ _ [some (.ref a), none, none, none, none, none, none, none] H
  walk_at "go"
  refine ⟨a, ns, 0, rfl, ha, by decide, by decide, ?_⟩
  walk_at "go"
  refine ⟨_, rfl, cellN_lt _ _, fun b H1 hb s1 => ?_⟩
  have hb2 : b < 2 ^ 8192 := Nat.lt_of_lt_of_le hb (Nat.pow_le_pow_right (by decide) (by decide))
  walk_at "go"
  refine ⟨b, rfl, hb2, fun p2 H2 s2 np2 hp2 => ?_⟩
  walk_at "go"
  refine .inl ⟨p2, _, rfl, SqL.of hp2, ?_⟩
  rw [show (40 : Int) = ((40 : Nat) : Int) from rfl, cut_to]
  intro p3 np3
  generalize ep3 : upd H2 p3 _ = H3
  obtain ⟨sH3, hp3, dH3⟩ := new_of np3 ep3
  refine or_row hp3 fun p4 L H4 s4 hp4 hne hL => ?_
  have hlt : ∀ x ∈ L, x < 256 := by
    rcases hL with rfl | rfl
    · exact fun x hx => bitsOf_lt hb (List.mem_of_mem_take hx)
    · intro x hx; have : x = 7 := by simpa using hx
      omega
  have hlen : L.length ≤ 40 := by
    rcases hL with rfl | rfl
    · rw [List.length_take]; omega
    · simp
  have s04 : Same H H4 := ((s1.trans s2).trans sH3).trans s4
  walk_at "go"
  refine ⟨a, ns, 1, rfl, s04.seq ha, by decide, by decide, ?_⟩
  walk_at "go"
  generalize hcell : cellN ns 1 = cl
  refine ⟨sz5 (by simp), fun p5 np5 => ?_⟩
  generalize ep5 : upd H4 p5 _ = H5
  obtain ⟨sH5, hp5, dH5⟩ := new_of np5 ep5
  refine ⟨sz5 (by simp), fun p6 np6 => ?_⟩
  generalize ep6 : upd H5 p6 _ = H6
  obtain ⟨sH6, hp6, dH6⟩ := new_of np6 ep6
  walk_at "go"
  refine ⟨sz5 (by simp), fun p7 np7 => ?_⟩
  generalize ep7 : upd H6 p7 _ = H7
  obtain ⟨sH7, hp7, dH7⟩ := new_of np7 ep7
  walk_at "go"
  obtain ⟨w, hw, hw2⟩ : ∃ w : Nat, (cl : Int) % 12 = w ∧ w < 12 := ⟨cl % 12, by omega, by omega⟩
  rw [hw]
  obtain ⟨odd, ho1, ho2⟩ := at_mem (n := w) (show w < ([.int (-1), .int 256, .bl true, .bl false, .non, .str "7", .int (10 ^ (30 : Int).toNat), .int (-10 ^ (20 : Int).toNat), .ref p5, .ref p6, .int 257, .str ""] : List V).length from hw2)
  have h57 := sH7 _ _ (sH6 _ _ hp5)
  have h67 := sH7 _ _ hp6
  have kodd : Kn H7 odd ∧ lowV odd = false := by
    simp only [List.mem_cons, List.not_mem_nil, or_false] at ho2
    rcases ho2 with rfl | rfl | rfl | rfl | rfl | rfl | rfl | rfl | rfl | rfl | rfl | rfl
    · exact ⟨.int _, rfl⟩
    · exact ⟨.int _, rfl⟩
    · exact ⟨.bl _, rfl⟩
    · exact ⟨.bl _, rfl⟩
    · exact ⟨.non, rfl⟩
    · exact ⟨.str _, rfl⟩
    · exact ⟨.int _, by decide +kernel⟩
    · exact ⟨.int _, by decide +kernel⟩
    · exact ⟨.tup h57, rfl⟩
    · exact ⟨.lst h67, rfl⟩
    · exact ⟨.int _, rfl⟩
    · exact ⟨.str _, rfl⟩
  refine r_ixL (SqL.of hp7) ho1 ?_
  walk_at "go"
  have s47 := (sH5.trans sH6).trans sH7
  refine r_len_l (SqL.of (s47 _ _ hp4)) ?_
  walk_at "go"
  rw [nzv_len]
  have q0 : (0 : Int) ≤ (cl : Int) / 12 % ((L.length : Int) + 1) := Int.emod_nonneg _ (by omega)
  have q1 : (cl : Int) / 12 % ((L.length : Int) + 1) < (L.length : Int) + 1 := Int.emod_lt_of_pos _ (by omega)
  obtain ⟨at_, hat⟩ := Int.eq_ofNat_of_zero_le q0
  rw [hat] at q1 ⊢
  walk_at "go"
  refine ⟨sz5 (by simp), fun p8 np8 => ?_⟩
  generalize ep8 : upd H7 p8 _ = H8
  obtain ⟨sH8, hp8, dH8⟩ := new_of np8 ep8
  walk_at "go"
  have s48 := s47.trans sH8
  refine .inl ⟨p4, _, rfl, SqL.of (s48 _ _ hp4), ?_⟩
  rw [cut_to]
  intro p9 np9
  generalize ep9 : upd H8 p9 _ = H9
  obtain ⟨sH9, hp9, dH9⟩ := new_of np9 ep9
  walk_at "go"
  refine ⟨sz5 (by simp), fun p10 np10 => ?_⟩
  generalize ep10 : upd H9 p10 _ = H10
  obtain ⟨sH10, hp10, dH10⟩ := new_of np10 ep10
  refine .inr (.inr ⟨p9, p10, _, _, rfl, rfl, sH10 _ _ hp9, hp10, sz5 (by rw [nzv_len, List.length_take]; simp; omega), ?_⟩)
  intro p11 np11
  generalize ep11 : upd H10 p11 _ = H11
  obtain ⟨sH11, hp11, dH11⟩ := new_of np11 ep11
  walk_at "go"
  have s4b := ((s48.trans sH9).trans sH10).trans sH11
  refine .inl ⟨p4, _, rfl, SqL.of (s4b _ _ hp4), ?_⟩
  rw [cut_from _ _ (by omega)]
  intro p12 np12
  generalize ep12 : upd H11 p12 _ = H12
  obtain ⟨sH12, hp12, dH12⟩ := new_of np12 ep12
  refine .inr (.inr ⟨p11, p12, _, _, rfl, rfl, sH12 _ _ hp11, hp12, sz5 (by simp only [List.length_append, nzv_len, List.length_take, List.length_drop, List.length_cons, List.length_nil]; omega), ?_⟩)
  intro p13 np13
  generalize ep13 : upd H12 p13 _ = H13
  obtain ⟨sH13, hp13, dH13⟩ := new_of np13 ep13
  have s7d := ((((sH8.trans sH9).trans sH10).trans sH11).trans sH12).trans sH13
  have kod := kodd.1.same s7d
  refine ⟨p13, _, rfl, SqL.of hp13, fun x hx => ?_, fun _ z => ?_, fun _ => ?_⟩
  · rcases List.mem_append.mp hx with hx | hx
    · rcases List.mem_append.mp hx with hx | hx
      · exact kn_ints _ x hx
      · have : x = odd := by simpa using hx
        exact this ▸ kod
    · exact kn_ints _ x hx
  · exact absurd (z odd (by simp)) (by rw [kodd.2]; simp)
  intro t1 Ha sa nta hta
  have h8a := sa _ _ (((((sH9.trans sH10).trans sH11).trans sH12).trans sH13) _ _ hp8)
  walk_at "go"
  refine told_same hta h8a ?_
  walk_at "go"
  refine ⟨sz5 (by simp), fun t2 nt2 => ?_⟩
  generalize et2 : upd Ha t2 _ = Hb
  obtain ⟨sHb, ht2, dHb⟩ := new_of nt2 et2
  refine ⟨t2, _, rfl, SqL.of ht2, fun x hx => (by cases hx), fun z => absurd rfl z, fun _ t3 Hc sc ntc htc => ?_⟩
  walk_at "go"
  refine told_same htc (sc _ _ (sHb _ _ h8a)) ?_
  walk_at "go"
  refine ⟨sz5 (by simp), fun t4 nt4 => ?_⟩
  generalize et4 : upd Hc t4 _ = Hd
  obtain ⟨sHd, ht4, dHd⟩ := new_of nt4 et4
  have s7j := ((s7d.trans sa).trans sHb).trans (sc.trans sHd)
  refine ⟨t4, _, rfl, SqL.of ht4, fun x hx => ?_, fun _ z => ?_, fun _ t5 He se nte hte => ?_⟩
  · have : x = odd := by simpa using hx
    exact this ▸ kodd.1.same s7j
  · exact absurd (z odd (by simp)) (by rw [kodd.2]; simp)
  walk_at "go"
  refine told_same hte (se _ _ (sHd _ _ (sc _ _ (sHb _ _ h8a)))) ?_
  walk_at "go"
  have s4e := s47.trans (s7j.trans se)
  have hpe := s4e _ _ hp4
  refine .inl ?_
  show tVar _ _ _ _
  walk_at "go"
  refine ⟨p4, rfl, ⟨_, SqL.of hpe⟩, for_list (K := c.K) (a := p4) (xs := (nz L).map V.int) (fun i σ Hf => ∃ v, Hf = He ∧ σ = [some (.ref a), some (.ref p4), some (.int (cl : Int)), some odd, some (.int (at_ : Int)), some (.ref p8), some (.int ((orV (((nz L).map V.int).take i) : Nat) : Int)), v])
    ⟨none, rfl, rfl⟩ (fun i σ Hf _ ⟨_, e, _⟩ => by rw [e]; exact SqL.of hpe) ?_ ?_⟩
  · rintro i x σ Hf hi ⟨v, rfl, rfl⟩
    obtain ⟨m, hm, rfl⟩ := nz_get hi
    have hm2 := hlt m (List.mem_of_getElem? hm)
    walk_at "go"
    have e : (1 : Int) * 2 ^ ((m : Int)).toNat = ((2 ^ m : Nat) : Int) := by rw [Int.one_mul, Int.toNat_natCast, Int.natCast_pow]; rfl
    rw [e, or_cast]
    refine ⟨some (.int (m : Int)), rfl, ?_⟩
    rw [take_more hi, orV_snoc]; rfl
  · rintro σ Hf ⟨v, rfl, rfl⟩
    rw [List.take_length]
    have low : ∀ x ∈ (nz L).map V.int, lowV x = true := low_nz hlt
    have lne : (nz L).map V.int ≠ [] := by
      intro e
      have := congrArg List.length e
      rw [nzv_len] at this
      exact hne (List.length_eq_zero_iff.mp this)
    have hob := orV_lt low
    walk_at "go"
    refine ⟨p4, _, rfl, SqL.of hpe, kn_ints _, fun _ _ Hg sg => ?_, fun z => ?_⟩
    rotate_left
    · rcases z with z | ⟨x, hx, z⟩
      · exact absurd z lne
      · rw [low x hx] at z; cases z
    walk_at "go"
    refine if_t (by simp) ?_
    walk_at "go"
    refine ⟨p4, _, rfl, SqL.of (sg _ _ hpe), kn_ints _, fun _ _ s Hh sh nsh hsk => ?_, fun z => ?_⟩
    rotate_left
    · rcases z with z | ⟨x, hx, z⟩
      · exact absurd z lne
      · rw [low x hx] at z; cases z
    refine hsk.at (m := "form") (fam := fam_form c) (dvs := []) ⟨_, rfl, rfl⟩ (by decide +kernel) ?_
    walk_at "go"
    refine ⟨s, _, _, rfl, hsk, hob, fun u3 xs3 Hi si nu3 hu3 hf3 => ?_⟩
    walk_at "go"
    refine ⟨_, rfl, hob, fun u4 xs4 Hj sj nu4 hu4 hf4 => ?_⟩
    obtain ⟨f, ws, rfl, hf, hws⟩ := fds_cons_inv hf4
    refine r_ixT (SqT.of hu4) (atI_nat (j := 0) rfl) ?_
    have d3 : Dp c.K Hj (.ref u3) (formD (orV ((nz L).map V.int))) := .tup (SqT.of (sj _ _ hu3)) (hf3.now.ext sj)
    exact r_eqd d3 hf.now (Sm.form _).shaped (Sm.form _).shaped (by rw [(Sm.form _).refl]; exact hQ _)

def top (i : Nat) : Stmt := PySem.Challenge.pw_sackset_k02_no_sacks.main.body.getD i (.Pass ⟨0, 0, 0, 0⟩)
section
variable {P : Program} {w : World} {mg : Str → Option Value} {base : Heap} {c : Cs}
abbrev s_Sack___init__ : Stmt := inClass (top 13) 0
theorem sc_Sack___init__ : FnScope ["self", "bits"] ["self", "bits"] (defScope s_Sack___init__) := ⟨rfl, rfl, rfl, by decide +kernel, rfl, by decide +kernel, by decide +kernel⟩
theorem ok_Sack___init__ {f : Addr} {fd : FuncData} {dvs : List V} (G : Good c) (C : Addr) (F : FunD c.K "__init__" "Sack.__init__" (defArgs s_Sack___init__) (defBody s_Sack___init__) (defScope s_Sack___init__) dvs [] f fd) : FnOk P w c.K mg base (L2N.CX P w) 1 f fd ["self", "bits"] (sp_Sack___init__ c C) := by
  refine F.ok sc_Sack___init__ (len_Sack___init__ c C) fun cdv A outer s H vs Q E hr h => ⟨t_Sack___init__ c E, ?_, pure_Sack___init__ G C vs H Q E h⟩
  have sc := sc_Sack___init__
  exact pss_one (ps_fld (pv 0) (pv 1) rfl)

abbrev s_Sack_form : Stmt := inClass (top 13) 4
theorem sc_Sack_form : FnScope ["self"] ["self"] (defScope s_Sack_form) := ⟨rfl, rfl, rfl, by decide +kernel, rfl, by decide +kernel, by decide +kernel⟩
theorem ok_Sack_form {f : Addr} {fd : FuncData} {dvs : List V} (G : Good c) (F : FunD c.K "form" "Sack.form" (defArgs s_Sack_form) (defBody s_Sack_form) (defScope s_Sack_form) dvs [] f fd) (m_kind : ∀ C sp, fam_kind c C sp → Met P w c.K mg base 1 C "kind" sp []) (m_held : ∀ C sp, fam_held c C sp → Met P w c.K mg base 2 C "held" sp []) : FnOk P w c.K mg base (L2N.CX P w) 3 f fd ["self"] (sp_Sack_form c) := by
  refine F.ok sc_Sack_form (len_Sack_form c) fun cdv A outer s H vs Q E hr h => ⟨t_Sack_form c E, ?_, pure_Sack_form G vs H Q E h⟩
  have sc := sc_Sack_form
  exact pss_one (ps_ret (pe_tup (pa_cons (pe_m0 m_kind hr (by decide) passUp (pv 0)) (pa_cons (pe_m0 m_held hr (by decide) passUp (pv 0)) (pa_nil)))))

abbrev s_Sack_lows : Stmt := inClass (top 13) 6
theorem sc_Sack_lows : FnScope ["self"] ["self"] (defScope s_Sack_lows) := ⟨rfl, rfl, rfl, by decide +kernel, rfl, by decide +kernel, by decide +kernel⟩
theorem ok_Sack_lows {f : Addr} {fd : FuncData} {dvs : List V} (G : Good c) (F : FunD c.K "lows" "Sack.lows" (defArgs s_Sack_lows) (defBody s_Sack_lows) (defScope s_Sack_lows) dvs [] f fd) (c_lows_of : Cal P w c.K mg base 1 "lows_of" (sp_lows_of c) []) : FnOk P w c.K mg base (L2N.CX P w) 2 f fd ["self"] (sp_Sack_lows c) := by
  refine F.ok sc_Sack_lows (len_Sack_lows c) fun cdv A outer s H vs Q E hr h => ⟨t_Sack_lows c E, ?_, pure_Sack_lows G vs H Q E h⟩
  have sc := sc_Sack_lows
  exact pss_one (ps_ret (pe_c c_lows_of hr (by decide) rfl passUp (pa_cons (pe_fld (pv 0) rfl) (pa_nil))))

abbrev s_RowSack_kind : Stmt := inClass (top 14) 0
theorem sc_RowSack_kind : FnScope ["self"] ["self"] (defScope s_RowSack_kind) := ⟨rfl, rfl, rfl, by decide +kernel, rfl, by decide +kernel, by decide +kernel⟩
theorem ok_RowSack_kind {f : Addr} {fd : FuncData} {dvs : List V} (G : Good c) (F : FunD c.K "kind" "RowSack.kind" (defArgs s_RowSack_kind) (defBody s_RowSack_kind) (defScope s_RowSack_kind) dvs [] f fd) : FnOk P w c.K mg base (L2N.CX P w) 1 f fd ["self"] (sp_RowSack_kind c) := by
  refine F.ok sc_RowSack_kind (len_RowSack_kind c) fun cdv A outer s H vs Q E hr h => ⟨t_RowSack_kind c E, ?_, pure_RowSack_kind G vs H Q E h⟩
  have sc := sc_RowSack_kind
  exact pss_one (ps_ret (pe_str))

abbrev s_RowSack_held : Stmt := inClass (top 14) 1
theorem sc_RowSack_held : FnScope ["self"] ["self"] (defScope s_RowSack_held) := ⟨rfl, rfl, rfl, by decide +kernel, rfl, by decide +kernel, by decide +kernel⟩
theorem ok_RowSack_held {f : Addr} {fd : FuncData} {dvs : List V} (G : Good c) (F : FunD c.K "held" "RowSack.held" (defArgs s_RowSack_held) (defBody s_RowSack_held) (defScope s_RowSack_held) dvs [] f fd) (c_lows_of : Cal P w c.K mg base 1 "lows_of" (sp_lows_of c) []) (f_tuple : mg "tuple" = none) : FnOk P w c.K mg base (L2N.CX P w) 2 f fd ["self"] (sp_RowSack_held c) := by
  refine F.ok sc_RowSack_held (len_RowSack_held c) fun cdv A outer s H vs Q E hr h => ⟨t_RowSack_held c E, ?_, pure_RowSack_held G vs H Q E h⟩
  have sc := sc_RowSack_held
  exact pss_one (ps_ret (pe_callTy u_tuple (by rfl) f_tuple (by decide +kernel) (pa_cons (pe_c c_lows_of hr (by decide) rfl passUp (pa_cons (pe_fld (pv 0) rfl) (pa_nil))) (pa_nil))))

abbrev s_RowSack_weight : Stmt := inClass (top 14) 2
theorem sc_RowSack_weight : FnScope ["self"] ["self"] (defScope s_RowSack_weight) := ⟨rfl, rfl, rfl, by decide +kernel, rfl, by decide +kernel, by decide +kernel⟩
theorem ok_RowSack_weight {f : Addr} {fd : FuncData} {dvs : List V} (G : Good c) (F : FunD c.K "weight" "RowSack.weight" (defArgs s_RowSack_weight) (defBody s_RowSack_weight) (defScope s_RowSack_weight) dvs [] f fd) (c_count_of : Cal P w c.K mg base 2 "count_of" (sp_count_of c) []) : FnOk P w c.K mg base (L2N.CX P w) 3 f fd ["self"] (sp_RowSack_weight c) := by
  refine F.ok sc_RowSack_weight (len_RowSack_weight c) fun cdv A outer s H vs Q E hr h => ⟨t_RowSack_weight c E, ?_, pure_RowSack_weight G vs H Q E h⟩
  have sc := sc_RowSack_weight
  exact pss_one (ps_ret (pe_c c_count_of hr (by decide) rfl passUp (pa_cons (pe_fld (pv 0) rfl) (pa_nil))))

abbrev s_RunsSack_kind : Stmt := inClass (top 15) 0
theorem sc_RunsSack_kind : FnScope ["self"] ["self"] (defScope s_RunsSack_kind) := ⟨rfl, rfl, rfl, by decide +kernel, rfl, by decide +kernel, by decide +kernel⟩
theorem ok_RunsSack_kind {f : Addr} {fd : FuncData} {dvs : List V} (G : Good c) (F : FunD c.K "kind" "RunsSack.kind" (defArgs s_RunsSack_kind) (defBody s_RunsSack_kind) (defScope s_RunsSack_kind) dvs [] f fd) : FnOk P w c.K mg base (L2N.CX P w) 1 f fd ["self"] (sp_RunsSack_kind c) := by
  refine F.ok sc_RunsSack_kind (len_RunsSack_kind c) fun cdv A outer s H vs Q E hr h => ⟨t_RunsSack_kind c E, ?_, pure_RunsSack_kind G vs H Q E h⟩
  have sc := sc_RunsSack_kind
  exact pss_one (ps_ret (pe_str))

abbrev s_RunsSack_held : Stmt := inClass (top 15) 1
theorem sc_RunsSack_held : FnScope ["self"] ["self"] (defScope s_RunsSack_held) := ⟨rfl, rfl, rfl, by decide +kernel, rfl, by decide +kernel, by decide +kernel⟩
theorem ok_RunsSack_held {f : Addr} {fd : FuncData} {dvs : List V} (G : Good c) (F : FunD c.K "held" "RunsSack.held" (defArgs s_RunsSack_held) (defBody s_RunsSack_held) (defScope s_RunsSack_held) dvs [] f fd) (c_runs_of : Cal P w c.K mg base 1 "runs_of" (sp_runs_of c) []) (f_tuple : mg "tuple" = none) : FnOk P w c.K mg base (L2N.CX P w) 2 f fd ["self"] (sp_RunsSack_held c) := by
  refine F.ok sc_RunsSack_held (len_RunsSack_held c) fun cdv A outer s H vs Q E hr h => ⟨t_RunsSack_held c E, ?_, pure_RunsSack_held G vs H Q E h⟩
  have sc := sc_RunsSack_held
  exact pss_one (ps_ret (pe_callTy u_tuple (by rfl) f_tuple (by decide +kernel) (pa_cons (pe_c c_runs_of hr (by decide) rfl passUp (pa_cons (pe_fld (pv 0) rfl) (pa_nil))) (pa_nil))))

abbrev s_RunsSack_weight : Stmt := inClass (top 15) 2
theorem sc_RunsSack_weight : FnScope ["self"] ["self"] (defScope s_RunsSack_weight) := ⟨rfl, rfl, rfl, by decide +kernel, rfl, by decide +kernel, by decide +kernel⟩
theorem ok_RunsSack_weight {f : Addr} {fd : FuncData} {dvs : List V} (G : Good c) (F : FunD c.K "weight" "RunsSack.weight" (defArgs s_RunsSack_weight) (defBody s_RunsSack_weight) (defScope s_RunsSack_weight) dvs [] f fd) (m_held : ∀ C sp, fam_held c C sp → Met P w c.K mg base 2 C "held" sp []) (f_len : mg "len" = none) : FnOk P w c.K mg base (L2N.CX P w) 3 f fd ["self"] (sp_RunsSack_weight c) := by
  refine F.ok sc_RunsSack_weight (len_RunsSack_weight c) fun cdv A outer s H vs Q E hr h => ⟨t_RunsSack_weight c E, ?_, pure_RunsSack_weight G vs H Q E h⟩
  have sc := sc_RunsSack_weight
  exact pss_one (ps_ret (pe_op u_mul (pe_int) (pe_callB u_len (by rfl) f_len PySem.boot_len (pa_cons (pe_m0 m_held hr (by decide) passUp (pv 0)) (pa_nil)))))

abbrev s_BitsSack_kind : Stmt := inClass (top 16) 0
theorem sc_BitsSack_kind : FnScope ["self"] ["self"] (defScope s_BitsSack_kind) := ⟨rfl, rfl, rfl, by decide +kernel, rfl, by decide +kernel, by decide +kernel⟩
theorem ok_BitsSack_kind {f : Addr} {fd : FuncData} {dvs : List V} (G : Good c) (F : FunD c.K "kind" "BitsSack.kind" (defArgs s_BitsSack_kind) (defBody s_BitsSack_kind) (defScope s_BitsSack_kind) dvs [] f fd) : FnOk P w c.K mg base (L2N.CX P w) 1 f fd ["self"] (sp_BitsSack_kind c) := by
  refine F.ok sc_BitsSack_kind (len_BitsSack_kind c) fun cdv A outer s H vs Q E hr h => ⟨t_BitsSack_kind c E, ?_, pure_BitsSack_kind G vs H Q E h⟩
  have sc := sc_BitsSack_kind
  exact pss_one (ps_ret (pe_str))

abbrev s_BitsSack_held : Stmt := inClass (top 16) 1
theorem sc_BitsSack_held : FnScope ["self", "k"] ["self"] (defScope s_BitsSack_held) := ⟨rfl, rfl, rfl, by decide +kernel, rfl, by decide +kernel, by decide +kernel⟩
theorem ok_BitsSack_held {f : Addr} {fd : FuncData} {dvs : List V} (G : Good c) (F : FunD c.K "held" "BitsSack.held" (defArgs s_BitsSack_held) (defBody s_BitsSack_held) (defScope s_BitsSack_held) dvs [] f fd) (g_WORDS : ∃ t, mg "WORDS" = some (.int 4 t)) (f_range : mg "range" = none) (g_WORD : ∃ t, mg "WORD" = some (.int 64 t)) (g_FULL_WORD : ∃ t, mg "FULL_WORD" = some (.int 18446744073709551615 t)) (f_tuple : mg "tuple" = none) : FnOk P w c.K mg base (L2N.CX P w) 1 f fd ["self"] (sp_BitsSack_held c) := by
  refine F.ok sc_BitsSack_held (len_BitsSack_held c) fun cdv A outer s H vs Q E hr h => ⟨t_BitsSack_held c E, ?_, pure_BitsSack_held G vs H Q E h⟩
  have sc := sc_BitsSack_held
  exact pss_one (ps_ret (pe_callTy u_tuple (by rfl) f_tuple (by decide +kernel) (pa_cons (pe_lc (own := [("k", 1)]) (g := gName 1) (tt := tYes) rfl sc.nd (pi_range1 rfl f_range (pa_cons (C8.pe_gc (v := .int 4) rfl (gl_int g_WORDS)) (pa_nil))) (blkOk_by (own := [("k", 1)]) (N := ["self", "k"]) (sc := defScope s_BitsSack_held) (by decide +kernel)) (fun _ _ _ _ _ => pg_name (i := 1) sc.nd rfl (by first | exact Or.inl rfl | exact Or.inr rfl)) (fun _ _ _ _ _ => pts_nil) (fun _ _ _ _ _ => pe_op u_ban (pe_op u_shr (pe_fld (pv 0) rfl) (pe_op u_mul (C8.pe_gc (v := .int 64) rfl (gl_int g_WORD)) (pv 1))) (C8.pe_gc (v := .int 18446744073709551615) rfl (gl_int g_FULL_WORD)))) (pa_nil))))

abbrev s_BitsSack_weight : Stmt := inClass (top 16) 2
theorem sc_BitsSack_weight : FnScope ["self"] ["self"] (defScope s_BitsSack_weight) := ⟨rfl, rfl, rfl, by decide +kernel, rfl, by decide +kernel, by decide +kernel⟩
theorem ok_BitsSack_weight {f : Addr} {fd : FuncData} {dvs : List V} (G : Good c) (F : FunD c.K "weight" "BitsSack.weight" (defArgs s_BitsSack_weight) (defBody s_BitsSack_weight) (defScope s_BitsSack_weight) dvs [] f fd) (g_BITS_WEIGHT : ∃ t, mg "BITS_WEIGHT" = some (.int 32 t)) : FnOk P w c.K mg base (L2N.CX P w) 1 f fd ["self"] (sp_BitsSack_weight c) := by
  refine F.ok sc_BitsSack_weight (len_BitsSack_weight c) fun cdv A outer s H vs Q E hr h => ⟨t_BitsSack_weight c E, ?_, pure_BitsSack_weight G vs H Q E h⟩
  have sc := sc_BitsSack_weight
  exact pss_one (ps_ret (C8.pe_gc (v := .int 32) rfl (gl_int g_BITS_WEIGHT)))

abbrev s_lows_of : Stmt := top 17
theorem sc_lows_of : FnScope ["bits", "found", "low"] ["bits"] (defScope s_lows_of) := ⟨rfl, rfl, rfl, by decide +kernel, rfl, by decide +kernel, by decide +kernel⟩
theorem ok_lows_of {f : Addr} {fd : FuncData} {dvs : List V} (G : Good c) (F : FunD c.K "lows_of" "lows_of" (defArgs s_lows_of) (defBody s_lows_of) (defScope s_lows_of) dvs [] f fd) : FnOk P w c.K mg base (L2N.CX P w) 1 f fd ["bits"] (sp_lows_of c) := by
  refine F.ok sc_lows_of (len_lows_of c) fun cdv A outer s H vs Q E hr h => ⟨t_lows_of c E, ?_, pure_lows_of G vs H Q E h⟩
  have sc := sc_lows_of
  exact pss_cons (ps_set (i := 1) sc.nd rfl (by first | exact Or.inl rfl | exact Or.inr rfl) (pe_lst (pa_nil)))
      (pss_cons (ps_while ownUp (pt_cmpR u_gt (pv 0) (pe_int) (nomark _)) (pss_cons (ps_set (i := 2) sc.nd rfl (by first | exact Or.inl rfl | exact Or.inr rfl) (pe_op u_ban (pv 0) (pe_un u_neg (pv 0))))
      (pss_cons (ps_expr (pe_bm PySem.F.plainAttrs_list PySem.F.slot_list_append PySem.F.type_list_append mt_append (pv 1) (pa_cons (pe_op u_sub (pe_bits (pv 2)) (pe_int)) (pa_nil))))
      (pss_one (ps_aug (i := 0) sc.nd rfl (by first | exact Or.inl rfl | exact Or.inr rfl) (pv 2) p_bxo)))))
      (pss_one (ps_ret (pv 1))))

abbrev s_runs_of : Stmt := top 18
theorem sc_runs_of : FnScope ["bits", "found", "place", "gap", "many"] ["bits"] (defScope s_runs_of) := ⟨rfl, rfl, rfl, by decide +kernel, rfl, by decide +kernel, by decide +kernel⟩
theorem ok_runs_of {f : Addr} {fd : FuncData} {dvs : List V} (G : Good c) (F : FunD c.K "runs_of" "runs_of" (defArgs s_runs_of) (defBody s_runs_of) (defScope s_runs_of) dvs [] f fd) : FnOk P w c.K mg base (L2N.CX P w) 1 f fd ["bits"] (sp_runs_of c) := by
  refine F.ok sc_runs_of (len_runs_of c) fun cdv A outer s H vs Q E hr h => ⟨t_runs_of c E, ?_, pure_runs_of G vs H Q E h⟩
  have sc := sc_runs_of
  exact pss_cons (ps_set (i := 1) sc.nd rfl (by first | exact Or.inl rfl | exact Or.inr rfl) (pe_lst (pa_nil)))
      (pss_cons (ps_set (i := 2) sc.nd rfl (by first | exact Or.inl rfl | exact Or.inr rfl) (pe_int))
      (pss_cons (ps_while ownUp (pt_cmpR u_gt (pv 0) (pe_int) (nomark _)) (pss_cons (ps_set (i := 3) sc.nd rfl (by first | exact Or.inl rfl | exact Or.inr rfl) (pe_op u_sub (pe_bits (pe_op u_ban (pv 0) (pe_un u_neg (pv 0)))) (pe_int)))
      (pss_cons (ps_aug (i := 0) sc.nd rfl (by first | exact Or.inl rfl | exact Or.inr rfl) (pv 3) p_shr)
      (pss_cons (ps_set (i := 4) sc.nd rfl (by first | exact Or.inl rfl | exact Or.inr rfl) (pe_op u_sub (pe_bits (pe_op u_ban (pe_op u_add (pv 0) (pe_int)) (pe_un u_inv (pv 0)))) (pe_int)))
      (pss_cons (ps_aug (i := 0) sc.nd rfl (by first | exact Or.inl rfl | exact Or.inr rfl) (pv 4) p_shr)
      (pss_cons (ps_expr (pe_bm PySem.F.plainAttrs_list PySem.F.slot_list_append PySem.F.type_list_append mt_append (pv 1) (pa_cons (pe_tup (pa_cons (pe_op u_add (pv 2) (pv 3)) (pa_cons (pe_op u_sub (pe_op u_add (pe_op u_add (pv 2) (pv 3)) (pv 4)) (pe_int)) (pa_nil)))) (pa_nil))))
      (pss_one (ps_aug (i := 2) sc.nd rfl (by first | exact Or.inl rfl | exact Or.inr rfl) (pe_op u_add (pv 3) (pv 4)) p_add))))))))
      (pss_one (ps_ret (pv 1)))))

abbrev s_count_of : Stmt := top 19
theorem sc_count_of : FnScope ["bits", "first", "last"] ["bits"] (defScope s_count_of) := ⟨rfl, rfl, rfl, by decide +kernel, rfl, by decide +kernel, by decide +kernel⟩
theorem ok_count_of {f : Addr} {fd : FuncData} {dvs : List V} (G : Good c) (F : FunD c.K "count_of" "count_of" (defArgs s_count_of) (defBody s_count_of) (defScope s_count_of) dvs [] f fd) (c_runs_of : Cal P w c.K mg base 1 "runs_of" (sp_runs_of c) []) (f_sum : mg "sum" = none) : FnOk P w c.K mg base (L2N.CX P w) 2 f fd ["bits"] (sp_count_of c) := by
  refine F.ok sc_count_of (len_count_of c) fun cdv A outer s H vs Q E hr h => ⟨t_count_of c E, ?_, pure_count_of G vs H Q E h⟩
  have sc := sc_count_of
  exact pss_one (ps_ret (pe_callB (cr_sum rfl) (by rfl) f_sum (by decide +kernel) (pa_cons (pe_lc (own := [("first", 1), ("last", 2)]) (g := gTup c.K 2 (gCons (gName 1) (gCons (gName 2) (gNil)))) (tt := tYes) rfl sc.nd (pi_seq (pe_c c_runs_of hr (by decide) rfl passUp (pa_cons (pv 0) (pa_nil)))) (blkOk_by (own := [("first", 1), ("last", 2)]) (N := ["bits", "first", "last"]) (sc := defScope s_count_of) (by decide +kernel)) (fun _ _ _ _ _ => pg_tup rfl (pgs_cons (pg_name (i := 1) sc.nd rfl (by first | exact Or.inl rfl | exact Or.inr rfl)) (pgs_cons (pg_name (i := 2) sc.nd rfl (by first | exact Or.inl rfl | exact Or.inr rfl)) (pgs_nil)))) (fun _ _ _ _ _ => pts_nil) (fun _ _ _ _ _ => pe_op u_add (pe_op u_sub (pv 2) (pv 1)) (pe_int))) (pa_nil))))

abbrev s_least_sack : Stmt := top 20
theorem sc_least_sack : FnScope ["bits", "found", "other"] ["bits"] (defScope s_least_sack) := ⟨rfl, rfl, rfl, by decide +kernel, rfl, by decide +kernel, by decide +kernel⟩
theorem ok_least_sack {f : Addr} {fd : FuncData} {dvs : List V} (G : Good c) (F : FunD c.K "least_sack" "least_sack" (defArgs s_least_sack) (defBody s_least_sack) (defScope s_least_sack) dvs [] f fd) (k_RowSack : Mak P w c.K mg base 1 "RowSack" c.row (sp_Sack___init__ c c.row) []) (k_RunsSack : Mak P w c.K mg base 1 "RunsSack" c.runs (sp_Sack___init__ c c.runs) []) (k_BitsSack : Mak P w c.K mg base 1 "BitsSack" c.bits (sp_Sack___init__ c c.bits) []) (m_weight : ∀ C sp, fam_weight c C sp → Met P w c.K mg base 3 C "weight" sp []) : FnOk P w c.K mg base (L2N.CX P w) 4 f fd ["bits"] (sp_least_sack c) := by
  refine F.ok sc_least_sack (len_least_sack c) fun cdv A outer s H vs Q E hr h => ⟨t_least_sack c E, ?_, pure_least_sack G vs H Q E h⟩
  have sc := sc_least_sack
  exact pss_cons (ps_if (pt_cmpR (u_eq hr) (pv 0) (pe_int) (nomark _)) (pss_one (ps_ret (pe_non))) (pss_nil))
      (pss_cons (ps_set (i := 1) sc.nd rfl (by first | exact Or.inl rfl | exact Or.inr rfl) (pe_mk k_RowSack hr (by decide) rfl passUp (pa_cons (pv 0) (pa_nil))))
      (pss_cons (ps_for ownUp rfl (pi_seq (pe_tup (pa_cons (pe_mk k_RunsSack hr (by decide) rfl passUp (pa_cons (pv 0) (pa_nil))) (pa_cons (pe_mk k_BitsSack hr (by decide) rfl passUp (pa_cons (pv 0) (pa_nil))) (pa_nil))))) (pg_name (i := 2) sc.nd rfl (by first | exact Or.inl rfl | exact Or.inr rfl)) (pss_one (ps_if (pt_cmpR u_lt (pe_m0 m_weight hr (by decide) passUp (pv 2)) (pe_m0 m_weight hr (by decide) passUp (pv 1)) (nomark _)) (pss_one (ps_set (i := 1) sc.nd rfl (by first | exact Or.inl rfl | exact Or.inr rfl) (pv 2))) (pss_nil))))
      (pss_one (ps_ret (pv 1)))))

abbrev s_sack_of : Stmt := top 21
theorem sc_sack_of : FnScope ["lows", "bits", "low"] ["lows"] (defScope s_sack_of) := ⟨rfl, rfl, rfl, by decide +kernel, rfl, by decide +kernel, by decide +kernel⟩
theorem ok_sack_of {f : Addr} {fd : FuncData} {dvs : List V} (G : Good c) (F : FunD c.K "sack_of" "sack_of" (defArgs s_sack_of) (defBody s_sack_of) (defScope s_sack_of) dvs [] f fd) (f_int : mg "int" = none) (f_isinstance : mg "isinstance" = none) (f_bool : mg "bool" = none) (g_SIZE : ∃ t, mg "SIZE" = some (.int 256 t)) (x_NoNumber : ExcF c.K mg "NoNumber" c.eNoNumber) (c_least_sack : Cal P w c.K mg base 4 "least_sack" (sp_least_sack c) []) : FnOk P w c.K mg base (L2N.CX P w) 5 f fd ["lows"] (sp_sack_of c) := by
  refine F.ok sc_sack_of (len_sack_of c) fun cdv A outer s H vs Q E hr h => ⟨t_sack_of c E, ?_, pure_sack_of G vs H Q E h⟩
  have sc := sc_sack_of
  exact pss_cons (ps_set (i := 1) sc.nd rfl (by first | exact Or.inl rfl | exact Or.inr rfl) (pe_int))
      (pss_cons (ps_for ownUp rfl (pi_seq (pv 0)) (pg_name (i := 2) sc.nd rfl (by first | exact Or.inl rfl | exact Or.inr rfl)) (pss_cons (ps_if (PW.pt (pw_or (pt_not (pt_val (pe_callB u_isi (by rfl) f_isinstance (by decide +kernel) (pa_cons (pv 2) (pa_cons (pe_bltn (v := .ty "int") (by rfl) f_int (by decide +kernel) rfl) (pa_nil)))))) (pw_or (pt_val (pe_callB u_isi (by rfl) f_isinstance (by decide +kernel) (pa_cons (pv 2) (pa_cons (pe_bltn (v := .ty "bool") (by rfl) f_bool (by decide +kernel) rfl) (pa_nil))))) (pw_or1 (pt_not (pt_chain u_le u_lt (pe_int) (pv 2) (C8.pe_gc (v := .int 256) rfl (gl_int g_SIZE)))))))) (pss_one (L2N.ps_raise rfl (L2N.takes_of rfl rfl rfl rfl) (pmk_x x_NoNumber (by exact rfl)))) (pss_nil))
      (pss_one (ps_aug (i := 1) sc.nd rfl (by first | exact Or.inl rfl | exact Or.inr rfl) (pe_op u_shl (pe_int) (pv 2)) p_bor))))
      (pss_cons (ps_if (pt_cmpR (u_eq hr) (pv 1) (pe_int) (nomark _)) (pss_one (L2N.ps_raise rfl (L2N.takes_of rfl rfl rfl rfl) (pmk_x x_NoNumber (by exact rfl)))) (pss_nil))
      (pss_one (ps_ret (pe_c c_least_sack hr (by decide) rfl passUp (pa_cons (pv 1) (pa_nil)))))))

abbrev s__law_cell_at : Stmt := top 23
theorem sc__law_cell_at : FnScope ["_law_script", "_law_k", "_law_cell", "_law_one", "_law_two"] ["_law_script", "_law_k"] (defScope s__law_cell_at) := ⟨rfl, rfl, rfl, by decide +kernel, rfl, by decide +kernel, by decide +kernel⟩
theorem ok__law_cell_at {f : Addr} {fd : FuncData} {dvs : List V} (G : Good c) (F : FunD c.K "_law_cell_at" "_law_cell_at" (defArgs s__law_cell_at) (defBody s__law_cell_at) (defScope s__law_cell_at) dvs [] f fd) (f_len : mg "len" = none) : FnOk P w c.K mg base (L2N.CX P w) 1 f fd ["_law_script", "_law_k"] (sp__law_cell_at c) := by
  refine F.ok sc__law_cell_at (len__law_cell_at c) fun cdv A outer s H vs Q E hr h => ⟨t__law_cell_at c E, ?_, pure__law_cell_at G vs H Q E h⟩
  have sc := sc__law_cell_at
  exact pss_cons (ps_set (i := 2) sc.nd rfl (by first | exact Or.inl rfl | exact Or.inr rfl) (pe_int))
      (pss_cons (ps_if (pt_cmpR u_gt (pe_callB u_len (by rfl) f_len PySem.boot_len (pa_cons (pv 0) (pa_nil))) (pe_int) (nomark _)) (pss_one (ps_set (i := 2) sc.nd rfl (by first | exact Or.inl rfl | exact Or.inr rfl) (pe_ix ix_seq (pv 0) (pe_op u_mod (pv 1) (pe_callB u_len (by rfl) f_len PySem.boot_len (pa_cons (pv 0) (pa_nil)))) (fun _ _ => rfl)))) (pss_nil))
      (pss_cons (ps_set (i := 3) sc.nd rfl (by first | exact Or.inl rfl | exact Or.inr rfl) (pe_op u_mod (pe_op u_add (pe_op u_add (pe_op u_add (pe_op u_mul (pv 2) (pe_int)) (pe_op u_mul (pe_op u_mul (pe_int) (pv 1)) (pv 1))) (pe_op u_mul (pe_int) (pv 1))) (pe_int)) (pe_int)))
      (pss_cons (ps_set (i := 4) sc.nd rfl (by first | exact Or.inl rfl | exact Or.inr rfl) (pe_op u_mod (pe_op u_mul (pe_op u_mod (pe_op u_mul (pv 3) (pv 3)) (pe_int)) (pe_int)) (pe_int)))
      (pss_one (ps_ret (pe_op u_add (pe_op u_mul (pe_op u_mod (pe_op u_mul (pv 4) (pv 4)) (pe_int)) (pe_int)) (pv 4)))))))

abbrev s__law_lows : Stmt := top 24
theorem sc__law_lows : FnScope ["_law_bits", "_law_found"] ["_law_bits"] (defScope s__law_lows) := ⟨rfl, rfl, rfl, by decide +kernel, rfl, by decide +kernel, by decide +kernel⟩
theorem ok__law_lows {f : Addr} {fd : FuncData} {dvs : List V} (G : Good c) (F : FunD c.K "_law_lows" "_law_lows" (defArgs s__law_lows) (defBody s__law_lows) (defScope s__law_lows) dvs [] f fd) : FnOk P w c.K mg base (L2N.CX P w) 1 f fd ["_law_bits"] (sp__law_lows c) := by
  refine F.ok sc__law_lows (len__law_lows c) fun cdv A outer s H vs Q E hr h => ⟨t__law_lows c E, ?_, pure__law_lows G vs H Q E h⟩
  have sc := sc__law_lows
  exact pss_cons (ps_set (i := 1) sc.nd rfl (by first | exact Or.inl rfl | exact Or.inr rfl) (pe_lst (pa_nil)))
      (pss_cons (ps_while ownUp (pt_cmpR u_gt (pv 0) (pe_int) (nomark _)) (pss_cons (ps_expr (pe_bm PySem.F.plainAttrs_list PySem.F.slot_list_append PySem.F.type_list_append mt_append (pv 1) (pa_cons (pe_op u_sub (pe_bits (pe_op u_ban (pv 0) (pe_un u_neg (pv 0)))) (pe_int)) (pa_nil))))
      (pss_one (ps_aug (i := 0) sc.nd rfl (by first | exact Or.inl rfl | exact Or.inr rfl) (pe_op u_sub (pv 0) (pe_int)) p_ban))))
      (pss_one (ps_ret (pv 1))))

abbrev s__law_runs : Stmt := top 25
theorem sc__law_runs : FnScope ["_law_lows_here", "_law_found", "_law_low"] ["_law_lows_here"] (defScope s__law_runs) := ⟨rfl, rfl, rfl, by decide +kernel, rfl, by decide +kernel, by decide +kernel⟩
theorem ok__law_runs {f : Addr} {fd : FuncData} {dvs : List V} (G : Good c) (F : FunD c.K "_law_runs" "_law_runs" (defArgs s__law_runs) (defBody s__law_runs) (defScope s__law_runs) dvs [] f fd) : FnOk P w c.K mg base (L2N.CX P w) 1 f fd ["_law_lows_here"] (sp__law_runs c) := by
  refine F.ok sc__law_runs (len__law_runs c) fun cdv A outer s H vs Q E hr h => ⟨t__law_runs c E, ?_, pure__law_runs G vs H Q E h⟩
  have sc := sc__law_runs
  exact pss_cons (ps_set (i := 1) sc.nd rfl (by first | exact Or.inl rfl | exact Or.inr rfl) (pe_lst (pa_nil)))
      (pss_cons (ps_for ownUp rfl (pi_seq (pv 0)) (pg_name (i := 2) sc.nd rfl (by first | exact Or.inl rfl | exact Or.inr rfl)) (pss_one (ps_if (PW.pt (pw_and (pt_cmpR (u_ne hr) (pv 1) (pe_lst (pa_nil)) (nomark _)) (pw_and1 (pt_cmpR (u_eq hr) (pe_op u_add (pe_ix ix_seq (pe_ix ix_seq (pv 1) (pe_un u_neg (pe_int)) (fun _ _ => rfl)) (pe_int) (fun _ _ => rfl)) (pe_int)) (pv 2) (nomark _))))) (pss_one (ps_asg (pe_tup (pa_cons (pe_ix ix_seq (pe_ix ix_seq (pv 1) (pe_un u_neg (pe_int)) (fun _ _ => rfl)) (pe_int) (fun _ _ => rfl)) (pa_cons (pv 2) (pa_nil)))) (pg_sub (pv 1) (pe_un u_neg (pe_int)) set_list))) (pss_one (ps_expr (pe_bm PySem.F.plainAttrs_list PySem.F.slot_list_append PySem.F.type_list_append mt_append (pv 1) (pa_cons (pe_tup (pa_cons (pv 2) (pa_cons (pv 2) (pa_nil)))) (pa_nil))))))))
      (pss_one (ps_ret (pv 1))))

abbrev s__law_form : Stmt := top 26
theorem sc__law_form : FnScope ["_law_bits", "_law_lows_here", "_law_runs_here", "_law_k"] ["_law_bits"] (defScope s__law_form) := ⟨rfl, rfl, rfl, by decide +kernel, rfl, by decide +kernel, by decide +kernel⟩
theorem ok__law_form {f : Addr} {fd : FuncData} {dvs : List V} (G : Good c) (F : FunD c.K "_law_form" "_law_form" (defArgs s__law_form) (defBody s__law_form) (defScope s__law_form) dvs [] f fd) (c__law_lows : Cal P w c.K mg base 1 "_law_lows" (sp__law_lows c) []) (c__law_runs : Cal P w c.K mg base 1 "_law_runs" (sp__law_runs c) []) (f_len : mg "len" = none) (f_tuple : mg "tuple" = none) (f_range : mg "range" = none) : FnOk P w c.K mg base (L2N.CX P w) 2 f fd ["_law_bits"] (sp__law_form c) := by
  refine F.ok sc__law_form (len__law_form c) fun cdv A outer s H vs Q E hr h => ⟨t__law_form c E, ?_, pure__law_form G vs H Q E h⟩
  have sc := sc__law_form
  exact pss_cons (ps_set (i := 1) sc.nd rfl (by first | exact Or.inl rfl | exact Or.inr rfl) (pe_c c__law_lows hr (by decide) rfl passUp (pa_cons (pv 0) (pa_nil))))
      (pss_cons (ps_set (i := 2) sc.nd rfl (by first | exact Or.inl rfl | exact Or.inr rfl) (pe_c c__law_runs hr (by decide) rfl passUp (pa_cons (pv 1) (pa_nil))))
      (pss_cons (ps_if (PW.pt (pw_and (pt_cmpR u_le (pe_callB u_len (by rfl) f_len PySem.boot_len (pa_cons (pv 1) (pa_nil))) (pe_op u_mul (pe_int) (pe_callB u_len (by rfl) f_len PySem.boot_len (pa_cons (pv 2) (pa_nil)))) (nomark _)) (pw_and1 (pt_cmpR u_le (pe_callB u_len (by rfl) f_len PySem.boot_len (pa_cons (pv 1) (pa_nil))) (pe_int) (nomark _))))) (pss_one (ps_ret (pe_tup (pa_cons (pe_tup (pa_cons (pe_str) (pa_cons (pe_callTy u_tuple (by rfl) f_tuple (by decide +kernel) (pa_cons (pv 1) (pa_nil))) (pa_nil)))) (pa_cons (pe_callB u_len (by rfl) f_len PySem.boot_len (pa_cons (pv 1) (pa_nil))) (pa_nil)))))) (pss_nil))
      (pss_cons (ps_if (pt_cmpR u_le (pe_op u_mul (pe_int) (pe_callB u_len (by rfl) f_len PySem.boot_len (pa_cons (pv 2) (pa_nil)))) (pe_int) (nomark _)) (pss_one (ps_ret (pe_tup (pa_cons (pe_tup (pa_cons (pe_str) (pa_cons (pe_callTy u_tuple (by rfl) f_tuple (by decide +kernel) (pa_cons (pv 2) (pa_nil))) (pa_nil)))) (pa_cons (pe_op u_mul (pe_int) (pe_callB u_len (by rfl) f_len PySem.boot_len (pa_cons (pv 2) (pa_nil)))) (pa_nil)))))) (pss_nil))
      (pss_one (ps_ret (pe_tup (pa_cons (pe_tup (pa_cons (pe_str) (pa_cons (pe_callTy u_tuple (by rfl) f_tuple (by decide +kernel) (pa_cons (pe_lc (own := [("_law_k", 3)]) (g := gName 3) (tt := tYes) rfl sc.nd (pi_range1 rfl f_range (pa_cons (pe_int) (pa_nil))) (blkOk_by (own := [("_law_k", 3)]) (N := ["_law_bits", "_law_lows_here", "_law_runs_here", "_law_k"]) (sc := defScope s__law_form) (by decide +kernel)) (fun _ _ _ _ _ => pg_name (i := 3) sc.nd rfl (by first | exact Or.inl rfl | exact Or.inr rfl)) (fun _ _ _ _ _ => pts_nil) (fun _ _ _ _ _ => pe_op u_ban (pe_op u_shr (pv 0) (pe_op u_mul (pe_int) (pv 3))) (pe_int))) (pa_nil))) (pa_nil)))) (pa_cons (pe_int) (pa_nil)))))))))

abbrev s__law_pattern : Stmt := top 27
theorem sc__law_pattern : FnScope ["_law_cell", "_law_way", "_law_rest", "_law_found", "_law_size", "_law_far", "_law_k", "_law_first"] ["_law_cell"] (defScope s__law_pattern) := ⟨rfl, rfl, rfl, by decide +kernel, rfl, by decide +kernel, by decide +kernel⟩
theorem ok__law_pattern {f : Addr} {fd : FuncData} {dvs : List V} (G : Good c) (F : FunD c.K "_law_pattern" "_law_pattern" (defArgs s__law_pattern) (defBody s__law_pattern) (defScope s__law_pattern) dvs [] f fd) (f_range : mg "range" = none) : FnOk P w c.K mg base (L2N.CX P w) 1 f fd ["_law_cell"] (sp__law_pattern c) := by
  refine F.ok sc__law_pattern (len__law_pattern c) fun cdv A outer s H vs Q E hr h => ⟨t__law_pattern c E, ?_, pure__law_pattern G vs H Q E h⟩
  have sc := sc__law_pattern
  exact pss_cons (ps_set (i := 1) sc.nd rfl (by first | exact Or.inl rfl | exact Or.inr rfl) (pe_op u_mod (pv 0) (pe_int)))
      (pss_cons (ps_set (i := 2) sc.nd rfl (by first | exact Or.inl rfl | exact Or.inr rfl) (pe_op u_fdv (pv 0) (pe_int)))
      (pss_cons (ps_set (i := 3) sc.nd rfl (by first | exact Or.inl rfl | exact Or.inr rfl) (pe_int))
      (pss_cons (ps_if (pt_cmpR (u_eq hr) (pv 1) (pe_int) (nomark _)) (pss_cons (ps_set (i := 4) sc.nd rfl (by first | exact Or.inl rfl | exact Or.inr rfl) (pe_op u_add (pe_int) (pe_op u_mod (pv 2) (pe_int))))
      (pss_cons (ps_set (i := 5) sc.nd rfl (by first | exact Or.inl rfl | exact Or.inr rfl) (pe_op u_add (pe_op u_add (pv 4) (pe_int)) (pe_op u_mod (pe_op u_fdv (pv 2) (pe_int)) (pe_int))))
      (pss_cons (ps_for ownUp rfl (pi_range1 rfl f_range (pa_cons (pe_op u_add (pe_int) (pe_op u_mod (pe_op u_fdv (pv 2) (pe_int)) (pe_int))) (pa_nil))) (pg_name (i := 6) sc.nd rfl (by first | exact Or.inl rfl | exact Or.inr rfl)) (pss_one (ps_if (pt_cmpR u_le (pe_op u_add (pe_op u_mul (pv 5) (pv 6)) (pv 4)) (pe_int) (nomark _)) (pss_one (ps_aug (i := 3) sc.nd rfl (by first | exact Or.inl rfl | exact Or.inr rfl) (pe_op u_shl (pe_op u_sub (pe_op u_shl (pe_int) (pv 4)) (pe_int)) (pe_op u_mul (pv 5) (pv 6))) p_bor)) (pss_nil))))
      (pss_one (ps_ret (pv 3)))))) (pss_nil))
      (pss_cons (ps_if (pt_cmpR (u_eq hr) (pv 1) (pe_int) (nomark _)) (pss_cons (ps_set (i := 5) sc.nd rfl (by first | exact Or.inl rfl | exact Or.inr rfl) (pe_op u_add (pe_int) (pe_op u_mod (pv 2) (pe_int))))
      (pss_cons (ps_for ownUp rfl (pi_range1 rfl f_range (pa_cons (pe_op u_add (pe_op u_fdv (pe_op u_mod (pe_op u_fdv (pv 2) (pe_int)) (pe_int)) (pv 5)) (pe_int)) (pa_nil))) (pg_name (i := 6) sc.nd rfl (by first | exact Or.inl rfl | exact Or.inr rfl)) (pss_one (ps_aug (i := 3) sc.nd rfl (by first | exact Or.inl rfl | exact Or.inr rfl) (pe_op u_shl (pe_int) (pe_op u_mul (pv 5) (pv 6))) p_bor)))
      (pss_one (ps_ret (pv 3))))) (pss_nil))
      (pss_cons (ps_if (pt_cmpR (u_eq hr) (pv 1) (pe_int) (nomark _)) (pss_one (ps_ret (pe_op u_mod (pe_op u_mul (pe_op u_mul (pe_op u_mul (pv 2) (pe_op u_add (pv 2) (pe_int))) (pe_op u_add (pv 2) (pe_int))) (pe_op u_add (pv 2) (pe_int))) (pe_op u_shl (pe_int) (pe_int))))) (pss_nil))
      (pss_cons (ps_if (pt_cmpR (u_eq hr) (pv 1) (pe_int) (nomark _)) (pss_cons (ps_set (i := 7) sc.nd rfl (by first | exact Or.inl rfl | exact Or.inr rfl) (pe_op u_mod (pv 2) (pe_int)))
      (pss_one (ps_ret (pe_op u_sub (pe_op u_shl (pe_int) (pe_op u_add (pe_op u_add (pe_int) (pv 7)) (pe_op u_mod (pe_op u_fdv (pv 2) (pe_int)) (pe_op u_sub (pe_int) (pv 7))))) (pe_op u_shl (pe_int) (pv 7)))))) (pss_nil))
      (pss_cons (ps_for ownUp rfl (pi_range1 rfl f_range (pa_cons (pe_op u_add (pe_int) (pe_op u_mod (pv 2) (pe_int))) (pa_nil))) (pg_name (i := 6) sc.nd rfl (by first | exact Or.inl rfl | exact Or.inr rfl)) (pss_one (ps_aug (i := 3) sc.nd rfl (by first | exact Or.inl rfl | exact Or.inr rfl) (pe_op u_shl (pe_int) (pe_op u_mod (pe_op u_mul (pe_op u_fdv (pv 2) (pe_op u_add (pe_int) (pv 6))) (pe_op u_add (pv 6) (pe_int))) (pe_int))) p_bor)))
      (pss_one (ps_ret (pe_ix ix_seq (pe_lst (pa_cons (pv 3) (pa_cons (pe_op u_sub (pe_op u_sub (pe_op u_shl (pe_int) (pe_int)) (pe_int)) (pv 3)) (pa_nil)))) (pe_op u_sub (pv 1) (pe_int)) (fun _ _ => rfl)))))))))))

abbrev s__law_marks : Stmt := top 28
theorem sc__law_marks : FnScope ["_law_e"] ["_law_e"] (defScope s__law_marks) := ⟨rfl, rfl, rfl, by decide +kernel, rfl, by decide +kernel, by decide +kernel⟩
theorem ok__law_marks {f : Addr} {fd : FuncData} {dvs : List V} (G : Good c) (GE : GoodE c) (F : FunD c.K "_law_marks" "_law_marks" (defArgs s__law_marks) (defBody s__law_marks) (defScope s__law_marks) dvs [] f fd) (g_NoNumber : mg "NoNumber" = some (.ref c.eNoNumber)) (f_isinstance : mg "isinstance" = none) (g_NoStretch : mg "NoStretch" = some (.ref c.eNoStretch)) (g_NoRank : mg "NoRank" = some (.ref c.eNoRank)) (g_NoText : mg "NoText" = some (.ref c.eNoText)) : FnP P w c.K mg base 1 f fd ["_law_e"] (sp__law_marks c) := by
  refine FnP.of F sc__law_marks (len__law_marks c) fun cdv A outer s H vs Q E p cls dd hot hr hz h => ⟨t__law_marks c cls dd p.1, ?_, pure__law_marks G GE cls dd p.1 vs H Q E h⟩
  have sc := sc__law_marks
  exact pss_one (ps_ret (pe_lst (pa_cons (pe_callB (u_isx (p := p) List.mem_cons_self hz) (by rfl) f_isinstance (by decide +kernel) (pa_cons (pv 0) (pa_cons (C8.pe_gc (v := .ref c.eNoNumber) rfl ⟨_, g_NoNumber, rfl⟩) (pa_nil)))) (pa_cons (pe_callB (u_isx (p := p) List.mem_cons_self hz) (by rfl) f_isinstance (by decide +kernel) (pa_cons (pv 0) (pa_cons (C8.pe_gc (v := .ref c.eNoStretch) rfl ⟨_, g_NoStretch, rfl⟩) (pa_nil)))) (pa_cons (pe_callB (u_isx (p := p) List.mem_cons_self hz) (by rfl) f_isinstance (by decide +kernel) (pa_cons (pv 0) (pa_cons (C8.pe_gc (v := .ref c.eNoRank) rfl ⟨_, g_NoRank, rfl⟩) (pa_nil)))) (pa_cons (pe_callB (u_isx (p := p) List.mem_cons_self hz) (by rfl) f_isinstance (by decide +kernel) (pa_cons (pv 0) (pa_cons (C8.pe_gc (v := .ref c.eNoText) rfl ⟨_, g_NoText, rfl⟩) (pa_nil)))) (pa_nil)))))))

abbrev s__law_told : Stmt := top 29
theorem sc__law_told : FnScope ["_law_lows_here", "_law_told_here", "_law_e"] ["_law_lows_here"] (defScope s__law_told) := ⟨rfl, rfl, rfl, by decide +kernel, rfl, by decide +kernel, by decide +kernel⟩
theorem ok__law_told {f : Addr} {fd : FuncData} {dvs : List V} (G : Good c) (GE : GoodE c) (F : FunD c.K "_law_told" "_law_told" (defArgs s__law_told) (defBody s__law_told) (defScope s__law_told) dvs [] f fd) (g_SackError : mg "SackError" = some (.ref c.eSackError)) (c_sack_of : Cal P w c.K mg base 5 "sack_of" (sp_sack_of c) []) (c__law_marks : CalP P w c.K mg base 1 "_law_marks" (sp__law_marks c)) (f_ValueError : mg "ValueError" = none) (f_isinstance : mg "isinstance" = none) : FnOk P w c.K mg base (L2N.CX P w) 6 f fd ["_law_lows_here"] (sp__law_told c) := by
  refine F.ok sc__law_told (len__law_told c) fun cdv A outer s H vs Q E hr h => ⟨t__law_told c E, ?_, pure__law_told G GE vs H Q E h⟩
  have sc := sc__law_told
  exact pss_cons (ps_set (i := 1) sc.nd rfl (by first | exact Or.inl rfl | exact Or.inr rfl) (pe_non))
      (pss_cons (ps_tryT (i := 2) rfl rfl sc.nd rfl rfl ⟨rfl, by decide, .inl g_SackError⟩ (L2N.takes_of rfl rfl rfl rfl) (tb := fun W => tDrop (tCallW (sp_sack_of c) [] W (tCons (tVar 0) (tNil)))) (ts := fun a cls d => tAsg (tOp rAdd (tCallP (sp__law_marks c) cls d a (tCons (tVar 2) (tNil))) (tLst (tCons (tCB (rIsX c.K cls d a) (tCons (tVar 2) (tCons (tC (.ty "ValueError")) (tNil)))) (tNil)))) (gName 1)) (fun W pn xe tk po => pss_one (ps_expr (pe_cW c_sack_of hr (by decide) rfl (wo_of tk) (pa_cons (pv 0) (pa_nil))))) (fun a oe cls d pn hz hf => pss_one (ps_set (i := 1) sc.nd rfl (by first | exact Or.inl rfl | exact Or.inr rfl) (pe_op u_add (pe_cP c__law_marks (L2H.roomH_mark hr _) (by decide) rfl (p := (a, oe)) List.mem_cons_self (hot_of hz hf) (told_of hz hf) (pa_cons (pv 2) (pa_nil))) (pe_lst (pa_cons (pe_callB (u_isx (p := (a, oe)) List.mem_cons_self (told_of hz hf)) (by rfl) f_isinstance (by decide +kernel) (pa_cons (pv 2) (pa_cons (pe_bltn (v := .ty "ValueError") (by rfl) f_ValueError (by decide +kernel) rfl) (pa_nil)))) (pa_nil)))))))
      (pss_one (ps_ret (pv 1))))

abbrev s_law : Stmt := top 30
theorem sc_law : FnScope ["_law_script", "_law_lows_here", "_law_cell", "_law_odd", "_law_at", "_law_refused", "_law_bits", "_law_low"] ["_law_script"] (defScope s_law) := ⟨rfl, rfl, rfl, by decide +kernel, rfl, by decide +kernel, by decide +kernel⟩
theorem ok_law {f : Addr} {fd : FuncData} {dvs : List V} (G : Good c) (F : FunD c.K "law" "law" (defArgs s_law) (defBody s_law) (defScope s_law) dvs [] f fd) (c__law_lows : Cal P w c.K mg base 1 "_law_lows" (sp__law_lows c) []) (c__law_pattern : Cal P w c.K mg base 1 "_law_pattern" (sp__law_pattern c) []) (c__law_cell_at : Cal P w c.K mg base 1 "_law_cell_at" (sp__law_cell_at c) []) (f_len : mg "len" = none) (c__law_told : Cal P w c.K mg base 6 "_law_told" (sp__law_told c) []) (c_sack_of : Cal P w c.K mg base 5 "sack_of" (sp_sack_of c) []) (m_form : ∀ C sp, fam_form c C sp → Met P w c.K mg base 3 C "form" sp []) (c__law_form : Cal P w c.K mg base 2 "_law_form" (sp__law_form c) []) : FnOk P w c.K mg base (L2N.CX P w) 7 f fd ["_law_script"] (sp_law c) := by
  refine F.ok sc_law (len_law c) fun cdv A outer s H vs Q E hr h => ⟨t_law c E, ?_, pure_law G vs H Q E h⟩
  have sc := sc_law
  exact pss_cons (ps_set (i := 1) sc.nd rfl (by first | exact Or.inl rfl | exact Or.inr rfl) (pe_orT (pe_slice u_sl (pe_c c__law_lows hr (by decide) rfl passUp (pa_cons (pe_c c__law_pattern hr (by decide) rfl passUp (pa_cons (pe_c c__law_cell_at hr (by decide) rfl passUp (pa_cons (pv 0) (pa_cons (pe_int) (pa_nil)))) (pa_nil))) (pa_nil))) (po_none) (po_some (pe_int))) (pe_one (pe_lst (pa_cons (pe_int) (pa_nil))))))
      (pss_cons (ps_set (i := 2) sc.nd rfl (by first | exact Or.inl rfl | exact Or.inr rfl) (pe_c c__law_cell_at hr (by decide) rfl passUp (pa_cons (pv 0) (pa_cons (pe_int) (pa_nil)))))
      (pss_cons (ps_set (i := 3) sc.nd rfl (by first | exact Or.inl rfl | exact Or.inr rfl) (pe_ix ix_seq (pe_lst (pa_cons (pe_un u_neg (pe_int)) (pa_cons (pe_int) (pa_cons (pe_bl) (pa_cons (pe_bl) (pa_cons (pe_non) (pa_cons (pe_str) (pa_cons (pe_op u_pow (pe_int) (pe_int)) (pa_cons (pe_un u_neg (pe_op u_pow (pe_int) (pe_int))) (pa_cons (pe_tup (pa_cons (pe_int) (pa_nil))) (pa_cons (pe_lst (pa_cons (pe_int) (pa_nil))) (pa_cons (pe_int) (pa_cons (pe_str) (pa_nil)))))))))))))) (pe_op u_mod (pv 2) (pe_int)) (fun _ _ => rfl)))
      (pss_cons (ps_set (i := 4) sc.nd rfl (by first | exact Or.inl rfl | exact Or.inr rfl) (pe_op u_mod (pe_op u_fdv (pv 2) (pe_int)) (pe_op u_add (pe_callB u_len (by rfl) f_len PySem.boot_len (pa_cons (pv 1) (pa_nil))) (pe_int))))
      (pss_cons (ps_set (i := 5) sc.nd rfl (by first | exact Or.inl rfl | exact Or.inr rfl) (pe_lst (pa_cons (pe_bl) (pa_cons (pe_bl) (pa_cons (pe_bl) (pa_cons (pe_bl) (pa_cons (pe_bl) (pa_nil))))))))
      (pss_cons (ps_if (PW.pt (pw_or (pt_cmpR (u_ne hr) (pe_c c__law_told hr (by decide) rfl passUp (pa_cons (pe_op u_add (pe_op u_add (pe_slice u_sl (pv 1) (po_none) (po_some (pv 4))) (pe_lst (pa_cons (pv 3) (pa_nil)))) (pe_slice u_sl (pv 1) (po_some (pv 4)) (po_none))) (pa_nil))) (pv 5) (nomark _)) (pw_or (pt_cmpR (u_ne hr) (pe_c c__law_told hr (by decide) rfl passUp (pa_cons (pe_lst (pa_nil)) (pa_nil))) (pv 5) (nomark _)) (pw_or1 (pt_cmpR (u_ne hr) (pe_c c__law_told hr (by decide) rfl passUp (pa_cons (pe_lst (pa_cons (pv 3) (pa_nil))) (pa_nil))) (pv 5) (nomark _)))))) (pss_one (ps_ret (pe_bl))) (pss_nil))
      (pss_cons (ps_set (i := 6) sc.nd rfl (by first | exact Or.inl rfl | exact Or.inr rfl) (pe_int))
      (pss_cons (ps_for ownUp rfl (pi_seq (pv 1)) (pg_name (i := 7) sc.nd rfl (by first | exact Or.inl rfl | exact Or.inr rfl)) (pss_one (ps_aug (i := 6) sc.nd rfl (by first | exact Or.inl rfl | exact Or.inr rfl) (pe_op u_shl (pe_int) (pv 7)) p_bor)))
      (pss_one (ps_ret (pe_and (pe_cmpR u_is (pe_c c__law_told hr (by decide) rfl passUp (pa_cons (pv 1) (pa_nil))) (pe_non) (nomark _)) (pe_one (pe_cmpR (u_eq hr) (pe_m0 m_form hr (by decide) passUp (pe_c c_sack_of hr (by decide) rfl passUp (pa_cons (pv 1) (pa_nil)))) (pe_ix ix_seq (pe_c c__law_form hr (by decide) rfl passUp (pa_cons (pv 6) (pa_nil))) (pe_int) (fun _ _ => rfl)) (nomark _)))))))))))))

end

/-! ### the head's facts, with one more test of one's own -/
def obsXG (n : Nat) (fa : List He.Fa) (fn : List He.DefD) (ex : PySem.W.Frag → Bool) (g : Addr → Option Obj) : He.AlD × Bool := (He.obsD fa fn (He.frG g (He.asD g n)), ex (He.frG g (He.asD g n)))
def hookXX (n : Nat) (fa : List He.Fa) (fn : List He.DefD) (ex : PySem.W.Frag → Bool) : PySem.W.Hook where
  α := He.AlD × Bool
  obs := fun s => obsXG n fa fn ex s.heap.get?
  val := fun _ => (He.valD fn, true)
  says := fun _ h => ∃ K : PySem.W.Frag, K.In h ∧ He.SaysD fa fn K ∧ ex K = true
  of := fun _ _ e => ⟨_, He.frG_in, congrArg (fun z : He.AlD × Bool => z.1) e, congrArg (fun z : He.AlD × Bool => z.2) e⟩
  keeps := fun _ _ _ ⟨K, hK, c⟩ k => ⟨K, PySem.W.Frag.In.keeps hK k, c⟩
theorem obsXG_eq {n : Nat} {fa : List He.Fa} {fn : List He.DefD} {ex : PySem.W.Frag → Bool} {g : Addr → Option Obj} {s : Shared} (h : ∀ a, g a = s.heap.get? a) : obsXG n fa fn ex g = (hookXX n fa fn ex).obs s := by
  have e : g = s.heap.get? := funext h
  rw [e] <;> rfl
/-! ### a promise that nothing leaves -/
theorem fn_cx0 {P : Program} {w : World} {K : PySem.W.Frag} {mg : Str → Option Value} {base : Heap} {k : Nat} {f : Addr} {fd : FuncData} {ps : List Str} {sp : Sp} (F : FnOk P w K mg base (L2N.CX P w) k f fd ps sp) :
    FnOk P w K mg base CX0 k f fd ps (fun vs H Q _ => sp vs H Q E0) := by
  refine ⟨fun vs H Q E q => F.len vs H Q _ q, fun A outer s H args us vs Q E hr he hb hv hs => codeAny_mono (F.run A outer s H args us vs Q E0 hr he hb hv hs) fun r s' hq => ?_⟩
  cases r with
  | error e =>
    obtain ⟨_, _, _, _, _, _, _, _, _, _, _, _, z⟩ := (show L2N.CX P w outer H s E0 e s' from hq)
    exact z.elim
  | ok fl => cases fl <;> exact hq
section
variable {P : Program} {w : World} {K : PySem.W.Frag} {mg : Str → Option Value} {base : Heap} {k : Nat} {sp : Sp}
theorem exc_of {x : Str} {h : Heap} (X : K.In h) (G : h.Ns mainGlobals mg) (c : (He.Fa.exc x).ok K = true) (g : (He.Fa.glo x).ok K = true) : ExcF K mg x (He.ga K x) := by
  obtain ⟨a, b, d, e⟩ := He.exc_ok c
  exact ⟨a, He.glo_ok X G g, b, d, e⟩
theorem fact_of {fa : List He.Fa} {fn : List He.DefD} (c : He.SaysD fa fn K) {f : He.Fa} (h : f ∈ fa) : f.ok K = true := by
  have c1 := (He.ba (show ((fa.all fun f => f.ok K) && fn.all fun d => d.ok K) = true from congrArg (fun z : He.AlD => z.1) c)).1
  exact List.all_eq_true.mp c1 f h
end

def fnL : List He.DefD := [
  ⟨("RowSack", some "__init__"), "__init__", "Sack.__init__", defArgs s_Sack___init__, defBody s_Sack___init__, defScope s_Sack___init__, [], []⟩,
  ⟨("RunsSack", some "__init__"), "__init__", "Sack.__init__", defArgs s_Sack___init__, defBody s_Sack___init__, defScope s_Sack___init__, [], []⟩,
  ⟨("BitsSack", some "__init__"), "__init__", "Sack.__init__", defArgs s_Sack___init__, defBody s_Sack___init__, defScope s_Sack___init__, [], []⟩,
  ⟨("RowSack", some "form"), "form", "Sack.form", defArgs s_Sack_form, defBody s_Sack_form, defScope s_Sack_form, [], []⟩,
  ⟨("RunsSack", some "form"), "form", "Sack.form", defArgs s_Sack_form, defBody s_Sack_form, defScope s_Sack_form, [], []⟩,
  ⟨("BitsSack", some "form"), "form", "Sack.form", defArgs s_Sack_form, defBody s_Sack_form, defScope s_Sack_form, [], []⟩,
  ⟨("RowSack", some "lows"), "lows", "Sack.lows", defArgs s_Sack_lows, defBody s_Sack_lows, defScope s_Sack_lows, [], []⟩,
  ⟨("RunsSack", some "lows"), "lows", "Sack.lows", defArgs s_Sack_lows, defBody s_Sack_lows, defScope s_Sack_lows, [], []⟩,
  ⟨("BitsSack", some "lows"), "lows", "Sack.lows", defArgs s_Sack_lows, defBody s_Sack_lows, defScope s_Sack_lows, [], []⟩,
  ⟨("RowSack", some "kind"), "kind", "RowSack.kind", defArgs s_RowSack_kind, defBody s_RowSack_kind, defScope s_RowSack_kind, [], []⟩,
  ⟨("RowSack", some "held"), "held", "RowSack.held", defArgs s_RowSack_held, defBody s_RowSack_held, defScope s_RowSack_held, [], []⟩,
  ⟨("RowSack", some "weight"), "weight", "RowSack.weight", defArgs s_RowSack_weight, defBody s_RowSack_weight, defScope s_RowSack_weight, [], []⟩,
  ⟨("RunsSack", some "kind"), "kind", "RunsSack.kind", defArgs s_RunsSack_kind, defBody s_RunsSack_kind, defScope s_RunsSack_kind, [], []⟩,
  ⟨("RunsSack", some "held"), "held", "RunsSack.held", defArgs s_RunsSack_held, defBody s_RunsSack_held, defScope s_RunsSack_held, [], []⟩,
  ⟨("RunsSack", some "weight"), "weight", "RunsSack.weight", defArgs s_RunsSack_weight, defBody s_RunsSack_weight, defScope s_RunsSack_weight, [], []⟩,
  ⟨("BitsSack", some "kind"), "kind", "BitsSack.kind", defArgs s_BitsSack_kind, defBody s_BitsSack_kind, defScope s_BitsSack_kind, [], []⟩,
  ⟨("BitsSack", some "held"), "held", "BitsSack.held", defArgs s_BitsSack_held, defBody s_BitsSack_held, defScope s_BitsSack_held, [], []⟩,
  ⟨("BitsSack", some "weight"), "weight", "BitsSack.weight", defArgs s_BitsSack_weight, defBody s_BitsSack_weight, defScope s_BitsSack_weight, [], []⟩,
  ⟨("lows_of", none), "lows_of", "lows_of", defArgs s_lows_of, defBody s_lows_of, defScope s_lows_of, [], []⟩,
  ⟨("runs_of", none), "runs_of", "runs_of", defArgs s_runs_of, defBody s_runs_of, defScope s_runs_of, [], []⟩,
  ⟨("count_of", none), "count_of", "count_of", defArgs s_count_of, defBody s_count_of, defScope s_count_of, [], []⟩,
  ⟨("least_sack", none), "least_sack", "least_sack", defArgs s_least_sack, defBody s_least_sack, defScope s_least_sack, [], []⟩,
  ⟨("sack_of", none), "sack_of", "sack_of", defArgs s_sack_of, defBody s_sack_of, defScope s_sack_of, [], []⟩,
  ⟨("_law_cell_at", none), "_law_cell_at", "_law_cell_at", defArgs s__law_cell_at, defBody s__law_cell_at, defScope s__law_cell_at, [], []⟩,
  ⟨("_law_lows", none), "_law_lows", "_law_lows", defArgs s__law_lows, defBody s__law_lows, defScope s__law_lows, [], []⟩,
  ⟨("_law_runs", none), "_law_runs", "_law_runs", defArgs s__law_runs, defBody s__law_runs, defScope s__law_runs, [], []⟩,
  ⟨("_law_form", none), "_law_form", "_law_form", defArgs s__law_form, defBody s__law_form, defScope s__law_form, [], []⟩,
  ⟨("_law_pattern", none), "_law_pattern", "_law_pattern", defArgs s__law_pattern, defBody s__law_pattern, defScope s__law_pattern, [], []⟩,
  ⟨("_law_marks", none), "_law_marks", "_law_marks", defArgs s__law_marks, defBody s__law_marks, defScope s__law_marks, [], []⟩,
  ⟨("_law_told", none), "_law_told", "_law_told", defArgs s__law_told, defBody s__law_told, defScope s__law_told, [], []⟩,
  ⟨("law", none), "law", "law", defArgs s_law, defBody s_law, defScope s_law, [], []⟩]
def faL0 : List He.Fa := [.cls "RowSack", .noat "RowSack" "bits", .cls "RunsSack", .noat "RunsSack" "bits", .cls "BitsSack", .noat "BitsSack" "bits", .glo "lows_of", .free "tuple", .glo "count_of", .glo "runs_of", .free "len", .int "WORDS" 4, .free "range", .int "WORD" 64, .int "FULL_WORD" 18446744073709551615, .int "BITS_WEIGHT" 32, .free "sum", .glo "RowSack", .mkr "RowSack", .glo "RunsSack", .mkr "RunsSack", .glo "BitsSack", .mkr "BitsSack", .free "int", .free "isinstance", .free "bool", .int "SIZE" 256, .glo "NoNumber", .exc "NoNumber", .glo "least_sack"]
def faL1 : List He.Fa := [.glo "_law_lows", .glo "_law_runs", .glo "NoStretch", .glo "NoRank", .glo "NoText", .glo "SackError", .glo "sack_of", .glo "_law_marks", .free "ValueError", .glo "_law_pattern", .glo "_law_cell_at", .glo "_law_told", .glo "_law_form", .glo "law", .meth "RowSack" "form", .meth "RunsSack" "form", .meth "BitsSack" "form", .meth "RowSack" "lows", .meth "RunsSack" "lows", .meth "BitsSack" "lows", .meth "RowSack" "kind", .meth "RowSack" "held", .meth "RowSack" "weight", .meth "RunsSack" "kind", .meth "RunsSack" "held", .meth "RunsSack" "weight", .meth "BitsSack" "kind", .meth "BitsSack" "held", .meth "BitsSack" "weight"]
def faL : List He.Fa := faL0 ++ faL1
def cs (K : PySem.W.Frag) : Cs := ⟨K, He.ga K "RowSack", He.ga K "RunsSack", He.ga K "BitsSack", He.ga K "NumberSet", He.ga K "Sack", He.ga K "SackError", He.ga K "NoNumber", He.ga K "NoStretch", He.ga K "NoRank", He.ga K "NoText"⟩
def kN : Kd → Str
  | .row => "RowSack"
  | .runs => "RunsSack"
  | .bits => "BitsSack"
def eN : Ek → Str
  | .number => "NoNumber"
  | .stretch => "NoStretch"
  | .rank => "NoRank"
  | .text => "NoText"
def exL : List Str := ["NoNumber", "NoStretch", "NoRank", "NoText"]
def exO (K : PySem.W.Frag) (x : Str) : Bool := He.eqO (PySem.W.findIn K (.ref (He.ga K x)) "__getattribute__") (some (some (.builtin "BaseException.__getattribute__"))) && He.eqO (PySem.W.findIn K (.ref (He.ga K x)) "__getattr__") (some none) && decide (PySem.W.subIn K (.ref (He.ga K x)) (.type "BaseException") = some true) && PySem.W.hasDictIn K (He.ga K x) &&
  He.eqO (PySem.W.findIn K (.ref (He.ga K x)) "__class__") (some (some (.builtin "object.__class__"))) && decide (PySem.W.mroIn K (He.ga K x) (.type "object") = some true) && decide (PySem.W.kitOne K (.ref (He.ga K x)) (.type "ValueError") = some true) && decide (PySem.W.exmOne K (.ref (He.ga K x)) (.ref (He.ga K "SackError")) = some true) &&
  exL.all fun y => decide (PySem.W.kitOne K (.ref (He.ga K x)) (.ref (He.ga K y)) = some (decide (x = y)))
def exB (K : PySem.W.Frag) : Bool := exL.all (exO K) && He.eqO (PySem.W.specialIn K (.builtin "object.__class__") "__get__") (some (some (.builtin "getset_descriptor.__get__"))) && decide (PySem.W.takesIn K (.builtin "object.__class__") = some true)
theorem exB_e {K : PySem.W.Frag} (e : exB K = true) : GoodE (cs K) := by
  unfold exB at e
  simp only [Bool.and_eq_true, List.all_eq_true, decide_eq_true_eq] at e
  obtain ⟨⟨h, h2⟩, h3⟩ := e
  have n : ∀ k, (cs K).ex k = He.ga K (eN k) := fun k => by cases k <;> rfl
  have m : ∀ k, eN k ∈ exL := fun k => by cases k <;> simp [eN, exL]
  have d : ∀ k k', decide (eN k = eN k') = decide (k = k') := fun k k' => by cases k <;> cases k' <;> decide +kernel
  have q : ∀ k, exO K (eN k) = true := fun k => h _ (m k)
  unfold exO at q
  simp only [Bool.and_eq_true, List.all_eq_true, decide_eq_true_eq] at q
  refine ⟨fun k => ?_, fun k k' => ?_, fun k => ?_, fun k => ?_⟩
  · rw [n]
    obtain ⟨⟨⟨⟨⟨⟨⟨⟨a1, a2⟩, a3⟩, a4⟩, a5⟩, a6⟩, _⟩, _⟩, _⟩ := q k
    exact ⟨He.eqO_ok a1, He.eqO_ok a2, a3, a4, He.eqO_ok a5, He.eqO_ok h2, h3, a6⟩
  · rw [n, n, ← d]
    exact (q k).2 _ (m k')
  · rw [n]
    exact (q k).1.1.2
  · rw [n]
    exact (q k).1.2
theorem facts {P : Program} {w : World} {K : PySem.W.Frag} {h : Heap} {mg : Str → Option Value} {f : Addr} (X : K.In h) (G0 : h.Ns mainGlobals mg) (hfa : mg ("law" : Str) = some (.ref f)) (S : He.SaysD faL fnL K) (ex : exB K = true) :
    ∃ fd : FuncData, (∀ (s : Shared) (v : Value), BindsTo s fd ⟨[v], []⟩ [("_law_script", v)]) ∧ ∀ base : Heap, K.In base → base.Ns mainGlobals mg → FnOk P w K mg base (L2N.CX P w) 7 f fd ["_law_script"] (sp_law (cs K)) := by
  have G1 : Good (cs K) := ⟨fun k => by (cases k; exact He.cls_ok (S.fact 0 (f := .cls "RowSack") rfl); exact He.cls_ok (S.fact 2 (f := .cls "RunsSack") rfl); exact He.cls_ok (S.fact 4 (f := .cls "BitsSack") rfl)), fun k => by (cases k; exact He.noat_ok (S.fact 1 (f := .noat "RowSack" "bits") rfl); exact He.noat_ok (S.fact 3 (f := .noat "RunsSack" "bits") rfl); exact He.noat_ok (S.fact 5 (f := .noat "BitsSack" "bits") rfl))⟩
  have G : Good (cs K) := G1
  have GE : GoodE (cs K) := exB_e ex
  obtain ⟨d0, F0⟩ := S.def_ 0 (d := fnL[0]) rfl
  obtain ⟨d1, F1⟩ := S.def_ 1 (d := fnL[1]) rfl
  obtain ⟨d2, F2⟩ := S.def_ 2 (d := fnL[2]) rfl
  obtain ⟨d3, F3⟩ := S.def_ 3 (d := fnL[3]) rfl
  obtain ⟨d4, F4⟩ := S.def_ 4 (d := fnL[4]) rfl
  obtain ⟨d5, F5⟩ := S.def_ 5 (d := fnL[5]) rfl
  obtain ⟨d6, F6⟩ := S.def_ 6 (d := fnL[6]) rfl
  obtain ⟨d7, F7⟩ := S.def_ 7 (d := fnL[7]) rfl
  obtain ⟨d8, F8⟩ := S.def_ 8 (d := fnL[8]) rfl
  obtain ⟨d9, F9⟩ := S.def_ 9 (d := fnL[9]) rfl
  obtain ⟨d10, F10⟩ := S.def_ 10 (d := fnL[10]) rfl
  obtain ⟨d11, F11⟩ := S.def_ 11 (d := fnL[11]) rfl
  obtain ⟨d12, F12⟩ := S.def_ 12 (d := fnL[12]) rfl
  obtain ⟨d13, F13⟩ := S.def_ 13 (d := fnL[13]) rfl
  obtain ⟨d14, F14⟩ := S.def_ 14 (d := fnL[14]) rfl
  obtain ⟨d15, F15⟩ := S.def_ 15 (d := fnL[15]) rfl
  obtain ⟨d16, F16⟩ := S.def_ 16 (d := fnL[16]) rfl
  obtain ⟨d17, F17⟩ := S.def_ 17 (d := fnL[17]) rfl
  obtain ⟨d18, F18⟩ := S.def_ 18 (d := fnL[18]) rfl
  obtain ⟨d19, F19⟩ := S.def_ 19 (d := fnL[19]) rfl
  obtain ⟨d20, F20⟩ := S.def_ 20 (d := fnL[20]) rfl
  obtain ⟨d21, F21⟩ := S.def_ 21 (d := fnL[21]) rfl
  obtain ⟨d22, F22⟩ := S.def_ 22 (d := fnL[22]) rfl
  obtain ⟨d23, F23⟩ := S.def_ 23 (d := fnL[23]) rfl
  obtain ⟨d24, F24⟩ := S.def_ 24 (d := fnL[24]) rfl
  obtain ⟨d25, F25⟩ := S.def_ 25 (d := fnL[25]) rfl
  obtain ⟨d26, F26⟩ := S.def_ 26 (d := fnL[26]) rfl
  obtain ⟨d27, F27⟩ := S.def_ 27 (d := fnL[27]) rfl
  obtain ⟨d28, F28⟩ := S.def_ 28 (d := fnL[28]) rfl
  obtain ⟨d29, F29⟩ := S.def_ 29 (d := fnL[29]) rfl
  obtain ⟨d30, F30⟩ := S.def_ 30 (d := fnL[30]) rfl
  have e := hfa.symm.trans (He.glo_ok X G0 (S.fact 43 (f := .glo "law") rfl))
  cases e
  refine ⟨d30, fun s v => FunD.bindsA (ps := ["_law_script"]) F30 (fun _ _ _ _ _ _ us hl => match us, hl with | [_], _ => rfl) s [v] rfl, fun base Xb Gb => ?_⟩
  have f_tuple := He.free_ok X G0 (S.fact 7 (f := .free "tuple") rfl)
  have f_len := He.free_ok X G0 (S.fact 10 (f := .free "len") rfl)
  have g_WORDS := He.int_ok X G0 (S.fact 11 (f := .int "WORDS" 4) rfl)
  have f_range := He.free_ok X G0 (S.fact 12 (f := .free "range") rfl)
  have g_WORD := He.int_ok X G0 (S.fact 13 (f := .int "WORD" 64) rfl)
  have g_FULL_WORD := He.int_ok X G0 (S.fact 14 (f := .int "FULL_WORD" 18446744073709551615) rfl)
  have g_BITS_WEIGHT := He.int_ok X G0 (S.fact 15 (f := .int "BITS_WEIGHT" 32) rfl)
  have f_sum := He.free_ok X G0 (S.fact 16 (f := .free "sum") rfl)
  have f_int := He.free_ok X G0 (S.fact 23 (f := .free "int") rfl)
  have f_isinstance := He.free_ok X G0 (S.fact 24 (f := .free "isinstance") rfl)
  have f_bool := He.free_ok X G0 (S.fact 25 (f := .free "bool") rfl)
  have g_SIZE := He.int_ok X G0 (S.fact 26 (f := .int "SIZE" 256) rfl)
  have x_NoNumber := exc_of X G0 (S.fact 28 (f := .exc "NoNumber") rfl) (S.fact 27 (f := .glo "NoNumber") rfl)
  have g_NoNumber := He.glo_ok X G0 (S.fact 27 (f := .glo "NoNumber") rfl)
  have g_NoStretch := He.glo_ok X G0 (S.fact 32 (f := .glo "NoStretch") rfl)
  have g_NoRank := He.glo_ok X G0 (S.fact 33 (f := .glo "NoRank") rfl)
  have g_NoText := He.glo_ok X G0 (S.fact 34 (f := .glo "NoText") rfl)
  have g_SackError := He.glo_ok X G0 (S.fact 35 (f := .glo "SackError") rfl)
  have f_ValueError := He.free_ok X G0 (S.fact 38 (f := .free "ValueError") rfl)
  have c_lows_of : Cal P w (cs K).K mg base 1 "lows_of" (sp_lows_of (cs K)) [] := ⟨_, d18, _, [], ok_lows_of (P := P) (w := w) (mg := mg) (base := base) (c := cs K) G F18 , He.glo_ok X G0 (S.fact 6 (f := .glo "lows_of") rfl), F18.kp, F18.bindsN (ps := ["bits"]) fun _ _ _ _ _ _ us hl => match us, hl with | [_], _ => rfl, .nil⟩
  have c_runs_of : Cal P w (cs K).K mg base 1 "runs_of" (sp_runs_of (cs K)) [] := ⟨_, d19, _, [], ok_runs_of (P := P) (w := w) (mg := mg) (base := base) (c := cs K) G F19 , He.glo_ok X G0 (S.fact 9 (f := .glo "runs_of") rfl), F19.kp, F19.bindsN (ps := ["bits"]) fun _ _ _ _ _ _ us hl => match us, hl with | [_], _ => rfl, .nil⟩
  have c__law_cell_at : Cal P w (cs K).K mg base 1 "_law_cell_at" (sp__law_cell_at (cs K)) [] := ⟨_, d23, _, [], ok__law_cell_at (P := P) (w := w) (mg := mg) (base := base) (c := cs K) G F23 f_len, He.glo_ok X G0 (S.fact 40 (f := .glo "_law_cell_at") rfl), F23.kp, F23.bindsN (ps := ["_law_script", "_law_k"]) fun _ _ _ _ _ _ us hl => match us, hl with | [_, _], _ => rfl, .nil⟩
  have c__law_lows : Cal P w (cs K).K mg base 1 "_law_lows" (sp__law_lows (cs K)) [] := ⟨_, d24, _, [], ok__law_lows (P := P) (w := w) (mg := mg) (base := base) (c := cs K) G F24 , He.glo_ok X G0 (S.fact 30 (f := .glo "_law_lows") rfl), F24.kp, F24.bindsN (ps := ["_law_bits"]) fun _ _ _ _ _ _ us hl => match us, hl with | [_], _ => rfl, .nil⟩
  have c__law_runs : Cal P w (cs K).K mg base 1 "_law_runs" (sp__law_runs (cs K)) [] := ⟨_, d25, _, [], ok__law_runs (P := P) (w := w) (mg := mg) (base := base) (c := cs K) G F25 , He.glo_ok X G0 (S.fact 31 (f := .glo "_law_runs") rfl), F25.kp, F25.bindsN (ps := ["_law_lows_here"]) fun _ _ _ _ _ _ us hl => match us, hl with | [_], _ => rfl, .nil⟩
  have c__law_pattern : Cal P w (cs K).K mg base 1 "_law_pattern" (sp__law_pattern (cs K)) [] := ⟨_, d27, _, [], ok__law_pattern (P := P) (w := w) (mg := mg) (base := base) (c := cs K) G F27 f_range, He.glo_ok X G0 (S.fact 39 (f := .glo "_law_pattern") rfl), F27.kp, F27.bindsN (ps := ["_law_cell"]) fun _ _ _ _ _ _ us hl => match us, hl with | [_], _ => rfl, .nil⟩
  have c__law_marks : CalP P w (cs K).K mg base 1 "_law_marks" (sp__law_marks (cs K)) := ⟨_, d28, _, ok__law_marks (P := P) (w := w) (mg := mg) (base := base) (c := cs K) G GE F28 g_NoNumber f_isinstance g_NoStretch g_NoRank g_NoText, He.glo_ok X G0 (S.fact 37 (f := .glo "_law_marks") rfl), F28.kp, F28.bindsN (ps := ["_law_e"]) fun _ _ _ _ _ _ us hl => match us, hl with | [_], _ => rfl⟩
  have c_count_of : Cal P w (cs K).K mg base 2 "count_of" (sp_count_of (cs K)) [] := ⟨_, d20, _, [], ok_count_of (P := P) (w := w) (mg := mg) (base := base) (c := cs K) G F20 c_runs_of f_sum, He.glo_ok X G0 (S.fact 8 (f := .glo "count_of") rfl), F20.kp, F20.bindsN (ps := ["bits"]) fun _ _ _ _ _ _ us hl => match us, hl with | [_], _ => rfl, .nil⟩
  have c__law_form : Cal P w (cs K).K mg base 2 "_law_form" (sp__law_form (cs K)) [] := ⟨_, d26, _, [], ok__law_form (P := P) (w := w) (mg := mg) (base := base) (c := cs K) G F26 c__law_lows c__law_runs f_len f_tuple f_range, He.glo_ok X G0 (S.fact 42 (f := .glo "_law_form") rfl), F26.kp, F26.bindsN (ps := ["_law_bits"]) fun _ _ _ _ _ _ us hl => match us, hl with | [_], _ => rfl, .nil⟩
  have m_kind : ∀ C sp, fam_kind (cs K) C sp → Met P w (cs K).K mg base 1 C "kind" sp [] := by
    rintro C sp ⟨k, rfl, rfl⟩
    cases k
    · exact ⟨_, d9, _, _, He.cls_ok (S.fact 0 (f := .cls "RowSack") rfl), He.meth_ok (S.fact 50 (f := .meth "RowSack" "kind") rfl), (ok_RowSack_kind (P := P) (w := w) (mg := mg) (base := base) (c := cs K) G F9 ).mono (by decide), F9.bindsN (ps := ["self"]) fun _ _ _ _ _ _ us hl => match us, hl with | [_], _ => rfl, .nil⟩
    · exact ⟨_, d12, _, _, He.cls_ok (S.fact 2 (f := .cls "RunsSack") rfl), He.meth_ok (S.fact 53 (f := .meth "RunsSack" "kind") rfl), (ok_RunsSack_kind (P := P) (w := w) (mg := mg) (base := base) (c := cs K) G F12 ).mono (by decide), F12.bindsN (ps := ["self"]) fun _ _ _ _ _ _ us hl => match us, hl with | [_], _ => rfl, .nil⟩
    · exact ⟨_, d15, _, _, He.cls_ok (S.fact 4 (f := .cls "BitsSack") rfl), He.meth_ok (S.fact 56 (f := .meth "BitsSack" "kind") rfl), (ok_BitsSack_kind (P := P) (w := w) (mg := mg) (base := base) (c := cs K) G F15 ).mono (by decide), F15.bindsN (ps := ["self"]) fun _ _ _ _ _ _ us hl => match us, hl with | [_], _ => rfl, .nil⟩
  have m_held : ∀ C sp, fam_held (cs K) C sp → Met P w (cs K).K mg base 2 C "held" sp [] := by
    rintro C sp ⟨k, rfl, rfl⟩
    cases k
    · exact ⟨_, d10, _, _, He.cls_ok (S.fact 0 (f := .cls "RowSack") rfl), He.meth_ok (S.fact 51 (f := .meth "RowSack" "held") rfl), (ok_RowSack_held (P := P) (w := w) (mg := mg) (base := base) (c := cs K) G F10 c_lows_of f_tuple).mono (by decide), F10.bindsN (ps := ["self"]) fun _ _ _ _ _ _ us hl => match us, hl with | [_], _ => rfl, .nil⟩
    · exact ⟨_, d13, _, _, He.cls_ok (S.fact 2 (f := .cls "RunsSack") rfl), He.meth_ok (S.fact 54 (f := .meth "RunsSack" "held") rfl), (ok_RunsSack_held (P := P) (w := w) (mg := mg) (base := base) (c := cs K) G F13 c_runs_of f_tuple).mono (by decide), F13.bindsN (ps := ["self"]) fun _ _ _ _ _ _ us hl => match us, hl with | [_], _ => rfl, .nil⟩
    · exact ⟨_, d16, _, _, He.cls_ok (S.fact 4 (f := .cls "BitsSack") rfl), He.meth_ok (S.fact 57 (f := .meth "BitsSack" "held") rfl), (ok_BitsSack_held (P := P) (w := w) (mg := mg) (base := base) (c := cs K) G F16 g_WORDS f_range g_WORD g_FULL_WORD f_tuple).mono (by decide), F16.bindsN (ps := ["self"]) fun _ _ _ _ _ _ us hl => match us, hl with | [_], _ => rfl, .nil⟩
  have k_RowSack : Mak P w (cs K).K mg base 1 "RowSack" (cs K).row (sp_Sack___init__ (cs K) (cs K).row) [] := ⟨_, d0, _, _, He.mkr_ok (S.fact 18 (f := .mkr "RowSack") rfl), ok_Sack___init__ (P := P) (w := w) (mg := mg) (base := base) (c := cs K) G (He.ga K "RowSack") F0 , He.glo_ok X G0 (S.fact 17 (f := .glo "RowSack") rfl), F0.bindsN (ps := ["self", "bits"]) fun _ _ _ _ _ _ us hl => match us, hl with | [_, _], _ => rfl, .nil⟩
  have k_RunsSack : Mak P w (cs K).K mg base 1 "RunsSack" (cs K).runs (sp_Sack___init__ (cs K) (cs K).runs) [] := ⟨_, d1, _, _, He.mkr_ok (S.fact 20 (f := .mkr "RunsSack") rfl), ok_Sack___init__ (P := P) (w := w) (mg := mg) (base := base) (c := cs K) G (He.ga K "RunsSack") F1 , He.glo_ok X G0 (S.fact 19 (f := .glo "RunsSack") rfl), F1.bindsN (ps := ["self", "bits"]) fun _ _ _ _ _ _ us hl => match us, hl with | [_, _], _ => rfl, .nil⟩
  have k_BitsSack : Mak P w (cs K).K mg base 1 "BitsSack" (cs K).bits (sp_Sack___init__ (cs K) (cs K).bits) [] := ⟨_, d2, _, _, He.mkr_ok (S.fact 22 (f := .mkr "BitsSack") rfl), ok_Sack___init__ (P := P) (w := w) (mg := mg) (base := base) (c := cs K) G (He.ga K "BitsSack") F2 , He.glo_ok X G0 (S.fact 21 (f := .glo "BitsSack") rfl), F2.bindsN (ps := ["self", "bits"]) fun _ _ _ _ _ _ us hl => match us, hl with | [_, _], _ => rfl, .nil⟩
  have m_weight : ∀ C sp, fam_weight (cs K) C sp → Met P w (cs K).K mg base 3 C "weight" sp [] := by
    rintro C sp ⟨k, rfl, rfl⟩
    cases k
    · exact ⟨_, d11, _, _, He.cls_ok (S.fact 0 (f := .cls "RowSack") rfl), He.meth_ok (S.fact 52 (f := .meth "RowSack" "weight") rfl), (ok_RowSack_weight (P := P) (w := w) (mg := mg) (base := base) (c := cs K) G F11 c_count_of).mono (by decide), F11.bindsN (ps := ["self"]) fun _ _ _ _ _ _ us hl => match us, hl with | [_], _ => rfl, .nil⟩
    · exact ⟨_, d14, _, _, He.cls_ok (S.fact 2 (f := .cls "RunsSack") rfl), He.meth_ok (S.fact 55 (f := .meth "RunsSack" "weight") rfl), (ok_RunsSack_weight (P := P) (w := w) (mg := mg) (base := base) (c := cs K) G F14 m_held f_len).mono (by decide), F14.bindsN (ps := ["self"]) fun _ _ _ _ _ _ us hl => match us, hl with | [_], _ => rfl, .nil⟩
    · exact ⟨_, d17, _, _, He.cls_ok (S.fact 4 (f := .cls "BitsSack") rfl), He.meth_ok (S.fact 58 (f := .meth "BitsSack" "weight") rfl), (ok_BitsSack_weight (P := P) (w := w) (mg := mg) (base := base) (c := cs K) G F17 g_BITS_WEIGHT).mono (by decide), F17.bindsN (ps := ["self"]) fun _ _ _ _ _ _ us hl => match us, hl with | [_], _ => rfl, .nil⟩
  have c_least_sack : Cal P w (cs K).K mg base 4 "least_sack" (sp_least_sack (cs K)) [] := ⟨_, d21, _, [], ok_least_sack (P := P) (w := w) (mg := mg) (base := base) (c := cs K) G F21 k_RowSack k_RunsSack k_BitsSack m_weight, He.glo_ok X G0 (S.fact 29 (f := .glo "least_sack") rfl), F21.kp, F21.bindsN (ps := ["bits"]) fun _ _ _ _ _ _ us hl => match us, hl with | [_], _ => rfl, .nil⟩
  have c_sack_of : Cal P w (cs K).K mg base 5 "sack_of" (sp_sack_of (cs K)) [] := ⟨_, d22, _, [], ok_sack_of (P := P) (w := w) (mg := mg) (base := base) (c := cs K) G F22 f_int f_isinstance f_bool g_SIZE x_NoNumber c_least_sack, He.glo_ok X G0 (S.fact 36 (f := .glo "sack_of") rfl), F22.kp, F22.bindsN (ps := ["lows"]) fun _ _ _ _ _ _ us hl => match us, hl with | [_], _ => rfl, .nil⟩
  have c__law_told : Cal P w (cs K).K mg base 6 "_law_told" (sp__law_told (cs K)) [] := ⟨_, d29, _, [], ok__law_told (P := P) (w := w) (mg := mg) (base := base) (c := cs K) G GE F29 g_SackError c_sack_of c__law_marks f_ValueError f_isinstance, He.glo_ok X G0 (S.fact 41 (f := .glo "_law_told") rfl), F29.kp, F29.bindsN (ps := ["_law_lows_here"]) fun _ _ _ _ _ _ us hl => match us, hl with | [_], _ => rfl, .nil⟩
  have m_form : ∀ C sp, fam_form (cs K) C sp → Met P w (cs K).K mg base 3 C "form" sp [] := by
    rintro C sp ⟨k, rfl, rfl⟩
    cases k
    · exact ⟨_, d3, _, _, He.cls_ok (S.fact 0 (f := .cls "RowSack") rfl), He.meth_ok (S.fact 44 (f := .meth "RowSack" "form") rfl), (ok_Sack_form (P := P) (w := w) (mg := mg) (base := base) (c := cs K) G F3 m_kind m_held).mono (by decide), F3.bindsN (ps := ["self"]) fun _ _ _ _ _ _ us hl => match us, hl with | [_], _ => rfl, .nil⟩
    · exact ⟨_, d4, _, _, He.cls_ok (S.fact 2 (f := .cls "RunsSack") rfl), He.meth_ok (S.fact 45 (f := .meth "RunsSack" "form") rfl), (ok_Sack_form (P := P) (w := w) (mg := mg) (base := base) (c := cs K) G F4 m_kind m_held).mono (by decide), F4.bindsN (ps := ["self"]) fun _ _ _ _ _ _ us hl => match us, hl with | [_], _ => rfl, .nil⟩
    · exact ⟨_, d5, _, _, He.cls_ok (S.fact 4 (f := .cls "BitsSack") rfl), He.meth_ok (S.fact 46 (f := .meth "BitsSack" "form") rfl), (ok_Sack_form (P := P) (w := w) (mg := mg) (base := base) (c := cs K) G F5 m_kind m_held).mono (by decide), F5.bindsN (ps := ["self"]) fun _ _ _ _ _ _ us hl => match us, hl with | [_], _ => rfl, .nil⟩
  exact ok_law (P := P) (w := w) (mg := mg) (base := base) (c := cs K) G F30 c__law_lows c__law_pattern c__law_cell_at f_len c__law_told c_sack_of m_form c__law_form
abbrev R : PySem.W.OpenRow := PySem.W.OpenLaw.row PySem.Challenge.rw_sackset_k02_no_sacks
abbrev hk : PySem.W.Hook := hookXX 5 faL fnL exB
def ob (s : PySem.W.SharedT) : He.AlD × Bool := obsXG 5 faL fnL exB (HandSHeadRun.getT s)
theorem ob_eq (s : PySem.W.SharedT) : ob s = hk.obs s.abs := obsXG_eq (HandSHeadRun.getT_eq s)
def nm0 : List Str := ["_wall", "SackError", "NoNumber", "NoStretch", "NoRank", "NoText", "SIZE", "WORD", "WORDS", "FULL_WORD", "BITS_WEIGHT", "Sack", "RowSack", "RunsSack", "BitsSack", "lows_of", "runs_of", "count_of", "least_sack", "sack_of", "_law_cell_at", "_law_lows", "_law_runs", "_law_form", "_law_pattern", "_law_marks", "_law_told"]
def nms : List Str := nm0
theorem run (w : World) : HandSHeadRun.RunEq R (PySem.W.view R.prog [30]) hk ob 6000 nms w := by
  intro os
  kernel_rfl
end Sx
open PySem PySem.W PySem.Calls PyProof.Rows
set_option maxRecDepth 100000 in
set_option maxHeartbeats 0 in
theorem PySem.Challenge.cw_sackset_k02_no_sacks_holds : PySem.Challenge.rw_sackset_k02_no_sacks.Holds := by
  w_on; o_law
  refine HandSHeadRun.head_any (r := OpenLaw.row PySem.Challenge.rw_sackset_k02_no_sacks) (q := view (OpenLaw.row PySem.Challenge.rw_sackset_k02_no_sacks).prog [30]) (H := Sx.hk) (ob := Sx.ob) (M := 6000) (loose := Sx.nms) (d := HandSHeadRun.topDef (OpenLaw.row PySem.Challenge.rw_sackset_k02_no_sacks).prog 30) (kwd := []) Sx.ob_eq
    (by kernel_rfl) (fun s => by kernel_rfl) Sx.run (by kernel_rfl) (by kernel_rfl) (by kernel_rfl) (by rfl) (by first | assumption | decide +kernel) (by decide +kernel) ⟨rfl, rfl, rfl, rfl, rfl, by decide +kernel⟩ ?hw ?hc
  case hw => w_witness2
  case hc =>
    refine L2.walk_ofE (l := PySem.Challenge.rw_sackset_k02_no_sacks) (n := 63) (k := 7) (x := "_law_script") (CX := L2.CX0) rfl (by decide) (by kernel_rfl) ⟨rfl, by decide, by decide⟩ ?F (fun _ _ _ _ z => z)
    intro w mg fa h Y G hmg0
    obtain ⟨K, KX, c, ex⟩ := Y
    have hmg : mg ("law" : PySem.Str) = some (.ref fa) := by
      have e : (HandSHeadRun.topDef (OpenLaw.row PySem.Challenge.rw_sackset_k02_no_sacks).prog 30).name = ("law" : PySem.Str) := by kernel_rfl
      rw [← e]
      exact hmg0
    obtain ⟨fd, hb, hF⟩ := Sx.facts (P := (PySem.Challenge.rw_sackset_k02_no_sacks).prog) (w := w) KX G hmg c ex
    exact ⟨K, fd, _, KX, hb, fun H a ns hl _ hS => ⟨a, ns, rfl, hS, hl, fun _ => rfl⟩, fun base Xb Gb => Sx.fn_cx0 (hF base Xb Gb)⟩
