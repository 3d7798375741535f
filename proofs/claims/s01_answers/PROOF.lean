import PyProof.Rows.All
import Wide.All
import OpenK.AllK
import Wide.FinOn
import PyProof.EqAt
import PyProof.EqKinds
import PyProof.TupleCall
import Open.SpecLaws
import KE.OsGo
import HandS.ForSpec
import HandS.ForMost
import HandS.Wide
import HandS.Conv
import HandS.Walk
import HandS.ExcInit
import HandS.ExcField
import HandS.CallSlots
import HandS.TryMany
import PySem.Challenge.RW_misheardbits_s01_answers
set_option Elab.async false
set_option linter.all false
set_option maxRecDepth 100000
set_option maxHeartbeats 2000000
/-! ## Mh1 -/
namespace Mh
open Krdk

/-! ### fractions: what share gives -/
theorem share_num {u : Int} {l : Nat} (h : 0 < l) : u / ((Nat.gcd u.natAbs l : Nat) : Int) = (mkRat u l).num := by
  rw [Rat.num_mkRat, if_neg (by omega), Nat.gcd_comm]
theorem share_den {u : Int} {l : Nat} (h : 0 < l) : (l : Int) / ((Nat.gcd u.natAbs l : Nat) : Int) = ((mkRat u l).den : Int) := by
  rw [Rat.den_mkRat, if_neg (by omega), Nat.gcd_comm, Int.natCast_ediv]

/-- small: both numbers below 2 ^ 64 -/
def Sm (r : Rat) : Prop := r.num.natAbs < 2 ^ 64 ∧ r.den < 2 ^ 64
/-- k by D, k at most M -/
def Bd (D M : Nat) (r : Rat) : Prop := 0 < D ∧ ∃ k : Int, r = mkRat k D ∧ k.natAbs ≤ M

theorem natAbs_ediv_le (a : Int) (b : Nat) : (a / (b : Int)).natAbs ≤ a.natAbs := by
  rcases Int.le_total 0 a with h | h
  · obtain ⟨n, rfl⟩ := Int.eq_ofNat_of_zero_le h
    rw [← Int.natCast_ediv]
    exact Nat.div_le_self _ _
  · rcases Nat.eq_zero_or_pos b with hb | hb
    · subst hb; simp
    · have h2 : (b : Int) * (a / b) ≤ a := Int.mul_ediv_self_le (by omega)
      have h4 : a / (b : Int) ≤ 0 := by
        have : a / (b:Int) ≤ 0 / (b:Int) := Int.ediv_le_ediv (by omega) h
        simpa using this
      have h5 : a ≤ a / b := by
        have h3 := Int.le_ediv_of_mul_le (a := a) (b := a) (c := (b : Int)) (by omega) (by
          have : a * (b:Int) ≤ a * 1 := Int.mul_le_mul_of_nonpos_left h (by omega)
          omega)
        exact h3
      omega
theorem Bd.sm {D M : Nat} {r : Rat} (h : Bd D M r) (hD : D < 2 ^ 64) (hM : M < 2 ^ 64) : Sm r := by
  obtain ⟨h0, k, rfl, hk⟩ := h
  refine ⟨?_, ?_⟩
  · rw [Rat.num_mkRat, if_neg (by omega)]
    exact Nat.lt_of_le_of_lt (Nat.le_trans (natAbs_ediv_le _ _) hk) hM
  · rw [Rat.den_mkRat, if_neg (by omega)]
    exact Nat.lt_of_le_of_lt (Nat.div_le_self _ _) hD
theorem Bd.mono {D M M' : Nat} {r : Rat} (h : Bd D M r) (hm : M ≤ M') : Bd D M' r := by
  obtain ⟨h0, k, e, hk⟩ := h
  exact ⟨h0, k, e, Nat.le_trans hk hm⟩
theorem Bd.add {D M M' : Nat} {r s : Rat} (h : Bd D M r) (g : Bd D M' s) : Bd D (M + M') (r + s) := by
  obtain ⟨h0, k, rfl, hk⟩ := h
  obtain ⟨_, j, rfl, hj⟩ := g
  refine ⟨h0, k + j, ?_, by omega⟩
  rw [Rat.mkRat_add_mkRat _ _ (by omega) (by omega), ← Int.add_mul, Rat.mkRat_mul_right (by omega)]
theorem Bd.neg {D M : Nat} {r : Rat} (h : Bd D M r) : Bd D M (-r) := by
  obtain ⟨h0, k, rfl, hk⟩ := h
  exact ⟨h0, -k, Rat.neg_mkRat _ _, by omega⟩
theorem Bd.sub {D M M' : Nat} {r s : Rat} (h : Bd D M r) (g : Bd D M' s) : Bd D (M + M') (r - s) := by
  rw [Rat.sub_eq_add_neg]
  exact h.add g.neg
theorem Bd.mul {D M D' M' : Nat} {r s : Rat} (h : Bd D M r) (g : Bd D' M' s) : Bd (D * D') (M * M') (r * s) := by
  obtain ⟨h0, k, rfl, hk⟩ := h
  obtain ⟨g0, j, rfl, hj⟩ := g
  refine ⟨Nat.mul_pos h0 g0, k * j, Rat.mkRat_mul_mkRat _ _ _ _, ?_⟩
  rw [Int.natAbs_mul]
  exact Nat.mul_le_mul hk hj
theorem Bd.scale {D M : Nat} {r : Rat} (h : Bd D M r) {c : Nat} (hc : 0 < c) : Bd (D * c) (M * c) r := by
  obtain ⟨h0, k, rfl, hk⟩ := h
  refine ⟨Nat.mul_pos h0 hc, k * c, (Rat.mkRat_mul_right (by omega)).symm, ?_⟩
  rw [Int.natAbs_mul]
  exact Nat.mul_le_mul hk (by simp)
theorem Bd.zero {D : Nat} (h : 0 < D) : Bd D 0 0 := ⟨h, 0, (Rat.zero_mkRat D).symm, by simp⟩
theorem Bd.one {D : Nat} (h : 0 < D) : Bd D D 1 := ⟨h, D, by
  have := Rat.mkRat_mul_right (n := 1) (d := 1) (a := D) (by omega)
  simp only [Int.one_mul, Nat.one_mul] at this
  rw [this]; rfl, by simp⟩
theorem Bd.mk {D : Nat} {k : Int} (h : 0 < D) : Bd D k.natAbs (mkRat k D) := ⟨h, k, rfl, Nat.le_refl _⟩
theorem Bd.pow {D M : Nat} {r : Rat} (h : Bd D M r) : ∀ k : Nat, Bd (D ^ k) (M ^ k) (r ^ k)
  | 0 => by rw [Rat.pow_zero]; exact Bd.one (by simp)
  | k + 1 => by rw [Rat.pow_succ, Nat.pow_succ, Nat.pow_succ]; exact (h.pow k).mul h

/-! ### sums -/
theorem foldl_sum (l : List Rat) (a : Rat) : l.foldl (· + ·) a = a + l.foldl (· + ·) 0 := by
  induction l generalizing a with
  | nil => simp [Rat.add_zero]
  | cons x l ih => rw [List.foldl_cons, ih, List.foldl_cons, ih (0 + x), Rat.zero_add, Rat.add_assoc]
theorem sum_nil : sum [] = 0 := rfl
theorem sum_cons (x : Rat) (l : List Rat) : sum (x :: l) = x + sum l := by
  unfold sum
  rw [List.foldl_cons, foldl_sum, Rat.zero_add]
theorem sum_append (l m : List Rat) : sum (l ++ m) = sum l + sum m := by
  unfold sum
  rw [List.foldl_append, foldl_sum]
theorem sum_snoc (l : List Rat) (x : Rat) : sum (l ++ [x]) = sum l + x := by
  rw [sum_append, sum_cons, sum_nil, Rat.add_zero]
theorem Bd.sum {D M : Nat} (h : 0 < D) : ∀ {l : List Rat}, (∀ r ∈ l, Bd D M r) → Bd D (l.length * M) (Krdk.sum l)
  | [], _ => by rw [sum_nil]; simpa using Bd.zero h
  | x :: l, hl => by
    rw [sum_cons, List.length_cons, Nat.add_mul, Nat.one_mul, Nat.add_comm]
    exact (hl x List.mem_cons_self).add (Bd.sum h fun r hr => hl r (List.mem_cons_of_mem _ hr))
/-- zeros may be left out -/
theorem sum_filter {α : Type} (p : α → Bool) (g : α → Rat) : ∀ l : List α, Krdk.sum (l.map fun y => if p y then g y else 0) = Krdk.sum ((l.filter p).map g)
  | [] => rfl
  | x :: l => by
    rw [List.map_cons, sum_cons, sum_filter p g l]
    by_cases h : p x = true
    · rw [if_pos h, List.filter_cons_of_pos h, List.map_cons, sum_cons]
    · rw [if_neg h, List.filter_cons_of_neg h, Rat.zero_add]

/-! ### bits -/
theorem filter_range {p : Nat → Bool} {n m : Nat} (h : n ≤ m) (hp : ∀ i, n ≤ i → p i = false) : (List.range m).filter p = (List.range n).filter p := by
  obtain ⟨k, rfl⟩ := Nat.exists_eq_add_of_le h
  rw [List.range_add, List.filter_append]
  have : (List.map (fun x => n + x) (List.range k)).filter p = [] := by
    rw [List.filter_eq_nil_iff]
    intro a ha
    obtain ⟨b, _, rfl⟩ := List.mem_map.mp ha
    rw [hp _ (by omega)]; simp
  rw [this, List.append_nil]
theorem bits5 {n x : Nat} (hn : n ≤ 5) (hx : x < 2 ^ n) : bits 5 x = bits n x := by
  unfold bits
  rw [filter_range hn]
  intro i hi
  exact Nat.testBit_lt_two_pow (Nat.lt_of_lt_of_le hx (Nat.pow_le_pow_right (by omega) hi))
theorem meet5 {n s x : Nat} (hn : n ≤ 5) (hs : s < 2 ^ n) : bits 5 (x &&& s) = meet n s x := by
  have hlt : x &&& s < 2 ^ n := Nat.lt_of_le_of_lt Nat.and_le_right hs
  rw [bits5 hn hlt]
  unfold bits meet
  congr 1
  apply List.filter_congr
  intro i _
  rw [Nat.testBit_and, Bool.and_comm]
theorem bits_le (n x : Nat) : bits n x ≤ n := by
  unfold bits
  exact Nat.le_trans (List.length_filter_le _ _) (by simp)
theorem xor_lt {n x y : Nat} (hx : x < 2 ^ n) (hy : y < 2 ^ n) : x ^^^ y < 2 ^ n := Nat.xor_lt_two_pow hx hy
theorem flip_xor {n x i : Nat} (hn : n ≤ 5) (hx : x < 2 ^ n) (hi : i < n) : x ^^^ (2 ^ i) = flip x i := by
  have h1 : x < 32 := Nat.lt_of_lt_of_le hx (Nat.pow_le_pow_right (n := 2) (by omega) hn)
  have h2 : i < 5 := by omega
  have : ∀ x : Fin 32, ∀ i : Fin 5, x.val ^^^ (2 ^ i.val) = flip x.val i.val := by decide
  exact this ⟨x, h1⟩ ⟨i, h2⟩
theorem flip_lt {n x i : Nat} (hn : n ≤ 5) (hx : x < 2 ^ n) (hi : i < n) : flip x i < 2 ^ n := by
  rw [← flip_xor hn hx hi]
  exact Nat.xor_lt_two_pow hx (Nat.pow_lt_pow_right (by omega) hi)

/-! ### heard -/
theorem heard_step (n : Nat) (e : Rat) (x y : Nat) : Krdl.heard (n + 1) e x y = Krdl.heard n e x y * (if x.testBit n == y.testBit n then 1 - e else e) := by
  unfold Krdl.heard
  rw [List.range_succ, List.foldl_append]
  rfl
theorem bits_step (n x : Nat) : bits (n + 1) x = bits n x + (if x.testBit n then 1 else 0) := by
  unfold bits
  rw [List.range_succ, List.filter_append, List.length_append]
  by_cases h : x.testBit n = true <;> simp [h]
theorem heard_bits (e : Rat) (x y : Nat) : ∀ n : Nat, Krdl.heard n e x y = e ^ (bits n (x ^^^ y)) * (1 - e) ^ (n - bits n (x ^^^ y))
  | 0 => by
    show (1 : Rat) = _
    simp [bits]
  | n + 1 => by
    have hb := bits_le n (x ^^^ y)
    rw [heard_step, heard_bits e x y n, bits_step, Nat.testBit_xor]
    by_cases h : x.testBit n = y.testBit n
    · rw [h]
      simp only [bne_self_eq_false, beq_self_eq_true, if_true, Bool.false_eq_true, if_false, Nat.add_zero]
      rw [Nat.succ_sub hb, Rat.pow_succ, Rat.mul_assoc]
    · have h1 : (x.testBit n == y.testBit n) = false := by simpa using h
      have h2 : (x.testBit n ^^ y.testBit n) = true := by
        cases h3 : x.testBit n <;> cases h4 : y.testBit n <;> simp_all
      rw [h1, h2]
      simp only [if_true, Bool.false_eq_true, if_false]
      rw [Rat.pow_succ, show n + 1 - (bits n (x ^^^ y) + 1) = n - bits n (x ^^^ y) by omega]
      rw [Rat.mul_assoc, Rat.mul_comm _ e, Rat.mul_assoc]
theorem heard5 {n x y : Nat} (e : Rat) (hn : n ≤ 5) (hx : x < 2 ^ n) (hy : y < 2 ^ n) : e ^ (bits 5 (x ^^^ y)) * (1 - e) ^ (n - bits 5 (x ^^^ y)) = Krdl.heard n e x y := by
  rw [heard_bits, bits5 hn (xor_lt hx hy)]
theorem bits5_le {n x y : Nat} (hn : n ≤ 5) (hx : x < 2 ^ n) (hy : y < 2 ^ n) : bits 5 (x ^^^ y) ≤ n := by
  rw [bits5 hn (xor_lt hx hy)]
  exact bits_le _ _
end Mh
/-! ## Mh2 -/
namespace Mh
open Krdk

/-! ### the chance -/
/-- a chance: a by b, b at most 20 -/
def Ch (e : Rat) : Prop := ∃ a b : Nat, 0 < b ∧ b ≤ 20 ∧ a ≤ b ∧ e = mkRat a b
theorem ch_of {a b : Nat} (h : Krdl.chanceOk a b = true) : Ch ((a : Rat) / (b : Rat)) ∧ mkRat a b = (a : Rat) / (b : Rat) ∧ 0 < b ∧ b ≤ 20 ∧ 2 * a ≤ b := by
  unfold Krdl.chanceOk at h
  simp only [Bool.and_eq_true, decide_eq_true_eq] at h
  have e : mkRat (a : Int) b = (a : Rat) / (b : Rat) := by
    rw [Rat.mkRat_eq_div]; rfl
  exact ⟨⟨a, b, by omega, by omega, by omega, e.symm⟩, e, by omega, by omega, h.2⟩
theorem ch_first : Ch (1 / 10) := ⟨1, 10, by decide, by decide, by decide, by decide +kernel⟩
theorem Ch.bd {e : Rat} (h : Ch e) : ∃ b : Nat, 0 < b ∧ b ≤ 20 ∧ Bd b b e ∧ Bd b b (1 - e) := by
  obtain ⟨a, b, h0, h1, h2, rfl⟩ := h
  refine ⟨b, h0, h1, ⟨h0, a, rfl, by simpa using h2⟩, ⟨h0, b - a, ?_, by omega⟩⟩
  have e1 : (1 : Rat) = mkRat b b := by
    have := Rat.mkRat_mul_right (n := 1) (d := 1) (a := b) (by omega)
    simp only [Int.one_mul, Nat.one_mul] at this
    rw [this]; rfl
  rw [e1, Rat.sub_eq_add_neg, Rat.neg_mkRat, Rat.mkRat_add_mkRat _ _ (by omega) (by omega), ← Int.add_mul, Rat.mkRat_mul_right (by omega)]
  rfl
theorem pow_le20 {b n : Nat} (hb : b ≤ 20) (hn : n ≤ 5) : b ^ n ≤ 3200000 := by
  have h1 : b ^ n ≤ 20 ^ n := Nat.pow_le_pow_left hb n
  have h2 : (20 : Nat) ^ n ≤ 20 ^ 5 := Nat.pow_le_pow_right (by omega) hn
  have h3 : (20 : Nat) ^ 5 = 3200000 := by decide
  omega
theorem Ch.pows {e : Rat} (h : Ch e) {k : Nat} (hk : k ≤ 5) : Sm (e ^ k) ∧ Sm ((1 - e) ^ k) := by
  obtain ⟨b, h0, h1, h2, h3⟩ := h.bd
  have := pow_le20 h1 hk
  exact ⟨(h2.pow k).sm (by omega) (by omega), (h3.pow k).sm (by omega) (by omega)⟩
theorem Ch.sm {e : Rat} (h : Ch e) : Sm e ∧ Sm (1 - e) := by
  obtain ⟨b, h0, h1, h2, h3⟩ := h.bd
  exact ⟨h2.sm (by omega) (by omega), h3.sm (by omega) (by omega)⟩
/-- one number for all that's reckoned with a chance: the lower numbers go into B -/
def Lo (n : Nat) (e : Rat) (B : Nat) : Prop := 0 < B ∧ B ≤ 3200000 ∧ ∀ x y, Bd B B (Krdl.heard n e x y)
theorem Ch.lo {e : Rat} (h : Ch e) {n : Nat} (hn : n ≤ 5) : ∃ B, Lo n e B := by
  obtain ⟨b, h0, h1, h2, h3⟩ := h.bd
  refine ⟨b ^ n, Nat.pow_pos h0, pow_le20 h1 hn, fun x y => ?_⟩
  rw [heard_bits]
  have hb := bits_le n (x ^^^ y)
  have := (h2.pow (bits n (x ^^^ y))).mul (h3.pow (n - bits n (x ^^^ y)))
  rw [← Nat.pow_add, show bits n (x ^^^ y) + (n - bits n (x ^^^ y)) = n by omega] at this
  exact this

/-! ### answers as lists of 1 and 0 -/
def b2 (b : Bool) : Int := if b then 1 else 0
def sv (t : List Bool) : List Int := t.map b2
theorem sv_length (t : List Bool) : (sv t).length = t.length := by simp [sv]
structure Ans (n : Nat) (f : Answer) : Prop where
  n5 : n ≤ 5
  eq : f.n = n
  len : f.t.length = 2 ^ n
theorem Ans.le32 {n : Nat} {f : Answer} (h : Ans n f) : f.t.length ≤ 32 := by
  rw [h.len]
  exact Nat.pow_le_pow_right (n := 2) (by omega) h.n5
theorem two32 {n : Nat} (h : n ≤ 5) : 2 ^ n ≤ 32 := Nat.pow_le_pow_right (n := 2) (by omega) h
theorem ans_of {n : Nat} (hn : n ≤ 5) (p : Nat → Bool) : Ans n (of n p) := ⟨hn, rfl, by simp [of, words]⟩
theorem at_get {f : Answer} {i : Nat} {b : Bool} (h : f.t[i]? = some b) : f.at_ i = b := by
  unfold Answer.at_
  rw [List.getD_eq_getElem?_getD, h]
  rfl
theorem get_at {f : Answer} {i : Nat} (h : i < f.t.length) : f.t[i]? = some (f.at_ i) := by
  unfold Answer.at_
  rw [List.getD_eq_getElem?_getD, List.getElem?_eq_getElem h]
  rfl
theorem map_at {f : Answer} {n : Nat} (h : Ans n f) : (words n).map f.at_ = f.t := by
  apply List.ext_getElem?
  intro i
  unfold words
  rw [List.getElem?_map, ← h.len]
  by_cases hi : i < f.t.length
  · rw [List.getElem?_range hi, get_at hi]; rfl
  · rw [List.getElem?_eq_none (by simpa using hi), List.getElem?_eq_none (by simpa using hi)]; rfl
theorem sv_of (n : Nat) (p : Nat → Bool) : sv (of n p).t = (words n).map fun x => b2 (p x) := by
  simp [sv, of]
theorem count_sum : ∀ l : List Bool, (sv l).sum = ((l.filter id).length : Int)
  | [] => rfl
  | true :: l => by
    have := count_sum l
    simp only [sv] at *
    rw [List.map_cons, List.sum_cons, this, List.filter_cons_of_pos (by rfl), List.length_cons]
    simp [b2]; omega
  | false :: l => by
    have := count_sum l
    simp only [sv] at *
    rw [List.map_cons, List.sum_cons, this, List.filter_cons_of_neg (by simp)]
    simp [b2]
theorem yes_sum {f : Answer} {n : Nat} (h : Ans n f) : (sv f.t).sum = (f.yes : Int) := by
  rw [count_sum]
  unfold Answer.yes
  rw [h.eq]
  have e : ((words n).filter f.at_).map f.at_ = f.t.filter id := by
    rw [← map_at h, List.filter_map]; rfl
  rw [← e, List.length_map]
theorem ans_set {f : Answer} {n : Nat} (h : Ans n f) (x : Nat) (b : Bool) : Ans n ⟨n, f.t.set x b⟩ := ⟨h.n5, rfl, by rw [List.length_set, h.len]⟩

/-! ### what is reckoned with a chance -/
section
variable {n : Nat} {f : Answer} {e : Rat} {B : Nat}
/-- the words to which it says yes -/
def yesW (f : Answer) : List Nat := (words f.n).filter f.at_
theorem yesW_le (h : Ans n f) : (yesW f).length ≤ 32 := by
  unfold yesW
  refine Nat.le_trans (List.length_filter_le _ _) ?_
  unfold words
  rw [List.length_range, h.eq]
  exact two32 h.n5
theorem soft_eq (f : Answer) (e : Rat) (x : Nat) : Krdl.soft f e x = sum ((yesW f).map fun y => Krdl.heard f.n e x y) := sum_filter _ _ _
theorem sum_bd {D M : Nat} (hD : 0 < D) {l : List Rat} (hl : ∀ r ∈ l, Bd D M r) (hlen : l.length ≤ 32) (j : Nat) : Bd D (32 * M) (sum (l.take j)) := by
  refine (Bd.sum hD fun r hr => hl r (List.mem_of_mem_take hr)).mono ?_
  refine Nat.mul_le_mul_right M ?_
  rw [List.length_take]
  omega
theorem soft_bd (h : Ans n f) (L : Lo n e B) (x : Nat) : Bd B (32 * B) (Krdl.soft f e x) := by
  rw [soft_eq]
  have := sum_bd (D := B) (M := B) L.1 (l := (yesW f).map fun y => Krdl.heard f.n e x y) (fun r hr => by
    obtain ⟨y, _, rfl⟩ := List.mem_map.mp hr
    rw [h.eq]
    exact L.2.2 x y) (by rw [List.length_map]; exact yesW_le h) 32
  rwa [List.take_of_length_le (by rw [List.length_map]; exact yesW_le h)] at this
theorem soft_take (h : Ans n f) (L : Lo n e B) (x j : Nat) : Sm (sum (((yesW f).map fun y => Krdl.heard f.n e x y).take j)) := by
  have := sum_bd (D := B) (M := B) L.1 (l := (yesW f).map fun y => Krdl.heard f.n e x y) (fun r hr => by
    obtain ⟨y, _, rfl⟩ := List.mem_map.mp hr
    rw [h.eq]
    exact L.2.2 x y) (by rw [List.length_map]; exact yesW_le h) j
  have hB := L.2.1
  exact this.sm (by omega) (by omega)
theorem heard_sm (L : Lo n e B) (x y : Nat) : Sm (Krdl.heard n e x y) := by
  have hB := L.2.1
  exact (L.2.2 x y).sm (by omega) (by omega)
theorem soft_sm (h : Ans n f) (L : Lo n e B) (x : Nat) : Sm (Krdl.soft f e x) := by
  have hB := L.2.1
  exact (soft_bd h L x).sm (by omega) (by omega)
/-- how likely the answer to x is said as it is -/
def right (f : Answer) (e : Rat) (x : Nat) : Rat := if f.at_ x then Krdl.soft f e x else 1 - Krdl.soft f e x
theorem unsoft_bd (h : Ans n f) (L : Lo n e B) (x : Nat) : Bd B (33 * B) (1 - Krdl.soft f e x) :=
  ((Bd.one L.1).sub (soft_bd h L x)).mono (by omega)
theorem right_bd (h : Ans n f) (L : Lo n e B) (x : Nat) : Bd B (33 * B) (right f e x) := by
  unfold right
  split
  · exact (soft_bd h L x).mono (by omega)
  · exact unsoft_bd h L x
theorem unsoft_sm (h : Ans n f) (L : Lo n e B) (x : Nat) : Sm (1 - Krdl.soft f e x) := by
  have hB := L.2.1
  exact (unsoft_bd h L x).sm (by omega) (by omega)
theorem right_sm (h : Ans n f) (L : Lo n e B) (x : Nat) : Sm (right f e x) := by
  have hB := L.2.1
  exact (right_bd h L x).sm (by omega) (by omega)
def rights (f : Answer) (e : Rat) : List Rat := (words f.n).map (right f e)
theorem words_len (h : Ans n f) : (words f.n).length ≤ 32 := by
  unfold words
  rw [List.length_range, h.eq]
  exact two32 h.n5
theorem rights_take_bd (h : Ans n f) (L : Lo n e B) (j : Nat) : Bd B (32 * (33 * B)) (sum ((rights f e).take j)) :=
  sum_bd L.1 (fun r hr => by
    obtain ⟨x, _, rfl⟩ := List.mem_map.mp hr
    exact right_bd h L x) (by unfold rights; rw [List.length_map]; exact words_len h) j
theorem rights_take (h : Ans n f) (L : Lo n e B) (j : Nat) : Sm (sum ((rights f e).take j)) := by
  have hB := L.2.1
  exact (rights_take_bd h L j).sm (by omega) (by omega)
theorem mean_bd {D M : Nat} {r : Rat} (h : Bd D M r) {k : Nat} (hk : 0 < k) : Bd (D * k) M (r * mkRat 1 k) := by
  have := h.mul (Bd.mk (D := k) (k := 1) hk)
  simpa using this
theorem mean_eq (r : Rat) (k : Nat) : r * mkRat 1 k = r / ((k : Nat) : Rat) := by
  rw [Rat.mkRat_eq_div, Rat.div_def, Rat.div_def]
  show r * ((1 : Rat) * _) = _
  rw [Rat.one_mul]
theorem stays_eq (h : Ans n f) : sum (rights f e) * mkRat 1 (2 ^ n) = Krdl.stays f e := by
  rw [mean_eq]
  unfold Krdl.stays
  rw [h.eq]
  unfold rights
  rw [h.eq]
  rfl
theorem rights_all (h : Ans n f) : (rights f e).take 32 = rights f e := List.take_of_length_le (by unfold rights; rw [List.length_map]; exact words_len h)
theorem stays_bd (h : Ans n f) (L : Lo n e B) : Bd (B * 2 ^ n) (32 * (33 * B)) (Krdl.stays f e) := by
  rw [← stays_eq h]
  have := rights_take_bd h L 32
  rw [rights_all h] at this
  exact mean_bd this (Nat.two_pow_pos n)
theorem stays_sm (h : Ans n f) (L : Lo n e B) : Sm (Krdl.stays f e) := by
  have hB := L.2.1
  have h3 : B * 2 ^ n ≤ B * 32 := Nat.mul_le_mul_left B (two32 h.n5)
  exact (stays_bd h L).sm (by omega) (by omega)
theorem diff_sm {g : Answer} (h : Ans n f) (k : Ans n g) (L : Lo n e B) : Sm (Krdl.stays f e - Krdl.stays g e) := by
  have hB := L.2.1
  have h3 : B * 2 ^ n ≤ B * 32 := Nat.mul_le_mul_left B (two32 h.n5)
  exact ((stays_bd h L).sub (stays_bd k L)).sm (by omega) (by omega)
/-- how likely two agree at x -/
def both (r : Rat) : Rat := r * r + (1 - r) * (1 - r)
def boths (f : Answer) (e : Rat) : List Rat := (words f.n).map fun x => both (Krdl.soft f e x)
theorem sq_bd {M : Nat} {r : Rat} (h : Bd B M r) : Bd (B * B) (M * M) (r * r) := h.mul h
theorem both_bd (h : Ans n f) (L : Lo n e B) (x : Nat) : Bd (B * B) (2113 * (B * B)) (both (Krdl.soft f e x)) := by
  refine ((sq_bd (soft_bd h L x)).add (sq_bd (unsoft_bd h L x))).mono ?_
  rw [Nat.mul_mul_mul_comm, Nat.mul_mul_mul_comm 33]
  omega
theorem BB (L : Lo n e B) : B * B ≤ 10240000000000 := by
  have := Nat.mul_le_mul L.2.1 L.2.1
  omega
theorem both_sm (h : Ans n f) (L : Lo n e B) (x : Nat) : Sm (both (Krdl.soft f e x)) ∧ Sm (Krdl.soft f e x * Krdl.soft f e x) ∧ Sm ((1 - Krdl.soft f e x) * (1 - Krdl.soft f e x)) := by
  have hB := BB L
  refine ⟨(both_bd h L x).sm (by omega) (by omega), ?_, ?_⟩
  · refine (sq_bd (soft_bd h L x)).sm (by omega) ?_
    rw [Nat.mul_mul_mul_comm]; omega
  · refine (sq_bd (unsoft_bd h L x)).sm (by omega) ?_
    rw [Nat.mul_mul_mul_comm]; omega
theorem boths_take_bd (h : Ans n f) (L : Lo n e B) (j : Nat) : Bd (B * B) (32 * (2113 * (B * B))) (sum ((boths f e).take j)) :=
  sum_bd (Nat.mul_pos L.1 L.1) (fun r hr => by
    obtain ⟨x, _, rfl⟩ := List.mem_map.mp hr
    exact both_bd h L x) (by unfold boths; rw [List.length_map]; exact words_len h) j
theorem boths_take (h : Ans n f) (L : Lo n e B) (j : Nat) : Sm (sum ((boths f e).take j)) := by
  have hB := BB L
  exact (boths_take_bd h L j).sm (by omega) (by omega)
theorem agree_eq (h : Ans n f) : sum (boths f e) * mkRat 1 (2 ^ n) = Krdl.agree f e := by
  rw [mean_eq]
  unfold Krdl.agree
  rw [h.eq]
  unfold boths
  rw [h.eq]
  rfl
theorem agree_sm (h : Ans n f) (L : Lo n e B) : Sm (Krdl.agree f e) := by
  rw [← agree_eq h]
  have := boths_take_bd h L 32
  rw [List.take_of_length_le (by unfold boths; rw [List.length_map]; exact words_len h)] at this
  have hB := BB L
  have h3 : B * B * 2 ^ n ≤ B * B * 32 := Nat.mul_le_mul_left _ (two32 h.n5)
  exact (mean_bd this (Nat.two_pow_pos n)).sm (by omega) (by omega)
end

/-! ### parts and levels -/
section
variable {n : Nat} {f : Answer}
def signs (f : Answer) (s : Nat) : List Int := (words f.n).map fun x => if meet f.n s x % 2 = 0 then f.sign x else -f.sign x
theorem sign_eq (h : Ans n f) {s x : Nat} (hs : s < 2 ^ n) : 1 - 2 * (((bits 5 (x &&& s) : Nat) + b2 (f.at_ x)) % 2) = if meet f.n s x % 2 = 0 then f.sign x else -f.sign x := by
  rw [meet5 h.n5 hs, h.eq]
  unfold Answer.sign b2
  by_cases hm : meet n s x % 2 = 0
  · rw [if_pos hm]
    cases f.at_ x
    · simp only [Bool.false_eq_true, if_false]; omega
    · simp only [if_true]; omega
  · rw [if_neg hm]
    cases f.at_ x
    · simp only [Bool.false_eq_true, if_false]; omega
    · simp only [if_true]; omega
theorem sum_foldl (l : List Int) : l.sum = l.foldl (· + ·) 0 := by
  have : ∀ (l : List Int) (a : Int), l.foldl (· + ·) a = a + l.sum := by
    intro l
    induction l with
    | nil => intro a; simp
    | cons x l ih => intro a; rw [List.foldl_cons, ih, List.sum_cons, Int.add_assoc]
  rw [this, Int.zero_add]
theorem part_eq (h : Ans n f) (s : Nat) : mkRat (signs f s).sum (2 ^ n) = f.part s := by
  unfold Answer.part signs
  rw [Rat.mkRat_eq_div, sum_foldl, h.eq]
theorem sign_le (f : Answer) (x : Nat) : (f.sign x).natAbs = 1 := by
  unfold Answer.sign
  split <;> rfl
theorem signs_le (l : List Nat) (g : Nat → Int) (hg : ∀ x, (g x).natAbs = 1) : ((l.map g).sum).natAbs ≤ l.length := by
  induction l with
  | nil => simp
  | cons x l ih =>
    rw [List.map_cons, List.sum_cons, List.length_cons]
    have := hg x
    omega
theorem signs_sum_le (h : Ans n f) (s : Nat) : ((signs f s).sum).natAbs ≤ 32 := by
  refine Nat.le_trans (signs_le _ _ fun x => ?_) (words_len h)
  split
  · exact sign_le f x
  · rw [Int.natAbs_neg]; exact sign_le f x
theorem part_bd (h : Ans n f) (s : Nat) : Bd (2 ^ n) 32 (f.part s) := by
  rw [← part_eq h]
  exact (Bd.mk (Nat.two_pow_pos n)).mono (signs_sum_le h s)
theorem part_sm (h : Ans n f) (s : Nat) : Sm (f.part s) := by
  have := two32 h.n5
  exact (part_bd h s).sm (by omega) (by omega)
theorem psq_bd (h : Ans n f) (s : Nat) : Bd (2 ^ n * 2 ^ n) 1024 (f.part s * f.part s) := (part_bd h s).mul (part_bd h s)
theorem nn (h : n ≤ 5) : 2 ^ n * 2 ^ n ≤ 1024 := by
  have := Nat.mul_le_mul (two32 h) (two32 h)
  omega
theorem psq_sm (h : Ans n f) (s : Nat) : Sm (f.part s * f.part s) := by
  have := nn h.n5
  exact (psq_bd h s).sm (by omega) (by omega)
/-- the level, of the first j sets -/
def lev (f : Answer) (j k : Nat) : Rat := sum ((((words f.n).take j).filter fun s => bits f.n s == k).map fun s => f.part s * f.part s)
theorem lev_all (h : Ans n f) (k : Nat) : lev f (2 ^ n) k = f.level k := by
  unfold lev Answer.level words
  rw [List.take_of_length_le (by rw [List.length_range, h.eq]; exact Nat.le_refl _)]
theorem take_words {n j : Nat} (h : j < 2 ^ n) : (words n).take (j + 1) = (words n).take j ++ [j] := by
  unfold words
  rw [List.take_range, List.take_range, Nat.min_eq_left (by omega), Nat.min_eq_left (by omega), List.range_succ]
theorem lev_here (h : Ans n f) {j : Nat} (hj : j < 2 ^ n) : lev f (j + 1) (bits n j) = lev f j (bits n j) + f.part j * f.part j := by
  unfold lev
  rw [h.eq, take_words hj, List.filter_append, List.map_append, sum_append]
  have : List.filter (fun s => bits n s == bits n j) [j] = [j] := by simp
  rw [this, List.map_cons, List.map_nil, sum_cons, sum_nil, Rat.add_zero]
theorem lev_else (h : Ans n f) {j k : Nat} (hj : j < 2 ^ n) (hk : k ≠ bits n j) : lev f (j + 1) k = lev f j k := by
  unfold lev
  rw [h.eq, take_words hj, List.filter_append, List.map_append, sum_append]
  have : List.filter (fun s => bits n s == k) [j] = [] := by
    have : (bits n j == k) = false := by simpa using fun e => hk e.symm
    simp [this]
  rw [this, List.map_nil, sum_nil, Rat.add_zero]
theorem lev_zero (f : Answer) (k : Nat) : lev f 0 k = 0 := by
  unfold lev
  rw [List.take_zero]
  rfl
theorem lev_sm (h : Ans n f) (j k : Nat) : Sm (lev f j k) := by
  have hn := nn h.n5
  have := sum_bd (D := 2 ^ n * 2 ^ n) (M := 1024) (Nat.mul_pos (Nat.two_pow_pos n) (Nat.two_pow_pos n)) (l := (((words f.n).take j).filter fun s => bits f.n s == k).map fun s => f.part s * f.part s) (fun r hr => by
    obtain ⟨s, _, rfl⟩ := List.mem_map.mp hr
    exact psq_bd h s) (by
      rw [List.length_map]
      refine Nat.le_trans (List.length_filter_le _ _) ?_
      rw [List.length_take]
      have := words_len h
      omega) 32
  rw [List.take_of_length_le (by
      rw [List.length_map]
      refine Nat.le_trans (List.length_filter_le _ _) ?_
      rw [List.length_take]
      have := words_len h
      omega)] at this
  exact this.sm (by omega) (by omega)
end

/-! ### the worst -/
/-- the index of the least so far, among the first j -/
def wst (l : List Rat) : Nat → Nat
  | 0 => 0
  | j + 1 => if l.getD j 0 < l.getD (wst l j) 0 then j else wst l j
theorem wst_lt {l : List Rat} (h : 0 < l.length) : ∀ {j : Nat}, j ≤ l.length → wst l j < l.length
  | 0, _ => h
  | j + 1, hj => by
    unfold wst
    split
    · omega
    · exact wst_lt h (by omega)
theorem worst_eq {n : Nat} {f : Answer} (h : Ans n f) (e : Rat) : Krdl.worst f e = (wst (rights f e) (2 ^ n), (rights f e).getD (wst (rights f e) (2 ^ n)) 0) := by
  have hlen : (rights f e).length = 2 ^ n := by unfold rights words; rw [List.length_map, List.length_range, h.eq]
  have hget : ∀ x, x < 2 ^ n → (rights f e).getD x 0 = right f e x := fun x hx => by
    rw [List.getD_eq_getElem?_getD]
    unfold rights words
    rw [List.getElem?_map, List.getElem?_range (by rw [h.eq]; exact hx)]
    rfl
  have main : ∀ j, j ≤ 2 ^ n → (List.range j).foldl (fun (b : Nat × Rat) x => let v := if f.at_ x then Krdl.soft f e x else 1 - Krdl.soft f e x
      if v < b.2 then (x, v) else b) (0, if f.at_ 0 then Krdl.soft f e 0 else 1 - Krdl.soft f e 0) = (wst (rights f e) j, (rights f e).getD (wst (rights f e) j) 0) := by
    intro j
    induction j with
    | zero => intro _; show (0, right f e 0) = (0, (rights f e).getD 0 0); rw [hget 0 (Nat.two_pow_pos n)]
    | succ j ih =>
      intro hj
      rw [List.range_succ, List.foldl_append, ih (by omega)]
      show (if right f e j < (rights f e).getD (wst (rights f e) j) 0 then (j, right f e j) else _) = _
      rw [← hget j (by omega)]
      show _ = ((if (rights f e).getD j 0 < (rights f e).getD (wst (rights f e) j) 0 then j else wst (rights f e) j), (rights f e).getD (if (rights f e).getD j 0 < (rights f e).getD (wst (rights f e) j) 0 then j else wst (rights f e) j) 0)
      by_cases hc : (rights f e).getD j 0 < (rights f e).getD (wst (rights f e) j) 0
      · rw [if_pos hc, if_pos hc]
      · rw [if_neg hc, if_neg hc]
  unfold Krdl.worst words
  rw [h.eq]
  exact main _ (Nat.le_refl _)
end Mh
/-! ## Mh3 -/
namespace Mh
open Krdk
abbrev Desk := Krdl.Desk
/-- what a call is, by its number, its numbers and its list -/
def cl (p a b : Nat) (l : List Nat) : Krdl.Call := match p with
  | 0 => .base (.begin_ a)
  | 1 => .base (.told l)
  | 2 => .base (.least a l)
  | 3 => .base (.odd a)
  | 4 => .base (.bit a)
  | 5 => .base .not_
  | 6 => .base (.turn a)
  | 7 => .base (.set a b)
  | 8 => .base (.ask a)
  | 9 => .base .mean
  | 10 => .base .levels
  | 11 => .base .state
  | 12 => .chance a b
  | 13 => .heard a b
  | 14 => .soft a
  | 15 => .stays
  | 16 => .agree
  | 17 => .worst
  | 18 => .even
  | 19 => .onebit
  | 20 => .ifchance a b
  | 21 => .keep
  | _ => .likelier
theorem call_cl (c : KrdlNeutral.Call) : KrdlNeutral.call c = cl (KrdlNeutral.n c 0) (KrdlNeutral.n c 1) (KrdlNeutral.n c 2) (KrdlNeutral.m c 1) := by
  unfold KrdlNeutral.call cl
  rfl
/-- an object as it may be -/
structure Ok (d : Desk) : Prop where
  n1 : 1 ≤ d.f.n
  ans : Ans d.f.n d.f
  ch : Ch d.e
  kept : ∀ g, d.kept = some g → Ans d.f.n g
theorem Ok.lo {d : Desk} (h : Ok d) : ∃ B, Lo d.f.n d.e B := h.ch.lo h.ans.n5
def allW (n : Nat) (l : List Nat) : Bool := l.all fun x => decide (x < 2 ^ n)
theorem allW_eq (n : Nat) (l : List Nat) : (l.all fun w => !(decide (2 ^ n ≤ w))) = allW n l := by
  unfold allW
  congr 1
  funext w
  by_cases h : 2 ^ n ≤ w
  · rw [decide_eq_true h, decide_eq_false (by omega)]; rfl
  · rw [decide_eq_false h, decide_eq_true (by omega)]; rfl
/-- with another answer -/
def Dp (d : Desk) (g : Answer) : Desk := { d with f := g }
theorem Ok.put {d : Desk} (h : Ok d) {g : Answer} (k : Ans d.f.n g) : Ok (Dp d g) := by
  have e : g.n = d.f.n := k.eq
  refine ⟨?_, ?_, h.ch, fun g' hg => ?_⟩
  · show 1 ≤ g.n
    rw [e]; exact h.n1
  · show Ans g.n g
    rw [e]; exact k
  · show Ans g.n g'
    rw [e]; exact h.kept g' hg
abbrev Act (d : Desk) (p a b : Nat) (l : List Nat) := Krdl.act (some d) (cl p a b l)
section
variable {d : Desk} {a b : Nat} {l : List Nat}
/-- no refusal: the new object and what's told -/
def Put (d : Desk) (g : Answer) : Krdl.Abs × Krdk.Ans := (some (Dp d g), nat g.yes)
def No (d : Desk) (v : Int) : Krdl.Abs × Krdk.Ans := (some d, say v)
theorem a1 : Act d 1 a b l = if decide (32 < l.length) || !(allW d.f.n l) then No d (-22) else Put d (of d.f.n fun w => l.contains w) := by
  show Krdl.act (some d) (.base (.told l)) = _
  rw [← allW_eq]
  unfold Krdl.act Krdk.act
  dsimp only
  by_cases h : (decide (32 < l.length) || !l.all fun w => !decide (2 ^ d.f.n ≤ w)) = true
  · rw [if_pos h, if_pos h]; rfl
  · rw [if_neg h, if_neg h]; rfl
theorem a2 : Act d 2 a b l = if l.length ≠ d.f.n || !(l.all fun v => decide (v ≤ 9)) then No d (-22) else Put d (of d.f.n fun w => decide (a ≤ weigh d.f.n l w)) := by
  show Krdl.act (some d) (.base (.least a l)) = _
  unfold Krdl.act Krdk.act
  dsimp only
  by_cases h : (decide (l.length ≠ d.f.n) || !l.all fun v => decide (v ≤ 9)) = true
  · rw [if_pos h, if_pos h]; rfl
  · rw [if_neg h, if_neg h]; rfl
theorem a3 : Act d 3 a b l = if decide (2 ^ d.f.n ≤ a) then No d (-22) else Put d (of d.f.n fun w => meet d.f.n a w % 2 == 1) := by
  show Krdl.act (some d) (.base (.odd a)) = _
  unfold Krdl.act Krdk.act
  dsimp only
  by_cases h : decide (2 ^ d.f.n ≤ a) = true
  · rw [if_pos h, if_pos h]; rfl
  · rw [if_neg h, if_neg h]; rfl
theorem a4 : Act d 4 a b l = if decide (d.f.n ≤ a) then No d (-2) else Put d (of d.f.n fun w => w.testBit a) := by
  show Krdl.act (some d) (.base (.bit a)) = _
  unfold Krdl.act Krdk.act
  dsimp only
  by_cases h : decide (d.f.n ≤ a) = true
  · rw [if_pos h, if_pos h]; rfl
  · rw [if_neg h, if_neg h]; rfl
theorem a5 : Act d 5 a b l = Put d (of d.f.n fun w => !d.f.at_ w) := rfl
theorem a6 : Act d 6 a b l = if decide (d.f.n ≤ a) then No d (-2) else Put d (of d.f.n fun w => d.f.at_ (flip w a)) := by
  show Krdl.act (some d) (.base (.turn a)) = _
  unfold Krdl.act Krdk.act
  dsimp only
  by_cases h : decide (d.f.n ≤ a) = true
  · rw [if_pos h, if_pos h]; rfl
  · rw [if_neg h, if_neg h]; rfl
theorem a7 : Act d 7 a b l = if decide (2 ^ d.f.n ≤ a) || decide (1 < b) then No d (-22) else Put d ⟨d.f.n, d.f.t.set a (b == 1)⟩ := by
  show Krdl.act (some d) (.base (.set a b)) = _
  unfold Krdl.act Krdk.act
  dsimp only
  by_cases h : (decide (2 ^ d.f.n ≤ a) || decide (1 < b)) = true
  · rw [if_pos h, if_pos h]; rfl
  · rw [if_neg h, if_neg h]; rfl
theorem a8 : Act d 8 a b l = if decide (2 ^ d.f.n ≤ a) then No d (-22) else (some d, Krdk.ask (d.f.at_ a)) := by
  show Krdl.act (some d) (.base (.ask a)) = _
  unfold Krdl.act Krdk.act
  dsimp only
  by_cases h : decide (2 ^ d.f.n ≤ a) = true
  · rw [if_pos h, if_pos h]; rfl
  · rw [if_neg h, if_neg h]
theorem a9 : Act d 9 a b l = (some d, frac d.f.mean) := rfl
theorem a10 : Act d 10 a b l = (some d, { num := (d.f.n : Int) + 1, nums := (List.range (d.f.n + 1)).flatMap fun k => fr (d.f.level k) }) := rfl
theorem a11 : Act d 11 a b l = (some d, { num := d.f.n, nums := Krdk.«ints» ((words d.f.n).filter d.f.at_) }) := rfl
theorem a12 : Act d 12 a b l = if !Krdl.chanceOk a b then No d (-22) else (some { d with e := (a : Rat) / (b : Rat) }, say 0) := rfl
theorem a13 : Act d 13 a b l = if decide (2 ^ d.f.n ≤ a) || decide (2 ^ d.f.n ≤ b) then No d (-22) else (some d, frac (Krdl.heard d.f.n d.e a b)) := by
  show Krdl.act (some d) (.heard a b) = _
  unfold Krdl.act
  dsimp only
  split <;> rfl
theorem a14 : Act d 14 a b l = if decide (2 ^ d.f.n ≤ a) then No d (-22) else (some d, frac (Krdl.soft d.f d.e a)) := by
  show Krdl.act (some d) (.soft a) = _
  unfold Krdl.act
  dsimp only
  split <;> rfl
theorem a15 : Act d 15 a b l = (some d, frac (Krdl.stays d.f d.e)) := rfl
theorem a16 : Act d 16 a b l = (some d, frac (Krdl.agree d.f d.e)) := rfl
theorem a17 : Act d 17 a b l = (some d, { num := (Krdl.worst d.f d.e).1, nums := fr (Krdl.worst d.f d.e).2 }) := rfl
theorem a18 : Act d 18 a b l = (some d, Krdk.ask (Krdl.even d.f)) := rfl
theorem a19 : Act d 19 a b l = (some d, frac (1 - d.e)) := rfl
theorem a20 : Act d 20 a b l = if !Krdl.chanceOk a b then No d (-22) else (some d, frac (Krdl.stays d.f ((a : Rat) / (b : Rat)))) := by
  show Krdl.act (some d) (.ifchance a b) = _
  unfold Krdl.act
  dsimp only
  split <;> rfl
theorem a21 : Act d 21 a b l = (some { d with kept := some d.f }, nat d.f.yes) := rfl
theorem a22n (h : d.kept = none) : Act d 22 a b l = No d (-6) := by
  show Krdl.act (some d) .likelier = _
  unfold Krdl.act
  dsimp only
  rw [h]; rfl
theorem a22s {g : Answer} (h : d.kept = some g) : Act d 22 a b l = (some d, { num := if Krdl.stays g d.e < Krdl.stays d.f d.e then 1 else 0, nums := fr (Krdl.stays d.f d.e - Krdl.stays g d.e) }) := by
  show Krdl.act (some d) .likelier = _
  unfold Krdl.act
  dsimp only
  rw [h]
end
def fresh (n : Nat) : Desk := ⟨of n fun _ => false, 1 / 10, none⟩
theorem begin_no {s : Krdl.Abs} {n b : Nat} {l : List Nat} (h : ¬ (1 ≤ n ∧ n ≤ 5)) : Krdl.act s (cl 0 n b l) = (s, say (-22)) := by
  show Krdl.act s (.base (.begin_ n)) = _
  unfold Krdl.act Krdk.act
  have : (decide (n = 0) || decide (mostBits < n)) = true := by
    unfold mostBits
    simp only [Bool.or_eq_true, decide_eq_true_eq]; omega
  dsimp only
  rw [if_pos this]
theorem begin_yes {s : Krdl.Abs} {n b : Nat} {l : List Nat} (h : 1 ≤ n ∧ n ≤ 5) : Krdl.act s (cl 0 n b l) = (some (fresh n), say 0) := by
  show Krdl.act s (.base (.begin_ n)) = _
  unfold Krdl.act Krdk.act
  have : ¬ (decide (n = 0) || decide (mostBits < n)) = true := by
    unfold mostBits
    simp only [Bool.or_eq_true, decide_eq_true_eq]; omega
  dsimp only
  rw [if_neg this]
  rfl
theorem none_no {p a b : Nat} {l : List Nat} (h : p ≠ 0) : Krdl.act none (cl p a b l) = (none, say (-11)) := by
  unfold cl
  split <;> first | rfl | (exact absurd rfl h)
theorem ok_fresh {n : Nat} (h : 1 ≤ n ∧ n ≤ 5) : Ok (fresh n) := ⟨h.1, ans_of h.2 _, ch_first, fun g hg => by cases hg⟩
theorem act_ok {d : Desk} (h : Ok d) {p a b : Nat} {l : List Nat} {d' : Desk} {r : Krdk.Ans} (e : Krdl.act (some d) (cl p a b l) = (some d', r)) : Ok d' := by
  have same : ∀ {x : Krdk.Ans}, ((some d : Krdl.Abs), x) = (some d', r) → Ok d' := fun z => by
    have := (Prod.mk.inj z).1
    cases this; exact h
  have put : ∀ {g : Answer}, Ans d.f.n g → Put d g = (some d', r) → Ok d' := fun k z => by
    have := (Prod.mk.inj z).1
    cases this; exact h.put k
  have n5 := h.ans.n5
  by_cases hp : p = 0
  · subst hp
    by_cases hn : 1 ≤ a ∧ a ≤ 5
    · rw [begin_yes hn] at e
      have := (Prod.mk.inj e).1
      cases this
      exact ok_fresh hn
    · rw [begin_no hn] at e; exact same e
  by_cases h22 : 22 ≤ p
  · have e22 : cl p a b l = .likelier := by
      unfold cl
      split <;> first | omega | rfl
    rw [e22] at e
    exact same e
  have hlt : p < 22 := by omega
  match p, hp, hlt with
  | 1, _, _ => rw [show Krdl.act (some d) _ = _ from a1] at e; split at e; exact same e; exact put (ans_of n5 _) e
  | 2, _, _ => rw [show Krdl.act (some d) _ = _ from a2] at e; split at e; exact same e; exact put (ans_of n5 _) e
  | 3, _, _ => rw [show Krdl.act (some d) _ = _ from a3] at e; split at e; exact same e; exact put (ans_of n5 _) e
  | 4, _, _ => rw [show Krdl.act (some d) _ = _ from a4] at e; split at e; exact same e; exact put (ans_of n5 _) e
  | 5, _, _ => rw [show Krdl.act (some d) _ = _ from a5] at e; exact put (ans_of n5 _) e
  | 6, _, _ => rw [show Krdl.act (some d) _ = _ from a6] at e; split at e; exact same e; exact put (ans_of n5 _) e
  | 7, _, _ => rw [show Krdl.act (some d) _ = _ from a7] at e; split at e; exact same e; exact put (ans_set h.ans _ _) e
  | 8, _, _ => rw [show Krdl.act (some d) _ = _ from a8] at e; split at e; exact same e; exact same e
  | 9, _, _ => rw [show Krdl.act (some d) _ = _ from a9] at e; exact same e
  | 10, _, _ => rw [show Krdl.act (some d) _ = _ from a10] at e; exact same e
  | 11, _, _ => rw [show Krdl.act (some d) _ = _ from a11] at e; exact same e
  | 12, _, _ =>
    rw [show Krdl.act (some d) _ = _ from a12] at e
    split at e
    · exact same e
    · rename_i hc
      have := (Prod.mk.inj e).1
      cases this
      have hc' : Krdl.chanceOk a b = true := by
        cases q : Krdl.chanceOk a b with
        | true => rfl
        | false => rw [q] at hc; exact absurd rfl hc
      exact ⟨h.n1, h.ans, (ch_of hc').1, h.kept⟩
  | 13, _, _ => rw [show Krdl.act (some d) _ = _ from a13] at e; split at e; exact same e; exact same e
  | 14, _, _ => rw [show Krdl.act (some d) _ = _ from a14] at e; split at e; exact same e; exact same e
  | 15, _, _ => rw [show Krdl.act (some d) _ = _ from a15] at e; exact same e
  | 16, _, _ => rw [show Krdl.act (some d) _ = _ from a16] at e; exact same e
  | 17, _, _ => rw [show Krdl.act (some d) _ = _ from a17] at e; exact same e
  | 18, _, _ => rw [show Krdl.act (some d) _ = _ from a18] at e; exact same e
  | 19, _, _ => rw [show Krdl.act (some d) _ = _ from a19] at e; exact same e
  | 20, _, _ => rw [show Krdl.act (some d) _ = _ from a20] at e; split at e; exact same e; exact same e
  | 21, _, _ =>
    rw [show Krdl.act (some d) _ = _ from a21] at e
    have := (Prod.mk.inj e).1
    cases this
    refine ⟨h.n1, h.ans, h.ch, fun g hg => ?_⟩
    cases hg
    exact h.ans
  | p + 22, _, hlt => omega
end Mh
/-! ## Mh4 -/
namespace Mh
open Krdk
def numL : List Nat := [1, 0, 1, 1, 1, 0, 1, 2, 1, 0, 0, 0, 2, 2, 1, 0, 0, 0, 0, 0, 2, 0, 0]
def nums (p : Nat) : Nat := numL.getD p 0
def rws (p : Nat) : Nat := if p = 1 ∨ p = 2 then 1 else 0
theorem shape_of : ∀ p : Nat, p < 23 → PyKrdl.shape (p : Int) = some (nums p, rws p) := by decide
theorem shape_lt {p : Int} {n k : Nat} (h : PyKrdl.shape p = some (n, k)) : 0 ≤ p ∧ p < 23 := by
  apply Classical.byContradiction
  intro hn
  have : PyKrdl.shape p = none := by
    unfold PyKrdl.shape
    repeat rw [if_neg (by omega)]
  rw [this] at h
  cases h
theorem shape_some {p : Nat} {n k : Nat} (h : PyKrdl.shape (p : Int) = some (n, k)) : p < 23 ∧ n = nums p ∧ k = rws p := by
  have hp := shape_lt h
  have hlt : p < 23 := by omega
  rw [shape_of p hlt] at h
  have := Option.some.inj h
  exact ⟨hlt, (Prod.mk.inj this).1.symm, (Prod.mk.inj this).2.symm⟩
def nz (l : List Nat) : List Int := l.map fun (k : Nat) => (k : Int)
theorem nz_drop (l : List Nat) (i : Nat) : (nz l).drop i = nz (l.drop i) := by simp [nz]
theorem nz_take (l : List Nat) (i : Nat) : (nz l).take i = nz (l.take i) := by simp [nz]
theorem nz_length (l : List Nat) : (nz l).length = l.length := by simp [nz]
theorem nz_get (l : List Nat) (i : Nat) : (nz l)[i]? = (l[i]?).map fun (k : Nat) => (k : Int) := by simp [nz]
theorem nz_toNat (l : List Nat) : (nz l).map Int.toNat = l := by
  unfold nz
  rw [List.map_map]
  have : (Int.toNat ∘ fun (k : Nat) => (k : Int)) = id := by funext k; simp
  rw [this, List.map_id]
theorem nz_inj {l m : List Nat} (h : nz l = nz m) : l = m := by
  have := congrArg (List.map Int.toNat) h
  rwa [nz_toNat, nz_toNat] at this
theorem nz_of {l : List Int} (h : ∀ z ∈ l, 0 ≤ z) : l = nz (l.map Int.toNat) := by
  induction l with
  | nil => rfl
  | cons x l ih =>
    unfold nz at *
    rw [List.map_cons, List.map_cons, ← ih fun z hz => h z (List.mem_cons_of_mem _ hz)]
    have := h x List.mem_cons_self
    congr 1
    omega
theorem nz_getD (l : List Nat) (i : Nat) : ((nz l).getD i 0).toNat = l.getD i 0 := by
  rw [List.getD_eq_getElem?_getD, List.getD_eq_getElem?_getD, nz_get]
  cases l[i]? <;> simp
/-- the numbers of the call at i -/
def numsAt (L : List Nat) (i p : Nat) : List Nat := (L.drop (i + 1)).take (nums p)
def said (y : Krdl.Abs × Krdk.Ans) : Krdl.Abs × List Int := (y.1, KrdlNeutral.told y.2)
theorem step_cl {s : Krdl.Abs} {p : Nat} {ns ll : List Nat} {rs : List (List Int)} (h : rs = [] ∧ ll = [] ∨ rs = [nz ll]) :
    KrdlNeutral.step s (((p : Int) :: nz ns) :: rs) = said (Krdl.act s (cl p (ns.getD 0 0) (ns.getD 1 0) ll)) := by
  have e1 : KrdlNeutral.n (((p : Int) :: nz ns) :: rs) 0 = p := by
    unfold KrdlNeutral.n KrdlNeutral.i
    simp
  have e2 : KrdlNeutral.n (((p : Int) :: nz ns) :: rs) 1 = ns.getD 0 0 := nz_getD ns 0
  have e3 : KrdlNeutral.n (((p : Int) :: nz ns) :: rs) 2 = ns.getD 1 0 := nz_getD ns 1
  have e4 : KrdlNeutral.m (((p : Int) :: nz ns) :: rs) 1 = ll := by
    unfold KrdlNeutral.m KrdlNeutral.r
    rcases h with ⟨rfl, rfl⟩ | rfl
    · rfl
    · exact nz_toNat ll
  unfold KrdlNeutral.step
  rw [call_cl, e1, e2, e3, e4]
  rfl
theorem drop_cons {L : List Nat} {i : Nat} (hi : i < L.length) : L.drop i = L.getD i 0 :: L.drop (i + 1) := by
  rw [List.drop_eq_getElem_cons hi, List.getD_eq_getElem?_getD, List.getElem?_eq_getElem hi]
  rfl
theorem dec_step {L : List Nat} {i f : Nat} {cs : List (List (List Int))} (hi : i < L.length) (h : PyFlat.calls PyKrdl.shape f ((nz L).drop i) = some cs) :
    ∃ (p : Nat) (ll : List Nat) (j : Nat) (c : List (List Int)) (cs' : List (List (List Int))) (g : Nat), p < 23 ∧ L[i]? = some p ∧ i + 1 + nums p ≤ L.length ∧
      ((rws p = 0 ∧ ll = [] ∧ j = i + 1 + nums p) ∨ (rws p = 1 ∧ ∃ m, L[i + 1 + nums p]? = some m ∧ ll = (L.drop (i + 2 + nums p)).take m ∧ j = i + 2 + nums p + m)) ∧ j ≤ L.length ∧ i < j ∧
      cs = c :: cs' ∧ PyFlat.calls PyKrdl.shape g ((nz L).drop j) = some cs' ∧
      ∀ s, KrdlNeutral.step s c = said (Krdl.act s (cl p ((numsAt L i p).getD 0 0) ((numsAt L i p).getD 1 0) ll)) := by
  rw [nz_drop, drop_cons hi] at h
  have hLi : L[i]? = some (L.getD i 0) := by
    rw [List.getD_eq_getElem?_getD, List.getElem?_eq_getElem hi]; rfl
  generalize L.getD i 0 = p at h hLi
  cases f with
  | zero => cases h
  | succ f =>
    have h1 : (match PyFlat.call PyKrdl.shape ((p : Int) :: nz (L.drop (i + 1))) with
      | none => none
      | some (c, t) => match PyFlat.calls PyKrdl.shape f t with
        | none => none
        | some cs => some (c :: cs)) = some cs := h
    cases hc : PyFlat.call PyKrdl.shape ((p : Int) :: nz (L.drop (i + 1))) with
    | none => rw [hc] at h1; cases h1
    | some ct =>
      obtain ⟨c, t⟩ := ct
      rw [hc] at h1
      have h2 : (match PyFlat.calls PyKrdl.shape f t with
        | none => none
        | some cs => some (c :: cs)) = some cs := h1
      cases hcs : PyFlat.calls PyKrdl.shape f t with
      | none => rw [hcs] at h2; cases h2
      | some cs' =>
        rw [hcs] at h2
        have e2 := Option.some.inj h2
        subst e2
        have h3 : (match PyKrdl.shape (p : Int) with
          | none => none
          | some (n, k) => if (nz (L.drop (i + 1))).length < n then none else match PyFlat.rows k ((nz (L.drop (i + 1))).drop n) with
            | none => none
            | some (xs, t) => some (((p : Int) :: (nz (L.drop (i + 1))).take n) :: xs, t)) = some (c, t) := hc
        cases hs : PyKrdl.shape (p : Int) with
        | none => rw [hs] at h3; cases h3
        | some nk =>
          obtain ⟨n, k⟩ := nk
          rw [hs] at h3
          obtain ⟨hp, rfl, rfl⟩ := shape_some hs
          have h4 : (if (nz (L.drop (i + 1))).length < nums p then none else match PyFlat.rows (rws p) ((nz (L.drop (i + 1))).drop (nums p)) with
            | none => none
            | some (xs, t) => some (((p : Int) :: (nz (L.drop (i + 1))).take (nums p)) :: xs, t)) = some (c, t) := h3
          by_cases hl : (nz (L.drop (i + 1))).length < nums p
          · rw [if_pos hl] at h4; cases h4
          rw [if_neg hl, nz_drop, nz_take, List.drop_drop] at h4
          rw [nz_length, List.length_drop] at hl
          have hlen : i + 1 + nums p ≤ L.length := by omega
          by_cases hr : p = 1 ∨ p = 2
          · have er : rws p = 1 := if_pos hr
            rw [er] at h4
            have h5 : (match (match PyFlat.row (nz (L.drop (i + 1 + nums p))) with
                | none => none
                | some (x, s) => some ([x], s) : Option (List (List Int) × List Int)) with
              | none => none
              | some (xs, t) => some (((p : Int) :: nz ((L.drop (i + 1)).take (nums p))) :: xs, t)) = some (c, t) := h4
            cases hrow : PyFlat.row (nz (L.drop (i + 1 + nums p))) with
            | none => rw [hrow] at h5; cases h5
            | some xs =>
              obtain ⟨x, s⟩ := xs
              rw [hrow] at h5
              have h6 := Option.some.inj (show some (((p : Int) :: nz ((L.drop (i + 1)).take (nums p))) :: [x], s) = some (c, t) from h5)
              obtain ⟨ec, et⟩ := Prod.mk.inj h6
              subst ec et
              by_cases hlt : i + 1 + nums p < L.length
              · rw [drop_cons hlt] at hrow
                have hLm : L[i + 1 + nums p]? = some (L.getD (i + 1 + nums p) 0) := by
                  rw [List.getD_eq_getElem?_getD, List.getElem?_eq_getElem hlt]; rfl
                generalize L.getD (i + 1 + nums p) 0 = m at hrow hLm
                have h7 : (if 0 ≤ (m : Int) ∧ (m : Int).toNat ≤ (nz (L.drop (i + 1 + nums p + 1))).length then some ((nz (L.drop (i + 1 + nums p + 1))).take (m : Int).toNat, (nz (L.drop (i + 1 + nums p + 1))).drop (m : Int).toNat) else none) = some (x, s) := hrow
                by_cases hm : 0 ≤ (m : Int) ∧ (m : Int).toNat ≤ (nz (L.drop (i + 1 + nums p + 1))).length
                · rw [if_pos hm] at h7
                  obtain ⟨ex, es⟩ := Prod.mk.inj (Option.some.inj h7)
                  have em : (m : Int).toNat = m := by simp
                  rw [em] at ex es hm
                  have hm2 := hm.2
                  rw [nz_length, List.length_drop] at hm2
                  rw [nz_take] at ex
                  rw [nz_drop, List.drop_drop] at es
                  refine ⟨p, (L.drop (i + 2 + nums p)).take m, i + 2 + nums p + m, _, cs', f, hp, hLi, hlen, .inr ⟨er, m, hLm, rfl, rfl⟩, by omega, by omega, rfl, ?_, fun s' => ?_⟩
                  · rw [nz_drop, show i + 2 + nums p + m = i + 1 + nums p + 1 + m by omega, es]
                    exact hcs
                  · refine step_cl (.inr ?_)
                    rw [← ex, show i + 2 + nums p = i + 1 + nums p + 1 by omega]
                · rw [if_neg hm] at h7; cases h7
              · rw [List.drop_eq_nil_of_le (by omega)] at hrow
                cases hrow
          · have er : rws p = 0 := if_neg hr
            rw [er] at h4
            have h6 := Option.some.inj (show some (((p : Int) :: nz ((L.drop (i + 1)).take (nums p))) :: [], nz (L.drop (i + 1 + nums p))) = some (c, t) from h4)
            obtain ⟨ec, et⟩ := Prod.mk.inj h6
            subst ec et
            exact ⟨p, [], i + 1 + nums p, _, cs', f, hp, hLi, hlen, .inl ⟨er, rfl, rfl⟩, hlen, by omega, rfl, by rw [nz_drop]; exact hcs, fun s' => step_cl (.inl ⟨rfl, rfl⟩)⟩
theorem whole_id (c : List (List Int)) : PyKrdl.whole c = c := by
  unfold PyKrdl.whole
  split <;> rfl
/-- what is due of the calls that are left, from a state -/
def due (s : Krdl.Abs) (cs : List (List (List Int))) : List Int := PyFlat.told (PyFlat.played KrdlNeutral.step s cs)
theorem due_nil (s : Krdl.Abs) : due s [] = [] := rfl
theorem due_cons (s : Krdl.Abs) (c : List (List Int)) (cs : List (List (List Int))) : due s (c :: cs) = ((((KrdlNeutral.step s c).2.length : Nat) : Int) :: (KrdlNeutral.step s c).2) ++ due (KrdlNeutral.step s c).1 cs := by
  unfold due PyFlat.told
  rw [PyFlat.played, List.flatMap_cons]
theorem answers_due {l : List Int} {cs : List (List (List Int))} (h : PyFlat.calls PyKrdl.shape l.length l = some cs) : PyKrdl.answers l = due none cs := by
  unfold PyKrdl.answers PyKrdl.calls
  rw [h]
  have : cs.map PyKrdl.whole = cs := by
    have e : PyKrdl.whole = id := by funext c; exact whole_id c
    rw [e, List.map_id]
  show PyFlat.told (PyFlat.played KrdlNeutral.step KrdlNeutral.start (cs.map PyKrdl.whole)) = _
  rw [this]
  rfl
theorem asked_of {l : List Int} (h : PyKrdl.answers_asked l = true) : ∃ cs, PyFlat.calls PyKrdl.shape l.length l = some cs ∧ (PyKrdl.answers l).length ≤ 10000000 := by
  unfold PyKrdl.answers_asked at h
  cases e : PyFlat.calls PyKrdl.shape l.length l with
  | none => rw [e] at h; cases h
  | some raw =>
    rw [e] at h
    have h2 : (!raw.isEmpty && PyFlat.atMost 40 raw && PyInside.calls PyKrdl.bound raw && KrdlNeutral.asked (raw.map PyKrdl.whole) && PyFlat.short 10000000 (PyKrdl.answers l)) = true := h
    rw [Bool.and_eq_true] at h2
    exact ⟨raw, rfl, of_decide_eq_true h2.2⟩
end Mh
/-! ## Wk0 -/
namespace Wk
open PySem PySem.Spec PyProof.Rows L2
/-- the i-th statement of the program -/
def top (i : Nat) : Stmt := PySem.Challenge.pw_misheardbits_s01_answers.main.body.getD i (.Pass ⟨0, 0, 0, 0⟩)
/-- a def of the top as it stands: by its name, its parameters -/
def At (K : PySem.W.Frag) (mg : Str → Option Value) (nm : Str) (ps : List Str) (st : Stmt) : Prop :=
  ∃ (f : Addr) (fd : FuncData), mg nm = some (.ref f) ∧ Fun K nm nm st f fd ∧ Binds K fd ps []
/-- a method as it stands -/
def AtM (K : PySem.W.Frag) (C : Addr) (nm qual : Str) (ps : List Str) (st : Stmt) : Prop :=
  ∃ (f : Addr) (fd : FuncData), Meth K C nm f ∧ Fun K nm qual st f fd ∧ Binds K fd ps []
/-- a def that keeps a promise, by the name that calls it -/
def Kn (P : Program) (w : World) (K : PySem.W.Frag) (mg : Str → Option Value) (base : Heap) (CX : CXT) (k : Nat) (nm : Str) (ps : List Str) (sp : Sp) : Prop :=
  ∃ (f : Addr) (fd : FuncData), mg nm = some (.ref f) ∧ PySem.W.keepIn K (.ref f) = true ∧ Binds K fd ps [] ∧ FnOk P w K mg base CX k f fd ps sp
def KnM (P : Program) (w : World) (K : PySem.W.Frag) (mg : Str → Option Value) (base : Heap) (CX : CXT) (k : Nat) (C : Addr) (nm : Str) (ps : List Str) (sp : Sp) : Prop :=
  ∃ (f : Addr) (fd : FuncData), Meth K C nm f ∧ Binds K fd ps [] ∧ FnOk P w K mg base CX k f fd ps sp
section
variable {P : Program} {w : World} {K : PySem.W.Frag} {mg : Str → Option Value} {base : Heap} {CX : CXT} {k : Nat} {nm qual : Str} {ps : List Str} {sp : Sp} {st : Stmt} {C : Addr}
theorem At.kn (h : At K mg nm ps st) (ok : ∀ (f : Addr) (fd : FuncData), Fun K nm nm st f fd → FnOk P w K mg base CX k f fd ps sp) : Kn P w K mg base CX k nm ps sp := by
  obtain ⟨f, fd, h1, h2, h3⟩ := h
  exact ⟨f, fd, h1, h2.kp, h3, ok f fd h2⟩
theorem AtM.kn (h : AtM K C nm qual ps st) (ok : ∀ (f : Addr) (fd : FuncData), Fun K nm qual st f fd → FnOk P w K mg base CX k f fd ps sp) : KnM P w K mg base CX k C nm ps sp := by
  obtain ⟨f, fd, h1, h2, h3⟩ := h
  exact ⟨f, fd, h1, h3, ok f fd h2⟩
end
theorem at_mk {K : PySem.W.Frag} {h : Heap} {mg : Str → Option Value} {nm : Str} {ps : List Str} {st : Stmt} {f : Addr} {od an : Option Addr} {sl : Array (Option Value)} {oc kV dc pm cd ct : Value} (X : K.In h) (G : h.Ns mainGlobals mg)
    (a : PySem.W.nsIn K mainGlobals nm = some (some (.ref f))) (l : K.lookup f = some ⟨oc, od, .func (PySem.W.fnOf nm nm (defArgs st) (defBody st) (defScope st) .none kV dc pm an cd ct), sl⟩) (c : PySem.W.codeIn K cd nm = true) (k : PySem.W.keepIn K (.ref f) = true)
    (hb : ∀ (kV doc pm : Value) (an : Option Addr) (cdv ct : Value) (us : List Value), us.length = ps.length → bindArgs (PySem.W.fnOf nm nm (defArgs st) (defBody st) (defScope st) .none kV doc pm an cdv ct) ⟨us, []⟩ = pure (ps.zip us)) : At K mg nm ps st :=
  ⟨f, _, PySem.W.mg_of X G a, fun_mk (st := st) l c k, (fun_mk (st := st) l c k).binds hb⟩
theorem atM_mk {K : PySem.W.Frag} {C : Addr} {nm qual : Str} {ps : List Str} {st : Stmt} {f : Addr} {od an : Option Addr} {sl : Array (Option Value)} {oc kV dc pm cd ct : Value}
    (a : PySem.W.findIn K (.ref C) nm = some (some (.ref f))) (i : PySem.W.isFn K (.ref f) = true) (l : K.lookup f = some ⟨oc, od, .func (PySem.W.fnOf nm qual (defArgs st) (defBody st) (defScope st) .none kV dc pm an cd ct), sl⟩) (c : PySem.W.codeIn K cd qual = true) (k : PySem.W.keepIn K (.ref f) = true)
    (hb : ∀ (kV doc pm : Value) (an : Option Addr) (cdv ct : Value) (us : List Value), us.length = ps.length → bindArgs (PySem.W.fnOf nm qual (defArgs st) (defBody st) (defScope st) .none kV doc pm an cdv ct) ⟨us, []⟩ = pure (ps.zip us)) : AtM K C nm qual ps st :=
  ⟨f, _, ⟨a, i, k⟩, fun_mk (st := st) l c k, (fun_mk (st := st) l c k).binds hb⟩
theorem Kn.alias {P : Program} {w : World} {K : PySem.W.Frag} {mg : Str → Option Value} {base : Heap} {CX : CXT} {k : Nat} {nm nm' : Str} {ps : List Str} {sp : Sp} (h : Kn P w K mg base CX k nm ps sp) (e : mg nm' = mg nm) : Kn P w K mg base CX k nm' ps sp := by
  obtain ⟨f, fd, h1, h2⟩ := h
  exact ⟨f, fd, e.trans h1, h2⟩
/-- a tuple of the top: at a, whatever the heap -/
def Tp (K : PySem.W.Frag) (mg : Str → Option Value) (nm : Str) (xs : List V) : Prop := ∃ a : Addr, mg nm = some (.ref a) ∧ ∀ H : Hp, SqT K H a xs
theorem tp_mk {K : PySem.W.Frag} {h : Heap} {mg : Str → Option Value} {nm : Str} {a : Addr} {its : Array Value} {n : Nat} {d : Option Addr} {sl : Array (Option Value)} {xs : List V} (X : K.In h) (G : h.Ns mainGlobals mg) (e : PySem.W.nsIn K mainGlobals nm = some (some (.ref a)))
    (l : K.lookup a = some ⟨.type "tuple", d, .seq its n, sl⟩) (hz : its.size ≤ sizeLine) (hv : Vals xs its.toList) : Tp K mg nm xs :=
  ⟨a, PySem.W.mg_of X G e, fun H => .inr ⟨_, its, n, l, rfl, rfl, hz, hv⟩⟩
/-- a number of the top -/
def Nm (mg : Str → Option Value) (nm : Str) (z : Int) : Prop := ∃ t : Tok, mg nm = some (.int z t)
theorem nm_mk {K : PySem.W.Frag} {h : Heap} {mg : Str → Option Value} {nm : Str} {v : Value} {z : Int} (X : K.In h) (G : h.Ns mainGlobals mg) (e : PySem.W.nsIn K mainGlobals nm = some (some v)) (hv : ∃ t : Tok, v = .int z t) : Nm mg nm z := by
  obtain ⟨t, rfl⟩ := hv
  exact ⟨t, PySem.W.mg_of X G e⟩
/-! ### heaps -/
theorem SqT.same {K : PySem.W.Frag} {H H' : Hp} {a : Addr} {xs : List V} (e : Same H H') (h : SqT K H a xs) : SqT K H' a xs := by
  rcases h with (h | ⟨o, h⟩) | h
  · exact .inl (.inl (e _ _ h))
  · exact .inl (.inr ⟨o, e _ _ h⟩)
  · exact .inr h
theorem same_upd {H : Hp} {p : Addr} {o : HO} (h : H p = none) : Same H (upd H p o) := fun b o' e => by
  rw [upd_ne (ne_of_none e h)]
  exact e
/-- a fraction at an address -/
def Fr (K : PySem.W.Frag) (H : Hp) (a : Addr) (r : Rat) : Prop := SqT K H a [.int r.num, .int (r.den : Int)]
theorem Fr.same {K : PySem.W.Frag} {H H' : Hp} {a : Addr} {r : Rat} (e : Same H H') (h : Fr K H a r) : Fr K H' a r := SqT.same e h
/-- what a def that hands back a fraction promises -/
def gives (K : PySem.W.Frag) (H : Hp) (r : Rat) (Q : VK) : Prop := ∀ (H' : Hp) (p : Addr), Same H H' → Fr K H' p r → Q (.ref p) H'
theorem if_true_of {c : Bool} {A B : Prop} (hc : c = true) (h : A) : if c = true then A else B := by
  rw [if_pos hc]
  exact h
theorem if_false_of {c : Bool} {A B : Prop} (hc : c = false) (h : B) : if c = true then A else B := by
  rw [hc, if_neg Bool.false_ne_true]
  exact h
end Wk
/-! ## WkT -/
namespace Wk
open PySem PySem.Spec PyProof.Rows L2

/-- the own error's __init__ as it stands -/
def AtX (K : PySem.W.Frag) (C : Addr) (nm qual : Str) (ps : List Str) (st : Stmt) : Prop := ∃ (f : Addr) (fd : FuncData), PySem.W.findIn K (.ref C) nm = some (some (.ref f)) ∧ PySem.W.typeIn K (.ref f) = some (.type "function") ∧ Fun K nm qual st f fd ∧ Binds K fd ps []
theorem atX_mk {K : PySem.W.Frag} {C : Addr} {nm qual : Str} {ps : List Str} {st : Stmt} {f : Addr} {od an : Option Addr} {sl : Array (Option Value)} {oc kV dc pm cd ct : Value}
    (a : PySem.W.findIn K (.ref C) nm = some (some (.ref f))) (i : PySem.W.typeIn K (.ref f) = some (.type "function")) (l : K.lookup f = some ⟨oc, od, .func (PySem.W.fnOf nm qual (defArgs st) (defBody st) (defScope st) .none kV dc pm an cd ct), sl⟩) (c : PySem.W.codeIn K cd qual = true) (k : PySem.W.keepIn K (.ref f) = true)
    (hb : ∀ (kV doc pm : Value) (an : Option Addr) (cdv ct : Value) (us : List Value), us.length = ps.length → bindArgs (PySem.W.fnOf nm qual (defArgs st) (defBody st) (defScope st) .none kV doc pm an cdv ct) ⟨us, []⟩ = pure (ps.zip us)) : AtX K C nm qual ps st :=
  ⟨f, _, a, i, fun_mk (st := st) l c k, (fun_mk (st := st) l c k).binds hb⟩
theorem ox_mk {K : PySem.W.Frag} {C : Addr} {nm q : Str} {N : Addr} {bs : List Value} {sn : List Str} {sub : List Value} {ab : Bool} {col : Option Bool} {dd : Option Addr} {m0 m1 m2 m3 m5 : Option Value}
    (xL : K.lookup C = some (excClassObj nm q C N bs [.type "ValueError", .type "Exception", .type "BaseException", .type "object"] true sn sub ab col dd m0 m1 m2 m3 m5 "ValueError.__new__"))
    (sa : PySem.W.findIn K (.ref C) "__setattr__" = some (some (.builtin "object.__setattr__"))) (eC : PySem.W.subIn K (.ref C) (.type "BaseException") = some true) (tC : PySem.W.typeIn K (.ref C) = some (.type "type")) (kC : PySem.W.keepIn K (.ref C) = true) : OexC K C :=
  ⟨⟨nm, q, N, bs, _, sn, sub, ab, col, dd, m0, m1, m2, m3, m5, xL, by decide +kernel⟩, sa, eC, tC, kC⟩
/-- an error of the class at S is what «except S» names -/
theorem exm_self {K : PySem.W.Frag} {S : Addr} (h1 : PySem.W.subIn K (.ref S) (.type "BaseException") = some true) (h2 : PySem.W.isClsIn K S = true) (h3 : PySem.W.typeIn K (.ref S) = some (.type "type")) (h4 : PySem.W.subIn K (.ref S) (.ref S) = some true) :
    PySem.W.exmOne K (.ref S) (.ref S) = some true := by
  have e1 : (PySem.W.subIn K (.ref S) (.type "BaseException") == some true) = true := by rw [h1] <;> rfl
  have e2 : ((PySem.W.clsIn K S).isSome && PySem.W.typeIn K (.ref S) == some (.type "type")) = true := by
    have h2' : (PySem.W.clsIn K S).isSome = true := h2
    rw [h2', h3] <;> rfl
  show (if (PySem.W.subIn K (.ref S) (.type "BaseException") == some true) = true then (if ((PySem.W.clsIn K S).isSome && PySem.W.typeIn K (.ref S) == some (.type "type")) = true then PySem.W.subIn K (.ref S) (.ref S) else none) else none) = some true
  rw [if_pos e1, if_pos e2]
  exact h4
/-- what the top has written -/
structure Tx (K : PySem.W.Frag) (mg : Str → Option Value) (C CR : Addr) : Prop where
  d_divisor : At K mg "divisor" ["one", "other"] (top 3)
  d_share : At K mg "share" ["upper", "lower"] (top 4)
  d_added : At K mg "added" ["one", "other"] (top 5)
  d_less : At K mg "less" ["one", "other"] (top 6)
  d_multiplied : At K mg "multiplied" ["one", "other"] (top 7)
  d_often : At K mg "often" ["one", "many"] (top 8)
  d_all_added : At K mg "all_added" ["some"] (top 9)
  d_mean_of : At K mg "mean_of" ["some"] (top 10)
  d_is_below : At K mg "is_below" ["one", "other"] (top 11)
  d_is_set : At K mg "is_set" ["x", "i"] (top 14)
  d_many_set : At K mg "many_set" ["x"] (top 15)
  d_all_words : At K mg "all_words" ["n"] (top 16)
  d_yes_to : At K mg "yes_to" ["n", "some"] (top 17)
  d_yes_from : At K mg "yes_from" ["n", "q", "numbers"] (top 18)
  d_yes_by_odd : At K mg "yes_by_odd" ["n", "s"] (top 19)
  d_yes_by_bit : At K mg "yes_by_bit" ["n", "i"] (top 20)
  d_other_way : At K mg "other_way" ["says"] (top 21)
  d_with_bit_turned : At K mg "with_bit_turned" ["says", "i"] (top 22)
  d_with_one : At K mg "with_one" ["says", "x", "b"] (top 23)
  d_words_of : At K mg "words_of" ["says"] (top 24)
  d_part : At K mg "part" ["says", "s"] (top 25)
  d_levels : At K mg "levels" ["n", "says"] (top 26)
  d_heard_as : At K mg "heard_as" ["n", "e", "u", "v"] (top 28)
  d_yes_to_meant : At K mg "yes_to_meant" ["n", "e", "says", "u"] (top 29)
  d_right_to_meant : At K mg "right_to_meant" ["n", "e", "says", "u"] (top 30)
  d_all_right : At K mg "all_right" ["n", "e", "says"] (top 31)
  d_stays : At K mg "stays" ["n", "e", "says"] (top 32)
  d_both_same : At K mg "both_same" ["one"] (top 34)
  d_agree : At K mg "agree" ["n", "e", "says"] (top 35)
  d_worst : At K mg "worst" ["n", "e", "says"] (top 37)
  d_want : At K mg "want" ["truth", "number"] (top 48)
  d_chance_told : At K mg "chance_told" ["a", "b"] (top 49)
  d_with_nought : At K mg "with_nought" ["one"] (top 50)
  d_of_answers : At K mg "of_answers" ["desk", "call", "n", "l"] (top 57)
  d_of_looks : At K mg "of_looks" ["desk", "call", "n", "l"] (top 58)
  d_of_hearing : At K mg "of_hearing" ["desk", "call", "n", "l"] (top 59)
  d_of_kept : At K mg "of_kept" ["desk", "call", "n", "l"] (top 60)
  d_of_call : At K mg "of_call" ["desk", "call", "n", "l"] (top 61)
  d_done : At K mg "done" ["desk", "call", "n", "l"] (top 62)
  d_answers : At K mg "answers" ["calls"] (top 63)
  x_init : AtX K CR "__init__" "Refused.__init__" ["self", "number"] (inClass (top 47) 0)
  m___init__ : AtM K C "__init__" "Desk.__init__" ["self", "n"] (inClass (top 51) 0)
  m_want_words : AtM K C "want_words" "Desk.want_words" ["self", "some"] (inClass (top 51) 1)
  m_want_bit : AtM K C "want_bit" "Desk.want_bit" ["self", "i"] (inClass (top 51) 2)
  m_become : AtM K C "become" "Desk.become" ["self", "says"] (inClass (top 51) 3)
  m_told : AtM K C "told" "Desk.told" ["self", "n", "l"] (inClass (top 51) 4)
  m_least : AtM K C "least" "Desk.least" ["self", "n", "l"] (inClass (top 51) 5)
  m_odd : AtM K C "odd" "Desk.odd" ["self", "n", "l"] (inClass (top 51) 6)
  m_bit : AtM K C "bit" "Desk.bit" ["self", "n", "l"] (inClass (top 51) 7)
  m_turn_all : AtM K C "turn_all" "Desk.turn_all" ["self", "n", "l"] (inClass (top 51) 8)
  m_turn : AtM K C "turn" "Desk.turn" ["self", "n", "l"] (inClass (top 51) 9)
  m_put : AtM K C "put" "Desk.put" ["self", "n", "l"] (inClass (top 51) 10)
  m_ask : AtM K C "ask" "Desk.ask" ["self", "n", "l"] (inClass (top 51) 11)
  m_mean : AtM K C "mean" "Desk.mean" ["self", "n", "l"] (inClass (top 51) 12)
  m_all_levels : AtM K C "all_levels" "Desk.all_levels" ["self", "n", "l"] (inClass (top 51) 13)
  m_state : AtM K C "state" "Desk.state" ["self", "n", "l"] (inClass (top 51) 14)
  m_chance : AtM K C "chance" "Desk.chance" ["self", "n", "l"] (inClass (top 51) 15)
  m_heard : AtM K C "heard" "Desk.heard" ["self", "n", "l"] (inClass (top 51) 16)
  m_soft : AtM K C "soft" "Desk.soft" ["self", "n", "l"] (inClass (top 51) 17)
  m_stays : AtM K C "stays" "Desk.stays" ["self", "n", "l"] (inClass (top 51) 18)
  m_agree : AtM K C "agree" "Desk.agree" ["self", "n", "l"] (inClass (top 51) 19)
  m_worst : AtM K C "worst" "Desk.worst" ["self", "n", "l"] (inClass (top 51) 20)
  m_even : AtM K C "even" "Desk.even" ["self", "n", "l"] (inClass (top 51) 21)
  m_onebit : AtM K C "onebit" "Desk.onebit" ["self", "n", "l"] (inClass (top 51) 22)
  m_ifchance : AtM K C "ifchance" "Desk.ifchance" ["self", "n", "l"] (inClass (top 51) 23)
  m_keep : AtM K C "keep" "Desk.keep" ["self", "n", "l"] (inClass (top 51) 24)
  m_likelier : AtM K C "likelier" "Desk.likelier" ["self", "n", "l"] (inClass (top 51) 25)
  gC : mg "Desk" = some (.ref C)
  cl : Cls K C
  mks : PySem.W.makesIn K C = true
  kc : PySem.W.keepIn K (.ref C) = true
  n_n : NoAttr K C "n"
  n_says : NoAttr K C "says"
  n_e : NoAttr K C "e"
  n_kept : NoAttr K C "kept"
  gR : mg "Refused" = some (.ref CR)
  ox : OexC K CR
  xf : XfC K CR
  nN : PySem.W.findIn K (.ref CR) "number" = some none
  te : PySem.W.exmOne K (.ref CR) (.ref CR) = some true
  mVE : mg "ValueError" = none
  vV : PySem.W.findCls K (.type "ValueError") (.type "type") "__init__" = some (.val (.builtin "ValueError.__init__"))
  t_NONE : Tp K mg "NONE" [.int 0, .int 1]
  t_WHOLE : Tp K mg "WHOLE" [.int 1, .int 1]
  t_FIRST_CHANCE : Tp K mg "FIRST_CHANCE" [.int 1, .int 10]
  t_NUMBERS : Tp K mg "NUMBERS" [.int 1, .int 0, .int 1, .int 1, .int 1, .int 0, .int 1, .int 2, .int 1, .int 0, .int 0, .int 0, .int 2, .int 2, .int 1, .int 0, .int 0, .int 0, .int 0, .int 0, .int 2, .int 0, .int 0]
  t_WITH_LIST : Tp K mg "WITH_LIST" [.int 1, .int 2]
  c_MOST_BITS : Nm mg "MOST_BITS" (5)
  c_NO_BIT : Nm mg "NO_BIT" (-2)
  c_NONE_KEPT : Nm mg "NONE_KEPT" (-6)
  c_NOT_RIGHT : Nm mg "NOT_RIGHT" (-22)
  c_MOST_TOLD : Nm mg "MOST_TOLD" (32)
  c_MOST_NUMBER : Nm mg "MOST_NUMBER" (9)
  c_MOST_BELOW : Nm mg "MOST_BELOW" (20)
  c_BEGIN : Nm mg "BEGIN" (0)
  c_NOT_BEGUN : Nm mg "NOT_BEGUN" (-11)
  b_abs : mg "abs" = none
  b_range : mg "range" = none
  b_len : mg "len" = none
  b_list : mg "list" = none
  b_int : mg "int" = none
  b_sum : mg "sum" = none
  b_enumerate : mg "enumerate" = none
  b_all : mg "all" = none
  a_stays : mg "stays_hearing" = mg "stays"
  a_agree : mg "agree_hearing" = mg "agree"
  a_worst : mg "worst_hearing" = mg "worst"
end Wk
/-! ## WkA -/
namespace Wk
open PySem PySem.Spec PyProof.Rows L2 Mh
open PySem.W (Codec)
/-! ### the whole's promise -/
def spAns (K : PySem.W.Frag) : Sp := fun vs H Q _ => ∃ (a : Addr) (L : List Nat) (cs : List (List (List Int))), vs = [.ref a] ∧ SqL K H a ((nz L).map V.int) ∧ L.length ≤ 10500 ∧
  PyFlat.calls PyKrdl.shape (nz L).length (nz L) = some cs ∧ (due none cs).length ≤ 10000000 ∧ ∀ (H' : Hp) (p : Addr), H' p = some (.lst ((due none cs).map V.int)) → Q (.ref p) H'
abbrev level : Nat := 20
theorem req {K : PySem.W.Frag} {H : Hp} {x : Addr} {l : List Int} {Q : VK} {E : XK} (hs : SqL K H x (l.map V.int)) (hwi : ((Codec.inLen 0 10500 l && l.all (Codec.inInt 0 4294967295)) && true) = true) (hask : PyKrdl.answers_asked l = true)
    (k : ∀ (H' : Hp) (p : Addr), H' p = some (.lst ((PyKrdl.answers l).map V.int)) → Q (.ref p) H') : spAns K [.ref x] H Q E := by
  rw [Bool.and_eq_true, Bool.and_eq_true] at hwi
  have hlen := (Codec.inNat_iff.mp hwi.1.1).2
  have hpos : ∀ z ∈ l, 0 ≤ z := fun z hz => (Codec.inInt_iff.mp (List.all_eq_true.mp hwi.1.2 z hz)).1
  obtain ⟨cs, hcs, hshort⟩ := asked_of hask
  have e := nz_of hpos
  have ed := answers_due hcs
  rw [ed] at hshort k
  refine ⟨x, l.map Int.toNat, cs, rfl, ?_, ?_, ?_, hshort, k⟩
  · rw [← e]; exact hs
  · rw [List.length_map]; exact hlen
  · rw [← e]; exact hcs
end Wk
/-! ## Wk1 -/
namespace Wk
open PySem PySem.Spec PyProof.Rows L2 Mh
section
variable {P : Program} {w : World} {K : PySem.W.Frag} {mg : Str → Option Value} {base : Heap}
/-! ### divisor -/
abbrev sDivisor : Stmt := top 3
theorem scDivisor : FnScope ["one", "other"] ["one", "other"] (defScope sDivisor) := ⟨rfl, rfl, rfl, by decide +kernel, rfl, by decide +kernel, by decide +kernel⟩
def spDivisor : Sp := fun vs H Q _ => ∃ a b : Nat, vs = [.int a, .int b] ∧ Q (.int ((Nat.gcd a b : Nat) : Int)) H
theorem kn_divisor (h : At K mg "divisor" ["one", "other"] sDivisor) : Kn P w K mg base CX0 1 "divisor" ["one", "other"] spDivisor := by
  refine h.kn fun f fd F => F.ok scDivisor (fun vs H Q E h => ?_) (fun cdv A outer s H vs Q E hr h => ⟨_,
    pss_cons (ps_while PassesOwn.never (pt_cmpR op_gt (pv 1) pe_int (nomark _))
        (pss_one (ps_par (i := 0) (j := 1) (by rfl) scDivisor.nd rfl rfl (by decide) rfl rfl (pa_cons (pv 1) (pa_cons (pe_op op_mod (pv 0) (pv 1)) pa_nil)) (by rfl))))
      (pss_one (ps_ret (pv 0))), ?_⟩)
  · obtain ⟨a, b, rfl, _⟩ := h
    rfl
  · obtain ⟨a, b, rfl, k⟩ := h
    refine ⟨fun m σ H' => ∃ a' b' : Nat, m = b' ∧ σ = [some (.int a'), some (.int b')] ∧ H' = H ∧ Nat.gcd a' b' = Nat.gcd a b, ⟨b, a, b, rfl, rfl, rfl, rfl⟩, ?_⟩
    rintro b' σ H' ⟨a', _, rfl, rfl, rfl, hg⟩
    refine ⟨_, rfl, _, _, rfl, rfl, _, rfl, ?_⟩
    by_cases hb : (0 : Int) < (b' : Int)
    · refine if_true_of (decide_eq_true hb) ?_
      refine ⟨_, fun σ' H' z => z, ?_⟩
      refine ⟨_, rfl, _, rfl, _, rfl, _, _, rfl, rfl, hb, _, _, rfl, ?_⟩
      refine ⟨a' % b', ?_, b', a' % b', rfl, rfl, rfl, ?_⟩
      · exact Nat.mod_lt _ (by omega)
      · rw [← hg, Nat.gcd_comm a' b', Nat.gcd_rec b' a', Nat.gcd_comm]
    · refine if_false_of (decide_eq_false hb) ?_
      have h0 : b' = 0 := by omega
      subst h0
      rw [Nat.gcd_zero_right] at hg
      refine ⟨_, rfl, ?_⟩
      rw [hg]
      exact k
/-! ### share -/
abbrev sShare : Stmt := top 4
theorem scShare : FnScope ["upper", "lower", "by"] ["upper", "lower"] (defScope sShare) := ⟨rfl, rfl, rfl, by decide +kernel, rfl, by decide +kernel, by decide +kernel⟩
def spShare (K : PySem.W.Frag) : Sp := fun vs H Q _ => ∃ (u : Int) (l : Nat), vs = [.int u, .int (l : Int)] ∧ 0 < l ∧ l < 2 ^ 200 ∧ gives K H (mkRat u l) Q
theorem abs_nat (u : Int) : (if u < 0 then -u else u) = ((u.natAbs : Nat) : Int) := by
  split <;> omega
theorem kn_share (h : At K mg "share" ["upper", "lower"] sShare) (hD : Kn P w K mg base CX0 1 "divisor" ["one", "other"] spDivisor) (mabs : mg "abs" = none) : Kn P w K mg base CX0 2 "share" ["upper", "lower"] (spShare K) := by
  obtain ⟨fD, fdD, gD, kD, bD, GD⟩ := hD
  refine h.kn fun f fd F => F.ok scShare (fun vs H Q E h => ?_) (fun cdv A outer s H vs Q E hr h => ⟨_,
    pss_cons (ps_set (i := 2) scShare.nd rfl (Or.inl rfl) (pe_call GD hr rfl gD kD bD .nil pass0 (pa_cons (pe_callB call_abs (by rfl) mabs (by decide +kernel) (pa_cons (pv 0) pa_nil)) (pa_cons (pv 1) pa_nil))))
      (pss_one (ps_ret (pe_tup (pa_cons (pe_op op_fdivW (pv 0) (pv 2)) (pa_cons (pe_op op_fdivW (pv 1) (pv 2)) pa_nil))))), ?_⟩)
  · obtain ⟨u, l, rfl, _⟩ := h
    rfl
  · obtain ⟨u, l, rfl, h0, h2, k⟩ := h
    have gpos : 0 < Nat.gcd u.natAbs l := Nat.gcd_pos_of_pos_right _ h0
    have gle : Nat.gcd u.natAbs l ≤ l := Nat.gcd_le_right _ h0
    have dv : CDivW u ((Nat.gcd u.natAbs l : Nat) : Int) := wide_div (b := 200) (by omega) (by rw [Int.natAbs_natCast]; exact Nat.lt_of_le_of_lt gle h2) (by decide) (by decide)
    have dv2 : CDivW (l : Int) ((Nat.gcd u.natAbs l : Nat) : Int) := wide_div (b := 200) (by omega) (by rw [Int.natAbs_natCast]; exact Nat.lt_of_le_of_lt gle h2) (by decide) (by decide)
    refine ⟨_, rfl, _, rfl, _, rfl, u.natAbs, l, ?_, ?_⟩
    · rw [abs_nat]; rfl
    · refine ⟨_, rfl, _, rfl, _, _, rfl, rfl, dv, _, rfl, _, rfl, _, _, rfl, rfl, dv2, (by show 2 ≤ sizeLine; decide), fun p hp => ?_⟩
      refine k _ p (same_upd hp) (SqT.of ?_)
      rw [upd_same]
      dsimp only
      rw [share_num h0, share_den h0]
/-! ### added, less, multiplied -/
theorem small_mul {i j : Int} (hi : i.natAbs < 2 ^ 64) (hj : j.natAbs < 2 ^ 64) : CMulW i j := wide_mul (a := 64) (b := 64) hi hj (by decide) (by decide) (by decide)
theorem sm_den {r : Rat} (h : Sm r) : ((r.den : Nat) : Int).natAbs < 2 ^ 64 := by
  rw [Int.natAbs_natCast]
  exact h.2
theorem den_mul_lt {r s : Rat} (h : Sm r) (g : Sm s) : r.den * s.den < 2 ^ 200 := by
  have h1 : r.den * s.den < 2 ^ 64 * 2 ^ 64 := Nat.mul_lt_mul_of_lt_of_lt h.2 g.2
  have h2 : (2 : Nat) ^ 64 * 2 ^ 64 < 2 ^ 200 := by decide
  omega
def spTwo (K : PySem.W.Frag) (f : Rat → Rat → Rat) : Sp := fun vs H Q _ => ∃ (a b : Addr) (r s : Rat), vs = [.ref a, .ref b] ∧ Fr K H a r ∧ Fr K H b s ∧ Sm r ∧ Sm s ∧ gives K H (f r s) Q
theorem two_len {K : PySem.W.Frag} {f : Rat → Rat → Rat} {vs : List V} {H : Hp} {Q : VK} {E : XK} (h : spTwo K f vs H Q E) : vs.length = 2 := by
  obtain ⟨a, b, r, s, rfl, _⟩ := h
  rfl
abbrev sAdded : Stmt := top 5
theorem scAdded : FnScope ["one", "other"] ["one", "other"] (defScope sAdded) := ⟨rfl, rfl, rfl, by decide +kernel, rfl, by decide +kernel, by decide +kernel⟩
theorem kn_added (h : At K mg "added" ["one", "other"] sAdded) (hS : Kn P w K mg base CX0 2 "share" ["upper", "lower"] (spShare K)) : Kn P w K mg base CX0 3 "added" ["one", "other"] (spTwo K fun r s => r + s) := by
  obtain ⟨fS, fdS, gS, kS, bS, GS⟩ := hS
  refine h.kn fun f fd F => F.ok scAdded (fun vs H Q E h => two_len h) (fun cdv A outer s H vs Q E hr h => ⟨_,
    pss_one (ps_ret (pe_call GS hr rfl gS kS bS .nil pass0 (pa_cons (pe_op op_add (pe_op op_mulW (pe_ix ix_tup (pv 0) pe_int (fun _ _ => rfl)) (pe_ix ix_tup (pv 1) pe_int (fun _ _ => rfl))) (pe_op op_mulW (pe_ix ix_tup (pv 1) pe_int (fun _ _ => rfl)) (pe_ix ix_tup (pv 0) pe_int (fun _ _ => rfl))))
      (pa_cons (pe_op op_mulW (pe_ix ix_tup (pv 0) pe_int (fun _ _ => rfl)) (pe_ix ix_tup (pv 1) pe_int (fun _ _ => rfl))) pa_nil)))), ?_⟩)
  obtain ⟨a, b, r, s, rfl, ha, hb, hr', hs', k⟩ := h
  refine ⟨_, rfl, a, _, _, _, rfl, rfl, ha, atI_nat (j := 0) rfl, _, rfl, b, _, _, _, rfl, rfl, hb, atI_nat (j := 1) rfl, _, _, rfl, rfl, small_mul hr'.1 (sm_den hs'), ?_⟩
  refine ⟨_, rfl, b, _, _, _, rfl, rfl, hb, atI_nat (j := 0) rfl, _, rfl, a, _, _, _, rfl, rfl, ha, atI_nat (j := 1) rfl, _, _, rfl, rfl, small_mul hs'.1 (sm_den hr'), _, _, rfl, rfl, ?_⟩
  refine ⟨_, rfl, a, _, _, _, rfl, rfl, ha, atI_nat (j := 1) rfl, _, rfl, b, _, _, _, rfl, rfl, hb, atI_nat (j := 1) rfl, _, _, rfl, rfl, small_mul (sm_den hr') (sm_den hs'), ?_⟩
  refine ⟨_, r.den * s.den, by rw [Int.natCast_mul]; rfl, Nat.mul_pos r.den_pos s.den_pos, den_mul_lt hr' hs', ?_⟩
  rw [← Rat.add_def']
  exact k
abbrev sLess : Stmt := top 6
theorem scLess : FnScope ["one", "other"] ["one", "other"] (defScope sLess) := ⟨rfl, rfl, rfl, by decide +kernel, rfl, by decide +kernel, by decide +kernel⟩
theorem kn_less (h : At K mg "less" ["one", "other"] sLess) (hS : Kn P w K mg base CX0 2 "share" ["upper", "lower"] (spShare K)) : Kn P w K mg base CX0 3 "less" ["one", "other"] (spTwo K fun r s => r - s) := by
  obtain ⟨fS, fdS, gS, kS, bS, GS⟩ := hS
  refine h.kn fun f fd F => F.ok scLess (fun vs H Q E h => two_len h) (fun cdv A outer s H vs Q E hr h => ⟨_,
    pss_one (ps_ret (pe_call GS hr rfl gS kS bS .nil pass0 (pa_cons (pe_op op_sub (pe_op op_mulW (pe_ix ix_tup (pv 0) pe_int (fun _ _ => rfl)) (pe_ix ix_tup (pv 1) pe_int (fun _ _ => rfl))) (pe_op op_mulW (pe_ix ix_tup (pv 1) pe_int (fun _ _ => rfl)) (pe_ix ix_tup (pv 0) pe_int (fun _ _ => rfl))))
      (pa_cons (pe_op op_mulW (pe_ix ix_tup (pv 0) pe_int (fun _ _ => rfl)) (pe_ix ix_tup (pv 1) pe_int (fun _ _ => rfl))) pa_nil)))), ?_⟩)
  obtain ⟨a, b, r, s, rfl, ha, hb, hr', hs', k⟩ := h
  refine ⟨_, rfl, a, _, _, _, rfl, rfl, ha, atI_nat (j := 0) rfl, _, rfl, b, _, _, _, rfl, rfl, hb, atI_nat (j := 1) rfl, _, _, rfl, rfl, small_mul hr'.1 (sm_den hs'), ?_⟩
  refine ⟨_, rfl, b, _, _, _, rfl, rfl, hb, atI_nat (j := 0) rfl, _, rfl, a, _, _, _, rfl, rfl, ha, atI_nat (j := 1) rfl, _, _, rfl, rfl, small_mul hs'.1 (sm_den hr'), _, _, rfl, rfl, ?_⟩
  refine ⟨_, rfl, a, _, _, _, rfl, rfl, ha, atI_nat (j := 1) rfl, _, rfl, b, _, _, _, rfl, rfl, hb, atI_nat (j := 1) rfl, _, _, rfl, rfl, small_mul (sm_den hr') (sm_den hs'), ?_⟩
  refine ⟨_, r.den * s.den, by rw [Int.natCast_mul]; rfl, Nat.mul_pos r.den_pos s.den_pos, den_mul_lt hr' hs', ?_⟩
  rw [← Rat.sub_def']
  exact k
abbrev sMultiplied : Stmt := top 7
theorem scMultiplied : FnScope ["one", "other"] ["one", "other"] (defScope sMultiplied) := ⟨rfl, rfl, rfl, by decide +kernel, rfl, by decide +kernel, by decide +kernel⟩
theorem kn_multiplied (h : At K mg "multiplied" ["one", "other"] sMultiplied) (hS : Kn P w K mg base CX0 2 "share" ["upper", "lower"] (spShare K)) : Kn P w K mg base CX0 3 "multiplied" ["one", "other"] (spTwo K fun r s => r * s) := by
  obtain ⟨fS, fdS, gS, kS, bS, GS⟩ := hS
  refine h.kn fun f fd F => F.ok scMultiplied (fun vs H Q E h => two_len h) (fun cdv A outer s H vs Q E hr h => ⟨_,
    pss_one (ps_ret (pe_call GS hr rfl gS kS bS .nil pass0 (pa_cons (pe_op op_mulW (pe_ix ix_tup (pv 0) pe_int (fun _ _ => rfl)) (pe_ix ix_tup (pv 1) pe_int (fun _ _ => rfl)))
      (pa_cons (pe_op op_mulW (pe_ix ix_tup (pv 0) pe_int (fun _ _ => rfl)) (pe_ix ix_tup (pv 1) pe_int (fun _ _ => rfl))) pa_nil)))), ?_⟩)
  obtain ⟨a, b, r, s, rfl, ha, hb, hr', hs', k⟩ := h
  refine ⟨_, rfl, a, _, _, _, rfl, rfl, ha, atI_nat (j := 0) rfl, _, rfl, b, _, _, _, rfl, rfl, hb, atI_nat (j := 0) rfl, _, _, rfl, rfl, small_mul hr'.1 hs'.1, ?_⟩
  refine ⟨_, rfl, a, _, _, _, rfl, rfl, ha, atI_nat (j := 1) rfl, _, rfl, b, _, _, _, rfl, rfl, hb, atI_nat (j := 1) rfl, _, _, rfl, rfl, small_mul (sm_den hr') (sm_den hs'), ?_⟩
  refine ⟨_, r.den * s.den, by rw [Int.natCast_mul]; rfl, Nat.mul_pos r.den_pos s.den_pos, den_mul_lt hr' hs', ?_⟩
  rw [← Rat.mul_def']
  exact k
/-! ### is_below -/
abbrev sIsBelow : Stmt := top 11
theorem scIsBelow : FnScope ["one", "other"] ["one", "other"] (defScope sIsBelow) := ⟨rfl, rfl, rfl, by decide +kernel, rfl, by decide +kernel, by decide +kernel⟩
def spIsBelow (K : PySem.W.Frag) : Sp := fun vs H Q _ => ∃ (a b : Addr) (r s : Rat), vs = [.ref a, .ref b] ∧ Fr K H a r ∧ Fr K H b s ∧ Sm r ∧ Sm s ∧ Q (.bl (decide (r < s))) H
theorem kn_is_below (h : At K mg "is_below" ["one", "other"] sIsBelow) : Kn P w K mg base CX0 1 "is_below" ["one", "other"] (spIsBelow K) := by
  refine h.kn fun f fd F => F.ok scIsBelow (fun vs H Q E h => ?_) (fun cdv A outer s H vs Q E hr h => ⟨_,
    pss_one (ps_ret (pe_cmpR op_lt (pe_op op_mulW (pe_ix ix_tup (pv 0) pe_int (fun _ _ => rfl)) (pe_ix ix_tup (pv 1) pe_int (fun _ _ => rfl)))
      (pe_op op_mulW (pe_ix ix_tup (pv 1) pe_int (fun _ _ => rfl)) (pe_ix ix_tup (pv 0) pe_int (fun _ _ => rfl))) (nomark _))), ?_⟩)
  · obtain ⟨a, b, r, s, rfl, _⟩ := h
    rfl
  obtain ⟨a, b, r, s, rfl, ha, hb, hr', hs', k⟩ := h
  refine ⟨_, rfl, a, _, _, _, rfl, rfl, ha, atI_nat (j := 0) rfl, _, rfl, b, _, _, _, rfl, rfl, hb, atI_nat (j := 1) rfl, _, _, rfl, rfl, small_mul hr'.1 (sm_den hs'), ?_⟩
  refine ⟨_, rfl, b, _, _, _, rfl, rfl, hb, atI_nat (j := 0) rfl, _, rfl, a, _, _, _, rfl, rfl, ha, atI_nat (j := 1) rfl, _, _, rfl, rfl, small_mul hs'.1 (sm_den hr'), _, _, rfl, rfl, ?_⟩
  have e : decide (r < s) = decide (r.num * s.den < s.num * r.den) := decide_eq_decide.mpr (Rat.lt_iff r s)
  rw [e] at k
  exact k
end
end Wk
/-! ## Wk2 -/
namespace Wk
open PySem PySem.Spec PyProof.Rows L2 Mh
open Krdk (sum)
section
variable {P : Program} {w : World} {K : PySem.W.Frag} {mg : Str → Option Value} {base : Heap}
/-- fractions, one behind another -/
def Frs (K : PySem.W.Frag) (H : Hp) (ps : List V) (rs : List Rat) : Prop := ps.length = rs.length ∧ ∀ (i : Nat) (r : Rat), rs[i]? = some r → ∃ a : Addr, ps[i]? = some (.ref a) ∧ Fr K H a r
theorem Frs.same {H H' : Hp} {ps : List V} {rs : List Rat} (e : Same H H') (h : Frs K H ps rs) : Frs K H' ps rs := ⟨h.1, fun i r hr => by
  obtain ⟨a, h1, h2⟩ := h.2 i r hr
  exact ⟨a, h1, h2.same e⟩⟩
theorem Frs.nil {H : Hp} : Frs K H [] [] := ⟨rfl, fun i r hr => by simp at hr⟩
theorem Frs.snoc {H : Hp} {ps : List V} {rs : List Rat} {a : Addr} {r : Rat} (h : Frs K H ps rs) (g : Fr K H a r) : Frs K H (ps ++ [.ref a]) (rs ++ [r]) := by
  refine ⟨by rw [List.length_append, List.length_append, h.1]; rfl, fun i q hq => ?_⟩
  by_cases hi : i < rs.length
  · rw [List.getElem?_append_left hi] at hq
    obtain ⟨b, h1, h2⟩ := h.2 i q hq
    exact ⟨b, by rw [List.getElem?_append_left (by rw [h.1]; exact hi)]; exact h1, h2⟩
  · rw [List.getElem?_append_right (by omega)] at hq
    have e : i - rs.length = 0 := by
      rcases Nat.eq_zero_or_pos (i - rs.length) with z | z
      · exact z
      · rw [List.getElem?_eq_none (by simp; omega)] at hq; cases hq
    rw [e] at hq
    have : r = q := Option.some.inj hq
    subst this
    exact ⟨a, by rw [List.getElem?_append_right (by rw [h.1]; omega), h.1, e]; rfl, g⟩
theorem Frs.get {H : Hp} {ps : List V} {rs : List Rat} (h : Frs K H ps rs) {i : Nat} {x : V} (hx : ps[i]? = some x) : ∃ (a : Addr) (r : Rat), x = .ref a ∧ rs[i]? = some r ∧ Fr K H a r := by
  have hi : i < rs.length := by
    rw [← h.1]
    exact (List.getElem?_eq_some_iff.mp hx).1
  have hr : rs[i]? = some rs[i] := List.getElem?_eq_getElem hi
  obtain ⟨a, h1, h2⟩ := h.2 i _ hr
  rw [h1] at hx
  exact ⟨a, _, (Option.some.inj hx).symm, hr, h2⟩
theorem take_more {α : Type} {l : List α} {i : Nat} {x : α} (h : l[i]? = some x) : l.take (i + 1) = l.take i ++ [x] := by
  rw [List.take_add_one, h]
  rfl
/-! ### often -/
abbrev sOften : Stmt := top 8
theorem scOften : FnScope ["one", "many", "found", "turn"] ["one", "many"] (defScope sOften) := ⟨rfl, rfl, rfl, by decide +kernel, rfl, by decide +kernel, by decide +kernel⟩
def spOften (K : PySem.W.Frag) : Sp := fun vs H Q _ => ∃ (a : Addr) (k : Nat) (r : Rat), vs = [.ref a, .int (k : Int)] ∧ Fr K H a r ∧ k ≤ 5 ∧ Sm r ∧ (∀ j, j ≤ k → Sm (r ^ j)) ∧ gives K H (r ^ k) Q
theorem fr_one {H : Hp} {a : Addr} (h : SqT K H a [.int 1, .int 1]) : Fr K H a 1 := h
theorem fr_zero {H : Hp} {a : Addr} (h : SqT K H a [.int 0, .int 1]) : Fr K H a 0 := h
theorem kn_often (h : At K mg "often" ["one", "many"] sOften) (hM : Kn P w K mg base CX0 3 "multiplied" ["one", "other"] (spTwo K fun r s => r * s)) (hW : Tp K mg "WHOLE" [.int 1, .int 1]) (mr : mg "range" = none) : Kn P w K mg base CX0 4 "often" ["one", "many"] (spOften K) := by
  obtain ⟨fM, fdM, gM, kM, bM, GM⟩ := hM
  obtain ⟨aW, gW, tW⟩ := hW
  refine h.kn fun f fd F => F.ok scOften (fun vs H Q E h => ?_) (fun cdv A outer s H vs Q E hr h => ⟨_,
    pss_cons (ps_set (i := 2) scOften.nd rfl (Or.inl rfl) (pe_glob (v := .ref aW) rfl gW rfl))
      (pss_cons (ps_for PassesOwn.never rfl (pi_range1 rfl mr (pa_cons (pv 1) pa_nil)) (pg_name (i := 3) scOften.nd rfl (Or.inl rfl))
        (pss_one (ps_set (i := 2) scOften.nd rfl (Or.inl rfl) (pe_call GM hr rfl gM kM bM .nil pass0 (pa_cons (pv 2) (pa_cons (pv 0) pa_nil))))))
      (pss_one (ps_ret (pv 2)))), ?_⟩)
  · obtain ⟨a, k, r, rfl, _⟩ := h
    rfl
  obtain ⟨a, k, r, rfl, ha, hk, hr', hp, q⟩ := h
  refine ⟨_, rfl, (k : Int), rfl, by omega, by omega, for_range (n := k) (fun i σ H' => ∃ (p : Addr) (v : Option V), σ = [some (.ref a), some (.int (k : Int)), some (.ref p), v] ∧ Same H H' ∧ Fr K H' p (r ^ i)) ?_ ?_ ?_⟩
  · refine ⟨aW, none, rfl, Same.refl H, ?_⟩
    rw [Rat.pow_zero]
    exact fr_one (tW H)
  · rintro i σ H' hi ⟨p, v, rfl, s5, g⟩
    refine ⟨_, rfl, _, rfl, p, a, r ^ i, r, rfl, g, ha.same s5, hp i (by omega), hr', fun H2 p2 s6 g2 => ?_⟩
    refine ⟨p2, some (.int (0 + (i : Int))), rfl, s5.trans s6, ?_⟩
    rw [Rat.pow_succ]
    exact g2
  · rintro σ H' ⟨p, v, rfl, s5, g⟩
    exact ⟨_, rfl, q H' p s5 g⟩
/-! ### all_added -/
abbrev sAllAdded : Stmt := top 9
theorem scAllAdded : FnScope ["some", "found", "one"] ["some"] (defScope sAllAdded) := ⟨rfl, rfl, rfl, by decide +kernel, rfl, by decide +kernel, by decide +kernel⟩
def spAllAdded (K : PySem.W.Frag) : Sp := fun vs H Q _ => ∃ (l : Addr) (ps : List V) (rs : List Rat), vs = [.ref l] ∧ SqL K H l ps ∧ Frs K H ps rs ∧ (∀ r ∈ rs, Sm r) ∧ (∀ j, Sm (sum (rs.take j))) ∧ gives K H (sum rs) Q
theorem kn_all_added (h : At K mg "all_added" ["some"] sAllAdded) (hA : Kn P w K mg base CX0 3 "added" ["one", "other"] (spTwo K fun r s => r + s)) (hN : Tp K mg "NONE" [.int 0, .int 1]) : Kn P w K mg base CX0 4 "all_added" ["some"] (spAllAdded K) := by
  obtain ⟨fM, fdM, gM, kM, bM, GM⟩ := hA
  obtain ⟨aW, gW, tW⟩ := hN
  refine h.kn fun f fd F => F.ok scAllAdded (fun vs H Q E h => ?_) (fun cdv A outer s H vs Q E hr h => ⟨_,
    pss_cons (ps_set (i := 1) scAllAdded.nd rfl (Or.inl rfl) (pe_glob (v := .ref aW) rfl gW rfl))
      (pss_cons (ps_for PassesOwn.never rfl (pi_list (pv 0)) (pg_name (i := 2) scAllAdded.nd rfl (Or.inl rfl))
        (pss_one (ps_set (i := 1) scAllAdded.nd rfl (Or.inl rfl) (pe_call GM hr rfl gM kM bM .nil pass0 (pa_cons (pv 1) (pa_cons (pv 2) pa_nil))))))
      (pss_one (ps_ret (pv 1)))), ?_⟩)
  · obtain ⟨l, ps, rs, rfl, _⟩ := h
    rfl
  obtain ⟨l, ps, rs, rfl, hl, hf, hsm, htk, q⟩ := h
  refine ⟨_, rfl, l, rfl, ⟨_, hl⟩, for_list (K := K) (a := l) (xs := ps) (fun i σ H' => ∃ (p : Addr) (v : Option V), σ = [some (.ref l), some (.ref p), v] ∧ Same H H' ∧ Fr K H' p (sum (rs.take i))) ?_ ?_ ?_ ?_⟩
  · refine ⟨aW, none, rfl, Same.refl H, ?_⟩
    rw [List.take_zero]
    exact fr_zero (tW H)
  · rintro i σ H' _ ⟨p, v, rfl, s5, g⟩
    exact s5.seq hl
  · rintro i x σ H' hi ⟨p, v, rfl, s5, g⟩
    obtain ⟨b, r, rfl, hr2, gb⟩ := hf.get hi
    refine ⟨_, rfl, _, rfl, p, b, sum (rs.take i), r, rfl, g, gb.same s5, htk i, hsm r (List.mem_of_getElem? hr2), fun H2 p2 s6 g2 => ?_⟩
    refine ⟨p2, some (.ref b), rfl, s5.trans s6, ?_⟩
    rw [take_more hr2, sum_snoc]
    exact g2
  · rintro σ H' ⟨p, v, rfl, s5, g⟩
    rw [hf.1, List.take_length] at g
    exact ⟨_, rfl, q H' p s5 g⟩
/-! ### mean_of -/
abbrev sMeanOf : Stmt := top 10
theorem scMeanOf : FnScope ["some"] ["some"] (defScope sMeanOf) := ⟨rfl, rfl, rfl, by decide +kernel, rfl, by decide +kernel, by decide +kernel⟩
def spMeanOf (K : PySem.W.Frag) : Sp := fun vs H Q _ => ∃ (l : Addr) (ps : List V) (rs : List Rat), vs = [.ref l] ∧ SqL K H l ps ∧ Frs K H ps rs ∧ 0 < rs.length ∧ rs.length ≤ 32 ∧ (∀ r ∈ rs, Sm r) ∧ (∀ j, Sm (sum (rs.take j))) ∧ gives K H (sum rs * mkRat 1 rs.length) Q
theorem mk1 {k : Nat} (h : 0 < k) : (mkRat 1 k).num = 1 ∧ (mkRat 1 k).den = k := by
  rw [Rat.num_mkRat, Rat.den_mkRat, if_neg (by omega), if_neg (by omega)]
  have : k.gcd (1 : Int).natAbs = 1 := Nat.gcd_one_right k
  rw [this]
  exact ⟨rfl, Nat.div_one k⟩
theorem kn_mean_of (h : At K mg "mean_of" ["some"] sMeanOf) (hA : Kn P w K mg base CX0 4 "all_added" ["some"] (spAllAdded K)) (hM : Kn P w K mg base CX0 3 "multiplied" ["one", "other"] (spTwo K fun r s => r * s)) (ml : mg "len" = none) : Kn P w K mg base CX0 5 "mean_of" ["some"] (spMeanOf K) := by
  obtain ⟨fA, fdA, gA, kA, bA, GA⟩ := hA
  obtain ⟨fM, fdM, gM, kM, bM, GM⟩ := hM
  refine h.kn fun f fd F => F.ok scMeanOf (fun vs H Q E h => ?_) (fun cdv A outer s H vs Q E hr h => ⟨_,
    pss_one (ps_ret (pe_call GM (hr.mono (by decide)) rfl gM kM bM .nil pass0 (pa_cons (pe_call GA hr rfl gA kA bA .nil pass0 (pa_cons (pv 0) pa_nil)) (pa_cons (pe_tup (pa_cons pe_int (pa_cons (pe_callB call_len_seq (by rfl) ml PySem.boot_len (pa_cons (pv 0) pa_nil)) pa_nil))) pa_nil)))), ?_⟩)
  · obtain ⟨l, ps, rs, rfl, _⟩ := h
    rfl
  obtain ⟨l, ps, rs, rfl, hl, hf, h0, h32, hsm, htk, q⟩ := h
  have m1 := mk1 h0
  have hlen := hf.1
  refine ⟨_, rfl, l, ps, rs, rfl, hl, hf, hsm, htk, fun H1 p1 s1 g1 => ?_⟩
  refine ⟨_, rfl, l, ps, rfl, .inl (s1.seq hl), (by show 2 ≤ sizeLine; decide), fun p2 hp2 => ?_⟩
  have s2 : Same H1 _ := same_upd (o := .tup [.int 1, .int (ps.length : Int)]) hp2
  refine ⟨p1, p2, _, mkRat 1 rs.length, rfl, g1.same s2, ?_, ?_, ⟨?_, ?_⟩, fun H3 p3 s3 g3 => q H3 p3 ((s1.trans s2).trans s3) g3⟩
  · unfold Fr
    rw [m1.1, m1.2, ← hf.1]
    exact SqT.of upd_same
  · have := htk rs.length
    rwa [List.take_length] at this
  · rw [m1.1]; decide
  · rw [m1.2]; omega
end
end Wk
/-! ## Wk3 -/
namespace Wk
open PySem PySem.Spec PyProof.Rows L2 Mh
open Krdk (bits words)
section
variable {J : It} {n : Nat} {G : Hp → Prop} {Y : Nat → Hp → V → Hp → Prop} {K : PySem.W.Frag}
theorem range_map_snoc {α : Type} (f : Nat → Option α) (i : Nat) : (List.range (i + 1)).filterMap f = (List.range i).filterMap f ++ (f i).toList := by
  rw [List.range_succ, List.filterMap_append]
  cases h : f i <;> simp [h]
theorem fm_len {α : Type} (f : Nat → Option α) (i : Nat) : ((List.range i).filterMap f).length ≤ i := by
  refine Nat.le_trans (List.length_filterMap_le _ _) ?_
  rw [List.length_range]
  exact Nat.le_refl _
/-- a comprehension whose items are told by f (none: left out) -/
theorem lcA (w : Walk J n G Y) {g : TG} {tt : TT} {te : TE} {vs : List Nat} {σ : L2.St} {H1 : Hp} {D : Addr} {Qd : Hp → Prop} (f : Nat → Option V) (hn : n ≤ 16000000) (nD : H1 D = none) (hG : ∀ H, Same H1 H → G H)
    (turn : ∀ (i : Nat) (x : V) (H H' : Hp) (N : Hp → Prop) (M : V → Hp → Prop), i < n → Same H1 H → Y i H x H' → (∀ H3, Same H H3 → f i = none → N H3) → (∀ y H4, Same H H4 → f i = some y → M y H4) →
      g x (wipe σ vs) H' fun σ2 H2 => wipe σ2 vs = wipe σ vs ∧ tt σ2 H2 fun b H3 => if b = true then te σ2 H3 M else N H3)
    (hd : ∀ H, Same H1 H → H D = some (.lst ((List.range n).filterMap f)) → Qd H) :
    ∃ W : Nat → Nat → Hp → Prop, (∃ m, W 0 m (upd H1 D (.lst []))) ∧ ∀ i m H, W i m H →
      (J.stop i H ∧ Qd H) ∨ (J.go i H ∧ ∃ Nx : Hp → Prop, (∀ H', Nx H' → ∃ m', m' < m ∧ W (i + 1) m' H') ∧ ∀ x H', J.yld i H x H' → g x (wipe σ vs) H' fun σ2 H2 => wipe σ2 vs = wipe σ vs ∧ tt σ2 H2 fun b H3 =>
        if b = true then te σ2 H3 fun y H4 => ∃ acc, H4 D = some (.lst acc) ∧ acc.length < sizeLine ∧ Nx (upd H4 D (.lst (acc ++ [y]))) else Nx H3) := by
  refine lc_it w (fun i H => Same H1 H ∧ H D = some (.lst ((List.range i).filterMap f))) ⟨same_upd nD, upd_same⟩ (fun i H _ p => hG H p.1) ?_ (fun H p => hd H p.1 p.2)
  rintro i x H H' hi ⟨s1, hD⟩ y
  refine turn i x H H' _ _ hi s1 y ?_ ?_
  · intro H3 s3 e
    refine ⟨s1.trans s3, ?_⟩
    rw [range_map_snoc, e]
    simpa using s3 _ _ hD
  · intro z H4 s4 e
    refine ⟨_, s4 _ _ hD, ?_, fun b o q => ?_, ?_⟩
    · have := fm_len f i
      rw [sizeLine_eq]
      omega
    · have hne : b ≠ D := ne_of_none q nD
      rw [upd_ne hne]
      exact s4 _ _ (s1 _ _ q)
    · rw [upd_same, range_map_snoc, e]
      rfl
/-- a comprehension whose items are fractions -/
theorem lcB (w : Walk J n G Y) {g : TG} {tt : TT} {te : TE} {vs : List Nat} {σ : L2.St} {H1 : Hp} {D : Addr} {Qd : Hp → Prop} (f : Nat → Option Rat) (hn : n ≤ 16000000) (nD : H1 D = none) (hG : ∀ H, Same H1 H → G H)
    (turn : ∀ (i : Nat) (x : V) (H H' : Hp) (N : Hp → Prop) (M : V → Hp → Prop), i < n → Same H1 H → Y i H x H' → (∀ H3, Same H H3 → f i = none → N H3) → (∀ (a : Addr) (r : Rat) (H4 : Hp), Same H H4 → f i = some r → Fr K H4 a r → M (.ref a) H4) →
      g x (wipe σ vs) H' fun σ2 H2 => wipe σ2 vs = wipe σ vs ∧ tt σ2 H2 fun b H3 => if b = true then te σ2 H3 M else N H3)
    (hd : ∀ (H : Hp) (ps : List V), Same H1 H → H D = some (.lst ps) → Frs K H ps ((List.range n).filterMap f) → Qd H) :
    ∃ W : Nat → Nat → Hp → Prop, (∃ m, W 0 m (upd H1 D (.lst []))) ∧ ∀ i m H, W i m H →
      (J.stop i H ∧ Qd H) ∨ (J.go i H ∧ ∃ Nx : Hp → Prop, (∀ H', Nx H' → ∃ m', m' < m ∧ W (i + 1) m' H') ∧ ∀ x H', J.yld i H x H' → g x (wipe σ vs) H' fun σ2 H2 => wipe σ2 vs = wipe σ vs ∧ tt σ2 H2 fun b H3 =>
        if b = true then te σ2 H3 fun y H4 => ∃ acc, H4 D = some (.lst acc) ∧ acc.length < sizeLine ∧ Nx (upd H4 D (.lst (acc ++ [y]))) else Nx H3) := by
  have ups : ∀ {H4 : Hp} {o o' : HO}, ∀ (K' : PySem.W.Frag) (a : Addr) (r : Rat), H4 D = some (.lst ([] : List V)) → True := fun _ _ _ _ => trivial
  refine lc_it w (fun i H => Same H1 H ∧ ∃ ps, H D = some (.lst ps) ∧ Frs K H ps ((List.range i).filterMap f)) ⟨same_upd nD, [], upd_same, Frs.nil⟩ (fun i H _ p => hG H p.1) ?_ (fun H p => by
    obtain ⟨s1, ps, h1, h2⟩ := p
    exact hd H ps s1 h1 h2)
  have keep : ∀ {H4 : Hp} {xs ys : List V} {a : Addr} {r : Rat}, H4 D = some (.lst xs) → Fr K H4 a r → Fr K (upd H4 D (.lst ys)) a r := by
    intro H4 xs ys a r hD h
    have ne : ∀ {o : HO}, H4 a = some o → o ≠ .lst xs → a ≠ D := fun ha hne z => by
      rw [z, hD] at ha
      exact hne (Option.some.inj ha).symm
    rcases h with (h | ⟨o, h⟩) | h
    · refine .inl (.inl ?_)
      rw [upd_ne (ne h (by intro z; cases z))]
      exact h
    · refine .inl (.inr ⟨o, ?_⟩)
      rw [upd_ne (ne h (by intro z; cases z))]
      exact h
    · exact .inr h
  rintro i x H H' hi ⟨s1, ps, hD, hf⟩ y
  refine turn i x H H' _ _ hi s1 y ?_ ?_
  · intro H3 s3 e
    refine ⟨s1.trans s3, ps, s3 _ _ hD, ?_⟩
    rw [range_map_snoc, e]
    simpa using hf.same s3
  · intro a r H4 s4 e g4
    have hlen := hf.1
    have := fm_len f i
    refine ⟨_, s4 _ _ hD, ?_, fun b o q => ?_, ps ++ [.ref a], upd_same, ?_⟩
    · rw [sizeLine_eq]
      omega
    · have hne : b ≠ D := ne_of_none q nD
      rw [upd_ne hne]
      exact s4 _ _ (s1 _ _ q)
    · rw [range_map_snoc, e]
      have h4 := hf.same s4
      refine Frs.snoc ⟨h4.1, fun j q hq => ?_⟩ (keep (s4 _ _ hD) g4)
      obtain ⟨b, h5, h6⟩ := h4.2 j q hq
      exact ⟨b, h5, keep (s4 _ _ hD) h6⟩
end
section
variable {P : Program} {w : World} {K : PySem.W.Frag} {mg : Str → Option Value} {base : Heap}
/-! ### is_set -/
abbrev sIsSet : Stmt := top 14
theorem scIsSet : FnScope ["x", "i"] ["x", "i"] (defScope sIsSet) := ⟨rfl, rfl, rfl, by decide +kernel, rfl, by decide +kernel, by decide +kernel⟩
def spIsSet : Sp := fun vs H Q _ => ∃ x i : Nat, vs = [.int (x : Int), .int (i : Int)] ∧ Q (.bl (x.testBit i)) H
theorem set_bit (x i : Nat) : decide (V.int ((x : Int) / 2 ^ (i : Int).toNat % 2) = V.int 1) = x.testBit i := by
  rw [Nat.testBit_eq_decide_div_mod_eq]
  refine decide_eq_decide.mpr ⟨fun h => ?_, fun h => ?_⟩
  · have h2 := V.int.inj h
    rw [Int.toNat_natCast] at h2
    have h3 : ((x / 2 ^ i % 2 : Nat) : Int) = 1 := by
      rw [Int.natCast_emod, Int.natCast_ediv, Int.natCast_pow]
      exact h2
    omega
  · rw [Int.toNat_natCast]
    have h3 : ((x / 2 ^ i % 2 : Nat) : Int) = 1 := by omega
    rw [Int.natCast_emod, Int.natCast_ediv, Int.natCast_pow] at h3
    exact congrArg V.int h3
theorem kn_is_set (h : At K mg "is_set" ["x", "i"] sIsSet) : Kn P w K mg base CX0 1 "is_set" ["x", "i"] spIsSet := by
  refine h.kn fun f fd F => F.ok scIsSet (fun vs H Q E h => ?_) (fun cdv A outer s H vs Q E hr h => ⟨_,
    pss_one (ps_ret (pe_cmpR op_eq (pe_op op_mod (pe_op op_shr (pv 0) (pv 1)) pe_int) pe_int (nomark _))), ?_⟩)
  · obtain ⟨x, i, rfl, _⟩ := h
    rfl
  obtain ⟨x, i, rfl, k⟩ := h
  refine ⟨_, rfl, _, rfl, _, _, rfl, rfl, (by show (0 : Int) ≤ (i : Int); omega), _, _, rfl, rfl, (by show (0 : Int) < 2; decide), rfl, ?_⟩
  rw [← set_bit] at k
  exact k
/-! ### many_set -/
abbrev sManySet : Stmt := top 15
theorem scManySet : FnScope ["x", "i"] ["x"] (defScope sManySet) := ⟨rfl, rfl, rfl, by decide +kernel, rfl, by decide +kernel, by decide +kernel⟩
def spManySet : Sp := fun vs H Q _ => ∃ x : Nat, vs = [.int (x : Int)] ∧ ∀ H', Same H H' → Q (.int ((bits 5 x : Nat) : Int)) H'
theorem fm_filter {α : Type} (p : Nat → Bool) (v : Nat → α) : ∀ l : List Nat, (l.filterMap fun i => if p i then some (v i) else none) = (l.filter p).map v
  | [] => rfl
  | x :: l => by
    by_cases h : p x = true
    · rw [List.filterMap_cons, if_pos h, List.filter_cons_of_pos h, List.map_cons, fm_filter p v l]
    · rw [List.filterMap_cons, if_neg h, List.filter_cons_of_neg h, fm_filter p v l]
theorem fm_map {α : Type} (v : Nat → α) : ∀ l : List Nat, (l.filterMap fun i => some (v i)) = l.map v
  | [] => rfl
  | x :: l => by rw [List.filterMap_cons, List.map_cons, fm_map v l]
theorem kn_many_set (h : At K mg "many_set" ["x"] sManySet) (hI : Kn P w K mg base CX0 1 "is_set" ["x", "i"] spIsSet) (hB : Nm mg "MOST_BITS" 5) (mr : mg "range" = none) (ml : mg "len" = none) : Kn P w K mg base CX0 2 "many_set" ["x"] spManySet := by
  obtain ⟨fI, fdI, gI, kI, bI, GI⟩ := hI
  obtain ⟨t, hB⟩ := hB
  refine h.kn fun f fd F => F.ok scManySet (fun vs H Q E h => ?_) (fun cdv A outer s H vs Q E hr h => ⟨_,
    pss_one (ps_ret (pe_callB call_len_seq (by rfl) ml PySem.boot_len (pa_cons
      (pe_lc (own := [("i", 1)]) (g := gName 1) rfl scManySet.nd (pi_range1 rfl mr (pa_cons (pe_glob (v := .int 5) rfl hB ⟨_, rfl⟩) pa_nil)) (blkOk_by (N := ["x", "i"]) (sc := defScope sManySet) (by decide +kernel))
        (fun _ _ _ _ _ => pg_name (i := 1) scManySet.nd rfl (Or.inl rfl))
        (fun _ _ _ _ _ => pts_one (pt_val (pe_call GI hr rfl gI kI bI .nil pass0 (pa_cons (pv 0) (pa_cons (pv 1) pa_nil)))))
        (fun _ _ _ _ _ => pv 1)) pa_nil))), ?_⟩)
  · obtain ⟨x, rfl, _⟩ := h
    rfl
  obtain ⟨x, rfl, k⟩ := h
  refine ⟨5, rfl, by decide, by decide, fun D nD => lcA walk_range (fun i => if x.testBit i then some (.int (0 + (i : Int))) else none) (by decide) nD (fun _ _ => trivial) ?_ ?_⟩
  · rintro i v H1 H' N M hi s1 ⟨rfl, rfl⟩ hN hM
    refine ⟨rfl, _, rfl, _, rfl, x, i, by simp, _, rfl, ?_⟩
    by_cases c : x.testBit i = true
    · exact if_true_of c ⟨_, rfl, hM _ _ (Same.refl _) (if_pos c)⟩
    · exact if_false_of (Bool.eq_false_iff.mpr c) (hN _ (Same.refl _) (if_neg c))
  · intro H' s1 hD
    refine ⟨_, _, rfl, .inl (SqL.of hD), ?_⟩
    have e : ((List.range (Int.toNat 5)).filterMap fun i => if x.testBit i then some (V.int (0 + (i : Int))) else none).length = bits 5 x := by
      rw [fm_filter, List.length_map]
      rfl
    rw [e]
    exact k H' s1
end
end Wk
/-! ## Wk4 -/
namespace Wk
open PySem PySem.Spec PyProof.Rows L2 Mh
open Krdk (bits words meet weigh Answer of)
/-- numbers as values -/
def iv (l : List Int) : List V := l.map V.int
/-- what a def that hands back a new list of numbers promises -/
def givesL (H : Hp) (l : List Int) (Q : VK) : Prop := ∀ (H' : Hp) (p : Addr), H p = none → Same H H' → H' p = some (.lst (iv l)) → Q (.ref p) H'
theorem iv_len (l : List Int) : (iv l).length = l.length := by simp [iv]
theorem words_at {n i : Nat} {x : V} (h : (iv (nz (words n)))[i]? = some x) : x = .int (i : Int) ∧ i < 2 ^ n := by
  unfold iv nz words at h
  rw [List.map_map, List.getElem?_map] at h
  by_cases hi : i < 2 ^ n
  · rw [List.getElem?_range hi] at h
    exact ⟨(Option.some.inj h).symm, hi⟩
  · rw [List.getElem?_eq_none (by simpa using hi)] at h
    cases h
theorem words_iv_len (n : Nat) : (iv (nz (words n))).length = 2 ^ n := by simp [iv, nz, words]
theorem fm_words (n : Nat) (g : Nat → Int) : ((List.range (2 ^ n)).filterMap fun i => some (V.int (g i))) = iv ((words n).map g) := by
  rw [fm_map]
  unfold iv words
  rw [List.map_map]
  rfl
theorem two16 {n : Nat} (h : n ≤ 5) : 2 ^ n ≤ 16000000 := Nat.le_trans (two32 h) (by decide)
theorem inV_nat (x : Nat) (l : List Nat) : inV (.int (x : Int)) (iv (nz l)) = l.contains x := by
  unfold inV iv nz
  induction l with
  | nil => rfl
  | cons y l ih =>
    rw [List.map_cons, List.map_cons, List.any_cons, ih, List.contains_cons]
    congr 1
    show ((y : Int) == (x : Int)) = (x == y)
    by_cases h : x = y
    · subst h; simp
    · have h1 : ¬ (y : Int) = (x : Int) := by omega
      rw [beq_eq_false_iff_ne.mpr h1, beq_eq_false_iff_ne.mpr h]
theorem iv_flat (l : List Int) : (iv l).all flatV = true := by
  unfold iv
  rw [List.all_map]
  induction l with
  | nil => rfl
  | cons y l ih => rw [List.all_cons, ih]; rfl
theorem b2_if (b : Bool) : (if b = true then (1 : Int) else 0) = b2 b := rfl
section
variable {P : Program} {w : World} {K : PySem.W.Frag} {mg : Str → Option Value} {base : Heap}
/-! ### all_words -/
abbrev sAllWords : Stmt := top 16
theorem scAllWords : FnScope ["n"] ["n"] (defScope sAllWords) := ⟨rfl, rfl, rfl, by decide +kernel, rfl, by decide +kernel, by decide +kernel⟩
def spAllWords : Sp := fun vs H Q _ => ∃ n : Nat, vs = [.int (n : Int)] ∧ n ≤ 5 ∧ givesL H (nz (words n)) Q
theorem rg_words (n : Nat) : rgV 0 (1 * 2 ^ (n : Int).toNat) = iv (nz (words n)) := by
  unfold rgV iv nz words
  have e : (1 * 2 ^ (n : Int).toNat - 0 : Int).toNat = 2 ^ n := by
    rw [Int.toNat_natCast, Int.one_mul, Int.sub_zero]
    have : ((2 ^ n : Nat) : Int) = 2 ^ n := by simp
    rw [← this, Int.toNat_natCast]
  rw [e, List.map_map]
  apply List.map_congr_left
  intro a _
  simp
theorem pow_le32 {n : Nat} (h : n ≤ 5) : (2 : Int) ^ n ≤ 32 := by
  have h1 := two32 h
  have : ((2 ^ n : Nat) : Int) = 2 ^ n := by simp
  rw [← this]; omega
theorem pow_pos' (n : Nat) : (0 : Int) < 2 ^ n := Int.pow_pos (by decide)
theorem kn_all_words (h : At K mg "all_words" ["n"] sAllWords) (mr : mg "range" = none) (ml : mg "list" = none) : Kn P w K mg base CX0 1 "all_words" ["n"] spAllWords := by
  refine h.kn fun f fd F => F.ok scAllWords (fun vs H Q E h => ?_) (fun cdv A outer s H vs Q E hr h => ⟨_,
    pss_one (ps_ret (pe_listRg (by rfl) (by rfl) ml (prg_1 (by rfl) mr (pe_op op_shl pe_int (pv 0))))), ?_⟩)
  · obtain ⟨n, rfl, _⟩ := h
    rfl
  obtain ⟨n, rfl, hn, k⟩ := h
  refine ⟨_, rfl, _, _, rfl, rfl, ⟨by omega, by omega, by decide⟩, _, rfl, ?_, fun q hq => ?_⟩
  · have h1 := pow_le32 hn
    have h2 := pow_pos' n
    rw [Int.toNat_natCast, Int.one_mul]
    exact RgOk.of_le (by decide) (by omega) (by decide) (by omega)
  · refine k _ q hq (same_upd hq) ?_
    rw [upd_same, rg_words]
/-! ### yes_to -/
abbrev sYesTo : Stmt := top 17
theorem scYesTo : FnScope ["n", "some", "x"] ["n", "some"] (defScope sYesTo) := ⟨rfl, rfl, rfl, by decide +kernel, rfl, by decide +kernel, by decide +kernel⟩
def spYesTo (K : PySem.W.Frag) : Sp := fun vs H Q _ => ∃ (n : Nat) (a : Addr) (l : List Nat), vs = [.int (n : Int), .ref a] ∧ n ≤ 5 ∧ SqL K H a (iv (nz l)) ∧ givesL H (sv (of n fun x => l.contains x).t) Q
theorem kn_yes_to (h : At K mg "yes_to" ["n", "some"] sYesTo) (hW : Kn P w K mg base CX0 1 "all_words" ["n"] spAllWords) (mi : mg "int" = none) : Kn P w K mg base CX0 2 "yes_to" ["n", "some"] (spYesTo K) := by
  obtain ⟨fW, fdW, gW, kW, bW, GW⟩ := hW
  refine h.kn fun f fd F => F.ok scYesTo (fun vs H Q E h => ?_) (fun cdv A outer s H vs Q E hr h => ⟨_,
    pss_one (ps_ret (pe_lc (own := [("x", 2)]) (g := gName 2) (tt := tYes) rfl scYesTo.nd (pi_list (pe_call GW hr rfl gW kW bW .nil pass0 (pa_cons (pv 0) pa_nil))) (blkOk_by (N := ["n", "some", "x"]) (sc := defScope sYesTo) (by decide +kernel))
      (fun _ _ _ _ _ => pg_name (i := 2) scYesTo.nd rfl (Or.inl rfl)) (fun _ _ _ _ _ => pts_nil)
      (fun _ _ _ _ _ => pe_callTy call_int1 (by rfl) mi (by decide +kernel) (pa_cons (pe_cmpR (r := rIn K false) op_in_seq (pv 2) (pv 1) (by rfl)) pa_nil)))), ?_⟩)
  · obtain ⟨n, a, l, rfl, _⟩ := h
    rfl
  obtain ⟨n, a, l, rfl, hn, hl, k⟩ := h
  refine ⟨_, rfl, n, rfl, hn, fun H1 p1 _ s1 h1 => ?_⟩
  refine ⟨p1, rfl, ⟨_, SqL.of h1⟩, fun D nD => lcA (walk_list (xs := iv (nz (words n)))) (fun i => some (.int (b2 (l.contains i)))) (by rw [words_iv_len]; exact two16 hn) nD (fun H2 s2 => SqL.of (s2 _ _ h1)) ?_ ?_⟩
  · rintro i v H2 H' N M hi s2 ⟨rfl, hx⟩ hN hM
    obtain ⟨rfl, hlt⟩ := words_at hx
    refine ⟨rfl, ?_⟩
    refine ⟨_, rfl, _, rfl, a, _, rfl, .inl ((s1.trans s2).seq hl), rfl, iv_flat _, ?_⟩
    refine .inr ⟨_, rfl, hM _ _ (Same.refl _) ?_⟩
    show some _ = some _
    rw [if_neg Bool.false_ne_true, inV_nat]
    rfl
  · intro H' s2 hD
    refine k H' D (s1.free nD) (s1.trans s2) ?_
    rw [hD, words_iv_len, fm_words, sv_of]
end
end Wk
/-! ## Wk5 -/
namespace Wk
open PySem PySem.Spec PyProof.Rows L2 Mh
open Krdk (bits words meet weigh Answer of)
section
variable {P : Program} {w : World} {K : PySem.W.Frag} {mg : Str → Option Value} {base : Heap}
/-! ### yes_from -/
abbrev sYesFrom : Stmt := top 18
abbrev nYesFrom : List Str := ["n", "q", "numbers", "sums", "x", "i", "number", "one"]
theorem scYesFrom : FnScope nYesFrom ["n", "q", "numbers"] (defScope sYesFrom) := ⟨rfl, rfl, rfl, by decide +kernel, rfl, by decide +kernel, by decide +kernel⟩
def lcScope : Stmt → Scope
  | .Assign _ (.ListComp _ _ sc _) _ => sc
  | .Return (some (.ListComp _ _ sc _)) _ => sc
  | _ => { kind := .function, names := [], isGenerator := false, isCoroutine := false }
abbrev scSums : Scope := lcScope ((defBody sYesFrom).getD 0 (.Pass ⟨0, 0, 0, 0⟩))
def spYesFrom (K : PySem.W.Frag) : Sp := fun vs H Q _ => ∃ (n q : Nat) (a : Addr) (l : List Nat), vs = [.int (n : Int), .int (q : Int), .ref a] ∧ n ≤ 5 ∧ l.length = n ∧ SqL K H a (iv (nz l)) ∧ givesL H (sv (of n fun x => decide (q ≤ weigh n l x)).t) Q
def wl (l : List Nat) (x : Nat) : List Int := ((List.range l.length).filter fun i => x.testBit i).map fun i => ((l.getD i 0 : Nat) : Int)
theorem wl_sum (l : List Nat) (x : Nat) : (wl l x).sum = ((weigh l.length l x : Nat) : Int) := by
  unfold wl weigh
  have : ∀ (m : List Nat) (t : Nat), (((m.foldl (fun t i => t + l.getD i 0) t : Nat)) : Int) = (t : Int) + (m.map fun i => ((l.getD i 0 : Nat) : Int)).sum := by
    intro m
    induction m with
    | nil => intro t; simp
    | cons y m ih => intro t; rw [List.foldl_cons, ih, List.map_cons, List.sum_cons]; omega
  rw [this]
  simp
theorem fm_wl (l : List Nat) (x : Nat) : ((List.range (iv (nz l)).length).filterMap fun i => if x.testBit i then some (V.int ((l.getD i 0 : Nat) : Int)) else none) = iv (wl l x) := by
  rw [fm_filter]
  unfold iv wl nz
  rw [List.length_map, List.length_map, List.map_map]
  rfl
theorem iv_get {l : List Nat} {i : Nat} {x : V} (h : (iv (nz l))[i]? = some x) : x = .int ((l.getD i 0 : Nat) : Int) ∧ i < l.length := by
  unfold iv nz at h
  rw [List.map_map, List.getElem?_map] at h
  rw [List.getD_eq_getElem?_getD]
  cases e : l[i]? with
  | none => rw [e] at h; cases h
  | some y =>
    rw [e] at h
    exact ⟨(Option.some.inj h).symm, (List.getElem?_eq_some_iff.mp e).1⟩
theorem iv_at {l : List Int} {i : Nat} {x : V} (h : (iv l)[i]? = some x) : ∃ z, x = .int z ∧ l[i]? = some z := by
  unfold iv at h
  rw [List.getElem?_map] at h
  cases e : l[i]? with
  | none => rw [e] at h; cases h
  | some y =>
    rw [e] at h
    exact ⟨y, (Option.some.inj h).symm, rfl⟩
theorem kn_yes_from (h : At K mg "yes_from" ["n", "q", "numbers"] sYesFrom) (hW : Kn P w K mg base CX0 1 "all_words" ["n"] spAllWords) (hI : Kn P w K mg base CX0 1 "is_set" ["x", "i"] spIsSet) (mi : mg "int" = none) (ms : mg "sum" = none) (me : mg "enumerate" = none) : Kn P w K mg base CX0 2 "yes_from" ["n", "q", "numbers"] (spYesFrom K) := by
  obtain ⟨fW, fdW, gW, kW, bW, GW⟩ := hW
  obtain ⟨fI, fdI, gI, kI, bI, GI⟩ := hI
  refine h.kn fun f fd F => F.ok scYesFrom (fun vs H Q E h => ?_) (fun cdv A outer s H vs Q E hr h => ⟨_,
    pss_cons (ps_setLc (i := 3) (own := [("x", 4)]) (g := gName 4) (tt := tYes)
        (te := tCB (rSum K) (tCons (tLc (iEnum K (tCons (tVar 2) tNil)) (gTup K 2 (gCons (gName 5) (gCons (gName 6) gNil))) (tTest (tCall spIsSet [] E0 (tCons (tVar 4) (tCons (tVar 5) tNil)))) (tVar 6) [5, 6]) tNil))
        rfl scYesFrom.nd rfl rfl (sw_true rfl rfl rfl (by decide +kernel))
        (pi_list (pe_call GW hr rfl gW kW bW .nil pass0 (pa_cons (pv 0) pa_nil))) (blkOk_by (N := nYesFrom) (sc := defScope sYesFrom) (by decide +kernel))
        (fun _ _ _ _ _ => pg_name (i := 4) scYesFrom.nd rfl (Or.inr rfl)) (fun _ _ _ _ _ => pts_nil)
        (fun _ _ _ _ _ => pe_callB (cr_sum rfl) (by rfl) ms (by decide +kernel) (pa_cons
          (pe_lc (own := [("i", 5), ("number", 6)]) (g := gTup K 2 (gCons (gName 5) (gCons (gName 6) gNil))) (wi := iEnum K (tCons (tVar 2) tNil)) (by rfl) scYesFrom.nd (pi_enum (by rfl) me (pa_cons (pv 2) pa_nil)) (blkOk_by (N := nYesFrom) (sc := relS scSums (defScope sYesFrom)) (by decide +kernel))
            (fun _ _ _ _ _ => pg_tup (by rfl) (pgs_cons (pg_name (i := 5) scYesFrom.nd rfl (Or.inl rfl)) (pgs_cons (pg_name (i := 6) scYesFrom.nd rfl (Or.inl rfl)) pgs_nil)))
            (fun _ _ _ _ _ => pts_one (pt_val (pe_call GI hr (by rfl) gI kI bI .nil pass0 (pa_cons (pv 4) (pa_cons (pv 5) pa_nil)))))
            (fun _ _ _ _ _ => pv 6)) pa_nil)))
      (pss_one (ps_ret (pe_lc (own := [("one", 7)]) (g := gName 7) (tt := tYes) rfl scYesFrom.nd (pi_list (pv 3)) (blkOk_by (N := nYesFrom) (sc := defScope sYesFrom) (by decide +kernel))
        (fun _ _ _ _ _ => pg_name (i := 7) scYesFrom.nd rfl (Or.inl rfl)) (fun _ _ _ _ _ => pts_nil)
        (fun _ _ _ _ _ => pe_callTy call_int1 (by rfl) mi (by decide +kernel) (pa_cons (pe_cmpR op_ge (pv 7) (pv 1) (nomark _)) pa_nil))))), ?_⟩)
  · obtain ⟨n, q, a, l, rfl, _⟩ := h
    rfl
  obtain ⟨n, q, a, l, rfl, hn, hlen, hl, k⟩ := h
  subst hlen
  refine ⟨_, rfl, l.length, rfl, hn, fun H1 p1 _ s1 h1 => ?_⟩
  refine ⟨p1, rfl, ⟨_, SqL.of h1⟩, fun D nD => lcA (walk_list (xs := iv (nz (words l.length)))) (fun i => some (.int ((weigh l.length l i : Nat) : Int))) (by rw [words_iv_len]; exact two16 hn) nD (fun H2 s2 => SqL.of (s2 _ _ h1)) ?_ ?_⟩
  · rintro i v H2 H' N M hi s2 ⟨rfl, hx⟩ hN hM
    obtain ⟨rfl, hlt⟩ := words_at hx
    refine ⟨rfl, ?_⟩
    refine ⟨_, rfl, a, _, rfl, (s1.trans s2).seq hl, fun D2 nD2 => lcA (walk_enum (xs := iv (nz l))) (fun j => if i.testBit j then some (.int ((l.getD j 0 : Nat) : Int)) else none) (by rw [iv_len, nz_length]; omega) nD2 (fun H3 s3 => ((s1.trans s2).trans s3).seq hl) ?_ ?_⟩
    · rintro j v H3 H4 N2 M2 hj s3 ⟨T, x, y, rfl, hT, rfl, ex, ey⟩ hN2 hM2
      obtain ⟨rfl, hjl⟩ := iv_get ey
      have ex' := Option.some.inj ex
      subst ex'
      refine ⟨T, _, rfl, SqT.of upd_same, rfl, _, _, rfl, _, _, rfl, rfl, rfl, ?_⟩
      refine ⟨_, rfl, _, rfl, i, j, rfl, _, rfl, ?_⟩
      by_cases c : i.testBit j = true
      · exact if_true_of c ⟨_, rfl, hM2 _ _ (same_upd hT) (if_pos c)⟩
      · exact if_false_of (Bool.eq_false_iff.mpr c) (hN2 _ (same_upd hT) (if_neg c))
    · intro H3 s3 hD2
      rw [fm_wl] at hD2
      refine ⟨_, wl l i, rfl, SqL.of hD2, hM _ _ s3 ?_⟩
      rw [wl_sum]
  · intro H2 s2 hD
    rw [words_iv_len, fm_words] at hD
    refine ⟨_, rfl, D, rfl, ⟨_, SqL.of hD⟩, fun D2 nD2 => lcA (walk_list (xs := iv ((words l.length).map fun x => ((weigh l.length l x : Nat) : Int)))) (fun i => some (.int (b2 (decide (q ≤ weigh l.length l i))))) ?_ nD2 (fun H3 s3 => SqL.of (s3 _ _ hD)) ?_ ?_⟩
    · rw [iv_len, List.length_map]
      unfold words
      rw [List.length_range]
      exact two16 hn
    · rintro i v H3 H' N M hi s3 ⟨rfl, hx⟩ hN hM
      obtain ⟨z, rfl, hz⟩ := iv_at hx
      have hi2 : i < 2 ^ l.length := by
        rw [iv_len, List.length_map] at hi
        unfold words at hi
        rwa [List.length_range] at hi
      have ez : z = ((weigh l.length l i : Nat) : Int) := by
        unfold words at hz
        rw [List.getElem?_map, List.getElem?_range hi2] at hz
        exact (Option.some.inj hz).symm
      subst ez
      refine ⟨rfl, ?_⟩
      refine ⟨_, rfl, _, rfl, _, _, rfl, rfl, .inr ⟨_, rfl, hM _ _ (Same.refl _) ?_⟩⟩
      have e : decide ((q : Int) ≤ ((weigh l.length l i : Nat) : Int)) = decide (q ≤ weigh l.length l i) := decide_eq_decide.mpr (by omega)
      rw [e]
      rfl
    · intro H3 s3 hD2
      refine k H3 D2 ((s1.trans s2).free nD2) ((s1.trans s2).trans s3) ?_
      rw [hD2, iv_len, List.length_map]
      have : (words l.length).length = 2 ^ l.length := by unfold words; rw [List.length_range]
      rw [this, fm_words, sv_of]
/-! ### yes_by_odd -/
abbrev sYesByOdd : Stmt := top 19
theorem scYesByOdd : FnScope ["n", "s", "x"] ["n", "s"] (defScope sYesByOdd) := ⟨rfl, rfl, rfl, by decide +kernel, rfl, by decide +kernel, by decide +kernel⟩
def spYesByOdd : Sp := fun vs H Q _ => ∃ (n s : Nat), vs = [.int (n : Int), .int (s : Int)] ∧ n ≤ 5 ∧ s < 2 ^ n ∧ givesL H (sv (of n fun x => meet n s x % 2 == 1).t) Q
theorem and_nat (x s : Nat) : Builtin.bitAnd (x : Int) (s : Int) = ((x &&& s : Nat) : Int) := bitAnd_pp (by omega) (by omega)
theorem xor_nat (x s : Nat) : Builtin.bitXor (x : Int) (s : Int) = ((x ^^^ s : Nat) : Int) := _root_.Bits.bitXor_pp (by omega) (by omega)
theorem odd_b2 (m : Nat) : ((m : Nat) : Int) % 2 = b2 (m % 2 == 1) := by
  unfold b2
  by_cases h : m % 2 = 1
  · rw [if_pos (by simpa using h)]; omega
  · rw [if_neg (by simpa using h)]; omega
theorem kn_yes_by_odd (h : At K mg "yes_by_odd" ["n", "s"] sYesByOdd) (hW : Kn P w K mg base CX0 1 "all_words" ["n"] spAllWords) (hM : Kn P w K mg base CX0 2 "many_set" ["x"] spManySet) : Kn P w K mg base CX0 3 "yes_by_odd" ["n", "s"] spYesByOdd := by
  obtain ⟨fW, fdW, gW, kW, bW, GW⟩ := hW
  obtain ⟨fM, fdM, gM, kM, bM, GM⟩ := hM
  refine h.kn fun f fd F => F.ok scYesByOdd (fun vs H Q E h => ?_) (fun cdv A outer s H vs Q E hr h => ⟨_,
    pss_one (ps_ret (pe_lc (own := [("x", 2)]) (g := gName 2) (tt := tYes) rfl scYesByOdd.nd (pi_list (pe_call GW (hr.mono (by decide)) rfl gW kW bW .nil pass0 (pa_cons (pv 0) pa_nil))) (blkOk_by (N := ["n", "s", "x"]) (sc := defScope sYesByOdd) (by decide +kernel))
      (fun _ _ _ _ _ => pg_name (i := 2) scYesByOdd.nd rfl (Or.inl rfl)) (fun _ _ _ _ _ => pts_nil)
      (fun _ _ _ _ _ => pe_op op_mod (pe_call GM hr (by rfl) gM kM bM .nil pass0 (pa_cons (pe_op op_and (pv 2) (pv 1)) pa_nil)) pe_int))), ?_⟩)
  · obtain ⟨n, s, rfl, _⟩ := h
    rfl
  obtain ⟨n, s, rfl, hn, hs, k⟩ := h
  refine ⟨_, rfl, n, rfl, hn, fun H1 p1 _ s1 h1 => ?_⟩
  refine ⟨p1, rfl, ⟨_, SqL.of h1⟩, fun D nD => lcA (walk_list (xs := iv (nz (words n)))) (fun i => some (.int (b2 (meet n s i % 2 == 1)))) (by rw [words_iv_len]; exact two16 hn) nD (fun H2 s2 => SqL.of (s2 _ _ h1)) ?_ ?_⟩
  · rintro i v H2 H' N M hi s2 ⟨rfl, hx⟩ hN hM
    obtain ⟨rfl, hlt⟩ := words_at hx
    refine ⟨rfl, ?_⟩
    refine ⟨_, rfl, _, rfl, _, _, rfl, rfl, i &&& s, ?_, fun H3 s3 => ?_⟩
    · show [V.int (Builtin.bitAnd (i : Int) (s : Int))] = _
      rw [and_nat]
    · refine ⟨_, _, rfl, rfl, (by show (0 : Int) < 2; decide), hM _ _ s3 ?_⟩
      rw [← odd_b2, ← meet5 hn hs]
  · intro H' s2 hD
    refine k H' D (s1.free nD) (s1.trans s2) ?_
    rw [hD, words_iv_len, fm_words, sv_of]
/-! ### yes_by_bit -/
abbrev sYesByBit : Stmt := top 20
theorem scYesByBit : FnScope ["n", "i", "x"] ["n", "i"] (defScope sYesByBit) := ⟨rfl, rfl, rfl, by decide +kernel, rfl, by decide +kernel, by decide +kernel⟩
def spYesByBit : Sp := fun vs H Q _ => ∃ (n i : Nat), vs = [.int (n : Int), .int (i : Int)] ∧ n ≤ 5 ∧ givesL H (sv (of n fun x => x.testBit i).t) Q
theorem kn_yes_by_bit (h : At K mg "yes_by_bit" ["n", "i"] sYesByBit) (hW : Kn P w K mg base CX0 1 "all_words" ["n"] spAllWords) (hI : Kn P w K mg base CX0 1 "is_set" ["x", "i"] spIsSet) (mi : mg "int" = none) : Kn P w K mg base CX0 2 "yes_by_bit" ["n", "i"] spYesByBit := by
  obtain ⟨fW, fdW, gW, kW, bW, GW⟩ := hW
  obtain ⟨fI, fdI, gI, kI, bI, GI⟩ := hI
  refine h.kn fun f fd F => F.ok scYesByBit (fun vs H Q E h => ?_) (fun cdv A outer s H vs Q E hr h => ⟨_,
    pss_one (ps_ret (pe_lc (own := [("x", 2)]) (g := gName 2) (tt := tYes) rfl scYesByBit.nd (pi_list (pe_call GW hr rfl gW kW bW .nil pass0 (pa_cons (pv 0) pa_nil))) (blkOk_by (N := ["n", "i", "x"]) (sc := defScope sYesByBit) (by decide +kernel))
      (fun _ _ _ _ _ => pg_name (i := 2) scYesByBit.nd rfl (Or.inl rfl)) (fun _ _ _ _ _ => pts_nil)
      (fun _ _ _ _ _ => pe_callTy call_int1 (by rfl) mi (by decide +kernel) (pa_cons (pe_call GI hr (by rfl) gI kI bI .nil pass0 (pa_cons (pv 2) (pa_cons (pv 1) pa_nil))) pa_nil)))), ?_⟩)
  · obtain ⟨n, s, rfl, _⟩ := h
    rfl
  obtain ⟨n, b, rfl, hn, k⟩ := h
  refine ⟨_, rfl, n, rfl, hn, fun H1 p1 _ s1 h1 => ?_⟩
  refine ⟨p1, rfl, ⟨_, SqL.of h1⟩, fun D nD => lcA (walk_list (xs := iv (nz (words n)))) (fun i => some (.int (b2 (i.testBit b)))) (by rw [words_iv_len]; exact two16 hn) nD (fun H2 s2 => SqL.of (s2 _ _ h1)) ?_ ?_⟩
  · rintro i v H2 H' N M hi s2 ⟨rfl, hx⟩ hN hM
    obtain ⟨rfl, hlt⟩ := words_at hx
    refine ⟨rfl, ?_⟩
    exact ⟨_, rfl, _, rfl, i, b, rfl, .inr ⟨_, rfl, hM _ _ (Same.refl _) rfl⟩⟩
  · intro H' s2 hD
    refine k H' D (s1.free nD) (s1.trans s2) ?_
    rw [hD, words_iv_len, fm_words, sv_of]
end
end Wk
/-! ## Wk6 -/
namespace Wk
open PySem PySem.Spec PyProof.Rows L2 Mh
open Krdk (bits words meet weigh Answer of)
theorem fm_range (n : Nat) (g : Nat → Int) : ((List.range n).filterMap fun i => some (V.int (g i))) = iv ((List.range n).map g) := by
  rw [fm_map]
  unfold iv
  rw [List.map_map]
  rfl
theorem sv_at {t : List Bool} {i : Nat} {x : V} (h : (iv (sv t))[i]? = some x) : x = .int (b2 (t.getD i false)) ∧ i < t.length ∧ t[i]? = some (t.getD i false) := by
  obtain ⟨z, rfl, hz⟩ := iv_at h
  unfold sv at hz
  rw [List.getElem?_map] at hz
  rw [List.getD_eq_getElem?_getD]
  cases e : t[i]? with
  | none => rw [e] at hz; cases hz
  | some b =>
    rw [e] at hz
    exact ⟨congrArg V.int (Option.some.inj hz).symm, (List.getElem?_eq_some_iff.mp e).1, rfl⟩
theorem sv_iv_len (t : List Bool) : (iv (sv t)).length = t.length := by rw [iv_len, sv_length]
theorem le16 {n : Nat} (h : n ≤ 32) : n ≤ 16000000 := Nat.le_trans h (by decide)
section
variable {P : Program} {w : World} {K : PySem.W.Frag} {mg : Str → Option Value} {base : Heap}
/-! ### other_way -/
abbrev sOtherWay : Stmt := top 21
theorem scOtherWay : FnScope ["says", "one"] ["says"] (defScope sOtherWay) := ⟨rfl, rfl, rfl, by decide +kernel, rfl, by decide +kernel, by decide +kernel⟩
def spOtherWay (K : PySem.W.Frag) : Sp := fun vs H Q _ => ∃ (n : Nat) (f : Answer) (a : Addr), vs = [.ref a] ∧ Ans n f ∧ SqL K H a (iv (sv f.t)) ∧ givesL H (sv (of n fun x => !f.at_ x).t) Q
theorem b2_not (b : Bool) : 1 - b2 b = b2 (!b) := by cases b <;> rfl
theorem kn_other_way (h : At K mg "other_way" ["says"] sOtherWay) : Kn P w K mg base CX0 1 "other_way" ["says"] (spOtherWay K) := by
  refine h.kn fun f fd F => F.ok scOtherWay (fun vs H Q E h => ?_) (fun cdv A outer s H vs Q E hr h => ⟨_,
    pss_one (ps_ret (pe_lc (own := [("one", 1)]) (g := gName 1) (tt := tYes) rfl scOtherWay.nd (pi_list (pv 0)) (blkOk_by (N := ["says", "one"]) (sc := defScope sOtherWay) (by decide +kernel))
      (fun _ _ _ _ _ => pg_name (i := 1) scOtherWay.nd rfl (Or.inl rfl)) (fun _ _ _ _ _ => pts_nil)
      (fun _ _ _ _ _ => pe_op op_sub pe_int (pv 1)))), ?_⟩)
  · obtain ⟨n, f, a, rfl, _⟩ := h
    rfl
  obtain ⟨n, f, a, rfl, hf, hl, k⟩ := h
  refine ⟨_, rfl, a, rfl, ⟨_, hl⟩, fun D nD => lcA (walk_list (xs := iv (sv f.t))) (fun i => some (.int (b2 (!f.at_ i)))) (by rw [sv_iv_len]; exact le16 hf.le32) nD (fun H2 s2 => s2.seq hl) ?_ ?_⟩
  · rintro i v H2 H' N M hi s2 ⟨rfl, hx⟩ hN hM
    obtain ⟨rfl, hlt, ht⟩ := sv_at hx
    refine ⟨rfl, ?_⟩
    refine ⟨_, rfl, _, _, rfl, rfl, hM _ _ (Same.refl _) ?_⟩
    rw [at_get ht, ← b2_not]
  · intro H' s2 hD
    refine k H' D nD s2 ?_
    rw [hD, sv_iv_len, hf.len, fm_words, sv_of]
/-! ### with_bit_turned -/
abbrev sTurned : Stmt := top 22
theorem scTurned : FnScope ["says", "i", "x"] ["says", "i"] (defScope sTurned) := ⟨rfl, rfl, rfl, by decide +kernel, rfl, by decide +kernel, by decide +kernel⟩
def spTurned (K : PySem.W.Frag) : Sp := fun vs H Q _ => ∃ (n : Nat) (f : Answer) (a : Addr) (i : Nat), vs = [.ref a, .int (i : Int)] ∧ Ans n f ∧ i < n ∧ SqL K H a (iv (sv f.t)) ∧ givesL H (sv (of n fun x => f.at_ (Krdk.flip x i)).t) Q
theorem sv_get {t : List Bool} {i : Nat} (h : i < t.length) : (iv (sv t))[i]? = some (.int (b2 (t.getD i false))) := by
  unfold iv sv
  rw [List.map_map, List.getElem?_map, List.getD_eq_getElem?_getD, List.getElem?_eq_getElem h]
  rfl
theorem kn_with_bit_turned (h : At K mg "with_bit_turned" ["says", "i"] sTurned) (mr : mg "range" = none) (ml : mg "len" = none) : Kn P w K mg base CX0 1 "with_bit_turned" ["says", "i"] (spTurned K) := by
  refine h.kn fun f fd F => F.ok scTurned (fun vs H Q E h => ?_) (fun cdv A outer s H vs Q E hr h => ⟨_,
    pss_one (ps_ret (pe_lc (own := [("x", 2)]) (g := gName 2) (tt := tYes) rfl scTurned.nd (pi_range1 rfl mr (pa_cons (pe_callB call_len_seq (by rfl) ml PySem.boot_len (pa_cons (pv 0) pa_nil)) pa_nil)) (blkOk_by (N := ["says", "i", "x"]) (sc := defScope sTurned) (by decide +kernel))
      (fun _ _ _ _ _ => pg_name (i := 2) scTurned.nd rfl (Or.inl rfl)) (fun _ _ _ _ _ => pts_nil)
      (fun _ _ _ _ _ => pe_ix (r := rIxL K) ix_list (pv 0) (pe_op op_xor (pv 2) (pe_op op_shl pe_int (pv 1))) (fun _ _ => rfl)))), ?_⟩)
  · obtain ⟨n, f, a, i, rfl, _⟩ := h
    rfl
  obtain ⟨n, f, a, b, rfl, hf, hb, hl, k⟩ := h
  have h5 := hf.n5
  refine ⟨_, rfl, a, _, rfl, .inl hl, _, rfl, ?_, ?_, fun D nD => ?_⟩
  · have := hf.le32
    rw [sv_iv_len]; omega
  · have := hf.le32
    rw [sv_iv_len]; omega
  have el : Int.toNat ((iv (sv f.t)).length : Int) = 2 ^ n := by rw [Int.toNat_natCast, sv_iv_len, hf.len]
  rw [el]
  refine lcA walk_range (fun i => some (.int (b2 (f.at_ (Krdk.flip i b))))) (two16 h5) nD (fun _ _ => trivial) ?_ ?_
  · rintro i v H2 H' N M hi s2 ⟨rfl, rfl⟩ hN hM
    refine ⟨rfl, ?_⟩
    have hfl := flip_lt h5 hi hb
    have e : Builtin.bitXor (0 + (i : Int)) (1 * 2 ^ (b : Int).toNat) = ((Krdk.flip i b : Nat) : Int) := by
      rw [Int.zero_add, Int.one_mul, Int.toNat_natCast, ← flip_xor h5 hi hb, ← xor_nat]
      simp
    refine ⟨_, rfl, _, rfl, _, rfl, _, _, rfl, rfl, ⟨by omega, by omega, by decide⟩, _, _, rfl, rfl, a, _, _, _, rfl, rfl, s2.seq hl, ?_, hM _ _ (Same.refl _) rfl⟩
    rw [e]
    exact atI_nat (sv_get (by rw [hf.len]; exact hfl))
  · intro H' s2 hD
    refine k H' D nD s2 ?_
    rw [hD, fm_words, sv_of]
/-! ### with_one -/
abbrev sWithOne : Stmt := top 23
theorem scWithOne : FnScope ["says", "x", "b", "other", "one"] ["says", "x", "b"] (defScope sWithOne) := ⟨rfl, rfl, rfl, by decide +kernel, rfl, by decide +kernel, by decide +kernel⟩
def spWithOne (K : PySem.W.Frag) : Sp := fun vs H Q _ => ∃ (n : Nat) (f : Answer) (a : Addr) (x b : Nat), vs = [.ref a, .int (x : Int), .int (b : Int)] ∧ Ans n f ∧ b ≤ 1 ∧ SqL K H a (iv (sv f.t)) ∧ givesL H (sv (f.t.set x (b == 1))) Q
theorem set_map (t : List Bool) (x : Nat) (c : Bool) : iv ((List.range t.length).map fun i => b2 (if i = x then c else t.getD i false)) = iv (sv (t.set x c)) := by
  apply congrArg
  unfold sv
  apply List.ext_getElem?
  intro i
  rw [List.getElem?_map, List.getElem?_map]
  by_cases hi : i < t.length
  · rw [List.getElem?_range hi, List.getElem?_eq_getElem (by rw [List.length_set]; exact hi), List.getElem_set]
    by_cases hx : i = x
    · subst hx; simp
    · rw [if_neg (fun z => hx z.symm)]
      simp [hx, hi]
  · rw [List.getElem?_eq_none (by simpa using hi), List.getElem?_eq_none (by simpa using hi)]; rfl
theorem kn_with_one (h : At K mg "with_one" ["says", "x", "b"] sWithOne) (me : mg "enumerate" = none) : Kn P w K mg base CX0 1 "with_one" ["says", "x", "b"] (spWithOne K) := by
  refine h.kn fun f fd F => F.ok scWithOne (fun vs H Q E h => ?_) (fun cdv A outer s H vs Q E hr h => ⟨_,
    pss_one (ps_ret (pe_lc (own := [("other", 3), ("one", 4)]) (g := gTup K 2 (gCons (gName 3) (gCons (gName 4) gNil))) (tt := tYes) rfl scWithOne.nd (pi_enum (by rfl) me (pa_cons (pv 0) pa_nil)) (blkOk_by (N := ["says", "x", "b", "other", "one"]) (sc := defScope sWithOne) (by decide +kernel))
      (fun _ _ _ _ _ => pg_tup (by rfl) (pgs_cons (pg_name (i := 3) scWithOne.nd rfl (Or.inl rfl)) (pgs_cons (pg_name (i := 4) scWithOne.nd rfl (Or.inl rfl)) pgs_nil))) (fun _ _ _ _ _ => pts_nil)
      (fun _ _ _ _ _ => pe_ifExp (pt_cmpR op_eq (pv 3) (pv 1) (nomark _)) (pv 2) (pv 4)))), ?_⟩)
  · obtain ⟨n, f, a, x, b, rfl, _⟩ := h
    rfl
  obtain ⟨n, f, a, x, b, rfl, hf, hb, hl, k⟩ := h
  refine ⟨_, rfl, a, _, rfl, hl, fun D nD => lcA (walk_enum (xs := iv (sv f.t))) (fun i => some (.int (b2 (if i = x then (b == 1) else f.t.getD i false)))) (by rw [sv_iv_len]; exact le16 hf.le32) nD (fun H2 s2 => s2.seq hl) ?_ ?_⟩
  · rintro i v H2 H' N M hi s2 ⟨T, x', y, rfl, hT, rfl, ex, ey⟩ hN hM
    obtain ⟨rfl, hlt, ht⟩ := sv_at ey
    have ex' := Option.some.inj ex
    subst ex'
    refine ⟨T, _, rfl, SqT.of upd_same, rfl, _, _, rfl, _, _, rfl, rfl, rfl, ?_⟩
    refine ⟨_, rfl, _, rfl, rfl, _, rfl, ?_⟩
    by_cases c : i = x
    · subst c
      refine if_true_of (decide_eq_true rfl) ⟨_, rfl, hM _ _ (same_upd hT) ?_⟩
      rw [if_pos rfl]
      have : (b : Int) = b2 (b == 1) := by
        rcases Nat.le_one_iff_eq_zero_or_eq_one.mp hb with rfl | rfl <;> rfl
      rw [this]
    · refine if_false_of (decide_eq_false fun z => c ?_) ⟨_, rfl, hM _ _ (same_upd hT) ?_⟩
      · have := V.int.inj z
        omega
      · rw [if_neg c]
  · intro H' s2 hD
    refine k H' D nD s2 ?_
    rw [hD, sv_iv_len, fm_range, set_map]
/-! ### words_of -/
abbrev sWordsOf : Stmt := top 24
theorem scWordsOf : FnScope ["says", "x", "one"] ["says"] (defScope sWordsOf) := ⟨rfl, rfl, rfl, by decide +kernel, rfl, by decide +kernel, by decide +kernel⟩
def spWordsOf (K : PySem.W.Frag) : Sp := fun vs H Q _ => ∃ (n : Nat) (f : Answer) (a : Addr), vs = [.ref a] ∧ Ans n f ∧ SqL K H a (iv (sv f.t)) ∧ givesL H (nz ((words n).filter f.at_)) Q
theorem fm_words_of (n : Nat) (p : Nat → Bool) : ((List.range (2 ^ n)).filterMap fun i => if p i then some (V.int (i : Int)) else none) = iv (nz ((words n).filter p)) := by
  rw [fm_filter]
  unfold iv nz words
  rw [List.map_map]
  rfl
theorem b2_one (b : Bool) : decide (V.int (b2 b) = V.int 1) = b := by cases b <;> rfl
theorem kn_words_of (h : At K mg "words_of" ["says"] sWordsOf) (me : mg "enumerate" = none) : Kn P w K mg base CX0 1 "words_of" ["says"] (spWordsOf K) := by
  refine h.kn fun f fd F => F.ok scWordsOf (fun vs H Q E h => ?_) (fun cdv A outer s H vs Q E hr h => ⟨_,
    pss_one (ps_ret (pe_lc (own := [("x", 1), ("one", 2)]) (g := gTup K 2 (gCons (gName 1) (gCons (gName 2) gNil))) rfl scWordsOf.nd (pi_enum (by rfl) me (pa_cons (pv 0) pa_nil)) (blkOk_by (N := ["says", "x", "one"]) (sc := defScope sWordsOf) (by decide +kernel))
      (fun _ _ _ _ _ => pg_tup (by rfl) (pgs_cons (pg_name (i := 1) scWordsOf.nd rfl (Or.inl rfl)) (pgs_cons (pg_name (i := 2) scWordsOf.nd rfl (Or.inl rfl)) pgs_nil))) (fun _ _ _ _ _ => pts_one (pt_cmpR op_eq (pv 2) pe_int (nomark _)))
      (fun _ _ _ _ _ => pv 1))), ?_⟩)
  · obtain ⟨n, f, a, rfl, _⟩ := h
    rfl
  obtain ⟨n, f, a, rfl, hf, hl, k⟩ := h
  refine ⟨_, rfl, a, _, rfl, hl, fun D nD => lcA (walk_enum (xs := iv (sv f.t))) (fun i => if f.at_ i then some (.int (i : Int)) else none) (by rw [sv_iv_len]; exact le16 hf.le32) nD (fun H2 s2 => s2.seq hl) ?_ ?_⟩
  · rintro i v H2 H' N M hi s2 ⟨T, x', y, rfl, hT, rfl, ex, ey⟩ hN hM
    obtain ⟨rfl, hlt, ht⟩ := sv_at ey
    have ex' := Option.some.inj ex
    subst ex'
    refine ⟨T, _, rfl, SqT.of upd_same, rfl, _, _, rfl, _, _, rfl, rfl, rfl, ?_⟩
    refine ⟨_, rfl, rfl, _, rfl, ?_⟩
    have ea := at_get ht
    rw [b2_one, ← ea]
    by_cases c : f.at_ i = true
    · exact if_true_of c ⟨_, rfl, hM _ _ (same_upd hT) (if_pos c)⟩
    · exact if_false_of (Bool.eq_false_iff.mpr c) (hN _ (same_upd hT) (if_neg c))
  · intro H' s2 hD
    refine k H' D nD s2 ?_
    rw [hD, sv_iv_len, hf.len, fm_words_of]
end
end Wk
/-! ## Wk7 -/
namespace Wk
open PySem PySem.Spec PyProof.Rows L2 Mh
open Krdk (bits words meet weigh Answer of)
section
variable {P : Program} {w : World} {K : PySem.W.Frag} {mg : Str → Option Value} {base : Heap}
theorem fr_upd {H : Hp} {D a : Addr} {xs ys : List V} {r : Rat} (hD : H D = some (.lst xs)) (h : Fr K H a r) : Fr K (upd H D (.lst ys)) a r := by
  have ne : ∀ {o : HO}, H a = some o → o ≠ .lst xs → a ≠ D := fun ha hne z => by
    rw [z, hD] at ha
    exact hne (Option.some.inj ha).symm
  rcases h with (h | ⟨o, h⟩) | h
  · refine .inl (.inl ?_)
    rw [upd_ne (ne h (by intro z; cases z))]
    exact h
  · refine .inl (.inr ⟨o, ?_⟩)
    rw [upd_ne (ne h (by intro z; cases z))]
    exact h
  · exact .inr h
/-- what a def that hands back a list of fractions promises -/
def givesF (K : PySem.W.Frag) (H : Hp) (rs : List Rat) (Q : VK) : Prop := ∀ (H' : Hp) (p : Addr) (ps : List V), Same H H' → H' p = some (.lst ps) → Frs K H' ps rs → Q (.ref p) H'
/-! ### part -/
abbrev sPart : Stmt := top 25
abbrev nPart : List Str := ["says", "s", "signs", "x", "one"]
theorem scPart : FnScope nPart ["says", "s"] (defScope sPart) := ⟨rfl, rfl, rfl, by decide +kernel, rfl, by decide +kernel, by decide +kernel⟩
def spPart (K : PySem.W.Frag) : Sp := fun vs H Q _ => ∃ (n : Nat) (f : Answer) (a : Addr) (s : Nat), vs = [.ref a, .int (s : Int)] ∧ Ans n f ∧ s < 2 ^ n ∧ SqL K H a (iv (sv f.t)) ∧ gives K H (f.part s) Q
theorem kn_part (h : At K mg "part" ["says", "s"] sPart) (hM : Kn P w K mg base CX0 2 "many_set" ["x"] spManySet) (hS : Kn P w K mg base CX0 2 "share" ["upper", "lower"] (spShare K)) (me : mg "enumerate" = none) (ms : mg "sum" = none) (ml : mg "len" = none) : Kn P w K mg base CX0 3 "part" ["says", "s"] (spPart K) := by
  obtain ⟨fM, fdM, gM, kM, bM, GM⟩ := hM
  obtain ⟨fS, fdS, gS, kS, bS, GS⟩ := hS
  refine h.kn fun f fd F => F.ok scPart (fun vs H Q E h => ?_) (fun cdv A outer s H vs Q E hr h => ⟨_,
    pss_cons (ps_setLc (i := 2) (own := [("x", 3), ("one", 4)]) (g := gTup K 2 (gCons (gName 3) (gCons (gName 4) gNil))) (tt := tYes) rfl scPart.nd rfl rfl (sw_true rfl rfl rfl (by decide +kernel)) (pi_enum (by rfl) me (pa_cons (pv 0) pa_nil)) (blkOk_by (N := nPart) (sc := defScope sPart) (by decide +kernel))
      (fun _ _ _ _ _ => pg_tup (by rfl) (pgs_cons (pg_name (i := 3) scPart.nd rfl (Or.inl rfl)) (pgs_cons (pg_name (i := 4) scPart.nd rfl (Or.inl rfl)) pgs_nil))) (fun _ _ _ _ _ => pts_nil)
      (fun _ _ _ _ _ => pe_op op_sub pe_int (pe_op op_mul pe_int (pe_op op_mod (pe_op op_add (pe_call GM hr (by rfl) gM kM bM .nil pass0 (pa_cons (pe_op op_and (pv 3) (pv 1)) pa_nil)) (pv 4)) pe_int))))
      (pss_one (ps_ret (pe_call GS hr rfl gS kS bS .nil pass0 (pa_cons (pe_callB (cr_sum rfl) (by rfl) ms (by decide +kernel) (pa_cons (pv 2) pa_nil)) (pa_cons (pe_callB call_len_seq (by rfl) ml PySem.boot_len (pa_cons (pv 0) pa_nil)) pa_nil))))), ?_⟩)
  · obtain ⟨n, f, a, s, rfl, _⟩ := h
    rfl
  obtain ⟨n, f, a, z, rfl, hf, hz, hl, k⟩ := h
  refine ⟨_, rfl, a, _, rfl, hl, fun D nD => lcA (walk_enum (xs := iv (sv f.t))) (fun i => some (.int (if meet f.n z i % 2 = 0 then f.sign i else -f.sign i))) (by rw [sv_iv_len]; exact le16 hf.le32) nD (fun H2 s2 => s2.seq hl) ?_ ?_⟩
  · rintro i v H2 H' N M hi s2 ⟨T, x', y, rfl, hT, rfl, ex, ey⟩ hN hM
    obtain ⟨rfl, hlt, ht⟩ := sv_at ey
    have ex' := Option.some.inj ex
    subst ex'
    refine ⟨T, _, rfl, SqT.of upd_same, rfl, _, _, rfl, _, _, rfl, rfl, rfl, ?_⟩
    refine ⟨_, rfl, _, rfl, _, _, rfl, rfl, i &&& z, ?_, fun H3 s3 => ?_⟩
    · show [V.int (Builtin.bitAnd (i : Int) (z : Int))] = _
      rw [and_nat]
    · refine ⟨_, rfl, _, _, rfl, rfl, _, _, rfl, rfl, (by show (0 : Int) < 2; decide), _, _, rfl, rfl, .inl ⟨by decide, by decide⟩, _, _, rfl, rfl, hM _ _ ((same_upd hT).trans s3) ?_⟩
      rw [← sign_eq hf hz, at_get ht]
  · intro H' s2 hD
    have e : ((List.range (iv (sv f.t)).length).filterMap fun i => some (V.int (if meet f.n z i % 2 = 0 then f.sign i else -f.sign i))) = iv (Mh.signs f z) := by
      rw [sv_iv_len, hf.len, fm_words]
      unfold Mh.signs
      rw [hf.eq]
    rw [e] at hD
    refine ⟨_, rfl, D, Mh.signs f z, rfl, SqL.of hD, _, rfl, a, _, rfl, .inl (s2.seq hl), (Mh.signs f z).sum, 2 ^ n, ?_, Nat.two_pow_pos n, ?_, ?_⟩
    · rw [sv_iv_len, hf.len]
      rfl
    · have := two32 hf.n5
      have h2 : (32 : Nat) < 2 ^ 200 := by decide
      omega
    · rw [part_eq hf]
      exact fun H3 p s3 g => k H3 p (s2.trans s3) g
/-! ### levels -/
abbrev sLevels : Stmt := top 26
abbrev nLevels : List Str := ["n", "says", "found", "s", "one", "k"]
theorem scLevels : FnScope nLevels ["n", "says"] (defScope sLevels) := ⟨rfl, rfl, rfl, by decide +kernel, rfl, by decide +kernel, by decide +kernel⟩
def spLevels (K : PySem.W.Frag) : Sp := fun vs H Q _ => ∃ (n : Nat) (f : Answer) (a : Addr), vs = [.int (n : Int), .ref a] ∧ Ans n f ∧ SqL K H a (iv (sv f.t)) ∧ givesF K H ((List.range (n + 1)).map f.level) Q
theorem ixN_at {n j : Nat} (h : j < n) : ixN n (j : Int) = some j := by
  unfold ixN
  rw [if_pos (by omega), if_pos (by omega), Int.toNat_natCast]
theorem rep_one {k : Nat} {x : V} : (List.replicate k [x]).flatten = List.replicate k x := by
  induction k with
  | zero => rfl
  | succ k ih => rw [List.replicate_succ, List.flatten_cons, ih, List.replicate_succ]; rfl
theorem kn_levels (h : At K mg "levels" ["n", "says"] sLevels) (hN : Tp K mg "NONE" [.int 0, .int 1]) (hW : Kn P w K mg base CX0 1 "all_words" ["n"] spAllWords) (hP : Kn P w K mg base CX0 3 "part" ["says", "s"] (spPart K)) (hM : Kn P w K mg base CX0 2 "many_set" ["x"] spManySet)
    (hA : Kn P w K mg base CX0 3 "added" ["one", "other"] (spTwo K fun r s => r + s)) (hU : Kn P w K mg base CX0 3 "multiplied" ["one", "other"] (spTwo K fun r s => r * s)) : Kn P w K mg base CX0 4 "levels" ["n", "says"] (spLevels K) := by
  obtain ⟨aN, gN, tN⟩ := hN
  obtain ⟨fW, fdW, gW, kW, bW, GW⟩ := hW
  obtain ⟨fP, fdP, gP, kP, bP, GP⟩ := hP
  obtain ⟨fM, fdM, gM, kM, bM, GM⟩ := hM
  obtain ⟨fA, fdA, gA, kA, bA, GA⟩ := hA
  obtain ⟨fU, fdU, gU, kU, bU, GU⟩ := hU
  refine h.kn fun f fd F => F.ok scLevels (fun vs H Q E h => ?_) (fun cdv A outer s H vs Q E hr h => ⟨_,
    pss_cons (ps_set (i := 2) scLevels.nd rfl (Or.inl rfl) (pe_op op_rep (pe_lst (pa_cons (pe_glob (v := .ref aN) rfl gN rfl) pa_nil)) (pe_op op_add (pv 0) pe_int)))
      (pss_cons (ps_for PassesOwn.never rfl (pi_list (pe_call GW (hr.mono (by decide)) rfl gW kW bW .nil pass0 (pa_cons (pv 0) pa_nil))) (pg_name (i := 3) scLevels.nd rfl (Or.inl rfl))
        (pss_cons (ps_set (i := 4) scLevels.nd rfl (Or.inl rfl) (pe_call GP hr rfl gP kP bP .nil pass0 (pa_cons (pv 1) (pa_cons (pv 3) pa_nil))))
        (pss_cons (ps_set (i := 5) scLevels.nd rfl (Or.inl rfl) (pe_call GM (hr.mono (by decide)) rfl gM kM bM .nil pass0 (pa_cons (pv 3) pa_nil)))
        (pss_one (ps_asg (pe_call GA hr rfl gA kA bA .nil pass0 (pa_cons (pe_ix ix_list (pv 2) (pv 5) (fun _ _ => rfl)) (pa_cons (pe_call GU hr rfl gU kU bU .nil pass0 (pa_cons (pv 4) (pa_cons (pv 4) pa_nil))) pa_nil))) (pg_sub (pv 2) (pv 5) set_list))))))
      (pss_one (ps_ret (pv 2)))), ?_⟩)
  · obtain ⟨n, f, a, rfl, _⟩ := h
    rfl
  obtain ⟨n, f, a, rfl, hf, hl, k⟩ := h
  have h5 := hf.n5
  refine ⟨(by show 1 ≤ sizeLine; decide), fun p0 hp0 => ?_⟩
  have s0 : Same H (upd H p0 (.lst [.ref aN])) := same_upd hp0
  refine ⟨_, rfl, _, _, rfl, rfl, p0, _, _, rfl, rfl, upd_same, by omega, by omega, ?_, fun D hD => ?_⟩
  · rw [sizeLine_eq]
    show 1 * ((n : Int) + 1).toNat ≤ _
    omega
  have eD : (List.replicate ((n : Int) + 1).toNat [V.ref aN]).flatten = List.replicate (n + 1) (V.ref aN) := by
    rw [rep_one]
    congr 1
  rw [eD]
  have s1 : Same H (upd (upd H p0 (.lst [.ref aN])) D (.lst (List.replicate (n + 1) (V.ref aN)))) := s0.trans (same_upd hD)
  have nD : H D = none := s0.free hD
  refine ⟨_, rfl, n, rfl, h5, fun H2 p2 _ s2 h2 => ?_⟩
  have hD2 : H2 D = some (.lst (List.replicate (n + 1) (V.ref aN))) := s2 _ _ upd_same
  have hne : p2 ≠ D := fun z => by
    rw [z, hD2] at h2
    have := HO.lst.inj (Option.some.inj h2)
    have q := congrArg (fun l => l[0]?) this
    have q2 : (iv (nz (words n)))[0]? = some (.int ((0 : Nat) : Int)) := by
      unfold iv nz words
      rw [List.map_map, List.getElem?_map, List.getElem?_range (Nat.two_pow_pos n)]
      rfl
    rw [q2, List.replicate_succ] at q
    cases q
  refine ⟨p2, rfl, ⟨_, SqL.of h2⟩, for_list (K := K) (a := p2) (xs := iv (nz (words n))) (fun j σ H' => ∃ (v1 v2 v3 : Option V) (ps : List V), σ = [some (.int (n : Int)), some (.ref a), some (.ref D), v1, v2, v3] ∧ Same H H' ∧ H' p2 = some (.lst (iv (nz (words n)))) ∧
      H' D = some (.lst ps) ∧ Frs K H' ps ((List.range (n + 1)).map (lev f j))) ?_ ?_ ?_ ?_⟩
  · refine ⟨none, none, none, _, rfl, s1.trans s2, h2, hD2, by simp, fun i r hr => ?_⟩
    rw [List.getElem?_map] at hr
    cases e : (List.range (n + 1))[i]? with
    | none => rw [e] at hr; cases hr
    | some y =>
      rw [e] at hr
      have hi := (List.getElem?_eq_some_iff.mp e).1
      rw [List.length_range] at hi
      have er : r = 0 := by
        have := (Option.some.inj hr).symm
        rw [this, lev_zero]
      subst er
      exact ⟨aN, List.getElem?_replicate_of_lt hi, fr_zero (tN _)⟩
  · rintro j σ H' _ ⟨v1, v2, v3, ps, rfl, s5, h6, h7, h8⟩
    exact SqL.of h6
  · rintro j x σ H' hx ⟨v1, v2, v3, ps, rfl, s5, h6, h7, h8⟩
    obtain ⟨rfl, hj⟩ := words_at hx
    refine ⟨_, rfl, _, rfl, n, f, a, j, rfl, hf, hj, s5.seq hl, fun H3 p3 s3 g3 => ?_⟩
    refine ⟨_, rfl, j, rfl, fun H4 s4 => ?_⟩
    have hb : bits 5 j = bits n j := bits5 h5 hj
    have hbl := bits_le n j
    have h8' := h8.same (s3.trans s4)
    have hget : ((List.range (n + 1)).map (lev f j))[bits n j]? = some (lev f j (bits n j)) := by
      rw [List.getElem?_map, List.getElem?_range (by omega)]
      rfl
    obtain ⟨b, hb1, hb2⟩ := h8'.2 _ _ hget
    have h7' := s4 _ _ (s3 _ _ h7)
    have hlen : ps.length = n + 1 := by rw [h8.1, List.length_map, List.length_range]
    refine ⟨_, rfl, _, rfl, D, _, _, _, rfl, rfl, SqL.of h7', (by rw [hb]; exact atI_nat hb1), ?_⟩
    refine ⟨_, rfl, _, rfl, p3, p3, f.part j, f.part j, rfl, g3.same s4, g3.same s4, part_sm hf j, part_sm hf j, fun H5 p5 s5' g5 => ?_⟩
    refine ⟨b, p5, lev f j (bits n j), f.part j * f.part j, rfl, hb2.same s5', g5, lev_sm hf _ _, psq_sm hf j, fun H6 p6 s6 g6 => ?_⟩
    have h7'' := s6 _ _ (s5' _ _ h7')
    refine ⟨_, rfl, _, rfl, D, ps, _, bits n j, rfl, rfl, h7'', (by rw [hb, hlen]; exact ixN_at (by omega)), ?_⟩
    refine ⟨_, _, _, _, rfl, fun c o q => ?_, ?_, upd_same, ?_, fun i r hr => ?_⟩
    · rw [upd_ne (ne_of_none q nD)]
      exact s6 _ _ (s5' _ _ (s4 _ _ (s3 _ _ (s5 _ _ q))))
    · rw [upd_ne hne]
      exact s6 _ _ (s5' _ _ (s4 _ _ (s3 _ _ h6)))
    · rw [List.length_set, List.length_map, List.length_range]
      exact hlen
    · rw [List.getElem?_map] at hr
      cases e : (List.range (n + 1))[i]? with
      | none => rw [e] at hr; cases hr
      | some y =>
        rw [e] at hr
        obtain ⟨hi, ei⟩ := List.getElem?_eq_some_iff.mp e
        rw [List.length_range] at hi
        rw [List.getElem_range] at ei
        subst ei
        have er : r = lev f (j + 1) i := (Option.some.inj hr).symm
        by_cases hc : i = bits n j
        · subst hc
          rw [lev_here hf hj] at er
          subst er
          exact ⟨p6, by rw [List.getElem?_set_self (by omega)], fr_upd h7'' g6⟩
        · rw [lev_else hf hj hc] at er
          subst er
          obtain ⟨c, hc1, hc2⟩ := h8.2 i (lev f j i) (by rw [List.getElem?_map, e]; rfl)
          exact ⟨c, by rw [List.getElem?_set_ne (fun z => hc z.symm)]; exact hc1, fr_upd h7'' (hc2.same (((s3.trans s4).trans s5').trans s6))⟩
  · rintro σ H' ⟨v1, v2, v3, ps, rfl, s5, h6, h7, h8⟩
    rw [words_iv_len] at h8
    refine ⟨_, rfl, k H' D ps s5 h7 ?_⟩
    have e : (lev f (2 ^ n)) = f.level := funext fun i => lev_all hf i
    rw [e] at h8
    exact h8
end
end Wk
/-! ## Wk8 -/
namespace Wk
open PySem PySem.Spec PyProof.Rows L2 Mh
open Krdk (bits words meet weigh Answer of sum)
section
variable {P : Program} {w : World} {K : PySem.W.Frag} {mg : Str → Option Value} {base : Heap}
/-! ### heard_as -/
abbrev sHeardAs : Stmt := top 28
theorem scHeardAs : FnScope ["n", "e", "u", "v", "unlike"] ["n", "e", "u", "v"] (defScope sHeardAs) := ⟨rfl, rfl, rfl, by decide +kernel, rfl, by decide +kernel, by decide +kernel⟩
def spHeardAs (K : PySem.W.Frag) : Sp := fun vs H Q _ => ∃ (n : Nat) (a : Addr) (e : Rat) (u v : Nat), vs = [.int (n : Int), .ref a, .int (u : Int), .int (v : Int)] ∧ n ≤ 5 ∧ Fr K H a e ∧ Ch e ∧ u < 2 ^ n ∧ v < 2 ^ n ∧ gives K H (Krdl.heard n e u v) Q
theorem kn_heard_as (h : At K mg "heard_as" ["n", "e", "u", "v"] sHeardAs) (hM : Kn P w K mg base CX0 2 "many_set" ["x"] spManySet) (hU : Kn P w K mg base CX0 3 "multiplied" ["one", "other"] (spTwo K fun r s => r * s)) (hO : Kn P w K mg base CX0 4 "often" ["one", "many"] (spOften K))
    (hL : Kn P w K mg base CX0 3 "less" ["one", "other"] (spTwo K fun r s => r - s)) (hW : Tp K mg "WHOLE" [.int 1, .int 1]) : Kn P w K mg base CX0 5 "heard_as" ["n", "e", "u", "v"] (spHeardAs K) := by
  obtain ⟨fM, fdM, gM, kM, bM, GM⟩ := hM
  obtain ⟨fU, fdU, gU, kU, bU, GU⟩ := hU
  obtain ⟨fO, fdO, gO, kO, bO, GO⟩ := hO
  obtain ⟨fL, fdL, gL, kL, bL, GL⟩ := hL
  obtain ⟨aW, gW, tW⟩ := hW
  refine h.kn fun f fd F => F.ok scHeardAs (fun vs H Q E h => ?_) (fun cdv A outer s H vs Q E hr h => ⟨_,
    pss_cons (ps_set (i := 4) scHeardAs.nd rfl (Or.inl rfl) (pe_call GM (hr.mono (by decide)) rfl gM kM bM .nil pass0 (pa_cons (pe_op op_xor (pv 2) (pv 3)) pa_nil)))
      (pss_one (ps_ret (pe_call GU (hr.mono (by decide)) rfl gU kU bU .nil pass0 (pa_cons (pe_call GO hr rfl gO kO bO .nil pass0 (pa_cons (pv 1) (pa_cons (pv 4) pa_nil)))
        (pa_cons (pe_call GO hr rfl gO kO bO .nil pass0 (pa_cons (pe_call GL (hr.mono (by decide)) rfl gL kL bL .nil pass0 (pa_cons (pe_glob (v := .ref aW) rfl gW rfl) (pa_cons (pv 1) pa_nil))) (pa_cons (pe_op op_sub (pv 0) (pv 4)) pa_nil))) pa_nil))))), ?_⟩)
  · obtain ⟨n, a, e, u, v, rfl, _⟩ := h
    rfl
  obtain ⟨n, a, e, u, v, rfl, hn, he, hc, hu, hv, k⟩ := h
  have hle := bits5_le hn hu hv
  have hsm := hc.sm
  refine ⟨_, rfl, _, rfl, _, _, rfl, rfl, u ^^^ v, ?_, fun H1 s1 => ?_⟩
  · show [V.int (Builtin.bitXor (u : Int) (v : Int))] = _
    rw [xor_nat]
  refine ⟨_, rfl, _, rfl, a, bits 5 (u ^^^ v), e, rfl, he.same s1, by omega, hsm.1, fun j hj => (hc.pows (by omega)).1, fun H2 p2 s2 g2 => ?_⟩
  refine ⟨_, rfl, aW, a, 1, e, rfl, fr_one (tW _), (he.same s1).same s2, ⟨by decide, by decide⟩, hsm.1, fun H3 p3 s3 g3 => ?_⟩
  refine ⟨_, rfl, _, rfl, _, _, rfl, rfl, p3, n - bits 5 (u ^^^ v), 1 - e, ?_, g3, by omega, hsm.2, fun j hj => (hc.pows (by omega)).2, fun H4 p4 s4 g4 => ?_⟩
  · have : (n : Int) - ((bits 5 (u ^^^ v) : Nat) : Int) = ((n - bits 5 (u ^^^ v) : Nat) : Int) := by omega
    show [V.ref p3, V.int ((n : Int) - ((bits 5 (u ^^^ v) : Nat) : Int))] = _
    rw [this]
  refine ⟨p2, p4, _, _, rfl, (g2.same s3).same s4, g4, (hc.pows (by omega)).1, (hc.pows (by omega)).2, fun H5 p5 s5 g5 => ?_⟩
  dsimp only at g5
  rw [heard5 e hn hu hv] at g5
  exact k H5 p5 ((((s1.trans s2).trans s3).trans s4).trans s5) g5
/-! ### yes_to_meant -/
abbrev sMeant : Stmt := top 29
abbrev nMeant : List Str := ["n", "e", "says", "u", "v", "one"]
theorem scMeant : FnScope nMeant ["n", "e", "says", "u"] (defScope sMeant) := ⟨rfl, rfl, rfl, by decide +kernel, rfl, by decide +kernel, by decide +kernel⟩
/-- n, e, says, u, as they are handed in -/
def HandIn (K : PySem.W.Frag) (H : Hp) (n : Nat) (e : Rat) (f : Answer) (ae as : Addr) : Prop := Ans n f ∧ Ch e ∧ Fr K H ae e ∧ SqL K H as (iv (sv f.t))
theorem HandIn.same {H H' : Hp} {n : Nat} {e : Rat} {f : Answer} {ae as : Addr} (s : Same H H') (h : HandIn K H n e f ae as) : HandIn K H' n e f ae as := ⟨h.1, h.2.1, h.2.2.1.same s, s.seq h.2.2.2⟩
def spMeant (K : PySem.W.Frag) (r : Answer → Rat → Nat → Rat) : Sp := fun vs H Q _ => ∃ (n : Nat) (e : Rat) (f : Answer) (ae as : Addr) (u : Nat), vs = [.int (n : Int), .ref ae, .ref as, .int (u : Int)] ∧ HandIn K H n e f ae as ∧ u < 2 ^ n ∧ gives K H (r f e u) Q
theorem fm_yesW {n : Nat} {f : Answer} (hf : Ans n f) (e : Rat) (u : Nat) : ((List.range (2 ^ n)).filterMap fun i => if f.at_ i then some (Krdl.heard n e u i) else none) = (yesW f).map fun y => Krdl.heard f.n e u y := by
  rw [fm_filter]
  unfold yesW words
  rw [hf.eq]
theorem kn_yes_to_meant (h : At K mg "yes_to_meant" ["n", "e", "says", "u"] sMeant) (hA : Kn P w K mg base CX0 4 "all_added" ["some"] (spAllAdded K)) (hH : Kn P w K mg base CX0 5 "heard_as" ["n", "e", "u", "v"] (spHeardAs K)) (me : mg "enumerate" = none) : Kn P w K mg base CX0 6 "yes_to_meant" ["n", "e", "says", "u"] (spMeant K Krdl.soft) := by
  obtain ⟨fA, fdA, gA, kA, bA, GA⟩ := hA
  obtain ⟨fH, fdH, gH, kH, bH, GH⟩ := hH
  refine h.kn fun f fd F => F.ok scMeant (fun vs H Q E h => ?_) (fun cdv A outer s H vs Q E hr h => ⟨_,
    pss_one (ps_ret (pe_call GA (hr.mono (by decide)) rfl gA kA bA .nil pass0 (pa_cons
      (pe_lc (own := [("v", 4), ("one", 5)]) (g := gTup K 2 (gCons (gName 4) (gCons (gName 5) gNil))) rfl scMeant.nd (pi_enum (by rfl) me (pa_cons (pv 2) pa_nil)) (blkOk_by (N := nMeant) (sc := defScope sMeant) (by decide +kernel))
        (fun _ _ _ _ _ => pg_tup (by rfl) (pgs_cons (pg_name (i := 4) scMeant.nd rfl (Or.inl rfl)) (pgs_cons (pg_name (i := 5) scMeant.nd rfl (Or.inl rfl)) pgs_nil))) (fun _ _ _ _ _ => pts_one (pt_cmpR op_eq (pv 5) pe_int (nomark _)))
        (fun _ _ _ _ _ => pe_call GH hr (by rfl) gH kH bH .nil pass0 (pa_cons (pv 0) (pa_cons (pv 1) (pa_cons (pv 3) (pa_cons (pv 4) pa_nil)))))) pa_nil))), ?_⟩)
  · obtain ⟨n, e, f, ae, as, u, rfl, _⟩ := h
    rfl
  obtain ⟨n, e, f, ae, as, u, rfl, hh, hu, k⟩ := h
  obtain ⟨hf, hc, he, hl⟩ := hh
  obtain ⟨B, L⟩ := hc.lo hf.n5
  refine ⟨_, rfl, as, _, rfl, hl, fun D nD => lcB (K := K) (walk_enum (xs := iv (sv f.t))) (fun i => if f.at_ i then some (Krdl.heard n e u i) else none) (by rw [sv_iv_len]; exact le16 hf.le32) nD (fun H2 s2 => s2.seq hl) ?_ ?_⟩
  · rintro i v H2 H' N M hi s2 ⟨T, x', y, rfl, hT, rfl, ex, ey⟩ hN hM
    obtain ⟨rfl, hlt, ht⟩ := sv_at ey
    have ex' := Option.some.inj ex
    subst ex'
    refine ⟨T, _, rfl, SqT.of upd_same, rfl, _, _, rfl, _, _, rfl, rfl, rfl, ?_⟩
    refine ⟨_, rfl, rfl, _, rfl, ?_⟩
    have ea := at_get ht
    rw [b2_one, ← ea]
    have sT : Same H2 _ := same_upd (o := .tup [.int (i : Int), .int (b2 (f.at_ i))]) hT
    rw [ea] at sT
    by_cases c : f.at_ i = true
    · refine if_true_of c ⟨_, rfl, _, rfl, _, rfl, _, rfl, n, ae, e, u, i, rfl, hf.n5, (he.same s2).same sT, hc, hu, by rw [← hf.len]; exact hlt, fun H3 p3 s3 g3 => hM p3 _ H3 (sT.trans s3) (if_pos c) g3⟩
    · exact if_false_of (Bool.eq_false_iff.mpr c) (hN _ sT (if_neg c))
  · intro H' ps s2 hD hfr
    rw [sv_iv_len, hf.len, fm_yesW hf] at hfr
    refine ⟨D, ps, _, rfl, SqL.of hD, hfr, fun r hr => ?_, soft_take hf L u, fun H3 p3 s3 g3 => ?_⟩
    · obtain ⟨y, _, rfl⟩ := List.mem_map.mp hr
      rw [hf.eq]
      exact heard_sm L u y
    · rw [← soft_eq] at g3
      exact k H3 p3 (s2.trans s3) g3
/-! ### right_to_meant -/
abbrev sRight : Stmt := top 30
abbrev nRight : List Str := ["n", "e", "says", "u", "found"]
theorem scRight : FnScope nRight ["n", "e", "says", "u"] (defScope sRight) := ⟨rfl, rfl, rfl, by decide +kernel, rfl, by decide +kernel, by decide +kernel⟩
theorem b2_zero (b : Bool) : decide (V.int (b2 b) = V.int 0) = !b := by cases b <;> rfl
theorem kn_right_to_meant (h : At K mg "right_to_meant" ["n", "e", "says", "u"] sRight) (hY : Kn P w K mg base CX0 6 "yes_to_meant" ["n", "e", "says", "u"] (spMeant K Krdl.soft)) (hL : Kn P w K mg base CX0 3 "less" ["one", "other"] (spTwo K fun r s => r - s)) (hW : Tp K mg "WHOLE" [.int 1, .int 1]) : Kn P w K mg base CX0 7 "right_to_meant" ["n", "e", "says", "u"] (spMeant K right) := by
  obtain ⟨fY, fdY, gY, kY, bY, GY⟩ := hY
  obtain ⟨fL, fdL, gL, kL, bL, GL⟩ := hL
  obtain ⟨aW, gW, tW⟩ := hW
  refine h.kn fun f fd F => F.ok scRight (fun vs H Q E h => ?_) (fun cdv A outer s H vs Q E hr h => ⟨_,
    pss_cons (ps_set (i := 4) scRight.nd rfl (Or.inl rfl) (pe_call GY hr rfl gY kY bY .nil pass0 (pa_cons (pv 0) (pa_cons (pv 1) (pa_cons (pv 2) (pa_cons (pv 3) pa_nil))))))
      (pss_cons (ps_if (pt_cmpR op_eq (pe_ix ix_list (pv 2) (pv 3) (fun _ _ => rfl)) pe_int (nomark _))
        (pss_one (ps_ret (pe_call GL (hr.mono (by decide)) rfl gL kL bL .nil pass0 (pa_cons (pe_glob (v := .ref aW) rfl gW rfl) (pa_cons (pv 4) pa_nil))))) pss_nil)
      (pss_one (ps_ret (pv 4)))), ?_⟩)
  · obtain ⟨n, e, f, ae, as, u, rfl, _⟩ := h
    rfl
  obtain ⟨n, e, f, ae, as, u, rfl, hh, hu, k⟩ := h
  have hh0 := hh
  obtain ⟨hf, hc, he, hl⟩ := hh
  obtain ⟨B, L⟩ := hc.lo hf.n5
  refine ⟨_, rfl, _, rfl, _, rfl, _, rfl, n, e, f, ae, as, u, rfl, hh0, hu, fun H1 p1 s1 g1 => ?_⟩
  have hut : u < f.t.length := by rw [hf.len]; exact hu
  refine ⟨_, rfl, _, rfl, as, _, _, _, rfl, rfl, s1.seq hl, atI_nat (sv_get hut), rfl, _, rfl, ?_⟩
  rw [b2_zero]
  have ea : f.t.getD u false = f.at_ u := rfl
  rw [ea]
  cases c : f.at_ u with
  | true =>
    refine if_false_of rfl ?_
    refine ⟨_, rfl, k H1 p1 s1 ?_⟩
    unfold right
    rw [c]
    exact g1
  | false =>
    refine if_true_of rfl ?_
    refine ⟨_, rfl, aW, p1, 1, _, rfl, fr_one (tW _), g1, ⟨by decide, by decide⟩, soft_sm hf L u, fun H2 p2 s2 g2 => k H2 p2 (s1.trans s2) ?_⟩
    unfold right
    rw [c]
    exact g2
/-! ### all_right, stays -/
abbrev sAllRight : Stmt := top 31
abbrev nAllRight : List Str := ["n", "e", "says", "u"]
theorem scAllRight : FnScope nAllRight ["n", "e", "says"] (defScope sAllRight) := ⟨rfl, rfl, rfl, by decide +kernel, rfl, by decide +kernel, by decide +kernel⟩
def spAllRight (K : PySem.W.Frag) : Sp := fun vs H Q _ => ∃ (n : Nat) (e : Rat) (f : Answer) (ae as : Addr), vs = [.int (n : Int), .ref ae, .ref as] ∧ HandIn K H n e f ae as ∧ givesF K H (rights f e) Q
def spWhole (K : PySem.W.Frag) (r : Answer → Rat → Rat) : Sp := fun vs H Q _ => ∃ (n : Nat) (e : Rat) (f : Answer) (ae as : Addr), vs = [.int (n : Int), .ref ae, .ref as] ∧ HandIn K H n e f ae as ∧ gives K H (r f e) Q
theorem fm_rat (n : Nat) (g : Nat → Rat) : ((List.range (2 ^ n)).filterMap fun i => some (g i)) = (words n).map g := fm_map g _
theorem kn_all_right (h : At K mg "all_right" ["n", "e", "says"] sAllRight) (hR : Kn P w K mg base CX0 7 "right_to_meant" ["n", "e", "says", "u"] (spMeant K right)) (mr : mg "range" = none) (ml : mg "len" = none) : Kn P w K mg base CX0 8 "all_right" ["n", "e", "says"] (spAllRight K) := by
  obtain ⟨fR, fdR, gR, kR, bR, GR⟩ := hR
  refine h.kn fun f fd F => F.ok scAllRight (fun vs H Q E h => ?_) (fun cdv A outer s H vs Q E hr h => ⟨_,
    pss_one (ps_ret (pe_lc (own := [("u", 3)]) (g := gName 3) (tt := tYes) rfl scAllRight.nd (pi_range1 rfl mr (pa_cons (pe_callB call_len_seq (by rfl) ml PySem.boot_len (pa_cons (pv 2) pa_nil)) pa_nil)) (blkOk_by (N := nAllRight) (sc := defScope sAllRight) (by decide +kernel))
      (fun _ _ _ _ _ => pg_name (i := 3) scAllRight.nd rfl (Or.inl rfl)) (fun _ _ _ _ _ => pts_nil)
      (fun _ _ _ _ _ => pe_call GR hr (by rfl) gR kR bR .nil pass0 (pa_cons (pv 0) (pa_cons (pv 1) (pa_cons (pv 2) (pa_cons (pv 3) pa_nil))))))), ?_⟩)
  · obtain ⟨n, e, f, ae, as, rfl, _⟩ := h
    rfl
  obtain ⟨n, e, f, ae, as, rfl, hh, k⟩ := h
  have hf := hh.1
  have hl := hh.2.2.2
  refine ⟨_, rfl, as, _, rfl, .inl hl, _, rfl, ?_, ?_, fun D nD => ?_⟩
  · have := hf.le32
    rw [sv_iv_len]; omega
  · have := hf.le32
    rw [sv_iv_len]; omega
  have el : Int.toNat ((iv (sv f.t)).length : Int) = 2 ^ n := by rw [Int.toNat_natCast, sv_iv_len, hf.len]
  rw [el]
  refine lcB (K := K) walk_range (fun i => some (right f e i)) (two16 hf.n5) nD (fun _ _ => trivial) ?_ ?_
  · rintro i v H2 H' N M hi s2 ⟨rfl, rfl⟩ hN hM
    refine ⟨rfl, ?_⟩
    refine ⟨_, rfl, _, rfl, _, rfl, _, rfl, n, e, f, ae, as, i, by simp, hh.same s2, hi, fun H3 p3 s3 g3 => hM p3 _ H3 s3 rfl g3⟩
  · intro H' ps s2 hD hfr
    rw [fm_rat] at hfr
    refine k H' D ps s2 hD ?_
    unfold rights
    rw [hf.eq]
    exact hfr
abbrev sStays : Stmt := top 32
theorem scStays : FnScope ["n", "e", "says"] ["n", "e", "says"] (defScope sStays) := ⟨rfl, rfl, rfl, by decide +kernel, rfl, by decide +kernel, by decide +kernel⟩
theorem kn_stays (h : At K mg "stays" ["n", "e", "says"] sStays) (hM : Kn P w K mg base CX0 5 "mean_of" ["some"] (spMeanOf K)) (hR : Kn P w K mg base CX0 8 "all_right" ["n", "e", "says"] (spAllRight K)) : Kn P w K mg base CX0 9 "stays" ["n", "e", "says"] (spWhole K Krdl.stays) := by
  obtain ⟨fM, fdM, gM, kM, bM, GM⟩ := hM
  obtain ⟨fR, fdR, gR, kR, bR, GR⟩ := hR
  refine h.kn fun f fd F => F.ok scStays (fun vs H Q E h => ?_) (fun cdv A outer s H vs Q E hr h => ⟨_,
    pss_one (ps_ret (pe_call GM (hr.mono (by decide)) rfl gM kM bM .nil pass0 (pa_cons (pe_call GR hr rfl gR kR bR .nil pass0 (pa_cons (pv 0) (pa_cons (pv 1) (pa_cons (pv 2) pa_nil)))) pa_nil))), ?_⟩)
  · obtain ⟨n, e, f, ae, as, rfl, _⟩ := h
    rfl
  obtain ⟨n, e, f, ae, as, rfl, hh, k⟩ := h
  have hf := hh.1
  obtain ⟨B, L⟩ := hh.2.1.lo hf.n5
  have hlen : (rights f e).length = 2 ^ n := by unfold rights words; rw [List.length_map, List.length_range, hf.eq]
  refine ⟨_, rfl, _, rfl, _, rfl, n, e, f, ae, as, rfl, hh, fun H1 p1 ps s1 h1 g1 => ?_⟩
  refine ⟨p1, ps, _, rfl, SqL.of h1, g1, by rw [hlen]; exact Nat.two_pow_pos n, by rw [hlen]; exact two32 hf.n5, fun r hr => ?_, rights_take hf L, fun H2 p2 s2 g2 => k H2 p2 (s1.trans s2) ?_⟩
  · obtain ⟨x, _, rfl⟩ := List.mem_map.mp hr
    exact right_sm hf L x
  · rw [hlen, stays_eq hf] at g2
    exact g2
/-! ### both_same, agree -/
abbrev sBothSame : Stmt := top 34
theorem scBothSame : FnScope ["one", "no"] ["one"] (defScope sBothSame) := ⟨rfl, rfl, rfl, by decide +kernel, rfl, by decide +kernel, by decide +kernel⟩
def spBothSame (K : PySem.W.Frag) : Sp := fun vs H Q _ => ∃ (a : Addr) (r : Rat), vs = [.ref a] ∧ Fr K H a r ∧ Sm r ∧ Sm (1 - r) ∧ Sm (r * r) ∧ Sm ((1 - r) * (1 - r)) ∧ gives K H (both r) Q
theorem kn_both_same (h : At K mg "both_same" ["one"] sBothSame) (hL : Kn P w K mg base CX0 3 "less" ["one", "other"] (spTwo K fun r s => r - s)) (hA : Kn P w K mg base CX0 3 "added" ["one", "other"] (spTwo K fun r s => r + s)) (hU : Kn P w K mg base CX0 3 "multiplied" ["one", "other"] (spTwo K fun r s => r * s)) (hW : Tp K mg "WHOLE" [.int 1, .int 1]) : Kn P w K mg base CX0 4 "both_same" ["one"] (spBothSame K) := by
  obtain ⟨fL, fdL, gL, kL, bL, GL⟩ := hL
  obtain ⟨fA, fdA, gA, kA, bA, GA⟩ := hA
  obtain ⟨fU, fdU, gU, kU, bU, GU⟩ := hU
  obtain ⟨aW, gW, tW⟩ := hW
  refine h.kn fun f fd F => F.ok scBothSame (fun vs H Q E h => ?_) (fun cdv A outer s H vs Q E hr h => ⟨_,
    pss_cons (ps_set (i := 1) scBothSame.nd rfl (Or.inl rfl) (pe_call GL hr rfl gL kL bL .nil pass0 (pa_cons (pe_glob (v := .ref aW) rfl gW rfl) (pa_cons (pv 0) pa_nil))))
      (pss_one (ps_ret (pe_call GA hr rfl gA kA bA .nil pass0 (pa_cons (pe_call GU hr rfl gU kU bU .nil pass0 (pa_cons (pv 0) (pa_cons (pv 0) pa_nil))) (pa_cons (pe_call GU hr rfl gU kU bU .nil pass0 (pa_cons (pv 1) (pa_cons (pv 1) pa_nil))) pa_nil))))), ?_⟩)
  · obtain ⟨a, r, rfl, _⟩ := h
    rfl
  obtain ⟨a, r, rfl, ha, h1, h2, h3, h4, k⟩ := h
  refine ⟨_, rfl, aW, a, 1, r, rfl, fr_one (tW _), ha, ⟨by decide, by decide⟩, h1, fun H1 p1 s1 g1 => ?_⟩
  refine ⟨_, rfl, _, rfl, a, a, r, r, rfl, ha.same s1, ha.same s1, h1, h1, fun H2 p2 s2 g2 => ?_⟩
  refine ⟨_, rfl, _, rfl, p1, p1, 1 - r, 1 - r, rfl, g1.same s2, g1.same s2, h2, h2, fun H3 p3 s3 g3 => ?_⟩
  exact ⟨p2, p3, _, _, rfl, g2.same s3, g3, h3, h4, fun H4 p4 s4 g4 => k H4 p4 (((s1.trans s2).trans s3).trans s4) g4⟩
abbrev sAgree : Stmt := top 35
abbrev nAgree : List Str := ["n", "e", "says", "u"]
theorem scAgree : FnScope nAgree ["n", "e", "says"] (defScope sAgree) := ⟨rfl, rfl, rfl, by decide +kernel, rfl, by decide +kernel, by decide +kernel⟩
theorem kn_agree (h : At K mg "agree" ["n", "e", "says"] sAgree) (hM : Kn P w K mg base CX0 5 "mean_of" ["some"] (spMeanOf K)) (hB : Kn P w K mg base CX0 4 "both_same" ["one"] (spBothSame K)) (hY : Kn P w K mg base CX0 6 "yes_to_meant" ["n", "e", "says", "u"] (spMeant K Krdl.soft)) (mr : mg "range" = none) (ml : mg "len" = none) : Kn P w K mg base CX0 7 "agree" ["n", "e", "says"] (spWhole K Krdl.agree) := by
  obtain ⟨fM, fdM, gM, kM, bM, GM⟩ := hM
  obtain ⟨fB, fdB, gB, kB, bB, GB⟩ := hB
  obtain ⟨fY, fdY, gY, kY, bY, GY⟩ := hY
  refine h.kn fun f fd F => F.ok scAgree (fun vs H Q E h => ?_) (fun cdv A outer s H vs Q E hr h => ⟨_,
    pss_one (ps_ret (pe_call GM (hr.mono (by decide)) rfl gM kM bM .nil pass0 (pa_cons
      (pe_lc (own := [("u", 3)]) (g := gName 3) (tt := tYes) rfl scAgree.nd (pi_range1 rfl mr (pa_cons (pe_callB call_len_seq (by rfl) ml PySem.boot_len (pa_cons (pv 2) pa_nil)) pa_nil)) (blkOk_by (N := nAgree) (sc := defScope sAgree) (by decide +kernel))
      (fun _ _ _ _ _ => pg_name (i := 3) scAgree.nd rfl (Or.inl rfl)) (fun _ _ _ _ _ => pts_nil)
      (fun _ _ _ _ _ => pe_call GB (hr.mono (by decide)) (by rfl) gB kB bB .nil pass0 (pa_cons (pe_call GY hr (by rfl) gY kY bY .nil pass0 (pa_cons (pv 0) (pa_cons (pv 1) (pa_cons (pv 2) (pa_cons (pv 3) pa_nil))))) pa_nil))) pa_nil))), ?_⟩)
  · obtain ⟨n, e, f, ae, as, rfl, _⟩ := h
    rfl
  obtain ⟨n, e, f, ae, as, rfl, hh, k⟩ := h
  have hf := hh.1
  have hl := hh.2.2.2
  obtain ⟨B, L⟩ := hh.2.1.lo hf.n5
  refine ⟨_, rfl, as, _, rfl, .inl hl, _, rfl, ?_, ?_, fun D nD => ?_⟩
  · have := hf.le32
    rw [sv_iv_len]; omega
  · have := hf.le32
    rw [sv_iv_len]; omega
  have el : Int.toNat ((iv (sv f.t)).length : Int) = 2 ^ n := by rw [Int.toNat_natCast, sv_iv_len, hf.len]
  rw [el]
  refine lcB (K := K) walk_range (fun i => some (both (Krdl.soft f e i))) (two16 hf.n5) nD (fun _ _ => trivial) ?_ ?_
  · rintro i v H2 H' N M hi s2 ⟨rfl, rfl⟩ hN hM
    refine ⟨rfl, ?_⟩
    obtain ⟨b1, b2, b3⟩ := both_sm hf L i
    refine ⟨_, rfl, _, rfl, _, rfl, _, rfl, n, e, f, ae, as, i, by simp, hh.same s2, hi, fun H3 p3 s3 g3 => ?_⟩
    exact ⟨p3, _, rfl, g3, soft_sm hf L i, unsoft_sm hf L i, b2, b3, fun H4 p4 s4 g4 => hM p4 _ H4 (s3.trans s4) rfl g4⟩
  · intro H' ps s2 hD hfr
    rw [fm_rat] at hfr
    have hlen : (boths f e).length = 2 ^ n := by unfold boths words; rw [List.length_map, List.length_range, hf.eq]
    have hfr' : Frs K H' ps (boths f e) := by
      unfold boths
      rw [hf.eq]
      exact hfr
    refine ⟨D, ps, boths f e, rfl, SqL.of hD, hfr', by rw [hlen]; exact Nat.two_pow_pos n, by rw [hlen]; exact two32 hf.n5, fun r hr => ?_, boths_take hf L, fun H3 p3 s3 g3 => k H3 p3 (s2.trans s3) ?_⟩
    · obtain ⟨x, _, rfl⟩ := List.mem_map.mp hr
      exact (both_sm hf L x).1
    · rw [hlen, agree_eq hf] at g3
      exact g3
/-! ### worst -/
abbrev sWorst : Stmt := top 37
abbrev nWorst : List Str := ["n", "e", "says", "some", "found", "u", "one"]
theorem scWorst : FnScope nWorst ["n", "e", "says"] (defScope sWorst) := ⟨rfl, rfl, rfl, by decide +kernel, rfl, by decide +kernel, by decide +kernel⟩
def spWorst (K : PySem.W.Frag) : Sp := fun vs H Q _ => ∃ (n : Nat) (e : Rat) (f : Answer) (ae as : Addr), vs = [.int (n : Int), .ref ae, .ref as] ∧ HandIn K H n e f ae as ∧
  ∀ (H' : Hp) (p q : Addr), Same H H' → H' p = some (.tup [.int ((Krdl.worst f e).1 : Int), .ref q]) → Fr K H' q (Krdl.worst f e).2 → Q (.ref p) H'
theorem getD_some {l : List Rat} {i : Nat} {r : Rat} (h : l[i]? = some r) : l.getD i 0 = r := by
  rw [List.getD_eq_getElem?_getD, h]
  rfl
theorem kn_worst (h : At K mg "worst" ["n", "e", "says"] sWorst) (hR : Kn P w K mg base CX0 8 "all_right" ["n", "e", "says"] (spAllRight K)) (hI : Kn P w K mg base CX0 1 "is_below" ["one", "other"] (spIsBelow K)) (me : mg "enumerate" = none) : Kn P w K mg base CX0 9 "worst" ["n", "e", "says"] (spWorst K) := by
  obtain ⟨fR, fdR, gR, kR, bR, GR⟩ := hR
  obtain ⟨fI, fdI, gI, kI, bI, GI⟩ := hI
  refine h.kn fun f fd F => F.ok scWorst (fun vs H Q E h => ?_) (fun cdv A outer s H vs Q E hr h => ⟨_,
    pss_cons (ps_set (i := 3) scWorst.nd rfl (Or.inl rfl) (pe_call GR hr rfl gR kR bR .nil pass0 (pa_cons (pv 0) (pa_cons (pv 1) (pa_cons (pv 2) pa_nil)))))
      (pss_cons (ps_set (i := 4) scWorst.nd rfl (Or.inl rfl) pe_int)
      (pss_cons (ps_for PassesOwn.never rfl (pi_enum (by rfl) me (pa_cons (pv 3) pa_nil)) (pg_tup (by rfl) (pgs_cons (pg_name (i := 5) scWorst.nd rfl (Or.inl rfl)) (pgs_cons (pg_name (i := 6) scWorst.nd rfl (Or.inl rfl)) pgs_nil)))
        (pss_one (ps_if (pt_val (pe_call GI (hr.mono (by decide)) rfl gI kI bI .nil pass0 (pa_cons (pv 6) (pa_cons (pe_ix ix_list (pv 3) (pv 4) (fun _ _ => rfl)) pa_nil)))) (pss_one (ps_set (i := 4) scWorst.nd rfl (Or.inl rfl) (pv 5))) pss_nil)))
      (pss_one (ps_ret (pe_tup (pa_cons (pv 4) (pa_cons (pe_ix ix_list (pv 3) (pv 4) (fun _ _ => rfl)) pa_nil))))))), ?_⟩)
  · obtain ⟨n, e, f, ae, as, rfl, _⟩ := h
    rfl
  obtain ⟨n, e, f, ae, as, rfl, hh, k⟩ := h
  have hf := hh.1
  obtain ⟨B, L⟩ := hh.2.1.lo hf.n5
  have hlen : (rights f e).length = 2 ^ n := by unfold rights words; rw [List.length_map, List.length_range, hf.eq]
  have hpos : 0 < (rights f e).length := by rw [hlen]; exact Nat.two_pow_pos n
  have hsm : ∀ {i : Nat} {r : Rat}, (rights f e)[i]? = some r → Sm r := fun {i r} h => by
    obtain ⟨x, _, rfl⟩ := List.mem_map.mp (List.mem_of_getElem? h)
    exact right_sm hf L x
  refine ⟨_, rfl, _, rfl, _, rfl, n, e, f, ae, as, rfl, hh, fun H1 p1 ps s1 h1 g1 => ?_⟩
  have hps : ps.length = 2 ^ n := by rw [g1.1, hlen]
  refine ⟨_, rfl, p1, ps, rfl, SqL.of h1, for_it (walk_enum (K := K) (a := p1) (xs := ps)) (fun i σ H' => ∃ (v1 v2 : Option V), σ = [some (.int (n : Int)), some (.ref ae), some (.ref as), some (.ref p1), some (.int ((wst (rights f e) i : Nat) : Int)), v1, v2] ∧ Same H1 H') ?_ ?_ ?_ ?_⟩
  · exact ⟨none, none, rfl, Same.refl _⟩
  · rintro i σ H' _ ⟨v1, v2, rfl, s5⟩
    exact s5.seq (SqL.of h1)
  · rintro i x σ H2 H' hi ⟨v1, v2, rfl, s5⟩ ⟨T, x', y, rfl, hT, rfl, ex, ey⟩
    have ex' := Option.some.inj ex
    subst ex'
    have sT : Same H2 _ := same_upd (o := .tup [.int (i : Int), y]) hT
    obtain ⟨b, r, rfl, hr1, hb⟩ := g1.get ey
    have hw := wst_lt hpos (show i ≤ (rights f e).length by rw [← g1.1]; omega)
    obtain ⟨c, hc1, hc2⟩ := g1.2 _ _ (List.getElem?_eq_getElem hw)
    have s7 : Same H1 _ := s5.trans sT
    refine ⟨T, _, rfl, SqT.of upd_same, rfl, _, _, rfl, _, _, rfl, rfl, ?_⟩
    refine ⟨_, rfl, _, rfl, _, rfl, p1, _, _, _, rfl, rfl, s7.seq (SqL.of h1), atI_nat hc1, b, c, r, _, rfl, hb.same s7, hc2.same s7, hsm hr1, hsm (List.getElem?_eq_getElem hw), _, rfl, ?_⟩
    have e1 := getD_some hr1
    have e2 := getD_some (List.getElem?_eq_getElem hw)
    have step : wst (rights f e) (i + 1) = if r < (rights f e)[wst (rights f e) i] then i else wst (rights f e) i := by
      show (if (rights f e).getD i 0 < (rights f e).getD (wst (rights f e) i) 0 then i else wst (rights f e) i) = _
      rw [e1, e2]
    by_cases hc : r < (rights f e)[wst (rights f e) i]
    · refine if_true_of (decide_eq_true hc) ?_
      refine ⟨_, rfl, some (.int (i : Int)), some (.ref b), ?_, s7⟩
      rw [step, if_pos hc]
      rfl
    · refine if_false_of (decide_eq_false hc) ?_
      refine ⟨some (.int (i : Int)), some (.ref b), ?_, s7⟩
      rw [step, if_neg hc]
      rfl
  · rintro σ H' ⟨v1, v2, rfl, s5⟩
    rw [hps]
    have hw := wst_lt hpos (show 2 ^ n ≤ (rights f e).length by rw [hlen]; exact Nat.le_refl _)
    obtain ⟨c, hc1, hc2⟩ := g1.2 _ _ (List.getElem?_eq_getElem hw)
    refine ⟨_, rfl, _, rfl, _, rfl, p1, _, _, _, rfl, rfl, s5.seq (SqL.of h1), atI_nat hc1, (by show 2 ≤ sizeLine; decide), fun p hp => ?_⟩
    have e2 := getD_some (List.getElem?_eq_getElem hw)
    have sp := same_upd (o := .tup [.int ((wst (rights f e) (2 ^ n) : Nat) : Int), .ref c]) hp
    refine k _ p c ((s1.trans s5).trans sp) ?_ ?_
    · rw [upd_same, worst_eq hf]
    · rw [worst_eq hf, e2]
      exact (hc2.same s5).same sp
end
end Wk
/-! ## Wk9 -/
namespace Wk
open PySem PySem.Spec PyProof.Rows L2 Mh
open Krdk (bits words meet weigh Answer of sum)
section
variable {P : Program} {w : World} {K : PySem.W.Frag} {mg : Str → Option Value} {base : Heap} {C CR : Addr}
/-! ### the own error -/
/-- an error of the class at CR with the number z; what was there stands -/
def raises (CR : Addr) (H : Hp) (z : Int) (E : XK) : Prop := ∀ (H' : Hp) (d : Addr), Same H H' → H d = none → H' d = some (.xd [(("number" : Str), .int z)]) → E (.ref CR) (some d) H'
theorem raises.mono {H H2 : Hp} {z : Int} {E : XK} (s : Same H H2) (h : raises CR H z E) : raises CR H2 z E := fun H' d s' n e => h H' d (s.trans s') (s.free n) e
abbrev sRInit : Stmt := inClass (top 47) 0
theorem scRInit : FnScope ["self", "number"] ["self", "number"] (defScope sRInit) := ⟨rfl, rfl, rfl, by decide +kernel, rfl, by decide +kernel, by decide +kernel⟩
def spRInit (CR : Addr) : Sp := fun vs H Q _ => ∃ (a : Addr) (z : Int), vs = [.ref a, .int z] ∧ H a = some (exo a CR none) ∧ ∀ dx : Addr, H dx = none → dx ≠ a → Q .non (upd (upd H dx (exd dx [(("number" : Str), .int z)])) a (exo a CR (some dx)))
theorem ok_rinit {f : Addr} {fd : FuncData} (F : Fun K "__init__" "Refused.__init__" sRInit f fd) (ox : OexC K CR) (nN : PySem.W.findIn K (.ref CR) "number" = some none) (mV : mg "ValueError" = none)
    (vV : PySem.W.findCls K (.type "ValueError") (.type "type") "__init__" = some (.val (.builtin "ValueError.__init__"))) : FnOk P w K mg base CX0 1 f fd ["self", "number"] (spRInit CR) := by
  refine F.ok scRInit (fun vs H Q E h => ?_) (fun cdv A outer s H vs Q E hr h => ⟨_,
    pss_cons (ps_expr (pe_veinit (by rfl) mV vV (pa_cons (pv 0) (pa_cons pe_str pa_nil)))) (pss_one (ps_ost (pv 0) (pv 1))), ?_⟩)
  · obtain ⟨a, z, rfl, _⟩ := h
    rfl
  obtain ⟨a, z, rfl, ha, k⟩ := h
  refine ⟨_, rfl, a, CR, _, rfl, (by show 1 ≤ 1000; decide), ox, ha, ?_⟩
  exact ⟨_, rfl, _, rfl, a, CR, rfl, ox, nN, .inl ⟨ha, fun dx n ne => k dx n ne⟩⟩
/-! ### want -/
abbrev sWant : Stmt := top 48
theorem scWant : FnScope ["truth", "number"] ["truth", "number"] (defScope sWant) := ⟨rfl, rfl, rfl, by decide +kernel, rfl, by decide +kernel, by decide +kernel⟩
def spWant (CR : Addr) : Sp := fun vs H Q E => ∃ (b : Bool) (z : Int), vs = [.bl b, .int z] ∧ (b = true → Q .non H) ∧ (b = false → raises CR H z E)
theorem kn_want (h : At K mg "want" ["truth", "number"] sWant) (T : Tx K mg C CR) : Kn P w K mg base (L2.CX P w) 3 "want" ["truth", "number"] (spWant CR) := by
  obtain ⟨fI, fdI, iC, tI, FI, bI⟩ := T.x_init
  have GI : FnOk P w K mg base CX0 1 fI fdI ["self", "number"] (spRInit CR) := ok_rinit FI T.ox T.nN T.mVE T.vV
  refine h.kn fun f fd F => F.okX scWant (fun vs H Q E h => ?_) (fun cdv A outer s H vs Q E hr h => ⟨_,
    pss_one (ps_if (pt_not (pt_val (pv 0))) (pss_one (ps_raise rfl (takes_of rfl rfl rfl rfl) (pmk_oex T.ox iC tI GI hr bI .nil pass0 (by rfl) T.gR (pa_cons (pv 1) pa_nil)))) pss_nil), ?_⟩)
  · obtain ⟨b, z, rfl, _⟩ := h
    rfl
  obtain ⟨b, z, rfl, k1, k2⟩ := h
  refine ⟨_, rfl, _, rfl, ?_⟩
  cases b with
  | true => exact if_false_of rfl (k1 rfl)
  | false =>
    refine if_true_of rfl ?_
    refine ⟨_, rfl, (by show 1 ≤ 1000; decide), fun a ha => ⟨a, z, rfl, upd_same, fun dx n ne => ⟨rfl, dx, [(("number" : Str), .int z)], upd_same, ?_, ?_, ?_⟩⟩⟩
    · rw [upd_ne ne, upd_same]
    · rw [upd_ne ne] at n
      exact n
    · rw [upd_ne ne] at n
      refine k2 rfl _ dx (fun b o q => ?_) n upd_same
      have h1 : b ≠ dx := ne_of_none q n
      have h2 : b ≠ a := ne_of_none q ha
      rw [upd_ne h1, del_ne h2, upd_ne h2, upd_ne h1, upd_ne h2]
      exact q
/-! ### chance_told -/
abbrev sChanceTold : Stmt := top 49
theorem scChanceTold : FnScope ["a", "b"] ["a", "b"] (defScope sChanceTold) := ⟨rfl, rfl, rfl, by decide +kernel, rfl, by decide +kernel, by decide +kernel⟩
def spChanceTold (K : PySem.W.Frag) (CR : Addr) : Sp := fun vs H Q E => ∃ (a b : Nat), vs = [.int (a : Int), .int (b : Int)] ∧ (Krdl.chanceOk a b = true → gives K H ((a : Rat) / (b : Rat)) Q) ∧ (Krdl.chanceOk a b = false → raises CR H (-22) E)
theorem kn_chance_told (h : At K mg "chance_told" ["a", "b"] sChanceTold) (hW : Kn P w K mg base (L2.CX P w) 3 "want" ["truth", "number"] (spWant CR)) (hS : Kn P w K mg base CX0 2 "share" ["upper", "lower"] (spShare K)) (cB : Nm mg "MOST_BELOW" 20) (cN : Nm mg "NOT_RIGHT" (-22)) :
    Kn P w K mg base (L2.CX P w) 4 "chance_told" ["a", "b"] (spChanceTold K CR) := by
  obtain ⟨fW, fdW, gW, kW, bW, GW⟩ := hW
  obtain ⟨fS, fdS, gS, kS, bS, GS⟩ := hS
  obtain ⟨tB, cB⟩ := cB
  obtain ⟨tN, cN⟩ := cN
  refine h.kn fun f fd F => F.okX scChanceTold (fun vs H Q E h => ?_) (fun cdv A outer s H vs Q E hr h => ⟨_,
    pss_cons (ps_expr (pe_call (E := E) GW hr (by rfl) gW kW bW .nil (passes_call (takes_of rfl rfl rfl rfl) (fun _ _ _ _ h => h))
        (pa_cons (pe_and (pe_cmpR op_le pe_int (pv 1) (nomark _)) (pe_and (pe_cmpR op_le (pv 1) (pe_glob (v := .int 20) rfl cB ⟨_, rfl⟩) (nomark _)) (pe_one (pe_cmpR op_le (pe_op op_mul pe_int (pv 0)) (pv 1) (nomark _)))))
          (pa_cons (pe_glob (v := .int (-22)) rfl cN ⟨_, rfl⟩) pa_nil))))
      (pss_one (ps_ret (pe_call GS (hr.mono (by decide)) (by rfl) gS kS bS .nil pass0 (pa_cons (pv 0) (pa_cons (pv 1) pa_nil))))), ?_⟩)
  · obtain ⟨a, b, rfl, _⟩ := h
    rfl
  obtain ⟨a, b, rfl, k1, k2⟩ := h
  have no : ¬ (1 ≤ b ∧ b ≤ 20 ∧ 2 * a ≤ b) → Krdl.chanceOk a b = false := fun hn => by
    unfold Krdl.chanceOk
    apply Bool.eq_false_iff.mpr
    intro z
    simp only [Bool.and_eq_true, decide_eq_true_eq] at z
    exact hn ⟨z.1.1, z.1.2, z.2⟩
  refine ⟨_, rfl, _, _, rfl, rfl, _, rfl, ?_⟩
  by_cases h1 : (1 : Int) ≤ (b : Int)
  · refine if_true_of (decide_eq_true h1) ?_
    refine ⟨_, rfl, _, _, rfl, rfl, _, rfl, ?_⟩
    by_cases h2 : (b : Int) ≤ 20
    · refine if_true_of (decide_eq_true h2) ?_
      refine ⟨_, rfl, _, _, rfl, rfl, .inl ⟨by decide, by decide⟩, _, rfl, _, _, rfl, rfl, _, _, rfl, fun e => ?_, fun e => ?_⟩
      · have h3 := of_decide_eq_true e
        have hc : Krdl.chanceOk a b = true := by
          unfold Krdl.chanceOk
          simp only [Bool.and_eq_true, decide_eq_true_eq]
          exact ⟨⟨by omega, by omega⟩, by omega⟩
        obtain ⟨_, e2, hb, hb20, _⟩ := ch_of hc
        refine ⟨_, rfl, _, rfl, (a : Int), b, rfl, hb, ?_, ?_⟩
        · have : (20 : Nat) < 2 ^ 200 := by decide
          omega
        · rw [e2]
          exact k1 hc
      · have h3 := of_decide_eq_false e
        exact k2 (no fun z => h3 (by omega))
    · refine if_false_of (decide_eq_false h2) ?_
      exact ⟨false, -22, rfl, fun z => Bool.noConfusion z, fun _ => k2 (no fun z => h2 (by omega))⟩
  · refine if_false_of (decide_eq_false h1) ?_
    exact ⟨false, -22, rfl, fun z => Bool.noConfusion z, fun _ => k2 (no fun z => h1 (by omega))⟩
/-! ### with_nought -/
abbrev sNought : Stmt := top 50
theorem scNought : FnScope ["one"] ["one"] (defScope sNought) := ⟨rfl, rfl, rfl, by decide +kernel, rfl, by decide +kernel, by decide +kernel⟩
def spNought (K : PySem.W.Frag) : Sp := fun vs H Q _ => ∃ (a : Addr) (r : Rat), vs = [.ref a] ∧ Fr K H a r ∧ givesL H (0 :: Krdk.fr r) Q
theorem kn_with_nought (h : At K mg "with_nought" ["one"] sNought) : Kn P w K mg base CX0 1 "with_nought" ["one"] (spNought K) := by
  refine h.kn fun f fd F => F.ok scNought (fun vs H Q E h => ?_) (fun cdv A outer s H vs Q E hr h => ⟨_,
    pss_one (ps_ret (pe_lst (pa_cons pe_int (pa_cons (pe_ix ix_tup (pv 0) pe_int (fun _ _ => rfl)) (pa_cons (pe_ix ix_tup (pv 0) pe_int (fun _ _ => rfl)) pa_nil))))), ?_⟩)
  · obtain ⟨a, r, rfl, _⟩ := h
    rfl
  obtain ⟨a, r, rfl, ha, k⟩ := h
  refine ⟨_, rfl, a, _, _, _, rfl, rfl, ha, atI_nat (j := 0) rfl, _, rfl, a, _, _, _, rfl, rfl, ha, atI_nat (j := 1) rfl, (by show 3 ≤ sizeLine; decide), fun p hp => ?_⟩
  exact k _ p hp (same_upd hp) upd_same
end
end Wk
/-! ## Wk10 -/
namespace Wk
open PySem PySem.Spec PyProof.Rows L2 Mh
open Krdk (bits words meet weigh Answer of sum)
/-! ### an object in the heap -/
def dF (n : Nat) (sa ea : Addr) (kv : V) : List (Str × V) := [("n", .int (n : Int)), ("says", .ref sa), ("e", .ref ea), ("kept", kv)]
theorem lk_here {k : Str} {v : V} {r : List (Str × V)} : List.lookup k ((k, v) :: r) = some v := by
  have e : (k == k) = true := beq_self_eq_true k
  simp only [List.lookup, e]
theorem lk_past {k g : Str} {v : V} {r : List (Str × V)} (h : (k == g) = false) : List.lookup k ((g, v) :: r) = List.lookup k r := by
  simp only [List.lookup, h]
theorem put_here {f : Str} {v x : V} {r : List (Str × V)} : putF f v ((f, x) :: r) = (f, v) :: r := if_pos rfl
theorem put_past {f g : Str} {v x : V} {r : List (Str × V)} (h : ¬ g = f) : putF f v ((g, x) :: r) = (g, x) :: putF f v r := if_neg h
section
variable {n : Nat} {sa ea : Addr} {kv : V}
theorem lkN : (dF n sa ea kv).lookup ("n" : Str) = some (.int (n : Int)) := lk_here
theorem lkS : (dF n sa ea kv).lookup ("says" : Str) = some (.ref sa) := (lk_past (by decide +kernel)).trans lk_here
theorem lkE : (dF n sa ea kv).lookup ("e" : Str) = some (.ref ea) := (lk_past (by decide +kernel)).trans ((lk_past (by decide +kernel)).trans lk_here)
theorem lkK : (dF n sa ea kv).lookup ("kept" : Str) = some kv := (lk_past (by decide +kernel)).trans ((lk_past (by decide +kernel)).trans ((lk_past (by decide +kernel)).trans lk_here))
theorem lkM {m : Str} (h1 : (m == ("n" : Str)) = false) (h2 : (m == ("says" : Str)) = false) (h3 : (m == ("e" : Str)) = false) (h4 : (m == ("kept" : Str)) = false) : (dF n sa ea kv).lookup m = none :=
  (lk_past h1).trans ((lk_past h2).trans ((lk_past h3).trans ((lk_past h4).trans rfl)))
theorem putS {s : Addr} : putF "says" (.ref s) (dF n sa ea kv) = dF n s ea kv := (put_past (by decide +kernel)).trans (congrArg _ put_here)
theorem putE {s : Addr} : putF "e" (.ref s) (dF n sa ea kv) = dF n sa s kv := (put_past (by decide +kernel)).trans (congrArg _ ((put_past (by decide +kernel)).trans (congrArg _ put_here)))
theorem putK {v : V} : putF "kept" v (dF n sa ea kv) = dF n sa ea v := (put_past (by decide +kernel)).trans (congrArg _ ((put_past (by decide +kernel)).trans (congrArg _ ((put_past (by decide +kernel)).trans (congrArg _ put_here)))))
theorem putNew : putF "kept" kv (putF "e" (.ref ea) (putF "says" (.ref sa) (putF "n" (.int (n : Int)) []))) = dF n sa ea kv := by
  have e1 : putF "n" (.int (n : Int)) [] = [(("n" : Str), V.int (n : Int))] := rfl
  have e2 : putF "says" (.ref sa) [(("n" : Str), V.int (n : Int))] = [(("n" : Str), V.int (n : Int)), ("says", .ref sa)] := (put_past (by decide +kernel)).trans rfl
  have e3 : putF "e" (.ref ea) [(("n" : Str), V.int (n : Int)), ("says", .ref sa)] = [(("n" : Str), V.int (n : Int)), ("says", .ref sa), ("e", .ref ea)] := (put_past (by decide +kernel)).trans (congrArg _ ((put_past (by decide +kernel)).trans rfl))
  have e4 : putF "kept" kv [(("n" : Str), V.int (n : Int)), ("says", .ref sa), ("e", .ref ea)] = dF n sa ea kv := (put_past (by decide +kernel)).trans (congrArg _ ((put_past (by decide +kernel)).trans (congrArg _ ((put_past (by decide +kernel)).trans rfl))))
  rw [e1, e2, e3, e4]
end
def KeptV (K : PySem.W.Frag) (x : Addr) (H : Hp) (kv : V) : Option Answer → Prop
  | none => kv = .non
  | some g => ∃ ka : Addr, kv = .ref ka ∧ ka ≠ x ∧ SqL K H ka (iv (sv g.t))
/-- what's kept; and neither it nor what's said (at sa) lies at x -/
def KeptAt (K : PySem.W.Frag) (x sa : Addr) (H : Hp) (kv : V) (k : Option Answer) : Prop := sa ≠ x ∧ KeptV K x H kv k
/-- an object at a; its lists lie elsewhere than at x -/
def DeskAt (K : PySem.W.Frag) (C x : Addr) (H : Hp) (a : Addr) (d : Desk) : Prop := ∃ (dx sa ea : Addr) (kv : V), H a = some (.ins C dx (dF d.f.n sa ea kv)) ∧ SqL K H sa (iv (sv d.f.t)) ∧ Fr K H ea d.e ∧ KeptAt K x sa H kv d.kept
/-- all but what stands at a is as it was -/
def KeepBut (a : Addr) (H H' : Hp) : Prop := ∀ b o, H b = some o → b ≠ a → H' b = some o
theorem Same.but {a : Addr} {H H' : Hp} (s : Same H H') : KeepBut a H H' := fun b o e _ => s b o e
theorem KeepBut.trans {a : Addr} {H H1 H2 : Hp} (s : KeepBut a H H1) (t : KeepBut a H1 H2) : KeepBut a H H2 := fun b o e n => t b o (s b o e n) n
theorem but_upd {a : Addr} {H : Hp} {o : HO} : KeepBut a H (upd H a o) := fun b o' e n => by
  rw [upd_ne n]
  exact e
theorem free_upd {H : Hp} {a p : Addr} {o : HO} (h : upd H a o p = none) : H p = none := by
  by_cases c : p = a
  · rw [c, upd_same] at h
    cases h
  · rw [upd_ne c] at h
    exact h
section
variable {K : PySem.W.Frag} {C : Addr}
theorem KeptAt.same {H H' : Hp} {x sa : Addr} {kv : V} {k : Option Answer} (s : Same H H') (h : KeptAt K x sa H kv k) : KeptAt K x sa H' kv k := by
  refine ⟨h.1, ?_⟩
  cases k with
  | none => exact h.2
  | some g =>
    obtain ⟨ka, e, n, hs⟩ := h.2
    exact ⟨ka, e, n, s.seq hs⟩
theorem DeskAt.same {H H' : Hp} {x a : Addr} {d : Desk} (s : Same H H') (h : DeskAt K C x H a d) : DeskAt K C x H' a d := by
  obtain ⟨dx, sa, ea, kv, h1, h2, h3, h4⟩ := h
  exact ⟨dx, sa, ea, kv, s _ _ h1, s.seq h2, h3.same s, h4.same s⟩
section
variable {H H' : Hp} {a dx : Addr} {fs : List (Str × V)}
theorem ne_ins {b : Addr} {o : HO} (hA : H a = some (.ins C dx fs)) (hb : H b = some o) (hne : o ≠ .ins C dx fs) : b ≠ a := fun z => by
  rw [z, hA] at hb
  exact hne (Option.some.inj hb).symm
theorem SqL.but {s : Addr} {xs : List V} (kb : KeepBut a H H') (hA : H a = some (.ins C dx fs)) (h : SqL K H s xs) : SqL K H' s xs := by
  rcases h with (h | ⟨o, h⟩) | h
  · exact .inl (.inl (kb _ _ h (ne_ins hA h (by intro z; cases z))))
  · exact .inl (.inr ⟨o, kb _ _ h (ne_ins hA h (by intro z; cases z))⟩)
  · exact .inr h
theorem Fr.but {s : Addr} {r : Rat} (kb : KeepBut a H H') (hA : H a = some (.ins C dx fs)) (h : Fr K H s r) : Fr K H' s r := by
  rcases h with (h | ⟨o, h⟩) | h
  · exact .inl (.inl (kb _ _ h (ne_ins hA h (by intro z; cases z))))
  · exact .inl (.inr ⟨o, kb _ _ h (ne_ins hA h (by intro z; cases z))⟩)
  · exact .inr h
theorem KeptAt.but {x sa : Addr} {kv : V} {k : Option Answer} (kb : KeepBut a H H') (hA : H a = some (.ins C dx fs)) (h : KeptAt K x sa H kv k) : KeptAt K x sa H' kv k := by
  refine ⟨h.1, ?_⟩
  cases k with
  | none => exact h.2
  | some g =>
    obtain ⟨ka, e, n, hs⟩ := h.2
    exact ⟨ka, e, n, SqL.but kb hA hs⟩
theorem ne_x {x p : Addr} (hx : ∃ o, H x = some o) (s : KeepBut a H H') (hne : x ≠ a) (f : H' p = none) : p ≠ x := fun z => by
  obtain ⟨o, e⟩ := hx
  rw [z, s _ _ e hne] at f
  cases f
theorem ne_x0 {x p : Addr} (hx : ∃ o, H x = some o) (s : Same H H') (f : H' p = none) : p ≠ x := fun z => by
  obtain ⟨o, e⟩ := hx
  rw [z, s _ _ e] at f
  cases f
end
end
section
variable {P : Program} {w : World} {K : PySem.W.Frag} {mg : Str → Option Value} {base : Heap} {C CR : Addr}
/-! ### Desk.__init__ -/
abbrev sDInit : Stmt := inClass (top 51) 0
theorem scDInit : FnScope ["self", "n"] ["self", "n"] (defScope sDInit) := ⟨rfl, rfl, rfl, by decide +kernel, rfl, by decide +kernel, by decide +kernel⟩
def spDInit (K : PySem.W.Frag) (C CR : Addr) : Sp := fun vs H Q E => ∃ (x p dx : Addr) (n : Nat), vs = [.ref p, .int (n : Int)] ∧ H p = some (.ins C dx []) ∧ (∃ o, H x = some o) ∧ x ≠ p ∧
  (1 ≤ n ∧ n ≤ 5 → ∀ H' : Hp, DeskAt K C x H' p (fresh n) → KeepBut p H H' → Q .non H') ∧ (¬ (1 ≤ n ∧ n ≤ 5) → raises CR H (-22) E)
theorem fr_first {H : Hp} {a : Addr} {n : Nat} (h : SqT K H a [.int 1, .int 10]) : Fr K H a (fresh n).e := by
  have e1 : ((1 : Rat) / 10).num = 1 := by decide +kernel
  have e2 : ((1 : Rat) / 10).den = 10 := by decide +kernel
  show SqT K H a [.int ((1 : Rat) / 10).num, .int ((((1 : Rat) / 10).den : Nat) : Int)]
  rw [e1, e2]
  exact h
theorem sv_fresh (n : Nat) : sv (of n fun x => ([] : List Nat).contains x).t = sv (fresh n).f.t := by
  rw [sv_of]
  show _ = sv (of n fun _ => false).t
  rw [sv_of]
  rfl
theorem kn_dinit (T : Tx K mg C CR) (hW : Kn P w K mg base (L2.CX P w) 3 "want" ["truth", "number"] (spWant CR)) (hY : Kn P w K mg base CX0 2 "yes_to" ["n", "some"] (spYesTo K)) : KnM P w K mg base (L2.CX P w) 4 C "__init__" ["self", "n"] (spDInit K C CR) := by
  obtain ⟨fW, fdW, gW, kW, bW, GW⟩ := hW
  obtain ⟨fY, fdY, gY, kY, bY, GY⟩ := hY
  obtain ⟨tB, cB⟩ := T.c_MOST_BITS
  obtain ⟨tN, cN⟩ := T.c_NOT_RIGHT
  obtain ⟨aF, gF, tF⟩ := T.t_FIRST_CHANCE
  refine T.m___init__.kn fun f fd F => F.okX scDInit (fun vs H Q E h => ?_) (fun cdv A outer s H vs Q E hr h => ⟨_,
    pss_cons (ps_expr (pe_call (E := E) GW hr (by rfl) gW kW bW .nil (passes_call (takes_of rfl rfl rfl rfl) (fun _ _ _ _ h => h))
        (pa_cons (pe_and (pe_cmpR op_le pe_int (pv 1) (nomark _)) (pe_one (pe_cmpR op_le (pv 1) (pe_glob (v := .int 5) rfl cB ⟨_, rfl⟩) (nomark _)))) (pa_cons (pe_glob (v := .int (-22)) rfl cN ⟨_, rfl⟩) pa_nil))))
      (pss_cons (ps_fld (pv 0) (pv 1) rfl)
      (pss_cons (ps_fld (pv 0) (pe_call GY (hr.mono (by decide)) (by rfl) gY kY bY .nil pass0 (pa_cons (pv 1) (pa_cons (pe_lst pa_nil) pa_nil))) rfl)
      (pss_cons (ps_fld (pv 0) (pe_glob (v := .ref aF) rfl gF rfl) rfl)
      (pss_one (ps_fld (pv 0) pe_non rfl))))), ?_⟩)
  · obtain ⟨x, p, dx, n, rfl, _⟩ := h
    rfl
  obtain ⟨x, p, dx, n, rfl, hp, hx, hxp, k1, k2⟩ := h
  refine ⟨_, rfl, _, _, rfl, rfl, _, rfl, ?_⟩
  by_cases h1 : (1 : Int) ≤ (n : Int)
  · refine if_true_of (decide_eq_true h1) ?_
    refine ⟨_, rfl, _, _, rfl, rfl, _, _, rfl, fun e => ?_, fun e => ?_⟩
    · have h2 := of_decide_eq_true e
      have hn : 1 ≤ n ∧ n ≤ 5 := by omega
      refine ⟨_, rfl, _, rfl, p, C, dx, _, rfl, hp, T.cl, T.n_n, (by show 0 < 1000; decide), ?_⟩
      refine ⟨_, rfl, (by show 0 ≤ sizeLine; decide), fun q hq => ?_⟩
      refine ⟨n, q, [], rfl, hn.2, SqL.of upd_same, fun H2 r fr s2 h2 => ?_⟩
      have hp2 : H2 p = some (.ins C dx (putF "n" (.int (n : Int)) [])) := by
        refine s2 _ _ ?_
        rw [upd_ne (fun z => ?_), upd_same]
        rw [← z, upd_same] at hq
        cases hq
      have kb2 : KeepBut p H H2 := fun b o eb nb => by
        refine s2 _ _ ?_
        have : upd H p (.ins C dx (putF "n" (.int (n : Int)) [])) b = some o := by rw [upd_ne nb]; exact eb
        rw [upd_ne (ne_of_none this hq)]
        exact this
      refine ⟨_, rfl, p, C, dx, _, rfl, hp2, T.cl, T.n_says, (by show 1 < 1000; decide), ?_⟩
      refine ⟨_, rfl, p, C, dx, _, rfl, upd_same, T.cl, T.n_e, (by show 2 < 1000; decide), ?_⟩
      refine ⟨_, rfl, p, C, dx, _, rfl, upd_same, T.cl, T.n_kept, (by show 3 < 1000; decide), ?_⟩
      rw [putNew]
      have kb3 := ((but_upd (a := p) (H := H2) (o := .ins C dx (putF "says" (.ref r) (putF "n" (.int (n : Int)) [])))).trans (but_upd (o := .ins C dx (putF "e" (.ref aF) (putF "says" (.ref r) (putF "n" (.int (n : Int)) [])))))).trans (but_upd (o := .ins C dx (dF n r aF .non)))
      refine k1 hn _ ⟨dx, r, aF, .non, upd_same, ?_, fr_first (tF _), ?_, rfl⟩ (kb2.trans kb3)
      rw [sv_fresh] at h2
      · exact SqL.but kb3 hp2 (SqL.of h2)
      · have f1 := free_upd fr
        exact ne_x hx (but_upd (a := p) (o := .ins C dx (putF "n" (.int (n : Int)) []))) hxp f1
    · have h2 := of_decide_eq_false e
      exact k2 (by omega)
  · refine if_false_of (decide_eq_false h1) ?_
    exact ⟨false, -22, rfl, fun z => Bool.noConfusion z, fun _ => k2 (by omega)⟩
end
end Wk
/-! ## Wk11 -/
namespace Wk
open PySem PySem.Spec PyProof.Rows L2 Mh
open Krdk (bits words meet weigh Answer of sum)
section
variable {P : Program} {w : World} {K : PySem.W.Frag} {mg : Str → Option Value} {base : Heap} {C CR : Addr}
def rLen (K : PySem.W.Frag) : List V → Hp → VK → Prop := fun xs H Q => ∃ p ys, xs = [.ref p] ∧ (SqL K H p ys ∨ SqT K H p ys) ∧ Q (.int ys.length) H
/-! ### want_words -/
abbrev sWantWords : Stmt := inClass (top 51) 1
theorem scWantWords : FnScope ["self", "some", "x"] ["self", "some"] (defScope sWantWords) := ⟨rfl, rfl, rfl, by decide +kernel, rfl, by decide +kernel, by decide +kernel⟩
def spWantWords (K : PySem.W.Frag) (C CR : Addr) : Sp := fun vs H Q E => ∃ (x a l : Addr) (d : Desk) (ll : List Nat), vs = [.ref a, .ref l] ∧ DeskAt K C x H a d ∧ Ok d ∧ SqL K H l (iv (nz ll)) ∧ ll.length ≤ 10500 ∧
  (allW d.f.n ll = true → ∀ H', Same H H' → Q .non H') ∧ (allW d.f.n ll = false → raises CR H (-22) E)
theorem fm_bl (n : Nat) (g : Nat → Bool) : ((List.range n).filterMap fun i => some (V.bl (g i))) = ((List.range n).map g).map V.bl := by
  rw [fm_map, List.map_map]
  rfl
theorem allW_range (n : Nat) (ll : List Nat) : ((List.range ll.length).map fun i => decide (ll.getD i 0 < 2 ^ n)).all id = allW n ll := by
  unfold allW
  rw [List.all_map]
  have : ll = (List.range ll.length).map fun i => ll.getD i 0 := by
    apply List.ext_getElem?
    intro i
    rw [List.getElem?_map]
    by_cases hi : i < ll.length
    · rw [List.getElem?_range hi]
      simp [hi]
    · rw [List.getElem?_eq_none (by simpa using hi), List.getElem?_eq_none (by simpa using hi)]; rfl
  conv => rhs; rw [this, List.all_map]
  rfl
theorem kn_want_words (T : Tx K mg C CR) (hW : Kn P w K mg base (L2.CX P w) 3 "want" ["truth", "number"] (spWant CR)) : KnM P w K mg base (L2.CX P w) 4 C "want_words" ["self", "some"] (spWantWords K C CR) := by
  obtain ⟨fW, fdW, gW, kW, bW, GW⟩ := hW
  obtain ⟨tN, cN⟩ := T.c_NOT_RIGHT
  refine T.m_want_words.kn fun f fd F => F.okX scWantWords (fun vs H Q E h => ?_) (fun cdv A outer s H vs Q E hr h => ⟨_,
    pss_one (ps_expr (pe_call (E := E) GW hr (by rfl) gW kW bW .nil (passes_call (takes_of rfl rfl rfl rfl) (fun _ _ _ _ h => h))
        (pa_cons (pe_callB (cr_all rfl) (by rfl) T.b_all (by decide +kernel) (pa_cons
          (pe_lc (own := [("x", 2)]) (g := gName 2) (tt := tYes) (te := tOp (rI0 fun i j => .bl (decide (i < j))) (tVar 2) (tCB (rLen K) (tCons (tFld K (tVar 0) "says") tNil))) rfl scWantWords.nd (pi_list (pv 1)) (blkOk_by (N := ["self", "some", "x"]) (sc := defScope sWantWords) (by decide +kernel))
            (fun _ _ _ _ _ => pg_name (i := 2) scWantWords.nd rfl (Or.inl rfl)) (fun _ _ _ _ _ => pts_nil)
            (fun _ _ _ _ _ => pe_cmpR op_lt (pv 2) (pe_callB call_len_seq (by rfl) T.b_len PySem.boot_len (pa_cons (pe_fld (pv 0) rfl) pa_nil)) (nomark _))) pa_nil))
          (pa_cons (pe_glob (v := .int (-22)) rfl cN ⟨_, rfl⟩) pa_nil)))), ?_⟩)
  · obtain ⟨x, a, l, d, ll, rfl, _⟩ := h
    rfl
  obtain ⟨x, a, l, d, ll, rfl, hD, hok, hl, hlen, k1, k2⟩ := h
  refine ⟨_, rfl, l, rfl, ⟨_, hl⟩, fun D nD => lcA (walk_list (xs := iv (nz ll))) (fun i => some (.bl (decide (ll.getD i 0 < 2 ^ d.f.n)))) (by rw [iv_len, nz_length]; omega) nD (fun H2 s2 => s2.seq hl) ?_ ?_⟩
  · rintro i v H2 H' N M hi s2 ⟨rfl, hx⟩ hN hM
    obtain ⟨rfl, hlt⟩ := iv_get hx
    obtain ⟨dx, sa, ea, kv, h1, h2, h3, h4⟩ := hD.same s2
    refine ⟨rfl, ?_⟩
    refine ⟨_, rfl, _, rfl, a, C, dx, _, _, rfl, h1, T.cl, T.n_says, lkS, sa, _, rfl, .inl h2, _, _, rfl, rfl, hM _ _ (Same.refl _) ?_⟩
    rw [sv_iv_len, hok.ans.len]
    have : decide (((ll.getD i 0 : Nat) : Int) < ((2 ^ d.f.n : Nat) : Int)) = decide (ll.getD i 0 < 2 ^ d.f.n) := decide_eq_decide.mpr (by omega)
    show _ = some (V.bl (decide (((ll.getD i 0 : Nat) : Int) < ((2 ^ d.f.n : Nat) : Int))))
    rw [this]
  · intro H' s2 hD2
    rw [iv_len, nz_length, fm_bl] at hD2
    refine ⟨D, _, rfl, SqL.of hD2, _, _, rfl, fun e => ?_, fun e => ?_⟩
    · rw [allW_range] at e
      exact k1 e H' s2
    · rw [allW_range] at e
      exact (k2 e).mono s2
/-! ### want_bit -/
abbrev sWantBit : Stmt := inClass (top 51) 2
theorem scWantBit : FnScope ["self", "i"] ["self", "i"] (defScope sWantBit) := ⟨rfl, rfl, rfl, by decide +kernel, rfl, by decide +kernel, by decide +kernel⟩
def spWantBit (K : PySem.W.Frag) (C CR : Addr) : Sp := fun vs H Q E => ∃ (x a : Addr) (d : Desk) (i : Nat), vs = [.ref a, .int (i : Int)] ∧ DeskAt K C x H a d ∧ (i < d.f.n → Q .non H) ∧ (d.f.n ≤ i → raises CR H (-2) E)
theorem kn_want_bit (T : Tx K mg C CR) (hW : Kn P w K mg base (L2.CX P w) 3 "want" ["truth", "number"] (spWant CR)) : KnM P w K mg base (L2.CX P w) 4 C "want_bit" ["self", "i"] (spWantBit K C CR) := by
  obtain ⟨fW, fdW, gW, kW, bW, GW⟩ := hW
  obtain ⟨tN, cN⟩ := T.c_NO_BIT
  refine T.m_want_bit.kn fun f fd F => F.okX scWantBit (fun vs H Q E h => ?_) (fun cdv A outer s H vs Q E hr h => ⟨_,
    pss_one (ps_expr (pe_call (E := E) GW hr (by rfl) gW kW bW .nil (passes_call (takes_of rfl rfl rfl rfl) (fun _ _ _ _ h => h))
        (pa_cons (pe_cmpR op_lt (pv 1) (pe_fld (pv 0) rfl) (nomark _)) (pa_cons (pe_glob (v := .int (-2)) rfl cN ⟨_, rfl⟩) pa_nil)))), ?_⟩)
  · obtain ⟨x, a, d, i, rfl, _⟩ := h
    rfl
  obtain ⟨x, a, d, i, rfl, hD, k1, k2⟩ := h
  obtain ⟨dx, sa, ea, kv, h1, h2, h3, h4⟩ := hD
  refine ⟨_, rfl, _, rfl, a, C, dx, _, _, rfl, h1, T.cl, T.n_n, lkN, _, _, rfl, rfl, _, _, rfl, fun e => ?_, fun e => ?_⟩
  · have := of_decide_eq_true e
    exact k1 (by omega)
  · have := of_decide_eq_false e
    exact k2 (by omega)
/-! ### become -/
abbrev sBecome : Stmt := inClass (top 51) 3
theorem scBecome : FnScope ["self", "says"] ["self", "says"] (defScope sBecome) := ⟨rfl, rfl, rfl, by decide +kernel, rfl, by decide +kernel, by decide +kernel⟩
def spBecome (K : PySem.W.Frag) (C : Addr) : Sp := fun vs H Q _ => ∃ (x a s : Addr) (d : Desk) (g : Answer), vs = [.ref a, .ref s] ∧ DeskAt K C x H a d ∧ Ans d.f.n g ∧ SqL K H s (iv (sv g.t)) ∧ s ≠ x ∧
  ∀ (H' : Hp) (p : Addr), H p = none → KeepBut a H H' → DeskAt K C x H' a (Dp d g) → H' p = some (.lst (iv (KrdlNeutral.told (Krdk.nat g.yes)))) → Q (.ref p) H'
theorem kn_become (T : Tx K mg C CR) : KnM P w K mg base CX0 1 C "become" ["self", "says"] (spBecome K C) := by
  refine T.m_become.kn fun f fd F => F.ok scBecome (fun vs H Q E h => ?_) (fun cdv A outer s H vs Q E hr h => ⟨_,
    pss_cons (ps_fld (pv 0) (pv 1) rfl) (pss_one (ps_ret (pe_lst (pa_cons (pe_callB (cr_sum rfl) (by rfl) T.b_sum (by decide +kernel) (pa_cons (pv 1) pa_nil)) pa_nil)))), ?_⟩)
  · obtain ⟨x, a, s, d, g, rfl, _⟩ := h
    rfl
  obtain ⟨x, a, s, d, g, rfl, hD, hg, hs, hsx, k⟩ := h
  obtain ⟨dx, sa, ea, kv, h1, h2, h3, h4⟩ := hD
  refine ⟨_, rfl, _, rfl, a, C, dx, _, rfl, h1, T.cl, T.n_says, (by show 4 < 1000; decide), ?_⟩
  rw [putS]
  have kb : KeepBut a H (upd H a (.ins C dx (dF d.f.n s ea kv))) := but_upd
  have hs' := SqL.but kb h1 hs
  refine ⟨_, rfl, s, sv g.t, rfl, hs', (by show 1 ≤ sizeLine; decide), fun p hp => ?_⟩
  have sp := same_upd (o := .lst [.int (sv g.t).sum]) hp
  refine k _ p (free_upd hp) (kb.trans (Same.but sp)) ?_ ?_
  · refine DeskAt.same sp ⟨dx, s, ea, kv, ?_, hs', Fr.but kb h1 h3, hsx, (KeptAt.but kb h1 h4).2⟩
    have e : (Dp d g).f.n = d.f.n := hg.eq
    rw [e, upd_same]
  · rw [upd_same, yes_sum hg]
    rfl
end
end Wk
/-! ## Wk12 -/
namespace Wk
open PySem PySem.Spec PyProof.Rows L2 Mh
open Krdk (bits words meet weigh Answer of sum)
/-- what comes of a call on an object: a refusal by its number, the object as it was; or what's told, and the object behind it -/
def Out (K : PySem.W.Frag) (C CR x : Addr) (H : Hp) (a : Addr) (d : Desk) (y : Krdl.Abs × Krdk.Ans) (Q : VK) (E : XK) : Prop :=
  (∀ v : Int, y = No d v → raises CR H v E) ∧ (∀ (d' : Desk) (r : Krdk.Ans), y = (some d', r) → ∀ (H' : Hp) (p : Addr), H p = none → KeepBut a H H' → DeskAt K C x H' a d' → H' p = some (.lst (iv (KrdlNeutral.told r))) → Q (.ref p) H')
/-- the object, the call's numbers, its list -/
def Args (K : PySem.W.Frag) (C x : Addr) (H : Hp) (a nA lA : Addr) (d : Desk) (nn ll : List Nat) (p : Nat) : Prop :=
  DeskAt K C x H a d ∧ Ok d ∧ SqL K H nA (iv (nz nn)) ∧ SqL K H lA (iv (nz ll)) ∧ nn.length = nums p ∧ ll.length ≤ 10500 ∧ ∃ o, H x = some o
def spM (K : PySem.W.Frag) (C CR : Addr) (p : Nat) : Sp := fun vs H Q E => ∃ (x a nA lA : Addr) (d : Desk) (nn ll : List Nat), vs = [.ref a, .ref nA, .ref lA] ∧ Args K C x H a nA lA d nn ll p ∧
  Out K C CR x H a d (Act d p (nn.getD 0 0) (nn.getD 1 0) ll) Q E
theorem spM_len {K : PySem.W.Frag} {C CR : Addr} {p : Nat} {vs : List V} {H : Hp} {Q : VK} {E : XK} (h : spM K C CR p vs H Q E) : vs.length = 3 := by
  obtain ⟨x, a, nA, lA, d, nn, ll, rfl, _⟩ := h
  rfl
theorem one_num {nn : List Nat} (h : nn.length = 1) : ∃ x, nn = [x] := by
  match nn, h with
  | [x], _ => exact ⟨x, rfl⟩
theorem two_num {nn : List Nat} (h : nn.length = 2) : ∃ x y, nn = [x, y] := by
  match nn, h with
  | [x, y], _ => exact ⟨x, y, rfl⟩
abbrev M3 : List Str := ["self", "n", "l"]
section
variable {P : Program} {w : World} {K : PySem.W.Frag} {mg : Str → Option Value} {base : Heap} {C CR : Addr}
/-! ### told -/
abbrev sTold : Stmt := inClass (top 51) 4
theorem scTold : FnScope M3 M3 (defScope sTold) := ⟨rfl, rfl, rfl, by decide +kernel, rfl, by decide +kernel, by decide +kernel⟩
theorem kn_told (T : Tx K mg C CR) (hW : Kn P w K mg base (L2.CX P w) 3 "want" ["truth", "number"] (spWant CR)) (hWW : KnM P w K mg base (L2.CX P w) 4 C "want_words" ["self", "some"] (spWantWords K C CR)) (hB : KnM P w K mg base CX0 1 C "become" ["self", "says"] (spBecome K C))
    (hY : Kn P w K mg base CX0 2 "yes_to" ["n", "some"] (spYesTo K)) : KnM P w K mg base (L2.CX P w) 10 C "told" M3 (spM K C CR 1) := by
  obtain ⟨fW, fdW, gW, kW, bW, GW⟩ := hW
  obtain ⟨fX, fdX, mX, bX, GX⟩ := hWW
  obtain ⟨fB, fdB, mB, bB, GB⟩ := hB
  obtain ⟨fY, fdY, gY, kY, bY, GY⟩ := hY
  obtain ⟨tN, cN⟩ := T.c_NOT_RIGHT
  obtain ⟨tT, cT⟩ := T.c_MOST_TOLD
  refine T.m_told.kn fun f fd F => F.okX scTold (fun vs H Q E h => spM_len h) (fun cdv A outer s H vs Q E hr h => ⟨_,
    pss_cons (ps_expr (pe_call (E := E) GW (hr.mono (by decide)) (by rfl) gW kW bW .nil (passes_call (takes_of rfl rfl rfl rfl) (fun _ _ _ _ h => h))
        (pa_cons (pe_cmpR op_le (pe_callB call_len_seq (by rfl) T.b_len PySem.boot_len (pa_cons (pv 2) pa_nil)) (pe_glob (v := .int 32) rfl cT ⟨_, rfl⟩) (nomark _)) (pa_cons (pe_glob (v := .int (-22)) rfl cN ⟨_, rfl⟩) pa_nil))))
      (pss_cons (ps_expr (pe_meth (E := E) (pv 0) T.cl mX GX (hr.mono (by decide)) bX .nil (passes_call (takes_of rfl rfl rfl rfl) (fun _ _ _ _ h => h)) (pa_cons (pv 2) pa_nil)))
      (pss_one (ps_ret (pe_meth (pv 0) T.cl mB GB (hr.mono (by decide)) bB .nil pass0 (pa_cons (pe_call GY (hr.mono (by decide)) (by rfl) gY kY bY .nil pass0 (pa_cons (pe_fld (pv 0) rfl) (pa_cons (pv 2) pa_nil))) pa_nil))))), ?_⟩)
  obtain ⟨x0, a, nA, lA, d, nn, ll, rfl, ⟨hD, hok, hn, hl, hnl, hll, hx⟩, oE, oQ⟩ := h
  have elen : (iv (nz ll)).length = ll.length := by rw [iv_len, nz_length]
  refine ⟨_, rfl, lA, _, rfl, .inl hl, _, _, rfl, rfl, _, _, rfl, fun e => ?_, fun e => ?_⟩
  · have h32 := of_decide_eq_true e
    rw [elen] at h32
    obtain ⟨dx, sa, ea, kv, h1, h2, h3, h4⟩ := hD
    refine ⟨_, rfl, a, dx, _, rfl, h1, lkM (by decide +kernel) (by decide +kernel) (by decide +kernel) (by decide +kernel), _, rfl, x0, a, lA, d, ll, rfl, ⟨dx, sa, ea, kv, h1, h2, h3, h4⟩, hok, hl, hll, fun e2 H1 s1 => ?_, fun e2 => ?_⟩
    · refine ⟨_, rfl, a, dx, _, rfl, s1 _ _ h1, lkM (by decide +kernel) (by decide +kernel) (by decide +kernel) (by decide +kernel), ?_⟩
      refine ⟨_, rfl, a, C, dx, _, _, rfl, s1 _ _ h1, T.cl, T.n_n, lkN, _, rfl, d.f.n, lA, ll, rfl, hok.ans.n5, s1.seq hl, fun H2 p2 f2 s2 h2' => ?_⟩
      have s12 := s1.trans s2
      refine ⟨x0, a, p2, d, _, rfl, DeskAt.same s12 ⟨dx, sa, ea, kv, h1, h2, h3, h4⟩, ans_of hok.ans.n5 _, SqL.of h2', ne_x0 hx s1 f2, fun H3 p3 f3 kb hD3 h3' => ?_⟩
      refine oQ _ _ ?_ H3 p3 (s12.free f3) ((Same.but s12).trans kb) hD3 h3'
      rw [a1, e2, decide_eq_false (by omega : ¬ 32 < ll.length)]
      rfl
    · refine oE _ ?_
      rw [a1, e2]
      simp
  · have h32 := of_decide_eq_false e
    rw [elen] at h32
    refine oE _ ?_
    rw [a1, decide_eq_true (by omega : 32 < ll.length)]
    rfl
/-! ### least -/
abbrev sLeast : Stmt := inClass (top 51) 5
abbrev nLeast : List Str := ["self", "n", "l", "number"]
theorem scLeast : FnScope nLeast M3 (defScope sLeast) := ⟨rfl, rfl, rfl, by decide +kernel, rfl, by decide +kernel, by decide +kernel⟩
theorem all9 (ll : List Nat) : ((List.range ll.length).map fun i => decide (ll.getD i 0 ≤ 9)).all id = (ll.all fun v => decide (v ≤ 9)) := by
  rw [List.all_map]
  have : ll = (List.range ll.length).map fun i => ll.getD i 0 := by
    apply List.ext_getElem?
    intro i
    rw [List.getElem?_map]
    by_cases hi : i < ll.length
    · rw [List.getElem?_range hi]
      simp [hi]
    · rw [List.getElem?_eq_none (by simpa using hi), List.getElem?_eq_none (by simpa using hi)]; rfl
  conv => rhs; rw [this, List.all_map]
  rfl
theorem kn_least (T : Tx K mg C CR) (hW : Kn P w K mg base (L2.CX P w) 3 "want" ["truth", "number"] (spWant CR)) (hB : KnM P w K mg base CX0 1 C "become" ["self", "says"] (spBecome K C))
    (hY : Kn P w K mg base CX0 2 "yes_from" ["n", "q", "numbers"] (spYesFrom K)) : KnM P w K mg base (L2.CX P w) 10 C "least" M3 (spM K C CR 2) := by
  obtain ⟨fW, fdW, gW, kW, bW, GW⟩ := hW
  obtain ⟨fB, fdB, mB, bB, GB⟩ := hB
  obtain ⟨fY, fdY, gY, kY, bY, GY⟩ := hY
  obtain ⟨tN, cN⟩ := T.c_NOT_RIGHT
  obtain ⟨tT, cT⟩ := T.c_MOST_NUMBER
  refine T.m_least.kn fun f fd F => F.okX scLeast (fun vs H Q E h => spM_len h) (fun cdv A outer s H vs Q E hr h => ⟨_,
    pss_cons (ps_expr (pe_call (E := E) GW (hr.mono (by decide)) (by rfl) gW kW bW .nil (passes_call (takes_of rfl rfl rfl rfl) (fun _ _ _ _ h => h))
        (pa_cons (pe_and (pe_cmpR op_eq (pe_callB call_len_seq (by rfl) T.b_len PySem.boot_len (pa_cons (pv 2) pa_nil)) (pe_fld (pv 0) rfl) (nomark _))
            (pe_one (pe_callB (cr_all rfl) (by rfl) T.b_all (by decide +kernel) (pa_cons
              (pe_lc (own := [("number", 3)]) (g := gName 3) (tt := tYes) rfl scLeast.nd (pi_list (pv 2)) (blkOk_by (N := nLeast) (sc := defScope sLeast) (by decide +kernel))
                (fun _ _ _ _ _ => pg_name (i := 3) scLeast.nd rfl (Or.inl rfl)) (fun _ _ _ _ _ => pts_nil)
                (fun _ _ _ _ _ => pe_cmpR op_le (pv 3) (pe_glob (v := .int 9) (by rfl) cT ⟨_, rfl⟩) (nomark _))) pa_nil))))
          (pa_cons (pe_glob (v := .int (-22)) rfl cN ⟨_, rfl⟩) pa_nil))))
      (pss_one (ps_ret (pe_meth (pv 0) T.cl mB GB (hr.mono (by decide)) bB .nil pass0 (pa_cons (pe_call GY (hr.mono (by decide)) (by rfl) gY kY bY .nil pass0 (pa_cons (pe_fld (pv 0) rfl) (pa_cons (pe_ix ix_list (pv 1) pe_int (fun _ _ => rfl)) (pa_cons (pv 2) pa_nil)))) pa_nil)))), ?_⟩)
  obtain ⟨x0, a, nA, lA, d, nn, ll, rfl, ⟨hD, hok, hn, hl, hnl, hll, hx⟩, oE, oQ⟩ := h
  obtain ⟨x, rfl⟩ := one_num hnl
  have elen : (iv (nz ll)).length = ll.length := by rw [iv_len, nz_length]
  obtain ⟨dx, sa, ea, kv, h1, h2, h3, h4⟩ := hD
  refine ⟨_, rfl, lA, _, rfl, .inl hl, _, rfl, a, C, dx, _, _, rfl, h1, T.cl, T.n_n, lkN, rfl, _, rfl, ?_⟩
  by_cases hc : ll.length = d.f.n
  · refine if_true_of (decide_eq_true (by rw [elen, hc])) ?_
    refine ⟨_, rfl, lA, rfl, ⟨_, hl⟩, fun D nD => lcA (walk_list (xs := iv (nz ll))) (fun i => some (.bl (decide (ll.getD i 0 ≤ 9)))) (by rw [elen]; omega) nD (fun H2 s2 => s2.seq hl) ?_ ?_⟩
    · rintro i v H2 H' N M hi s2 ⟨rfl, hx⟩ hN hM
      obtain ⟨rfl, hlt⟩ := iv_get hx
      refine ⟨rfl, ?_⟩
      refine ⟨_, rfl, _, _, rfl, rfl, hM _ _ (Same.refl _) ?_⟩
      have : decide (((ll.getD i 0 : Nat) : Int) ≤ 9) = decide (ll.getD i 0 ≤ 9) := decide_eq_decide.mpr (by omega)
      show _ = some (V.bl (decide (((ll.getD i 0 : Nat) : Int) ≤ 9)))
      rw [this]
    · intro H1 s1 hD2
      rw [elen, fm_bl] at hD2
      refine ⟨D, _, rfl, SqL.of hD2, _, _, rfl, fun e => ?_, fun e => ?_⟩
      · rw [all9] at e
        refine ⟨_, rfl, a, dx, _, rfl, s1 _ _ h1, lkM (by decide +kernel) (by decide +kernel) (by decide +kernel) (by decide +kernel), ?_⟩
        refine ⟨_, rfl, a, C, dx, _, _, rfl, s1 _ _ h1, T.cl, T.n_n, lkN, _, rfl, nA, _, _, _, rfl, rfl, s1.seq hn, atI_nat (j := 0) rfl, _, rfl, d.f.n, x, lA, ll, rfl, hok.ans.n5, hc, s1.seq hl, fun H2 p2 f2 s2 h2' => ?_⟩
        have s12 := s1.trans s2
        refine ⟨x0, a, p2, d, _, rfl, DeskAt.same s12 ⟨dx, sa, ea, kv, h1, h2, h3, h4⟩, ans_of hok.ans.n5 _, SqL.of h2', ne_x0 hx s1 f2, fun H3 p3 f3 kb hD3 h3' => ?_⟩
        refine oQ _ _ ?_ H3 p3 (s12.free f3) ((Same.but s12).trans kb) hD3 h3'
        rw [a2, e, hc]
        simp
        rfl
      · rw [all9] at e
        refine (oE _ ?_).mono s1
        rw [a2, e]
        simp
  · refine if_false_of (decide_eq_false (fun z => hc ?_)) ?_
    · have := V.int.inj z
      rw [elen] at this
      omega
    · refine ⟨false, -22, rfl, fun z => Bool.noConfusion z, fun _ => oE _ ?_⟩
      rw [a2]
      simp [hc]
end
end Wk
/-! ## Wk13 -/
namespace Wk
open PySem PySem.Spec PyProof.Rows L2 Mh
open Krdk (bits words meet weigh Answer of sum)
section
variable {P : Program} {w : World} {K : PySem.W.Frag} {mg : Str → Option Value} {base : Heap} {C CR : Addr}
theorem allW_one (n x : Nat) : allW n [x] = decide (x < 2 ^ n) := by simp [allW]
theorem not_lt_dec {n x : Nat} (h : decide (x < n) = true) : decide (n ≤ x) = false := decide_eq_false (by have := of_decide_eq_true h; omega)
theorem lt_dec {n x : Nat} (h : decide (x < n) = false) : decide (n ≤ x) = true := decide_eq_true (by have := of_decide_eq_false h; omega)
/-! ### odd -/
abbrev sOdd : Stmt := inClass (top 51) 6
theorem scOdd : FnScope M3 M3 (defScope sOdd) := ⟨rfl, rfl, rfl, by decide +kernel, rfl, by decide +kernel, by decide +kernel⟩
theorem kn_m_odd (T : Tx K mg C CR) (hX : KnM P w K mg base (L2.CX P w) 4 C "want_words" ["self", "some"] (spWantWords K C CR)) (hB : KnM P w K mg base CX0 1 C "become" ["self", "says"] (spBecome K C)) (hY : Kn P w K mg base CX0 3 "yes_by_odd" ["n", "s"] spYesByOdd) : KnM P w K mg base (L2.CX P w) 10 C "odd" M3 (spM K C CR 3) := by
  obtain ⟨fX, fdX, mX, bX, GX⟩ := hX
  obtain ⟨fB, fdB, mB, bB, GB⟩ := hB
  obtain ⟨fY, fdY, gY, kY, bY, GY⟩ := hY
  refine T.m_odd.kn fun f fd F => F.okX scOdd (fun vs H Q E h => spM_len h) (fun cdv A outer s H vs Q E hr h => ⟨_,
    pss_cons (ps_expr (pe_meth (E := E) (pv 0) T.cl mX GX (hr.mono (by decide)) bX .nil (passes_call (takes_of rfl rfl rfl rfl) (fun _ _ _ _ h => h)) (pa_cons (pv 1) pa_nil)))
      (pss_one (ps_ret (pe_meth (pv 0) T.cl mB GB (hr.mono (by decide)) bB .nil pass0 (pa_cons (pe_call GY (hr.mono (by decide)) (by rfl) gY kY bY .nil pass0 (pa_cons (pe_fld (pv 0) rfl) (pa_cons (pe_ix ix_list (pv 1) pe_int (fun _ _ => rfl)) pa_nil))) pa_nil)))), ?_⟩)
  obtain ⟨x0, a, nA, lA, d, nn, ll, rfl, ⟨hD, hok, hn, hl, hnl, hll, hx⟩, oE, oQ⟩ := h
  obtain ⟨x, rfl⟩ := one_num hnl
  have hD0 := hD
  obtain ⟨dx, sa, ea, kv, h1, h2, h3, h4⟩ := hD
  refine ⟨_, rfl, a, dx, _, rfl, h1, lkM (by decide +kernel) (by decide +kernel) (by decide +kernel) (by decide +kernel), _, rfl, x0, a, nA, d, [x], rfl, hD0, hok, hn, (by show 1 ≤ 10500; decide), fun e H1 s1 => ?_, fun e => ?_⟩
  · rw [allW_one] at e
    refine ⟨_, rfl, a, dx, _, rfl, s1 _ _ h1, lkM (by decide +kernel) (by decide +kernel) (by decide +kernel) (by decide +kernel), ?_⟩
    refine ⟨_, rfl, a, C, dx, _, _, rfl, s1 _ _ h1, T.cl, T.n_n, lkN, _, rfl, nA, _, _, _, rfl, rfl, s1.seq hn, atI_nat (j := 0) rfl, d.f.n, x, rfl, hok.ans.n5, of_decide_eq_true e, fun H2 p2 f2 s2 h2' => ?_⟩
    have s12 := s1.trans s2
    refine ⟨x0, a, p2, d, _, rfl, hD0.same s12, ans_of hok.ans.n5 _, SqL.of h2', ne_x0 hx s1 f2, fun H3 p3 f3 kb hD3 h3' => ?_⟩
    refine oQ _ _ ?_ H3 p3 (s12.free f3) ((Same.but s12).trans kb) hD3 h3'
    show Act d 3 x _ _ = _
    rw [a3, not_lt_dec e]
    rfl
  · rw [allW_one] at e
    refine oE _ ?_
    show Act d 3 x _ _ = _
    rw [a3, lt_dec e]
    rfl
/-! ### bit -/
abbrev sBit : Stmt := inClass (top 51) 7
theorem scBit : FnScope M3 M3 (defScope sBit) := ⟨rfl, rfl, rfl, by decide +kernel, rfl, by decide +kernel, by decide +kernel⟩
theorem kn_m_bit (T : Tx K mg C CR) (hI : KnM P w K mg base (L2.CX P w) 4 C "want_bit" ["self", "i"] (spWantBit K C CR)) (hB : KnM P w K mg base CX0 1 C "become" ["self", "says"] (spBecome K C)) (hY : Kn P w K mg base CX0 2 "yes_by_bit" ["n", "i"] spYesByBit) : KnM P w K mg base (L2.CX P w) 10 C "bit" M3 (spM K C CR 4) := by
  obtain ⟨fI, fdI, mI, bI, GI⟩ := hI
  obtain ⟨fB, fdB, mB, bB, GB⟩ := hB
  obtain ⟨fY, fdY, gY, kY, bY, GY⟩ := hY
  refine T.m_bit.kn fun f fd F => F.okX scBit (fun vs H Q E h => spM_len h) (fun cdv A outer s H vs Q E hr h => ⟨_,
    pss_cons (ps_expr (pe_meth (E := E) (pv 0) T.cl mI GI (hr.mono (by decide)) bI .nil (passes_call (takes_of rfl rfl rfl rfl) (fun _ _ _ _ h => h)) (pa_cons (pe_ix ix_list (pv 1) pe_int (fun _ _ => rfl)) pa_nil)))
      (pss_one (ps_ret (pe_meth (pv 0) T.cl mB GB (hr.mono (by decide)) bB .nil pass0 (pa_cons (pe_call GY (hr.mono (by decide)) (by rfl) gY kY bY .nil pass0 (pa_cons (pe_fld (pv 0) rfl) (pa_cons (pe_ix ix_list (pv 1) pe_int (fun _ _ => rfl)) pa_nil))) pa_nil)))), ?_⟩)
  obtain ⟨x0, a, nA, lA, d, nn, ll, rfl, ⟨hD, hok, hn, hl, hnl, hll, hx⟩, oE, oQ⟩ := h
  obtain ⟨x, rfl⟩ := one_num hnl
  have hD0 := hD
  obtain ⟨dx, sa, ea, kv, h1, h2, h3, h4⟩ := hD
  refine ⟨_, rfl, a, dx, _, rfl, h1, lkM (by decide +kernel) (by decide +kernel) (by decide +kernel) (by decide +kernel), _, rfl, nA, _, _, _, rfl, rfl, hn, atI_nat (j := 0) rfl, x0, a, d, x, rfl, hD0, fun e => ?_, fun e => ?_⟩
  · refine ⟨_, rfl, a, dx, _, rfl, h1, lkM (by decide +kernel) (by decide +kernel) (by decide +kernel) (by decide +kernel), ?_⟩
    refine ⟨_, rfl, a, C, dx, _, _, rfl, h1, T.cl, T.n_n, lkN, _, rfl, nA, _, _, _, rfl, rfl, hn, atI_nat (j := 0) rfl, d.f.n, x, rfl, hok.ans.n5, fun H2 p2 f2 s2 h2' => ?_⟩
    refine ⟨x0, a, p2, d, _, rfl, hD0.same s2, ans_of hok.ans.n5 _, SqL.of h2', ne_x0 hx (Same.refl _) f2, fun H3 p3 f3 kb hD3 h3' => ?_⟩
    refine oQ _ _ ?_ H3 p3 (s2.free f3) ((Same.but s2).trans kb) hD3 h3'
    show Act d 4 x _ _ = _
    rw [a4, decide_eq_false (by omega : ¬ d.f.n ≤ x)]
    rfl
  · refine oE _ ?_
    show Act d 4 x _ _ = _
    rw [a4, decide_eq_true e]
    rfl
/-! ### turn_all -/
abbrev sTurnAll : Stmt := inClass (top 51) 8
theorem scTurnAll : FnScope M3 M3 (defScope sTurnAll) := ⟨rfl, rfl, rfl, by decide +kernel, rfl, by decide +kernel, by decide +kernel⟩
theorem kn_m_turn_all (T : Tx K mg C CR) (hB : KnM P w K mg base CX0 1 C "become" ["self", "says"] (spBecome K C)) (hY : Kn P w K mg base CX0 1 "other_way" ["says"] (spOtherWay K)) : KnM P w K mg base (L2.CX P w) 10 C "turn_all" M3 (spM K C CR 5) := by
  obtain ⟨fB, fdB, mB, bB, GB⟩ := hB
  obtain ⟨fY, fdY, gY, kY, bY, GY⟩ := hY
  refine T.m_turn_all.kn fun f fd F => F.okX scTurnAll (fun vs H Q E h => spM_len h) (fun cdv A outer s H vs Q E hr h => ⟨_,
    pss_one (ps_ret (pe_meth (pv 0) T.cl mB GB (hr.mono (by decide)) bB .nil pass0 (pa_cons (pe_call GY (hr.mono (by decide)) (by rfl) gY kY bY .nil pass0 (pa_cons (pe_fld (pv 0) rfl) pa_nil)) pa_nil))), ?_⟩)
  obtain ⟨x0, a, nA, lA, d, nn, ll, rfl, ⟨hD, hok, hn, hl, hnl, hll, hx⟩, oE, oQ⟩ := h
  have hD0 := hD
  obtain ⟨dx, sa, ea, kv, h1, h2, h3, h4⟩ := hD
  refine ⟨_, rfl, a, dx, _, rfl, h1, lkM (by decide +kernel) (by decide +kernel) (by decide +kernel) (by decide +kernel), ?_⟩
  refine ⟨_, rfl, a, C, dx, _, _, rfl, h1, T.cl, T.n_says, lkS, d.f.n, d.f, sa, rfl, hok.ans, h2, fun H2 p2 f2 s2 h2' => ?_⟩
  refine ⟨x0, a, p2, d, _, rfl, hD0.same s2, ans_of hok.ans.n5 _, SqL.of h2', ne_x0 hx (Same.refl _) f2, fun H3 p3 f3 kb hD3 h3' => ?_⟩
  exact oQ _ _ rfl H3 p3 (s2.free f3) ((Same.but s2).trans kb) hD3 h3'
/-! ### turn -/
abbrev sTurn : Stmt := inClass (top 51) 9
theorem scTurn : FnScope M3 M3 (defScope sTurn) := ⟨rfl, rfl, rfl, by decide +kernel, rfl, by decide +kernel, by decide +kernel⟩
theorem kn_m_turn (T : Tx K mg C CR) (hI : KnM P w K mg base (L2.CX P w) 4 C "want_bit" ["self", "i"] (spWantBit K C CR)) (hB : KnM P w K mg base CX0 1 C "become" ["self", "says"] (spBecome K C)) (hY : Kn P w K mg base CX0 1 "with_bit_turned" ["says", "i"] (spTurned K)) : KnM P w K mg base (L2.CX P w) 10 C "turn" M3 (spM K C CR 6) := by
  obtain ⟨fI, fdI, mI, bI, GI⟩ := hI
  obtain ⟨fB, fdB, mB, bB, GB⟩ := hB
  obtain ⟨fY, fdY, gY, kY, bY, GY⟩ := hY
  refine T.m_turn.kn fun f fd F => F.okX scTurn (fun vs H Q E h => spM_len h) (fun cdv A outer s H vs Q E hr h => ⟨_,
    pss_cons (ps_expr (pe_meth (E := E) (pv 0) T.cl mI GI (hr.mono (by decide)) bI .nil (passes_call (takes_of rfl rfl rfl rfl) (fun _ _ _ _ h => h)) (pa_cons (pe_ix ix_list (pv 1) pe_int (fun _ _ => rfl)) pa_nil)))
      (pss_one (ps_ret (pe_meth (pv 0) T.cl mB GB (hr.mono (by decide)) bB .nil pass0 (pa_cons (pe_call GY (hr.mono (by decide)) (by rfl) gY kY bY .nil pass0 (pa_cons (pe_fld (pv 0) rfl) (pa_cons (pe_ix ix_list (pv 1) pe_int (fun _ _ => rfl)) pa_nil))) pa_nil)))), ?_⟩)
  obtain ⟨x0, a, nA, lA, d, nn, ll, rfl, ⟨hD, hok, hn, hl, hnl, hll, hx⟩, oE, oQ⟩ := h
  obtain ⟨x, rfl⟩ := one_num hnl
  have hD0 := hD
  obtain ⟨dx, sa, ea, kv, h1, h2, h3, h4⟩ := hD
  refine ⟨_, rfl, a, dx, _, rfl, h1, lkM (by decide +kernel) (by decide +kernel) (by decide +kernel) (by decide +kernel), _, rfl, nA, _, _, _, rfl, rfl, hn, atI_nat (j := 0) rfl, x0, a, d, x, rfl, hD0, fun e => ?_, fun e => ?_⟩
  · refine ⟨_, rfl, a, dx, _, rfl, h1, lkM (by decide +kernel) (by decide +kernel) (by decide +kernel) (by decide +kernel), ?_⟩
    refine ⟨_, rfl, a, C, dx, _, _, rfl, h1, T.cl, T.n_says, lkS, _, rfl, nA, _, _, _, rfl, rfl, hn, atI_nat (j := 0) rfl, d.f.n, d.f, sa, x, rfl, hok.ans, e, h2, fun H2 p2 f2 s2 h2' => ?_⟩
    refine ⟨x0, a, p2, d, _, rfl, hD0.same s2, ans_of hok.ans.n5 _, SqL.of h2', ne_x0 hx (Same.refl _) f2, fun H3 p3 f3 kb hD3 h3' => ?_⟩
    refine oQ _ _ ?_ H3 p3 (s2.free f3) ((Same.but s2).trans kb) hD3 h3'
    show Act d 6 x _ _ = _
    rw [a6, decide_eq_false (by omega : ¬ d.f.n ≤ x)]
    rfl
  · refine oE _ ?_
    show Act d 6 x _ _ = _
    rw [a6, decide_eq_true e]
    rfl
/-! ### put -/
abbrev sPut : Stmt := inClass (top 51) 10
theorem scPut : FnScope M3 M3 (defScope sPut) := ⟨rfl, rfl, rfl, by decide +kernel, rfl, by decide +kernel, by decide +kernel⟩
theorem kn_m_put (T : Tx K mg C CR) (hW : Kn P w K mg base (L2.CX P w) 3 "want" ["truth", "number"] (spWant CR)) (hX : KnM P w K mg base (L2.CX P w) 4 C "want_words" ["self", "some"] (spWantWords K C CR)) (hB : KnM P w K mg base CX0 1 C "become" ["self", "says"] (spBecome K C)) (hY : Kn P w K mg base CX0 1 "with_one" ["says", "x", "b"] (spWithOne K)) : KnM P w K mg base (L2.CX P w) 10 C "put" M3 (spM K C CR 7) := by
  obtain ⟨fW, fdW, gW, kW, bW, GW⟩ := hW
  obtain ⟨fX, fdX, mX, bX, GX⟩ := hX
  obtain ⟨fB, fdB, mB, bB, GB⟩ := hB
  obtain ⟨tN, cN⟩ := T.c_NOT_RIGHT
  obtain ⟨fY, fdY, gY, kY, bY, GY⟩ := hY
  refine T.m_put.kn fun f fd F => F.okX scPut (fun vs H Q E h => spM_len h) (fun cdv A outer s H vs Q E hr h => ⟨_,
    pss_cons (ps_expr (pe_meth (E := E) (pv 0) T.cl mX GX (hr.mono (by decide)) bX .nil (passes_call (takes_of rfl rfl rfl rfl) (fun _ _ _ _ h => h)) (pa_cons (pe_slice sl_list (pv 1) po_none (po_some pe_int)) pa_nil)))
      (pss_cons (ps_expr (pe_call (E := E) GW (hr.mono (by decide)) (by rfl) gW kW bW .nil (passes_call (takes_of rfl rfl rfl rfl) (fun _ _ _ _ h => h)) (pa_cons (pe_cmpR op_le (pe_ix ix_list (pv 1) pe_int (fun _ _ => rfl)) pe_int (nomark _)) (pa_cons (pe_glob (v := .int (-22)) rfl cN ⟨_, rfl⟩) pa_nil))))
      (pss_one (ps_ret (pe_meth (pv 0) T.cl mB GB (hr.mono (by decide)) bB .nil pass0 (pa_cons (pe_call GY (hr.mono (by decide)) (by rfl) gY kY bY .nil pass0 (pa_cons (pe_fld (pv 0) rfl) (pa_cons (pe_ix ix_list (pv 1) pe_int (fun _ _ => rfl)) (pa_cons (pe_ix ix_list (pv 1) pe_int (fun _ _ => rfl)) pa_nil)))) pa_nil))))), ?_⟩)
  obtain ⟨x0, a, nA, lA, d, nn, ll, rfl, ⟨hD, hok, hn, hl, hnl, hll, hx⟩, oE, oQ⟩ := h
  obtain ⟨x, y, rfl⟩ := two_num hnl
  have hD0 := hD
  obtain ⟨dx, sa, ea, kv, h1, h2, h3, h4⟩ := hD
  refine ⟨_, rfl, a, dx, _, rfl, h1, lkM (by decide +kernel) (by decide +kernel) (by decide +kernel) (by decide +kernel), ?_⟩
  refine ⟨_, rfl, _, rfl, nA, _, rfl, hn, fun q hq => ?_⟩
  have sq := same_upd (o := .lst (iv (nz [x]))) hq
  refine ⟨x0, a, q, d, [x], rfl, hD0.same sq, hok, SqL.of upd_same, (by show 1 ≤ 10500; decide), fun e H1 s1 => ?_, fun e => ?_⟩
  · rw [allW_one] at e
    have s01 := sq.trans s1
    refine ⟨_, rfl, nA, _, _, _, rfl, rfl, s01.seq hn, atI_nat (j := 1) rfl, _, _, rfl, rfl, _, _, rfl, fun e2 => ?_, fun e2 => ?_⟩
    · have hy : (y : Int) ≤ 1 := of_decide_eq_true e2
      refine ⟨_, rfl, a, dx, _, rfl, s01 _ _ h1, lkM (by decide +kernel) (by decide +kernel) (by decide +kernel) (by decide +kernel), ?_⟩
      refine ⟨_, rfl, a, C, dx, _, _, rfl, s01 _ _ h1, T.cl, T.n_says, lkS, _, rfl, nA, _, _, _, rfl, rfl, s01.seq hn, atI_nat (j := 0) rfl, _, rfl, nA, _, _, _, rfl, rfl, s01.seq hn, atI_nat (j := 1) rfl, d.f.n, d.f, sa, x, y, rfl, hok.ans, by omega, s01.seq h2, fun H2 p2 f2 s2 h2' => ?_⟩
      have s12 := s01.trans s2
      refine ⟨x0, a, p2, d, ⟨d.f.n, d.f.t.set x (y == 1)⟩, rfl, hD0.same s12, ans_set hok.ans _ _, SqL.of h2', ne_x0 hx s01 f2, fun H3 p3 f3 kb hD3 h3' => ?_⟩
      refine oQ _ _ ?_ H3 p3 (s12.free f3) ((Same.but s12).trans kb) hD3 h3'
      show Act d 7 x y _ = _
      rw [a7, not_lt_dec e, decide_eq_false (by omega : ¬ 1 < y)]
      rfl
    · have hy : ¬ (y : Int) ≤ 1 := of_decide_eq_false e2
      refine (oE _ ?_).mono s01
      show Act d 7 x y _ = _
      rw [a7, decide_eq_true (by omega : 1 < y), Bool.or_true]
      rfl
  · rw [allW_one] at e
    refine (oE _ ?_).mono sq
    show Act d 7 x y _ = _
    rw [a7, lt_dec e]
    rfl
/-! ### ask -/
abbrev sAsk : Stmt := inClass (top 51) 11
theorem scAsk : FnScope M3 M3 (defScope sAsk) := ⟨rfl, rfl, rfl, by decide +kernel, rfl, by decide +kernel, by decide +kernel⟩
theorem kn_m_ask (T : Tx K mg C CR) (hX : KnM P w K mg base (L2.CX P w) 4 C "want_words" ["self", "some"] (spWantWords K C CR)) : KnM P w K mg base (L2.CX P w) 10 C "ask" M3 (spM K C CR 8) := by
  obtain ⟨fX, fdX, mX, bX, GX⟩ := hX
  refine T.m_ask.kn fun f fd F => F.okX scAsk (fun vs H Q E h => spM_len h) (fun cdv A outer s H vs Q E hr h => ⟨_,
    pss_cons (ps_expr (pe_meth (E := E) (pv 0) T.cl mX GX (hr.mono (by decide)) bX .nil (passes_call (takes_of rfl rfl rfl rfl) (fun _ _ _ _ h => h)) (pa_cons (pv 1) pa_nil)))
      (pss_one (ps_ret (pe_lst (pa_cons (pe_ix ix_list (pe_fld (pv 0) rfl) (pe_ix ix_list (pv 1) pe_int (fun _ _ => rfl)) (fun _ _ => rfl)) pa_nil)))), ?_⟩)
  obtain ⟨x0, a, nA, lA, d, nn, ll, rfl, ⟨hD, hok, hn, hl, hnl, hll, hx⟩, oE, oQ⟩ := h
  obtain ⟨x, rfl⟩ := one_num hnl
  have hD0 := hD
  obtain ⟨dx, sa, ea, kv, h1, h2, h3, h4⟩ := hD
  refine ⟨_, rfl, a, dx, _, rfl, h1, lkM (by decide +kernel) (by decide +kernel) (by decide +kernel) (by decide +kernel), _, rfl, x0, a, nA, d, [x], rfl, hD0, hok, hn, (by show 1 ≤ 10500; decide), fun e H1 s1 => ?_, fun e => ?_⟩
  · rw [allW_one] at e
    have hx := of_decide_eq_true e
    refine ⟨_, rfl, a, C, dx, _, _, rfl, s1 _ _ h1, T.cl, T.n_says, lkS, _, rfl, nA, _, _, _, rfl, rfl, s1.seq hn, atI_nat (j := 0) rfl, sa, _, _, _, rfl, rfl, s1.seq h2, atI_nat (sv_get (by rw [hok.ans.len]; exact hx)), (by show 1 ≤ sizeLine; decide), fun p hp => ?_⟩
    have sp := same_upd (o := .lst [.int (b2 (d.f.t.getD x false))]) hp
    refine oQ d (Krdk.ask (d.f.at_ x)) ?_ _ p (s1.free hp) (Same.but (s1.trans sp)) (hD0.same (s1.trans sp)) ?_
    · show Act d 8 x _ _ = _
      rw [a8, not_lt_dec e]
      rfl
    · rw [upd_same]
      show some (HO.lst [V.int (b2 (d.f.at_ x))]) = some (HO.lst [V.int (if d.f.at_ x then 1 else 0)])
      rfl
  · rw [allW_one] at e
    refine oE _ ?_
    show Act d 8 x _ _ = _
    rw [a8, lt_dec e]
    rfl
end
end Wk
/-! ## Wk14 -/
namespace Wk
open PySem PySem.Spec PyProof.Rows L2 Mh
open Krdk (bits words meet weigh Answer of sum)
section
variable {P : Program} {w : World} {K : PySem.W.Frag} {mg : Str → Option Value} {base : Heap} {C CR : Addr}
theorem mean_frac {n : Nat} {f : Answer} (h : Ans n f) : mkRat (sv f.t).sum (2 ^ n) = f.mean := by
  rw [yes_sum h, Rat.mkRat_eq_div]
  unfold Answer.mean
  rw [h.eq]
  rfl
theorem allW_two (n x y : Nat) : allW n [x, y] = (decide (x < 2 ^ n) && decide (y < 2 ^ n)) := by simp [allW]
/-! ### mean -/
abbrev sMean : Stmt := inClass (top 51) 12
theorem scMean : FnScope M3 M3 (defScope sMean) := ⟨rfl, rfl, rfl, by decide +kernel, rfl, by decide +kernel, by decide +kernel⟩
theorem kn_m_mean (T : Tx K mg C CR) (hO : Kn P w K mg base CX0 1 "with_nought" ["one"] (spNought K)) (hS : Kn P w K mg base CX0 2 "share" ["upper", "lower"] (spShare K)) : KnM P w K mg base (L2.CX P w) 10 C "mean" M3 (spM K C CR 9) := by
  obtain ⟨fO, fdO, gO, kO, bO, GO⟩ := hO
  obtain ⟨fS, fdS, gS, kS, bS, GS⟩ := hS
  refine T.m_mean.kn fun f fd F => F.okX scMean (fun vs H Q E h => spM_len h) (fun cdv A outer s H vs Q E hr h => ⟨_,
    pss_one (ps_ret (pe_call GO (hr.mono (by decide)) (by rfl) gO kO bO .nil pass0 (pa_cons (pe_call GS (hr.mono (by decide)) (by rfl) gS kS bS .nil pass0 (pa_cons (pe_callB (cr_sum rfl) (by rfl) T.b_sum (by decide +kernel) (pa_cons (pe_fld (pv 0) rfl) pa_nil)) (pa_cons (pe_callB call_len_seq (by rfl) T.b_len PySem.boot_len (pa_cons (pe_fld (pv 0) rfl) pa_nil)) pa_nil))) pa_nil))), ?_⟩)
  obtain ⟨x0, a, nA, lA, d, nn, ll, rfl, ⟨hD, hok, hn, hl, hnl, hll, hx⟩, oE, oQ⟩ := h
  have hD0 := hD
  obtain ⟨dx, sa, ea, kv, h1, h2, h3, h4⟩ := hD
  refine ⟨_, rfl, a, C, dx, _, _, rfl, h1, T.cl, T.n_says, lkS, sa, sv d.f.t, rfl, h2, _, rfl, a, C, dx, _, _, rfl, h1, T.cl, T.n_says, lkS, sa, _, rfl, .inl h2, (sv d.f.t).sum, 2 ^ d.f.n, ?_, Nat.two_pow_pos _, ?_, fun H1 p1 s1 g1 => ?_⟩
  · rw [sv_iv_len, hok.ans.len]
    rfl
  · have := two32 hok.ans.n5
    have h2 : (32 : Nat) < 2 ^ 200 := by decide
    omega
  · rw [mean_frac hok.ans] at g1
    exact ⟨p1, _, rfl, g1, fun H2 p2 f2 s2 h2' => oQ _ _ rfl H2 p2 (s1.free f2) (Same.but (s1.trans s2)) (hD0.same (s1.trans s2)) h2'⟩
theorem flat_more {rs : List Rat} {i : Nat} {r : Rat} (h : rs[i]? = some r) (z : Int) : iv (z :: (rs.take (i + 1)).flatMap Krdk.fr) = iv (z :: (rs.take i).flatMap Krdk.fr) ++ [.int r.num, .int (r.den : Int)] := by
  rw [take_more h, List.flatMap_append]
  unfold iv
  rw [List.map_cons, List.map_cons, List.map_append]
  rfl
theorem flat_len (rs : List Rat) (z : Int) : (iv (z :: rs.flatMap Krdk.fr)).length = 1 + 2 * rs.length := by
  rw [iv_len, List.length_cons]
  induction rs with
  | nil => rfl
  | cons r rs ih =>
    rw [List.flatMap_cons, List.length_append, List.length_cons]
    have : (Krdk.fr r).length = 2 := rfl
    omega
/-! ### all_levels -/
abbrev sAllLevels : Stmt := inClass (top 51) 13
theorem scAllLevels : FnScope ["self", "n", "l", "found", "one"] M3 (defScope sAllLevels) := ⟨rfl, rfl, rfl, by decide +kernel, rfl, by decide +kernel, by decide +kernel⟩
theorem kn_m_all_levels (T : Tx K mg C CR)  (hY : Kn P w K mg base CX0 4 "levels" ["n", "says"] (spLevels K)) : KnM P w K mg base (L2.CX P w) 10 C "all_levels" M3 (spM K C CR 10) := by
  obtain ⟨fY, fdY, gY, kY, bY, GY⟩ := hY
  refine T.m_all_levels.kn fun f fd F => F.okX scAllLevels (fun vs H Q E h => spM_len h) (fun cdv A outer s H vs Q E hr h => ⟨_,
    pss_cons (ps_set (i := 3) scAllLevels.nd rfl (Or.inl rfl) (pe_lst (pa_cons (pe_op op_add (pe_fld (pv 0) rfl) pe_int) pa_nil)))
      (pss_cons (ps_for (passes_of rfl) rfl (pi_list (pe_call GY (hr.mono (by decide)) (by rfl) gY kY bY .nil pass0 (pa_cons (pe_fld (pv 0) rfl) (pa_cons (pe_fld (pv 0) rfl) pa_nil)))) (pg_name (i := 4) scAllLevels.nd rfl (Or.inl rfl)) (pss_one (ps_expr (pe_bm PySem.F.plainAttrs_list PySem.F.slot_list_extend PySem.F.type_list_extend mt_extend (pv 3) (pa_cons (pe_callTy call_list_of (by rfl) T.b_list (by decide +kernel) (pa_cons (pv 4) pa_nil)) pa_nil)))))
      (pss_one (ps_ret (pv 3)))), ?_⟩)
  obtain ⟨x0, a, nA, lA, d, nn, ll, rfl, ⟨hD, hok, hn, hl, hnl, hll, hx⟩, oE, oQ⟩ := h
  have hD0 := hD
  obtain ⟨dx, sa, ea, kv, h1, h2, h3, h4⟩ := hD
  refine ⟨_, rfl, a, C, dx, _, _, rfl, h1, T.cl, T.n_n, lkN, _, _, rfl, rfl, (by show 1 ≤ sizeLine; decide), fun q hq => ?_⟩
  have s1 := same_upd (o := .lst [.int ((d.f.n : Int) + 1)]) hq
  refine ⟨_, rfl, a, C, dx, _, _, rfl, s1 _ _ h1, T.cl, T.n_n, lkN, _, rfl, a, C, dx, _, _, rfl, s1 _ _ h1, T.cl, T.n_says, lkS, d.f.n, d.f, sa, rfl, hok.ans, s1.seq h2, fun H2 p2 ps s2 h2' g2 => ?_⟩
  have s02 := s1.trans s2
  have hq2 := s2 _ _ (upd_same (H := H) (a := q) (o := .lst [.int ((d.f.n : Int) + 1)]))
  have hlen : ps.length = d.f.n + 1 := by rw [g2.1, List.length_map, List.length_range]
  have hne : p2 ≠ q := fun z => by
    rw [z, hq2] at h2'
    have e := HO.lst.inj (Option.some.inj h2')
    obtain ⟨c, hc, _⟩ := g2.2 0 (d.f.level 0) (by rw [List.getElem?_map, List.getElem?_range (by omega)]; rfl)
    rw [← e] at hc
    cases hc
  refine ⟨p2, rfl, ⟨_, SqL.of h2'⟩, for_list (K := K) (a := p2) (xs := ps) (fun j σ H' => ∃ v : Option V, σ = [some (.ref a), some (.ref nA), some (.ref lA), some (.ref q), v] ∧ Same H H' ∧ H' p2 = some (.lst ps) ∧
      Frs K H' ps ((List.range (d.f.n + 1)).map d.f.level) ∧ H' q = some (.lst (iv (((d.f.n : Int) + 1) :: (((List.range (d.f.n + 1)).map d.f.level).take j).flatMap Krdk.fr)))) ?_ ?_ ?_ ?_⟩
  · exact ⟨none, rfl, s02, h2', g2, hq2⟩
  · rintro j σ H' _ ⟨v, rfl, s5, h6, h7, h8⟩
    exact SqL.of h6
  · rintro j x σ H' hx ⟨v, rfl, s5, h6, h7, h8⟩
    obtain ⟨b, r, rfl, hr1, gb⟩ := h7.get hx
    refine ⟨_, rfl, .inl ⟨rfl, _, SqL.of h8⟩, ?_⟩
    refine ⟨_, rfl, b, _, rfl, .inr gb, fun z hz => ?_⟩
    have sz := same_upd (o := .lst [.int r.num, .int (r.den : Int)]) hz
    have hjl : j < d.f.n + 1 := by rw [← hlen]; exact (List.getElem?_eq_some_iff.mp hx).1
    have h5 := hok.ans.n5
    refine ⟨q, z, _, _, rfl, rfl, sz _ _ h8, upd_same, ?_, ?_⟩
    · rw [flat_len, List.length_take, List.length_map, List.length_range, sizeLine_eq]
      show _ + 2 ≤ _
      omega
    · refine ⟨_, rfl, fun b' o e => ?_, ?_, ⟨h7.1, fun i r' hr' => ?_⟩, ?_⟩
      · rw [upd_ne (ne_of_none e hq)]
        exact sz _ _ (s5 _ _ e)
      · rw [upd_ne hne]
        exact sz _ _ h6
      · obtain ⟨c, hc1, hc2⟩ := (h7.same sz).2 i r' hr'
        exact ⟨c, hc1, fr_upd (sz _ _ h8) hc2⟩
      · rw [upd_same, flat_more hr1]
  · rintro σ H' ⟨v, rfl, s5, h6, h7, h8⟩
    rw [hlen, List.take_of_length_le (by rw [List.length_map, List.length_range]; exact Nat.le_refl _)] at h8
    refine ⟨_, rfl, oQ _ _ rfl H' q hq (Same.but s5) (hD0.same s5) ?_⟩
    rw [h8, List.flatMap_map]
    rfl
/-! ### state -/
abbrev sState : Stmt := inClass (top 51) 14
theorem scState : FnScope M3 M3 (defScope sState) := ⟨rfl, rfl, rfl, by decide +kernel, rfl, by decide +kernel, by decide +kernel⟩
theorem kn_m_state (T : Tx K mg C CR)  (hY : Kn P w K mg base CX0 1 "words_of" ["says"] (spWordsOf K)) : KnM P w K mg base (L2.CX P w) 10 C "state" M3 (spM K C CR 11) := by
  obtain ⟨fY, fdY, gY, kY, bY, GY⟩ := hY
  refine T.m_state.kn fun f fd F => F.okX scState (fun vs H Q E h => spM_len h) (fun cdv A outer s H vs Q E hr h => ⟨_,
    pss_one (ps_ret (pe_op op_cat (pe_lst (pa_cons (pe_fld (pv 0) rfl) pa_nil)) (pe_call GY (hr.mono (by decide)) (by rfl) gY kY bY .nil pass0 (pa_cons (pe_fld (pv 0) rfl) pa_nil)))), ?_⟩)
  obtain ⟨x0, a, nA, lA, d, nn, ll, rfl, ⟨hD, hok, hn, hl, hnl, hll, hx⟩, oE, oQ⟩ := h
  have hD0 := hD
  obtain ⟨dx, sa, ea, kv, h1, h2, h3, h4⟩ := hD
  refine ⟨_, rfl, a, C, dx, _, _, rfl, h1, T.cl, T.n_n, lkN, (by show 1 ≤ sizeLine; decide), fun q hq => ?_⟩
  have s1 := same_upd (o := .lst [.int (d.f.n : Int)]) hq
  refine ⟨_, rfl, a, C, dx, _, _, rfl, s1 _ _ h1, T.cl, T.n_says, lkS, d.f.n, d.f, sa, rfl, hok.ans, s1.seq h2, fun H2 p2 _ s2 h2' => ?_⟩
  refine ⟨q, p2, _, _, rfl, rfl, s2 _ _ upd_same, h2', ?_, fun p hp => ?_⟩
  · rw [iv_len, nz_length, sizeLine_eq]
    have h1 : ((words d.f.n).filter d.f.at_).length ≤ (words d.f.n).length := List.length_filter_le _ _
    have h2 := words_len hok.ans
    show 1 + _ ≤ _
    omega
  · have sp := same_upd (o := .lst ([.int (d.f.n : Int)] ++ iv (nz ((words d.f.n).filter d.f.at_)))) hp
    refine oQ _ _ rfl _ p ((s1.trans s2).free hp) (Same.but ((s1.trans s2).trans sp)) (hD0.same ((s1.trans s2).trans sp)) ?_
    rw [upd_same]
    rfl
/-! ### chance -/
abbrev sChance : Stmt := inClass (top 51) 15
theorem scChance : FnScope M3 M3 (defScope sChance) := ⟨rfl, rfl, rfl, by decide +kernel, rfl, by decide +kernel, by decide +kernel⟩
theorem kn_m_chance (T : Tx K mg C CR) (hT : Kn P w K mg base (L2.CX P w) 4 "chance_told" ["a", "b"] (spChanceTold K CR)) : KnM P w K mg base (L2.CX P w) 10 C "chance" M3 (spM K C CR 12) := by
  obtain ⟨fT, fdT, gT, kT, bT, GT⟩ := hT
  refine T.m_chance.kn fun f fd F => F.okX scChance (fun vs H Q E h => spM_len h) (fun cdv A outer s H vs Q E hr h => ⟨_,
    pss_cons (ps_fld (pv 0) (pe_call (E := E) GT (hr.mono (by decide)) (by rfl) gT kT bT .nil (passes_call (takes_of rfl rfl rfl rfl) (fun _ _ _ _ h => h)) (pa_cons (pe_ix ix_list (pv 1) pe_int (fun _ _ => rfl)) (pa_cons (pe_ix ix_list (pv 1) pe_int (fun _ _ => rfl)) pa_nil))) rfl)
      (pss_one (ps_ret (pe_lst (pa_cons pe_int pa_nil)))), ?_⟩)
  obtain ⟨x0, a, nA, lA, d, nn, ll, rfl, ⟨hD, hok, hn, hl, hnl, hll, hx⟩, oE, oQ⟩ := h
  obtain ⟨x, y, rfl⟩ := two_num hnl
  have hD0 := hD
  obtain ⟨dx, sa, ea, kv, h1, h2, h3, h4⟩ := hD
  refine ⟨_, rfl, nA, _, _, _, rfl, rfl, hn, atI_nat (j := 0) rfl, _, rfl, nA, _, _, _, rfl, rfl, hn, atI_nat (j := 1) rfl, x, y, rfl, fun hc H1 p1 s1 g1 => ?_, fun hc => ?_⟩
  · refine ⟨_, rfl, a, C, dx, _, rfl, s1 _ _ h1, T.cl, T.n_e, (by show 4 < 1000; decide), ?_⟩
    rw [putE]
    have kb : KeepBut a H1 (upd H1 a (.ins C dx (dF d.f.n sa p1 kv))) := but_upd
    have h1' := s1 _ _ h1
    refine ⟨(by show 1 ≤ sizeLine; decide), fun p hp => ?_⟩
    have sp := same_upd (o := .lst [.int 0]) hp
    refine oQ { d with e := (x : Rat) / (y : Rat) } (Krdk.say 0) ?_ _ p (s1.free (free_upd hp)) (((Same.but s1).trans kb).trans (Same.but sp)) ?_ upd_same
    · show Act d 12 x y _ = _
      rw [a12, hc]
      rfl
    · exact DeskAt.same sp ⟨dx, sa, p1, kv, upd_same, SqL.but kb h1' (s1.seq h2), Fr.but kb h1' g1, KeptAt.but kb h1' (h4.same s1)⟩
  · refine oE _ ?_
    show Act d 12 x y _ = _
    rw [a12, hc]
    rfl
/-! ### heard -/
abbrev sHeard : Stmt := inClass (top 51) 16
theorem scHeard : FnScope M3 M3 (defScope sHeard) := ⟨rfl, rfl, rfl, by decide +kernel, rfl, by decide +kernel, by decide +kernel⟩
theorem kn_m_heard (T : Tx K mg C CR) (hX : KnM P w K mg base (L2.CX P w) 4 C "want_words" ["self", "some"] (spWantWords K C CR)) (hO : Kn P w K mg base CX0 1 "with_nought" ["one"] (spNought K)) (hY : Kn P w K mg base CX0 5 "heard_as" ["n", "e", "u", "v"] (spHeardAs K)) : KnM P w K mg base (L2.CX P w) 10 C "heard" M3 (spM K C CR 13) := by
  obtain ⟨fX, fdX, mX, bX, GX⟩ := hX
  obtain ⟨fO, fdO, gO, kO, bO, GO⟩ := hO
  obtain ⟨fY, fdY, gY, kY, bY, GY⟩ := hY
  refine T.m_heard.kn fun f fd F => F.okX scHeard (fun vs H Q E h => spM_len h) (fun cdv A outer s H vs Q E hr h => ⟨_,
    pss_cons (ps_expr (pe_meth (E := E) (pv 0) T.cl mX GX (hr.mono (by decide)) bX .nil (passes_call (takes_of rfl rfl rfl rfl) (fun _ _ _ _ h => h)) (pa_cons (pv 1) pa_nil)))
      (pss_one (ps_ret (pe_call GO (hr.mono (by decide)) (by rfl) gO kO bO .nil pass0 (pa_cons (pe_call GY (hr.mono (by decide)) (by rfl) gY kY bY .nil pass0 (pa_cons (pe_fld (pv 0) rfl) (pa_cons (pe_fld (pv 0) rfl) (pa_cons (pe_ix ix_list (pv 1) pe_int (fun _ _ => rfl)) (pa_cons (pe_ix ix_list (pv 1) pe_int (fun _ _ => rfl)) pa_nil))))) pa_nil)))), ?_⟩)
  obtain ⟨x0, a, nA, lA, d, nn, ll, rfl, ⟨hD, hok, hn, hl, hnl, hll, hx⟩, oE, oQ⟩ := h
  obtain ⟨x, y, rfl⟩ := two_num hnl
  have hD0 := hD
  obtain ⟨dx, sa, ea, kv, h1, h2, h3, h4⟩ := hD
  refine ⟨_, rfl, a, dx, _, rfl, h1, lkM (by decide +kernel) (by decide +kernel) (by decide +kernel) (by decide +kernel), _, rfl, x0, a, nA, d, [x, y], rfl, hD0, hok, hn, (by show 2 ≤ 10500; decide), fun e H1 s1 => ?_, fun e => ?_⟩
  · rw [allW_two, Bool.and_eq_true] at e
    refine ⟨_, rfl, a, C, dx, _, _, rfl, s1 _ _ h1, T.cl, T.n_n, lkN, _, rfl, a, C, dx, _, _, rfl, s1 _ _ h1, T.cl, T.n_e, lkE, _, rfl, nA, _, _, _, rfl, rfl, s1.seq hn, atI_nat (j := 0) rfl, _, rfl, nA, _, _, _, rfl, rfl, s1.seq hn, atI_nat (j := 1) rfl, d.f.n, ea, d.e, x, y, rfl, hok.ans.n5, h3.same s1, hok.ch, of_decide_eq_true e.1, of_decide_eq_true e.2, fun H2 p2 s2 g2 => ?_⟩
    refine ⟨p2, _, rfl, g2, fun H3 p3 f3 s3 h3' => oQ d (Krdk.frac (Krdl.heard d.f.n d.e x y)) ?_ H3 p3 ((s1.trans s2).free f3) (Same.but ((s1.trans s2).trans s3)) (hD0.same ((s1.trans s2).trans s3)) h3'⟩
    show Act d 13 x y _ = _
    rw [a13, not_lt_dec e.1, not_lt_dec e.2]
    rfl
  · rw [allW_two] at e
    refine oE _ ?_
    show Act d 13 x y _ = _
    rw [a13]
    refine if_pos ?_
    rcases Bool.and_eq_false_iff.mp e with z | z
    · rw [lt_dec z]; rfl
    · rw [lt_dec z, Bool.or_true]
/-! ### soft -/
abbrev sSoft : Stmt := inClass (top 51) 17
theorem scSoft : FnScope M3 M3 (defScope sSoft) := ⟨rfl, rfl, rfl, by decide +kernel, rfl, by decide +kernel, by decide +kernel⟩
theorem kn_m_soft (T : Tx K mg C CR) (hX : KnM P w K mg base (L2.CX P w) 4 C "want_words" ["self", "some"] (spWantWords K C CR)) (hO : Kn P w K mg base CX0 1 "with_nought" ["one"] (spNought K)) (hY : Kn P w K mg base CX0 6 "yes_to_meant" ["n", "e", "says", "u"] (spMeant K Krdl.soft)) : KnM P w K mg base (L2.CX P w) 10 C "soft" M3 (spM K C CR 14) := by
  obtain ⟨fX, fdX, mX, bX, GX⟩ := hX
  obtain ⟨fO, fdO, gO, kO, bO, GO⟩ := hO
  obtain ⟨fY, fdY, gY, kY, bY, GY⟩ := hY
  refine T.m_soft.kn fun f fd F => F.okX scSoft (fun vs H Q E h => spM_len h) (fun cdv A outer s H vs Q E hr h => ⟨_,
    pss_cons (ps_expr (pe_meth (E := E) (pv 0) T.cl mX GX (hr.mono (by decide)) bX .nil (passes_call (takes_of rfl rfl rfl rfl) (fun _ _ _ _ h => h)) (pa_cons (pv 1) pa_nil)))
      (pss_one (ps_ret (pe_call GO (hr.mono (by decide)) (by rfl) gO kO bO .nil pass0 (pa_cons (pe_call GY (hr.mono (by decide)) (by rfl) gY kY bY .nil pass0 (pa_cons (pe_fld (pv 0) rfl) (pa_cons (pe_fld (pv 0) rfl) (pa_cons (pe_fld (pv 0) rfl) (pa_cons (pe_ix ix_list (pv 1) pe_int (fun _ _ => rfl)) pa_nil))))) pa_nil)))), ?_⟩)
  obtain ⟨x0, a, nA, lA, d, nn, ll, rfl, ⟨hD, hok, hn, hl, hnl, hll, hx⟩, oE, oQ⟩ := h
  obtain ⟨x, rfl⟩ := one_num hnl
  have hD0 := hD
  obtain ⟨dx, sa, ea, kv, h1, h2, h3, h4⟩ := hD
  refine ⟨_, rfl, a, dx, _, rfl, h1, lkM (by decide +kernel) (by decide +kernel) (by decide +kernel) (by decide +kernel), _, rfl, x0, a, nA, d, [x], rfl, hD0, hok, hn, (by show 1 ≤ 10500; decide), fun e H1 s1 => ?_, fun e => ?_⟩
  · rw [allW_one] at e
    refine ⟨_, rfl, a, C, dx, _, _, rfl, s1 _ _ h1, T.cl, T.n_n, lkN, _, rfl, a, C, dx, _, _, rfl, s1 _ _ h1, T.cl, T.n_e, lkE, _, rfl, a, C, dx, _, _, rfl, s1 _ _ h1, T.cl, T.n_says, lkS, _, rfl, nA, _, _, _, rfl, rfl, s1.seq hn, atI_nat (j := 0) rfl, d.f.n, d.e, d.f, ea, sa, x, rfl, ⟨hok.ans, hok.ch, h3.same s1, s1.seq h2⟩, of_decide_eq_true e, fun H2 p2 s2 g2 => ?_⟩
    refine ⟨p2, _, rfl, g2, fun H3 p3 f3 s3 h3' => oQ d (Krdk.frac (Krdl.soft d.f d.e x)) ?_ H3 p3 ((s1.trans s2).free f3) (Same.but ((s1.trans s2).trans s3)) (hD0.same ((s1.trans s2).trans s3)) h3'⟩
    show Act d 14 x _ _ = _
    rw [a14, not_lt_dec e]
    rfl
  · rw [allW_one] at e
    refine oE _ ?_
    show Act d 14 x _ _ = _
    rw [a14, lt_dec e]
    rfl
/-! ### stays -/
abbrev sMStays : Stmt := inClass (top 51) 18
theorem scMStays : FnScope M3 M3 (defScope sMStays) := ⟨rfl, rfl, rfl, by decide +kernel, rfl, by decide +kernel, by decide +kernel⟩
theorem kn_m_stays (T : Tx K mg C CR) (hO : Kn P w K mg base CX0 1 "with_nought" ["one"] (spNought K)) (hY : Kn P w K mg base CX0 9 "stays_hearing" ["n", "e", "says"] (spWhole K Krdl.stays)) : KnM P w K mg base (L2.CX P w) 10 C "stays" M3 (spM K C CR 15) := by
  obtain ⟨fO, fdO, gO, kO, bO, GO⟩ := hO
  obtain ⟨fY, fdY, gY, kY, bY, GY⟩ := hY
  refine T.m_stays.kn fun f fd F => F.okX scMStays (fun vs H Q E h => spM_len h) (fun cdv A outer s H vs Q E hr h => ⟨_,
    pss_one (ps_ret (pe_call GO (hr.mono (by decide)) (by rfl) gO kO bO .nil pass0 (pa_cons (pe_call GY (hr.mono (by decide)) (by rfl) gY kY bY .nil pass0 (pa_cons (pe_fld (pv 0) rfl) (pa_cons (pe_fld (pv 0) rfl) (pa_cons (pe_fld (pv 0) rfl) pa_nil)))) pa_nil))), ?_⟩)
  obtain ⟨x0, a, nA, lA, d, nn, ll, rfl, ⟨hD, hok, hn, hl, hnl, hll, hx⟩, oE, oQ⟩ := h
  have hD0 := hD
  obtain ⟨dx, sa, ea, kv, h1, h2, h3, h4⟩ := hD
  refine ⟨_, rfl, a, C, dx, _, _, rfl, h1, T.cl, T.n_n, lkN, _, rfl, a, C, dx, _, _, rfl, h1, T.cl, T.n_e, lkE, _, rfl, a, C, dx, _, _, rfl, h1, T.cl, T.n_says, lkS, d.f.n, d.e, d.f, ea, sa, rfl, ⟨hok.ans, hok.ch, h3, h2⟩, fun H2 p2 s2 g2 => ?_⟩
  exact ⟨p2, _, rfl, g2, fun H3 p3 f3 s3 h3' => oQ _ _ rfl H3 p3 (s2.free f3) (Same.but (s2.trans s3)) (hD0.same (s2.trans s3)) h3'⟩
/-! ### agree -/
abbrev sMAgree : Stmt := inClass (top 51) 19
theorem scMAgree : FnScope M3 M3 (defScope sMAgree) := ⟨rfl, rfl, rfl, by decide +kernel, rfl, by decide +kernel, by decide +kernel⟩
theorem kn_m_agree (T : Tx K mg C CR) (hO : Kn P w K mg base CX0 1 "with_nought" ["one"] (spNought K)) (hY : Kn P w K mg base CX0 7 "agree_hearing" ["n", "e", "says"] (spWhole K Krdl.agree)) : KnM P w K mg base (L2.CX P w) 10 C "agree" M3 (spM K C CR 16) := by
  obtain ⟨fO, fdO, gO, kO, bO, GO⟩ := hO
  obtain ⟨fY, fdY, gY, kY, bY, GY⟩ := hY
  refine T.m_agree.kn fun f fd F => F.okX scMAgree (fun vs H Q E h => spM_len h) (fun cdv A outer s H vs Q E hr h => ⟨_,
    pss_one (ps_ret (pe_call GO (hr.mono (by decide)) (by rfl) gO kO bO .nil pass0 (pa_cons (pe_call GY (hr.mono (by decide)) (by rfl) gY kY bY .nil pass0 (pa_cons (pe_fld (pv 0) rfl) (pa_cons (pe_fld (pv 0) rfl) (pa_cons (pe_fld (pv 0) rfl) pa_nil)))) pa_nil))), ?_⟩)
  obtain ⟨x0, a, nA, lA, d, nn, ll, rfl, ⟨hD, hok, hn, hl, hnl, hll, hx⟩, oE, oQ⟩ := h
  have hD0 := hD
  obtain ⟨dx, sa, ea, kv, h1, h2, h3, h4⟩ := hD
  refine ⟨_, rfl, a, C, dx, _, _, rfl, h1, T.cl, T.n_n, lkN, _, rfl, a, C, dx, _, _, rfl, h1, T.cl, T.n_e, lkE, _, rfl, a, C, dx, _, _, rfl, h1, T.cl, T.n_says, lkS, d.f.n, d.e, d.f, ea, sa, rfl, ⟨hok.ans, hok.ch, h3, h2⟩, fun H2 p2 s2 g2 => ?_⟩
  exact ⟨p2, _, rfl, g2, fun H3 p3 f3 s3 h3' => oQ _ _ rfl H3 p3 (s2.free f3) (Same.but (s2.trans s3)) (hD0.same (s2.trans s3)) h3'⟩
/-! ### worst -/
abbrev sMWorst : Stmt := inClass (top 51) 20
theorem scMWorst : FnScope ["self", "n", "l", "u", "one"] M3 (defScope sMWorst) := ⟨rfl, rfl, rfl, by decide +kernel, rfl, by decide +kernel, by decide +kernel⟩
theorem kn_m_worst (T : Tx K mg C CR)  (hY : Kn P w K mg base CX0 9 "worst_hearing" ["n", "e", "says"] (spWorst K)) : KnM P w K mg base (L2.CX P w) 10 C "worst" M3 (spM K C CR 17) := by
  obtain ⟨fY, fdY, gY, kY, bY, GY⟩ := hY
  refine T.m_worst.kn fun f fd F => F.okX scMWorst (fun vs H Q E h => spM_len h) (fun cdv A outer s H vs Q E hr h => ⟨_,
    pss_cons (ps_asg (pe_call GY (hr.mono (by decide)) (by rfl) gY kY bY .nil pass0 (pa_cons (pe_fld (pv 0) rfl) (pa_cons (pe_fld (pv 0) rfl) (pa_cons (pe_fld (pv 0) rfl) pa_nil)))) (pg_tup (by rfl) (pgs_cons (pg_name (i := 3) scMWorst.nd rfl (Or.inl rfl)) (pgs_cons (pg_name (i := 4) scMWorst.nd rfl (Or.inl rfl)) pgs_nil))))
      (pss_one (ps_ret (pe_lst (pa_cons (pv 3) (pa_cons (pe_ix ix_tup (pv 4) pe_int (fun _ _ => rfl)) (pa_cons (pe_ix ix_tup (pv 4) pe_int (fun _ _ => rfl)) pa_nil)))))), ?_⟩)
  obtain ⟨x0, a, nA, lA, d, nn, ll, rfl, ⟨hD, hok, hn, hl, hnl, hll, hx⟩, oE, oQ⟩ := h
  have hD0 := hD
  obtain ⟨dx, sa, ea, kv, h1, h2, h3, h4⟩ := hD
  refine ⟨_, rfl, a, C, dx, _, _, rfl, h1, T.cl, T.n_n, lkN, _, rfl, a, C, dx, _, _, rfl, h1, T.cl, T.n_e, lkE, _, rfl, a, C, dx, _, _, rfl, h1, T.cl, T.n_says, lkS, d.f.n, d.e, d.f, ea, sa, rfl, ⟨hok.ans, hok.ch, h3, h2⟩, fun H2 p2 q2 s2 h2' g2 => ?_⟩
  refine ⟨p2, _, rfl, SqT.of h2', rfl, _, _, rfl, _, _, rfl, rfl, ?_⟩
  refine ⟨_, rfl, _, rfl, q2, _, _, _, rfl, rfl, g2, atI_nat (j := 0) rfl, _, rfl, q2, _, _, _, rfl, rfl, g2, atI_nat (j := 1) rfl, (by show 3 ≤ sizeLine; decide), fun p hp => ?_⟩
  exact oQ _ _ rfl _ p (s2.free hp) (Same.but (s2.trans (same_upd hp))) (hD0.same (s2.trans (same_upd hp))) upd_same
theorem even_eq {n : Nat} {f : Answer} (h : Ans n f) : decide (V.int (2 * (sv f.t).sum) = V.int ((f.t.length : Nat) : Int)) = Krdl.even f := by
  rw [yes_sum h, h.len]
  unfold Krdl.even
  rw [h.eq]
  by_cases c : 2 * f.yes = 2 ^ n
  · rw [beq_iff_eq.mpr c]
    refine decide_eq_true (congrArg V.int ?_)
    have : ((2 * f.yes : Nat) : Int) = ((2 ^ n : Nat) : Int) := by rw [c]
    omega
  · rw [beq_eq_false_iff_ne.mpr c]
    refine decide_eq_false fun z => c ?_
    have := V.int.inj z
    omega
/-! ### even -/
abbrev sMEven : Stmt := inClass (top 51) 21
theorem scMEven : FnScope M3 M3 (defScope sMEven) := ⟨rfl, rfl, rfl, by decide +kernel, rfl, by decide +kernel, by decide +kernel⟩
theorem kn_m_even (T : Tx K mg C CR)  : KnM P w K mg base (L2.CX P w) 10 C "even" M3 (spM K C CR 18) := by
  refine T.m_even.kn fun f fd F => F.okX scMEven (fun vs H Q E h => spM_len h) (fun cdv A outer s H vs Q E hr h => ⟨_,
    pss_one (ps_ret (pe_lst (pa_cons (pe_callTy call_int1 (by rfl) T.b_int (by decide +kernel) (pa_cons (pe_cmpR op_eq (pe_op op_mul pe_int (pe_callB (cr_sum rfl) (by rfl) T.b_sum (by decide +kernel) (pa_cons (pe_fld (pv 0) rfl) pa_nil))) (pe_callB call_len_seq (by rfl) T.b_len PySem.boot_len (pa_cons (pe_fld (pv 0) rfl) pa_nil)) (nomark _)) pa_nil)) pa_nil))), ?_⟩)
  obtain ⟨x0, a, nA, lA, d, nn, ll, rfl, ⟨hD, hok, hn, hl, hnl, hll, hx⟩, oE, oQ⟩ := h
  have hD0 := hD
  obtain ⟨dx, sa, ea, kv, h1, h2, h3, h4⟩ := hD
  refine ⟨_, rfl, a, C, dx, _, _, rfl, h1, T.cl, T.n_says, lkS, sa, sv d.f.t, rfl, h2, _, _, rfl, rfl, .inl ⟨by decide, by decide⟩, _, rfl, a, C, dx, _, _, rfl, h1, T.cl, T.n_says, lkS, sa, _, rfl, .inl h2, rfl, .inr ⟨_, rfl, (by show 1 ≤ sizeLine; decide), fun p hp => ?_⟩⟩
  refine oQ _ _ rfl _ p hp (Same.but (same_upd hp)) (hD0.same (same_upd hp)) ?_
  rw [upd_same, sv_iv_len]
  dsimp only
  rw [even_eq hok.ans]
  rfl
/-! ### onebit -/
abbrev sOnebit : Stmt := inClass (top 51) 22
theorem scOnebit : FnScope M3 M3 (defScope sOnebit) := ⟨rfl, rfl, rfl, by decide +kernel, rfl, by decide +kernel, by decide +kernel⟩
theorem kn_m_onebit (T : Tx K mg C CR) (hO : Kn P w K mg base CX0 1 "with_nought" ["one"] (spNought K)) (hL : Kn P w K mg base CX0 3 "less" ["one", "other"] (spTwo K fun r s => r - s)) : KnM P w K mg base (L2.CX P w) 10 C "onebit" M3 (spM K C CR 19) := by
  obtain ⟨fO, fdO, gO, kO, bO, GO⟩ := hO
  obtain ⟨fL, fdL, gL, kL, bL, GL⟩ := hL
  obtain ⟨aW, gWh, tW⟩ := T.t_WHOLE
  refine T.m_onebit.kn fun f fd F => F.okX scOnebit (fun vs H Q E h => spM_len h) (fun cdv A outer s H vs Q E hr h => ⟨_,
    pss_one (ps_ret (pe_call GO (hr.mono (by decide)) (by rfl) gO kO bO .nil pass0 (pa_cons (pe_call GL (hr.mono (by decide)) (by rfl) gL kL bL .nil pass0 (pa_cons (pe_glob (v := .ref aW) rfl gWh rfl) (pa_cons (pe_fld (pv 0) rfl) pa_nil))) pa_nil))), ?_⟩)
  obtain ⟨x0, a, nA, lA, d, nn, ll, rfl, ⟨hD, hok, hn, hl, hnl, hll, hx⟩, oE, oQ⟩ := h
  have hD0 := hD
  obtain ⟨dx, sa, ea, kv, h1, h2, h3, h4⟩ := hD
  refine ⟨_, rfl, a, C, dx, _, _, rfl, h1, T.cl, T.n_e, lkE, aW, ea, 1, d.e, rfl, fr_one (tW _), h3, ⟨by decide, by decide⟩, hok.ch.sm.1, fun H2 p2 s2 g2 => ?_⟩
  exact ⟨p2, _, rfl, g2, fun H3 p3 f3 s3 h3' => oQ _ _ rfl H3 p3 (s2.free f3) (Same.but (s2.trans s3)) (hD0.same (s2.trans s3)) h3'⟩
/-! ### ifchance -/
abbrev sIfchance : Stmt := inClass (top 51) 23
theorem scIfchance : FnScope M3 M3 (defScope sIfchance) := ⟨rfl, rfl, rfl, by decide +kernel, rfl, by decide +kernel, by decide +kernel⟩
theorem kn_m_ifchance (T : Tx K mg C CR) (hO : Kn P w K mg base CX0 1 "with_nought" ["one"] (spNought K)) (hT : Kn P w K mg base (L2.CX P w) 4 "chance_told" ["a", "b"] (spChanceTold K CR)) (hY : Kn P w K mg base CX0 9 "stays_hearing" ["n", "e", "says"] (spWhole K Krdl.stays)) : KnM P w K mg base (L2.CX P w) 10 C "ifchance" M3 (spM K C CR 20) := by
  obtain ⟨fO, fdO, gO, kO, bO, GO⟩ := hO
  obtain ⟨fT, fdT, gT, kT, bT, GT⟩ := hT
  obtain ⟨fY, fdY, gY, kY, bY, GY⟩ := hY
  refine T.m_ifchance.kn fun f fd F => F.okX scIfchance (fun vs H Q E h => spM_len h) (fun cdv A outer s H vs Q E hr h => ⟨_,
    pss_one (ps_ret (pe_call GO (hr.mono (by decide)) (by rfl) gO kO bO .nil pass0 (pa_cons (pe_call GY (hr.mono (by decide)) (by rfl) gY kY bY .nil pass0 (pa_cons (pe_fld (pv 0) rfl) (pa_cons (pe_call (E := E) GT (hr.mono (by decide)) (by rfl) gT kT bT .nil (passes_call (takes_of rfl rfl rfl rfl) (fun _ _ _ _ h => h)) (pa_cons (pe_ix ix_list (pv 1) pe_int (fun _ _ => rfl)) (pa_cons (pe_ix ix_list (pv 1) pe_int (fun _ _ => rfl)) pa_nil))) (pa_cons (pe_fld (pv 0) rfl) pa_nil)))) pa_nil))), ?_⟩)
  obtain ⟨x0, a, nA, lA, d, nn, ll, rfl, ⟨hD, hok, hn, hl, hnl, hll, hx⟩, oE, oQ⟩ := h
  obtain ⟨x, y, rfl⟩ := two_num hnl
  have hD0 := hD
  obtain ⟨dx, sa, ea, kv, h1, h2, h3, h4⟩ := hD
  refine ⟨_, rfl, a, C, dx, _, _, rfl, h1, T.cl, T.n_n, lkN, _, rfl, nA, _, _, _, rfl, rfl, hn, atI_nat (j := 0) rfl, _, rfl, nA, _, _, _, rfl, rfl, hn, atI_nat (j := 1) rfl, x, y, rfl, fun hc H1 p1 s1 g1 => ?_, fun hc => ?_⟩
  · refine ⟨_, rfl, a, C, dx, _, _, rfl, s1 _ _ h1, T.cl, T.n_says, lkS, d.f.n, _, d.f, p1, sa, rfl, ⟨hok.ans, (ch_of hc).1, g1, s1.seq h2⟩, fun H2 p2 s2 g2 => ?_⟩
    refine ⟨p2, _, rfl, g2, fun H3 p3 f3 s3 h3' => oQ d (Krdk.frac (Krdl.stays d.f ((x : Rat) / (y : Rat)))) ?_ H3 p3 ((s1.trans s2).free f3) (Same.but ((s1.trans s2).trans s3)) (hD0.same ((s1.trans s2).trans s3)) h3'⟩
    show Act d 20 x y _ = _
    rw [a20, hc]
    rfl
  · refine oE _ ?_
    show Act d 20 x y _ = _
    rw [a20, hc]
    rfl
/-! ### keep -/
abbrev sKeep : Stmt := inClass (top 51) 24
theorem scKeep : FnScope M3 M3 (defScope sKeep) := ⟨rfl, rfl, rfl, by decide +kernel, rfl, by decide +kernel, by decide +kernel⟩
theorem kn_m_keep (T : Tx K mg C CR)  : KnM P w K mg base (L2.CX P w) 10 C "keep" M3 (spM K C CR 21) := by
  refine T.m_keep.kn fun f fd F => F.okX scKeep (fun vs H Q E h => spM_len h) (fun cdv A outer s H vs Q E hr h => ⟨_,
    pss_cons (ps_fld (pv 0) (pe_fld (pv 0) rfl) rfl)
      (pss_one (ps_ret (pe_lst (pa_cons (pe_callB (cr_sum rfl) (by rfl) T.b_sum (by decide +kernel) (pa_cons (pe_fld (pv 0) rfl) pa_nil)) pa_nil)))), ?_⟩)
  obtain ⟨x0, a, nA, lA, d, nn, ll, rfl, ⟨hD, hok, hn, hl, hnl, hll, hx⟩, oE, oQ⟩ := h
  have hD0 := hD
  obtain ⟨dx, sa, ea, kv, h1, h2, h3, h4⟩ := hD
  refine ⟨_, rfl, a, C, dx, _, _, rfl, h1, T.cl, T.n_says, lkS, _, rfl, a, C, dx, _, rfl, h1, T.cl, T.n_kept, (by show 4 < 1000; decide), ?_⟩
  rw [putK]
  have kb : KeepBut a H (upd H a (.ins C dx (dF d.f.n sa ea (.ref sa)))) := but_upd
  have h2' := SqL.but kb h1 h2
  refine ⟨_, rfl, a, C, dx, _, _, rfl, upd_same, T.cl, T.n_says, lkS, sa, sv d.f.t, rfl, h2', (by show 1 ≤ sizeLine; decide), fun p hp => ?_⟩
  have sp := same_upd (o := .lst [.int (sv d.f.t).sum]) hp
  refine oQ { d with kept := some d.f } _ rfl _ p (free_upd hp) (kb.trans (Same.but sp)) ?_ ?_
  · exact DeskAt.same sp ⟨dx, sa, ea, .ref sa, upd_same, h2', Fr.but kb h1 h3, h4.1, sa, rfl, h4.1, h2'⟩
  · rw [upd_same, yes_sum hok.ans]
    rfl
/-! ### likelier -/
abbrev sLikelier : Stmt := inClass (top 51) 25
theorem scLikelier : FnScope ["self", "n", "l", "one", "other", "more"] M3 (defScope sLikelier) := ⟨rfl, rfl, rfl, by decide +kernel, rfl, by decide +kernel, by decide +kernel⟩
theorem kn_m_likelier (T : Tx K mg C CR) (hW : Kn P w K mg base (L2.CX P w) 3 "want" ["truth", "number"] (spWant CR)) (hL : Kn P w K mg base CX0 3 "less" ["one", "other"] (spTwo K fun r s => r - s)) (hV : Kn P w K mg base CX0 1 "is_below" ["one", "other"] (spIsBelow K)) (hY : Kn P w K mg base CX0 9 "stays_hearing" ["n", "e", "says"] (spWhole K Krdl.stays)) : KnM P w K mg base (L2.CX P w) 10 C "likelier" M3 (spM K C CR 22) := by
  obtain ⟨fW, fdW, gW, kW, bW, GW⟩ := hW
  obtain ⟨fL, fdL, gL, kL, bL, GL⟩ := hL
  obtain ⟨fV, fdV, gV, kU, bV, GV⟩ := hV
  obtain ⟨tN, cN⟩ := T.c_NONE_KEPT
  obtain ⟨fY, fdY, gY, kY, bY, GY⟩ := hY
  refine T.m_likelier.kn fun f fd F => F.okX scLikelier (fun vs H Q E h => spM_len h) (fun cdv A outer s H vs Q E hr h => ⟨_,
    pss_cons (ps_expr (pe_call (E := E) GW (hr.mono (by decide)) (by rfl) gW kW bW .nil (passes_call (takes_of rfl rfl rfl rfl) (fun _ _ _ _ h => h)) (pa_cons (pe_cmpR op_notN (pe_fld (pv 0) rfl) pe_non (nomark _)) (pa_cons (pe_glob (v := .int (-6)) rfl cN ⟨_, rfl⟩) pa_nil))))
      (pss_cons (ps_par (i := 3) (j := 4) (by rfl) scLikelier.nd rfl rfl (by decide) rfl rfl (pa_cons (pe_call GY (hr.mono (by decide)) (by rfl) gY kY bY .nil pass0 (pa_cons (pe_fld (pv 0) rfl) (pa_cons (pe_fld (pv 0) rfl) (pa_cons (pe_fld (pv 0) rfl) pa_nil)))) (pa_cons (pe_call GY (hr.mono (by decide)) (by rfl) gY kY bY .nil pass0 (pa_cons (pe_fld (pv 0) rfl) (pa_cons (pe_fld (pv 0) rfl) (pa_cons (pe_fld (pv 0) rfl) pa_nil)))) pa_nil)) (by rfl))
      (pss_cons (ps_set (i := 5) scLikelier.nd rfl (Or.inl rfl) (pe_call GL (hr.mono (by decide)) (by rfl) gL kL bL .nil pass0 (pa_cons (pv 3) (pa_cons (pv 4) pa_nil))))
      (pss_one (ps_ret (pe_lst (pa_cons (pe_callTy call_int1 (by rfl) T.b_int (by decide +kernel) (pa_cons (pe_call GV (hr.mono (by decide)) (by rfl) gV kU bV .nil pass0 (pa_cons (pv 4) (pa_cons (pv 3) pa_nil))) pa_nil)) (pa_cons (pe_ix ix_tup (pv 5) pe_int (fun _ _ => rfl)) (pa_cons (pe_ix ix_tup (pv 5) pe_int (fun _ _ => rfl)) pa_nil)))))))), ?_⟩)
  obtain ⟨x0, a, nA, lA, d, nn, ll, rfl, ⟨hD, hok, hn, hl, hnl, hll, hx⟩, oE, oQ⟩ := h
  have hD0 := hD
  obtain ⟨dx, sa, ea, kv, h1, h2, h3, h4⟩ := hD
  refine ⟨_, rfl, a, C, dx, _, _, rfl, h1, T.cl, T.n_kept, lkK, rfl, _, _, rfl, fun e => ?_, fun e => ?_⟩
  · cases hk : d.kept with
    | none =>
      rw [hk] at h4
      have hkv : kv = .non := h4.2
      rw [hkv] at e
      cases e
    | some g =>
      rw [hk] at h4
      obtain ⟨ka, rfl, _, hka⟩ := h4.2
      have hg := hok.kept g hk
      obtain ⟨B, L⟩ := hok.lo
      refine ⟨_, rfl, a, C, dx, _, _, rfl, h1, T.cl, T.n_n, lkN, _, rfl, a, C, dx, _, _, rfl, h1, T.cl, T.n_e, lkE, _, rfl, a, C, dx, _, _, rfl, h1, T.cl, T.n_says, lkS, d.f.n, d.e, d.f, ea, sa, rfl, ⟨hok.ans, hok.ch, h3, h2⟩, fun H1 p1 s1 g1 => ?_⟩
      refine ⟨_, rfl, a, C, dx, _, _, rfl, s1 _ _ h1, T.cl, T.n_n, lkN, _, rfl, a, C, dx, _, _, rfl, s1 _ _ h1, T.cl, T.n_e, lkE, _, rfl, a, C, dx, _, _, rfl, s1 _ _ h1, T.cl, T.n_kept, lkK, d.f.n, d.e, g, ea, ka, rfl, ⟨hg, hok.ch, h3.same s1, s1.seq hka⟩, fun H2 p2 s2 g2 => ?_⟩
      refine ⟨_, _, rfl, ?_⟩
      refine ⟨_, rfl, _, rfl, p1, p2, _, _, rfl, g1.same s2, g2, stays_sm hok.ans L, stays_sm hg L, fun H3 p3 s3 g3 => ?_⟩
      have g2' := g2.same s3
      have g1' := (g1.same s2).same s3
      refine ⟨_, rfl, _, rfl, p2, p1, _, _, rfl, g2', g1', stays_sm hg L, stays_sm hok.ans L, .inr ⟨_, rfl, ?_⟩⟩
      refine ⟨_, rfl, p3, _, _, _, rfl, rfl, g3, atI_nat (j := 0) rfl, _, rfl, p3, _, _, _, rfl, rfl, g3, atI_nat (j := 1) rfl, (by show 3 ≤ sizeLine; decide), fun p hp => ?_⟩
      have s03 := (s1.trans s2).trans s3
      refine oQ _ _ (a22s hk) _ p (s03.free hp) (Same.but (s03.trans (same_upd hp))) (hD0.same (s03.trans (same_upd hp))) ?_
      rw [upd_same]
      by_cases c : Krdl.stays g d.e < Krdl.stays d.f d.e
      · rw [decide_eq_true c]
        unfold KrdlNeutral.told
        rw [if_pos c]
        rfl
      · rw [decide_eq_false c]
        unfold KrdlNeutral.told
        rw [if_neg c]
        rfl
  · cases hk : d.kept with
    | none => exact oE _ (a22n hk)
    | some g =>
      rw [hk] at h4
      obtain ⟨ka, rfl, _, hka⟩ := h4.2
      cases e
end
end Wk
/-! ## Wk15 -/
namespace Wk
open PySem PySem.Spec PyProof.Rows L2 Mh
open Krdk (bits words meet weigh Answer of sum)
/-- a call by its number, one of those that R names -/
def spO (K : PySem.W.Frag) (C CR : Addr) (R : Nat → Prop) : Sp := fun vs H Q E => ∃ (x a nA lA : Addr) (d : Desk) (nn ll : List Nat) (p : Nat), vs = [.ref a, .int (p : Int), .ref nA, .ref lA] ∧ R p ∧ Args K C x H a nA lA d nn ll p ∧
  Out K C CR x H a d (Act d p (nn.getD 0 0) (nn.getD 1 0) ll) Q E
theorem spO_len {K : PySem.W.Frag} {C CR : Addr} {R : Nat → Prop} {vs : List V} {H : Hp} {Q : VK} {E : XK} (h : spO K C CR R vs H Q E) : vs.length = 4 := by
  obtain ⟨x, a, nA, lA, d, nn, ll, p, rfl, _⟩ := h
  rfl
abbrev M4 : List Str := ["desk", "call", "n", "l"]
theorem ne_num {p q : Nat} (h : p ≠ q) : decide (V.int (p : Int) = V.int (q : Int)) = false := decide_eq_false fun z => h (by have := V.int.inj z; omega)
section
variable {P : Program} {w : World} {K : PySem.W.Frag} {mg : Str → Option Value} {base : Heap} {C CR : Addr}
/-! ### of_answers -/
abbrev sOfAnswers : Stmt := top 57
theorem scOfAnswers : FnScope M4 M4 (defScope sOfAnswers) := ⟨rfl, rfl, rfl, by decide +kernel, rfl, by decide +kernel, by decide +kernel⟩
theorem kn_of_answers (T : Tx K mg C CR) (k1 : KnM P w K mg base (L2.CX P w) 10 C "told" M3 (spM K C CR 1)) (k2 : KnM P w K mg base (L2.CX P w) 10 C "least" M3 (spM K C CR 2)) (k3 : KnM P w K mg base (L2.CX P w) 10 C "odd" M3 (spM K C CR 3)) (k4 : KnM P w K mg base (L2.CX P w) 10 C "bit" M3 (spM K C CR 4)) (k5 : KnM P w K mg base (L2.CX P w) 10 C "turn_all" M3 (spM K C CR 5)) (k6 : KnM P w K mg base (L2.CX P w) 10 C "turn" M3 (spM K C CR 6)) (k7 : KnM P w K mg base (L2.CX P w) 10 C "put" M3 (spM K C CR 7)) : Kn P w K mg base (L2.CX P w) 11 "of_answers" M4 (spO K C CR fun p => 1 ≤ p ∧ p ≤ 7) := by
  obtain ⟨f1, fd1, m1, b1, G1⟩ := k1
  obtain ⟨f2, fd2, m2, b2, G2⟩ := k2
  obtain ⟨f3, fd3, m3, b3, G3⟩ := k3
  obtain ⟨f4, fd4, m4, b4, G4⟩ := k4
  obtain ⟨f5, fd5, m5, b5, G5⟩ := k5
  obtain ⟨f6, fd6, m6, b6, G6⟩ := k6
  obtain ⟨f7, fd7, m7, b7, G7⟩ := k7
  refine T.d_of_answers.kn fun f fd F => F.okX scOfAnswers (fun vs H Q E h => spO_len h) (fun cdv A outer s H vs Q E hr h => ⟨_,
    pss_cons (ps_if (pt_cmpR op_eq (pv 1) pe_int (nomark _)) (pss_one (ps_ret (pe_meth (E := E) (pv 0) T.cl m1 G1 (hr.mono (by decide)) b1 .nil (passes_call (takes_of rfl rfl rfl rfl) (fun _ _ _ _ h => h)) (pa_cons (pv 2) (pa_cons (pv 3) pa_nil))))) pss_nil)
      (pss_cons (ps_if (pt_cmpR op_eq (pv 1) pe_int (nomark _)) (pss_one (ps_ret (pe_meth (E := E) (pv 0) T.cl m2 G2 (hr.mono (by decide)) b2 .nil (passes_call (takes_of rfl rfl rfl rfl) (fun _ _ _ _ h => h)) (pa_cons (pv 2) (pa_cons (pv 3) pa_nil))))) pss_nil)
      (pss_cons (ps_if (pt_cmpR op_eq (pv 1) pe_int (nomark _)) (pss_one (ps_ret (pe_meth (E := E) (pv 0) T.cl m3 G3 (hr.mono (by decide)) b3 .nil (passes_call (takes_of rfl rfl rfl rfl) (fun _ _ _ _ h => h)) (pa_cons (pv 2) (pa_cons (pv 3) pa_nil))))) pss_nil)
      (pss_cons (ps_if (pt_cmpR op_eq (pv 1) pe_int (nomark _)) (pss_one (ps_ret (pe_meth (E := E) (pv 0) T.cl m4 G4 (hr.mono (by decide)) b4 .nil (passes_call (takes_of rfl rfl rfl rfl) (fun _ _ _ _ h => h)) (pa_cons (pv 2) (pa_cons (pv 3) pa_nil))))) pss_nil)
      (pss_cons (ps_if (pt_cmpR op_eq (pv 1) pe_int (nomark _)) (pss_one (ps_ret (pe_meth (E := E) (pv 0) T.cl m5 G5 (hr.mono (by decide)) b5 .nil (passes_call (takes_of rfl rfl rfl rfl) (fun _ _ _ _ h => h)) (pa_cons (pv 2) (pa_cons (pv 3) pa_nil))))) pss_nil)
      (pss_one (ps_ret (pe_ifExp (pt_cmpR op_eq (pv 1) pe_int (nomark _)) (pe_meth (E := E) (pv 0) T.cl m6 G6 (hr.mono (by decide)) b6 .nil (passes_call (takes_of rfl rfl rfl rfl) (fun _ _ _ _ h => h)) (pa_cons (pv 2) (pa_cons (pv 3) pa_nil))) (pe_meth (E := E) (pv 0) T.cl m7 G7 (hr.mono (by decide)) b7 .nil (passes_call (takes_of rfl rfl rfl rfl) (fun _ _ _ _ h => h)) (pa_cons (pv 2) (pa_cons (pv 3) pa_nil)))))))))), ?_⟩)
  obtain ⟨x0, a, nA, lA, d, nn, ll, p, rfl, hR, ha, ho⟩ := h
  have hD := ha.1
  obtain ⟨dx, sa, ea, kv, h1, h2, h3, h4⟩ := hD
  refine ⟨_, rfl, rfl, _, rfl, ?_⟩
  by_cases c1 : p = 1
  · subst c1
    exact if_true_of (decide_eq_true rfl) ⟨_, rfl, a, dx, _, rfl, h1, lkM (by decide +kernel) (by decide +kernel) (by decide +kernel) (by decide +kernel), _, rfl, _, rfl, x0, a, nA, lA, d, nn, ll, rfl, ha, ho⟩
  refine if_false_of (ne_num c1) ?_
  refine ⟨_, rfl, rfl, _, rfl, ?_⟩
  by_cases c2 : p = 2
  · subst c2
    exact if_true_of (decide_eq_true rfl) ⟨_, rfl, a, dx, _, rfl, h1, lkM (by decide +kernel) (by decide +kernel) (by decide +kernel) (by decide +kernel), _, rfl, _, rfl, x0, a, nA, lA, d, nn, ll, rfl, ha, ho⟩
  refine if_false_of (ne_num c2) ?_
  refine ⟨_, rfl, rfl, _, rfl, ?_⟩
  by_cases c3 : p = 3
  · subst c3
    exact if_true_of (decide_eq_true rfl) ⟨_, rfl, a, dx, _, rfl, h1, lkM (by decide +kernel) (by decide +kernel) (by decide +kernel) (by decide +kernel), _, rfl, _, rfl, x0, a, nA, lA, d, nn, ll, rfl, ha, ho⟩
  refine if_false_of (ne_num c3) ?_
  refine ⟨_, rfl, rfl, _, rfl, ?_⟩
  by_cases c4 : p = 4
  · subst c4
    exact if_true_of (decide_eq_true rfl) ⟨_, rfl, a, dx, _, rfl, h1, lkM (by decide +kernel) (by decide +kernel) (by decide +kernel) (by decide +kernel), _, rfl, _, rfl, x0, a, nA, lA, d, nn, ll, rfl, ha, ho⟩
  refine if_false_of (ne_num c4) ?_
  refine ⟨_, rfl, rfl, _, rfl, ?_⟩
  by_cases c5 : p = 5
  · subst c5
    exact if_true_of (decide_eq_true rfl) ⟨_, rfl, a, dx, _, rfl, h1, lkM (by decide +kernel) (by decide +kernel) (by decide +kernel) (by decide +kernel), _, rfl, _, rfl, x0, a, nA, lA, d, nn, ll, rfl, ha, ho⟩
  refine if_false_of (ne_num c5) ?_
  refine ⟨_, rfl, rfl, _, rfl, ?_⟩
  by_cases c6 : p = 6
  · subst c6
    exact if_true_of (decide_eq_true rfl) ⟨_, rfl, a, dx, _, rfl, h1, lkM (by decide +kernel) (by decide +kernel) (by decide +kernel) (by decide +kernel), _, rfl, _, rfl, x0, a, nA, lA, d, nn, ll, rfl, ha, ho⟩
  refine if_false_of (ne_num c6) ?_
  have c7 : p = 7 := by omega
  subst c7
  exact ⟨_, rfl, a, dx, _, rfl, h1, lkM (by decide +kernel) (by decide +kernel) (by decide +kernel) (by decide +kernel), _, rfl, _, rfl, x0, a, nA, lA, d, nn, ll, rfl, ha, ho⟩
/-! ### of_looks -/
abbrev sOfLooks : Stmt := top 58
theorem scOfLooks : FnScope M4 M4 (defScope sOfLooks) := ⟨rfl, rfl, rfl, by decide +kernel, rfl, by decide +kernel, by decide +kernel⟩
theorem kn_of_looks (T : Tx K mg C CR) (k8 : KnM P w K mg base (L2.CX P w) 10 C "ask" M3 (spM K C CR 8)) (k9 : KnM P w K mg base (L2.CX P w) 10 C "mean" M3 (spM K C CR 9)) (k10 : KnM P w K mg base (L2.CX P w) 10 C "all_levels" M3 (spM K C CR 10)) (k11 : KnM P w K mg base (L2.CX P w) 10 C "state" M3 (spM K C CR 11)) (k12 : KnM P w K mg base (L2.CX P w) 10 C "chance" M3 (spM K C CR 12)) (k13 : KnM P w K mg base (L2.CX P w) 10 C "heard" M3 (spM K C CR 13)) : Kn P w K mg base (L2.CX P w) 11 "of_looks" M4 (spO K C CR fun p => 8 ≤ p ∧ p ≤ 13) := by
  obtain ⟨f8, fd8, m8, b8, G8⟩ := k8
  obtain ⟨f9, fd9, m9, b9, G9⟩ := k9
  obtain ⟨f10, fd10, m10, b10, G10⟩ := k10
  obtain ⟨f11, fd11, m11, b11, G11⟩ := k11
  obtain ⟨f12, fd12, m12, b12, G12⟩ := k12
  obtain ⟨f13, fd13, m13, b13, G13⟩ := k13
  refine T.d_of_looks.kn fun f fd F => F.okX scOfLooks (fun vs H Q E h => spO_len h) (fun cdv A outer s H vs Q E hr h => ⟨_,
    pss_cons (ps_if (pt_cmpR op_eq (pv 1) pe_int (nomark _)) (pss_one (ps_ret (pe_meth (E := E) (pv 0) T.cl m8 G8 (hr.mono (by decide)) b8 .nil (passes_call (takes_of rfl rfl rfl rfl) (fun _ _ _ _ h => h)) (pa_cons (pv 2) (pa_cons (pv 3) pa_nil))))) pss_nil)
      (pss_cons (ps_if (pt_cmpR op_eq (pv 1) pe_int (nomark _)) (pss_one (ps_ret (pe_meth (E := E) (pv 0) T.cl m9 G9 (hr.mono (by decide)) b9 .nil (passes_call (takes_of rfl rfl rfl rfl) (fun _ _ _ _ h => h)) (pa_cons (pv 2) (pa_cons (pv 3) pa_nil))))) pss_nil)
      (pss_cons (ps_if (pt_cmpR op_eq (pv 1) pe_int (nomark _)) (pss_one (ps_ret (pe_meth (E := E) (pv 0) T.cl m10 G10 (hr.mono (by decide)) b10 .nil (passes_call (takes_of rfl rfl rfl rfl) (fun _ _ _ _ h => h)) (pa_cons (pv 2) (pa_cons (pv 3) pa_nil))))) pss_nil)
      (pss_cons (ps_if (pt_cmpR op_eq (pv 1) pe_int (nomark _)) (pss_one (ps_ret (pe_meth (E := E) (pv 0) T.cl m11 G11 (hr.mono (by decide)) b11 .nil (passes_call (takes_of rfl rfl rfl rfl) (fun _ _ _ _ h => h)) (pa_cons (pv 2) (pa_cons (pv 3) pa_nil))))) pss_nil)
      (pss_one (ps_ret (pe_ifExp (pt_cmpR op_eq (pv 1) pe_int (nomark _)) (pe_meth (E := E) (pv 0) T.cl m12 G12 (hr.mono (by decide)) b12 .nil (passes_call (takes_of rfl rfl rfl rfl) (fun _ _ _ _ h => h)) (pa_cons (pv 2) (pa_cons (pv 3) pa_nil))) (pe_meth (E := E) (pv 0) T.cl m13 G13 (hr.mono (by decide)) b13 .nil (passes_call (takes_of rfl rfl rfl rfl) (fun _ _ _ _ h => h)) (pa_cons (pv 2) (pa_cons (pv 3) pa_nil))))))))), ?_⟩)
  obtain ⟨x0, a, nA, lA, d, nn, ll, p, rfl, hR, ha, ho⟩ := h
  have hD := ha.1
  obtain ⟨dx, sa, ea, kv, h1, h2, h3, h4⟩ := hD
  refine ⟨_, rfl, rfl, _, rfl, ?_⟩
  by_cases c8 : p = 8
  · subst c8
    exact if_true_of (decide_eq_true rfl) ⟨_, rfl, a, dx, _, rfl, h1, lkM (by decide +kernel) (by decide +kernel) (by decide +kernel) (by decide +kernel), _, rfl, _, rfl, x0, a, nA, lA, d, nn, ll, rfl, ha, ho⟩
  refine if_false_of (ne_num c8) ?_
  refine ⟨_, rfl, rfl, _, rfl, ?_⟩
  by_cases c9 : p = 9
  · subst c9
    exact if_true_of (decide_eq_true rfl) ⟨_, rfl, a, dx, _, rfl, h1, lkM (by decide +kernel) (by decide +kernel) (by decide +kernel) (by decide +kernel), _, rfl, _, rfl, x0, a, nA, lA, d, nn, ll, rfl, ha, ho⟩
  refine if_false_of (ne_num c9) ?_
  refine ⟨_, rfl, rfl, _, rfl, ?_⟩
  by_cases c10 : p = 10
  · subst c10
    exact if_true_of (decide_eq_true rfl) ⟨_, rfl, a, dx, _, rfl, h1, lkM (by decide +kernel) (by decide +kernel) (by decide +kernel) (by decide +kernel), _, rfl, _, rfl, x0, a, nA, lA, d, nn, ll, rfl, ha, ho⟩
  refine if_false_of (ne_num c10) ?_
  refine ⟨_, rfl, rfl, _, rfl, ?_⟩
  by_cases c11 : p = 11
  · subst c11
    exact if_true_of (decide_eq_true rfl) ⟨_, rfl, a, dx, _, rfl, h1, lkM (by decide +kernel) (by decide +kernel) (by decide +kernel) (by decide +kernel), _, rfl, _, rfl, x0, a, nA, lA, d, nn, ll, rfl, ha, ho⟩
  refine if_false_of (ne_num c11) ?_
  refine ⟨_, rfl, rfl, _, rfl, ?_⟩
  by_cases c12 : p = 12
  · subst c12
    exact if_true_of (decide_eq_true rfl) ⟨_, rfl, a, dx, _, rfl, h1, lkM (by decide +kernel) (by decide +kernel) (by decide +kernel) (by decide +kernel), _, rfl, _, rfl, x0, a, nA, lA, d, nn, ll, rfl, ha, ho⟩
  refine if_false_of (ne_num c12) ?_
  have c13 : p = 13 := by omega
  subst c13
  exact ⟨_, rfl, a, dx, _, rfl, h1, lkM (by decide +kernel) (by decide +kernel) (by decide +kernel) (by decide +kernel), _, rfl, _, rfl, x0, a, nA, lA, d, nn, ll, rfl, ha, ho⟩
/-! ### of_kept -/
abbrev sOfKept : Stmt := top 60
theorem scOfKept : FnScope M4 M4 (defScope sOfKept) := ⟨rfl, rfl, rfl, by decide +kernel, rfl, by decide +kernel, by decide +kernel⟩
theorem kn_of_kept (T : Tx K mg C CR) (k19 : KnM P w K mg base (L2.CX P w) 10 C "onebit" M3 (spM K C CR 19)) (k20 : KnM P w K mg base (L2.CX P w) 10 C "ifchance" M3 (spM K C CR 20)) (k21 : KnM P w K mg base (L2.CX P w) 10 C "keep" M3 (spM K C CR 21)) (k22 : KnM P w K mg base (L2.CX P w) 10 C "likelier" M3 (spM K C CR 22)) : Kn P w K mg base (L2.CX P w) 11 "of_kept" M4 (spO K C CR fun p => 19 ≤ p ∧ p ≤ 22) := by
  obtain ⟨f19, fd19, m19, b19, G19⟩ := k19
  obtain ⟨f20, fd20, m20, b20, G20⟩ := k20
  obtain ⟨f21, fd21, m21, b21, G21⟩ := k21
  obtain ⟨f22, fd22, m22, b22, G22⟩ := k22
  refine T.d_of_kept.kn fun f fd F => F.okX scOfKept (fun vs H Q E h => spO_len h) (fun cdv A outer s H vs Q E hr h => ⟨_,
    pss_cons (ps_if (pt_cmpR op_eq (pv 1) pe_int (nomark _)) (pss_one (ps_ret (pe_meth (E := E) (pv 0) T.cl m19 G19 (hr.mono (by decide)) b19 .nil (passes_call (takes_of rfl rfl rfl rfl) (fun _ _ _ _ h => h)) (pa_cons (pv 2) (pa_cons (pv 3) pa_nil))))) pss_nil)
      (pss_cons (ps_if (pt_cmpR op_eq (pv 1) pe_int (nomark _)) (pss_one (ps_ret (pe_meth (E := E) (pv 0) T.cl m20 G20 (hr.mono (by decide)) b20 .nil (passes_call (takes_of rfl rfl rfl rfl) (fun _ _ _ _ h => h)) (pa_cons (pv 2) (pa_cons (pv 3) pa_nil))))) pss_nil)
      (pss_one (ps_ret (pe_ifExp (pt_cmpR op_eq (pv 1) pe_int (nomark _)) (pe_meth (E := E) (pv 0) T.cl m21 G21 (hr.mono (by decide)) b21 .nil (passes_call (takes_of rfl rfl rfl rfl) (fun _ _ _ _ h => h)) (pa_cons (pv 2) (pa_cons (pv 3) pa_nil))) (pe_meth (E := E) (pv 0) T.cl m22 G22 (hr.mono (by decide)) b22 .nil (passes_call (takes_of rfl rfl rfl rfl) (fun _ _ _ _ h => h)) (pa_cons (pv 2) (pa_cons (pv 3) pa_nil))))))), ?_⟩)
  obtain ⟨x0, a, nA, lA, d, nn, ll, p, rfl, hR, ha, ho⟩ := h
  have hD := ha.1
  obtain ⟨dx, sa, ea, kv, h1, h2, h3, h4⟩ := hD
  refine ⟨_, rfl, rfl, _, rfl, ?_⟩
  by_cases c19 : p = 19
  · subst c19
    exact if_true_of (decide_eq_true rfl) ⟨_, rfl, a, dx, _, rfl, h1, lkM (by decide +kernel) (by decide +kernel) (by decide +kernel) (by decide +kernel), _, rfl, _, rfl, x0, a, nA, lA, d, nn, ll, rfl, ha, ho⟩
  refine if_false_of (ne_num c19) ?_
  refine ⟨_, rfl, rfl, _, rfl, ?_⟩
  by_cases c20 : p = 20
  · subst c20
    exact if_true_of (decide_eq_true rfl) ⟨_, rfl, a, dx, _, rfl, h1, lkM (by decide +kernel) (by decide +kernel) (by decide +kernel) (by decide +kernel), _, rfl, _, rfl, x0, a, nA, lA, d, nn, ll, rfl, ha, ho⟩
  refine if_false_of (ne_num c20) ?_
  refine ⟨_, rfl, rfl, _, rfl, ?_⟩
  by_cases c21 : p = 21
  · subst c21
    exact if_true_of (decide_eq_true rfl) ⟨_, rfl, a, dx, _, rfl, h1, lkM (by decide +kernel) (by decide +kernel) (by decide +kernel) (by decide +kernel), _, rfl, _, rfl, x0, a, nA, lA, d, nn, ll, rfl, ha, ho⟩
  refine if_false_of (ne_num c21) ?_
  have c22 : p = 22 := by omega
  subst c22
  exact ⟨_, rfl, a, dx, _, rfl, h1, lkM (by decide +kernel) (by decide +kernel) (by decide +kernel) (by decide +kernel), _, rfl, _, rfl, x0, a, nA, lA, d, nn, ll, rfl, ha, ho⟩
/-! ### of_hearing -/
abbrev sOfHearing : Stmt := top 59
theorem scOfHearing : FnScope M4 M4 (defScope sOfHearing) := ⟨rfl, rfl, rfl, by decide +kernel, rfl, by decide +kernel, by decide +kernel⟩
theorem kn_of_hearing (T : Tx K mg C CR) (k14 : KnM P w K mg base (L2.CX P w) 10 C "soft" M3 (spM K C CR 14)) (k15 : KnM P w K mg base (L2.CX P w) 10 C "stays" M3 (spM K C CR 15)) (k16 : KnM P w K mg base (L2.CX P w) 10 C "agree" M3 (spM K C CR 16)) (k17 : KnM P w K mg base (L2.CX P w) 10 C "worst" M3 (spM K C CR 17)) (k18 : KnM P w K mg base (L2.CX P w) 10 C "even" M3 (spM K C CR 18)) (hZ : Kn P w K mg base (L2.CX P w) 11 "of_kept" M4 (spO K C CR fun p => 19 ≤ p ∧ p ≤ 22)) : Kn P w K mg base (L2.CX P w) 12 "of_hearing" M4 (spO K C CR fun p => 14 ≤ p ∧ p ≤ 22) := by
  obtain ⟨f14, fd14, m14, b14, G14⟩ := k14
  obtain ⟨f15, fd15, m15, b15, G15⟩ := k15
  obtain ⟨f16, fd16, m16, b16, G16⟩ := k16
  obtain ⟨f17, fd17, m17, b17, G17⟩ := k17
  obtain ⟨f18, fd18, m18, b18, G18⟩ := k18
  obtain ⟨fZ, fdZ, gZ, kZ, bZ, GZ⟩ := hZ
  refine T.d_of_hearing.kn fun f fd F => F.okX scOfHearing (fun vs H Q E h => spO_len h) (fun cdv A outer s H vs Q E hr h => ⟨_,
    pss_cons (ps_if (pt_cmpR op_eq (pv 1) pe_int (nomark _)) (pss_one (ps_ret (pe_meth (E := E) (pv 0) T.cl m14 G14 (hr.mono (by decide)) b14 .nil (passes_call (takes_of rfl rfl rfl rfl) (fun _ _ _ _ h => h)) (pa_cons (pv 2) (pa_cons (pv 3) pa_nil))))) pss_nil)
      (pss_cons (ps_if (pt_cmpR op_eq (pv 1) pe_int (nomark _)) (pss_one (ps_ret (pe_meth (E := E) (pv 0) T.cl m15 G15 (hr.mono (by decide)) b15 .nil (passes_call (takes_of rfl rfl rfl rfl) (fun _ _ _ _ h => h)) (pa_cons (pv 2) (pa_cons (pv 3) pa_nil))))) pss_nil)
      (pss_cons (ps_if (pt_cmpR op_eq (pv 1) pe_int (nomark _)) (pss_one (ps_ret (pe_meth (E := E) (pv 0) T.cl m16 G16 (hr.mono (by decide)) b16 .nil (passes_call (takes_of rfl rfl rfl rfl) (fun _ _ _ _ h => h)) (pa_cons (pv 2) (pa_cons (pv 3) pa_nil))))) pss_nil)
      (pss_cons (ps_if (pt_cmpR op_eq (pv 1) pe_int (nomark _)) (pss_one (ps_ret (pe_meth (E := E) (pv 0) T.cl m17 G17 (hr.mono (by decide)) b17 .nil (passes_call (takes_of rfl rfl rfl rfl) (fun _ _ _ _ h => h)) (pa_cons (pv 2) (pa_cons (pv 3) pa_nil))))) pss_nil)
      (pss_one (ps_ret (pe_ifExp (pt_cmpR op_eq (pv 1) pe_int (nomark _)) (pe_meth (E := E) (pv 0) T.cl m18 G18 (hr.mono (by decide)) b18 .nil (passes_call (takes_of rfl rfl rfl rfl) (fun _ _ _ _ h => h)) (pa_cons (pv 2) (pa_cons (pv 3) pa_nil))) (pe_call (E := E) GZ (hr.mono (by decide)) (by rfl) gZ kZ bZ .nil (passes_call (takes_of rfl rfl rfl rfl) (fun _ _ _ _ h => h)) (pa_cons (pv 0) (pa_cons (pv 1) (pa_cons (pv 2) (pa_cons (pv 3) pa_nil))))))))))), ?_⟩)
  obtain ⟨x0, a, nA, lA, d, nn, ll, p, rfl, hR, ha, ho⟩ := h
  have hD := ha.1
  obtain ⟨dx, sa, ea, kv, h1, h2, h3, h4⟩ := hD
  refine ⟨_, rfl, rfl, _, rfl, ?_⟩
  by_cases c14 : p = 14
  · subst c14
    exact if_true_of (decide_eq_true rfl) ⟨_, rfl, a, dx, _, rfl, h1, lkM (by decide +kernel) (by decide +kernel) (by decide +kernel) (by decide +kernel), _, rfl, _, rfl, x0, a, nA, lA, d, nn, ll, rfl, ha, ho⟩
  refine if_false_of (ne_num c14) ?_
  refine ⟨_, rfl, rfl, _, rfl, ?_⟩
  by_cases c15 : p = 15
  · subst c15
    exact if_true_of (decide_eq_true rfl) ⟨_, rfl, a, dx, _, rfl, h1, lkM (by decide +kernel) (by decide +kernel) (by decide +kernel) (by decide +kernel), _, rfl, _, rfl, x0, a, nA, lA, d, nn, ll, rfl, ha, ho⟩
  refine if_false_of (ne_num c15) ?_
  refine ⟨_, rfl, rfl, _, rfl, ?_⟩
  by_cases c16 : p = 16
  · subst c16
    exact if_true_of (decide_eq_true rfl) ⟨_, rfl, a, dx, _, rfl, h1, lkM (by decide +kernel) (by decide +kernel) (by decide +kernel) (by decide +kernel), _, rfl, _, rfl, x0, a, nA, lA, d, nn, ll, rfl, ha, ho⟩
  refine if_false_of (ne_num c16) ?_
  refine ⟨_, rfl, rfl, _, rfl, ?_⟩
  by_cases c17 : p = 17
  · subst c17
    exact if_true_of (decide_eq_true rfl) ⟨_, rfl, a, dx, _, rfl, h1, lkM (by decide +kernel) (by decide +kernel) (by decide +kernel) (by decide +kernel), _, rfl, _, rfl, x0, a, nA, lA, d, nn, ll, rfl, ha, ho⟩
  refine if_false_of (ne_num c17) ?_
  refine ⟨_, rfl, rfl, _, rfl, ?_⟩
  by_cases c18 : p = 18
  · subst c18
    exact if_true_of (decide_eq_true rfl) ⟨_, rfl, a, dx, _, rfl, h1, lkM (by decide +kernel) (by decide +kernel) (by decide +kernel) (by decide +kernel), _, rfl, _, rfl, x0, a, nA, lA, d, nn, ll, rfl, ha, ho⟩
  refine if_false_of (ne_num c18) ?_
  exact ⟨_, rfl, _, rfl, _, rfl, _, rfl, x0, a, nA, lA, d, nn, ll, p, rfl, by omega, ha, ho⟩
/-! ### of_call -/
abbrev sOfCall : Stmt := top 61
theorem scOfCall : FnScope M4 M4 (defScope sOfCall) := ⟨rfl, rfl, rfl, by decide +kernel, rfl, by decide +kernel, by decide +kernel⟩
theorem kn_of_call (T : Tx K mg C CR) (hA : Kn P w K mg base (L2.CX P w) 11 "of_answers" M4 (spO K C CR fun p => 1 ≤ p ∧ p ≤ 7)) (hL : Kn P w K mg base (L2.CX P w) 11 "of_looks" M4 (spO K C CR fun p => 8 ≤ p ∧ p ≤ 13))
    (hH : Kn P w K mg base (L2.CX P w) 12 "of_hearing" M4 (spO K C CR fun p => 14 ≤ p ∧ p ≤ 22)) : Kn P w K mg base (L2.CX P w) 13 "of_call" M4 (spO K C CR fun p => 1 ≤ p ∧ p ≤ 22) := by
  obtain ⟨fA, fdA, gA, kA, bA, GA⟩ := hA
  obtain ⟨fL, fdL, gL, kL, bL, GL⟩ := hL
  obtain ⟨fH, fdH, gH, kH, bH, GH⟩ := hH
  refine T.d_of_call.kn fun f fd F => F.okX scOfCall (fun vs H Q E h => spO_len h) (fun cdv A outer s H vs Q E hr h => ⟨_,
    pss_cons (ps_if (pt_cmpR op_lt (pv 1) pe_int (nomark _)) (pss_one (ps_ret (pe_call (E := E) GA (hr.mono (by decide)) (by rfl) gA kA bA .nil (passes_call (takes_of rfl rfl rfl rfl) (fun _ _ _ _ h => h)) (pa_cons (pv 0) (pa_cons (pv 1) (pa_cons (pv 2) (pa_cons (pv 3) pa_nil))))))) pss_nil)
      (pss_cons (ps_if (pt_cmpR op_lt (pv 1) pe_int (nomark _)) (pss_one (ps_ret (pe_call (E := E) GL (hr.mono (by decide)) (by rfl) gL kL bL .nil (passes_call (takes_of rfl rfl rfl rfl) (fun _ _ _ _ h => h)) (pa_cons (pv 0) (pa_cons (pv 1) (pa_cons (pv 2) (pa_cons (pv 3) pa_nil))))))) pss_nil)
      (pss_one (ps_ret (pe_call (E := E) GH (hr.mono (by decide)) (by rfl) gH kH bH .nil (passes_call (takes_of rfl rfl rfl rfl) (fun _ _ _ _ h => h)) (pa_cons (pv 0) (pa_cons (pv 1) (pa_cons (pv 2) (pa_cons (pv 3) pa_nil)))))))), ?_⟩)
  obtain ⟨x0, a, nA, lA, d, nn, ll, p, rfl, hR, ha, ho⟩ := h
  refine ⟨_, rfl, _, _, rfl, rfl, _, rfl, ?_⟩
  by_cases c1 : (p : Int) < 8
  · exact if_true_of (decide_eq_true c1) ⟨_, rfl, _, rfl, _, rfl, _, rfl, x0, a, nA, lA, d, nn, ll, p, rfl, by omega, ha, ho⟩
  refine if_false_of (decide_eq_false c1) ?_
  refine ⟨_, rfl, _, _, rfl, rfl, _, rfl, ?_⟩
  by_cases c2 : (p : Int) < 14
  · exact if_true_of (decide_eq_true c2) ⟨_, rfl, _, rfl, _, rfl, _, rfl, x0, a, nA, lA, d, nn, ll, p, rfl, by omega, ha, ho⟩
  refine if_false_of (decide_eq_false c2) ?_
  exact ⟨_, rfl, _, rfl, _, rfl, _, rfl, x0, a, nA, lA, d, nn, ll, p, rfl, by omega, ha, ho⟩
end
end Wk
/-! ## Wk16 -/
namespace Wk
open PySem PySem.Spec PyProof.Rows L2 Mh
open Krdk (bits words meet weigh Answer of sum)
/-! ### C(e, ..) within a try: what __init__ raises is wished for at the slots as they stand -/
def tMakeS (C : Addr) (sp : Sp) (dvs : List V) (W : L2.St → XK) (ta : TA) : TE := fun σ H Q => ta σ H fun vs H1 => ∀ x dx, H1 x = none → H1 dx = none → dx ≠ x →
  sp (.ref x :: (vs ++ dvs)) (upd (upd H1 dx (.own x)) x (.ins C dx [])) (fun v H2 => v = .non ∧ Q (.ref x) H2) (W σ)
theorem pe_makeS {X : Cx} {cx : CXT} {j : Nat} {f C : Addr} {fd : FuncData} {ps : List Str} {sp : Sp} {W : L2.St → XK} {nm : Str} {p1 p2 : Pos} {e1 : Expr} {er : List Expr} {ta : TA} {dvs : List V} {ds : List Value}
    (M : Mk X.K C f) (F : FnOk X.prog X.w X.K X.mg X.base cx j f fd ps sp) (rm : Room (j + 1) X.A) (gl : Gl X nm) (gm : X.mg nm = some (.ref C)) (bd : Binds X.K fd ps ds) (dd : Vals dvs ds) (ps' : ∀ τ, PassesAt cx X τ (W τ))
    (args : PA X (e1 :: er) ta) (hdb : (nm == ("__debug__" : Str)) = false := by decide) (hst : starEach (e1 :: er) X.env = (false, eval e1 X.env) :: starEach er X.env := by rfl) (hno : (backTo p2 (starEach er X.env)).any (·.1) = false := by rfl) :
    PE X (.Call (.Name nm p1) (e1 :: er) [] p2) (tMakeS C sp dvs W ta) := by
  constructor
  intro pins s0 τ G R inv hyp
  refine wpAny_Call_Name_kw (ld_glob inv gl gm ?_ hdb)
  refine PySem.W.callWith_K (h₀ := X.base) inv.ok.mod.kin M.kp (thn (args.run p2 pins s0 τ G _ inv hyp) fun us s ⟨vs, H, I, rel, h⟩ => ⟨I.kIn, ?_⟩) hst hno
  have hq := h (s.heap.objs.size + 1) s.heap.objs.size (I.hok.fresh (Nat.le_succ _)) (I.hok.fresh (Nat.le_refl _)) (Nat.ne_of_lt (Nat.lt_succ_self _))
  have J := Inv.made (C := C) I
  have rr : Vals (V.ref (s.heap.objs.size + 1) :: (vs ++ dvs)) (Value.ref (s.heap.objs.size + 1) :: (us ++ ds)) := .cons rfl (rel.append dd)
  have ln : (Value.ref (s.heap.objs.size + 1) :: us ++ ds).length = ps.length := by
    rw [← F.len _ _ _ _ hq]
    exact rr.length.symm
  have go := F.run _ X.stack _ _ ⟨Value.ref (s.heap.objs.size + 1) :: us, []⟩ (Value.ref (s.heap.objs.size + 1) :: (us ++ ds)) _ _ (W τ) (rm.make C us []) (J.env0.make C us []) (bd _ (Value.ref (s.heap.objs.size + 1) :: us) J.kIn ln) rr hq
  refine wpAny_call (make_map (f := f) I.kIn M.makes M.init (beq_iff_eq.mp M.fn) (codeAny_mono go ?_))
  rintro (er' | fl) s' hr
  · exact ps' τ pins _ _ er' s' J hr
  · cases fl with
    | ret u =>
      obtain ⟨v, H', I3, rv, rfl, fin⟩ := J.after hr
      exact ⟨rv, V.ref (s.heap.objs.size + 1), H', I3, rfl, fin⟩
    | next => exact hr.elim
    | brk => exact hr.elim
    | cont => exact hr.elim
/-! ### done -/
/-- the object, if it's begun -/
def StAt (K : PySem.W.Frag) (C x : Addr) (H : Hp) (dv : V) : Krdl.Abs → Prop
  | none => dv = .non
  | some d => ∃ a : Addr, dv = .ref a ∧ DeskAt K C x H a d ∧ Ok d
/-- all but the object itself is as it was -/
def KeepV (dv : V) (H H' : Hp) : Prop := ∀ b o, H b = some o → dv ≠ .ref b → H' b = some o
abbrev M6 : List Str := ["desk", "call", "n", "l", "found", "e"]
section
variable {P : Program} {w : World} {K : PySem.W.Frag} {mg : Str → Option Value} {base : Heap} {C CR : Addr}
abbrev sDone : Stmt := top 62
theorem scDone : FnScope M6 M4 (defScope sDone) := ⟨rfl, rfl, rfl, by decide +kernel, rfl, by decide +kernel, by decide +kernel⟩
def spDone (K : PySem.W.Frag) (C : Addr) : Sp := fun vs H Q _ => ∃ (x : Addr) (dv : V) (st : Krdl.Abs) (nA lA : Addr) (nn ll : List Nat) (p : Nat), vs = [dv, .int (p : Int), .ref nA, .ref lA] ∧ p ≤ 22 ∧ (∃ xs, H x = some (.lst xs)) ∧ StAt K C x H dv st ∧ SqL K H nA (iv (nz nn)) ∧ SqL K H lA (iv (nz ll)) ∧ nn.length = nums p ∧ ll.length ≤ 10500 ∧
  ∀ (H' : Hp) (q t : Addr) (dv' : V), H t = none → KeepV dv H H' → StAt K C x H' dv' (said (Krdl.act st (cl p (nn.getD 0 0) (nn.getD 1 0) ll))).1 → H' q = some (.tup [dv', .ref t]) → H' t = some (.lst (iv (said (Krdl.act st (cl p (nn.getD 0 0) (nn.getD 1 0) ll))).2)) → Q (.ref q) H'
/-- found = (Desk(n[0]), [0]) if call == BEGIN else (desk, of_call(desk, call, n, l)) -/
def tBody (K : PySem.W.Frag) (C CR : Addr) (W : WX) : TS :=
  tAsg (tIf (tTest (tOp rEq (tVar 1) (tC (.int 0))))
    (tTup (tCons (tMakeS C (spDInit K C CR) [] (WE W) (tCons (tOp (rIxL K) (tVar 2) (tC (.int 0))) tNil)) (tCons (tLst (tCons (tC (.int 0)) tNil)) tNil)))
    (tTup (tCons (tVar 0) (tCons (tCallS (spO K C CR fun p => 1 ≤ p ∧ p ≤ 22) (WE W) (tCons (tVar 0) (tCons (tVar 1) (tCons (tVar 2) (tCons (tVar 3) tNil))))) tNil)))) (gName 4)
/-- found = (desk, [e.number]) -/
def tSuite (CR : Addr) (a : Addr) (cls : Value) (d : Option Addr) : TS := tAsg (tTup (tCons (tVar 0) (tCons (tLst (tCons (tXf a cls d CR "number" (tVar 5)) tNil)) tNil))) (gName 4)
theorem StAt.same {x : Addr} {H H' : Hp} {dv : V} {st : Krdl.Abs} (s : Same H H') (h : StAt K C x H dv st) : StAt K C x H' dv st := by
  cases st with
  | none => exact h
  | some d =>
    obtain ⟨a, e, hD, hok⟩ := h
    exact ⟨a, e, hD.same s, hok⟩
theorem Same.keepV {dv : V} {H H' : Hp} (s : Same H H') : KeepV dv H H' := fun b o e _ => s b o e
theorem KeepV.trans {dv : V} {H H1 H2 : Hp} (s : KeepV dv H H1) (t : KeepV dv H1 H2) : KeepV dv H H2 := fun b o e n => t b o (s b o e n) n
theorem KeepBut.keepV {a : Addr} {H H' : Hp} (s : KeepBut a H H') : KeepV (.ref a) H H' := fun b o e n => s b o e fun z => n (by rw [z])
theorem suite_ok (te : PySem.W.exmOne K (.ref CR) (.ref CR) = some true) {dv : V} {p v : Int} {nA lA d : Addr} {D : Ends} {H : Hp} (he : H d = some (.xd [(("number" : Str), .int v)]))
    (k : ∀ (H2 : Hp) (q t : Addr), H t = none → Same H H2 → H2 q = some (.tup [dv, .ref t]) → H2 t = some (.lst [.int v]) → D.nx [some dv, some (.int p), some (.ref nA), some (.ref lA), some (.ref q), none] H2) :
    wAs K (.ref CR) 5 (tSuite CR) (fun _ _ _ _ => False) D (.ref CR) (some d) [some dv, some (.int p), some (.ref nA), some (.ref lA), none, none] H := by
  refine ⟨true, te, fun _ a0 ha0 => ?_, fun q => Bool.noConfusion q⟩
  refine ⟨_, rfl, _, rfl, rfl, rfl, d, _, _, rfl, he, lk_here, (by show 1 ≤ sizeLine; decide), fun t ht => ⟨(by show 2 ≤ sizeLine; decide), fun q hq => ?_⟩⟩
  have s1 := same_upd (o := .lst [.int v]) ht
  have s2 := same_upd (o := .tup [dv, .ref t]) hq
  exact k _ q t ht (s1.trans s2) upd_same (s2 _ _ upd_same)
theorem kn_done (T : Tx K mg C CR) (hI : KnM P w K mg base (L2.CX P w) 4 C "__init__" ["self", "n"] (spDInit K C CR)) (hO : Kn P w K mg base (L2.CX P w) 13 "of_call" M4 (spO K C CR fun p => 1 ≤ p ∧ p ≤ 22)) : Kn P w K mg base CX0 15 "done" M4 (spDone K C) := by
  obtain ⟨fI, fdI, mI, bI, GI⟩ := hI
  obtain ⟨fO, fdO, gO, kO, bO, GO⟩ := hO
  obtain ⟨tB, cB⟩ := T.c_BEGIN
  obtain ⟨tN, cN⟩ := T.c_NOT_BEGUN
  have MK : Mk K C fI := ⟨T.mks, mI.at_, mI.fn, T.kc⟩
  refine T.d_done.kn fun f fd F => F.ok scDone (fun vs H Q E h => ?_) (fun cdv A outer s H vs Q E hr h => ⟨_,
    pss_cons (ps_if (PW.pt (pw_and (pt_cmpR op_ne (pv 1) (pe_glob (v := .int 0) rfl cB ⟨_, rfl⟩) (nomark _)) (pw_and1 (pt_cmpR op_isN (pv 0) pe_non (nomark _)))))
        (pss_one (ps_ret (pe_tup (pa_cons (pv 0) (pa_cons (pe_lst (pa_cons (pe_glob (v := .int (-11)) rfl cN ⟨_, rfl⟩) pa_nil)) pa_nil))))) pss_nil)
      (pss_cons (ps_try_as (i := 5) (tb := tBody K C CR) (ts := tSuite CR) (Wout := fun _ _ _ _ => False) rfl rfl scDone.nd rfl rfl ⟨rfl, by decide, Or.inl T.gR⟩ takes0
        (fun W pn xe tk _ => pss_one (ps_set (i := 4) scDone.nd rfl (Or.inl rfl) (pe_ifExp (pt_cmpR op_eq (pv 1) (pe_glob (v := .int 0) rfl cB ⟨_, rfl⟩) (nomark _))
          (pe_tup (pa_cons (pe_makeS MK GI (hr.mono (by decide)) (by rfl) T.gC bI .nil (fun σ => passAt tk σ) (by exact (pa_cons (pe_ix ix_list (pv 2) pe_int (fun _ _ => rfl)) pa_nil))) (pa_cons (pe_lst (pa_cons pe_int pa_nil)) pa_nil)))
          (pe_tup (pa_cons (pv 0) (pa_cons (pe_callS GO (hr.mono (by decide)) (by rfl) gO kO bO (fun σ => passAt tk σ) (by exact (pa_cons (pv 0) (pa_cons (pv 1) (pa_cons (pv 2) (pa_cons (pv 3) pa_nil)))))) pa_nil))))))
        (fun a oe cls d pn hz hf => pss_one (ps_set (i := 4) scDone.nd rfl (Or.inl rfl) (pe_tup (pa_cons (pv 0) (pa_cons (pe_lst (pa_cons (pe_xf T.xf T.nN hz hf (pv 5)) pa_nil)) pa_nil))))))
      (pss_one (ps_ret (pv 4)))), ?_⟩)
  · obtain ⟨x0, dv, st, nA, lA, nn, ll, p, rfl, _⟩ := h
    rfl
  obtain ⟨x0, dv, st, nA, lA, nn, ll, p, rfl, hp, ⟨xs0, hx0⟩, hs, hn, hl, hnl, hll, k⟩ := h
  by_cases hp0 : p = 0
  · -- begin
    subst hp0
    obtain ⟨n0, rfl⟩ := one_num hnl
    refine ⟨_, rfl, rfl, _, rfl, ?_⟩
    refine if_false_of rfl ?_
    refine if_false_of rfl ?_
    refine ⟨_, rfl, rfl, _, rfl, ?_⟩
    refine if_true_of rfl ?_
    refine ⟨_, rfl, nA, _, _, _, rfl, rfl, hn, atI_nat (j := 0) rfl, fun x dx nx nd ne => ?_⟩
    have s0 : Same H (upd (upd H dx (.own x)) x (.ins C dx [])) := fun b o e => by
      rw [upd_ne (ne_of_none e nx), upd_ne (ne_of_none e nd)]
      exact e
    refine ⟨x0, x, dx, n0, rfl, upd_same, ⟨_, s0 _ _ hx0⟩, ne_of_none hx0 nx, fun hb H1 hD kb => ⟨rfl, ?_⟩, fun hb => ?_⟩
    · have s1 : Same H H1 := fun b o e => kb _ _ (s0 _ _ e) (ne_of_none e nx)
      refine ⟨(by show 1 ≤ sizeLine; decide), fun t ht => ⟨(by show 2 ≤ sizeLine; decide), fun q hq => ?_⟩⟩
      have s2 := same_upd (o := .lst [.int 0]) ht
      have s3 := same_upd (o := .tup [.ref x, .ref t]) hq
      refine ⟨_, rfl, k _ q t (.ref x) (s1.free ht) (Same.keepV ((s1.trans s2).trans s3)) ?_ upd_same ?_⟩
      · show StAt K C _ _ _ (said (Krdl.act st (cl 0 n0 _ _))).1
        rw [begin_yes hb]
        exact ⟨x, rfl, hD.same (s2.trans s3), ok_fresh hb⟩
      · show _ = some (HO.lst (iv (said (Krdl.act st (cl 0 n0 _ _))).2))
        rw [begin_yes hb]
        exact s3 _ _ upd_same
    · intro H' d s' n e
      refine suite_ok T.te e fun H2 q t ft s2 h1 h2 => ⟨_, rfl, k H2 q t dv ((s0.trans s').free ft) (Same.keepV ((s0.trans s').trans s2)) ?_ h1 ?_⟩
      · show StAt K C _ _ _ (said (Krdl.act st (cl 0 n0 _ _))).1
        rw [begin_no hb]
        exact hs.same ((s0.trans s').trans s2)
      · show _ = some (HO.lst (iv (said (Krdl.act st (cl 0 n0 _ _))).2))
        rw [begin_no hb]
        exact h2
  · have hne := ne_num hp0
    refine ⟨_, rfl, rfl, _, rfl, ?_⟩
    refine if_true_of ?_ ?_
    · show (!decide (V.int (p : Int) = V.int 0)) = true
      have : decide (V.int (p : Int) = V.int 0) = false := hne
      rw [this]
      rfl
    refine ⟨_, rfl, rfl, _, rfl, ?_⟩
    cases st with
    | none =>
      have hdv : dv = .non := hs
      subst hdv
      refine if_true_of rfl ?_
      refine ⟨_, rfl, (by show 1 ≤ sizeLine; decide), fun t ht => ⟨(by show 2 ≤ sizeLine; decide), fun q hq => ?_⟩⟩
      have s2 := same_upd (o := .lst [.int (-11)]) ht
      have s3 := same_upd (o := .tup [.non, .ref t]) hq
      refine k _ q t .non ht (Same.keepV (s2.trans s3)) ?_ upd_same ?_
      · rw [none_no hp0]
        rfl
      · rw [none_no hp0]
        exact s3 _ _ upd_same
    | some d =>
      obtain ⟨a, rfl, hD, hok⟩ := hs
      refine if_false_of rfl ?_
      refine ⟨_, rfl, rfl, _, rfl, ?_⟩
      refine if_false_of hne ?_
      refine ⟨_, rfl, _, rfl, _, rfl, _, rfl, _, rfl, x0, a, nA, lA, d, nn, ll, p, rfl, by omega, ⟨hD, hok, hn, hl, hnl, hll, _, hx0⟩, fun v hy => ?_, fun d' r hy H1 t ft kb hD1 ht => ?_⟩
      · intro H' dd s' n e
        refine suite_ok T.te e fun H2 q t ft s2 h1 h2 => ⟨_, rfl, k H2 q t (.ref a) (s'.free ft) (Same.keepV (s'.trans s2)) ?_ h1 ?_⟩
        · rw [show Krdl.act (some d) _ = _ from hy]
          exact ⟨a, rfl, hD.same (s'.trans s2), hok⟩
        · rw [show Krdl.act (some d) _ = _ from hy]
          exact h2
      · refine ⟨(by show 2 ≤ sizeLine; decide), fun q hq => ?_⟩
        have s3 := same_upd (o := .tup [.ref a, .ref t]) hq
        refine ⟨_, rfl, k _ q t (.ref a) ft ((KeepBut.keepV kb).trans (Same.keepV s3)) ?_ upd_same ?_⟩
        · rw [show Krdl.act (some d) _ = _ from hy]
          exact ⟨a, rfl, hD1.same s3, act_ok hok hy⟩
        · rw [show Krdl.act (some d) _ = _ from hy]
          exact s3 _ _ ht
end
end Wk
/-! ## Wk17 -/
namespace Wk
open PySem PySem.Spec PyProof.Rows L2 Mh
open Krdk (bits words meet weigh Answer of sum)
abbrev M10 : List Str := ["calls", "desk", "found", "at", "call", "end", "n", "l", "first", "told"]
section
variable {P : Program} {w : World} {K : PySem.W.Frag} {mg : Str → Option Value} {base : Heap} {C CR : Addr}
abbrev sAnswers : Stmt := top 63
theorem scAnswers : FnScope M10 ["calls"] (defScope sAnswers) := ⟨rfl, rfl, rfl, by decide +kernel, rfl, by decide +kernel, by decide +kernel⟩
theorem numV : ([.int 1, .int 0, .int 1, .int 1, .int 1, .int 0, .int 1, .int 2, .int 1, .int 0, .int 0, .int 0, .int 2, .int 2, .int 1, .int 0, .int 0, .int 0, .int 0, .int 0, .int 2, .int 0, .int 0] : List V) = iv (nz numL) := rfl
theorem num_at {p : Nat} (h : p < 23) : (iv (nz numL))[p]? = some (.int ((nums p : Nat) : Int)) := by
  unfold iv nz
  rw [List.map_map, List.getElem?_map]
  have : numL[p]? = some (nums p) := by
    unfold nums
    rw [List.getD_eq_getElem?_getD, List.getElem?_eq_getElem (show p < numL.length from h)]
    rfl
  rw [this]
  rfl
theorem keepV_sq {H H' : Hp} {dv : V} {st : Krdl.Abs} {x s : Addr} {xs : List V} (kv : KeepV dv H H') (hs : StAt K C x H dv st) (h : SqL K H s xs) : SqL K H' s xs := by
  have ne : ∀ {o : HO}, H s = some o → (∀ dx fs, o ≠ .ins C dx fs) → dv ≠ .ref s := fun {o} ho hne z => by
    cases st with
    | none =>
      have e : dv = .non := hs
      rw [e] at z
      cases z
    | some d =>
      obtain ⟨a, e, ⟨dx, sa, ea, k, h1, _⟩, _⟩ := hs
      rw [e] at z
      have z' := V.ref.inj z
      rw [z', ho] at h1
      exact hne _ _ (Option.some.inj h1)
  rcases h with (h | ⟨o, h⟩) | h
  · exact .inl (.inl (kv _ _ h (ne h fun _ _ z => by cases z)))
  · exact .inl (.inr ⟨o, kv _ _ h (ne h fun _ _ z => by cases z)⟩)
  · exact .inr h
theorem keepV_lst {H H' : Hp} {dv : V} {st : Krdl.Abs} {x s : Addr} {xs : List V} (kv : KeepV dv H H') (hs : StAt K C x H dv st) (h : H s = some (.lst xs)) : H' s = some (.lst xs) := by
  refine kv _ _ h fun z => ?_
  cases st with
  | none =>
    have e : dv = .non := hs
    rw [e] at z
    cases z
  | some d =>
    obtain ⟨a, e, ⟨dx, sa, ea, k, h1, _⟩, _⟩ := hs
    rw [e] at z
    have z' := V.ref.inj z
    rw [z', h] at h1
    cases h1
theorem sq_upd {H : Hp} {q s : Addr} {o : HO} {xs : List V} (hne : s ≠ q) (h : SqL K H s xs) : SqL K (upd H q o) s xs := by
  rcases h with (h | ⟨u, h⟩) | h
  · refine .inl (.inl ?_)
    rw [upd_ne hne]
    exact h
  · refine .inl (.inr ⟨u, ?_⟩)
    rw [upd_ne hne]
    exact h
  · exact .inr h
/-- where a list is changed of which the object has nothing, it stands -/
theorem stAt_upd {H : Hp} {dv : V} {st : Krdl.Abs} {q : Addr} {xs ys : List V} (hq : H q = some (.lst xs)) (hs : StAt K C q H dv st) : StAt K C q (upd H q (.lst ys)) dv st := by
  cases st with
  | none => exact hs
  | some d =>
    obtain ⟨a, e, ⟨dx, sa, ea, kv, h1, h2, h3, h4, h5⟩, hok⟩ := hs
    refine ⟨a, e, ⟨dx, sa, ea, kv, ?_, sq_upd h4 h2, fr_upd hq h3, h4, ?_⟩, hok⟩
    · rw [upd_ne (fun z => ?_)]
      · exact h1
      · rw [z, hq] at h1
        cases h1
    · cases hk : d.kept with
      | none =>
        rw [hk] at h5
        exact h5
      | some g =>
        rw [hk] at h5
        obtain ⟨ka, e2, n, hs⟩ := h5
        exact ⟨ka, e2, n, sq_upd n hs⟩
theorem cut_eq {L : List Nat} {za zb : Int} {a b : Nat} (ha : za = (a : Int)) (hb : zb = (b : Int)) (hab : a ≤ b) (hL : b ≤ L.length) : cutV (iv (nz L)) (some za) (some zb) = iv (nz ((L.drop a).take (b - a))) := by
  subst ha hb
  unfold cutV
  rw [HT.sIx_nat, HT.sIx_nat, iv_len, nz_length, Nat.min_eq_left hL, Nat.min_eq_left (Nat.le_trans hab hL)]
  unfold iv nz
  rw [List.map_map, List.map_map, List.map_take, List.map_drop]
theorem iv_nat {L : List Nat} {i p : Nat} (h : L[i]? = some p) : (iv (nz L))[i]? = some (.int (p : Int)) := by
  unfold iv nz
  rw [List.map_map, List.getElem?_map, h]
  rfl
theorem in12 (p : Nat) : inV (.int (p : Int)) [.int 1, .int 2] = decide (rws p = 1) := by
  unfold rws
  by_cases h1 : p = 1
  · subst h1; rfl
  by_cases h2 : p = 2
  · subst h2; rfl
  rw [if_neg (by omega)]
  show ((1 : Int) == (p : Int) || ((2 : Int) == (p : Int) || false)) = false
  have e1 : ((1 : Int) == (p : Int)) = false := beq_eq_false_iff_ne.mpr (by omega)
  have e2 : ((2 : Int) == (p : Int)) = false := beq_eq_false_iff_ne.mpr (by omega)
  rw [e1, e2]
  rfl
theorem sig_eq {z z' : Int} {x0 x1 x2 x4 x5 x6 x7 x8 x9 : Option V} (h : z = z') : [x0, x1, x2, some (V.int z), x4, x5, x6, x7, x8, x9] = [x0, x1, x2, some (V.int z'), x4, x5, x6, x7, x8, x9] := by rw [h]
theorem iv_more (out told : List Int) (z : Int) : iv out ++ [V.int z] ++ iv told = iv (out ++ (z :: told)) := by
  unfold iv
  rw [List.map_append, List.map_cons, List.append_assoc]
  rfl
theorem calls_nil {f : Nat} {cs : List (List (List Int))} (h : PyFlat.calls PyKrdl.shape f [] = some cs) : cs = [] := by
  cases f <;> exact (Option.some.inj h).symm
theorem ok_answers {f : Addr} {fd : FuncData} (F : Fun K "answers" "answers" sAnswers f fd) (T : Tx K mg C CR) (hD : Kn P w K mg base CX0 15 "done" M4 (spDone K C)) : FnOk P w K mg base CX0 level f fd ["calls"] (spAns K) := by
  obtain ⟨fD, fdD, gD, kD, bD, GD⟩ := hD
  obtain ⟨aN, gN, tN⟩ := T.t_NUMBERS
  obtain ⟨aW, gW, tW⟩ := T.t_WITH_LIST
  refine F.ok scAnswers (fun vs H Q E h => ?_) (fun cdv A outer s H vs Q E hr h => ⟨_,
    pss_cons (ps_set (i := 1) scAnswers.nd rfl (Or.inl rfl) pe_non)
    (pss_cons (ps_set (i := 2) scAnswers.nd rfl (Or.inl rfl) (pe_lst pa_nil))
    (pss_cons (ps_set (i := 3) scAnswers.nd rfl (Or.inl rfl) pe_int)
    (pss_cons (ps_while PassesOwn.never (pt_cmpR op_lt (pv 3) (pe_callB call_len_seq (by rfl) T.b_len PySem.boot_len (pa_cons (pv 0) pa_nil)) (nomark _))
      (pss_cons (ps_set (i := 4) scAnswers.nd rfl (Or.inl rfl) (pe_ix ix_list (pv 0) (pv 3) (fun _ _ => rfl)))
      (pss_cons (ps_set (i := 5) scAnswers.nd rfl (Or.inl rfl) (pe_op op_add (pe_op op_add (pv 3) pe_int) (pe_ix ix_tup (pe_glob (v := .ref aN) rfl gN rfl) (pv 4) (fun _ _ => rfl))))
      (pss_cons (ps_par (i := 6) (j := 7) (by rfl) scAnswers.nd rfl rfl (by decide) rfl rfl (pa_cons (pe_slice sl_list (pv 0) (po_some (pe_op op_add (pv 3) pe_int)) (po_some (pv 5))) (pa_cons (pe_lst pa_nil) pa_nil)) (by rfl))
      (pss_cons (ps_if (pt_cmpR op_in_seq (pv 4) (pe_glob (v := .ref aW) rfl gW rfl) (by rfl))
        (pss_cons (ps_set (i := 8) scAnswers.nd rfl (Or.inl rfl) (pe_op op_add (pv 5) pe_int))
        (pss_cons (ps_set (i := 5) scAnswers.nd rfl (Or.inl rfl) (pe_op op_add (pv 8) (pe_ix ix_list (pv 0) (pe_op op_sub (pv 8) pe_int) (fun _ _ => rfl))))
        (pss_one (ps_set (i := 7) scAnswers.nd rfl (Or.inl rfl) (pe_slice sl_list (pv 0) (po_some (pv 8)) (po_some (pv 5))))))) pss_nil)
      (pss_cons (ps_asg (pe_call GD (hr.mono (by decide)) (by rfl) gD kD bD .nil pass0 (pa_cons (pv 1) (pa_cons (pv 4) (pa_cons (pv 6) (pa_cons (pv 7) pa_nil))))) (pg_tup (by rfl) (pgs_cons (pg_name (i := 1) scAnswers.nd rfl (Or.inl rfl)) (pgs_cons (pg_name (i := 9) scAnswers.nd rfl (Or.inl rfl)) pgs_nil))))
      (pss_cons (ps_expr (pe_bm PySem.F.plainAttrs_list PySem.F.slot_list_append PySem.F.type_list_append mt_append (pv 2) (pa_cons (pe_callB call_len_seq (by rfl) T.b_len PySem.boot_len (pa_cons (pv 9) pa_nil)) pa_nil)))
      (pss_cons (ps_expr (pe_bm PySem.F.plainAttrs_list PySem.F.slot_list_extend PySem.F.type_list_extend mt_extend (pv 2) (pa_cons (pv 9) pa_nil)))
      (pss_one (ps_set (i := 3) scAnswers.nd rfl (Or.inl rfl) (pv 5)))))))))))
    (pss_one (ps_ret (pv 2)))))), ?_⟩)
  · obtain ⟨a, L, cs, rfl, _⟩ := h
    rfl
  obtain ⟨a, L, cs0, rfl, hS, hlen, hcs, hshort, k⟩ := h
  refine ⟨(by show 0 ≤ sizeLine; decide), fun q nq => ?_⟩
  have hS' : SqL K H a (iv (nz L)) := hS
  -- the list of calls lies elsewhere than what is found
  have keepA : ∀ {H' : Hp} {o : HO}, SqL K H' a (iv (nz L)) → SqL K (upd H' q o) a (iv (nz L)) := by
    rcases hS' with (h | ⟨u, h⟩) | h
    · exact fun hh => sq_upd (ne_of_none h nq) hh
    · exact fun hh => sq_upd (ne_of_none h nq) hh
    · exact fun _ => .inr h
  refine ⟨fun m σ H' => ∃ (i : Nat) (st : Krdl.Abs) (dv : V) (out : List Int) (cs : List (List (List Int))) (g : Nat) (v4 v5 v6 v7 v8 v9 : Option V), m = L.length - i ∧ i ≤ L.length ∧
      σ = [some (.ref a), some dv, some (.ref q), some (.int (i : Int)), v4, v5, v6, v7, v8, v9] ∧ SqL K H' a (iv (nz L)) ∧ H' q = some (.lst (iv out)) ∧ StAt K C q H' dv st ∧
      PyFlat.calls PyKrdl.shape g ((nz L).drop i) = some cs ∧ due none cs0 = out ++ due st cs, ?_, ?_⟩
  · exact ⟨_, 0, none, .non, [], cs0, _, none, none, none, none, none, none, rfl, Nat.zero_le _, rfl, (same_upd nq).seq hS', upd_same, rfl, hcs, rfl⟩
  rintro m σ H' ⟨i, st, dv, out, cs, g, v4, v5, v6, v7, v8, v9, rfl, hi, rfl, hSq, hq, hst, hc, hdue⟩
  refine ⟨_, rfl, _, rfl, a, _, rfl, .inl hSq, _, _, rfl, rfl, _, rfl, ?_⟩
  have el : (iv (nz L)).length = L.length := by rw [iv_len, nz_length]
  by_cases hlt : (i : Int) < ((iv (nz L)).length : Int)
  · refine if_true_of (decide_eq_true hlt) ?_
    rw [el] at hlt
    have hiL : i < L.length := by omega
    obtain ⟨p, ll, j, c, cs', g', hp, hLi, hnum, hcase, hj, hij, rfl, hc', hstep⟩ := dec_step hiL hc
    have hcons := due_cons st c cs'
    rw [hcons, hstep st] at hdue
    have hlen2 := congrArg List.length hdue
    rw [List.length_append, List.length_append, List.length_cons] at hlen2
    refine ⟨_, fun σ' H' z => z, ?_⟩
    refine ⟨_, rfl, _, rfl, a, _, _, _, rfl, rfl, hSq, atI_nat (iv_nat hLi), ?_⟩
    refine ⟨_, rfl, _, _, rfl, rfl, _, rfl, aN, _, _, _, rfl, rfl, tN _, atI_nat (num_at hp), _, _, rfl, rfl, ?_⟩
    have ecut : cutV (iv (nz L)) (some ((i : Int) + 1)) (some ((i : Int) + 1 + ((nums p : Nat) : Int))) = iv (nz (numsAt L i p)) := by
      rw [cut_eq (a := i + 1) (b := i + 1 + nums p) (by omega) (by omega) (by omega) hnum, show i + 1 + nums p - (i + 1) = nums p by omega]
      rfl
    refine ⟨_, rfl, _, rfl, _, _, rfl, rfl, _, rfl, _, rfl, _, rfl, a, _, rfl, hSq, fun nA hnA => ?_⟩
    rw [ecut]
    refine ⟨(by show 0 ≤ sizeLine; decide), fun lA hlA => ⟨_, _, rfl, ?_⟩⟩
    have s1 := same_upd (o := .lst (iv (nz (numsAt L i p)))) hnA
    have s2 := same_upd (o := .lst ([] : List V)) hlA
    have s12 := s1.trans s2
    have hnl : (numsAt L i p).length = nums p := by
      unfold numsAt
      rw [List.length_take, List.length_drop]
      omega
    refine ⟨_, rfl, aW, _, rfl, .inr (tW _), rfl, rfl, _, rfl, ?_⟩
    have hn2 : SqL K _ nA (iv (nz (numsAt L i p))) := SqL.of (s2 _ _ upd_same)
    rcases hcase with ⟨h0, hll, hj'⟩ | ⟨h1, m, hm, hll, hj'⟩
    · refine if_false_of ?_ ?_
      · show inV (.int (p : Int)) [.int 1, .int 2] = false
        rw [in12, decide_eq_false (by omega)]
      have hz : (i : Int) + 1 + ((nums p : Nat) : Int) = (j : Int) := by omega
      have hll3 : ll.length ≤ 10500 := by rw [hll]; exact Nat.zero_le _
      have hSq3 := s12.seq hSq
      have hq3 := s12 _ _ hq
      have hst3 := hst.same s12
      refine ⟨_, rfl, _, rfl, _, rfl, _, rfl, q, dv, st, nA, lA, numsAt L i p, ll, p, rfl, by omega, ⟨_, hq3⟩, hst3, hn2, (by rw [hll]; exact SqL.of upd_same), hnl, hll3, fun H4 u t dv' ft kv hst4 hu ht => ?_⟩
      refine ⟨u, _, rfl, SqT.of hu, rfl, _, _, rfl, _, _, rfl, rfl, ?_⟩
      have hq4 := keepV_lst kv hst3 hq3
      have hSq4 := keepV_sq kv hst3 hSq3
      have htq : t ≠ q := Ne.symm (ne_of_none hq3 ft)
      refine ⟨_, rfl, .inl ⟨rfl, _, SqL.of hq4⟩, ?_⟩
      refine ⟨_, rfl, t, _, rfl, .inl (SqL.of ht), q, _, _, rfl, rfl, hq4, ?_, ?_⟩
      · rw [iv_len, sizeLine_eq]
        omega
      refine ⟨_, rfl, .inl ⟨rfl, _, SqL.of upd_same⟩, _, rfl, q, t, _, _, rfl, rfl, upd_same, (upd_ne htq).trans ht, ?_, ?_⟩
      · rw [List.length_append, iv_len, iv_len, sizeLine_eq]
        show out.length + 1 + _ ≤ _
        omega
      refine ⟨_, rfl, L.length - j, by omega, j, _, dv', _, cs', g', _, _, _, _, _, _, rfl, hj, sig_eq hz, keepA (keepA hSq4), ?_, stAt_upd upd_same (stAt_upd hq4 hst4), hc', hdue.trans (List.append_assoc _ _ _).symm⟩
      rw [upd_same, iv_len]
      exact congrArg (fun l => some (HO.lst l)) (iv_more _ _ _)
    · refine if_true_of ?_ ?_
      · show inV (.int (p : Int)) [.int 1, .int 2] = true
        rw [in12, decide_eq_true h1]
      refine ⟨_, rfl, _, _, rfl, rfl, ?_⟩
      have hz8 : (i : Int) + 1 + ((nums p : Nat) : Int) + 1 = ((i + 2 + nums p : Nat) : Int) := by omega
      refine ⟨_, rfl, _, rfl, _, rfl, _, _, rfl, rfl, a, _, _, _, rfl, rfl, s12.seq hSq, at_of (j := i + 1 + nums p) ?_ (iv_nat hm), _, _, rfl, rfl, ?_⟩
      · show (i : Int) + 1 + ((nums p : Nat) : Int) + 1 - 1 = _
        omega
      have ecut2 : cutV (iv (nz L)) (some ((i : Int) + 1 + ((nums p : Nat) : Int) + 1)) (some ((i : Int) + 1 + ((nums p : Nat) : Int) + 1 + (m : Int))) = iv (nz ll) := by
        rw [cut_eq (a := i + 2 + nums p) (b := i + 2 + nums p + m) (by omega) (by omega) (by omega) (by omega), show i + 2 + nums p + m - (i + 2 + nums p) = m by omega, ← hll]
      refine ⟨_, rfl, _, rfl, _, rfl, _, rfl, _, rfl, a, _, rfl, s12.seq hSq, fun lB hlB => ?_⟩
      rw [ecut2]
      have hz : (i : Int) + 1 + ((nums p : Nat) : Int) + 1 + (m : Int) = (j : Int) := by omega
      have s3 := same_upd (o := .lst (iv (nz ll))) hlB
      have s13 := s12.trans s3
      have hll3 : ll.length ≤ 10500 := by
        rw [hll, List.length_take, List.length_drop]
        omega
      have hSq3 := s13.seq hSq
      have hq3 := s13 _ _ hq
      have hst3 := hst.same s13
      refine ⟨_, rfl, _, rfl, _, rfl, _, rfl, q, dv, st, nA, lB, numsAt L i p, ll, p, rfl, by omega, ⟨_, hq3⟩, hst3, s3.seq hn2, SqL.of upd_same, hnl, hll3, fun H4 u t dv' ft kv hst4 hu ht => ?_⟩
      refine ⟨u, _, rfl, SqT.of hu, rfl, _, _, rfl, _, _, rfl, rfl, ?_⟩
      have hq4 := keepV_lst kv hst3 hq3
      have hSq4 := keepV_sq kv hst3 hSq3
      have htq : t ≠ q := Ne.symm (ne_of_none hq3 ft)
      refine ⟨_, rfl, .inl ⟨rfl, _, SqL.of hq4⟩, ?_⟩
      refine ⟨_, rfl, t, _, rfl, .inl (SqL.of ht), q, _, _, rfl, rfl, hq4, ?_, ?_⟩
      · rw [iv_len, sizeLine_eq]
        omega
      refine ⟨_, rfl, .inl ⟨rfl, _, SqL.of upd_same⟩, _, rfl, q, t, _, _, rfl, rfl, upd_same, (upd_ne htq).trans ht, ?_, ?_⟩
      · rw [List.length_append, iv_len, iv_len, sizeLine_eq]
        show out.length + 1 + _ ≤ _
        omega
      refine ⟨_, rfl, L.length - j, by omega, j, _, dv', _, cs', g', _, _, _, _, _, _, rfl, hj, sig_eq hz, keepA (keepA hSq4), ?_, stAt_upd upd_same (stAt_upd hq4 hst4), hc', hdue.trans (List.append_assoc _ _ _).symm⟩
      rw [upd_same, iv_len]
      exact congrArg (fun l => some (HO.lst l)) (iv_more _ _ _)
  · refine if_false_of (decide_eq_false hlt) ?_
    rw [el] at hlt
    have hiL : i = L.length := by omega
    subst hiL
    rw [nz_drop, List.drop_length] at hc
    have e := calls_nil hc
    subst e
    rw [due_nil, List.append_nil] at hdue
    refine ⟨_, rfl, k H' q ?_⟩
    rw [hdue]
    exact hq
end
end Wk
/-! ## Wk18 -/
namespace Wk
open PySem PySem.Spec PyProof.Rows L2 Mh
section
variable {P : Program} {w : World} {K : PySem.W.Frag} {mg : Str → Option Value} {base : Heap} {C CR : Addr}
theorem kn_all (T : Tx K mg C CR) : Kn P w K mg base CX0 15 "done" M4 (spDone K C) := by
  have divisor := kn_divisor (P := P) (w := w) (base := base) T.d_divisor
  have share := kn_share T.d_share divisor T.b_abs
  have added := kn_added T.d_added share
  have less := kn_less T.d_less share
  have mul := kn_multiplied T.d_multiplied share
  have often := kn_often T.d_often mul T.t_WHOLE T.b_range
  have alladd := kn_all_added T.d_all_added added T.t_NONE
  have mean := kn_mean_of T.d_mean_of alladd mul T.b_len
  have below := kn_is_below (P := P) (w := w) (base := base) T.d_is_below
  have isset := kn_is_set (P := P) (w := w) (base := base) T.d_is_set
  have many := kn_many_set T.d_many_set isset T.c_MOST_BITS T.b_range T.b_len
  have allw := kn_all_words (P := P) (w := w) (base := base) T.d_all_words T.b_range T.b_list
  have yesto := kn_yes_to T.d_yes_to allw T.b_int
  have yesfrom := kn_yes_from T.d_yes_from allw isset T.b_int T.b_sum T.b_enumerate
  have yesodd := kn_yes_by_odd T.d_yes_by_odd allw many
  have yesbit := kn_yes_by_bit T.d_yes_by_bit allw isset T.b_int
  have otherway := kn_other_way (P := P) (w := w) (base := base) T.d_other_way
  have turned := kn_with_bit_turned (P := P) (w := w) (base := base) T.d_with_bit_turned T.b_range T.b_len
  have withone := kn_with_one (P := P) (w := w) (base := base) T.d_with_one T.b_enumerate
  have wordsof := kn_words_of (P := P) (w := w) (base := base) T.d_words_of T.b_enumerate
  have part := kn_part T.d_part many share T.b_enumerate T.b_sum T.b_len
  have levels := kn_levels T.d_levels T.t_NONE allw part many added mul
  have heard := kn_heard_as T.d_heard_as many mul often less T.t_WHOLE
  have meant := kn_yes_to_meant T.d_yes_to_meant alladd heard T.b_enumerate
  have right := kn_right_to_meant T.d_right_to_meant meant less T.t_WHOLE
  have allright := kn_all_right T.d_all_right right T.b_range T.b_len
  have stays := (kn_stays T.d_stays mean allright).alias T.a_stays
  have both := kn_both_same T.d_both_same less added mul T.t_WHOLE
  have agree := (kn_agree T.d_agree mean both meant T.b_range T.b_len).alias T.a_agree
  have worst := (kn_worst T.d_worst allright below T.b_enumerate).alias T.a_worst
  have want := kn_want (P := P) (w := w) (base := base) T.d_want T
  have chance := kn_chance_told T.d_chance_told want share T.c_MOST_BELOW T.c_NOT_RIGHT
  have nought := kn_with_nought (P := P) (w := w) (base := base) T.d_with_nought
  have init := kn_dinit T want yesto
  have ww := kn_want_words T want
  have wb := kn_want_bit T want
  have bec := kn_become (P := P) (w := w) (base := base) T
  have m1 := kn_told T want ww bec yesto
  have m2 := kn_least T want bec yesfrom
  have m3 := kn_m_odd T ww bec yesodd
  have m4 := kn_m_bit T wb bec yesbit
  have m5 := kn_m_turn_all T bec otherway
  have m6 := kn_m_turn T wb bec turned
  have m7 := kn_m_put T want ww bec withone
  have m8 := kn_m_ask T ww
  have m9 := kn_m_mean T nought share
  have m10 := kn_m_all_levels T levels
  have m11 := kn_m_state T wordsof
  have m12 := kn_m_chance T chance
  have m13 := kn_m_heard T ww nought heard
  have m14 := kn_m_soft T ww nought meant
  have m15 := kn_m_stays T nought stays
  have m16 := kn_m_agree T nought agree
  have m17 := kn_m_worst T worst
  have m18 := kn_m_even (P := P) (w := w) (base := base) T
  have m19 := kn_m_onebit T nought less
  have m20 := kn_m_ifchance T nought chance stays
  have m21 := kn_m_keep (P := P) (w := w) (base := base) T
  have m22 := kn_m_likelier T want less below stays
  have ofA := kn_of_answers T m1 m2 m3 m4 m5 m6 m7
  have ofL := kn_of_looks T m8 m9 m10 m11 m12 m13
  have ofK := kn_of_kept T m19 m20 m21 m22
  have ofH := kn_of_hearing T m14 m15 m16 m17 m18 ofK
  exact kn_done T init (kn_of_call T ofA ofL ofH)
end
theorem all_mk {P : Program} {w : World} {K : PySem.W.Frag} {mg : Str → Option Value} {fa C CR : Addr} (hfa : mg "answers" = some (.ref fa)) (T : Tx K mg C CR) :
    ∃ fd : FuncData, (∀ (s : Shared) (us : List Value), us.length = (["calls"] : List Str).length → BindsTo s fd ⟨us, []⟩ ((["calls"] : List Str).zip us)) ∧ ∀ base : Heap, K.In base → base.Ns mainGlobals mg → FnOk P w K mg base CX0 level fa fd ["calls"] (spAns K) := by
  obtain ⟨f, fd, h1, F, _⟩ := T.d_answers
  have e := hfa.symm.trans h1
  cases e
  refine ⟨fd, fun s us hu => ?_, fun base _ _ => ok_answers F T (kn_all T)⟩
  obtain ⟨oc, od, kV, doc, pm, an, cdv, ct, osl, rfl, _⟩ := F.ex
  match us, hu with
  | [_], _ => exact .of_eq rfl
end Wk
open PySem PySem.W PyProof.Rows
set_option maxRecDepth 100000 in
set_option maxHeartbeats 0 in
theorem PySem.Challenge.cw_misheardbits_s01_answers_holds : PySem.Challenge.rw_misheardbits_s01_answers.Holds := by
  w_on; k_headS; (case hw => exact ⟨[.list [.int 5]], by decide +kernel, by decide +kernel⟩)
  k_fillS
  refine L2.walk_specK (r := PySem.Challenge.rw_misheardbits_s01_answers) (k := Wk.level) (CX := L2.CX0) (ps := ["calls"]) (sp := Wk.spAns) (by decide +kernel) rfl rfl ⟨rfl, by decide, by decide⟩ (fun w h Y => PySem.W.kIn_of Y) ?F ?S (fun _ _ _ _ z => z)
  case F =>
    intro w mg fa h Y KX G hmg
    refine' Wk.all_mk (C := ?C) (CR := ?CR) hmg (Wk.Tx.mk ?d_divisor ?d_share ?d_added ?d_less ?d_multiplied ?d_often ?d_all_added ?d_mean_of ?d_is_below ?d_is_set ?d_many_set ?d_all_words ?d_yes_to ?d_yes_from ?d_yes_by_odd ?d_yes_by_bit ?d_other_way ?d_with_bit_turned ?d_with_one ?d_words_of ?d_part ?d_levels ?d_heard_as ?d_yes_to_meant ?d_right_to_meant ?d_all_right ?d_stays ?d_both_same ?d_agree ?d_worst ?d_want ?d_chance_told ?d_with_nought ?d_of_answers ?d_of_looks ?d_of_hearing ?d_of_kept ?d_of_call ?d_done ?d_answers ?x_init ?m___init__ ?m_want_words ?m_want_bit ?m_become ?m_told ?m_least ?m_odd ?m_bit ?m_turn_all ?m_turn ?m_put ?m_ask ?m_mean ?m_all_levels ?m_state ?m_chance ?m_heard ?m_soft ?m_stays ?m_agree ?m_worst ?m_even ?m_onebit ?m_ifchance ?m_keep ?m_likelier ?gC ?cl ?mks ?kc ?n_n ?n_says ?n_e ?n_kept ?gR ?ox ?xf ?nN ?te ?mVE ?vV ?t_NONE ?t_WHOLE ?t_FIRST_CHANCE ?t_NUMBERS ?t_WITH_LIST ?c_MOST_BITS ?c_NO_BIT ?c_NONE_KEPT ?c_NOT_RIGHT ?c_MOST_TOLD ?c_MOST_NUMBER ?c_MOST_BELOW ?c_BEGIN ?c_NOT_BEGUN ?b_abs ?b_range ?b_len ?b_list ?b_int ?b_sum ?b_enumerate ?b_all ?a_stays ?a_agree ?a_worst)
    (case gC => (refine' PySem.W.mg_of KX G ?a); (case a => k_is))
    (case gR => (refine' PySem.W.mg_of KX G ?a); (case a => k_is))
    (case d_divisor => (refine' Wk.at_mk KX G ?a ?l ?c ?k (fun _ _ _ _ _ _ us hl => match us, hl with | [_, _], _ => rfl)); (case a => k_is); (case l => k_is); (case c => k_is); (case k => k_is))
    (case d_share => (refine' Wk.at_mk KX G ?a ?l ?c ?k (fun _ _ _ _ _ _ us hl => match us, hl with | [_, _], _ => rfl)); (case a => k_is); (case l => k_is); (case c => k_is); (case k => k_is))
    (case d_added => (refine' Wk.at_mk KX G ?a ?l ?c ?k (fun _ _ _ _ _ _ us hl => match us, hl with | [_, _], _ => rfl)); (case a => k_is); (case l => k_is); (case c => k_is); (case k => k_is))
    (case d_less => (refine' Wk.at_mk KX G ?a ?l ?c ?k (fun _ _ _ _ _ _ us hl => match us, hl with | [_, _], _ => rfl)); (case a => k_is); (case l => k_is); (case c => k_is); (case k => k_is))
    (case d_multiplied => (refine' Wk.at_mk KX G ?a ?l ?c ?k (fun _ _ _ _ _ _ us hl => match us, hl with | [_, _], _ => rfl)); (case a => k_is); (case l => k_is); (case c => k_is); (case k => k_is))
    (case d_often => (refine' Wk.at_mk KX G ?a ?l ?c ?k (fun _ _ _ _ _ _ us hl => match us, hl with | [_, _], _ => rfl)); (case a => k_is); (case l => k_is); (case c => k_is); (case k => k_is))
    (case d_all_added => (refine' Wk.at_mk KX G ?a ?l ?c ?k (fun _ _ _ _ _ _ us hl => match us, hl with | [_], _ => rfl)); (case a => k_is); (case l => k_is); (case c => k_is); (case k => k_is))
    (case d_mean_of => (refine' Wk.at_mk KX G ?a ?l ?c ?k (fun _ _ _ _ _ _ us hl => match us, hl with | [_], _ => rfl)); (case a => k_is); (case l => k_is); (case c => k_is); (case k => k_is))
    (case d_is_below => (refine' Wk.at_mk KX G ?a ?l ?c ?k (fun _ _ _ _ _ _ us hl => match us, hl with | [_, _], _ => rfl)); (case a => k_is); (case l => k_is); (case c => k_is); (case k => k_is))
    (case d_is_set => (refine' Wk.at_mk KX G ?a ?l ?c ?k (fun _ _ _ _ _ _ us hl => match us, hl with | [_, _], _ => rfl)); (case a => k_is); (case l => k_is); (case c => k_is); (case k => k_is))
    (case d_many_set => (refine' Wk.at_mk KX G ?a ?l ?c ?k (fun _ _ _ _ _ _ us hl => match us, hl with | [_], _ => rfl)); (case a => k_is); (case l => k_is); (case c => k_is); (case k => k_is))
    (case d_all_words => (refine' Wk.at_mk KX G ?a ?l ?c ?k (fun _ _ _ _ _ _ us hl => match us, hl with | [_], _ => rfl)); (case a => k_is); (case l => k_is); (case c => k_is); (case k => k_is))
    (case d_yes_to => (refine' Wk.at_mk KX G ?a ?l ?c ?k (fun _ _ _ _ _ _ us hl => match us, hl with | [_, _], _ => rfl)); (case a => k_is); (case l => k_is); (case c => k_is); (case k => k_is))
    (case d_yes_from => (refine' Wk.at_mk KX G ?a ?l ?c ?k (fun _ _ _ _ _ _ us hl => match us, hl with | [_, _, _], _ => rfl)); (case a => k_is); (case l => k_is); (case c => k_is); (case k => k_is))
    (case d_yes_by_odd => (refine' Wk.at_mk KX G ?a ?l ?c ?k (fun _ _ _ _ _ _ us hl => match us, hl with | [_, _], _ => rfl)); (case a => k_is); (case l => k_is); (case c => k_is); (case k => k_is))
    (case d_yes_by_bit => (refine' Wk.at_mk KX G ?a ?l ?c ?k (fun _ _ _ _ _ _ us hl => match us, hl with | [_, _], _ => rfl)); (case a => k_is); (case l => k_is); (case c => k_is); (case k => k_is))
    (case d_other_way => (refine' Wk.at_mk KX G ?a ?l ?c ?k (fun _ _ _ _ _ _ us hl => match us, hl with | [_], _ => rfl)); (case a => k_is); (case l => k_is); (case c => k_is); (case k => k_is))
    (case d_with_bit_turned => (refine' Wk.at_mk KX G ?a ?l ?c ?k (fun _ _ _ _ _ _ us hl => match us, hl with | [_, _], _ => rfl)); (case a => k_is); (case l => k_is); (case c => k_is); (case k => k_is))
    (case d_with_one => (refine' Wk.at_mk KX G ?a ?l ?c ?k (fun _ _ _ _ _ _ us hl => match us, hl with | [_, _, _], _ => rfl)); (case a => k_is); (case l => k_is); (case c => k_is); (case k => k_is))
    (case d_words_of => (refine' Wk.at_mk KX G ?a ?l ?c ?k (fun _ _ _ _ _ _ us hl => match us, hl with | [_], _ => rfl)); (case a => k_is); (case l => k_is); (case c => k_is); (case k => k_is))
    (case d_part => (refine' Wk.at_mk KX G ?a ?l ?c ?k (fun _ _ _ _ _ _ us hl => match us, hl with | [_, _], _ => rfl)); (case a => k_is); (case l => k_is); (case c => k_is); (case k => k_is))
    (case d_levels => (refine' Wk.at_mk KX G ?a ?l ?c ?k (fun _ _ _ _ _ _ us hl => match us, hl with | [_, _], _ => rfl)); (case a => k_is); (case l => k_is); (case c => k_is); (case k => k_is))
    (case d_heard_as => (refine' Wk.at_mk KX G ?a ?l ?c ?k (fun _ _ _ _ _ _ us hl => match us, hl with | [_, _, _, _], _ => rfl)); (case a => k_is); (case l => k_is); (case c => k_is); (case k => k_is))
    (case d_yes_to_meant => (refine' Wk.at_mk KX G ?a ?l ?c ?k (fun _ _ _ _ _ _ us hl => match us, hl with | [_, _, _, _], _ => rfl)); (case a => k_is); (case l => k_is); (case c => k_is); (case k => k_is))
    (case d_right_to_meant => (refine' Wk.at_mk KX G ?a ?l ?c ?k (fun _ _ _ _ _ _ us hl => match us, hl with | [_, _, _, _], _ => rfl)); (case a => k_is); (case l => k_is); (case c => k_is); (case k => k_is))
    (case d_all_right => (refine' Wk.at_mk KX G ?a ?l ?c ?k (fun _ _ _ _ _ _ us hl => match us, hl with | [_, _, _], _ => rfl)); (case a => k_is); (case l => k_is); (case c => k_is); (case k => k_is))
    (case d_stays => (refine' Wk.at_mk KX G ?a ?l ?c ?k (fun _ _ _ _ _ _ us hl => match us, hl with | [_, _, _], _ => rfl)); (case a => k_is); (case l => k_is); (case c => k_is); (case k => k_is))
    (case d_both_same => (refine' Wk.at_mk KX G ?a ?l ?c ?k (fun _ _ _ _ _ _ us hl => match us, hl with | [_], _ => rfl)); (case a => k_is); (case l => k_is); (case c => k_is); (case k => k_is))
    (case d_agree => (refine' Wk.at_mk KX G ?a ?l ?c ?k (fun _ _ _ _ _ _ us hl => match us, hl with | [_, _, _], _ => rfl)); (case a => k_is); (case l => k_is); (case c => k_is); (case k => k_is))
    (case d_worst => (refine' Wk.at_mk KX G ?a ?l ?c ?k (fun _ _ _ _ _ _ us hl => match us, hl with | [_, _, _], _ => rfl)); (case a => k_is); (case l => k_is); (case c => k_is); (case k => k_is))
    (case d_want => (refine' Wk.at_mk KX G ?a ?l ?c ?k (fun _ _ _ _ _ _ us hl => match us, hl with | [_, _], _ => rfl)); (case a => k_is); (case l => k_is); (case c => k_is); (case k => k_is))
    (case d_chance_told => (refine' Wk.at_mk KX G ?a ?l ?c ?k (fun _ _ _ _ _ _ us hl => match us, hl with | [_, _], _ => rfl)); (case a => k_is); (case l => k_is); (case c => k_is); (case k => k_is))
    (case d_with_nought => (refine' Wk.at_mk KX G ?a ?l ?c ?k (fun _ _ _ _ _ _ us hl => match us, hl with | [_], _ => rfl)); (case a => k_is); (case l => k_is); (case c => k_is); (case k => k_is))
    (case d_of_answers => (refine' Wk.at_mk KX G ?a ?l ?c ?k (fun _ _ _ _ _ _ us hl => match us, hl with | [_, _, _, _], _ => rfl)); (case a => k_is); (case l => k_is); (case c => k_is); (case k => k_is))
    (case d_of_looks => (refine' Wk.at_mk KX G ?a ?l ?c ?k (fun _ _ _ _ _ _ us hl => match us, hl with | [_, _, _, _], _ => rfl)); (case a => k_is); (case l => k_is); (case c => k_is); (case k => k_is))
    (case d_of_hearing => (refine' Wk.at_mk KX G ?a ?l ?c ?k (fun _ _ _ _ _ _ us hl => match us, hl with | [_, _, _, _], _ => rfl)); (case a => k_is); (case l => k_is); (case c => k_is); (case k => k_is))
    (case d_of_kept => (refine' Wk.at_mk KX G ?a ?l ?c ?k (fun _ _ _ _ _ _ us hl => match us, hl with | [_, _, _, _], _ => rfl)); (case a => k_is); (case l => k_is); (case c => k_is); (case k => k_is))
    (case d_of_call => (refine' Wk.at_mk KX G ?a ?l ?c ?k (fun _ _ _ _ _ _ us hl => match us, hl with | [_, _, _, _], _ => rfl)); (case a => k_is); (case l => k_is); (case c => k_is); (case k => k_is))
    (case d_done => (refine' Wk.at_mk KX G ?a ?l ?c ?k (fun _ _ _ _ _ _ us hl => match us, hl with | [_, _, _, _], _ => rfl)); (case a => k_is); (case l => k_is); (case c => k_is); (case k => k_is))
    (case d_answers => (refine' Wk.at_mk KX G ?a ?l ?c ?k (fun _ _ _ _ _ _ us hl => match us, hl with | [_], _ => rfl)); (case a => k_is); (case l => k_is); (case c => k_is); (case k => k_is))
    (case x_init => (refine' Wk.atX_mk ?a ?i ?l ?c ?k (fun _ _ _ _ _ _ us hl => match us, hl with | [_, _], _ => rfl)); (case a => k_is); (case i => k_is); (case l => k_is); (case c => k_is); (case k => k_is))
    (case m___init__ => (refine' Wk.atM_mk ?a ?i ?l ?c ?k (fun _ _ _ _ _ _ us hl => match us, hl with | [_, _], _ => rfl)); (case a => k_is); (case i => k_is); (case l => k_is); (case c => k_is); (case k => k_is))
    (case m_want_words => (refine' Wk.atM_mk ?a ?i ?l ?c ?k (fun _ _ _ _ _ _ us hl => match us, hl with | [_, _], _ => rfl)); (case a => k_is); (case i => k_is); (case l => k_is); (case c => k_is); (case k => k_is))
    (case m_want_bit => (refine' Wk.atM_mk ?a ?i ?l ?c ?k (fun _ _ _ _ _ _ us hl => match us, hl with | [_, _], _ => rfl)); (case a => k_is); (case i => k_is); (case l => k_is); (case c => k_is); (case k => k_is))
    (case m_become => (refine' Wk.atM_mk ?a ?i ?l ?c ?k (fun _ _ _ _ _ _ us hl => match us, hl with | [_, _], _ => rfl)); (case a => k_is); (case i => k_is); (case l => k_is); (case c => k_is); (case k => k_is))
    (case m_told => (refine' Wk.atM_mk ?a ?i ?l ?c ?k (fun _ _ _ _ _ _ us hl => match us, hl with | [_, _, _], _ => rfl)); (case a => k_is); (case i => k_is); (case l => k_is); (case c => k_is); (case k => k_is))
    (case m_least => (refine' Wk.atM_mk ?a ?i ?l ?c ?k (fun _ _ _ _ _ _ us hl => match us, hl with | [_, _, _], _ => rfl)); (case a => k_is); (case i => k_is); (case l => k_is); (case c => k_is); (case k => k_is))
    (case m_odd => (refine' Wk.atM_mk ?a ?i ?l ?c ?k (fun _ _ _ _ _ _ us hl => match us, hl with | [_, _, _], _ => rfl)); (case a => k_is); (case i => k_is); (case l => k_is); (case c => k_is); (case k => k_is))
    (case m_bit => (refine' Wk.atM_mk ?a ?i ?l ?c ?k (fun _ _ _ _ _ _ us hl => match us, hl with | [_, _, _], _ => rfl)); (case a => k_is); (case i => k_is); (case l => k_is); (case c => k_is); (case k => k_is))
    (case m_turn_all => (refine' Wk.atM_mk ?a ?i ?l ?c ?k (fun _ _ _ _ _ _ us hl => match us, hl with | [_, _, _], _ => rfl)); (case a => k_is); (case i => k_is); (case l => k_is); (case c => k_is); (case k => k_is))
    (case m_turn => (refine' Wk.atM_mk ?a ?i ?l ?c ?k (fun _ _ _ _ _ _ us hl => match us, hl with | [_, _, _], _ => rfl)); (case a => k_is); (case i => k_is); (case l => k_is); (case c => k_is); (case k => k_is))
    (case m_put => (refine' Wk.atM_mk ?a ?i ?l ?c ?k (fun _ _ _ _ _ _ us hl => match us, hl with | [_, _, _], _ => rfl)); (case a => k_is); (case i => k_is); (case l => k_is); (case c => k_is); (case k => k_is))
    (case m_ask => (refine' Wk.atM_mk ?a ?i ?l ?c ?k (fun _ _ _ _ _ _ us hl => match us, hl with | [_, _, _], _ => rfl)); (case a => k_is); (case i => k_is); (case l => k_is); (case c => k_is); (case k => k_is))
    (case m_mean => (refine' Wk.atM_mk ?a ?i ?l ?c ?k (fun _ _ _ _ _ _ us hl => match us, hl with | [_, _, _], _ => rfl)); (case a => k_is); (case i => k_is); (case l => k_is); (case c => k_is); (case k => k_is))
    (case m_all_levels => (refine' Wk.atM_mk ?a ?i ?l ?c ?k (fun _ _ _ _ _ _ us hl => match us, hl with | [_, _, _], _ => rfl)); (case a => k_is); (case i => k_is); (case l => k_is); (case c => k_is); (case k => k_is))
    (case m_state => (refine' Wk.atM_mk ?a ?i ?l ?c ?k (fun _ _ _ _ _ _ us hl => match us, hl with | [_, _, _], _ => rfl)); (case a => k_is); (case i => k_is); (case l => k_is); (case c => k_is); (case k => k_is))
    (case m_chance => (refine' Wk.atM_mk ?a ?i ?l ?c ?k (fun _ _ _ _ _ _ us hl => match us, hl with | [_, _, _], _ => rfl)); (case a => k_is); (case i => k_is); (case l => k_is); (case c => k_is); (case k => k_is))
    (case m_heard => (refine' Wk.atM_mk ?a ?i ?l ?c ?k (fun _ _ _ _ _ _ us hl => match us, hl with | [_, _, _], _ => rfl)); (case a => k_is); (case i => k_is); (case l => k_is); (case c => k_is); (case k => k_is))
    (case m_soft => (refine' Wk.atM_mk ?a ?i ?l ?c ?k (fun _ _ _ _ _ _ us hl => match us, hl with | [_, _, _], _ => rfl)); (case a => k_is); (case i => k_is); (case l => k_is); (case c => k_is); (case k => k_is))
    (case m_stays => (refine' Wk.atM_mk ?a ?i ?l ?c ?k (fun _ _ _ _ _ _ us hl => match us, hl with | [_, _, _], _ => rfl)); (case a => k_is); (case i => k_is); (case l => k_is); (case c => k_is); (case k => k_is))
    (case m_agree => (refine' Wk.atM_mk ?a ?i ?l ?c ?k (fun _ _ _ _ _ _ us hl => match us, hl with | [_, _, _], _ => rfl)); (case a => k_is); (case i => k_is); (case l => k_is); (case c => k_is); (case k => k_is))
    (case m_worst => (refine' Wk.atM_mk ?a ?i ?l ?c ?k (fun _ _ _ _ _ _ us hl => match us, hl with | [_, _, _], _ => rfl)); (case a => k_is); (case i => k_is); (case l => k_is); (case c => k_is); (case k => k_is))
    (case m_even => (refine' Wk.atM_mk ?a ?i ?l ?c ?k (fun _ _ _ _ _ _ us hl => match us, hl with | [_, _, _], _ => rfl)); (case a => k_is); (case i => k_is); (case l => k_is); (case c => k_is); (case k => k_is))
    (case m_onebit => (refine' Wk.atM_mk ?a ?i ?l ?c ?k (fun _ _ _ _ _ _ us hl => match us, hl with | [_, _, _], _ => rfl)); (case a => k_is); (case i => k_is); (case l => k_is); (case c => k_is); (case k => k_is))
    (case m_ifchance => (refine' Wk.atM_mk ?a ?i ?l ?c ?k (fun _ _ _ _ _ _ us hl => match us, hl with | [_, _, _], _ => rfl)); (case a => k_is); (case i => k_is); (case l => k_is); (case c => k_is); (case k => k_is))
    (case m_keep => (refine' Wk.atM_mk ?a ?i ?l ?c ?k (fun _ _ _ _ _ _ us hl => match us, hl with | [_, _, _], _ => rfl)); (case a => k_is); (case i => k_is); (case l => k_is); (case c => k_is); (case k => k_is))
    (case m_likelier => (refine' Wk.atM_mk ?a ?i ?l ?c ?k (fun _ _ _ _ _ _ us hl => match us, hl with | [_, _, _], _ => rfl)); (case a => k_is); (case i => k_is); (case l => k_is); (case c => k_is); (case k => k_is))
    (case cl => (refine' L2.Cls.mk ?a ?b ?c ?d); (case a => k_is); (case b => k_is); (case c => k_is); (case d => k_is))
    (case mks => k_is)
    (case kc => k_is)
    (case n_n => (show PySem.W.findIn _ _ _ = _); k_is)
    (case n_says => (show PySem.W.findIn _ _ _ = _); k_is)
    (case n_e => (show PySem.W.findIn _ _ _ = _); k_is)
    (case n_kept => (show PySem.W.findIn _ _ _ = _); k_is)
    (case ox => (refine' Wk.ox_mk ?a ?b ?c ?d ?e); (case a => k_is); (case b => k_is); (case c => k_is); (case d => k_is); (case e => k_is))
    (case xf => (refine' L2.XfC.mk ?a ?b ?c ?d); (case a => k_is); (case b => k_is); (case c => k_is); (case d => k_is))
    (case nN => k_is)
    (case te => (refine' Wk.exm_self ?a ?b ?c ?d); (case a => k_is); (case b => k_is); (case c => k_is); (case d => first | rfl | k_is))
    (case mVE => (refine' PySem.W.mg_none_of KX G ?a); (case a => k_is))
    (case vV => k_is)
    (case t_NONE => (refine' Wk.tp_mk KX G ?a ?l ?z ?v); (case a => k_is); (case l => k_is); (case z => decide); (case v => exact .cons ⟨_, rfl⟩ (.cons ⟨_, rfl⟩ (.nil))))
    (case t_WHOLE => (refine' Wk.tp_mk KX G ?a ?l ?z ?v); (case a => k_is); (case l => k_is); (case z => decide); (case v => exact .cons ⟨_, rfl⟩ (.cons ⟨_, rfl⟩ (.nil))))
    (case t_FIRST_CHANCE => (refine' Wk.tp_mk KX G ?a ?l ?z ?v); (case a => k_is); (case l => k_is); (case z => decide); (case v => exact .cons ⟨_, rfl⟩ (.cons ⟨_, rfl⟩ (.nil))))
    (case t_NUMBERS => (refine' Wk.tp_mk KX G ?a ?l ?z ?v); (case a => k_is); (case l => k_is); (case z => decide); (case v => exact .cons ⟨_, rfl⟩ (.cons ⟨_, rfl⟩ (.cons ⟨_, rfl⟩ (.cons ⟨_, rfl⟩ (.cons ⟨_, rfl⟩ (.cons ⟨_, rfl⟩ (.cons ⟨_, rfl⟩ (.cons ⟨_, rfl⟩ (.cons ⟨_, rfl⟩ (.cons ⟨_, rfl⟩ (.cons ⟨_, rfl⟩ (.cons ⟨_, rfl⟩ (.cons ⟨_, rfl⟩ (.cons ⟨_, rfl⟩ (.cons ⟨_, rfl⟩ (.cons ⟨_, rfl⟩ (.cons ⟨_, rfl⟩ (.cons ⟨_, rfl⟩ (.cons ⟨_, rfl⟩ (.cons ⟨_, rfl⟩ (.cons ⟨_, rfl⟩ (.cons ⟨_, rfl⟩ (.cons ⟨_, rfl⟩ (.nil)))))))))))))))))))))))))
    (case t_WITH_LIST => (refine' Wk.tp_mk KX G ?a ?l ?z ?v); (case a => k_is); (case l => k_is); (case z => decide); (case v => exact .cons ⟨_, rfl⟩ (.cons ⟨_, rfl⟩ (.nil))))
    (case c_MOST_BITS => (refine' Wk.nm_mk KX G ?a ?v); (case a => k_is); (case v => exact ⟨_, rfl⟩))
    (case c_NO_BIT => (refine' Wk.nm_mk KX G ?a ?v); (case a => k_is); (case v => exact ⟨_, rfl⟩))
    (case c_NONE_KEPT => (refine' Wk.nm_mk KX G ?a ?v); (case a => k_is); (case v => exact ⟨_, rfl⟩))
    (case c_NOT_RIGHT => (refine' Wk.nm_mk KX G ?a ?v); (case a => k_is); (case v => exact ⟨_, rfl⟩))
    (case c_MOST_TOLD => (refine' Wk.nm_mk KX G ?a ?v); (case a => k_is); (case v => exact ⟨_, rfl⟩))
    (case c_MOST_NUMBER => (refine' Wk.nm_mk KX G ?a ?v); (case a => k_is); (case v => exact ⟨_, rfl⟩))
    (case c_MOST_BELOW => (refine' Wk.nm_mk KX G ?a ?v); (case a => k_is); (case v => exact ⟨_, rfl⟩))
    (case c_BEGIN => (refine' Wk.nm_mk KX G ?a ?v); (case a => k_is); (case v => exact ⟨_, rfl⟩))
    (case c_NOT_BEGUN => (refine' Wk.nm_mk KX G ?a ?v); (case a => k_is); (case v => exact ⟨_, rfl⟩))
    (case b_abs => (refine' PySem.W.mg_none_of KX G ?a); (case a => k_is))
    (case b_range => (refine' PySem.W.mg_none_of KX G ?a); (case a => k_is))
    (case b_len => (refine' PySem.W.mg_none_of KX G ?a); (case a => k_is))
    (case b_list => (refine' PySem.W.mg_none_of KX G ?a); (case a => k_is))
    (case b_int => (refine' PySem.W.mg_none_of KX G ?a); (case a => k_is))
    (case b_sum => (refine' PySem.W.mg_none_of KX G ?a); (case a => k_is))
    (case b_enumerate => (refine' PySem.W.mg_none_of KX G ?a); (case a => k_is))
    (case b_all => (refine' PySem.W.mg_none_of KX G ?a); (case a => k_is))
    (case a_stays => (refine' Eq.trans (PySem.W.mg_of KX G ?a) (PySem.W.mg_of KX G ?b).symm); (case b => k_is); (case a => k_is))
    (case a_agree => (refine' Eq.trans (PySem.W.mg_of KX G ?a) (PySem.W.mg_of KX G ?b).symm); (case b => k_is); (case a => k_is))
    (case a_worst => (refine' Eq.trans (PySem.W.mg_of KX G ?a) (PySem.W.mg_of KX G ?b).symm); (case b => k_is); (case a => k_is))
  case S =>
    intro K H xs a hO hwi hask hx
    cases hx with
    | cons h1 h2 =>
      cases h2
      cases h1 with
      | lst hs ha =>
        have e := L2.ints_dw a.1 _ ha
        subst e
        exact Wk.req hs hwi hask fun H' p hp => .lst (L2.SqL.of hp) (L2.dw_ints _)
#print axioms PySem.Challenge.cw_misheardbits_s01_answers_holds
