import Derived.Test.YtodhnbjncmihkaaQA3
import Derived.Laws.Bits64b
import Derived.Lib.SlicesCompact
import Derived.Shelf.SlicesG.CompactI
import Derived.Sort.Grow
import Derived.Sort.OwnSortedInts
import Derived.Shelf.SlLaysN
import Derived.Test.YtodhnbjncmihkaaProg
import Derived.KernelRfl
import Derived.WalkKit
import Derived.ProofKit
import Derived.OpenShut
import Derived.ShutString
import Derived.ChangeOld
import Derived.Below
import Derived.SizedLaws
import Derived.Carry
import Derived.Test.YtodhnbjncmihkaaRows
import Derived.Shelf.SlLaysNS
import Derived.Shelf.SortG.Plain
import Derived.Shelf.SortG.SortNone

section
/- Plain: names, declarations, rows of bits. No program in sight. -/
set_option linter.unusedVariables false
namespace Go.Proofs.Ytodhnbjncmihkaa.V
open Go

/-- A letter or a digit. -/
abbrev inB (n lo hi : Int) : Bool := decide (lo ≤ n ∧ n ≤ hi)

abbrev noBits (b : Bits) : Bool := decide (b.w = 0 ∧ b.ws = [])

def isC (c : Int) : Bool := (decide (97 ≤ c) && decide (c ≤ 122)) || (decide (48 ≤ c) && decide (c ≤ 57))

def NameP (s : ByteArray) : Prop := 1 ≤ s.size ∧ s.size ≤ 12 ∧ (97 ≤ chr s 0 ∧ chr s 0 ≤ 122) ∧ ∀ k, k < s.size → isC (chr s k) = true

instance (s : ByteArray) : Decidable (NameP s) := inferInstanceAs (Decidable (_ ∧ _ ∧ _ ∧ _))

abbrev nameB (s : ByteArray) : Bool := decide (NameP s)

theorem isC_iff (c : Int) : isC c = true ↔ (97 ≤ c ∧ c ≤ 122) ∨ (48 ≤ c ∧ c ≤ 57) := by simp [isC]

theorem chr_rng (s : ByteArray) (k : Nat) : 0 ≤ chr s k ∧ chr s k ≤ 255 := by
  have := (s.data.getD k 0).toNat_lt
  unfold chr
  omega

/-- Bit j of a word. -/
def bitI (x : Int) (j : Nat) : Int := x.fdiv (2 ^ j) % 2

def BitsP (b : Bits) : Prop := (1 ≤ b.w ∧ b.w ≤ 4096) ∧ (b.ws.length : Int) = (b.w + 63) / 64 ∧ (b.w % 64 = 0 ∨ (b.ws.getD (b.ws.length - 1) 0).fdiv (2 ^ (b.w % 64).toNat) = 0)

instance (b : Bits) : Decidable (BitsP b) := inferInstanceAs (Decidable (_ ∧ _ ∧ _))

abbrev bitsB (b : Bits) : Bool := decide (BitsP b)

theorem fdiv_nat (x : Nat) (j : Nat) : (x : Int).fdiv (2 ^ j) = ((x / 2 ^ j : Nat) : Int) := by
  rw [Int.fdiv_eq_ediv_of_nonneg _ (Int.le_of_lt (Int.pow_pos (by decide)))]
  norm_cast

/-- What stands above r bits of a word is 0 just where each bit from r on is. -/
theorem high_zero (x : Nat) (hx : x < 2 ^ 64) (r : Nat) (hr : r < 64) : x / 2 ^ r = 0 ↔ ∀ j, r ≤ j → j < 64 → x / 2 ^ j % 2 = 0 := by
  constructor
  · intro h j hj _
    have h1 : x < 2 ^ r := by
      rcases Nat.lt_or_ge x (2 ^ r) with h' | h'
      · exact h'
      · have : 1 ≤ x / 2 ^ r := (Nat.le_div_iff_mul_le (Nat.two_pow_pos r)).2 (by omega)
        omega
    have h2 : x < 2 ^ j := Nat.lt_of_lt_of_le h1 (Nat.pow_le_pow_right (by decide) hj)
    rw [Nat.div_eq_of_lt h2]
  · intro h
    rcases Nat.eq_zero_or_pos (x / 2 ^ r) with h0 | h0
    · exact h0
    · exfalso
      have hx0 : x ≠ 0 := by
        intro e
        rw [e, Nat.zero_div] at h0
        omega
      have hl1 : 2 ^ x.log2 ≤ x := Nat.log2_self_le hx0
      have hl2 : x < 2 ^ (x.log2 + 1) := Nat.lt_log2_self
      have hlt : x.log2 < 64 := by
        rcases Nat.lt_or_ge x.log2 64 with h' | h'
        · exact h'
        · have := Nat.pow_le_pow_right (n := 2) (by decide) h'
          omega
      have hge : r ≤ x.log2 := by
        rcases Nat.lt_or_ge x.log2 r with h' | h'
        · have : x < 2 ^ r := Nat.lt_of_lt_of_le hl2 (Nat.pow_le_pow_right (by decide) h')
          rw [Nat.div_eq_of_lt this] at h0
          omega
        · exact h'
      have := h _ hge hlt
      have e : x / 2 ^ x.log2 = 1 := by
        have h1 : x / 2 ^ x.log2 < 2 := (Nat.div_lt_iff_lt_mul (Nat.two_pow_pos _)).2 (by rw [Nat.pow_succ] at hl2; omega)
        have h2 : 1 ≤ x / 2 ^ x.log2 := (Nat.le_div_iff_mul_le (Nat.two_pow_pos _)).2 (by omega)
        omega
      rw [e] at this
      omega

theorem bit_and (x : Int) (h0 : 0 ≤ x) (h1 : x ≤ 18446744073709551615) : bits .and .u64 x 1 = x % 2 := by
  obtain ⟨n, rfl⟩ := Int.eq_ofNat_of_zero_le h0
  have := bits_and_u64_nat n 1 (by omega) (by decide)
  rw [show ((1 : Nat) : Int) = 1 from rfl] at this
  rw [this, Nat.and_one_is_mod]
  norm_cast

/-- Bit i of a row of bits. -/
abbrev bitAt (b : Bits) (i : Int) : Int := bitI (b.ws.getD (i / 64).toNat 0) (i % 64).toNat

abbrev wordR (x : Int) : Prop := 0 ≤ x ∧ x ≤ 18446744073709551615

theorem bits_all {b : Bits} (hw : 1 ≤ b.w ∧ b.w ≤ 4096) (hl : (b.ws.length : Int) = (b.w + 63) / 64) (h : ∀ i, b.w ≤ i → i < 64 * b.ws.length → bitAt b i = 0 ∧ wordR (b.ws.getD (i / 64).toNat 0)) : BitsP b := by
  refine ⟨hw, hl, ?_⟩
  by_cases hr : b.w % 64 = 0
  · exact .inl hr
  · refine .inr ?_
    have e : ∀ j : Nat, (b.w % 64).toNat ≤ j → j < 64 → bitI (b.ws.getD (b.ws.length - 1) 0) j = 0 ∧ wordR (b.ws.getD (b.ws.length - 1) 0) := fun j h1 h2 => by
      have := h (64 * (b.ws.length - 1 : Nat) + j) (by omega) (by omega)
      have e1 : ((64 * ((b.ws.length - 1 : Nat) : Int) + j) / 64).toNat = b.ws.length - 1 := by omega
      have e2 : ((64 * ((b.ws.length - 1 : Nat) : Int) + j) % 64).toNat = j := by omega
      rw [bitAt, e1, e2] at this
      exact this
    obtain ⟨_, hx0, hx1⟩ := e (b.w % 64).toNat (Nat.le_refl _) (by omega)
    generalize b.ws.getD (b.ws.length - 1) 0 = x at *
    obtain ⟨n, rfl⟩ := Int.eq_ofNat_of_zero_le hx0
    rw [fdiv_nat]
    have := (high_zero n (by omega) (b.w % 64).toNat (by omega)).2 fun j h1 h2 => by
      have := (e j h1 h2).1
      unfold bitI at this
      rw [fdiv_nat] at this
      omega
    rw [this]
    rfl

theorem bits_not {b : Bits} {i : Int} (h1 : b.w ≤ i) (h2 : i < 64 * b.ws.length) (hx : wordR (b.ws.getD (i / 64).toNat 0)) (h : bitAt b i ≠ 0) : ¬ BitsP b := by
  rintro ⟨hw, hl, hr⟩
  have e1 : (i / 64).toNat = b.ws.length - 1 := by omega
  have hr' : ¬ b.w % 64 = 0 := by omega
  replace hr := hr.resolve_left hr'
  rw [bitAt, e1] at h
  rw [e1] at hx
  generalize b.ws.getD (b.ws.length - 1) 0 = x at *
  obtain ⟨n, rfl⟩ := Int.eq_ofNat_of_zero_le hx.1
  rw [fdiv_nat] at hr
  have hx2 := hx.2
  have := (high_zero n (by omega) (b.w % 64).toNat (by omega)).1 (by omega) (i % 64).toNat (by omega) (by omega)
  refine h ?_
  unfold bitI
  rw [fdiv_nat]
  omega

end Go.Proofs.Ytodhnbjncmihkaa.V
end

section
/- What each of these functions comes to, the reference's and the program's: names, bounds, bits. -/
set_option linter.unusedVariables false
set_option maxRecDepth 100000
namespace Go.Proofs.Ytodhnbjncmihkaa.V
open Go

theorem l1In_c (n lo hi : Int) : CT 42 [vI n, vI lo, vI hi] [] 0 fun r S k => r = vB (inB n lo hi) ∧ S = [] ∧ k = 0 := by
  refine CT.run (fun _ => false) false Try.func42 (by kernel_rfl) ?_
  conv => whnf
  intro _
  conv => whnf
  intro _
  conv => whnf
  intro _
  conv => whnf
  refine fork_dec (fun h1 => ?_) (fun h1 => ?_) <;> conv => whnf
  · refine ⟨retBs ?_, rfl, rfl⟩
    simp only [inB, show lo ≤ n from h1, true_and]
  · exact ⟨retB (dec_f fun h => h1 h.1), rfl, rfl⟩

theorem inside_c (n lo hi : Int) : CT 46 [vI n, vI lo, vI hi] [] 0 fun r S k => r = vB (inB n lo hi) ∧ S = [] ∧ k = 0 := by
  refine CT.run (fun _ => false) false Try.func46 (by kernel_rfl) ?_
  conv => whnf
  intro _
  conv => whnf
  intro _
  conv => whnf
  intro _
  conv => whnf
  refine fork_dec (fun h1 => ?_) (fun h1 => ?_) <;> conv => whnf
  · refine ⟨retBs ?_, rfl, rfl⟩
    simp only [inB, show lo ≤ n from h1, true_and]
  · exact ⟨retB (dec_f fun h => h1 h.1), rfl, rfl⟩

theorem l1Digit_c (c : Int) : CT 75 [.one (.sc (.int .u8 c))] [] 0 fun r S k => r = vB (decide (48 ≤ c ∧ c ≤ 57)) ∧ S = [] ∧ k = 0 := by
  refine CT.run (fun _ => false) false Try.func75 (by kernel_rfl) ?_
  conv => whnf
  intro _
  conv => whnf
  refine fork_dec (fun h1 => ?_) (fun h1 => ?_) <;> conv => whnf
  · refine ⟨retBs ?_, rfl, rfl⟩
    simp only [show (48 : Int) ≤ c from h1, true_and]
  · exact ⟨retB (dec_f fun h => h1 h.1), rfl, rfl⟩

theorem nameOk_c (s : ByteArray) : CT 45 [vS s] [] 0 fun r S nx => r = vB (nameB s) ∧ S = [] ∧ nx = 0 := by
  refine CT.run (fun _ => false) false Try.func45 (by kernel_rfl) ?_
  conv => whnf
  intro hs
  conv => whnf
  repeat' (first
    | (refine fork_ndec (fun h => ?_) (fun h => ?_) <;> conv => whnf)
    | (refine fork_dec (fun h => ?_) (fun h => ?_) <;> conv => whnf)
    | (refine fork_any (fun h => ?_) (fun h => ?_) <;> conv => whnf)
    | (refine gdx (by omega) (by omega) ?_; conv => whnf)
    | (refine gd2 (by omega) (by omega) ?_; conv => whnf)
    
    | (intro h; conv => whnf))
  · exact ⟨retB (dec_f fun h => by have := h.1; omega), rfl, rfl⟩
  · exact ⟨retB (dec_f fun h => by have := h.2.1; omega), rfl, rfl⟩
  · rename_i h
    exact ⟨retB (dec_f fun g => by have h : chr s 0 < 97 := h; have := g.2.2.1.1; omega), rfl, rfl⟩
  · rename_i h
    exact ⟨retB (dec_f fun g => by have h : chr s 0 > 122 := h; have := g.2.2.1.2; omega), rfl, rfl⟩
  · rename_i h4 h5
    have h4 : ¬ chr s 0 < 97 := h5
    have h5 : ¬ chr s 0 > 122 := h
    refine ⟨Nat, fun k => ⟨[(0, vS s), (3, vI k)], [], 0⟩, fun k => k ≤ s.size ∧ ∀ j, j < k → isC (chr s j) = true, fun k => s.size - k, ⟨0, Le.ren [] rfl trivial ⟨rfl, rfl, trivial⟩, Nat.zero_le _, fun j h => by omega⟩, fun k hk => ?_⟩
    obtain ⟨hk, hall⟩ := hk
    have hno : isC (chr s k) = false → k < s.size → nameB s = false := fun h hlt => dec_f fun g => by rw [g.2.2.2 k hlt] at h; cases h
    have hyes : isC (chr s k) = true → ∀ j, j < k + 1 → isC (chr s j) = true := fun h j hj => by
      rcases (by omega : j < k ∨ j = k) with h' | h'
      · exact hall j h'
      · rw [h']; exact h
    have hmore : isC (chr s k) = true ↔ (97 ≤ chr s k ∧ chr s k ≤ 122) ∨ (48 ≤ chr s k ∧ chr s k ≤ 57) := isC_iff _
    have ek : (s.data.getD (Int.toNat (k : Int)) 0).toNat = chr s k := rfl
    conv => whnf
    repeat' (first
      | (refine fork_ndec (fun h => ?_) (fun h => ?_) <;> conv => whnf)
      | (refine fork_dec (fun h => ?_) (fun h => ?_) <;> conv => whnf)
      | (refine fork_any (fun h => ?_) (fun h => ?_) <;> conv => whnf)
      | (refine gdx (by omega) (by omega) ?_; conv => whnf)
      | (refine gd2 (by omega) (by omega) ?_; conv => whnf)
      
      | (intro h; conv => whnf))
    all_goals first
      | (have hlt : k < s.size := by omega
         refine ⟨retB (hno ?_ hlt), rfl, rfl⟩
         refine Bool.eq_false_iff.2 fun h => ?_
         rw [hmore] at h
         omega)
      | (have hlt : k < s.size := by omega
         refine ⟨k + 1, Le.ren [] rfl trivial ⟨rfl, congrArg (fun x => some (vI x)) (inc (by omega)), trivial⟩, ⟨hlt, hyes (by rw [hmore]; omega)⟩, ?_⟩
         show s.size - (k + 1) < s.size - k
         omega)
      | exact ⟨retB (dec_t ⟨by omega, by omega, ⟨by omega, by omega⟩, fun j hj => hall j (by omega)⟩), rfl, rfl⟩

end Go.Proofs.Ytodhnbjncmihkaa.V
end

section
/- What each of these functions comes to, the reference's and the program's: names, rows of bits. -/
set_option linter.unusedVariables false
set_option maxRecDepth 100000
namespace Go.Proofs.Ytodhnbjncmihkaa.V
open Go

theorem l1Name_c (s : ByteArray) : CT 53 [vS s] [] 0 fun r S nx => r = vB (nameB s) ∧ S = [] ∧ nx = 0 := by
  refine CT.run (fun _ => false) false Try.func53 (by kernel_rfl) ?_
  conv => whnf
  intro hs
  conv => whnf
  repeat' (first
    | (refine fork_ndec (fun h => ?_) (fun h => ?_) <;> conv => whnf)
    | (refine fork_dec (fun h => ?_) (fun h => ?_) <;> conv => whnf)
    | (refine fork_any (fun h => ?_) (fun h => ?_) <;> conv => whnf)
    | (refine gdx (by omega) (by omega) ?_; conv => whnf)
    | (refine gd2 (by omega) (by omega) ?_; conv => whnf)
    
    | (intro h; conv => whnf))
  · exact ⟨retB (dec_f fun h => by have := h.1; omega), rfl, rfl⟩
  · exact ⟨retB (dec_f fun h => by have := h.2.1; omega), rfl, rfl⟩
  refine CT.eq (l1Digit_c _) ?_
  conv => whnf
  refine fork_dec (fun h0 => ?_) (fun h0 => ?_) <;> conv => whnf
  · exact ⟨retB (dec_f fun g => by have h0 : 48 ≤ chr s 0 ∧ chr s 0 ≤ 57 := h0; have := g.2.2.1.1; omega), rfl, rfl⟩
  have h0 : ¬ (48 ≤ chr s 0 ∧ chr s 0 ≤ 57) := h0
  refine ⟨Nat, fun k => ⟨[(0, vS s), (3, vI k)], [], 0⟩, fun k => k ≤ s.size ∧ ∀ j, j < k → isC (chr s j) = true, fun k => s.size - k, ⟨0, Le.ren [] rfl trivial ⟨rfl, rfl, trivial⟩, Nat.zero_le _, fun j h => by omega⟩, fun k hk => ?_⟩
  obtain ⟨hk, hall⟩ := hk
  have hno : isC (chr s k) = false → k < s.size → nameB s = false := fun h hlt => dec_f fun g => by rw [g.2.2.2 k hlt] at h; cases h
  have hyes : isC (chr s k) = true → ∀ j, j < k + 1 → isC (chr s j) = true := fun h j hj => by
    rcases (by omega : j < k ∨ j = k) with h' | h'
    · exact hall j h'
    · rw [h']; exact h
  have hmore : isC (chr s k) = true ↔ (97 ≤ chr s k ∧ chr s k ≤ 122) ∨ (48 ≤ chr s k ∧ chr s k ≤ 57) := isC_iff _
  have ek : (s.data.getD (Int.toNat (k : Int)) 0).toNat = chr s k := rfl
  have hgo : isC (chr s k) = true → k < s.size → ∀ F, frEq [] F [(0, vS s), (3, vI (k + 1 : Nat))] → ∃ y : Nat, Le tbl 0 ⟨F, [], 0⟩ ⟨[(0, vS s), (3, vI y)], [], 0⟩ ∧ (y ≤ s.size ∧ ∀ j, j < y → isC (chr s j) = true) ∧ s.size - y < s.size - k :=
    fun h hlt F hF => ⟨k + 1, Le.ren [] rfl trivial hF, ⟨hlt, hyes h⟩, by omega⟩
  conv => whnf
  intro _
  conv => whnf
  refine fork_dec (fun h => ?_) (fun h => ?_) <;> conv => whnf
  · have hlt : k < s.size := by omega
    refine gdx (by omega) h ?_
    conv => whnf
    refine CT.eq (l1Digit_c _) ?_
    conv => whnf
    refine fork_ndec (fun h => ?_) (fun h => ?_) <;> conv => whnf
    rotate_left
    · exact hgo (by rw [hmore]; exact .inr h) hlt _ ⟨rfl, congrArg (fun x => some (vI x)) (inc (by omega)), trivial⟩
    · have h : ¬ (48 ≤ chr s k ∧ chr s k ≤ 57) := h
      repeat' (first
        | (refine fork_ndec (fun h => ?_) (fun h => ?_) <;> conv => whnf)
        | (refine fork_dec (fun h => ?_) (fun h => ?_) <;> conv => whnf)
        | (refine fork_any (fun h => ?_) (fun h => ?_) <;> conv => whnf)
        | (refine gdx (by omega) (by omega) ?_; conv => whnf)
        | (refine gd2 (by omega) (by omega) ?_; conv => whnf)
        
        | (intro h; conv => whnf))
      · refine ⟨retB (hno (Bool.eq_false_iff.2 fun h => ?_) hlt), rfl, rfl⟩
        rw [hmore] at h
        omega
      · refine ⟨retB (hno (Bool.eq_false_iff.2 fun h => ?_) hlt), rfl, rfl⟩
        rw [hmore] at h
        omega
      · exact hgo (by rw [hmore]; omega) hlt _ ⟨rfl, congrArg (fun x => some (vI x)) (inc (by omega)), trivial⟩
  · refine ⟨retB (dec_t ?_), rfl, rfl⟩
    have h1 : 0 < s.size := by omega
    have h2 := hall 0 (by omega)
    rw [isC_iff] at h2
    exact ⟨by omega, by omega, by omega, fun j hj => hall j (by omega)⟩

theorem l3One_c (n : Int) : CT 55 [vI n] [] 0 fun r S k => r = vB (inB n 4 9) ∧ S = [] ∧ k = 0 := by
  refine CT.run (fun _ => false) false Try.func55 (by kernel_rfl) ?_
  conv => whnf
  intro _
  conv => whnf
  refine CT.eq (l1In_c _ _ _) ?_
  conv => whnf
  exact ⟨rfl, rfl, rfl⟩

theorem l3NoBits_c (b : Bits) : CT 54 [vBits b] [] 0 fun r S k => r = vB (noBits b) ∧ S = [] ∧ k = 0 := by
  have hL : (b.ws.map eU).length = b.ws.length := List.length_map _
  refine CT.run (fun _ => false) false Try.func54 (by kernel_rfl) ?_
  conv => whnf
  repeat' (first
    | (refine fork_ndec (fun h => ?_) (fun h => ?_) <;> conv => whnf)
    | (refine fork_dec (fun h => ?_) (fun h => ?_) <;> conv => whnf)
    | (refine fork_any (fun h => ?_) (fun h => ?_) <;> conv => whnf)
    | (refine gdx (by omega) (by omega) ?_; conv => whnf)
    | (refine gd2 (by omega) (by omega) ?_; conv => whnf)
    
    | (intro h; conv => whnf))
  · refine ⟨retBs ?_, rfl, rfl⟩
    rename_i h1 _
    have h1 : b.w = 0 := by assumption
    refine decide_eq_decide.2 ⟨fun h => ?_, fun h => ?_⟩
    · rw [h.2]; rfl
    · exact ⟨h1, List.eq_nil_of_length_eq_zero (by omega)⟩
  · rename_i h
    exact ⟨retB (dec_f fun g => h g.1), rfl, rfl⟩

theorem wordsFor_c (n : Int) (h0 : 0 ≤ n) (h1 : n ≤ M40) : CT 85 [vI n] [] 0 fun r S k => r = vI ((n + 63) / 64) ∧ S = [] ∧ k = 0 := by
  simp only [M40] at h1
  refine CT.run (fun _ => false) false Try.func85 (by kernel_rfl) ?_
  conv => whnf
  intro _
  conv => whnf
  refine gdz (by decide) ?_
  conv => whnf
  refine ⟨congrArg vI ?_, rfl, rfl⟩
  rw [wrap64 (n := n + 63) (by omega) (by omega), Int.tdiv_eq_ediv_of_nonneg (by omega), wrap64 (by omega) (by omega)]

theorem l1Bit_c (b : Bits) (i : Int) (h0 : 0 ≤ i) (h1 : i / 64 < b.ws.length) : CT 76 [vBits b, vI i] [] 0 fun r S k => wordR (b.ws.getD (i / 64).toNat 0) ∧ r = .one (.sc (.int .u8 (bitAt b i))) ∧ S = [] ∧ k = 0 := by
  have hL : (b.ws.map eU).length = b.ws.length := List.length_map _
  refine CT.run (fun _ => false) false Try.func76 (by kernel_rfl) ?_
  conv => whnf
  intro _
  conv => whnf
  intro hlen
  conv => whnf
  intro hi
  have hi : -9223372036854775808 ≤ i ∧ i ≤ 9223372036854775807 := hi
  conv => whnf
  refine gdz (by decide) ?_
  have hq : IntKind.i64.wrap (i.tdiv 64) = i / 64 := by
    rw [Int.tdiv_eq_ediv_of_nonneg h0, wrap64 (by omega) (by omega)]
  have hr : i.tmod 64 = i % 64 := Int.tmod_eq_emod_of_nonneg h0
  rw [hq]
  have hn : i / 64 = ((i / 64).toNat : Int) := by omega
  conv => whnf
  refine gdx (by omega) (by omega) ?_
  have hlt : (i / 64).toNat < b.ws.length := by omega
  rw [at_map eU b.ws hlt]
  conv => whnf
  intro hx
  conv => whnf
  refine gdz (by decide) ?_
  rw [hr]
  conv => whnf
  refine gdi ?_ ?_
  · show 0 ≤ IntKind.u64.wrap (i % 64)
    rw [wrapU (by omega) (by omega)]
    omega
  have hg : b.ws.getD (i / 64).toNat 0 = b.ws[(i / 64).toNat] := by simp [List.getD, List.getElem?_eq_getElem hlt]
  have h2 : wordR b.ws[(i / 64).toNat] := hx
  conv => whnf
  refine ⟨by rw [hg]; exact h2, congrArg (fun x => V.one (L.sc (Value.int .u8 x))) ?_, rfl, rfl⟩
  rw [bitAt, hg]
  show IntKind.u8.wrap (bits .and .u64 (Int.fdiv b.ws[(i / 64).toNat] (2 ^ (min (IntKind.u64.wrap (i % 64)).toNat 64))) 1) = bitI b.ws[(i / 64).toNat] (i % 64).toNat
  rw [wrapU (n := i % 64) (by omega) (by omega), Nat.min_eq_left (by omega)]
  generalize b.ws[(i / 64).toNat] = x at *
  obtain ⟨n, rfl⟩ := Int.eq_ofNat_of_zero_le h2.1
  unfold bitI
  rw [fdiv_nat]
  have hle : n / 2 ^ (i % 64).toNat ≤ n := Nat.div_le_self _ _
  generalize n / 2 ^ (i % 64).toNat = q at *
  rw [bit_and _ (by omega) (by omega)]
  exact rng_of_wrap (k := .u8) (by simp only [rng]; omega)

theorem BitsOk_c (b : Bits) : CT 56 [vBits b] [] 0 fun r S k => r = vB (bitsB b) ∧ S = [] ∧ k = 0 := by
  have hL : (b.ws.map eU).length = b.ws.length := List.length_map _
  refine CT.run (fun _ => false) false Try.func56 (by kernel_rfl) ?_
  conv => whnf
  intro hw
  have hw : -9223372036854775808 ≤ b.w ∧ b.w ≤ 9223372036854775807 := hw
  conv => whnf
  intro hlen
  conv => whnf
  refine CT.eq (l1In_c _ _ _) ?_
  conv => whnf
  refine fork_ndec (fun h => ?_) (fun h => ?_) <;> conv => whnf
  · exact ⟨retB (dec_f fun g => h g.1), rfl, rfl⟩
  have h : 1 ≤ b.w ∧ b.w ≤ 4096 := h
  intro _
  conv => whnf
  refine gdz (by decide) ?_
  have hq : IntKind.i64.wrap ((IntKind.i64.wrap (b.w + 63)).tdiv 64) = (b.w + 63) / 64 := by
    rw [wrap64 (n := b.w + 63) (by omega) (by omega), Int.tdiv_eq_ediv_of_nonneg (by omega), wrap64 (by omega) (by omega)]
  rw [hq]
  conv => whnf
  refine fork_dec (fun h1 => ?_) (fun h1 => ?_) <;> conv => whnf
  · exact ⟨retB (dec_f fun g => h1 (by rw [hL]; exact g.2.1)), rfl, rfl⟩
  have h1 : (b.ws.length : Int) = (b.w + 63) / 64 := by
    have := Decidable.not_not.1 h1
    rw [hL] at this
    exact this
  refine ⟨Int, fun i => ⟨[(1, .one (.ptr 0 0 0 0)), (3, vI i)], [(0, .box 50 [lI b.w, rU b.ws])], 1⟩, fun i => b.w ≤ i ∧ i ≤ 64 * b.ws.length ∧ ∀ j, b.w ≤ j → j < i → bitAt b j = 0 ∧ wordR (b.ws.getD (j / 64).toNat 0), fun i => (64 * b.ws.length - i).toNat, ⟨b.w, Le.ren [0] rfl ⟨⟨rfl, rfl⟩, trivial⟩ ⟨rfl, rfl, trivial⟩, Int.le_refl _, by omega, fun j h1 h2 => by omega⟩, ?_⟩
  rintro i ⟨hi1, hi2, hall⟩
  conv => whnf
  intro _
  have hm : IntKind.i64.wrap (64 * ((b.ws.map eU).length : Int)) = 64 * b.ws.length := by rw [hL, wrap64] <;> omega
  conv => whnf
  rw [hm]
  refine fork_dec (fun hi => ?_) (fun hi => ?_) <;> conv => whnf
  · refine CT.eqf (l1Bit_c b i (by omega) (by omega)) fun hx => ?_
    conv => whnf
    refine fork_dec (fun h2 => ?_) (fun h2 => ?_) <;> conv => whnf
    · exact ⟨retB (dec_f (bits_not hi1 hi hx h2)), rfl, rfl⟩
    · have h2 : bitAt b i = 0 := Decidable.not_not.1 h2
      refine ⟨i + 1, Le.ren [0] rfl ⟨⟨rfl, rfl⟩, trivial⟩ ⟨rfl, congrArg (fun x => some (vI x)) (wrap64 (by omega) (by omega)), trivial⟩, ⟨by omega, by omega, fun j h3 h4 => ?_⟩, ?_⟩
      · rcases (by omega : j < i ∨ j = i) with h5 | h5
        · exact hall j h3 h5
        · subst h5; exact ⟨h2, hx⟩
      · show (64 * (b.ws.length : Int) - (i + 1)).toNat < (64 * (b.ws.length : Int) - i).toNat
        omega
  · exact ⟨retBs (dec_t (bits_all h h1 fun j h3 h4 => hall j h3 (by omega))), rfl, rfl⟩

theorem BitsOk_i (b : Bits) : CT 77 [vBits b] [] 0 fun r S k => r = vB (bitsB b) ∧ S = [] ∧ k = 0 := by
  have hL : (b.ws.map eU).length = b.ws.length := List.length_map _
  refine CT.run (fun _ => false) false Try.func77 (by kernel_rfl) ?_
  conv => whnf
  intro hw
  have hw : -9223372036854775808 ≤ b.w ∧ b.w ≤ 9223372036854775807 := hw
  conv => whnf
  intro hlen
  conv => whnf
  refine gdd rfl ?_
  conv => whnf
  refine act1 rfl ?_ True.intro
  conv => whnf
  refine CT.eq (inside_c _ _ _) ?_
  conv => whnf
  refine fork_ndec (fun h => ?_) (fun h => ?_) <;> conv => whnf
  · refine act1 rfl ?_ True.intro
    conv => whnf
    exact ⟨retB (dec_f fun g => h g.1), rfl, rfl⟩
  have h : 1 ≤ b.w ∧ b.w ≤ 4096 := h
  intro _
  conv => whnf
  refine act1 rfl ?_ True.intro
  conv => whnf
  refine CT.eq (wordsFor_c _ (by omega) (by simp only [M40]; omega)) ?_
  conv => whnf
  refine fork_dec (fun h1 => ?_) (fun h1 => ?_) <;> conv => whnf
  · exact ⟨retB (dec_f fun g => h1 (by rw [hL]; exact g.2.1)), rfl, rfl⟩
  have h1 : (b.ws.length : Int) = (b.w + 63) / 64 := by
    have := Decidable.not_not.1 h1
    rw [hL] at this
    exact this
  refine gdz (by decide) ?_
  have hr : b.w.tmod 64 = b.w % 64 := Int.tmod_eq_emod_of_nonneg (by omega)
  rw [hr]
  conv => whnf
  refine fork_dec (fun h2 => ?_) (fun h2 => ?_) <;> conv => whnf
  · exact ⟨retB (dec_t ⟨h, h1, .inl h2⟩), rfl, rfl⟩
  intro _
  conv => whnf
  have hm : IntKind.i64.wrap (((b.ws.map eU).length : Int) - 1) = (b.ws.length - 1 : Nat) := by rw [hL, wrap64] <;> omega
  rw [hm]
  conv => whnf
  refine gdx (by omega) (by omega) ?_
  have hlt : b.ws.length - 1 < b.ws.length := by omega
  rw [at_mapI eU b.ws hlt]
  conv => whnf
  intro hx
  conv => whnf
  refine gdi (by omega) ?_
  conv => whnf
  refine ⟨retBs ?_, rfl, rfl⟩
  have hg : b.ws.getD (b.ws.length - 1) 0 = b.ws[b.ws.length - 1] := by simp [List.getD, List.getElem?_eq_getElem hlt]
  refine decide_eq_decide.2 ⟨fun g => ?_, fun g => ?_⟩
  · have := g.2.2.resolve_left h2
    rw [hg] at this
    show Int.fdiv b.ws[b.ws.length - 1] (2 ^ (min (b.w % 64).toNat 64)) = 0
    rw [Nat.min_eq_left (by omega)]
    exact this
  · refine ⟨h, h1, .inr ?_⟩
    have g : Int.fdiv b.ws[b.ws.length - 1] (2 ^ (min (b.w % 64).toNat 64)) = 0 := g
    rw [Nat.min_eq_left (by omega)] at g
    rw [hg]
    exact g

end Go.Proofs.Ytodhnbjncmihkaa.V
end

section
/- Plain: declarations that are right. No program in sight. -/
set_option linter.unusedVariables false
namespace Go.Proofs.Ytodhnbjncmihkaa.V
open Go

def DeclP (d : Decl) : Prop := NameP d.nm ∧ 1 ≤ d.wd ∧ d.wd ≤ 4096

instance (d : Decl) : Decidable (DeclP d) := inferInstanceAs (Decidable (_ ∧ _ ∧ _))

def DeclsP (ds : List Decl) : Prop := ds.length ≤ 60 ∧ (∀ d ∈ ds, DeclP d) ∧ (ds.map Decl.nm).Nodup ∧ (ds.map Decl.wd).sum ≤ 20000

instance (ds : List Decl) : Decidable (DeclsP ds) := inferInstanceAs (Decidable (_ ∧ _ ∧ _ ∧ _))

abbrev declsB (ds : List Decl) : Bool := decide (DeclsP ds)

def PreD (ds : List Decl) (i : Nat) : Prop := (∀ d ∈ ds.take i, DeclP d) ∧ ((ds.take i).map Decl.nm).Nodup

def sumD (ds : List Decl) (i : Nat) : Int := ((ds.take i).map Decl.wd).sum

theorem PreD.zero (ds : List Decl) : PreD ds 0 := ⟨fun d h => by simp at h, by simp⟩

theorem sumD_zero (ds : List Decl) : sumD ds 0 = 0 := rfl

theorem sumD_succ {ds : List Decl} {i : Nat} (h : i < ds.length) : sumD ds (i + 1) = sumD ds i + (ds[i]'h).wd := by
  unfold sumD
  rw [List.take_succ_eq_append_getElem h, List.map_append, List.sum_append]
  simp only [List.map_cons, List.map_nil, List.sum_cons, List.sum_nil, Int.add_zero]

theorem PreD.succ {ds : List Decl} {i : Nat} (hp : PreD ds i) (h : i < ds.length) (hd : DeclP (ds[i]'h)) (hn : ∀ (k : Nat) (hk : k < i), (ds[k]'(Nat.lt_trans hk h)).nm ≠ (ds[i]'h).nm) : PreD ds (i + 1) := by
  unfold PreD
  rw [List.take_succ_eq_append_getElem h]
  refine ⟨fun d hdm => ?_, ?_⟩
  · rcases List.mem_append.1 hdm with h1 | h1
    · exact hp.1 d h1
    · simp at h1; subst h1; exact hd
  · rw [List.map_append]
    refine List.nodup_append.2 ⟨hp.2, by simp, fun a ha b hb => ?_⟩
    simp at hb
    subst hb
    obtain ⟨d, hdm, rfl⟩ := List.mem_map.1 ha
    obtain ⟨k, hk, rfl⟩ := List.mem_iff_getElem.1 hdm
    have hk' : k < i := by
      have := hk
      rw [List.length_take] at this
      omega
    rw [List.getElem_take]
    exact hn k hk'

theorem PreD.bound {ds : List Decl} : ∀ {i : Nat}, PreD ds i → i ≤ ds.length → 0 ≤ sumD ds i ∧ sumD ds i ≤ 4096 * i := by
  intro i
  induction i with
  | zero => intro _ _; simp [sumD]
  | succ i ih =>
    intro hp hi
    have h : i < ds.length := by omega
    have hp' : PreD ds i := by
      unfold PreD at hp ⊢
      rw [List.take_succ_eq_append_getElem h] at hp
      refine ⟨fun d hd => hp.1 d (List.mem_append.2 (.inl hd)), ?_⟩
      rw [List.map_append] at hp
      exact (List.nodup_append.1 hp.2).1
    have hd : DeclP ds[i] := hp.1 _ (by rw [List.take_succ_eq_append_getElem h]; exact List.mem_append.2 (.inr (List.mem_singleton.2 rfl)))
    have := ih hp' (by omega)
    rw [sumD_succ h]
    have h1 := hd.2.1
    have h2 := hd.2.2
    omega

theorem declsB_all {ds : List Decl} (hl : ds.length ≤ 60) {i : Nat} (hi : ds.length ≤ i) (hp : PreD ds i) : declsB ds = decide (sumD ds i ≤ 20000) := by
  unfold PreD at hp
  rw [List.take_of_length_le hi] at hp
  refine decide_eq_decide.2 ⟨fun h => ?_, fun h => ?_⟩
  · unfold sumD
    rw [List.take_of_length_le hi]
    exact h.2.2.2
  · unfold sumD at h
    rw [List.take_of_length_le hi] at h
    exact ⟨hl, hp.1, hp.2, h⟩

theorem declsB_bad {ds : List Decl} {i : Nat} (h : i < ds.length) (hd : ¬ DeclP (ds[i]'h)) : declsB ds = false := dec_f fun g => hd (g.2.1 _ (List.getElem_mem _))

theorem declsB_twice {ds : List Decl} {i k : Nat} (h : i < ds.length) (hk : k < i) (he : (ds[k]'(Nat.lt_trans hk h)).nm = (ds[i]'h).nm) : declsB ds = false := dec_f fun g => by
  have := g.2.2.1
  rw [List.nodup_iff_pairwise_ne, List.pairwise_iff_getElem] at this
  have := this k i (by simp; omega) (by simpa using h) hk
  simp at this
  exact this he

/-- The place of a name. -/
def findI (ds : List Decl) (s : ByteArray) : Int := match ds.findIdx? (fun d => decide (d.nm = s)) with | some i => (i : Int) | none => -1

theorem findI_none {ds : List Decl} {s : ByteArray} (h : ∀ (k : Nat) (hk : k < ds.length), (ds[k]'hk).nm ≠ s) : findI ds s = -1 := by
  have : ds.findIdx? (fun d => decide (d.nm = s)) = none := by
    rw [List.findIdx?_eq_none_iff]
    intro d hd
    obtain ⟨k, hk, rfl⟩ := List.mem_iff_getElem.1 hd
    simpa using h k hk
  rw [findI, this]

theorem findI_some {ds : List Decl} {s : ByteArray} {i : Nat} (hi : i < ds.length) (he : (ds[i]'hi).nm = s) (h : ∀ (k : Nat) (hk : k < i), (ds[k]'(Nat.lt_trans hk hi)).nm ≠ s) : findI ds s = i := by
  have : ds.findIdx? (fun d => decide (d.nm = s)) = some i := by
    rw [List.findIdx?_eq_some_iff_getElem]
    exact ⟨hi, by simpa using he, fun j hj => by simpa using h j hj⟩
  rw [findI, this]

theorem findI_cases (ds : List Decl) (s : ByteArray) : (findI ds s = -1 ∧ ∀ (k : Nat) (hk : k < ds.length), (ds[k]'hk).nm ≠ s) ∨ ∃ (i : Nat) (hi : i < ds.length), findI ds s = i ∧ (ds[i]'hi).nm = s ∧ ∀ (k : Nat) (hk : k < i), (ds[k]'(Nat.lt_trans hk hi)).nm ≠ s := by
  cases h : ds.findIdx? (fun d => decide (d.nm = s)) with
  | none =>
    refine .inl ⟨by rw [findI, h], fun k hk => ?_⟩
    rw [List.findIdx?_eq_none_iff] at h
    simpa using h _ (List.getElem_mem hk)
  | some i =>
    rw [List.findIdx?_eq_some_iff_getElem] at h
    obtain ⟨hi, h1, h2⟩ := h
    have h1 : (ds[i]'hi).nm = s := by simpa using h1
    have h2 : ∀ (k : Nat) (hk : k < i), (ds[k]'(Nat.lt_trans hk hi)).nm ≠ s := fun k hk => by simpa using h2 k hk
    exact .inr ⟨i, hi, findI_some hi h1 h2, h1, h2⟩

end Go.Proofs.Ytodhnbjncmihkaa.V
end

section
/- What each of these functions comes to, the reference's and the program's: declarations. -/
set_option linter.unusedVariables false
set_option maxRecDepth 100000
namespace Go.Proofs.Ytodhnbjncmihkaa.V
open Go

theorem declFn_c (d : Decl) (s : ByteArray) : CT 59 [vDecl d, .one (.ptr 0 0 0 0)] [(0, .box 9 [lS s])] 1 fun r S k => r = vB (decide (d.nm = s)) ∧ S = [(0, .box 9 [lS s])] ∧ k = 1 := by
  refine CT.run (fun _ => false) false Try.func59 (by kernel_rfl) ?_
  conv => whnf
  intro _
  conv => whnf
  intro _
  conv => whnf
  exact ⟨rfl, rfl, rfl⟩

theorem indexDecl_c (ds : List Decl) (s : ByteArray) : CT 58 [.one (.ro 53 (ds.map eDecl)), .one (.fn 59 [0])] [(0, .box 9 [lS s])] 1 fun r S k => r = vI (findI ds s) ∧ S = [(0, .box 9 [lS s])] ∧ k = 1 := by
  have hL : (ds.map eDecl).length = ds.length := List.length_map _
  refine CT.run (fun _ => false) false Try.func58 (by kernel_rfl) ?_
  conv => whnf
  intro hl
  conv => whnf
  intro _
  conv => whnf
  refine ⟨Nat, fun i => ⟨[(0, .one (.ro 53 (ds.map eDecl))), (1, .one (.fn 59 [0])), (7, vI ((ds.map eDecl).length : Int)), (8, vI i)], [(0, .box 9 [lS s])], 1⟩, fun i => i ≤ ds.length ∧ ∀ (k : Nat) (hk : k < ds.length), k < i → (ds[k]'hk).nm ≠ s, fun i => ds.length - i, ⟨0, Le.ren [0] rfl ⟨⟨rfl, rfl⟩, trivial⟩ ⟨rfl, rfl, rfl, rfl, trivial⟩, Nat.zero_le _, fun k hk h => by omega⟩, fun i hi => ?_⟩
  obtain ⟨hi, hall⟩ := hi
  conv => whnf
  refine fork_dec (fun h => ?_) (fun h => ?_) <;> conv => whnf
  · have hi' : i < ds.length := by omega
    refine gdx (by omega) h ?_
    rw [at_mapI eDecl ds hi']
    conv => whnf
    intro _
    conv => whnf
    intro _
    conv => whnf
    refine CT.eq (declFn_c ds[i] s) ?_
    conv => whnf
    refine fork_dec (fun h => ?_) (fun h => ?_) <;> conv => whnf
    · refine ⟨congrArg vI ?_, rfl, rfl⟩
      exact (findI_some hi' h fun k hk => hall k (by omega) hk).symm
    · refine ⟨i + 1, Le.ren [0] rfl ⟨⟨rfl, rfl⟩, trivial⟩ ⟨rfl, rfl, rfl, congrArg (fun x => some (vI x)) (inc (by omega)), trivial⟩, ⟨hi', fun k hk hk' => ?_⟩, ?_⟩
      · rcases (by omega : k < i ∨ k = i) with h1 | h1
        · exact hall k hk h1
        · subst h1; exact h
      · show ds.length - (i + 1) < ds.length - i
        omega
  · refine ⟨congrArg vI ?_, rfl, rfl⟩
    exact (findI_none fun k hk => hall k hk (by omega)).symm

theorem declared_c (ds : List Decl) (s : ByteArray) : CT 47 [.one (.ro 53 (ds.map eDecl)), vS s] [] 0 fun r S k => r = vI (findI ds s) ∧ S = [] ∧ k = 0 := by
  refine CT.run (fun _ => false) false Try.func47 (by kernel_rfl) ?_
  conv => whnf
  intro _
  conv => whnf
  intro _
  conv => whnf
  refine CT.eq (indexDecl_c ds s) ?_
  conv => whnf
  exact ⟨rfl, rfl, rfl⟩

theorem DeclsOk_i (ds : List Decl) : CT 31 [.one (.ro 53 (ds.map eDecl))] [] 0 fun r S k => r = vB (declsB ds) ∧ S = [] ∧ k = 0 := by
  have hL : (ds.map eDecl).length = ds.length := List.length_map _
  refine CT.run (fun _ => false) false Try.func31 (by kernel_rfl) ?_
  conv => whnf
  intro hl
  conv => whnf
  intro _
  conv => whnf
  refine fork_dec (fun h => ?_) (fun h => ?_) <;> conv => whnf
  · exact ⟨retB (dec_f fun g => by have := g.1; omega), rfl, rfl⟩
  have hl60 : ds.length ≤ 60 := by omega
  intro _
  conv => whnf
  refine ⟨Nat, fun i => ⟨[(0, .one (.ro 53 (ds.map eDecl))), (3, vI (sumD ds i)), (9, .one (.ro 53 (ds.map eDecl))), (10, vI ((ds.map eDecl).length : Int)), (11, vI i)], [], 0⟩, fun i => i ≤ ds.length ∧ PreD ds i, fun i => ds.length - i, ⟨0, Le.ren [] rfl trivial ⟨rfl, rfl, rfl, rfl, rfl, trivial⟩, Nat.zero_le _, PreD.zero ds⟩, fun i hi => ?_⟩
  obtain ⟨hi, hpre⟩ := hi
  have hb := hpre.bound hi
  conv => whnf
  refine fork_dec (fun h => ?_) (fun h => ?_) <;> conv => whnf
  · have hi' : i < ds.length := by omega
    refine gdx (by omega) h ?_
    rw [at_mapI eDecl ds hi']
    conv => whnf
    intro _
    conv => whnf
    intro _
    conv => whnf
    refine gdd rfl ?_
    conv => whnf
    refine act1 rfl ?_ True.intro
    conv => whnf
    refine CT.eq (nameOk_c ds[i].nm) ?_
    conv => whnf
    refine fork_ndec (fun h1 => ?_) (fun h1 => ?_) <;> conv => whnf
    · repeat' (first
        | (refine act1 rfl ?_ True.intro; conv => whnf)
        | exact ⟨retB (declsB_bad hi' fun g => h1 g.1), rfl, rfl⟩)
    · refine act1 rfl ?_ True.intro
      conv => whnf
      refine CT.eq (inside_c _ _ _) ?_
      conv => whnf
      refine fork_ndec (fun h2 => ?_) (fun h2 => ?_) <;> conv => whnf
      · repeat' (first
          | (refine act1 rfl ?_ True.intro; conv => whnf)
          | exact ⟨retB (declsB_bad hi' fun g => h2 g.2), rfl, rfl⟩)
      · refine gd2 (by omega) (by omega) ?_
        rw [show (ds.map eDecl).take (Int.toNat (i : Int)) = (ds.take i).map eDecl from List.map_take.symm]
        conv => whnf
        refine act1 rfl ?_ True.intro
        conv => whnf
        refine CT.eq (declared_c (ds.take i) ds[i].nm) ?_
        conv => whnf
        have hd : DeclP ds[i] := ⟨h1, h2⟩
        have h3 := findI_cases (ds.take i) ds[i].nm
        have h4 := hd.2
        have h5 : IntKind.i64.wrap (sumD ds i + ds[i].wd) = sumD ds (i + 1) := by rw [sumD_succ hi', wrap64] <;> omega
        refine fork_dec (fun h => ?_) (fun h => ?_) <;> conv => whnf
        · rcases h3 with ⟨h3, _⟩ | ⟨k, hk, h3, h6, _⟩
          · rw [h3] at h
            exact absurd h (by decide)
          · rw [List.length_take] at hk
            rw [List.getElem_take] at h6
            exact ⟨retB (declsB_twice hi' (by omega) h6), rfl, rfl⟩
        · refine ⟨i + 1, Le.ren [] rfl trivial ⟨rfl, congrArg (fun x => some (vI x)) h5, rfl, rfl, congrArg (fun x => some (vI x)) (inc (by omega)), trivial⟩, ⟨hi', hpre.succ hi' hd fun k hk => ?_⟩, ?_⟩
          · rcases h3 with ⟨_, h3⟩ | ⟨j, hj, h3, _, _⟩
            · have := h3 k (by rw [List.length_take]; omega)
              rwa [List.getElem_take] at this
            · rw [h3] at h
              omega
          · show ds.length - (i + 1) < ds.length - i
            omega
  · refine ⟨retBs ?_, rfl, rfl⟩
    exact declsB_all hl60 (by omega) hpre

theorem DeclsOk_c (ds : List Decl) : CT 39 [.one (.ro 53 (ds.map eDecl))] [] 0 fun r S k => r = vB (declsB ds) ∧ S = [] ∧ k = 0 := by
  have hL : (ds.map eDecl).length = ds.length := List.length_map _
  refine CT.run (fun _ => false) false Try.func39 (by kernel_rfl) ?_
  conv => whnf
  intro hl
  conv => whnf
  intro _
  conv => whnf
  refine fork_dec (fun h => ?_) (fun h => ?_) <;> conv => whnf
  · exact ⟨retB (dec_f fun g => by have := g.1; omega), rfl, rfl⟩
  have hl60 : ds.length ≤ 60 := by omega
  refine ⟨Nat, fun i => ⟨[(0, .one (.ro 53 (ds.map eDecl))), (3, vI (sumD ds i)), (4, vI i)], [], 0⟩, fun i => i ≤ ds.length ∧ PreD ds i, fun i => ds.length - i, ⟨0, Le.ren [] rfl trivial ⟨rfl, rfl, rfl, trivial⟩, Nat.zero_le _, PreD.zero ds⟩, fun i hi => ?_⟩
  obtain ⟨hi, hpre⟩ := hi
  have hb := hpre.bound hi
  conv => whnf
  intro _
  conv => whnf
  refine fork_dec (fun h => ?_) (fun h => ?_) <;> conv => whnf
  · have hi' : i < ds.length := by omega
    refine gdx (by omega) h ?_
    rw [at_mapI eDecl ds hi']
    conv => whnf
    intro _
    conv => whnf
    refine CT.eq (l1Name_c ds[i].nm) ?_
    conv => whnf
    refine fork_ndec (fun h1 => ?_) (fun h1 => ?_) <;> conv => whnf
    · exact ⟨retB (declsB_bad hi' fun g => h1 g.1), rfl, rfl⟩
    refine gdx (by omega) h ?_
    rw [at_mapI eDecl ds hi']
    conv => whnf
    intro _
    conv => whnf
    refine CT.eq (l1In_c _ _ _) ?_
    conv => whnf
    refine fork_ndec (fun h2 => ?_) (fun h2 => ?_) <;> conv => whnf
    · exact ⟨retB (declsB_bad hi' fun g => h2 g.2), rfl, rfl⟩
    have hd : DeclP ds[i] := ⟨h1, h2⟩
    have h4 := hd.2
    have h5 : IntKind.i64.wrap (sumD ds i + ds[i].wd) = sumD ds (i + 1) := by rw [sumD_succ hi', wrap64] <;> omega
    refine ⟨Nat, fun k => ⟨[(0, .one (.ro 53 (ds.map eDecl))), (3, vI (sumD ds i)), (4, vI i), (5, vI k)], [], 0⟩, fun k => k ≤ i ∧ ∀ (j : Nat) (hj : j < i), j < k → (ds[j]'(Nat.lt_trans hj hi')).nm ≠ ds[i].nm, fun k => i - k, ⟨0, Le.ren [] rfl trivial ⟨rfl, rfl, rfl, rfl, trivial⟩, Nat.zero_le _, fun j hj h => by omega⟩, fun k hk => ?_⟩
    obtain ⟨hk, hall⟩ := hk
    conv => whnf
    refine fork_dec (fun h => ?_) (fun h => ?_) <;> conv => whnf
    · have hk' : k < i := by omega
      have hkl : k < ds.length := by omega
      refine gdd rfl ?_
      conv => whnf
      refine gdx (by omega) (by omega) ?_
      rw [at_mapI eDecl ds hkl]
      conv => whnf
      intro _
      conv => whnf
      refine gdx (by omega) (by omega) ?_
      rw [at_mapI eDecl ds hi']
      conv => whnf
      intro _
      conv => whnf
      refine fork_dec (fun h => ?_) (fun h => ?_) <;> conv => whnf
      · exact ⟨retB (declsB_twice hi' hk' h), rfl, rfl⟩
      · refine ⟨k + 1, Le.ren [] rfl trivial ⟨rfl, rfl, rfl, congrArg (fun x => some (vI x)) (inc (by omega)), trivial⟩, ⟨hk', fun j hj hj' => ?_⟩, ?_⟩
        · rcases (by omega : j < k ∨ j = k) with h1 | h1
          · exact hall j hj h1
          · subst h1; exact h
        · show i - (k + 1) < i - k
          omega
    · refine gdx (by omega) (by omega) ?_
      rw [at_mapI eDecl ds hi']
      conv => whnf
      intro _
      conv => whnf
      refine ⟨i + 1, Le.ren [] rfl trivial ⟨rfl, congrArg (fun x => some (vI x)) h5, congrArg (fun x => some (vI x)) (inc (by omega)), trivial⟩, ⟨hi', hpre.succ hi' hd fun j hj => hall j hj (by omega)⟩, ?_⟩
      show ds.length - (i + 1) < ds.length - i
      omega
  · refine ⟨retBs ?_, rfl, rfl⟩
    exact declsB_all hl60 (by omega) hpre

end Go.Proofs.Ytodhnbjncmihkaa.V
end

section
/- Plain: the widths of nodes. No program in sight. -/
set_option linter.unusedVariables false
namespace Go.Proofs.Ytodhnbjncmihkaa.V
open Go

def PlainP (x : TNode) : Prop := (x.op ≠ 1 → x.vr = 0) ∧ (x.op ≠ 2 → (noBits x.val).toNat = 1) ∧ (x.op ≠ 4 → x.b = 0) ∧ (x.op < 4 ∨ 9 < x.op → x.a = 0)

def ArityP (n : Nat) (x : TNode) : Prop := (x.op = 1 ∧ x.kids.length = 0 ∧ 0 ≤ x.vr ∧ x.vr < n) ∨ (x.op = 2 ∧ x.kids.length = 0 ∧ (bitsB x.val).toNat = 1) ∨ (x.op = 3 ∧ 2 ≤ x.kids.length) ∨ (4 ≤ x.op ∧ x.op ≤ 9 ∧ x.kids.length = 1)

def kidsB (x : TNode) (i : Int) : Bool := decide (∀ k ∈ x.kids, 0 ≤ k ∧ k ≤ i - 1)

def FormP (n : Nat) (x : TNode) (i : Int) : Prop := (kidsB x i).toNat = 1 ∧ PlainP x ∧ ArityP n x

instance (x : TNode) : Decidable (PlainP x) := inferInstanceAs (Decidable (_ ∧ _ ∧ _ ∧ _))

instance (n : Nat) (x : TNode) : Decidable (ArityP n x) := inferInstanceAs (Decidable (_ ∨ _ ∨ _ ∨ _))

instance (n : Nat) (x : TNode) (i : Int) : Decidable (FormP n x i) := inferInstanceAs (Decidable (_ ∧ _ ∧ _))

/-- The width of a declaration. -/
def wdAt (ds : List Decl) (v : Int) : Int := (ds.map Decl.wd).getD v.toNat 0

/-- The widths of a node's kids. -/
def kidsW (out : List Int) (ks : List Int) : List Int := ks.map fun k => out.getD k.toNat 0

/-- A sum that stops at 8192. -/
def sumC (l : List Int) : Int := l.foldl (fun t k => min 8192 (t + k)) 0

/-- The reference's width of a node that has the right form, by the sum of its kids' widths. -/
def specW (ds : List Decl) (x : TNode) (s : Int) : Int :=
  if x.op = 1 then wdAt ds x.vr else if x.op = 2 then x.val.w
  else if x.op = 4 then (if x.b < 0 ∨ x.a < x.b ∨ s ≤ x.a then -1 else x.a - x.b + 1)
  else if x.op = 5 ∨ x.op = 6 then (if 0 ≤ x.a ∧ x.a ≤ 4096 then s + x.a else -1)
  else if x.op = 7 ∨ x.op = 8 then (if 0 ≤ x.a ∧ x.a ≤ 4096 then s else -1)
  else if x.op = 9 then (if 1 ≤ x.a ∧ x.a ≤ 4096 then s * x.a else -1) else s

/-- The program's width of a node. -/
def implW (ds : List Decl) (x : TNode) (ws : List Int) : Int :=
  if x.op = 1 ∧ ws.length = 0 ∧ 0 ≤ x.vr ∧ x.vr < ds.length then wdAt ds x.vr
  else if x.op = 2 ∧ ws.length = 0 ∧ (bitsB x.val).toNat = 1 then x.val.w
  else if x.op = 3 ∧ 1 < ws.length then ws.sum
  else if ws.length ≠ 1 then -1
  else if x.op = 4 ∧ 0 ≤ x.b ∧ x.b ≤ x.a ∧ x.a < ws.getD 0 0 then x.a - x.b + 1
  else if (x.op = 5 ∨ x.op = 6) ∧ 0 ≤ x.a ∧ x.a ≤ 4096 then ws.getD 0 0 + x.a
  else if (x.op = 7 ∨ x.op = 8) ∧ 0 ≤ x.a ∧ x.a ≤ 4096 then ws.getD 0 0
  else if x.op = 9 ∧ 1 ≤ x.a ∧ x.a ≤ 4096 then ws.getD 0 0 * x.a else -1

def NodeP (ds : List Decl) (x : TNode) (out : List Int) : Prop := FormP ds.length x out.length ∧ 1 ≤ specW ds x (sumC (kidsW out x.kids)) ∧ specW ds x (sumC (kidsW out x.kids)) ≤ 4096

instance (ds : List Decl) (x : TNode) (out : List Int) : Decidable (NodeP ds x out) := inferInstanceAs (Decidable (_ ∧ _ ∧ _))

theorem kidsW_len (out ks : List Int) : (kidsW out ks).length = ks.length := by simp [kidsW]

theorem sumC_snoc (l : List Int) (k : Int) : sumC (l ++ [k]) = min 8192 (sumC l + k) := by
  simp [sumC, List.foldl_append]

theorem sumC_step (out : List Int) (ks : List Int) {i : Nat} (h : i < ks.length) : sumC (kidsW out (ks.take (i + 1))) = min 8192 (sumC (kidsW out (ks.take i)) + out.getD (ks[i]'h).toNat 0) := by
  rw [List.take_succ_eq_append_getElem h]
  simp only [kidsW, List.map_append, List.map_cons, List.map_nil]
  rw [sumC_snoc]

theorem kidsW_step (out : List Int) (ks : List Int) {i : Nat} (h : i < ks.length) : kidsW out (ks.take (i + 1)) = kidsW out (ks.take i) ++ [out.getD (ks[i]'h).toNat 0] := by
  rw [List.take_succ_eq_append_getElem h]
  simp only [kidsW, List.map_append, List.map_cons, List.map_nil]

theorem sumC_rng : ∀ (l : List Int), (∀ x ∈ l, 1 ≤ x) → 0 ≤ sumC l ∧ sumC l ≤ 8192 ∧ sumC l = min 8192 l.sum := by
  intro l
  induction hn : l.length generalizing l with
  | zero => intro _; rw [List.eq_nil_of_length_eq_zero hn]; simp [sumC]; omega
  | succ n ih =>
    intro h
    obtain ⟨l', x, rfl⟩ : ∃ l' x, l = l' ++ [x] := by
      refine ⟨l.dropLast, l.getLast (fun e => by subst e; simp at hn), (List.dropLast_concat_getLast _).symm⟩
    have h1 := ih l' (by simpa using hn) fun y hy => h y (List.mem_append.2 (.inl hy))
    have h2 := h x (List.mem_append.2 (.inr (List.mem_singleton.2 rfl)))
    rw [sumC_snoc, List.sum_append]
    simp only [List.sum_cons, List.sum_nil]
    omega

theorem sum_ge (l : List Int) (h : ∀ x ∈ l, 1 ≤ x) : (l.length : Int) ≤ l.sum := by
  induction l with
  | nil => simp
  | cons a l ih =>
    have h1 := ih fun y hy => h y (List.mem_cons_of_mem _ hy)
    have h2 := h a List.mem_cons_self
    simp only [List.length_cons, List.sum_cons]
    omega

theorem kidsW_rng {out : List Int} {x : TNode} (ho : ∀ w ∈ out, 1 ≤ w ∧ w ≤ 4096) (hk : (kidsB x out.length).toNat = 1) : ∀ w ∈ kidsW out x.kids, 1 ≤ w ∧ w ≤ 4096 := by
  intro w hw
  obtain ⟨k, hk1, rfl⟩ := List.mem_map.1 hw
  have hk : kidsB x out.length = true := by cases h : kidsB x out.length <;> rw [h] at hk <;> simp_all
  have := of_decide_eq_true hk k hk1
  have hl : k.toNat < out.length := by omega
  rw [List.getD_eq_getElem?_getD, List.getElem?_eq_getElem hl]
  exact ho _ (List.getElem_mem hl)

/-- What a width is, by the kinds of nodes: facts that omega reads. -/
theorem specW_is (ds : List Decl) (x : TNode) (s : Int) : (x.op = 1 → specW ds x s = wdAt ds x.vr) ∧ (x.op = 2 → specW ds x s = x.val.w) ∧
    (x.op = 4 → (x.b < 0 ∨ x.a < x.b ∨ s ≤ x.a) → specW ds x s = -1) ∧ (x.op = 4 → ¬ (x.b < 0 ∨ x.a < x.b ∨ s ≤ x.a) → specW ds x s = x.a - x.b + 1) ∧
    ((x.op = 5 ∨ x.op = 6) → (0 ≤ x.a ∧ x.a ≤ 4096) → specW ds x s = s + x.a) ∧ ((x.op = 5 ∨ x.op = 6) → ¬ (0 ≤ x.a ∧ x.a ≤ 4096) → specW ds x s = -1) ∧
    ((x.op = 7 ∨ x.op = 8) → (0 ≤ x.a ∧ x.a ≤ 4096) → specW ds x s = s) ∧ ((x.op = 7 ∨ x.op = 8) → ¬ (0 ≤ x.a ∧ x.a ≤ 4096) → specW ds x s = -1) ∧
    (x.op = 9 → (1 ≤ x.a ∧ x.a ≤ 4096) → specW ds x s = s * x.a) ∧ (x.op = 9 → ¬ (1 ≤ x.a ∧ x.a ≤ 4096) → specW ds x s = -1) ∧
    ((x.op < 1 ∨ 9 < x.op ∨ x.op = 3) → specW ds x s = s) := by
  unfold specW
  generalize s * x.a = p
  refine ⟨fun h => ?_, fun h => ?_, fun h g => ?_, fun h g => ?_, fun h g => ?_, fun h g => ?_, fun h g => ?_, fun h g => ?_, fun h g => ?_, fun h g => ?_, fun h => ?_⟩
  all_goals (repeat' split) <;> omega

theorem implW_is (ds : List Decl) (x : TNode) (ws : List Int) : (x.op = 1 → ws.length = 0 ∧ 0 ≤ x.vr ∧ x.vr < ds.length → implW ds x ws = wdAt ds x.vr) ∧ (x.op = 2 → ws.length = 0 ∧ (bitsB x.val).toNat = 1 → implW ds x ws = x.val.w) ∧
    (x.op = 3 → 1 < ws.length → implW ds x ws = ws.sum) ∧ (x.op = 4 → ws.length = 1 → 0 ≤ x.b ∧ x.b ≤ x.a ∧ x.a < ws.getD 0 0 → implW ds x ws = x.a - x.b + 1) ∧
    ((x.op = 5 ∨ x.op = 6) → ws.length = 1 → 0 ≤ x.a ∧ x.a ≤ 4096 → implW ds x ws = ws.getD 0 0 + x.a) ∧
    ((x.op = 7 ∨ x.op = 8) → ws.length = 1 → 0 ≤ x.a ∧ x.a ≤ 4096 → implW ds x ws = ws.getD 0 0) ∧
    (x.op = 9 → ws.length = 1 → 1 ≤ x.a ∧ x.a ≤ 4096 → implW ds x ws = ws.getD 0 0 * x.a) := by
  unfold implW
  generalize ws.getD 0 0 * x.a = p
  refine ⟨fun h g => ?_, fun h g => ?_, fun h g => ?_, fun h g f => ?_, fun h g f => ?_, fun h g f => ?_, fun h g f => ?_⟩
  · exact if_pos ⟨h, g⟩
  · rw [if_neg (fun g' => by omega), if_pos ⟨h, g⟩]
  · rw [if_neg (fun g' => by omega), if_neg (fun g' => by omega), if_pos ⟨h, g⟩]
  · rw [if_neg (fun g' => by omega), if_neg (fun g' => by omega), if_neg (fun g' => by omega), if_neg (fun g' => by omega), if_pos ⟨h, f⟩]
  · rw [if_neg (fun g' => by omega), if_neg (fun g' => by omega), if_neg (fun g' => by omega), if_neg (fun g' => by omega), if_neg (fun g' => by omega), if_pos ⟨h, f⟩]
  · rw [if_neg (fun g' => by omega), if_neg (fun g' => by omega), if_neg (fun g' => by omega), if_neg (fun g' => by omega), if_neg (fun g' => by omega), if_neg (fun g' => by omega), if_pos ⟨h, f⟩]
  · rw [if_neg (fun g' => by omega), if_neg (fun g' => by omega), if_neg (fun g' => by omega), if_neg (fun g' => by omega), if_neg (fun g' => by omega), if_neg (fun g' => by omega), if_neg (fun g' => by omega), if_pos ⟨h, f⟩]

theorem implW_no (ds : List Decl) (x : TNode) (ws : List Int) (h : 1 ≤ implW ds x ws) : (x.op = 1 ∧ ws.length = 0 ∧ 0 ≤ x.vr ∧ x.vr < ds.length) ∨ (x.op = 2 ∧ ws.length = 0 ∧ (bitsB x.val).toNat = 1) ∨ (x.op = 3 ∧ 1 < ws.length) ∨
    (ws.length = 1 ∧ ((x.op = 4 ∧ 0 ≤ x.b ∧ x.b ≤ x.a ∧ x.a < ws.getD 0 0) ∨ ((x.op = 5 ∨ x.op = 6) ∧ 0 ≤ x.a ∧ x.a ≤ 4096) ∨ ((x.op = 7 ∨ x.op = 8) ∧ 0 ≤ x.a ∧ x.a ≤ 4096) ∨ (x.op = 9 ∧ 1 ≤ x.a ∧ x.a ≤ 4096))) := by
  unfold implW at h
  split at h
  · exact .inl (by assumption)
  split at h
  · exact .inr (.inl (by assumption))
  split at h
  · exact .inr (.inr (.inl (by assumption)))
  split at h
  · exact absurd h (by decide)
  have hn : ws.length = 1 := Decidable.not_not.1 (by assumption)
  split at h
  · exact .inr (.inr (.inr ⟨hn, .inl (by assumption)⟩))
  split at h
  · exact .inr (.inr (.inr ⟨hn, .inr (.inl (by assumption))⟩))
  split at h
  · exact .inr (.inr (.inr ⟨hn, .inr (.inr (.inl (by assumption)))⟩))
  split at h
  · exact .inr (.inr (.inr ⟨hn, .inr (.inr (.inr (by assumption)))⟩))
  · exact absurd h (by decide)

theorem implW_m1 (ds : List Decl) (x : TNode) (ws : List Int) (h1 : ¬ (x.op = 1 ∧ ws.length = 0 ∧ 0 ≤ x.vr ∧ x.vr < ds.length)) (h2 : ¬ (x.op = 2 ∧ ws.length = 0 ∧ (bitsB x.val).toNat = 1)) (h3 : ¬ (x.op = 3 ∧ 1 < ws.length))
    (h4 : ¬ (ws.length = 1 ∧ ((x.op = 4 ∧ 0 ≤ x.b ∧ x.b ≤ x.a ∧ x.a < ws.getD 0 0) ∨ ((x.op = 5 ∨ x.op = 6) ∧ 0 ≤ x.a ∧ x.a ≤ 4096) ∨ ((x.op = 7 ∨ x.op = 8) ∧ 0 ≤ x.a ∧ x.a ≤ 4096) ∨ (x.op = 9 ∧ 1 ≤ x.a ∧ x.a ≤ 4096)))) : implW ds x ws = -1 := by
  unfold implW
  rw [if_neg h1, if_neg h2, if_neg h3]
  by_cases hn : ws.length = 1
  · have hn' := hn
    rw [if_neg (fun g => g hn), if_neg (fun g => h4 ⟨hn, .inl g⟩), if_neg (fun g => h4 ⟨hn, .inr (.inl g)⟩), if_neg (fun g => h4 ⟨hn, .inr (.inr (.inl g))⟩), if_neg (fun g => h4 ⟨hn, .inr (.inr (.inr g))⟩)]
  · rw [if_pos hn]

theorem ops {n : Int} (h1 : 4 ≤ n) (h2 : n ≤ 9) : n = 4 ∨ (n = 5 ∨ n = 6) ∨ (n = 7 ∨ n = 8) ∨ n = 9 := by omega

/-- The program's answer for a node is the reference's. -/
theorem node_both {ds : List Decl} {out : List Int} {x : TNode} (ho : ∀ w ∈ out, 1 ≤ w ∧ w ≤ 4096) (hk : (kidsB x out.length).toNat = 1) :
    (NodeP ds x out ↔ PlainP x ∧ 1 ≤ implW ds x (kidsW out x.kids) ∧ implW ds x (kidsW out x.kids) ≤ 4096) ∧ (NodeP ds x out → implW ds x (kidsW out x.kids) = specW ds x (sumC (kidsW out x.kids))) := by
  have hr := kidsW_rng ho hk
  have hl := kidsW_len out x.kids
  have h1 := sumC_rng (kidsW out x.kids) fun w hw => (hr w hw).1
  have h0 : x.kids.length = 1 → (kidsW out x.kids).getD 0 0 = (kidsW out x.kids).sum ∧ 1 ≤ (kidsW out x.kids).sum ∧ (kidsW out x.kids).sum ≤ 4096 := by
    intro h
    rw [← hl] at h
    obtain ⟨w, hw⟩ := List.length_eq_one_iff.1 h
    rw [hw] at hr ⊢
    have := hr w (List.mem_singleton.2 rfl)
    simp
    omega
  generalize hs : sumC (kidsW out x.kids) = s at h1
  generalize hS : (kidsW out x.kids).sum = S at h1 h0
  generalize hg : (kidsW out x.kids).getD 0 0 = g at h0
  have he : x.kids.length = 1 → g * x.a = s * x.a := fun h => by obtain ⟨e1, e2, e3⟩ := h0 h; rw [show g = s by omega]
  have A := specW_is ds x s
  have B := implW_is ds x (kidsW out x.kids)
  have N := implW_no ds x (kidsW out x.kids)
  rw [hg, hl] at N
  rw [hg, hl, hS] at B
  unfold NodeP FormP
  rw [hs]
  generalize specW ds x s = W at *
  generalize implW ds x (kidsW out x.kids) = W' at *
  generalize s * x.a = p at *
  generalize g * x.a = q at *
  by_cases hP : PlainP x
  rotate_left
  · exact ⟨⟨fun h => absurd h.1.2.1 hP, fun h => absurd h.1 hP⟩, fun h => absurd h.1.2.1 hP⟩
  obtain ⟨A1, A2, A3, A4, A5, A6, A7, A8, A9, A10, A11⟩ := A
  obtain ⟨B1, B2, B3, B4, B5, B6, B7⟩ := B
  have F : (ArityP ds.length x ∧ 1 ≤ W ∧ W ≤ 4096 → W' = W) ∧ (1 ≤ W' ∧ W' ≤ 4096 → ArityP ds.length x ∧ W = W') := by
    unfold ArityP
    constructor
    · rintro ⟨h | h | h | ⟨h1, h2, h3⟩, h4, h5⟩
      · have := A1 h.1; have := B1 h.1 h.2; clear A1 A2 A3 A4 A5 A6 A7 A8 A9 A10 A11 B1 B2 B3 B4 B5 B6 B7 N h0 he; omega
      · have := A2 h.1; have := B2 h.1 h.2; clear A1 A2 A3 A4 A5 A6 A7 A8 A9 A10 A11 B1 B2 B3 B4 B5 B6 B7 N h0 he; omega
      · have := A11 (.inr (.inr h.1)); have := B3 h.1 h.2; clear A1 A2 A3 A4 A5 A6 A7 A8 A9 A10 A11 B1 B2 B3 B4 B5 B6 B7 N h0 he; omega
      · have := h0 h3
        have := he h3
        rcases (ops h1 h2) with h | h | h | h
        · have := A3 h; have := A4 h; have := B4 h h3; clear A1 A2 A3 A4 A5 A6 A7 A8 A9 A10 A11 B1 B2 B3 B4 B5 B6 B7 N h0 he; omega
        · have := A5 h; have := A6 h; have := B5 h h3; clear A1 A2 A3 A4 A5 A6 A7 A8 A9 A10 A11 B1 B2 B3 B4 B5 B6 B7 N h0 he; omega
        · have := A7 h; have := A8 h; have := B6 h h3; clear A1 A2 A3 A4 A5 A6 A7 A8 A9 A10 A11 B1 B2 B3 B4 B5 B6 B7 N h0 he; omega
        · have := A9 h; have := A10 h; have := B7 h h3; clear A1 A2 A3 A4 A5 A6 A7 A8 A9 A10 A11 B1 B2 B3 B4 B5 B6 B7 N h0 he; omega
    · rintro ⟨h4, h5⟩
      rcases N h4 with h | h | h | ⟨h3, h | h | h | h⟩
      · have := A1 h.1; have := B1 h.1 h.2; clear A1 A2 A3 A4 A5 A6 A7 A8 A9 A10 A11 B1 B2 B3 B4 B5 B6 B7 N h0 he; exact ⟨.inl h, by omega⟩
      · have := A2 h.1; have := B2 h.1 h.2; clear A1 A2 A3 A4 A5 A6 A7 A8 A9 A10 A11 B1 B2 B3 B4 B5 B6 B7 N h0 he; exact ⟨.inr (.inl h), by omega⟩
      · have := A11 (.inr (.inr h.1)); have := B3 h.1 h.2; clear A1 A2 A3 A4 A5 A6 A7 A8 A9 A10 A11 B1 B2 B3 B4 B5 B6 B7 N h0 he; exact ⟨.inr (.inr (.inl ⟨h.1, by omega⟩)), by omega⟩
      · have := h0 h3; have := A4 h.1 (by have := h.2; clear A1 A2 A3 A4 A5 A6 A7 A8 A9 A10 A11 B1 B2 B3 B4 B5 B6 B7 N h0 he; omega); have := B4 h.1 h3 h.2; clear A1 A2 A3 A4 A5 A6 A7 A8 A9 A10 A11 B1 B2 B3 B4 B5 B6 B7 N h0 he; exact ⟨.inr (.inr (.inr ⟨by omega, by omega, h3⟩)), by omega⟩
      · have := h0 h3; have := A5 h.1 h.2; have := B5 h.1 h3 h.2; clear A1 A2 A3 A4 A5 A6 A7 A8 A9 A10 A11 B1 B2 B3 B4 B5 B6 B7 N h0 he; exact ⟨.inr (.inr (.inr ⟨by omega, by omega, h3⟩)), by omega⟩
      · have := h0 h3; have := A7 h.1 h.2; have := B6 h.1 h3 h.2; clear A1 A2 A3 A4 A5 A6 A7 A8 A9 A10 A11 B1 B2 B3 B4 B5 B6 B7 N h0 he; exact ⟨.inr (.inr (.inr ⟨by omega, by omega, h3⟩)), by omega⟩
      · have := he h3; have := A9 h.1 h.2; have := B7 h.1 h3 h.2; clear A1 A2 A3 A4 A5 A6 A7 A8 A9 A10 A11 B1 B2 B3 B4 B5 B6 B7 N h0 he; exact ⟨.inr (.inr (.inr ⟨by omega, by omega, h3⟩)), by omega⟩
  refine ⟨⟨fun h => ?_, fun h => ?_⟩, fun h => ?_⟩
  · rw [F.1 ⟨h.1.2.2, h.2⟩]
    exact ⟨hP, h.2⟩
  · have g := F.2 h.2
    rw [g.2]
    exact ⟨⟨hk, hP, g.1⟩, h.2⟩
  · exact F.1 ⟨h.1.2.2, h.2⟩

end Go.Proofs.Ytodhnbjncmihkaa.V
end

section
/- What each of these functions comes to: widths of nodes. -/
set_option linter.unusedVariables false
set_option maxRecDepth 100000
namespace Go.Proofs.Ytodhnbjncmihkaa.V
open Go

theorem nb_t {b : Bool} (h : b = true) : b.toNat = 1 := by subst h; rfl

theorem nb_f {b : Bool} (h : b = false) : b.toNat = 0 := by subst h; rfl

abbrev pNode (x : TNode) : V := .one (.rptr [.int .i64, .int .i64, .int .i64, .int .i64, .int .i64, .sl 86, .sl 2] (eNode x) 0)

theorem nbits (b : Bits) : (noBits b).toNat = 1 ↔ b.w = 0 ∧ b.ws.length = 0 := by
  unfold noBits
  by_cases h : b.w = 0 ∧ b.ws = []
  · rw [dec_t h]; exact ⟨fun _ => ⟨h.1, by rw [h.2]; rfl⟩, fun _ => rfl⟩
  · rw [dec_f h]; exact ⟨fun e => by simp at e, fun e => absurd ⟨e.1, List.eq_nil_of_length_eq_zero e.2⟩ h⟩

/-- A node's fields, as the machine reads them. -/
theorem fld (x : TNode) : ((eNode x).getD (0 + 0) default).int = x.op ∧ ((eNode x).getD (0 + 1) default).int = x.vr ∧ ((eNode x).getD (0 + 2) default).int = x.a ∧ ((eNode x).getD (0 + 3) default).int = x.b ∧ ((eNode x).getD (0 + 4 + 0) default).int = x.val.w ∧ ((eNode x).getD (0 + 4 + 1) default).rows.length = x.val.ws.length ∧ ((eNode x).getD (0 + 5) default).rows.length = x.val.ws.length ∧ ((eNode x).getD (0 + 6) default).rows.length = x.kids.length := ⟨rfl, rfl, rfl, rfl, rfl, List.length_map _, List.length_map _, List.length_map _⟩

theorem plain_i (x : TNode) : CT 61 [pNode x] [] 0 fun r S k => r = vB (decide (PlainP x)) ∧ S = [] ∧ k = 0 := by
  obtain ⟨g0, g1, g2, g3, g4, g5, g6, g7⟩ := fld x
  have hb := nbits x.val
  refine CT.run (fun _ => false) false Try.func61 (by kernel_rfl) ?_
  conv => whnf
  unfold PlainP
  repeat' (first
    | (exfalso; omega)
    | (refine fork_ndec (fun h => ?_) (fun h => ?_) <;> conv => whnf)
    | (refine fork_dec (fun h => ?_) (fun h => ?_) <;> conv => whnf)
    | (refine fork_not (fun h => ?_) (fun h => ?_) <;> conv => whnf)
    | (refine fork_any (fun h => ?_) (fun h => ?_) <;> conv => whnf)
    
    | (intro h; conv => whnf))
  all_goals
    first
      | exact ⟨retB (dec_f (by omega)), rfl, rfl⟩
      | exact ⟨retB (dec_t (by omega)), rfl, rfl⟩
      | exact ⟨retBs (decide_eq_decide.2 (by omega)), rfl, rfl⟩
end Go.Proofs.Ytodhnbjncmihkaa.V
end

section
/- What each of these functions comes to: the program's width of a node. -/
set_option linter.unusedVariables false
set_option maxRecDepth 100000
namespace Go.Proofs.Ytodhnbjncmihkaa.V
open Go

theorem wrapSub {a b : Int} (h0 : 0 ≤ b) (h1 : b ≤ a ∧ a ≤ 4096) : IntKind.i64.wrap (IntKind.i64.wrap (a - b) + 1) = a - b + 1 := by
  rw [wrap64 (n := a - b) (by omega) (by omega), wrap64 (by omega) (by omega)]

theorem mulW {a b : Int} (h0 : 0 ≤ a ∧ a ≤ 4096) (h1 : 0 ≤ b ∧ b ≤ 4096) : IntKind.i64.wrap (a * b) = a * b := by
  have e1 := Int.mul_nonneg h0.1 h1.1
  have e2 : a * b ≤ 4096 * 4096 := Int.mul_le_mul h0.2 h1.2 h1.1 (by decide)
  exact wrap64 (by omega) (by omega)

theorem sum_take_step (l : List Int) {k : Nat} (h : k < l.length) : (l.take (k + 1)).sum = (l.take k).sum + l[k]'h := by
  rw [List.take_succ_eq_append_getElem h, List.sum_append]
  simp

theorem sum_bound (l : List Int) (h : ∀ w ∈ l, 1 ≤ w ∧ w ≤ 4096) : ∀ {k : Nat}, k ≤ l.length → 0 ≤ (l.take k).sum ∧ (l.take k).sum ≤ 4096 * k := by
  intro k
  induction k with
  | zero => intro _; simp
  | succ k ih =>
    intro hk
    have := ih (by omega)
    have h1 := h _ (List.getElem_mem (show k < l.length by omega))
    rw [sum_take_step l (show k < l.length by omega)]
    omega

theorem getD0 (l : List Int) (h : 0 < l.length) : l.getD 0 0 = l[0]'h := by
  cases l with
  | nil => simp at h
  | cons a l => rfl

theorem fork_tn {p : Bool} {A B : Prop} (h1 : p.toNat = 1 → A) (h2 : p.toNat = 0 → B) : (p = true → A) ∧ (p = false → B) := ⟨fun h => h1 (nb_t h), fun h => h2 (nb_f h)⟩

theorem wdAt_is (ds : List Decl) (v : Int) : (((ds.map eDecl).getD v.toNat []).getD (0 + 1) default).int = wdAt ds v := by
  unfold wdAt
  simp only [List.getD, List.getElem?_map]
  cases ds[v.toNat]? <;> rfl

set_option maxHeartbeats 3200000 in
theorem width_i (ds : List Decl) (x : TNode) (ws : List Int) (hw : ∀ w ∈ ws, 1 ≤ w ∧ w ≤ 4096) (hl : ws.length ≤ 4096) (hd : ds.length ≤ 60) : CT 60 [pNode x, .one (.ro 53 (ds.map eDecl)), .one (.ro 2 (ws.map eI))] [] 0 fun r S k => r = vI (implW ds x ws) ∧ S = [] ∧ k = 0 := by
  obtain ⟨g0, g1, g2, g3, g4, g5, g6, g7⟩ := fld x
  have hL : (ds.map eDecl).length = ds.length := List.length_map _
  have hW : (ws.map eI).length = ws.length := List.length_map _
  have hwl : IntKind.i64.wrap (((ds.map eDecl).length : Int) - 1) = ds.length - 1 := by rw [wrap64] <;> omega
  have hB := BitsOk_i x.val
  have hM := Done.mk (implW_m1 ds x ws)
  have B := Done.mk (implW_is ds x ws)
  have hg : ((eI (ws.getD 0 0)).getD 0 default).int = ws.getD 0 0 := rfl
  have h0 : 0 < ws.length → 1 ≤ ws.getD 0 0 ∧ ws.getD 0 0 ≤ 4096 := fun h => by rw [getD0 ws h]; exact hw _ (List.getElem_mem h)
  generalize bitsB x.val = bv at hB hM B
  refine CT.run (fun _ => false) false Try.func60 (by kernel_rfl) ?_
  conv => whnf
  intro _
  conv => whnf
  intro _
  conv => whnf
  intro _
  conv => whnf
  refine fork_dec (fun h => ?_) (fun h => ?_) <;> conv => whnf
  · refine gdx (by omega) (by omega) ?_
    rw [show (ws.map eI).getD (Int.toNat 0) [] = eI (ws.getD 0 0) from (at_map eI ws (k := 0) (by omega)).trans (congrArg eI (getD0 ws (by omega)).symm)]
    have h0 := h0 (by omega)
    conv => whnf
    repeat' (first
      | (exfalso; omega)
      | (refine fork_ndec (fun h => ?_) (fun h => ?_) <;> conv => whnf)
      | (refine fork_dec (fun h => ?_) (fun h => ?_) <;> conv => whnf)
      | (refine fork_not (fun h => ?_) (fun h => ?_) <;> conv => whnf)
      | (refine fork_tn (fun h => ?_) (fun h => ?_) <;> conv => whnf)
      | (refine CT.eq (inside_c _ _ _) ?_; conv => whnf) | (refine CT.eq hB ?_; conv => whnf) | (refine gdd rfl ?_; conv => whnf) | (refine act1 rfl ?_ True.intro; conv => whnf)
      | (intro h; conv => whnf))
    all_goals first
      | exact ⟨congrArg vI (hM.h (by omega) (by omega) (by omega) (by omega)).symm, rfl, rfl⟩
      | exact ⟨congrArg vI (B.h.2.2.2.1 (by omega) (by omega) (by omega) ▸ wrapSub (by omega) (by omega)), rfl, rfl⟩
      | exact ⟨congrArg vI ((wrap64 (by omega) (by omega)).trans (B.h.2.2.2.2.1 (by omega) (by omega) (by omega) ▸ rfl)), rfl, rfl⟩
      | exact ⟨congrArg vI (B.h.2.2.2.2.2.1 (by omega) (by omega) (by omega)).symm, rfl, rfl⟩
      | exact ⟨congrArg vI (B.h.2.1 (by omega) (by omega)).symm, rfl, rfl⟩
      | exact ⟨congrArg vI ((wdAt_is ds x.vr).trans (B.h.1 (by omega) (by omega)).symm), rfl, rfl⟩
      | exact ⟨congrArg vI ((mulW (by omega) (by omega)).trans (B.h.2.2.2.2.2.2 (by omega) (by omega) (by omega)).symm), rfl, rfl⟩
      | (refine ⟨Nat, fun k => ⟨[(8, vI (ws.take k).sum), (80, .one (.ro 2 (ws.map eI))), (81, vI ((ws.map eI).length : Int)), (82, vI k)], [], 0⟩, fun k => k ≤ ws.length, fun k => ws.length - k, ⟨0, Le.ren [] rfl trivial ⟨rfl, rfl, rfl, rfl, trivial⟩, Nat.zero_le _⟩, fun k hk => ?_⟩
         have hs := sum_bound ws hw (k := k) hk
         conv => whnf
         refine fork_dec (fun h => ?_) (fun h => ?_) <;> conv => whnf
         · have hk' : k < ws.length := by omega
           refine gdx (by omega) h ?_
           rw [at_mapI eI ws hk']
           conv => whnf
           intro _
           conv => whnf
           have hw1 := hw _ (List.getElem_mem hk')
           refine ⟨k + 1, Le.ren [] rfl trivial ⟨congrArg (fun x => some (vI x)) ?_, rfl, rfl, congrArg (fun x => some (vI x)) (inc (by omega)), trivial⟩, hk', ?_⟩
           · rw [sum_take_step ws hk']
             exact wrap64 (by show _ ≤ _ + ws[k]; omega) (by show _ + ws[k] ≤ _; omega)
           · show ws.length - (k + 1) < ws.length - k
             omega
         · refine ⟨congrArg vI ?_, rfl, rfl⟩
           rw [List.take_of_length_le (by omega)]
           exact (B.h.2.2.1 (by omega) (by omega)).symm)
  · repeat' (first
      | (exfalso; omega)
      | (refine fork_ndec (fun h => ?_) (fun h => ?_) <;> conv => whnf)
      | (refine fork_dec (fun h => ?_) (fun h => ?_) <;> conv => whnf)
      | (refine fork_not (fun h => ?_) (fun h => ?_) <;> conv => whnf)
      | (refine fork_tn (fun h => ?_) (fun h => ?_) <;> conv => whnf)
      | (refine CT.eq (inside_c _ _ _) ?_; conv => whnf) | (refine CT.eq hB ?_; conv => whnf) | (refine gdd rfl ?_; conv => whnf) | (refine act1 rfl ?_ True.intro; conv => whnf) | (refine gdx (by omega) (by omega) ?_; conv => whnf)
      | (intro h; conv => whnf))
    all_goals first
      | exact ⟨congrArg vI (hM.h (by omega) (by omega) (by omega) (by omega)).symm, rfl, rfl⟩
      | exact ⟨congrArg vI (B.h.2.2.2.1 (by omega) (by omega) (by omega) ▸ wrapSub (by omega) (by omega)), rfl, rfl⟩
      | exact ⟨congrArg vI ((wrap64 (by omega) (by omega)).trans (B.h.2.2.2.2.1 (by omega) (by omega) (by omega) ▸ rfl)), rfl, rfl⟩
      | exact ⟨congrArg vI (B.h.2.2.2.2.2.1 (by omega) (by omega) (by omega)).symm, rfl, rfl⟩
      | exact ⟨congrArg vI (B.h.2.1 (by omega) (by omega)).symm, rfl, rfl⟩
      | exact ⟨congrArg vI ((wdAt_is ds x.vr).trans (B.h.1 (by omega) (by omega)).symm), rfl, rfl⟩
      | exact ⟨congrArg vI ((mulW (by omega) (by omega)).trans (B.h.2.2.2.2.2.2 (by omega) (by omega) (by omega)).symm), rfl, rfl⟩
      | (refine ⟨Nat, fun k => ⟨[(8, vI (ws.take k).sum), (80, .one (.ro 2 (ws.map eI))), (81, vI ((ws.map eI).length : Int)), (82, vI k)], [], 0⟩, fun k => k ≤ ws.length, fun k => ws.length - k, ⟨0, Le.ren [] rfl trivial ⟨rfl, rfl, rfl, rfl, trivial⟩, Nat.zero_le _⟩, fun k hk => ?_⟩
         have hs := sum_bound ws hw (k := k) hk
         conv => whnf
         refine fork_dec (fun h => ?_) (fun h => ?_) <;> conv => whnf
         · have hk' : k < ws.length := by omega
           refine gdx (by omega) h ?_
           rw [at_mapI eI ws hk']
           conv => whnf
           intro _
           conv => whnf
           have hw1 := hw _ (List.getElem_mem hk')
           refine ⟨k + 1, Le.ren [] rfl trivial ⟨congrArg (fun x => some (vI x)) ?_, rfl, rfl, congrArg (fun x => some (vI x)) (inc (by omega)), trivial⟩, hk', ?_⟩
           · rw [sum_take_step ws hk']
             exact wrap64 (by show _ ≤ _ + ws[k]; omega) (by show _ + ws[k] ≤ _; omega)
           · show ws.length - (k + 1) < ws.length - k
             omega
         · refine ⟨congrArg vI ?_, rfl, rfl⟩
           rw [List.take_of_length_le (by omega)]
           exact (B.h.2.2.1 (by omega) (by omega)).symm)
end Go.Proofs.Ytodhnbjncmihkaa.V
end

section
/- What each of these functions comes to: the reference's form and width of a node. -/
set_option linter.unusedVariables false
set_option maxRecDepth 100000
namespace Go.Proofs.Ytodhnbjncmihkaa.V
open Go

theorem fork_ntn {p : Bool} {A B : Prop} (h1 : p.toNat = 0 → A) (h2 : p.toNat = 1 → B) : ((!p) = true → A) ∧ ((!p) = false → B) := by
  cases p
  · exact ⟨fun _ => h1 rfl, fun h => by simp at h⟩
  · exact ⟨fun h => by simp at h, fun _ => h2 rfl⟩

theorem tn_dec (p : Prop) [Decidable p] : (decide p).toNat = 1 ↔ p := by
  by_cases h : p
  · rw [dec_t h]; exact ⟨fun _ => h, fun _ => rfl⟩
  · rw [dec_f h]; exact ⟨fun e => by simp at e, fun e => absurd e h⟩

theorem tn_f {b : Bool} (h : b.toNat ≠ 1) : b = false := by cases b <;> simp_all

theorem tn_t {b : Bool} (h : b.toNat = 1) : b = true := by cases b <;> simp_all

theorem tn_eq {b : Bool} {p : Prop} [Decidable p] (h : b.toNat = 1 ↔ p) : b = decide p := by
  by_cases hp : p
  · rw [dec_t hp]; exact tn_t (h.2 hp)
  · rw [dec_f hp]; exact tn_f fun g => hp (h.1 g)

theorem tn_eqb {b c : Bool} (h : b.toNat = 1 ↔ c.toNat = 1) : b = c := by cases b <;> cases c <;> simp_all

theorem kidsB_bad {x : TNode} {i : Int} {k : Nat} (hk : k < x.kids.length) (h : ¬ (0 ≤ x.kids[k] ∧ x.kids[k] ≤ i - 1)) : (kidsB x i).toNat = 0 := nb_f (dec_f fun g => h (g _ (List.getElem_mem hk)))

theorem kidsB_all {x : TNode} {i : Int} (h : ∀ (k : Nat) (hk : k < x.kids.length), 0 ≤ x.kids[k] ∧ x.kids[k] ≤ i - 1) : (kidsB x i).toNat = 1 := nb_t (dec_t fun k hk => by obtain ⟨j, hj, rfl⟩ := List.mem_iff_getElem.1 hk; exact h j hj)

set_option maxHeartbeats 3200000 in
theorem l3Form_c (ds : List Decl) (x : TNode) (i : Nat) (hi : i ≤ 400) (hd : ds.length ≤ 60) : CT 40 [.one (.ro 53 (ds.map eDecl)), vNode x, vI i] [] 0 fun r S k => r = vB (decide (FormP ds.length x i)) ∧ S = [] ∧ k = 0 := by
  have hL : (ds.map eDecl).length = ds.length := List.length_map _
  have hK : (x.kids.map eI).length = x.kids.length := List.length_map _
  have hwl : IntKind.i64.wrap (((ds.map eDecl).length : Int) - 1) = ds.length - 1 := by rw [wrap64] <;> omega
  have hwi : IntKind.i64.wrap ((i : Int) - 1) = i - 1 := by rw [wrap64] <;> omega
  refine CT.run (fun _ => false) false Try.func40 (by kernel_rfl) ?_
  conv => whnf
  repeat (intro _; conv => whnf)
  refine ⟨Nat, fun k => ⟨[(0, .one (.ro 53 (ds.map eDecl))), (2, vI i), (4, .one (.ptr 0 0 0 0)), (7, vI k)], [(0, .box 52 [lI x.op, lI x.vr, lI x.a, lI x.b, lI x.val.w, rU x.val.ws, rI x.kids])], 1⟩, fun k => k ≤ x.kids.length ∧ ∀ (j : Nat) (hj : j < x.kids.length), j < k → 0 ≤ x.kids[j] ∧ x.kids[j] ≤ i - 1, fun k => x.kids.length - k, ⟨0, Le.ren [0] rfl ⟨⟨rfl, rfl⟩, trivial⟩ ⟨rfl, rfl, rfl, rfl, trivial⟩, Nat.zero_le _, fun j hj h => by omega⟩, fun k hk => ?_⟩
  obtain ⟨hk, hall⟩ := hk
  conv => whnf
  intro _
  conv => whnf
  refine fork_dec (fun h => ?_) (fun h => ?_) <;> conv => whnf
  · have hk' : k < x.kids.length := by omega
    refine gdx (by omega) h ?_
    rw [at_mapI eI x.kids hk']
    conv => whnf
    intro _
    conv => whnf
    refine CT.eq (l1In_c _ _ _) ?_
    conv => whnf
    refine fork_ndec (fun h => ?_) (fun h => ?_) <;> conv => whnf
    · have := kidsB_bad (i := i) hk' (fun g => h (by rw [hwi]; exact g))
      exact ⟨retB (dec_f fun g => by have := g.1; omega), rfl, rfl⟩
    · refine ⟨k + 1, Le.ren [0] rfl ⟨⟨rfl, rfl⟩, trivial⟩ ⟨rfl, rfl, rfl, congrArg (fun x => some (vI x)) (inc (by omega)), trivial⟩, ⟨hk', fun j hj hj' => ?_⟩, ?_⟩
      · rcases (by omega : j < k ∨ j = k) with h1 | h1
        · exact hall j hj h1
        · subst h1
          rw [hwi] at h
          exact h
      · show x.kids.length - (k + 1) < x.kids.length - k
        omega
  · have hkb : (kidsB x i).toNat = 1 := kidsB_all fun j hj => hall j hj (by omega)
    have hN := l3NoBits_c x.val
    have hB := BitsOk_c x.val
    have hF : (decide (FormP ds.length x i)).toNat = 1 ↔ FormP ds.length x i := tn_dec _
    generalize decide (FormP ds.length x i) = fb at hF ⊢
    simp only [FormP, PlainP, ArityP] at hF
    generalize bitsB x.val = bv at hB hF
    generalize noBits x.val = nv at hN hF
    generalize kidsB x i = kv at hkb hF
    clear hall
    repeat' (first
      | (exfalso; omega)
      | (refine fork_ndec (fun h => ?_) (fun h => ?_) <;> conv => whnf)
      | (refine fork_dec (fun h => ?_) (fun h => ?_) <;> conv => whnf)
      | (refine fork_ntn (fun h => ?_) (fun h => ?_) <;> conv => whnf)
      | (refine fork_tn (fun h => ?_) (fun h => ?_) <;> conv => whnf)
      | (refine CT.eq (l1In_c _ _ _) ?_; conv => whnf) | (refine CT.eq hB ?_; conv => whnf) | (refine CT.eq hN ?_; conv => whnf) | (refine CT.eq (l3One_c _) ?_; conv => whnf)
      | (intro h; conv => whnf))
    all_goals first
      | exact ⟨retB (tn_f (by omega)), rfl, rfl⟩
      | exact ⟨retB (tn_t (by omega)), rfl, rfl⟩
      | exact ⟨retBs (tn_eq (by omega)), rfl, rfl⟩
      | exact ⟨retBs (tn_eqb (by omega)), rfl, rfl⟩

end Go.Proofs.Ytodhnbjncmihkaa.V
end

section
/- What each of these functions comes to: the reference's width of a node. -/
set_option linter.unusedVariables false
set_option maxRecDepth 100000
namespace Go.Proofs.Ytodhnbjncmihkaa.V
open Go

theorem minW {a b : Int} (h0 : 0 ≤ a ∧ a ≤ 8192) (h1 : 0 ≤ b ∧ b ≤ 4096) : (if IntKind.i64.wrap (a + b) < 8192 then IntKind.i64.wrap (a + b) else 8192) = min 8192 (a + b) := by
  rw [wrap64 (by omega) (by omega)]
  split <;> omega

theorem mulW' {a b : Int} (h0 : 0 ≤ a ∧ a ≤ 8192) (h1 : 0 ≤ b ∧ b ≤ 4096) : IntKind.i64.wrap (a * b) = a * b := by
  have e1 := Int.mul_nonneg h0.1 h1.1
  have e2 : a * b ≤ 8192 * 4096 := Int.mul_le_mul h0.2 h1.2 h1.1 (by decide)
  exact wrap64 (by omega) (by omega)

theorem wrapSub' {a b : Int} (h0 : 0 ≤ b) (h1 : b ≤ a ∧ a ≤ 8192) : IntKind.i64.wrap (IntKind.i64.wrap (a - b) + 1) = a - b + 1 := by
  rw [wrap64 (n := a - b) (by omega) (by omega), wrap64 (by omega) (by omega)]

set_option maxHeartbeats 3200000 in
theorem l3Wide_c (ds : List Decl) (x : TNode) (out : List Int) (hf : FormP ds.length x out.length) (ho : ∀ w ∈ out, 1 ≤ w ∧ w ≤ 4096) (hi : out.length ≤ 400) (hd : ds.length ≤ 60) : CT 41 [.one (.ro 53 (ds.map eDecl)), vNode x, .one (.ro 2 (out.map eI))] [] 0 fun r S k => r = vI (specW ds x (sumC (kidsW out x.kids))) ∧ S = [] ∧ k = 0 := by
  have hL : (ds.map eDecl).length = ds.length := List.length_map _
  have hO : (out.map eI).length = out.length := List.length_map _
  have hK : (x.kids.map eI).length = x.kids.length := List.length_map _
  refine CT.run (fun _ => false) false Try.func41 (by kernel_rfl) ?_
  conv => whnf
  repeat (intro _; conv => whnf)
  have hkb : ∀ (k : Nat) (hk : k < x.kids.length), 0 ≤ x.kids[k] ∧ x.kids[k] ≤ out.length - 1 := fun k hk => of_decide_eq_true (tn_t hf.1) _ (List.getElem_mem hk)
  obtain ⟨sk, hsk⟩ : ∃ sk : Nat → Int, ∀ k, sk k = sumC (kidsW out (x.kids.take k)) := ⟨_, fun _ => rfl⟩
  have hs0 : sk 0 = 0 := hsk 0
  refine ⟨Nat, fun k => ⟨[(0, .one (.ro 53 (ds.map eDecl))), (2, .one (.ro 2 (out.map eI))), (4, .one (.ptr 0 0 0 0)), (7, vI (sk k)), (8, vI k)], [(0, .box 52 [lI x.op, lI x.vr, lI x.a, lI x.b, lI x.val.w, rU x.val.ws, rI x.kids])], 1⟩, fun k => k ≤ x.kids.length, fun k => x.kids.length - k, ⟨0, Le.ren [0] rfl ⟨⟨rfl, rfl⟩, trivial⟩ ⟨rfl, rfl, rfl, congrArg (fun x => some (vI x)) hs0.symm, rfl, trivial⟩, Nat.zero_le _⟩, fun k hk => ?_⟩
  have hk : k ≤ x.kids.length := hk
  have hr : 0 ≤ sk k ∧ sk k ≤ 8192 := by
    rw [hsk]
    have := sumC_rng (kidsW out (x.kids.take k)) fun w hw => by
      obtain ⟨j, hj, rfl⟩ := List.mem_map.1 hw
      obtain ⟨i, hi, rfl⟩ := List.mem_iff_getElem.1 (List.mem_of_mem_take hj)
      have := hkb i hi
      have hl : x.kids[i].toNat < out.length := by omega
      rw [List.getD_eq_getElem?_getD, List.getElem?_eq_getElem hl]
      exact (ho _ (List.getElem_mem hl)).1
    omega
  conv => whnf
  intro _
  conv => whnf
  refine fork_dec (fun h => ?_) (fun h => ?_) <;> conv => whnf
  · have hk' : k < x.kids.length := by omega
    have hb := hkb k hk'
    have hl : x.kids[k].toNat < out.length := by omega
    refine gdx (by omega) h ?_
    rw [at_mapI eI x.kids hk']
    conv => whnf
    intro _
    conv => whnf
    refine gdx (by show 0 ≤ x.kids[k]; omega) (by show x.kids[k] < _; omega) ?_
    rw [show (out.map eI).getD (Int.toNat ((eI x.kids[k]).getD 0 default).int) [] = eI (out.getD x.kids[k].toNat 0) from (at_map eI out hl).trans (congrArg eI (by rw [List.getD_eq_getElem?_getD, List.getElem?_eq_getElem hl]; rfl))]
    conv => whnf
    intro _
    conv => whnf
    have hw : 1 ≤ out.getD x.kids[k].toNat 0 ∧ out.getD x.kids[k].toNat 0 ≤ 4096 := by
      rw [List.getD_eq_getElem?_getD, List.getElem?_eq_getElem hl]
      exact ho _ (List.getElem_mem hl)
    refine ⟨k + 1, Le.ren [0] rfl ⟨⟨rfl, rfl⟩, trivial⟩ ⟨rfl, rfl, rfl, congrArg (fun x => some (vI x)) ?_, congrArg (fun x => some (vI x)) (inc (by omega)), trivial⟩, hk', ?_⟩
    · rw [hsk (k + 1), sumC_step out x.kids hk', ← hsk k]
      exact minW (b := out.getD x.kids[k].toNat 0) hr (by omega)
    · show x.kids.length - (k + 1) < x.kids.length - k
      omega
  · have he : x.kids.take k = x.kids := List.take_of_length_le (by omega)
    have hse : sumC (kidsW out x.kids) = sk k := by rw [hsk k, he]
    rw [hse]
    have A := Done.mk (specW_is ds x (sk k))
    obtain ⟨hf1, hf2, hf3⟩ := hf
    unfold ArityP at hf3
    clear hkb hf1 hf2 hs0
    repeat' (first
      | (exfalso; omega)
      | (refine fork_ndec (fun h => ?_) (fun h => ?_) <;> conv => whnf)
      | (refine fork_dec (fun h => ?_) (fun h => ?_) <;> conv => whnf)
      | (refine fork_ntn (fun h => ?_) (fun h => ?_) <;> conv => whnf)
      | (refine fork_tn (fun h => ?_) (fun h => ?_) <;> conv => whnf)
      | (refine CT.eq (l1In_c _ _ _) ?_; conv => whnf) | (refine gdx (by omega) (by omega) ?_; conv => whnf)
      | (intro h; conv => whnf))
    all_goals first
      | exact ⟨congrArg vI ((wdAt_is ds x.vr).trans (A.h.1 (by omega)).symm), rfl, rfl⟩
      | exact ⟨congrArg vI (A.h.2.1 (by omega)).symm, rfl, rfl⟩
      | exact ⟨congrArg vI (A.h.2.2.1 (by omega) (by omega)).symm, rfl, rfl⟩
      | exact ⟨congrArg vI ((wrapSub' (by omega) (by omega)).trans (A.h.2.2.2.1 (by omega) (by omega)).symm), rfl, rfl⟩
      | exact ⟨congrArg vI ((wrap64 (by omega) (by omega)).trans (A.h.2.2.2.2.1 (by omega) (by omega)).symm), rfl, rfl⟩
      | exact ⟨congrArg vI (A.h.2.2.2.2.2.1 (by omega) (by omega)).symm, rfl, rfl⟩
      | exact ⟨congrArg vI (A.h.2.2.2.2.2.2.1 (by omega) (by omega)).symm, rfl, rfl⟩
      | exact ⟨congrArg vI (A.h.2.2.2.2.2.2.2.1 (by omega) (by omega)).symm, rfl, rfl⟩
      | exact ⟨congrArg vI ((mulW' (by omega) (by omega)).trans (A.h.2.2.2.2.2.2.2.2.1 (by omega) (by omega)).symm), rfl, rfl⟩
      | exact ⟨congrArg vI (A.h.2.2.2.2.2.2.2.2.2.1 (by omega) (by omega)).symm, rfl, rfl⟩
      | exact ⟨congrArg vI (A.h.2.2.2.2.2.2.2.2.2.2 (by omega)).symm, rfl, rfl⟩
end Go.Proofs.Ytodhnbjncmihkaa.V
end

section
/- Plain: the widths of a term. No program in sight. -/
set_option linter.unusedVariables false
namespace Go.Proofs.Ytodhnbjncmihkaa.V
open Go

abbrev nW (ds : List Decl) (x : TNode) (out : List Int) : Int := specW ds x (sumC (kidsW out x.kids))

/-- The widths of the first nodes. -/
def outs (ds : List Decl) (ns : List TNode) : Nat → List Int
  | 0 => []
  | i + 1 => match ns[i]? with | some x => outs ds ns i ++ [nW ds x (outs ds ns i)] | none => outs ds ns i

theorem outs_succ {ds : List Decl} {ns : List TNode} {i : Nat} (h : i < ns.length) : outs ds ns (i + 1) = outs ds ns i ++ [nW ds (ns[i]'h) (outs ds ns i)] := by
  rw [outs, List.getElem?_eq_getElem h]

theorem outs_len {ds : List Decl} {ns : List TNode} : ∀ {i : Nat}, i ≤ ns.length → (outs ds ns i).length = i := by
  intro i
  induction i with
  | zero => intro _; rfl
  | succ i ih => intro h; rw [outs_succ (by omega), List.length_append, ih (by omega)]; rfl

/-- The first nodes are right. -/
def PreT (ds : List Decl) (ns : List TNode) (i : Nat) : Prop := ∀ (k : Nat) (hk : k < ns.length), k < i → NodeP ds (ns[k]'hk) (outs ds ns k)

theorem PreT.succ {ds : List Decl} {ns : List TNode} {i : Nat} (h : PreT ds ns i) (hi : i < ns.length) (hn : NodeP ds (ns[i]'hi) (outs ds ns i)) : PreT ds ns (i + 1) := fun k hk hk' => by
  rcases (by omega : k < i ∨ k = i) with h1 | h1
  · exact h k hk h1
  · subst h1; exact hn

theorem PreT.rng {ds : List Decl} {ns : List TNode} : ∀ {i : Nat}, PreT ds ns i → i ≤ ns.length → ∀ w ∈ outs ds ns i, 1 ≤ w ∧ w ≤ 4096 := by
  intro i
  induction i with
  | zero => intro _ _ w hw; simp [outs] at hw
  | succ i ih =>
    intro h hi w hw
    rw [outs_succ (by omega)] at hw
    rcases List.mem_append.1 hw with h1 | h1
    · exact ih (fun k hk hk' => h k hk (by omega)) (by omega) w h1
    · rw [List.mem_singleton] at h1
      subst h1
      exact (h i (by omega) (by omega)).2

def UsedP (ns : List TNode) (j : Nat) : Prop := ∃ x ∈ ns, (j : Int) ∈ x.kids

instance (ns : List TNode) (j : Nat) : Decidable (UsedP ns j) := inferInstanceAs (Decidable (∃ x ∈ ns, (j : Int) ∈ x.kids))

theorem UsedP.step {ns : List TNode} {i j : Nat} (h : i < ns.length) : UsedP (ns.take (i + 1)) j ↔ UsedP (ns.take i) j ∨ (j : Int) ∈ (ns[i]'h).kids := by
  unfold UsedP
  rw [List.take_succ_eq_append_getElem h]
  constructor
  · rintro ⟨x, hx, hj⟩
    rcases List.mem_append.1 hx with h1 | h1
    · exact .inl ⟨x, h1, hj⟩
    · rw [List.mem_singleton] at h1; subst h1; exact .inr hj
  · rintro (⟨x, hx, hj⟩ | hj)
    · exact ⟨x, List.mem_append.2 (.inl hx), hj⟩
    · exact ⟨_, List.mem_append.2 (.inr (List.mem_singleton.2 rfl)), hj⟩

def TermP (ds : List Decl) (ns : List TNode) : Prop := 1 ≤ ns.length ∧ ns.length ≤ 400 ∧ PreT ds ns ns.length ∧ ∀ j, j + 1 < ns.length → UsedP ns j

noncomputable instance (ds : List Decl) (ns : List TNode) : Decidable (TermP ds ns) := Classical.propDecidable _

/-- The widths that the reference tells: none where something is wrong. -/
noncomputable def widthsL (ds : List Decl) (ns : List TNode) : List Int := if DeclsP ds ∧ TermP ds ns then outs ds ns ns.length else []

theorem widthsL_no {ds : List Decl} {ns : List TNode} (h : ¬ (DeclsP ds ∧ TermP ds ns)) : widthsL ds ns = [] := if_neg h

theorem widthsL_yes {ds : List Decl} {ns : List TNode} (h : DeclsP ds ∧ TermP ds ns) : widthsL ds ns = outs ds ns ns.length := if_pos h

/-- Marks: which nodes are kids. -/
def MarkP (ns : List TNode) (us : List Bool) (i m : Nat) : Prop := us.length = ns.length ∧ ∀ j, j < ns.length → (us.getD j false = true ↔ UsedP (ns.take i) j ∨ ∃ x, ns[i]? = some x ∧ (j : Int) ∈ x.kids.take m)

theorem MarkP.zero (ns : List TNode) : MarkP ns (List.replicate ns.length false) 0 0 := ⟨List.length_replicate, fun j hj => by
  constructor
  · intro h
    rw [List.getD_eq_getElem?_getD, List.getElem?_replicate] at h
    simp [hj] at h
  · rintro (⟨x, hx, _⟩ | ⟨x, _, hx⟩)
    · simp at hx
    · simp at hx⟩

theorem MarkP.step {ns : List TNode} {us : List Bool} {i m : Nat} (h : MarkP ns us i m) (hi : i < ns.length) (hm : m < (ns[i]'hi).kids.length) (hr : 0 ≤ (ns[i]'hi).kids[m] ∧ (ns[i]'hi).kids[m] < ns.length) : MarkP ns (us.set ((ns[i]'hi).kids[m]).toNat true) i (m + 1) := by
  refine ⟨by rw [List.length_set]; exact h.1, fun j hj => ?_⟩
  have h2 := h.2 j hj
  rw [List.getElem?_eq_getElem hi] at h2 ⊢
  rw [List.getD_eq_getElem?_getD] at h2
  rw [List.getD_eq_getElem?_getD, List.getElem?_set]
  by_cases e : (ns[i]'hi).kids[m].toNat = j
  · rw [if_pos e, if_pos (by rw [h.1]; omega)]
    refine ⟨fun _ => .inr ⟨_, rfl, ?_⟩, fun _ => rfl⟩
    rw [List.take_succ_eq_append_getElem hm]
    refine List.mem_append.2 (.inr (List.mem_singleton.2 ?_))
    omega
  · rw [if_neg e, h2]
    constructor
    · rintro (g | ⟨x, hx, g⟩)
      · exact .inl g
      · cases hx
        refine .inr ⟨_, rfl, ?_⟩
        rw [List.take_succ_eq_append_getElem hm]
        exact List.mem_append.2 (.inl g)
    · rintro (g | ⟨x, hx, g⟩)
      · exact .inl g
      · cases hx
        rw [List.take_succ_eq_append_getElem hm] at g
        rcases List.mem_append.1 g with g | g
        · exact .inr ⟨_, rfl, g⟩
        · rw [List.mem_singleton] at g
          omega

theorem MarkP.next {ns : List TNode} {us : List Bool} {i m : Nat} (h : MarkP ns us i m) (hi : i < ns.length) (hm : (ns[i]'hi).kids.length ≤ m) : MarkP ns us (i + 1) 0 := by
  refine ⟨h.1, fun j hj => ?_⟩
  rw [h.2 j hj, UsedP.step hi, List.getElem?_eq_getElem hi]
  constructor
  · rintro (g | ⟨x, hx, g⟩)
    · exact .inl (.inl g)
    · cases hx
      rw [List.take_of_length_le hm] at g
      exact .inl (.inr g)
  · rintro ((g | g) | ⟨x, _, g⟩)
    · exact .inl g
    · exact .inr ⟨_, rfl, by rw [List.take_of_length_le hm]; exact g⟩
    · simp at g

theorem MarkP.all {ns : List TNode} {us : List Bool} {i : Nat} (h : MarkP ns us i 0) (hi : ns.length ≤ i) {j : Nat} (hj : j < ns.length) : us.getD j false = true ↔ UsedP ns j := by
  rw [h.2 j hj, List.take_of_length_le hi]
  constructor
  · rintro (g | ⟨x, _, g⟩)
    · exact g
    · simp at g
  · exact .inl

/-- The row of widths, where the first are told. -/
def wrow (ds : List Decl) (ns : List TNode) (i : Nat) : List Int := outs ds ns i ++ List.replicate (ns.length - i) 0

theorem wrow_len {ds : List Decl} {ns : List TNode} {i : Nat} (h : i ≤ ns.length) : (wrow ds ns i).length = ns.length := by
  rw [wrow, List.length_append, outs_len h, List.length_replicate]; omega

theorem wrow_set {ds : List Decl} {ns : List TNode} {i : Nat} (h : i < ns.length) : (wrow ds ns i).set i (nW ds (ns[i]'h) (outs ds ns i)) = wrow ds ns (i + 1) := by
  have hl := outs_len (ds := ds) (Nat.le_of_lt h)
  unfold wrow
  rw [List.set_append_right _ _ (by omega), hl, Nat.sub_self, outs_succ h, show ns.length - i = (ns.length - (i + 1)) + 1 by omega, List.replicate_succ, List.set_cons_zero, List.append_assoc]
  rfl

theorem wrow_get {ds : List Decl} {ns : List TNode} {i k : Nat} (h : i ≤ ns.length) (hk : k < i) : (wrow ds ns i).getD k 0 = (outs ds ns i).getD k 0 := by
  have hl := outs_len (ds := ds) h
  unfold wrow
  rw [List.getD_eq_getElem?_getD, List.getElem?_append_left (by omega), ← List.getD_eq_getElem?_getD]

theorem wrow_all (ds : List Decl) (ns : List TNode) : wrow ds ns ns.length = outs ds ns ns.length := by
  simp [wrow]

/-- The row of a node's kids' widths, where the first are told. -/
def krow (out ks : List Int) (m : Nat) : List Int := kidsW out (ks.take m) ++ List.replicate (ks.length - m) 0

theorem krow_len {out ks : List Int} {m : Nat} (h : m ≤ ks.length) : (krow out ks m).length = ks.length := by
  rw [krow, List.length_append, kidsW_len, List.length_take, List.length_replicate]; omega

theorem krow_set {out ks : List Int} {m : Nat} (h : m < ks.length) : (krow out ks m).set m (out.getD (ks[m]'h).toNat 0) = krow out ks (m + 1) := by
  have hl : (kidsW out (ks.take m)).length = m := by rw [kidsW_len, List.length_take]; omega
  unfold krow
  rw [List.set_append_right _ _ (by omega), hl, Nat.sub_self, kidsW_step out ks h, show ks.length - m = (ks.length - (m + 1)) + 1 by omega, List.replicate_succ, List.set_cons_zero, List.append_assoc]
  rfl

theorem krow_all {out ks : List Int} {m : Nat} (h : ks.length ≤ m) : krow out ks m = kidsW out ks := by
  rw [krow, List.take_of_length_le h, Nat.sub_eq_zero_of_le h]; simp

theorem node_kids {ds : List Decl} {x : TNode} {out : List Int} (ho : ∀ w ∈ out, 1 ≤ w ∧ w ≤ 4096) (h : NodeP ds x out) : x.kids.length ≤ 4096 := by
  have hr := kidsW_rng ho h.1.1
  have h1 := sumC_rng (kidsW out x.kids) fun w hw => (hr w hw).1
  have h2 := sum_ge (kidsW out x.kids) fun w hw => (hr w hw).1
  rw [kidsW_len] at h2
  have h3 := h.1.2.2
  have h4 := (specW_is ds x (sumC (kidsW out x.kids))).2.2.2.2.2.2.2.2.2.2
  have h5 := h.2.2
  unfold ArityP at h3
  rcases h3 with h3 | h3 | h3 | h3
  · omega
  · omega
  · have := h4 (.inr (.inr h3.1))
    omega
  · omega

theorem TermP.at {ds : List Decl} {ns : List TNode} (h : TermP ds ns) {i : Nat} (hi : i < ns.length) : NodeP ds (ns[i]'hi) (outs ds ns i) := h.2.2.1 i hi hi

theorem TermP.not {ds : List Decl} {ns : List TNode} {i : Nat} (hi : i < ns.length) (h : ¬ NodeP ds (ns[i]'hi) (outs ds ns i)) : ¬ TermP ds ns := fun g => h (g.at hi)

end Go.Proofs.Ytodhnbjncmihkaa.V
end

section
/- What each of these functions comes to: the reference's widths of a term. -/
set_option linter.unusedVariables false
set_option maxRecDepth 100000
namespace Go.Proofs.Ytodhnbjncmihkaa.V
open Go

abbrev eBl (b : Bool) : List D := [dB b]

set_option maxHeartbeats 3200000 in
theorem l3Widths_c (ds : List Decl) (ns : List TNode) : CT 29 [.one (.ro 53 (ds.map eDecl)), .agg [.ro 52 (ns.map eNode)]] [] 0 fun r S k => r = .one (.all 0 0) ∧ S = [(0, .row 2 .tree 0 ((widthsL ds ns).map eI))] ∧ k = 1 := by
  have hL : (ds.map eDecl).length = ds.length := List.length_map _
  have hN : (ns.map eNode).length = ns.length := List.length_map _
  refine CT.run (fun _ => true) false Try.func29 (by kernel_rfl) ?_
  conv => whnf
  repeat (intro _; conv => whnf)
  refine CT.eq (DeclsOk_c ds) ?_
  conv => whnf
  refine fork_ndec (fun hD => ?_) (fun hD => ?_) <;> conv => whnf
  · exact ⟨rfl, congrArg (fun x => [(0, O.row 2 .tree 0 (x.map eI))]) (widthsL_no fun g => hD g.1).symm, rfl⟩
  intro _
  conv => whnf
  refine fork_dec (fun h => ?_) (fun h1 => ?_) <;> conv => whnf
  · exact ⟨rfl, congrArg (fun x => [(0, O.row 2 .tree 0 (x.map eI))]) (widthsL_no fun g => by have := g.2.1; omega).symm, rfl⟩
  intro _
  conv => whnf
  refine fork_dec (fun h => ?_) (fun h2 => ?_) <;> conv => whnf
  · exact ⟨rfl, congrArg (fun x => [(0, O.row 2 .tree 0 (x.map eI))]) (widthsL_no fun g => by have := g.2.2.1; omega).symm, rfl⟩
  have hd : ds.length ≤ 60 := hD.1
  intro _
  conv => whnf
  refine gdm rfl (by omega) (by show 1 * ((ns.map eNode).length : Int) ≤ _; omega) ?_
  conv => whnf
  have hz : List.replicate ns.length [dB false] = (List.replicate ns.length false).map eBl := by rw [List.map_replicate]
  refine ⟨Nat × List Bool, fun y => ⟨[(0, .one (.ro 53 (ds.map eDecl))), (3, .one (.ptr 0 0 0 0)), (5, .one (.all 1 0)), (6, .one (.all 2 0)), (7, .one (.all 3 0)), (8, vI y.1)], [(0, .box 34 [.ro 52 (ns.map eNode)]), (1, .row 2 .tree 0 []), (2, .row 2 .tree 0 ((outs ds ns y.1).map eI)), (3, .row 4 .tree 0 (y.2.map eBl))], 4⟩, fun y => y.1 ≤ ns.length ∧ PreT ds ns y.1 ∧ MarkP ns y.2 y.1 0, fun y => ns.length - y.1, ⟨(0, List.replicate ns.length false), Le.ren [0, 1, 2, 3] rfl ⟨⟨rfl, rfl⟩, ⟨rfl, rfl⟩, ⟨rfl, rfl⟩, ⟨rfl, ?_⟩, trivial⟩ ⟨rfl, rfl, rfl, rfl, rfl, rfl, trivial⟩, Nat.zero_le _, fun k hk h => by omega, MarkP.zero ns⟩, ?_⟩
  · rw [← hz, ← hN]
    rfl
  rintro ⟨i, us⟩ ⟨hi, hp, hm⟩
  dsimp only at hi hp hm
  have ho := hp.rng hi
  have hol := outs_len (ds := ds) hi
  conv => whnf
  intro _
  conv => whnf
  refine fork_dec (fun h => ?_) (fun h => ?_) <;> conv => whnf
  · have hi' : i < ns.length := by omega
    refine gdx (by omega) h ?_
    rw [at_mapI eNode ns hi']
    conv => whnf
    repeat (intro _; conv => whnf)
    refine CT.eq (l3Form_c ds ns[i] i (by omega) hd) ?_
    conv => whnf
    refine fork_ndec (fun hF => ?_) (fun hF => ?_) <;> conv => whnf
    · exact ⟨rfl, congrArg (fun x => [(0, O.row 2 .tree 0 (x.map eI))]) (widthsL_no fun g => hF (by have := (g.2.2.2.1 i hi' hi').1; rwa [hol] at this)).symm, rfl⟩
    refine gdx (by omega) h ?_
    rw [at_mapI eNode ns hi']
    conv => whnf
    repeat (intro _; conv => whnf)
    refine CT.eq (l3Wide_c ds ns[i] (outs ds ns i) (by rw [hol]; exact hF) ho (by omega) hd) ?_
    conv => whnf
    refine CT.eq (l1In_c _ _ _) ?_
    conv => whnf
    refine fork_ndec (fun hW => ?_) (fun hW => ?_) <;> conv => whnf
    · exact ⟨rfl, congrArg (fun x => [(0, O.row 2 .tree 0 (x.map eI))]) (widthsL_no fun g => hW (g.2.2.2.1 i hi' hi').2).symm, rfl⟩
    have hlo : ((outs ds ns i).map eI).length = i := (List.length_map _).trans hol
    refine gdn (by show (((outs ds ns i).map eI).length + 1) * 8 ≤ _; omega) ?_
    conv => whnf
    have hout : (outs ds ns i).map eI ++ [eI (nW ds ns[i] (outs ds ns i))] = (outs ds ns (i + 1)).map eI := by rw [outs_succ hi', List.map_append]; rfl
    have hfk : ∀ (k : Nat) (hk : k < ns[i].kids.length), 0 ≤ ns[i].kids[k] ∧ ns[i].kids[k] ≤ i - 1 := fun k hk => of_decide_eq_true (tn_t hF.1) _ (List.getElem_mem hk)
    have hK : (ns[i].kids.map eI).length = ns[i].kids.length := List.length_map _
    refine ⟨Nat × List Bool, fun y => ⟨[(0, .one (.ro 53 (ds.map eDecl))), (3, .one (.ptr 0 0 0 0)), (5, .one (.all 1 0)), (6, .one (.all 2 0)), (7, .one (.all 3 0)), (8, vI i), (10, vI y.1)], [(0, .box 34 [.ro 52 (ns.map eNode)]), (1, .row 2 .tree 0 []), (2, .row 2 .tree 0 ((outs ds ns (i + 1)).map eI)), (3, .row 4 .tree 0 (y.2.map eBl))], 4⟩, fun y => y.1 ≤ ns[i].kids.length ∧ MarkP ns y.2 i y.1, fun y => ns[i].kids.length - y.1, ⟨(0, us), Le.ren0 [0, 1, 2, 3] rfl ⟨⟨rfl, rfl⟩, ⟨rfl, rfl⟩, ⟨rfl, congrArg (fun x => some (O.row 2 .tree 0 x)) hout⟩, ⟨rfl, rfl⟩, trivial⟩ ⟨rfl, rfl, rfl, rfl, rfl, rfl, rfl, trivial⟩, Nat.zero_le _, hm⟩, ?_⟩
    rintro ⟨k, us⟩ ⟨hk, hm⟩
    dsimp only at hk hm
    conv => whnf
    refine gdx (by omega) h ?_
    rw [at_mapI eNode ns hi']
    conv => whnf
    repeat (intro _; conv => whnf)
    refine fork_dec (fun h' => ?_) (fun h' => ?_) <;> conv => whnf
    · have h' : (k : Int) < ((ns[i].kids.map eI).length : Int) := h'
      have hk' : k < ns[i].kids.length := by omega
      have hfk := hfk k hk'
      refine gdx (by omega) h ?_
      rw [at_mapI eNode ns hi']
      conv => whnf
      repeat (intro _; conv => whnf)
      refine gdx (by omega) h' ?_
      rw [show ((eNode ns[i]).getD (0 + 5 + 1) default).rows = ns[i].kids.map eI from rfl, at_mapI eI ns[i].kids hk']
      conv => whnf
      intro _
      conv => whnf
      have hus : (us.map eBl).length = ns.length := (List.length_map _).trans hm.1
      refine gdx (by show 0 ≤ ns[i].kids[k]; omega) (by show ns[i].kids[k] < ((us.map eBl).length : Int); omega) ?_
      conv => whnf
      have hst : (us.map eBl).set ns[i].kids[k].toNat (eBl true) = (us.set ns[i].kids[k].toNat true).map eBl := by rw [List.map_set]
      refine ⟨(k + 1, us.set ns[i].kids[k].toNat true), Le.ren0 [0, 1, 2, 3] rfl ⟨⟨rfl, rfl⟩, ⟨rfl, rfl⟩, ⟨rfl, rfl⟩, ⟨rfl, congrArg (fun x => some (O.row 4 .tree 0 x)) ?_⟩, trivial⟩ ⟨rfl, rfl, rfl, rfl, rfl, rfl, congrArg (fun x => some (vI x)) (inc (by omega)), trivial⟩, ⟨hk', hm.step hi' hk' ⟨hfk.1, by omega⟩⟩, ?_⟩
      · exact hst
      · show ns[i].kids.length - (k + 1) < ns[i].kids.length - k
        omega
    · have h' : ¬ (k : Int) < ((ns[i].kids.map eI).length : Int) := h'
      have hN' : NodeP ds ns[i] (outs ds ns i) := ⟨by rw [hol]; exact hF, hW⟩
      refine ⟨(i + 1, us), Le.ren0 [0, 1, 2, 3] rfl ⟨⟨rfl, rfl⟩, ⟨rfl, rfl⟩, ⟨rfl, rfl⟩, ⟨rfl, rfl⟩, trivial⟩ ⟨rfl, rfl, rfl, rfl, rfl, congrArg (fun x => some (vI x)) (inc (by omega)), trivial⟩, ⟨hi', hp.succ hi' hN', hm.next hi' (by omega)⟩, ?_⟩
      show ns.length - (i + 1) < ns.length - i
      omega
  · have hin : i = ns.length := by omega
    subst hin
    refine ⟨Nat, fun j => ⟨[(5, .one (.all 0 0)), (6, .one (.all 1 0)), (7, .one (.all 2 0)), (11, vI j)], [(0, .row 2 .tree 0 []), (1, .row 2 .tree 0 ((outs ds ns ns.length).map eI)), (2, .row 4 .tree 0 (us.map eBl))], 3⟩, fun j => j < ns.length ∧ ∀ k, k < j → UsedP ns k, fun j => ns.length - j, ⟨0, Le.ren0 [1, 2, 3] rfl ⟨⟨rfl, rfl⟩, ⟨rfl, rfl⟩, ⟨rfl, rfl⟩, trivial⟩ ⟨rfl, rfl, rfl, rfl, trivial⟩, ⟨by omega, fun k h => by omega⟩⟩, fun j hj => ?_⟩
    obtain ⟨hj, hall⟩ := hj
    have hus : (us.map eBl).length = ns.length := (List.length_map _).trans hm.1
    conv => whnf
    intro _
    have einc := inc (k := j) (by omega)
    conv => whnf
    refine fork_dec (fun h => ?_) (fun h => ?_) <;> conv => whnf
    · rw [einc] at h
      have hj' : j < us.length := by have := hm.1; omega
      refine gdx (by omega) (by omega) ?_
      conv => whnf
      refine fork_not (fun hb => ?_) (fun hb => ?_) <;> rw [at_mapI eBl us hj'] at hb <;> conv => whnf
      · exact ⟨rfl, congrArg (fun x => [(0, O.row 2 .tree 0 (x.map eI))]) (widthsL_no fun g => by have h1 := (hm.all (Nat.le_refl _) hj).2 (g.2.2.2.2 j (by omega)); rw [List.getD_eq_getElem?_getD, List.getElem?_eq_getElem hj'] at h1; have hb : us[j] = false := hb; rw [show (some us[j]).getD false = us[j] from rfl, hb] at h1; cases h1).symm, rfl⟩
      · refine ⟨j + 1, Le.ren0 [0, 1, 2] rfl ⟨⟨rfl, rfl⟩, ⟨rfl, rfl⟩, ⟨rfl, rfl⟩, trivial⟩ ⟨rfl, rfl, rfl, congrArg (fun x => some (vI x)) einc, trivial⟩, ⟨by omega, fun k hk => ?_⟩, ?_⟩
        · rcases (by omega : k < j ∨ k = j) with h1 | h1
          · exact hall k h1
          · subst h1
            refine (hm.all (Nat.le_refl _) hj).1 ?_
            rw [List.getD_eq_getElem?_getD, List.getElem?_eq_getElem hj']
            exact hb
        · show ns.length - (j + 1) < ns.length - j
          omega
    · rw [einc] at h
      refine ⟨rfl, congrArg (fun x => [(0, O.row 2 .tree 0 (x.map eI))]) (widthsL_yes ⟨hD, by omega, by omega, hp, fun k hk => hall k (by omega)⟩).symm, rfl⟩

end Go.Proofs.Ytodhnbjncmihkaa.V
end

section
/- What each of these functions comes to: the program's widths of a term. -/
set_option linter.unusedVariables false
set_option maxRecDepth 100000
namespace Go.Proofs.Ytodhnbjncmihkaa.V
open Go

theorem TermP.kid {ds : List Decl} {ns : List TNode} (h : TermP ds ns) {i : Nat} (hi : i < ns.length) {m : Nat} (hm : m < (ns[i]'hi).kids.length) : 0 ≤ (ns[i]'hi).kids[m] ∧ (ns[i]'hi).kids[m] ≤ i - 1 := by
  have := of_decide_eq_true (tn_t (h.at hi).1.1) _ (List.getElem_mem hm)
  rwa [outs_len (Nat.le_of_lt hi)] at this

theorem VC.castA {P : Program} {T : TypeId → Option TI} {f : FuncId} {args args' : List V} {S : Sto} {nx : Nat} {post : V → Sto → Nat → Prop} (ea : args' = args) (h : VC P T f args S nx post) : VC P T f args' S nx post := by
  subst ea; exact h

theorem indexB_c (l : List Bool) (b : Bool) : CT 78 [.one (.ro 4 (l.map eBl)), .one (.kb b)] [] 0 fun r S k => ∃ n : Int, (0 ≤ n ↔ b ∈ l) ∧ r = vI n ∧ S = [] ∧ k = 0 := by
  have hL : (l.map eBl).length = l.length := List.length_map _
  refine CT.run (fun _ => true) false Try.func78 (by kernel_rfl) ?_
  conv => whnf
  repeat (intro _; conv => whnf)
  refine ⟨Nat, fun k => ⟨[(0, .one (.ro 4 (l.map eBl))), (1, vB b), (7, vI ((l.map eBl).length : Int)), (8, vI k)], [], 0⟩, fun k => k ≤ l.length ∧ ∀ (j : Nat) (hj : j < l.length), j < k → l[j] ≠ b, fun k => l.length - k, ⟨0, Le.ren0 [] rfl trivial ⟨rfl, rfl, rfl, rfl, trivial⟩, Nat.zero_le _, fun j hj h => by omega⟩, fun k hk => ?_⟩
  obtain ⟨hk, hall⟩ := hk
  conv => whnf
  refine fork_dec (fun h => ?_) (fun h => ?_) <;> conv => whnf
  · have hk' : k < l.length := by omega
    refine gdx (by omega) h ?_
    rw [at_mapI eBl l hk']
    conv => whnf
    refine fork_dec (fun hb => ?_) (fun hb => ?_) <;> conv => whnf
    · have hb : b = l[k] := hb
      exact ⟨k, ⟨fun _ => by rw [hb]; exact List.getElem_mem hk', fun _ => by omega⟩, rfl, rfl, rfl⟩
    · have hb : ¬ b = l[k] := hb
      refine ⟨k + 1, Le.ren0 [] rfl trivial ⟨rfl, rfl, rfl, congrArg (fun x => some (vI x)) (inc (by omega)), trivial⟩, ⟨hk', fun j hj hj' => ?_⟩, ?_⟩
      · rcases (by omega : j < k ∨ j = k) with g | g
        · exact hall j hj g
        · subst g; exact fun e => hb e.symm
      · show l.length - (k + 1) < l.length - k
        omega
  · refine ⟨-1, ⟨fun g => absurd g (by decide), fun g => ?_⟩, rfl, rfl, rfl⟩
    obtain ⟨j, hj, e⟩ := List.mem_iff_getElem.1 g
    exact absurd e (hall j hj (by omega))

theorem containsB_c (l : List Bool) (b : Bool) : CT 62 [.one (.ro 4 (l.map eBl)), .one (.kb b)] [] 0 fun r S k => r = vB (decide (b ∈ l)) ∧ S = [] ∧ k = 0 := by
  refine CT.run (fun _ => true) false Try.func62 (by kernel_rfl) ?_
  conv => whnf
  repeat (intro _; conv => whnf)
  refine CT.then (indexB_c l b) ?_
  rintro r S k ⟨n, hn, rfl, rfl, rfl⟩
  conv => whnf
  exact ⟨retBs (decide_eq_decide.2 hn.symm), rfl, rfl⟩

set_option maxHeartbeats 3200000 in
theorem widths_i (ds : List Decl) (ns : List TNode) (hD : DeclsP ds) : CT 48 [.one (.ro 53 (ds.map eDecl)), .agg [.ro 52 (ns.map eNode)]] [] 0 fun r S k => ∃ L : List Int, (TermP ds ns → L = outs ds ns ns.length) ∧ r = .tup [.one (.all 0 0), vB (decide (TermP ds ns))] ∧ S = [(0, .row 2 .tree 0 (L.map eI))] ∧ k = 1 := by
  have hL : (ds.map eDecl).length = ds.length := List.length_map _
  have hN : (ns.map eNode).length = ns.length := List.length_map _
  have hd : ds.length ≤ 60 := hD.1
  refine CT.run (fun _ => true) false Try.func48 (by kernel_rfl) ?_
  conv => whnf
  repeat (intro _; conv => whnf)
  refine fork_dec (fun h1 => ?_) (fun h1 => ?_) <;> conv => whnf
  · exact ⟨[], fun g => absurd g (fun g => by have := g.1; omega), congrArg (fun b => V.tup [.one (.all 0 0), vB b]) (dec_f (fun g => by have := g.1; omega)).symm, rfl, rfl⟩
  refine fork_dec (fun h2 => ?_) (fun h2 => ?_) <;> conv => whnf
  · exact ⟨[], fun g => absurd g (fun g => by have := g.2.1; omega), congrArg (fun b => V.tup [.one (.all 0 0), vB b]) (dec_f (fun g => by have := g.2.1; omega)).symm, rfl, rfl⟩
  refine gdd rfl ?_
  conv => whnf
  have hm8 : (8 : Int) * ((ns.map eNode).length : Int) ≤ 140737488355328 := by omega
  have hm1 : (1 : Int) * ((ns.map eNode).length : Int) ≤ 140737488355328 := by omega
  have hz : List.replicate (ns.map eNode).length [dB false] = (List.replicate ns.length false).map eBl := by rw [List.map_replicate, hN]
  have hzw : List.replicate (ns.map eNode).length [dI 0] = (wrow ds ns 0).map eI := by rw [wrow, outs, List.nil_append, List.map_replicate, hN]; rfl
  repeat' (first
    | exact True.intro
    | (refine gdm rfl (by omega) (by first | exact hm8 | exact hm1) ?_; conv => whnf)
    | (refine act1 rfl ?_ ?_ <;> conv => whnf)
    | (intro h; (conv => whnf); clear h))
  refine ⟨Nat × List Bool, fun y => ⟨[(0, .one (.ro 53 (ds.map eDecl))), (3, .one (.ptr 0 0 0 0)), (6, vI ((ns.map eNode).length : Int)), (7, .one (.all 1 0)), (8, .one (.all 2 0)), (29, vI ((ns.map eNode).length : Int)), (30, vI y.1)], [(0, .box 34 [.ro 52 (ns.map eNode)]), (1, .row 2 .tree 0 ((wrow ds ns y.1).map eI)), (2, .row 4 .tree 0 (y.2.map eBl))], 3⟩, fun y => y.1 ≤ ns.length ∧ PreT ds ns y.1 ∧ MarkP ns y.2 y.1 0, fun y => ns.length - y.1, ⟨(0, List.replicate ns.length false), Le.ren0 [0, 1, 2] rfl ⟨⟨rfl, rfl⟩, ⟨rfl, congrArg (fun x => some (O.row 2 .tree 0 x)) hzw⟩, ⟨rfl, congrArg (fun x => some (O.row 4 .tree 0 x)) hz⟩, trivial⟩ ⟨rfl, rfl, rfl, rfl, rfl, rfl, rfl, trivial⟩, Nat.zero_le _, fun k hk h => by omega, MarkP.zero ns⟩, ?body⟩
  rotate_left
  refine ⟨Nat × List Bool, fun y => ⟨[(0, .one (.ro 53 (ds.map eDecl))), (3, .one (.ptr 0 0 0 0)), (6, vI ((ns.map eNode).length : Int)), (7, .one (.all 1 0)), (8, .one (.all 2 0)), (29, vI ((ns.map eNode).length : Int)), (30, vI y.1)], [(0, .box 34 [.ro 52 (ns.map eNode)]), (1, .row 2 .tree 0 ((wrow ds ns y.1).map eI)), (2, .row 4 .tree 0 (y.2.map eBl))], 3⟩, fun y => y.1 ≤ ns.length ∧ PreT ds ns y.1 ∧ MarkP ns y.2 y.1 0, fun y => ns.length - y.1, ⟨(0, List.replicate ns.length false), Le.ren0 [0, 1, 2] rfl ⟨⟨rfl, rfl⟩, ⟨rfl, congrArg (fun x => some (O.row 2 .tree 0 x)) hzw⟩, ⟨rfl, congrArg (fun x => some (O.row 4 .tree 0 x)) hz⟩, trivial⟩ ⟨rfl, rfl, rfl, rfl, rfl, rfl, rfl, trivial⟩, Nat.zero_le _, fun k hk h => by omega, MarkP.zero ns⟩, ?body⟩
  refine ⟨Nat × List Bool, fun y => ⟨[(0, .one (.ro 53 (ds.map eDecl))), (3, .one (.ptr 0 0 0 0)), (6, vI ((ns.map eNode).length : Int)), (7, .one (.all 1 0)), (8, .one (.all 2 0)), (29, vI ((ns.map eNode).length : Int)), (30, vI y.1)], [(0, .box 34 [.ro 52 (ns.map eNode)]), (1, .row 2 .tree 0 ((wrow ds ns y.1).map eI)), (2, .row 4 .tree 0 (y.2.map eBl))], 3⟩, fun y => y.1 ≤ ns.length ∧ PreT ds ns y.1 ∧ MarkP ns y.2 y.1 0, fun y => ns.length - y.1, ⟨(0, List.replicate ns.length false), Le.ren0 [0, 2, 1] rfl ⟨⟨rfl, rfl⟩, ⟨rfl, congrArg (fun x => some (O.row 2 .tree 0 x)) hzw⟩, ⟨rfl, congrArg (fun x => some (O.row 4 .tree 0 x)) hz⟩, trivial⟩ ⟨rfl, rfl, rfl, rfl, rfl, rfl, rfl, trivial⟩, Nat.zero_le _, fun k hk h => by omega, MarkP.zero ns⟩, ?body⟩
  rintro ⟨i, us⟩ ⟨hi, hp, hm⟩
  dsimp only at hi hp hm
  have ho := hp.rng hi
  have hol := outs_len (ds := ds) hi
  have hwl : ((wrow ds ns i).map eI).length = ns.length := (List.length_map _).trans (wrow_len hi)
  conv => whnf
  refine fork_dec (fun h => ?_) (fun h => ?_) <;> conv => whnf
  rotate_left
  · have hin : i = ns.length := by omega
    subst hin
    have hwn : IntKind.i64.wrap (((ns.map eNode).length : Int) - 1) = ns.length - 1 := by rw [wrap64] <;> omega
    have hus : (us.map eBl).length = ns.length := (List.length_map _).trans hm.1
    rw [hwn]
    refine gd2 (by omega) (by show (ns.length : Int) - 1 ≤ ((us.map eBl).length : Int); omega) ?_
    conv => whnf
    have hpart : List.take ((ns.length : Int) - 1).toNat (List.drop 0 (us.map eBl)) = (us.take (ns.length - 1)).map eBl := by
      rw [List.drop_zero, List.map_take]; congr 1; omega
    refine VC.castA (congrArg (fun x => [V.one (L.ro 4 x), V.one (L.kb false)]) hpart) (CT.eq (containsB_c _ _) ?_)
    conv => whnf
    refine ⟨wrow ds ns ns.length, fun _ => wrow_all ds ns, congrArg (fun b => V.tup [.one (.all 0 0), vB b]) ?_, rfl, rfl⟩
    rw [← decide_not]
    refine decide_eq_decide.2 ⟨fun g => ⟨by omega, by omega, hp, fun j hj => ?_⟩, fun g hf => ?_⟩
    · refine (hm.all (Nat.le_refl _) (by omega)).1 ?_
      have hj' : j < us.length := by have := hm.1; omega
      rw [List.getD_eq_getElem?_getD, List.getElem?_eq_getElem hj']
      cases hb : us[j] with
      | true => rfl
      | false => exact absurd (hb ▸ List.mem_iff_getElem.2 ⟨j, by rw [List.length_take]; omega, List.getElem_take⟩) g
    · obtain ⟨j, hj, e⟩ := List.mem_iff_getElem.1 hf
      rw [List.length_take] at hj
      rw [List.getElem_take] at e
      have h3 := (hm.all (Nat.le_refl _) (show j < ns.length by omega)).2 (g.2.2.2 j (by omega))
      rw [List.getD_eq_getElem?_getD, List.getElem?_eq_getElem (show j < us.length by omega)] at h3
      have h3 : us[j] = true := h3
      rw [e] at h3
      cases h3
  have hi' : i < ns.length := by omega
  have hK : (ns[i].kids.map eI).length = ns[i].kids.length := List.length_map _
  refine gdx (by omega) (by show (i : Int) < ((ns.map eNode).length : Int); omega) ?_
  rw [at_mapI eNode ns hi']
  conv => whnf
  repeat (intro _; conv => whnf)
  refine fork_dec (fun h' => ?_) (fun h' => ?_) <;> conv => whnf
  · have h' : (ns[i].kids.map eI).length > (4096 : Int) := h'
    exact ⟨[], fun g => absurd g (TermP.not hi' fun g => by have := node_kids ho g; omega), congrArg (fun b => V.tup [.one (.all 0 0), vB b]) (dec_f (TermP.not hi' fun g => by have := node_kids ho g; omega)).symm, rfl, rfl⟩
  have h' : ¬ (ns[i].kids.map eI).length > (4096 : Int) := h'
  repeat (intro _; conv => whnf)
  refine gdm rfl (by show 0 ≤ ((ns[i].kids.map eI).length : Int); omega) (by show 8 * ((ns[i].kids.map eI).length : Int) ≤ _; omega) ?_
  conv => whnf
  repeat (intro _; conv => whnf)
  have hzk : List.replicate (ns[i].kids.map eI).length [dI 0] = (krow (outs ds ns i) ns[i].kids 0).map eI := by rw [krow, List.take_zero, kidsW, List.map_nil, List.nil_append, List.map_replicate, hK]; rfl
  refine ⟨Nat × List Bool, fun y => ⟨[(0, .one (.ro 53 (ds.map eDecl))), (3, .one (.ptr 0 0 0 0)), (6, vI ((ns.map eNode).length : Int)), (7, .one (.all 1 0)), (8, .one (.all 2 0)), (9, vI i), (10, pNode ns[i]), (11, .one (.all 3 0)), (29, vI ((ns.map eNode).length : Int)), (30, vI i), (52, .one (.ro 2 (ns[i].kids.map eI))), (53, vI ((ns[i].kids.map eI).length : Int)), (54, vI y.1)], [(0, .box 34 [.ro 52 (ns.map eNode)]), (1, .row 2 .tree 0 ((wrow ds ns i).map eI)), (2, .row 4 .tree 0 (y.2.map eBl)), (3, .row 2 .tree 0 ((krow (outs ds ns i) ns[i].kids y.1).map eI))], 4⟩, fun y => y.1 ≤ ns[i].kids.length ∧ MarkP ns y.2 i y.1 ∧ ∀ (k : Nat) (hk : k < ns[i].kids.length), k < y.1 → 0 ≤ ns[i].kids[k] ∧ ns[i].kids[k] ≤ i - 1, fun y => ns[i].kids.length - y.1, ⟨(0, us), Le.ren0 [0, 1, 2, 3] rfl ⟨⟨rfl, rfl⟩, ⟨rfl, rfl⟩, ⟨rfl, rfl⟩, ⟨rfl, congrArg (fun x => some (O.row 2 .tree 0 x)) hzk⟩, trivial⟩ ⟨rfl, rfl, rfl, rfl, rfl, rfl, rfl, rfl, rfl, rfl, rfl, rfl, rfl, trivial⟩, Nat.zero_le _, hm, fun k hk h => by omega⟩, ?_⟩
  rintro ⟨m, us⟩ ⟨hmk, hm, hall⟩
  dsimp only at hmk hm hall
  have hus : (us.map eBl).length = ns.length := (List.length_map _).trans hm.1
  have hkl : ((krow (outs ds ns i) ns[i].kids m).map eI).length = ns[i].kids.length := (List.length_map _).trans (krow_len hmk)
  have hwi : IntKind.i64.wrap ((i : Int) - 1) = i - 1 := by rw [wrap64] <;> omega
  conv => whnf
  refine fork_dec (fun h' => ?_) (fun h' => ?_) <;> conv => whnf
  · have hmk' : m < ns[i].kids.length := by omega
    refine gdx (by omega) h' ?_
    rw [at_mapI eI ns[i].kids hmk']
    conv => whnf
    intro _
    conv => whnf
    refine CT.eq (inside_c _ _ _) ?_
    conv => whnf
    refine fork_ndec (fun hb => ?_) (fun hb => ?_) <;> conv => whnf
    · have hb : ¬ (0 ≤ ns[i].kids[m] ∧ ns[i].kids[m] ≤ IntKind.i64.wrap ((i : Int) - 1)) := hb
      rw [hwi] at hb
      exact ⟨[], fun g => absurd g (fun g => hb (g.kid hi' hmk')), congrArg (fun b => V.tup [.one (.all 0 0), vB b]) (dec_f (fun g => hb (g.kid hi' hmk'))).symm, rfl, rfl⟩
    · have hb : 0 ≤ ns[i].kids[m] ∧ ns[i].kids[m] ≤ i - 1 := by rw [hwi] at hb; exact hb
      refine gdx (by show 0 ≤ ns[i].kids[m]; omega) (by show ns[i].kids[m] < (((wrow ds ns i).map eI).length : Int); omega) ?_
      conv => whnf
      repeat (intro _; conv => whnf)
      refine gdx (by show 0 ≤ ns[i].kids[m]; omega) (by show ns[i].kids[m] < ((us.map eBl).length : Int); omega) ?_
      conv => whnf
      refine gdx (by omega) (by show (m : Int) < (((krow (outs ds ns i) ns[i].kids m).map eI).length : Int); omega) ?_
      conv => whnf
      have hg : ((((wrow ds ns i).map eI).getD ns[i].kids[m].toNat []).getD 0 default).int = (wrow ds ns i).getD ns[i].kids[m].toNat 0 := by
        have hl : ns[i].kids[m].toNat < (wrow ds ns i).length := by rw [wrow_len hi]; omega
        have e : (wrow ds ns i).getD ns[i].kids[m].toNat 0 = (wrow ds ns i)[ns[i].kids[m].toNat] := by rw [List.getD_eq_getElem?_getD, List.getElem?_eq_getElem hl]; rfl
        rw [at_map eI _ hl, e]; rfl
      have hk3 : ((krow (outs ds ns i) ns[i].kids m).map eI).set m (eI ((wrow ds ns i).getD ns[i].kids[m].toNat 0)) = (krow (outs ds ns i) ns[i].kids (m + 1)).map eI := by rw [wrow_get hi (by omega), ← krow_set hmk', List.map_set]
      have hst : (us.map eBl).set ns[i].kids[m].toNat (eBl true) = (us.set ns[i].kids[m].toNat true).map eBl := by rw [List.map_set]
      refine ⟨(m + 1, us.set ns[i].kids[m].toNat true), Le.ren0 [0, 1, 2, 3] rfl ⟨⟨rfl, rfl⟩, ⟨rfl, rfl⟩, ⟨rfl, congrArg (fun x => some (O.row 4 .tree 0 x)) hst⟩, ⟨rfl, congrArg (fun x => some (O.row 2 .tree 0 x)) ((congrArg (fun z => ((krow (outs ds ns i) ns[i].kids m).map eI).set m (eI z)) hg).trans hk3)⟩, trivial⟩ ⟨rfl, rfl, rfl, rfl, rfl, rfl, rfl, rfl, rfl, rfl, rfl, rfl, congrArg (fun x => some (vI x)) (inc (by omega)), trivial⟩, ⟨hmk', hm.step hi' hmk' ⟨hb.1, by omega⟩, fun k hk hk' => ?_⟩, ?_⟩
      · rcases (by omega : k < m ∨ k = m) with g | g
        · exact hall k hk g
        · subst g; exact hb
      · show ns[i].kids.length - (m + 1) < ns[i].kids.length - m
        omega
  · have hkw : krow (outs ds ns i) ns[i].kids m = kidsW (outs ds ns i) ns[i].kids := krow_all (by omega)
    have hkb : (kidsB ns[i] (outs ds ns i).length).toNat = 1 := kidsB_all fun j hj => by rw [hol]; exact hall j hj (by omega)
    have hboth := node_both (ds := ds) ho hkb
    have hwid := width_i ds ns[i] (krow (outs ds ns i) ns[i].kids m) (by rw [hkw]; exact kidsW_rng ho hkb) (by rw [hkw, kidsW_len]; omega) hd
    obtain ⟨W, hWe⟩ : ∃ W, implW ds ns[i] (krow (outs ds ns i) ns[i].kids m) = W := ⟨_, rfl⟩
    rw [hWe] at hwid
    rw [hkw] at hWe
    rw [hWe] at hboth
    obtain ⟨hNP, hNE⟩ := hboth
    refine CT.eq hwid ?_
    conv => whnf
    refine gdx (by omega) (by show (i : Int) < (((wrow ds ns i).map eI).length : Int); omega) ?_
    conv => whnf
    refine CT.eq (plain_i ns[i]) ?_
    conv => whnf
    refine fork_ndec (fun hP => ?_) (fun hP => ?_) <;> conv => whnf
    · exact ⟨[], fun g => absurd g (TermP.not hi' fun g => hP g.1.2.1), congrArg (fun b => V.tup [.one (.all 0 0), vB b]) (dec_f (TermP.not hi' fun g => hP g.1.2.1)).symm, rfl, rfl⟩
    have hwl' : (((wrow ds ns i).map eI).set i (eI W)).length = ns.length := by rw [List.length_set]; exact hwl
    refine gdx (by omega) (by show (i : Int) < ((((wrow ds ns i).map eI).set i (eI W)).length : Int); omega) ?_
    conv => whnf
    have heW : (((wrow ds ns i).map eI).set (Int.toNat (i : Int)) (eI W)).getD (Int.toNat (i : Int)) [] = eI W := by
      rw [Int.toNat_natCast, List.getD_eq_getElem?_getD, List.getElem?_set_self (by omega)]; rfl
    rw [heW]
    conv => whnf
    intro _
    conv => whnf
    refine CT.eq (inside_c _ _ _) ?_
    conv => whnf
    refine fork_ndec (fun hb => ?_) (fun hb => ?_) <;> conv => whnf
    · exact ⟨[], fun g => absurd g (TermP.not hi' fun g => hb (hNP.1 g).2), congrArg (fun b => V.tup [.one (.all 0 0), vB b]) (dec_f (TermP.not hi' fun g => hb (hNP.1 g).2)).symm, rfl, rfl⟩
    · have hnode : NodeP ds ns[i] (outs ds ns i) := hNP.2 ⟨hP, hb⟩
      have hset : ((wrow ds ns i).map eI).set i (eI W) = (wrow ds ns (i + 1)).map eI := by
        rw [hNE hnode, ← wrow_set hi', List.map_set]
      refine ⟨(i + 1, us), Le.ren0 [0, 1, 2] rfl ⟨⟨rfl, rfl⟩, ⟨rfl, congrArg (fun x => some (O.row 2 .tree 0 x)) hset⟩, ⟨rfl, rfl⟩, trivial⟩ ⟨rfl, rfl, rfl, rfl, rfl, rfl, congrArg (fun x => some (vI x)) (inc (by omega)), trivial⟩, ⟨hi', hp.succ hi' hnode, hm.next hi' (by omega)⟩, ?_⟩
      show ns.length - (i + 1) < ns.length - i
      omega

end Go.Proofs.Ytodhnbjncmihkaa.V
end

section
/- What each of these functions comes to: the width of a term. -/
set_option linter.unusedVariables false
set_option maxRecDepth 100000
namespace Go.Proofs.Ytodhnbjncmihkaa.V
open Go

/-- The width of a term. -/
noncomputable def widthZ (ds : List Decl) (ns : List TNode) : Int := if DeclsP ds ∧ TermP ds ns then (outs ds ns ns.length).getD (ns.length - 1) 0 else -1

theorem widthZ_no {ds : List Decl} {ns : List TNode} (h : ¬ (DeclsP ds ∧ TermP ds ns)) : widthZ ds ns = -1 := if_neg h

theorem widthZ_yes {ds : List Decl} {ns : List TNode} (h : DeclsP ds ∧ TermP ds ns) : widthZ ds ns = (outs ds ns ns.length).getD (ns.length - 1) 0 := if_pos h

theorem widthZ_cases (ds : List Decl) (ns : List TNode) : (¬ (DeclsP ds ∧ TermP ds ns) ∧ widthZ ds ns = -1) ∨ ((DeclsP ds ∧ TermP ds ns) ∧ 1 ≤ widthZ ds ns ∧ widthZ ds ns ≤ 4096) := by
  by_cases h : DeclsP ds ∧ TermP ds ns
  · refine .inr ⟨h, ?_⟩
    rw [widthZ_yes h]
    have hl := outs_len (ds := ds) (Nat.le_refl ns.length)
    have h1 := h.2.1
    have hj : ns.length - 1 < (outs ds ns ns.length).length := by omega
    rw [List.getD_eq_getElem?_getD, List.getElem?_eq_getElem hj]
    exact PreT.rng h.2.2.2.1 (Nat.le_refl _) _ (List.getElem_mem hj)
  · exact .inl ⟨h, widthZ_no h⟩

theorem WidthOf_c (ds : List Decl) (ns : List TNode) : CT 19 [.one (.ro 53 (ds.map eDecl)), .agg [.ro 52 (ns.map eNode)]] [] 0 fun r S k => r = vI (widthZ ds ns) ∧ S = [] ∧ k = 0 := by
  have hc := l3Widths_c ds ns
  refine CT.run (fun _ => true) false Try.func19 (by kernel_rfl) ?_
  conv => whnf
  repeat (intro _; conv => whnf)
  by_cases h : DeclsP ds ∧ TermP ds ns
  · rw [widthsL_yes h] at hc
    have hl : ((outs ds ns ns.length).map eI).length = ns.length := (List.length_map _).trans (outs_len (Nat.le_refl _))
    have h1 := h.2.1
    have h2 := h.2.2.1
    refine CT.eq hc ?_
    conv => whnf
    intro _
    conv => whnf
    refine fork_dec (fun h => ?_) (fun h' => ?_) <;> conv => whnf
    · exfalso; omega
    intro _
    conv => whnf
    have hw : IntKind.i64.wrap ((((outs ds ns ns.length).map eI).length : Int) - 1) = ((ns.length - 1 : Nat) : Int) := by rw [wrap64] <;> omega
    rw [hw]
    refine gdx (by omega) (by omega) ?_
    conv => whnf
    have hj : ns.length - 1 < (outs ds ns ns.length).length := by rw [outs_len (Nat.le_refl _)]; omega
    rw [at_mapI eI _ hj]
    conv => whnf
    intro _
    conv => whnf
    refine ⟨congrArg vI ?_, rfl, rfl⟩
    rw [widthZ_yes h, List.getD_eq_getElem?_getD (l := outs ds ns ns.length), List.getElem?_eq_getElem hj]
    rfl
  · rw [widthsL_no h] at hc
    refine CT.eq hc ?_
    conv => whnf
    intro _
    conv => whnf
    refine fork_dec (fun h' => ?_) (fun h' => absurd rfl h') <;> conv => whnf
    exact ⟨congrArg vI (widthZ_no h).symm, rfl, rfl⟩

theorem widthOf_i (ds : List Decl) (ns : List TNode) (hD : DeclsP ds) : CT 32 [.one (.ro 53 (ds.map eDecl)), .agg [.ro 52 (ns.map eNode)]] [] 0 fun r S k => r = vI (widthZ ds ns) ∧ S = [] ∧ k = 0 := by
  refine CT.run (fun _ => true) false Try.func32 (by kernel_rfl) ?_
  conv => whnf
  repeat (intro _; conv => whnf)
  refine CT.then (widths_i ds ns hD) ?_
  rintro r S k ⟨L, hL, rfl, rfl, rfl⟩
  conv => whnf
  refine fork_ndec (fun h => ?_) (fun h => ?_) <;> conv => whnf
  · exact ⟨congrArg vI (widthZ_no fun g => h g.2).symm, rfl, rfl⟩
  · have hL := hL h
    subst hL
    have hl : ((outs ds ns ns.length).map eI).length = ns.length := (List.length_map _).trans (outs_len (Nat.le_refl _))
    have h1 := h.1
    have h2 := h.2.1
    intro _
    conv => whnf
    have hw : IntKind.i64.wrap ((((outs ds ns ns.length).map eI).length : Int) - 1) = ((ns.length - 1 : Nat) : Int) := by rw [wrap64] <;> omega
    rw [hw]
    refine gdx (by omega) (by omega) ?_
    conv => whnf
    have hj : ns.length - 1 < (outs ds ns ns.length).length := by rw [outs_len (Nat.le_refl _)]; omega
    rw [at_mapI eI _ hj]
    conv => whnf
    intro _
    conv => whnf
    refine ⟨congrArg vI ?_, rfl, rfl⟩
    rw [widthZ_yes ⟨hD, h⟩, List.getD_eq_getElem?_getD (l := outs ds ns ns.length), List.getElem?_eq_getElem hj]
    rfl

theorem WidthOf_i (ds : List Decl) (ns : List TNode) : CT 22 [.one (.ro 53 (ds.map eDecl)), .agg [.ro 52 (ns.map eNode)]] [] 0 fun r S k => r = vI (widthZ ds ns) ∧ S = [] ∧ k = 0 := by
  refine CT.run (fun _ => true) false Try.func22 (by kernel_rfl) ?_
  conv => whnf
  repeat (intro _; conv => whnf)
  refine CT.eq (DeclsOk_i ds) ?_
  conv => whnf
  refine fork_ndec (fun h => ?_) (fun h => ?_) <;> conv => whnf
  · exact ⟨congrArg vI (widthZ_no fun g => h g.1).symm, rfl, rfl⟩
  · refine CT.eq (widthOf_i ds ns h) ?_
    conv => whnf
    exact ⟨rfl, rfl, rfl⟩

end Go.Proofs.Ytodhnbjncmihkaa.V
end

section
/- Plain: the variables of a term. No program in sight. -/
set_option linter.unusedVariables false
namespace Go.Proofs.Ytodhnbjncmihkaa.V
open Go

theorem compact_len (l : List Int) : (Lib.compact l).length ≤ l.length := by
  unfold Lib.compact Lib.compactUpTo
  rw [List.length_map]
  have := List.length_filter_le (Lib.keeps l.toArray) (List.range l.length)
  rwa [List.length_range] at this

theorem arr_get (l : List Int) {j : Nat} (h : j < l.length) : l.toArray[j]! = l[j] := by simp [h]

theorem compact_mem (l : List Int) (n : Int) : n ∈ Lib.compact l ↔ n ∈ l := by
  unfold Lib.compact Lib.compactUpTo
  rw [List.mem_map]
  constructor
  · rintro ⟨j, hj, rfl⟩
    have hj := (List.mem_filter.1 hj).1
    rw [List.mem_range] at hj
    rw [arr_get l hj]
    exact List.getElem_mem hj
  · intro h
    obtain ⟨j, hj, e⟩ := List.mem_iff_getElem.1 h
    induction j with
    | zero => exact ⟨0, List.mem_filter.2 ⟨List.mem_range.2 hj, Lib.keeps_lt_one _ 0 (by omega)⟩, by rw [arr_get l hj]; exact e⟩
    | succ j ih =>
      by_cases h1 : l[j + 1] = l[j]
      · exact ih (by omega) (by rw [← h1]; exact e)
      · exact ⟨j + 1, List.mem_filter.2 ⟨List.mem_range.2 hj, Lib.keeps_pos (by rw [arr_get l hj, Nat.add_sub_cancel, arr_get l (by omega)]; exact h1)⟩, by rw [arr_get l hj]; exact e⟩

theorem compact_up {l : List Int} (h : l.Pairwise (· ≤ ·)) : (Lib.compact l).Pairwise (· < ·) := by
  unfold Lib.compact Lib.compactUpTo
  rw [List.pairwise_map]
  refine (List.pairwise_lt_range.filter (Lib.keeps l.toArray)).imp_of_mem fun {a b} ha hb hab => ?_
  have ha := List.mem_range.1 (List.mem_filter.1 ha).1
  obtain ⟨hb, hk⟩ := List.mem_filter.1 hb
  have hb := List.mem_range.1 hb
  rw [arr_get l ha, arr_get l hb]
  have h1 := List.pairwise_iff_getElem.1 h
  have h2 : l[a] ≤ l[b - 1] := by
    rcases (by omega : a = b - 1 ∨ a < b - 1) with e | e
    · subst e; exact Int.le_refl _
    · exact h1 a (b - 1) ha (by omega) e
  have h3 : l[b - 1] ≤ l[b] := h1 (b - 1) b (by omega) hb (by omega)
  have h4 : l[b] ≠ l[b - 1] := by
    unfold Lib.keeps at hk
    rcases of_decide_eq_true hk with e | e
    · omega
    · rwa [arr_get l hb, arr_get l (by omega)] at e
  omega

theorem up_eq : ∀ {l m : List Int}, l.Pairwise (· < ·) → m.Pairwise (· < ·) → (∀ n, n ∈ l ↔ n ∈ m) → l = m
  | [], [], _, _, _ => rfl
  | [], b :: m, _, _, h => absurd ((h b).2 List.mem_cons_self) (by simp)
  | a :: l, [], _, _, h => absurd ((h a).1 List.mem_cons_self) (by simp)
  | a :: l, b :: m, h1, h2, h => by
    have ha := List.pairwise_cons.1 h1
    have hb := List.pairwise_cons.1 h2
    have e : a = b := by
      rcases List.mem_cons.1 ((h a).1 List.mem_cons_self) with e | e
      · exact e
      · rcases List.mem_cons.1 ((h b).2 List.mem_cons_self) with e' | e'
        · exact e'.symm
        · have := ha.1 b e'
          have := hb.1 a e
          omega
    subst e
    rw [up_eq ha.2 hb.2 fun n => ⟨fun hn => ?_, fun hn => ?_⟩]
    · rcases List.mem_cons.1 ((h n).1 (List.mem_cons_of_mem _ hn)) with e | e
      · have := ha.1 n hn; omega
      · exact e
    · rcases List.mem_cons.1 ((h n).2 (List.mem_cons_of_mem _ hn)) with e | e
      · have := hb.1 n hn; omega
      · exact e

theorem sort_up (l : List Int) : (l.mergeSort fun x y => decide (x ≤ y)).Pairwise (· ≤ ·) := by
  have := List.pairwise_mergeSort (le := fun x y : Int => decide (x ≤ y)) (fun a b c h1 h2 => by simp at *; omega) (fun a b => by simp; omega) l
  exact this.imp fun h => of_decide_eq_true h

/-- Where a term names variable v. -/
def NamesP (ns : List TNode) (v : Int) : Prop := ∃ x ∈ ns, x.op = 1 ∧ x.vr = v

instance (ns : List TNode) (v : Int) : Decidable (NamesP ns v) := inferInstanceAs (Decidable (∃ x ∈ ns, x.op = 1 ∧ x.vr = v))

/-- The variables below i that a term names. -/
def varsTo (ns : List TNode) (i : Nat) : List Int := ((List.range i).filter fun v => decide (NamesP ns (v : Nat))).map fun (v : Nat) => (v : Int)

theorem varsTo_succ (ns : List TNode) (i : Nat) : varsTo ns (i + 1) = varsTo ns i ++ if NamesP ns (i : Nat) then [(i : Int)] else [] := by
  unfold varsTo
  rw [List.range_succ, List.filter_append, List.map_append]
  congr 1
  by_cases h : NamesP ns (i : Nat) <;> simp [h]

theorem varsTo_len (ns : List TNode) : ∀ (i : Nat), (varsTo ns i).length ≤ i := fun i => by
  unfold varsTo
  rw [List.length_map]
  have := List.length_filter_le (fun v : Nat => decide (NamesP ns v)) (List.range i)
  rwa [List.length_range] at this

theorem varsTo_up (ns : List TNode) (i : Nat) : (varsTo ns i).Pairwise (· < ·) := by
  unfold varsTo
  rw [List.pairwise_map]
  exact (List.pairwise_lt_range.filter _).imp fun h => by omega

theorem varsTo_mem (ns : List TNode) (i : Nat) (n : Int) : n ∈ varsTo ns i ↔ (0 ≤ n ∧ n < i) ∧ NamesP ns n := by
  unfold varsTo
  rw [List.mem_map]
  constructor
  · rintro ⟨v, hv, rfl⟩
    obtain ⟨h1, h2⟩ := List.mem_filter.1 hv
    exact ⟨⟨by omega, by have := List.mem_range.1 h1; omega⟩, of_decide_eq_true h2⟩
  · rintro ⟨⟨h1, h2⟩, h3⟩
    have e : ((n.toNat : Nat) : Int) = n := by omega
    exact ⟨n.toNat, List.mem_filter.2 ⟨List.mem_range.2 (by omega), decide_eq_true (by rw [e]; exact h3)⟩, e⟩

/-- What the program gathers. -/
def gath (ns : List TNode) : List Int := (ns.filter fun x => decide (x.op = 1)).map TNode.vr

theorem gath_mem (ns : List TNode) (n : Int) : n ∈ gath ns ↔ NamesP ns n := by
  unfold gath NamesP
  rw [List.mem_map]
  constructor
  · rintro ⟨x, hx, rfl⟩
    obtain ⟨h1, h2⟩ := List.mem_filter.1 hx
    exact ⟨x, h1, of_decide_eq_true h2, rfl⟩
  · rintro ⟨x, h1, h2, rfl⟩
    exact ⟨x, List.mem_filter.2 ⟨h1, decide_eq_true h2⟩, rfl⟩

theorem gath_step (ns : List TNode) {i : Nat} (h : i < ns.length) : gath (ns.take (i + 1)) = gath (ns.take i) ++ if (ns[i]'h).op = 1 then [(ns[i]'h).vr] else [] := by
  unfold gath
  rw [List.take_succ_eq_append_getElem h, List.filter_append, List.map_append]
  congr 1
  by_cases h1 : (ns[i]'h).op = 1 <;> simp [h1]

theorem gath_len (ns : List TNode) : (gath ns).length ≤ ns.length := by
  unfold gath
  rw [List.length_map]
  exact List.length_filter_le _ _

/-- The variables that the two sides tell. -/
theorem vars_both {ds : List Decl} {ns : List TNode} (h : TermP ds ns) : Lib.compact ((gath ns).mergeSort fun x y => decide (x ≤ y)) = varsTo ns ds.length := by
  refine up_eq (compact_up (sort_up _)) (varsTo_up _ _) fun n => ?_
  rw [compact_mem, List.mem_mergeSort, gath_mem, varsTo_mem]
  constructor
  · intro g
    refine ⟨?_, g⟩
    obtain ⟨x, hx, h1, rfl⟩ := g
    obtain ⟨i, hi, rfl⟩ := List.mem_iff_getElem.1 hx
    have := (h.at hi).1.2.2
    unfold ArityP at this
    omega
  · exact fun g => g.2

end Go.Proofs.Ytodhnbjncmihkaa.V
end

section
/- What each of these functions comes to: the reference's variables of a term. -/
set_option linter.unusedVariables false
set_option maxRecDepth 100000
namespace Go.Proofs.Ytodhnbjncmihkaa.V
open Go

noncomputable def varsL (ds : List Decl) (ns : List TNode) : List Int := if DeclsP ds ∧ TermP ds ns then varsTo ns ds.length else []

theorem varsL_no {ds : List Decl} {ns : List TNode} (h : ¬ (DeclsP ds ∧ TermP ds ns)) : varsL ds ns = [] := if_neg h

theorem varsL_yes {ds : List Decl} {ns : List TNode} (h : DeclsP ds ∧ TermP ds ns) : varsL ds ns = varsTo ns ds.length := if_pos h

theorem VarsOf_c (ds : List Decl) (ns : List TNode) : CT 6 [.one (.ro 53 (ds.map eDecl)), .agg [.ro 52 (ns.map eNode)]] [] 0 fun r S k => r = .one (.all 0 0) ∧ S = [(0, .row 2 .tree 0 ((varsL ds ns).map eI))] ∧ k = 1 := by
  have hL : (ds.map eDecl).length = ds.length := List.length_map _
  have hN : (ns.map eNode).length = ns.length := List.length_map _
  have hw := widthZ_cases ds ns
  refine CT.run (fun _ => true) false Try.func6 (by kernel_rfl) ?_
  conv => whnf
  repeat (intro _; conv => whnf)
  refine CT.eq (WidthOf_c ds ns) ?_
  conv => whnf
  refine fork_dec (fun h => ?_) (fun h => ?_) <;> conv => whnf
  · exact ⟨rfl, congrArg (fun x => [(0, O.row 2 .tree 0 (x.map eI))]) (varsL_no fun g => by rcases hw with hw | hw; exact hw.1 g; omega).symm, rfl⟩
  have hok : DeclsP ds ∧ TermP ds ns := by
    rcases hw with hw | hw
    · omega
    · exact hw.1
  have hd : ds.length ≤ 60 := hok.1.1
  have hn : ns.length ≤ 400 := hok.2.2.1
  refine ⟨Nat, fun v => ⟨[(0, .one (.ro 53 (ds.map eDecl))), (3, .one (.ptr 0 0 0 0)), (5, .one (.all 1 0)), (6, vI v)], [(0, .box 34 [.ro 52 (ns.map eNode)]), (1, .row 2 .tree 0 ((varsTo ns v).map eI))], 2⟩, fun v => v ≤ ds.length, fun v => ds.length - v, ⟨0, Le.ren0 [0, 1] rfl ⟨⟨rfl, rfl⟩, ⟨rfl, rfl⟩, trivial⟩ ⟨rfl, rfl, rfl, rfl, trivial⟩, Nat.zero_le _⟩, fun v hv => ?_⟩
  have hv : v ≤ ds.length := hv
  conv => whnf
  intro _
  conv => whnf
  refine fork_dec (fun h => ?_) (fun h => ?_) <;> conv => whnf
  · have hv' : v < ds.length := by omega
    refine ⟨Nat, fun k => ⟨[(0, .one (.ro 53 (ds.map eDecl))), (3, .one (.ptr 0 0 0 0)), (5, .one (.all 1 0)), (6, vI v), (7, vI k)], [(0, .box 34 [.ro 52 (ns.map eNode)]), (1, .row 2 .tree 0 ((varsTo ns v).map eI))], 2⟩, fun k => k ≤ ns.length ∧ ∀ (j : Nat) (hj : j < ns.length), j < k → ¬ (ns[j].op = 1 ∧ ns[j].vr = v), fun k => ns.length - k, ⟨0, Le.ren0 [0, 1] rfl ⟨⟨rfl, rfl⟩, ⟨rfl, rfl⟩, trivial⟩ ⟨rfl, rfl, rfl, rfl, rfl, trivial⟩, Nat.zero_le _, fun j hj h => by omega⟩, fun k hk => ?_⟩
    obtain ⟨hk, hall⟩ := hk
    conv => whnf
    intro _
    conv => whnf
    refine fork_dec (fun h => ?_) (fun h => ?_) <;> conv => whnf
    · have hk' : k < ns.length := by omega
      refine gdx (by omega) h ?_
      rw [at_mapI eNode ns hk']
      conv => whnf
      intro _
      conv => whnf
      have next : ¬ (ns[k].op = 1 ∧ ns[k].vr = v) → ∀ (j : Nat) (hj : j < ns.length), j < k + 1 → ¬ (ns[j].op = 1 ∧ ns[j].vr = v) := fun g j hj hj' => by
        rcases (by omega : j < k ∨ j = k) with e | e
        · exact hall j hj e
        · subst e; exact g
      refine fork_dec (fun h1 => ?_) (fun h1 => ?_) <;> conv => whnf
      · have h1 : ns[k].op = 1 := h1
        refine gdx (by omega) h ?_
        rw [at_mapI eNode ns hk']
        conv => whnf
        intro _
        conv => whnf
        refine fork_dec (fun h2 => ?_) (fun h2 => ?_) <;> conv => whnf
        · have h2 : ns[k].vr = v := h2
          have hvl := varsTo_len ns v
          have hvm : ((varsTo ns v).map eI).length ≤ v := by rw [List.length_map]; exact hvl
          refine gdn (by show (((varsTo ns v).map eI).length + 1) * 8 ≤ _; omega) ?_
          conv => whnf
          have hs : (varsTo ns v).map eI ++ [eI (v : Int)] = (varsTo ns (v + 1)).map eI := by
            rw [varsTo_succ, if_pos ⟨_, List.getElem_mem hk', h1, h2⟩, List.map_append]; rfl
          refine ⟨v + 1, Le.ren0 [0, 1] rfl ⟨⟨rfl, rfl⟩, ⟨rfl, congrArg (fun x => some (O.row 2 .tree 0 x)) hs⟩, trivial⟩ ⟨rfl, rfl, rfl, congrArg (fun x => some (vI x)) (inc (by omega)), trivial⟩, hv', ?_⟩
          show ds.length - (v + 1) < ds.length - v
          omega
        · have h2 : ¬ ns[k].vr = v := h2
          refine ⟨k + 1, Le.ren0 [0, 1] rfl ⟨⟨rfl, rfl⟩, ⟨rfl, rfl⟩, trivial⟩ ⟨rfl, rfl, rfl, rfl, congrArg (fun x => some (vI x)) (inc (by omega)), trivial⟩, ⟨hk', next fun g => h2 g.2⟩, ?_⟩
          show ns.length - (k + 1) < ns.length - k
          omega
      · have h1 : ¬ ns[k].op = 1 := h1
        refine ⟨k + 1, Le.ren0 [0, 1] rfl ⟨⟨rfl, rfl⟩, ⟨rfl, rfl⟩, trivial⟩ ⟨rfl, rfl, rfl, rfl, congrArg (fun x => some (vI x)) (inc (by omega)), trivial⟩, ⟨hk', next fun g => h1 g.1⟩, ?_⟩
        show ns.length - (k + 1) < ns.length - k
        omega
    · have hs : (varsTo ns v).map eI = (varsTo ns (v + 1)).map eI := by
        rw [varsTo_succ, if_neg, List.append_nil]
        rintro ⟨x, hx, g⟩
        obtain ⟨j, hj, rfl⟩ := List.mem_iff_getElem.1 hx
        exact hall j hj (by omega) g
      refine ⟨v + 1, Le.ren0 [0, 1] rfl ⟨⟨rfl, rfl⟩, ⟨rfl, congrArg (fun x => some (O.row 2 .tree 0 x)) hs⟩, trivial⟩ ⟨rfl, rfl, rfl, congrArg (fun x => some (vI x)) (inc (by omega)), trivial⟩, hv', ?_⟩
      show ds.length - (v + 1) < ds.length - v
      omega
  · have hvd : v = ds.length := by omega
    subst hvd
    exact ⟨rfl, congrArg (fun x => [(0, O.row 2 .tree 0 (x.map eI))]) (varsL_yes hok).symm, rfl⟩

end Go.Proofs.Ytodhnbjncmihkaa.V
end

section
/- The library's Sort and Compact over a row of one's own, by the kit's contracts. -/
set_option linter.unusedVariables false
set_option maxRecDepth 100000
namespace Go.Proofs.Ytodhnbjncmihkaa.V
open Go Go.Sort

/-- A row of numbers of one's own, in memory. -/
theorem rowI {T : TypeId → Option TI} {w : World} {X : Nat → Prop} {e : TypeId} {i : TI} {l : List Int} {u : Value} (hT : T e = some i) (hk : i.ks = [.int .i64]) (h : Ow T w X (.sl e) (.sl (l.map eI)) u) :
    (l = [] ∧ u = .slice none 0 0 ∧ ∀ b, ¬ X b) ∨ ∃ b arr cap, u = .slice (some ⟨b, 0, none⟩) l.length cap ∧ w.heap[b]? = some (.cells arr e (0, 0)) ∧ arr.size = cap ∧ l.length ≤ cap ∧ l.length ≤ maxI ∧ (∀ k, X k ↔ k = b) ∧
      (∀ (p : Nat) (hp : p < l.length), arr[p]? = some (.int .i64 l[p])) ∧ ∀ n ∈ l, rng .i64 n := by
  generalize hL : l.map eI = L at h
  cases h with
  | nil hX =>
    refine .inl ⟨?_, rfl, hX⟩
    cases l with
    | nil => rfl
    | cons a l => cases hL
  | @sl _ _ i' xs b arr cap u Y hT' hm hb hcap hle hx hc hr hd hn hX =>
    rw [hT] at hT'
    cases hT'
    subst hL
    have hl : (l.map eI).length = l.length := List.length_map _
    have hk1 : i.ks.length = 1 := by rw [hk]; rfl
    have hr' : ∀ (p : Nat) (hp : p < l.length), u p 0 = .int .i64 l[p] ∧ (∀ k, ¬ Y p 0 k) ∧ rng .i64 l[p] := fun p hp => by
      have h1 := hr p (eI l[p]) 0 (.int .i64) (dI l[p]) (by rw [List.getElem?_map, List.getElem?_eq_getElem hp]; rfl) (by rw [hk]; rfl) rfl
      generalize u p 0 = v at h1
      cases h1 with
      | int hX h => exact ⟨rfl, hX, h⟩
    refine .inr ⟨b, arr, cap, by rw [hl], hb, by rw [hcap, hk1, Nat.mul_one], by omega, by omega, fun k => ?_, fun p hp => ?_, fun n hn => ?_⟩
    · rw [hX k]
      constructor
      · rintro (h | ⟨p, j, h1, h2, h3⟩)
        · exact h
        · rw [hk1] at h2
          have : j = 0 := by omega
          subst this
          exact absurd h3 ((hr' p (by omega)).2.1 k)
      · exact .inl
    · have := hc p 0 (by omega) (by omega)
      rw [hk1] at this
      rw [← (hr' p hp).1, ← this]
      congr 1
      omega
    · obtain ⟨p, hp, rfl⟩ := List.mem_iff_getElem.1 hn
      exact (hr' p hp).2.2

theorem rowI_of {T : TypeId → Option TI} {w : World} {X : Nat → Prop} {e : TypeId} {i : TI} {l : List Int} {b cap : Nat} {arr : Array Value} (hT : T e = some i) (hk : i.ks = [.int .i64]) (hb : w.heap[b]? = some (.cells arr e (0, 0))) (hcap : arr.size = cap) (hle : l.length ≤ cap) (hm : l.length ≤ maxI) (hX : ∀ k, X k ↔ k = b)
    (hc : ∀ (p : Nat) (hp : p < l.length), arr[p]? = some (.int .i64 l[p])) (hr : ∀ n ∈ l, rng .i64 n) : Ow T w X (.sl e) (.sl (l.map eI)) (.slice (some ⟨b, 0, none⟩) l.length cap) := by
  have hl : (l.map eI).length = l.length := List.length_map _
  have hk1 : i.ks.length = 1 := by rw [hk]; rfl
  have := Ow.sl (T := T) (w := w) (X := X) (e := e) (i := i) (xs := l.map eI) (b := b) (arr := arr) (cap := cap) (fun p _ => .int .i64 (l.getD p 0)) (fun _ _ _ => False) hT (by omega) hb (by rw [hk1, Nat.mul_one]; exact hcap) (by omega)
    (fun p x h => by
      rw [List.getElem?_map] at h
      cases hp : l[p]? with
      | none => rw [hp] at h; cases h
      | some n => rw [hp] at h; cases h; exact hk1.symm)
    (fun p j hp hj => by
      have hp' : p < l.length := by omega
      rw [hk1] at hj ⊢
      have : j = 0 := by omega
      subst this
      rw [Nat.mul_one, Nat.add_zero, hc p hp', List.getD_eq_getElem?_getD, List.getElem?_eq_getElem hp']
      rfl)
    (fun p x j κ d h1 h2 h3 => by
      rw [List.getElem?_map] at h1
      cases hp : l[p]? with
      | none => rw [hp] at h1; cases h1
      | some n =>
        rw [hp] at h1
        cases h1
        rw [hk] at h2
        have hj : j = 0 := by
          cases j with
          | zero => rfl
          | succ j => simp at h2
        subst hj
        cases h2
        cases h3
        rw [List.getD_eq_getElem?_getD, hp]
        exact .int (fun _ h => h) (hr n (List.mem_of_getElem? hp)))
    (fun p j p' j' k h _ => h.elim) (fun p j h => h) (fun k => ⟨fun h => .inl ((hX k).1 h), fun h => (hX k).2 (h.elim id fun ⟨_, _, _, _, g⟩ => g.elim)⟩)
  rwa [hl] at this

/-- A row of numbers, alone, is turned in memory: what it then holds. -/
theorem rowTo {T : TypeId → Option TI} {w w' : World} {c : Cx} {e : TypeId} {i : TI} {l l' : List Int} {v v' b cap : Nat} {arr arr' : Array Value} (hT : T e = some i) (hk : i.ks = [.int .i64]) (hs : Sat T w c [(0, .row e .tree v (l.map eI))] 1)
    (hX : ∀ k, c.X 0 k ↔ k = b) (hb : w.heap[b]? = some (.cells arr e (0, 0))) (hcap : arr.size = cap)
    (h1 : w'.os = w.os) (h2 : w'.tape = w.tape) (h3 : w'.output = w.output) (h4 : w.heap.size ≤ w'.heap.size) (h5 : ∀ k, k < w.heap.size → k ≠ b → w'.heap[k]? = w.heap[k]?)
    (hb' : w'.heap[b]? = some (.cells arr' e (0, 0))) (ha : arr'.size = arr.size) (hle : l'.length ≤ cap) (hm : l'.length ≤ maxI) (hc : ∀ (p : Nat) (hp : p < l'.length), arr'[p]? = some (.int .i64 l'[p])) (hr : ∀ n ∈ l', rng .i64 n)
    (hv : v < v' ∨ (v' = v ∧ l'.length = l.length ∧ c.cur 0 = .slice (some ⟨b, 0, none⟩) l'.length cap)) :
    ∃ c', Sat T w' c' [(0, .row e .tree v' (l'.map eI))] 1 ∧ Ext w c w' c' ∧ Stays c [(0, .row e .tree v (l.map eI))] 1 c' [(0, .row e .tree v' (l'.map eI))] ∧ VR T w' c' [(0, .row e .tree v' (l'.map eI))] 1 (.one (.all 0 v')) (.slice (some ⟨b, 0, none⟩) l'.length cap) := by
  refine ⟨{ c with cur := fun id => if id = 0 then .slice (some ⟨b, 0, none⟩) l'.length cap else c.cur id }, ⟨fun id => ?_, fun id hid => ?_, hs.disj, hs.xz, fun k hk => Nat.lt_of_lt_of_le (hs.zlt k hk) h4, fun id k hk => Nat.lt_of_lt_of_le (hs.xlt id k hk) h4⟩, ⟨h1, h2, h3, h4, fun k hk hn => h5 k hk fun e => hn 0 ((hX k).2 e), fun _ h => h, fun _ _ h => .inl h, fun id _ _ h => ⟨id, h⟩⟩, fun id hid => ?_, .one ⟨by omega, ⟨_, _, _, rfl⟩, fun e' k v2 xs h => ?_⟩⟩
  · by_cases h0 : id = 0
    · subst h0
      exact rowI_of hT hk hb' (by rw [ha]; exact hcap) hle hm hX hc hr
    · have h6 := hs.os id
      have e1 : ∀ o, geto [(0, o)] id = .dead := fun o => by
        simp only [geto_cons]
        rw [if_neg (fun e => h0 e.symm)]
        rfl
      rw [e1] at h6 ⊢
      exact h6
  · simp only [geto_cons]
    rw [if_neg (by omega)]
    rfl
  · have h0 : id = 0 := by omega
    subst h0
    show e = e ∧ _
    refine ⟨rfl, ?_⟩
    rcases hv with g | ⟨g1, g2, g3⟩
    · exact .inl g
    · exact .inr ⟨g1, by rw [List.length_map, List.length_map]; exact g2, g3.symm⟩
  · have h7 : geto [(0, O.row e .tree v' (l'.map eI))] 0 = .row e .tree v' (l'.map eI) := rfl
    rw [h7] at h
    cases h
    exact ⟨Nat.le_refl _, fun _ => rfl⟩

/-- The world behind a row that is turned in place. -/
theorem turned {w : World} {b n : Nat} {arr : Array Value} {e : TypeId} {d : Array Int} {os : Array Obj} (hb : w.heap[b]? = some (.cells arr e (0, 0))) (hd : d.size ≤ arr.size) :
    (grow (putRow (Value.int .i64) (Sort.ahead w n) b 0 d) os).os = w.os ∧ (grow (putRow (Value.int .i64) (Sort.ahead w n) b 0 d) os).tape = w.tape ∧ (grow (putRow (Value.int .i64) (Sort.ahead w n) b 0 d) os).output = w.output ∧
    w.heap.size ≤ (grow (putRow (Value.int .i64) (Sort.ahead w n) b 0 d) os).heap.size ∧ (∀ k, k < w.heap.size → k ≠ b → (grow (putRow (Value.int .i64) (Sort.ahead w n) b 0 d) os).heap[k]? = w.heap[k]?) ∧
    (grow (putRow (Value.int .i64) (Sort.ahead w n) b 0 d) os).heap[b]? = some (.cells (putCells (Value.int .i64) 0 d arr) e (0, 0)) ∧ (putCells (Value.int .i64) 0 d arr).size = arr.size ∧ ∀ (p : Nat) (hp : p < d.size), (putCells (Value.int .i64) 0 d arr)[p]? = some (.int .i64 d[p]) := by
  have hbs : b < w.heap.size := (Array.getElem?_eq_some_iff.1 hb).1
  have hsz : (w.heap.modify b (onCells (putCells (Value.int .i64) 0 d))).size = w.heap.size := by simp
  refine ⟨rfl, rfl, rfl, ?_, fun k hk hkb => ?_, ?_, ?_, fun p hp => ?_⟩
  · show w.heap.size ≤ (w.heap.modify b (onCells (putCells (Value.int .i64) 0 d)) ++ os).size
    rw [Array.size_append, hsz]; omega
  · show (w.heap.modify b (onCells (putCells (Value.int .i64) 0 d)) ++ os)[k]? = _
    rw [Array.getElem?_append_left (by omega), Array.getElem?_modify, if_neg (fun e => hkb e.symm)]
  · show (w.heap.modify b (onCells (putCells (Value.int .i64) 0 d)) ++ os)[b]? = _
    rw [Array.getElem?_append_left (by omega), Array.getElem?_modify, if_pos rfl, hb]
    rfl
  · simp [putCells]
  · have hp' : p < arr.size := by omega
    simp only [putCells, Array.getElem?_mapIdx]
    rw [Array.getElem?_eq_getElem hp']
    simp only [Option.map_some]
    rw [if_pos (by omega)]
    simp [hp]

/-- A row told anew under a later version. -/
theorem bump {T : TypeId → Option TI} {w : World} {c : Cx} {e : TypeId} {xs : List (List D)} {v v' : Nat} {u : Value} (hs : Sat T w c [(0, .row e .tree v xs)] 1) (hu : VR T w c [(0, .row e .tree v xs)] 1 (.one (.all 0 v)) u) (hv : v ≤ v') :
    Sat T w c [(0, .row e .tree v' xs)] 1 ∧ VR T w c [(0, .row e .tree v' xs)] 1 (.one (.all 0 v')) u ∧ Stays c [(0, .row e .tree v xs)] 1 c [(0, .row e .tree v' xs)] ∧ u = c.cur 0 := by
  cases hu with
  | one hu =>
    obtain ⟨h1, h2, h3⟩ := hu
    have h4 : u = c.cur 0 := (h3 e .tree v xs rfl).2 rfl
    refine ⟨⟨fun id => ?_, fun id hid => ?_, hs.disj, hs.xz, hs.zlt, hs.xlt⟩, .one ⟨h1, h2, fun e' k v2 xs' h => ?_⟩, fun id hid => ?_, h4⟩
    · have h6 := hs.os id
      simp only [geto_cons] at h6 ⊢
      by_cases h0 : 0 = id
      · rw [if_pos h0] at h6 ⊢
        exact h6
      · rw [if_neg h0] at h6 ⊢
        exact h6
    · have := hs.lt id hid
      simp only [geto_cons] at this ⊢
      rw [if_neg (by omega)] at this ⊢
      exact this
    · have h7 : geto [(0, O.row e .tree v' xs)] 0 = .row e .tree v' xs := rfl
      rw [h7] at h
      cases h
      exact ⟨Nat.le_refl _, fun _ => h4⟩
    · have h0 : id = 0 := by omega
      subst h0
      show e = e ∧ _
      refine ⟨rfl, ?_⟩
      rcases Nat.lt_or_eq_of_le hv with g | g
      · exact .inl g
      · exact .inr ⟨g.symm, rfl, rfl⟩

theorem run_enter {P : Program} {f : FuncId} {fn : Func} {body : Code} (hf : P.funcs[f]? = some fn) (hb : fn.body = some body) (hn : fnOk fn = true) (us : Array Value) (w : World) : (callFunc f us).run P w = .ok (.enter f us) w := by
  have : fn.name ≠ "runtime.NumGoroutine" := by simpa [fnOk] using hn
  simp [callFunc, hf, hb, this]

theorem mem_sorted {l : List Int} {n : Int} (h : n ∈ l.mergeSort fun x y => decide (x ≤ y)) : n ∈ l := List.mem_mergeSort.1 h

/-- slices.Sort over a row of one's own. -/
theorem sortVC {P : Program} {T : TypeId → Option TI} {f : FuncId} {e : TypeId} {i : TI} (hrun : ∀ us w, (callFunc f us).run P w = .ok (.enter f us) w) (hT : T e = some i) (hk : i.ks = [.int .i64])
    (hc : ∀ (blk off cap : Nat) (zs : List Int) (w : World), Holds (Value.int .i64) w blk off zs.toArray → blk < w.heap.size → zs.length < 4611686018427387904 → Calls P f #[.slice (some ⟨blk, off, none⟩) zs.length cap] w fun e w' =>
      e = .returned (.tuple #[]) ∧ ∃ n os, w' = grow (putRow (Value.int .i64) (Sort.ahead w n) blk off (zs.mergeSort fun x y => decide (x ≤ y)).toArray) os)
    (hn : ∀ (p : Option Addr) (cap : Nat) (w : World), Calls P f #[.slice p 0 cap] w fun e w' => e = .returned (.tuple #[]) ∧ w' = w) (l : List Int) (hl : l.length ≤ M20) :
    VC P T f [.one (.all 0 0)] [(0, .row e .tree 0 (l.map eI))] 1 fun r S k => Done (r = .tup [] ∧ S = [(0, .row e .tree 0 ((l.mergeSort fun x y => decide (x ≤ y)).map eI))] ∧ k = 1) := by
  unfold VC
  intro w c us hs hlen hv
  obtain ⟨u, rfl⟩ : ∃ u, us = [u] := List.length_eq_one_iff.1 hlen
  have hu := hv 0 _ u rfl rfl
  obtain ⟨hs', hu', hst, he⟩ := bump (v' := 0) hs hu (Nat.le_refl _)
  refine .inl ⟨hrun _ _, ?_⟩
  have ho : Ow T w (c.X 0) (.sl e) (.sl (l.map eI)) u := he ▸ hs.os 0
  have htup : VR T w c [(0, .row e .tree 0 (l.map eI))] 1 (.tup []) (.tuple #[]) := .tup rfl fun j v u h => by simp at h
  rcases rowI hT hk ho with ⟨rfl, rfl, hX⟩ | ⟨b, arr, cap, rfl, hb, hcap, hle, hm, hX, hcell, hrng⟩
  · refine (hn none 0 w).mono ?_
    rintro _ w' ⟨rfl, rfl⟩
    exact ⟨_, _, _, 1, c, rfl, Nat.le_refl _, hs, htup, Ext.refl _ _, Stays.refl _ _ _, ⟨rfl, by rw [show ([] : List Int).mergeSort (fun x y => decide (x ≤ y)) = [] from by simp], rfl⟩⟩
  · have hbs : b < w.heap.size := (Array.getElem?_eq_some_iff.1 hb).1
    have hll := List.length_mergeSort l (le := fun x y => decide (x ≤ y))
    refine (hc b 0 cap l w (holds_of_blockI hb ?_) hbs (by simp only [M20] at hl; omega)).mono ?_
    · refine List.ext_getElem? fun j => ?_
      rw [List.getElem?_map]
      by_cases hj : j < l.length
      · rw [List.getElem?_take_of_lt hj, Array.getElem?_toList, hcell j hj, List.getElem?_eq_getElem hj]; rfl
      · rw [List.getElem?_eq_none (by rw [List.length_take]; omega), List.getElem?_eq_none (by omega)]; rfl
    · rintro _ w' ⟨rfl, n, os, rfl⟩
      obtain ⟨g1, g2, g3, g4, g5, g6, g7, g8⟩ := turned (n := n) (os := os) (d := (l.mergeSort fun x y => decide (x ≤ y)).toArray) hb (by rw [List.size_toArray, hll]; omega)
      obtain ⟨c', k1, k2, k3, k4⟩ := rowTo (l' := l.mergeSort fun x y => decide (x ≤ y)) (v' := 0) hT hk hs hX hb hcap g1 g2 g3 g4 g5 g6 g7 (by rw [hll]; exact hle) (by rw [hll]; exact hm) (fun p hp => by have := g8 p (by rw [List.size_toArray]; exact hp); simpa using this) (fun n hn => hrng n (mem_sorted hn)) (.inr ⟨rfl, hll, by rw [hll]; exact he.symm⟩)
      exact ⟨_, .tup [], _, 1, c', rfl, Nat.le_refl _, k1, .tup rfl fun j v u h => by simp at h, k2, k3, ⟨rfl, rfl, rfl⟩⟩

/-- slices.Compact over a row of one's own. -/
theorem compactVC {P : Program} {T : TypeId → Option TI} {f : FuncId} {e : TypeId} {i : TI} (hrun : ∀ us w, (callFunc f us).run P w = .ok (.enter f us) w) (hT : T e = some i) (hk : i.ks = [.int .i64])
    (hc : ∀ (blk off cap : Nat) (zs : List Int) (w : World), Holds (Value.int .i64) w blk off zs.toArray → zs.length ≤ 9223372036854775807 → zs.length ≤ cap → Calls P f #[.slice (some ⟨blk, off, none⟩) zs.length cap] w fun e w' =>
      e = .returned (.slice (some ⟨blk, off, none⟩) (Lib.compact zs).length cap) ∧ ∃ q, w' = putRow (Value.int .i64) (Sort.ahead w q) blk off (Lib.compact zs ++ List.replicate (zs.length - (Lib.compact zs).length) 0).toArray)
    (hn : ∀ (p : Option Addr) (cap : Nat) (w : World), Calls P f #[.slice p 0 cap] w fun e w' => e = .returned (.slice p 0 cap) ∧ w' = w) (l : List Int) (hll : (Lib.compact l).length ≤ l.length) (hmem : ∀ n ∈ Lib.compact l, n ∈ l) (hnil : Lib.compact ([] : List Int) = []) :
    VC P T f [.one (.all 0 0)] [(0, .row e .tree 0 (l.map eI))] 1 fun r S k => Done (r = .one (.all 0 1) ∧ S = [(0, .row e .tree 1 ((Lib.compact l).map eI))] ∧ k = 1) := by
  unfold VC
  intro w c us hs hlen hv
  obtain ⟨u, rfl⟩ : ∃ u, us = [u] := List.length_eq_one_iff.1 hlen
  have hu := hv 0 _ u rfl rfl
  obtain ⟨hs', hu', hst, he⟩ := bump (v' := 1) hs hu (by decide)
  refine .inl ⟨hrun _ _, ?_⟩
  have ho : Ow T w (c.X 0) (.sl e) (.sl (l.map eI)) u := he ▸ hs.os 0
  rcases rowI hT hk ho with ⟨rfl, rfl, hX⟩ | ⟨b, arr, cap, rfl, hb, hcap, hle, hm, hX, hcell, hrng⟩
  · refine (hn none 0 w).mono ?_
    rintro _ w' ⟨rfl, rfl⟩
    exact ⟨_, .one (.all 0 1), _, 1, c, rfl, Nat.le_refl _, hs', hu', Ext.refl _ _, hst, ⟨rfl, by rw [hnil], rfl⟩⟩
  · have hbs : b < w.heap.size := (Array.getElem?_eq_some_iff.1 hb).1
    refine (hc b 0 cap l w (holds_of_blockI hb ?_) hm hle).mono ?_
    · refine List.ext_getElem? fun j => ?_
      rw [List.getElem?_map]
      by_cases hj : j < l.length
      · rw [List.getElem?_take_of_lt hj, Array.getElem?_toList, hcell j hj, List.getElem?_eq_getElem hj]; rfl
      · rw [List.getElem?_eq_none (by rw [List.length_take]; omega), List.getElem?_eq_none (by omega)]; rfl
    · rintro _ w' ⟨rfl, q, rfl⟩
      have hds : (Lib.compact l ++ List.replicate (l.length - (Lib.compact l).length) 0).toArray.size = l.length := by simp; omega
      obtain ⟨g1, g2, g3, g4, g5, g6, g7, g8⟩ := turned (n := q) (os := #[]) (d := (Lib.compact l ++ List.replicate (l.length - (Lib.compact l).length) 0).toArray) hb (by rw [hds]; omega)
      rw [grow_empty] at g1 g2 g3 g4 g5 g6
      obtain ⟨c', k1, k2, k3, k4⟩ := rowTo (l' := Lib.compact l) (v' := 1) hT hk hs hX hb hcap g1 g2 g3 g4 g5 g6 g7 (by omega) (by omega) (fun p hp => by
        have := g8 p (by rw [hds]; omega)
        rw [this]
        simp [List.getElem_append_left, hp]) (fun n hn => hrng n (hmem n hn)) (.inl (by decide))
      exact ⟨_, .one (.all 0 1), _, 1, c', rfl, Nat.le_refl _, k1, k4, k2, k3, ⟨rfl, rfl, rfl⟩⟩

end Go.Proofs.Ytodhnbjncmihkaa.V
end

section
/- The numbers of a library function and of what it calls, at this program. -/
namespace Go.Proofs
open Go.Shelf
def Try.layCompact_ren : Go.Shelf.Ren := ⟨fun | 43 => 34 | n => n, fun | 22 => 28 | 23 => 2 | 3 => 3 | 4 => 4 | 0 => 0 | n => n, fun | n => n⟩
theorem Try.layCompact : Go.Proofs.SlLaysN.n43 Try.prog Try.layCompact_ren := {
  mixed := by kernel_rfl,
  f43 := ⟨Try.f34.name, by decide, Try.func34.trans (congrArg some (by kernel_rfl))⟩,
  t0 := Try.underlying0,
  a0 := Try.isAgg0,
  z0 := Try.sizeOf0,
  v0 := Try.zeroValue0,
  t3 := Try.underlying3,
  a3 := Try.isAgg3,
  z3 := Try.sizeOf3,
  v3 := Try.zeroValue3,
  t4 := Try.underlying4,
  a4 := Try.isAgg4,
  z4 := Try.sizeOf4,
  v4 := Try.zeroValue4,
  t22 := Try.underlying28,
  a22 := Try.isAgg28,
  z22 := Try.sizeOf28,
  v22 := Try.zeroValue28,
  t23 := Try.underlying2,
  a23 := Try.isAgg2,
  z23 := Try.sizeOf2,
  v23 := Try.zeroValue2,
  i23 := by kernel_rfl }
end Go.Proofs
end

section
/- The library's Compact, laid at this program. -/
set_option linter.unusedVariables false
namespace Go.Proofs
open Go.Shelf

namespace Ytodhnbjncmihkaa.V
open Go Go.Sort

theorem compact_c (l : List Int) : CT 34 [.one (.all 0 0)] [(0, .row 2 .tree 0 (l.map eI))] 1 fun r S k => r = .one (.all 0 1) ∧ S = [(0, .row 2 .tree 1 ((Lib.compact l).map eI))] ∧ k = 1 :=
  compactVC (run_enter Try.func34 rfl rfl) (i := ⟨.int .i64, [.int .i64], 8⟩) rfl rfl
    (fun blk off cap zs w h1 h2 h3 => AnyG.slices_Compact_int Try.layCompact blk off cap zs w h1 h2 h3) (fun p cap w => AnyG.slices_Compact_int_empty Try.layCompact p cap w) l (compact_len l) (fun n h => (compact_mem l n).1 h) rfl

end Ytodhnbjncmihkaa.V
end Go.Proofs
end

section
/- What each of these functions comes to: the program's variables of a term. -/
set_option linter.unusedVariables false
set_option maxRecDepth 100000
namespace Go.Proofs.Ytodhnbjncmihkaa.V
open Go

theorem VC.castS2 {P : Program} {T : TypeId → Option TI} {f : FuncId} {args : List V} {S S' : Sto} {nx : Nat} {post : V → Sto → Nat → Prop} (e : S' = S) (h : VC P T f args S nx post) : VC P T f args S' nx post := by
  subst e; exact h

abbrev sortL (l : List Int) : List Int := l.mergeSort fun x y => decide (x ≤ y)

abbrev SortC : Prop := ∀ (l : List Int), l.length ≤ M20 → CT 33 [.one (.all 0 0)] [(0, .row 2 .tree 0 (l.map eI))] 1 fun r S k => r = .tup [] ∧ S = [(0, .row 2 .tree 0 ((sortL l).map eI))] ∧ k = 1

theorem varsOf_i (hsort : SortC) (ns : List TNode) (hn : ns.length ≤ M20) : CT 23 [.agg [.ro 52 (ns.map eNode)]] [] 0 fun r S k => r = .one (.all 0 0) ∧ S = [(0, .row 2 .tree 0 ((Lib.compact (sortL (gath ns))).map eI))] ∧ k = 1 := by
  have hN : (ns.map eNode).length = ns.length := List.length_map _
  simp only [M20] at hn
  refine CT.run (fun _ => false) false Try.func23 (by kernel_rfl) ?_
  conv => whnf
  repeat (intro _; conv => whnf)
  refine ⟨Nat, fun k => ⟨[(3, .one (.all 0 0)), (8, .one (.ro 52 (ns.map eNode))), (9, vI ((ns.map eNode).length : Int)), (10, vI k)], [(0, .row 2 .tree 0 ((gath (ns.take k)).map eI))], 1⟩, fun k => k ≤ ns.length, fun k => ns.length - k, ⟨0, Le.ren0 [1] rfl ⟨⟨rfl, rfl⟩, trivial⟩ ⟨rfl, rfl, rfl, rfl, trivial⟩, Nat.zero_le _⟩, fun k hk => ?_⟩
  have hk : k ≤ ns.length := hk
  conv => whnf
  refine fork_dec (fun h => ?_) (fun h => ?_) <;> conv => whnf
  · have hk' : k < ns.length := by omega
    refine gdx (by omega) h ?_
    rw [at_mapI eNode ns hk']
    conv => whnf
    repeat (intro _; conv => whnf)
    refine fork_dec (fun h1 => ?_) (fun h1 => ?_) <;> conv => whnf
    · have h1 : ns[k].op = 1 := h1
      have hg := gath_len (ns.take k)
      rw [List.length_take] at hg
      have hgm : ((gath (ns.take k)).map eI).length ≤ k := by rw [List.length_map]; omega
      refine gdn (by show (((gath (ns.take k)).map eI).length + 1) * 8 ≤ _; omega) ?_
      conv => whnf
      have hs : (gath (ns.take k)).map eI ++ [eI ns[k].vr] = (gath (ns.take (k + 1))).map eI := by
        rw [gath_step ns hk', if_pos h1, List.map_append]; rfl
      refine ⟨k + 1, Le.ren0 [0] rfl ⟨⟨rfl, congrArg (fun x => some (O.row 2 .tree 0 x)) hs⟩, trivial⟩ ⟨rfl, rfl, rfl, congrArg (fun x => some (vI x)) (inc (by omega)), trivial⟩, hk', ?_⟩
      show ns.length - (k + 1) < ns.length - k
      omega
    · have h1 : ¬ ns[k].op = 1 := h1
      have hs : (gath (ns.take k)).map eI = (gath (ns.take (k + 1))).map eI := by
        rw [gath_step ns hk', if_neg h1, List.append_nil]
      refine ⟨k + 1, Le.ren0 [0] rfl ⟨⟨rfl, congrArg (fun x => some (O.row 2 .tree 0 x)) hs⟩, trivial⟩ ⟨rfl, rfl, rfl, congrArg (fun x => some (vI x)) (inc (by omega)), trivial⟩, hk', ?_⟩
      show ns.length - (k + 1) < ns.length - k
      omega
  · have hkn : k = ns.length := by omega
    subst hkn
    have hg := gath_len ns
    refine VC.castS2 (S := [(0, .row 2 .tree 0 ((gath ns).map eI))]) (by rw [List.take_of_length_le (Nat.le_refl _)]) (CT.eq (hsort (gath ns) (by simp only [M20]; omega)) ?_)
    conv => whnf
    refine CT.eq (compact_c (sortL (gath ns))) ?_
    conv => whnf
    exact ⟨rfl, rfl, rfl⟩

theorem VarsOf_i (hsort : SortC) (ds : List Decl) (ns : List TNode) : CT 9 [.one (.ro 53 (ds.map eDecl)), .agg [.ro 52 (ns.map eNode)]] [] 0 fun r S k => r = .one (.all 0 0) ∧ S = [(0, .row 2 .tree 0 ((varsL ds ns).map eI))] ∧ k = 1 := by
  have hw := widthZ_cases ds ns
  refine CT.run (fun _ => true) false Try.func9 (by kernel_rfl) ?_
  conv => whnf
  repeat (intro _; conv => whnf)
  refine CT.eq (WidthOf_i ds ns) ?_
  conv => whnf
  refine fork_dec (fun h => ?_) (fun h => ?_) <;> conv => whnf
  · exact ⟨rfl, congrArg (fun x => [(0, O.row 2 .tree 0 (x.map eI))]) (varsL_no fun g => by rcases hw with hw | hw; exact hw.1 g; omega).symm, rfl⟩
  have hok : DeclsP ds ∧ TermP ds ns := by
    rcases hw with hw | hw
    · omega
    · exact hw.1
  refine CT.eq (varsOf_i hsort ns (by simp only [M20]; have := hok.2.2.1; omega)) ?_
  conv => whnf
  exact ⟨rfl, congrArg (fun x => [(0, O.row 2 .tree 0 (x.map eI))]) ((vars_both hok.2).trans (varsL_yes hok).symm), rfl⟩

end Go.Proofs.Ytodhnbjncmihkaa.V
end

section
/- What each of these functions of the laws comes to: sizes, and equality. -/
set_option linter.unusedVariables false
set_option maxRecDepth 100000
namespace Go.Proofs.Ytodhnbjncmihkaa.V
open Go

theorem left_neg {a : Nat} {k : Int} (h : left a k < 0) (h0 : 0 ≤ k) (b : Nat) : left (a + b) k = -1 := by
  unfold left at *
  split at h
  · rw [if_pos (by omega)]
  · omega

theorem left_add {a b : Nat} {k : Int} (h : ¬ left a k < 0) : left b (left a k) = left (a + b) k := by
  unfold left at *
  split at h
  · omega
  · rename_i h1
    rw [if_neg h1]
    split
    · rw [if_pos (by omega)]
    · rw [if_neg (by omega)]
      omega

theorem left_le {a : Nat} {k : Int} (h : ¬ left a k < 0) : (a : Int) ≤ k ∧ left a k = k - a := by
  unfold left at *
  split at h
  · omega
  · rename_i h1
    rw [if_neg h1]
    omega

/-- What the first i are together. -/
def sumTo {α : Type} (f : α → Nat) (l : List α) (i : Nat) : Nat := ((l.take i).map f).sum

theorem sumTo_zero {α : Type} (f : α → Nat) (l : List α) : sumTo f l 0 = 0 := by simp [sumTo]

theorem sumTo_succ {α : Type} (f : α → Nat) (l : List α) {i : Nat} (h : i < l.length) : sumTo f l (i + 1) = sumTo f l i + f (l[i]'h) := by
  unfold sumTo
  rw [List.take_succ_eq_append_getElem h, List.map_append, List.sum_append]
  simp only [List.map_cons, List.map_nil, List.sum_cons, List.sum_nil, Nat.add_zero]

theorem sumTo_all {α : Type} (f : α → Nat) (l : List α) {i : Nat} (h : l.length ≤ i) : sumTo f l i = (l.map f).sum := by
  simp [sumTo, List.take_of_length_le h]

theorem sumTo_le {α : Type} (f : α → Nat) : ∀ (l : List α) (i : Nat), sumTo f l i ≤ (l.map f).sum
  | [], i => by rw [sumTo, List.take_nil]; exact Nat.le_refl _
  | x :: l, 0 => Nat.zero_le _
  | x :: l, i + 1 => by
    show ((List.take (i + 1) (x :: l)).map f).sum ≤ ((x :: l).map f).sum
    rw [List.take_succ_cons, List.map_cons, List.sum_cons, List.map_cons, List.sum_cons]
    exact Nat.add_le_add_left (sumTo_le f l i) _

abbrev szD (d : Decl) : Nat := d.nm.size

abbrev szB (b : Bits) : Nat := b.ws.length

abbrev szN (x : TNode) : Nat := x.val.ws.length + x.kids.length

abbrev szL {α : Type} (f : α → Nat) (l : List α) : Nat := l.length + (l.map f).sum

theorem szDecl_c (d : Decl) (k : Int) (h0 : 0 ≤ k) : CT 17 [vDecl d, vI k] [] 0 fun r S n => r = vI (left (szD d) k) ∧ S = [] ∧ n = 0 := by
  refine CT.run (fun _ => false) false Try.func17 (by kernel_rfl) ?_
  conv => whnf
  intro hs
  conv => whnf
  intro hw
  conv => whnf
  intro hk
  have hk : -9223372036854775808 ≤ k ∧ k ≤ 9223372036854775807 := hk
  have hwr : IntKind.i64.wrap (k - (d.nm.size : Int)) = k - d.nm.size := wrap64 (by omega) (by omega)
  conv => whnf
  intro _
  conv => whnf
  refine fork_dec (fun h => ?_) (fun h => ?_) <;> conv => whnf
  · rw [hwr] at h
    exact ⟨congrArg vI (by simp only [left, szD]; rw [if_pos (by omega)]), rfl, rfl⟩
  · rw [hwr] at h
    exact ⟨congrArg vI (by simp only [left, szD]; rw [if_neg (by omega)]; exact hwr), rfl, rfl⟩

theorem szBits_c (b : Bits) (k : Int) (h0 : 0 ≤ k) : CT 37 [vBits b, vI k] [] 0 fun r S n => r = vI (left (szB b) k) ∧ S = [] ∧ n = 0 := by
  have hL : (b.ws.map eU).length = b.ws.length := List.length_map _
  refine CT.run (fun _ => false) false Try.func37 (by kernel_rfl) ?_
  conv => whnf
  repeat' (intro h; conv => whnf)
  refine CT.eq (szU (b.ws.map eU) k h0) ?_
  rw [hL]
  conv => whnf
  refine fork_dec (fun h => ?_) (fun h => ?_) <;> conv => whnf
  · exact ⟨congrArg vI (by have := left_neg h h0 0; simpa using this.symm), rfl, rfl⟩
  · exact ⟨rfl, rfl, rfl⟩

theorem szTNode_c (x : TNode) (k : Int) (h0 : 0 ≤ k) : CT 28 [vNode x, vI k] [] 0 fun r S n => r = vI (left (szN x) k) ∧ S = [] ∧ n = 0 := by
  have hL : (x.kids.map eI).length = x.kids.length := List.length_map _
  refine CT.run (fun _ => false) false Try.func28 (by kernel_rfl) ?_
  conv => whnf
  repeat' (intro h; conv => whnf)
  refine CT.eq (szBits_c x.val k h0) ?_
  conv => whnf
  refine fork_dec (fun h => ?_) (fun h => ?_) <;> conv => whnf
  · exact ⟨congrArg vI (left_neg h h0 _).symm, rfl, rfl⟩
  · refine CT.eq (szI (x.kids.map eI) (left (szB x.val) k) (by omega)) ?_
    rw [hL, left_add h]
    conv => whnf
    refine fork_dec (fun h => ?_) (fun h => ?_) <;> conv => whnf
    · exact ⟨congrArg vI (by have := left_neg h h0 0; simpa using this.symm), rfl, rfl⟩
    · exact ⟨rfl, rfl, rfl⟩

theorem szDeclS_c (l : List Decl) (k : Int) (h0 : 0 ≤ k) : CT 4 [.one (.ro 45 (l.map eDecl)), vI k] [] 0 fun r S n => r = vI (left (szL szD l) k) ∧ S = [] ∧ n = 0 := by
  have hL : (l.map eDecl).length = l.length := List.length_map _
  refine CT.run (fun _ => false) false Try.func4 (by kernel_rfl) ?_
  conv => whnf
  intro hs
  conv => whnf
  intro hk
  have hk : -9223372036854775808 ≤ k ∧ k ≤ 9223372036854775807 := hk
  have hwr : IntKind.i64.wrap (k - ((l.map eDecl).length : Int)) = left l.length k ∨ (k < l.length ∧ IntKind.i64.wrap (k - ((l.map eDecl).length : Int)) < 0) := by
    rw [hL]
    have e : IntKind.i64.wrap (k - (l.length : Int)) = k - l.length := wrap64 (by omega) (by omega)
    rw [e]
    unfold left
    split
    · exact .inr ⟨by omega, by omega⟩
    · exact .inl rfl
  conv => whnf
  intro _
  conv => whnf
  refine fork_dec (fun h => ?_) (fun h => ?_) <;> conv => whnf
  · refine ⟨congrArg vI ?_, rfl, rfl⟩
    rcases hwr with hwr | hwr
    · rw [hwr] at h
      exact (left_neg h h0 _).symm
    · unfold left szL
      rw [if_pos (by omega)]
  · have hwr : IntKind.i64.wrap (k - ((l.map eDecl).length : Int)) = left l.length k := hwr.resolve_right fun h' => by omega
    rw [hwr] at h
    refine ⟨Nat, fun i => ⟨[(0, .one (.ro 45 (l.map eDecl))), (1, vI (left (l.length + sumTo szD l i) k)), (5, vI i)], [], 0⟩, fun i => i ≤ l.length ∧ ¬ left (l.length + sumTo szD l i) k < 0, fun i => l.length - i, ⟨0, Le.ren [] rfl trivial ⟨rfl, congrArg (fun x => some (vI x)) (hwr.trans (by rw [sumTo_zero, Nat.add_zero])), rfl, trivial⟩, Nat.zero_le _, by rw [sumTo_zero, Nat.add_zero]; exact h⟩, fun i hi => ?_⟩
    obtain ⟨hi, hn⟩ := hi
    conv => whnf
    intro _
    conv => whnf
    refine fork_dec (fun h => ?_) (fun h => ?_) <;> conv => whnf
    · have hi' : i < l.length := by omega
      refine gdx (by omega) h ?_
      rw [at_mapI eDecl l hi']
      conv => whnf
      repeat' (intro h; conv => whnf)
      refine CT.eq (szDecl_c l[i] _ (by omega)) ?_
      rw [show left (szD l[i]) (left (l.length + sumTo szD l i) k) = left (l.length + sumTo szD l (i + 1)) k by rw [left_add hn, Nat.add_assoc, sumTo_succ szD l hi']]
      conv => whnf
      refine fork_dec (fun h => ?_) (fun h => ?_) <;> conv => whnf
      · refine ⟨congrArg vI ?_, rfl, rfl⟩
        have hle := sumTo_le szD l (i + 1)
        have := left_neg h h0 ((l.map szD).sum - sumTo szD l (i + 1))
        rw [← this]
        congr 1
        simp only [szL]
        omega
      · refine ⟨i + 1, Le.ren [] rfl trivial ⟨rfl, rfl, congrArg (fun x => some (vI x)) (inc (by omega)), trivial⟩, ⟨hi', h⟩, ?_⟩
        show l.length - (i + 1) < l.length - i
        omega
    · refine ⟨congrArg vI ?_, rfl, rfl⟩
      rw [sumTo_all szD l (by omega)]

theorem szTNodeS_c (l : List TNode) (k : Int) (h0 : 0 ≤ k) : CT 18 [.one (.ro 64 (l.map eNode)), vI k] [] 0 fun r S n => r = vI (left (szL szN l) k) ∧ S = [] ∧ n = 0 := by
  have hL : (l.map eNode).length = l.length := List.length_map _
  refine CT.run (fun _ => false) false Try.func18 (by kernel_rfl) ?_
  conv => whnf
  intro hs
  conv => whnf
  intro hk
  have hk : -9223372036854775808 ≤ k ∧ k ≤ 9223372036854775807 := hk
  have hwr : IntKind.i64.wrap (k - ((l.map eNode).length : Int)) = left l.length k ∨ (k < l.length ∧ IntKind.i64.wrap (k - ((l.map eNode).length : Int)) < 0) := by
    rw [hL]
    have e : IntKind.i64.wrap (k - (l.length : Int)) = k - l.length := wrap64 (by omega) (by omega)
    rw [e]
    unfold left
    split
    · exact .inr ⟨by omega, by omega⟩
    · exact .inl rfl
  conv => whnf
  intro _
  conv => whnf
  refine fork_dec (fun h => ?_) (fun h => ?_) <;> conv => whnf
  · refine ⟨congrArg vI ?_, rfl, rfl⟩
    rcases hwr with hwr | hwr
    · rw [hwr] at h
      exact (left_neg h h0 _).symm
    · unfold left szL
      rw [if_pos (by omega)]
  · have hwr : IntKind.i64.wrap (k - ((l.map eNode).length : Int)) = left l.length k := hwr.resolve_right fun h' => by omega
    rw [hwr] at h
    refine ⟨Nat, fun i => ⟨[(0, .one (.ro 64 (l.map eNode))), (1, vI (left (l.length + sumTo szN l i) k)), (5, vI i)], [], 0⟩, fun i => i ≤ l.length ∧ ¬ left (l.length + sumTo szN l i) k < 0, fun i => l.length - i, ⟨0, Le.ren [] rfl trivial ⟨rfl, congrArg (fun x => some (vI x)) (hwr.trans (by rw [sumTo_zero, Nat.add_zero])), rfl, trivial⟩, Nat.zero_le _, by rw [sumTo_zero, Nat.add_zero]; exact h⟩, fun i hi => ?_⟩
    obtain ⟨hi, hn⟩ := hi
    conv => whnf
    intro _
    conv => whnf
    refine fork_dec (fun h => ?_) (fun h => ?_) <;> conv => whnf
    · have hi' : i < l.length := by omega
      refine gdx (by omega) h ?_
      rw [at_mapI eNode l hi']
      conv => whnf
      repeat' (intro h; conv => whnf)
      refine CT.eq (szTNode_c l[i] _ (by omega)) ?_
      rw [show left (szN l[i]) (left (l.length + sumTo szN l i) k) = left (l.length + sumTo szN l (i + 1)) k by rw [left_add hn, Nat.add_assoc, sumTo_succ szN l hi']]
      conv => whnf
      refine fork_dec (fun h => ?_) (fun h => ?_) <;> conv => whnf
      · refine ⟨congrArg vI ?_, rfl, rfl⟩
        have hle := sumTo_le szN l (i + 1)
        have := left_neg h h0 ((l.map szN).sum - sumTo szN l (i + 1))
        rw [← this]
        congr 1
        simp only [szL]
        omega
      · refine ⟨i + 1, Le.ren [] rfl trivial ⟨rfl, rfl, congrArg (fun x => some (vI x)) (inc (by omega)), trivial⟩, ⟨hi', h⟩, ?_⟩
        show l.length - (i + 1) < l.length - i
        omega
    · refine ⟨congrArg vI ?_, rfl, rfl⟩
      rw [sumTo_all szN l (by omega)]

theorem szTerm_c (l : List TNode) (k : Int) (h0 : 0 ≤ k) : CT 5 [.agg [.ro 64 (l.map eNode)], vI k] [] 0 fun r S n => r = vI (left (szL szN l) k) ∧ S = [] ∧ n = 0 := by
  refine CT.run (fun _ => false) false Try.func5 (by kernel_rfl) ?_
  conv => whnf
  repeat' (intro h; conv => whnf)
  refine CT.eq (szTNodeS_c l k h0) ?_
  conv => whnf
  refine fork_dec (fun h => ?_) (fun h => ?_) <;> conv => whnf
  · exact ⟨congrArg vI (by have := left_neg h h0 0; simpa using this.symm), rfl, rfl⟩
  · exact ⟨rfl, rfl, rfl⟩

/-! ### equality -/

theorem eqDecl_c (d d' : Decl) : CT 24 [vDecl d, vDecl d'] [] 0 fun r S n => r = vB (decide (d = d')) ∧ S = [] ∧ n = 0 := by
  refine CT.run (fun _ => false) false Try.func24 (by kernel_rfl) ?_
  conv => whnf
  repeat' (first
    | (refine gdd rfl ?_; conv => whnf)
    | (refine fork_dec (fun h => ?_) (fun h => ?_) <;> conv => whnf)
    | (intro h; conv => whnf))
  · rename_i h
    exact ⟨retB (dec_f fun e => h (congrArg Decl.nm e)), rfl, rfl⟩
  · rename_i h
    exact ⟨retB (dec_f fun e => h (congrArg Decl.wd e)), rfl, rfl⟩
  · have h1 : d.nm = d'.nm := Decidable.not_not.1 (by assumption)
    have h2 : d.wd = d'.wd := Decidable.not_not.1 (by assumption)
    exact ⟨retB (dec_t (by cases d; cases d'; cases h1; cases h2; rfl)), rfl, rfl⟩

theorem eqBits_c (b b' : Bits) : CT 51 [vBits b, vBits b'] [] 0 fun r S n => r = vB (decide (b = b')) ∧ S = [] ∧ n = 0 := by
  refine CT.run (fun _ => false) false Try.func51 (by kernel_rfl) ?_
  conv => whnf
  repeat' (first
    | (refine gdd rfl ?_; conv => whnf)
    | (refine fork_dec (fun h => ?_) (fun h => ?_) <;> conv => whnf)
    | (intro h; conv => whnf))
  · rename_i h
    exact ⟨retB (dec_f fun e => h (congrArg Bits.w e)), rfl, rfl⟩
  · have h1 : b.w = b'.w := Decidable.not_not.1 (by assumption)
    refine CT.eq (eqU b.ws b'.ws) ?_
    conv => whnf
    refine fork_any (fun h => ?_) (fun h => ?_) <;> conv => whnf
    · have h2 : b.ws ≠ b'.ws := fun e => by rw [e] at h; simp at h
      exact ⟨retB (dec_f fun e => h2 (congrArg Bits.ws e)), rfl, rfl⟩
    · have h2 : b.ws = b'.ws := by simpa using h
      exact ⟨retB (dec_t (by cases b; cases b'; cases h1; cases h2; rfl)), rfl, rfl⟩

end Go.Proofs.Ytodhnbjncmihkaa.V
end

section
/- What each of these functions of the laws comes to: equality of nodes, rows, terms. -/
set_option linter.unusedVariables false
set_option maxRecDepth 100000
namespace Go.Proofs.Ytodhnbjncmihkaa.V
open Go

theorem eqTNode_c (x y : TNode) : CT 35 [vNode x, vNode y] [] 0 fun r S n => r = vB (decide (x = y)) ∧ S = [] ∧ n = 0 := by
  refine CT.run (fun _ => false) false Try.func35 (by kernel_rfl) ?_
  conv => whnf
  repeat' (first
    | (refine gdd rfl ?_; conv => whnf)
    | (refine fork_dec (fun h => ?_) (fun h => ?_) <;> conv => whnf)
    | (intro h; conv => whnf))
  · rename_i h
    exact ⟨retB (dec_f fun e => h (congrArg TNode.op e)), rfl, rfl⟩
  · rename_i h
    exact ⟨retB (dec_f fun e => h (congrArg TNode.vr e)), rfl, rfl⟩
  · rename_i h
    exact ⟨retB (dec_f fun e => h (congrArg TNode.a e)), rfl, rfl⟩
  · rename_i h
    exact ⟨retB (dec_f fun e => h (congrArg TNode.b e)), rfl, rfl⟩
  · have h1 : x.op = y.op := Decidable.not_not.1 (by assumption)
    have h2 : x.vr = y.vr := Decidable.not_not.1 (by assumption)
    have h3 : x.a = y.a := Decidable.not_not.1 (by assumption)
    have h4 : x.b = y.b := Decidable.not_not.1 (by assumption)
    refine CT.eq (eqBits_c x.val y.val) ?_
    conv => whnf
    refine fork_any (fun h => ?_) (fun h => ?_) <;> conv => whnf
    · have h5 : x.val ≠ y.val := by simpa using h
      exact ⟨retB (dec_f fun e => h5 (congrArg TNode.val e)), rfl, rfl⟩
    · have h5 : x.val = y.val := by simpa using h
      repeat' (first
        | (refine gdd rfl ?_; conv => whnf)
        | (intro h; conv => whnf))
      refine CT.eq (eqI x.kids y.kids) ?_
      conv => whnf
      refine fork_any (fun h => ?_) (fun h => ?_) <;> conv => whnf
      · have h6 : x.kids ≠ y.kids := fun e => by rw [e] at h; simp at h
        exact ⟨retB (dec_f fun e => h6 (congrArg TNode.kids e)), rfl, rfl⟩
      · have h6 : x.kids = y.kids := by simpa using h
        exact ⟨retB (dec_t (by cases x; cases y; cases h1; cases h2; cases h3; cases h4; cases h5; cases h6; rfl)), rfl, rfl⟩

theorem eqDeclS_c (l l' : List Decl) : CT 11 [.one (.ro 53 (l.map eDecl)), .one (.ro 53 (l'.map eDecl))] [] 0 fun r S n => r = vB (decide (l = l')) ∧ S = [] ∧ n = 0 := by
  have hL : (l.map eDecl).length = l.length := List.length_map _
  have hL' : (l'.map eDecl).length = l'.length := List.length_map _
  refine CT.run (fun _ => false) false Try.func11 (by kernel_rfl) ?_
  conv => whnf
  intro hs
  conv => whnf
  intro hs'
  conv => whnf
  intro _
  conv => whnf
  intro _
  conv => whnf
  refine fork_dec (fun h => ?_) (fun h => ?_) <;> conv => whnf
  · refine ⟨retB (dec_f fun e => ?_), rfl, rfl⟩
    subst e
    exact h rfl
  · have hll : l.length = l'.length := by omega
    refine ⟨Nat, fun k => ⟨[(0, .one (.ro 53 (l.map eDecl))), (1, .one (.ro 53 (l'.map eDecl))), (5, vI k)], [], 0⟩, fun k => k ≤ l.length ∧ l.take k = l'.take k, fun k => l.length - k, ⟨0, Le.ren [] rfl trivial ⟨rfl, rfl, rfl, trivial⟩, Nat.zero_le _, rfl⟩, fun k hk => ?_⟩
    obtain ⟨hk, hpre⟩ := hk
    conv => whnf
    intro _
    conv => whnf
    refine fork_dec (fun h => ?_) (fun h => ?_) <;> conv => whnf
    · have h1 : k < l.length := by omega
      have h2 : k < l'.length := by omega
      refine gdd rfl ?_
      conv => whnf
      refine gdx (by omega) h ?_
      rw [at_mapI eDecl l h1]
      conv => whnf
      repeat' (intro h; conv => whnf)
      refine gdx (by omega) (by omega) ?_
      rw [at_mapI eDecl l' h2]
      conv => whnf
      repeat' (intro h; conv => whnf)
      refine act1 rfl ?_ True.intro
      conv => whnf
      refine CT.eq (eqDecl_c l[k] l'[k]) ?_
      conv => whnf
      refine fork_any (fun h => ?_) (fun h => ?_) <;> conv => whnf
      · refine ⟨retB (dec_f fun e => ?_), rfl, rfl⟩
        subst e
        simp at h
      · have he : l[k] = l'[k] := by simpa using h
        refine ⟨k + 1, Le.ren [] rfl trivial ⟨rfl, rfl, congrArg (fun x => some (vI x)) (inc (by omega)), trivial⟩, ⟨h1, ?_⟩, ?_⟩
        · rw [List.take_succ_eq_append_getElem h1, List.take_succ_eq_append_getElem h2, hpre, he]
        · show l.length - (k + 1) < l.length - k
          omega
    · refine ⟨retB (dec_t ?_), rfl, rfl⟩
      rw [← List.take_of_length_le (l := l) (i := k) (by omega), ← List.take_of_length_le (l := l') (i := k) (by omega), hpre]

theorem eqTNodeS_c (l l' : List TNode) : CT 25 [.one (.ro 52 (l.map eNode)), .one (.ro 52 (l'.map eNode))] [] 0 fun r S n => r = vB (decide (l = l')) ∧ S = [] ∧ n = 0 := by
  have hL : (l.map eNode).length = l.length := List.length_map _
  have hL' : (l'.map eNode).length = l'.length := List.length_map _
  refine CT.run (fun _ => false) false Try.func25 (by kernel_rfl) ?_
  conv => whnf
  intro hs
  conv => whnf
  intro hs'
  conv => whnf
  intro _
  conv => whnf
  intro _
  conv => whnf
  refine fork_dec (fun h => ?_) (fun h => ?_) <;> conv => whnf
  · refine ⟨retB (dec_f fun e => ?_), rfl, rfl⟩
    subst e
    exact h rfl
  · have hll : l.length = l'.length := by omega
    refine ⟨Nat, fun k => ⟨[(0, .one (.ro 52 (l.map eNode))), (1, .one (.ro 52 (l'.map eNode))), (5, vI k)], [], 0⟩, fun k => k ≤ l.length ∧ l.take k = l'.take k, fun k => l.length - k, ⟨0, Le.ren [] rfl trivial ⟨rfl, rfl, rfl, trivial⟩, Nat.zero_le _, rfl⟩, fun k hk => ?_⟩
    obtain ⟨hk, hpre⟩ := hk
    conv => whnf
    intro _
    conv => whnf
    refine fork_dec (fun h => ?_) (fun h => ?_) <;> conv => whnf
    · have h1 : k < l.length := by omega
      have h2 : k < l'.length := by omega
      refine gdd rfl ?_
      conv => whnf
      refine gdx (by omega) h ?_
      rw [at_mapI eNode l h1]
      conv => whnf
      repeat' (intro h; conv => whnf)
      refine gdx (by omega) (by omega) ?_
      rw [at_mapI eNode l' h2]
      conv => whnf
      repeat' (intro h; conv => whnf)
      refine act1 rfl ?_ True.intro
      conv => whnf
      refine CT.eq (eqTNode_c l[k] l'[k]) ?_
      conv => whnf
      refine fork_any (fun h => ?_) (fun h => ?_) <;> conv => whnf
      · refine ⟨retB (dec_f fun e => ?_), rfl, rfl⟩
        subst e
        simp at h
      · have he : l[k] = l'[k] := by simpa using h
        refine ⟨k + 1, Le.ren [] rfl trivial ⟨rfl, rfl, congrArg (fun x => some (vI x)) (inc (by omega)), trivial⟩, ⟨h1, ?_⟩, ?_⟩
        · rw [List.take_succ_eq_append_getElem h1, List.take_succ_eq_append_getElem h2, hpre, he]
        · show l.length - (k + 1) < l.length - k
          omega
    · refine ⟨retB (dec_t ?_), rfl, rfl⟩
      rw [← List.take_of_length_le (l := l) (i := k) (by omega), ← List.take_of_length_le (l := l') (i := k) (by omega), hpre]

theorem eqTerm_c (l l' : List TNode) : CT 12 [.agg [.ro 52 (l.map eNode)], .agg [.ro 52 (l'.map eNode)]] [] 0 fun r S n => r = vB (decide (l = l')) ∧ S = [] ∧ n = 0 := by
  refine CT.run (fun _ => false) false Try.func12 (by kernel_rfl) ?_
  conv => whnf
  repeat' (first
    | (refine gdd rfl ?_; conv => whnf)
    | (intro h; conv => whnf))
  refine CT.eq (eqTNodeS_c l l') ?_
  conv => whnf
  refine fork_any (fun h => ?_) (fun h => ?_) <;> conv => whnf
  · have h1 : l ≠ l' := by simpa using h
    exact ⟨retB (dec_f h1), rfl, rfl⟩
  · have h1 : l = l' := by simpa using h
    exact ⟨retB (dec_t h1), rfl, rfl⟩

end Go.Proofs.Ytodhnbjncmihkaa.V
end

section
/- What each of these functions of the laws comes to: marks, and what is held. -/
set_option linter.unusedVariables false
set_option maxRecDepth 100000
namespace Go.Proofs.Ytodhnbjncmihkaa.V
open Go

/-- A digit ahead of a text. -/
def mstep (k : Int) : ByteArray := bytesOf [[.sc (.int .u8 (IntKind.u8.wrap (IntKind.i64.wrap (48 + k.tmod 10))))]]

def mdig : Nat → Int → ByteArray → ByteArray
  | 0, _, out => out
  | n + 1, k, out => if 0 < k then mdig n (IntKind.i64.wrap (k.tdiv 10)) (mstep k ++ out) else out

/-- The text of a mark. -/
def mtext (k : Int) : ByteArray := if k ≤ 0 then ⟨#[109, 48]⟩ else ⟨#[109]⟩ ++ mdig k.toNat k ⟨#[]⟩

theorem mdiv {k : Int} (h0 : 0 < k) (h1 : k ≤ M40) : 0 ≤ IntKind.i64.wrap (k.tdiv 10) ∧ IntKind.i64.wrap (k.tdiv 10) < k := by
  have e : k.tdiv 10 = k / 10 := Int.tdiv_eq_ediv_of_nonneg (by omega)
  rw [e, wrap64 (by omega) (by simp only [M40] at h1; omega)]
  omega

theorem mdig_fuel : ∀ (n : Nat) (k : Int) (out : ByteArray), k ≤ M40 → k.toNat ≤ n → mdig n k out = mdig k.toNat k out := by
  intro n
  induction n using Nat.strongRecOn with
  | _ n ih =>
    intro k out hk hn
    cases n with
    | zero =>
      have : k.toNat = 0 := by omega
      rw [this]
    | succ n =>
      by_cases h0 : 0 < k
      · obtain ⟨m, hm⟩ : ∃ m, k.toNat = m + 1 := ⟨k.toNat - 1, by omega⟩
        rw [hm]
        simp only [mdig, if_pos h0]
        obtain ⟨h1, h2⟩ := mdiv h0 hk
        rw [ih n (by omega) _ _ (by omega) (by omega), ih m (by omega) _ _ (by omega) (by omega)]
      · have e : k.toNat = 0 := by omega
        rw [e]
        simp only [mdig, if_neg h0]

theorem mstep_size (k : Int) : (mstep k).size = 1 := rfl

theorem markText_c (k : Int) (hk : k ≤ M40) : CT 26 [vI k] [] 0 fun r S n => r = vS (mtext k) ∧ S = [] ∧ n = 0 := by
  refine CT.run (fun _ => false) false Try.func26 (by kernel_rfl) ?_
  conv => whnf
  intro hr
  conv => whnf
  refine fork_dec (fun h => ?_) (fun h => ?_) <;> conv => whnf
  · exact ⟨congrArg vS (by simp only [mtext, if_pos h]), rfl, rfl⟩
  · refine ⟨Int × ByteArray, fun x => ⟨[(0, vI x.1), (3, vS x.2)], [], 0⟩, fun x => 0 ≤ x.1 ∧ x.1 ≤ k ∧ x.2.size + x.1 ≤ k ∧ mdig x.1.toNat x.1 x.2 = mdig k.toNat k ⟨#[]⟩, fun x => x.1.toNat, ⟨(k, ⟨#[]⟩), Le.ren [] rfl trivial ⟨rfl, rfl, trivial⟩, by omega, Int.le_refl _, by show (0 : Int) + k ≤ k; omega, rfl⟩, ?_⟩
    rintro ⟨j, out⟩ ⟨h0, h1, h2, h3⟩
    simp only at h0 h1 h2 h3
    simp only [M40] at hk
    conv => whnf
    refine fork_dec (fun hj => ?_) (fun hj => ?_) <;> conv => whnf
    · refine gdz (by decide) ?_
      conv => whnf
      intro _
      conv => whnf
      refine gdn (by show 1 + out.size ≤ 9223372036854775807; omega) ?_
      conv => whnf
      refine gdz (by decide) ?_
      conv => whnf
      obtain ⟨g1, g2⟩ := mdiv (k := j) hj (by simp only [M40]; omega)
      refine ⟨(IntKind.i64.wrap (j.tdiv 10), mstep j ++ out), Le.ren [] rfl trivial ⟨rfl, rfl, trivial⟩, ⟨g1, ?_, ?_, ?_⟩, ?_⟩
      · show IntKind.i64.wrap (j.tdiv 10) ≤ k
        omega
      · show ((mstep j ++ out).size : Int) + IntKind.i64.wrap (j.tdiv 10) ≤ k
        rw [ByteArray.size_append, mstep_size]
        omega
      · show mdig (IntKind.i64.wrap (j.tdiv 10)).toNat (IntKind.i64.wrap (j.tdiv 10)) (mstep j ++ out) = _
        rw [← h3]
        obtain ⟨m, hm⟩ : ∃ m, j.toNat = m + 1 := ⟨j.toNat - 1, by omega⟩
        rw [hm]
        simp only [mdig, if_pos hj]
        exact (mdig_fuel m _ _ (by simp only [M40]; omega) (by omega)).symm
      · show (IntKind.i64.wrap (j.tdiv 10)).toNat < j.toNat
        omega
    · refine gdn ?_ ?_
      · show 1 + out.size ≤ 9223372036854775807
        omega
      · conv => whnf
        refine ⟨congrArg vS ?_, rfl, rfl⟩
        have e : j.toNat = 0 := by omega
        rw [e] at h3
        simp only [mdig] at h3
        simp only [mtext, if_neg h]
        rw [← h3]

/-- Numbers that rise from k on. -/
def mk (n : Nat) (k : Int) : List Int := (List.range n).map fun (j : Nat) => k + j

theorem mk_len (n : Nat) (k : Int) : (mk n k).length = n := by simp [mk]

theorem mk_succ (n : Nat) (k : Int) : mk (n + 1) k = mk n k ++ [k + n] := by simp [mk, List.range_succ]

/-- A row that is marked up to i. -/
def mkR (l : List Int) (k : Int) (i : Nat) : List Int := mk i k ++ l.drop i

theorem mkR_len (l : List Int) (k : Int) {i : Nat} (h : i ≤ l.length) : (mkR l k i).length = l.length := by simp [mkR, mk_len]; omega

theorem mkR_step (l : List Int) (k : Int) {i : Nat} (h : i < l.length) : (mkR l k i).set i (k + i) = mkR l k (i + 1) := by
  unfold mkR
  rw [List.drop_eq_getElem_cons h, mk_succ, List.set_append_right _ _ (by rw [mk_len]; exact Nat.le_refl _), mk_len, Nat.sub_self, List.set_cons_zero]
  simp

theorem mkR_all (l : List Int) (k : Int) {i : Nat} (h : i = l.length) : mkR l k i = mk l.length k := by
  subst h; simp [mkR]

theorem incI {k : Int} {i : Nat} (h : k + i < 9223372036854775807) (h0 : 0 ≤ k) : IntKind.i64.wrap (k + i + 1) = k + ((i + 1 : Nat) : Int) := by
  rw [wrap64] <;> omega

theorem markI (l : List Int) (k : Int) (h0 : 0 ≤ k) (hk : k + l.length ≤ M40) : CT 15 [.one (.all 0 0), vI k] [(0, .row 2 .tree 0 (l.map eI))] 1 fun r S n => r = vI (k + l.length) ∧ S = [(0, .row 2 .tree 0 ((mk l.length k).map eI))] ∧ n = 1 := by
  simp only [M40] at hk
  refine CT.run (fun _ => false) false Try.func15 (by kernel_rfl) ?_
  conv => whnf
  intro hr
  conv => whnf
  refine ⟨Nat, fun i => ⟨[(0, .one (.all 0 0)), (1, vI (k + (i : Int))), (5, vI i)], [(0, .row 2 .tree 0 ((mkR l k i).map eI))], 1⟩, fun i => i ≤ l.length, fun i => l.length - i, ⟨0, Le.ren [0] rfl ⟨⟨rfl, rfl⟩, trivial⟩ ⟨rfl, congrArg (fun x => some (vI x)) (by omega), rfl, trivial⟩, Nat.zero_le _⟩, fun i hi => ?_⟩
  have hF : ((mkR l k i).map eI).length = l.length := (List.length_map _).trans (mkR_len l k hi)
  conv => whnf
  intro _
  conv => whnf
  refine fork_dec (fun h => ?_) (fun h => ?_) <;> conv => whnf
  · have hi' : i < l.length := by omega
    refine gdx (by omega) h ?_
    conv => whnf
    refine ⟨i + 1, Le.ren [0] rfl ⟨⟨rfl, ?_⟩, trivial⟩ ⟨rfl, congrArg (fun x => some (vI x)) (incI (by omega) h0), congrArg (fun x => some (vI x)) (inc (by omega)), trivial⟩, hi', ?_⟩
    · have e : ((mkR l k i).map eI).set i (eI (k + i)) = (mkR l k (i + 1)).map eI := by rw [← mkR_step l k hi', List.map_set]
      skip
      exact congrArg (fun x => some (O.row 2 .tree 0 x)) e
    · show l.length - (i + 1) < l.length - i
      omega
  · have hi' : i = l.length := by omega
    have e : (mkR l k i).map eI = (mk l.length k).map eI := by rw [mkR_all l k hi']
    exact ⟨congrArg vI (by rw [hi']), congrArg (fun x => [(0, O.row 2 .tree 0 x)]) e, rfl⟩

theorem markU (l : List Int) (k : Int) (h0 : 0 ≤ k) (hk : k + l.length ≤ M40) : CT 36 [.one (.all 0 0), vI k] [(0, .row 86 .tree 0 (l.map eU))] 1 fun r S n => r = vI (k + l.length) ∧ S = [(0, .row 86 .tree 0 ((mk l.length k).map eU))] ∧ n = 1 := by
  simp only [M40] at hk
  refine CT.run (fun _ => false) false Try.func36 (by kernel_rfl) ?_
  conv => whnf
  intro hr
  conv => whnf
  refine ⟨Nat, fun i => ⟨[(0, .one (.all 0 0)), (1, vI (k + (i : Int))), (5, vI i)], [(0, .row 86 .tree 0 ((mkR l k i).map eU))], 1⟩, fun i => i ≤ l.length, fun i => l.length - i, ⟨0, Le.ren [0] rfl ⟨⟨rfl, rfl⟩, trivial⟩ ⟨rfl, congrArg (fun x => some (vI x)) (by omega), rfl, trivial⟩, Nat.zero_le _⟩, fun i hi => ?_⟩
  have hF : ((mkR l k i).map eU).length = l.length := (List.length_map _).trans (mkR_len l k hi)
  conv => whnf
  intro _
  conv => whnf
  refine fork_dec (fun h => ?_) (fun h => ?_) <;> conv => whnf
  · have hi' : i < l.length := by omega
    refine gdx (by omega) h ?_
    conv => whnf
    refine ⟨i + 1, Le.ren [0] rfl ⟨⟨rfl, ?_⟩, trivial⟩ ⟨rfl, congrArg (fun x => some (vI x)) (incI (by omega) h0), congrArg (fun x => some (vI x)) (inc (by omega)), trivial⟩, hi', ?_⟩
    · have e : ((mkR l k i).map eU).set i (eU (k + i)) = (mkR l k (i + 1)).map eU := by rw [← mkR_step l k hi', List.map_set]
      (have hw : IntKind.u64.wrap (k + i) = k + i := wrapU (by omega) (by omega) ; rw [← hw] at e)
      exact congrArg (fun x => some (O.row 86 .tree 0 x)) e
    · show l.length - (i + 1) < l.length - i
      omega
  · have hi' : i = l.length := by omega
    have e : (mkR l k i).map eU = (mk l.length k).map eU := by rw [mkR_all l k hi']
    exact ⟨congrArg vI (by rw [hi']), congrArg (fun x => [(0, O.row 86 .tree 0 x)]) e, rfl⟩

theorem heldI (l : List Int) (k : Int) (h0 : 0 ≤ k) (hk : k + l.length ≤ M40) : CT 16 [.one (.ro 2 (l.map eI)), vI k] [] 0 fun r S n => r = vI (if l = mk l.length k then k + l.length else -1) ∧ S = [] ∧ n = 0 := by
  have hL : (l.map eI).length = l.length := List.length_map _
  simp only [M40] at hk
  refine CT.run (fun _ => false) false Try.func16 (by kernel_rfl) ?_
  conv => whnf
  intro hs
  conv => whnf
  intro hr
  conv => whnf
  refine ⟨Nat, fun i => ⟨[(0, .one (.ro 2 (l.map eI))), (1, vI (k + (i : Int))), (5, vI i)], [], 0⟩, fun i => i ≤ l.length ∧ l.take i = mk i k, fun i => l.length - i, ⟨0, Le.ren [] rfl trivial ⟨rfl, congrArg (fun x => some (vI x)) (by omega), rfl, trivial⟩, Nat.zero_le _, rfl⟩, fun i hi => ?_⟩
  obtain ⟨hi, hpre⟩ := hi
  conv => whnf
  intro _
  conv => whnf
  refine fork_dec (fun h => ?_) (fun h => ?_) <;> conv => whnf
  · have hi' : i < l.length := by omega
    try (refine gdd rfl ?_; conv => whnf)
    refine gdx (by omega) h ?_
    rw [at_mapI eI l hi']
    conv => whnf
    intro _
    conv => whnf
    refine fork_dec (fun h => ?_) (fun h => ?_) <;> conv => whnf
    · refine ⟨congrArg vI ?_, rfl, rfl⟩
      refine (if_neg fun e => h ?_).symm
      have e1 : l[i]? = (mk l.length k)[i]? := congrArg (·[i]?) e
      rw [List.getElem?_eq_getElem hi'] at e1
      simp [mk, hi'] at e1
      skip
      exact e1
    · have he : l[i] = k + i := by
        have := Decidable.not_not.1 h
        skip
        exact this
      refine ⟨i + 1, Le.ren [] rfl trivial ⟨rfl, congrArg (fun x => some (vI x)) (incI (by omega) h0), congrArg (fun x => some (vI x)) (inc (by omega)), trivial⟩, ⟨hi', ?_⟩, ?_⟩
      · rw [List.take_succ_eq_append_getElem hi', hpre, he, mk_succ]
      · show l.length - (i + 1) < l.length - i
        omega
  · have hi' : i = l.length := by omega
    refine ⟨congrArg vI ?_, rfl, rfl⟩
    rw [hi'] at hpre ⊢
    rw [List.take_length] at hpre
    rw [if_pos hpre]

end Go.Proofs.Ytodhnbjncmihkaa.V
end

section
/- What each of these functions of the laws comes to: marks in declarations, nodes, terms. -/
set_option linter.unusedVariables false
set_option maxRecDepth 100000
namespace Go.Proofs.Ytodhnbjncmihkaa.V
open Go

/-- A part of an element is written. -/
theorem upd {α : Type} {f : α → List D} {X : List (List D)} {m : List α} {i : Nat} {y y' : α} {j : Nat} {ds : List D} (hi : i < m.length) (e : X = (m.set i y).map f) (hs : splice (f y) j ds = f y') : X.set i (splice (X.getD i []) j ds) = (m.set i y').map f := by
  subst e
  have h1 : ((m.set i y).map f).getD i [] = f y := by
    rw [at_map f (m.set i y) (by simpa using hi)]
    simp
  rw [h1, hs, set_map, List.set_set]

/-- A row within an element is written. -/
theorem updN {α : Type} {f : α → List D} {X : List (List D)} {m : List α} {i : Nat} {y y' : α} {j : Nat} {ys : List (List D)} (hi : i < m.length) (e : X = (m.set i y).map f) (hs : (f y).set j (.sl ys) = f y') : X.set i ((X.getD i []).set j (.sl ys)) = (m.set i y').map f := by
  subst e
  have h1 : ((m.set i y).map f).getD i [] = f y := by
    rw [at_map f (m.set i y) (by simpa using hi)]
    simp
  rw [h1, hs, set_map, List.set_set]

theorem getN {α : Type} {f : α → List D} {X : List (List D)} {m : List α} {i : Nat} {y : α} (hi : i < m.length) (e : X = (m.set i y).map f) : X.getD i [] = f y := by
  subst e
  rw [at_map f (m.set i y) (by simpa using hi)]
  simp

theorem ltlen {X Y : List (List D)} {i : Nat} (e : X = Y) (h : i < Y.length) : (i : Int) < (X.length : Int) := by
  subst e; omega

theorem VC.castS {P : Program} {T : TypeId → Option TI} {f : FuncId} {args : List V} {S S' : Sto} {nx : Nat} {post : V → Sto → Nat → Prop} (e : S' = S) (h : VC P T f args S nx post) : VC P T f args S' nx post := by
  subst e; exact h

/-- Elements that are marked one behind another. -/
def mkL {α : Type} (g : α → Int → α) (c : α → Nat) : List α → Int → List α
  | [], _ => []
  | x :: r, k => g x k :: mkL g c r (k + c x)

theorem mkL_len {α : Type} (g : α → Int → α) (c : α → Nat) : ∀ (l : List α) (k : Int), (mkL g c l k).length = l.length
  | [], k => rfl
  | x :: r, k => by simp [mkL, mkL_len g c r]

theorem mkL_snoc {α : Type} (g : α → Int → α) (c : α → Nat) (x : α) : ∀ (l : List α) (k : Int), mkL g c (l ++ [x]) k = mkL g c l k ++ [g x (k + (((l.map c).sum : Nat) : Int))]
  | [], k => by simp [mkL]
  | y :: r, k => by
    simp only [List.cons_append, mkL, mkL_snoc g c x r]
    congr 4
    simp only [List.map_cons, List.sum_cons]
    omega

def mkT {α : Type} (g : α → Int → α) (c : α → Nat) (l : List α) (k : Int) (i : Nat) : List α := mkL g c (l.take i) k ++ l.drop i

theorem mkT_len {α : Type} (g : α → Int → α) (c : α → Nat) (l : List α) (k : Int) {i : Nat} (h : i ≤ l.length) : (mkT g c l k i).length = l.length := by
  unfold mkT
  rw [List.length_append, mkL_len, List.length_take, List.length_drop]
  omega

theorem mkT_get {α : Type} (g : α → Int → α) (c : α → Nat) (l : List α) (k : Int) {i : Nat} (h : i < l.length) : mkT g c l k i = (mkT g c l k i).set i (l[i]'h) := by
  unfold mkT
  have hl : (mkL g c (l.take i) k).length = i := by rw [mkL_len, List.length_take]; omega
  rw [List.set_append_right _ _ (by omega), hl, Nat.sub_self, List.drop_eq_getElem_cons h, List.set_cons_zero]

theorem mkT_step {α : Type} (g : α → Int → α) (c : α → Nat) (l : List α) (k : Int) {i : Nat} (h : i < l.length) : (mkT g c l k i).set i (g (l[i]'h) (k + (sumTo c l i : Int))) = mkT g c l k (i + 1) := by
  unfold mkT
  have hl : (mkL g c (l.take i) k).length = i := by rw [mkL_len, List.length_take]; omega
  rw [List.set_append_right _ _ (by omega), hl, Nat.sub_self, List.drop_eq_getElem_cons h, List.set_cons_zero, List.take_succ_eq_append_getElem h, mkL_snoc, List.append_assoc]
  rfl

theorem mkT_all {α : Type} (g : α → Int → α) (c : α → Nat) (l : List α) (k : Int) {i : Nat} (h : i = l.length) : mkT g c l k i = mkL g c l k := by
  subst h; simp [mkT]

abbrev mDecl (_ : Decl) (k : Int) : Decl := ⟨mtext k, k + 1⟩

abbrev cDecl (_ : Decl) : Nat := 2

abbrev mDecls (l : List Decl) (k : Int) : List Decl := mkL mDecl cDecl l k

abbrev mNode (x : TNode) (k : Int) : TNode := ⟨k, k + 1, k + 2, k + 3, ⟨k + 4, mk x.val.ws.length (k + 5)⟩, mk x.kids.length (k + 5 + x.val.ws.length)⟩

abbrev cNode (x : TNode) : Nat := 5 + x.val.ws.length + x.kids.length

abbrev mNodes (l : List TNode) (k : Int) : List TNode := mkL mNode cNode l k

theorem sumTo_le' {α : Type} (f : α → Nat) (l : List α) {i : Nat} (h : i < l.length) : sumTo f l i + f (l[i]'h) ≤ (l.map f).sum := by
  rw [← sumTo_succ f l h]; exact sumTo_le f l (i + 1)

theorem markDeclS_c (l : List Decl) (k : Int) (h0 : 0 ≤ k) (hk : k + (((l.map cDecl).sum : Nat) : Int) ≤ M40) : CT 13 [.one (.all 0 0), vI k] [(0, .row 53 .tree 0 (l.map eDecl))] 1 fun r S n => r = vI (k + (((l.map cDecl).sum : Nat) : Int)) ∧ S = [(0, .row 53 .tree 0 ((mkL mDecl cDecl l k).map eDecl))] ∧ n = 1 := by
  simp only [M40] at hk
  refine CT.run (fun _ => false) false Try.func13 (by kernel_rfl) ?_
  conv => whnf
  intro hr
  conv => whnf
  refine ⟨Nat, fun i => ⟨[(0, .one (.all 0 0)), (1, vI (k + (sumTo cDecl l i : Int))), (5, vI i)], [(0, .row 53 .tree 0 ((mkT mDecl cDecl l k i).map eDecl))], 1⟩, fun i => i ≤ l.length, fun i => l.length - i, ⟨0, Le.ren [0] rfl ⟨⟨rfl, rfl⟩, trivial⟩ ⟨rfl, congrArg (fun x => some (vI x)) (by rw [sumTo_zero]; omega), rfl, trivial⟩, Nat.zero_le _⟩, fun i hi => ?_⟩
  have hF : ((mkT mDecl cDecl l k i).map eDecl).length = l.length := (List.length_map _).trans (mkT_len mDecl cDecl l k hi)
  conv => whnf
  intro _
  conv => whnf
  refine fork_dec (fun h => ?_) (fun h => ?_) <;> conv => whnf
  rotate_left
  · have hi' : i = l.length := by omega
    have e : (mkT mDecl cDecl l k i).map eDecl = (mkL mDecl cDecl l k).map eDecl := by rw [mkT_all mDecl cDecl l k hi']
    exact ⟨congrArg vI (by rw [sumTo_all cDecl l (by omega)]), congrArg (fun x => [(0, O.row 53 .tree 0 x)]) e, rfl⟩
  have hi' : i < l.length := by omega
  have hm := mkT_len mDecl cDecl l k hi
  have hmi : i < (mkT mDecl cDecl l k i).length := by omega
  have hsum := sumTo_le' cDecl l hi'
  have e0 : (mkT mDecl cDecl l k i).map eDecl = ((mkT mDecl cDecl l k i).set i l[i]).map eDecl := congrArg (List.map eDecl) (mkT_get mDecl cDecl l k hi')
  have hss := sumTo_succ cDecl l hi'
  have hst := mkT_step mDecl cDecl l k hi'
  have w1 : IntKind.i64.wrap (k + (sumTo cDecl l i : Int) + 1) = k + sumTo cDecl l i + 1 := wrap64 (by omega) (by omega)
  have w2 : IntKind.i64.wrap (k + (sumTo cDecl l i : Int) + 1 + 1) = k + (sumTo cDecl l i + 2 : Nat) := by rw [wrap64] <;> omega
  refine CT.eq (markText_c (k + sumTo cDecl l i) (by simp only [M40]; omega)) ?_
  conv => whnf
  refine gdx (by omega) (by omega) ?_
  conv => whnf
  have e1 := upd (j := 0) (ds := [dS (mtext (k + sumTo cDecl l i))]) hmi e0 (y' := ⟨mtext (k + sumTo cDecl l i), l[i].wd⟩) rfl
  refine gdx (by omega) (ltlen e1 (by simp; omega)) ?_
  conv => whnf
  have e2 := upd (j := 1) (ds := [dI (IntKind.i64.wrap (k + sumTo cDecl l i + 1))]) hmi e1 (y' := ⟨mtext (k + sumTo cDecl l i), IntKind.i64.wrap (k + sumTo cDecl l i + 1)⟩) rfl
  refine ⟨i + 1, Le.ren [0] rfl ⟨⟨rfl, ?_⟩, trivial⟩ ⟨rfl, congrArg (fun x => some (vI x)) ?_, congrArg (fun x => some (vI x)) (inc (by omega)), trivial⟩, hi', ?_⟩
  · exact congrArg (fun x => some (O.row 53 .tree 0 x)) (e2.trans (by rw [w1]; exact congrArg (List.map eDecl) hst))
  · show IntKind.i64.wrap (IntKind.i64.wrap (k + (sumTo cDecl l i : Int) + 1) + 1) = _
    rw [w1, w2, hss]
  · show l.length - (i + 1) < l.length - i
    omega

theorem VC.cast {P : Program} {T : TypeId → Option TI} {f : FuncId} {args args' : List V} {S S' : Sto} {nx : Nat} {post : V → Sto → Nat → Prop} (ea : args' = args) (e : S' = S) (h : VC P T f args S nx post) : VC P T f args' S' nx post := by
  subst ea; subst e; exact h

theorem markTNodeS_c (l : List TNode) (k : Int) (h0 : 0 ≤ k) (hk : k + (((l.map cNode).sum : Nat) : Int) ≤ M40) : CT 27 [.one (.all 0 0), vI k] [(0, .row 52 .tree 0 (l.map eNode))] 1 fun r S n => r = vI (k + (((l.map cNode).sum : Nat) : Int)) ∧ S = [(0, .row 52 .tree 0 ((mkL mNode cNode l k).map eNode))] ∧ n = 1 := by
  simp only [M40] at hk
  refine CT.run (fun _ => false) true Try.func27 (by kernel_rfl) ?_
  conv => whnf
  intro hr
  conv => whnf
  refine ⟨Nat, fun i => ⟨[(0, .one (.all 0 0)), (1, vI (k + (sumTo cNode l i : Int))), (5, vI i)], [(0, .row 52 .tree 0 ((mkT mNode cNode l k i).map eNode))], 1⟩, fun i => i ≤ l.length, fun i => l.length - i, ⟨0, Le.ren [0] rfl ⟨⟨rfl, rfl⟩, trivial⟩ ⟨rfl, congrArg (fun x => some (vI x)) (by rw [sumTo_zero]; omega), rfl, trivial⟩, Nat.zero_le _⟩, fun i hi => ?_⟩
  have hF : ((mkT mNode cNode l k i).map eNode).length = l.length := (List.length_map _).trans (mkT_len mNode cNode l k hi)
  conv => whnf
  intro _
  conv => whnf
  refine fork_dec (fun h => ?_) (fun h => ?_) <;> conv => whnf
  rotate_left
  · have hi' : i = l.length := by omega
    have e : (mkT mNode cNode l k i).map eNode = (mkL mNode cNode l k).map eNode := by rw [mkT_all mNode cNode l k hi']
    exact ⟨congrArg vI (by rw [sumTo_all cNode l (by omega)]), congrArg (fun x => [(0, O.row 52 .tree 0 x)]) e, rfl⟩
  have hi' : i < l.length := by omega
  have hm := mkT_len mNode cNode l k hi
  have hmi : i < (mkT mNode cNode l k i).length := by omega
  have hsum := sumTo_le' cNode l hi'
  have e0 : (mkT mNode cNode l k i).map eNode = ((mkT mNode cNode l k i).set i l[i]).map eNode := congrArg (List.map eNode) (mkT_get mNode cNode l k hi')
  have hss := sumTo_succ cNode l hi'
  have hst := mkT_step mNode cNode l k hi'
  have hcn : cNode l[i] = 5 + l[i].val.ws.length + l[i].kids.length := rfl
  have v1 : IntKind.i64.wrap ((k + (sumTo cNode l i : Int)) + 1) = (k + (sumTo cNode l i : Int)) + 1 := by
    exact wrap64 (by omega) (by omega)
  have v2 : IntKind.i64.wrap (IntKind.i64.wrap ((k + (sumTo cNode l i : Int)) + 1) + 1) = (k + (sumTo cNode l i : Int)) + 2 := by
    rw [v1]
    rw [wrap64 (by omega) (by omega)]
    omega
  have v3 : IntKind.i64.wrap (IntKind.i64.wrap (IntKind.i64.wrap ((k + (sumTo cNode l i : Int)) + 1) + 1) + 1) = (k + (sumTo cNode l i : Int)) + 3 := by
    rw [v2]
    rw [wrap64 (by omega) (by omega)]
    omega
  have v4 : IntKind.i64.wrap (IntKind.i64.wrap (IntKind.i64.wrap (IntKind.i64.wrap ((k + (sumTo cNode l i : Int)) + 1) + 1) + 1) + 1) = (k + (sumTo cNode l i : Int)) + 4 := by
    rw [v3]
    rw [wrap64 (by omega) (by omega)]
    omega
  have v5 : IntKind.i64.wrap (IntKind.i64.wrap (IntKind.i64.wrap (IntKind.i64.wrap (IntKind.i64.wrap ((k + (sumTo cNode l i : Int)) + 1) + 1) + 1) + 1) + 1) = (k + (sumTo cNode l i : Int)) + 5 := by
    rw [v4]
    rw [wrap64 (by omega) (by omega)]
    omega
  refine gdx (by omega) (by omega) ?_
  conv => whnf
  have e1 := upd (j := 0) (ds := [dI ((k + (sumTo cNode l i : Int)))]) hmi e0 (y' := ⟨(k + (sumTo cNode l i : Int)), l[i].vr, l[i].a, l[i].b, ⟨l[i].val.w, l[i].val.ws⟩, l[i].kids⟩) rfl
  refine gdx (by omega) (ltlen e1 (by simp; omega)) ?_
  conv => whnf
  have e2 := upd (j := 1) (ds := [dI (IntKind.i64.wrap ((k + (sumTo cNode l i : Int)) + 1))]) hmi e1 (y' := ⟨(k + (sumTo cNode l i : Int)), IntKind.i64.wrap ((k + (sumTo cNode l i : Int)) + 1), l[i].a, l[i].b, ⟨l[i].val.w, l[i].val.ws⟩, l[i].kids⟩) rfl
  refine gdx (by omega) (ltlen e2 (by simp; omega)) ?_
  conv => whnf
  have e3 := upd (j := 2) (ds := [dI (IntKind.i64.wrap (IntKind.i64.wrap ((k + (sumTo cNode l i : Int)) + 1) + 1))]) hmi e2 (y' := ⟨(k + (sumTo cNode l i : Int)), IntKind.i64.wrap ((k + (sumTo cNode l i : Int)) + 1), IntKind.i64.wrap (IntKind.i64.wrap ((k + (sumTo cNode l i : Int)) + 1) + 1), l[i].b, ⟨l[i].val.w, l[i].val.ws⟩, l[i].kids⟩) rfl
  refine gdx (by omega) (ltlen e3 (by simp; omega)) ?_
  conv => whnf
  have e4 := upd (j := 3) (ds := [dI (IntKind.i64.wrap (IntKind.i64.wrap (IntKind.i64.wrap ((k + (sumTo cNode l i : Int)) + 1) + 1) + 1))]) hmi e3 (y' := ⟨(k + (sumTo cNode l i : Int)), IntKind.i64.wrap ((k + (sumTo cNode l i : Int)) + 1), IntKind.i64.wrap (IntKind.i64.wrap ((k + (sumTo cNode l i : Int)) + 1) + 1), IntKind.i64.wrap (IntKind.i64.wrap (IntKind.i64.wrap ((k + (sumTo cNode l i : Int)) + 1) + 1) + 1), ⟨l[i].val.w, l[i].val.ws⟩, l[i].kids⟩) rfl
  refine gdx (by omega) (ltlen e4 (by simp; omega)) ?_
  conv => whnf
  have e5 := upd (j := 4) (ds := [dI (IntKind.i64.wrap (IntKind.i64.wrap (IntKind.i64.wrap (IntKind.i64.wrap ((k + (sumTo cNode l i : Int)) + 1) + 1) + 1) + 1))]) hmi e4 (y' := ⟨(k + (sumTo cNode l i : Int)), IntKind.i64.wrap ((k + (sumTo cNode l i : Int)) + 1), IntKind.i64.wrap (IntKind.i64.wrap ((k + (sumTo cNode l i : Int)) + 1) + 1), IntKind.i64.wrap (IntKind.i64.wrap (IntKind.i64.wrap ((k + (sumTo cNode l i : Int)) + 1) + 1) + 1), ⟨IntKind.i64.wrap (IntKind.i64.wrap (IntKind.i64.wrap (IntKind.i64.wrap ((k + (sumTo cNode l i : Int)) + 1) + 1) + 1) + 1), l[i].val.ws⟩, l[i].kids⟩) rfl
  refine gdx (by omega) (ltlen e5 (by simp; omega)) ?_
  conv => whnf
  have g5 := getN hmi e5
  refine VC.castS (congrArg (fun x => [(0, O.row 86 .tree 0 ((D.rows (List.getD x 5 default))))]) g5) (CT.eq (markU l[i].val.ws (IntKind.i64.wrap (IntKind.i64.wrap (IntKind.i64.wrap (IntKind.i64.wrap (IntKind.i64.wrap ((k + (sumTo cNode l i : Int)) + 1) + 1) + 1) + 1) + 1)) (by rw [v5]; omega) (by rw [v5]; simp only [M40]; omega)) ?_)
  conv => whnf
  have e6 := updN (j := 5) (ys := (mk l[i].val.ws.length (IntKind.i64.wrap (IntKind.i64.wrap (IntKind.i64.wrap (IntKind.i64.wrap (IntKind.i64.wrap ((k + (sumTo cNode l i : Int)) + 1) + 1) + 1) + 1) + 1))).map eU) hmi e5 (y' := ⟨(k + (sumTo cNode l i : Int)), IntKind.i64.wrap ((k + (sumTo cNode l i : Int)) + 1), IntKind.i64.wrap (IntKind.i64.wrap ((k + (sumTo cNode l i : Int)) + 1) + 1), IntKind.i64.wrap (IntKind.i64.wrap (IntKind.i64.wrap ((k + (sumTo cNode l i : Int)) + 1) + 1) + 1), ⟨IntKind.i64.wrap (IntKind.i64.wrap (IntKind.i64.wrap (IntKind.i64.wrap ((k + (sumTo cNode l i : Int)) + 1) + 1) + 1) + 1), mk l[i].val.ws.length (IntKind.i64.wrap (IntKind.i64.wrap (IntKind.i64.wrap (IntKind.i64.wrap (IntKind.i64.wrap ((k + (sumTo cNode l i : Int)) + 1) + 1) + 1) + 1) + 1))⟩, l[i].kids⟩) rfl
  refine gdx (by omega) (ltlen e6 (by simp; omega)) ?_
  conv => whnf
  have g6 := getN hmi e6
  refine VC.castS (congrArg (fun x => [(0, O.row 2 .tree 0 ((D.rows (List.getD x 6 default))))]) g6) (CT.eq (markI l[i].kids (IntKind.i64.wrap (IntKind.i64.wrap (IntKind.i64.wrap (IntKind.i64.wrap (IntKind.i64.wrap ((k + (sumTo cNode l i : Int)) + 1) + 1) + 1) + 1) + 1) + l[i].val.ws.length) (by rw [v5]; omega) (by rw [v5]; simp only [M40]; omega)) ?_)
  conv => whnf
  have e7 := updN (j := 6) (ys := (mk l[i].kids.length (IntKind.i64.wrap (IntKind.i64.wrap (IntKind.i64.wrap (IntKind.i64.wrap (IntKind.i64.wrap ((k + (sumTo cNode l i : Int)) + 1) + 1) + 1) + 1) + 1) + l[i].val.ws.length)).map eI) hmi e6 (y' := ⟨(k + (sumTo cNode l i : Int)), IntKind.i64.wrap ((k + (sumTo cNode l i : Int)) + 1), IntKind.i64.wrap (IntKind.i64.wrap ((k + (sumTo cNode l i : Int)) + 1) + 1), IntKind.i64.wrap (IntKind.i64.wrap (IntKind.i64.wrap ((k + (sumTo cNode l i : Int)) + 1) + 1) + 1), ⟨IntKind.i64.wrap (IntKind.i64.wrap (IntKind.i64.wrap (IntKind.i64.wrap ((k + (sumTo cNode l i : Int)) + 1) + 1) + 1) + 1), mk l[i].val.ws.length (IntKind.i64.wrap (IntKind.i64.wrap (IntKind.i64.wrap (IntKind.i64.wrap (IntKind.i64.wrap ((k + (sumTo cNode l i : Int)) + 1) + 1) + 1) + 1) + 1))⟩, mk l[i].kids.length (IntKind.i64.wrap (IntKind.i64.wrap (IntKind.i64.wrap (IntKind.i64.wrap (IntKind.i64.wrap ((k + (sumTo cNode l i : Int)) + 1) + 1) + 1) + 1) + 1) + l[i].val.ws.length)⟩) rfl
  refine ⟨i + 1, Le.ren [0] rfl ⟨⟨rfl, ?_⟩, trivial⟩ ⟨rfl, congrArg (fun x => some (vI x)) ?_, congrArg (fun x => some (vI x)) (inc (by omega)), trivial⟩, hi', ?_⟩
  · exact congrArg (fun x => some (O.row 52 .tree 0 x)) (e7.trans (by rw [v5, v4, v3, v2, v1]; exact congrArg (List.map eNode) hst))
  · show IntKind.i64.wrap (IntKind.i64.wrap (IntKind.i64.wrap (IntKind.i64.wrap (IntKind.i64.wrap ((k + (sumTo cNode l i : Int)) + 1) + 1) + 1) + 1) + 1) + (l[i].val.ws.length : Int) + (l[i].kids.length : Int) = _
    rw [v5, hss]
    omega
  · show l.length - (i + 1) < l.length - i
    omega

theorem markTerm_c (l : List TNode) (k : Int) (h0 : 0 ≤ k) (hk : k + (((l.map cNode).sum : Nat) : Int) ≤ M40) : CT 14 [.agg [.all 0 0], vI k] [(0, .row 52 .tree 0 (l.map eNode))] 1 fun r S n => r = vI (k + (((l.map cNode).sum : Nat) : Int)) ∧ S = [(0, .row 52 .tree 0 ((mNodes l k).map eNode))] ∧ n = 1 := by
  refine CT.run (fun _ => false) false Try.func14 (by kernel_rfl) ?_
  conv => whnf
  intro hr
  conv => whnf
  refine CT.eq (markTNodeS_c l k h0 hk) ?_
  conv => whnf
  exact ⟨rfl, rfl, rfl⟩

end Go.Proofs.Ytodhnbjncmihkaa.V
end

section
/- The law: what it comes to. -/
set_option linter.unusedVariables false
set_option maxRecDepth 100000
namespace Go.Proofs.Ytodhnbjncmihkaa.V
open Go

theorem sum_ge_nat {α : Type} (f : α → Nat) : ∀ {l : List α} {x : α}, x ∈ l → f x ≤ (l.map f).sum
  | y :: r, x, h => by
    rw [List.map_cons, List.sum_cons]
    rcases List.mem_cons.1 h with e | e
    · subst e; omega
    · have := sum_ge_nat f e; omega

/-- What the guard of size tells. -/
theorem fits {ds : List Decl} {ns : List TNode} (h1 : ¬ left (szL szD ds) 1048576 < 0) (h2 : ¬ left (szL szN ns) (left (szL szD ds) 1048576) < 0) :
    ds.length ≤ M20 ∧ (ds.map szD).sum ≤ M20 ∧ ns.length ≤ M20 ∧ (ns.map szN).sum ≤ M20 ∧ (∀ x ∈ ns, NodeFits x) ∧ ns.length + (ns.map szN).sum ≤ M20 := by
  unfold left at h1
  split at h1
  · omega
  rename_i g1
  unfold left at h2
  rw [if_neg g1] at h2
  split at h2
  · omega
  rename_i g2
  simp only [szL, M20] at *
  refine ⟨by omega, by omega, by omega, by omega, fun x hx => ?_, by omega⟩
  have := sum_ge_nat szN hx
  simp only [szN] at this
  exact ⟨by simp only [M20]; omega, by simp only [M20]; omega⟩

theorem sumD2 : ∀ (l : List Decl), (l.map cDecl).sum = 2 * l.length
  | [] => rfl
  | x :: r => by rw [List.map_cons, List.sum_cons, sumD2 r, List.length_cons]; simp only [cDecl]; omega

theorem sumN5 : ∀ (l : List TNode), (l.map cNode).sum = 5 * l.length + (l.map szN).sum
  | [] => rfl
  | x :: r => by rw [List.map_cons, List.sum_cons, sumN5 r, List.map_cons, List.sum_cons, List.length_cons]; simp only [cNode, szN]; omega

theorem varsL_len (ds : List Decl) (ns : List TNode) : (varsL ds ns).length ≤ ds.length := by
  unfold varsL
  split
  · exact varsTo_len ns _
  · exact Nat.zero_le _

set_option maxHeartbeats 3200000 in
theorem FnExactVarsOf_c (hsort : SortC) (ds : List Decl) (ns : List TNode) : CT 3 [.one (.ro 45 (ds.map eDecl)), .agg [.ro 64 (ns.map eNode)]] [] 0 fun r S k => r = vB true := by
  refine CT.run (fun f => !(Nat.beq f 13 || Nat.beq f 14 || Nat.beq f 15)) false Try.func3 (by kernel_rfl) ?_
  conv => whnf
  repeat (intro _; conv => whnf)
  refine CT.eq (szDeclS_c ds 1048576 (by decide)) ?_
  conv => whnf
  refine fork_dec (fun h1 => ?_) (fun h1 => ?_) <;> conv => whnf
  · exact ⟨rfl⟩
  refine CT.eq (szTerm_c ns _ (by omega)) ?_
  conv => whnf
  refine fork_dec (fun h2 => ?_) (fun h2 => ?_) <;> conv => whnf
  · exact ⟨rfl⟩
  refine gdd rfl ?_
  conv => whnf
  obtain ⟨k1, k2, k3, k4, k5, k6⟩ := fits h1 h2
  have e1 := sumD2 ds
  have e2 := sumN5 ns
  have e3 := varsL_len ds ns
  have k1' := k1
  have k3' := k3
  have k4' := k4
  simp only [M20] at k1' k3' k4'
  refine act1 rfl ?_ True.intro
  conv => whnf
  refine CT.eq (toDeclS_c ds k1) ?_
  conv => whnf
  refine act1 rfl ?_ True.intro
  conv => whnf
  refine CT.eq (toTerm_c ns k3 k5) ?_
  conv => whnf
  refine act1 rfl ?_ True.intro
  conv => whnf
  refine CT.eq (VarsOf_c ds ns) ?_
  conv => whnf
  refine act1 rfl ?_ True.intro
  conv => whnf
  refine CT.eq (toDeclS_c ds k1) ?_
  conv => whnf
  refine CT.eq (toTerm_c ns k3 k5) ?_
  conv => whnf
  refine CT.eq (VarsOf_i hsort ds ns) ?_
  conv => whnf
  refine CT.eq (eqI (varsL ds ns) (varsL ds ns)) ?_
  conv => whnf
  have hb : (varsL ds ns == varsL ds ns) = true := beq_self_eq_true _
  rw [hb]
  refine fork_not (fun h => absurd h (by decide)) (fun _ => ?_)
  conv => whnf
  refine CT.eq (toDeclS_c ds k1) ?_
  conv => whnf
  refine CT.eq (eqDeclS_c ds ds) ?_
  conv => whnf
  refine fork_ndec (fun h => absurd rfl h) (fun _ => ?_)
  conv => whnf
  refine gdd rfl ?_
  conv => whnf
  refine act1 rfl ?_ True.intro
  conv => whnf
  refine CT.eq (toTerm_c ns k3 k5) ?_
  conv => whnf
  refine act1 rfl ?_ True.intro
  conv => whnf
  refine CT.eq (eqTerm_c ns ns) ?_
  conv => whnf
  refine fork_ndec (fun h => absurd rfl h) (fun _ => ?_)
  conv => whnf
  refine CT.eq (markDeclS_c ds 1 (by decide) ?_) ?_
  · simp only [M40]; omega
  conv => whnf
  refine CT.eq (markTerm_c ns _ (by omega) ?_) ?_
  · simp only [M40]; omega
  conv => whnf
  refine fork_dec (fun h => ?_) (fun _ => ?_)
  · exfalso; omega
  conv => whnf
  refine CT.eq (eqI (varsL ds ns) (varsL ds ns)) ?_
  conv => whnf
  rw [hb]
  refine fork_not (fun h => absurd h (by decide)) (fun _ => ?_)
  conv => whnf
  refine CT.eq (markI (varsL ds ns) 1 (by decide) ?_) ?_
  · simp only [M40]; omega
  conv => whnf
  have hheld := heldI (mk (varsL ds ns).length 1) 1 (by decide) (by rw [mk_len]; simp only [M40]; omega)
  rw [mk_len, if_pos rfl] at hheld
  refine CT.eq hheld ?_
  conv => whnf
  refine fork_dec (fun h => ?_) (fun _ => ?_)
  · exfalso; omega
  conv => whnf
  refine fork_dec (fun h => absurd rfl h) (fun _ => ?_)
  conv => whnf
  refine gdd rfl ?_
  conv => whnf
  refine act1 rfl ?_ True.intro
  conv => whnf
  refine CT.eq (toDeclS_c ds k1) ?_
  conv => whnf
  refine act1 rfl ?_ True.intro
  conv => whnf
  refine CT.eq (toTerm_c ns k3 k5) ?_
  conv => whnf
  refine act1 rfl ?_ True.intro
  conv => whnf
  refine CT.eq (VarsOf_i hsort ds ns) ?_
  conv => whnf
  refine act1 rfl ?_ True.intro
  conv => whnf
  refine CT.eq (eqI (varsL ds ns) (varsL ds ns)) ?_
  conv => whnf
  rw [hb]
  refine fork_not (fun h => absurd h (by decide)) (fun _ => ?_)
  conv => whnf
  refine CT.eq hheld ?_
  conv => whnf
  refine fork_dec (fun h => ?_) (fun _ => ?_)
  · exfalso; omega
  conv => whnf
  refine fork_dec (fun h => absurd rfl h) (fun _ => ?_)
  conv => whnf
  exact ⟨rfl⟩

end Go.Proofs.Ytodhnbjncmihkaa.V
end

section
/- What comes in is only read: data, as the statements read it, in the symbolic machine's words. -/
set_option linter.unusedVariables false
set_option linter.unusedSimpArgs false
namespace Go.Proofs.Ytodhnbjncmihkaa.V
open Go

def ksCat (T : TypeId → Option TI) : List (Nat × TypeId) → Nat → Option (List LK)
  | [], _ => some []
  | (o, t) :: r, k => match Nat.beq o k, T t with
    | true, some i => match ksCat T r (k + i.ks.length) with
      | some l => some (i.ks ++ l)
      | none => none
    | _, _ => none
def allRd (f : TypeId → Bool) : List (Nat × TypeId) → Bool
  | [] => true
  | (_, t) :: r => f t && allRd f r
/-- The types that are read: numbers, truth values, texts, slices, structs. -/
def rdOk (T : TypeId → Option TI) : Nat → TypeId → Bool
  | 0, _ => false
  | n + 1, t => match T t with
    | none => false
    | some i => match i.d with
      | .int _ => true
      | .bool => true
      | .str => true
      | .sl e => rdOk T n e && (match T e with | some ie => !Nat.beq ie.ks.length 0 | none => false)
      | .st fs => allRd (rdOk T n) fs && (match ksCat T fs 0 with | some l => lksEq l i.ks | none => false)
      | _ => false
/-- All that there is. -/
def Zall (w : World) (b : Nat) : Prop := b < w.heap.size
def RdAll (T : TypeId → Option TI) (w : World) (ks : List LK) (cs : List Value) (ds : List D) : Prop :=
  cs.length = ks.length ∧ ds.length = ks.length ∧ ∀ (j : Nat) (κ : LK) (u : Value) (d : D), ks[j]? = some κ → cs[j]? = some u → ds[j]? = some d → Rd T w (Zall w) κ d u
theorem RdAll.one {T : TypeId → Option TI} {w : World} {κ : LK} {u : Value} {d : D} (h : Rd T w (Zall w) κ d u) : RdAll T w [κ] [u] [d] := by
  refine ⟨rfl, rfl, fun j κ' u' d' h1 h2 h3 => ?_⟩
  cases j with
  | zero => simp at h1 h2 h3; subst h1; subst h2; subst h3; exact h
  | succ j => simp at h1
theorem RdAll.append {T : TypeId → Option TI} {w : World} {ks ks' : List LK} {cs cs' : List Value} {ds ds' : List D} (h : RdAll T w ks cs ds) (h' : RdAll T w ks' cs' ds') : RdAll T w (ks ++ ks') (cs ++ cs') (ds ++ ds') := by
  obtain ⟨h1, h2, h3⟩ := h
  obtain ⟨g1, g2, g3⟩ := h'
  refine ⟨by simp [h1, g1], by simp [h2, g2], fun j κ u d k1 k2 k3 => ?_⟩
  by_cases hj : j < ks.length
  · rw [List.getElem?_append_left (by omega)] at k1 k2 k3
    exact h3 j κ u d k1 k2 k3
  · rw [List.getElem?_append_right (by omega)] at k1 k2 k3
    rw [h1] at k2
    rw [h2] at k3
    exact g3 _ κ u d k1 k2 k3
theorem mapM_cells {w : World} {a : Addr} : ∀ {n : Nat} {l : List Nat} {cs : List Value}, l.mapM (fun i => w.cell? (a.add i)) = some cs → cs.length = l.length ∧ ∀ (j i : Nat), l[j]? = some i → ∃ u, cs[j]? = some u ∧ w.cell? (a.add i) = some u
  | _, [], cs, h => by
    simp at h; subst h
    exact ⟨rfl, fun j i h => by simp at h⟩
  | n, x :: l, cs, h => by
    simp only [List.mapM_cons, Option.bind_eq_bind, Option.bind_eq_some_iff] at h
    obtain ⟨u, h1, us, h2, h3⟩ := h
    cases h3
    obtain ⟨g1, g2⟩ := mapM_cells (n := n) h2
    refine ⟨by simp [g1], fun j i hj => ?_⟩
    cases j with
    | zero => simp at hj; subst hj; exact ⟨u, rfl, h1⟩
    | succ j => exact g2 j i (by simpa using hj)
theorem cells?_at {w : World} {a : Addr} {n : Nat} {cs : List Value} (h : w.cells? 0 a n = some cs) : cs.length = n ∧ ∀ j, j < n → ∃ u, cs[j]? = some u ∧ w.cell? (a.add j) = some u := by
  simp only [World.cells?, Nat.zero_le, if_true] at h
  obtain ⟨h1, h2⟩ := mapM_cells (n := n) h
  refine ⟨by simpa using h1, fun j hj => h2 j j (by simp [hj])⟩
theorem cell?_lt {w : World} {a : Addr} {v : Value} (h : w.cell? a = some v) : a.block < w.heap.size := by
  rcases Nat.lt_or_ge a.block w.heap.size with h' | h'
  · exact h'
  · have : w.heap[a.block]? = none := by simp [h']
    simp [World.cell?, this] at h

section
variable {P : Program} {T : TypeId → Option TI} {H : Type} {encH : TypeId × Value → H} {w : World} {sp : Nat → Bool} {held : Bool}
theorem int_wf {k : IntKind} {n : Int} (h : (Lit.int k n).wf = true) : rng k n := by
  simp only [Lit.wf, Bool.and_eq_true, decide_eq_true_eq] at h
  cases k <;> simp only [rng, IntKind.min, IntKind.max, IntKind.signed, IntKind.bits] at h ⊢ <;> simp at h <;> omega
theorem fields_rd {n fuel : Nat} (ih : ∀ (t : TypeId) (i : TI), T t = some i → rdOk T n t = true → ∀ fuel cs x, DataW.trod encH P w 0 sp held fuel t cs = some x → ∃ ds, RdAll T w i.ks cs ds) (hT : TOk P T) {cs : List Value} :
    ∀ (fs : List (Nat × TypeId)) (l : List Field) (k : Nat) (ks : List LK) (xs : List (DataW H × List MemPlace)), fsOk P fs l = true → allRd (rdOk T n) fs = true → ksCat T fs k = some ks → xs.length = l.length →
      (∀ (q : Nat) (f : Field), l[q]? = some f → DataW.trod encH P w 0 sp held fuel f.type ((cs.drop f.offset).take (P.cellsOf f.type)) = xs[q]?) → k + ks.length ≤ cs.length → ∃ ds, RdAll T w ks ((cs.drop k).take ks.length) ds
  | [], [], k, ks, xs, _, _, hk, _, _, _ => by
    simp [ksCat] at hk; subst hk
    exact ⟨[], by simp [RdAll]⟩
  | [], _ :: _, k, ks, xs, h, _, _, _, _, _ => by simp [fsOk] at h
  | _ :: _, [], k, ks, xs, h, _, _, _, _, _ => by simp [fsOk] at h
  | (o, t) :: fs, f :: l, k, ks, xs, h, ha, hk, hx, hf, hle => by
    simp only [fsOk, Bool.and_eq_true] at h
    obtain ⟨⟨⟨h1, h2⟩, h3⟩, h4⟩ := h
    simp only [allRd, Bool.and_eq_true] at ha
    simp only [ksCat] at hk
    split at hk
    · rename_i i ho hi
      split at hk
      · rename_i ks' hks'
        cases hk
        obtain ⟨inf, z, ht⟩ := hT.at hi
        have hcells : P.cellsOf t = i.ks.length := by simp [Program.cellsOf, ht.hi, ht.size]
        cases xs with
        | nil => simp at hx
        | cons x xs =>
          have h0 := hf 0 f rfl
          rw [← beq_t h1, ← beq_t h2, beq_t ho, hcells] at h0
          simp at h0
          obtain ⟨ds, hds⟩ := ih t i hi ha.1 _ _ _ h0
          simp only [List.length_append] at hle
          obtain ⟨ds', hds'⟩ := fields_rd ih hT fs l (k + i.ks.length) ks' xs h4 ha.2 hks' (by simpa using hx) (fun q f hq => by simpa using hf (q + 1) f (by simpa using hq)) (by omega)
          refine ⟨ds ++ ds', ?_⟩
          have := hds.append hds'
          have e : (cs.drop k).take (i.ks ++ ks').length = (cs.drop k).take i.ks.length ++ (cs.drop (k + i.ks.length)).take ks'.length := by
            rw [List.length_append, List.take_add, List.drop_drop]
          rw [e]
          exact this
      · cases hk
    · cases hk
theorem rd_trod (hT : TOk P T) : ∀ (n : Nat) (t : TypeId) (i : TI), T t = some i → rdOk T n t = true → ∀ fuel cs x, DataW.trod encH P w 0 sp held fuel t cs = some x → ∃ ds, RdAll T w i.ks cs ds := by
  intro n
  induction n with
  | zero => intro t i _ h; simp [rdOk] at h
  | succ n ih =>
    intro t i hi hok fuel cs x hx
    obtain ⟨inf, z, ht⟩ := hT.at hi
    simp only [rdOk, hi] at hok
    have hfit := ht.fit
    unfold ksFit at hfit
    split at hok
    · rename_i k hd
      rw [hd] at hfit
      obtain ⟨m, rfl, _, hw⟩ := DataW.trod_int (ht.intT hd) hx
      rw [lksEq_t hfit]
      exact ⟨_, RdAll.one (.int (int_wf hw))⟩
    · rename_i hd
      rw [hd] at hfit
      obtain ⟨b, rfl, _⟩ := DataW.trod_bool (ht.boolT hd) hx
      rw [lksEq_t hfit]
      exact ⟨_, RdAll.one (.bool b)⟩
    · rename_i hd
      rw [hd] at hfit
      obtain ⟨s, rfl, _, hs⟩ := DataW.trod_string (ht.strT hd) hx
      rw [lksEq_t hfit]
      exact ⟨_, RdAll.one (.str (by simpa [Go.maxLen, maxI] using hs))⟩
    · rename_i e hd
      rw [hd] at hfit
      rw [lksEq_t hfit]
      simp only [Bool.and_eq_true] at hok
      obtain ⟨hok, hne⟩ := hok
      split at hne
      case h_2 => cases hne
      rename_i ie hie
      obtain ⟨infe, ze, hte⟩ := hT.at hie
      have hcells : P.cellsOf e = ie.ks.length := by simp [Program.cellsOf, hte.hi, hte.size]
      have hpos : 0 < ie.ks.length := by
        rcases Nat.eq_zero_or_pos ie.ks.length with h0 | h0
        · rw [h0] at hne; simp at hne
        · exact h0
      rcases DataW.trod_slice (ht.sl hd) hx with ⟨rfl, _⟩ | ⟨a, len, cap, elems, rest, m, _, rfl, _, _, hlc, hcm, hlen, hel, _, _⟩
      · exact ⟨_, RdAll.one .nil⟩
      · rcases Nat.eq_zero_or_pos len with h0 | h0
        · subst h0
          exact ⟨_, RdAll.one .nil⟩
        · have hsp : a.spot = none := by
            have h1 := hel 0 h0
            have h2 : elems[0]? = some (elems[0]'(by omega)) := List.getElem?_eq_getElem (by omega)
            rw [h2, hcells] at h1
            simp only [Option.bind_eq_some_iff] at h1
            obtain ⟨cs, h3, _⟩ := h1
            obtain ⟨_, h7⟩ := cells?_at h3
            obtain ⟨u, _, h9⟩ := h7 0 hpos
            have : ((a.add (0 * ie.ks.length)).add 0) = a := by simp [Addr.add]
            rw [this] at h9
            exact World.cell?_spot h9
          have each : ∀ p, ∃ cs ds, p < len → (∀ j, j < ie.ks.length → ∃ u, cs[j]? = some u ∧ w.cell? (a.add (p * ie.ks.length + j)) = some u) ∧ RdAll T w ie.ks cs ds := fun p => by
            by_cases hp : p < len
            · have h1 := hel p hp
              have h2 : elems[p]? = some (elems[p]'(by omega)) := List.getElem?_eq_getElem (by omega)
              rw [h2, hcells] at h1
              simp only [Option.bind_eq_some_iff] at h1
              obtain ⟨cs, h3, h4⟩ := h1
              obtain ⟨ds, h5⟩ := ih e ie hie hok m cs _ h4
              obtain ⟨h6, h7⟩ := cells?_at h3
              refine ⟨cs, ds, fun _ => ⟨fun j hj => ?_, h5⟩⟩
              obtain ⟨u, h8, h9⟩ := h7 j hj
              refine ⟨u, h8, ?_⟩
              rw [← h9, add_add' hsp]
            · exact ⟨[], [], fun h => absurd h hp⟩
          have hc0 := fun p => (each p).choose_spec
          have hd0 := fun p => (hc0 p).choose_spec
          generalize hC : (fun p => (each p).choose) = C at *
          let dd : Nat → List D := fun p => (hc0 p).choose
          have hdd : ∀ p, p < len → (∀ j, j < ie.ks.length → ∃ u, ((each p).choose)[j]? = some u ∧ w.cell? (a.add (p * ie.ks.length + j)) = some u) ∧ RdAll T w ie.ks ((each p).choose) (dd p) := fun p hp => hd0 p hp
          obtain ⟨u0, _, hcell0⟩ := (hdd 0 h0).1 0 hpos
          have hblk : a.block < w.heap.size := by
            have := cell?_lt hcell0
            rwa [block_add] at this
          refine ⟨[.sl ((List.range len).map dd)], RdAll.one ?_⟩
          have hl : ((List.range len).map dd).length = len := by simp
          have hgx : ∀ (p : Nat) (x : List D), ((List.range len).map dd)[p]? = some x → p < len ∧ x = dd p := fun p x h => by
            rw [List.getElem?_map] at h
            cases hr : (List.range len)[p]? with
            | none => rw [hr] at h; cases h
            | some q =>
              rw [hr] at h
              have := List.getElem?_eq_some_iff.1 hr
              obtain ⟨h1, h2⟩ := this
              simp at h1 h2
              cases h
              exact ⟨h1, by rw [← h2]⟩
          have key : Rd T w (Zall w) (.sl e) (.sl ((List.range len).map dd)) (.slice (some a) ((List.range len).map dd).length cap) := by
            refine .sl (fun p j => ((each p).choose).getD j undef) hie (by rw [hl]; simp only [maxI]; simp only [Go.maxLen] at hcm; omega) (by rw [hl]; exact hlc) hblk hsp (fun p x h => ?_) (fun p j hp hj => ?_) (fun p x j κ d h hk hdx => ?_)
            · obtain ⟨h1, rfl⟩ := hgx p x h
              exact (hdd p h1).2.2.1
            · rw [hl] at hp
              obtain ⟨u, h1, h2⟩ := (hdd p hp).1 j hj
              rw [h2]
              simp [List.getD, h1]
            · obtain ⟨h1, rfl⟩ := hgx p x h
              obtain ⟨u, h2, h3⟩ := (hdd p h1).1 j (List.getElem?_eq_some_iff.1 hk).1
              have := (hdd p h1).2.2.2 j κ u d hk h2 hdx
              simpa [List.getD, h2] using this
          rw [hl] at key
          exact key
    · rename_i fs hd
      simp only [Bool.and_eq_true] at hok
      obtain ⟨ha, hk⟩ := hok
      split at hk
      case h_2 => cases hk
      rename_i ks hks
      have e := lksEq_t hk
      obtain ⟨arr, hu, hfs⟩ := ht.st hd
      obtain ⟨xs, m, _, _, hl, hxl, hf⟩ := DataW.trod_struct hu hx
      have hcells : P.cellsOf t = i.ks.length := by simp [Program.cellsOf, ht.hi, ht.size]
      rw [hcells] at hl
      obtain ⟨ds, hds⟩ := fields_rd (fuel := m) (cs := cs) ih hT fs arr.toList 0 ks xs hfs ha hks (by simpa using hxl) (fun q f hq => hf q f (by simpa using hq)) (by rw [e]; omega)
      rw [e] at hds
      simp only [List.drop_zero] at hds
      rw [List.take_of_length_le (by omega)] at hds
      exact ⟨ds, hds⟩
    · cases hok
end
end Go.Proofs.Ytodhnbjncmihkaa.V
end

section
/- What comes in, as plain structures; a contract as the rows' frame wants it. -/
set_option linter.unusedVariables false
namespace Go.Proofs.Ytodhnbjncmihkaa.V
open Go Go.ChangeShapes Go.WideShapes Go.ChangeAt Go.RowKit

theorem ex_map {α β : Type} {f : α → β} : ∀ {xs : List β}, (∀ x ∈ xs, ∃ a, x = f a) → ∃ l : List α, xs = l.map f
  | [], _ => ⟨[], rfl⟩
  | x :: xs, h => by
    obtain ⟨a, rfl⟩ := h x List.mem_cons_self
    obtain ⟨l, rfl⟩ := ex_map (f := f) (xs := xs) fun y hy => h y (List.mem_cons_of_mem _ hy)
    exact ⟨a :: l, rfl⟩

/-- A row that is read is a row of plain structures. -/
theorem dec_row {α : Type} {T : TypeId → Option TI} {w : World} {Z : Nat → Prop} {e : TypeId} {i : TI} {xs : List (List D)} {v : Value} (f : α → List D) (hT : T e = some i)
    (hd : ∀ (x : List D) (u : Nat → Value), x.length = i.ks.length → (∀ (j : Nat) (κ : LK) (d : D), i.ks[j]? = some κ → x[j]? = some d → Rd T w Z κ d (u j)) → ∃ a, x = f a) (h : Rd T w Z (.sl e) (.sl xs) v) : ∃ l : List α, xs = l.map f := by
  cases h with
  | nil => exact ⟨[], rfl⟩
  | @sl _ i' xs a cap u hT' hm hle hZ hs hx hc hr =>
    rw [hT] at hT'
    cases hT'
    refine ex_map fun x hmem => ?_
    obtain ⟨p, hp, rfl⟩ := List.mem_iff_getElem.1 hmem
    exact hd _ (u p) (hx p _ (List.getElem?_eq_getElem hp)) fun j κ d h1 h2 => hr p _ j κ d (List.getElem?_eq_getElem hp) h1 h2

section
variable {T : TypeId → Option TI} {w : World} {Z : Nat → Prop}

theorem dec_int {k : IntKind} {d : D} {u : Value} (h : Rd T w Z (.int k) d u) : ∃ n, d = .sc (.int k n) := by
  cases h; exact ⟨_, rfl⟩

theorem dec_bool {d : D} {u : Value} (h : Rd T w Z .bool d u) : ∃ b, d = .sc (.bool b) := by
  cases h; exact ⟨_, rfl⟩

theorem dec_str {d : D} {u : Value} (h : Rd T w Z .str d u) : ∃ s, d = .sc (.string s) := by
  cases h; exact ⟨_, rfl⟩

theorem dec_sl {e : TypeId} {d : D} {u : Value} (h : Rd T w Z (.sl e) d u) : ∃ xs, d = .sl xs ∧ Rd T w Z (.sl e) (.sl xs) u := by
  cases h with
  | nil => exact ⟨_, rfl, .nil⟩
  | sl u hT hm hle hZ hs hx hc hr => exact ⟨_, rfl, .sl u hT hm hle hZ hs hx hc hr⟩

theorem dec_eI {x : List D} {u : Nat → Value} {i : TI} (hk : i.ks = [.int .i64]) (hl : x.length = i.ks.length) (h : ∀ (j : Nat) (κ : LK) (d : D), i.ks[j]? = some κ → x[j]? = some d → Rd T w Z κ d (u j)) : ∃ n, x = eI n := by
  rw [hk] at hl h
  match x, hl with
  | [a], _ =>
    obtain ⟨n, rfl⟩ := dec_int (h 0 _ _ rfl rfl)
    exact ⟨n, rfl⟩

theorem dec_eU {x : List D} {u : Nat → Value} {i : TI} (hk : i.ks = [.int .u64]) (hl : x.length = i.ks.length) (h : ∀ (j : Nat) (κ : LK) (d : D), i.ks[j]? = some κ → x[j]? = some d → Rd T w Z κ d (u j)) : ∃ n, x = eU n := by
  rw [hk] at hl h
  match x, hl with
  | [a], _ =>
    obtain ⟨n, rfl⟩ := dec_int (h 0 _ _ rfl rfl)
    exact ⟨n, rfl⟩

theorem dec_eDecl {x : List D} {u : Nat → Value} {i : TI} (hk : i.ks = [.str, .int .i64]) (hl : x.length = i.ks.length) (h : ∀ (j : Nat) (κ : LK) (d : D), i.ks[j]? = some κ → x[j]? = some d → Rd T w Z κ d (u j)) : ∃ d, x = eDecl d := by
  rw [hk] at hl h
  match x, hl with
  | [a, b], _ =>
    obtain ⟨s, rfl⟩ := dec_str (h 0 _ _ rfl rfl)
    obtain ⟨n, rfl⟩ := dec_int (h 1 _ _ rfl rfl)
    exact ⟨⟨s, n⟩, rfl⟩

theorem dec_eNode {x : List D} {u : Nat → Value} {i iu ii : TI} {tu ti : TypeId} (hu : T tu = some iu) (hi : T ti = some ii) (hku : iu.ks = [.int .u64]) (hki : ii.ks = [.int .i64]) (hk : i.ks = [.int .i64, .int .i64, .int .i64, .int .i64, .int .i64, .sl tu, .sl ti]) (hl : x.length = i.ks.length)
    (h : ∀ (j : Nat) (κ : LK) (d : D), i.ks[j]? = some κ → x[j]? = some d → Rd T w Z κ d (u j)) : ∃ d, x = eNode d := by
  rw [hk] at hl h
  match x, hl with
  | [a, b, c, d, e, f, g], _ =>
    obtain ⟨n0, rfl⟩ := dec_int (h 0 _ _ rfl rfl)
    obtain ⟨n1, rfl⟩ := dec_int (h 1 _ _ rfl rfl)
    obtain ⟨n2, rfl⟩ := dec_int (h 2 _ _ rfl rfl)
    obtain ⟨n3, rfl⟩ := dec_int (h 3 _ _ rfl rfl)
    obtain ⟨n4, rfl⟩ := dec_int (h 4 _ _ rfl rfl)
    obtain ⟨x5, rfl, g5⟩ := dec_sl (h 5 _ _ rfl rfl)
    obtain ⟨x6, rfl, g6⟩ := dec_sl (h 6 _ _ rfl rfl)
    obtain ⟨l5, rfl⟩ := dec_row eU hu (fun x u h1 h2 => dec_eU hku h1 h2) g5
    obtain ⟨l6, rfl⟩ := dec_row eI hi (fun x u h1 h2 => dec_eI hki h1 h2) g6
    exact ⟨⟨n0, n1, n2, n3, ⟨n4, l5⟩, l6⟩, rfl⟩

/-- A slice that comes in. -/
theorem in_sl {P : Program} {H : Type} {encH : TypeId × Value → H} {sp : Nat → Bool} {held : Bool} (hT : TOk P T) {t e : TypeId} {i : TI} (hi : T t = some i) (hks : i.ks = [.sl e]) (hok : rdOk T 9 t = true) {v : Value} {d : DataW H} {ps : List MemPlace} (h : DataW.Trod encH P w 0 sp held t v d ps) {u : Value} (hu : v.cells.toList = [u]) :
    ∃ xs, Rd T w (Zall w) (.sl e) (.sl xs) u := by
  obtain ⟨fuel, hf⟩ := h
  obtain ⟨ds, h1, h2, h3⟩ := rd_trod hT 9 t i hi hok _ _ _ hf
  rw [hks] at h1 h2 h3
  rw [hu] at h3
  match ds, h2 with
  | [d], _ =>
    obtain ⟨xs, rfl, g⟩ := dec_sl (h3 0 _ _ _ rfl rfl rfl)
    exact ⟨xs, g⟩
end

/-- A contract over what is only read, as the frame wants it. -/
theorem VC.frame {P : Program} {T : TypeId → Option TI} {f : FuncId} {args : List V} {W : World} {us : List Value} (hrun : ∀ us w, (callFunc f us).run P w = .ok (.enter f us) w) (h : VC P T f args [] 0 fun r S n => Done (r = vB true))
    (hl : us.length = args.length) (ha : ∀ (j : Nat) (v : V) (u : Value), args[j]? = some v → us[j]? = some u → VR T W ⟨Zall W, fun _ => .bool false, fun _ _ => False⟩ [] 0 v u) :
    Calls P f us.toArray W fun e w' => e = .returned (.bool true) ∧ Below W.heap.size W w' := by
  unfold VC at h
  have hs : Sat T W ⟨Zall W, fun _ => .bool false, fun _ _ => False⟩ [] 0 := ⟨fun id b h => h, fun _ _ => rfl, fun _ _ _ h => h.elim, fun _ _ h => h.elim, fun b h => h, fun _ _ h => h.elim⟩
  rcases h W _ us hs hl ha with ⟨_, h2⟩ | ⟨u, w', h2, _⟩
  · refine h2.mono ?_
    rintro e w' ⟨u, r, S', nx', c', rfl, _, _, hv, he, _, ⟨rfl⟩⟩
    refine ⟨?_, he.os, he.tape, he.output, he.size, fun k hk => he.keep k hk fun _ h => h⟩
    cases hv with
    | one h => rw [show u = .bool true from h.1]
  · rw [hrun] at h2
    cases h2

end Go.Proofs.Ytodhnbjncmihkaa.V
end

section
/- The row of FnExactVarsOf. -/
set_option linter.unusedVariables false
namespace Go.Proofs.Ytodhnbjncmihkaa.V
open Go Go.ChangeShapes Go.WideShapes Go.ChangeAt Go.RowKit

theorem own : ownKnob Try.prog.godebug = none := by kernel_rfl

theorem laidOut : laidOutB Try.prog = true := by kernel_rfl

theorem law_calls (hsort : SortC) {W : World} {v0 v1 : Value} {xs ys : List (List D)} (h0 : Rd tbl W (Zall W) (.sl 45) (.sl xs) v0) (h1 : Rd tbl W (Zall W) (.sl 64) (.sl ys) v1) :
    Calls Try.prog 3 #[v0, .agg #[v1]] W fun e w' => e = .returned (.bool true) ∧ Below W.heap.size W w' := by
  obtain ⟨ds, rfl⟩ := dec_row (i := ⟨_, [.str, .int .i64], _⟩) eDecl rfl (fun x u h1 h2 => dec_eDecl rfl h1 h2) h0
  obtain ⟨ns, rfl⟩ := dec_row (i := ⟨_, [.int .i64, .int .i64, .int .i64, .int .i64, .int .i64, .sl 86, .sl 2], _⟩) eNode rfl (fun x u h1 h2 => dec_eNode (iu := ⟨.int .u64, [.int .u64], 8⟩) (ii := ⟨.int .i64, [.int .i64], 8⟩) rfl rfl rfl rfl rfl h1 h2) h1
  refine VC.frame (us := [v0, .agg #[v1]]) (run_enter Try.func3 rfl rfl) (FnExactVarsOf_c hsort ds ns) rfl fun j v u hv hu => ?_
  match j with
  | 0 => cases hv; cases hu; exact .one h0
  | 1 =>
    cases hv; cases hu
    refine .agg ⟨rfl, fun j l hl => ?_⟩
    match j with
    | 0 => cases hl; exact ⟨v1, rfl, h1⟩
    | j + 1 => simp at hl
  | j + 2 => simp at hv

end Go.Proofs.Ytodhnbjncmihkaa.V
end

section
/- The row of FnExactVarsOf, lifted. -/
set_option linter.unusedVariables false
namespace Go.Proofs.Ytodhnbjncmihkaa.V
open Go Go.ChangeShapes Go.WideShapes Go.ChangeAt Go.RowKit

theorem in_decls {H : Type} {encH : TypeId × Value → H} {W : World} {sp : Nat → Bool} {held : Bool} {u : Value} {d : DataW H} {ps : List MemPlace} (hu : u.cells.toList = [u]) (h : DataW.Trod encH Try.prog W 0 sp held 22 u d ps) : ∃ xs, Rd tbl W (Zall W) (.sl 45) (.sl xs) u :=
  in_sl (w := W) tOk (t := 22) (e := 45) (i := ⟨_, [.sl 45], _⟩) rfl rfl (by kernel_rfl) h hu

theorem in_term {H : Type} {encH : TypeId × Value → H} {W : World} {sp : Nat → Bool} {held : Bool} {u : Value} {d : DataW H} {ps : List MemPlace} (h : DataW.Trod encH Try.prog W 0 sp held 25 (.agg #[u]) d ps) : ∃ xs, Rd tbl W (Zall W) (.sl 64) (.sl xs) u :=
  in_sl (w := W) tOk (t := 25) (e := 64) (i := ⟨_, [.sl 64], _⟩) rfl rfl (by kernel_rfl) h (u := u) rfl

theorem one_cell : Try.prog.cellsOf 25 = 1 := by kernel_rfl

theorem arr1 {cs : Array Value} (h : cs.size = 1) : ∃ u, cs = #[u] := by
  obtain ⟨l⟩ := cs
  match l, h with
  | [u], _ => exact ⟨u, rfl⟩

set_option maxRecDepth 100000 in
set_option maxHeartbeats 3200000 in
theorem lifted (hsort : SortC) (os : Os) (started : os.Started) (H : Type) (enc : TypeId × Value → H) :
    ReturnsInHanded {} Try.checked os 3 .any (Rows.fnExactVarsOfSpec.pre6 enc Try.prog Try.f3 Rows.fnExactVarsOfRow.domain false) (Rows.fnExactVarsOfSpec.post enc Try.prog Try.f3 false true false false) := by
  refine returnsInHanded_of_change_sized (C := Try.checked) own started (by kernel_rfl) Try.func3
    (ChangeSpec.witness6 (enc := enc) (C := Try.checked) false ⟨#[], #[.slice none 0 0, .agg #[.slice none 0 0]], []⟩ 8 (by kernel_rfl) (by kernel_rfl) (by kernel_rfl) (by kernel_rfl)) ?_
  intro W base args ds gs before hval0 hW hcnd hsz0 _
  have hval : ∀ (j : Nat) t v, Try.f3.params[j]? = some t → args[j]? = some v → Value.okWide Try.prog W .any base t v := hval0
  have hW' := hW
  obtain ⟨p, q, hA0, hV, rfl, hfz, hnd⟩ := hW
  have hA : DataW.TrodAll enc Try.prog W 0 (fun _ => true) true Try.f3.params.toList args.toList ds p := hA0
  rw [Try.params3] at hA hval
  obtain ⟨v0, vs0, d0, ds0, p0, q0, hargs, rfl, rfl, h0, r0⟩ := trodAll_cons hA
  obtain ⟨v1, vs1, d1, ds1, p1, q1, rfl, rfl, rfl, h1, r1⟩ := trodAll_cons r0
  obtain ⟨rfl, rfl, rfl⟩ := trodAll_nil r1
  obtain rfl : args = #[v0, v1] := by cases args; simp_all
  obtain ⟨rfl, rfl⟩ := trodVars_none hV
  have lt0 : ∀ x ∈ p0, x.block < W.heap.size := by obtain ⟨m, hm⟩ := h0; exact DataW.trod_lt m _ _ _ hm
  have lt1 : ∀ x ∈ p1, x.block < W.heap.size := by obtain ⟨m, hm⟩ := h1; exact DataW.trod_lt m _ _ _ hm
  obtain ⟨a0, len0, cap0, rfl⟩ := okWide_slice Try.underlying22 (hval 0 22 v0 rfl rfl)
  obtain ⟨cs, rfl, hcs⟩ := okWide_struct Try.underlying25 (hval 1 25 v1 rfl rfl)
  obtain ⟨u, rfl⟩ := arr1 (hcs.trans one_cell)
  obtain ⟨xs, g0⟩ := in_decls rfl h0
  obtain ⟨ys, g1⟩ := in_term h1
  refine (law_calls hsort g0 g1).mono fun e W' ⟨he, bel⟩ => ?_
  subst he
  exact ⟨_, rfl, _, _, _, [], _, [], hW', trodAll_mk1 (shut_bool Try.underlying4 _), (trodAll_cons_mk (Below.trod laidOut (by kernel_rfl) (of_decide_eq_true (by kernel_rfl)) h0 bel lt0) (trodAll_cons_mk (Below.trod laidOut (by kernel_rfl) (of_decide_eq_true (by kernel_rfl)) h1 bel lt1) trodAll_mk0)), rfl, bel.frame _, fun h => by cases h⟩

theorem over (hsort : SortC) : Rows.fnExactVarsOfRow.holds Try.pinned (OpenSpec.ofChange Rows.fnExactVarsOfSpec) :=
  OpenClaim.holds_of_wide 3 Try.f3 rfl rfl rfl rfl rfl rfl rfl ⟨rfl, rfl, rfl, rfl, rfl⟩ rfl rfl rfl rfl rfl (by kernel_rfl) Try.func3 (by kernel_rfl)
    (of_decide_eq_true (by kernel_rfl)) (by unfold Func.isWrapper; first | (rw [if_pos (by decide +kernel)]; kernel_rfl) | (rw [if_neg (by decide +kernel)]; exact ⟨rfl, rfl⟩))
    (fun os started H enc _ => lifted hsort os started H enc)

end Go.Proofs.Ytodhnbjncmihkaa.V
end

section
/- The numbers of a library function and of what it calls, at this program. -/
namespace Go.Proofs
open Go.Shelf
def Try.laySort_ren : Go.Shelf.Ren := ⟨fun | 53 => 33 | 64 => 50 | 63 => 49 | 78 => 72 | 79 => 73 | 70 => 63 | 71 => 64 | 72 => 65 | 73 => 66 | 74 => 67 | 75 => 68 | 59 => 69 | 76 => 70 | 77 => 71 | 88 => 79 | 89 => 80 | 90 => 81 | 91 => 82 | 92 => 83 | 68 => 84 | 96 => 86 | n => n, fun | 22 => 28 | 23 => 2 | 3 => 3 | 51 => 84 | 0 => 0 | 67 => 106 | 69 => 86 | 4 => 4 | 61 => 98 | 60 => 97 | 44 => 103 | 5 => 5 | 9 => 9 | 75 => 112 | 79 => 116 | 83 => 119 | 84 => 120 | n => n, fun | n => n⟩
theorem Try.laySort : Go.Proofs.SlLaysN.n53 Try.prog Try.laySort_ren := {
  mixed := by kernel_rfl,
  f53 := ⟨Try.f33.name, by decide, Try.func33.trans (congrArg some (by kernel_rfl))⟩,
  f59 := ⟨Try.f69.name, by decide, Try.func69.trans (congrArg some (by kernel_rfl))⟩,
  f63 := ⟨Try.f49.name, by decide, Try.func49.trans (congrArg some (by kernel_rfl))⟩,
  f64 := Try.func50.trans (congrArg some (by kernel_rfl)),
  f68 := ⟨Try.f84.name, by decide, Try.func84.trans (congrArg some (by kernel_rfl))⟩,
  f70 := ⟨Try.f63.name, by decide, Try.func63.trans (congrArg some (by kernel_rfl))⟩,
  f71 := ⟨Try.f64.name, by decide, Try.func64.trans (congrArg some (by kernel_rfl))⟩,
  f72 := ⟨Try.f65.name, by decide, Try.func65.trans (congrArg some (by kernel_rfl))⟩,
  f73 := ⟨Try.f66.name, by decide, Try.func66.trans (congrArg some (by kernel_rfl))⟩,
  f74 := ⟨Try.f67.name, by decide, Try.func67.trans (congrArg some (by kernel_rfl))⟩,
  f75 := ⟨Try.f68.name, by decide, Try.func68.trans (congrArg some (by kernel_rfl))⟩,
  f76 := ⟨Try.f70.name, by decide, Try.func70.trans (congrArg some (by kernel_rfl))⟩,
  f77 := ⟨Try.f71.name, by decide, Try.func71.trans (congrArg some (by kernel_rfl))⟩,
  f78 := Try.func72.trans (congrArg some (by kernel_rfl)),
  f79 := Try.func73.trans (congrArg some (by kernel_rfl)),
  f88 := ⟨Try.f79.name, by decide, Try.func79.trans (congrArg some (by kernel_rfl))⟩,
  f89 := Try.func80.trans (congrArg some (by kernel_rfl)),
  f90 := Try.func81.trans (congrArg some (by kernel_rfl)),
  f91 := ⟨Try.f82.name, by decide, Try.func82.trans (congrArg some (by kernel_rfl))⟩,
  f92 := ⟨Try.f83.name, by decide, Try.func83.trans (congrArg some (by kernel_rfl))⟩,
  f96 := ⟨Try.f86.name, by decide, Try.func86.trans (congrArg some (by kernel_rfl))⟩,
  t0 := Try.underlying0,
  a0 := Try.isAgg0,
  z0 := Try.sizeOf0,
  v0 := Try.zeroValue0,
  t3 := Try.underlying3,
  a3 := Try.isAgg3,
  z3 := Try.sizeOf3,
  v3 := Try.zeroValue3,
  t4 := Try.underlying4,
  a4 := Try.isAgg4,
  z4 := Try.sizeOf4,
  v4 := Try.zeroValue4,
  t5 := Try.underlying5,
  a5 := Try.isAgg5,
  z5 := Try.sizeOf5,
  v5 := Try.zeroValue5,
  t9 := Try.underlying9,
  a9 := Try.isAgg9,
  z9 := Try.sizeOf9,
  v9 := Try.zeroValue9,
  t22 := Try.underlying28,
  a22 := Try.isAgg28,
  z22 := Try.sizeOf28,
  v22 := Try.zeroValue28,
  t23 := Try.underlying2,
  a23 := Try.isAgg2,
  z23 := Try.sizeOf2,
  v23 := Try.zeroValue2,
  t44 := Try.underlying103,
  a44 := Try.isAgg103,
  z44 := Try.sizeOf103,
  v44 := Try.zeroValue103,
  t51 := Try.underlying84,
  a51 := Try.isAgg84,
  z51 := Try.sizeOf84,
  v51 := Try.zeroValue84,
  t60 := Try.underlying97,
  a60 := Try.isAgg97,
  z60 := Try.sizeOf97,
  v60 := Try.zeroValue97,
  t61 := Try.underlying98,
  a61 := Try.isAgg98,
  z61 := Try.sizeOf98,
  v61 := Try.zeroValue98,
  t67 := Try.underlying106,
  a67 := Try.isAgg106,
  z67 := Try.sizeOf106,
  v67 := Try.zeroValue106,
  t69 := Try.underlying86,
  a69 := Try.isAgg86,
  z69 := Try.sizeOf86,
  v69 := Try.zeroValue86,
  t75 := Try.underlying112,
  a75 := Try.isAgg112,
  z75 := Try.sizeOf112,
  v75 := Try.zeroValue112,
  t79 := Try.underlying116,
  a79 := Try.isAgg116,
  z79 := Try.sizeOf116,
  v79 := Try.zeroValue116,
  t83 := Try.underlying119,
  a83 := Try.isAgg119,
  z83 := Try.sizeOf119,
  v83 := Try.zeroValue119,
  t84 := Try.underlying120,
  a84 := Try.isAgg120,
  z84 := Try.sizeOf120,
  v84 := Try.zeroValue120 }
end Go.Proofs
end

section
/- The library's Sort, laid at this program. -/
set_option linter.unusedVariables false
namespace Go.Proofs
open Go.Shelf

namespace Ytodhnbjncmihkaa.V
open Go Go.Sort

theorem sort_c : SortC := fun l hl =>
  sortVC (run_enter Try.func33 rfl rfl) (i := ⟨.int .i64, [.int .i64], 8⟩) rfl rfl
    (fun blk off cap zs w h1 h2 h3 => AnyG.slices_Sort_int Try.laySort blk off cap zs w h1 h2 h3) (fun p cap w => AnyG.slices_Sort_int_none Try.laySort p cap w) l hl

end Ytodhnbjncmihkaa.V
end Go.Proofs
end

section
/- The row of FnExactVarsOf, for the claim. -/
namespace Go.Proofs.Ytodhnbjncmihkaa

theorem fnExactVarsOf_holds : Rows.FnExactVarsOfSaid := V.over V.sort_c

#print axioms fnExactVarsOf_holds

end Go.Proofs.Ytodhnbjncmihkaa
end
