/- DecodeNear, in numbers: two words that differ in one bit never say the same. -/
import Derived.Test.YtknkfimpflodeaaWake
import Derived.Test.YtknkfimpflodeaaF14
namespace Go.Proofs.Ytknkfimpflodeaa.Pure
open Go.RowKit Go.Proofs.Ytknkfimpflodeaa.P Go.Proofs.YtknkfimpflodeaaW.PrintWords Go.Proofs.YtknkfimpflodeaaW.PrintLast Go.Proofs.YtknkfimpflodeaaW.PrintMore
theorem near_range (a b : Int) (a0 : 0 ≤ a) (a1 : a < 4294967296) (b0 : 0 ≤ b) (b1 : b < 32) :
    0 ≤ Go.bits .xor .u32 a (shl .u32 1 b) ∧ Go.bits .xor .u32 a (shl .u32 1 b) < 4294967296 ∧ Go.bits .xor .u32 a (shl .u32 1 b) ≠ a := by
  obtain ⟨x, rfl⟩ := Int.eq_ofNat_of_zero_le a0
  obtain ⟨n, rfl⟩ := Int.eq_ofNat_of_zero_le b0
  have hx : x < 4294967296 := by omega
  have hn : n < 32 := by omega
  have hp : 2 ^ n < 4294967296 := Nat.pow_lt_pow_right (by decide) (show n < 32 by omega)
  have e : shl .u32 1 (n : Int) = ((2 ^ n : Nat) : Int) := by
    unfold shl
    rw [show min (n : Int).toNat IntKind.u32.bits = n by rw [show IntKind.u32.bits = 32 from rfl]; omega, Int.one_mul, IntKind.wrap_u32]
    have : ((2 : Int) ^ n) = ((2 ^ n : Nat) : Int) := by simp
    rw [this]
    clear this
    generalize 2 ^ n = p at hp ⊢
    omega
  rw [e, u32_xor_nat x (2 ^ n) hx hp]
  have hlt : x ^^^ 2 ^ n < 2 ^ 32 := Nat.xor_lt_two_pow hx hp
  refine ⟨by omega, by omega, fun h => ?_⟩
  have h2 : x ^^^ 2 ^ n = x := by omega
  have h3 := congrArg (fun y => Nat.testBit y n) h2
  simp [Nat.testBit_xor] at h3
/-- what two words say is the same: then they are -/
theorem said_inj (w v : Int) (w0 : 0 ≤ w) (w1 : w < 4294967296) (v0 : 0 ≤ v) (v1 : v < 4294967296) (hw : (decL tabP 1 w).2.2.2.2.2.2.2.2 = true) (hv : (decL tabP 1 v).2.2.2.2.2.2.2.2 = true) (h : decL tabP 1 w = decL tabP 1 v) : w = v := by
  obtain ⟨i, _, i1, i2, _, i3⟩ := decL_some w 113 0 (by decide) hw
  obtain ⟨j, _, j1, j2, _, j3⟩ := decL_some v 113 0 (by decide) hv
  rw [List.drop_zero] at i3 j3
  have h' : decL tabP (((0 : Nat) : Int) + 1) w = decL tabP (((0 : Nat) : Int) + 1) v := h
  rw [i3, j3] at h'
  simp only [Prod.mk.injEq] at h'
  obtain ⟨e0, e1, e2, e3, e4, e5, e6, e7, _⟩ := h'
  obtain rfl : i = j := by omega
  obtain ⟨f1, f2, _⟩ := row_ok i i1
  have a := (word_back _ _ ((i : Int) + 1) w f1 f2 w0 w1 i2).1
  have b := (word_back _ _ ((i : Int) + 1) v f1 f2 v0 v1 j2).1
  rw [e1, e2, e3, e4, e5, e6, e7, b] at a
  exact a.symm
theorem near_j0 (k : Nat) (x : Bool) (a b c d e f : Int) (g h : Bool) (a' b' c' d' e' f' : Int) (g' h' : Bool) (hk : 300 ≤ k) (H : x = false → ¬ (a = a' ∧ b = b' ∧ c = c' ∧ d = d' ∧ e = e' ∧ f = f' ∧ g = g' ∧ h = h')) :
    mezzaninelaw09_DecodeNear.j0 (k + 1) x a b c d e f g h a' b' c' d' e' f' g' h' = some true := by
  simp only [mezzaninelaw09_DecodeNear.j0]
  rw [wakes_ok k hk]
  cases x
  · have := H rfl
    simp
    exact fun q1 q2 q3 q4 q5 q6 q7 q8 => this ⟨q1, q2, q3, q4, q5, q6, q7, q8⟩
  · simp
theorem DecodeNear : mezzaninelaw09_DecodeNear.Pure := by
  intro a0 a1 h g
  obtain ⟨h0, h1⟩ := bounds_u32 h
  obtain ⟨g0, g1⟩ := bounds_u8 g
  have ht : Int.tmod a1 32 = a1 % 32 := Int.tmod_eq_emod_of_nonneg g0
  obtain ⟨v0, v1, vne⟩ := near_range a0 (a1 % 32) h0 (by omega) (by omega) (by omega)
  refine ⟨301, ?_⟩
  unfold mezzaninelaw09_DecodeNear.f
  rw [ht, if_pos (by omega), decode_at a0 h0 (by omega) 301 (by decide)]
  generalize Go.bits .xor .u32 a0 (shl .u32 1 (a1 % 32)) = v at v0 v1 vne
  simp only [Option.bind_some]
  rw [decode_at v v0 v1 301 (by decide)]
  simp only [Option.bind_some]
  have inj := said_inj a0 v h0 (by omega) v0 v1
  generalize decL tabP 1 a0 = D at inj
  generalize decL tabP 1 v = E at inj
  obtain ⟨d1, d2, d3, d4, d5, d6, d7, d8, d9⟩ := D
  obtain ⟨e1, e2, e3, e4, e5, e6, e7, e8, e9⟩ := E
  dsimp only at inj ⊢
  cases d9
  · rw [if_neg (by decide)]
    exact near_j0 300 _ _ _ _ _ _ _ _ _ _ _ _ _ _ _ _ _ (by decide) (by intro h; cases h)
  · rw [if_pos rfl]
    refine near_j0 300 _ _ _ _ _ _ _ _ _ _ _ _ _ _ _ _ _ (by decide) (fun hx hq => ?_)
    obtain ⟨rfl, rfl, rfl, rfl, rfl, rfl, rfl, rfl⟩ := hq
    obtain rfl : e9 = true := by cases e9 <;> simp_all
    exact vne (inj rfl rfl rfl).symm
end Go.Proofs.Ytknkfimpflodeaa.Pure
