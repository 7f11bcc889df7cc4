/- What the printed functions of the reference come to, in numbers: bits, fields, numbers, letters. No program. -/
import Derived.Test.YtknkfimpflodeaaPureN
import Derived.Test.YtknkfimpflodeaaF6
namespace Go.Proofs.Ytknkfimpflodeaa.P
open Go.RowKit Go.Proofs.YtknkfimpflodeaaW.PrintWords Go.Proofs.YtknkfimpflodeaaW.PrintLast Go.Proofs.YtknkfimpflodeaaW.PrintMore
set_option linter.unusedVariables false
theorem two_pos (n : Nat) : (0 : Int) < 2 ^ n := by exact_mod_cast Nat.two_pow_pos n
theorem mod_succ (x : Int) (n : Nat) : x % 2 ^ (n + 1) = x / 2 ^ n % 2 * 2 ^ n + x % 2 ^ n := by
  have hM := two_pos n
  have h1 := Int.mul_ediv_add_emod x (2 ^ n)
  have h2 := Int.mul_ediv_add_emod (x / 2 ^ n) 2
  have h3 := Int.emod_nonneg x (show (2 : Int) ^ n ≠ 0 by omega)
  have h4 := Int.emod_lt_of_pos x hM
  rw [Int.pow_succ]
  generalize (2 : Int) ^ n = M at *
  have e : x = (x / M % 2 * M + x % M) + M * 2 * (x / M / 2) := by
    have : M * (x / M) = M * (2 * (x / M / 2) + x / M % 2) := by rw [h2]
    rw [Int.mul_add] at this
    rw [Int.mul_assoc, Int.mul_comm (x / M % 2) M]
    omega
  have hb : x / M % 2 = 0 ∨ x / M % 2 = 1 := by omega
  have hlt : x / M % 2 * M + x % M < M * 2 := by rcases hb with h | h <;> rw [h] <;> omega
  have hge : 0 ≤ x / M % 2 * M + x % M := by rcases hb with h | h <;> rw [h] <;> omega
  calc x % (M * 2) = ((x / M % 2 * M + x % M) + M * 2 * (x / M / 2)) % (M * 2) := by rw [← e]
    _ = (x / M % 2 * M + x % M) % (M * 2) := Int.add_mul_emod_self_left _ _ _
    _ = _ := Int.emod_eq_of_lt hge hlt
theorem div_pow (w : Int) (p n : Nat) : w / 2 ^ (p + n) = w / 2 ^ p / 2 ^ n := by
  rw [Int.pow_add, Int.ediv_ediv_of_nonneg (Int.le_of_lt (two_pos p))]
theorem bit_at (w : Int) (w0 : 0 ≤ w) (w1 : w < 4294967296) (p : Nat) (hp : p ≤ 31) (y : Int) (hy : y = p) : mezzanineref08_bit.f w y = some (w / 2 ^ p % 2) := by
  have e : IntKind.u64.wrap y = p := by rw [IntKind.wrap_u64]; omega
  have hd0 : 0 ≤ w / 2 ^ p := Int.ediv_nonneg w0 (Int.le_of_lt (two_pos p))
  have hd1 : w / 2 ^ p ≤ w := Int.ediv_le_self _ w0
  have ha := and_u32 1 (by decide) (w / 2 ^ p) hd0 (by omega)
  simp only [Int.pow_one] at ha
  unfold mezzanineref08_bit.f
  rw [e, if_pos (by omega), shr_u32_at w p hp _ rfl, show (1 : Int) = 2 - 1 from rfl, ha]
  congr 1
  unfold wrap64; omega
theorem rfield_loop (w : Int) (w0 : 0 ≤ w) (w1 : w < 4294967296) (p : Nat) : ∀ (n k : Nat) (acc : Int), p + n ≤ 32 → 0 ≤ acc → acc * 2 ^ n + 2 ^ n ≤ 4294967296 →
    mezzanineref08_Field.l0 (n + k) w p acc ((p : Int) + n - 1) = mezzanineref08_Field.l0 k w p (acc * 2 ^ n + w / 2 ^ p % 2 ^ n) ((p : Int) - 1)
  | 0, k, acc, _, _, _ => by
    simp [Int.emod_one]
  | n + 1, k, acc, hpn, h0, hb => by
    have hM := two_pos n
    have hbit : w / 2 ^ (p + n) % 2 = 0 ∨ w / 2 ^ (p + n) % 2 = 1 := by omega
    rw [Int.pow_succ] at hb
    have hle : acc * 2 + 2 ≤ 4294967296 := by
      have h5 : (acc * 2 + 2) * 1 ≤ (acc * 2 + 2) * 2 ^ n := Int.mul_le_mul_of_nonneg_left (by omega) (by omega)
      have h6 : (acc * 2 + 2) * 2 ^ n = acc * (2 ^ n * 2) + 2 ^ n * 2 := by
        rw [Int.add_mul, Int.mul_assoc, Int.mul_comm 2 (2 ^ n)]
      omega
    have hb2 : (2 * acc + w / 2 ^ (p + n) % 2) * 2 ^ n + 2 ^ n ≤ 4294967296 := by
      have h7 : (2 * acc + w / 2 ^ (p + n) % 2) * 2 ^ n ≤ (2 * acc + 1) * 2 ^ n := Int.mul_le_mul_of_nonneg_right (by omega) (by omega)
      have h8 : (2 * acc + 1) * 2 ^ n + 2 ^ n = acc * (2 ^ n * 2) + 2 ^ n * 2 := by
        rw [Int.add_mul, Int.one_mul, Int.mul_comm 2 acc, Int.mul_assoc, Int.mul_comm 2 (2 ^ n)]
        omega
      omega
    have ih := rfield_loop w w0 w1 p n k (2 * acc + w / 2 ^ (p + n) % 2) (by omega) (by omega) hb2
    rw [show n + 1 + k = (n + k) + 1 by omega]
    simp only [mezzanineref08_Field.l0]
    rw [if_pos (by omega), bit_at w w0 w1 (p + n) (by omega) _ (by omega)]
    simp only [Option.bind_some]
    rw [show ((2 * acc) % 4294967296 + w / 2 ^ (p + n) % 2 % 4294967296) % 4294967296 = 2 * acc + w / 2 ^ (p + n) % 2 by omega,
      show wrap64 ((p : Int) + ((n + 1 : Nat) : Int) - 1 - 1) = (p : Int) + n - 1 by unfold wrap64; omega, ih]
    congr 1
    rw [mod_succ, ← div_pow, Int.pow_succ, Int.add_mul, Int.mul_comm 2 acc, Int.mul_assoc, Int.mul_comm 2 (2 ^ n)]
    omega
theorem rfield_at (w : Int) (w0 : 0 ≤ w) (w1 : w < 4294967296) (hi lo : Int) (p n : Nat) (hlo : lo = p) (hhi : hi = p + n - 1) (hn : 1 ≤ n) (hpn : p + n ≤ 32) (k : Nat) (hk : 40 ≤ k) : mezzanineref08_Field.f k w hi lo = some (w / 2 ^ p % 2 ^ n) := by
  obtain ⟨m, rfl⟩ : ∃ m, k = (n + (m + 1)) + 1 := ⟨k - n - 2, by omega⟩
  unfold mezzanineref08_Field.f
  rw [if_neg (by omega), if_neg (by omega), show decide (hi > 31) = false by simp; omega]
  simp only [mezzanineref08_Field.j0]
  subst hlo
  subst hhi
  have hM : (2 : Int) ^ n ≤ 2 ^ 32 := by exact_mod_cast Nat.pow_le_pow_right (by decide) (by omega)
  have hl := rfield_loop w w0 w1 p n (m + 1) 0 hpn (by decide) (by omega)
  rw [if_neg (by decide), hl]
  simp only [mezzanineref08_Field.l0]
  rw [if_neg (by omega)]
  simp
/-! the number, bit by bit -/
def numL (w : Int) : List Int → Int → Int
  | [], n => n
  | p :: t, n => numL w t (2 * n + if 0 ≤ p then w / 2 ^ p.toNat % 2 else 0)
theorem rnum_loop (f w : Int) (w0 : 0 ≤ w) (w1 : w < 4294967296) (l : List Int) (hl : l.length ≤ 32) (hp : ∀ p ∈ l, -1 ≤ p ∧ p ≤ 31) : ∀ (d i k : Nat) (acc : Int), i + d = l.length → 0 ≤ acc → acc < 2 ^ i →
    mezzanineref08_Number.l0 (d + k) f w l acc i = mezzanineref08_Number.l0 k f w l (numL w (l.drop i) acc) l.length
  | 0, i, k, acc, hi, _, _ => by
    have : l.drop i = [] := List.drop_eq_nil_of_le (by omega)
    rw [this, Nat.zero_add, show i = l.length by omega]
    rfl
  | d + 1, i, k, acc, hi, h0, h1 => by
    have hM := two_pos i
    have hM2 : (2 : Int) ^ i ≤ 2 ^ 31 := by exact_mod_cast Nat.pow_le_pow_right (by decide) (by omega)
    have hlt : i < l.length := by omega
    have hd : l.drop i = l[i] :: l.drop (i + 1) := List.drop_eq_getElem_cons hlt
    have hrd : rd l (i : Int) = l[i] := by simp [rd, hlt]
    have hpi := hp l[i] (List.getElem_mem hlt)
    have hw : wrap64 ((i : Int) + 1) = ((i + 1 : Nat) : Int) := by unfold wrap64; omega
    rw [show d + 1 + k = (d + k) + 1 by omega, hd]
    simp only [mezzanineref08_Number.l0, numL]
    rw [if_pos (by omega), if_pos (by omega), hrd, hw]
    have hsucc : (2 : Int) ^ (i + 1) = 2 ^ i * 2 := Int.pow_succ _ _
    by_cases hneg : l[i] ≥ 0
    · obtain ⟨q, hq⟩ := Int.eq_ofNat_of_zero_le hneg
      rw [if_pos hneg, bit_at w w0 w1 q (by omega) _ hq]
      simp only [Option.bind_some]
      have hbit : w / 2 ^ q % 2 = 0 ∨ w / 2 ^ q % 2 = 1 := by omega
      rw [if_pos hneg, hq, Int.toNat_natCast]
      rcases hbit with hb | hb
      · rw [hb, if_neg (by decide), show wrap64 (2 * acc) = 2 * acc + 0 by unfold wrap64; omega]
        exact rnum_loop f w w0 w1 l hl hp d (i + 1) k _ (by omega) (by omega) (by omega)
      · rw [hb, if_pos rfl, show wrap64 (wrap64 (2 * acc) + 1) = 2 * acc + 1 by unfold wrap64; omega]
        exact rnum_loop f w w0 w1 l hl hp d (i + 1) k _ (by omega) (by omega) (by omega)
    · rw [if_neg hneg, if_neg hneg, show wrap64 (2 * acc) = 2 * acc + 0 by unfold wrap64; omega]
      exact rnum_loop f w w0 w1 l hl hp d (i + 1) k _ (by omega) (by omega) (by omega)
def run (p : Nat) : Nat → List Int
  | 0 => []
  | n + 1 => ((p + n : Nat) : Int) :: run p n
theorem numL_run (w : Int) (p : Nat) (rest : List Int) : ∀ (n : Nat) (acc : Int), numL w (run p n ++ rest) acc = numL w rest (acc * 2 ^ n + w / 2 ^ p % 2 ^ n)
  | 0, acc => by simp [run, Int.emod_one]
  | n + 1, acc => by
    show numL w (run p n ++ rest) (2 * acc + if (0 : Int) ≤ ((p + n : Nat) : Int) then w / 2 ^ (((p + n : Nat) : Int)).toNat % 2 else 0) = _
    rw [numL_run w p rest n, if_pos (by omega), Int.toNat_natCast, mod_succ, ← div_pow, Int.pow_succ, Int.add_mul, Int.mul_comm 2 acc, Int.mul_assoc, Int.mul_comm 2 (2 ^ n)]
    congr 1
    omega
theorem numL_noughts (w : Int) : ∀ (n : Nat) (acc : Int), numL w (List.replicate n (-1)) acc = acc * 2 ^ n
  | 0, acc => by simp [numL]
  | n + 1, acc => by
    show numL w (List.replicate n (-1)) (2 * acc + if (0 : Int) ≤ -1 then _ else 0) = _
    rw [numL_noughts w n, if_neg (by decide), Int.pow_succ, Int.add_zero, Int.mul_comm 2 acc, Int.mul_assoc, Int.mul_comm 2]
theorem rnum_end (k : Nat) (f w : Int) (w0 : 0 ≤ w) (w1 : w < 4294967296) (l : List Int) (n : Nat) (hn : l.length = n) (n1 : 1 ≤ n) (n2 : n ≤ 32) (N : Int) (N0 : 0 ≤ N) (N1 : N < 2 ^ n) (sg : Bool) (hs : mezzanineref08_Signed.f f = some sg) :
    mezzanineref08_Number.l0 (k + 4) f w l N l.length = some (if sg = true ∧ w / 2147483648 % 2 = 1 then N - 2 ^ n else N, true) := by
  have hb := bit_at w w0 w1 31 (by decide) 31 rfl
  have hM : (2 : Int) ^ n ≤ 2 ^ 32 := by exact_mod_cast Nat.pow_le_pow_right (by decide) n2
  have hs1 : IntKind.u64.wrap (l.length : Int) = (n : Int) := by rw [IntKind.wrap_u64]; omega
  have hsh : shl .i64 1 (n : Int) = 2 ^ n := by
    unfold shl
    rw [show min (n : Int).toNat IntKind.i64.bits = n by rw [show IntKind.i64.bits = 64 from rfl]; omega, Int.one_mul, IntKind.wrap_i64]
    have := two_pos n
    omega
  simp only [Int.reducePow] at hb
  simp only [mezzanineref08_Number.l0]
  rw [if_neg (by omega), hs]
  simp only [Option.bind_some]
  cases sg with
  | false => simp [mezzanineref08_Number.j1]
  | true =>
    rw [if_pos rfl, hb]
    simp only [Option.bind_some, mezzanineref08_Number.j1]
    by_cases h1 : w / 2147483648 % 2 = 1
    · rw [h1, if_pos (by decide), if_pos ⟨trivial, rfl⟩]
      simp only [mezzanineref08_Number.l1]
      rw [if_pos (by decide), hs1, if_pos (by omega), show wrap64 (0 + 1) = 1 by decide +kernel, if_neg (by decide), hsh]
      congr 2
      unfold wrap64; omega
    · rw [if_neg (by simpa using h1), if_neg (fun h => h1 h.2)]
theorem rnumber_of (f w : Int) (w0 : 0 ≤ w) (w1 : w < 4294967296) (l : List Int) (n : Nat) (N : Int) (sg : Bool) (hpl : mezzanineref08_Places.f 120 f = some l) (hn : l.length = n) (n1 : 1 ≤ n) (n2 : n ≤ 32) (hp : ∀ p ∈ l, -1 ≤ p ∧ p ≤ 31)
    (hN : numL w l 0 = N) (N0 : 0 ≤ N) (N1 : N < 2 ^ n) (hs : mezzanineref08_Signed.f f = some sg) (r : Int) (hr : (if sg = true ∧ w / 2147483648 % 2 = 1 then N - 2 ^ n else N) = r) : mezzanineref08_Number.f 120 f w = some (r, true) := by
  unfold mezzanineref08_Number.f
  rw [hpl]
  simp only [Option.bind_some]
  have hl := rnum_loop f w w0 w1 l (by omega) hp n 0 (120 - n) 0 (by omega) (by decide) (by simp)
  rw [show n + (120 - n) = 120 by omega, List.drop_zero, hN] at hl
  rw [if_neg (by omega)]
  have he := rnum_end (120 - n - 4) f w w0 w1 l n hn n1 n2 N N0 N1 sg hs
  rw [show 120 - n - 4 + 4 = 120 - n by omega] at he
  rw [hr] at he
  exact hl.trans he
theorem rnumber_at (f w : Int) (w0 : 0 ≤ w) (w1 : w < 4294967296) (f1 : 1 ≤ f) (f2 : f ≤ 9) (k : Nat) (hk : 120 ≤ k) : mezzanineref08_Number.f k f w = some (numS f w, true) := by
  refine at_rounds (fun k => mezzanineref08_Number.mono f w k) hk ?_
  have hf : f = 1 ∨ f = 2 ∨ f = 3 ∨ f = 4 ∨ f = 5 ∨ f = 6 ∨ f = 7 ∨ f = 8 ∨ f = 9 := by omega
  rcases hf with rfl | rfl | rfl | rfl | rfl | rfl | rfl | rfl | rfl
  · refine rnumber_of 1 w w0 w1 (run 20 12 ++ []) 12 _ true (by decide +kernel) (by decide) (by decide) (by decide) (by decide +kernel) (numL_run w 20 [] 12 0) ?_ ?_ rfl _ ?_ <;> simp [numL, numS, sx] <;> first | omega | (split <;> split <;> omega)
  · have h31 : w / 2147483648 = w / 33554432 / 64 := by omega
    have h32 : w / 2147483648 / 2 = w / 33554432 / 128 := by omega
    refine rnumber_of 2 w w0 w1 (run 25 7 ++ (run 7 5 ++ [])) 12 _ true (by decide +kernel) (by decide) (by decide) (by decide) (by decide +kernel) ((numL_run w 25 _ 7 0).trans (numL_run w 7 [] 5 _)) ?_ ?_ rfl _ ?_ <;> simp [numL, numS, sx] <;> first | omega | (split <;> split <;> omega)
  · refine rnumber_of 3 w w0 w1 (run 31 1 ++ (run 7 1 ++ (run 25 6 ++ (run 8 4 ++ List.replicate 1 (-1))))) 13 _ true (by decide +kernel) (by decide) (by decide) (by decide) (by decide +kernel) ((numL_run w 31 _ 1 0).trans ((numL_run w 7 _ 1 _).trans ((numL_run w 25 _ 6 _).trans ((numL_run w 8 _ 4 _).trans (numL_noughts w 1 _))))) ?_ ?_ rfl _ ?_ <;> simp [numS, sx] <;> first | omega | (split <;> split <;> omega)
  · refine rnumber_of 4 w w0 w1 (run 12 20 ++ List.replicate 12 (-1)) 32 _ true (by decide +kernel) (by decide) (by decide) (by decide) (by decide +kernel) ((numL_run w 12 _ 20 _).trans (numL_noughts w 12 _)) ?_ ?_ rfl _ ?_ <;> simp [numS, sx] <;> first | omega | (split <;> split <;> omega)
  · refine rnumber_of 5 w w0 w1 (run 31 1 ++ (run 12 8 ++ (run 20 1 ++ (run 21 10 ++ List.replicate 1 (-1))))) 21 _ true (by decide +kernel) (by decide) (by decide) (by decide) (by decide +kernel) ((numL_run w 31 _ 1 0).trans ((numL_run w 12 _ 8 _).trans ((numL_run w 20 _ 1 _).trans ((numL_run w 21 _ 10 _).trans (numL_noughts w 1 _))))) ?_ ?_ rfl _ ?_ <;> simp [numS, sx] <;> first | omega | (split <;> split <;> omega)
  · refine rnumber_of 6 w w0 w1 (run 20 6 ++ []) 6 _ false (by decide +kernel) (by decide) (by decide) (by decide) (by decide +kernel) (numL_run w 20 [] 6 0) ?_ ?_ rfl _ ?_ <;> simp [numL, numS] <;> omega
  · refine rnumber_of 7 w w0 w1 (run 20 5 ++ []) 5 _ false (by decide +kernel) (by decide) (by decide) (by decide) (by decide +kernel) (numL_run w 20 [] 5 0) ?_ ?_ rfl _ ?_ <;> simp [numL, numS] <;> omega
  · refine rnumber_of 8 w w0 w1 (run 20 12 ++ []) 12 _ false (by decide +kernel) (by decide) (by decide) (by decide) (by decide +kernel) (numL_run w 20 [] 12 0) ?_ ?_ rfl _ ?_ <;> simp [numL, numS] <;> omega
  · refine rnumber_of 9 w w0 w1 (run 15 5 ++ []) 5 _ false (by decide +kernel) (by decide) (by decide) (by decide) (by decide +kernel) (numL_run w 15 [] 5 0) ?_ ?_ rfl _ ?_ <;> simp [numL, numS] <;> omega
/-! letters -/
theorem has_rd (fm : Int) (h1 : 1 ≤ fm) (h2 : fm ≤ 15) (k : Nat) (hk : 30 ≤ k) : mezzanineref09_has.f k (ltr fm) ⟨#[85, 74, 73, 72, 87, 82, 76, 65, 67, 90, 86]⟩ = some (rdB fm) := by
  refine at_rounds (fun k => mezzanineref09_has.mono _ _ k) hk ?_
  rcases forms fm h1 h2 with rfl | rfl | rfl | rfl | rfl | rfl | rfl | rfl | rfl | rfl | rfl | rfl | rfl | rfl | rfl <;> decide +kernel
theorem has_a (fm : Int) (h1 : 1 ≤ fm) (h2 : fm ≤ 15) (k : Nat) (hk : 30 ≤ k) : mezzanineref09_has.f k (ltr fm) ⟨#[73, 72, 87, 66, 83, 70, 82, 76, 65, 67, 86]⟩ = some (aB fm) := by
  refine at_rounds (fun k => mezzanineref09_has.mono _ _ k) hk ?_
  rcases forms fm h1 h2 with rfl | rfl | rfl | rfl | rfl | rfl | rfl | rfl | rfl | rfl | rfl | rfl | rfl | rfl | rfl <;> decide +kernel
theorem has_b (fm : Int) (h1 : 1 ≤ fm) (h2 : fm ≤ 15) (k : Nat) (hk : 30 ≤ k) : mezzanineref09_has.f k (ltr fm) ⟨#[66, 83, 70, 82, 65]⟩ = some (bB fm) := by
  refine at_rounds (fun k => mezzanineref09_has.mono _ _ k) hk ?_
  rcases forms fm h1 h2 with rfl | rfl | rfl | rfl | rfl | rfl | rfl | rfl | rfl | rfl | rfl | rfl | rfl | rfl | rfl <;> decide +kernel
theorem has_c (fm : Int) (h1 : 1 ≤ fm) (h2 : fm ≤ 15) (k : Nat) (hk : 30 ≤ k) : mezzanineref09_has.f k (ltr fm) ⟨#[67, 90]⟩ = some (cB fm) := by
  refine at_rounds (fun k => mezzanineref09_has.mono _ _ k) hk ?_
  rcases forms fm h1 h2 with rfl | rfl | rfl | rfl | rfl | rfl | rfl | rfl | rfl | rfl | rfl | rfl | rfl | rfl | rfl <;> decide +kernel
theorem has_o (fm : Int) (h1 : 1 ≤ fm) (h2 : fm ≤ 15) (k : Nat) (hk : 30 ≤ k) : mezzanineref09_has.f k (ltr fm) ⟨#[76, 65]⟩ = some (oB fm) := by
  refine at_rounds (fun k => mezzanineref09_has.mono _ _ k) hk ?_
  rcases forms fm h1 h2 with rfl | rfl | rfl | rfl | rfl | rfl | rfl | rfl | rfl | rfl | rfl | rfl | rfl | rfl | rfl <;> decide +kernel
theorem form_at (fm : Int) (h1 : 1 ≤ fm) (h2 : fm ≤ 15) : mezzanineref09_Form.f (ltr fm) = some (nF fm) := by
  rcases forms fm h1 h2 with rfl | rfl | rfl | rfl | rfl | rfl | rfl | rfl | rfl | rfl | rfl | rfl | rfl | rfl | rfl <;> decide +kernel
theorem nF_range (fm : Int) : 0 ≤ nF fm ∧ nF fm ≤ 9 := by
  unfold nF
  (repeat' split) <;> omega
theorem numS_zero (w : Int) : numS 0 w = 0 := by simp [numS]
end Go.Proofs.Ytknkfimpflodeaa.P
