import PyProof.Rows.All
import KE.OsArith
import Wide.All
import OpenK.AllK
import Wide.FinOn
import Open.SpecLaws
import KE.OsGo
import HandS.ForSpec
import HandS.Comp
import HandS.Iter
import HandS.Zip
import HandS.NoneIn
import HandS.SetFor
import HandS.Conv
import HandS.RevRange
import HandS.Dict
import HandS.Codes
import HandS.CallLocal
import HandS.Steps
import PySem.Challenge.RW_approvedchanges_s01_answers
set_option Elab.async false
set_option linter.all false
set_option maxRecDepth 100000
set_option maxHeartbeats 2000000
namespace Gc
/-! ## Plain laws: trees -/
theorem sp_spec (n : Nat) : ∀ (f p : Nat), 1 ≤ p → n ≤ p + f → p < n →
    p ≤ Kex7.splitPoint f p n ∧ Kex7.splitPoint f p n < n ∧ n ≤ 2 * Kex7.splitPoint f p n
  | 0, p, h1, h2, h3 => by omega
  | f + 1, p, h1, h2, h3 => by
    show p ≤ (if 2 * p < n then Kex7.splitPoint f (2 * p) n else p) ∧ (if 2 * p < n then Kex7.splitPoint f (2 * p) n else p) < n ∧ n ≤ 2 * (if 2 * p < n then Kex7.splitPoint f (2 * p) n else p)
    by_cases c : 2 * p < n
    · rw [if_pos c]
      have ih := sp_spec n f (2 * p) (by omega) (by omega) c
      omega
    · rw [if_neg c]
      omega
/-- the split of n, as the specification takes it -/
def spl (n : Nat) : Nat := Kex7.splitPoint n 1 n
theorem spl_lt {n : Nat} (h : 2 ≤ n) : 1 ≤ spl n ∧ spl n < n ∧ n ≤ 2 * spl n := sp_spec n n 1 (by omega) (by omega) (by omega)
theorem sp_pow (n d : Nat) (hn : n ≤ 2 ^ (d + 1)) : ∀ (f j p : Nat), p = 2 ^ j → p < n → ∃ i, Kex7.splitPoint f p n = 2 ^ i ∧ Kex7.splitPoint f p n < n
  | 0, j, p, h1, h2 => ⟨j, h1, h2⟩
  | f + 1, j, p, h1, h2 => by
    show ∃ i, (if 2 * p < n then Kex7.splitPoint f (2 * p) n else p) = 2 ^ i ∧ (if 2 * p < n then Kex7.splitPoint f (2 * p) n else p) < n
    by_cases c : 2 * p < n
    · rw [if_pos c]
      exact sp_pow n d hn f (j + 1) (2 * p) (by rw [h1, Nat.pow_succ]; omega) c
    · rw [if_neg c]
      exact ⟨j, h1, h2⟩
/-- both parts of at most 2 ^ (d + 1) leaves have at most 2 ^ d -/
theorem spl_half {n d : Nat} (h : 2 ≤ n) (hn : n ≤ 2 ^ (d + 1)) : spl n ≤ 2 ^ d ∧ n - spl n ≤ 2 ^ d := by
  obtain ⟨h1, h2, h3⟩ := spl_lt h
  obtain ⟨i, e, l⟩ := sp_pow n d hn n 0 1 rfl (by omega)
  have e' : spl n = 2 ^ i := e
  have hi : i ≤ d := by
    have : 2 ^ i < 2 ^ (d + 1) := by rw [← e']; omega
    have := (Nat.pow_lt_pow_iff_right (a := 2) (by omega)).mp this
    omega
  have hp : 2 ^ i ≤ 2 ^ d := Nat.pow_le_pow_right (by omega) hi
  omega
/-- what the loop of parting keeps -/
theorem sp_step {n f p : Nat} (h : 2 * p < n) (hf : n ≤ p + f) (hp : 1 ≤ p) : ∃ g, n ≤ 2 * p + g ∧ Kex7.splitPoint f p n = Kex7.splitPoint g (2 * p) n := by
  cases f with
  | zero => omega
  | succ g => exact ⟨g, by omega, if_pos h⟩
theorem sp_end {n f p : Nat} (h : ¬ 2 * p < n) : Kex7.splitPoint f p n = p := by
  cases f with
  | zero => rfl
  | succ g => exact if_neg h

theorem rootOf_cons2 (f : Nat) (l : List Nat) (h : 2 ≤ l.length) :
    Kex7.rootOf (f + 1) l = Kex7.nodeHash (Kex7.rootOf f (l.take (spl l.length))) (Kex7.rootOf f (l.drop (spl l.length))) := by
  match l, h with
  | a :: b :: r, _ => rfl
theorem rootOf_fuel : ∀ (n : Nat) (l : List Nat) (f g : Nat), l.length ≤ n → l.length < f → l.length < g → Kex7.rootOf f l = Kex7.rootOf g l
  | n, l, 0, g, _, hf, _ => by omega
  | n, l, f + 1, 0, _, _, hg => by omega
  | n, l, f + 1, g + 1, hn, hf, hg => by
    by_cases h : 2 ≤ l.length
    · obtain ⟨h1, h2, h3⟩ := spl_lt h
      rw [rootOf_cons2 f l h, rootOf_cons2 g l h]
      cases n with
      | zero => omega
      | succ n =>
        rw [rootOf_fuel n (l.take (spl l.length)) f g (by rw [List.length_take]; omega) (by rw [List.length_take]; omega) (by rw [List.length_take]; omega),
          rootOf_fuel n (l.drop (spl l.length)) f g (by rw [List.length_drop]; omega) (by rw [List.length_drop]; omega) (by rw [List.length_drop]; omega)]
    · match l, h with
      | [], _ => rfl
      | [_], _ => rfl
      | _ :: _ :: _, h => simp at h
theorem root_nil : Kex7.root [] = Kex2.hash [] := rfl
theorem root_one (h : Nat) : Kex7.root [h] = h := rfl
theorem root_two (l : List Nat) (h : 2 ≤ l.length) : Kex7.root l = Kex7.nodeHash (Kex7.root (l.take (spl l.length))) (Kex7.root (l.drop (spl l.length))) := by
  obtain ⟨h1, h2, h3⟩ := spl_lt h
  show Kex7.rootOf (l.length + 1) l = _
  rw [rootOf_cons2 _ l h]
  show _ = Kex7.nodeHash (Kex7.rootOf _ _) (Kex7.rootOf _ _)
  rw [rootOf_fuel l.length (l.take (spl l.length)) l.length ((l.take (spl l.length)).length + 1) (by rw [List.length_take]; omega) (by rw [List.length_take]; omega) (by omega),
    rootOf_fuel l.length (l.drop (spl l.length)) l.length ((l.drop (spl l.length)).length + 1) (by rw [List.length_drop]; omega) (by rw [List.length_drop]; omega) (by omega)]

theorem proofOf_few (f i : Nat) (l : List Nat) (h : l.length ≤ 1) : Kex7.proofOf (f + 1) i l = [] := if_pos h
theorem proofOf_two (f i : Nat) (l : List Nat) (h : 2 ≤ l.length) :
    Kex7.proofOf (f + 1) i l = if i < spl l.length then Kex7.proofOf f i (l.take (spl l.length)) ++ [Kex7.root (l.drop (spl l.length))] else Kex7.proofOf f (i - spl l.length) (l.drop (spl l.length)) ++ [Kex7.root (l.take (spl l.length))] := if_neg (by omega)
theorem proofOf_fuel : ∀ (n : Nat) (l : List Nat) (i f g : Nat), l.length ≤ n → l.length < f → l.length < g → Kex7.proofOf f i l = Kex7.proofOf g i l
  | n, l, i, 0, g, _, hf, _ => by omega
  | n, l, i, f + 1, 0, _, _, hg => by omega
  | n, l, i, f + 1, g + 1, hn, hf, hg => by
    by_cases h : 2 ≤ l.length
    · obtain ⟨h1, h2, h3⟩ := spl_lt h
      rw [proofOf_two f i l h, proofOf_two g i l h]
      cases n with
      | zero => omega
      | succ n =>
        rw [proofOf_fuel n (l.take (spl l.length)) i f g (by rw [List.length_take]; omega) (by rw [List.length_take]; omega) (by rw [List.length_take]; omega),
          proofOf_fuel n (l.drop (spl l.length)) (i - spl l.length) f g (by rw [List.length_drop]; omega) (by rw [List.length_drop]; omega) (by rw [List.length_drop]; omega)]
    · rw [proofOf_few f i l (by omega), proofOf_few g i l (by omega)]
theorem proof_few (i : Nat) (l : List Nat) (h : l.length ≤ 1) : Kex7.proof i l = [] := proofOf_few _ i l h
theorem proof_two (i : Nat) (l : List Nat) (h : 2 ≤ l.length) :
    Kex7.proof i l = if i < spl l.length then Kex7.proof i (l.take (spl l.length)) ++ [Kex7.root (l.drop (spl l.length))] else Kex7.proof (i - spl l.length) (l.drop (spl l.length)) ++ [Kex7.root (l.take (spl l.length))] := by
  obtain ⟨h1, h2, h3⟩ := spl_lt h
  show Kex7.proofOf (l.length + 1) i l = _
  rw [proofOf_two _ i l h]
  unfold Kex7.proof
  rw [proofOf_fuel l.length (l.take (spl l.length)) i l.length ((l.take (spl l.length)).length + 1) (by rw [List.length_take]; omega) (by rw [List.length_take]; omega) (by omega),
    proofOf_fuel l.length (l.drop (spl l.length)) (i - spl l.length) l.length ((l.drop (spl l.length)).length + 1) (by rw [List.length_drop]; omega) (by rw [List.length_drop]; omega) (by omega)]
theorem proof_len : ∀ (d : Nat) (i : Nat) (l : List Nat), l.length ≤ 2 ^ d → (Kex7.proof i l).length ≤ d
  | 0, i, l, h => by rw [proof_few i l h]; exact Nat.le_refl _
  | d + 1, i, l, h => by
    by_cases h2 : 2 ≤ l.length
    · obtain ⟨a, b⟩ := spl_half h2 h
      obtain ⟨c1, c2, c3⟩ := spl_lt h2
      rw [proof_two i l h2]
      by_cases c : i < spl l.length
      · rw [if_pos c, List.length_append, List.length_singleton]
        have := proof_len d i (l.take (spl l.length)) (by rw [List.length_take]; omega)
        omega
      · rw [if_neg c, List.length_append, List.length_singleton]
        have := proof_len d (i - spl l.length) (l.drop (spl l.length)) (by rw [List.length_drop]; omega)
        omega
    · rw [proof_few i l (by omega)]
      exact Nat.zero_le _

theorem fold_few (f i n h : Nat) (l : List Nat) (hn : n ≤ 1) : Kex7.fold (f + 1) i n h l = if l.isEmpty then some h else none := if_pos hn
theorem fold_nil (f i n h : Nat) (hn : 2 ≤ n) : Kex7.fold (f + 1) i n h [] = none := if_neg (by omega)
theorem fold_snoc (f i n h : Nat) (l : List Nat) (o : Nat) (hn : 2 ≤ n) : Kex7.fold (f + 1) i n h (l ++ [o]) =
    if i < spl n then (Kex7.fold f i (spl n) h l).map fun x => Kex7.nodeHash x o else (Kex7.fold f (i - spl n) (n - spl n) h l).map fun x => Kex7.nodeHash o x := by
  show (if n ≤ 1 then _ else match (l ++ [o]).getLast? with | none => none | some other => _) = _
  rw [if_neg (by omega)]
  simp only [List.getLast?_append, List.getLast?_singleton, Option.some_or, List.dropLast_concat]
  rfl
theorem fold_fuel : ∀ (m n i h : Nat) (l : List Nat) (f g : Nat), n ≤ m → n < f → n < g → Kex7.fold f i n h l = Kex7.fold g i n h l
  | m, n, i, h, l, 0, g, _, hf, _ => by omega
  | m, n, i, h, l, f + 1, 0, _, _, hg => by omega
  | m, n, i, h, l, f + 1, g + 1, hm, hf, hg => by
    by_cases h2 : 2 ≤ n
    · obtain ⟨h1, h2', h3⟩ := spl_lt h2
      rcases List.eq_nil_or_concat l with e | ⟨r, o, e⟩
      · subst e
        rw [fold_nil f i n h h2, fold_nil g i n h h2]
      · rw [List.concat_eq_append] at e
        subst e
        rw [fold_snoc f i n h r o h2, fold_snoc g i n h r o h2]
        cases m with
        | zero => omega
        | succ m => rw [fold_fuel m (spl n) i h r f g (by omega) (by omega) (by omega), fold_fuel m (n - spl n) (i - spl n) h r f g (by omega) (by omega) (by omega)]
    · rw [fold_few f i n h l (by omega), fold_few g i n h l (by omega)]
/-- the result of a proof, with fuel enough -/
def fld (i n h : Nat) (l : List Nat) : Option Nat := Kex7.fold (n + 1) i n h l
theorem fld_few (i n h : Nat) (l : List Nat) (hn : n ≤ 1) : fld i n h l = if l.isEmpty then some h else none := fold_few _ i n h l hn
theorem fld_nil (i n h : Nat) (hn : 2 ≤ n) : fld i n h [] = none := fold_nil _ i n h hn
theorem fld_snoc (i n h : Nat) (l : List Nat) (o : Nat) (hn : 2 ≤ n) : fld i n h (l ++ [o]) =
    if i < spl n then (fld i (spl n) h l).map fun x => Kex7.nodeHash x o else (fld (i - spl n) (n - spl n) h l).map fun x => Kex7.nodeHash o x := by
  obtain ⟨h1, h2, h3⟩ := spl_lt hn
  unfold fld
  rw [fold_snoc n i n h l o hn, fold_fuel n (spl n) i h l n (spl n + 1) (by omega) (by omega) (by omega), fold_fuel n (n - spl n) (i - spl n) h l n (n - spl n + 1) (by omega) (by omega) (by omega)]
end Gc
namespace Gc
open PySem
/-! ## Plain laws: bits, hashes -/
theorem or_sum : ∀ (n x y : Nat), x ≤ n → x ||| y = (x ^^^ y) + (x &&& y)
  | 0, x, y, h => by
    have e : x = 0 := by omega
    subst e
    simp
  | n + 1, x, y, h => by
    have ih := or_sum n (x / 2) (y / 2) (by omega)
    have a1 : (x ||| y) / 2 = x / 2 ||| y / 2 := Nat.or_div_two
    have a2 : (x ^^^ y) / 2 = x / 2 ^^^ y / 2 := Nat.xor_div_two
    have a3 : (x &&& y) / 2 = x / 2 &&& y / 2 := Nat.and_div_two
    have b1 : (x ||| y) % 2 = 1 ↔ x % 2 = 1 ∨ y % 2 = 1 := Nat.or_mod_two_eq_one
    have b2 : (x ^^^ y) % 2 = 1 ↔ ¬ (x % 2 = 1 ↔ y % 2 = 1) := Nat.xor_mod_two_eq_one
    have b3 : (x &&& y) % 2 = 1 ↔ x % 2 = 1 ∧ y % 2 = 1 := Nat.and_mod_two_eq_one
    generalize x ||| y = o at *
    generalize x ^^^ y = e at *
    generalize x &&& y = a at *
    generalize x / 2 ||| y / 2 = o2 at *
    generalize x / 2 ^^^ y / 2 = e2 at *
    generalize x / 2 &&& y / 2 = a2 at *
    omega
theorem band (a b : Nat) : Builtin.bitAnd (a : Int) (b : Int) = ((a &&& b : Nat) : Int) := PySem.W.os_band a b
theorem bnot2 (x : Int) : Builtin.bitNot (Builtin.bitNot x) = x := by
  show -(-x - 1) - 1 = x
  omega
theorem bor (a b : Nat) : Builtin.bitOr (a : Int) (b : Int) = ((a ||| b : Nat) : Int) := by
  have h1 : ¬ 0 ≤ Builtin.bitNot (a : Int) := by show ¬ (0 : Int) ≤ -(a : Int) - 1; omega
  have h2 : ¬ 0 ≤ Builtin.bitNot (b : Int) := by show ¬ (0 : Int) ≤ -(b : Int) - 1; omega
  unfold Builtin.bitOr Builtin.bitAnd
  rw [decide_eq_false h1, decide_eq_false h2]
  show Builtin.bitNot (Builtin.bitNot _) = _
  rw [bnot2, bnot2, bnot2, Int.toNat_natCast, Int.toNat_natCast]
theorem bxor (a b : Nat) : Builtin.bitXor (a : Int) (b : Int) = ((a ^^^ b : Nat) : Int) := by
  unfold Builtin.bitXor
  rw [bor, band]
  have := or_sum a a b (Nat.le_refl _)
  omega
theorem shr (a : Nat) (k : Nat) : (a : Int) / 2 ^ k = ((a >>> k : Nat) : Int) := by
  rw [Nat.shiftRight_eq_div_pow]
  simp
theorem mask64 (a : Nat) : a &&& 18446744073709551615 = a % 18446744073709551616 := Nat.and_two_pow_sub_one_eq_mod a 64
theorem mask16 (a : Nat) : a &&& 65535 = a % 65536 := Nat.and_two_pow_sub_one_eq_mod a 16
theorem mask8 (a : Nat) : a &&& 255 = a % 256 := Nat.and_two_pow_sub_one_eq_mod a 8

/-- one byte taken in -/
def fst1 (h x : Nat) : Nat := (h ^^^ x) * 1099511628211 % Kex2.word
theorem fnv_def (l : List Nat) : Kex2.fnv l = l.foldl fst1 14695981039346656037 := rfl
theorem fst1_int (h x : Nat) : Builtin.bitAnd (Builtin.bitXor (h : Int) (x : Int) * 1099511628211) 18446744073709551615 = ((fst1 h x : Nat) : Int) := by
  rw [bxor, show ((h ^^^ x : Nat) : Int) * 1099511628211 = (((h ^^^ x) * 1099511628211 : Nat) : Int) by rw [Int.natCast_mul]; rfl, show (18446744073709551615 : Int) = ((18446744073709551615 : Nat) : Int) from rfl, band, mask64]
  rfl
theorem mix_int (x f : Nat) : Builtin.bitAnd (Builtin.bitXor (x : Int) ((x : Int) / 2 ^ 33) * (f : Int)) 18446744073709551615 = ((Kex2.mixRound x f : Nat) : Int) := by
  rw [shr, bxor, ← Int.natCast_mul, show (18446744073709551615 : Int) = ((18446744073709551615 : Nat) : Int) from rfl, band, mask64]
  rfl
theorem last_int (x : Nat) : Builtin.bitXor (x : Int) ((x : Int) / 2 ^ 33) = ((x ^^^ (x >>> 33) : Nat) : Int) := by
  rw [shr, bxor]
theorem hash_def (l : List Nat) : Kex2.hash l = (let y := Kex2.mixRound (Kex2.mixRound (Kex2.fnv l) 18397679294719823053) 14181476777654086739; y ^^^ (y >>> 33)) := rfl
/-- the three last lines, as the program reckons them -/
theorem hash_int (l : List Nat) : Builtin.bitXor
    (Builtin.bitAnd (Builtin.bitXor (Builtin.bitAnd (Builtin.bitXor ((l.foldl fst1 14695981039346656037 : Nat) : Int) (((l.foldl fst1 14695981039346656037 : Nat) : Int) / 2 ^ (33 : Int).toNat) * 18397679294719823053) 18446744073709551615)
      (Builtin.bitAnd (Builtin.bitXor ((l.foldl fst1 14695981039346656037 : Nat) : Int) (((l.foldl fst1 14695981039346656037 : Nat) : Int) / 2 ^ (33 : Int).toNat) * 18397679294719823053) 18446744073709551615 / 2 ^ (33 : Int).toNat) * 14181476777654086739) 18446744073709551615)
    (Builtin.bitAnd (Builtin.bitXor (Builtin.bitAnd (Builtin.bitXor ((l.foldl fst1 14695981039346656037 : Nat) : Int) (((l.foldl fst1 14695981039346656037 : Nat) : Int) / 2 ^ (33 : Int).toNat) * 18397679294719823053) 18446744073709551615)
      (Builtin.bitAnd (Builtin.bitXor ((l.foldl fst1 14695981039346656037 : Nat) : Int) (((l.foldl fst1 14695981039346656037 : Nat) : Int) / 2 ^ (33 : Int).toNat) * 18397679294719823053) 18446744073709551615 / 2 ^ (33 : Int).toNat) * 14181476777654086739) 18446744073709551615 / 2 ^ (33 : Int).toNat) = ((Kex2.hash l : Nat) : Int) := by
  rw [hash_def, fnv_def]
  generalize l.foldl fst1 14695981039346656037 = x
  have k : (33 : Int).toNat = 33 := rfl
  have e1 : Builtin.bitAnd (Builtin.bitXor (x : Int) ((x : Int) / 2 ^ 33) * 18397679294719823053) 18446744073709551615 = ((Kex2.mixRound x 18397679294719823053 : Nat) : Int) := mix_int x 18397679294719823053
  rw [k, e1]
  generalize Kex2.mixRound x 18397679294719823053 = y
  have e2 : Builtin.bitAnd (Builtin.bitXor (y : Int) ((y : Int) / 2 ^ 33) * 14181476777654086739) 18446744073709551615 = ((Kex2.mixRound y 14181476777654086739 : Nat) : Int) := mix_int y 14181476777654086739
  rw [e2]
  exact last_int _
theorem fst1_lt (h x : Nat) : fst1 h x < Kex2.word := Nat.mod_lt _ (by decide)
theorem fold_lt : ∀ (l : List Nat) (h : Nat), h < Kex2.word → l.foldl fst1 h < Kex2.word
  | [], _, hh => hh
  | x :: r, h, _ => fold_lt r _ (fst1_lt h x)
theorem hash_lt (l : List Nat) : Kex2.hash l < Kex2.word := by
  show (_ : Nat) ^^^ _ < 2 ^ 64
  refine Nat.xor_lt_two_pow ?_ ?_
  · exact Nat.mod_lt _ (by decide)
  · refine Nat.lt_of_le_of_lt (Nat.shiftRight_le _ _) ?_
    exact Nat.mod_lt _ (by decide)

/-- the byte at a place -/
def byteAt (n k : Nat) : Nat := n / 256 ^ k % 256
theorem byte_int (n : Nat) (k : Nat) : Builtin.bitAnd ((n : Int) / 2 ^ (8 * k)) 255 = ((byteAt n k : Nat) : Int) := by
  rw [shr, show (255 : Int) = ((255 : Nat) : Int) from rfl, band, mask8, Nat.shiftRight_eq_div_pow, Nat.pow_mul]
  rfl
/-- so many bytes, the most significant one first -/
def bytesN (n many : Nat) : List Nat := (List.range many).map fun i => byteAt n (many - 1 - i)
theorem bytes4_is (n : Nat) : bytesN n 4 = Kex7.bytes4 n := by
  show [byteAt n 3, byteAt n 2, byteAt n 1, byteAt n 0] = [n / 16777216 % 256, n / 65536 % 256, n / 256 % 256, n % 256]
  simp [byteAt]
theorem bytes8_is (n : Nat) (h : n < Kex2.word) : bytesN n 8 = Kex7.bytes8 n := by
  show [byteAt n 7, byteAt n 6, byteAt n 5, byteAt n 4, byteAt n 3, byteAt n 2, byteAt n 1, byteAt n 0] = [n / 4294967296 / 16777216 % 256, n / 4294967296 / 65536 % 256, n / 4294967296 / 256 % 256, n / 4294967296 % 256, n % 4294967296 / 16777216 % 256, n % 4294967296 / 65536 % 256, n % 4294967296 / 256 % 256, n % 4294967296 % 256]
  have e1 : n / 4294967296 / 16777216 = n / 72057594037927936 := by rw [Nat.div_div_eq_div_mul]
  have e2 : n / 4294967296 / 65536 = n / 281474976710656 := by rw [Nat.div_div_eq_div_mul]
  have e3 : n / 4294967296 / 256 = n / 1099511627776 := by rw [Nat.div_div_eq_div_mul]
  rw [e1, e2, e3]
  simp only [byteAt, Nat.reducePow, Nat.div_one, List.cons.injEq, and_true, true_and]
  refine ⟨?_, ?_, ?_, ?_⟩ <;> omega
theorem bytesN_len (n many : Nat) : (bytesN n many).length = many := by simp [bytesN]
theorem quarters_is (h : Nat) : Kex7.words h = [h / 65536 / 65536 / 65536 % 65536, h / 65536 / 65536 % 65536, h / 65536 % 65536, h % 65536] := rfl
theorem quarter_int (n k : Nat) : Builtin.bitAnd ((n : Int) / 2 ^ k) 65535 = ((n / 2 ^ k % 65536 : Nat) : Int) := by
  rw [shr, show (65535 : Int) = ((65535 : Nat) : Int) from rfl, band, mask16, Nat.shiftRight_eq_div_pow]
theorem quarter0_int (n : Nat) : Builtin.bitAnd (n : Int) 65535 = ((n % 65536 : Nat) : Int) := by
  rw [show (65535 : Int) = ((65535 : Nat) : Int) from rfl, band, mask16]
theorem quarters_eq (h : Nat) : Kex7.words h = [h / 2 ^ 48 % 65536, h / 2 ^ 32 % 65536, h / 2 ^ 16 % 65536, h % 65536] := by
  rw [quarters_is, Nat.div_div_eq_div_mul, Nat.div_div_eq_div_mul, Nat.div_div_eq_div_mul]
/-- the hash that quarters tell -/
def fromQ (l : List Nat) : Nat := l.foldl (fun a x => a * 65536 ||| x) 0
theorem fromQ_step (a x : Nat) : Builtin.bitOr ((a : Int) * 2 ^ (16 : Int).toNat) (x : Int) = ((a * 65536 ||| x : Nat) : Int) := by
  rw [show (a : Int) * 2 ^ (16 : Int).toNat = ((a * 65536 : Nat) : Int) by rw [Int.natCast_mul]; rfl, bor]
theorem or_add (a x : Nat) (h : x < 65536) : a * 65536 ||| x = a * 65536 + x := by
  rw [Nat.mul_comm]
  exact (Nat.two_pow_add_eq_or_of_lt (i := 16) h a).symm
theorem fromQ_lt : ∀ (l : List Nat) (a m : Nat), (∀ x ∈ l, x < 65536) → a < 65536 ^ m → l.foldl (fun a x => a * 65536 ||| x) a < 65536 ^ (m + l.length)
  | [], a, m, _, ha => ha
  | x :: r, a, m, h, ha => by
    have hx : x < 65536 := h x (List.mem_cons_self ..)
    have ih := fromQ_lt r (a * 65536 ||| x) (m + 1) (fun y hy => h y (List.mem_cons_of_mem _ hy)) (by rw [or_add a x hx, Nat.pow_succ]; omega)
    rw [List.foldl_cons, List.length_cons, show m + (r.length + 1) = m + 1 + r.length by omega]
    exact ih
theorem fromQ_small (l : List Nat) (h : ∀ x ∈ l, x < 65536) (hl : l.length ≤ 4) : fromQ l < Kex2.word := by
  have a := fromQ_lt l 0 0 h (by decide)
  have b : 65536 ^ (0 + l.length) ≤ 65536 ^ 4 := Nat.pow_le_pow_right (by omega) (by omega)
  exact Nat.lt_of_lt_of_le a b
theorem fromQ4 (a b c d : Nat) (hb : b < 65536) (hc : c < 65536) (hd : d < 65536) : fromQ [a, b, c, d] = ((a * 65536 + b) * 65536 + c) * 65536 + d := by
  show (((0 * 65536 ||| a) * 65536 ||| b) * 65536 ||| c) * 65536 ||| d = _
  rw [show (0 * 65536 ||| a) = a by simp, or_add a b hb, or_add _ c hc, or_add _ d hd]
end Gc
namespace Gc
open PySem PySem.Spec PyProof.Rows L2
/-! ## Readings under names of their own -/
def rLenM (K : PySem.W.Frag) : List V → Hp → VK → Prop := fun xs H Q => ∃ p ys, xs = [.ref p] ∧ (SqL K H p ys ∨ SqT K H p ys) ∧ Q (.int (ys.length : Int)) H
def rListM (K : PySem.W.Frag) : List V → Hp → VK → Prop := fun xs H Q => ∃ p ys, xs = [.ref p] ∧ (SqL K H p ys ∨ SqT K H p ys) ∧ ∀ l, H l = none → Q (.ref l) (upd H l (.lst ys))
def rMax2M : List V → Hp → VK → Prop := fun xs H Q => ∃ i j, xs = [.int i, .int j] ∧ Q (.int (if j > i then j else i)) H
def rIsNM : R2 := fun x y H Q => y = .non ∧ Q (.bl (decide (x = .non))) H
section
variable {X : Cx}
theorem call_lenM : CallR X (.builtin "len") (rLenM X.K) := call_len_seq
theorem call_listM : CallR X (.type "list") (rListM X.K) := call_list_of
theorem call_max2M (hc : X.calm = true) : CallR X (.builtin "max") rMax2M := call_max2 hc
theorem cr_maxM (hc : X.calm = true) : CallR X (.builtin "max") (rMax X.K) := cr_max hc
theorem cr_minM (hc : X.calm = true) : CallR X (.builtin "min") (rMin X.K) := cr_min hc
theorem cr_allM (hc : X.calm = true) : CallR X (.builtin "all") (rAll X.K) := cr_all hc
theorem op_isNM : OpR X (compareOp .Is) rIsNM := op_isN
theorem op_eqI : OpR X (compareOp .Eq) (rI0 fun i j => .bl (decide (i = j))) := opB0 fun _ _ _ _ _ _ _ h => PyProof.Rows.eq_int (by rw [Bool.beq_eq_decide_eq]; exact h)
theorem op_neI : OpR X (compareOp .NotEq) (rI0 fun i j => .bl (!decide (i = j))) := opB0 fun i j _ _ _ _ _ h => PyProof.Rows.ne_int (by
  have e : (i != j) = !decide (i = j) := by rw [bne, Bool.beq_eq_decide_eq]
  rw [e]
  exact h)
end
/-! ## A written dict with whole numbers for keys -/
/-- the dict at a, written by the top: its pairs -/
structure KDi (K : PySem.W.Frag) (P : Program) (w : World) (a : Addr) (kvs : List (Key × V)) : Prop where
  low : (a == sysModules) = false
  is : ∀ h : Heap, K.In h → ∃ vs, KV kvs vs ∧ h.DictOf (mixKind P w) a vs
def rIxKI (K : PySem.W.Frag) (P : Program) (w : World) : R2 := fun x y H Q => ∃ (a : Addr) (kvs : List (Key × V)) (k : Key) (v : V), x = .ref a ∧ y = kV k ∧ KDi K P w a kvs ∧ valV kvs k = some v ∧ Q v H
def rInKI (K : PySem.W.Frag) (P : Program) (w : World) : R2 := fun y x H Q => ∃ (a : Addr) (kvs : List (Key × V)) (k : Key), x = .ref a ∧ y = kV k ∧ KDi K P w a kvs ∧ Q (.bl (valV kvs k).isSome) H
def tGet2KI (K : PySem.W.Frag) (P : Program) (w : World) (td ty tx : TE) : TE := fun σ H Q => td σ H fun x H1 => ty σ H1 fun y H2 => tx σ H2 fun z H3 =>
  ∃ (a : Addr) (kvs : List (Key × V)) (k : Key), x = .ref a ∧ y = kV k ∧ KDi K P w a kvs ∧ Q ((valV kvs k).getD z) H3
section
variable {X : Cx}
theorem ix_KI : IxR X (rIxKI X.K X.prog X.w) := by
  intro value slice pins s σ H x y v u Q I rx ry h hs
  obtain ⟨a, kvs, k, v0, rfl, rfl, kd, l, q⟩ := h
  obtain rfl : v = Value.ref a := rx
  obtain ⟨vs, rel, dd⟩ := kd.is s.heap I.kIn
  obtain ⟨w', hw, rw'⟩ := RelO.some_of (v := v0) (o := valueAt vs k) (by rw [← l]; exact rel.val k)
  exact tail_any dd.typeIs PySem.F.slot_dict_getitem.lookup (wpAny_getItem_of (kV_is ry) dd.mapOf hw ⟨v0, H, I.tok _, rw', q⟩) hs
theorem pe_ixKI {a b : Expr} {ta tb : TE} {pos : Pos} (ha : PE X a ta) (hb : PE X b tb) (hs : PlainIx b) : PE X (.Subscript a b pos) (tOp (rIxKI X.K X.prog X.w) ta tb) := pe_ix ix_KI ha hb hs
theorem op_inKI : OpR X (compareOp .In) (rInKI X.K X.prog X.w) := by
  intro pins s σ H x y v u Q I rx ry h
  obtain ⟨a, kvs, k, rfl, rfl, kd, q⟩ := h
  obtain rfl : u = Value.ref a := ry
  obtain ⟨vs, rel, dd⟩ := kd.is s.heap I.kIn
  refine wpAny_in_of (kV_is rx) kd.low dd.mapOf ?_
  rw [← (rel.val k).isSome_eq]
  exact ⟨.bl (valV kvs k).isSome, H, I.tok _, rfl, q⟩
theorem pe_dget2KI {o e f : Expr} {apos cpos : Pos} {td ty tx : TE} (ho : PE X o td) (he : PE X e ty) (hf : PE X f tx) (m : M2 X o "get" apos e f cpos)
    (hk : ∀ σ H Q, td σ H Q → ∃ a, (∃ kvs, KDi X.K X.prog X.w a kvs) ∧ td σ H fun x H1 => x = .ref a ∧ Q x H1) :
    PE X (.Call (.Attribute o "get" apos) [e, f] [] cpos) (tGet2KI X.K X.prog X.w td ty tx) := by
  refine ⟨fun pins s σ H Q I h => ?_⟩
  obtain ⟨a, ⟨kvs, kd⟩, h⟩ := hk σ H _ h
  refine wpAny_Call_method m.base m.few m.line PySem.F.plainAttrs_dict PySem.F.slot_dict_get PySem.F.type_dict_get (thn (ho.run pins s σ H _ I h) fun u s1 ⟨x, H1, I1, rx, ex, q1⟩ => ?_)
  subst ex
  obtain rfl : u = Value.ref a := rx
  obtain ⟨vs0, rel0, dd0⟩ := kd.is s1.heap I1.kIn
  refine ⟨dd0.typeIs, fun b q => ?_, ?_⟩
  · cases q
    obtain ⟨ob, _, _, h1, h2, _⟩ := dd0
    exact ⟨ob, h1, h2.2.1⟩
  rw [m.trees]
  refine Calls.callWith_builtin rfl (Calls.evalArgs_plain (Calls.spliced_cons (thn (he.run pins s1 σ H1 _ I1 q1) fun iv s2 ⟨y, H2, I2, ry, q2⟩ =>
    Calls.spliced_cons (thn (hf.run pins s2 σ H2 _ I2 q2) fun fv s3 ⟨z, H3, I3, rz, a', kvs', k, ea, ey, kd', q3⟩ => Calls.spliced_nil ?_))))
  cases ea
  subst ey
  obtain ⟨vs, rel, dd⟩ := kd'.is s3.heap I3.kIn
  exact call_meetsIn PySem.F.slot_dict_get dd.typeIs PySem.F.entry_dict_get (PySem.F.args_dict_get_3 _ _ _) (meets_dict_get_default (mixKind X.prog X.w) a (kV_is ry) kd'.low fv) ⟨_, dd.mapOf, ⟨_, H3, I3.tok _, (rel.val k).getD rz, q3⟩⟩
end

/-! ## What evaluates without a change -/
section
variable {σ : L2.St} {H : Hp} {x y v : V} {ta tb te tc : TE} {b : Bool} {K : PySem.W.Frag} {a C dx p : Addr} {fs : List (Str × V)} {f : Str} {t u : TT} {i j : Int}
theorem val_I0 {g : Int → Int → V} (ha : Val ta σ H (.int i)) (hb : Val tb σ H (.int j)) : Val (tOp (rI0 g) ta tb) σ H (g i j) := val_op ha hb fun _ q => ⟨i, j, rfl, rfl, q⟩
theorem val_I {D : Int → Int → Prop} {g : Int → Int → V} (ha : Val ta σ H (.int i)) (hb : Val tb σ H (.int j)) (hd : D i j) : Val (tOp (rI D g) ta tb) σ H (g i j) := val_op ha hb fun _ q => ⟨i, j, rfl, rfl, hd, q⟩
theorem val_neg (ha : Val ta σ H (.int i)) : Val (tUn (rU fun i => .int (-i)) ta) σ H (.int (-i)) := fun Q q => ha _ ⟨i, rfl, q⟩
/-- a field's value -/
structure Fl (K : PySem.W.Frag) (H : Hp) (a : Addr) (f : Str) (v : V) : Prop where
  ex : ∃ C dx fs, H a = some (.ins C dx fs) ∧ Cls K C ∧ NoAttr K C f ∧ fs.lookup f = some v
theorem val_fl (ha : Val ta σ H (.ref a)) (h : Fl K H a f v) : Val (tFld K ta f) σ H v := by
  obtain ⟨C, dx, fs, h1, h2, h3, h4⟩ := h.ex
  exact val_fld ha h1 h2 h3 h4
theorem val_len {xs : List V} (ha : Val ta σ H (.ref p)) (h : SqL K H p xs) : Val (tCB (rLenM K) (tCons ta tNil)) σ H (.int (xs.length : Int)) := fun Q q => ha _ ⟨p, xs, rfl, .inl h, q⟩
theorem val_ixL {xs : List V} (ha : Val ta σ H (.ref p)) (hb : Val tb σ H (.int i)) (h : SqL K H p xs) (e : atI xs i = some v) : Val (tOp (rIxL K) ta tb) σ H v := val_op ha hb fun _ q => ⟨p, xs, i, v, rfl, rfl, h, e, q⟩
theorem val_ixT {xs : List V} (ha : Val ta σ H (.ref p)) (hb : Val tb σ H (.int i)) (h : SqT K H p xs) (e : atI xs i = some v) : Val (tOp (rIxT K) ta tb) σ H v := val_op ha hb fun _ q => ⟨p, xs, i, v, rfl, rfl, h, e, q⟩
theorem val_max2 (ha : Val ta σ H (.int i)) (hb : Val tb σ H (.int j)) : Val (tCB rMax2M (tCons ta (tCons tb tNil))) σ H (.int (if j > i then j else i)) := fun Q q => ha _ (hb _ ⟨i, j, rfl, q⟩)
theorem val_isN (ha : Val ta σ H x) : Val (tOp rIsNM ta (tC .non)) σ H (.bl (decide (x = .non))) := val_op ha val_c fun _ q => ⟨rfl, q⟩
theorem val_if (h : Ans t σ H b) (ha : b = true → Val ta σ H v) (hb : b = false → Val tb σ H v) : Val (tIf t ta tb) σ H v := fun Q q => h _ (by
  cases b with
  | true => exact ha rfl Q q
  | false => exact hb rfl Q q)
theorem ans_test (h : Val te σ H (.bl b)) : Ans (tTest te) σ H b := fun Q q => h _ ⟨b, rfl, q⟩
theorem ans_B (h : Val te σ H (.bl b)) : Ans (tB te) σ H b := fun Q q => h _ ⟨b, rfl, q⟩
theorem ans_or2 {c : Bool} (h1 : Ans t σ H b) (h2 : b = false → Ans u σ H c) : Ans (tOr t u) σ H (b || c) := fun Q q => h1 _ (by
  cases b with
  | true => exact q
  | false => exact h2 rfl Q q)
theorem ans_and3 {c : Bool} (h1 : Ans t σ H b) (h2 : b = true → Ans u σ H c) : Ans (tAnd t u) σ H (b && c) := fun Q q => h1 _ (by
  cases b with
  | true => exact h2 rfl Q q
  | false => exact q)
theorem ans_notM (h : Ans t σ H b) : Ans (tNot t) σ H (!b) := fun Q q => h _ q
theorem val_chain {g h : Int → Int → Bool} {k : Int} (ha : Val ta σ H (.int i)) (hb : Val tb σ H (.int j)) (hc : Val tc σ H (.int k)) :
    Val (tChain (rI0 fun i j => .bl (g i j)) (rI0 fun i j => .bl (h i j)) ta tb tc) σ H (.bl (g i j && h j k)) := fun Q q => ha _ (hb _ ⟨i, j, rfl, rfl, g i j, rfl, by
  cases e : g i j with
  | true =>
    rw [if_pos rfl]
    refine hc _ ⟨j, k, rfl, rfl, ?_⟩
    rw [e] at q
    exact q
  | false =>
    rw [if_neg Bool.false_ne_true]
    rw [e] at q
    exact q⟩)
/-! ## Going on -/
variable {D : Ends} {t1 t2 : TS} {g : TG} {Q : VK}
theorem x_val (h : Val te σ H v) (q : Q v H) : te σ H Q := h Q q
theorem x_ret (h : te σ H D.rt) : tRet te D σ H := h
theorem x_drop (h : te σ H fun _ H1 => D.nx σ H1) : tDrop te D σ H := h
theorem x_asg (h : te σ H fun x H1 => g x σ H1 D.nx) : tAsg te g D σ H := h
theorem x_set {i : Nat} (h : te σ H fun x H1 => D.nx (σ.set i (some x)) H1) : tAsg te (gName i) D σ H := h
theorem x_gn {i : Nat} {Q' : L2.St → Hp → Prop} (h : Q' (σ.set i (some v)) H) : gName i v σ H Q' := h
theorem x_setV {i : Nat} (h : Val te σ H v) (q : D.nx (σ.set i (some v)) H) : tAsg te (gName i) D σ H := h _ q
/-- an if whose test changes nothing -/
theorem x_if (h : Ans t σ H b) (h1 : b = true → t1 D σ H) (h2 : b = false → t2 D σ H) : tIfS t t1 t2 D σ H := h _ (by
  cases b with
  | true => exact h1 rfl
  | false => exact h2 rfl)
theorem x_ifP {p : Prop} [Decidable p] (h : Ans t σ H (decide p)) (h1 : p → t1 D σ H) (h2 : ¬ p → t2 D σ H) : tIfS t t1 t2 D σ H :=
  x_if h (fun e => h1 (of_decide_eq_true e)) (fun e => h2 (of_decide_eq_false e))
theorem x_ifE (h : Ans t σ H b) (h1 : b = true → ta σ H Q) (h2 : b = false → tb σ H Q) : tIf t ta tb σ H Q := h _ (by
  cases b with
  | true => exact h1 rfl
  | false => exact h2 rfl)
/-- a new list of written items -/
theorem x_lst {t : TA} {xs : List V} (h : ∀ Q' : List V → Hp → Prop, Q' xs H → t σ H Q') (hl : xs.length ≤ 1000000) (q : ∀ p, H p = none → Q (.ref p) (upd H p (.lst xs))) : tLst t σ H Q :=
  h _ ⟨Nat.le_trans hl (by decide), q⟩
theorem x_tup {t : TA} {xs : List V} (h : ∀ Q' : List V → Hp → Prop, Q' xs H → t σ H Q') (hl : xs.length ≤ 1000000) (q : ∀ p, H p = none → Q (.ref p) (upd H p (.tup xs))) : tTup t σ H Q :=
  h _ ⟨Nat.le_trans hl (by decide), q⟩
/-- arguments that change nothing -/
def ValA (t : TA) (σ : L2.St) (H : Hp) (vs : List V) : Prop := ∀ Q' : List V → Hp → Prop, Q' vs H → t σ H Q'
theorem vala_nil : ValA tNil σ H [] := fun _ q => q
theorem vala_cons {t : TA} {vs : List V} (h : Val te σ H v) (r : ValA t σ H vs) : ValA (tCons te t) σ H (v :: vs) := fun _ q => h _ (r _ q)
theorem x_lstV {t : TA} {xs : List V} (h : ValA t σ H xs) (q : ∀ p, H p = none → Q (.ref p) (upd H p (.lst xs))) (hl : xs.length ≤ 1000000 := by simp only [List.length_cons, List.length_nil] <;> omega) : tLst t σ H Q := x_lst h hl q
theorem x_tupV {t : TA} {xs : List V} (h : ValA t σ H xs) (q : ∀ p, H p = none → Q (.ref p) (upd H p (.tup xs))) (hl : xs.length ≤ 1000000 := by simp only [List.length_cons, List.length_nil] <;> omega) : tTup t σ H Q := x_tup h hl q
theorem x_call {sp : Sp} {dvs vs : List V} {E : XK} {t : TA} (h : ValA t σ H vs) (q : sp (vs ++ dvs) H Q E) : tCall sp dvs E t σ H Q := h _ q
theorem x_call0 {sp : Sp} {vs : List V} {E : XK} {t : TA} (h : ValA t σ H vs) (q : sp vs H Q E) : tCall sp [] E t σ H Q := h _ (by rw [List.append_nil]; exact q)
theorem x_meth {sp : Sp} {vs : List V} {E : XK} {t : TA} {m : Str} (ho : Val ta σ H (.ref a)) (ha : H a = some (.ins C dx fs)) (hm : fs.lookup m = none) (h : ValA t σ H vs) (q : sp (.ref a :: vs) H Q E) : tMeth C m sp [] E ta t σ H Q :=
  ho _ ⟨a, dx, fs, rfl, ha, hm, h _ (by rw [List.append_nil]; exact q)⟩
end
/-- all that stood stands -/
theorem same_upd {H : Hp} {p : Addr} {o : HO} (h : H p = none) : Same H (upd H p o) := fun b x e => by
  rw [upd_ne (ne_of_none e h)]
  exact e
theorem same_upd2 {H H' : Hp} {p : Addr} {o : HO} (e : Same H H') (h : H p = none) : Same H (upd H' p o) := fun b x r => by
  rw [upd_ne (ne_of_none r h)]
  exact e b x r
theorem Same.sqT {K : PySem.W.Frag} {H H' : Hp} {a : Addr} {xs : List V} (e : Same H H') (h : SqT K H a xs) : SqT K H' a xs := by
  rcases h with (h | ⟨o, h⟩) | h
  · exact .inl (.inl (e _ _ h))
  · exact .inl (.inr ⟨o, e _ _ h⟩)
  · exact .inr h
theorem Same.fl {K : PySem.W.Frag} {H H' : Hp} {a : Addr} {f : Str} {v : V} (e : Same H H') (h : Fl K H a f v) : Fl K H' a f v := by
  obtain ⟨C, dx, fs, h1, h2⟩ := h.ex
  exact ⟨C, dx, fs, e _ _ h1, h2⟩
theorem atI_0 {xs : List V} {v : V} (h : xs[0]? = some v) : atI xs 0 = some v := atI_nat (j := 0) h
theorem atI_1 {xs : List V} {v : V} (h : xs[1]? = some v) : atI xs 1 = some v := atI_nat (j := 1) h
theorem atI_2 {xs : List V} {v : V} (h : xs[2]? = some v) : atI xs 2 = some v := atI_nat (j := 2) h
theorem atI_n {xs : List V} {n : Nat} {v : V} (h : xs[n]? = some v) : atI xs (n : Int) = some v := atI_nat h
end Gc
namespace Gc
open PySem PySem.Spec PyProof.Rows L2
/-! ## Comprehensions whose items change nothing that stood -/
/-- an expression that may make objects, and changes none that stood -/
def ValS (te : TE) (σ : L2.St) (H : Hp) (v : V) : Prop := ∀ Q : VK, (∀ H', Same H H' → Q v H') → te σ H Q
theorem ValS.of {te : TE} {σ : L2.St} {H : Hp} {v : V} (h : Val te σ H v) : ValS te σ H v := fun Q q => h Q (q H (Same.refl H))
theorem small_lt {n : Nat} (h : n ≤ 1000000) : n < sizeLine := Nat.lt_of_le_of_lt h (by decide)
theorem small_le {n : Nat} (h : n ≤ 1000000) : n ≤ sizeLine := Nat.le_trans h (by decide)
section
variable {K : PySem.W.Frag} {σ : L2.St} {H H1 : Hp} {a : Addr} {xs : List V} {i : Nat} {tt : TT} {te tl : TE} {Q : VK}
theorem wipe1 (σ : L2.St) (i : Nat) (x : Option V) : wipe ((wipe σ [i]).set i x) [i] = wipe σ [i] := by
  show ((σ.set i none).set i x).set i none = σ.set i none
  rw [List.set_set, List.set_set]
theorem filter_take {α : Type} {l : List α} {t : α → Bool} {k : Nat} {x : α} (h : l[k]? = some x) : (l.take (k + 1)).filter t = (l.take k).filter t ++ (if t x = true then [x] else []) := by
  rw [List.take_add_one, h, List.filter_append]
  show _ ++ [x].filter t = _
  by_cases c : t x = true
  · rw [if_pos c, List.filter_cons_of_pos c, List.filter_nil]
  · rw [if_neg c, List.filter_cons_of_neg c, List.filter_nil]
theorem ans_yes : Ans tYes σ H true := fun Q q => q
/-- over a list that stands for the things cs: what is kept of them, and what is made of each -/
theorem lca_at {T : Type} {cs : List T} (u : T → Bool) (f : T → V) (hS : SqL K H1 a xs) (hc : xs.length = cs.length) (hl : xs.length ≤ 1000000)
    (ht : ∀ (k : Nat) (x : V) (c : T), xs[k]? = some x → cs[k]? = some c → ∀ H', Same H1 H' → Ans tt ((wipe σ [i]).set i (some x)) H' (u c))
    (he : ∀ (k : Nat) (x : V) (c : T), xs[k]? = some x → cs[k]? = some c → u c = true → ∀ H', Same H1 H' → ValS te ((wipe σ [i]).set i (some x)) H' (f c))
    (q : ∀ D H', H1 D = none → Same H1 H' → H' D = some (.lst ((cs.filter u).map f)) → Q (.ref D) H') :
    ∀ D, H1 D = none → ∃ W : Nat → Nat → Hp → Prop, (∃ m, W 0 m (upd H1 D (.lst []))) ∧ ∀ k m H, W k m H →
      ((Itl K a).stop k H ∧ Q (.ref D) H) ∨ ((Itl K a).go k H ∧ ∃ Nx : Hp → Prop, (∀ H', Nx H' → ∃ m', m' < m ∧ W (k + 1) m' H') ∧ ∀ x H', (Itl K a).yld k H x H' → gName i x (wipe σ [i]) H' fun σ2 H2 => wipe σ2 [i] = wipe σ [i] ∧ tt σ2 H2 fun b H3 =>
        if b = true then te σ2 H3 fun y H4 => ∃ acc, H4 D = some (.lst acc) ∧ acc.length < sizeLine ∧ Nx (upd H4 D (.lst (acc ++ [y]))) else Nx H3) := by
  intro D nD
  refine lc_list (K := K) (a := a) (xs := xs) (fun k H' => Same H1 H' ∧ H' D = some (.lst (((cs.take k).filter u).map f))) ⟨same_upd nD, ?_⟩ (fun k H' _ p => p.1.seq hS) ?_ ?_
  · rw [upd_same]
    rfl
  · rintro k x H' hx ⟨sm, hD⟩
    have hk : k < cs.length := by rw [← hc]; exact (List.getElem?_eq_some_iff.mp hx).1
    have hcx : cs[k]? = some cs[k] := List.getElem?_eq_getElem hk
    refine ⟨wipe1 σ i _, ht k x _ hx hcx H' sm _ ?_⟩
    have ft := filter_take (t := u) hcx
    cases c : u cs[k] with
    | true =>
      rw [if_pos rfl]
      refine he k x _ hx hcx c H' sm _ fun H4 s4 => ⟨_, s4 _ _ hD, ?_, same_upd2 (sm.trans s4) nD, ?_⟩
      · rw [List.length_map]
        exact small_lt (Nat.le_trans (List.length_filter_le _ _) (Nat.le_trans (List.length_take_le' _ _) (by rw [← hc]; exact hl)))
      · rw [upd_same, ft, if_pos c, List.map_append]
        rfl
    | false =>
      rw [if_neg Bool.false_ne_true]
      refine ⟨sm, ?_⟩
      rw [ft, if_neg (by rw [c]; exact Bool.false_ne_true), List.append_nil]
      exact hD
  · rintro H' ⟨sm, hD⟩
    rw [hc, List.take_length] at hD
    exact q D H' nD sm hD
/-- .. where the list stands -/
theorem lca {T : Type} {cs : List T} (u : T → Bool) (f : T → V) (hv : Val tl σ H (.ref a)) (hS : SqL K H a xs) (hc : xs.length = cs.length) (hl : xs.length ≤ 1000000)
    (ht : ∀ (k : Nat) (x : V) (c : T), xs[k]? = some x → cs[k]? = some c → ∀ H', Same H H' → Ans tt ((wipe σ [i]).set i (some x)) H' (u c))
    (he : ∀ (k : Nat) (x : V) (c : T), xs[k]? = some x → cs[k]? = some c → u c = true → ∀ H', Same H H' → ValS te ((wipe σ [i]).set i (some x)) H' (f c))
    (q : ∀ D H', H D = none → Same H H' → H' D = some (.lst ((cs.filter u).map f)) → Q (.ref D) H') : tLc (iList K tl) (gName i) tt te [i] σ H Q :=
  hv _ ⟨a, rfl, ⟨xs, hS⟩, lca_at u f hS hc hl ht he q⟩
/-- .. without a test -/
theorem lca1 {T : Type} {cs : List T} (f : T → V) (hv : Val tl σ H (.ref a)) (hS : SqL K H a xs) (hc : xs.length = cs.length) (hl : xs.length ≤ 1000000)
    (he : ∀ (k : Nat) (x : V) (c : T), xs[k]? = some x → cs[k]? = some c → ∀ H', Same H H' → ValS te ((wipe σ [i]).set i (some x)) H' (f c))
    (q : ∀ D H', H D = none → Same H H' → H' D = some (.lst (cs.map f)) → Q (.ref D) H') : tLc (iList K tl) (gName i) tYes te [i] σ H Q :=
  lca (fun _ => true) f hv hS hc hl (fun _ _ _ _ _ _ _ => ans_yes) (fun k x c h1 h2 _ H' s => he k x c h1 h2 H' s) fun D H' n s h => q D H' n s (by rw [h, List.filter_eq_self.mpr (fun _ _ => rfl)])
/-- over whole numbers lo, lo + c, .. -/
theorem lcc_at {lo c : Int} {n : Nat} (f : Nat → V) (hl : n ≤ 1000000)
    (he : ∀ k, k < n → ∀ H', Same H1 H' → ValS te ((wipe σ [i]).set i (some (.int (lo + (k : Nat) * c)))) H' (f k))
    (q : ∀ D H', H1 D = none → Same H1 H' → H' D = some (.lst ((List.range n).map f)) → Q (.ref D) H') :
    ∀ D, H1 D = none → ∃ W : Nat → Nat → Hp → Prop, (∃ m, W 0 m (upd H1 D (.lst []))) ∧ ∀ k m H, W k m H →
      ((Itc lo c n).stop k H ∧ Q (.ref D) H) ∨ ((Itc lo c n).go k H ∧ ∃ Nx : Hp → Prop, (∀ H', Nx H' → ∃ m', m' < m ∧ W (k + 1) m' H') ∧ ∀ x H', (Itc lo c n).yld k H x H' → gName i x (wipe σ [i]) H' fun σ2 H2 => wipe σ2 [i] = wipe σ [i] ∧ tYes σ2 H2 fun b H3 =>
        if b = true then te σ2 H3 fun y H4 => ∃ acc, H4 D = some (.lst acc) ∧ acc.length < sizeLine ∧ Nx (upd H4 D (.lst (acc ++ [y]))) else Nx H3) := by
  intro D nD
  refine ⟨fun k m H' => m = n - k ∧ k ≤ n ∧ Same H1 H' ∧ H' D = some (.lst ((List.range k).map f)), ⟨n, rfl, Nat.zero_le _, same_upd nD, upd_same⟩, ?_⟩
  rintro k m H' ⟨rfl, hk, sm, hD⟩
  by_cases lt : k < n
  · refine .inr ⟨lt, fun H4 => Same H1 H4 ∧ H4 D = some (.lst ((List.range (k + 1)).map f)), fun H4 p4 => ⟨n - (k + 1), by omega, rfl, lt, p4⟩, fun x H2 y => ?_⟩
    obtain ⟨e1, e2⟩ := y
    subst e1 e2
    refine ⟨wipe1 σ i _, ?_⟩
    refine ans_yes _ ?_
    refine iteT ?_
    refine he k lt _ sm _ fun H4 s4 => ⟨_, s4 _ _ hD, ?_, same_upd2 (sm.trans s4) nD, ?_⟩
    · rw [List.length_map, List.length_range]
      exact small_lt (by omega)
    · rw [upd_same, List.range_succ, List.map_append]
      rfl
  · have e : k = n := by omega
    subst e
    exact .inl ⟨Nat.le_refl _, q D H' nD sm hD⟩
end
section
variable {K : PySem.W.Frag} {σ : L2.St} {H : Hp} {l b : Addr} {xs zs : List V} {to ta tb : TE} {Q : VK} {E : XK} {sp : Sp} {r : R2}
theorem x_ext (ho : Val to σ H (.ref l)) (hl : H l = some (.lst xs)) (h : ta σ H fun y H2 => rExtend (.ref l) [y] H2 Q) : tBM K "list" rExtend to (tCons ta tNil) σ H Q := ho _ ⟨.inl ⟨rfl, _, SqL.of hl⟩, h⟩
theorem x_app (ho : Val to σ H (.ref l)) (hl : H l = some (.lst xs)) (h : ta σ H fun y H2 => rAppend (.ref l) [y] H2 Q) : tBM K "list" rAppend to (tCons ta tNil) σ H Q := ho _ ⟨.inl ⟨rfl, _, SqL.of hl⟩, h⟩
theorem x_rext (h1 : H l = some (.lst xs)) (h2 : H b = some (.lst zs)) (hz : xs.length + zs.length ≤ 16777216) (q : Q .non (upd H l (.lst (xs ++ zs)))) : rExtend (.ref l) [.ref b] H Q := ⟨l, b, xs, zs, rfl, rfl, h1, h2, hz, q⟩
theorem x_rapp {y : V} (h1 : H l = some (.lst xs)) (hz : xs.length ≤ 1000000) (q : Q .non (upd H l (.lst (xs ++ [y])))) : rAppend (.ref l) [y] H Q := ⟨l, xs, y, rfl, rfl, h1, small_lt hz, q⟩
theorem x_call1 (h : ta σ H fun x H1 => sp [x] H1 Q E) : tCall sp [] E (tCons ta tNil) σ H Q := h
theorem x_cb1 {r : List V → Hp → VK → Prop} (h : ta σ H fun x H1 => r [x] H1 Q) : tCB r (tCons ta tNil) σ H Q := h
theorem val_or {p q : Bool} (ha : Val ta σ H (.bl p)) (hb : p = false → Val tb σ H (.bl q)) : Val (tOrV ta tb) σ H (.bl (p || q)) := fun Q k => ha _ ⟨p, rfl, by
  cases p with
  | true => exact iteT k
  | false => exact iteF (hb rfl Q k)⟩
theorem x_sfld {D : Ends} {C dx : Addr} {fs : List (Str × V)} {f : Str} {v : V} (hv : Val tb σ H v) (ho : Val ta σ H (.ref l)) (ha : H l = some (.ins C dx fs)) (c : Cls K C) (n : NoAttr K C f) (hl : fs.length < 1000) (q : D.nx σ (upd H l (.ins C dx (putF f v fs)))) : sFld K ta tb f D σ H :=
  hv _ (ho _ ⟨l, C, dx, fs, rfl, ha, c, n, hl, q⟩)
theorem x_sub {D : Ends} {tv : TE} {v : V} {k : Nat} (hv : Val tv σ H v) (ho : Val ta σ H (.ref l)) (hi : Val tb σ H (.int (k : Int))) (ha : H l = some (.lst xs)) (hk : k < xs.length) (q : D.nx σ (upd H l (.lst (xs.set k v)))) : tAsg tv (gSub ta tb rSetL) D σ H :=
  hv _ (ho _ (hi _ ⟨l, xs, _, k, rfl, rfl, ha, by unfold ixN; rw [if_pos (by omega), if_pos (by omega), Int.toNat_natCast], q⟩))
theorem x_op (h : ta σ H fun x H1 => tb σ H1 fun y H2 => r x y H2 Q) : tOp r ta tb σ H Q := h
theorem x_cat (h1 : H l = some (.lst xs)) (h2 : H b = some (.lst zs)) (hl : xs.length + zs.length ≤ 1000000) (q : ∀ p, H p = none → Q (.ref p) (upd H p (.lst (xs ++ zs)))) : rCat (.ref l) (.ref b) H Q :=
  ⟨l, b, xs, zs, rfl, rfl, h1, h2, small_le hl, q⟩
end
section
variable {K : PySem.W.Frag} {σ : L2.St} {H : Hp} {a : Addr} {xs : List V} {te ta tb : TE} {Q : VK}
theorem cut_to (xs : List V) (n : Nat) : cutV xs none (some (n : Int)) = xs.take n := by
  unfold cutV
  rw [HT.sIx_none, HT.sIx_nat, List.drop_zero, Nat.sub_zero]
  by_cases h : n ≤ xs.length
  · rw [Nat.min_eq_left h]
  · rw [Nat.min_eq_right (by omega), List.take_length, List.take_of_length_le (by omega)]
theorem cut_from (xs : List V) (n : Nat) : cutV xs (some (n : Int)) none = xs.drop n := by
  unfold cutV
  rw [HT.sIx_none, HT.sIx_nat]
  by_cases h : n ≤ xs.length
  · rw [Nat.min_eq_left h, List.take_of_length_le (by rw [List.length_drop]; omega)]
  · rw [Nat.min_eq_right (by omega), List.drop_eq_nil_of_le (by omega), List.drop_eq_nil_of_le (by omega), List.take_nil]
theorem cut_mid (xs : List V) (n m : Nat) : cutV xs (some (n : Int)) (some (m : Int)) = (xs.drop n).take (m - n) := by
  unfold cutV
  rw [HT.sIx_nat, HT.sIx_nat]
  by_cases h : n ≤ xs.length
  · rw [Nat.min_eq_left h]
    by_cases h2 : m ≤ xs.length
    · rw [Nat.min_eq_left h2]
    · rw [Nat.min_eq_right (show xs.length ≤ m by omega), List.take_of_length_le (Nat.le_of_eq List.length_drop), List.take_of_length_le (by rw [List.length_drop]; omega)]
  · rw [Nat.min_eq_right (show xs.length ≤ n by omega), List.drop_eq_nil_of_le (Nat.le_refl _), List.drop_eq_nil_of_le (show xs.length ≤ n by omega), List.take_nil, List.take_nil]
theorem cut_init (xs : List V) : cutV xs none (some (-1)) = xs.dropLast := by
  have e : HT.sIx xs.length xs.length (some (-1)) = xs.length - 1 := by
    unfold HT.sIx
    dsimp only
    rw [if_pos (by decide)]
    omega
  unfold cutV
  rw [e, HT.sIx_none, List.drop_zero, List.dropLast_eq_take, Nat.sub_zero]
theorem x_slTo {n : Nat} (hv : Val te σ H (.ref a)) (hb : Val tb σ H (.int (n : Int))) (hS : SqL K H a xs) (q : ∀ p, H p = none → Q (.ref p) (upd H p (.lst (xs.take n)))) : tSl (rSlL K) te tNoPart (tPart tb) σ H Q :=
  hv _ (hb _ ⟨_, rfl, a, xs, rfl, hS, by rw [cut_to]; exact q⟩)
theorem x_slFrom {n : Nat} (hv : Val te σ H (.ref a)) (ha : Val ta σ H (.int (n : Int))) (hS : SqL K H a xs) (q : ∀ p, H p = none → Q (.ref p) (upd H p (.lst (xs.drop n)))) : tSl (rSlL K) te (tPart ta) tNoPart σ H Q :=
  hv _ (ha _ ⟨_, rfl, a, xs, rfl, hS, by rw [cut_from]; exact q⟩)
theorem x_slMid {n m : Nat} (hv : Val te σ H (.ref a)) (ha : Val ta σ H (.int (n : Int))) (hb : Val tb σ H (.int (m : Int))) (hS : SqL K H a xs) (q : ∀ p, H p = none → Q (.ref p) (upd H p (.lst ((xs.drop n).take (m - n))))) : tSl (rSlL K) te (tPart ta) (tPart tb) σ H Q :=
  hv _ (ha _ ⟨_, rfl, hb _ ⟨_, rfl, a, xs, rfl, hS, by rw [cut_mid]; exact q⟩⟩)
theorem x_slInit (hv : Val te σ H (.ref a)) (hb : Val tb σ H (.int (-1))) (hS : SqL K H a xs) (q : ∀ p, H p = none → Q (.ref p) (upd H p (.lst xs.dropLast))) : tSl (rSlL K) te tNoPart (tPart tb) σ H Q :=
  hv _ (hb _ ⟨_, rfl, a, xs, rfl, hS, by rw [cut_init]; exact q⟩)
/-- a for over a list -/
theorem x_forL {tl : TE} {g : TG} {t : TS} {D : Ends} (hv : Val tl σ H (.ref a)) (hS : SqL K H a xs) (Pv : Nat → L2.St → Hp → Prop) (h0 : Pv 0 σ H) (hl : ∀ i σ H, i ≤ xs.length → Pv i σ H → SqL K H a xs)
    (hs : ∀ (i : Nat) (x : V) (σ : L2.St) (H : Hp), xs[i]? = some x → Pv i σ H → g x σ H fun σ2 H2 => t { D with nx := Pv (i + 1), ct := Pv (i + 1), bk := D.nx } σ2 H2) (hd : ∀ σ H, Pv xs.length σ H → D.nx σ H) : tFor (iList K tl) g t D σ H :=
  hv _ ⟨a, rfl, ⟨xs, hS⟩, for_list Pv h0 hl hs hd⟩
/-- a for over range(n) -/
theorem x_forR {t : TS} {g : TG} {ts : TA} {D : Ends} {n : Nat} (hv : ValA ts σ H [.int (n : Int)]) (hn : n ≤ 1000000) (Pv : Nat → L2.St → Hp → Prop) (h0 : Pv 0 σ H)
    (hs : ∀ (i : Nat) (σ : L2.St) (H : Hp), i < n → Pv i σ H → g (.int (i : Int)) σ H fun σ2 H2 => t { D with nx := Pv (i + 1), ct := Pv (i + 1), bk := D.nx } σ2 H2) (hd : ∀ σ H, Pv n σ H → D.nx σ H) : tFor (iRng1 ts) g t D σ H :=
  hv _ ⟨(n : Int), rfl, by omega, by omega, by
    rw [Int.toNat_natCast]
    refine for_range (lo := 0) (n := n) Pv h0 (fun i σ H hi p => ?_) hd
    rw [Int.zero_add]
    exact hs i σ H hi p⟩
/-- a while by a measure, its test changing nothing -/
theorem x_while {c : TT} {t : TS} {D : Ends} (W : Nat → L2.St → Hp → Prop) (h0 : ∃ m, W m σ H)
    (hs : ∀ m σ H, W m σ H → ∃ b, Ans c σ H b ∧ (b = true → t { D with nx := fun σ' H' => ∃ m', m' < m ∧ W m' σ' H', ct := fun σ' H' => ∃ m', m' < m ∧ W m' σ' H', bk := D.nx } σ H) ∧ (b = false → D.nx σ H)) : tWhile c t D σ H := by
  refine ⟨W, h0, fun m σ' H' p => ?_⟩
  obtain ⟨b, h1, h2, h3⟩ := hs m σ' H' p
  refine h1 _ ?_
  cases b with
  | true => exact iteT ⟨_, fun _ _ z => z, h2 rfl⟩
  | false => exact iteF (h3 rfl)
end
/-- for x in a list, the list of naturals told -/
theorem mem_map_vN {l : List Nat} {x : V} (h : x ∈ l.map (fun n : Nat => V.int (n : Int))) : ∃ n ∈ l, x = V.int (n : Int) := by
  obtain ⟨n, h1, h2⟩ := List.mem_map.mp h
  exact ⟨n, h1, h2.symm⟩
end Gc
namespace Gc
open PySem PySem.Spec PyProof.Rows L2
open C8 (Cal Mak Met CalAt pe_c pe_mk pe_mt pe_mt0 pe_gc)
/-! ## The text, and what the top has written -/
def topS (i : Nat) : Stmt := PySem.Challenge.pw_approvedchanges_s01_answers.main.body.getD i (.Pass ⟨0, 0, 0, 0⟩)
/-- a whole number from 0 on -/
abbrev vN (n : Nat) : V := .int (n : Int)
/-- addresses of the top: the classes, the dicts, the tuple of counts -/
structure Ad where
  CP : Addr
  CQ : Addr
  dL : Addr
  dC : Addr
  nb : Addr
def kLists : List (Key × V) := [(.inl 5, .int 1), (.inl 25, .int 3)]
def vNumbers : List V := [1, 3, 2, 3, 1, 2, 2, 2, 2, 1, 5, 1, 2, 3, 1, 2, 1, 1, 1, 1, 1, 1, 1, 1, 2, 2, 0].map V.int
/-- a constant of the module -/
abbrev Gk (mg : Str → Option Value) (x : Str) (v : V) : Prop := ∃ u, mg x = some u ∧ RelV v u
structure Txt (P : Program) (w : World) (K : PySem.W.Frag) (mg : Str → Option Value) (A : Ad) : Prop where
  len : mg "len" = none
  max : mg "max" = none
  min : mg "min" = none
  all : mg "all" = none
  list : mg "list" = none
  range : mg "range" = none
  enumerate : mg "enumerate" = none
  zip : mg "zip" = none
  reversed : mg "reversed" = none
  g_MASK : Gk mg "MASK" (.int 18446744073709551615)
  g_BEGIN : Gk mg "BEGIN" (.int 14695981039346656037)
  g_PRIME : Gk mg "PRIME" (.int 1099511628211)
  g_FIRST : Gk mg "FIRST" (.int 18397679294719823053)
  g_SECOND : Gk mg "SECOND" (.int 14181476777654086739)
  g_OPEN : Gk mg "OPEN" (.int 0)
  g_APPLIED : Gk mg "APPLIED" (.int 1)
  g_REJECTED : Gk mg "REJECTED" (.int 2)
  g_FAILED : Gk mg "FAILED" (.int 3)
  g_ANY : Gk mg "ANY" (.int 1001)
  g_MOST_KEY : Gk mg "MOST_KEY" (.int 15)
  g_MOST_VALUE : Gk mg "MOST_VALUE" (.int 1000)
  g_MOST_CHANGES : Gk mg "MOST_CHANGES" (.int 4)
  g_SETTINGS : Gk mg "SETTINGS" (.int 16)
  g_CLASSES : Gk mg "CLASSES" (.int 4)
  g_GUARD : Gk mg "GUARD" (.int 255)
  g_WEEK : Gk mg "WEEK" (.int 168)
  g_MOST_TIME_asking : Gk mg "MOST_TIME_asking" (.int 100000)
  g_MOST_COUNT : Gk mg "MOST_COUNT" (.int 1000)
  g_MOST_QUARTER : Gk mg "MOST_QUARTER" (.int 65535)
  g_MOST_TIME_changing : Gk mg "MOST_TIME_changing" (.int 100000)
  g_MOST_HOURS : Gk mg "MOST_HOURS" (.int 200)
  g_MOST_ROWS : Gk mg "MOST_ROWS" (.int 8)
  g_MOST_PROPOSALS : Gk mg "MOST_PROPOSALS" (.int 20)
  g_METRICS : Gk mg "METRICS" (.int 8)
  g_MOST_PEOPLE : Gk mg "MOST_PEOPLE" (.int 8)
  g_NUMBERS : Gk mg "NUMBERS" (.ref A.nb)
  g_LISTS : Gk mg "LISTS" (.ref A.dL)
  g_CHANGES : Gk mg "CHANGES" (.ref A.dC)
  sqN : ∀ H, SqT K H A.nb vNumbers
  kdL : KDi K P w A.dL kLists
  clP : Cls K A.CP
  clQ : Cls K A.CQ
  nP_people : NoAttr K A.CP "people"
  nP_clock : NoAttr K A.CP "clock"
  nP_settings : NoAttr K A.CP "settings"
  nP_classes : NoAttr K A.CP "classes"
  nP_needs : NoAttr K A.CP "needs"
  nP_own_counts : NoAttr K A.CP "own_counts"
  nP_freezes : NoAttr K A.CP "freezes"
  nP_proposals : NoAttr K A.CP "proposals"
  nP_guards : NoAttr K A.CP "guards"
  nP_log : NoAttr K A.CP "log"
  nP_past : NoAttr K A.CP "past"
  nQ_author : NoAttr K A.CQ "author"
  nQ_time : NoAttr K A.CQ "time"
  nQ_changes : NoAttr K A.CQ "changes"
  nQ_approvals : NoAttr K A.CQ "approvals"
  nQ_status : NoAttr K A.CQ "status"
  nQ_end : NoAttr K A.CQ "end"
  nQ_before : NoAttr K A.CQ "before"
end Gc
namespace Gc
open PySem PySem.Spec PyProof.Rows L2
open C8 (Cal Mak Met CalAt pe_c pe_mk pe_mt pe_mt0 pe_gc)
/-! the short tactics (each is a row of one's own, tried by its key) -/
local macro_rules | `(tactic| walk_at "fl") => `(tactic| assumption)
local macro_rules | `(tactic| walk_at "side") => `(tactic| first | assumption | exact Or.inr ⟨by decide, by decide⟩ | exact Or.inl ⟨by decide, by decide⟩ | decide | (refine ⟨by decide, by decide⟩) | omega)
local macro_rules | `(tactic| walk_at "val") => `(tactic| first
  | with_reducible exact val_c
  | ((with_reducible refine' val_var ?vv); (case vv => rfl))
  | ((with_reducible refine' val_fl ?vfa ?vfb); (case vfa => walk_at "val"); (case vfb => walk_at "fl"))
  | ((with_reducible refine' val_len ?vla ?vlb); (case vla => walk_at "val"); (case vlb => walk_at "sq"))
  | ((with_reducible refine' val_I0 ?v0a ?v0b); (case v0a => walk_at "val"); (case v0b => walk_at "val"))
  | ((with_reducible refine' val_I ?via ?vib ?vic); (case via => walk_at "val"); (case vib => walk_at "val"); (case vic => walk_at "side"))
  | ((with_reducible refine' val_neg ?vn); (case vn => walk_at "val"))
  | ((with_reducible refine' val_isN ?vs); (case vs => walk_at "val"))
  | ((with_reducible refine' val_ixL ?xa ?xb ?xc ?xd); (case xa => walk_at "val"); (case xb => walk_at "val"); (case xc => walk_at "sq"); (case xd => walk_at "at"))
  | ((with_reducible refine' val_ixT ?ya ?yb ?yc ?yd); (case ya => walk_at "val"); (case yb => walk_at "val"); (case yc => walk_at "sqt"); (case yd => walk_at "at"))
  | ((with_reducible refine' val_chain ?ca ?cb ?cc); (case ca => walk_at "val"); (case cb => walk_at "val"); (case cc => walk_at "val"))
  | ((with_reducible refine' val_max2 ?ma ?mb); (case ma => walk_at "val"); (case mb => walk_at "val")))
local macro_rules | `(tactic| walk_at "sq") => `(tactic| first | assumption | exact SqL.of (by assumption))
local macro_rules | `(tactic| walk_at "sqt") => `(tactic| first | assumption | exact SqT.of (by assumption))
local macro_rules | `(tactic| walk_at "at") => `(tactic| first | assumption | rfl)
local macro_rules | `(tactic| walk_at "ans") => `(tactic| first
  | ((with_reducible refine' ans_test ?at_); (case at_ => walk_at "val"))
  | ((with_reducible refine' ans_B ?ab_); (case ab_ => walk_at "val"))
  | ((with_reducible refine' ans_or2 ?ao ?ap); (case ao => walk_at "ans"); (case ap => (intro _; walk_at "ans")))
  | ((with_reducible refine' ans_and3 ?aq ?ar); (case aq => walk_at "ans"); (case ar => (intro _; walk_at "ans")))
  | ((with_reducible refine' ans_notM ?an); (case an => walk_at "ans")))
local macro_rules | `(tactic| walk_at "vala") => `(tactic| first
  | with_reducible exact vala_nil
  | ((with_reducible refine' vala_cons ?wa ?wb); (case wa => walk_at "val"); (case wb => walk_at "vala")))
local macro_rules | `(tactic| walk_at "n") => `(tactic| (repeat (first | (with_reducible refine x_gn ?_) | (with_reducible refine st_seq ?_) | (with_reducible refine st_next ?_) | dsimp only)))
abbrev s_hash_of : Stmt := topS 6
theorem sc_hash_of : FnScope ["row", "found", "one"] ["row"] (defScope s_hash_of) := ⟨rfl, rfl, rfl, by decide +kernel, rfl, by decide +kernel, by decide +kernel⟩
abbrev s_bytes_of : Stmt := topS 7
theorem sc_bytes_of : FnScope ["number", "many", "place"] ["number", "many"] (defScope s_bytes_of) := ⟨rfl, rfl, rfl, by decide +kernel, rfl, by decide +kernel, by decide +kernel⟩
abbrev s_leaf_of : Stmt := topS 8
theorem sc_leaf_of : FnScope ["entry", "row", "number"] ["entry"] (defScope s_leaf_of) := ⟨rfl, rfl, rfl, by decide +kernel, rfl, by decide +kernel, by decide +kernel⟩
abbrev s_node_of : Stmt := topS 9
theorem sc_node_of : FnScope ["left", "right"] ["left", "right"] (defScope s_node_of) := ⟨rfl, rfl, rfl, by decide +kernel, rfl, by decide +kernel, by decide +kernel⟩
abbrev s_quarters_of : Stmt := topS 10
theorem sc_quarters_of : FnScope ["number"] ["number"] (defScope s_quarters_of) := ⟨rfl, rfl, rfl, by decide +kernel, rfl, by decide +kernel, by decide +kernel⟩
abbrev s_from_quarters : Stmt := topS 11
theorem sc_from_quarters : FnScope ["row", "found", "one"] ["row"] (defScope s_from_quarters) := ⟨rfl, rfl, rfl, by decide +kernel, rfl, by decide +kernel, by decide +kernel⟩
/-- a def of the module, as the end finds it -/
structure At (K : PySem.W.Frag) (mg : Str → Option Value) (x : Str) (st : Stmt) (ps : List Str) : Prop where
  ex : ∃ f fd, Fun K x x st f fd ∧ mg x = some (.ref f) ∧ Binds K fd ps []
theorem At.cal {P : Program} {w : World} {K : PySem.W.Frag} {mg : Str → Option Value} {base : Heap} {x : Str} {st : Stmt} {N ps : List Str} {k : Nat} {sp : Sp} (F : At K mg x st ps) (S : FnScope N ps (defScope st)) (len : ∀ vs H Q E, sp vs H Q E → vs.length = ps.length)
    (hbody : ∀ (f : Addr) (cdv : Value) (A : Around) (outer : List Env) (s : Shared) (H : Hp) (vs : List V) (Q : VK) (E : XK), Room k (A.deeper (envOfC x (defScope st) s.heap.objs.size f cdv)) → sp vs H Q E →
      ∃ t, PSs (cxOf CX0 P w K mg base N x (defScope st) f cdv A outer s H E).nox (defBody st) t ∧ t { nx := fun _ H' => Q .non H', rt := Q } (start N vs) H) : Cal P w K mg base (k + 1) x sp [] := by
  obtain ⟨f, fd, F, g, b⟩ := F.ex
  exact ⟨f, fd, ps, [], F.ok S len (hbody f), g, F.kp, b, .nil⟩
/-- a method of the class at C -/
structure AtM (K : PySem.W.Frag) (C : Addr) (m qual : Str) (st : Stmt) (ps : List Str) : Prop where
  ex : ∃ f fd, Fun K m qual st f fd ∧ Meth K C m f ∧ Binds K fd ps []
theorem AtM.met {P : Program} {w : World} {K : PySem.W.Frag} {mg : Str → Option Value} {base : Heap} {C : Addr} {m qual : Str} {st : Stmt} {N ps : List Str} {k : Nat} {sp : Sp} (F : AtM K C m qual st ps) (c : Cls K C) (S : FnScope N ps (defScope st)) (len : ∀ vs H Q E, sp vs H Q E → vs.length = ps.length)
    (hbody : ∀ (f : Addr) (cdv : Value) (A : Around) (outer : List Env) (s : Shared) (H : Hp) (vs : List V) (Q : VK) (E : XK), Room k (A.deeper (envOfC qual (defScope st) s.heap.objs.size f cdv)) → sp vs H Q E →
      ∃ t, PSs (cxOf CX0 P w K mg base N qual (defScope st) f cdv A outer s H E).nox (defBody st) t ∧ t { nx := fun _ H' => Q .non H', rt := Q } (start N vs) H) : Met P w K mg base (k + 1) C m sp [] := by
  obtain ⟨f, fd, F, me, b⟩ := F.ex
  exact ⟨f, fd, ps, [], c, me, F.ok S len (hbody f), b, .nil⟩
/-- a class's __init__ -/
structure AtI (K : PySem.W.Frag) (mg : Str → Option Value) (x : Str) (C : Addr) (qual : Str) (st : Stmt) (ps : List Str) : Prop where
  ex : ∃ f fd, Fun K "__init__" qual st f fd ∧ Mk K C f ∧ mg x = some (.ref C) ∧ Binds K fd ps []
theorem AtI.mak {P : Program} {w : World} {K : PySem.W.Frag} {mg : Str → Option Value} {base : Heap} {x : Str} {C : Addr} {qual : Str} {st : Stmt} {N ps : List Str} {k : Nat} {sp : Sp} (F : AtI K mg x C qual st ps) (S : FnScope N ps (defScope st)) (len : ∀ vs H Q E, sp vs H Q E → vs.length = ps.length)
    (hbody : ∀ (f : Addr) (cdv : Value) (A : Around) (outer : List Env) (s : Shared) (H : Hp) (vs : List V) (Q : VK) (E : XK), Room k (A.deeper (envOfC qual (defScope st) s.heap.objs.size f cdv)) → sp vs H Q E →
      ∃ t, PSs (cxOf CX0 P w K mg base N qual (defScope st) f cdv A outer s H E).nox (defBody st) t ∧ t { nx := fun _ H' => Q .non H', rt := Q } (start N vs) H) : Mak P w K mg base (k + 1) x C sp [] := by
  obtain ⟨f, fd, F, me, g, b⟩ := F.ex
  exact ⟨f, fd, ps, [], me, F.ok S len (hbody f), g, b, .nil⟩
theorem map_at {α β : Type} {l : List α} {f : α → β} {i : Nat} {y : β} (h : (l.map f)[i]? = some y) : ∃ x, l[i]? = some x ∧ y = f x := by
  rw [List.getElem?_map] at h
  cases e : l[i]? with
  | none =>
    rw [e] at h
    cases h
  | some x =>
    rw [e] at h
    exact ⟨x, rfl, (Option.some.inj h).symm⟩
theorem take_more {α : Type} {l : List α} {i : Nat} {x : α} (h : l[i]? = some x) : l.take (i + 1) = l.take i ++ [x] := by
  rw [List.take_add_one, h]
  rfl
theorem len_at {α : Type} {l : List α} {i : Nat} {x : α} (h : l[i]? = some x) : i < l.length := (List.getElem?_eq_some_iff.mp h).1
section
variable {P : Program} {w : World} {K : PySem.W.Frag} {mg : Str → Option Value} {base : Heap} {A : Ad}
/-! ### hash_of -/
def spHash (K : PySem.W.Frag) : Sp := fun vs H Q _ => ∃ (a : Addr) (l : List Nat), vs = [.ref a] ∧ SqL K H a (l.map vN) ∧ Q (vN (Kex2.hash l)) H
theorem ok_hash (F : At K mg "hash_of" s_hash_of ["row"]) (T : Txt P w K mg A) : Cal P w K mg base 1 "hash_of" (spHash K) [] := by
  refine F.cal sc_hash_of (fun vs H Q E h => ?_) (fun f cdv Ar outer s H vs Q E hr h => ?_)
  · obtain ⟨a, l, rfl, _⟩ := h
    rfl
  · obtain ⟨a, l, rfl, hS, q⟩ := h
    refine ⟨_, (pss_cons (ps_set (i := 1) sc_hash_of.nd rfl (Or.inl rfl) (pe_gc (by rfl) T.g_BEGIN))
      (pss_cons (ps_for PassesOwn.never rfl (pi_list (pv 0)) (pg_name (i := 2) sc_hash_of.nd rfl (Or.inl rfl)) (pss_one (ps_set (i := 1) sc_hash_of.nd rfl (Or.inl rfl) (pe_op op_and (pe_op op_mul (pe_op op_xor (pv 1) (pv 2)) (pe_gc (by rfl) T.g_PRIME)) (pe_gc (by rfl) T.g_MASK)))))
      (pss_cons (ps_set (i := 1) sc_hash_of.nd rfl (Or.inl rfl) (pe_op op_and (pe_op op_mul (pe_op op_xor (pv 1) (pe_op op_shr (pv 1) pe_int)) (pe_gc (by rfl) T.g_FIRST)) (pe_gc (by rfl) T.g_MASK)))
      (pss_cons (ps_set (i := 1) sc_hash_of.nd rfl (Or.inl rfl) (pe_op op_and (pe_op op_mul (pe_op op_xor (pv 1) (pe_op op_shr (pv 1) pe_int)) (pe_gc (by rfl) T.g_SECOND)) (pe_gc (by rfl) T.g_MASK)))
      (pss_one (ps_ret (pe_op op_xor (pv 1) (pe_op op_shr (pv 1) pe_int)))))))), ?_⟩
    walk_at "n"
    refine x_setV (by walk_at "val") ?_
    walk_at "n"
    refine ⟨.ref a, rfl, a, rfl, ⟨_, hS⟩, for_list (K := K) (a := a) (xs := l.map vN) (fun i σ H' => ∃ v, σ = [some (.ref a), some (vN ((l.take i).foldl fst1 14695981039346656037)), v] ∧ H' = H) ⟨none, rfl, rfl⟩ (fun i σ H' _ ⟨_, _, e⟩ => e ▸ hS) ?_ ?_⟩
    · rintro i y σ H' hi ⟨v, rfl, rfl⟩
      obtain ⟨z, hz, rfl⟩ := map_at hi
      walk_at "n"
      refine x_setV (by walk_at "val") ?_
      refine ⟨some (vN z), ?_, rfl⟩
      rw [take_more hz, List.foldl_append, List.foldl_cons, List.foldl_nil]
      have e := fst1_int ((l.take i).foldl fst1 14695981039346656037) z
      exact congrArg (fun q => [some (V.ref a), some (V.int q), some (vN z)]) e
    · rintro σ H' ⟨v, rfl, rfl⟩
      rw [List.length_map, List.take_length]
      walk_at "n"
      refine x_setV (by walk_at "val") ?_
      walk_at "n"
      refine x_setV (by walk_at "val") ?_
      walk_at "n"
      refine x_ret (x_val (by walk_at "val") ?_)
      have e := hash_int l
      have g : ∀ z : Int, z = ((Kex2.hash l : Nat) : Int) → Q (V.int z) H' := fun z e => by rw [e]; exact q
      exact g _ e
/-! ### bytes_of -/
def spBytes : Sp := fun vs H Q _ => ∃ n many : Nat, vs = [vN n, vN many] ∧ many ≤ 1000 ∧ ∀ H' p, Same H H' → H p = none → H' p = some (.lst ((bytesN n many).map vN)) → Q (.ref p) H'
theorem ok_bytes (F : At K mg "bytes_of" s_bytes_of ["number", "many"]) (T : Txt P w K mg A) : Cal P w K mg base 1 "bytes_of" spBytes [] := by
  refine F.cal sc_bytes_of (fun vs H Q E h => ?_) (fun f cdv Ar outer s H vs Q E hr h => ?_)
  · obtain ⟨n, many, rfl, _⟩ := h
    rfl
  · obtain ⟨n, many, rfl, hm, q⟩ := h
    refine ⟨_, (pss_one (ps_ret (pe_lc (own := [("place", 2)]) (g := gName 2) (tt := tYes) (te := (tOp (rI0 fun i j => .int (Builtin.bitAnd i j)) (tOp (rI (fun _ j => 0 ≤ j) fun i j => .int (i / 2 ^ j.toNat)) (tVar 0) (tOp (rI CMul fun i j => .int (i * j)) (tC (.int 8)) (tVar 2))) (tC (.int 255)))) rfl sc_bytes_of.nd (pi_revR (by rfl) T.reversed (prg_1 (by rfl) T.range (pv 1))) (blkOk_by (N := ["number", "many", "place"]) (sc := defScope s_bytes_of) (by decide +kernel)) (fun _ _ _ _ _ => pg_name (i := 2) sc_bytes_of.nd rfl (Or.inl rfl)) (fun _ _ _ _ _ => by exact pts_nil) (fun _ _ _ _ _ => by exact (pe_op op_and (pe_op op_shr (pv 0) (pe_op op_mul pe_int (pv 2))) pe_int))))), ?_⟩
    refine x_ret ?_
    refine ⟨_, rfl, (many : Int), rfl, by omega, by omega, by omega, by omega, ?_⟩
    rw [show ((many : Int) - 0).toNat = many by omega]
    refine lcc_at (fun k => vN (byteAt n (many - 1 - k))) (by omega) ?_ ?_
    · intro k hk H' sm Q' q'
      refine x_val (by walk_at "val") ?_
      have e : (8 * (0 + (many : Int) - 1 + (k : Int) * -1)).toNat = 8 * (many - 1 - k) := by omega
      rw [e, byte_int]
      exact q' H' (Same.refl H')
    · intro D H' nD sm hD
      refine q H' D sm nD ?_
      rw [hD]
      unfold bytesN
      rw [List.map_map]
      rfl
/-! ### leaf_of, node_of -/
def tLg (e : Kex7.Entry) : List V := [vN e.kind, vN e.time, vN e.who, vN e.subject]
def spLeaf (K : PySem.W.Frag) : Sp := fun vs H Q _ => ∃ (t : Addr) (e : Kex7.Entry), vs = [.ref t] ∧ SqT K H t (tLg e) ∧ ∀ H', Same H H' → Q (vN (Kex7.leafHash e)) H'
/-- the bytes of the first i numbers -/
def lfB (e : Kex7.Entry) (i : Nat) : List Nat := 0 :: (([e.kind, e.time, e.who, e.subject].take i).flatMap fun n => bytesN n 4)
theorem lfB_all (e : Kex7.Entry) : Kex2.hash (lfB e 4) = Kex7.leafHash e := by
  have h : lfB e 4 = 0 :: Kex7.entryBytes e := by
    unfold lfB Kex7.entryBytes
    rw [← bytes4_is, ← bytes4_is, ← bytes4_is, ← bytes4_is]
    generalize bytesN = f
    simp
  rw [h]
  unfold Kex7.leafHash
  rfl
theorem lfB_more (e : Kex7.Entry) (i n : Nat) (h : [e.kind, e.time, e.who, e.subject][i]? = some n) : lfB e (i + 1) = lfB e i ++ bytesN n 4 := by
  unfold lfB
  rw [take_more h, List.flatMap_append]
  show 0 :: (_ ++ (bytesN n 4 ++ [])) = _
  rw [List.append_nil]
  rfl
theorem lfB_len (e : Kex7.Entry) : ∀ i, (lfB e i).length ≤ 17
  | 0 => by simp [lfB]
  | 1 => by simp [lfB, bytesN_len]
  | 2 => by simp [lfB, bytesN_len]
  | 3 => by simp [lfB, bytesN_len]
  | i + 4 => by simp [lfB, bytesN_len]
theorem ok_leaf (F : At K mg "leaf_of" s_leaf_of ["entry"]) (T : Txt P w K mg A) (c_bytes_of : Cal P w K mg base 1 "bytes_of" spBytes []) (c_hash_of : Cal P w K mg base 1 "hash_of" (spHash K) []) : Cal P w K mg base 2 "leaf_of" (spLeaf K) [] := by
  refine F.cal sc_leaf_of (fun vs H Q E h => ?_) (fun f cdv Ar outer s H vs Q E hr h => ?_)
  · obtain ⟨t, e, rfl, _⟩ := h
    rfl
  · obtain ⟨t, e, rfl, hT, q⟩ := h
    refine ⟨_, (pss_cons (ps_set (i := 1) sc_leaf_of.nd rfl (Or.inl rfl) (pe_lst (pa_cons pe_int pa_nil)))
      (pss_cons (ps_for PassesOwn.never rfl (pi_tup (pv 0)) (pg_name (i := 2) sc_leaf_of.nd rfl (Or.inl rfl)) (pss_one (ps_expr (pe_bm PySem.F.plainAttrs_list PySem.F.slot_list_extend PySem.F.type_list_extend mt_extend (pv 1) (pa_cons (pe_c c_bytes_of hr (by first | decide | omega) (by rfl) (pa_cons (pv 2) (pa_cons pe_int pa_nil))) pa_nil)))))
      (pss_one (ps_ret (pe_c c_hash_of hr (by first | decide | omega) (by rfl) (pa_cons (pv 1) pa_nil)))))), ?_⟩
    walk_at "n"
    refine x_set (x_lstV (by walk_at "vala") fun p hp => ?_)
    walk_at "n"
    refine ⟨.ref t, rfl, t, rfl, ⟨_, Same.sqT (same_upd hp) hT⟩, for_tup (K := K) (a := t) (xs := tLg e) (fun i σ H' => ∃ v, σ = [some (.ref t), some (.ref p), v] ∧ Same H H' ∧ H' p = some (.lst ((lfB e i).map vN))) ⟨none, rfl, same_upd hp, upd_same⟩ (fun i σ H' _ ⟨_, _, s5, _⟩ => Same.sqT s5 hT) ?_ ?_⟩
    · rintro i y σ H' hi ⟨v, rfl, s5, hl⟩
      obtain ⟨z, hz, rfl⟩ : ∃ z, [e.kind, e.time, e.who, e.subject][i]? = some z ∧ y = vN z := map_at (l := [e.kind, e.time, e.who, e.subject]) (f := vN) hi
      walk_at "n"
      refine x_drop (x_ext (by walk_at "val") hl (x_call0 (by walk_at "vala") ?_))
      refine ⟨z, 4, rfl, by omega, fun H2 b sm hb hB => ?_⟩
      refine x_rext (sm _ _ hl) hB (by
        have := lfB_len e i
        rw [List.length_map, List.length_map, bytesN_len]
        omega) ⟨some (vN z), rfl, same_upd2 (s5.trans sm) hp, ?_⟩
      rw [upd_same, lfB_more e i z hz, List.map_append]
    · rintro σ H' ⟨v, rfl, s5, hl⟩
      walk_at "n"
      refine x_ret (x_call0 (by walk_at "vala") ⟨p, lfB e 4, rfl, SqL.of hl, ?_⟩)
      rw [lfB_all]
      exact q H' s5
def spNode : Sp := fun vs H Q _ => ∃ l r : Nat, vs = [vN l, vN r] ∧ l < Kex2.word ∧ r < Kex2.word ∧ ∀ H', Same H H' → Q (vN (Kex7.nodeHash l r)) H'
theorem ok_node (F : At K mg "node_of" s_node_of ["left", "right"]) (T : Txt P w K mg A) (c_bytes_of : Cal P w K mg base 1 "bytes_of" spBytes []) (c_hash_of : Cal P w K mg base 1 "hash_of" (spHash K) []) : Cal P w K mg base 2 "node_of" spNode [] := by
  refine F.cal sc_node_of (fun vs H Q E h => ?_) (fun f cdv Ar outer s H vs Q E hr h => ?_)
  · obtain ⟨l, r, rfl, _⟩ := h
    rfl
  · obtain ⟨l, r, rfl, hl, hr', q⟩ := h
    refine ⟨_, (pss_one (ps_ret (pe_c c_hash_of hr (by first | decide | omega) (by rfl) (pa_cons (pe_op op_cat (pe_op op_cat (pe_lst (pa_cons pe_int pa_nil)) (pe_c c_bytes_of hr (by first | decide | omega) (by rfl) (pa_cons (pv 0) (pa_cons pe_int pa_nil)))) (pe_c c_bytes_of hr (by first | decide | omega) (by rfl) (pa_cons (pv 1) (pa_cons pe_int pa_nil)))) pa_nil)))), ?_⟩
    refine x_ret (x_call1 (x_op (x_op (x_lstV (by walk_at "vala") fun p1 h1 => ?_))))
    refine x_call0 (by walk_at "vala") ?_
    refine ⟨l, 8, rfl, by omega, fun H2 b2 s2 n2 e2 => ?_⟩
    refine x_cat (s2 _ _ upd_same) e2 (by rw [List.length_map, bytesN_len] <;> decide) fun p3 h3 => ?_
    refine x_call0 (by walk_at "vala") ?_
    refine ⟨r, 8, rfl, by omega, fun H4 b4 s4 n4 e4 => ?_⟩
    refine x_cat (s4 _ _ upd_same) e4 (by rw [List.length_append, List.length_map, List.length_map, bytesN_len, bytesN_len] <;> decide) fun p5 h5 => ?_
    refine ⟨p5, 1 :: (bytesN l 8 ++ bytesN r 8), rfl, SqL.of ?_, ?_⟩
    · rw [upd_same, List.map_cons, List.map_append]
      rfl
    · rw [bytes8_is l hl, bytes8_is r hr']
      exact q _ ((((same_upd h1).trans s2).trans (same_upd h3)).trans (s4.trans (same_upd h5)))
/-! ### quarters_of, from_quarters -/
def spQuar : Sp := fun vs H Q _ => ∃ n : Nat, vs = [vN n] ∧ ∀ p, H p = none → Q (.ref p) (upd H p (.lst ((Kex7.words n).map vN)))
theorem ok_quar (F : At K mg "quarters_of" s_quarters_of ["number"]) (T : Txt P w K mg A) : Cal P w K mg base 1 "quarters_of" spQuar [] := by
  refine F.cal sc_quarters_of (fun vs H Q E h => ?_) (fun f cdv Ar outer s H vs Q E hr h => ?_)
  · obtain ⟨n, rfl, _⟩ := h
    rfl
  · obtain ⟨n, rfl, q⟩ := h
    refine ⟨_, (pss_one (ps_ret (pe_lst (pa_cons (pe_op op_and (pe_op op_shr (pv 0) pe_int) pe_int) (pa_cons (pe_op op_and (pe_op op_shr (pv 0) pe_int) pe_int) (pa_cons (pe_op op_and (pe_op op_shr (pv 0) pe_int) pe_int) (pa_cons (pe_op op_and (pv 0) pe_int) pa_nil))))))), ?_⟩
    refine x_ret (x_lstV (by walk_at "vala") fun p hp => ?_)
    rw [show (48 : Int).toNat = 48 from rfl, show (32 : Int).toNat = 32 from rfl, show (16 : Int).toNat = 16 from rfl, quarter_int, quarter_int, quarter_int, quarter0_int]
    have g := q p hp
    rw [quarters_eq] at g
    exact g
def spFrom (K : PySem.W.Frag) : Sp := fun vs H Q _ => ∃ (a : Addr) (l : List Nat), vs = [.ref a] ∧ SqL K H a (l.map vN) ∧ (∀ x ∈ l, x < 65536) ∧ l.length ≤ 4 ∧ Q (vN (fromQ l)) H
theorem ok_from (F : At K mg "from_quarters" s_from_quarters ["row"]) (T : Txt P w K mg A) : Cal P w K mg base 1 "from_quarters" (spFrom K) [] := by
  refine F.cal sc_from_quarters (fun vs H Q E h => ?_) (fun f cdv Ar outer s H vs Q E hr h => ?_)
  · obtain ⟨a, l, rfl, _⟩ := h
    rfl
  · obtain ⟨a, l, rfl, hS, hx, hl, q⟩ := h
    refine ⟨_, (pss_cons (ps_set (i := 1) sc_from_quarters.nd rfl (Or.inl rfl) pe_int)
      (pss_cons (ps_for PassesOwn.never rfl (pi_list (pv 0)) (pg_name (i := 2) sc_from_quarters.nd rfl (Or.inl rfl)) (pss_one (ps_set (i := 1) sc_from_quarters.nd rfl (Or.inl rfl) (pe_op op_or (pe_op op_shl (pv 1) pe_int) (pv 2)))))
      (pss_one (ps_ret (pv 1))))), ?_⟩
    walk_at "n"
    refine x_setV (by walk_at "val") ?_
    walk_at "n"
    refine ⟨.ref a, rfl, a, rfl, ⟨_, hS⟩, for_list (K := K) (a := a) (xs := l.map vN) (fun i σ H' => ∃ v, σ = [some (.ref a), some (vN (fromQ (l.take i))), v] ∧ H' = H) ⟨none, rfl, rfl⟩ (fun i σ H' _ ⟨_, _, e⟩ => e ▸ hS) ?_ ?_⟩
    · rintro i y σ H' hi ⟨v, rfl, rfl⟩
      obtain ⟨z, hz, rfl⟩ := map_at hi
      have hb : fromQ (l.take i) < Kex2.word := fromQ_small _ (fun x h => hx x (List.mem_of_mem_take h)) (by rw [List.length_take]; omega)
      have hb2 : ((fromQ (l.take i) : Nat) : Int).natAbs < 2 ^ 64 := by rw [Int.natAbs_natCast]; exact hb
      have hc : CPow ((fromQ (l.take i) : Nat) : Int) 16 := ⟨by decide, by decide, hb2⟩
      walk_at "n"
      refine x_setV (by walk_at "val") ?_
      refine ⟨some (vN z), ?_, rfl⟩
      have e := fromQ_step (fromQ (l.take i)) z
      have e2 : fromQ (l.take (i + 1)) = fromQ (l.take i) * 65536 ||| z := by
        unfold fromQ
        rw [take_more hz, List.foldl_append]
        rfl
      rw [e2]
      exact congrArg (fun q => [some (V.ref a), some (V.int q), some (vN z)]) e
    · rintro σ H' ⟨v, rfl, rfl⟩
      rw [List.length_map, List.take_length]
      walk_at "n"
      refine x_ret (x_val (by walk_at "val") ?_)
      exact q
end
end Gc
namespace Gc
open PySem PySem.Spec PyProof.Rows L2
open C8 (Cal Mak Met CalAt pe_c pe_mk pe_mt pe_mt0 pe_gc)
/-! the short tactics (each is a row of one's own, tried by its key) -/
local macro_rules | `(tactic| walk_at "fl") => `(tactic| assumption)
local macro_rules | `(tactic| walk_at "side") => `(tactic| first | assumption | exact Or.inr ⟨by decide, by decide⟩ | exact Or.inl ⟨by decide, by decide⟩ | decide | (refine ⟨by decide, by decide⟩) | omega)
local macro_rules | `(tactic| walk_at "val") => `(tactic| first
  | with_reducible exact val_c
  | ((with_reducible refine' val_var ?vv); (case vv => rfl))
  | ((with_reducible refine' val_fl ?vfa ?vfb); (case vfa => walk_at "val"); (case vfb => walk_at "fl"))
  | ((with_reducible refine' val_len ?vla ?vlb); (case vla => walk_at "val"); (case vlb => walk_at "sq"))
  | ((with_reducible refine' val_I0 ?v0a ?v0b); (case v0a => walk_at "val"); (case v0b => walk_at "val"))
  | ((with_reducible refine' val_I ?via ?vib ?vic); (case via => walk_at "val"); (case vib => walk_at "val"); (case vic => walk_at "side"))
  | ((with_reducible refine' val_neg ?vn); (case vn => walk_at "val"))
  | ((with_reducible refine' val_isN ?vs); (case vs => walk_at "val"))
  | ((with_reducible refine' val_ixL ?xa ?xb ?xc ?xd); (case xa => walk_at "val"); (case xb => walk_at "val"); (case xc => walk_at "sq"); (case xd => walk_at "at"))
  | ((with_reducible refine' val_ixT ?ya ?yb ?yc ?yd); (case ya => walk_at "val"); (case yb => walk_at "val"); (case yc => walk_at "sqt"); (case yd => walk_at "at"))
  | ((with_reducible refine' val_chain ?ca ?cb ?cc); (case ca => walk_at "val"); (case cb => walk_at "val"); (case cc => walk_at "val"))
  | ((with_reducible refine' val_max2 ?ma ?mb); (case ma => walk_at "val"); (case mb => walk_at "val")))
local macro_rules | `(tactic| walk_at "sq") => `(tactic| first | assumption | exact SqL.of (by assumption))
local macro_rules | `(tactic| walk_at "sqt") => `(tactic| first | assumption | exact SqT.of (by assumption))
local macro_rules | `(tactic| walk_at "at") => `(tactic| first | assumption | rfl)
local macro_rules | `(tactic| walk_at "ans") => `(tactic| first
  | ((with_reducible refine' ans_test ?at_); (case at_ => walk_at "val"))
  | ((with_reducible refine' ans_B ?ab_); (case ab_ => walk_at "val"))
  | ((with_reducible refine' ans_or2 ?ao ?ap); (case ao => walk_at "ans"); (case ap => (intro _; walk_at "ans")))
  | ((with_reducible refine' ans_and3 ?aq ?ar); (case aq => walk_at "ans"); (case ar => (intro _; walk_at "ans")))
  | ((with_reducible refine' ans_notM ?an); (case an => walk_at "ans")))
local macro_rules | `(tactic| walk_at "vala") => `(tactic| first
  | with_reducible exact vala_nil
  | ((with_reducible refine' vala_cons ?wa ?wb); (case wa => walk_at "val"); (case wb => walk_at "vala")))
local macro_rules | `(tactic| walk_at "n") => `(tactic| (repeat (first | (with_reducible refine x_gn ?_) | (with_reducible refine st_seq ?_) | (with_reducible refine st_next ?_) | dsimp only)))
abbrev s_parting : Stmt := topS 30
theorem sc_parting : FnScope ["many", "found"] ["many"] (defScope s_parting) := ⟨rfl, rfl, rfl, by decide +kernel, rfl, by decide +kernel, by decide +kernel⟩
abbrev s_root_of : Stmt := topS 31
theorem sc_root_of : FnScope ["leaves", "first"] ["leaves"] (defScope s_root_of) := ⟨rfl, rfl, rfl, by decide +kernel, rfl, by decide +kernel, by decide +kernel⟩
section
variable {P : Program} {w : World} {K : PySem.W.Frag} {mg : Str → Option Value} {base : Heap} {A : Ad}
/-! ### parting -/
def spPart : Sp := fun vs H Q _ => ∃ n : Nat, vs = [vN n] ∧ Q (vN (spl n)) H
theorem ok_part (F : At K mg "parting" s_parting ["many"]) (T : Txt P w K mg A) : Cal P w K mg base 1 "parting" spPart [] := by
  refine F.cal sc_parting (fun vs H Q E h => ?_) (fun f cdv Ar outer s H vs Q E hr h => ?_)
  · obtain ⟨n, rfl, _⟩ := h
    rfl
  · obtain ⟨n, rfl, q⟩ := h
    refine ⟨_, (pss_cons (ps_set (i := 1) sc_parting.nd rfl (Or.inl rfl) pe_int)
      (pss_cons (ps_while PassesOwn.never (pt_cmpR op_lt (pe_op op_mul (pv 1) pe_int) (pv 0) (nomark _)) (pss_one (ps_set (i := 1) sc_parting.nd rfl (Or.inl rfl) (pe_op op_mul (pv 1) pe_int))))
      (pss_one (ps_ret (pv 1))))), ?_⟩
    walk_at "n"
    refine x_setV (by walk_at "val") ?_
    walk_at "n"
    refine x_while (fun m σ H' => ∃ p f : Nat, σ = [some (vN n), some (vN p)] ∧ H' = H ∧ m = n - p ∧ 1 ≤ p ∧ n ≤ p + f ∧ Kex7.splitPoint f p n = spl n) ⟨_, 1, n, rfl, rfl, rfl, by omega, by omega, rfl⟩ ?_
    rintro m σ H' ⟨p, f, rfl, rfl, rfl, h1, h2, h3⟩
    refine ⟨_, by walk_at "ans", fun hb => ?_, fun hb => ?_⟩
    · have hlt : (p : Int) * 2 < (n : Int) := of_decide_eq_true hb
      walk_at "n"
      refine x_setV (by walk_at "val") ?_
      obtain ⟨g, g1, g2⟩ := sp_step (n := n) (f := f) (p := p) (by omega) h2 h1
      refine ⟨n - 2 * p, by omega, 2 * p, g, ?_, rfl, rfl, by omega, g1, g2.symm.trans h3⟩
      show [some (vN n), some (V.int ((p : Int) * 2))] = [some (vN n), some (V.int ((2 * p : Nat) : Int))]
      rw [show (p : Int) * 2 = ((2 * p : Nat) : Int) by omega]
    · have hlt : ¬ (p : Int) * 2 < (n : Int) := of_decide_eq_false hb
      walk_at "n"
      refine x_ret (x_val (by walk_at "val") ?_)
      rw [← h3, sp_end (by omega)] at q
      exact q
/-! ### root_of -/
/-- nothing is promised: the def may not be called -/
def spNo : Sp := fun _ _ _ _ => False
theorem At.no {x : Str} {st : Stmt} {ps : List Str} (F : At K mg x st ps) : Cal P w K mg base 0 x spNo [] := by
  obtain ⟨f, fd, F, g, b⟩ := F.ex
  exact ⟨f, fd, ps, [], ⟨fun _ _ _ _ h => h.elim, fun _ _ _ _ _ _ _ _ _ _ _ _ _ h => h.elim⟩, g, F.kp, b, .nil⟩
theorem _root_.C8.Cal.up {x : Str} {sp : Sp} {j k : Nat} (c : Cal P w K mg base j x sp []) (h : j ≤ k) : Cal P w K mg base k x sp [] := by
  obtain ⟨f, fd, ps, ds, F, g, kp, b, d⟩ := c.ex
  exact ⟨f, fd, ps, ds, F.mono h, g, kp, b, d⟩
theorem _root_.C8.Cal.imp {x : Str} {sp sp' : Sp} {k : Nat} (c : Cal P w K mg base k x sp []) (h : ∀ vs H Q E, sp' vs H Q E → sp vs H Q E) : Cal P w K mg base k x sp' [] := by
  obtain ⟨f, fd, ps, ds, F, g, kp, b, d⟩ := c.ex
  exact ⟨f, fd, ps, ds, F.imp h, g, kp, b, d⟩
def small (l : List Nat) : Prop := ∀ x ∈ l, x < Kex2.word
def spRoot (K : PySem.W.Frag) (n : Nat) : Sp := fun vs H Q _ => ∃ (a : Addr) (l : List Nat), vs = [.ref a] ∧ SqL K H a (l.map vN) ∧ l.length ≤ n ∧ small l ∧ ∀ H', Same H H' → Q (vN (Kex7.root l)) H'
theorem node_lt (l r : Nat) : Kex7.nodeHash l r < Kex2.word := hash_lt _
theorem root_lt (l : List Nat) (h : small l) : Kex7.root l < Kex2.word := by
  match l, h with
  | [], _ => exact hash_lt _
  | [x], h => exact h x (List.mem_cons_self ..)
  | a :: b :: r, _ =>
    rw [root_two _ (by simp only [List.length_cons]; omega)]
    exact node_lt _ _
theorem small_take {l : List Nat} (h : small l) (k : Nat) : small (l.take k) := fun x hx => h x (List.mem_of_mem_take hx)
theorem small_drop {l : List Nat} (h : small l) (k : Nat) : small (l.drop k) := fun x hx => h x (List.mem_of_mem_drop hx)
theorem root_step {k n : Nat} {sp0 : Sp} (hk : 2 ≤ k) (F : At K mg "root_of" s_root_of ["leaves"]) (T : Txt P w K mg A) (c_hash_of : Cal P w K mg base 1 "hash_of" (spHash K) []) (c_node_of : Cal P w K mg base 2 "node_of" spNode []) (c_parting : Cal P w K mg base 1 "parting" spPart [])
    (c_root_of : Cal P w K mg base k "root_of" sp0 []) (hsp : ∀ l : List Nat, 2 ≤ l.length → l.length ≤ n → ∀ l' : List Nat, (l' = l.take (spl l.length) ∨ l' = l.drop (spl l.length)) → ∀ (a : Addr) (H : Hp) (Q : VK) (E : XK), SqL K H a (l'.map vN) → small l' → (∀ H', Same H H' → Q (vN (Kex7.root l')) H') → sp0 [.ref a] H Q E) : Cal P w K mg base (k + 1) "root_of" (spRoot K n) [] := by
  refine F.cal sc_root_of (fun vs H Q E h => ?_) (fun f cdv Ar outer s H vs Q E hr h => ?_)
  · obtain ⟨n, l, rfl, _⟩ := h
    rfl
  · obtain ⟨a, l, rfl, hS, hn, hs, q⟩ := h
    refine ⟨_, (pss_cons (ps_if (pt_cmpR op_eqI (pe_callB call_lenM (by rfl) T.len (by decide +kernel) (pa_cons (pv 0) pa_nil)) pe_int (nomark _)) (pss_one (ps_ret (pe_c c_hash_of hr (by first | decide | omega) (by rfl) (pa_cons (pe_lst pa_nil) pa_nil)))) pss_nil)
      (pss_cons (ps_if (pt_cmpR op_eqI (pe_callB call_lenM (by rfl) T.len (by decide +kernel) (pa_cons (pv 0) pa_nil)) pe_int (nomark _)) (pss_one (ps_ret (pe_ix ix_list (pv 0) pe_int (fun _ _ => rfl)))) pss_nil)
      (pss_cons (ps_set (i := 1) sc_root_of.nd rfl (Or.inl rfl) (pe_c c_parting hr (by first | decide | omega) (by rfl) (pa_cons (pe_callB call_lenM (by rfl) T.len (by decide +kernel) (pa_cons (pv 0) pa_nil)) pa_nil)))
      (pss_one (ps_ret (pe_c c_node_of hr (by first | decide | omega) (by rfl) (pa_cons (pe_c c_root_of hr (by first | decide | omega) (by rfl) (pa_cons (pe_slice sl_list (pv 0) po_none (po_some (pv 1))) pa_nil)) (pa_cons (pe_c c_root_of hr (by first | decide | omega) (by rfl) (pa_cons (pe_slice sl_list (pv 0) (po_some (pv 1)) po_none) pa_nil)) pa_nil)))))))), ?_⟩
    walk_at "n"
    refine x_ifP (by walk_at "ans") (fun h0 => ?_) (fun h0 => ?_)
    · rw [List.length_map] at h0
      have e : l = [] := List.eq_nil_of_length_eq_zero (by omega)
      subst e
      refine x_ret (x_call1 (x_lstV vala_nil fun p hp => ?_))
      exact ⟨p, [], rfl, SqL.of upd_same, q _ (same_upd hp)⟩
    walk_at "n"
    refine x_ifP (by walk_at "ans") (fun h1 => ?_) (fun h1 => ?_)
    · rw [List.length_map] at h1
      obtain ⟨x, rfl⟩ := List.length_eq_one_iff.mp (show l.length = 1 by omega)
      refine x_ret (x_val (val_ixL (by walk_at "val") (by walk_at "val") hS (atI_0 rfl)) ?_)
      exact q H (Same.refl H)
    rw [List.length_map] at h0 h1
    have h2 : 2 ≤ l.length := by omega
    obtain ⟨p1, p2, p3⟩ := spl_lt h2
    have hf := hsp l h2 hn
    walk_at "n"
    refine x_set (x_call0 (by walk_at "vala") ?_)
    refine ⟨_, rfl, ?_⟩
    rw [List.length_map]
    walk_at "n"
    refine x_ret ?_
    refine x_slTo (by walk_at "val") (by walk_at "val") hS fun p1 n1 => ?_
    have s1 := same_upd (o := .lst ((l.map vN).take (spl l.length))) n1
    refine hf _ (.inl rfl) p1 _ _ _ (SqL.of (by rw [upd_same, List.map_take])) (small_take hs _) fun H2 s2 => ?_
    refine x_slFrom (by walk_at "val") (by walk_at "val") ((s1.trans s2).seq hS) fun p3 n3 => ?_
    have s3 := same_upd (o := .lst ((l.map vN).drop (spl l.length))) n3
    refine hf _ (.inr rfl) p3 _ _ _ (SqL.of (by rw [upd_same, List.map_drop])) (small_drop hs _) fun H4 s4 => ?_
    refine ⟨_, _, rfl, root_lt _ (small_take hs _), root_lt _ (small_drop hs _), fun H5 s5 => ?_⟩
    rw [← root_two l h2]
    exact q H5 ((s1.trans s2).trans ((s3.trans s4).trans s5))
theorem ok_root (F : At K mg "root_of" s_root_of ["leaves"]) (T : Txt P w K mg A) (c1 : Cal P w K mg base 1 "hash_of" (spHash K) []) (c2 : Cal P w K mg base 2 "node_of" spNode []) (c3 : Cal P w K mg base 1 "parting" spPart []) :
    ∀ d, Cal P w K mg base (3 + d) "root_of" (spRoot K (2 ^ d)) []
  | 0 => root_step (k := 2) (Nat.le_refl 2) F T c1 c2 c3 (F.no.up (by omega)) fun l h2 h1 => absurd h1 (by omega)
  | d + 1 => root_step (k := 3 + d) (by omega) F T c1 c2 c3 (ok_root F T c1 c2 c3 d) fun l h2 hn l' hl' a H Q E hS hs q => by
    obtain ⟨b1, b2⟩ := spl_half h2 hn
    refine ⟨a, l', rfl, hS, ?_, hs, q⟩
    rcases hl' with rfl | rfl
    · rw [List.length_take]; omega
    · rw [List.length_drop]; omega
end
end Gc
namespace Gc
open PySem PySem.Spec PyProof.Rows L2
open C8 (Cal Mak Met CalAt pe_c pe_mk pe_mt pe_mt0 pe_gc)
/-! the short tactics (each is a row of one's own, tried by its key) -/
local macro_rules | `(tactic| walk_at "fl") => `(tactic| assumption)
local macro_rules | `(tactic| walk_at "side") => `(tactic| first | assumption | exact Or.inr ⟨by decide, by decide⟩ | exact Or.inl ⟨by decide, by decide⟩ | decide | (refine ⟨by decide, by decide⟩) | omega)
local macro_rules | `(tactic| walk_at "val") => `(tactic| first
  | with_reducible exact val_c
  | ((with_reducible refine' val_var ?vv); (case vv => rfl))
  | ((with_reducible refine' val_fl ?vfa ?vfb); (case vfa => walk_at "val"); (case vfb => walk_at "fl"))
  | ((with_reducible refine' val_len ?vla ?vlb); (case vla => walk_at "val"); (case vlb => walk_at "sq"))
  | ((with_reducible refine' val_I0 ?v0a ?v0b); (case v0a => walk_at "val"); (case v0b => walk_at "val"))
  | ((with_reducible refine' val_I ?via ?vib ?vic); (case via => walk_at "val"); (case vib => walk_at "val"); (case vic => walk_at "side"))
  | ((with_reducible refine' val_neg ?vn); (case vn => walk_at "val"))
  | ((with_reducible refine' val_isN ?vs); (case vs => walk_at "val"))
  | ((with_reducible refine' val_ixL ?xa ?xb ?xc ?xd); (case xa => walk_at "val"); (case xb => walk_at "val"); (case xc => walk_at "sq"); (case xd => walk_at "at"))
  | ((with_reducible refine' val_ixT ?ya ?yb ?yc ?yd); (case ya => walk_at "val"); (case yb => walk_at "val"); (case yc => walk_at "sqt"); (case yd => walk_at "at"))
  | ((with_reducible refine' val_chain ?ca ?cb ?cc); (case ca => walk_at "val"); (case cb => walk_at "val"); (case cc => walk_at "val"))
  | ((with_reducible refine' val_max2 ?ma ?mb); (case ma => walk_at "val"); (case mb => walk_at "val")))
local macro_rules | `(tactic| walk_at "sq") => `(tactic| first | assumption | exact SqL.of (by assumption))
local macro_rules | `(tactic| walk_at "sqt") => `(tactic| first | assumption | exact SqT.of (by assumption))
local macro_rules | `(tactic| walk_at "at") => `(tactic| first | assumption | rfl)
local macro_rules | `(tactic| walk_at "ans") => `(tactic| first
  | ((with_reducible refine' ans_test ?at_); (case at_ => walk_at "val"))
  | ((with_reducible refine' ans_B ?ab_); (case ab_ => walk_at "val"))
  | ((with_reducible refine' ans_or2 ?ao ?ap); (case ao => walk_at "ans"); (case ap => (intro _; walk_at "ans")))
  | ((with_reducible refine' ans_and3 ?aq ?ar); (case aq => walk_at "ans"); (case ar => (intro _; walk_at "ans")))
  | ((with_reducible refine' ans_notM ?an); (case an => walk_at "ans")))
local macro_rules | `(tactic| walk_at "vala") => `(tactic| first
  | with_reducible exact vala_nil
  | ((with_reducible refine' vala_cons ?wa ?wb); (case wa => walk_at "val"); (case wb => walk_at "vala")))
local macro_rules | `(tactic| walk_at "n") => `(tactic| (repeat (first | (with_reducible refine x_gn ?_) | (with_reducible refine st_seq ?_) | (with_reducible refine st_next ?_) | dsimp only)))
abbrev s_proof_of : Stmt := topS 32
theorem sc_proof_of : FnScope ["index", "leaves", "first"] ["index", "leaves"] (defScope s_proof_of) := ⟨rfl, rfl, rfl, by decide +kernel, rfl, by decide +kernel, by decide +kernel⟩
section
variable {P : Program} {w : World} {K : PySem.W.Frag} {mg : Str → Option Value} {base : Heap} {A : Ad}
/-! ### proof_of -/
def spPrf (K : PySem.W.Frag) (n : Nat) : Sp := fun vs H Q _ => ∃ (i : Nat) (a : Addr) (l : List Nat), vs = [vN i, .ref a] ∧ SqL K H a (l.map vN) ∧ l.length ≤ n ∧ l.length ≤ 2 ^ 16 ∧ small l ∧ ∀ H' p, Same H H' → H p = none → H' p = some (.lst ((Kex7.proof i l).map vN)) → Q (.ref p) H'
theorem prf_step {k n r : Nat} {sp0 : Sp} (hk : r ≤ k) (hr3 : 3 ≤ r) (F : At K mg "proof_of" s_proof_of ["index", "leaves"]) (T : Txt P w K mg A) (c_root_of : Cal P w K mg base r "root_of" (spRoot K (2 ^ 16)) []) (c_parting : Cal P w K mg base 1 "parting" spPart [])
    (c_proof_of : Cal P w K mg base k "proof_of" sp0 []) (hsp : ∀ l : List Nat, 2 ≤ l.length → l.length ≤ n → l.length ≤ 2 ^ 16 → ∀ l' : List Nat, (l' = l.take (spl l.length) ∨ l' = l.drop (spl l.length)) → ∀ (i : Nat) (a : Addr) (H : Hp) (Q : VK) (E : XK), SqL K H a (l'.map vN) → small l' → (∀ H' p, Same H H' → H p = none → H' p = some (.lst ((Kex7.proof i l').map vN)) → Q (.ref p) H') → sp0 [vN i, .ref a] H Q E) : Cal P w K mg base (k + 1) "proof_of" (spPrf K n) [] := by
  refine F.cal sc_proof_of (fun vs H Q E h => ?_) (fun f cdv Ar outer s H vs Q E hr h => ?_)
  · obtain ⟨i, a, l, rfl, _⟩ := h
    rfl
  · obtain ⟨i, a, l, rfl, hS, hn, h16, hs, q⟩ := h
    refine ⟨_, (pss_cons (ps_if (pt_cmpR op_le (pe_callB call_lenM (by rfl) T.len (by decide +kernel) (pa_cons (pv 1) pa_nil)) pe_int (nomark _)) (pss_one (ps_ret (pe_lst pa_nil))) pss_nil)
      (pss_cons (ps_set (i := 2) sc_proof_of.nd rfl (Or.inl rfl) (pe_c c_parting hr (by first | decide | omega) (by rfl) (pa_cons (pe_callB call_lenM (by rfl) T.len (by decide +kernel) (pa_cons (pv 1) pa_nil)) pa_nil)))
      (pss_cons (ps_if (pt_cmpR op_lt (pv 0) (pv 2) (nomark _)) (pss_one (ps_ret (pe_op op_cat (pe_c c_proof_of hr (by first | decide | omega) (by rfl) (pa_cons (pv 0) (pa_cons (pe_slice sl_list (pv 1) po_none (po_some (pv 2))) pa_nil))) (pe_lst (pa_cons (pe_c c_root_of hr (by first | decide | omega) (by rfl) (pa_cons (pe_slice sl_list (pv 1) (po_some (pv 2)) po_none) pa_nil)) pa_nil))))) pss_nil)
      (pss_one (ps_ret (pe_op op_cat (pe_c c_proof_of hr (by first | decide | omega) (by rfl) (pa_cons (pe_op op_sub (pv 0) (pv 2)) (pa_cons (pe_slice sl_list (pv 1) (po_some (pv 2)) po_none) pa_nil))) (pe_lst (pa_cons (pe_c c_root_of hr (by first | decide | omega) (by rfl) (pa_cons (pe_slice sl_list (pv 1) po_none (po_some (pv 2))) pa_nil)) pa_nil)))))))), ?_⟩
    walk_at "n"
    refine x_ifP (by walk_at "ans") (fun h0 => ?_) (fun h0 => ?_)
    · rw [List.length_map] at h0
      refine x_ret (x_lstV vala_nil fun p hp => ?_)
      refine q _ p (same_upd hp) hp ?_
      rw [upd_same, proof_few i l (by omega)]
      rfl
    rw [List.length_map] at h0
    have h2 : 2 ≤ l.length := by omega
    obtain ⟨p1, p2, p3⟩ := spl_lt h2
    have hf := hsp l h2 hn h16
    have hpl := proof_two i l h2
    have hlen := proof_len 16 i l h16
    walk_at "n"
    refine x_set (x_call0 (by walk_at "vala") ?_)
    refine ⟨_, rfl, ?_⟩
    rw [List.length_map]
    walk_at "n"
    refine x_ifP (by walk_at "ans") (fun h1 => ?_) (fun h1 => ?_)
    · rw [if_pos (show i < spl l.length by omega)] at hpl
      rw [hpl, List.length_append, List.length_singleton] at hlen
      walk_at "n"
      refine x_ret (x_op ?_)
      refine ⟨_, rfl, ?_⟩
      refine x_slTo (by walk_at "val") (by walk_at "val") hS fun q1 n1 => ?_
      have s1 := same_upd (o := .lst ((l.map vN).take (spl l.length))) n1
      refine hf _ (.inl rfl) i q1 _ _ _ (SqL.of (by rw [upd_same, List.map_take])) (small_take hs _) fun H2 q2 s2 n2 e2 => ?_
      refine x_slFrom (by walk_at "val") (by walk_at "val") ((s1.trans s2).seq hS) fun q3 n3 => ?_
      have s3 := same_upd (o := .lst ((l.map vN).drop (spl l.length))) n3
      refine ⟨q3, l.drop (spl l.length), rfl, SqL.of (by rw [upd_same, List.map_drop]), by rw [List.length_drop]; omega, small_drop hs _, fun H4 s4 => ?_⟩
      refine ⟨by show 1 ≤ sizeLine; decide, fun q5 n5 => ?_⟩
      have s5 := same_upd (o := .lst [vN (Kex7.root (l.drop (spl l.length)))]) n5
      have s34 := s3.trans s4
      refine x_cat (s5 _ _ (s34 _ _ e2)) upd_same (by rw [List.length_map]; show _ + 1 ≤ _; omega) fun q6 n6 => ?_
      have s6 := same_upd (o := .lst ((Kex7.proof i (l.take (spl l.length))).map vN ++ [vN (Kex7.root (l.drop (spl l.length)))])) n6
      have sa := (s1.trans s2).trans ((s34.trans s5).trans s6)
      refine q _ q6 sa ?_ ?_
      · exact ((s1.trans s2).trans (s34.trans s5)).free n6
      · rw [upd_same, hpl, List.map_append]
        rfl
    · rw [if_neg (show ¬ i < spl l.length by omega)] at hpl
      rw [hpl, List.length_append, List.length_singleton] at hlen
      walk_at "n"
      refine x_ret (x_op ?_)
      refine ⟨_, rfl, _, rfl, _, _, rfl, rfl, ?_⟩
      dsimp only
      rw [show (i : Int) - ((spl l.length : Nat) : Int) = ((i - spl l.length : Nat) : Int) by omega]
      refine x_slFrom (by walk_at "val") (by walk_at "val") hS fun q1 n1 => ?_
      have s1 := same_upd (o := .lst ((l.map vN).drop (spl l.length))) n1
      refine hf _ (.inr rfl) (i - spl l.length) q1 _ _ _ (SqL.of (by rw [upd_same, List.map_drop])) (small_drop hs _) fun H2 q2 s2 n2 e2 => ?_
      refine x_slTo (by walk_at "val") (by walk_at "val") ((s1.trans s2).seq hS) fun q3 n3 => ?_
      have s3 := same_upd (o := .lst ((l.map vN).take (spl l.length))) n3
      refine ⟨q3, l.take (spl l.length), rfl, SqL.of (by rw [upd_same, List.map_take]), by rw [List.length_take]; omega, small_take hs _, fun H4 s4 => ?_⟩
      refine ⟨by show 1 ≤ sizeLine; decide, fun q5 n5 => ?_⟩
      have s5 := same_upd (o := .lst [vN (Kex7.root (l.take (spl l.length)))]) n5
      have s34 := s3.trans s4
      refine x_cat (s5 _ _ (s34 _ _ e2)) upd_same (by rw [List.length_map]; show _ + 1 ≤ _; omega) fun q6 n6 => ?_
      have s6 := same_upd (o := .lst ((Kex7.proof (i - spl l.length) (l.drop (spl l.length))).map vN ++ [vN (Kex7.root (l.take (spl l.length)))])) n6
      have sa := (s1.trans s2).trans ((s34.trans s5).trans s6)
      refine q _ q6 sa ?_ ?_
      · exact ((s1.trans s2).trans (s34.trans s5)).free n6
      · rw [upd_same, hpl, List.map_append]
        rfl
theorem ok_prf {r : Nat} (hr3 : 3 ≤ r) (F : At K mg "proof_of" s_proof_of ["index", "leaves"]) (T : Txt P w K mg A) (c1 : Cal P w K mg base r "root_of" (spRoot K (2 ^ 16)) []) (c3 : Cal P w K mg base 1 "parting" spPart []) :
    ∀ d, Cal P w K mg base (r + 1 + d) "proof_of" (spPrf K (2 ^ d)) []
  | 0 => prf_step (k := r) (Nat.le_refl r) hr3 F T c1 c3 (F.no.up (by omega)) fun l h2 h1 => absurd h1 (by omega)
  | d + 1 => prf_step (k := r + 1 + d) (by omega) hr3 F T c1 c3 (ok_prf hr3 F T c1 c3 d) fun l h2 hn h16 l' hl' i a H Q E hS hs q => by
    obtain ⟨b1, b2⟩ := spl_half h2 hn
    refine ⟨i, a, l', rfl, hS, ?_, ?_, hs, q⟩
    · rcases hl' with rfl | rfl
      · rw [List.length_take]; omega
      · rw [List.length_drop]; omega
    · rcases hl' with rfl | rfl
      · rw [List.length_take]; omega
      · rw [List.length_drop]; omega
end
end Gc
namespace Gc
open PySem PySem.Spec PyProof.Rows L2
open C8 (Cal Mak Met CalAt pe_c pe_mk pe_mt pe_mt0 pe_gc)
/-! the short tactics (each is a row of one's own, tried by its key) -/
local macro_rules | `(tactic| walk_at "fl") => `(tactic| assumption)
local macro_rules | `(tactic| walk_at "side") => `(tactic| first | assumption | exact Or.inr ⟨by decide, by decide⟩ | exact Or.inl ⟨by decide, by decide⟩ | decide | (refine ⟨by decide, by decide⟩) | omega)
local macro_rules | `(tactic| walk_at "val") => `(tactic| first
  | with_reducible exact val_c
  | ((with_reducible refine' val_var ?vv); (case vv => rfl))
  | ((with_reducible refine' val_fl ?vfa ?vfb); (case vfa => walk_at "val"); (case vfb => walk_at "fl"))
  | ((with_reducible refine' val_len ?vla ?vlb); (case vla => walk_at "val"); (case vlb => walk_at "sq"))
  | ((with_reducible refine' val_I0 ?v0a ?v0b); (case v0a => walk_at "val"); (case v0b => walk_at "val"))
  | ((with_reducible refine' val_I ?via ?vib ?vic); (case via => walk_at "val"); (case vib => walk_at "val"); (case vic => walk_at "side"))
  | ((with_reducible refine' val_neg ?vn); (case vn => walk_at "val"))
  | ((with_reducible refine' val_isN ?vs); (case vs => walk_at "val"))
  | ((with_reducible refine' val_ixL ?xa ?xb ?xc ?xd); (case xa => walk_at "val"); (case xb => walk_at "val"); (case xc => walk_at "sq"); (case xd => walk_at "at"))
  | ((with_reducible refine' val_ixT ?ya ?yb ?yc ?yd); (case ya => walk_at "val"); (case yb => walk_at "val"); (case yc => walk_at "sqt"); (case yd => walk_at "at"))
  | ((with_reducible refine' val_chain ?ca ?cb ?cc); (case ca => walk_at "val"); (case cb => walk_at "val"); (case cc => walk_at "val"))
  | ((with_reducible refine' val_max2 ?ma ?mb); (case ma => walk_at "val"); (case mb => walk_at "val")))
local macro_rules | `(tactic| walk_at "sq") => `(tactic| first | assumption | exact SqL.of (by assumption))
local macro_rules | `(tactic| walk_at "sqt") => `(tactic| first | assumption | exact SqT.of (by assumption))
local macro_rules | `(tactic| walk_at "at") => `(tactic| first | assumption | rfl)
local macro_rules | `(tactic| walk_at "ans") => `(tactic| first
  | ((with_reducible refine' ans_test ?at_); (case at_ => walk_at "val"))
  | ((with_reducible refine' ans_B ?ab_); (case ab_ => walk_at "val"))
  | ((with_reducible refine' ans_or2 ?ao ?ap); (case ao => walk_at "ans"); (case ap => (intro _; walk_at "ans")))
  | ((with_reducible refine' ans_and3 ?aq ?ar); (case aq => walk_at "ans"); (case ar => (intro _; walk_at "ans")))
  | ((with_reducible refine' ans_notM ?an); (case an => walk_at "ans")))
local macro_rules | `(tactic| walk_at "vala") => `(tactic| first
  | with_reducible exact vala_nil
  | ((with_reducible refine' vala_cons ?wa ?wb); (case wa => walk_at "val"); (case wb => walk_at "vala")))
local macro_rules | `(tactic| walk_at "n") => `(tactic| (repeat (first | (with_reducible refine x_gn ?_) | (with_reducible refine st_seq ?_) | (with_reducible refine st_next ?_) | dsimp only)))
abbrev s_result_of : Stmt := topS 33
theorem sc_result_of : FnScope ["index", "many", "leaf", "hashes", "first", "last", "found"] ["index", "many", "leaf", "hashes"] (defScope s_result_of) := ⟨rfl, rfl, rfl, by decide +kernel, rfl, by decide +kernel, by decide +kernel⟩
section
variable {P : Program} {w : World} {K : PySem.W.Frag} {mg : Str → Option Value} {base : Heap} {A : Ad}
/-! ### result_of -/
def resV : Option Nat → V
  | some x => vN x
  | none => .int (-1)
theorem fld_lt : ∀ (m n i h : Nat) (l : List Nat), n ≤ m → h < Kex2.word → ∀ x, fld i n h l = some x → x < Kex2.word
  | m, n, i, h, l, hm, hh, x, e => by
    by_cases h2 : 2 ≤ n
    · obtain ⟨p1, p2, p3⟩ := spl_lt h2
      rcases List.eq_nil_or_concat l with rfl | ⟨r, o, rfl⟩
      · rw [fld_nil i n h h2] at e
        cases e
      · rw [List.concat_eq_append, fld_snoc i n h r o h2] at e
        split at e
        · obtain ⟨y, _, rfl⟩ := Option.map_eq_some_iff.mp e
          exact node_lt _ _
        · obtain ⟨y, _, rfl⟩ := Option.map_eq_some_iff.mp e
          exact node_lt _ _
    · rw [fld_few i n h l (by omega)] at e
      split at e
      · cases e
        exact hh
      · cases e
def spRes (K : PySem.W.Frag) (m : Nat) : Sp := fun vs H Q _ => ∃ (i n h : Nat) (a : Addr) (l : List Nat), vs = [vN i, vN n, vN h, .ref a] ∧ SqL K H a (l.map vN) ∧ n ≤ m ∧ h < Kex2.word ∧ small l ∧ ∀ H', Same H H' → Q (resV (fld i n h l)) H'
theorem res_step {k m : Nat} {sp0 : Sp} (hk : 2 ≤ k) (F : At K mg "result_of" s_result_of ["index", "many", "leaf", "hashes"]) (T : Txt P w K mg A) (c_node_of : Cal P w K mg base 2 "node_of" spNode []) (c_parting : Cal P w K mg base 1 "parting" spPart [])
    (c_result_of : Cal P w K mg base k "result_of" sp0 []) (hsp : ∀ n n' : Nat, 2 ≤ n → n ≤ m → (n' = spl n ∨ n' = n - spl n) → ∀ (i h : Nat) (a : Addr) (l : List Nat) (H : Hp) (Q : VK) (E : XK), SqL K H a (l.map vN) → h < Kex2.word → small l → (∀ H', Same H H' → Q (resV (fld i n' h l)) H') → sp0 [vN i, vN n', vN h, .ref a] H Q E) : Cal P w K mg base (k + 1) "result_of" (spRes K m) [] := by
  refine F.cal sc_result_of (fun vs H Q E h => ?_) (fun f cdv Ar outer s H vs Q E hr h => ?_)
  · obtain ⟨i, n, h, a, l, rfl, _⟩ := h
    rfl
  · obtain ⟨i, n, h, a, l, rfl, hS, hn, hh, hs, q⟩ := h
    refine ⟨_, (pss_cons (ps_if (pt_cmpR op_le (pv 1) pe_int (nomark _)) (pss_one (ps_ret (pe_ifExp (pt_cmpR op_eqI (pe_callB call_lenM (by rfl) T.len (by decide +kernel) (pa_cons (pv 3) pa_nil)) pe_int (nomark _)) (pv 2) (pe_un un_neg pe_int)))) pss_nil)
      (pss_cons (ps_if (pt_cmpR op_eqI (pe_callB call_lenM (by rfl) T.len (by decide +kernel) (pa_cons (pv 3) pa_nil)) pe_int (nomark _)) (pss_one (ps_ret (pe_un un_neg pe_int))) pss_nil)
      (pss_cons (ps_set (i := 4) sc_result_of.nd rfl (Or.inl rfl) (pe_c c_parting hr (by first | decide | omega) (by rfl) (pa_cons (pv 1) pa_nil)))
      (pss_cons (ps_set (i := 5) sc_result_of.nd rfl (Or.inl rfl) (pe_ix ix_list (pv 3) (pe_un un_neg pe_int) (fun _ _ => rfl)))
      (pss_cons (ps_if (pt_cmpR op_lt (pv 0) (pv 4) (nomark _)) (pss_cons (ps_set (i := 6) sc_result_of.nd rfl (Or.inl rfl) (pe_c c_result_of hr (by first | decide | omega) (by rfl) (pa_cons (pv 0) (pa_cons (pv 4) (pa_cons (pv 2) (pa_cons (pe_slice sl_list (pv 3) po_none (po_some (pe_un un_neg pe_int))) pa_nil))))))
      (pss_one (ps_ret (pe_ifExp (pt_cmpR op_ge (pv 6) pe_int (nomark _)) (pe_c c_node_of hr (by first | decide | omega) (by rfl) (pa_cons (pv 6) (pa_cons (pv 5) pa_nil))) (pe_un un_neg pe_int))))) pss_nil)
      (pss_cons (ps_set (i := 6) sc_result_of.nd rfl (Or.inl rfl) (pe_c c_result_of hr (by first | decide | omega) (by rfl) (pa_cons (pe_op op_sub (pv 0) (pv 4)) (pa_cons (pe_op op_sub (pv 1) (pv 4)) (pa_cons (pv 2) (pa_cons (pe_slice sl_list (pv 3) po_none (po_some (pe_un un_neg pe_int))) pa_nil))))))
      (pss_one (ps_ret (pe_ifExp (pt_cmpR op_ge (pv 6) pe_int (nomark _)) (pe_c c_node_of hr (by first | decide | omega) (by rfl) (pa_cons (pv 5) (pa_cons (pv 6) pa_nil))) (pe_un un_neg pe_int)))))))))), ?_⟩
    walk_at "n"
    refine x_ifP (by walk_at "ans") (fun h0 => ?_) (fun h0 => ?_)
    · have e := fld_few i n h l (by omega)
      refine x_ret (x_ifE (by walk_at "ans") (fun h1 => ?_) (fun h1 => ?_))
      · have h1 := of_decide_eq_true h1
        rw [List.length_map] at h1
        have e2 : l = [] := List.eq_nil_of_length_eq_zero (by omega)
        subst e2
        refine x_val (by walk_at "val") ?_
        have g := q H (Same.refl H)
        rw [e] at g
        exact g
      · have h1 := of_decide_eq_false h1
        rw [List.length_map] at h1
        refine x_val (by walk_at "val") ?_
        have g := q H (Same.refl H)
        rw [e, if_neg (by
          intro z
          rw [List.isEmpty_iff] at z
          exact h1 (by rw [z]; rfl))] at g
        exact g
    have h2 : 2 ≤ n := by omega
    obtain ⟨p1, p2, p3⟩ := spl_lt h2
    walk_at "n"
    refine x_ifP (by walk_at "ans") (fun h1 => ?_) (fun h1 => ?_)
    · rw [List.length_map] at h1
      have e2 : l = [] := List.eq_nil_of_length_eq_zero (by omega)
      subst e2
      refine x_ret (x_val (by walk_at "val") ?_)
      have g := q H (Same.refl H)
      rw [fld_nil i n h h2] at g
      exact g
    rw [List.length_map] at h1
    obtain ⟨r, o, rfl⟩ : ∃ r o, l = r ++ [o] := by
      rcases List.eq_nil_or_concat l with rfl | ⟨r, o, rfl⟩
      · exact absurd rfl h1
      · exact ⟨r, o, List.concat_eq_append ..⟩
    have eL := fld_snoc i n h r o h2
    have ho : o < Kex2.word := hs o (by simp)
    have hr' : small r := fun x hx => hs x (List.mem_append.mpr (.inl hx))
    have hi : atI ((r ++ [o]).map vN) (-1) = some (vN o) := by
      rw [List.map_append]
      exact atI_last (r.map vN) (vN o)
    have hd : ((r ++ [o]).map vN).dropLast = r.map vN := by
      rw [List.map_append]
      exact List.dropLast_concat
    walk_at "n"
    refine x_set (x_call0 (by walk_at "vala") ?_)
    refine ⟨_, rfl, ?_⟩
    walk_at "n"
    refine x_setV (val_ixL (by walk_at "val") (by walk_at "val") hS hi) ?_
    walk_at "n"
    refine x_ifP (by walk_at "ans") (fun h3 => ?_) (fun h3 => ?_)
    · rw [if_pos (show i < spl n by omega)] at eL
      walk_at "n"
      refine x_set ?_
      refine ⟨_, rfl, _, rfl, _, rfl, ?_⟩
      refine x_slInit (by walk_at "val") (by walk_at "val") hS fun q1 n1 => ?_
      rw [hd]
      have s1 := same_upd (o := .lst (r.map vN)) n1
      refine hsp n _ h2 hn (.inl rfl) i h q1 r _ _ _ (SqL.of upd_same) hh hr' fun H2 s2 => ?_
      have s12 := s1.trans s2
      cases er : fld i (spl n) h r with
      | none =>
        rw [er] at eL
        dsimp only [resV]
        walk_at "n"
        refine x_ret (x_ifE (by walk_at "ans") (fun h4 => absurd (of_decide_eq_true h4) (by decide)) fun _ => ?_)
        · refine x_val (by walk_at "val") ?_
          have g := q H2 s12
          rw [eL] at g
          exact g
      | some x =>
        rw [er] at eL
        have hx : x < Kex2.word := fld_lt _ _ _ _ _ (Nat.le_refl _) hh x er
        have hx0 : (0 : Int) ≤ (x : Int) := by omega
        dsimp only [resV]
        walk_at "n"
        refine x_ret (x_ifE (by walk_at "ans") (fun _ => ?_) fun h4 => absurd hx0 (of_decide_eq_false h4))
        · refine x_call0 (by walk_at "vala") ?_
          refine ⟨_, _, rfl, hx, ho, fun H5 s5 => ?_⟩
          have g := q H5 (s12.trans s5)
          rw [eL] at g
          exact g
    · rw [if_neg (show ¬ i < spl n by omega)] at eL
      walk_at "n"
      refine x_set ?_
      refine ⟨_, rfl, _, rfl, _, _, rfl, rfl, _, rfl, _, rfl, _, _, rfl, rfl, _, rfl, ?_⟩
      refine x_slInit (by walk_at "val") (by walk_at "val") hS fun q1 n1 => ?_
      dsimp only
      rw [hd, show (i : Int) - ((spl n : Nat) : Int) = ((i - spl n : Nat) : Int) by omega, show (n : Int) - ((spl n : Nat) : Int) = ((n - spl n : Nat) : Int) by omega]
      have s1 := same_upd (o := .lst (r.map vN)) n1
      refine hsp n _ h2 hn (.inr rfl) (i - spl n) h q1 r _ _ _ (SqL.of upd_same) hh hr' fun H2 s2 => ?_
      have s12 := s1.trans s2
      cases er : fld (i - spl n) (n - spl n) h r with
      | none =>
        rw [er] at eL
        dsimp only [resV]
        walk_at "n"
        refine x_ret (x_ifE (by walk_at "ans") (fun h4 => absurd (of_decide_eq_true h4) (by decide)) fun _ => ?_)
        · refine x_val (by walk_at "val") ?_
          have g := q H2 s12
          rw [eL] at g
          exact g
      | some x =>
        rw [er] at eL
        have hx : x < Kex2.word := fld_lt _ _ _ _ _ (Nat.le_refl _) hh x er
        have hx0 : (0 : Int) ≤ (x : Int) := by omega
        dsimp only [resV]
        walk_at "n"
        refine x_ret (x_ifE (by walk_at "ans") (fun _ => ?_) fun h4 => absurd hx0 (of_decide_eq_false h4))
        · refine x_call0 (by walk_at "vala") ?_
          refine ⟨_, _, rfl, ho, hx, fun H5 s5 => ?_⟩
          have g := q H5 (s12.trans s5)
          rw [eL] at g
          exact g
theorem ok_res (F : At K mg "result_of" s_result_of ["index", "many", "leaf", "hashes"]) (T : Txt P w K mg A) (c1 : Cal P w K mg base 2 "node_of" spNode []) (c3 : Cal P w K mg base 1 "parting" spPart []) :
    ∀ d, Cal P w K mg base (3 + d) "result_of" (spRes K (2 ^ d)) []
  | 0 => res_step (k := 2) (Nat.le_refl 2) F T c1 c3 (F.no.up (by omega)) fun n n' h2 h1 => absurd h1 (by omega)
  | d + 1 => res_step (k := 3 + d) (by omega) F T c1 c3 (ok_res F T c1 c3 d) fun n n' h2 hn hn' i h a l H Q E hS hh hs q => by
    obtain ⟨b1, b2⟩ := spl_half h2 hn
    exact ⟨i, n', h, a, l, rfl, hS, by rcases hn' with rfl | rfl <;> omega, hh, hs, q⟩
end
end Gc
namespace Gc
open PySem PySem.Spec PyProof.Rows L2
open C8 (Cal Mak Met CalAt pe_c pe_mk pe_mt pe_mt0 pe_gc)
/-! ## How a board lies in the heap: one address for each role -/
inductive Ro where
  | plat | dict | sets | cls | need | own | frz | prs | grd | log | past
  | pin (i : Nat) | pdx (i : Nat) | chg (i : Nat) | apr (i : Nat) | bef (i : Nat)
  deriving DecidableEq
structure Lay where
  ad : Ro → Addr
  fz : List Addr
  gd : List Addr
  lg : List Addr
  pa : List Addr
  ch : Nat → List Addr
abbrev Board := Kex7.Board
def tFz (f : Kex7.Freeze) : List V := [vN f.weekday, vN f.start, vN f.halt_]
def b2n (b : Bool) : Nat := if b = true then 1 else 0
def tGd (g : Kex7.Guard) : List V := [vN g.key, vN g.safe, vN g.metric, vN (b2n g.isBelow), vN g.limit]
def tPa (a : Kex7.Assignment) : List V := [vN a.time, vN a.key, vN a.value, vN a.source]
def tCh (c : Kex7.Change) : List V := [vN c.key, vN c.expected, vN c.value]
def prop0 : Kex7.Proposal := ⟨0, 0, [], [], 0, 0, []⟩
def pr (b : Board) (i : Nat) : Kex7.Proposal := b.proposals.getD i prop0
def plF (L : Lay) (b : Board) : List (Str × V) := [("people", vN b.people), ("clock", vN b.clock), ("settings", .ref (L.ad .sets)), ("classes", .ref (L.ad .cls)), ("needs", .ref (L.ad .need)),
  ("own_counts", .ref (L.ad .own)), ("freezes", .ref (L.ad .frz)), ("proposals", .ref (L.ad .prs)), ("guards", .ref (L.ad .grd)), ("log", .ref (L.ad .log)), ("past", .ref (L.ad .past))]
def prF (L : Lay) (i : Nat) (p : Kex7.Proposal) : List (Str × V) := [("author", vN p.author), ("time", vN p.time), ("changes", .ref (L.ad (.chg i))), ("approvals", .ref (L.ad (.apr i))), ("status", vN p.status), ("end", vN p.ended), ("before", .ref (L.ad (.bef i)))]
def cont (A : Ad) (L : Lay) (b : Board) : Ro → HO
  | .plat => .ins A.CP (L.ad .dict) (plF L b)
  | .dict => .own (L.ad .plat)
  | .sets => .lst (b.values.map vN)
  | .cls => .lst (b.classes.map vN)
  | .need => .lst (b.rules.map fun r => vN r.approvals)
  | .own => .lst (b.rules.map fun r => vN (b2n r.selfApproval))
  | .frz => .lst (L.fz.map V.ref)
  | .prs => .lst ((List.range b.proposals.length).map fun i => .ref (L.ad (.pin i)))
  | .grd => .lst (L.gd.map V.ref)
  | .log => .lst (L.lg.map V.ref)
  | .past => .lst (L.pa.map V.ref)
  | .pin i => .ins A.CQ (L.ad (.pdx i)) (prF L i (pr b i))
  | .pdx i => .own (L.ad (.pin i))
  | .chg i => .lst ((L.ch i).map V.ref)
  | .apr i => .lst ((pr b i).approvals.map vN)
  | .bef i => .lst ((pr b i).before.map vN)
/-- the roles that are taken -/
def Lv (b : Board) : Ro → Prop
  | .pin i => i < b.proposals.length
  | .pdx i => i < b.proposals.length
  | .chg i => i < b.proposals.length
  | .apr i => i < b.proposals.length
  | .bef i => i < b.proposals.length
  | _ => True
/-- tuples, each at its address -/
structure Tups (H : Hp) (as : List Addr) (vs : List (List V)) : Prop where
  len : as.length = vs.length
  is : ∀ (i : Nat) (t : Addr) (v : List V), as[i]? = some t → vs[i]? = some v → H t = some (.tup v)
theorem Tups.mono {H H' : Hp} {as : List Addr} {vs : List (List V)} (x : Tups H as vs) (k : ∀ t v, H t = some (.tup v) → H' t = some (.tup v)) : Tups H' as vs := ⟨x.len, fun i t v h1 h2 => k t v (x.is i t v h1 h2)⟩
theorem Tups.nil {H : Hp} : Tups H [] [] := ⟨rfl, fun i t v h => by simp at h⟩
theorem Tups.at {H : Hp} {as : List Addr} {vs : List (List V)} (x : Tups H as vs) {i : Nat} {t : Addr} (h : as[i]? = some t) : ∃ v, vs[i]? = some v ∧ H t = some (.tup v) := by
  have hl := len_at h
  have hl2 : i < vs.length := by rw [← x.len]; exact hl
  have h2 : vs[i]? = some vs[i] := List.getElem?_eq_getElem hl2
  exact ⟨_, h2, x.is i t _ h h2⟩
theorem Tups.at_ {H : Hp} {as : List Addr} {vs : List (List V)} (x : Tups H as vs) {i : Nat} {v : List V} (h : vs[i]? = some v) : ∃ t, as[i]? = some t ∧ H t = some (.tup v) := by
  have hl := len_at h
  have hl2 : i < as.length := by rw [x.len]; exact hl
  have h2 : as[i]? = some as[i] := List.getElem?_eq_getElem hl2
  exact ⟨_, h2, x.is i _ v h2 h⟩
theorem Tups.snoc {H : Hp} {as : List Addr} {vs : List (List V)} (x : Tups H as vs) {t : Addr} {v : List V} (h : H t = some (.tup v)) : Tups H (as ++ [t]) (vs ++ [v]) := by
  refine ⟨by rw [List.length_append, List.length_append, x.len]; rfl, fun i t' v' h1 h2 => ?_⟩
  by_cases hi : i < as.length
  · rw [List.getElem?_append_left hi] at h1
    rw [List.getElem?_append_left (by rw [← x.len]; exact hi)] at h2
    exact x.is i t' v' h1 h2
  · rw [List.getElem?_append_right (by omega)] at h1
    rw [List.getElem?_append_right (by rw [← x.len]; omega), ← x.len] at h2
    cases e : i - as.length with
    | zero =>
      rw [e] at h1 h2
      cases h1
      cases h2
      exact h
    | succ k =>
      rw [e] at h1
      simp at h1
theorem Tups.pop {H : Hp} {as : List Addr} {vs : List (List V)} (x : Tups H as vs) (k : Nat) : Tups H (as.eraseIdx k) (vs.eraseIdx k) := by
  refine ⟨by rw [List.length_eraseIdx, List.length_eraseIdx, x.len], fun i t v h1 h2 => ?_⟩
  rw [List.getElem?_eraseIdx] at h1 h2
  by_cases c : i < k
  · rw [if_pos c] at h1 h2
    exact x.is _ _ _ h1 h2
  · rw [if_neg c] at h1 h2
    exact x.is _ _ _ h1 h2
structure Bd (A : Ad) (L : Lay) (b : Board) (H : Hp) : Prop where
  inj : ∀ r s, Lv b r → Lv b s → L.ad r = L.ad s → r = s
  at_ : ∀ r, Lv b r → H (L.ad r) = some (cont A L b r)
  fz : Tups H L.fz (b.freezes.map tFz)
  gd : Tups H L.gd (b.guards.map tGd)
  lg : Tups H L.lg (b.log.map tLg)
  pa : Tups H L.pa (b.history.map tPa)
  ch : ∀ i, i < b.proposals.length → Tups H (L.ch i) ((pr b i).changes.map tCh)
theorem cont_ne {A : Ad} {L : Lay} {b : Board} (r : Ro) (v : List V) : cont A L b r ≠ .tup v := by
  cases r <;> exact fun e => by cases e
theorem Bd.mono {A : Ad} {L : Lay} {b : Board} {H H' : Hp} (B : Bd A L b H) (s : Same H H') : Bd A L b H' :=
  ⟨B.inj, fun r h => s _ _ (B.at_ r h), B.fz.mono fun t v => s t _, B.gd.mono fun t v => s t _, B.lg.mono fun t v => s t _, B.pa.mono fun t v => s t _, fun i h => (B.ch i h).mono fun t v => s t _⟩
/-- an address of the board's own -/
def Foot (L : Lay) (b : Board) (c : Addr) : Prop := ∃ r, Lv b r ∧ L.ad r = c
theorem Bd.tup_ne {A : Ad} {L : Lay} {b : Board} {H : Hp} (B : Bd A L b H) {t : Addr} {v : List V} (h : H t = some (.tup v)) {r : Ro} (hr : Lv b r) : t ≠ L.ad r := fun e => by
  rw [e, B.at_ r hr] at h
  exact cont_ne r v (Option.some.inj h)
/-- what a def leaves as it was -/
structure Fr (L : Lay) (b : Board) (H : Hp) (L' : Lay) (b' : Board) (H' : Hp) : Prop where
  keep : ∀ c o, H c = some o → ¬ Foot L b c → H' c = some o ∧ ¬ Foot L' b' c
  st : ∀ r, Lv b r → (∀ i, r ≠ .bef i) → L'.ad r = L.ad r
  ch : ∀ i, i < b.proposals.length → L'.ch i = L.ch i
  more : b.proposals.length ≤ b'.proposals.length
theorem Lv.more {b b' : Board} (h : b.proposals.length ≤ b'.proposals.length) {r : Ro} (x : Lv b r) : Lv b' r := by
  cases r <;> first | trivial | exact Nat.lt_of_lt_of_le x h
theorem Fr.refl (L : Lay) (b : Board) (H : Hp) : Fr L b H L b H := ⟨fun _ _ h n => ⟨h, n⟩, fun _ _ _ => rfl, fun _ _ => rfl, Nat.le_refl _⟩
theorem Fr.same {L : Lay} {b : Board} {H H' : Hp} (s : Same H H') : Fr L b H L b H' := ⟨fun c o h n => ⟨s c o h, n⟩, fun _ _ _ => rfl, fun _ _ => rfl, Nat.le_refl _⟩
theorem Fr.trans {L L1 L2 : Lay} {b b1 b2 : Board} {H H1 H2 : Hp} (x : Fr L b H L1 b1 H1) (y : Fr L1 b1 H1 L2 b2 H2) : Fr L b H L2 b2 H2 :=
  ⟨fun c o h n => let ⟨h1, n1⟩ := x.keep c o h n; y.keep c o h1 n1, fun r h n => (y.st r (h.more x.more) n).trans (x.st r h n), fun i h => (y.ch i (Nat.lt_of_lt_of_le h x.more)).trans (x.ch i h), Nat.le_trans x.more y.more⟩
/-- one cell of the board is written -/
theorem Bd.write {A : Ad} {L L' : Lay} {b b' : Board} {H : Hp} (B : Bd A L b H) (r : Ro) (hr : Lv b r) (ha : L'.ad = L.ad) (hn : b'.proposals.length = b.proposals.length) (hs : ∀ s, Lv b s → s ≠ r → cont A L' b' s = cont A L b s)
    (fz : Tups (upd H (L.ad r) (cont A L' b' r)) L'.fz (b'.freezes.map tFz)) (gd : Tups (upd H (L.ad r) (cont A L' b' r)) L'.gd (b'.guards.map tGd)) (lg : Tups (upd H (L.ad r) (cont A L' b' r)) L'.lg (b'.log.map tLg)) (pa : Tups (upd H (L.ad r) (cont A L' b' r)) L'.pa (b'.history.map tPa))
    (ch : ∀ i, i < b'.proposals.length → Tups (upd H (L.ad r) (cont A L' b' r)) (L'.ch i) ((pr b' i).changes.map tCh)) : Bd A L' b' (upd H (L.ad r) (cont A L' b' r)) := by
  have lv : ∀ {s}, Lv b' s → Lv b s := fun x => x.more (Nat.le_of_eq hn)
  refine ⟨fun s t h1 h2 e => B.inj s t (lv h1) (lv h2) (by rw [ha] at e; exact e), fun s h => ?_, fz, gd, lg, pa, ch⟩
  rw [ha]
  by_cases e : s = r
  · subst e
    exact upd_same
  · rw [upd_ne fun z => e (B.inj s r (lv h) hr z), B.at_ s (lv h), hs s (lv h) e]
theorem Bd.keepT {A : Ad} {L : Lay} {b : Board} {H : Hp} (B : Bd A L b H) (r : Ro) (hr : Lv b r) (o : HO) {as : List Addr} {vs : List (List V)} (x : Tups H as vs) : Tups (upd H (L.ad r) o) as vs :=
  x.mono fun t v h => by rw [upd_ne (B.tup_ne h hr)]; exact h
/-- .. where no tuple comes or goes -/
theorem Bd.write0 {A : Ad} {L : Lay} {b b' : Board} {H : Hp} (B : Bd A L b H) (r : Ro) (hr : Lv b r) (hn : b'.proposals.length = b.proposals.length) (hs : ∀ s, Lv b s → s ≠ r → cont A L b' s = cont A L b s)
    (e1 : b'.freezes = b.freezes) (e2 : b'.guards = b.guards) (e3 : b'.log = b.log) (e4 : b'.history = b.history) (e5 : ∀ i, i < b.proposals.length → (pr b' i).changes = (pr b i).changes) : Bd A L b' (upd H (L.ad r) (cont A L b' r)) :=
  B.write r hr rfl hn hs (by rw [e1]; exact B.keepT r hr _ B.fz) (by rw [e2]; exact B.keepT r hr _ B.gd) (by rw [e3]; exact B.keepT r hr _ B.lg) (by rw [e4]; exact B.keepT r hr _ B.pa) fun i h => by
    rw [hn] at h
    rw [e5 i h]
    exact B.keepT r hr _ (B.ch i h)
theorem Fr.write {L L' : Lay} {b b' : Board} {H : Hp} (r : Ro) (hr : Lv b r) (ha : L'.ad = L.ad) (hc : L'.ch = L.ch) (hn : b'.proposals.length = b.proposals.length) (o : HO) : Fr L b H L' b' (upd H (L.ad r) o) :=
  ⟨fun c u h n => ⟨by rw [upd_ne fun e => n ⟨r, hr, e.symm⟩]; exact h, fun ⟨s, h1, h2⟩ => n ⟨s, h1.more (Nat.le_of_eq hn), by rw [← ha]; exact h2⟩⟩, fun s _ _ => by rw [ha], fun i _ => by rw [hc], Nat.le_of_eq hn.symm⟩
/-! ### reading -/
theorem lk_here {k : Str} {v : V} {r : List (Str × V)} : List.lookup k ((k, v) :: r) = some v := by
  have e : (k == k) = true := beq_self_eq_true k
  simp only [List.lookup, e]
theorem lk_past {k g : Str} {v : V} {r : List (Str × V)} (h : (k == g) = false) : List.lookup k ((g, v) :: r) = List.lookup k r := by
  simp only [List.lookup, h]
theorem put_here {f : Str} {v x : V} {r : List (Str × V)} : putF f v ((f, x) :: r) = (f, v) :: r := if_pos rfl
theorem put_past {f g : Str} {v x : V} {r : List (Str × V)} (h : ¬ g = f) : putF f v ((g, x) :: r) = (g, x) :: putF f v r := if_neg h
theorem lp_people (L : Lay) (b : Board) : (plF L b).lookup ("people" : Str) = some (vN b.people) := lk_here
theorem lp_clock (L : Lay) (b : Board) : (plF L b).lookup ("clock" : Str) = some (vN b.clock) := (lk_past (by decide +kernel)).trans (lk_here)
theorem lp_settings (L : Lay) (b : Board) : (plF L b).lookup ("settings" : Str) = some (.ref (L.ad .sets)) := (lk_past (by decide +kernel)).trans ((lk_past (by decide +kernel)).trans (lk_here))
theorem lp_classes (L : Lay) (b : Board) : (plF L b).lookup ("classes" : Str) = some (.ref (L.ad .cls)) := (lk_past (by decide +kernel)).trans ((lk_past (by decide +kernel)).trans ((lk_past (by decide +kernel)).trans (lk_here)))
theorem lp_needs (L : Lay) (b : Board) : (plF L b).lookup ("needs" : Str) = some (.ref (L.ad .need)) := (lk_past (by decide +kernel)).trans ((lk_past (by decide +kernel)).trans ((lk_past (by decide +kernel)).trans ((lk_past (by decide +kernel)).trans (lk_here))))
theorem lp_own_counts (L : Lay) (b : Board) : (plF L b).lookup ("own_counts" : Str) = some (.ref (L.ad .own)) := (lk_past (by decide +kernel)).trans ((lk_past (by decide +kernel)).trans ((lk_past (by decide +kernel)).trans ((lk_past (by decide +kernel)).trans ((lk_past (by decide +kernel)).trans (lk_here)))))
theorem lp_freezes (L : Lay) (b : Board) : (plF L b).lookup ("freezes" : Str) = some (.ref (L.ad .frz)) := (lk_past (by decide +kernel)).trans ((lk_past (by decide +kernel)).trans ((lk_past (by decide +kernel)).trans ((lk_past (by decide +kernel)).trans ((lk_past (by decide +kernel)).trans ((lk_past (by decide +kernel)).trans (lk_here))))))
theorem lp_proposals (L : Lay) (b : Board) : (plF L b).lookup ("proposals" : Str) = some (.ref (L.ad .prs)) := (lk_past (by decide +kernel)).trans ((lk_past (by decide +kernel)).trans ((lk_past (by decide +kernel)).trans ((lk_past (by decide +kernel)).trans ((lk_past (by decide +kernel)).trans ((lk_past (by decide +kernel)).trans ((lk_past (by decide +kernel)).trans (lk_here)))))))
theorem lp_guards (L : Lay) (b : Board) : (plF L b).lookup ("guards" : Str) = some (.ref (L.ad .grd)) := (lk_past (by decide +kernel)).trans ((lk_past (by decide +kernel)).trans ((lk_past (by decide +kernel)).trans ((lk_past (by decide +kernel)).trans ((lk_past (by decide +kernel)).trans ((lk_past (by decide +kernel)).trans ((lk_past (by decide +kernel)).trans ((lk_past (by decide +kernel)).trans (lk_here))))))))
theorem lp_log (L : Lay) (b : Board) : (plF L b).lookup ("log" : Str) = some (.ref (L.ad .log)) := (lk_past (by decide +kernel)).trans ((lk_past (by decide +kernel)).trans ((lk_past (by decide +kernel)).trans ((lk_past (by decide +kernel)).trans ((lk_past (by decide +kernel)).trans ((lk_past (by decide +kernel)).trans ((lk_past (by decide +kernel)).trans ((lk_past (by decide +kernel)).trans ((lk_past (by decide +kernel)).trans (lk_here)))))))))
theorem lp_past (L : Lay) (b : Board) : (plF L b).lookup ("past" : Str) = some (.ref (L.ad .past)) := (lk_past (by decide +kernel)).trans ((lk_past (by decide +kernel)).trans ((lk_past (by decide +kernel)).trans ((lk_past (by decide +kernel)).trans ((lk_past (by decide +kernel)).trans ((lk_past (by decide +kernel)).trans ((lk_past (by decide +kernel)).trans ((lk_past (by decide +kernel)).trans ((lk_past (by decide +kernel)).trans ((lk_past (by decide +kernel)).trans (lk_here))))))))))
theorem lq_author (L : Lay) (i : Nat) (p : Kex7.Proposal) : (prF L i p).lookup ("author" : Str) = some (vN p.author) := lk_here
theorem lq_time (L : Lay) (i : Nat) (p : Kex7.Proposal) : (prF L i p).lookup ("time" : Str) = some (vN p.time) := (lk_past (by decide +kernel)).trans (lk_here)
theorem lq_changes (L : Lay) (i : Nat) (p : Kex7.Proposal) : (prF L i p).lookup ("changes" : Str) = some (.ref (L.ad (.chg i))) := (lk_past (by decide +kernel)).trans ((lk_past (by decide +kernel)).trans (lk_here))
theorem lq_approvals (L : Lay) (i : Nat) (p : Kex7.Proposal) : (prF L i p).lookup ("approvals" : Str) = some (.ref (L.ad (.apr i))) := (lk_past (by decide +kernel)).trans ((lk_past (by decide +kernel)).trans ((lk_past (by decide +kernel)).trans (lk_here)))
theorem lq_status (L : Lay) (i : Nat) (p : Kex7.Proposal) : (prF L i p).lookup ("status" : Str) = some (vN p.status) := (lk_past (by decide +kernel)).trans ((lk_past (by decide +kernel)).trans ((lk_past (by decide +kernel)).trans ((lk_past (by decide +kernel)).trans (lk_here))))
theorem lq_end (L : Lay) (i : Nat) (p : Kex7.Proposal) : (prF L i p).lookup ("end" : Str) = some (vN p.ended) := (lk_past (by decide +kernel)).trans ((lk_past (by decide +kernel)).trans ((lk_past (by decide +kernel)).trans ((lk_past (by decide +kernel)).trans ((lk_past (by decide +kernel)).trans (lk_here)))))
theorem lq_before (L : Lay) (i : Nat) (p : Kex7.Proposal) : (prF L i p).lookup ("before" : Str) = some (.ref (L.ad (.bef i))) := (lk_past (by decide +kernel)).trans ((lk_past (by decide +kernel)).trans ((lk_past (by decide +kernel)).trans ((lk_past (by decide +kernel)).trans ((lk_past (by decide +kernel)).trans ((lk_past (by decide +kernel)).trans (lk_here))))))
theorem lpn_is_frozen (L : Lay) (b : Board) : (plF L b).lookup ("is_frozen" : Str) = none := (lk_past (by decide +kernel)).trans ((lk_past (by decide +kernel)).trans ((lk_past (by decide +kernel)).trans ((lk_past (by decide +kernel)).trans ((lk_past (by decide +kernel)).trans ((lk_past (by decide +kernel)).trans ((lk_past (by decide +kernel)).trans ((lk_past (by decide +kernel)).trans ((lk_past (by decide +kernel)).trans ((lk_past (by decide +kernel)).trans ((lk_past (by decide +kernel)).trans (rfl)))))))))))
theorem lpn_note (L : Lay) (b : Board) : (plF L b).lookup ("note" : Str) = none := (lk_past (by decide +kernel)).trans ((lk_past (by decide +kernel)).trans ((lk_past (by decide +kernel)).trans ((lk_past (by decide +kernel)).trans ((lk_past (by decide +kernel)).trans ((lk_past (by decide +kernel)).trans ((lk_past (by decide +kernel)).trans ((lk_past (by decide +kernel)).trans ((lk_past (by decide +kernel)).trans ((lk_past (by decide +kernel)).trans ((lk_past (by decide +kernel)).trans (rfl)))))))))))
theorem lpn_assign (L : Lay) (b : Board) : (plF L b).lookup ("assign" : Str) = none := (lk_past (by decide +kernel)).trans ((lk_past (by decide +kernel)).trans ((lk_past (by decide +kernel)).trans ((lk_past (by decide +kernel)).trans ((lk_past (by decide +kernel)).trans ((lk_past (by decide +kernel)).trans ((lk_past (by decide +kernel)).trans ((lk_past (by decide +kernel)).trans ((lk_past (by decide +kernel)).trans ((lk_past (by decide +kernel)).trans ((lk_past (by decide +kernel)).trans (rfl)))))))))))
theorem lpn_approvals_of (L : Lay) (b : Board) : (plF L b).lookup ("approvals_of" : Str) = none := (lk_past (by decide +kernel)).trans ((lk_past (by decide +kernel)).trans ((lk_past (by decide +kernel)).trans ((lk_past (by decide +kernel)).trans ((lk_past (by decide +kernel)).trans ((lk_past (by decide +kernel)).trans ((lk_past (by decide +kernel)).trans ((lk_past (by decide +kernel)).trans ((lk_past (by decide +kernel)).trans ((lk_past (by decide +kernel)).trans ((lk_past (by decide +kernel)).trans (rfl)))))))))))
theorem lpn_fits (L : Lay) (b : Board) : (plF L b).lookup ("fits" : Str) = none := (lk_past (by decide +kernel)).trans ((lk_past (by decide +kernel)).trans ((lk_past (by decide +kernel)).trans ((lk_past (by decide +kernel)).trans ((lk_past (by decide +kernel)).trans ((lk_past (by decide +kernel)).trans ((lk_past (by decide +kernel)).trans ((lk_past (by decide +kernel)).trans ((lk_past (by decide +kernel)).trans ((lk_past (by decide +kernel)).trans ((lk_past (by decide +kernel)).trans (rfl)))))))))))
theorem lpn_try_out (L : Lay) (b : Board) : (plF L b).lookup ("try_out" : Str) = none := (lk_past (by decide +kernel)).trans ((lk_past (by decide +kernel)).trans ((lk_past (by decide +kernel)).trans ((lk_past (by decide +kernel)).trans ((lk_past (by decide +kernel)).trans ((lk_past (by decide +kernel)).trans ((lk_past (by decide +kernel)).trans ((lk_past (by decide +kernel)).trans ((lk_past (by decide +kernel)).trans ((lk_past (by decide +kernel)).trans ((lk_past (by decide +kernel)).trans (rfl)))))))))))
theorem lpn_settle (L : Lay) (b : Board) : (plF L b).lookup ("settle" : Str) = none := (lk_past (by decide +kernel)).trans ((lk_past (by decide +kernel)).trans ((lk_past (by decide +kernel)).trans ((lk_past (by decide +kernel)).trans ((lk_past (by decide +kernel)).trans ((lk_past (by decide +kernel)).trans ((lk_past (by decide +kernel)).trans ((lk_past (by decide +kernel)).trans ((lk_past (by decide +kernel)).trans ((lk_past (by decide +kernel)).trans ((lk_past (by decide +kernel)).trans (rfl)))))))))))
theorem lpn_put_proposal (L : Lay) (b : Board) : (plF L b).lookup ("put_proposal" : Str) = none := (lk_past (by decide +kernel)).trans ((lk_past (by decide +kernel)).trans ((lk_past (by decide +kernel)).trans ((lk_past (by decide +kernel)).trans ((lk_past (by decide +kernel)).trans ((lk_past (by decide +kernel)).trans ((lk_past (by decide +kernel)).trans ((lk_past (by decide +kernel)).trans ((lk_past (by decide +kernel)).trans ((lk_past (by decide +kernel)).trans ((lk_past (by decide +kernel)).trans (rfl)))))))))))
theorem lpn_count_status (L : Lay) (b : Board) : (plF L b).lookup ("count_status" : Str) = none := (lk_past (by decide +kernel)).trans ((lk_past (by decide +kernel)).trans ((lk_past (by decide +kernel)).trans ((lk_past (by decide +kernel)).trans ((lk_past (by decide +kernel)).trans ((lk_past (by decide +kernel)).trans ((lk_past (by decide +kernel)).trans ((lk_past (by decide +kernel)).trans ((lk_past (by decide +kernel)).trans ((lk_past (by decide +kernel)).trans ((lk_past (by decide +kernel)).trans (rfl)))))))))))
theorem lpn_value_at (L : Lay) (b : Board) : (plF L b).lookup ("value_at" : Str) = none := (lk_past (by decide +kernel)).trans ((lk_past (by decide +kernel)).trans ((lk_past (by decide +kernel)).trans ((lk_past (by decide +kernel)).trans ((lk_past (by decide +kernel)).trans ((lk_past (by decide +kernel)).trans ((lk_past (by decide +kernel)).trans ((lk_past (by decide +kernel)).trans ((lk_past (by decide +kernel)).trans ((lk_past (by decide +kernel)).trans ((lk_past (by decide +kernel)).trans (rfl)))))))))))
theorem lpn_report (L : Lay) (b : Board) : (plF L b).lookup ("report" : Str) = none := (lk_past (by decide +kernel)).trans ((lk_past (by decide +kernel)).trans ((lk_past (by decide +kernel)).trans ((lk_past (by decide +kernel)).trans ((lk_past (by decide +kernel)).trans ((lk_past (by decide +kernel)).trans ((lk_past (by decide +kernel)).trans ((lk_past (by decide +kernel)).trans ((lk_past (by decide +kernel)).trans ((lk_past (by decide +kernel)).trans ((lk_past (by decide +kernel)).trans (rfl)))))))))))
theorem lpn_next_open (L : Lay) (b : Board) : (plF L b).lookup ("next_open" : Str) = none := (lk_past (by decide +kernel)).trans ((lk_past (by decide +kernel)).trans ((lk_past (by decide +kernel)).trans ((lk_past (by decide +kernel)).trans ((lk_past (by decide +kernel)).trans ((lk_past (by decide +kernel)).trans ((lk_past (by decide +kernel)).trans ((lk_past (by decide +kernel)).trans ((lk_past (by decide +kernel)).trans ((lk_past (by decide +kernel)).trans ((lk_past (by decide +kernel)).trans (rfl)))))))))))
theorem lqn_finish (L : Lay) (i : Nat) (p : Kex7.Proposal) : (prF L i p).lookup ("finish" : Str) = none := (lk_past (by decide +kernel)).trans ((lk_past (by decide +kernel)).trans ((lk_past (by decide +kernel)).trans ((lk_past (by decide +kernel)).trans ((lk_past (by decide +kernel)).trans ((lk_past (by decide +kernel)).trans ((lk_past (by decide +kernel)).trans (rfl)))))))
theorem lqn_described (L : Lay) (i : Nat) (p : Kex7.Proposal) : (prF L i p).lookup ("described" : Str) = none := (lk_past (by decide +kernel)).trans ((lk_past (by decide +kernel)).trans ((lk_past (by decide +kernel)).trans ((lk_past (by decide +kernel)).trans ((lk_past (by decide +kernel)).trans ((lk_past (by decide +kernel)).trans ((lk_past (by decide +kernel)).trans (rfl)))))))
theorem pp_clock (L : Lay) (b : Board) (n : Nat) : putF "clock" (vN n) (plF L b) = plF L { b with clock := n } := (put_past (by decide +kernel)).trans (congrArg _ (put_here))
theorem pq_status (L : Lay) (i : Nat) (p : Kex7.Proposal) (n : Nat) : putF "status" (vN n) (prF L i p) = prF L i { p with status := n } := (put_past (by decide +kernel)).trans (congrArg _ ((put_past (by decide +kernel)).trans (congrArg _ ((put_past (by decide +kernel)).trans (congrArg _ ((put_past (by decide +kernel)).trans (congrArg _ (put_here))))))))
theorem pq_end (L : Lay) (i : Nat) (p : Kex7.Proposal) (n : Nat) : putF "end" (vN n) (prF L i p) = prF L i { p with ended := n } := (put_past (by decide +kernel)).trans (congrArg _ ((put_past (by decide +kernel)).trans (congrArg _ ((put_past (by decide +kernel)).trans (congrArg _ ((put_past (by decide +kernel)).trans (congrArg _ ((put_past (by decide +kernel)).trans (congrArg _ (put_here))))))))))
theorem pq_before (L L2 : Lay) (i : Nat) (p q : Kex7.Proposal) (a : Addr) (h1 : L2.ad (.chg i) = L.ad (.chg i)) (h2 : L2.ad (.apr i) = L.ad (.apr i)) (h3 : L2.ad (.bef i) = a) (e : q = { p with before := q.before }) : putF "before" (.ref a) (prF L i p) = prF L2 i q := by
  rw [e]
  unfold prF
  rw [h1, h2, h3]
  exact (put_past (by decide +kernel)).trans (congrArg _ ((put_past (by decide +kernel)).trans (congrArg _ ((put_past (by decide +kernel)).trans (congrArg _ ((put_past (by decide +kernel)).trans (congrArg _ ((put_past (by decide +kernel)).trans (congrArg _ ((put_past (by decide +kernel)).trans (congrArg _ (put_here))))))))))))
section
variable {P : Program} {w : World} {K : PySem.W.Frag} {mg : Str → Option Value} {A : Ad} {L : Lay} {b : Board} {H : Hp} {i : Nat}
theorem Bd.flP (B : Bd A L b H) (T : Txt P w K mg A) {f : Str} {v : V} (n : NoAttr K A.CP f) (h : (plF L b).lookup f = some v) : Fl K H (L.ad .plat) f v := ⟨_, _, _, B.at_ .plat trivial, T.clP, n, h⟩
theorem Bd.flQ (B : Bd A L b H) (T : Txt P w K mg A) (hi : i < b.proposals.length) {f : Str} {v : V} (n : NoAttr K A.CQ f) (h : (prF L i (pr b i)).lookup f = some v) : Fl K H (L.ad (.pin i)) f v := ⟨_, _, _, B.at_ (.pin i) hi, T.clQ, n, h⟩
theorem fp_people (B : Bd A L b H) (T : Txt P w K mg A) : Fl K H (L.ad .plat) "people" (vN b.people) := B.flP T T.nP_people (lp_people L b)
theorem fp_clock (B : Bd A L b H) (T : Txt P w K mg A) : Fl K H (L.ad .plat) "clock" (vN b.clock) := B.flP T T.nP_clock (lp_clock L b)
theorem fp_settings (B : Bd A L b H) (T : Txt P w K mg A) : Fl K H (L.ad .plat) "settings" (.ref (L.ad .sets)) := B.flP T T.nP_settings (lp_settings L b)
theorem fp_classes (B : Bd A L b H) (T : Txt P w K mg A) : Fl K H (L.ad .plat) "classes" (.ref (L.ad .cls)) := B.flP T T.nP_classes (lp_classes L b)
theorem fp_needs (B : Bd A L b H) (T : Txt P w K mg A) : Fl K H (L.ad .plat) "needs" (.ref (L.ad .need)) := B.flP T T.nP_needs (lp_needs L b)
theorem fp_own_counts (B : Bd A L b H) (T : Txt P w K mg A) : Fl K H (L.ad .plat) "own_counts" (.ref (L.ad .own)) := B.flP T T.nP_own_counts (lp_own_counts L b)
theorem fp_freezes (B : Bd A L b H) (T : Txt P w K mg A) : Fl K H (L.ad .plat) "freezes" (.ref (L.ad .frz)) := B.flP T T.nP_freezes (lp_freezes L b)
theorem fp_proposals (B : Bd A L b H) (T : Txt P w K mg A) : Fl K H (L.ad .plat) "proposals" (.ref (L.ad .prs)) := B.flP T T.nP_proposals (lp_proposals L b)
theorem fp_guards (B : Bd A L b H) (T : Txt P w K mg A) : Fl K H (L.ad .plat) "guards" (.ref (L.ad .grd)) := B.flP T T.nP_guards (lp_guards L b)
theorem fp_log (B : Bd A L b H) (T : Txt P w K mg A) : Fl K H (L.ad .plat) "log" (.ref (L.ad .log)) := B.flP T T.nP_log (lp_log L b)
theorem fp_past (B : Bd A L b H) (T : Txt P w K mg A) : Fl K H (L.ad .plat) "past" (.ref (L.ad .past)) := B.flP T T.nP_past (lp_past L b)
theorem fq_author (B : Bd A L b H) (T : Txt P w K mg A) (hi : i < b.proposals.length) : Fl K H (L.ad (.pin i)) "author" (vN (pr b i).author) := B.flQ T hi T.nQ_author (lq_author L i _)
theorem fq_time (B : Bd A L b H) (T : Txt P w K mg A) (hi : i < b.proposals.length) : Fl K H (L.ad (.pin i)) "time" (vN (pr b i).time) := B.flQ T hi T.nQ_time (lq_time L i _)
theorem fq_changes (B : Bd A L b H) (T : Txt P w K mg A) (hi : i < b.proposals.length) : Fl K H (L.ad (.pin i)) "changes" (.ref (L.ad (.chg i))) := B.flQ T hi T.nQ_changes (lq_changes L i _)
theorem fq_approvals (B : Bd A L b H) (T : Txt P w K mg A) (hi : i < b.proposals.length) : Fl K H (L.ad (.pin i)) "approvals" (.ref (L.ad (.apr i))) := B.flQ T hi T.nQ_approvals (lq_approvals L i _)
theorem fq_status (B : Bd A L b H) (T : Txt P w K mg A) (hi : i < b.proposals.length) : Fl K H (L.ad (.pin i)) "status" (vN (pr b i).status) := B.flQ T hi T.nQ_status (lq_status L i _)
theorem fq_end (B : Bd A L b H) (T : Txt P w K mg A) (hi : i < b.proposals.length) : Fl K H (L.ad (.pin i)) "end" (vN (pr b i).ended) := B.flQ T hi T.nQ_end (lq_end L i _)
theorem fq_before (B : Bd A L b H) (T : Txt P w K mg A) (hi : i < b.proposals.length) : Fl K H (L.ad (.pin i)) "before" (.ref (L.ad (.bef i))) := B.flQ T hi T.nQ_before (lq_before L i _)
theorem s_sets (B : Bd A L b H) : SqL K H (L.ad .sets) (b.values.map vN) := SqL.of (B.at_ .sets trivial)
theorem s_cls (B : Bd A L b H) : SqL K H (L.ad .cls) (b.classes.map vN) := SqL.of (B.at_ .cls trivial)
theorem s_need (B : Bd A L b H) : SqL K H (L.ad .need) (b.rules.map fun r => vN r.approvals) := SqL.of (B.at_ .need trivial)
theorem s_own (B : Bd A L b H) : SqL K H (L.ad .own) (b.rules.map fun r => vN (b2n r.selfApproval)) := SqL.of (B.at_ .own trivial)
theorem s_frz (B : Bd A L b H) : SqL K H (L.ad .frz) (L.fz.map V.ref) := SqL.of (B.at_ .frz trivial)
theorem s_prs (B : Bd A L b H) : SqL K H (L.ad .prs) ((List.range b.proposals.length).map fun i => .ref (L.ad (.pin i))) := SqL.of (B.at_ .prs trivial)
theorem s_grd (B : Bd A L b H) : SqL K H (L.ad .grd) (L.gd.map V.ref) := SqL.of (B.at_ .grd trivial)
theorem s_log (B : Bd A L b H) : SqL K H (L.ad .log) (L.lg.map V.ref) := SqL.of (B.at_ .log trivial)
theorem s_past (B : Bd A L b H) : SqL K H (L.ad .past) (L.pa.map V.ref) := SqL.of (B.at_ .past trivial)
theorem s_chg (B : Bd A L b H) (hi : i < b.proposals.length) : SqL K H (L.ad (.chg i)) ((L.ch i).map V.ref) := SqL.of (B.at_ (.chg i) hi)
theorem s_apr (B : Bd A L b H) (hi : i < b.proposals.length) : SqL K H (L.ad (.apr i)) ((pr b i).approvals.map vN) := SqL.of (B.at_ (.apr i) hi)
theorem s_bef (B : Bd A L b H) (hi : i < b.proposals.length) : SqL K H (L.ad (.bef i)) ((pr b i).before.map vN) := SqL.of (B.at_ (.bef i) hi)
end
/-! ### what a target's tuple asks -/
section
variable {K : PySem.W.Frag} {σ : L2.St} {H : Hp} {a : Addr} {v1 v2 v3 v4 v5 : V} {i j k l m : Nat} {Q : L2.St → Hp → Prop}
theorem x_un2 (h : SqT K H a [v1, v2]) (q : Q ((σ.set i (some v1)).set j (some v2)) H) : gTup K 2 (gCons (gName i) (gCons (gName j) gNil)) (.ref a) σ H Q := ⟨a, _, rfl, h, rfl, _, _, rfl, _, _, rfl, rfl, q⟩
theorem x_un3 (h : SqT K H a [v1, v2, v3]) (q : Q (((σ.set i (some v1)).set j (some v2)).set k (some v3)) H) : gTup K 3 (gCons (gName i) (gCons (gName j) (gCons (gName k) gNil))) (.ref a) σ H Q := ⟨a, _, rfl, h, rfl, _, _, rfl, _, _, rfl, _, _, rfl, rfl, q⟩
theorem x_un4 (h : SqT K H a [v1, v2, v3, v4]) (q : Q ((((σ.set i (some v1)).set j (some v2)).set k (some v3)).set l (some v4)) H) : gTup K 4 (gCons (gName i) (gCons (gName j) (gCons (gName k) (gCons (gName l) gNil)))) (.ref a) σ H Q := ⟨a, _, rfl, h, rfl, _, _, rfl, _, _, rfl, _, _, rfl, _, _, rfl, rfl, q⟩
theorem x_un5 (h : SqT K H a [v1, v2, v3, v4, v5]) (q : Q (((((σ.set i (some v1)).set j (some v2)).set k (some v3)).set l (some v4)).set m (some v5)) H) : gTup K 5 (gCons (gName i) (gCons (gName j) (gCons (gName k) (gCons (gName l) (gCons (gName m) gNil))))) (.ref a) σ H Q := ⟨a, _, rfl, h, rfl, _, _, rfl, _, _, rfl, _, _, rfl, _, _, rfl, _, _, rfl, rfl, q⟩
theorem x_ul2 (h : SqL K H a [v1, v2]) (q : Q ((σ.set i (some v1)).set j (some v2)) H) : gUnl K 2 (gCons (gName i) (gCons (gName j) gNil)) (.ref a) σ H Q := ⟨a, _, rfl, h, rfl, _, _, rfl, _, _, rfl, rfl, q⟩
theorem x_ul3 (h : SqL K H a [v1, v2, v3]) (q : Q (((σ.set i (some v1)).set j (some v2)).set k (some v3)) H) : gUnl K 3 (gCons (gName i) (gCons (gName j) (gCons (gName k) gNil))) (.ref a) σ H Q := ⟨a, _, rfl, h, rfl, _, _, rfl, _, _, rfl, _, _, rfl, rfl, q⟩
theorem x_ul5 (h : SqL K H a [v1, v2, v3, v4, v5]) (q : Q (((((σ.set i (some v1)).set j (some v2)).set k (some v3)).set l (some v4)).set m (some v5)) H) : gUnl K 5 (gCons (gName i) (gCons (gName j) (gCons (gName k) (gCons (gName l) (gCons (gName m) gNil))))) (.ref a) σ H Q := ⟨a, _, rfl, h, rfl, _, _, rfl, _, _, rfl, _, _, rfl, _, _, rfl, _, _, rfl, rfl, q⟩
end
end Gc
namespace Gc
open PySem PySem.Spec PyProof.Rows L2
open C8 (Cal Mak Met CalAt pe_c pe_mk pe_mt pe_mt0 pe_gc)
/-! ## Plain laws: boards -/
structure PrOk (c : Nat) (p : Kex7.Proposal) : Prop where
  ne : 1 ≤ p.changes.length
  le : p.changes.length ≤ 4
  key : ∀ x ∈ p.changes, x.key < 16
  nd : p.approvals.Nodup
  few : p.approvals.length ≤ c
  bef : p.status = 1 → p.before.length = p.changes.length
def isOpen (p : Kex7.Proposal) : Bool := p.status == 0
def opens (b : Board) : Nat := b.proposals.countP isOpen
def pot (b : Board) : Nat := b.log.length + b.history.length + 5 * opens b
/-- a board that c calls may have made -/
structure Wf (c : Nat) (b : Board) : Prop where
  vals : b.values.length = 16
  cls : b.classes.length = 16
  clv : ∀ x ∈ b.classes, x < 4
  rules : b.rules.length = 4
  frz : b.freezes.length ≤ 8
  grd : b.guards.length ≤ 8
  grk : ∀ g ∈ b.guards, g.key < 16
  prs : b.proposals.length ≤ 20
  pro : ∀ p ∈ b.proposals, PrOk c p
  pot : pot b ≤ 16 * c
  few : c ≤ 1000
theorem Wf.log {c : Nat} {b : Board} (h : Wf c b) : b.log.length ≤ 16000 := by
  have := h.pot
  have := h.few
  unfold Gc.pot at *
  omega
theorem Wf.past {c : Nat} {b : Board} (h : Wf c b) : b.history.length ≤ 16000 := by
  have := h.pot
  have := h.few
  unfold Gc.pot at *
  omega
theorem pr_at {b : Board} {i : Nat} (h : i < b.proposals.length) : b.proposals[i]? = some (pr b i) := by
  unfold pr
  rw [List.getD_eq_getElem?_getD, List.getElem?_eq_getElem h]
  rfl
theorem pr_mem {b : Board} {i : Nat} (h : i < b.proposals.length) : pr b i ∈ b.proposals := List.mem_of_getElem? (pr_at h)
theorem pr_of {b : Board} {i : Nat} {p : Kex7.Proposal} (h : b.proposals[i]? = some p) : pr b i = p := by
  unfold pr
  rw [List.getD_eq_getElem?_getD, h]
  rfl
theorem Wf.p {c : Nat} {b : Board} (h : Wf c b) {i : Nat} (hi : i < b.proposals.length) : PrOk c (pr b i) := h.pro _ (pr_mem hi)
theorem getD_at {T : Type} {l : List T} {k : Nat} {d : T} (h : k < l.length) : l[k]? = some (l.getD k d) := by
  rw [List.getD_eq_getElem?_getD, List.getElem?_eq_getElem h]
  rfl
theorem getD_mem {T : Type} {l : List T} {k : Nat} {d : T} (h : k < l.length) : l.getD k d ∈ l := List.mem_of_getElem? (getD_at h)
theorem at_vN {l : List Nat} {k : Nat} (h : k < l.length) : atI (l.map vN) (k : Int) = some (vN (l.getD k 0)) := atI_n (by rw [List.getElem?_map, getD_at (d := 0) h]; rfl)
/-- the class of a setting -/
def clsOf (b : Board) (k : Nat) : Nat := b.classes.getD k 0
theorem Wf.cl_lt {c : Nat} {b : Board} (h : Wf c b) {k : Nat} (hk : k < 16) : clsOf b k < 4 := h.clv _ (getD_mem (by rw [h.cls]; exact hk))
theorem at_need {b : Board} {k : Nat} (h : k < b.rules.length) : atI (b.rules.map fun r => vN r.approvals) (k : Int) = some (vN (b.rules.getD k ⟨0, true⟩).approvals) := atI_n (by rw [List.getElem?_map, getD_at (d := (⟨0, true⟩ : Kex7.Rule)) h]; rfl)
theorem at_own {b : Board} {k : Nat} (h : k < b.rules.length) : atI (b.rules.map fun r => vN (b2n r.selfApproval)) (k : Int) = some (vN (b2n (b.rules.getD k ⟨0, true⟩).selfApproval)) := atI_n (by rw [List.getElem?_map, getD_at (d := (⟨0, true⟩ : Kex7.Rule)) h]; rfl)
/-! ### needed, valid, missing -/
theorem foldl_max_le : ∀ (l : List Nat) (n : Nat), n ≤ l.foldl max n ∧ ∀ y ∈ l, y ≤ l.foldl max n
  | [], n => ⟨Nat.le_refl _, fun y h => absurd h (by simp)⟩
  | x :: r, n => by
    obtain ⟨h1, h2⟩ := foldl_max_le r (max n x)
    refine ⟨Nat.le_trans (Nat.le_max_left ..) h1, fun y hy => ?_⟩
    rcases List.mem_cons.mp hy with rfl | hy
    · exact Nat.le_trans (Nat.le_max_right ..) h1
    · exact h2 y hy
theorem foldl_max_in : ∀ (l : List Nat) (n : Nat), l.foldl max n = n ∨ l.foldl max n ∈ l
  | [], n => .inl rfl
  | x :: r, n => by
    rcases foldl_max_in r (max n x) with h | h
    · rw [List.foldl_cons, h]
      by_cases c : n ≤ x
      · rw [Nat.max_eq_right c]
        exact .inr (List.mem_cons_self ..)
      · rw [Nat.max_eq_left (by omega)]
        exact .inl rfl
    · exact .inr (List.mem_cons_of_mem _ h)
theorem max_is {l : List Nat} {m : Nat} (h1 : m ∈ l) (h2 : ∀ y ∈ l, y ≤ m) : l.foldl max 0 = m := by
  have a := (foldl_max_le l 0).2 m h1
  rcases foldl_max_in l 0 with h | h
  · omega
  · have := h2 _ h
    omega
theorem needed_def (b : Board) (p : Kex7.Proposal) : Kex7.needed b p = (p.changes.map fun c => (Kex7.ruleOf b c).approvals).foldl max 0 := by
  unfold Kex7.needed
  rw [List.foldl_map]
theorem self_of {b : Board} {p : Kex7.Proposal} {m : Nat} (h1 : m ∈ p.changes.map fun c => b2n (Kex7.ruleOf b c).selfApproval) (h2 : ∀ y ∈ p.changes.map fun c => b2n (Kex7.ruleOf b c).selfApproval, m ≤ y) : Kex7.countsSelf b p = decide (m = 1) := by
  unfold Kex7.countsSelf
  have lo : ∀ z : Bool, b2n z = 1 ↔ z = true := fun z => by cases z <;> simp [b2n]
  have hi : ∀ z : Bool, b2n z ≤ 1 := fun z => by cases z <;> simp [b2n]
  rw [Bool.eq_iff_iff, List.all_eq_true, decide_eq_true_iff]
  constructor
  · intro h
    obtain ⟨c, hc, rfl⟩ := List.mem_map.mp h1
    exact (lo _).mpr (h c hc)
  · intro e c hc
    have := h2 _ (List.mem_map.mpr ⟨c, hc, rfl⟩)
    have := hi (Kex7.ruleOf b c).selfApproval
    exact (lo _).mp (by omega)
theorem missing_int (n v : Nat) : (if (n : Int) - (v : Int) > 0 then (n : Int) - (v : Int) else 0) = ((n - v : Nat) : Int) := by
  split <;> omega
end Gc
namespace Gc
open PySem PySem.Spec PyProof.Rows L2
open C8 (Cal Mak Met CalAt pe_c pe_mk pe_mt pe_mt0 pe_gc)
/-! ## Plain laws: attempts, settling, reports -/
theorem countP_set {T : Type} {f : T → Bool} : ∀ {l : List T} {i : Nat} {p q : T}, l[i]? = some p → (l.set i q).countP f + (if f p = true then 1 else 0) = l.countP f + (if f q = true then 1 else 0)
  | [], i, p, q, h => by simp at h
  | x :: r, 0, p, q, h => by
    have e : x = p := Option.some.inj h
    subst e
    show (q :: r).countP f + _ = _
    rw [List.countP_cons, List.countP_cons]
    omega
  | x :: r, i + 1, p, q, h => by
    have ih := countP_set (f := f) (l := r) (i := i) (p := p) (q := q) h
    show (x :: r.set i q).countP f + _ = _
    rw [List.countP_cons, List.countP_cons]
    omega
theorem mem_set_or {T : Type} {l : List T} {i : Nat} {q x : T} (h : x ∈ l.set i q) : x ∈ l ∨ x = q := List.mem_or_eq_of_mem_set h
theorem opens_set {b : Board} {i : Nat} {p q : Kex7.Proposal} (h : b.proposals[i]? = some p) (hp : p.status = 0) (hq : q.status ≠ 0) : opens (Kex7.withProposal b i q) + 1 = opens b := by
  have e := countP_set (f := isOpen) (q := q) h
  rw [if_pos (by unfold isOpen; rw [hp]; rfl), if_neg (by unfold isOpen; rw [beq_iff_eq]; exact hq)] at e
  exact e
theorem opens_same {b : Board} {i : Nat} {p q : Kex7.Proposal} (h : b.proposals[i]? = some p) (e : isOpen q = isOpen p) : opens (Kex7.withProposal b i q) = opens b := by
  have z := countP_set (f := isOpen) (q := q) h
  rw [e] at z
  exact Nat.add_right_cancel z
/-- what assignments leave alone -/
structure AsgLike (n : Nat) (x y : Board) : Prop where
  people : y.people = x.people
  clock : y.clock = x.clock
  vals : y.values.length = x.values.length
  classes : y.classes = x.classes
  rules : y.rules = x.rules
  freezes : y.freezes = x.freezes
  proposals : y.proposals = x.proposals
  guards : y.guards = x.guards
  log : y.log = x.log
  hist : y.history.length = x.history.length + n
theorem AsgLike.pr {n : Nat} {x y : Board} (h : AsgLike n x y) (i : Nat) : Gc.pr y i = Gc.pr x i := by
  unfold Gc.pr
  rw [h.proposals]
theorem asgs_like (i : Nat) : ∀ (l : List Kex7.Change) (x : Board), AsgLike l.length x (l.foldl (fun x c => Kex7.assign x i c) x)
  | [], x => ⟨rfl, rfl, rfl, rfl, rfl, rfl, rfl, rfl, rfl, rfl⟩
  | c :: r, x => by
    have h := asgs_like i r (Kex7.assign x i c)
    refine ⟨h.people, h.clock, ?_, h.classes, h.rules, h.freezes, h.proposals, h.guards, h.log, ?_⟩
    · rw [List.foldl_cons, h.vals]
      exact List.length_set
    · rw [List.foldl_cons, h.hist, List.length_cons]
      show (x.history ++ [_]).length + _ = _
      rw [List.length_append, List.length_singleton]
      omega
theorem asgs_with (i j : Nat) (q : Kex7.Proposal) : ∀ (l : List Kex7.Change) (x : Board), l.foldl (fun x c => Kex7.assign x i c) (Kex7.withProposal x j q) = Kex7.withProposal (l.foldl (fun x c => Kex7.assign x i c) x) j q
  | [], x => rfl
  | c :: r, x => asgs_with i j q r (Kex7.assign x i c)
/-! ### attempt -/
def skips (b : Board) (p : Kex7.Proposal) : Prop := p.status ≠ 0 ∨ b.clock < p.time ∨ 0 < Kex7.missing b p
theorem att_skip {b : Board} {i : Nat} {p : Kex7.Proposal} (h : b.proposals[i]? = some p) (s : skips b p) : Kex7.attempt b i = b := by
  unfold Kex7.attempt
  rw [h]
  exact if_pos s
theorem att_fail {b : Board} {i : Nat} {p : Kex7.Proposal} (h : b.proposals[i]? = some p) (s : ¬ skips b p) (f : Kex7.fits b p = false) : Kex7.attempt b i = Kex7.logged (Kex7.withProposal b i { p with status := 3, ended := b.clock }) 6 p.author i := by
  unfold Kex7.attempt
  rw [h]
  dsimp only
  rw [if_neg (by exact s), if_pos f]
def befV (b : Board) (p : Kex7.Proposal) : List Nat := p.changes.map fun c => b.values.getD c.key 0
theorem att_done {b : Board} {i : Nat} {p : Kex7.Proposal} (h : b.proposals[i]? = some p) (s : ¬ skips b p) (f : Kex7.fits b p = true) :
    Kex7.attempt b i = Kex7.logged (Kex7.withProposal (p.changes.foldl (fun x c => Kex7.assign x i c) b) i { p with status := 1, ended := b.clock, before := befV b p }) 5 p.author i := by
  unfold Kex7.attempt
  rw [h]
  dsimp only
  rw [if_neg (by exact s), if_neg (by rw [f]; exact Bool.noConfusion), asgs_with]
  rfl
theorem Wf.att {c : Nat} {b : Board} (W : Wf c b) (i : Nat) : Wf c (Kex7.attempt b i) := by
  by_cases hi : i < b.proposals.length
  · have h := pr_at hi
    have hp := W.p hi
    by_cases s : skips b (pr b i)
    · rw [att_skip h s]
      exact W
    · have s0 : (pr b i).status = 0 := by
        by_cases z : (pr b i).status = 0
        · exact z
        · exact absurd (Or.inl z) s
      have hpot := W.pot
      cases f : Kex7.fits b (pr b i) with
      | false =>
        rw [att_fail h s f]
        have ho := opens_set (q := { pr b i with status := 3, ended := b.clock }) h s0 (by show (3 : Nat) ≠ 0; omega)
        refine ⟨W.vals, W.cls, W.clv, W.rules, W.frz, W.grd, W.grk, ?_, ?_, ?_, W.few⟩
        · show (b.proposals.set i _).length ≤ 20
          rw [List.length_set]
          exact W.prs
        · intro p hp'
          rcases mem_set_or hp' with z | rfl
          · exact W.pro p z
          · exact ⟨hp.ne, hp.le, hp.key, hp.nd, hp.few, fun z => absurd (show (3 : Nat) = 1 from z) (by omega)⟩
        · have key : ∀ (q : Kex7.Proposal) (w : Nat), opens (Kex7.withProposal b i q) + 1 = opens b → Gc.pot (Kex7.logged (Kex7.withProposal b i q) 6 w i) ≤ 16 * c := fun q w hq => by
            unfold Gc.pot at hpot ⊢
            show (b.log ++ [_]).length + b.history.length + 5 * opens (Kex7.withProposal b i q) ≤ _
            rw [List.length_append, List.length_singleton]
            omega
          exact key _ _ ho
      | true =>
        rw [att_done h s f]
        have like := asgs_like i (pr b i).changes b
        generalize (pr b i).changes.foldl (fun x c => Kex7.assign x i c) b = y at like
        have ho : opens (Kex7.withProposal y i { pr b i with status := 1, ended := b.clock, before := befV b (pr b i) }) + 1 = opens y := opens_set (by rw [like.proposals]; exact h) s0 (by show (1 : Nat) ≠ 0; omega)
        have hoy : opens y = opens b := by unfold opens; rw [like.proposals]
        refine ⟨by show y.values.length = 16; rw [like.vals]; exact W.vals, by show y.classes.length = 16; rw [like.classes]; exact W.cls, fun x hx => W.clv x (by rw [← like.classes]; exact hx), by show y.rules.length = 4; rw [like.rules]; exact W.rules,
          by show y.freezes.length ≤ 8; rw [like.freezes]; exact W.frz, by show y.guards.length ≤ 8; rw [like.guards]; exact W.grd, fun g hg => W.grk g (by rw [← like.guards]; exact hg), ?_, ?_, ?_, W.few⟩
        · show (y.proposals.set i _).length ≤ 20
          rw [List.length_set, like.proposals]
          exact W.prs
        · intro p hp'
          rcases mem_set_or hp' with z | rfl
          · rw [like.proposals] at z
            exact W.pro p z
          · exact ⟨hp.ne, hp.le, hp.key, hp.nd, hp.few, fun _ => by unfold befV; exact List.length_map ..⟩
        · have key : ∀ (q : Kex7.Proposal) (w : Nat), opens (Kex7.withProposal y i q) + 1 = opens y → Gc.pot (Kex7.logged (Kex7.withProposal y i q) 5 w i) ≤ 16 * c := fun q w hq => by
            unfold Gc.pot at hpot ⊢
            show (y.log ++ [_]).length + y.history.length + 5 * opens (Kex7.withProposal y i q) ≤ _
            rw [List.length_append, List.length_singleton, like.log, like.hist]
            have := hp.le
            omega
          exact key _ _ ho
  · have e : Kex7.attempt b i = b := by
      unfold Kex7.attempt
      rw [List.getElem?_eq_none (by omega)]
    rw [e]
    exact W
theorem att_len (b : Board) (i : Nat) : (Kex7.attempt b i).proposals.length = b.proposals.length := by
  by_cases hi : i < b.proposals.length
  · have h := pr_at hi
    by_cases s : skips b (pr b i)
    · rw [att_skip h s]
    · cases f : Kex7.fits b (pr b i) with
      | false =>
        rw [att_fail h s f]
        exact List.length_set
      | true =>
        rw [att_done h s f]
        have like := asgs_like i (pr b i).changes b
        show (List.set _ _ _).length = _
        rw [List.length_set, like.proposals]
  · unfold Kex7.attempt
    rw [List.getElem?_eq_none (by omega)]
/-- what an attempt leaves of each proposal, and of the rest -/
structure Kept (b b' : Board) : Prop where
  len : b'.proposals.length = b.proposals.length
  appr : ∀ i, i < b.proposals.length → (pr b' i).approvals = (pr b i).approvals
  people : b'.people = b.people
  clock : b'.clock = b.clock
  freezes : b'.freezes = b.freezes
  guards : b'.guards = b.guards
  classes : b'.classes = b.classes
theorem Kept.refl (b : Board) : Kept b b := ⟨rfl, fun _ _ => rfl, rfl, rfl, rfl, rfl, rfl⟩
theorem Kept.trans {a b c : Board} (x : Kept a b) (y : Kept b c) : Kept a c := ⟨y.len.trans x.len, fun i h => (y.appr i (by rw [x.len]; exact h)).trans (x.appr i h), y.people.trans x.people, y.clock.trans x.clock, y.freezes.trans x.freezes, y.guards.trans x.guards, y.classes.trans x.classes⟩
theorem pr_set_same {b : Board} {i : Nat} {q : Kex7.Proposal} (h : i < b.proposals.length) : pr (Kex7.withProposal b i q) i = q := pr_of (List.getElem?_set_self h)
theorem pr_set_ne {b : Board} {i j : Nat} {q : Kex7.Proposal} (h : i ≠ j) : pr (Kex7.withProposal b i q) j = pr b j := by
  unfold pr Kex7.withProposal
  rw [List.getD_eq_getElem?_getD, List.getElem?_set_ne h, ← List.getD_eq_getElem?_getD]
theorem kept_set {b : Board} {i : Nat} {q : Kex7.Proposal} (h : i < b.proposals.length) (e : q.approvals = (pr b i).approvals) : Kept b (Kex7.withProposal b i q) :=
  ⟨List.length_set, fun j hj => by
    by_cases c : i = j
    · subst c
      rw [pr_set_same h, e]
    · rw [pr_set_ne c], rfl, rfl, rfl, rfl, rfl⟩
theorem kept_att (b : Board) (i : Nat) : Kept b (Kex7.attempt b i) := by
  by_cases hi : i < b.proposals.length
  · have h := pr_at hi
    by_cases s : skips b (pr b i)
    · rw [att_skip h s]
      exact Kept.refl b
    · cases f : Kex7.fits b (pr b i) with
      | false =>
        rw [att_fail h s f]
        have k := kept_set (q := { pr b i with status := 3, ended := b.clock }) hi rfl
        exact ⟨k.len, k.appr, k.people, k.clock, k.freezes, k.guards, k.classes⟩
      | true =>
        rw [att_done h s f]
        have like := asgs_like i (pr b i).changes b
        generalize (pr b i).changes.foldl (fun x c => Kex7.assign x i c) b = y at like
        have ep : ∀ j, pr y j = pr b j := fun j => by unfold pr; rw [like.proposals]
        have k := kept_set (b := y) (i := i) (q := { pr b i with status := 1, ended := b.clock, before := befV b (pr b i) }) (by rw [like.proposals]; exact hi) (by rw [ep])
        refine ⟨k.len.trans (by rw [like.proposals]), fun j hj => (k.appr j (by rw [like.proposals]; exact hj)).trans (by rw [ep]), k.people.trans like.people, k.clock.trans like.clock, k.freezes.trans like.freezes, k.guards.trans like.guards, k.classes.trans like.classes⟩
  · have e : Kex7.attempt b i = b := by
      unfold Kex7.attempt
      rw [List.getElem?_eq_none (by omega)]
    rw [e]
    exact Kept.refl b
/-! ### settle -/
def stl (b : Board) (k : Nat) : Board := (List.range k).foldl Kex7.attempt b
theorem stl_more (b : Board) (k : Nat) : stl b (k + 1) = Kex7.attempt (stl b k) k := by
  unfold stl
  rw [List.range_succ, List.foldl_append]
  rfl
theorem Wf.stl {c : Nat} {b : Board} (W : Wf c b) : ∀ k, Wf c (stl b k)
  | 0 => W
  | k + 1 => by
    rw [stl_more]
    exact (W.stl k).att k
theorem kept_stl (b : Board) : ∀ k, Kept b (stl b k)
  | 0 => Kept.refl b
  | k + 1 => by
    rw [stl_more]
    exact (kept_stl b k).trans (kept_att _ k)
theorem settle_def (b : Board) : Kex7.settle b = if Kex7.isFrozenAt b.freezes b.clock = true then b else stl b b.proposals.length := rfl
theorem Wf.settle {c : Nat} {b : Board} (W : Wf c b) : Wf c (Kex7.settle b) := by
  rw [settle_def]
  split
  · exact W
  · exact W.stl _
theorem kept_settle (b : Board) : Kept b (Kex7.settle b) := by
  rw [settle_def]
  split
  · exact Kept.refl b
  · exact kept_stl b _
end Gc
namespace Gc
open PySem PySem.Spec PyProof.Rows L2
open C8 (Cal Mak Met CalAt pe_c pe_mk pe_mt pe_mt0 pe_gc)
/-! ## How a board's cells are written -/
section
variable {A : Ad} {L : Lay} {b : Board} {H : Hp} {i : Nat}
theorem Bd.setP (B : Bd A L b H) (hi : i < b.proposals.length) (q : Kex7.Proposal) (ec : q.changes = (pr b i).changes) (ea : q.approvals = (pr b i).approvals) (eb : q.before = (pr b i).before) :
    Bd A L (Kex7.withProposal b i q) (upd H (L.ad (.pin i)) (.ins A.CQ (L.ad (.pdx i)) (prF L i q))) ∧ Fr L b H L (Kex7.withProposal b i q) (upd H (L.ad (.pin i)) (.ins A.CQ (L.ad (.pdx i)) (prF L i q))) := by
  have hl : (Kex7.withProposal b i q).proposals.length = b.proposals.length := List.length_set
  have e0 : cont A L (Kex7.withProposal b i q) (.pin i) = .ins A.CQ (L.ad (.pdx i)) (prF L i q) := by
    show HO.ins _ _ (prF L i (pr _ i)) = _
    rw [pr_set_same hi]
  have hw := B.write0 (b' := Kex7.withProposal b i q) (.pin i) hi hl (fun s hs hne => by
    cases s with
    | prs =>
      show HO.lst ((List.range (Kex7.withProposal b i q).proposals.length).map _) = HO.lst ((List.range b.proposals.length).map _)
      rw [hl]
    | pin j =>
      have hj : i ≠ j := fun e => hne (by rw [e])
      show HO.ins _ _ (prF L j (pr _ j)) = HO.ins _ _ (prF L j (pr b j))
      rw [pr_set_ne hj]
    | apr j =>
      show HO.lst ((pr _ j).approvals.map vN) = HO.lst ((pr b j).approvals.map vN)
      by_cases hj : i = j
      · subst hj
        rw [pr_set_same hi, ea]
      · rw [pr_set_ne hj]
    | bef j =>
      show HO.lst ((pr _ j).before.map vN) = HO.lst ((pr b j).before.map vN)
      by_cases hj : i = j
      · subst hj
        rw [pr_set_same hi, eb]
      · rw [pr_set_ne hj]
    | _ => rfl) rfl rfl rfl rfl (fun j hj => by
      by_cases c : i = j
      · subst c
        rw [pr_set_same hi, ec]
      · rw [pr_set_ne c])
  rw [e0] at hw
  exact ⟨hw, Fr.write (L := L) (b := b) (L' := L) (b' := Kex7.withProposal b i q) (.pin i) hi rfl rfl hl _⟩
/-- the layout with a new list of old values -/
def Lay.bef (L : Lay) (i : Nat) (D : Addr) : Lay := { L with ad := fun r => if r = .bef i then D else L.ad r }
theorem Lay.bef_at (L : Lay) (i : Nat) (D : Addr) : (L.bef i D).ad (.bef i) = D := if_pos rfl
theorem Lay.bef_ne (L : Lay) (i : Nat) (D : Addr) {r : Ro} (h : r ≠ .bef i) : (L.bef i D).ad r = L.ad r := if_neg h
theorem Bd.newBef {H0 : Hp} (B : Bd A L b H) (hi : i < b.proposals.length) {D : Addr} {vals : List Nat} (s : Same H0 H) (B0 : Bd A L b H0) (n0 : H0 D = none) (e1 : H D = some (.lst (vals.map vN))) :
    Bd A (L.bef i D) (Kex7.withProposal b i { pr b i with before := vals }) (upd H (L.ad (.pin i)) (.ins A.CQ (L.ad (.pdx i)) (putF "before" (.ref D) (prF L i (pr b i))))) ∧
    Fr L b H0 (L.bef i D) (Kex7.withProposal b i { pr b i with before := vals }) (upd H (L.ad (.pin i)) (.ins A.CQ (L.ad (.pdx i)) (putF "before" (.ref D) (prF L i (pr b i))))) := by
  obtain ⟨q, hq⟩ : ∃ q : Kex7.Proposal, q = { pr b i with before := vals } := ⟨_, rfl⟩
  rw [← hq]
  have hl : (Kex7.withProposal b i q).proposals.length = b.proposals.length := List.length_set
  have lv : ∀ {r}, Lv (Kex7.withProposal b i q) r → Lv b r := fun x => x.more (Nat.le_of_eq hl)
  have hD : ∀ r, Lv b r → L.ad r ≠ D := fun r hr e => by
    have z := B0.at_ r hr
    rw [e, n0] at z
    cases z
  have ep := pr_set_same (q := q) hi
  have fp : putF "before" (.ref D) (prF L i (pr b i)) = prF (L.bef i D) i q := pq_before L (L.bef i D) i (pr b i) q D (L.bef_ne i D (by intro e; cases e)) (L.bef_ne i D (by intro e; cases e)) (L.bef_at i D) (by rw [hq])
  rw [fp]
  have tup : ∀ t v, H t = some (.tup v) → (upd H (L.ad (.pin i)) (.ins A.CQ (L.ad (.pdx i)) (prF (L.bef i D) i q))) t = some (.tup v) := fun t v h => by
    rw [upd_ne (B.tup_ne h (r := .pin i) hi)]
    exact h
  refine ⟨⟨fun r t h1 h2 e => ?_, fun r hr => ?_, B.fz.mono tup, B.gd.mono tup, B.lg.mono tup, B.pa.mono tup, fun j hj => ?_⟩, ⟨fun c o h n => ?_, fun r hr hn => L.bef_ne i D (hn i), fun _ _ => rfl, Nat.le_of_eq hl.symm⟩⟩
  · by_cases c1 : r = .bef i
    · by_cases c2 : t = .bef i
      · rw [c1, c2]
      · rw [c1, L.bef_at, L.bef_ne i D c2] at e
        exact absurd e.symm (hD t (lv h2))
    · by_cases c2 : t = .bef i
      · rw [c2, L.bef_at, L.bef_ne i D c1] at e
        exact absurd e (hD r (lv h1))
      · rw [L.bef_ne i D c1, L.bef_ne i D c2] at e
        exact B.inj r t (lv h1) (lv h2) e
  · by_cases c1 : r = .bef i
    · subst c1
      rw [L.bef_at, upd_ne fun z => hD (.pin i) hi z.symm, e1]
      show _ = some (HO.lst ((pr _ i).before.map vN))
      rw [ep, hq]
    · rw [L.bef_ne i D c1]
      by_cases c2 : r = .pin i
      · subst c2
        rw [upd_same]
        show _ = some (HO.ins A.CQ ((L.bef i D).ad (.pdx i)) (prF (L.bef i D) i (pr _ i)))
        rw [ep, L.bef_ne i D (by intro e; cases e)]
      · rw [upd_ne fun z => c2 (B.inj r _ (lv hr) hi z), B.at_ r (lv hr)]
        cases r with
        | pin j =>
          have hj : i ≠ j := fun e => c2 (by rw [e])
          simp [cont, prF, Lay.bef, pr_set_ne hj, Ne.symm hj]
        | apr j =>
          by_cases hj : i = j
          · subst hj
            show some (HO.lst ((pr b i).approvals.map vN)) = some (HO.lst ((pr _ i).approvals.map vN))
            rw [ep, hq]
          · simp [cont, pr_set_ne hj]
        | bef j =>
          have hj : i ≠ j := fun e => c1 (by rw [e])
          simp [cont, pr_set_ne hj]
        | prs => simp [cont, Lay.bef, Kex7.withProposal]
        | _ => simp [cont, plF, Lay.bef, Kex7.withProposal]
  · rw [hl] at hj
    have e2 : (pr (Kex7.withProposal b i q) j).changes = (pr b j).changes := by
      by_cases c : i = j
      · subst c
        rw [ep, hq]
      · rw [pr_set_ne c]
    rw [e2]
    exact (B.ch j hj).mono tup
  · refine ⟨by rw [upd_ne fun z => n ⟨.pin i, hi, z.symm⟩]; exact s c o h, fun ⟨r, h1, h2⟩ => ?_⟩
    by_cases c1 : r = .bef i
    · rw [c1, L.bef_at] at h2
      rw [← h2, n0] at h
      cases h
    · rw [L.bef_ne i D c1] at h2
      exact n ⟨r, lv h1, h2⟩
end
end Gc
namespace Gc
open PySem PySem.Spec PyProof.Rows L2
open C8 (Cal Mak Met CalAt pe_c pe_mk pe_mt pe_mt0 pe_gc)
/-! ## A new proposal among the others -/
structure NewP (A : Ad) (H : Hp) (x dx cl al bl : Addr) (chs : List Addr) (author time : Nat) (cs : List Kex7.Change) : Prop where
  hx : H x = some (.ins A.CQ dx [("author", vN author), ("time", vN time), ("changes", .ref cl), ("approvals", .ref al), ("status", vN 0), ("end", vN 0), ("before", .ref bl)])
  hdx : H dx = some (.own x)
  hcl : H cl = some (.lst (chs.map V.ref))
  hal : H al = some (.lst [])
  hbl : H bl = some (.lst [])
  hch : Tups H chs (cs.map tCh)
  n1 : cl ≠ al
  n2 : cl ≠ bl
  n3 : al ≠ bl
theorem NewP.mono {A : Ad} {H H' : Hp} {x dx cl al bl : Addr} {chs : List Addr} {author time : Nat} {cs : List Kex7.Change} (N : NewP A H x dx cl al bl chs author time cs) (s : Same H H') : NewP A H' x dx cl al bl chs author time cs :=
  ⟨s _ _ N.hx, s _ _ N.hdx, s _ _ N.hcl, s _ _ N.hal, s _ _ N.hbl, N.hch.mono fun t v => s t _, N.n1, N.n2, N.n3⟩
def Lay.newp (L : Lay) (n : Nat) (x dx cl al bl : Addr) (chs : List Addr) : Lay := { L with
  ad := fun r => if r = .pin n then x else if r = .pdx n then dx else if r = .chg n then cl else if r = .apr n then al else if r = .bef n then bl else L.ad r
  ch := fun i => if i = n then chs else L.ch i }
/-- the board with one more proposal -/
def plusP (b : Board) (author time : Nat) (cs : List Kex7.Change) : Board := { b with proposals := b.proposals ++ [⟨author, time, cs, [], 0, 0, []⟩] }
theorem plus_len (b : Board) (author time : Nat) (cs : List Kex7.Change) : (plusP b author time cs).proposals.length = b.proposals.length + 1 := List.length_append
theorem plus_old {b : Board} {author time : Nat} {cs : List Kex7.Change} {i : Nat} (h : i < b.proposals.length) : pr (plusP b author time cs) i = pr b i := pr_of (by
  show (b.proposals ++ _)[i]? = _
  rw [List.getElem?_append_left h]
  exact pr_at h)
theorem plus_new (b : Board) (author time : Nat) (cs : List Kex7.Change) : pr (plusP b author time cs) b.proposals.length = ⟨author, time, cs, [], 0, 0, []⟩ := pr_of (by
  show (b.proposals ++ _)[b.proposals.length]? = _
  rw [List.getElem?_append_right (Nat.le_refl _), Nat.sub_self]
  rfl)
inductive New5 (n : Nat) : Ro → Prop
  | pin : New5 n (.pin n)
  | pdx : New5 n (.pdx n)
  | chg : New5 n (.chg n)
  | apr : New5 n (.apr n)
  | bef : New5 n (.bef n)
theorem lv_plus {b : Board} {author time : Nat} {cs : List Kex7.Change} {r : Ro} (h : Lv (plusP b author time cs) r) : Lv b r ∨ New5 b.proposals.length r := by
  have hl := plus_len b author time cs
  cases r with
  | pin i =>
    have h : i < (plusP b author time cs).proposals.length := h
    by_cases c : i < b.proposals.length
    · exact .inl c
    · rw [show i = b.proposals.length by omega]
      exact .inr .pin
  | pdx i =>
    have h : i < (plusP b author time cs).proposals.length := h
    by_cases c : i < b.proposals.length
    · exact .inl c
    · rw [show i = b.proposals.length by omega]
      exact .inr .pdx
  | chg i =>
    have h : i < (plusP b author time cs).proposals.length := h
    by_cases c : i < b.proposals.length
    · exact .inl c
    · rw [show i = b.proposals.length by omega]
      exact .inr .chg
  | apr i =>
    have h : i < (plusP b author time cs).proposals.length := h
    by_cases c : i < b.proposals.length
    · exact .inl c
    · rw [show i = b.proposals.length by omega]
      exact .inr .apr
  | bef i =>
    have h : i < (plusP b author time cs).proposals.length := h
    by_cases c : i < b.proposals.length
    · exact .inl c
    · rw [show i = b.proposals.length by omega]
      exact .inr .bef
  | _ => exact .inl trivial
theorem lv_new {b : Board} {r : Ro} (h : Lv b r) : ¬ New5 b.proposals.length r := fun z => by
  cases z <;> exact absurd (show b.proposals.length < b.proposals.length from h) (Nat.lt_irrefl _)
section
variable {A : Ad} {L : Lay} {b : Board} {H H0 : Hp} {n : Nat} {x dx cl al bl : Addr} {chs : List Addr}
theorem newp_old {r : Ro} (h : ¬ New5 n r) : (L.newp n x dx cl al bl chs).ad r = L.ad r := by
  unfold Lay.newp
  dsimp only
  rw [if_neg (show ¬ r = .pin n from fun e => h (by rw [e]; exact .pin)), if_neg (show ¬ r = .pdx n from fun e => h (by rw [e]; exact .pdx)), if_neg (show ¬ r = .chg n from fun e => h (by rw [e]; exact .chg)), if_neg (show ¬ r = .apr n from fun e => h (by rw [e]; exact .apr)), if_neg (show ¬ r = .bef n from fun e => h (by rw [e]; exact .bef))]
theorem newp_pin : (L.newp n x dx cl al bl chs).ad (.pin n) = x := if_pos rfl
theorem newp_pdx : (L.newp n x dx cl al bl chs).ad (.pdx n) = dx := by simp [Lay.newp]
theorem newp_chg : (L.newp n x dx cl al bl chs).ad (.chg n) = cl := by simp [Lay.newp]
theorem newp_apr : (L.newp n x dx cl al bl chs).ad (.apr n) = al := by simp [Lay.newp]
theorem newp_bef : (L.newp n x dx cl al bl chs).ad (.bef n) = bl := by simp [Lay.newp]
theorem Bd.newP {author time : Nat} {cs : List Kex7.Change} (B : Bd A L b H) (B0 : Bd A L b H0) (s : Same H0 H) (N : NewP A H x dx cl al bl chs author time cs) (fx : H0 x = none) (fdx : H0 dx = none) (fcl : H0 cl = none) (fal : H0 al = none) (fbl : H0 bl = none) :
    Bd A (L.newp b.proposals.length x dx cl al bl chs) (plusP b author time cs) (upd H (L.ad .prs) (.lst (((List.range b.proposals.length).map fun i => V.ref (L.ad (.pin i))) ++ [V.ref x]))) ∧
    Fr L b H0 (L.newp b.proposals.length x dx cl al bl chs) (plusP b author time cs) (upd H (L.ad .prs) (.lst (((List.range b.proposals.length).map fun i => V.ref (L.ad (.pin i))) ++ [V.ref x]))) := by
  have far : ∀ {a}, H0 a = none → ∀ {r}, Lv b r → L.ad r ≠ a := fun {a} h {r} hr e => by
    have z := B0.at_ r hr
    rw [e, h] at z
    cases z
  have d1 : x ≠ dx := ne_of N.hx N.hdx (by intro z; cases z)
  have d2 : x ≠ cl := ne_of N.hx N.hcl (by intro z; cases z)
  have d3 : x ≠ al := ne_of N.hx N.hal (by intro z; cases z)
  have d4 : x ≠ bl := ne_of N.hx N.hbl (by intro z; cases z)
  have d5 : dx ≠ cl := ne_of N.hdx N.hcl (by intro z; cases z)
  have d6 : dx ≠ al := ne_of N.hdx N.hal (by intro z; cases z)
  have d7 : dx ≠ bl := ne_of N.hdx N.hbl (by intro z; cases z)
  have d8 := N.n1
  have d9 := N.n2
  have d10 := N.n3
  have new : ∀ {r}, New5 b.proposals.length r → ∃ a, (L.newp b.proposals.length x dx cl al bl chs).ad r = a ∧ H0 a = none := fun {r} h => by
    cases h with
    | pin => exact ⟨_, newp_pin, fx⟩
    | pdx => exact ⟨_, newp_pdx, fdx⟩
    | chg => exact ⟨_, newp_chg, fcl⟩
    | apr => exact ⟨_, newp_apr, fal⟩
    | bef => exact ⟨_, newp_bef, fbl⟩
  have tup : ∀ t v, H t = some (.tup v) → (upd H (L.ad .prs) (.lst (((List.range b.proposals.length).map fun i => V.ref (L.ad (.pin i))) ++ [V.ref x]))) t = some (.tup v) := fun t v h => by
    rw [upd_ne (B.tup_ne h (r := .prs) trivial)]
    exact h
  refine ⟨⟨fun r t h1 h2 e => ?_, fun r hr => ?_, B.fz.mono tup, B.gd.mono tup, B.lg.mono tup, B.pa.mono tup, fun j hj => ?_⟩, ⟨fun c o h nf => ?_, fun r hr hn => newp_old (lv_new hr), fun i hi => if_neg (by omega), by rw [plus_len]; omega⟩⟩
  · rcases lv_plus h1 with o1 | w1
    · rcases lv_plus h2 with o2 | w2
      · rw [newp_old (lv_new o1), newp_old (lv_new o2)] at e
        exact B.inj r t o1 o2 e
      · obtain ⟨a, ea, fa⟩ := new w2
        rw [newp_old (lv_new o1), ea] at e
        exact absurd e (far fa o1)
    · rcases lv_plus h2 with o2 | w2
      · obtain ⟨a, ea, fa⟩ := new w1
        rw [newp_old (lv_new o2), ea] at e
        exact absurd e.symm (far fa o2)
      · cases w1 <;> cases w2 <;> simp only [newp_pin, newp_pdx, newp_chg, newp_apr, newp_bef] at e <;>
          first | rfl | exact absurd e d1 | exact absurd e d2 | exact absurd e d3 | exact absurd e d4 | exact absurd e d5 | exact absurd e d6 | exact absurd e d7 | exact absurd e d8 | exact absurd e d9 | exact absurd e d10 |
            exact absurd e.symm d1 | exact absurd e.symm d2 | exact absurd e.symm d3 | exact absurd e.symm d4 | exact absurd e.symm d5 | exact absurd e.symm d6 | exact absurd e.symm d7 | exact absurd e.symm d8 | exact absurd e.symm d9 | exact absurd e.symm d10
  · have pn := plus_new b author time cs
    have np : ∀ {a}, H0 a = none → a ≠ L.ad .prs := fun h e => far h (r := .prs) trivial e.symm
    rcases lv_plus hr with o1 | w1
    · rw [newp_old (lv_new o1)]
      by_cases c : r = .prs
      · subst c
        rw [upd_same]
        show _ = some (HO.lst ((List.range (plusP b author time cs).proposals.length).map fun i => V.ref ((L.newp b.proposals.length x dx cl al bl chs).ad (.pin i))))
        rw [plus_len, List.range_succ, List.map_append]
        congr 2
        congr 1
        · refine List.map_congr_left fun i hi => ?_
          have hi := List.mem_range.mp hi
          rw [newp_old (r := .pin i) (lv_new (r := .pin i) hi)]
        · show _ = [V.ref _]
          rw [newp_pin]
      · rw [upd_ne fun z => c (B.inj r _ o1 trivial z), B.at_ r o1]
        cases r with
        | pin j =>
          have o1 : j < b.proposals.length := o1
          show some (HO.ins _ (L.ad (.pdx j)) (prF L j (pr b j))) = some (HO.ins _ ((L.newp b.proposals.length x dx cl al bl chs).ad (.pdx j)) (prF (L.newp b.proposals.length x dx cl al bl chs) j (pr _ j)))
          rw [plus_old o1, newp_old (r := .pdx j) (lv_new (r := .pdx j) o1)]
          unfold prF
          rw [newp_old (r := .chg j) (lv_new (r := .chg j) o1), newp_old (r := .apr j) (lv_new (r := .apr j) o1), newp_old (r := .bef j) (lv_new (r := .bef j) o1)]
        | pdx j =>
          have o1 : j < b.proposals.length := o1
          show some (HO.own (L.ad (.pin j))) = some (HO.own ((L.newp b.proposals.length x dx cl al bl chs).ad (.pin j)))
          rw [newp_old (r := .pin j) (lv_new (r := .pin j) o1)]
        | chg j =>
          have o1 : j < b.proposals.length := o1
          show some (HO.lst ((L.ch j).map V.ref)) = some (HO.lst (((L.newp b.proposals.length x dx cl al bl chs).ch j).map V.ref))
          rw [show (L.newp b.proposals.length x dx cl al bl chs).ch j = L.ch j from if_neg (by omega)]
        | apr j =>
          have o1 : j < b.proposals.length := o1
          show some (HO.lst ((pr b j).approvals.map vN)) = some (HO.lst ((pr _ j).approvals.map vN))
          rw [plus_old o1]
        | bef j =>
          have o1 : j < b.proposals.length := o1
          show some (HO.lst ((pr b j).before.map vN)) = some (HO.lst ((pr _ j).before.map vN))
          rw [plus_old o1]
        | prs => exact absurd rfl c
        | _ => simp [cont, plF, Lay.newp, plusP]
    · cases w1 with
      | pin =>
        rw [newp_pin, upd_ne (np fx), N.hx]
        show _ = some (HO.ins _ ((L.newp b.proposals.length x dx cl al bl chs).ad (.pdx b.proposals.length)) (prF (L.newp b.proposals.length x dx cl al bl chs) b.proposals.length (pr _ b.proposals.length)))
        rw [pn, newp_pdx]
        unfold prF
        rw [newp_chg, newp_apr, newp_bef]
      | pdx =>
        rw [newp_pdx, upd_ne (np fdx), N.hdx]
        show _ = some (HO.own ((L.newp b.proposals.length x dx cl al bl chs).ad (.pin b.proposals.length)))
        rw [newp_pin]
      | chg =>
        rw [newp_chg, upd_ne (np fcl), N.hcl]
        show _ = some (HO.lst (((L.newp b.proposals.length x dx cl al bl chs).ch b.proposals.length).map V.ref))
        rw [show (L.newp b.proposals.length x dx cl al bl chs).ch b.proposals.length = chs from if_pos rfl]
      | apr =>
        rw [newp_apr, upd_ne (np fal), N.hal]
        show _ = some (HO.lst ((pr _ b.proposals.length).approvals.map vN))
        rw [pn]
        rfl
      | bef =>
        rw [newp_bef, upd_ne (np fbl), N.hbl]
        show _ = some (HO.lst ((pr _ b.proposals.length).before.map vN))
        rw [pn]
        rfl
  · rw [plus_len] at hj
    by_cases c : j < b.proposals.length
    · rw [plus_old c, show (L.newp b.proposals.length x dx cl al bl chs).ch j = L.ch j from if_neg (by omega)]
      exact (B.ch j c).mono tup
    · have e : j = b.proposals.length := by omega
      subst e
      rw [plus_new, show (L.newp b.proposals.length x dx cl al bl chs).ch b.proposals.length = chs from if_pos rfl]
      exact N.hch.mono tup
  · refine ⟨by rw [upd_ne fun z => nf ⟨.prs, trivial, z.symm⟩]; exact s c o h, fun ⟨r, h1, h2⟩ => ?_⟩
    rcases lv_plus h1 with o1 | w1
    · rw [newp_old (lv_new o1)] at h2
      exact nf ⟨r, o1, h2⟩
    · obtain ⟨a, ea, fa⟩ := new w1
      rw [ea] at h2
      rw [h2, h] at fa
      cases fa
end
end Gc
namespace Gc
open PySem PySem.Spec PyProof.Rows L2
open C8 (Cal Mak Met CalAt pe_c pe_mk pe_mt pe_mt0 pe_gc)
/-! the short tactics (each is a row of one's own, tried by its key) -/
local macro_rules | `(tactic| walk_at "fl") => `(tactic| assumption)
local macro_rules | `(tactic| walk_at "side") => `(tactic| first | assumption | exact Or.inr ⟨by decide, by decide⟩ | exact Or.inl ⟨by decide, by decide⟩ | decide | (refine ⟨by decide, by decide⟩) | omega)
local macro_rules | `(tactic| walk_at "val") => `(tactic| first
  | with_reducible exact val_c
  | ((with_reducible refine' val_var ?vv); (case vv => rfl))
  | ((with_reducible refine' val_fl ?vfa ?vfb); (case vfa => walk_at "val"); (case vfb => walk_at "fl"))
  | ((with_reducible refine' val_len ?vla ?vlb); (case vla => walk_at "val"); (case vlb => walk_at "sq"))
  | ((with_reducible refine' val_I0 ?v0a ?v0b); (case v0a => walk_at "val"); (case v0b => walk_at "val"))
  | ((with_reducible refine' val_I ?via ?vib ?vic); (case via => walk_at "val"); (case vib => walk_at "val"); (case vic => walk_at "side"))
  | ((with_reducible refine' val_neg ?vn); (case vn => walk_at "val"))
  | ((with_reducible refine' val_isN ?vs); (case vs => walk_at "val"))
  | ((with_reducible refine' val_ixL ?xa ?xb ?xc ?xd); (case xa => walk_at "val"); (case xb => walk_at "val"); (case xc => walk_at "sq"); (case xd => walk_at "at"))
  | ((with_reducible refine' val_ixT ?ya ?yb ?yc ?yd); (case ya => walk_at "val"); (case yb => walk_at "val"); (case yc => walk_at "sqt"); (case yd => walk_at "at"))
  | ((with_reducible refine' val_chain ?ca ?cb ?cc); (case ca => walk_at "val"); (case cb => walk_at "val"); (case cc => walk_at "val"))
  | ((with_reducible refine' val_max2 ?ma ?mb); (case ma => walk_at "val"); (case mb => walk_at "val")))
local macro_rules | `(tactic| walk_at "sq") => `(tactic| first | assumption | exact SqL.of (by assumption))
local macro_rules | `(tactic| walk_at "sqt") => `(tactic| first | assumption | exact SqT.of (by assumption))
local macro_rules | `(tactic| walk_at "at") => `(tactic| first | assumption | rfl)
local macro_rules | `(tactic| walk_at "ans") => `(tactic| first
  | ((with_reducible refine' ans_test ?at_); (case at_ => walk_at "val"))
  | ((with_reducible refine' ans_B ?ab_); (case ab_ => walk_at "val"))
  | ((with_reducible refine' ans_or2 ?ao ?ap); (case ao => walk_at "ans"); (case ap => (intro _; walk_at "ans")))
  | ((with_reducible refine' ans_and3 ?aq ?ar); (case aq => walk_at "ans"); (case ar => (intro _; walk_at "ans")))
  | ((with_reducible refine' ans_notM ?an); (case an => walk_at "ans")))
local macro_rules | `(tactic| walk_at "vala") => `(tactic| first
  | with_reducible exact vala_nil
  | ((with_reducible refine' vala_cons ?wa ?wb); (case wa => walk_at "val"); (case wb => walk_at "vala")))
local macro_rules | `(tactic| walk_at "n") => `(tactic| (repeat (first | (with_reducible refine x_gn ?_) | (with_reducible refine st_seq ?_) | (with_reducible refine st_next ?_) | dsimp only)))
local macro_rules | `(tactic| walk_at "fl") => `(tactic| first
  | assumption
  | ((with_reducible refine' fp_people ?fB ?fT); (case fB => assumption); (case fT => assumption))
  | ((with_reducible refine' fp_clock ?fB ?fT); (case fB => assumption); (case fT => assumption))
  | ((with_reducible refine' fp_settings ?fB ?fT); (case fB => assumption); (case fT => assumption))
  | ((with_reducible refine' fp_classes ?fB ?fT); (case fB => assumption); (case fT => assumption))
  | ((with_reducible refine' fp_needs ?fB ?fT); (case fB => assumption); (case fT => assumption))
  | ((with_reducible refine' fp_own_counts ?fB ?fT); (case fB => assumption); (case fT => assumption))
  | ((with_reducible refine' fp_freezes ?fB ?fT); (case fB => assumption); (case fT => assumption))
  | ((with_reducible refine' fp_proposals ?fB ?fT); (case fB => assumption); (case fT => assumption))
  | ((with_reducible refine' fp_guards ?fB ?fT); (case fB => assumption); (case fT => assumption))
  | ((with_reducible refine' fp_log ?fB ?fT); (case fB => assumption); (case fT => assumption))
  | ((with_reducible refine' fp_past ?fB ?fT); (case fB => assumption); (case fT => assumption))
  | ((with_reducible refine' fq_author ?fB ?fT ?fH); (case fB => assumption); (case fT => assumption); (case fH => assumption))
  | ((with_reducible refine' fq_time ?fB ?fT ?fH); (case fB => assumption); (case fT => assumption); (case fH => assumption))
  | ((with_reducible refine' fq_changes ?fB ?fT ?fH); (case fB => assumption); (case fT => assumption); (case fH => assumption))
  | ((with_reducible refine' fq_approvals ?fB ?fT ?fH); (case fB => assumption); (case fT => assumption); (case fH => assumption))
  | ((with_reducible refine' fq_status ?fB ?fT ?fH); (case fB => assumption); (case fT => assumption); (case fH => assumption))
  | ((with_reducible refine' fq_end ?fB ?fT ?fH); (case fB => assumption); (case fT => assumption); (case fH => assumption))
  | ((with_reducible refine' fq_before ?fB ?fT ?fH); (case fB => assumption); (case fT => assumption); (case fH => assumption)))
local macro_rules | `(tactic| walk_at "sq") => `(tactic| first | assumption | exact SqL.of (by assumption) | exact s_sets (by assumption) | exact s_cls (by assumption) | exact s_need (by assumption) | exact s_own (by assumption) | exact s_frz (by assumption) | exact s_prs (by assumption) | exact s_grd (by assumption) | exact s_log (by assumption) | exact s_past (by assumption) | exact s_chg (by assumption) (by assumption) | exact s_apr (by assumption) (by assumption) | exact s_bef (by assumption) (by assumption))
local macro_rules | `(tactic| walk_at "at") => `(tactic| first | assumption | exact atI_0 rfl | exact atI_1 rfl | exact atI_2 rfl)
abbrev s_Pla_is_frozen : Stmt := inClass (topS 28) 1
theorem sc_Pla_is_frozen : FnScope ["self", "time", "hour", "weekday", "day", "start", "stop"] ["self", "time"] (defScope s_Pla_is_frozen) := ⟨rfl, rfl, rfl, by decide +kernel, rfl, by decide +kernel, by decide +kernel⟩
abbrev s_Pla_note : Stmt := inClass (topS 28) 2
theorem sc_Pla_note : FnScope ["self", "kind", "person", "subject"] ["self", "kind", "person", "subject"] (defScope s_Pla_note) := ⟨rfl, rfl, rfl, by decide +kernel, rfl, by decide +kernel, by decide +kernel⟩
abbrev s_Pla_assign : Stmt := inClass (topS 28) 3
theorem sc_Pla_assign : FnScope ["self", "key", "value", "source"] ["self", "key", "value", "source"] (defScope s_Pla_assign) := ⟨rfl, rfl, rfl, by decide +kernel, rfl, by decide +kernel, by decide +kernel⟩
abbrev s_Pro_finish : Stmt := inClass (topS 21) 1
theorem sc_Pro_finish : FnScope ["self", "status", "clock"] ["self", "status", "clock"] (defScope s_Pro_finish) := ⟨rfl, rfl, rfl, by decide +kernel, rfl, by decide +kernel, by decide +kernel⟩
section
variable {P : Program} {w : World} {K : PySem.W.Frag} {mg : Str → Option Value} {base : Heap} {A : Ad}
/-! ### is_frozen -/
def spFroz (A : Ad) : Sp := fun vs H Q _ => ∃ (L : Lay) (b : Board) (t : Nat), vs = [.ref (L.ad .plat), vN t] ∧ Bd A L b H ∧ Q (.bl (Kex7.isFrozenAt b.freezes t)) H
def frz1 (f : Kex7.Freeze) (t : Nat) : Bool := f.weekday == t / 24 % 7 && decide (f.start ≤ t % 24) && decide (t % 24 < f.halt_)
theorem frozen_def (l : List Kex7.Freeze) (t : Nat) : Kex7.isFrozenAt l t = l.any fun f => frz1 f t := rfl
theorem frz1_int (f : Kex7.Freeze) (t : Nat) : (decide ((f.weekday : Int) = (t : Int) / 24 % 7) && (decide ((f.start : Int) ≤ (t : Int) % 24) && decide ((t : Int) % 24 < (f.halt_ : Int)))) = frz1 f t := by
  unfold frz1
  rw [Bool.and_assoc]
  congr 1
  · rw [Bool.beq_eq_decide_eq]
    exact decide_eq_decide.mpr (by omega)
  · congr 1
    · exact decide_eq_decide.mpr (by omega)
    · exact decide_eq_decide.mpr (by omega)
theorem ok_froz (F : AtM K A.CP "is_frozen" "Platform.is_frozen" s_Pla_is_frozen ["self", "time"]) (T : Txt P w K mg A) : Met P w K mg base 1 A.CP "is_frozen" (spFroz A) [] := by
  refine F.met T.clP sc_Pla_is_frozen (fun vs H Q E h => ?_) (fun f cdv Ar outer s H vs Q E hr h => ?_)
  · obtain ⟨L, b, t, rfl, _⟩ := h
    rfl
  · obtain ⟨L, b, t, rfl, B, q⟩ := h
    refine ⟨_, (pss_cons (ps_set (i := 2) sc_Pla_is_frozen.nd rfl (Or.inl rfl) (pe_op op_mod (pv 1) pe_int))
      (pss_cons (ps_set (i := 3) sc_Pla_is_frozen.nd rfl (Or.inl rfl) (pe_op op_mod (pe_op op_fdiv (pv 1) pe_int) pe_int))
      (pss_cons (ps_for PassesOwn.never rfl (pi_list (pe_fld (pv 0) rfl)) (pg_tup rfl (pgs_cons (pg_name (i := 4) sc_Pla_is_frozen.nd rfl (Or.inl rfl)) (pgs_cons (pg_name (i := 5) sc_Pla_is_frozen.nd rfl (Or.inl rfl)) (pgs_cons (pg_name (i := 6) sc_Pla_is_frozen.nd rfl (Or.inl rfl)) pgs_nil)))) (pss_one (ps_if (PW.pt (pw_and (pt_cmpR op_eqI (pv 4) (pv 3) (nomark _)) (pw_and1 (pt_chain op_le op_lt (pv 5) (pv 2) (pv 6))))) (pss_one (ps_ret pe_bl)) pss_nil)))
      (pss_one (ps_ret pe_bl))))), ?_⟩
    walk_at "n"
    refine x_setV (by walk_at "val") ?_
    walk_at "n"
    refine x_setV (by walk_at "val") ?_
    walk_at "n"
    refine x_forL (by walk_at "val") (s_frz B) (fun i σ H' => ∃ v1 v2 v3, σ = [some (.ref (L.ad .plat)), some (vN t), some (.int ((t : Int) % 24)), some (.int ((t : Int) / 24 % 7)), v1, v2, v3] ∧ H' = H ∧ ((b.freezes.take i).any fun f => frz1 f t) = false) ⟨none, none, none, rfl, rfl, rfl⟩ (fun i σ H' _ ⟨_, _, _, _, e, _⟩ => by rw [e]; exact s_frz B) ?_ ?_
    · rintro i y σ H' hi ⟨v1, v2, v3, rfl, rfl, hno⟩
      obtain ⟨a, ha, rfl⟩ := map_at hi
      obtain ⟨v, hv, ht⟩ := B.fz.at ha
      obtain ⟨fz, hf, rfl⟩ := map_at hv
      refine x_un3 (SqT.of ht) ?_
      refine x_if (by walk_at "ans") (fun hb => ?_) (fun hb => ?_)
      · rw [frz1_int] at hb
        refine x_ret (x_val (v := .bl true) val_c ?_)
        have e : Kex7.isFrozenAt b.freezes t = true := by
          rw [frozen_def, List.any_eq_true]
          exact ⟨fz, List.mem_of_getElem? hf, hb⟩
        rw [e] at q
        exact q
      · rw [frz1_int] at hb
        walk_at "n"
        refine ⟨_, _, _, rfl, rfl, ?_⟩
        rw [take_more hf, List.any_append, hno]
        simp [hb]
    · rintro σ H' ⟨v1, v2, v3, rfl, rfl, hno⟩
      rw [List.length_map, B.fz.len, List.length_map, List.take_length] at hno
      walk_at "n"
      refine x_ret (x_val (v := .bl false) val_c ?_)
      rw [frozen_def, hno] at q
      exact q
/-! ### note, assign, finish -/
def spNote (A : Ad) : Sp := fun vs H Q _ => ∃ (L : Lay) (b : Board) (kind who subject : Nat), vs = [.ref (L.ad .plat), vN kind, vN who, vN subject] ∧ Bd A L b H ∧ b.log.length ≤ 1000000 ∧
  ∀ H' L', Bd A L' (Kex7.logged b kind who subject) H' → Fr L b H L' (Kex7.logged b kind who subject) H' → L'.gd = L.gd → Q .non H'
theorem Bd.note {L : Lay} {b : Board} {H : Hp} (B : Bd A L b H) {t : Addr} (ht : H t = none) (e : Kex7.Entry) :
    Bd A { L with lg := L.lg ++ [t] } { b with log := b.log ++ [e] } (upd (upd H t (.tup (tLg e))) (L.ad .log) (.lst (L.lg.map V.ref ++ [V.ref t]))) ∧
    Fr L b H { L with lg := L.lg ++ [t] } { b with log := b.log ++ [e] } (upd (upd H t (.tup (tLg e))) (L.ad .log) (.lst (L.lg.map V.ref ++ [V.ref t]))) := by
  have s := same_upd (o := .tup (tLg e)) ht
  have B1 := B.mono s
  have ec : cont A { L with lg := L.lg ++ [t] } { b with log := b.log ++ [e] } .log = .lst (L.lg.map V.ref ++ [V.ref t]) := by
    show HO.lst ((L.lg ++ [t]).map V.ref) = _
    rw [List.map_append]
    rfl
  have hw := Bd.write (L' := { L with lg := L.lg ++ [t] }) (b' := { b with log := b.log ++ [e] }) B1 .log trivial rfl rfl (fun r _ hr => by cases r <;> first | rfl | exact absurd rfl hr)
    (B1.keepT .log trivial _ B1.fz) (B1.keepT .log trivial _ B1.gd) (B1.keepT .log trivial _ (by
      show Tups _ (L.lg ++ [t]) ((b.log ++ [e]).map tLg)
      rw [List.map_append]
      exact B1.lg.snoc upd_same)) (B1.keepT .log trivial _ B1.pa) (fun i h => B1.keepT .log trivial _ (B1.ch i h))
  rw [ec] at hw
  exact ⟨hw, (Fr.same s).trans (Fr.write (L := L) (b := b) (L' := { L with lg := L.lg ++ [t] }) (b' := { b with log := b.log ++ [e] }) .log trivial rfl rfl rfl _)⟩
theorem ok_note (F : AtM K A.CP "note" "Platform.note" s_Pla_note ["self", "kind", "person", "subject"]) (T : Txt P w K mg A) : Met P w K mg base 1 A.CP "note" (spNote A) [] := by
  refine F.met T.clP sc_Pla_note (fun vs H Q E h => ?_) (fun f cdv Ar outer s H vs Q E hr h => ?_)
  · obtain ⟨L, b, x, y, z, rfl, _⟩ := h
    rfl
  · obtain ⟨L, b, x, y, z, rfl, B, hl, q⟩ := h
    refine ⟨_, (pss_one (ps_expr (pe_bm PySem.F.plainAttrs_list PySem.F.slot_list_append PySem.F.type_list_append mt_append (pe_fld (pv 0) rfl) (pa_cons (pe_tup (pa_cons (pv 1) (pa_cons (pe_fld (pv 0) rfl) (pa_cons (pv 2) (pa_cons (pv 3) pa_nil))))) pa_nil)))), ?_⟩
    refine x_drop (x_app (by walk_at "val") (B.at_ .log trivial) (x_tupV (by walk_at "vala") fun t ht => ?_))
    refine x_rapp ((same_upd ht) _ _ (B.at_ .log trivial)) ?_ ?_
    · rw [List.length_map, B.lg.len, List.length_map]
      exact hl
    · obtain ⟨h1, h2⟩ := B.note ht ⟨x, b.clock, y, z⟩
      exact q _ _ h1 h2 rfl
/-- the board behind an assignment -/
def asgB (b : Board) (key value source : Nat) : Board := { b with values := b.values.set key value, history := b.history ++ [⟨b.clock, key, value, source⟩] }
def spAsg (A : Ad) : Sp := fun vs H Q _ => ∃ (L : Lay) (b : Board) (key value source : Nat), vs = [.ref (L.ad .plat), vN key, vN value, vN source] ∧ Bd A L b H ∧ key < b.values.length ∧ b.history.length ≤ 1000000 ∧
  ∀ H' L', Bd A L' (asgB b key value source) H' → Fr L b H L' (asgB b key value source) H' → L'.gd = L.gd → Q .non H'
theorem Bd.past {L : Lay} {b : Board} {H : Hp} (B : Bd A L b H) {t : Addr} (ht : H t = none) (e : Kex7.Assignment) :
    Bd A { L with pa := L.pa ++ [t] } { b with history := b.history ++ [e] } (upd (upd H t (.tup (tPa e))) (L.ad .past) (.lst (L.pa.map V.ref ++ [V.ref t]))) ∧
    Fr L b H { L with pa := L.pa ++ [t] } { b with history := b.history ++ [e] } (upd (upd H t (.tup (tPa e))) (L.ad .past) (.lst (L.pa.map V.ref ++ [V.ref t]))) := by
  have s := same_upd (o := .tup (tPa e)) ht
  have B1 := B.mono s
  have ec : cont A { L with pa := L.pa ++ [t] } { b with history := b.history ++ [e] } .past = .lst (L.pa.map V.ref ++ [V.ref t]) := by
    show HO.lst ((L.pa ++ [t]).map V.ref) = _
    rw [List.map_append]
    rfl
  have hw := Bd.write (L' := { L with pa := L.pa ++ [t] }) (b' := { b with history := b.history ++ [e] }) B1 .past trivial rfl rfl (fun r _ hr => by cases r <;> first | rfl | exact absurd rfl hr)
    (B1.keepT .past trivial _ B1.fz) (B1.keepT .past trivial _ B1.gd) (B1.keepT .past trivial _ B1.lg) (B1.keepT .past trivial _ (by
      show Tups _ (L.pa ++ [t]) ((b.history ++ [e]).map tPa)
      rw [List.map_append]
      exact B1.pa.snoc upd_same)) (fun i h => B1.keepT .past trivial _ (B1.ch i h))
  rw [ec] at hw
  exact ⟨hw, (Fr.same s).trans (Fr.write (L := L) (b := b) (L' := { L with pa := L.pa ++ [t] }) (b' := { b with history := b.history ++ [e] }) .past trivial rfl rfl rfl _)⟩
theorem Bd.setVal {L : Lay} {b : Board} {H : Hp} (B : Bd A L b H) (k v : Nat) :
    Bd A L { b with values := b.values.set k v } (upd H (L.ad .sets) (.lst ((b.values.map vN).set k (vN v)))) ∧ Fr L b H L { b with values := b.values.set k v } (upd H (L.ad .sets) (.lst ((b.values.map vN).set k (vN v)))) := by
  have ec : cont A L { b with values := b.values.set k v } .sets = .lst ((b.values.map vN).set k (vN v)) := by
    show HO.lst ((b.values.set k v).map vN) = _
    rw [List.map_set]
  have hw := B.write0 (b' := { b with values := b.values.set k v }) .sets trivial rfl (fun r _ hr => by cases r <;> first | rfl | exact absurd rfl hr) rfl rfl rfl rfl (fun _ _ => rfl)
  rw [ec] at hw
  exact ⟨hw, Fr.write (L := L) (b := b) (L' := L) (b' := { b with values := b.values.set k v }) .sets trivial rfl rfl rfl _⟩
theorem ok_asg (F : AtM K A.CP "assign" "Platform.assign" s_Pla_assign ["self", "key", "value", "source"]) (T : Txt P w K mg A) : Met P w K mg base 1 A.CP "assign" (spAsg A) [] := by
  refine F.met T.clP sc_Pla_assign (fun vs H Q E h => ?_) (fun f cdv Ar outer s H vs Q E hr h => ?_)
  · obtain ⟨L, b, x, y, z, rfl, _⟩ := h
    rfl
  · obtain ⟨L, b, key, value, src, rfl, B, hk, hl, q⟩ := h
    refine ⟨_, (pss_cons (ps_asg (pv 2) (pg_sub (pe_fld (pv 0) rfl) (pv 1) set_list (fun _ => rfl)))
      (pss_one (ps_expr (pe_bm PySem.F.plainAttrs_list PySem.F.slot_list_append PySem.F.type_list_append mt_append (pe_fld (pv 0) rfl) (pa_cons (pe_tup (pa_cons (pe_fld (pv 0) rfl) (pa_cons (pv 1) (pa_cons (pv 2) (pa_cons (pv 3) pa_nil))))) pa_nil))))), ?_⟩
    walk_at "n"
    refine x_sub (by walk_at "val") (by walk_at "val") (by walk_at "val") (B.at_ .sets trivial) (by rw [List.length_map]; exact hk) ?_
    obtain ⟨B1, f1⟩ := B.setVal key value
    generalize upd H (L.ad .sets) (.lst ((b.values.map vN).set key (vN value))) = H1 at B1 f1
    walk_at "n"
    refine x_drop (x_app (by walk_at "val") (B1.at_ .past trivial) (x_tupV (by walk_at "vala") fun t ht => ?_))
    refine x_rapp ((same_upd ht) _ _ (B1.at_ .past trivial)) ?_ ?_
    · rw [List.length_map, B1.pa.len, List.length_map]
      exact hl
    · obtain ⟨h1, h2⟩ := B1.past ht ⟨b.clock, key, value, src⟩
      exact q _ _ h1 (f1.trans h2) rfl
def spFin (A : Ad) : Sp := fun vs H Q _ => ∃ (L : Lay) (a dx : Addr) (i : Nat) (p : Kex7.Proposal) (st c : Nat), vs = [.ref a, vN st, vN c] ∧ H a = some (.ins A.CQ dx (prF L i p)) ∧ Q .non (upd H a (.ins A.CQ dx (prF L i { p with status := st, ended := c })))
theorem ok_fin (F : AtM K A.CQ "finish" "Proposal.finish" s_Pro_finish ["self", "status", "clock"]) (T : Txt P w K mg A) : Met P w K mg base 1 A.CQ "finish" (spFin A) [] := by
  refine F.met T.clQ sc_Pro_finish (fun vs H Q E h => ?_) (fun f cdv Ar outer s H vs Q E hr h => ?_)
  · obtain ⟨L, a, dx, i, p, x, y, rfl, _⟩ := h
    rfl
  · obtain ⟨L, a, dx, i, p, x, y, rfl, ha, q⟩ := h
    refine ⟨_, (pss_cons (ps_fld (pv 0) (pv 1) rfl)
      (pss_one (ps_fld (pv 0) (pv 2) rfl))), ?_⟩
    walk_at "n"
    refine x_sfld (by walk_at "val") (by walk_at "val") ha T.clQ T.nQ_status (by show 7 < 1000; decide) ?_
    rw [pq_status]
    walk_at "n"
    refine x_sfld (by walk_at "val") (by walk_at "val") upd_same T.clQ T.nQ_end (by show 7 < 1000; decide) ?_
    rw [pq_end, upd_upd]
    exact q
end
end Gc
namespace Gc
open PySem PySem.Spec PyProof.Rows L2
open C8 (Cal Mak Met CalAt pe_c pe_mk pe_mt pe_mt0 pe_gc)
/-! the short tactics (each is a row of one's own, tried by its key) -/
local macro_rules | `(tactic| walk_at "fl") => `(tactic| assumption)
local macro_rules | `(tactic| walk_at "side") => `(tactic| first | assumption | exact Or.inr ⟨by decide, by decide⟩ | exact Or.inl ⟨by decide, by decide⟩ | decide | (refine ⟨by decide, by decide⟩) | omega)
local macro_rules | `(tactic| walk_at "val") => `(tactic| first
  | with_reducible exact val_c
  | ((with_reducible refine' val_var ?vv); (case vv => rfl))
  | ((with_reducible refine' val_fl ?vfa ?vfb); (case vfa => walk_at "val"); (case vfb => walk_at "fl"))
  | ((with_reducible refine' val_len ?vla ?vlb); (case vla => walk_at "val"); (case vlb => walk_at "sq"))
  | ((with_reducible refine' val_I0 ?v0a ?v0b); (case v0a => walk_at "val"); (case v0b => walk_at "val"))
  | ((with_reducible refine' val_I ?via ?vib ?vic); (case via => walk_at "val"); (case vib => walk_at "val"); (case vic => walk_at "side"))
  | ((with_reducible refine' val_neg ?vn); (case vn => walk_at "val"))
  | ((with_reducible refine' val_isN ?vs); (case vs => walk_at "val"))
  | ((with_reducible refine' val_ixL ?xa ?xb ?xc ?xd); (case xa => walk_at "val"); (case xb => walk_at "val"); (case xc => walk_at "sq"); (case xd => walk_at "at"))
  | ((with_reducible refine' val_ixT ?ya ?yb ?yc ?yd); (case ya => walk_at "val"); (case yb => walk_at "val"); (case yc => walk_at "sqt"); (case yd => walk_at "at"))
  | ((with_reducible refine' val_chain ?ca ?cb ?cc); (case ca => walk_at "val"); (case cb => walk_at "val"); (case cc => walk_at "val"))
  | ((with_reducible refine' val_max2 ?ma ?mb); (case ma => walk_at "val"); (case mb => walk_at "val")))
local macro_rules | `(tactic| walk_at "sq") => `(tactic| first | assumption | exact SqL.of (by assumption))
local macro_rules | `(tactic| walk_at "sqt") => `(tactic| first | assumption | exact SqT.of (by assumption))
local macro_rules | `(tactic| walk_at "at") => `(tactic| first | assumption | rfl)
local macro_rules | `(tactic| walk_at "ans") => `(tactic| first
  | ((with_reducible refine' ans_test ?at_); (case at_ => walk_at "val"))
  | ((with_reducible refine' ans_B ?ab_); (case ab_ => walk_at "val"))
  | ((with_reducible refine' ans_or2 ?ao ?ap); (case ao => walk_at "ans"); (case ap => (intro _; walk_at "ans")))
  | ((with_reducible refine' ans_and3 ?aq ?ar); (case aq => walk_at "ans"); (case ar => (intro _; walk_at "ans")))
  | ((with_reducible refine' ans_notM ?an); (case an => walk_at "ans")))
local macro_rules | `(tactic| walk_at "vala") => `(tactic| first
  | with_reducible exact vala_nil
  | ((with_reducible refine' vala_cons ?wa ?wb); (case wa => walk_at "val"); (case wb => walk_at "vala")))
local macro_rules | `(tactic| walk_at "n") => `(tactic| (repeat (first | (with_reducible refine x_gn ?_) | (with_reducible refine st_seq ?_) | (with_reducible refine st_next ?_) | dsimp only)))
local macro_rules | `(tactic| walk_at "fl") => `(tactic| first
  | assumption
  | ((with_reducible refine' fp_people ?fB ?fT); (case fB => assumption); (case fT => assumption))
  | ((with_reducible refine' fp_clock ?fB ?fT); (case fB => assumption); (case fT => assumption))
  | ((with_reducible refine' fp_settings ?fB ?fT); (case fB => assumption); (case fT => assumption))
  | ((with_reducible refine' fp_classes ?fB ?fT); (case fB => assumption); (case fT => assumption))
  | ((with_reducible refine' fp_needs ?fB ?fT); (case fB => assumption); (case fT => assumption))
  | ((with_reducible refine' fp_own_counts ?fB ?fT); (case fB => assumption); (case fT => assumption))
  | ((with_reducible refine' fp_freezes ?fB ?fT); (case fB => assumption); (case fT => assumption))
  | ((with_reducible refine' fp_proposals ?fB ?fT); (case fB => assumption); (case fT => assumption))
  | ((with_reducible refine' fp_guards ?fB ?fT); (case fB => assumption); (case fT => assumption))
  | ((with_reducible refine' fp_log ?fB ?fT); (case fB => assumption); (case fT => assumption))
  | ((with_reducible refine' fp_past ?fB ?fT); (case fB => assumption); (case fT => assumption))
  | ((with_reducible refine' fq_author ?fB ?fT ?fH); (case fB => assumption); (case fT => assumption); (case fH => assumption))
  | ((with_reducible refine' fq_time ?fB ?fT ?fH); (case fB => assumption); (case fT => assumption); (case fH => assumption))
  | ((with_reducible refine' fq_changes ?fB ?fT ?fH); (case fB => assumption); (case fT => assumption); (case fH => assumption))
  | ((with_reducible refine' fq_approvals ?fB ?fT ?fH); (case fB => assumption); (case fT => assumption); (case fH => assumption))
  | ((with_reducible refine' fq_status ?fB ?fT ?fH); (case fB => assumption); (case fT => assumption); (case fH => assumption))
  | ((with_reducible refine' fq_end ?fB ?fT ?fH); (case fB => assumption); (case fT => assumption); (case fH => assumption))
  | ((with_reducible refine' fq_before ?fB ?fT ?fH); (case fB => assumption); (case fT => assumption); (case fH => assumption)))
local macro_rules | `(tactic| walk_at "sq") => `(tactic| first | assumption | exact SqL.of (by assumption) | exact s_sets (by assumption) | exact s_cls (by assumption) | exact s_need (by assumption) | exact s_own (by assumption) | exact s_frz (by assumption) | exact s_prs (by assumption) | exact s_grd (by assumption) | exact s_log (by assumption) | exact s_past (by assumption) | exact s_chg (by assumption) (by assumption) | exact s_apr (by assumption) (by assumption) | exact s_bef (by assumption) (by assumption))
local macro_rules | `(tactic| walk_at "at") => `(tactic| first | assumption | exact atI_0 rfl | exact atI_1 rfl | exact atI_2 rfl)
abbrev s_Pla_approvals_of : Stmt := inClass (topS 28) 4
theorem sc_Pla_approvals_of : FnScope ["self", "proposal", "needed", "own", "valid", "change", "person"] ["self", "proposal"] (defScope s_Pla_approvals_of) := ⟨rfl, rfl, rfl, by decide +kernel, rfl, by decide +kernel, by decide +kernel⟩
section
variable {P : Program} {w : World} {K : PySem.W.Frag} {mg : Str → Option Value} {base : Heap} {A : Ad}
/-! ### approvals_of -/
def spApp (A : Ad) : Sp := fun vs H Q _ => ∃ (L : Lay) (b : Board) (c i : Nat), vs = [.ref (L.ad .plat), .ref (L.ad (.pin i))] ∧ Bd A L b H ∧ Wf c b ∧ i < b.proposals.length ∧
  ∀ H' t, Same H H' → H t = none → H' t = some (.tup [vN (Kex7.missing b (pr b i)), vN (Kex7.needed b (pr b i)), vN (Kex7.validApprovals b (pr b i))]) → Q (.ref t) H'
theorem ch_at {L : Lay} {b : Board} {H : Hp} (B : Bd A L b H) {i : Nat} (hi : i < b.proposals.length) {k : Nat} {x : V} {c : Kex7.Change} (hx : ((L.ch i).map V.ref)[k]? = some x) (hc : (pr b i).changes[k]? = some c) : ∃ t, x = .ref t ∧ H t = some (.tup (tCh c)) := by
  obtain ⟨t, ht, rfl⟩ := map_at hx
  exact ⟨t, rfl, (B.ch i hi).is k t _ ht (by rw [List.getElem?_map, hc]; rfl)⟩
theorem ok_app (F : AtM K A.CP "approvals_of" "Platform.approvals_of" s_Pla_approvals_of ["self", "proposal"]) (T : Txt P w K mg A) : Met P w K mg base 1 A.CP "approvals_of" (spApp A) [] := by
  refine F.met T.clP sc_Pla_approvals_of (fun vs H Q E h => ?_) (fun f cdv Ar outer s H vs Q E hr h => ?_)
  · obtain ⟨L, b, c, i, rfl, _⟩ := h
    rfl
  · obtain ⟨L, b, c, i, rfl, B, W, hi, q⟩ := h
    have hp := W.p hi
    have hcl : ((L.ch i).map V.ref).length = (pr b i).changes.length := by rw [List.length_map, (B.ch i hi).len, List.length_map]
    have hcs : ((L.ch i).map V.ref).length ≤ 1000000 := by have := hp.le; omega
    have rul : ∀ x ∈ (pr b i).changes, clsOf b x.key < b.rules.length := fun x hx => by rw [W.rules]; exact W.cl_lt (hp.key x hx)
    have ck : ∀ x ∈ (pr b i).changes, x.key < b.classes.length := fun x hx => by rw [W.cls]; exact hp.key x hx
    refine ⟨_, (pss_cons (ps_set (i := 2) sc_Pla_approvals_of.nd rfl (Or.inl rfl) (pe_callB (cr_maxM rfl) (by rfl) T.max (by decide +kernel) (pa_cons (pe_lc (own := [("change", 5)]) (g := gName 5) (tt := tYes) (te := (tOp (rIxL K) (tFld K (tVar 0) "needs") (tOp (rIxL K) (tFld K (tVar 0) "classes") (tOp (rIxT K) (tVar 5) (tC (.int 0)))))) rfl sc_Pla_approvals_of.nd (pi_list (pe_fld (pv 1) rfl)) (blkOk_by (N := ["self", "proposal", "needed", "own", "valid", "change", "person"]) (sc := defScope s_Pla_approvals_of) (by decide +kernel)) (fun _ _ _ _ _ => pg_name (i := 5) sc_Pla_approvals_of.nd rfl (Or.inl rfl)) (fun _ _ _ _ _ => by exact pts_nil) (fun _ _ _ _ _ => by exact (pe_ix ix_list (pe_fld (pv 0) rfl) (pe_ix ix_list (pe_fld (pv 0) rfl) (pe_ix ix_tup (pv 5) pe_int (fun _ _ => rfl)) (fun _ _ => rfl)) (fun _ _ => rfl)))) pa_nil)))
      (pss_cons (ps_set (i := 3) sc_Pla_approvals_of.nd rfl (Or.inr rfl) (pe_callB (cr_minM rfl) (by rfl) T.min (by decide +kernel) (pa_cons (pe_lc (own := [("change", 5)]) (g := gName 5) (tt := tYes) (te := (tOp (rIxL K) (tFld K (tVar 0) "own_counts") (tOp (rIxL K) (tFld K (tVar 0) "classes") (tOp (rIxT K) (tVar 5) (tC (.int 0)))))) rfl sc_Pla_approvals_of.nd (pi_list (pe_fld (pv 1) rfl)) (blkOk_by (N := ["self", "proposal", "needed", "own", "valid", "change", "person"]) (sc := defScope s_Pla_approvals_of) (by decide +kernel)) (fun _ _ _ _ _ => pg_name (i := 5) sc_Pla_approvals_of.nd rfl (Or.inl rfl)) (fun _ _ _ _ _ => by exact pts_nil) (fun _ _ _ _ _ => by exact (pe_ix ix_list (pe_fld (pv 0) rfl) (pe_ix ix_list (pe_fld (pv 0) rfl) (pe_ix ix_tup (pv 5) pe_int (fun _ _ => rfl)) (fun _ _ => rfl)) (fun _ _ => rfl)))) pa_nil)))
      (pss_cons (ps_set (i := 4) sc_Pla_approvals_of.nd rfl (Or.inl rfl) (pe_callB call_lenM (by rfl) T.len (by decide +kernel) (pa_cons (pe_lc (own := [("person", 6)]) (g := gName 6) (tt := (tOr (tTest (tOp (rI0 fun i j => .bl (decide (i = j))) (tVar 3) (tC (.int 1)))) (tTest (tOp (rI0 fun i j => .bl (!decide (i = j))) (tVar 6) (tFld K (tVar 1) "author"))))) (te := (tVar 6)) rfl sc_Pla_approvals_of.nd (pi_list (pe_fld (pv 1) rfl)) (blkOk_by (N := ["self", "proposal", "needed", "own", "valid", "change", "person"]) (sc := defScope s_Pla_approvals_of) (by decide +kernel)) (fun _ _ _ _ _ => pg_name (i := 6) sc_Pla_approvals_of.nd rfl (Or.inl rfl)) (fun _ _ _ _ _ => by exact (pts_one (PW.pt (pw_or (pt_cmpR op_eqI (pv 3) pe_int (nomark _)) (pw_or1 (pt_cmpR op_neI (pv 6) (pe_fld (pv 1) rfl) (nomark _))))))) (fun _ _ _ _ _ => by exact (pv 6))) pa_nil)))
      (pss_one (ps_ret (pe_tup (pa_cons (pe_callB (call_max2M rfl) (by rfl) T.max (by decide +kernel) (pa_cons pe_int (pa_cons (pe_op op_sub (pv 2) (pv 4)) pa_nil))) (pa_cons (pv 2) (pa_cons (pv 4) pa_nil))))))))), ?_⟩
    walk_at "n"
    refine x_set (x_cb1 (lca1 (cs := (pr b i).changes) (fun c => vN (Kex7.ruleOf b c).approvals) (by walk_at "val") (s_chg B hi) hcl hcs (fun k x c hx hc H' sm => ?_) fun D1 H1 n1 s1 e1 => ?_))
    · obtain ⟨t, rfl, ht⟩ := ch_at B hi hx hc
      have B' := B.mono sm
      have ht' := sm _ _ ht
      have hm := List.mem_of_getElem? hc
      have a1 : atI (tCh c) 0 = some (vN c.key) := atI_0 rfl
      have a2 := at_vN (ck c hm)
      have a3 := at_need (rul c hm)
      refine ValS.of ?_
      exact val_ixL (by walk_at "val") (by walk_at "val") (s_need B') a3
    refine ⟨D1, (pr b i).changes.map (fun c => ((Kex7.ruleOf b c).approvals : Int)), rfl, SqL.of (by rw [e1, List.map_map]; rfl), by rw [List.length_map]; exact hp.ne, fun m hm hle => ?_⟩
    obtain ⟨m, rfl⟩ : ∃ n : Nat, m = (n : Int) := by
      obtain ⟨x, _, rfl⟩ := List.mem_map.mp hm
      exact ⟨_, rfl⟩
    have hnd : Kex7.needed b (pr b i) = m := by
      rw [needed_def]
      refine max_is ?_ fun y hy => ?_
      · obtain ⟨x, hx, e⟩ := List.mem_map.mp hm
        exact List.mem_map.mpr ⟨x, hx, by omega⟩
      · obtain ⟨x, hx, rfl⟩ := List.mem_map.mp hy
        have := hle _ (List.mem_map.mpr ⟨x, hx, rfl⟩)
        omega
    have B1 := B.mono s1
    walk_at "n"
    refine x_set (x_cb1 (lca1 (cs := (pr b i).changes) (fun c => vN (b2n (Kex7.ruleOf b c).selfApproval)) (by walk_at "val") (s_chg B1 hi) hcl hcs (fun k x c hx hc H' sm => ?_) fun D2 H2 n2 s2 e2 => ?_))
    · obtain ⟨t, rfl, ht⟩ := ch_at B1 hi hx hc
      have B' := B1.mono sm
      have ht' := sm _ _ ht
      have hm := List.mem_of_getElem? hc
      have a1 : atI (tCh c) 0 = some (vN c.key) := atI_0 rfl
      have a2 := at_vN (ck c hm)
      have a3 := at_own (rul c hm)
      refine ValS.of ?_
      exact val_ixL (by walk_at "val") (by walk_at "val") (s_own B') a3
    refine ⟨D2, (pr b i).changes.map (fun c => (b2n (Kex7.ruleOf b c).selfApproval : Int)), rfl, SqL.of (by rw [e2, List.map_map]; rfl), by rw [List.length_map]; exact hp.ne, fun m2 hm2 hle2 => ?_⟩
    obtain ⟨m2, rfl⟩ : ∃ n : Nat, m2 = (n : Int) := by
      obtain ⟨x, _, rfl⟩ := List.mem_map.mp hm2
      exact ⟨_, rfl⟩
    have hown : Kex7.countsSelf b (pr b i) = decide (m2 = 1) := by
      refine self_of ?_ fun y hy => ?_
      · obtain ⟨x, hx, e⟩ := List.mem_map.mp hm2
        exact List.mem_map.mpr ⟨x, hx, by omega⟩
      · obtain ⟨x, hx, rfl⟩ := List.mem_map.mp hy
        have := hle2 _ (List.mem_map.mpr ⟨x, hx, rfl⟩)
        omega
    have B2 := B1.mono s2
    have hal : ((pr b i).approvals.map vN).length ≤ 1000000 := by
      rw [List.length_map]
      have := hp.few
      have := W.few
      omega
    walk_at "n"
    refine x_set (x_cb1 (lca (cs := (pr b i).approvals) (fun x => Kex7.countsSelf b (pr b i) || x != (pr b i).author) vN (by walk_at "val") (s_apr B2 hi) (by rw [List.length_map]) hal (fun k x c hx hc H' sm => ?_) (fun k x c hx hc hu H' sm => ?_) fun D3 H3 n3 s3 e3 => ?_))
    · have B' := B2.mono sm
      rw [List.getElem?_map, hc] at hx
      cases hx
      have e : (decide ((m2 : Int) = 1) || !decide ((c : Int) = ((pr b i).author : Int))) = (Kex7.countsSelf b (pr b i) || c != (pr b i).author) := by
        rw [hown]
        congr 1
        · exact decide_eq_decide.mpr (by omega)
        · show _ = !(c == (pr b i).author)
          rw [Bool.beq_eq_decide_eq]
          congr 1
          exact decide_eq_decide.mpr (by omega)
      exact Ans.to (ans_or2 (by walk_at "ans") (fun _ => by walk_at "ans")) e
    · rw [List.getElem?_map, hc] at hx
      cases hx
      exact ValS.of (by walk_at "val")
    have hv : (((pr b i).approvals.filter fun x => Kex7.countsSelf b (pr b i) || x != (pr b i).author).map vN).length = Kex7.validApprovals b (pr b i) := by
      rw [List.length_map]
      rfl
    refine ⟨D3, _, rfl, .inl (SqL.of e3), ?_⟩
    rw [hv]
    walk_at "n"
    refine x_ret (x_tupV (by walk_at "vala") fun t ht => ?_)
    rw [missing_int, ← hnd]
    exact q _ t (((s1.trans s2).trans s3).trans (same_upd ht)) (((s1.trans s2).trans s3).free ht) upd_same
end
end Gc
namespace Gc
open PySem PySem.Spec PyProof.Rows L2
open C8 (Cal Mak Met CalAt pe_c pe_mk pe_mt pe_mt0 pe_gc)
/-! the short tactics (each is a row of one's own, tried by its key) -/
local macro_rules | `(tactic| walk_at "fl") => `(tactic| assumption)
local macro_rules | `(tactic| walk_at "side") => `(tactic| first | assumption | exact Or.inr ⟨by decide, by decide⟩ | exact Or.inl ⟨by decide, by decide⟩ | decide | (refine ⟨by decide, by decide⟩) | omega)
local macro_rules | `(tactic| walk_at "val") => `(tactic| first
  | with_reducible exact val_c
  | ((with_reducible refine' val_var ?vv); (case vv => rfl))
  | ((with_reducible refine' val_fl ?vfa ?vfb); (case vfa => walk_at "val"); (case vfb => walk_at "fl"))
  | ((with_reducible refine' val_len ?vla ?vlb); (case vla => walk_at "val"); (case vlb => walk_at "sq"))
  | ((with_reducible refine' val_I0 ?v0a ?v0b); (case v0a => walk_at "val"); (case v0b => walk_at "val"))
  | ((with_reducible refine' val_I ?via ?vib ?vic); (case via => walk_at "val"); (case vib => walk_at "val"); (case vic => walk_at "side"))
  | ((with_reducible refine' val_neg ?vn); (case vn => walk_at "val"))
  | ((with_reducible refine' val_isN ?vs); (case vs => walk_at "val"))
  | ((with_reducible refine' val_ixL ?xa ?xb ?xc ?xd); (case xa => walk_at "val"); (case xb => walk_at "val"); (case xc => walk_at "sq"); (case xd => walk_at "at"))
  | ((with_reducible refine' val_ixT ?ya ?yb ?yc ?yd); (case ya => walk_at "val"); (case yb => walk_at "val"); (case yc => walk_at "sqt"); (case yd => walk_at "at"))
  | ((with_reducible refine' val_chain ?ca ?cb ?cc); (case ca => walk_at "val"); (case cb => walk_at "val"); (case cc => walk_at "val"))
  | ((with_reducible refine' val_max2 ?ma ?mb); (case ma => walk_at "val"); (case mb => walk_at "val")))
local macro_rules | `(tactic| walk_at "sq") => `(tactic| first | assumption | exact SqL.of (by assumption))
local macro_rules | `(tactic| walk_at "sqt") => `(tactic| first | assumption | exact SqT.of (by assumption))
local macro_rules | `(tactic| walk_at "at") => `(tactic| first | assumption | rfl)
local macro_rules | `(tactic| walk_at "ans") => `(tactic| first
  | ((with_reducible refine' ans_test ?at_); (case at_ => walk_at "val"))
  | ((with_reducible refine' ans_B ?ab_); (case ab_ => walk_at "val"))
  | ((with_reducible refine' ans_or2 ?ao ?ap); (case ao => walk_at "ans"); (case ap => (intro _; walk_at "ans")))
  | ((with_reducible refine' ans_and3 ?aq ?ar); (case aq => walk_at "ans"); (case ar => (intro _; walk_at "ans")))
  | ((with_reducible refine' ans_notM ?an); (case an => walk_at "ans")))
local macro_rules | `(tactic| walk_at "vala") => `(tactic| first
  | with_reducible exact vala_nil
  | ((with_reducible refine' vala_cons ?wa ?wb); (case wa => walk_at "val"); (case wb => walk_at "vala")))
local macro_rules | `(tactic| walk_at "n") => `(tactic| (repeat (first | (with_reducible refine x_gn ?_) | (with_reducible refine st_seq ?_) | (with_reducible refine st_next ?_) | dsimp only)))
local macro_rules | `(tactic| walk_at "fl") => `(tactic| first
  | assumption
  | ((with_reducible refine' fp_people ?fB ?fT); (case fB => assumption); (case fT => assumption))
  | ((with_reducible refine' fp_clock ?fB ?fT); (case fB => assumption); (case fT => assumption))
  | ((with_reducible refine' fp_settings ?fB ?fT); (case fB => assumption); (case fT => assumption))
  | ((with_reducible refine' fp_classes ?fB ?fT); (case fB => assumption); (case fT => assumption))
  | ((with_reducible refine' fp_needs ?fB ?fT); (case fB => assumption); (case fT => assumption))
  | ((with_reducible refine' fp_own_counts ?fB ?fT); (case fB => assumption); (case fT => assumption))
  | ((with_reducible refine' fp_freezes ?fB ?fT); (case fB => assumption); (case fT => assumption))
  | ((with_reducible refine' fp_proposals ?fB ?fT); (case fB => assumption); (case fT => assumption))
  | ((with_reducible refine' fp_guards ?fB ?fT); (case fB => assumption); (case fT => assumption))
  | ((with_reducible refine' fp_log ?fB ?fT); (case fB => assumption); (case fT => assumption))
  | ((with_reducible refine' fp_past ?fB ?fT); (case fB => assumption); (case fT => assumption))
  | ((with_reducible refine' fq_author ?fB ?fT ?fH); (case fB => assumption); (case fT => assumption); (case fH => assumption))
  | ((with_reducible refine' fq_time ?fB ?fT ?fH); (case fB => assumption); (case fT => assumption); (case fH => assumption))
  | ((with_reducible refine' fq_changes ?fB ?fT ?fH); (case fB => assumption); (case fT => assumption); (case fH => assumption))
  | ((with_reducible refine' fq_approvals ?fB ?fT ?fH); (case fB => assumption); (case fT => assumption); (case fH => assumption))
  | ((with_reducible refine' fq_status ?fB ?fT ?fH); (case fB => assumption); (case fT => assumption); (case fH => assumption))
  | ((with_reducible refine' fq_end ?fB ?fT ?fH); (case fB => assumption); (case fT => assumption); (case fH => assumption))
  | ((with_reducible refine' fq_before ?fB ?fT ?fH); (case fB => assumption); (case fT => assumption); (case fH => assumption)))
local macro_rules | `(tactic| walk_at "sq") => `(tactic| first | assumption | exact SqL.of (by assumption) | exact s_sets (by assumption) | exact s_cls (by assumption) | exact s_need (by assumption) | exact s_own (by assumption) | exact s_frz (by assumption) | exact s_prs (by assumption) | exact s_grd (by assumption) | exact s_log (by assumption) | exact s_past (by assumption) | exact s_chg (by assumption) (by assumption) | exact s_apr (by assumption) (by assumption) | exact s_bef (by assumption) (by assumption))
local macro_rules | `(tactic| walk_at "at") => `(tactic| first | assumption | exact atI_0 rfl | exact atI_1 rfl | exact atI_2 rfl)
abbrev s_Pla_fits : Stmt := inClass (topS 28) 5
theorem sc_Pla_fits : FnScope ["self", "proposal", "change"] ["self", "proposal"] (defScope s_Pla_fits) := ⟨rfl, rfl, rfl, by decide +kernel, rfl, by decide +kernel, by decide +kernel⟩
abbrev s_Pla_count_status : Stmt := inClass (topS 28) 9
theorem sc_Pla_count_status : FnScope ["self", "status", "one"] ["self", "status"] (defScope s_Pla_count_status) := ⟨rfl, rfl, rfl, by decide +kernel, rfl, by decide +kernel, by decide +kernel⟩
abbrev s_Pla_value_at : Stmt := inClass (topS 28) 10
theorem sc_Pla_value_at : FnScope ["self", "key", "time", "found", "when", "which", "value", "source"] ["self", "key", "time"] (defScope s_Pla_value_at) := ⟨rfl, rfl, rfl, by decide +kernel, rfl, by decide +kernel, by decide +kernel⟩
abbrev s_Pla_next_open : Stmt := inClass (topS 28) 12
theorem sc_Pla_next_open : FnScope ["self", "time", "later"] ["self", "time"] (defScope s_Pla_next_open) := ⟨rfl, rfl, rfl, by decide +kernel, rfl, by decide +kernel, by decide +kernel⟩
section
variable {P : Program} {w : World} {K : PySem.W.Frag} {mg : Str → Option Value} {base : Heap} {A : Ad}
/-! ### fits -/
def spFits (A : Ad) : Sp := fun vs H Q _ => ∃ (L : Lay) (b : Board) (c i : Nat), vs = [.ref (L.ad .plat), .ref (L.ad (.pin i))] ∧ Bd A L b H ∧ Wf c b ∧ i < b.proposals.length ∧ ∀ H', Same H H' → Q (.bl (Kex7.fits b (pr b i))) H'
def fit1 (b : Board) (c : Kex7.Change) : Bool := c.expected == Kex7.anyValue || b.values.getD c.key 0 == c.expected
theorem fits_def (b : Board) (p : Kex7.Proposal) : Kex7.fits b p = p.changes.all (fit1 b) := rfl
theorem eqN (a b : Nat) : decide ((a : Int) = (b : Int)) = (a == b) := by
  rw [Bool.beq_eq_decide_eq]
  exact decide_eq_decide.mpr (by omega)
theorem eqNl (a b : Nat) : decide ((a : Int) = (b : Int)) = decide (a = b) := decide_eq_decide.mpr (by omega)
theorem ok_fits (F : AtM K A.CP "fits" "Platform.fits" s_Pla_fits ["self", "proposal"]) (T : Txt P w K mg A) : Met P w K mg base 1 A.CP "fits" (spFits A) [] := by
  refine F.met T.clP sc_Pla_fits (fun vs H Q E h => ?_) (fun f cdv Ar outer s H vs Q E hr h => ?_)
  · obtain ⟨L, b, c, i, rfl, _⟩ := h
    rfl
  · obtain ⟨L, b, c, i, rfl, B, W, hi, q⟩ := h
    have hp := W.p hi
    have hcl : ((L.ch i).map V.ref).length = (pr b i).changes.length := by rw [List.length_map, (B.ch i hi).len, List.length_map]
    have hcs : ((L.ch i).map V.ref).length ≤ 1000000 := by have := hp.le; omega
    have ck : ∀ x ∈ (pr b i).changes, x.key < b.values.length := fun x hx => by rw [W.vals]; exact hp.key x hx
    refine ⟨_, (pss_one (ps_ret (pe_callB (cr_allM rfl) (by rfl) T.all (by decide +kernel) (pa_cons (pe_lc (own := [("change", 2)]) (g := gName 2) (tt := tYes) (te := (tOrV (tOp (rI0 fun i j => .bl (decide (i = j))) (tOp (rIxT K) (tVar 2) (tC (.int 1))) (tC (.int 1001))) (tOp (rI0 fun i j => .bl (decide (i = j))) (tOp (rIxL K) (tFld K (tVar 0) "settings") (tOp (rIxT K) (tVar 2) (tC (.int 0)))) (tOp (rIxT K) (tVar 2) (tC (.int 1)))))) rfl sc_Pla_fits.nd (pi_list (pe_fld (pv 1) rfl)) (blkOk_by (N := ["self", "proposal", "change"]) (sc := defScope s_Pla_fits) (by decide +kernel)) (fun _ _ _ _ _ => pg_name (i := 2) sc_Pla_fits.nd rfl (Or.inl rfl)) (fun _ _ _ _ _ => by exact pts_nil) (fun _ _ _ _ _ => by exact (pe_or (pe_cmpR op_eqI (pe_ix ix_tup (pv 2) pe_int (fun _ _ => rfl)) (pe_gc (by rfl) T.g_ANY) (nomark _)) (pe_one (pe_cmpR op_eqI (pe_ix ix_list (pe_fld (pv 0) rfl) (pe_ix ix_tup (pv 2) pe_int (fun _ _ => rfl)) (fun _ _ => rfl)) (pe_ix ix_tup (pv 2) pe_int (fun _ _ => rfl)) (nomark _)))))) pa_nil)))), ?_⟩
    refine x_ret (x_cb1 (lca1 (cs := (pr b i).changes) (fun c => .bl (fit1 b c)) (by walk_at "val") (s_chg B hi) hcl hcs (fun k x c hx hc H' sm => ?_) fun D1 H1 n1 s1 e1 => ?_))
    · obtain ⟨t, rfl, ht⟩ := ch_at B hi hx hc
      have B' := B.mono sm
      have ht' := SqT.of (K := K) (sm _ _ ht)
      have hm := List.mem_of_getElem? hc
      have a0 : atI (tCh c) 0 = some (vN c.key) := atI_0 rfl
      have a1 : atI (tCh c) 1 = some (vN c.expected) := atI_1 rfl
      have a2 := at_vN (ck c hm)
      have e : (decide ((c.expected : Int) = 1001) || decide (((b.values.getD c.key 0 : Nat) : Int) = (c.expected : Int))) = fit1 b c := by
        unfold fit1
        rw [eqN]
        congr 1
        exact eqN c.expected 1001
      have v1 : Val (tOp (rIxT K) (tVar 2) (tC (.int 1))) ((wipe (start ["self", "proposal", "change"] [.ref (L.ad .plat), .ref (L.ad (.pin i))]) [2]).set 2 (some (.ref t))) H' (vN c.expected) := val_ixT (val_var rfl) val_c ht' a1
      have v0 : Val (tOp (rIxT K) (tVar 2) (tC (.int 0))) ((wipe (start ["self", "proposal", "change"] [.ref (L.ad .plat), .ref (L.ad (.pin i))]) [2]).set 2 (some (.ref t))) H' (vN c.key) := val_ixT (val_var rfl) val_c ht' a0
      refine ValS.of ?_
      rw [← e]
      exact val_or (val_I0 v1 val_c) fun _ => val_I0 (val_ixL (by walk_at "val") v0 (s_sets B') a2) v1
    refine ⟨D1, (pr b i).changes.map (fit1 b), rfl, SqL.of (by rw [e1, List.map_map]; rfl), ?_⟩
    have e : ((pr b i).changes.map (fit1 b)).all id = Kex7.fits b (pr b i) := by
      rw [fits_def, List.all_map]
      rfl
    rw [e]
    exact q H1 s1
/-! ### count_status -/
def spCnt (A : Ad) : Sp := fun vs H Q _ => ∃ (L : Lay) (b : Board) (n : Nat), vs = [.ref (L.ad .plat), vN n] ∧ Bd A L b H ∧ b.proposals.length ≤ 1000 ∧ ∀ H', Same H H' → Q (vN (b.proposals.countP fun p => p.status == n)) H'
theorem ok_cnt (F : AtM K A.CP "count_status" "Platform.count_status" s_Pla_count_status ["self", "status"]) (T : Txt P w K mg A) : Met P w K mg base 1 A.CP "count_status" (spCnt A) [] := by
  refine F.met T.clP sc_Pla_count_status (fun vs H Q E h => ?_) (fun f cdv Ar outer s H vs Q E hr h => ?_)
  · obtain ⟨L, b, n, rfl, _⟩ := h
    rfl
  · obtain ⟨L, b, n, rfl, B, hn, q⟩ := h
    have hl : ((List.range b.proposals.length).map fun i => V.ref (L.ad (.pin i))).length = b.proposals.length := by rw [List.length_map, List.length_range]
    refine ⟨_, (pss_one (ps_ret (pe_callB call_lenM (by rfl) T.len (by decide +kernel) (pa_cons (pe_lc (own := [("one", 2)]) (g := gName 2) (tt := (tTest (tOp (rI0 fun i j => .bl (decide (i = j))) (tFld K (tVar 2) "status") (tVar 1)))) (te := (tVar 2)) rfl sc_Pla_count_status.nd (pi_list (pe_fld (pv 0) rfl)) (blkOk_by (N := ["self", "status", "one"]) (sc := defScope s_Pla_count_status) (by decide +kernel)) (fun _ _ _ _ _ => pg_name (i := 2) sc_Pla_count_status.nd rfl (Or.inl rfl)) (fun _ _ _ _ _ => by exact (pts_one (pt_cmpR op_eqI (pe_fld (pv 2) rfl) (pv 1) (nomark _)))) (fun _ _ _ _ _ => by exact (pv 2))) pa_nil)))), ?_⟩
    refine x_ret (x_cb1 (lca (cs := List.range b.proposals.length) (fun i => (pr b i).status == n) (fun i => .ref (L.ad (.pin i))) (by walk_at "val") (s_prs B) (by rw [hl, List.length_range]) (by rw [hl]; omega) (fun k x c hx hc H' sm => ?_) (fun k x c hx hc hu H' sm => ?_) fun D1 H1 n1 s1 e1 => ?_))
    · rw [List.getElem?_map, hc] at hx
      cases hx
      have hi : c < b.proposals.length := List.mem_range.mp (List.mem_of_getElem? hc)
      have B' := B.mono sm
      exact Ans.to (by walk_at "ans") (eqN _ _)
    · rw [List.getElem?_map, hc] at hx
      cases hx
      exact ValS.of (by walk_at "val")
    refine ⟨D1, _, rfl, .inl (SqL.of e1), ?_⟩
    have e : (((List.range b.proposals.length).filter fun i => (pr b i).status == n).map fun i => V.ref (L.ad (.pin i))).length = b.proposals.countP fun p => p.status == n := by
      rw [List.length_map, ← List.countP_eq_length_filter]
      have e2 : b.proposals = (List.range b.proposals.length).map (pr b) := by
        refine List.ext_getElem? fun i => ?_
        rw [List.getElem?_map]
        by_cases h : i < b.proposals.length
        · rw [List.getElem?_range h, pr_at h]
          rfl
        · rw [List.getElem?_eq_none (by omega), List.getElem?_eq_none (by rw [List.length_range]; omega)]
          rfl
      have e3 : b.proposals.countP (fun p => p.status == n) = ((List.range b.proposals.length).map (pr b)).countP (fun p => p.status == n) := congrArg _ e2
      rw [e3, List.countP_map]
      rfl
    rw [e]
    exact q H1 s1
/-! ### value_at -/
def vat (l : List Kex7.Assignment) (key time : Nat) : Nat := ((l.filter fun a => a.key == key && decide (a.time ≤ time)).getLast?.map (·.value)).getD 0
theorem vat_def (b : Board) (key time : Nat) : Kex7.valueAt b key time = vat b.history key time := rfl
theorem vat_snoc (l : List Kex7.Assignment) (a : Kex7.Assignment) (key time : Nat) : vat (l ++ [a]) key time = if (a.key == key && decide (a.time ≤ time)) = true then a.value else vat l key time := by
  unfold vat
  rw [List.filter_append]
  by_cases c : (a.key == key && decide (a.time ≤ time)) = true
  · rw [if_pos c, List.filter_cons_of_pos (by exact c), List.filter_nil, List.getLast?_append]
    rfl
  · rw [if_neg c, List.filter_cons_of_neg (by exact c), List.filter_nil, List.append_nil]
def spVat (A : Ad) : Sp := fun vs H Q _ => ∃ (L : Lay) (b : Board) (key time : Nat), vs = [.ref (L.ad .plat), vN key, vN time] ∧ Bd A L b H ∧ Q (vN (Kex7.valueAt b key time)) H
theorem ok_vat (F : AtM K A.CP "value_at" "Platform.value_at" s_Pla_value_at ["self", "key", "time"]) (T : Txt P w K mg A) : Met P w K mg base 1 A.CP "value_at" (spVat A) [] := by
  refine F.met T.clP sc_Pla_value_at (fun vs H Q E h => ?_) (fun f cdv Ar outer s H vs Q E hr h => ?_)
  · obtain ⟨L, b, key, time, rfl, _⟩ := h
    rfl
  · obtain ⟨L, b, key, time, rfl, B, q⟩ := h
    refine ⟨_, (pss_cons (ps_set (i := 3) sc_Pla_value_at.nd rfl (Or.inl rfl) pe_int)
      (pss_cons (ps_for PassesOwn.never rfl (pi_list (pe_fld (pv 0) rfl)) (pg_tup rfl (pgs_cons (pg_name (i := 4) sc_Pla_value_at.nd rfl (Or.inl rfl)) (pgs_cons (pg_name (i := 5) sc_Pla_value_at.nd rfl (Or.inl rfl)) (pgs_cons (pg_name (i := 6) sc_Pla_value_at.nd rfl (Or.inl rfl)) (pgs_cons (pg_name (i := 7) sc_Pla_value_at.nd rfl (Or.inl rfl)) pgs_nil))))) (pss_one (ps_if (PW.pt (pw_and (pt_cmpR op_eqI (pv 5) (pv 1) (nomark _)) (pw_and1 (pt_cmpR op_le (pv 4) (pv 2) (nomark _))))) (pss_one (ps_set (i := 3) sc_Pla_value_at.nd rfl (Or.inl rfl) (pv 6))) pss_nil)))
      (pss_one (ps_ret (pv 3))))), ?_⟩
    walk_at "n"
    refine x_setV (by walk_at "val") ?_
    walk_at "n"
    refine x_forL (by walk_at "val") (s_past B) (fun i σ H' => ∃ v1 v2 v3 v4, σ = [some (.ref (L.ad .plat)), some (vN key), some (vN time), some (vN (vat (b.history.take i) key time)), v1, v2, v3, v4] ∧ H' = H) ⟨none, none, none, none, rfl, rfl⟩ (fun i σ H' _ ⟨_, _, _, _, _, e⟩ => by rw [e]; exact s_past B) ?_ ?_
    · rintro i y σ H' hi ⟨v1, v2, v3, v4, rfl, rfl⟩
      obtain ⟨a, ha, rfl⟩ := map_at hi
      obtain ⟨v, hv, ht⟩ := B.pa.at ha
      obtain ⟨e, he, rfl⟩ := map_at hv
      have es := vat_snoc (b.history.take i) e key time
      rw [← take_more he] at es
      have eb : (decide ((e.key : Int) = (key : Int)) && decide ((e.time : Int) ≤ (time : Int))) = (e.key == key && decide (e.time ≤ time)) := by
        rw [eqN]
        congr 1
        exact decide_eq_decide.mpr (by omega)
      refine x_un4 (SqT.of ht) ?_
      refine x_if (by walk_at "ans") (fun hb => ?_) (fun hb => ?_)
      · rw [eb] at hb
        rw [if_pos hb] at es
        walk_at "n"
        refine x_setV (by walk_at "val") ?_
        exact ⟨_, _, _, _, by rw [es]; rfl, rfl⟩
      · rw [eb] at hb
        rw [if_neg (by rw [hb]; exact Bool.false_ne_true)] at es
        walk_at "n"
        exact ⟨_, _, _, _, by rw [es]; rfl, rfl⟩
    · rintro σ H' ⟨v1, v2, v3, v4, rfl, rfl⟩
      rw [List.length_map, B.pa.len, List.length_map, List.take_length]
      walk_at "n"
      refine x_ret (x_val (by walk_at "val") ?_)
      exact q
/-! ### next_open -/
def nxt (b : Board) (t : Nat) : Option Nat := (List.range 169).find? fun k => !Kex7.isFrozenAt b.freezes (t + k)
def nxtV (t : Nat) : Option Nat → V
  | none => .int (-1)
  | some k => vN (t + k)
def spNxt (A : Ad) : Sp := fun vs H Q _ => ∃ (L : Lay) (b : Board) (t : Nat), vs = [.ref (L.ad .plat), vN t] ∧ Bd A L b H ∧ t ≤ 1000000 ∧ Q (nxtV t (nxt b t)) H
theorem x_ifNB {σ : L2.St} {H : Hp} {te : TE} {t1 t2 : TS} {D : Ends} (h : te σ H fun x H1 => ∃ k, x = .bl k ∧ (if (!k) = true then t1 D σ H1 else t2 D σ H1)) : tIfS (tNot (tB te)) t1 t2 D σ H := h
theorem find_no {p : Nat → Bool} : ∀ (n : Nat), (∀ k, k < n → p k = false) → (List.range n).find? p = none := fun n h => List.find?_eq_none.mpr fun k hk => by
  rw [h k (List.mem_range.mp hk)]
  exact Bool.false_ne_true
theorem find_at {p : Nat → Bool} {n i : Nat} (hi : i < n) (h : ∀ k, k < i → p k = false) (hp : p i = true) : (List.range n).find? p = some i := by
  have e : List.range n = List.range i ++ (List.range (n - i)).map (i + ·) := by
    rw [← List.range_add]
    congr 1
    omega
  rw [e, List.find?_append, find_no i h]
  obtain ⟨m, hm⟩ : ∃ m, n - i = m + 1 := ⟨n - i - 1, by omega⟩
  rw [hm, List.range_succ_eq_map, List.map_cons, List.find?_cons_of_pos (by exact hp)]
  rfl
theorem ok_nxt (F : AtM K A.CP "next_open" "Platform.next_open" s_Pla_next_open ["self", "time"]) (T : Txt P w K mg A) (m_is_frozen : Met P w K mg base 1 A.CP "is_frozen" (spFroz A) []) : Met P w K mg base 2 A.CP "next_open" (spNxt A) [] := by
  refine F.met T.clP sc_Pla_next_open (fun vs H Q E h => ?_) (fun f cdv Ar outer s H vs Q E hr h => ?_)
  · obtain ⟨L, b, t, rfl, _⟩ := h
    rfl
  · obtain ⟨L, b, t, rfl, B, hb, q⟩ := h
    refine ⟨_, (pss_cons (ps_for PassesOwn.never rfl (pi_range2 (by rfl) T.range (pa_cons (pv 1) (pa_cons (pe_op op_add (pe_op op_add (pv 1) (pe_gc (by rfl) T.g_WEEK)) pe_int) pa_nil))) (pg_name (i := 2) sc_Pla_next_open.nd rfl (Or.inl rfl)) (pss_one (ps_if (pt_not (pt_val (pe_mt m_is_frozen hr (by first | decide | omega) (pv 0) (pa_cons (pv 2) pa_nil)))) (pss_one (ps_ret (pv 2))) pss_nil)))
      (pss_one (ps_ret (pe_un un_neg pe_int)))), ?_⟩
    walk_at "n"
    refine ⟨_, rfl, _, rfl, _, _, rfl, rfl, _, _, rfl, rfl, _, _, rfl, ⟨by omega, by omega, by omega, by omega⟩, ?_⟩
    rw [show ((t : Int) + 168 + 1 - (t : Int)).toNat = 169 by omega]
    refine for_range (lo := (t : Int)) (n := 169) (fun i σ H' => ∃ v, σ = [some (.ref (L.ad .plat)), some (vN t), v] ∧ H' = H ∧ ∀ k, k < i → (!Kex7.isFrozenAt b.freezes (t + k)) = false) ⟨none, rfl, rfl, fun k hk => absurd hk (by omega)⟩ ?_ ?_
    · rintro i σ H' hi ⟨v, rfl, rfl, hno⟩
      walk_at "n"
      rw [show (t : Int) + (i : Int) = ((t + i : Nat) : Int) by omega]
      refine x_ifNB (x_meth (by walk_at "val") (B.at_ .plat trivial) (lpn_is_frozen L b) (by walk_at "vala") ?_)
      refine ⟨L, b, t + i, rfl, B, _, rfl, ?_⟩
      cases hf : Kex7.isFrozenAt b.freezes (t + i) with
      | false =>
        refine iteT (x_ret (x_val (by walk_at "val") ?_))
        have e : nxt b t = some i := find_at hi hno (by rw [hf]; rfl)
        rw [e] at q
        exact q
      | true =>
        refine iteF ?_
        walk_at "n"
        refine ⟨_, rfl, rfl, fun k hk => ?_⟩
        by_cases c : k < i
        · exact hno k c
        · rw [show k = i by omega, hf]
          rfl
    · rintro σ H' ⟨v, rfl, rfl, hno⟩
      walk_at "n"
      refine x_ret (x_val (by walk_at "val") ?_)
      have e : nxt b t = none := find_no 169 hno
      rw [e] at q
      exact q
end
end Gc
namespace Gc
open PySem PySem.Spec PyProof.Rows L2
open C8 (Cal Mak Met CalAt pe_c pe_mk pe_mt pe_mt0 pe_gc)
/-! the short tactics (each is a row of one's own, tried by its key) -/
local macro_rules | `(tactic| walk_at "fl") => `(tactic| assumption)
local macro_rules | `(tactic| walk_at "side") => `(tactic| first | assumption | exact Or.inr ⟨by decide, by decide⟩ | exact Or.inl ⟨by decide, by decide⟩ | decide | (refine ⟨by decide, by decide⟩) | omega)
local macro_rules | `(tactic| walk_at "val") => `(tactic| first
  | with_reducible exact val_c
  | ((with_reducible refine' val_var ?vv); (case vv => rfl))
  | ((with_reducible refine' val_fl ?vfa ?vfb); (case vfa => walk_at "val"); (case vfb => walk_at "fl"))
  | ((with_reducible refine' val_len ?vla ?vlb); (case vla => walk_at "val"); (case vlb => walk_at "sq"))
  | ((with_reducible refine' val_I0 ?v0a ?v0b); (case v0a => walk_at "val"); (case v0b => walk_at "val"))
  | ((with_reducible refine' val_I ?via ?vib ?vic); (case via => walk_at "val"); (case vib => walk_at "val"); (case vic => walk_at "side"))
  | ((with_reducible refine' val_neg ?vn); (case vn => walk_at "val"))
  | ((with_reducible refine' val_isN ?vs); (case vs => walk_at "val"))
  | ((with_reducible refine' val_ixL ?xa ?xb ?xc ?xd); (case xa => walk_at "val"); (case xb => walk_at "val"); (case xc => walk_at "sq"); (case xd => walk_at "at"))
  | ((with_reducible refine' val_ixT ?ya ?yb ?yc ?yd); (case ya => walk_at "val"); (case yb => walk_at "val"); (case yc => walk_at "sqt"); (case yd => walk_at "at"))
  | ((with_reducible refine' val_chain ?ca ?cb ?cc); (case ca => walk_at "val"); (case cb => walk_at "val"); (case cc => walk_at "val"))
  | ((with_reducible refine' val_max2 ?ma ?mb); (case ma => walk_at "val"); (case mb => walk_at "val")))
local macro_rules | `(tactic| walk_at "sq") => `(tactic| first | assumption | exact SqL.of (by assumption))
local macro_rules | `(tactic| walk_at "sqt") => `(tactic| first | assumption | exact SqT.of (by assumption))
local macro_rules | `(tactic| walk_at "at") => `(tactic| first | assumption | rfl)
local macro_rules | `(tactic| walk_at "ans") => `(tactic| first
  | ((with_reducible refine' ans_test ?at_); (case at_ => walk_at "val"))
  | ((with_reducible refine' ans_B ?ab_); (case ab_ => walk_at "val"))
  | ((with_reducible refine' ans_or2 ?ao ?ap); (case ao => walk_at "ans"); (case ap => (intro _; walk_at "ans")))
  | ((with_reducible refine' ans_and3 ?aq ?ar); (case aq => walk_at "ans"); (case ar => (intro _; walk_at "ans")))
  | ((with_reducible refine' ans_notM ?an); (case an => walk_at "ans")))
local macro_rules | `(tactic| walk_at "vala") => `(tactic| first
  | with_reducible exact vala_nil
  | ((with_reducible refine' vala_cons ?wa ?wb); (case wa => walk_at "val"); (case wb => walk_at "vala")))
local macro_rules | `(tactic| walk_at "n") => `(tactic| (repeat (first | (with_reducible refine x_gn ?_) | (with_reducible refine st_seq ?_) | (with_reducible refine st_next ?_) | dsimp only)))
local macro_rules | `(tactic| walk_at "fl") => `(tactic| first
  | assumption
  | ((with_reducible refine' fp_people ?fB ?fT); (case fB => assumption); (case fT => assumption))
  | ((with_reducible refine' fp_clock ?fB ?fT); (case fB => assumption); (case fT => assumption))
  | ((with_reducible refine' fp_settings ?fB ?fT); (case fB => assumption); (case fT => assumption))
  | ((with_reducible refine' fp_classes ?fB ?fT); (case fB => assumption); (case fT => assumption))
  | ((with_reducible refine' fp_needs ?fB ?fT); (case fB => assumption); (case fT => assumption))
  | ((with_reducible refine' fp_own_counts ?fB ?fT); (case fB => assumption); (case fT => assumption))
  | ((with_reducible refine' fp_freezes ?fB ?fT); (case fB => assumption); (case fT => assumption))
  | ((with_reducible refine' fp_proposals ?fB ?fT); (case fB => assumption); (case fT => assumption))
  | ((with_reducible refine' fp_guards ?fB ?fT); (case fB => assumption); (case fT => assumption))
  | ((with_reducible refine' fp_log ?fB ?fT); (case fB => assumption); (case fT => assumption))
  | ((with_reducible refine' fp_past ?fB ?fT); (case fB => assumption); (case fT => assumption))
  | ((with_reducible refine' fq_author ?fB ?fT ?fH); (case fB => assumption); (case fT => assumption); (case fH => assumption))
  | ((with_reducible refine' fq_time ?fB ?fT ?fH); (case fB => assumption); (case fT => assumption); (case fH => assumption))
  | ((with_reducible refine' fq_changes ?fB ?fT ?fH); (case fB => assumption); (case fT => assumption); (case fH => assumption))
  | ((with_reducible refine' fq_approvals ?fB ?fT ?fH); (case fB => assumption); (case fT => assumption); (case fH => assumption))
  | ((with_reducible refine' fq_status ?fB ?fT ?fH); (case fB => assumption); (case fT => assumption); (case fH => assumption))
  | ((with_reducible refine' fq_end ?fB ?fT ?fH); (case fB => assumption); (case fT => assumption); (case fH => assumption))
  | ((with_reducible refine' fq_before ?fB ?fT ?fH); (case fB => assumption); (case fT => assumption); (case fH => assumption)))
local macro_rules | `(tactic| walk_at "sq") => `(tactic| first | assumption | exact SqL.of (by assumption) | exact s_sets (by assumption) | exact s_cls (by assumption) | exact s_need (by assumption) | exact s_own (by assumption) | exact s_frz (by assumption) | exact s_prs (by assumption) | exact s_grd (by assumption) | exact s_log (by assumption) | exact s_past (by assumption) | exact s_chg (by assumption) (by assumption) | exact s_apr (by assumption) (by assumption) | exact s_bef (by assumption) (by assumption))
local macro_rules | `(tactic| walk_at "at") => `(tactic| first | assumption | exact atI_0 rfl | exact atI_1 rfl | exact atI_2 rfl)
abbrev s_Pro_described : Stmt := inClass (topS 21) 2
theorem sc_Pro_described : FnScope ["self", "found", "change"] ["self"] (defScope s_Pro_described) := ⟨rfl, rfl, rfl, by decide +kernel, rfl, by decide +kernel, by decide +kernel⟩
section
variable {P : Program} {w : World} {K : PySem.W.Frag} {mg : Str → Option Value} {base : Heap} {A : Ad}
/-! ### described -/
def desc (p : Kex7.Proposal) : List Nat := [p.status, p.author, p.time, p.ended, p.approvals.length] ++ p.approvals ++ p.changes.flatMap fun c => [c.key, c.expected, c.value]
def spDesc (A : Ad) : Sp := fun vs H Q _ => ∃ (L : Lay) (b : Board) (c i : Nat), vs = [.ref (L.ad (.pin i))] ∧ Bd A L b H ∧ Wf c b ∧ i < b.proposals.length ∧ ∀ H' p, Same H H' → H p = none → H' p = some (.lst ((desc (pr b i)).map vN)) → Q (.ref p) H'
theorem desc_len {c : Nat} {p : Kex7.Proposal} (h : PrOk c p) (hc : c ≤ 1000) (k : Nat) : ([p.status, p.author, p.time, p.ended, p.approvals.length] ++ p.approvals ++ (p.changes.take k).flatMap fun c => [c.key, c.expected, c.value]).length ≤ 2000 := by
  have h1 := h.few
  have h2 := h.le
  have h3 : ∀ l : List Kex7.Change, (l.flatMap fun c => [c.key, c.expected, c.value]).length = 3 * l.length := fun l => by
    induction l with
    | nil => rfl
    | cons x r ih =>
      rw [List.flatMap_cons, List.length_append, ih, List.length_cons]
      show 3 + 3 * r.length = 3 * (r.length + 1)
      omega
  rw [List.length_append, List.length_append, h3, List.length_take]
  show 5 + p.approvals.length + 3 * min k p.changes.length ≤ 2000
  omega
theorem ok_desc (F : AtM K A.CQ "described" "Proposal.described" s_Pro_described ["self"]) (T : Txt P w K mg A) : Met P w K mg base 1 A.CQ "described" (spDesc A) [] := by
  refine F.met T.clQ sc_Pro_described (fun vs H Q E h => ?_) (fun f cdv Ar outer s H vs Q E hr h => ?_)
  · obtain ⟨L, b, c, i, rfl, _⟩ := h
    rfl
  · obtain ⟨L, b, c, i, rfl, B, W, hi, q⟩ := h
    have hp := W.p hi
    refine ⟨_, (pss_cons (ps_set (i := 1) sc_Pro_described.nd rfl (Or.inl rfl) (pe_lst (pa_cons (pe_fld (pv 0) rfl) (pa_cons (pe_fld (pv 0) rfl) (pa_cons (pe_fld (pv 0) rfl) (pa_cons (pe_fld (pv 0) rfl) (pa_cons (pe_callB call_lenM (by rfl) T.len (by decide +kernel) (pa_cons (pe_fld (pv 0) rfl) pa_nil)) pa_nil)))))))
      (pss_cons (ps_expr (pe_bm PySem.F.plainAttrs_list PySem.F.slot_list_extend PySem.F.type_list_extend mt_extend (pv 1) (pa_cons (pe_fld (pv 0) rfl) pa_nil)))
      (pss_cons (ps_for PassesOwn.never rfl (pi_list (pe_fld (pv 0) rfl)) (pg_name (i := 2) sc_Pro_described.nd rfl (Or.inl rfl)) (pss_one (ps_expr (pe_bm PySem.F.plainAttrs_list PySem.F.slot_list_extend PySem.F.type_list_extend mt_extend (pv 1) (pa_cons (pe_callTy call_listM (by rfl) T.list (by decide +kernel) (pa_cons (pv 2) pa_nil)) pa_nil)))))
      (pss_one (ps_ret (pv 1)))))), ?_⟩
    walk_at "n"
    refine x_set (x_lstV (by walk_at "vala") fun p np => ?_)
    rw [List.length_map]
    have s1 := same_upd (o := .lst ([(pr b i).status, (pr b i).author, (pr b i).time, (pr b i).ended, (pr b i).approvals.length].map vN)) np
    have B1 := B.mono s1
    have e1 : (upd H p (.lst ([(pr b i).status, (pr b i).author, (pr b i).time, (pr b i).ended, (pr b i).approvals.length].map vN))) p = some (.lst ([(pr b i).status, (pr b i).author, (pr b i).time, (pr b i).ended, (pr b i).approvals.length].map vN)) := upd_same
    have hd := desc_len hp W.few
    show tSeq _ _ _ _ (upd H p (.lst ([(pr b i).status, (pr b i).author, (pr b i).time, (pr b i).ended, (pr b i).approvals.length].map vN)))
    generalize upd H p (.lst ([(pr b i).status, (pr b i).author, (pr b i).time, (pr b i).ended, (pr b i).approvals.length].map vN)) = H1 at s1 B1 e1
    walk_at "n"
    refine x_drop (x_ext (by walk_at "val") e1 (x_val (by walk_at "val") ?_))
    have n1 : p ≠ L.ad (.apr i) := fun e => by
      have z := B.at_ (.apr i) hi
      rw [← e, np] at z
      cases z
    refine x_rext e1 (B1.at_ (.apr i) hi) (by rw [List.length_map, List.length_map]; have := hp.few; have := W.few; show 5 + _ ≤ _; omega) ?_
    have s2 : Same H (upd H1 p (.lst ([(pr b i).status, (pr b i).author, (pr b i).time, (pr b i).ended, (pr b i).approvals.length].map vN ++ (pr b i).approvals.map vN))) := same_upd2 s1 np
    have e2 : (upd H1 p (.lst ([(pr b i).status, (pr b i).author, (pr b i).time, (pr b i).ended, (pr b i).approvals.length].map vN ++ (pr b i).approvals.map vN))) p = some (.lst (([(pr b i).status, (pr b i).author, (pr b i).time, (pr b i).ended, (pr b i).approvals.length] ++ (pr b i).approvals).map vN)) := by rw [upd_same, List.map_append]
    walk_at "n"
    generalize upd H1 p (.lst ([(pr b i).status, (pr b i).author, (pr b i).time, (pr b i).ended, (pr b i).approvals.length].map vN ++ (pr b i).approvals.map vN)) = H2 at s2 e2
    have B2 := B.mono s2
    refine x_forL (by walk_at "val") (s_chg B2 hi) (fun k σ H' => ∃ v, σ = [some (.ref (L.ad (.pin i))), some (.ref p), v] ∧ Same H H' ∧ H' p = some (.lst (([(pr b i).status, (pr b i).author, (pr b i).time, (pr b i).ended, (pr b i).approvals.length] ++ (pr b i).approvals ++ ((pr b i).changes.take k).flatMap fun c => [c.key, c.expected, c.value]).map vN))) ⟨none, rfl, s2, by rw [e2]; simp⟩ (fun i σ H' _ ⟨_, _, s, _⟩ => s_chg (B.mono s) hi) ?_ ?_
    · rintro k y σ H' hy ⟨v, rfl, sm, hl⟩
      have hk : k < (pr b i).changes.length := by
        have := len_at hy
        rw [List.length_map, (B.ch i hi).len, List.length_map] at this
        exact this
      obtain ⟨t, rfl, ht⟩ := ch_at B hi hy (List.getElem?_eq_getElem hk)
      walk_at "n"
      refine x_drop (x_ext (by walk_at "val") hl (x_cb1 ?_))
      refine ⟨_, rfl, t, _, rfl, .inr (SqT.of (sm _ _ ht)), fun l nl => ?_⟩
      refine x_rext (same_upd nl _ _ hl) upd_same (by
        rw [List.length_map]
        have := hd k
        show _ + 3 ≤ _
        omega) ?_
      refine ⟨_, rfl, same_upd2 (sm.trans (same_upd nl)) np, ?_⟩
      rw [upd_same, take_more (List.getElem?_eq_getElem hk), List.flatMap_append, ← List.append_assoc]
      have ec : ∀ l : List Nat, l.map vN ++ tCh (pr b i).changes[k] = (l ++ [(pr b i).changes[k]].flatMap fun c => [c.key, c.expected, c.value]).map vN := fun l => by
        rw [List.map_append]
        rfl
      rw [ec]
    · rintro σ H' ⟨v, rfl, sm, hl⟩
      rw [List.length_map, (B.ch i hi).len, List.length_map, List.take_length] at hl
      walk_at "n"
      refine x_ret (x_val (by walk_at "val") ?_)
      exact q H' p sm np hl
end
end Gc
namespace Gc
open PySem PySem.Spec PyProof.Rows L2
open C8 (Cal Mak Met CalAt pe_c pe_mk pe_mt pe_mt0 pe_gc)
/-! the short tactics (each is a row of one's own, tried by its key) -/
local macro_rules | `(tactic| walk_at "fl") => `(tactic| assumption)
local macro_rules | `(tactic| walk_at "side") => `(tactic| first | assumption | exact Or.inr ⟨by decide, by decide⟩ | exact Or.inl ⟨by decide, by decide⟩ | decide | (refine ⟨by decide, by decide⟩) | omega)
local macro_rules | `(tactic| walk_at "val") => `(tactic| first
  | with_reducible exact val_c
  | ((with_reducible refine' val_var ?vv); (case vv => rfl))
  | ((with_reducible refine' val_fl ?vfa ?vfb); (case vfa => walk_at "val"); (case vfb => walk_at "fl"))
  | ((with_reducible refine' val_len ?vla ?vlb); (case vla => walk_at "val"); (case vlb => walk_at "sq"))
  | ((with_reducible refine' val_I0 ?v0a ?v0b); (case v0a => walk_at "val"); (case v0b => walk_at "val"))
  | ((with_reducible refine' val_I ?via ?vib ?vic); (case via => walk_at "val"); (case vib => walk_at "val"); (case vic => walk_at "side"))
  | ((with_reducible refine' val_neg ?vn); (case vn => walk_at "val"))
  | ((with_reducible refine' val_isN ?vs); (case vs => walk_at "val"))
  | ((with_reducible refine' val_ixL ?xa ?xb ?xc ?xd); (case xa => walk_at "val"); (case xb => walk_at "val"); (case xc => walk_at "sq"); (case xd => walk_at "at"))
  | ((with_reducible refine' val_ixT ?ya ?yb ?yc ?yd); (case ya => walk_at "val"); (case yb => walk_at "val"); (case yc => walk_at "sqt"); (case yd => walk_at "at"))
  | ((with_reducible refine' val_chain ?ca ?cb ?cc); (case ca => walk_at "val"); (case cb => walk_at "val"); (case cc => walk_at "val"))
  | ((with_reducible refine' val_max2 ?ma ?mb); (case ma => walk_at "val"); (case mb => walk_at "val")))
local macro_rules | `(tactic| walk_at "sq") => `(tactic| first | assumption | exact SqL.of (by assumption))
local macro_rules | `(tactic| walk_at "sqt") => `(tactic| first | assumption | exact SqT.of (by assumption))
local macro_rules | `(tactic| walk_at "at") => `(tactic| first | assumption | rfl)
local macro_rules | `(tactic| walk_at "ans") => `(tactic| first
  | ((with_reducible refine' ans_test ?at_); (case at_ => walk_at "val"))
  | ((with_reducible refine' ans_B ?ab_); (case ab_ => walk_at "val"))
  | ((with_reducible refine' ans_or2 ?ao ?ap); (case ao => walk_at "ans"); (case ap => (intro _; walk_at "ans")))
  | ((with_reducible refine' ans_and3 ?aq ?ar); (case aq => walk_at "ans"); (case ar => (intro _; walk_at "ans")))
  | ((with_reducible refine' ans_notM ?an); (case an => walk_at "ans")))
local macro_rules | `(tactic| walk_at "vala") => `(tactic| first
  | with_reducible exact vala_nil
  | ((with_reducible refine' vala_cons ?wa ?wb); (case wa => walk_at "val"); (case wb => walk_at "vala")))
local macro_rules | `(tactic| walk_at "n") => `(tactic| (repeat (first | (with_reducible refine x_gn ?_) | (with_reducible refine st_seq ?_) | (with_reducible refine st_next ?_) | dsimp only)))
local macro_rules | `(tactic| walk_at "fl") => `(tactic| first
  | assumption
  | ((with_reducible refine' fp_people ?fB ?fT); (case fB => assumption); (case fT => assumption))
  | ((with_reducible refine' fp_clock ?fB ?fT); (case fB => assumption); (case fT => assumption))
  | ((with_reducible refine' fp_settings ?fB ?fT); (case fB => assumption); (case fT => assumption))
  | ((with_reducible refine' fp_classes ?fB ?fT); (case fB => assumption); (case fT => assumption))
  | ((with_reducible refine' fp_needs ?fB ?fT); (case fB => assumption); (case fT => assumption))
  | ((with_reducible refine' fp_own_counts ?fB ?fT); (case fB => assumption); (case fT => assumption))
  | ((with_reducible refine' fp_freezes ?fB ?fT); (case fB => assumption); (case fT => assumption))
  | ((with_reducible refine' fp_proposals ?fB ?fT); (case fB => assumption); (case fT => assumption))
  | ((with_reducible refine' fp_guards ?fB ?fT); (case fB => assumption); (case fT => assumption))
  | ((with_reducible refine' fp_log ?fB ?fT); (case fB => assumption); (case fT => assumption))
  | ((with_reducible refine' fp_past ?fB ?fT); (case fB => assumption); (case fT => assumption))
  | ((with_reducible refine' fq_author ?fB ?fT ?fH); (case fB => assumption); (case fT => assumption); (case fH => assumption))
  | ((with_reducible refine' fq_time ?fB ?fT ?fH); (case fB => assumption); (case fT => assumption); (case fH => assumption))
  | ((with_reducible refine' fq_changes ?fB ?fT ?fH); (case fB => assumption); (case fT => assumption); (case fH => assumption))
  | ((with_reducible refine' fq_approvals ?fB ?fT ?fH); (case fB => assumption); (case fT => assumption); (case fH => assumption))
  | ((with_reducible refine' fq_status ?fB ?fT ?fH); (case fB => assumption); (case fT => assumption); (case fH => assumption))
  | ((with_reducible refine' fq_end ?fB ?fT ?fH); (case fB => assumption); (case fT => assumption); (case fH => assumption))
  | ((with_reducible refine' fq_before ?fB ?fT ?fH); (case fB => assumption); (case fT => assumption); (case fH => assumption)))
local macro_rules | `(tactic| walk_at "sq") => `(tactic| first | assumption | exact SqL.of (by assumption) | exact s_sets (by assumption) | exact s_cls (by assumption) | exact s_need (by assumption) | exact s_own (by assumption) | exact s_frz (by assumption) | exact s_prs (by assumption) | exact s_grd (by assumption) | exact s_log (by assumption) | exact s_past (by assumption) | exact s_chg (by assumption) (by assumption) | exact s_apr (by assumption) (by assumption) | exact s_bef (by assumption) (by assumption))
local macro_rules | `(tactic| walk_at "at") => `(tactic| first | assumption | exact atI_0 rfl | exact atI_1 rfl | exact atI_2 rfl)
abbrev s_Pla_try_out : Stmt := inClass (topS 28) 6
theorem sc_Pla_try_out : FnScope ["self", "number", "proposal", "change"] ["self", "number"] (defScope s_Pla_try_out) := ⟨rfl, rfl, rfl, by decide +kernel, rfl, by decide +kernel, by decide +kernel⟩
section
variable {P : Program} {w : World} {K : PySem.W.Frag} {mg : Str → Option Value} {base : Heap} {A : Ad}
/-! ### try_out -/
section
variable {σ : L2.St} {H : Hp} {te ta tb : TE} {t u : TT} {t1 t2 : TS} {D : Ends} {x : Bool} {l C dx : Addr} {fs : List (Str × V)} {f : Str} {v : V} {Q : VK}
theorem x_ifOr (h1 : Ans t σ H x) (yes : x = true → t1 D σ H) (no : x = false → tIfS u t1 t2 D σ H) : tIfS (tOr t u) t1 t2 D σ H := h1 _ (by
  cases x with
  | true => exact iteT (iteT (yes rfl))
  | false => exact iteF (no rfl))
theorem x_ifT (h : te σ H fun y H1 => ∃ k, y = .bl k ∧ (if k = true then t1 D σ H1 else t2 D σ H1)) : tIfS (tTest te) t1 t2 D σ H := h
theorem x_sfldR (h : tb σ H fun y H1 => ta σ H1 fun z H2 => ∃ a C dx fs, z = .ref a ∧ H2 a = some (.ins C dx fs) ∧ Cls K C ∧ NoAttr K C f ∧ fs.length < 1000 ∧ D.nx σ (upd H2 a (.ins C dx (putF f y fs)))) : sFld K ta tb f D σ H := h
end
def spTry (A : Ad) : Sp := fun vs H Q _ => ∃ (L : Lay) (b : Board) (c i : Nat), vs = [.ref (L.ad .plat), vN i] ∧ Bd A L b H ∧ Wf c b ∧ i < b.proposals.length ∧
  ∀ H' L', Bd A L' (Kex7.attempt b i) H' → Fr L b H L' (Kex7.attempt b i) H' → Q .non H'
theorem at_prs {L : Lay} {b : Board} {i : Nat} (hi : i < b.proposals.length) : atI ((List.range b.proposals.length).map fun i => V.ref (L.ad (.pin i))) (i : Int) = some (.ref (L.ad (.pin i))) := atI_n (by
  rw [List.getElem?_map, List.getElem?_range hi]
  rfl)
theorem ok_try (F : AtM K A.CP "try_out" "Platform.try_out" s_Pla_try_out ["self", "number"]) (T : Txt P w K mg A) (m_approvals_of : Met P w K mg base 1 A.CP "approvals_of" (spApp A) []) (m_fits : Met P w K mg base 1 A.CP "fits" (spFits A) [])
    (m_finish : Met P w K mg base 1 A.CQ "finish" (spFin A) []) (m_note : Met P w K mg base 1 A.CP "note" (spNote A) []) (m_assign : Met P w K mg base 1 A.CP "assign" (spAsg A) []) : Met P w K mg base 2 A.CP "try_out" (spTry A) [] := by
  refine F.met T.clP sc_Pla_try_out (fun vs H Q E h => ?_) (fun f cdv Ar outer s H vs Q E hr h => ?_)
  · obtain ⟨L, b, c, i, rfl, _⟩ := h
    rfl
  · obtain ⟨L, b, c, i, rfl, B, W, hi, q⟩ := h
    have hp := W.p hi
    have hpi := pr_at hi
    have hat := at_prs (L := L) hi
    refine ⟨_, (pss_cons (ps_set (i := 2) sc_Pla_try_out.nd rfl (Or.inl rfl) (pe_ix ix_list (pe_fld (pv 0) rfl) (pv 1) (fun _ _ => rfl)))
      (pss_cons (ps_if (PW.pt (pw_or (pt_cmpR op_neI (pe_fld (pv 2) rfl) (pe_gc (by rfl) T.g_OPEN) (nomark _)) (pw_or (pt_cmpR op_gt (pe_fld (pv 2) rfl) (pe_fld (pv 0) rfl) (nomark _)) (pw_or1 (pt_cmpR op_gt (pe_ix ix_tup (pe_mt m_approvals_of hr (by first | decide | omega) (pv 0) (pa_cons (pv 2) pa_nil)) pe_int (fun _ _ => rfl)) pe_int (nomark _)))))) (pss_one ps_retN) pss_nil)
      (pss_cons (ps_if (pt_not (pt_val (pe_mt m_fits hr (by first | decide | omega) (pv 0) (pa_cons (pv 2) pa_nil)))) (pss_cons (ps_expr (pe_mt m_finish hr (by first | decide | omega) (pv 2) (pa_cons (pe_gc (by rfl) T.g_FAILED) (pa_cons (pe_fld (pv 0) rfl) pa_nil))))
      (pss_cons (ps_expr (pe_mt m_note hr (by first | decide | omega) (pv 0) (pa_cons pe_int (pa_cons (pe_fld (pv 2) rfl) (pa_cons (pv 1) pa_nil)))))
      (pss_one ps_retN))) pss_nil)
      (pss_cons (ps_fld (pv 2) (pe_lc (own := [("change", 3)]) (g := gName 3) (tt := tYes) (te := (tOp (rIxL K) (tFld K (tVar 0) "settings") (tOp (rIxT K) (tVar 3) (tC (.int 0))))) rfl sc_Pla_try_out.nd (pi_list (pe_fld (pv 2) rfl)) (blkOk_by (N := ["self", "number", "proposal", "change"]) (sc := defScope s_Pla_try_out) (by decide +kernel)) (fun _ _ _ _ _ => pg_name (i := 3) sc_Pla_try_out.nd rfl (Or.inl rfl)) (fun _ _ _ _ _ => by exact pts_nil) (fun _ _ _ _ _ => by exact (pe_ix ix_list (pe_fld (pv 0) rfl) (pe_ix ix_tup (pv 3) pe_int (fun _ _ => rfl)) (fun _ _ => rfl)))) rfl)
      (pss_cons (ps_for PassesOwn.never rfl (pi_list (pe_fld (pv 2) rfl)) (pg_name (i := 3) sc_Pla_try_out.nd rfl (Or.inl rfl)) (pss_one (ps_expr (pe_mt m_assign hr (by first | decide | omega) (pv 0) (pa_cons (pe_ix ix_tup (pv 3) pe_int (fun _ _ => rfl)) (pa_cons (pe_ix ix_tup (pv 3) pe_int (fun _ _ => rfl)) (pa_cons (pv 1) pa_nil)))))))
      (pss_cons (ps_expr (pe_mt m_finish hr (by first | decide | omega) (pv 2) (pa_cons (pe_gc (by rfl) T.g_APPLIED) (pa_cons (pe_fld (pv 0) rfl) pa_nil))))
      (pss_one (ps_expr (pe_mt m_note hr (by first | decide | omega) (pv 0) (pa_cons pe_int (pa_cons (pe_fld (pv 2) rfl) (pa_cons (pv 1) pa_nil)))))))))))), ?_⟩
    walk_at "n"
    refine x_setV (by walk_at "val") ?_
    walk_at "n"
    have skip : skips b (pr b i) → Q .non H := fun sk => q H L (by rw [att_skip hpi sk]; exact B) (by rw [att_skip hpi sk]; exact Fr.refl L b H)
    refine x_ifOr (by walk_at "ans") (fun h1 => skip (.inl fun e => ?_)) (fun h1 => ?_)
    · rw [e] at h1
      exact absurd h1 (by decide)
    have s0 : (pr b i).status = 0 := by
      cases z : decide (((pr b i).status : Int) = 0) with
      | true =>
        have := of_decide_eq_true z
        omega
      | false =>
        rw [z] at h1
        cases h1
    refine x_ifOr (by walk_at "ans") (fun h2 => skip (.inr (.inl (by have := of_decide_eq_true h2; omega)))) (fun h2 => ?_)
    have t0 : ¬ b.clock < (pr b i).time := by have := of_decide_eq_false h2; omega
    refine x_ifT (x_op (x_op (x_meth (by walk_at "val") (B.at_ .plat trivial) (lpn_approvals_of L b) (by walk_at "vala") ?_)))
    refine ⟨L, b, c, i, rfl, B, W, hi, fun H1 t s1 n1 e1 => ?_⟩
    have B1 := B.mono s1
    refine ⟨t, _, 0, vN (Kex7.missing b (pr b i)), rfl, rfl, SqT.of e1, atI_0 rfl, ?_⟩
    refine ⟨_, _, rfl, rfl, _, rfl, ?_⟩
    by_cases hm : 0 < Kex7.missing b (pr b i)
    · rw [decide_eq_true (show (0 : Int) < ((Kex7.missing b (pr b i) : Nat) : Int) by omega)]
      refine iteT ?_
      have sk : skips b (pr b i) := .inr (.inr hm)
      exact q H1 L (by rw [att_skip hpi sk]; exact B1) (by rw [att_skip hpi sk]; exact Fr.same s1)
    rw [decide_eq_false (show ¬ (0 : Int) < ((Kex7.missing b (pr b i) : Nat) : Int) by omega)]
    refine iteF ?_
    have ns : ¬ skips b (pr b i) := fun z => by
      rcases z with z | z | z
      · exact z s0
      · exact t0 z
      · exact hm z
    have f1 : Fr L b H L b H1 := Fr.same s1
    walk_at "n"
    refine x_ifNB (x_meth (by walk_at "val") (B1.at_ .plat trivial) (lpn_fits L b) (by walk_at "vala") ?_)
    refine ⟨L, b, c, i, rfl, B1, W, hi, fun H2 s2 => ?_⟩
    have B2 := B1.mono s2
    have f2 : Fr L b H L b H2 := f1.trans (Fr.same s2)
    refine ⟨_, rfl, ?_⟩
    cases hf : Kex7.fits b (pr b i) with
    | false =>
      refine iteT ?_
      walk_at "n"
      refine x_drop (x_meth (by walk_at "val") (B2.at_ (.pin i) hi) (lqn_finish L i _) (by walk_at "vala") ?_)
      refine ⟨L, _, _, i, pr b i, 3, b.clock, rfl, B2.at_ (.pin i) hi, ?_⟩
      obtain ⟨B3, f3⟩ := B2.setP hi { pr b i with status := 3, ended := b.clock } rfl rfl rfl
      have hi3 : i < (Kex7.withProposal b i { pr b i with status := 3, ended := b.clock }).proposals.length := by rw [show (Kex7.withProposal b i { pr b i with status := 3, ended := b.clock }).proposals.length = b.proposals.length from List.length_set]; exact hi
      have ep : pr (Kex7.withProposal b i { pr b i with status := 3, ended := b.clock }) i = { pr b i with status := 3, ended := b.clock } := pr_set_same hi
      have hl := W.log
      generalize upd H2 (L.ad (.pin i)) (.ins A.CQ (L.ad (.pdx i)) (prF L i { pr b i with status := 3, ended := b.clock })) = H3 at B3 f3
      have fa : Fl K H3 (L.ad (.pin i)) "author" (vN (pr b i).author) := by
        have z := fq_author B3 T hi3
        rw [ep] at z
        exact z
      walk_at "n"
      refine x_drop (x_meth (by walk_at "val") (B3.at_ .plat trivial) (lpn_note L _) (by walk_at "vala") ?_)
      refine ⟨L, _, 6, (pr b i).author, i, rfl, B3, by show b.log.length ≤ 1000000; omega, fun H4 L4 B4 f4 _ => ?_⟩
      walk_at "n"
      have e := att_fail hpi ns hf
      exact q H4 L4 (by rw [e]; exact B4) (by rw [e]; exact (f2.trans f3).trans f4)
    | true =>
      refine iteF ?_
      walk_at "n"
      have hcl : ((L.ch i).map V.ref).length = (pr b i).changes.length := by rw [List.length_map, (B2.ch i hi).len, List.length_map]
      have hcs : ((L.ch i).map V.ref).length ≤ 1000000 := by have := hp.le; omega
      have ck : ∀ x ∈ (pr b i).changes, x.key < b.values.length := fun x hx => by rw [W.vals]; exact hp.key x hx
      refine x_sfldR (lca1 (cs := (pr b i).changes) (fun c => vN (b.values.getD c.key 0)) (by walk_at "val") (s_chg B2 hi) hcl hcs (fun k x c hx hc H' sm => ?_) fun D1 H3 n3 s3 e3 => ?_)
      · obtain ⟨t, rfl, ht⟩ := ch_at B2 hi hx hc
        have B' := B2.mono sm
        have ht' := SqT.of (K := K) (sm _ _ ht)
        have hm := List.mem_of_getElem? hc
        have a1 : atI (tCh c) 0 = some (vN c.key) := atI_0 rfl
        have a2 := at_vN (ck c hm)
        refine ValS.of ?_
        exact val_ixL (by walk_at "val") (by walk_at "val") (s_sets B') a2
      have B3 := B2.mono s3
      refine ⟨_, rfl, _, _, _, _, rfl, B3.at_ (.pin i) hi, T.clQ, T.nQ_before, by show 7 < 1000; decide, ?_⟩
      have e3' : H3 D1 = some (.lst ((befV b (pr b i)).map vN)) := by rw [e3]; unfold befV; rw [List.map_map]; rfl
      obtain ⟨B4, f4⟩ := B3.newBef (H0 := H2) hi s3 B2 n3 e3'
      obtain ⟨q1, hq1⟩ : ∃ q1 : Kex7.Proposal, q1 = { pr b i with before := befV b (pr b i) } := ⟨_, rfl⟩
      rw [← hq1] at B4 f4
      have f4' : Fr L b H (L.bef i D1) (Kex7.withProposal b i q1) _ := f2.trans f4
      have ec : q1.changes = (pr b i).changes := by rw [hq1]
      generalize upd H3 (L.ad (.pin i)) (.ins A.CQ (L.ad (.pdx i)) (putF "before" (.ref D1) (prF L i (pr b i)))) = H4 at B4 f4'
      have hl1 : (Kex7.withProposal b i q1).proposals.length = b.proposals.length := List.length_set
      have hi1 : i < (Kex7.withProposal b i q1).proposals.length := by rw [hl1]; exact hi
      have ep1 : pr (Kex7.withProposal b i q1) i = q1 := pr_set_same hi
      walk_at "n"
      -- the assignments
      have step : ∀ k, (List.take k (pr b i).changes).foldl (fun x c => Kex7.assign x i c) (Kex7.withProposal b i q1) = Kex7.withProposal ((List.take k (pr b i).changes).foldl (fun x c => Kex7.assign x i c) b) i q1 := fun k => asgs_with i i q1 _ b
      have hchg : Fl K H4 (L.ad (.pin i)) "changes" (.ref (L.ad (.chg i))) := by
        have z := fq_changes B4 T hi1
        rw [L.bef_ne i D1 (by intro e; cases e), L.bef_ne i D1 (by intro e; cases e)] at z
        exact z
      have sch : SqL K H4 (L.ad (.chg i)) ((L.ch i).map V.ref) := by
        have z := s_chg (K := K) B4 hi1
        rw [L.bef_ne i D1 (by intro e; cases e)] at z
        exact z
      refine x_forL (by walk_at "val") sch (fun k σ H' => ∃ v L', σ = [some (.ref (L.ad .plat)), some (vN i), some (.ref (L.ad (.pin i))), v] ∧ Bd A L' ((List.take k (pr b i).changes).foldl (fun x c => Kex7.assign x i c) (Kex7.withProposal b i q1)) H' ∧ Fr L b H L' ((List.take k (pr b i).changes).foldl (fun x c => Kex7.assign x i c) (Kex7.withProposal b i q1)) H') ⟨_, _, rfl, B4, f4'⟩ ?_ ?_ ?_
      · rintro k σ H' hk ⟨v, L', rfl, B', f'⟩
        have ech := f'.ch i hi
        have like := asgs_like i (List.take k (pr b i).changes) (Kex7.withProposal b i q1)
        have z := s_chg (K := K) B' (i := i) (by rw [like.proposals]; exact hi1)
        rw [f'.st (.chg i) hi (by intro j e; cases e), ech] at z
        exact z
      · rintro k y σ H' hy ⟨v, L', rfl, B', f'⟩
        have ech := f'.ch i hi
        have hk : k < (pr b i).changes.length := by
          have := len_at hy
          rw [hcl] at this
          exact this
        have hc := List.getElem?_eq_getElem hk
        have hm := List.mem_of_getElem? hc
        have like := asgs_like i (List.take k (pr b i).changes) (Kex7.withProposal b i q1)
        obtain ⟨cv, hcv⟩ : ∃ cv, cv = (pr b i).changes[k] := ⟨_, rfl⟩
        rw [← hcv] at hc hm
        obtain ⟨t, ht1, ht⟩ := map_at hy
        obtain ⟨vv, hvv, htt⟩ := ((B'.ch i (by rw [like.proposals]; exact hi1)).at (by rw [ech]; exact ht1))
        have evv : vv = tCh cv := by
          rw [like.pr, ep1, ec, List.getElem?_map, hc] at hvv
          exact (Option.some.inj hvv).symm
        subst evv
        subst ht
        have htS := SqT.of (K := K) htt
        have a0 : atI (tCh cv) 0 = some (vN cv.key) := atI_0 rfl
        have a2 : atI (tCh cv) 2 = some (vN cv.value) := atI_2 rfl
        have epl : L'.ad .plat = L.ad .plat := f'.st .plat trivial (by intro j e; cases e)
        walk_at "n"
        refine x_drop (x_meth (a := L.ad .plat) (val_var rfl) (by rw [← epl]; exact B'.at_ .plat trivial) (lpn_assign L' _) (vala_cons (val_ixT (val_var rfl) val_c htS a0) (vala_cons (val_ixT (val_var rfl) val_c htS a2) (vala_cons (val_var rfl) vala_nil))) ?_)
        refine ⟨L', _, cv.key, cv.value, i, by rw [epl], B', by rw [like.vals]; exact ck cv hm, by
          rw [like.hist, List.length_take]
          have := W.past
          have := hp.le
          show b.history.length + _ ≤ _
          omega, fun H5 L5 B5 f5 _ => ?_⟩
        have em : (List.take (k + 1) (pr b i).changes).foldl (fun x c => Kex7.assign x i c) (Kex7.withProposal b i q1) = asgB ((List.take k (pr b i).changes).foldl (fun x c => Kex7.assign x i c) (Kex7.withProposal b i q1)) cv.key cv.value i := by
          rw [take_more hc, List.foldl_append]
          rfl
        walk_at "n"
        refine ⟨_, L5, rfl, ?_, ?_⟩
        · rw [em]
          exact B5
        · rw [em]
          exact f'.trans f5
      · rintro σ H' ⟨v, L', rfl, B', f'⟩
        rw [hcl, List.take_length] at B' f'
        have like := asgs_like i (pr b i).changes (Kex7.withProposal b i q1)
        have eF := asgs_with i i q1 (pr b i).changes b
        have like0 := asgs_like i (pr b i).changes b
        obtain ⟨y, hy⟩ : ∃ y, y = (pr b i).changes.foldl (fun x c => Kex7.assign x i c) (Kex7.withProposal b i q1) := ⟨_, rfl⟩
        rw [← hy] at B' f' like eF
        have epl : L'.ad .plat = L.ad .plat := f'.st .plat trivial (by intro j e; cases e)
        have epi : L'.ad (.pin i) = L.ad (.pin i) := f'.st (.pin i) hi (by intro j e; cases e)
        have hiy : i < y.proposals.length := by rw [like.proposals]; exact hi1
        have epy : pr y i = q1 := by rw [like.pr]; exact ep1
        have hcl : y.clock = b.clock := like.clock
        have fc : Fl K H' (L.ad .plat) "clock" (vN b.clock) := by
          have z := fp_clock B' T
          rw [epl, hcl] at z
          exact z
        have hpin : H' (L.ad (.pin i)) = some (.ins A.CQ (L'.ad (.pdx i)) (prF L' i q1)) := by
          have z := B'.at_ (.pin i) hiy
          rw [epi] at z
          rw [z]
          show some (HO.ins _ _ (prF L' i (pr y i))) = _
          rw [epy]
        walk_at "n"
        refine x_drop (x_meth (a := L.ad (.pin i)) (by walk_at "val") hpin (lqn_finish L' i _) (by walk_at "vala") ?_)
        refine ⟨L', _, _, i, q1, 1, b.clock, rfl, hpin, ?_⟩
        obtain ⟨q3, hq3⟩ : ∃ q3 : Kex7.Proposal, q3 = { q1 with status := 1, ended := b.clock } := ⟨_, rfl⟩
        obtain ⟨B6, f6⟩ := B'.setP hiy q3 (by rw [hq3, epy]) (by rw [hq3, epy]) (by rw [hq3, epy])
        rw [epi] at B6 f6
        rw [← hq3]
        have hi6 : i < (Kex7.withProposal y i q3).proposals.length := by rw [show (Kex7.withProposal y i q3).proposals.length = y.proposals.length from List.length_set]; exact hiy
        have ep6 : pr (Kex7.withProposal y i q3) i = q3 := pr_set_same hiy
        have eau : q3.author = (pr b i).author := by rw [hq3, hq1]
        generalize upd H' (L.ad (.pin i)) (.ins A.CQ (L'.ad (.pdx i)) (prF L' i q3)) = H6 at B6 f6
        have fa : Fl K H6 (L.ad (.pin i)) "author" (vN (pr b i).author) := by
          have z := fq_author B6 T hi6
          rw [ep6, eau, epi] at z
          exact z
        have hlog : (Kex7.withProposal y i q3).log.length ≤ 1000000 := by
          show y.log.length ≤ 1000000
          rw [like.log]
          have := W.log
          show b.log.length ≤ 1000000
          omega
        walk_at "n"
        refine x_drop (x_meth (a := L.ad .plat) (by walk_at "val") (by rw [← epl]; exact B6.at_ .plat trivial) (lpn_note L' _) (by walk_at "vala") ?_)
        refine ⟨L', _, 5, (pr b i).author, i, by rw [epl]; rfl, B6, hlog, fun H7 L7 B7 f7 _ => ?_⟩
        walk_at "n"
        have e := att_done hpi ns hf
        have ey : Kex7.withProposal y i q3 = Kex7.withProposal ((pr b i).changes.foldl (fun x c => Kex7.assign x i c) b) i { pr b i with status := 1, ended := b.clock, before := befV b (pr b i) } := by
          rw [eF, hq3, hq1]
          unfold Kex7.withProposal
          dsimp only
          rw [List.set_set]
        rw [ey] at B7 f7 f6
        exact q H7 L7 (by rw [e]; exact B7) (by rw [e]; exact (f'.trans f6).trans f7)
end
end Gc
namespace Gc
open PySem PySem.Spec PyProof.Rows L2
open C8 (Cal Mak Met CalAt pe_c pe_mk pe_mt pe_mt0 pe_gc)
/-! the short tactics (each is a row of one's own, tried by its key) -/
local macro_rules | `(tactic| walk_at "fl") => `(tactic| assumption)
local macro_rules | `(tactic| walk_at "side") => `(tactic| first | assumption | exact Or.inr ⟨by decide, by decide⟩ | exact Or.inl ⟨by decide, by decide⟩ | decide | (refine ⟨by decide, by decide⟩) | omega)
local macro_rules | `(tactic| walk_at "val") => `(tactic| first
  | with_reducible exact val_c
  | ((with_reducible refine' val_var ?vv); (case vv => rfl))
  | ((with_reducible refine' val_fl ?vfa ?vfb); (case vfa => walk_at "val"); (case vfb => walk_at "fl"))
  | ((with_reducible refine' val_len ?vla ?vlb); (case vla => walk_at "val"); (case vlb => walk_at "sq"))
  | ((with_reducible refine' val_I0 ?v0a ?v0b); (case v0a => walk_at "val"); (case v0b => walk_at "val"))
  | ((with_reducible refine' val_I ?via ?vib ?vic); (case via => walk_at "val"); (case vib => walk_at "val"); (case vic => walk_at "side"))
  | ((with_reducible refine' val_neg ?vn); (case vn => walk_at "val"))
  | ((with_reducible refine' val_isN ?vs); (case vs => walk_at "val"))
  | ((with_reducible refine' val_ixL ?xa ?xb ?xc ?xd); (case xa => walk_at "val"); (case xb => walk_at "val"); (case xc => walk_at "sq"); (case xd => walk_at "at"))
  | ((with_reducible refine' val_ixT ?ya ?yb ?yc ?yd); (case ya => walk_at "val"); (case yb => walk_at "val"); (case yc => walk_at "sqt"); (case yd => walk_at "at"))
  | ((with_reducible refine' val_chain ?ca ?cb ?cc); (case ca => walk_at "val"); (case cb => walk_at "val"); (case cc => walk_at "val"))
  | ((with_reducible refine' val_max2 ?ma ?mb); (case ma => walk_at "val"); (case mb => walk_at "val")))
local macro_rules | `(tactic| walk_at "sq") => `(tactic| first | assumption | exact SqL.of (by assumption))
local macro_rules | `(tactic| walk_at "sqt") => `(tactic| first | assumption | exact SqT.of (by assumption))
local macro_rules | `(tactic| walk_at "at") => `(tactic| first | assumption | rfl)
local macro_rules | `(tactic| walk_at "ans") => `(tactic| first
  | ((with_reducible refine' ans_test ?at_); (case at_ => walk_at "val"))
  | ((with_reducible refine' ans_B ?ab_); (case ab_ => walk_at "val"))
  | ((with_reducible refine' ans_or2 ?ao ?ap); (case ao => walk_at "ans"); (case ap => (intro _; walk_at "ans")))
  | ((with_reducible refine' ans_and3 ?aq ?ar); (case aq => walk_at "ans"); (case ar => (intro _; walk_at "ans")))
  | ((with_reducible refine' ans_notM ?an); (case an => walk_at "ans")))
local macro_rules | `(tactic| walk_at "vala") => `(tactic| first
  | with_reducible exact vala_nil
  | ((with_reducible refine' vala_cons ?wa ?wb); (case wa => walk_at "val"); (case wb => walk_at "vala")))
local macro_rules | `(tactic| walk_at "n") => `(tactic| (repeat (first | (with_reducible refine x_gn ?_) | (with_reducible refine st_seq ?_) | (with_reducible refine st_next ?_) | dsimp only)))
local macro_rules | `(tactic| walk_at "fl") => `(tactic| first
  | assumption
  | ((with_reducible refine' fp_people ?fB ?fT); (case fB => assumption); (case fT => assumption))
  | ((with_reducible refine' fp_clock ?fB ?fT); (case fB => assumption); (case fT => assumption))
  | ((with_reducible refine' fp_settings ?fB ?fT); (case fB => assumption); (case fT => assumption))
  | ((with_reducible refine' fp_classes ?fB ?fT); (case fB => assumption); (case fT => assumption))
  | ((with_reducible refine' fp_needs ?fB ?fT); (case fB => assumption); (case fT => assumption))
  | ((with_reducible refine' fp_own_counts ?fB ?fT); (case fB => assumption); (case fT => assumption))
  | ((with_reducible refine' fp_freezes ?fB ?fT); (case fB => assumption); (case fT => assumption))
  | ((with_reducible refine' fp_proposals ?fB ?fT); (case fB => assumption); (case fT => assumption))
  | ((with_reducible refine' fp_guards ?fB ?fT); (case fB => assumption); (case fT => assumption))
  | ((with_reducible refine' fp_log ?fB ?fT); (case fB => assumption); (case fT => assumption))
  | ((with_reducible refine' fp_past ?fB ?fT); (case fB => assumption); (case fT => assumption))
  | ((with_reducible refine' fq_author ?fB ?fT ?fH); (case fB => assumption); (case fT => assumption); (case fH => assumption))
  | ((with_reducible refine' fq_time ?fB ?fT ?fH); (case fB => assumption); (case fT => assumption); (case fH => assumption))
  | ((with_reducible refine' fq_changes ?fB ?fT ?fH); (case fB => assumption); (case fT => assumption); (case fH => assumption))
  | ((with_reducible refine' fq_approvals ?fB ?fT ?fH); (case fB => assumption); (case fT => assumption); (case fH => assumption))
  | ((with_reducible refine' fq_status ?fB ?fT ?fH); (case fB => assumption); (case fT => assumption); (case fH => assumption))
  | ((with_reducible refine' fq_end ?fB ?fT ?fH); (case fB => assumption); (case fT => assumption); (case fH => assumption))
  | ((with_reducible refine' fq_before ?fB ?fT ?fH); (case fB => assumption); (case fT => assumption); (case fH => assumption)))
local macro_rules | `(tactic| walk_at "sq") => `(tactic| first | assumption | exact SqL.of (by assumption) | exact s_sets (by assumption) | exact s_cls (by assumption) | exact s_need (by assumption) | exact s_own (by assumption) | exact s_frz (by assumption) | exact s_prs (by assumption) | exact s_grd (by assumption) | exact s_log (by assumption) | exact s_past (by assumption) | exact s_chg (by assumption) (by assumption) | exact s_apr (by assumption) (by assumption) | exact s_bef (by assumption) (by assumption))
local macro_rules | `(tactic| walk_at "at") => `(tactic| first | assumption | exact atI_0 rfl | exact atI_1 rfl | exact atI_2 rfl)
abbrev s_Pla_settle : Stmt := inClass (topS 28) 7
theorem sc_Pla_settle : FnScope ["self", "number"] ["self"] (defScope s_Pla_settle) := ⟨rfl, rfl, rfl, by decide +kernel, rfl, by decide +kernel, by decide +kernel⟩
abbrev s_Pla_put_proposal : Stmt := inClass (topS 28) 8
theorem sc_Pla_put_proposal : FnScope ["self", "proposal", "number"] ["self", "proposal"] (defScope s_Pla_put_proposal) := ⟨rfl, rfl, rfl, by decide +kernel, rfl, by decide +kernel, by decide +kernel⟩
section
variable {P : Program} {w : World} {K : PySem.W.Frag} {mg : Str → Option Value} {base : Heap} {A : Ad}
/-! ### settle -/
def spStl (A : Ad) : Sp := fun vs H Q _ => ∃ (L : Lay) (b : Board) (c : Nat), vs = [.ref (L.ad .plat)] ∧ Bd A L b H ∧ Wf c b ∧ ∀ H' L', Bd A L' (Kex7.settle b) H' → Fr L b H L' (Kex7.settle b) H' → Q .non H'
theorem prs_len {L : Lay} {b : Board} : ((List.range b.proposals.length).map fun i => V.ref (L.ad (.pin i))).length = b.proposals.length := by rw [List.length_map, List.length_range]
theorem ok_stl (F : AtM K A.CP "settle" "Platform.settle" s_Pla_settle ["self"]) (T : Txt P w K mg A) (m_is_frozen : Met P w K mg base 1 A.CP "is_frozen" (spFroz A) []) (m_try_out : Met P w K mg base 2 A.CP "try_out" (spTry A) []) : Met P w K mg base 3 A.CP "settle" (spStl A) [] := by
  refine F.met T.clP sc_Pla_settle (fun vs H Q E h => ?_) (fun f cdv Ar outer s H vs Q E hr h => ?_)
  · obtain ⟨L, b, c, rfl, _⟩ := h
    rfl
  · obtain ⟨L, b, c, rfl, B, W, q⟩ := h
    refine ⟨_, (pss_one (ps_if (pt_not (pt_val (pe_mt m_is_frozen hr (by first | decide | omega) (pv 0) (pa_cons (pe_fld (pv 0) rfl) pa_nil)))) (pss_one (ps_for PassesOwn.never rfl (pi_range1 (by rfl) T.range (pa_cons (pe_callB call_lenM (by rfl) T.len (by decide +kernel) (pa_cons (pe_fld (pv 0) rfl) pa_nil)) pa_nil)) (pg_name (i := 1) sc_Pla_settle.nd rfl (Or.inl rfl)) (pss_one (ps_expr (pe_mt m_try_out hr (by first | decide | omega) (pv 0) (pa_cons (pv 1) pa_nil)))))) pss_nil)), ?_⟩
    refine x_ifNB (x_meth (by walk_at "val") (B.at_ .plat trivial) (lpn_is_frozen L b) (by walk_at "vala") ?_)
    refine ⟨L, b, b.clock, rfl, B, _, rfl, ?_⟩
    cases hf : Kex7.isFrozenAt b.freezes b.clock with
    | true =>
      refine iteF ?_
      have e : Kex7.settle b = b := by rw [settle_def, hf, if_pos rfl]
      exact q H L (by rw [e]; exact B) (by rw [e]; exact Fr.refl L b H)
    | false =>
      refine iteT ?_
      have e : Kex7.settle b = stl b b.proposals.length := by rw [settle_def, hf, if_neg Bool.false_ne_true]
      have hn := W.prs
      refine x_forR (n := b.proposals.length) (vala_cons (by rw [← prs_len (L := L)]; exact val_len (val_fl (val_var rfl) (fp_proposals B T)) (s_prs B)) vala_nil) (by omega) (fun i σ H' => ∃ v L', σ = [some (.ref (L.ad .plat)), v] ∧ Bd A L' (stl b i) H' ∧ Fr L b H L' (stl b i) H') ⟨none, L, rfl, B, Fr.refl L b H⟩ ?_ ?_
      · rintro i σ H' hi ⟨v, L', rfl, B', f'⟩
        have epl : L'.ad .plat = L.ad .plat := f'.st .plat trivial (by intro j e; cases e)
        walk_at "n"
        refine x_drop (x_meth (a := L.ad .plat) (by walk_at "val") (by rw [← epl]; exact B'.at_ .plat trivial) (lpn_try_out L' _) (by walk_at "vala") ?_)
        refine ⟨L', _, c, i, by rw [epl], B', W.stl i, by rw [(kept_stl b i).len]; exact hi, fun H2 L2 B2 f2 => ?_⟩
        walk_at "n"
        refine ⟨_, L2, rfl, ?_, ?_⟩
        · rw [stl_more]
          exact B2
        · rw [stl_more]
          exact f'.trans f2
      · rintro σ H' ⟨v, L', rfl, B', f'⟩
        exact q H' L' (by rw [e]; exact B') (by rw [e]; exact f')
/-! ### put_proposal -/
def addB (b : Board) (author time : Nat) (cs : List Kex7.Change) : Board := Kex7.logged (plusP b author time cs) 1 author b.proposals.length
def spPut (A : Ad) : Sp := fun vs H Q _ => ∃ (L : Lay) (b : Board) (c : Nat) (H0 : Hp) (x dx cl al bl : Addr) (chs : List Addr) (author time : Nat) (cs : List Kex7.Change), vs = [.ref (L.ad .plat), .ref x] ∧ Bd A L b H ∧ Bd A L b H0 ∧ Same H0 H ∧
  NewP A H x dx cl al bl chs author time cs ∧ (H0 x = none ∧ H0 dx = none ∧ H0 cl = none ∧ H0 al = none ∧ H0 bl = none) ∧ Wf c (addB b author time cs) ∧
  ∀ H' L', Bd A L' (Kex7.settle (addB b author time cs)) H' → Fr L b H0 L' (Kex7.settle (addB b author time cs)) H' → Q (vN b.proposals.length) H'
theorem ok_put (F : AtM K A.CP "put_proposal" "Platform.put_proposal" s_Pla_put_proposal ["self", "proposal"]) (T : Txt P w K mg A) (m_note : Met P w K mg base 1 A.CP "note" (spNote A) []) (m_settle : Met P w K mg base 3 A.CP "settle" (spStl A) []) : Met P w K mg base 4 A.CP "put_proposal" (spPut A) [] := by
  refine F.met T.clP sc_Pla_put_proposal (fun vs H Q E h => ?_) (fun f cdv Ar outer s H vs Q E hr h => ?_)
  · obtain ⟨L, b, c, H0, x, dx, cl, al, bl, chs, author, time, cs, rfl, _⟩ := h
    rfl
  · obtain ⟨L, b, c, H0, x, dx, cl, al, bl, chs, author, time, cs, rfl, B, B0, s0, N, ⟨g1, g2, g3, g4, g5⟩, W, q⟩ := h
    have hlen : b.proposals.length ≤ 20 := by
      have z := W.prs
      have : (addB b author time cs).proposals.length = b.proposals.length + 1 := plus_len b author time cs
      omega
    refine ⟨_, (pss_cons (ps_set (i := 2) sc_Pla_put_proposal.nd rfl (Or.inl rfl) (pe_callB call_lenM (by rfl) T.len (by decide +kernel) (pa_cons (pe_fld (pv 0) rfl) pa_nil)))
      (pss_cons (ps_expr (pe_bm PySem.F.plainAttrs_list PySem.F.slot_list_append PySem.F.type_list_append mt_append (pe_fld (pv 0) rfl) (pa_cons (pv 1) pa_nil)))
      (pss_cons (ps_expr (pe_mt m_note hr (by first | decide | omega) (pv 0) (pa_cons pe_int (pa_cons (pe_fld (pv 1) rfl) (pa_cons (pv 2) pa_nil)))))
      (pss_cons (ps_expr (pe_mt0 m_settle hr (by first | decide | omega) (pv 0)))
      (pss_one (ps_ret (pv 2))))))), ?_⟩
    walk_at "n"
    refine x_setV (val_len (val_fl (val_var rfl) (fp_proposals B T)) (s_prs B)) ?_
    rw [prs_len]
    walk_at "n"
    refine x_drop (x_app (val_fl (val_var rfl) (fp_proposals B T)) (B.at_ .prs trivial) (x_val (by walk_at "val") ?_))
    refine x_rapp (B.at_ .prs trivial) (by rw [prs_len]; omega) ?_
    obtain ⟨B1, f1⟩ := B.newP B0 s0 N g1 g2 g3 g4 g5
    have epl : (L.newp b.proposals.length x dx cl al bl chs).ad .plat = L.ad .plat := newp_old (fun z => by cases z)
    have epx : (L.newp b.proposals.length x dx cl al bl chs).ad (.pin b.proposals.length) = x := newp_pin
    generalize upd H (L.ad .prs) (.lst (((List.range b.proposals.length).map fun i => V.ref (L.ad (.pin i))) ++ [V.ref x])) = H1 at B1 f1
    generalize L.newp b.proposals.length x dx cl al bl chs = L1 at B1 f1 epl epx
    have fa : Fl K H1 x "author" (vN author) := by
      have z := fq_author B1 T (i := b.proposals.length) (by rw [plus_len]; omega)
      rw [plus_new, epx] at z
      exact z
    walk_at "n"
    refine x_drop (x_meth (a := L.ad .plat) (by walk_at "val") (by rw [← epl]; exact B1.at_ .plat trivial) (lpn_note L1 _) (by walk_at "vala") ?_)
    refine ⟨L1, _, 1, author, b.proposals.length, by rw [epl]; rfl, B1, by
      have z := W.log
      have : (addB b author time cs).log.length = b.log.length + 1 := List.length_append
      show b.log.length ≤ 1000000
      omega, fun H2 L2 B2 f2 _ => ?_⟩
    have epl2 : L2.ad .plat = L.ad .plat := (f2.st .plat trivial (by intro j e; cases e)).trans epl
    walk_at "n"
    refine x_drop (x_meth (a := L.ad .plat) (by walk_at "val") (by rw [← epl2]; exact B2.at_ .plat trivial) (lpn_settle L2 _) (by walk_at "vala") ?_)
    refine ⟨L2, _, c, by rw [epl2], B2, W, fun H3 L3 B3 f3 => ?_⟩
    walk_at "n"
    refine x_ret (x_val (by walk_at "val") ?_)
    exact q H3 L3 B3 ((f1.trans f2).trans f3)
/-! ### report -/
def rep1 (m v : Nat) (x : Board) (i : Nat) : Board := match x.guards[i]? with
  | none => x
  | some g => if Kex7.trips g m v && x.values.getD g.key 0 != g.safe then Kex7.logged (Kex7.assign x Kex7.system ⟨g.key, Kex7.anyValue, g.safe⟩) 7 Kex7.system i else x
def repK (b : Board) (m v k : Nat) : Board := (List.range k).foldl (rep1 m v) b
theorem report_def (b : Board) (m v : Nat) : Kex7.report b m v = repK b m v b.guards.length := rfl
theorem repK_more (b : Board) (m v k : Nat) : repK b m v (k + 1) = rep1 m v (repK b m v k) k := by
  unfold repK
  rw [List.range_succ, List.foldl_append]
  rfl
/-- what reports leave alone -/
structure RepLike (k : Nat) (x y : Board) : Prop where
  people : y.people = x.people
  clock : y.clock = x.clock
  vals : y.values.length = x.values.length
  classes : y.classes = x.classes
  rules : y.rules = x.rules
  freezes : y.freezes = x.freezes
  proposals : y.proposals = x.proposals
  guards : y.guards = x.guards
  log1 : x.log.length ≤ y.log.length
  log2 : y.log.length ≤ x.log.length + k
  hist : y.history.length ≤ x.history.length + k
theorem rep1_like (m v : Nat) (x : Board) (i : Nat) : RepLike 1 x (rep1 m v x i) := by
  unfold rep1
  split
  · exact ⟨rfl, rfl, rfl, rfl, rfl, rfl, rfl, rfl, Nat.le_refl _, Nat.le_succ _, Nat.le_succ _⟩
  · split
    · refine ⟨rfl, rfl, List.length_set, rfl, rfl, rfl, rfl, rfl, ?_, ?_, ?_⟩
      · show x.log.length ≤ (x.log ++ [_]).length
        rw [List.length_append]
        omega
      · show (x.log ++ [_]).length ≤ _
        rw [List.length_append]
        exact Nat.le_refl _
      · show (x.history ++ [_]).length ≤ _
        rw [List.length_append]
        exact Nat.le_refl _
    · exact ⟨rfl, rfl, rfl, rfl, rfl, rfl, rfl, rfl, Nat.le_refl _, Nat.le_succ _, Nat.le_succ _⟩
theorem repK_like (b : Board) (m v : Nat) : ∀ k, RepLike k b (repK b m v k)
  | 0 => ⟨rfl, rfl, rfl, rfl, rfl, rfl, rfl, rfl, Nat.le_refl _, Nat.le_refl _, Nat.le_refl _⟩
  | k + 1 => by
    rw [repK_more]
    have h := repK_like b m v k
    have h1 := rep1_like m v (repK b m v k) k
    exact ⟨h1.people.trans h.people, h1.clock.trans h.clock, h1.vals.trans h.vals, h1.classes.trans h.classes, h1.rules.trans h.rules, h1.freezes.trans h.freezes, h1.proposals.trans h.proposals, h1.guards.trans h.guards,
      Nat.le_trans h.log1 h1.log1, by have := h.log2; have := h1.log2; omega, by have := h.hist; have := h1.hist; omega⟩
def spRep (A : Ad) : Sp := fun vs H Q _ => ∃ (L : Lay) (b : Board) (c m v : Nat), vs = [.ref (L.ad .plat), vN m, vN v] ∧ Bd A L b H ∧ Wf c b ∧ ∀ H' L', Bd A L' (Kex7.report b m v) H' → Fr L b H L' (Kex7.report b m v) H' → Q (vN ((Kex7.report b m v).log.length - b.log.length)) H'
theorem trips_int (g : Kex7.Guard) (v : Nat) : (if (b2n g.isBelow : Int) = 1 then decide ((v : Int) < (g.limit : Int)) else decide ((g.limit : Int) < (v : Int))) = (if g.isBelow then decide (v < g.limit) else decide (g.limit < v)) := by
  cases g.isBelow with
  | true =>
    show (if (1 : Int) = 1 then _ else _) = decide (v < g.limit)
    rw [if_pos rfl]
    exact decide_eq_decide.mpr (by omega)
  | false =>
    show (if (0 : Int) = 1 then _ else _) = decide (g.limit < v)
    rw [if_neg (by decide)]
    exact decide_eq_decide.mpr (by omega)
theorem x_forE {σ : L2.St} {H : Hp} {a : Addr} {xs : List V} {ts : TA} {g : TG} {t : TS} {D : Ends} (hv : ValA ts σ H [.ref a]) (hS : SqL K H a xs) (Pv : Nat → L2.St → Hp → Prop) (h0 : Pv 0 σ H) (hl : ∀ i σ H, i ≤ xs.length → Pv i σ H → SqL K H a xs)
    (hs : ∀ (i : Nat) (x : V) (tt : Addr) (σ : L2.St) (H : Hp), xs[i]? = some x → Pv i σ H → H tt = none → g (.ref tt) σ (upd H tt (.tup [.int (i : Int), x])) fun σ2 H2 => t { D with nx := Pv (i + 1), ct := Pv (i + 1), bk := D.nx } σ2 H2) (hd : ∀ σ H, Pv xs.length σ H → D.nx σ H) : tFor (iEnum K ts) g t D σ H := by
  refine hv _ ⟨a, xs, rfl, hS, fun i m σ H => m = xs.length - i ∧ i ≤ xs.length ∧ Pv i σ H, ⟨_, rfl, Nat.zero_le _, h0⟩, ?_⟩
  rintro i m σ H ⟨rfl, hi, p⟩
  have q := hl i σ H hi p
  by_cases lt : i < xs.length
  · refine .inr ⟨⟨xs, xs[i], q, List.getElem?_eq_getElem lt⟩, Pv (i + 1), fun σ' H' p' => ⟨_, by omega, rfl, lt, p'⟩, fun z H' y => ?_⟩
    obtain ⟨tt, x, rfl, nt, rfl, hx⟩ := y
    exact hs i x tt σ H (hx xs q) p nt
  · have e : i = xs.length := by omega
    subst e
    exact .inl ⟨⟨xs, q, Nat.le_refl _⟩, hd σ H p⟩
end
end Gc
namespace Gc
open PySem PySem.Spec PyProof.Rows L2
open C8 (Cal Mak Met CalAt pe_c pe_mk pe_mt pe_mt0 pe_gc)
/-! the short tactics (each is a row of one's own, tried by its key) -/
local macro_rules | `(tactic| walk_at "fl") => `(tactic| assumption)
local macro_rules | `(tactic| walk_at "side") => `(tactic| first | assumption | exact Or.inr ⟨by decide, by decide⟩ | exact Or.inl ⟨by decide, by decide⟩ | decide | (refine ⟨by decide, by decide⟩) | omega)
local macro_rules | `(tactic| walk_at "val") => `(tactic| first
  | with_reducible exact val_c
  | ((with_reducible refine' val_var ?vv); (case vv => rfl))
  | ((with_reducible refine' val_fl ?vfa ?vfb); (case vfa => walk_at "val"); (case vfb => walk_at "fl"))
  | ((with_reducible refine' val_len ?vla ?vlb); (case vla => walk_at "val"); (case vlb => walk_at "sq"))
  | ((with_reducible refine' val_I0 ?v0a ?v0b); (case v0a => walk_at "val"); (case v0b => walk_at "val"))
  | ((with_reducible refine' val_I ?via ?vib ?vic); (case via => walk_at "val"); (case vib => walk_at "val"); (case vic => walk_at "side"))
  | ((with_reducible refine' val_neg ?vn); (case vn => walk_at "val"))
  | ((with_reducible refine' val_isN ?vs); (case vs => walk_at "val"))
  | ((with_reducible refine' val_ixL ?xa ?xb ?xc ?xd); (case xa => walk_at "val"); (case xb => walk_at "val"); (case xc => walk_at "sq"); (case xd => walk_at "at"))
  | ((with_reducible refine' val_ixT ?ya ?yb ?yc ?yd); (case ya => walk_at "val"); (case yb => walk_at "val"); (case yc => walk_at "sqt"); (case yd => walk_at "at"))
  | ((with_reducible refine' val_chain ?ca ?cb ?cc); (case ca => walk_at "val"); (case cb => walk_at "val"); (case cc => walk_at "val"))
  | ((with_reducible refine' val_max2 ?ma ?mb); (case ma => walk_at "val"); (case mb => walk_at "val")))
local macro_rules | `(tactic| walk_at "sq") => `(tactic| first | assumption | exact SqL.of (by assumption))
local macro_rules | `(tactic| walk_at "sqt") => `(tactic| first | assumption | exact SqT.of (by assumption))
local macro_rules | `(tactic| walk_at "at") => `(tactic| first | assumption | rfl)
local macro_rules | `(tactic| walk_at "ans") => `(tactic| first
  | ((with_reducible refine' ans_test ?at_); (case at_ => walk_at "val"))
  | ((with_reducible refine' ans_B ?ab_); (case ab_ => walk_at "val"))
  | ((with_reducible refine' ans_or2 ?ao ?ap); (case ao => walk_at "ans"); (case ap => (intro _; walk_at "ans")))
  | ((with_reducible refine' ans_and3 ?aq ?ar); (case aq => walk_at "ans"); (case ar => (intro _; walk_at "ans")))
  | ((with_reducible refine' ans_notM ?an); (case an => walk_at "ans")))
local macro_rules | `(tactic| walk_at "vala") => `(tactic| first
  | with_reducible exact vala_nil
  | ((with_reducible refine' vala_cons ?wa ?wb); (case wa => walk_at "val"); (case wb => walk_at "vala")))
local macro_rules | `(tactic| walk_at "n") => `(tactic| (repeat (first | (with_reducible refine x_gn ?_) | (with_reducible refine st_seq ?_) | (with_reducible refine st_next ?_) | dsimp only)))
local macro_rules | `(tactic| walk_at "fl") => `(tactic| first
  | assumption
  | ((with_reducible refine' fp_people ?fB ?fT); (case fB => assumption); (case fT => assumption))
  | ((with_reducible refine' fp_clock ?fB ?fT); (case fB => assumption); (case fT => assumption))
  | ((with_reducible refine' fp_settings ?fB ?fT); (case fB => assumption); (case fT => assumption))
  | ((with_reducible refine' fp_classes ?fB ?fT); (case fB => assumption); (case fT => assumption))
  | ((with_reducible refine' fp_needs ?fB ?fT); (case fB => assumption); (case fT => assumption))
  | ((with_reducible refine' fp_own_counts ?fB ?fT); (case fB => assumption); (case fT => assumption))
  | ((with_reducible refine' fp_freezes ?fB ?fT); (case fB => assumption); (case fT => assumption))
  | ((with_reducible refine' fp_proposals ?fB ?fT); (case fB => assumption); (case fT => assumption))
  | ((with_reducible refine' fp_guards ?fB ?fT); (case fB => assumption); (case fT => assumption))
  | ((with_reducible refine' fp_log ?fB ?fT); (case fB => assumption); (case fT => assumption))
  | ((with_reducible refine' fp_past ?fB ?fT); (case fB => assumption); (case fT => assumption))
  | ((with_reducible refine' fq_author ?fB ?fT ?fH); (case fB => assumption); (case fT => assumption); (case fH => assumption))
  | ((with_reducible refine' fq_time ?fB ?fT ?fH); (case fB => assumption); (case fT => assumption); (case fH => assumption))
  | ((with_reducible refine' fq_changes ?fB ?fT ?fH); (case fB => assumption); (case fT => assumption); (case fH => assumption))
  | ((with_reducible refine' fq_approvals ?fB ?fT ?fH); (case fB => assumption); (case fT => assumption); (case fH => assumption))
  | ((with_reducible refine' fq_status ?fB ?fT ?fH); (case fB => assumption); (case fT => assumption); (case fH => assumption))
  | ((with_reducible refine' fq_end ?fB ?fT ?fH); (case fB => assumption); (case fT => assumption); (case fH => assumption))
  | ((with_reducible refine' fq_before ?fB ?fT ?fH); (case fB => assumption); (case fT => assumption); (case fH => assumption)))
local macro_rules | `(tactic| walk_at "sq") => `(tactic| first | assumption | exact SqL.of (by assumption) | exact s_sets (by assumption) | exact s_cls (by assumption) | exact s_need (by assumption) | exact s_own (by assumption) | exact s_frz (by assumption) | exact s_prs (by assumption) | exact s_grd (by assumption) | exact s_log (by assumption) | exact s_past (by assumption) | exact s_chg (by assumption) (by assumption) | exact s_apr (by assumption) (by assumption) | exact s_bef (by assumption) (by assumption))
local macro_rules | `(tactic| walk_at "at") => `(tactic| first | assumption | exact atI_0 rfl | exact atI_1 rfl | exact atI_2 rfl)
abbrev s_Pla_report : Stmt := inClass (topS 28) 11
theorem sc_Pla_report : FnScope ["self", "metric", "value", "found", "number", "guard", "key", "safe", "which", "is_below", "limit", "trips"] ["self", "metric", "value"] (defScope s_Pla_report) := ⟨rfl, rfl, rfl, by decide +kernel, rfl, by decide +kernel, by decide +kernel⟩
section
variable {P : Program} {w : World} {K : PySem.W.Frag} {mg : Str → Option Value} {base : Heap} {A : Ad}
theorem val_ifB {σ : L2.St} {H : Hp} {t : TT} {ta tb : TE} {p : Prop} [Decidable p] {x y : Bool} (h : Ans t σ H (decide p)) (ha : p → Val ta σ H (.bl x)) (hb : ¬ p → Val tb σ H (.bl y)) : Val (tIf t ta tb) σ H (.bl (if p then x else y)) := fun Q q => h _ (by
  by_cases c : p
  · rw [decide_eq_true c]
    rw [if_pos c] at q
    exact iteT (ha c Q q)
  · rw [decide_eq_false c]
    rw [if_neg c] at q
    exact iteF (hb c Q q))
theorem ok_rep (F : AtM K A.CP "report" "Platform.report" s_Pla_report ["self", "metric", "value"]) (T : Txt P w K mg A) (m_note : Met P w K mg base 1 A.CP "note" (spNote A) []) (m_assign : Met P w K mg base 1 A.CP "assign" (spAsg A) []) : Met P w K mg base 2 A.CP "report" (spRep A) [] := by
  refine F.met T.clP sc_Pla_report (fun vs H Q E h => ?_) (fun f cdv Ar outer s H vs Q E hr h => ?_)
  · obtain ⟨L, b, c, m, v, rfl, _⟩ := h
    rfl
  · obtain ⟨L, b, c, m, v, rfl, B, W, q⟩ := h
    have hgl : (L.gd.map V.ref).length = b.guards.length := by rw [List.length_map, B.gd.len, List.length_map]
    have hg8 := W.grd
    refine ⟨_, (pss_cons (ps_set (i := 3) sc_Pla_report.nd rfl (Or.inl rfl) pe_int)
      (pss_cons (ps_for PassesOwn.never rfl (pi_enum (by rfl) T.enumerate (pa_cons (pe_fld (pv 0) rfl) pa_nil)) (pg_tup rfl (pgs_cons (pg_name (i := 4) sc_Pla_report.nd rfl (Or.inl rfl)) (pgs_cons (pg_name (i := 5) sc_Pla_report.nd rfl (Or.inl rfl)) pgs_nil))) (pss_cons (ps_asg (pv 5) (pg_tup rfl (pgs_cons (pg_name (i := 6) sc_Pla_report.nd rfl (Or.inl rfl)) (pgs_cons (pg_name (i := 7) sc_Pla_report.nd rfl (Or.inl rfl)) (pgs_cons (pg_name (i := 8) sc_Pla_report.nd rfl (Or.inl rfl)) (pgs_cons (pg_name (i := 9) sc_Pla_report.nd rfl (Or.inl rfl)) (pgs_cons (pg_name (i := 10) sc_Pla_report.nd rfl (Or.inl rfl)) pgs_nil)))))))
      (pss_cons (ps_set (i := 11) sc_Pla_report.nd rfl (Or.inl rfl) (pe_ifExp (pt_cmpR op_eqI (pv 9) pe_int (nomark _)) (pe_cmpR op_lt (pv 2) (pv 10) (nomark _)) (pe_cmpR op_gt (pv 2) (pv 10) (nomark _))))
      (pss_one (ps_if (PW.pt (pw_and (pt_cmpR op_eqI (pv 8) (pv 1) (nomark _)) (pw_and (pt_val (pv 11)) (pw_and1 (pt_cmpR op_neI (pe_ix ix_list (pe_fld (pv 0) rfl) (pv 6) (fun _ _ => rfl)) (pv 7) (nomark _)))))) (pss_cons (ps_expr (pe_mt m_assign hr (by first | decide | omega) (pv 0) (pa_cons (pv 6) (pa_cons (pv 7) (pa_cons (pe_gc (by rfl) T.g_GUARD) pa_nil)))))
      (pss_cons (ps_expr (pe_mt m_note hr (by first | decide | omega) (pv 0) (pa_cons pe_int (pa_cons (pe_gc (by rfl) T.g_GUARD) (pa_cons (pv 4) pa_nil)))))
      (pss_one (ps_set (i := 3) sc_Pla_report.nd rfl (Or.inl rfl) (pe_op op_add (pv 3) pe_int))))) pss_nil)))))
      (pss_one (ps_ret (pv 3))))), ?_⟩
    walk_at "n"
    refine x_setV (by walk_at "val") ?_
    walk_at "n"
    refine x_forE (vala_cons (val_fl (val_var rfl) (fp_guards B T)) vala_nil) (s_grd B) (fun k σ H' => ∃ w4 w5 w6 w7 w8 w9 w10 w11 L', σ = [some (.ref (L.ad .plat)), some (vN m), some (vN v), some (vN ((repK b m v k).log.length - b.log.length)), w4, w5, w6, w7, w8, w9, w10, w11] ∧ Bd A L' (repK b m v k) H' ∧ Fr L b H L' (repK b m v k) H' ∧ L'.gd = L.gd)
      ⟨none, none, none, none, none, none, none, none, L, by
        show [_, _, _, some (V.int 0), _, _, _, _, _, _, _, _] = [_, _, _, some (vN (b.log.length - b.log.length)), _, _, _, _, _, _, _, _]
        rw [Nat.sub_self]
        rfl, B, Fr.refl L b H, rfl⟩ ?_ ?_ ?_
    · rintro k σ H' hk ⟨w4, w5, w6, w7, w8, w9, w10, w11, L', rfl, B', f', eg⟩
      have z := s_grd (K := K) B'
      rw [f'.st .grd trivial (by intro j e; cases e), eg] at z
      exact z
    · rintro k y tt σ H' hy ⟨w4, w5, w6, w7, w8, w9, w10, w11, L', rfl, B', f', eg⟩ ht
      have like := repK_like b m v k
      have hk : k < b.guards.length := by
        have := len_at hy
        rw [hgl] at this
        exact this
      obtain ⟨gt, hgt, rfl⟩ := map_at hy
      have B1 := B'.mono (same_upd (o := .tup [.int (k : Int), .ref gt]) ht)
      have f1 : Fr L b H L' (repK b m v k) (upd H' tt (.tup [.int (k : Int), .ref gt])) := f'.trans (Fr.same (same_upd ht))
      refine x_un2 (SqT.of upd_same) ?_
      generalize upd H' tt (.tup [.int (k : Int), .ref gt]) = H1 at B1 f1
      obtain ⟨gv, hgv, hgt1⟩ := B1.gd.at (by rw [eg]; exact hgt)
      obtain ⟨g, hg, rfl⟩ := map_at hgv
      have hgb : b.guards[k]? = some g := by rw [← like.guards]; exact hg
      have hkey : g.key < (repK b m v k).values.length := by
        rw [like.vals, W.vals]
        exact W.grk g (List.mem_of_getElem? hgb)
      have epl : L'.ad .plat = L.ad .plat := f'.st .plat trivial (by intro j e; cases e)
      have fset : Fl K H1 (L.ad .plat) "settings" (.ref (L'.ad .sets)) := by
        have z := fp_settings B1 T
        rw [epl] at z
        exact z
      have hat := at_vN hkey
      walk_at "n"
      refine x_asg (x_val (by walk_at "val") ?_)
      refine x_un5 (SqT.of hgt1) ?_
      walk_at "n"
      refine x_setV (val_ifB (by walk_at "ans") (fun _ => by walk_at "val") (fun _ => by walk_at "val")) ?_
      rw [trips_int]
      have er : repK b m v (k + 1) = if (Kex7.trips g m v && (repK b m v k).values.getD g.key 0 != g.safe) = true then Kex7.logged (Kex7.assign (repK b m v k) Kex7.system ⟨g.key, Kex7.anyValue, g.safe⟩) 7 Kex7.system k else repK b m v k := by
        rw [repK_more]
        unfold rep1
        rw [hg]
      have eb : (decide ((g.metric : Int) = (m : Int)) && ((if g.isBelow then decide (v < g.limit) else decide (g.limit < v)) && !decide ((((repK b m v k).values.getD g.key 0 : Nat) : Int) = (g.safe : Int)))) = (Kex7.trips g m v && (repK b m v k).values.getD g.key 0 != g.safe) := by
        rw [eqN, eqN, ← Bool.and_assoc]
        rfl
      walk_at "n"
      refine x_if (by walk_at "ans") (fun hb => ?_) (fun hb => ?_)
      · rw [eb] at hb
        rw [if_pos hb] at er
        walk_at "n"
        refine x_drop (x_meth (a := L.ad .plat) (by walk_at "val") (by rw [← epl]; exact B1.at_ .plat trivial) (lpn_assign L' _) (by walk_at "vala") ?_)
        refine ⟨L', _, g.key, g.safe, 255, by rw [epl]; rfl, B1, hkey, by
          have := like.hist
          have := W.past
          omega, fun H2 L2 B2 f2 eg2 => ?_⟩
        have epl2 : L2.ad .plat = L.ad .plat := (f2.st .plat trivial (by intro j e; cases e)).trans epl
        walk_at "n"
        refine x_drop (x_meth (a := L.ad .plat) (by walk_at "val") (by rw [← epl2]; exact B2.at_ .plat trivial) (lpn_note L2 _) (by walk_at "vala") ?_)
        refine ⟨L2, _, 7, 255, k, by rw [epl2]; rfl, B2, by
          show (repK b m v k).log.length ≤ 1000000
          have := like.log2
          have := W.log
          omega, fun H3 L3 B3 f3 eg3 => ?_⟩
        walk_at "n"
        refine x_setV (by walk_at "val") ?_
        have el : (repK b m v (k + 1)).log.length = (repK b m v k).log.length + 1 := by
          rw [er]
          exact List.length_append
        have en : (repK b m v (k + 1)).log.length - b.log.length = (repK b m v k).log.length - b.log.length + 1 := by
          rw [el]
          have := like.log1
          omega
        exact ⟨_, _, _, _, _, _, _, _, L3, by rw [en]; rfl, by rw [er]; exact B3, by rw [er]; exact (f1.trans f2).trans f3, eg3.trans (eg2.trans eg)⟩
      · rw [eb] at hb
        rw [if_neg (by rw [hb]; exact Bool.false_ne_true)] at er
        walk_at "n"
        exact ⟨_, _, _, _, _, _, _, _, L', by rw [er]; rfl, by rw [er]; exact B1, by rw [er]; exact f1, eg⟩
    · rintro σ H' ⟨w4, w5, w6, w7, w8, w9, w10, w11, L', rfl, B', f', eg⟩
      rw [hgl] at B' f' ⊢
      walk_at "n"
      refine x_ret (x_val (by walk_at "val") ?_)
      exact q H' L' B' f'
end
end Gc
namespace Gc
open PySem PySem.Spec PyProof.Rows L2
open C8 (Cal Mak Met CalAt pe_c pe_mk pe_mt pe_mt0 pe_gc)
/-! the short tactics (each is a row of one's own, tried by its key) -/
local macro_rules | `(tactic| walk_at "fl") => `(tactic| assumption)
local macro_rules | `(tactic| walk_at "side") => `(tactic| first | assumption | exact Or.inr ⟨by decide, by decide⟩ | exact Or.inl ⟨by decide, by decide⟩ | decide | (refine ⟨by decide, by decide⟩) | omega)
local macro_rules | `(tactic| walk_at "val") => `(tactic| first
  | with_reducible exact val_c
  | ((with_reducible refine' val_var ?vv); (case vv => rfl))
  | ((with_reducible refine' val_fl ?vfa ?vfb); (case vfa => walk_at "val"); (case vfb => walk_at "fl"))
  | ((with_reducible refine' val_len ?vla ?vlb); (case vla => walk_at "val"); (case vlb => walk_at "sq"))
  | ((with_reducible refine' val_I0 ?v0a ?v0b); (case v0a => walk_at "val"); (case v0b => walk_at "val"))
  | ((with_reducible refine' val_I ?via ?vib ?vic); (case via => walk_at "val"); (case vib => walk_at "val"); (case vic => walk_at "side"))
  | ((with_reducible refine' val_neg ?vn); (case vn => walk_at "val"))
  | ((with_reducible refine' val_isN ?vs); (case vs => walk_at "val"))
  | ((with_reducible refine' val_ixL ?xa ?xb ?xc ?xd); (case xa => walk_at "val"); (case xb => walk_at "val"); (case xc => walk_at "sq"); (case xd => walk_at "at"))
  | ((with_reducible refine' val_ixT ?ya ?yb ?yc ?yd); (case ya => walk_at "val"); (case yb => walk_at "val"); (case yc => walk_at "sqt"); (case yd => walk_at "at"))
  | ((with_reducible refine' val_chain ?ca ?cb ?cc); (case ca => walk_at "val"); (case cb => walk_at "val"); (case cc => walk_at "val"))
  | ((with_reducible refine' val_max2 ?ma ?mb); (case ma => walk_at "val"); (case mb => walk_at "val")))
local macro_rules | `(tactic| walk_at "sq") => `(tactic| first | assumption | exact SqL.of (by assumption))
local macro_rules | `(tactic| walk_at "sqt") => `(tactic| first | assumption | exact SqT.of (by assumption))
local macro_rules | `(tactic| walk_at "at") => `(tactic| first | assumption | rfl)
local macro_rules | `(tactic| walk_at "ans") => `(tactic| first
  | ((with_reducible refine' ans_test ?at_); (case at_ => walk_at "val"))
  | ((with_reducible refine' ans_B ?ab_); (case ab_ => walk_at "val"))
  | ((with_reducible refine' ans_or2 ?ao ?ap); (case ao => walk_at "ans"); (case ap => (intro _; walk_at "ans")))
  | ((with_reducible refine' ans_and3 ?aq ?ar); (case aq => walk_at "ans"); (case ar => (intro _; walk_at "ans")))
  | ((with_reducible refine' ans_notM ?an); (case an => walk_at "ans")))
local macro_rules | `(tactic| walk_at "vala") => `(tactic| first
  | with_reducible exact vala_nil
  | ((with_reducible refine' vala_cons ?wa ?wb); (case wa => walk_at "val"); (case wb => walk_at "vala")))
local macro_rules | `(tactic| walk_at "n") => `(tactic| (repeat (first | (with_reducible refine x_gn ?_) | (with_reducible refine st_seq ?_) | (with_reducible refine st_next ?_) | dsimp only)))
local macro_rules | `(tactic| walk_at "fl") => `(tactic| first
  | assumption
  | ((with_reducible refine' fp_people ?fB ?fT); (case fB => assumption); (case fT => assumption))
  | ((with_reducible refine' fp_clock ?fB ?fT); (case fB => assumption); (case fT => assumption))
  | ((with_reducible refine' fp_settings ?fB ?fT); (case fB => assumption); (case fT => assumption))
  | ((with_reducible refine' fp_classes ?fB ?fT); (case fB => assumption); (case fT => assumption))
  | ((with_reducible refine' fp_needs ?fB ?fT); (case fB => assumption); (case fT => assumption))
  | ((with_reducible refine' fp_own_counts ?fB ?fT); (case fB => assumption); (case fT => assumption))
  | ((with_reducible refine' fp_freezes ?fB ?fT); (case fB => assumption); (case fT => assumption))
  | ((with_reducible refine' fp_proposals ?fB ?fT); (case fB => assumption); (case fT => assumption))
  | ((with_reducible refine' fp_guards ?fB ?fT); (case fB => assumption); (case fT => assumption))
  | ((with_reducible refine' fp_log ?fB ?fT); (case fB => assumption); (case fT => assumption))
  | ((with_reducible refine' fp_past ?fB ?fT); (case fB => assumption); (case fT => assumption))
  | ((with_reducible refine' fq_author ?fB ?fT ?fH); (case fB => assumption); (case fT => assumption); (case fH => assumption))
  | ((with_reducible refine' fq_time ?fB ?fT ?fH); (case fB => assumption); (case fT => assumption); (case fH => assumption))
  | ((with_reducible refine' fq_changes ?fB ?fT ?fH); (case fB => assumption); (case fT => assumption); (case fH => assumption))
  | ((with_reducible refine' fq_approvals ?fB ?fT ?fH); (case fB => assumption); (case fT => assumption); (case fH => assumption))
  | ((with_reducible refine' fq_status ?fB ?fT ?fH); (case fB => assumption); (case fT => assumption); (case fH => assumption))
  | ((with_reducible refine' fq_end ?fB ?fT ?fH); (case fB => assumption); (case fT => assumption); (case fH => assumption))
  | ((with_reducible refine' fq_before ?fB ?fT ?fH); (case fB => assumption); (case fT => assumption); (case fH => assumption)))
local macro_rules | `(tactic| walk_at "sq") => `(tactic| first | assumption | exact SqL.of (by assumption) | exact s_sets (by assumption) | exact s_cls (by assumption) | exact s_need (by assumption) | exact s_own (by assumption) | exact s_frz (by assumption) | exact s_prs (by assumption) | exact s_grd (by assumption) | exact s_log (by assumption) | exact s_past (by assumption) | exact s_chg (by assumption) (by assumption) | exact s_apr (by assumption) (by assumption) | exact s_bef (by assumption) (by assumption))
local macro_rules | `(tactic| walk_at "at") => `(tactic| first | assumption | exact atI_0 rfl | exact atI_1 rfl | exact atI_2 rfl)
abbrev s_Pro_init : Stmt := inClass (topS 21) 0
theorem sc_Pro_init : FnScope ["self", "author", "time", "changes"] ["self", "author", "time", "changes"] (defScope s_Pro_init) := ⟨rfl, rfl, rfl, by decide +kernel, rfl, by decide +kernel, by decide +kernel⟩
theorem ip_people ( v : V) : putF "people" v ([] : List (Str × V)) = ([("people", v)] : List (Str × V)) := rfl
theorem ip_clock (v0 v : V) : putF "clock" v ([("people", v0)] : List (Str × V)) = ([("people", v0), ("clock", v)] : List (Str × V)) := (put_past (by decide +kernel)).trans (congrArg _ (rfl))
theorem ip_settings (v0 v1 v : V) : putF "settings" v ([("people", v0), ("clock", v1)] : List (Str × V)) = ([("people", v0), ("clock", v1), ("settings", v)] : List (Str × V)) := (put_past (by decide +kernel)).trans (congrArg _ ((put_past (by decide +kernel)).trans (congrArg _ (rfl))))
theorem ip_classes (v0 v1 v2 v : V) : putF "classes" v ([("people", v0), ("clock", v1), ("settings", v2)] : List (Str × V)) = ([("people", v0), ("clock", v1), ("settings", v2), ("classes", v)] : List (Str × V)) := (put_past (by decide +kernel)).trans (congrArg _ ((put_past (by decide +kernel)).trans (congrArg _ ((put_past (by decide +kernel)).trans (congrArg _ (rfl))))))
theorem ip_needs (v0 v1 v2 v3 v : V) : putF "needs" v ([("people", v0), ("clock", v1), ("settings", v2), ("classes", v3)] : List (Str × V)) = ([("people", v0), ("clock", v1), ("settings", v2), ("classes", v3), ("needs", v)] : List (Str × V)) := (put_past (by decide +kernel)).trans (congrArg _ ((put_past (by decide +kernel)).trans (congrArg _ ((put_past (by decide +kernel)).trans (congrArg _ ((put_past (by decide +kernel)).trans (congrArg _ (rfl))))))))
theorem ip_own_counts (v0 v1 v2 v3 v4 v : V) : putF "own_counts" v ([("people", v0), ("clock", v1), ("settings", v2), ("classes", v3), ("needs", v4)] : List (Str × V)) = ([("people", v0), ("clock", v1), ("settings", v2), ("classes", v3), ("needs", v4), ("own_counts", v)] : List (Str × V)) := (put_past (by decide +kernel)).trans (congrArg _ ((put_past (by decide +kernel)).trans (congrArg _ ((put_past (by decide +kernel)).trans (congrArg _ ((put_past (by decide +kernel)).trans (congrArg _ ((put_past (by decide +kernel)).trans (congrArg _ (rfl))))))))))
theorem ip_freezes (v0 v1 v2 v3 v4 v5 v : V) : putF "freezes" v ([("people", v0), ("clock", v1), ("settings", v2), ("classes", v3), ("needs", v4), ("own_counts", v5)] : List (Str × V)) = ([("people", v0), ("clock", v1), ("settings", v2), ("classes", v3), ("needs", v4), ("own_counts", v5), ("freezes", v)] : List (Str × V)) := (put_past (by decide +kernel)).trans (congrArg _ ((put_past (by decide +kernel)).trans (congrArg _ ((put_past (by decide +kernel)).trans (congrArg _ ((put_past (by decide +kernel)).trans (congrArg _ ((put_past (by decide +kernel)).trans (congrArg _ ((put_past (by decide +kernel)).trans (congrArg _ (rfl))))))))))))
theorem ip_proposals (v0 v1 v2 v3 v4 v5 v6 v : V) : putF "proposals" v ([("people", v0), ("clock", v1), ("settings", v2), ("classes", v3), ("needs", v4), ("own_counts", v5), ("freezes", v6)] : List (Str × V)) = ([("people", v0), ("clock", v1), ("settings", v2), ("classes", v3), ("needs", v4), ("own_counts", v5), ("freezes", v6), ("proposals", v)] : List (Str × V)) := (put_past (by decide +kernel)).trans (congrArg _ ((put_past (by decide +kernel)).trans (congrArg _ ((put_past (by decide +kernel)).trans (congrArg _ ((put_past (by decide +kernel)).trans (congrArg _ ((put_past (by decide +kernel)).trans (congrArg _ ((put_past (by decide +kernel)).trans (congrArg _ ((put_past (by decide +kernel)).trans (congrArg _ (rfl))))))))))))))
theorem ip_guards (v0 v1 v2 v3 v4 v5 v6 v7 v : V) : putF "guards" v ([("people", v0), ("clock", v1), ("settings", v2), ("classes", v3), ("needs", v4), ("own_counts", v5), ("freezes", v6), ("proposals", v7)] : List (Str × V)) = ([("people", v0), ("clock", v1), ("settings", v2), ("classes", v3), ("needs", v4), ("own_counts", v5), ("freezes", v6), ("proposals", v7), ("guards", v)] : List (Str × V)) := (put_past (by decide +kernel)).trans (congrArg _ ((put_past (by decide +kernel)).trans (congrArg _ ((put_past (by decide +kernel)).trans (congrArg _ ((put_past (by decide +kernel)).trans (congrArg _ ((put_past (by decide +kernel)).trans (congrArg _ ((put_past (by decide +kernel)).trans (congrArg _ ((put_past (by decide +kernel)).trans (congrArg _ ((put_past (by decide +kernel)).trans (congrArg _ (rfl))))))))))))))))
theorem ip_log (v0 v1 v2 v3 v4 v5 v6 v7 v8 v : V) : putF "log" v ([("people", v0), ("clock", v1), ("settings", v2), ("classes", v3), ("needs", v4), ("own_counts", v5), ("freezes", v6), ("proposals", v7), ("guards", v8)] : List (Str × V)) = ([("people", v0), ("clock", v1), ("settings", v2), ("classes", v3), ("needs", v4), ("own_counts", v5), ("freezes", v6), ("proposals", v7), ("guards", v8), ("log", v)] : List (Str × V)) := (put_past (by decide +kernel)).trans (congrArg _ ((put_past (by decide +kernel)).trans (congrArg _ ((put_past (by decide +kernel)).trans (congrArg _ ((put_past (by decide +kernel)).trans (congrArg _ ((put_past (by decide +kernel)).trans (congrArg _ ((put_past (by decide +kernel)).trans (congrArg _ ((put_past (by decide +kernel)).trans (congrArg _ ((put_past (by decide +kernel)).trans (congrArg _ ((put_past (by decide +kernel)).trans (congrArg _ (rfl))))))))))))))))))
theorem ip_past (v0 v1 v2 v3 v4 v5 v6 v7 v8 v9 v : V) : putF "past" v ([("people", v0), ("clock", v1), ("settings", v2), ("classes", v3), ("needs", v4), ("own_counts", v5), ("freezes", v6), ("proposals", v7), ("guards", v8), ("log", v9)] : List (Str × V)) = ([("people", v0), ("clock", v1), ("settings", v2), ("classes", v3), ("needs", v4), ("own_counts", v5), ("freezes", v6), ("proposals", v7), ("guards", v8), ("log", v9), ("past", v)] : List (Str × V)) := (put_past (by decide +kernel)).trans (congrArg _ ((put_past (by decide +kernel)).trans (congrArg _ ((put_past (by decide +kernel)).trans (congrArg _ ((put_past (by decide +kernel)).trans (congrArg _ ((put_past (by decide +kernel)).trans (congrArg _ ((put_past (by decide +kernel)).trans (congrArg _ ((put_past (by decide +kernel)).trans (congrArg _ ((put_past (by decide +kernel)).trans (congrArg _ ((put_past (by decide +kernel)).trans (congrArg _ ((put_past (by decide +kernel)).trans (congrArg _ (rfl))))))))))))))))))))
theorem iq_author ( v : V) : putF "author" v ([] : List (Str × V)) = ([("author", v)] : List (Str × V)) := rfl
theorem iq_time (v0 v : V) : putF "time" v ([("author", v0)] : List (Str × V)) = ([("author", v0), ("time", v)] : List (Str × V)) := (put_past (by decide +kernel)).trans (congrArg _ (rfl))
theorem iq_changes (v0 v1 v : V) : putF "changes" v ([("author", v0), ("time", v1)] : List (Str × V)) = ([("author", v0), ("time", v1), ("changes", v)] : List (Str × V)) := (put_past (by decide +kernel)).trans (congrArg _ ((put_past (by decide +kernel)).trans (congrArg _ (rfl))))
theorem iq_approvals (v0 v1 v2 v : V) : putF "approvals" v ([("author", v0), ("time", v1), ("changes", v2)] : List (Str × V)) = ([("author", v0), ("time", v1), ("changes", v2), ("approvals", v)] : List (Str × V)) := (put_past (by decide +kernel)).trans (congrArg _ ((put_past (by decide +kernel)).trans (congrArg _ ((put_past (by decide +kernel)).trans (congrArg _ (rfl))))))
theorem iq_status (v0 v1 v2 v3 v : V) : putF "status" v ([("author", v0), ("time", v1), ("changes", v2), ("approvals", v3)] : List (Str × V)) = ([("author", v0), ("time", v1), ("changes", v2), ("approvals", v3), ("status", v)] : List (Str × V)) := (put_past (by decide +kernel)).trans (congrArg _ ((put_past (by decide +kernel)).trans (congrArg _ ((put_past (by decide +kernel)).trans (congrArg _ ((put_past (by decide +kernel)).trans (congrArg _ (rfl))))))))
theorem iq_end (v0 v1 v2 v3 v4 v : V) : putF "end" v ([("author", v0), ("time", v1), ("changes", v2), ("approvals", v3), ("status", v4)] : List (Str × V)) = ([("author", v0), ("time", v1), ("changes", v2), ("approvals", v3), ("status", v4), ("end", v)] : List (Str × V)) := (put_past (by decide +kernel)).trans (congrArg _ ((put_past (by decide +kernel)).trans (congrArg _ ((put_past (by decide +kernel)).trans (congrArg _ ((put_past (by decide +kernel)).trans (congrArg _ ((put_past (by decide +kernel)).trans (congrArg _ (rfl))))))))))
theorem iq_before (v0 v1 v2 v3 v4 v5 v : V) : putF "before" v ([("author", v0), ("time", v1), ("changes", v2), ("approvals", v3), ("status", v4), ("end", v5)] : List (Str × V)) = ([("author", v0), ("time", v1), ("changes", v2), ("approvals", v3), ("status", v4), ("end", v5), ("before", v)] : List (Str × V)) := (put_past (by decide +kernel)).trans (congrArg _ ((put_past (by decide +kernel)).trans (congrArg _ ((put_past (by decide +kernel)).trans (congrArg _ ((put_past (by decide +kernel)).trans (congrArg _ ((put_past (by decide +kernel)).trans (congrArg _ ((put_past (by decide +kernel)).trans (congrArg _ (rfl))))))))))))
/-! ### what an __init__ has made so far -/
structure Ini (H : Hp) (x C dx : Addr) (fs : List (Str × V)) (ls : List (Addr × List V)) (H' : Hp) : Prop where
  hx : H' x = some (.ins C dx fs)
  hl : ∀ p ∈ ls, H' p.1 = some (.lst p.2)
  fr : ∀ p ∈ ls, H p.1 = none
  nd : (ls.map (·.1)).Nodup
  kp : ∀ c o, H c = some o → c ≠ x → H' c = some o
section
variable {H H' H2 : Hp} {x C dx : Addr} {fs fs' : List (Str × V)} {ls : List (Addr × List V)}
theorem Ini.start (h : H x = some (.ins C dx [])) : Ini H x C dx [] [] H := ⟨h, fun p m => absurd m (by simp), fun p m => absurd m (by simp), List.nodup_nil, fun c o h _ => h⟩
theorem Ini.same (I : Ini H x C dx fs ls H') (s : Same H' H2) : Ini H x C dx fs ls H2 := ⟨s _ _ I.hx, fun p m => s _ _ (I.hl p m), I.fr, I.nd, fun c o h n => s _ _ (I.kp c o h n)⟩
theorem Ini.set (I : Ini H x C dx fs ls H') : Ini H x C dx fs' ls (upd H' x (.ins C dx fs')) :=
  ⟨upd_same, fun p m => by rw [upd_ne (ne_of (I.hl p m) I.hx (by intro z; cases z))]; exact I.hl p m, I.fr, I.nd, fun c o h n => by rw [upd_ne n]; exact I.kp c o h n⟩
theorem Ini.new (I : Ini H x C dx fs ls H') {p : Addr} {v : List V} (np : H' p = none) : Ini H x C dx fs (ls ++ [(p, v)]) (upd H' p (.lst v)) := by
  have s := same_upd (o := .lst v) np
  refine ⟨s _ _ I.hx, fun q m => ?_, fun q m => ?_, ?_, fun c o h n => s _ _ (I.kp c o h n)⟩
  · rcases List.mem_append.mp m with m | m
    · exact s _ _ (I.hl q m)
    · rw [List.mem_singleton.mp m]
      exact upd_same
  · rcases List.mem_append.mp m with m | m
    · exact I.fr q m
    · rw [List.mem_singleton.mp m]
      cases e : H p with
      | none => rfl
      | some o =>
        have z := I.kp p o e fun z => by
          rw [z, I.hx] at np
          cases np
        rw [np] at z
        cases z
  · rw [List.map_append]
    refine List.nodup_append.mpr ⟨I.nd, by simp, fun a ha b hb => ?_⟩
    obtain ⟨q, m, rfl⟩ := List.mem_map.mp ha
    have e : b = p := by simpa using hb
    rw [e]
    intro z
    rw [← z, I.hl q m] at np
    cases np
end
section
variable {P : Program} {w : World} {K : PySem.W.Frag} {mg : Str → Option Value} {base : Heap} {A : Ad}
/-! ### Proposal.__init__ -/
def spIniQ (A : Ad) : Sp := fun vs H Q _ => ∃ (x dx cl : Addr) (author time : Nat), vs = [.ref x, vN author, vN time, .ref cl] ∧ H x = some (.ins A.CQ dx []) ∧
  ∀ al bl H', H al = none → H bl = none → al ≠ bl → H' x = some (.ins A.CQ dx [("author", vN author), ("time", vN time), ("changes", .ref cl), ("approvals", .ref al), ("status", vN 0), ("end", vN 0), ("before", .ref bl)]) →
    H' al = some (.lst []) → H' bl = some (.lst []) → (∀ c o, H c = some o → c ≠ x → H' c = some o) → Q .non H'
theorem ok_iniQ (F : AtI K mg "Proposal" A.CQ "Proposal.__init__" s_Pro_init ["self", "author", "time", "changes"]) (T : Txt P w K mg A) : Mak P w K mg base 1 "Proposal" A.CQ (spIniQ A) [] := by
  refine F.mak sc_Pro_init (fun vs H Q E h => ?_) (fun f cdv Ar outer s H vs Q E hr h => ?_)
  · obtain ⟨x, dx, cl, author, time, rfl, _⟩ := h
    rfl
  · obtain ⟨x, dx, cl, author, time, rfl, hx, q⟩ := h
    have I := Ini.start hx
    refine ⟨_, (pss_cons (ps_fld (pv 0) (pv 1) rfl)
      (pss_cons (ps_fld (pv 0) (pv 2) rfl)
      (pss_cons (ps_fld (pv 0) (pv 3) rfl)
      (pss_cons (ps_fld (pv 0) (pe_lst pa_nil) rfl)
      (pss_cons (ps_fld (pv 0) (pe_gc (by rfl) T.g_OPEN) rfl)
      (pss_cons (ps_fld (pv 0) pe_int rfl)
      (pss_one (ps_fld (pv 0) (pe_lst pa_nil) rfl)))))))), ?_⟩
    walk_at "n"
    refine x_sfld (by walk_at "val") (by walk_at "val") I.hx T.clQ T.nQ_author (by show 0 < 1000; decide) ?_
    rw [iq_author]
    replace I := I.set (fs' := [("author", vN author)])
    generalize upd H x _ = H1 at I
    walk_at "n"
    refine x_sfld (by walk_at "val") (by walk_at "val") I.hx T.clQ T.nQ_time (by show 1 < 1000; decide) ?_
    rw [iq_time]
    replace I := I.set (fs' := [("author", vN author), ("time", vN time)])
    generalize upd H1 x _ = H2 at I
    walk_at "n"
    refine x_sfld (by walk_at "val") (by walk_at "val") I.hx T.clQ T.nQ_changes (by show 2 < 1000; decide) ?_
    rw [iq_changes]
    replace I := I.set (fs' := [("author", vN author), ("time", vN time), ("changes", .ref cl)])
    generalize upd H2 x _ = H3 at I
    walk_at "n"
    refine x_sfldR (x_lstV vala_nil fun al nal => ?_)
    have J := I.new (v := []) nal
    refine ⟨_, rfl, _, _, _, _, rfl, J.hx, T.clQ, T.nQ_approvals, by show 3 < 1000; decide, ?_⟩
    rw [iq_approvals]
    replace I := J.set (fs' := [("author", vN author), ("time", vN time), ("changes", .ref cl), ("approvals", .ref al)])
    generalize upd (upd H3 al _) x _ = H4 at I
    walk_at "n"
    refine x_sfld (by walk_at "val") (by walk_at "val") I.hx T.clQ T.nQ_status (by show 4 < 1000; decide) ?_
    rw [iq_status]
    replace I := I.set (fs' := [("author", vN author), ("time", vN time), ("changes", .ref cl), ("approvals", .ref al), ("status", .int 0)])
    generalize upd H4 x _ = H5 at I
    walk_at "n"
    refine x_sfld (by walk_at "val") (by walk_at "val") I.hx T.clQ T.nQ_end (by show 5 < 1000; decide) ?_
    rw [iq_end]
    replace I := I.set (fs' := [("author", vN author), ("time", vN time), ("changes", .ref cl), ("approvals", .ref al), ("status", .int 0), ("end", .int 0)])
    generalize upd H5 x _ = H6 at I
    walk_at "n"
    refine x_sfldR (x_lstV vala_nil fun bl nbl => ?_)
    replace J := I.new (v := []) nbl
    refine ⟨_, rfl, _, _, _, _, rfl, J.hx, T.clQ, T.nQ_before, by show 6 < 1000; decide, ?_⟩
    rw [iq_before]
    replace I := J.set (fs' := [("author", vN author), ("time", vN time), ("changes", .ref cl), ("approvals", .ref al), ("status", .int 0), ("end", .int 0), ("before", .ref bl)])
    have n := I.nd
    refine q al bl _ (I.fr (al, []) (by simp)) (I.fr (bl, []) (by simp)) (fun e => ?_) I.hx (I.hl (al, []) (by simp)) (I.hl (bl, []) (by simp)) I.kp
    rw [e] at n
    simp at n
end
end Gc
namespace Gc
open PySem PySem.Spec PyProof.Rows L2
open C8 (Cal Mak Met CalAt pe_c pe_mk pe_mt pe_mt0 pe_gc)
/-! the short tactics (each is a row of one's own, tried by its key) -/
local macro_rules | `(tactic| walk_at "fl") => `(tactic| assumption)
local macro_rules | `(tactic| walk_at "side") => `(tactic| first | assumption | exact Or.inr ⟨by decide, by decide⟩ | exact Or.inl ⟨by decide, by decide⟩ | decide | (refine ⟨by decide, by decide⟩) | omega)
local macro_rules | `(tactic| walk_at "val") => `(tactic| first
  | with_reducible exact val_c
  | ((with_reducible refine' val_var ?vv); (case vv => rfl))
  | ((with_reducible refine' val_fl ?vfa ?vfb); (case vfa => walk_at "val"); (case vfb => walk_at "fl"))
  | ((with_reducible refine' val_len ?vla ?vlb); (case vla => walk_at "val"); (case vlb => walk_at "sq"))
  | ((with_reducible refine' val_I0 ?v0a ?v0b); (case v0a => walk_at "val"); (case v0b => walk_at "val"))
  | ((with_reducible refine' val_I ?via ?vib ?vic); (case via => walk_at "val"); (case vib => walk_at "val"); (case vic => walk_at "side"))
  | ((with_reducible refine' val_neg ?vn); (case vn => walk_at "val"))
  | ((with_reducible refine' val_isN ?vs); (case vs => walk_at "val"))
  | ((with_reducible refine' val_ixL ?xa ?xb ?xc ?xd); (case xa => walk_at "val"); (case xb => walk_at "val"); (case xc => walk_at "sq"); (case xd => walk_at "at"))
  | ((with_reducible refine' val_ixT ?ya ?yb ?yc ?yd); (case ya => walk_at "val"); (case yb => walk_at "val"); (case yc => walk_at "sqt"); (case yd => walk_at "at"))
  | ((with_reducible refine' val_chain ?ca ?cb ?cc); (case ca => walk_at "val"); (case cb => walk_at "val"); (case cc => walk_at "val"))
  | ((with_reducible refine' val_max2 ?ma ?mb); (case ma => walk_at "val"); (case mb => walk_at "val")))
local macro_rules | `(tactic| walk_at "sq") => `(tactic| first | assumption | exact SqL.of (by assumption))
local macro_rules | `(tactic| walk_at "sqt") => `(tactic| first | assumption | exact SqT.of (by assumption))
local macro_rules | `(tactic| walk_at "at") => `(tactic| first | assumption | rfl)
local macro_rules | `(tactic| walk_at "ans") => `(tactic| first
  | ((with_reducible refine' ans_test ?at_); (case at_ => walk_at "val"))
  | ((with_reducible refine' ans_B ?ab_); (case ab_ => walk_at "val"))
  | ((with_reducible refine' ans_or2 ?ao ?ap); (case ao => walk_at "ans"); (case ap => (intro _; walk_at "ans")))
  | ((with_reducible refine' ans_and3 ?aq ?ar); (case aq => walk_at "ans"); (case ar => (intro _; walk_at "ans")))
  | ((with_reducible refine' ans_notM ?an); (case an => walk_at "ans")))
local macro_rules | `(tactic| walk_at "vala") => `(tactic| first
  | with_reducible exact vala_nil
  | ((with_reducible refine' vala_cons ?wa ?wb); (case wa => walk_at "val"); (case wb => walk_at "vala")))
local macro_rules | `(tactic| walk_at "n") => `(tactic| (repeat (first | (with_reducible refine x_gn ?_) | (with_reducible refine st_seq ?_) | (with_reducible refine st_next ?_) | dsimp only)))
local macro_rules | `(tactic| walk_at "fl") => `(tactic| first
  | assumption
  | ((with_reducible refine' fp_people ?fB ?fT); (case fB => assumption); (case fT => assumption))
  | ((with_reducible refine' fp_clock ?fB ?fT); (case fB => assumption); (case fT => assumption))
  | ((with_reducible refine' fp_settings ?fB ?fT); (case fB => assumption); (case fT => assumption))
  | ((with_reducible refine' fp_classes ?fB ?fT); (case fB => assumption); (case fT => assumption))
  | ((with_reducible refine' fp_needs ?fB ?fT); (case fB => assumption); (case fT => assumption))
  | ((with_reducible refine' fp_own_counts ?fB ?fT); (case fB => assumption); (case fT => assumption))
  | ((with_reducible refine' fp_freezes ?fB ?fT); (case fB => assumption); (case fT => assumption))
  | ((with_reducible refine' fp_proposals ?fB ?fT); (case fB => assumption); (case fT => assumption))
  | ((with_reducible refine' fp_guards ?fB ?fT); (case fB => assumption); (case fT => assumption))
  | ((with_reducible refine' fp_log ?fB ?fT); (case fB => assumption); (case fT => assumption))
  | ((with_reducible refine' fp_past ?fB ?fT); (case fB => assumption); (case fT => assumption))
  | ((with_reducible refine' fq_author ?fB ?fT ?fH); (case fB => assumption); (case fT => assumption); (case fH => assumption))
  | ((with_reducible refine' fq_time ?fB ?fT ?fH); (case fB => assumption); (case fT => assumption); (case fH => assumption))
  | ((with_reducible refine' fq_changes ?fB ?fT ?fH); (case fB => assumption); (case fT => assumption); (case fH => assumption))
  | ((with_reducible refine' fq_approvals ?fB ?fT ?fH); (case fB => assumption); (case fT => assumption); (case fH => assumption))
  | ((with_reducible refine' fq_status ?fB ?fT ?fH); (case fB => assumption); (case fT => assumption); (case fH => assumption))
  | ((with_reducible refine' fq_end ?fB ?fT ?fH); (case fB => assumption); (case fT => assumption); (case fH => assumption))
  | ((with_reducible refine' fq_before ?fB ?fT ?fH); (case fB => assumption); (case fT => assumption); (case fH => assumption)))
local macro_rules | `(tactic| walk_at "sq") => `(tactic| first | assumption | exact SqL.of (by assumption) | exact s_sets (by assumption) | exact s_cls (by assumption) | exact s_need (by assumption) | exact s_own (by assumption) | exact s_frz (by assumption) | exact s_prs (by assumption) | exact s_grd (by assumption) | exact s_log (by assumption) | exact s_past (by assumption) | exact s_chg (by assumption) (by assumption) | exact s_apr (by assumption) (by assumption) | exact s_bef (by assumption) (by assumption))
local macro_rules | `(tactic| walk_at "at") => `(tactic| first | assumption | exact atI_0 rfl | exact atI_1 rfl | exact atI_2 rfl)
abbrev s_Pla_init : Stmt := inClass (topS 28) 0
theorem sc_Pla_init : FnScope ["self", "people"] ["self", "people"] (defScope s_Pla_init) := ⟨rfl, rfl, rfl, by decide +kernel, rfl, by decide +kernel, by decide +kernel⟩
section
variable {P : Program} {w : World} {K : PySem.W.Frag} {mg : Str → Option Value} {base : Heap} {A : Ad}
/-! ### Platform.__init__ -/
def newB (n : Nat) : Board := ⟨n, 0, List.replicate Kex7.settingCount 0, List.replicate Kex7.settingCount 0, List.replicate Kex7.classCount ⟨0, true⟩, [], [], [], [], []⟩
def ixR : Ro → Nat
  | .plat => 0
  | .dict => 1
  | .sets => 2
  | .cls => 3
  | .need => 4
  | .own => 5
  | .frz => 6
  | .prs => 7
  | .grd => 8
  | .log => 9
  | .past => 10
  | _ => 11
def roI : Nat → Ro
  | 0 => .plat
  | 1 => .dict
  | 2 => .sets
  | 3 => .cls
  | 4 => .need
  | 5 => .own
  | 6 => .frz
  | 7 => .prs
  | 8 => .grd
  | 9 => .log
  | 10 => .past
  | _ => .pin 0
theorem roI_ix {n : Nat} {r : Ro} (h : Lv (newB n) r) : roI (ixR r) = r := by
  cases r <;> first | rfl | exact absurd h (Nat.not_lt_zero _)
theorem ixR_lt {n : Nat} {r : Ro} (h : Lv (newB n) r) : ixR r < 11 := by
  cases r <;> first | decide | exact absurd h (Nat.not_lt_zero _)
def newL (as : List Addr) : Lay := ⟨fun r => as.getD (ixR r) 0, [], [], [], [], fun _ => []⟩
theorem newL_at {as : List Addr} {r : Ro} {n : Nat} (h : Lv (newB n) r) (hl : as.length = 11) : as[ixR r]? = some ((newL as).ad r) := by
  have z := ixR_lt h
  show _ = some (as.getD (ixR r) 0)
  rw [List.getD_eq_getElem?_getD, List.getElem?_eq_getElem (by omega)]
  rfl
def spIniP (A : Ad) : Sp := fun vs H Q _ => ∃ (x dx : Addr) (n : Nat), vs = [.ref x, vN n] ∧ H x = some (.ins A.CP dx []) ∧ H dx = some (.own x) ∧
  ∀ L H', Bd A L (newB n) H' → L.ad .plat = x → (∀ c o, H c = some o → c ≠ x → c ≠ dx → H' c = some o ∧ ¬ Foot L (newB n) c) → Q .non H'
theorem rep_c {K : PySem.W.Frag} {σ : L2.St} {H : Hp} {te : TE} {v : V} {k : Int} {Q : VK} (hv : Val te σ H v) {tb : TE} (hb : ∀ H', Val tb σ H' (.int k)) (h1 : -(2 ^ 63) ≤ k) (h2 : k < 2 ^ 63) (h3 : k.toNat ≤ 1000) (q : ∀ H' p, Same H H' → H' p = none → Q (.ref p) (upd H' p (.lst (List.replicate k.toNat [v]).flatten))) :
    tOp rRep (tLst (tCons te tNil)) tb σ H Q := x_op (x_lstV (vala_cons hv vala_nil) fun p np => hb _ _ ⟨p, k, [v], rfl, rfl, upd_same, h1, h2, by
      rw [show [v].length = 1 from rfl, Nat.one_mul]
      exact small_le (by omega), fun z nz => q _ z (same_upd np) nz⟩)
theorem ok_iniP (F : AtI K mg "Platform" A.CP "Platform.__init__" s_Pla_init ["self", "people"]) (T : Txt P w K mg A) : Mak P w K mg base 1 "Platform" A.CP (spIniP A) [] := by
  refine F.mak sc_Pla_init (fun vs H Q E h => ?_) (fun f cdv Ar outer s H vs Q E hr h => ?_)
  · obtain ⟨x, dx, n, rfl, _⟩ := h
    rfl
  · obtain ⟨x, dx, n, rfl, hx, hdx, q⟩ := h
    have I := Ini.start hx
    refine ⟨_, (pss_cons (ps_fld (pv 0) (pv 1) rfl)
      (pss_cons (ps_fld (pv 0) pe_int rfl)
      (pss_cons (ps_fld (pv 0) (pe_op op_rep (pe_lst (pa_cons pe_int pa_nil)) (pe_gc (by rfl) T.g_SETTINGS)) rfl)
      (pss_cons (ps_fld (pv 0) (pe_op op_rep (pe_lst (pa_cons pe_int pa_nil)) (pe_gc (by rfl) T.g_SETTINGS)) rfl)
      (pss_cons (ps_fld (pv 0) (pe_op op_rep (pe_lst (pa_cons pe_int pa_nil)) (pe_gc (by rfl) T.g_CLASSES)) rfl)
      (pss_cons (ps_fld (pv 0) (pe_op op_rep (pe_lst (pa_cons pe_int pa_nil)) (pe_gc (by rfl) T.g_CLASSES)) rfl)
      (pss_cons (ps_fld (pv 0) (pe_lst pa_nil) rfl)
      (pss_cons (ps_fld (pv 0) (pe_lst pa_nil) rfl)
      (pss_cons (ps_fld (pv 0) (pe_lst pa_nil) rfl)
      (pss_cons (ps_fld (pv 0) (pe_lst pa_nil) rfl)
      (pss_one (ps_fld (pv 0) (pe_lst pa_nil) rfl)))))))))))), ?_⟩
    walk_at "n"
    refine x_sfld (by walk_at "val") (by walk_at "val") I.hx T.clP T.nP_people (by show 0 < 1000; decide) ?_
    rw [ip_people]
    replace I := I.set (fs' := [("people", vN n)])
    generalize upd H x _ = H1 at I
    walk_at "n"
    refine x_sfld (by walk_at "val") (by walk_at "val") I.hx T.clP T.nP_clock (by show 1 < 1000; decide) ?_
    rw [ip_clock]
    replace I := I.set (fs' := [("people", vN n), ("clock", vN 0)])
    generalize upd H1 x _ = H2 at I
    walk_at "n"
    refine x_sfldR (rep_c (K := K) (k := 16) val_c (fun _ => by walk_at "val") (by decide) (by decide) (by decide) fun G2 a0 sm na0 => ?_)
    replace I := (I.same sm).new (v := (List.replicate (16 : Int).toNat [V.int 0]).flatten) na0
    refine ⟨_, rfl, _, _, _, _, rfl, I.hx, T.clP, T.nP_settings, by show 2 < 1000; decide, ?_⟩
    rw [ip_settings]
    replace I := I.set (fs' := [("people", vN n), ("clock", vN 0), ("settings", .ref a0)])
    generalize upd (upd G2 a0 _) x _ = H3 at I
    walk_at "n"
    refine x_sfldR (rep_c (K := K) (k := 16) val_c (fun _ => by walk_at "val") (by decide) (by decide) (by decide) fun G3 a1 sm na1 => ?_)
    replace I := (I.same sm).new (v := (List.replicate (16 : Int).toNat [V.int 0]).flatten) na1
    refine ⟨_, rfl, _, _, _, _, rfl, I.hx, T.clP, T.nP_classes, by show 3 < 1000; decide, ?_⟩
    rw [ip_classes]
    replace I := I.set (fs' := [("people", vN n), ("clock", vN 0), ("settings", .ref a0), ("classes", .ref a1)])
    generalize upd (upd G3 a1 _) x _ = H4 at I
    walk_at "n"
    refine x_sfldR (rep_c (K := K) (k := 4) val_c (fun _ => by walk_at "val") (by decide) (by decide) (by decide) fun G4 a2 sm na2 => ?_)
    replace I := (I.same sm).new (v := (List.replicate (4 : Int).toNat [V.int 0]).flatten) na2
    refine ⟨_, rfl, _, _, _, _, rfl, I.hx, T.clP, T.nP_needs, by show 4 < 1000; decide, ?_⟩
    rw [ip_needs]
    replace I := I.set (fs' := [("people", vN n), ("clock", vN 0), ("settings", .ref a0), ("classes", .ref a1), ("needs", .ref a2)])
    generalize upd (upd G4 a2 _) x _ = H5 at I
    walk_at "n"
    refine x_sfldR (rep_c (K := K) (k := 4) val_c (fun _ => by walk_at "val") (by decide) (by decide) (by decide) fun G5 a3 sm na3 => ?_)
    replace I := (I.same sm).new (v := (List.replicate (4 : Int).toNat [V.int 1]).flatten) na3
    refine ⟨_, rfl, _, _, _, _, rfl, I.hx, T.clP, T.nP_own_counts, by show 5 < 1000; decide, ?_⟩
    rw [ip_own_counts]
    replace I := I.set (fs' := [("people", vN n), ("clock", vN 0), ("settings", .ref a0), ("classes", .ref a1), ("needs", .ref a2), ("own_counts", .ref a3)])
    generalize upd (upd G5 a3 _) x _ = H6 at I
    walk_at "n"
    refine x_sfldR (x_lstV vala_nil fun a4 na4 => ?_)
    replace I := I.new (v := []) na4
    refine ⟨_, rfl, _, _, _, _, rfl, I.hx, T.clP, T.nP_freezes, by show 6 < 1000; decide, ?_⟩
    rw [ip_freezes]
    replace I := I.set (fs' := [("people", vN n), ("clock", vN 0), ("settings", .ref a0), ("classes", .ref a1), ("needs", .ref a2), ("own_counts", .ref a3), ("freezes", .ref a4)])
    generalize upd (upd H6 a4 _) x _ = H7 at I
    walk_at "n"
    refine x_sfldR (x_lstV vala_nil fun a5 na5 => ?_)
    replace I := I.new (v := []) na5
    refine ⟨_, rfl, _, _, _, _, rfl, I.hx, T.clP, T.nP_proposals, by show 7 < 1000; decide, ?_⟩
    rw [ip_proposals]
    replace I := I.set (fs' := [("people", vN n), ("clock", vN 0), ("settings", .ref a0), ("classes", .ref a1), ("needs", .ref a2), ("own_counts", .ref a3), ("freezes", .ref a4), ("proposals", .ref a5)])
    generalize upd (upd H7 a5 _) x _ = H8 at I
    walk_at "n"
    refine x_sfldR (x_lstV vala_nil fun a6 na6 => ?_)
    replace I := I.new (v := []) na6
    refine ⟨_, rfl, _, _, _, _, rfl, I.hx, T.clP, T.nP_guards, by show 8 < 1000; decide, ?_⟩
    rw [ip_guards]
    replace I := I.set (fs' := [("people", vN n), ("clock", vN 0), ("settings", .ref a0), ("classes", .ref a1), ("needs", .ref a2), ("own_counts", .ref a3), ("freezes", .ref a4), ("proposals", .ref a5), ("guards", .ref a6)])
    generalize upd (upd H8 a6 _) x _ = H9 at I
    walk_at "n"
    refine x_sfldR (x_lstV vala_nil fun a7 na7 => ?_)
    replace I := I.new (v := []) na7
    refine ⟨_, rfl, _, _, _, _, rfl, I.hx, T.clP, T.nP_log, by show 9 < 1000; decide, ?_⟩
    rw [ip_log]
    replace I := I.set (fs' := [("people", vN n), ("clock", vN 0), ("settings", .ref a0), ("classes", .ref a1), ("needs", .ref a2), ("own_counts", .ref a3), ("freezes", .ref a4), ("proposals", .ref a5), ("guards", .ref a6), ("log", .ref a7)])
    generalize upd (upd H9 a7 _) x _ = H10 at I
    walk_at "n"
    refine x_sfldR (x_lstV vala_nil fun a8 na8 => ?_)
    replace I := I.new (v := []) na8
    refine ⟨_, rfl, _, _, _, _, rfl, I.hx, T.clP, T.nP_past, by show 10 < 1000; decide, ?_⟩
    rw [ip_past]
    replace I := I.set (fs' := [("people", vN n), ("clock", vN 0), ("settings", .ref a0), ("classes", .ref a1), ("needs", .ref a2), ("own_counts", .ref a3), ("freezes", .ref a4), ("proposals", .ref a5), ("guards", .ref a6), ("log", .ref a7), ("past", .ref a8)])
    generalize upd (upd H10 a8 _) x _ = H11 at I
    have hne : ∀ p ∈ [(a0, ((List.replicate (16 : Int).toNat [V.int 0]).flatten)), (a1, ((List.replicate (16 : Int).toNat [V.int 0]).flatten)), (a2, ((List.replicate (4 : Int).toNat [V.int 0]).flatten)), (a3, ((List.replicate (4 : Int).toNat [V.int 1]).flatten)), (a4, ([] : List V)), (a5, []), (a6, []), (a7, []), (a8, [])], p.1 ≠ x ∧ p.1 ≠ dx := fun p m => by
      have z := I.fr p m
      exact ⟨fun e => (by rw [e, hx] at z; cases z), fun e => (by rw [e, hdx] at z; cases z)⟩
    have dxx : dx ≠ x := ne_of hdx hx (by intro z; cases z)
    have nd : [x, dx, a0, a1, a2, a3, a4, a5, a6, a7, a8].Nodup := by
      refine List.nodup_cons.mpr ⟨fun m => ?_, List.nodup_cons.mpr ⟨fun m => ?_, I.nd⟩⟩
      · rcases List.mem_cons.mp m with e | m
        · exact dxx e.symm
        · have m : x ∈ List.map (·.1) [(a0, ((List.replicate (16 : Int).toNat [V.int 0]).flatten)), (a1, ((List.replicate (16 : Int).toNat [V.int 0]).flatten)), (a2, ((List.replicate (4 : Int).toNat [V.int 0]).flatten)), (a3, ((List.replicate (4 : Int).toNat [V.int 1]).flatten)), (a4, ([] : List V)), (a5, []), (a6, []), (a7, []), (a8, [])] := m
          obtain ⟨p, hp, e⟩ := List.mem_map.mp m
          exact (hne p hp).1 e
      · have m : dx ∈ List.map (·.1) [(a0, ((List.replicate (16 : Int).toNat [V.int 0]).flatten)), (a1, ((List.replicate (16 : Int).toNat [V.int 0]).flatten)), (a2, ((List.replicate (4 : Int).toNat [V.int 0]).flatten)), (a3, ((List.replicate (4 : Int).toNat [V.int 1]).flatten)), (a4, ([] : List V)), (a5, []), (a6, []), (a7, []), (a8, [])] := m
        obtain ⟨p, hp, e⟩ := List.mem_map.mp m
        exact (hne p hp).2 e
    have fr : ∀ r, Lv (newB n) r → r ≠ .plat → r ≠ .dict → H ((newL [x, dx, a0, a1, a2, a3, a4, a5, a6, a7, a8]).ad r) = none := fun r h n1 n2 => by
      cases r with
      | plat => exact absurd rfl n1
      | dict => exact absurd rfl n2
      | sets => exact I.fr (a0, (List.replicate (16 : Int).toNat [V.int 0]).flatten) (by simp)
      | cls => exact I.fr (a1, (List.replicate (16 : Int).toNat [V.int 0]).flatten) (by simp)
      | need => exact I.fr (a2, (List.replicate (4 : Int).toNat [V.int 0]).flatten) (by simp)
      | own => exact I.fr (a3, (List.replicate (4 : Int).toNat [V.int 1]).flatten) (by simp)
      | frz => exact I.fr (a4, []) (by simp)
      | prs => exact I.fr (a5, []) (by simp)
      | grd => exact I.fr (a6, []) (by simp)
      | log => exact I.fr (a7, []) (by simp)
      | past => exact I.fr (a8, []) (by simp)
      | _ => exact absurd h (Nat.not_lt_zero _)
    have hat : ∀ r, Lv (newB n) r → H11 ((newL [x, dx, a0, a1, a2, a3, a4, a5, a6, a7, a8]).ad r) = some (cont A (newL [x, dx, a0, a1, a2, a3, a4, a5, a6, a7, a8]) (newB n) r) := fun r h => by
      cases r with
      | plat => exact I.hx
      | dict => exact I.kp dx _ hdx dxx
      | sets => exact I.hl (a0, (List.replicate (16 : Int).toNat [V.int 0]).flatten) (by simp)
      | cls => exact I.hl (a1, (List.replicate (16 : Int).toNat [V.int 0]).flatten) (by simp)
      | need => exact I.hl (a2, (List.replicate (4 : Int).toNat [V.int 0]).flatten) (by simp)
      | own => exact I.hl (a3, (List.replicate (4 : Int).toNat [V.int 1]).flatten) (by simp)
      | frz => exact I.hl (a4, []) (by simp)
      | prs => exact I.hl (a5, []) (by simp)
      | grd => exact I.hl (a6, []) (by simp)
      | log => exact I.hl (a7, []) (by simp)
      | past => exact I.hl (a8, []) (by simp)
      | _ => exact absurd h (Nat.not_lt_zero _)
    refine q (newL [x, dx, a0, a1, a2, a3, a4, a5, a6, a7, a8]) H11 ⟨fun r s h1 h2 e => ?_, hat, Tups.nil, Tups.nil, Tups.nil, Tups.nil, fun i h => absurd h (Nat.not_lt_zero _)⟩ rfl (fun c o h n1 n2 => ⟨I.kp c o h n1, fun ⟨r, h1, h2⟩ => ?_⟩)
    · have e1 := newL_at (as := [x, dx, a0, a1, a2, a3, a4, a5, a6, a7, a8]) h1 rfl
      have e2 := newL_at (as := [x, dx, a0, a1, a2, a3, a4, a5, a6, a7, a8]) h2 rfl
      have z := (List.getElem?_inj (ixR_lt h1) nd).mp (e1.trans ((congrArg some e).trans e2.symm))
      rw [← roI_ix h1, z, roI_ix h2]
    · by_cases c1 : r = .plat
      · subst c1
        exact n1 h2.symm
      · by_cases c2 : r = .dict
        · subst c2
          exact n2 h2.symm
        · have z := fr r h1 c1 c2
          rw [h2, h] at z
          cases z
end
end Gc
namespace Gc
open PySem PySem.Spec PyProof.Rows L2
open C8 (Cal Mak Met CalAt pe_c pe_mk pe_mt pe_mt0 pe_gc)
/-! the short tactics (each is a row of one's own, tried by its key) -/
local macro_rules | `(tactic| walk_at "fl") => `(tactic| assumption)
local macro_rules | `(tactic| walk_at "side") => `(tactic| first | assumption | exact Or.inr ⟨by decide, by decide⟩ | exact Or.inl ⟨by decide, by decide⟩ | decide | (refine ⟨by decide, by decide⟩) | omega)
local macro_rules | `(tactic| walk_at "val") => `(tactic| first
  | with_reducible exact val_c
  | ((with_reducible refine' val_var ?vv); (case vv => rfl))
  | ((with_reducible refine' val_fl ?vfa ?vfb); (case vfa => walk_at "val"); (case vfb => walk_at "fl"))
  | ((with_reducible refine' val_len ?vla ?vlb); (case vla => walk_at "val"); (case vlb => walk_at "sq"))
  | ((with_reducible refine' val_I0 ?v0a ?v0b); (case v0a => walk_at "val"); (case v0b => walk_at "val"))
  | ((with_reducible refine' val_I ?via ?vib ?vic); (case via => walk_at "val"); (case vib => walk_at "val"); (case vic => walk_at "side"))
  | ((with_reducible refine' val_neg ?vn); (case vn => walk_at "val"))
  | ((with_reducible refine' val_isN ?vs); (case vs => walk_at "val"))
  | ((with_reducible refine' val_ixL ?xa ?xb ?xc ?xd); (case xa => walk_at "val"); (case xb => walk_at "val"); (case xc => walk_at "sq"); (case xd => walk_at "at"))
  | ((with_reducible refine' val_ixT ?ya ?yb ?yc ?yd); (case ya => walk_at "val"); (case yb => walk_at "val"); (case yc => walk_at "sqt"); (case yd => walk_at "at"))
  | ((with_reducible refine' val_chain ?ca ?cb ?cc); (case ca => walk_at "val"); (case cb => walk_at "val"); (case cc => walk_at "val"))
  | ((with_reducible refine' val_max2 ?ma ?mb); (case ma => walk_at "val"); (case mb => walk_at "val")))
local macro_rules | `(tactic| walk_at "sq") => `(tactic| first | assumption | exact SqL.of (by assumption))
local macro_rules | `(tactic| walk_at "sqt") => `(tactic| first | assumption | exact SqT.of (by assumption))
local macro_rules | `(tactic| walk_at "at") => `(tactic| first | assumption | rfl)
local macro_rules | `(tactic| walk_at "ans") => `(tactic| first
  | ((with_reducible refine' ans_test ?at_); (case at_ => walk_at "val"))
  | ((with_reducible refine' ans_B ?ab_); (case ab_ => walk_at "val"))
  | ((with_reducible refine' ans_or2 ?ao ?ap); (case ao => walk_at "ans"); (case ap => (intro _; walk_at "ans")))
  | ((with_reducible refine' ans_and3 ?aq ?ar); (case aq => walk_at "ans"); (case ar => (intro _; walk_at "ans")))
  | ((with_reducible refine' ans_notM ?an); (case an => walk_at "ans")))
local macro_rules | `(tactic| walk_at "vala") => `(tactic| first
  | with_reducible exact vala_nil
  | ((with_reducible refine' vala_cons ?wa ?wb); (case wa => walk_at "val"); (case wb => walk_at "vala")))
local macro_rules | `(tactic| walk_at "n") => `(tactic| (repeat (first | (with_reducible refine x_gn ?_) | (with_reducible refine st_seq ?_) | (with_reducible refine st_next ?_) | dsimp only)))
local macro_rules | `(tactic| walk_at "fl") => `(tactic| first
  | assumption
  | ((with_reducible refine' fp_people ?fB ?fT); (case fB => assumption); (case fT => assumption))
  | ((with_reducible refine' fp_clock ?fB ?fT); (case fB => assumption); (case fT => assumption))
  | ((with_reducible refine' fp_settings ?fB ?fT); (case fB => assumption); (case fT => assumption))
  | ((with_reducible refine' fp_classes ?fB ?fT); (case fB => assumption); (case fT => assumption))
  | ((with_reducible refine' fp_needs ?fB ?fT); (case fB => assumption); (case fT => assumption))
  | ((with_reducible refine' fp_own_counts ?fB ?fT); (case fB => assumption); (case fT => assumption))
  | ((with_reducible refine' fp_freezes ?fB ?fT); (case fB => assumption); (case fT => assumption))
  | ((with_reducible refine' fp_proposals ?fB ?fT); (case fB => assumption); (case fT => assumption))
  | ((with_reducible refine' fp_guards ?fB ?fT); (case fB => assumption); (case fT => assumption))
  | ((with_reducible refine' fp_log ?fB ?fT); (case fB => assumption); (case fT => assumption))
  | ((with_reducible refine' fp_past ?fB ?fT); (case fB => assumption); (case fT => assumption))
  | ((with_reducible refine' fq_author ?fB ?fT ?fH); (case fB => assumption); (case fT => assumption); (case fH => assumption))
  | ((with_reducible refine' fq_time ?fB ?fT ?fH); (case fB => assumption); (case fT => assumption); (case fH => assumption))
  | ((with_reducible refine' fq_changes ?fB ?fT ?fH); (case fB => assumption); (case fT => assumption); (case fH => assumption))
  | ((with_reducible refine' fq_approvals ?fB ?fT ?fH); (case fB => assumption); (case fT => assumption); (case fH => assumption))
  | ((with_reducible refine' fq_status ?fB ?fT ?fH); (case fB => assumption); (case fT => assumption); (case fH => assumption))
  | ((with_reducible refine' fq_end ?fB ?fT ?fH); (case fB => assumption); (case fT => assumption); (case fH => assumption))
  | ((with_reducible refine' fq_before ?fB ?fT ?fH); (case fB => assumption); (case fT => assumption); (case fH => assumption)))
local macro_rules | `(tactic| walk_at "sq") => `(tactic| first | assumption | exact SqL.of (by assumption) | exact s_sets (by assumption) | exact s_cls (by assumption) | exact s_need (by assumption) | exact s_own (by assumption) | exact s_frz (by assumption) | exact s_prs (by assumption) | exact s_grd (by assumption) | exact s_log (by assumption) | exact s_past (by assumption) | exact s_chg (by assumption) (by assumption) | exact s_apr (by assumption) (by assumption) | exact s_bef (by assumption) (by assumption))
local macro_rules | `(tactic| walk_at "at") => `(tactic| first | assumption | exact atI_0 rfl | exact atI_1 rfl | exact atI_2 rfl)
abbrev s_changes_in : Stmt := topS 22
theorem sc_changes_in : FnScope ["row", "found", "seen", "place", "key", "expected", "value"] ["row"] (defScope s_changes_in) := ⟨rfl, rfl, rfl, by decide +kernel, rfl, by decide +kernel, by decide +kernel⟩
section
variable {P : Program} {w : World} {K : PySem.W.Frag} {mg : Str → Option Value} {base : Heap} {A : Ad}
/-! ### changes_in: plain laws -/
def chsOf (l : List Nat) : List Kex7.Change := if Kex7.areChanges l = true then Kex7.changesOf l else []
def chAt (l : List Nat) (k : Nat) : Kex7.Change := ⟨l.getD (3 * k) 0, l.getD (3 * k + 1) 0, l.getD (3 * k + 2) 0⟩
theorem changes_def : ∀ (n : Nat) (l : List Nat), l.length = 3 * n → Kex7.changesOf l = (List.range n).map (chAt l)
  | 0, l, h => by
    have e : l = [] := List.length_eq_zero_iff.mp (by omega)
    subst e
    rfl
  | n + 1, [], h => by simp at h
  | n + 1, [_], h => by simp only [List.length_cons, List.length_nil] at h; omega
  | n + 1, [_, _], h => by simp only [List.length_cons, List.length_nil] at h; omega
  | n + 1, a :: b :: c :: r, h => by
    have hr : r.length = 3 * n := by simp only [List.length_cons] at h; omega
    have ih := changes_def n r hr
    show ⟨a, b, c⟩ :: Kex7.changesOf r = _
    rw [ih, List.range_succ_eq_map, List.map_cons, List.map_map]
    congr 1
theorem drop3 {l : List Nat} {k : Nat} (h : 3 * k + 3 ≤ l.length) : ((l.map vN).drop (3 * k)).take 3 = [vN (chAt l k).key, vN (chAt l k).expected, vN (chAt l k).value] := by
  have g : ∀ {i : Nat} (hi : i < l.length), (l.map vN).drop i = vN (l.getD i 0) :: (l.map vN).drop (i + 1) := fun {i} hi => by
    rw [List.drop_eq_getElem_cons (by rw [List.length_map]; exact hi), List.getElem_map, List.getD_eq_getElem?_getD, List.getElem?_eq_getElem hi]
    rfl
  rw [g (by omega), g (by omega), g (by omega)]
  rfl
theorem in_vN (k : Nat) (l : List Nat) : inV (vN k) (l.map vN) = l.contains k := by
  unfold inV
  induction l with
  | nil => rfl
  | cons x r ih =>
    rw [List.map_cons, List.any_cons, ih, List.contains_cons]
    congr 1
    show ((x : Int) == (k : Int)) = (k == x)
    rw [Bool.beq_eq_decide_eq, Bool.beq_eq_decide_eq]
    exact decide_eq_decide.mpr (by omega)
theorem flat_vN (l : List Nat) : (l.map vN).all flatV = true := by
  rw [List.all_map, List.all_eq_true]
  intro x _
  rfl
def ch1 (c : Kex7.Change) : Bool := decide (c.key < 16) && decide (c.expected ≤ 1001) && decide (c.value ≤ 1000)
theorem are_def (l : List Nat) : Kex7.areChanges l = (l.length % 3 == 0 && decide (3 ≤ l.length) && decide (l.length ≤ 12) && (Kex7.changesOf l).all ch1 && decide (((Kex7.changesOf l).map (·.key)).Nodup)) := rfl
theorem chs_no {l : List Nat} (h : Kex7.areChanges l = false) : chsOf l = [] := if_neg (by rw [h]; exact Bool.false_ne_true)
theorem chs_bad {l : List Nat} {c : Kex7.Change} (hc : c ∈ Kex7.changesOf l) (h : ch1 c = false) : chsOf l = [] := chs_no (by
  have e : (Kex7.changesOf l).all ch1 = false := List.all_eq_false.mpr ⟨c, hc, by rw [h]; exact Bool.false_ne_true⟩
  rw [are_def, e, Bool.and_false, Bool.false_and])
theorem chs_twice {l : List Nat} (h : ¬ ((Kex7.changesOf l).map (·.key)).Nodup) : chsOf l = [] := chs_no (by
  rw [are_def, decide_eq_false h, Bool.and_false])
theorem chs_long {l : List Nat} (h : l.length % 3 ≠ 0 ∨ 12 < l.length) : chsOf l = [] := chs_no (by
  rw [are_def]
  rcases h with h | h
  · rw [show (l.length % 3 == 0) = false from by rw [Bool.beq_eq_decide_eq]; exact decide_eq_false h]
    rfl
  · rw [decide_eq_false (show ¬ l.length ≤ 12 by omega), Bool.and_false]
    rfl)
theorem chs_good {l : List Nat} (h1 : l.length % 3 = 0) (h2 : l.length ≤ 12) (h3 : ∀ c ∈ Kex7.changesOf l, ch1 c = true) (h4 : ((Kex7.changesOf l).map (·.key)).Nodup) : chsOf l = Kex7.changesOf l := by
  by_cases c : 3 ≤ l.length
  · refine if_pos ?_
    rw [are_def, decide_eq_true c, decide_eq_true h2, decide_eq_true h4, List.all_eq_true.mpr h3, h1]
    rfl
  · have e : l = [] := List.length_eq_zero_iff.mp (by omega)
    subst e
    rfl
theorem rgc3 {n : Nat} (h : n ≤ 4) : RgC 0 ((3 * n : Nat) : Int) 3 n := by
  match n, h with
  | 0, _ => exact ⟨by decide, by decide, by decide, by decide⟩
  | 1, _ => exact ⟨by decide, by decide, by decide, by decide⟩
  | 2, _ => exact ⟨by decide, by decide, by decide, by decide⟩
  | 3, _ => exact ⟨by decide, by decide, by decide, by decide⟩
  | 4, _ => exact ⟨by decide, by decide, by decide, by decide⟩
  | k + 5, h => exact absurd h (by omega)
theorem x_forR3 {σ : L2.St} {H : Hp} {i j c : Int} {t : TS} {g : TG} {ts : TA} {D : Ends} {n : Nat} (hv : ValA ts σ H [.int i, .int j, .int c]) (hr : RgC i j c n) (Pv : Nat → L2.St → Hp → Prop) (h0 : Pv 0 σ H)
    (hs : ∀ (k : Nat) (σ : L2.St) (H : Hp), k < n → Pv k σ H → g (.int (i + (k : Nat) * c)) σ H fun σ2 H2 => t { D with nx := Pv (k + 1), ct := Pv (k + 1), bk := D.nx } σ2 H2) (hd : ∀ σ H, Pv n σ H → D.nx σ H) : tFor (iRng3 ts) g t D σ H :=
  hv _ ⟨i, j, c, n, rfl, hr, for_rangeC Pv h0 hs hd⟩
theorem ans_in {K : PySem.W.Frag} {σ : L2.St} {H : Hp} {ta tb : TE} {p : Addr} {k : Nat} {l : List Nat} (ha : Val ta σ H (vN k)) (hb : Val tb σ H (.ref p)) (hS : SqL K H p (l.map vN)) : Ans (tTest (tOp (rIn K false) ta tb)) σ H (l.contains k) := fun Q q => ha _ (hb _ ⟨p, _, rfl, .inl hS, rfl, flat_vN l, _, rfl, by
  show Q (inV (vN k) (l.map vN)) H
  rw [in_vN]
  exact q⟩)
theorem ans_notIn {K : PySem.W.Frag} {σ : L2.St} {H : Hp} {ta tb : TE} {p : Addr} {k : Nat} {l : List Nat} (ha : Val ta σ H (vN k)) (hb : Val tb σ H (.ref p)) (hS : SqL K H p (l.map vN)) : Ans (tTest (tOp (rIn K true) ta tb)) σ H (!l.contains k) := fun Q q => ha _ (hb _ ⟨p, _, rfl, .inl hS, rfl, flat_vN l, _, rfl, by
  show Q (!inV (vN k) (l.map vN)) H
  rw [in_vN]
  exact q⟩)
theorem upd_at {H : Hp} {a b : Addr} {o u : HO} (n : b ≠ a) (h : H b = some u) : upd H a o b = some u := by rw [upd_ne n]; exact h
/-! ### changes_in: the walk -/
def spChs (K : PySem.W.Frag) : Sp := fun vs H Q _ => ∃ (a : Addr) (l : List Nat), vs = [.ref a] ∧ SqL K H a (l.map vN) ∧
  ∀ H' p as, Same H H' → H p = none → H' p = some (.lst (as.map V.ref)) → Tups H' as ((chsOf l).map tCh) → Q (.ref p) H'
theorem ok_chs (F : At K mg "changes_in" s_changes_in ["row"]) (T : Txt P w K mg A) : Cal P w K mg base 1 "changes_in" (spChs K) [] := by
  refine F.cal sc_changes_in (fun vs H Q E h => ?_) (fun f cdv Ar outer s H vs Q E hr h => ?_)
  · obtain ⟨a, l, rfl, _⟩ := h
    rfl
  · obtain ⟨a, l, rfl, hS, q⟩ := h
    have no : chsOf l = [] → ∀ (H1 : Hp), Same H H1 → ∀ p, H1 p = none → Q (.ref p) (upd H1 p (.lst [])) := fun e H1 s1 p np => q _ p [] (s1.trans (same_upd np)) (s1.free np) upd_same (by rw [e]; exact Tups.nil)
    have hlen : ((l.map vN).length : Int) = (l.length : Int) := by rw [List.length_map]
    have vlen : ∀ {σ : L2.St} {te : TE} {H1 : Hp}, Same H H1 → Val te σ H1 (.ref a) → Val (tCB (rLenM K) (tCons te tNil)) σ H1 (vN l.length) := fun s1 hv => by
      have z := val_len hv (s1.seq hS)
      rw [hlen] at z
      exact z
    refine ⟨_, (pss_cons (ps_if (PW.pt (pw_or (pt_cmpR op_neI (pe_op op_mod (pe_callB call_lenM (by rfl) T.len (by decide +kernel) (pa_cons (pv 0) pa_nil)) pe_int) pe_int (nomark _)) (pw_or1 (pt_cmpR op_gt (pe_callB call_lenM (by rfl) T.len (by decide +kernel) (pa_cons (pv 0) pa_nil)) (pe_op op_mul pe_int (pe_gc (by rfl) T.g_MOST_CHANGES)) (nomark _))))) (pss_one (ps_ret (pe_lst pa_nil))) pss_nil)
      (pss_cons (ps_set (i := 1) sc_changes_in.nd rfl (Or.inl rfl) (pe_lst pa_nil))
      (pss_cons (ps_set (i := 2) sc_changes_in.nd rfl (Or.inl rfl) (pe_lst pa_nil))
      (pss_cons (ps_for PassesOwn.never rfl (pi_range3 (by rfl) T.range (pa_cons pe_int (pa_cons (pe_callB call_lenM (by rfl) T.len (by decide +kernel) (pa_cons (pv 0) pa_nil)) (pa_cons pe_int pa_nil)))) (pg_name (i := 3) sc_changes_in.nd rfl (Or.inl rfl)) (pss_cons (ps_asg (pe_slice sl_list (pv 0) (po_some (pv 3)) (po_some (pe_op op_add (pv 3) pe_int))) (pg_unl rfl (pgs_cons (pg_name (i := 4) sc_changes_in.nd rfl (Or.inl rfl)) (pgs_cons (pg_name (i := 5) sc_changes_in.nd rfl (Or.inl rfl)) (pgs_cons (pg_name (i := 6) sc_changes_in.nd rfl (Or.inl rfl)) pgs_nil)))))
      (pss_cons (ps_if (PW.pt (pw_or (pt_cmpR op_gt (pv 4) (pe_gc (by rfl) T.g_MOST_KEY) (nomark _)) (pw_or (pt_cmpR op_in_seq (pv 4) (pv 2) (by with_unfolding_all rfl)) (pw_or (pt_cmpR op_gt (pv 5) (pe_gc (by rfl) T.g_ANY) (nomark _)) (pw_or1 (pt_cmpR op_gt (pv 6) (pe_gc (by rfl) T.g_MOST_VALUE) (nomark _))))))) (pss_one (ps_ret (pe_lst pa_nil))) pss_nil)
      (pss_cons (ps_expr (pe_bm PySem.F.plainAttrs_list PySem.F.slot_list_append PySem.F.type_list_append mt_append (pv 2) (pa_cons (pv 4) pa_nil)))
      (pss_one (ps_expr (pe_bm PySem.F.plainAttrs_list PySem.F.slot_list_append PySem.F.type_list_append mt_append (pv 1) (pa_cons (pe_tup (pa_cons (pv 4) (pa_cons (pv 5) (pa_cons (pv 6) pa_nil)))) pa_nil))))))))
      (pss_one (ps_ret (pv 1))))))), ?_⟩
    walk_at "n"
    have m3 : ((l.length : Int) % 3) = ((l.length % 3 : Nat) : Int) := by omega
    refine x_ifOr (ans_test (val_I0 (val_I (vlen (Same.refl H) (val_var rfl)) val_c (by decide)) val_c)) (fun h1 => ?_) (fun h1 => ?_)
    · refine x_ret (x_lstV vala_nil fun p np => no (chs_long (.inl fun e => ?_)) H (Same.refl H) p np)
      rw [m3, e] at h1
      exact absurd h1 (by decide)
    have e3 : l.length % 3 = 0 := by
      rw [m3] at h1
      by_cases c : ((l.length % 3 : Nat) : Int) = 0
      · omega
      · rw [decide_eq_false c] at h1
        cases h1
    refine x_ifP (ans_test (val_I0 (vlen (Same.refl H) (val_var rfl)) (by walk_at "val"))) (fun h2 => ?_) (fun h2 => ?_)
    · refine x_ret (x_lstV vala_nil fun p np => no (chs_long (.inr ?_)) H (Same.refl H) p np)
      have h2 : (l.length : Int) > 3 * 4 := h2
      omega
    have h12 : l.length ≤ 12 := by
      have h2 : ¬ (l.length : Int) > 3 * 4 := h2
      omega
    obtain ⟨n, hn⟩ : ∃ n, l.length = 3 * n := ⟨l.length / 3, by omega⟩
    have hn4 : n ≤ 4 := by omega
    have ecs := changes_def n l hn
    walk_at "n"
    refine x_set (x_lstV vala_nil fun F nF => ?_)
    walk_at "n"
    refine x_set (x_lstV vala_nil fun S nS => ?_)
    have sF : Same H (upd H F (.lst [])) := same_upd nF
    have sS : Same (upd H F (.lst [])) (upd (upd H F (.lst [])) S (.lst [])) := same_upd nS
    have dFS : F ≠ S := ne_of_none upd_same nS
    have gF : (upd (upd H F (.lst [])) S (.lst [])) F = some (.lst []) := sS _ _ upd_same
    have gS : (upd (upd H F (.lst [])) S (.lst [])) S = some (.lst []) := upd_same
    have s0 : Same H (upd (upd H F (.lst [])) S (.lst [])) := sF.trans sS
    have nS' : H S = none := sF.free nS
    generalize upd (upd H F (.lst [])) S (.lst []) = H0 at gF gS s0
    walk_at "n"
    have hcl : (Kex7.changesOf l).length = n := by rw [ecs, List.length_map, List.length_range]
    refine x_forR3 (i := 0) (j := ((3 * n : Nat) : Int)) (c := 3) (n := n) (vala_cons val_c (vala_cons (by rw [← hn]; exact vlen s0 (val_var rfl)) (vala_cons val_c vala_nil))) (rgc3 hn4)
      (fun k σ H' => ∃ v3 v4 v5 v6 as, σ = [some (.ref a), some (.ref F), some (.ref S), v3, v4, v5, v6] ∧ Same H H' ∧ H' F = some (.lst (as.map V.ref)) ∧ H' S = some (.lst (((Kex7.changesOf l).take k).map (fun c => c.key) |>.map vN)) ∧ Tups H' as (((Kex7.changesOf l).take k).map tCh) ∧ (∀ c ∈ (Kex7.changesOf l).take k, ch1 c = true) ∧ (((Kex7.changesOf l).take k).map (·.key)).Nodup)
      ⟨none, none, none, none, [], rfl, s0, gF, gS, Tups.nil, fun c hc => absurd hc (by simp), List.nodup_nil⟩ ?_ ?_
    · rintro k σ H' hk ⟨v3, v4, v5, v6, as, rfl, s1, f1, g1, t1, o1, d1⟩
      have hc : (Kex7.changesOf l)[k]? = some (chAt l k) := by rw [ecs, List.getElem?_map, List.getElem?_range hk]; rfl
      have hm := List.mem_of_getElem? hc
      have e : (0 + (k : Int) * 3) = ((3 * k : Nat) : Int) := by omega
      have e' : ((3 * k : Nat) : Int) + 3 = ((3 * k + 3 : Nat) : Int) := by omega
      rw [e]
      generalize chAt l k = c at hc hm
      have ed : ((l.map vN).drop (3 * k)).take (3 * k + 3 - 3 * k) = [vN c.key, vN c.expected, vN c.value] := by
        have e2 : chAt l k = c := by
          rw [ecs, List.getElem?_map, List.getElem?_range hk] at hc
          exact Option.some.inj hc
        rw [show 3 * k + 3 - 3 * k = 3 by omega, drop3 (by omega), e2]
      walk_at "n"
      refine x_asg (x_slMid (n := 3 * k) (m := 3 * k + 3) (val_var rfl) (val_var rfl) (by rw [← e']; exact val_I0 (val_var rfl) val_c) (s1.seq hS) fun p np => ?_)
      rw [ed]
      refine x_ul3 (SqL.of upd_same) ?_
      have s2 := s1.trans (same_upd (o := .lst [vN c.key, vN c.expected, vN c.value]) np)
      have f2 := same_upd (o := .lst [vN c.key, vN c.expected, vN c.value]) np _ _ f1
      have g2 := same_upd (o := .lst [vN c.key, vN c.expected, vN c.value]) np _ _ g1
      have t2 := t1.mono fun t v => same_upd (o := .lst [vN c.key, vN c.expected, vN c.value]) np t _
      generalize upd H' p (.lst [vN c.key, vN c.expected, vN c.value]) = H2 at s2 f2 g2 t2
      walk_at "n"
      have bad : ch1 c = false → ∀ p, H2 p = none → Q (.ref p) (upd H2 p (.lst [])) := fun h p np => no (chs_bad hm h) H2 s2 p np
      refine x_ifOr (by walk_at "ans") (fun h3 => x_ret (x_lstV vala_nil fun p np => bad ?_ p np)) (fun h3 => ?_)
      · have h3 := of_decide_eq_true h3
        unfold ch1
        rw [decide_eq_false (show ¬ c.key < 16 by omega)]
        rfl
      refine x_ifOr (ans_in (val_var rfl) (val_var rfl) (SqL.of g2)) (fun h4 => x_ret (x_lstV vala_nil fun p np => no (chs_twice fun z => ?_) H2 s2 p np)) (fun h4 => ?_)
      · have z2 := (List.take_append_drop k (Kex7.changesOf l)) ▸ z
        rw [List.map_append, List.nodup_append] at z2
        refine z2.2.2 c.key (by rw [List.contains_iff_mem] at h4; exact h4) c.key ?_ rfl
        refine List.mem_map.mpr ⟨c, ?_, rfl⟩
        refine List.mem_of_getElem? (i := 0) ?_
        rw [List.getElem?_drop]
        exact hc
      refine x_ifOr (by walk_at "ans") (fun h5 => x_ret (x_lstV vala_nil fun p np => bad ?_ p np)) (fun h5 => ?_)
      · have h5 := of_decide_eq_true h5
        unfold ch1
        rw [decide_eq_false (show ¬ c.expected ≤ 1001 by omega), Bool.and_false]
        rfl
      refine x_ifP (by walk_at "ans") (fun h6 => x_ret (x_lstV vala_nil fun p np => bad ?_ p np)) (fun h6 => ?_)
      · unfold ch1
        rw [decide_eq_false (show ¬ c.value ≤ 1000 by omega), Bool.and_false]
      have h3 := of_decide_eq_false h3
      have h5 := of_decide_eq_false h5
      have oc : ch1 c = true := by
        unfold ch1
        rw [decide_eq_true (show c.key < 16 by omega), decide_eq_true (show c.expected ≤ 1001 by omega), decide_eq_true (show c.value ≤ 1000 by omega)]
        rfl
      have tl : ((Kex7.changesOf l).take k).length ≤ 12 := by
        rw [List.length_take]
        omega
      walk_at "n"
      refine x_drop (x_app (val_var rfl) g2 (x_val (by walk_at "val") ?_))
      refine x_rapp g2 (by rw [List.length_map, List.length_map]; omega) ?_
      have s3 : Same H (upd H2 S (.lst ((((Kex7.changesOf l).take k).map (fun c => c.key) |>.map vN) ++ [vN c.key]))) := same_upd2 s2 nS'
      have f3 := upd_at (o := .lst ((((Kex7.changesOf l).take k).map (fun c => c.key) |>.map vN) ++ [vN c.key])) dFS f2
      have g3 : (upd H2 S (.lst ((((Kex7.changesOf l).take k).map (fun c => c.key) |>.map vN) ++ [vN c.key]))) S = some (.lst (((Kex7.changesOf l).take (k + 1)).map (fun c => c.key) |>.map vN)) := by
        rw [upd_same, take_more hc, List.map_append, List.map_append]
        rfl
      have t3 := t2.mono fun t v z => upd_at (o := .lst ((((Kex7.changesOf l).take k).map (fun c => c.key) |>.map vN) ++ [vN c.key])) (ne_of z g2 (by intro y; cases y)) z
      generalize upd H2 S (.lst ((((Kex7.changesOf l).take k).map (fun c => c.key) |>.map vN) ++ [vN c.key])) = H3 at s3 f3 g3 t3
      walk_at "n"
      refine x_drop (x_app (val_var rfl) f3 (x_tupV (by walk_at "vala") fun t nt => ?_))
      have st := same_upd (o := .tup [vN c.key, vN c.expected, vN c.value]) nt
      have asl : as.length ≤ 12 := by
        rw [t1.len, List.length_map]
        exact tl
      refine x_rapp (st _ _ f3) (by rw [List.length_map]; omega) ?_
      walk_at "n"
      have tF : ∀ y v, (upd H3 t (.tup [vN c.key, vN c.expected, vN c.value])) y = some (.tup v) → (upd (upd H3 t (.tup [vN c.key, vN c.expected, vN c.value])) F (.lst (as.map V.ref ++ [V.ref t]))) y = some (.tup v) := fun y v z => upd_at (ne_of z (st _ _ f3) (by intro y; cases y)) z
      refine ⟨_, _, _, _, as ++ [t], rfl, same_upd2 (s3.trans st) nF, ?_, upd_at (Ne.symm dFS) (st _ _ g3), ?_, ?_, ?_⟩
      · rw [upd_same, List.map_append]
        rfl
      · rw [take_more hc, List.map_append]
        exact ((t3.mono fun y v => st y _).snoc upd_same).mono tF
      · intro c' hc'
        rw [take_more hc] at hc'
        rcases List.mem_append.mp hc' with z | z
        · exact o1 c' z
        · rw [List.mem_singleton.mp z]
          exact oc
      · rw [take_more hc, List.map_append, List.nodup_append]
        refine ⟨d1, by simp, fun x hx y hy => ?_⟩
        have ey : y = c.key := by simpa using hy
        rw [ey]
        intro z
        rw [z] at hx
        rw [List.contains_iff_mem.mpr hx] at h4
        cases h4
    · rintro σ H' ⟨v3, v4, v5, v6, as, rfl, s1, f1, g1, t1, o1, d1⟩
      rw [← hcl, List.take_length] at t1 o1 d1
      walk_at "n"
      refine x_ret (x_val (by walk_at "val") ?_)
      exact q H' F as s1 nF f1 (by rw [chs_good e3 h12 o1 d1]; exact t1)
end
end Gc
namespace Gc
open PySem PySem.Spec PyProof.Rows L2
open C8 (Cal Mak Met CalAt pe_c pe_mk pe_mt pe_mt0 pe_gc)
/-! ## Laws of the operations that change a board -/
theorem PrOk.up {c : Nat} {p : Kex7.Proposal} (h : PrOk c p) : PrOk (c + 1) p := ⟨h.ne, h.le, h.key, h.nd, Nat.le_succ_of_le h.few, h.bef⟩
theorem Wf.up {c : Nat} {b : Board} (W : Wf c b) (h : c + 1 ≤ 1000) : Wf (c + 1) b := ⟨W.vals, W.cls, W.clv, W.rules, W.frz, W.grd, W.grk, W.prs, fun p m => (W.pro p m).up, Nat.le_trans W.pot (by omega), h⟩
theorem Wf.rul {c : Nat} {b : Board} (W : Wf c b) (k : Nat) (r : Kex7.Rule) : Wf c { b with rules := b.rules.set k r } := ⟨W.vals, W.cls, W.clv, List.length_set.trans W.rules, W.frz, W.grd, W.grk, W.prs, W.pro, W.pot, W.few⟩
theorem Wf.clk {c : Nat} {b : Board} (W : Wf c b) (n : Nat) : Wf c { b with clock := n } := ⟨W.vals, W.cls, W.clv, W.rules, W.frz, W.grd, W.grk, W.prs, W.pro, W.pot, W.few⟩
theorem Wf.clas {c : Nat} {b : Board} (W : Wf c b) (k : Nat) {v : Nat} (hv : v < 4) : Wf c { b with classes := b.classes.set k v } := ⟨W.vals, List.length_set.trans W.cls, fun x m => by
  rcases mem_set_or m with z | rfl
  · exact W.clv x z
  · exact hv, W.rules, W.frz, W.grd, W.grk, W.prs, W.pro, W.pot, W.few⟩
theorem Wf.fzAdd {c : Nat} {b : Board} (W : Wf c b) (f : Kex7.Freeze) (h : b.freezes.length < 8) : Wf c { b with freezes := b.freezes ++ [f] } := ⟨W.vals, W.cls, W.clv, W.rules, by
  show (b.freezes ++ [f]).length ≤ 8
  rw [List.length_append]
  exact h, W.grd, W.grk, W.prs, W.pro, W.pot, W.few⟩
theorem Wf.fzDel {c : Nat} {b : Board} (W : Wf c b) (k : Nat) : Wf c { b with freezes := b.freezes.eraseIdx k } := ⟨W.vals, W.cls, W.clv, W.rules, Nat.le_trans (List.length_eraseIdx_le ..) W.frz, W.grd, W.grk, W.prs, W.pro, W.pot, W.few⟩
theorem Wf.gdAdd {c : Nat} {b : Board} (W : Wf c b) (g : Kex7.Guard) (h : b.guards.length < 8) (hg : g.key < 16) : Wf c { b with guards := b.guards ++ [g] } := ⟨W.vals, W.cls, W.clv, W.rules, W.frz, by
  show (b.guards ++ [g]).length ≤ 8
  rw [List.length_append]
  exact h, fun x m => by
  rcases List.mem_append.mp m with z | z
  · exact W.grk x z
  · rw [List.mem_singleton.mp z]
    exact hg, W.prs, W.pro, W.pot, W.few⟩
theorem Wf.gdDel {c : Nat} {b : Board} (W : Wf c b) (k : Nat) : Wf c { b with guards := b.guards.eraseIdx k } := ⟨W.vals, W.cls, W.clv, W.rules, W.frz, Nat.le_trans (List.length_eraseIdx_le ..) W.grd, fun x m => W.grk x (List.mem_of_mem_eraseIdx m), W.prs, W.pro, W.pot, W.few⟩
/-- a proposal is written and an entry is noted -/
theorem Wf.setLog {c : Nat} {b : Board} (W : Wf c b) (hc : c + 1 ≤ 1000) {i : Nat} (hi : i < b.proposals.length) {q : Kex7.Proposal} (ok : PrOk (c + 1) q) (ho : isOpen q = true → isOpen (pr b i) = true) (k u s : Nat) : Wf (c + 1) (Kex7.logged (Kex7.withProposal b i q) k u s) := by
  refine ⟨W.vals, W.cls, W.clv, W.rules, W.frz, W.grd, W.grk, by show (b.proposals.set i q).length ≤ 20; rw [List.length_set]; exact W.prs, fun p m => ?_, ?_, hc⟩
  · rcases mem_set_or m with z | rfl
    · exact (W.pro p z).up
    · exact ok
  · have z := countP_set (f := isOpen) (q := q) (pr_at hi)
    have le : opens (Kex7.withProposal b i q) ≤ opens b := by
      show (b.proposals.set i q).countP isOpen ≤ b.proposals.countP isOpen
      by_cases h : isOpen q = true
      · rw [if_pos h, if_pos (ho h)] at z
        omega
      · rw [if_neg h] at z
        split at z <;> omega
    have hp := W.pot
    unfold Gc.pot at hp ⊢
    show (b.log ++ [_]).length + b.history.length + 5 * opens (Kex7.withProposal b i q) ≤ _
    rw [List.length_append, List.length_singleton]
    omega
theorem Wf.add {c : Nat} {b : Board} (W : Wf c b) (hc : c + 1 ≤ 1000) {author time : Nat} {cs : List Kex7.Change} (hn : b.proposals.length < 20) (h1 : 1 ≤ cs.length) (h4 : cs.length ≤ 4) (hk : ∀ x ∈ cs, x.key < 16) : Wf (c + 1) (addB b author time cs) := by
  refine ⟨W.vals, W.cls, W.clv, W.rules, W.frz, W.grd, W.grk, by show (plusP b author time cs).proposals.length ≤ 20; rw [plus_len]; exact hn, fun p m => ?_, ?_, hc⟩
  · rcases List.mem_append.mp (show p ∈ b.proposals ++ [_] from m) with z | z
    · exact (W.pro p z).up
    · rw [List.mem_singleton.mp z]
      exact ⟨h1, h4, hk, List.nodup_nil, Nat.zero_le _, fun e => absurd (show (0 : Nat) = 1 from e) (by decide)⟩
  · have hp := W.pot
    have e : opens (plusP b author time cs) = opens b + 1 := by
      show (b.proposals ++ [_]).countP isOpen = _
      rw [List.countP_append]
      rfl
    unfold Gc.pot at hp ⊢
    show (b.log ++ [_]).length + b.history.length + 5 * opens (plusP b author time cs) ≤ _
    rw [List.length_append, List.length_singleton, e]
    omega
theorem Wf.rep {c : Nat} {b : Board} (W : Wf c b) (hc : c + 1 ≤ 1000) (m v : Nat) : Wf (c + 1) (Kex7.report b m v) := by
  rw [report_def]
  have h := repK_like b m v b.guards.length
  generalize repK b m v b.guards.length = y at h
  refine ⟨h.vals.trans W.vals, by rw [h.classes]; exact W.cls, fun x m => W.clv x (by rw [← h.classes]; exact m), by rw [h.rules]; exact W.rules, by rw [h.freezes]; exact W.frz, by rw [h.guards]; exact W.grd, fun g m => W.grk g (by rw [← h.guards]; exact m), by rw [h.proposals]; exact W.prs,
    fun p m => (W.pro p (by rw [← h.proposals]; exact m)).up, ?_, hc⟩
  have e : opens y = opens b := by unfold opens; rw [h.proposals]
  have hp := W.pot
  have := W.grd
  have := h.log2
  have := h.hist
  unfold Gc.pot at hp ⊢
  omega
theorem Wf.tick {c : Nat} : ∀ (n : Nat) {b : Board}, Wf c b → Wf c (Kex7.tick n b)
  | 0, _, W => W
  | n + 1, _, W => Wf.tick n (W.clk _).settle
theorem tick_more : ∀ (n : Nat) (b : Board), Kex7.tick (n + 1) b = Kex7.settle { Kex7.tick n b with clock := (Kex7.tick n b).clock + 1 }
  | 0, b => rfl
  | n + 1, b => tick_more n _
theorem chs_ok {l : List Nat} (h : Kex7.areChanges l = true) : 1 ≤ (chsOf l).length ∧ (chsOf l).length ≤ 4 ∧ ∀ x ∈ chsOf l, x.key < 16 := by
  have e : chsOf l = Kex7.changesOf l := if_pos h
  rw [are_def] at h
  simp only [Bool.and_eq_true, beq_iff_eq, decide_eq_true_iff, List.all_eq_true] at h
  obtain ⟨⟨⟨⟨h0, h1⟩, h2⟩, h3⟩, h4⟩ := h
  rw [e]
  have hn : (Kex7.changesOf l).length = l.length / 3 := by
    rw [changes_def (l.length / 3) l (by omega), List.length_map, List.length_range]
  refine ⟨by omega, by omega, fun x m => ?_⟩
  have z := h3 x m
  unfold ch1 at z
  simp only [Bool.and_eq_true, decide_eq_true_iff] at z
  exact z.1.1
theorem chs_nil {l : List Nat} : (chsOf l).length = 0 ↔ Kex7.areChanges l = false := by
  constructor
  · intro h
    cases z : Kex7.areChanges l with
    | false => rfl
    | true =>
      have := (chs_ok z).1
      omega
  · intro h
    rw [chs_no h]
    rfl
/-! ### the cells -/
section
variable {A : Ad} {L : Lay} {b : Board} {H : Hp} {i : Nat}
theorem Bd.setCls (B : Bd A L b H) (k v : Nat) :
    Bd A L { b with classes := b.classes.set k v } (upd H (L.ad .cls) (.lst ((b.classes.map vN).set k (vN v)))) ∧ Fr L b H L { b with classes := b.classes.set k v } (upd H (L.ad .cls) (.lst ((b.classes.map vN).set k (vN v)))) := by
  have ec : cont A L { b with classes := b.classes.set k v } .cls = .lst ((b.classes.map vN).set k (vN v)) := by
    show HO.lst ((b.classes.set k v).map vN) = _
    rw [List.map_set]
  have hw := B.write0 (b' := { b with classes := b.classes.set k v }) .cls trivial rfl (fun r _ hr => by cases r <;> first | rfl | exact absurd rfl hr) rfl rfl rfl rfl (fun _ _ => rfl)
  rw [ec] at hw
  exact ⟨hw, Fr.write (L := L) (b := b) (L' := L) (b' := { b with classes := b.classes.set k v }) .cls trivial rfl rfl rfl _⟩
theorem set_same {T : Type} {l : List T} {k : Nat} {x : T} (h : l[k]? = some x) : l.set k x = l := by
  obtain ⟨h1, h2⟩ := List.getElem?_eq_some_iff.mp h
  rw [← h2]
  exact List.set_getElem_self h1
theorem Bd.setNeed (B : Bd A L b H) {k : Nat} (hk : k < b.rules.length) (n : Nat) :
    Bd A L { b with rules := b.rules.set k ⟨n, (b.rules.getD k ⟨0, true⟩).selfApproval⟩ } (upd H (L.ad .need) (.lst ((b.rules.map fun r => vN r.approvals).set k (vN n)))) ∧
    Fr L b H L { b with rules := b.rules.set k ⟨n, (b.rules.getD k ⟨0, true⟩).selfApproval⟩ } (upd H (L.ad .need) (.lst ((b.rules.map fun r => vN r.approvals).set k (vN n)))) := by
  have ec : cont A L { b with rules := b.rules.set k ⟨n, (b.rules.getD k ⟨0, true⟩).selfApproval⟩ } .need = .lst ((b.rules.map fun r => vN r.approvals).set k (vN n)) := by
    show HO.lst ((b.rules.set k _).map fun r => vN r.approvals) = _
    rw [List.map_set]
  have eo : (b.rules.set k ⟨n, (b.rules.getD k ⟨0, true⟩).selfApproval⟩).map (fun r => vN (b2n r.selfApproval)) = b.rules.map fun r => vN (b2n r.selfApproval) := by
    rw [List.map_set]
    refine set_same ?_
    rw [List.getElem?_map, getD_at (d := (⟨0, true⟩ : Kex7.Rule)) hk]
    rfl
  have hw := B.write0 (b' := { b with rules := b.rules.set k ⟨n, (b.rules.getD k ⟨0, true⟩).selfApproval⟩ }) .need trivial rfl (fun r _ hr => by
    cases r <;> first | rfl | exact absurd rfl hr | exact congrArg HO.lst eo) rfl rfl rfl rfl (fun _ _ => rfl)
  rw [ec] at hw
  exact ⟨hw, Fr.write (L := L) (b := b) (L' := L) (b' := { b with rules := b.rules.set k ⟨n, (b.rules.getD k ⟨0, true⟩).selfApproval⟩ }) .need trivial rfl rfl rfl _⟩
theorem Bd.setOwn (B : Bd A L b H) {k : Nat} (hk : k < b.rules.length) (s : Bool) :
    Bd A L { b with rules := b.rules.set k ⟨(b.rules.getD k ⟨0, true⟩).approvals, s⟩ } (upd H (L.ad .own) (.lst ((b.rules.map fun r => vN (b2n r.selfApproval)).set k (vN (b2n s))))) ∧
    Fr L b H L { b with rules := b.rules.set k ⟨(b.rules.getD k ⟨0, true⟩).approvals, s⟩ } (upd H (L.ad .own) (.lst ((b.rules.map fun r => vN (b2n r.selfApproval)).set k (vN (b2n s))))) := by
  have ec : cont A L { b with rules := b.rules.set k ⟨(b.rules.getD k ⟨0, true⟩).approvals, s⟩ } .own = .lst ((b.rules.map fun r => vN (b2n r.selfApproval)).set k (vN (b2n s))) := by
    show HO.lst ((b.rules.set k _).map fun r => vN (b2n r.selfApproval)) = _
    rw [List.map_set]
  have eo : (b.rules.set k ⟨(b.rules.getD k ⟨0, true⟩).approvals, s⟩).map (fun r => vN r.approvals) = b.rules.map fun r => vN r.approvals := by
    rw [List.map_set]
    refine set_same ?_
    rw [List.getElem?_map, getD_at (d := (⟨0, true⟩ : Kex7.Rule)) hk]
    rfl
  have hw := B.write0 (b' := { b with rules := b.rules.set k ⟨(b.rules.getD k ⟨0, true⟩).approvals, s⟩ }) .own trivial rfl (fun r _ hr => by
    cases r <;> first | rfl | exact absurd rfl hr | exact congrArg HO.lst eo) rfl rfl rfl rfl (fun _ _ => rfl)
  rw [ec] at hw
  exact ⟨hw, Fr.write (L := L) (b := b) (L' := L) (b' := { b with rules := b.rules.set k ⟨(b.rules.getD k ⟨0, true⟩).approvals, s⟩ }) .own trivial rfl rfl rfl _⟩
theorem Bd.setClk (B : Bd A L b H) (n : Nat) :
    Bd A L { b with clock := n } (upd H (L.ad .plat) (.ins A.CP (L.ad .dict) (plF L { b with clock := n }))) ∧ Fr L b H L { b with clock := n } (upd H (L.ad .plat) (.ins A.CP (L.ad .dict) (plF L { b with clock := n }))) :=
  ⟨B.write0 (b' := { b with clock := n }) .plat trivial rfl (fun r _ hr => by cases r <;> first | rfl | exact absurd rfl hr) rfl rfl rfl rfl (fun _ _ => rfl), Fr.write (L := L) (b := b) (L' := L) (b' := { b with clock := n }) .plat trivial rfl rfl rfl _⟩
theorem Bd.fzAdd (B : Bd A L b H) {t : Addr} (ht : H t = none) (e : Kex7.Freeze) :
    Bd A { L with fz := L.fz ++ [t] } { b with freezes := b.freezes ++ [e] } (upd (upd H t (.tup (tFz e))) (L.ad .frz) (.lst (L.fz.map V.ref ++ [V.ref t]))) ∧
    Fr L b H { L with fz := L.fz ++ [t] } { b with freezes := b.freezes ++ [e] } (upd (upd H t (.tup (tFz e))) (L.ad .frz) (.lst (L.fz.map V.ref ++ [V.ref t]))) := by
  have s := same_upd (o := .tup (tFz e)) ht
  have B1 := B.mono s
  have ec : cont A { L with fz := L.fz ++ [t] } { b with freezes := b.freezes ++ [e] } .frz = .lst (L.fz.map V.ref ++ [V.ref t]) := by
    show HO.lst ((L.fz ++ [t]).map V.ref) = _
    rw [List.map_append]
    rfl
  have hw := Bd.write (L' := { L with fz := L.fz ++ [t] }) (b' := { b with freezes := b.freezes ++ [e] }) B1 .frz trivial rfl rfl (fun r _ hr => by cases r <;> first | rfl | exact absurd rfl hr)
    (B1.keepT .frz trivial _ (by
      show Tups _ (L.fz ++ [t]) ((b.freezes ++ [e]).map tFz)
      rw [List.map_append]
      exact B1.fz.snoc upd_same)) (B1.keepT .frz trivial _ B1.gd) (B1.keepT .frz trivial _ B1.lg) (B1.keepT .frz trivial _ B1.pa) (fun i h => B1.keepT .frz trivial _ (B1.ch i h))
  rw [ec] at hw
  exact ⟨hw, (Fr.same s).trans (Fr.write (L := L) (b := b) (L' := { L with fz := L.fz ++ [t] }) (b' := { b with freezes := b.freezes ++ [e] }) .frz trivial rfl rfl rfl _)⟩
theorem map_erase {S T : Type} (f : S → T) : ∀ (l : List S) (k : Nat), (l.eraseIdx k).map f = (l.map f).eraseIdx k
  | [], _ => rfl
  | _ :: _, 0 => rfl
  | x :: r, k + 1 => congrArg (f x :: ·) (map_erase f r k)
theorem Bd.fzDel (B : Bd A L b H) (k : Nat) :
    Bd A { L with fz := L.fz.eraseIdx k } { b with freezes := b.freezes.eraseIdx k } (upd H (L.ad .frz) (.lst ((L.fz.map V.ref).eraseIdx k))) ∧
    Fr L b H { L with fz := L.fz.eraseIdx k } { b with freezes := b.freezes.eraseIdx k } (upd H (L.ad .frz) (.lst ((L.fz.map V.ref).eraseIdx k))) := by
  have ec : cont A { L with fz := L.fz.eraseIdx k } { b with freezes := b.freezes.eraseIdx k } .frz = .lst ((L.fz.map V.ref).eraseIdx k) := by
    show HO.lst ((L.fz.eraseIdx k).map V.ref) = _
    rw [map_erase]
  have hw := Bd.write (L' := { L with fz := L.fz.eraseIdx k }) (b' := { b with freezes := b.freezes.eraseIdx k }) B .frz trivial rfl rfl (fun r _ hr => by cases r <;> first | rfl | exact absurd rfl hr)
    (B.keepT .frz trivial _ (by
      show Tups _ (L.fz.eraseIdx k) ((b.freezes.eraseIdx k).map tFz)
      rw [map_erase]
      exact B.fz.pop k)) (B.keepT .frz trivial _ B.gd) (B.keepT .frz trivial _ B.lg) (B.keepT .frz trivial _ B.pa) (fun i h => B.keepT .frz trivial _ (B.ch i h))
  rw [ec] at hw
  exact ⟨hw, Fr.write (L := L) (b := b) (L' := { L with fz := L.fz.eraseIdx k }) (b' := { b with freezes := b.freezes.eraseIdx k }) .frz trivial rfl rfl rfl _⟩
theorem Bd.gdAdd (B : Bd A L b H) {t : Addr} (ht : H t = none) (e : Kex7.Guard) :
    Bd A { L with gd := L.gd ++ [t] } { b with guards := b.guards ++ [e] } (upd (upd H t (.tup (tGd e))) (L.ad .grd) (.lst (L.gd.map V.ref ++ [V.ref t]))) ∧
    Fr L b H { L with gd := L.gd ++ [t] } { b with guards := b.guards ++ [e] } (upd (upd H t (.tup (tGd e))) (L.ad .grd) (.lst (L.gd.map V.ref ++ [V.ref t]))) := by
  have s := same_upd (o := .tup (tGd e)) ht
  have B1 := B.mono s
  have ec : cont A { L with gd := L.gd ++ [t] } { b with guards := b.guards ++ [e] } .grd = .lst (L.gd.map V.ref ++ [V.ref t]) := by
    show HO.lst ((L.gd ++ [t]).map V.ref) = _
    rw [List.map_append]
    rfl
  have hw := Bd.write (L' := { L with gd := L.gd ++ [t] }) (b' := { b with guards := b.guards ++ [e] }) B1 .grd trivial rfl rfl (fun r _ hr => by cases r <;> first | rfl | exact absurd rfl hr)
    (B1.keepT .grd trivial _ B1.fz) (B1.keepT .grd trivial _ (by
      show Tups _ (L.gd ++ [t]) ((b.guards ++ [e]).map tGd)
      rw [List.map_append]
      exact B1.gd.snoc upd_same)) (B1.keepT .grd trivial _ B1.lg) (B1.keepT .grd trivial _ B1.pa) (fun i h => B1.keepT .grd trivial _ (B1.ch i h))
  rw [ec] at hw
  exact ⟨hw, (Fr.same s).trans (Fr.write (L := L) (b := b) (L' := { L with gd := L.gd ++ [t] }) (b' := { b with guards := b.guards ++ [e] }) .grd trivial rfl rfl rfl _)⟩
theorem Bd.gdDel (B : Bd A L b H) (k : Nat) :
    Bd A { L with gd := L.gd.eraseIdx k } { b with guards := b.guards.eraseIdx k } (upd H (L.ad .grd) (.lst ((L.gd.map V.ref).eraseIdx k))) ∧
    Fr L b H { L with gd := L.gd.eraseIdx k } { b with guards := b.guards.eraseIdx k } (upd H (L.ad .grd) (.lst ((L.gd.map V.ref).eraseIdx k))) := by
  have ec : cont A { L with gd := L.gd.eraseIdx k } { b with guards := b.guards.eraseIdx k } .grd = .lst ((L.gd.map V.ref).eraseIdx k) := by
    show HO.lst ((L.gd.eraseIdx k).map V.ref) = _
    rw [map_erase]
  have hw := Bd.write (L' := { L with gd := L.gd.eraseIdx k }) (b' := { b with guards := b.guards.eraseIdx k }) B .grd trivial rfl rfl (fun r _ hr => by cases r <;> first | rfl | exact absurd rfl hr)
    (B.keepT .grd trivial _ B.fz) (B.keepT .grd trivial _ (by
      show Tups _ (L.gd.eraseIdx k) ((b.guards.eraseIdx k).map tGd)
      rw [map_erase]
      exact B.gd.pop k)) (B.keepT .grd trivial _ B.lg) (B.keepT .grd trivial _ B.pa) (fun i h => B.keepT .grd trivial _ (B.ch i h))
  rw [ec] at hw
  exact ⟨hw, Fr.write (L := L) (b := b) (L' := { L with gd := L.gd.eraseIdx k }) (b' := { b with guards := b.guards.eraseIdx k }) .grd trivial rfl rfl rfl _⟩
theorem Bd.setApr (B : Bd A L b H) (hi : i < b.proposals.length) (l : List Nat) :
    Bd A L (Kex7.withProposal b i { pr b i with approvals := l }) (upd H (L.ad (.apr i)) (.lst (l.map vN))) ∧ Fr L b H L (Kex7.withProposal b i { pr b i with approvals := l }) (upd H (L.ad (.apr i)) (.lst (l.map vN))) := by
  obtain ⟨q, hq⟩ : ∃ q : Kex7.Proposal, q = { pr b i with approvals := l } := ⟨_, rfl⟩
  rw [← hq]
  have hl : (Kex7.withProposal b i q).proposals.length = b.proposals.length := List.length_set
  have ep := pr_set_same (q := q) hi
  have e0 : cont A L (Kex7.withProposal b i q) (.apr i) = .lst (l.map vN) := by
    show HO.lst ((pr _ i).approvals.map vN) = _
    rw [ep, hq]
  have hw := B.write0 (b' := Kex7.withProposal b i q) (.apr i) hi hl (fun s hs hne => by
    cases s with
    | prs =>
      show HO.lst ((List.range (Kex7.withProposal b i q).proposals.length).map _) = HO.lst ((List.range b.proposals.length).map _)
      rw [hl]
    | pin j =>
      show HO.ins _ _ (prF L j (pr _ j)) = HO.ins _ _ (prF L j (pr b j))
      by_cases hj : i = j
      · subst hj
        rw [ep, hq]
        rfl
      · rw [pr_set_ne hj]
    | apr j =>
      have hj : i ≠ j := fun e => hne (by rw [e])
      show HO.lst ((pr _ j).approvals.map vN) = HO.lst ((pr b j).approvals.map vN)
      rw [pr_set_ne hj]
    | bef j =>
      show HO.lst ((pr _ j).before.map vN) = HO.lst ((pr b j).before.map vN)
      by_cases hj : i = j
      · subst hj
        rw [ep, hq]
      · rw [pr_set_ne hj]
    | _ => rfl) rfl rfl rfl rfl (fun j hj => by
      by_cases c : i = j
      · subst c
        rw [ep, hq]
      · rw [pr_set_ne c])
  rw [e0] at hw
  exact ⟨hw, Fr.write (L := L) (b := b) (L' := L) (b' := Kex7.withProposal b i q) (.apr i) hi rfl rfl hl _⟩
end
/-! ### what an operation promises -/
/-- the answer is a new list, the board is what the step says -/
def Out (A : Ad) (L : Lay) (b : Board) (c : Nat) (H : Hp) (q : Kex7.Request) (Q : VK) : Prop := ∀ H' L' b' r res, Kex7.step (some b) q = (some b', res) → Wf (c + 1) b' → Bd A L' b' H' → Fr L b H L' b' H' → (∀ x o, H x = some o → ¬ Foot L b x → x ≠ r) →
  H' r = some (.lst ((Kex7Neutral.fields res).map V.int)) → Q (.ref r) H'
section
variable {A : Ad} {L L' : Lay} {b b' : Board} {c : Nat} {H H1 : Hp} {q : Kex7.Request} {Q : VK} {p : Addr} {res : Kex7.Result} {l : List V}
theorem Out.put (h : Out A L b c H q Q) (e : Kex7.step (some b) q = (some b', res)) (W : Wf (c + 1) b') (B : Bd A L' b' H1) (f : Fr L b H L' b' H1) (np : H1 p = none) (el : l = (Kex7Neutral.fields res).map V.int) : Q (.ref p) (upd H1 p (.lst l)) := by
  have s := same_upd (o := .lst l) np
  refine h _ _ _ p res e W (B.mono s) (f.trans (Fr.same s)) (fun x o hx hf z => ?_) (by rw [upd_same, el])
  have k := (f.keep x o hx hf).1
  rw [z, np] at k
  cases k
theorem Out.put0 (h : Out A L b c H q Q) (e : Kex7.step (some b) q = (some b, res)) (W : Wf c b) (hc : c + 1 ≤ 1000) (B : Bd A L b H) (s : Same H H1) (np : H1 p = none) (el : l = (Kex7Neutral.fields res).map V.int) : Q (.ref p) (upd H1 p (.lst l)) :=
  h.put e (W.up hc) (B.mono s) (Fr.same s) np el
end
end Gc
namespace Gc
open PySem PySem.Spec PyProof.Rows L2
open C8 (Cal Mak Met CalAt pe_c pe_mk pe_mt pe_mt0 pe_gc)
/-! the short tactics (each is a row of one's own, tried by its key) -/
local macro_rules | `(tactic| walk_at "fl") => `(tactic| assumption)
local macro_rules | `(tactic| walk_at "side") => `(tactic| first | assumption | exact Or.inr ⟨by decide, by decide⟩ | exact Or.inl ⟨by decide, by decide⟩ | decide | (refine ⟨by decide, by decide⟩) | omega)
local macro_rules | `(tactic| walk_at "val") => `(tactic| first
  | with_reducible exact val_c
  | ((with_reducible refine' val_var ?vv); (case vv => rfl))
  | ((with_reducible refine' val_fl ?vfa ?vfb); (case vfa => walk_at "val"); (case vfb => walk_at "fl"))
  | ((with_reducible refine' val_len ?vla ?vlb); (case vla => walk_at "val"); (case vlb => walk_at "sq"))
  | ((with_reducible refine' val_I0 ?v0a ?v0b); (case v0a => walk_at "val"); (case v0b => walk_at "val"))
  | ((with_reducible refine' val_I ?via ?vib ?vic); (case via => walk_at "val"); (case vib => walk_at "val"); (case vic => walk_at "side"))
  | ((with_reducible refine' val_neg ?vn); (case vn => walk_at "val"))
  | ((with_reducible refine' val_isN ?vs); (case vs => walk_at "val"))
  | ((with_reducible refine' val_ixL ?xa ?xb ?xc ?xd); (case xa => walk_at "val"); (case xb => walk_at "val"); (case xc => walk_at "sq"); (case xd => walk_at "at"))
  | ((with_reducible refine' val_ixT ?ya ?yb ?yc ?yd); (case ya => walk_at "val"); (case yb => walk_at "val"); (case yc => walk_at "sqt"); (case yd => walk_at "at"))
  | ((with_reducible refine' val_chain ?ca ?cb ?cc); (case ca => walk_at "val"); (case cb => walk_at "val"); (case cc => walk_at "val"))
  | ((with_reducible refine' val_max2 ?ma ?mb); (case ma => walk_at "val"); (case mb => walk_at "val")))
local macro_rules | `(tactic| walk_at "sq") => `(tactic| first | assumption | exact SqL.of (by assumption))
local macro_rules | `(tactic| walk_at "sqt") => `(tactic| first | assumption | exact SqT.of (by assumption))
local macro_rules | `(tactic| walk_at "at") => `(tactic| first | assumption | rfl)
local macro_rules | `(tactic| walk_at "ans") => `(tactic| first
  | ((with_reducible refine' ans_test ?at_); (case at_ => walk_at "val"))
  | ((with_reducible refine' ans_B ?ab_); (case ab_ => walk_at "val"))
  | ((with_reducible refine' ans_or2 ?ao ?ap); (case ao => walk_at "ans"); (case ap => (intro _; walk_at "ans")))
  | ((with_reducible refine' ans_and3 ?aq ?ar); (case aq => walk_at "ans"); (case ar => (intro _; walk_at "ans")))
  | ((with_reducible refine' ans_notM ?an); (case an => walk_at "ans")))
local macro_rules | `(tactic| walk_at "vala") => `(tactic| first
  | with_reducible exact vala_nil
  | ((with_reducible refine' vala_cons ?wa ?wb); (case wa => walk_at "val"); (case wb => walk_at "vala")))
local macro_rules | `(tactic| walk_at "n") => `(tactic| (repeat (first | (with_reducible refine x_gn ?_) | (with_reducible refine st_seq ?_) | (with_reducible refine st_next ?_) | dsimp only)))
local macro_rules | `(tactic| walk_at "fl") => `(tactic| first
  | assumption
  | ((with_reducible refine' fp_people ?fB ?fT); (case fB => assumption); (case fT => assumption))
  | ((with_reducible refine' fp_clock ?fB ?fT); (case fB => assumption); (case fT => assumption))
  | ((with_reducible refine' fp_settings ?fB ?fT); (case fB => assumption); (case fT => assumption))
  | ((with_reducible refine' fp_classes ?fB ?fT); (case fB => assumption); (case fT => assumption))
  | ((with_reducible refine' fp_needs ?fB ?fT); (case fB => assumption); (case fT => assumption))
  | ((with_reducible refine' fp_own_counts ?fB ?fT); (case fB => assumption); (case fT => assumption))
  | ((with_reducible refine' fp_freezes ?fB ?fT); (case fB => assumption); (case fT => assumption))
  | ((with_reducible refine' fp_proposals ?fB ?fT); (case fB => assumption); (case fT => assumption))
  | ((with_reducible refine' fp_guards ?fB ?fT); (case fB => assumption); (case fT => assumption))
  | ((with_reducible refine' fp_log ?fB ?fT); (case fB => assumption); (case fT => assumption))
  | ((with_reducible refine' fp_past ?fB ?fT); (case fB => assumption); (case fT => assumption))
  | ((with_reducible refine' fq_author ?fB ?fT ?fH); (case fB => assumption); (case fT => assumption); (case fH => assumption))
  | ((with_reducible refine' fq_time ?fB ?fT ?fH); (case fB => assumption); (case fT => assumption); (case fH => assumption))
  | ((with_reducible refine' fq_changes ?fB ?fT ?fH); (case fB => assumption); (case fT => assumption); (case fH => assumption))
  | ((with_reducible refine' fq_approvals ?fB ?fT ?fH); (case fB => assumption); (case fT => assumption); (case fH => assumption))
  | ((with_reducible refine' fq_status ?fB ?fT ?fH); (case fB => assumption); (case fT => assumption); (case fH => assumption))
  | ((with_reducible refine' fq_end ?fB ?fT ?fH); (case fB => assumption); (case fT => assumption); (case fH => assumption))
  | ((with_reducible refine' fq_before ?fB ?fT ?fH); (case fB => assumption); (case fT => assumption); (case fH => assumption)))
local macro_rules | `(tactic| walk_at "sq") => `(tactic| first | assumption | exact SqL.of (by assumption) | exact s_sets (by assumption) | exact s_cls (by assumption) | exact s_need (by assumption) | exact s_own (by assumption) | exact s_frz (by assumption) | exact s_prs (by assumption) | exact s_grd (by assumption) | exact s_log (by assumption) | exact s_past (by assumption) | exact s_chg (by assumption) (by assumption) | exact s_apr (by assumption) (by assumption) | exact s_bef (by assumption) (by assumption))
local macro_rules | `(tactic| walk_at "at") => `(tactic| first | assumption | exact atI_0 rfl | exact atI_1 rfl | exact atI_2 rfl)
abbrev s_set_rule : Stmt := topS 52
theorem sc_set_rule : FnScope ["platform", "given", "kind", "approvals", "own"] ["platform", "given"] (defScope s_set_rule) := ⟨rfl, rfl, rfl, by decide +kernel, rfl, by decide +kernel, by decide +kernel⟩
abbrev s_set_class : Stmt := topS 53
theorem sc_set_class : FnScope ["platform", "given", "key", "kind", "before"] ["platform", "given"] (defScope s_set_class) := ⟨rfl, rfl, rfl, by decide +kernel, rfl, by decide +kernel, by decide +kernel⟩
abbrev s_add_freeze : Stmt := topS 54
theorem sc_add_freeze : FnScope ["platform", "given", "weekday", "start", "stop"] ["platform", "given"] (defScope s_add_freeze) := ⟨rfl, rfl, rfl, by decide +kernel, rfl, by decide +kernel, by decide +kernel⟩
abbrev s_remove_freeze : Stmt := topS 55
theorem sc_remove_freeze : FnScope ["platform", "given", "index"] ["platform", "given"] (defScope s_remove_freeze) := ⟨rfl, rfl, rfl, by decide +kernel, rfl, by decide +kernel, by decide +kernel⟩
abbrev s_add_guard : Stmt := topS 62
theorem sc_add_guard : FnScope ["platform", "given", "key", "safe", "metric", "is_below", "limit"] ["platform", "given"] (defScope s_add_guard) := ⟨rfl, rfl, rfl, by decide +kernel, rfl, by decide +kernel, by decide +kernel⟩
abbrev s_remove_guard : Stmt := topS 63
theorem sc_remove_guard : FnScope ["platform", "given", "index"] ["platform", "given"] (defScope s_remove_guard) := ⟨rfl, rfl, rfl, by decide +kernel, rfl, by decide +kernel, by decide +kernel⟩
abbrev s_report : Stmt := topS 64
theorem sc_report : FnScope ["platform", "given", "metric", "value"] ["platform", "given"] (defScope s_report) := ⟨rfl, rfl, rfl, by decide +kernel, rfl, by decide +kernel, by decide +kernel⟩
section
variable {P : Program} {w : World} {K : PySem.W.Frag} {mg : Str → Option Value} {base : Heap} {A : Ad}
/-- an operation on one object: n numbers given -/
def spOp (A : Ad) (K : PySem.W.Frag) (n : Nat) (req : List Nat → Kex7.Request) : Sp := fun vs H Q _ => ∃ (L : Lay) (b : Board) (c : Nat) (g : Addr) (args : List Nat), vs = [.ref (L.ad .plat), .ref g] ∧ Bd A L b H ∧ Wf c b ∧ c + 1 ≤ 1000 ∧ args.length = n ∧ SqL K H g (args.map vN) ∧ Out A L b c H (req args) Q
theorem len1 {T : Type} {l : List T} (h : l.length = 1) : ∃ x, l = [x] := by
  match l, h with
  | [x], _ => exact ⟨x, rfl⟩
theorem len2 {T : Type} {l : List T} (h : l.length = 2) : ∃ x y, l = [x, y] := by
  match l, h with
  | [x, y], _ => exact ⟨x, y, rfl⟩
theorem len3 {T : Type} {l : List T} (h : l.length = 3) : ∃ x y z, l = [x, y, z] := by
  match l, h with
  | [x, y, z], _ => exact ⟨x, y, z, rfl⟩
theorem len5 {T : Type} {l : List T} (h : l.length = 5) : ∃ x y z u v, l = [x, y, z, u, v] := by
  match l, h with
  | [x, y, z, u, v], _ => exact ⟨x, y, z, u, v, rfl⟩
def rq1 (f : Nat → Kex7.Request) (l : List Nat) : Kex7.Request := f (l.getD 0 0)
def rq2 (f : Nat → Nat → Kex7.Request) (l : List Nat) : Kex7.Request := f (l.getD 0 0) (l.getD 1 0)
def rq3 (f : Nat → Nat → Nat → Kex7.Request) (l : List Nat) : Kex7.Request := f (l.getD 0 0) (l.getD 1 0) (l.getD 2 0)
def rq5 (f : Nat → Nat → Nat → Nat → Nat → Kex7.Request) (l : List Nat) : Kex7.Request := f (l.getD 0 0) (l.getD 1 0) (l.getD 2 0) (l.getD 3 0) (l.getD 4 0)
theorem b2n_of {z : Nat} (h : z ≤ 1) : b2n (z == 1) = z := by
  match z, h with
  | 0, _ => rfl
  | 1, _ => rfl
theorem step_if {b b' : Board} {p : Prop} [Decidable p] {q : Kex7.Request} {x y : Kex7.State × Kex7.Result} (e : Kex7.step (some b) q = if p then x else y) (h : p) : Kex7.step (some b) q = x := e.trans (if_pos h)
theorem step_el {b b' : Board} {p : Prop} [Decidable p] {q : Kex7.Request} {x y : Kex7.State × Kex7.Result} (e : Kex7.step (some b) q = if p then x else y) (h : ¬ p) : Kex7.step (some b) q = y := e.trans (if_neg h)
/-! ### set_rule -/
theorem rules2 {b : Board} {k n : Nat} {s : Bool} (hk : k < b.rules.length) : (b.rules.set k ⟨n, (b.rules.getD k ⟨0, true⟩).selfApproval⟩).set k ⟨((b.rules.set k ⟨n, (b.rules.getD k ⟨0, true⟩).selfApproval⟩).getD k ⟨0, true⟩).approvals, s⟩ = b.rules.set k ⟨n, s⟩ := by
  rw [List.set_set]
  congr 2
  rw [List.getD_eq_getElem?_getD, List.getElem?_set_self hk]
  rfl
theorem ok_rule (F : At K mg "set_rule" s_set_rule ["platform", "given"]) (T : Txt P w K mg A) (m_settle : Met P w K mg base 3 A.CP "settle" (spStl A) []) : Cal P w K mg base 4 "set_rule" (spOp A K 3 (rq3 .setRule)) [] := by
  refine F.cal sc_set_rule (fun vs H Q E h => ?_) (fun f cdv Ar outer s H vs Q E hr h => ?_)
  · obtain ⟨L, b, c, g, args, rfl, _⟩ := h
    rfl
  · obtain ⟨L, b, c, g, args, rfl, B, W, hc, hn, hS, q⟩ := h
    obtain ⟨x, y, z, rfl⟩ := len3 hn
    refine ⟨_, (pss_cons (ps_asg (pv 1) (pg_unl rfl (pgs_cons (pg_name (i := 2) sc_set_rule.nd rfl (Or.inl rfl)) (pgs_cons (pg_name (i := 3) sc_set_rule.nd rfl (Or.inl rfl)) (pgs_cons (pg_name (i := 4) sc_set_rule.nd rfl (Or.inl rfl)) pgs_nil)))))
      (pss_cons (ps_if (PW.pt (pw_or (pt_cmpR op_ge (pv 2) (pe_gc (by rfl) T.g_CLASSES) (nomark _)) (pw_or (pt_cmpR op_gt (pv 3) pe_int (nomark _)) (pw_or1 (pt_cmpR op_gt (pv 4) pe_int (nomark _)))))) (pss_one (ps_ret (pe_lst (pa_cons (pe_un un_neg pe_int) pa_nil)))) pss_nil)
      (pss_cons (ps_asg (pv 3) (pg_sub (pe_fld (pv 0) rfl) (pv 2) set_list (fun _ => rfl)))
      (pss_cons (ps_asg (pv 4) (pg_sub (pe_fld (pv 0) rfl) (pv 2) set_list (fun _ => rfl)))
      (pss_cons (ps_expr (pe_mt0 m_settle hr (by first | decide | omega) (pv 0)))
      (pss_one (ps_ret (pe_lst (pa_cons pe_int pa_nil))))))))), ?_⟩
    walk_at "n"
    refine x_asg (x_val (val_var rfl) (x_ul3 hS ?_))
    walk_at "n"
    have no : (4 ≤ x ∨ 3 < y ∨ 1 < z) → ∀ p, H p = none → Q (.ref p) (upd H p (.lst [.int (-22)])) := fun h p np => q.put0 (if_pos h) W hc B (Same.refl H) np rfl
    refine x_ifOr (by walk_at "ans") (fun h1 => x_ret (x_lstV (by walk_at "vala") fun p np => no ?_ p np)) (fun h1 => ?_)
    · have := of_decide_eq_true h1
      omega
    refine x_ifOr (by walk_at "ans") (fun h2 => x_ret (x_lstV (by walk_at "vala") fun p np => no ?_ p np)) (fun h2 => ?_)
    · have := of_decide_eq_true h2
      omega
    refine x_ifP (by walk_at "ans") (fun h3 => x_ret (x_lstV (by walk_at "vala") fun p np => no ?_ p np)) (fun h3 => ?_)
    · omega
    have h1 := of_decide_eq_false h1
    have h2 := of_decide_eq_false h2
    have hx : x < b.rules.length := by rw [W.rules]; omega
    walk_at "n"
    refine x_sub (by walk_at "val") (by walk_at "val") (by walk_at "val") (B.at_ .need trivial) (by rw [List.length_map]; exact hx) ?_
    obtain ⟨B1, f1⟩ := B.setNeed hx y
    generalize upd H (L.ad .need) _ = H1 at B1 f1
    walk_at "n"
    refine x_sub (by walk_at "val") (by walk_at "val") (by walk_at "val") (B1.at_ .own trivial) (by rw [List.length_map]; show x < (b.rules.set x _).length; rw [List.length_set]; exact hx) ?_
    obtain ⟨B2, f2⟩ := B1.setOwn (k := x) (by show x < (b.rules.set x _).length; rw [List.length_set]; exact hx) (z == 1)
    rw [b2n_of (by omega)] at B2 f2
    have e2 := rules2 (n := y) (s := z == 1) hx
    dsimp only at B2 f2
    rw [e2] at B2 f2
    generalize upd H1 (L.ad .own) _ = H2 at B2 f2
    walk_at "n"
    refine x_drop (x_meth (by walk_at "val") (B2.at_ .plat trivial) (lpn_settle L _) (by walk_at "vala") ?_)
    refine ⟨L, _, c, rfl, B2, W.rul x ⟨y, z == 1⟩, fun H3 L3 B3 f3 => ?_⟩
    walk_at "n"
    refine x_ret (x_lstV (xs := [.int 0]) (by walk_at "vala") fun p np => q.put (if_neg ?_) ((W.rul x ⟨y, z == 1⟩).settle.up hc) B3 ((f1.trans f2).trans f3) np rfl)
    show ¬ (4 ≤ x ∨ 3 < y ∨ 1 < z)
    omega
/-! ### set_class -/
theorem ok_clas (F : At K mg "set_class" s_set_class ["platform", "given"]) (T : Txt P w K mg A) (m_settle : Met P w K mg base 3 A.CP "settle" (spStl A) []) : Cal P w K mg base 4 "set_class" (spOp A K 2 (rq2 .setClass)) [] := by
  refine F.cal sc_set_class (fun vs H Q E h => ?_) (fun f cdv Ar outer s H vs Q E hr h => ?_)
  · obtain ⟨L, b, c, g, args, rfl, _⟩ := h
    rfl
  · obtain ⟨L, b, c, g, args, rfl, B, W, hc, hn, hS, q⟩ := h
    obtain ⟨x, y, rfl⟩ := len2 hn
    refine ⟨_, (pss_cons (ps_asg (pv 1) (pg_unl rfl (pgs_cons (pg_name (i := 2) sc_set_class.nd rfl (Or.inl rfl)) (pgs_cons (pg_name (i := 3) sc_set_class.nd rfl (Or.inl rfl)) pgs_nil))))
      (pss_cons (ps_if (pt_cmpR op_ge (pv 2) (pe_gc (by rfl) T.g_SETTINGS) (nomark _)) (pss_one (ps_ret (pe_lst (pa_cons (pe_un un_neg pe_int) pa_nil)))) pss_nil)
      (pss_cons (ps_if (pt_cmpR op_ge (pv 3) (pe_gc (by rfl) T.g_CLASSES) (nomark _)) (pss_one (ps_ret (pe_lst (pa_cons (pe_un un_neg pe_int) pa_nil)))) pss_nil)
      (pss_cons (ps_set (i := 4) sc_set_class.nd rfl (Or.inl rfl) (pe_ix ix_list (pe_fld (pv 0) rfl) (pv 2) (fun _ _ => rfl)))
      (pss_cons (ps_asg (pv 3) (pg_sub (pe_fld (pv 0) rfl) (pv 2) set_list (fun _ => rfl)))
      (pss_cons (ps_expr (pe_mt0 m_settle hr (by first | decide | omega) (pv 0)))
      (pss_one (ps_ret (pe_lst (pa_cons (pv 4) pa_nil)))))))))), ?_⟩
    walk_at "n"
    refine x_asg (x_val (val_var rfl) (x_ul2 hS ?_))
    walk_at "n"
    have e0 : Kex7.step (some b) (.setClass x y) = if 16 ≤ x then (some b, .value (-2)) else if 4 ≤ y then (some b, .value (-22)) else (some (Kex7.settle { b with classes := b.classes.set x y }), .value (b.classes.getD x 0)) := rfl
    refine x_ifP (by walk_at "ans") (fun h1 => x_ret (x_lstV (xs := [.int (-2)]) (by walk_at "vala") fun p np => q.put0 (e0.trans (if_pos ?_)) W hc B (Same.refl H) np rfl)) (fun h1 => ?_)
    · omega
    have h1 : ¬ 16 ≤ x := by omega
    rw [if_neg h1] at e0
    walk_at "n"
    refine x_ifP (by walk_at "ans") (fun h2 => x_ret (x_lstV (xs := [.int (-22)]) (by walk_at "vala") fun p np => q.put0 (e0.trans (if_pos ?_)) W hc B (Same.refl H) np rfl)) (fun h2 => ?_)
    · omega
    have h2 : ¬ 4 ≤ y := by omega
    rw [if_neg h2] at e0
    have hx : x < b.classes.length := by rw [W.cls]; omega
    have a1 := at_vN hx
    walk_at "n"
    refine x_setV (val_ixL (by walk_at "val") (by walk_at "val") (s_cls B) a1) ?_
    walk_at "n"
    refine x_sub (by walk_at "val") (by walk_at "val") (by walk_at "val") (B.at_ .cls trivial) (by rw [List.length_map]; exact hx) ?_
    obtain ⟨B1, f1⟩ := B.setCls x y
    have W1 := W.clas x (v := y) (by omega)
    generalize upd H (L.ad .cls) _ = H1 at B1 f1
    walk_at "n"
    refine x_drop (x_meth (by walk_at "val") (B1.at_ .plat trivial) (lpn_settle L _) (by walk_at "vala") ?_)
    refine ⟨L, _, c, rfl, B1, W1, fun H3 L3 B3 f3 => ?_⟩
    walk_at "n"
    exact x_ret (x_lstV (xs := [vN (b.classes.getD x 0)]) (by walk_at "vala") fun p np => q.put e0 (W1.settle.up hc) B3 (f1.trans f3) np rfl)
/-! ### add_freeze, remove_freeze -/
theorem frz_len {L : Lay} {b : Board} {H : Hp} (B : Bd A L b H) : (L.fz.map V.ref).length = b.freezes.length := by rw [List.length_map, B.fz.len, List.length_map]
theorem grd_len {L : Lay} {b : Board} {H : Hp} (B : Bd A L b H) : (L.gd.map V.ref).length = b.guards.length := by rw [List.length_map, B.gd.len, List.length_map]
theorem v_frzs {L : Lay} {b : Board} {H : Hp} {σ : L2.St} {te : TE} (B : Bd A L b H) (T : Txt P w K mg A) (h : Val te σ H (.ref (L.ad .plat))) : Val (tCB (rLenM K) (tCons (tFld K te "freezes") tNil)) σ H (vN b.freezes.length) := by
  rw [← frz_len B]
  exact val_len (val_fl h (fp_freezes B T)) (s_frz B)
theorem v_grds {L : Lay} {b : Board} {H : Hp} {σ : L2.St} {te : TE} (B : Bd A L b H) (T : Txt P w K mg A) (h : Val te σ H (.ref (L.ad .plat))) : Val (tCB (rLenM K) (tCons (tFld K te "guards") tNil)) σ H (vN b.guards.length) := by
  rw [← grd_len B]
  exact val_len (val_fl h (fp_guards B T)) (s_grd B)
theorem v_prps {L : Lay} {b : Board} {H : Hp} {σ : L2.St} {te : TE} (B : Bd A L b H) (T : Txt P w K mg A) (h : Val te σ H (.ref (L.ad .plat))) : Val (tCB (rLenM K) (tCons (tFld K te "proposals") tNil)) σ H (vN b.proposals.length) := by
  rw [← prs_len (L := L)]
  exact val_len (val_fl h (fp_proposals B T)) (s_prs B)
theorem ok_fzAdd (F : At K mg "add_freeze" s_add_freeze ["platform", "given"]) (T : Txt P w K mg A) : Cal P w K mg base 1 "add_freeze" (spOp A K 3 (rq3 .addFreeze)) [] := by
  refine F.cal sc_add_freeze (fun vs H Q E h => ?_) (fun f cdv Ar outer s H vs Q E hr h => ?_)
  · obtain ⟨L, b, c, g, args, rfl, _⟩ := h
    rfl
  · obtain ⟨L, b, c, g, args, rfl, B, W, hc, hn, hS, q⟩ := h
    obtain ⟨x, y, z, rfl⟩ := len3 hn
    refine ⟨_, (pss_cons (ps_asg (pv 1) (pg_unl rfl (pgs_cons (pg_name (i := 2) sc_add_freeze.nd rfl (Or.inl rfl)) (pgs_cons (pg_name (i := 3) sc_add_freeze.nd rfl (Or.inl rfl)) (pgs_cons (pg_name (i := 4) sc_add_freeze.nd rfl (Or.inl rfl)) pgs_nil)))))
      (pss_cons (ps_if (PW.pt (pw_or (pt_cmpR op_gt (pv 2) pe_int (nomark _)) (pw_or1 (pt_not (pt_chain op_lt op_le (pv 3) (pv 4) pe_int))))) (pss_one (ps_ret (pe_lst (pa_cons (pe_un un_neg pe_int) pa_nil)))) pss_nil)
      (pss_cons (ps_if (pt_cmpR op_eqI (pe_callB call_lenM (by rfl) T.len (by decide +kernel) (pa_cons (pe_fld (pv 0) rfl) pa_nil)) (pe_gc (by rfl) T.g_MOST_ROWS) (nomark _)) (pss_one (ps_ret (pe_lst (pa_cons (pe_un un_neg pe_int) pa_nil)))) pss_nil)
      (pss_cons (ps_expr (pe_bm PySem.F.plainAttrs_list PySem.F.slot_list_append PySem.F.type_list_append mt_append (pe_fld (pv 0) rfl) (pa_cons (pe_tup (pa_cons (pv 2) (pa_cons (pv 3) (pa_cons (pv 4) pa_nil)))) pa_nil)))
      (pss_one (ps_ret (pe_lst (pa_cons (pe_op op_sub (pe_callB call_lenM (by rfl) T.len (by decide +kernel) (pa_cons (pe_fld (pv 0) rfl) pa_nil)) pe_int) pa_nil)))))))), ?_⟩
    walk_at "n"
    refine x_asg (x_val (val_var rfl) (x_ul3 hS ?_))
    walk_at "n"
    have e0 : Kex7.step (some b) (.addFreeze x y z) = if 6 < x ∨ 24 < z ∨ z ≤ y then (some b, .value (-22)) else if 8 ≤ b.freezes.length then (some b, .value (-28)) else (some { b with freezes := b.freezes ++ [⟨x, y, z⟩] }, .value b.freezes.length) := rfl
    have no : (6 < x ∨ 24 < z ∨ z ≤ y) → ∀ p, H p = none → Q (.ref p) (upd H p (.lst [.int (-22)])) := fun h p np => q.put0 (e0.trans (if_pos h)) W hc B (Same.refl H) np rfl
    refine x_ifOr (by walk_at "ans") (fun h1 => x_ret (x_lstV (by walk_at "vala") fun p np => no ?_ p np)) (fun h1 => ?_)
    · have := of_decide_eq_true h1
      omega
    refine x_if (by walk_at "ans") (fun h2 => x_ret (x_lstV (by walk_at "vala") fun p np => no ?_ p np)) (fun h2 => ?_)
    · simp only [Bool.not_eq_true', Bool.and_eq_false_iff, decide_eq_false_iff_not] at h2
      omega
    have h1 := of_decide_eq_false h1
    simp only [Bool.not_eq_false', Bool.and_eq_true, decide_eq_true_iff] at h2
    rw [if_neg (by omega)] at e0
    have hf := W.frz
    walk_at "n"
    refine x_ifP (ans_test (val_I0 (v_frzs B T (val_var rfl)) val_c)) (fun h3 => x_ret (x_lstV (xs := [.int (-28)]) (by walk_at "vala") fun p np => q.put0 (e0.trans (if_pos ?_)) W hc B (Same.refl H) np rfl)) (fun h3 => ?_)
    · omega
    rw [if_neg (by omega)] at e0
    walk_at "n"
    refine x_drop (x_app (val_fl (val_var rfl) (fp_freezes B T)) (B.at_ .frz trivial) (x_tupV (by walk_at "vala") fun t nt => ?_))
    refine x_rapp (same_upd nt _ _ (B.at_ .frz trivial)) (by rw [frz_len B]; omega) ?_
    obtain ⟨B1, f1⟩ := B.fzAdd nt ⟨x, y, z⟩
    have W1 := W.fzAdd ⟨x, y, z⟩ (by omega)
    rw [show tFz (⟨x, y, z⟩ : Kex7.Freeze) = [vN x, vN y, vN z] from rfl] at B1 f1
    generalize upd (upd H t (.tup [vN x, vN y, vN z])) (L.ad .frz) (.lst (L.fz.map V.ref ++ [V.ref t])) = H1 at B1 f1
    walk_at "n"
    refine x_ret (x_lstV (vala_cons (val_I0 (v_frzs B1 T (val_var rfl)) val_c) vala_nil) fun p np => q.put e0 (W1.up hc) B1 f1 np ?_)
    show [V.int (((b.freezes ++ [(⟨x, y, z⟩ : Kex7.Freeze)]).length : Int) - 1)] = [V.int (b.freezes.length : Int)]
    rw [List.length_append]
    congr 2
    show ((b.freezes.length + 1 : Nat) : Int) - 1 = _
    omega
/-- a list of one thing that is worked out -/
theorem x_lst1 {σ : L2.St} {H : Hp} {te : TE} {Q : VK} (h : te σ H fun v H1 => [v].length ≤ sizeLine ∧ ∀ p, H1 p = none → Q (.ref p) (upd H1 p (.lst [v]))) : tLst (tCons te tNil) σ H Q := h
theorem seqIx {k n : Nat} (h : k < n) : seqIndex? (k : Int) n = some k := by
  unfold seqIndex?
  dsimp only
  rw [if_neg (show ¬ (k : Int) < 0 by omega), if_pos (by rw [Bool.and_eq_true]; exact ⟨decide_eq_true (by omega), decide_eq_true (by omega)⟩)]
  rfl
theorem popAt {l : Addr} {xs : List V} {H : Hp} {Q : VK} {k : Nat} (h : H l = some (.lst xs)) (hk : k < xs.length) (hl : xs.length ≤ 1000000) (q : Q xs[k] (upd H l (.lst (xs.eraseIdx k)))) : rPopAt (.ref l) [vN k] H Q :=
  ⟨l, xs, k, k, xs[k], rfl, rfl, h, by omega, by omega, seqIx hk, List.getElem?_eq_getElem hk, q⟩
theorem x_pop {σ : L2.St} {H : Hp} {l : Addr} {xs : List V} {to ta : TE} {k : Nat} {Q : VK} (ho : Val to σ H (.ref l)) (ha : Val ta σ H (vN k)) (h : H l = some (.lst xs)) (hk : k < xs.length) (hl : xs.length ≤ 1000000) (q : ∀ y, Q y (upd H l (.lst (xs.eraseIdx k)))) : tBM K "list" rPopAt to (tCons ta tNil) σ H Q :=
  ho _ ⟨.inl ⟨rfl, _, SqL.of h⟩, ha _ (popAt h hk hl (q _))⟩
theorem at_0 {x : Nat} {l : List Nat} : atI ((x :: l).map vN) 0 = some (vN x) := atI_0 rfl
theorem at_1 {x y : Nat} {l : List Nat} : atI ((x :: y :: l).map vN) 1 = some (vN y) := atI_1 rfl
theorem ok_fzDel (F : At K mg "remove_freeze" s_remove_freeze ["platform", "given"]) (T : Txt P w K mg A) (m_settle : Met P w K mg base 3 A.CP "settle" (spStl A) []) : Cal P w K mg base 4 "remove_freeze" (spOp A K 1 (rq1 .removeFreeze)) [] := by
  refine F.cal sc_remove_freeze (fun vs H Q E h => ?_) (fun f cdv Ar outer s H vs Q E hr h => ?_)
  · obtain ⟨L, b, c, g, args, rfl, _⟩ := h
    rfl
  · obtain ⟨L, b, c, g, args, rfl, B, W, hc, hn, hS, q⟩ := h
    obtain ⟨x, rfl⟩ := len1 hn
    refine ⟨_, (pss_cons (ps_set (i := 2) sc_remove_freeze.nd rfl (Or.inl rfl) (pe_ix ix_list (pv 1) pe_int (fun _ _ => rfl)))
      (pss_cons (ps_if (pt_cmpR op_ge (pv 2) (pe_callB call_lenM (by rfl) T.len (by decide +kernel) (pa_cons (pe_fld (pv 0) rfl) pa_nil)) (nomark _)) (pss_one (ps_ret (pe_lst (pa_cons (pe_un un_neg pe_int) pa_nil)))) pss_nil)
      (pss_cons (ps_expr (pe_bm PySem.F.plainAttrs_list PySem.F.slot_list_pop PySem.F.type_list_pop mt_popAt (pe_fld (pv 0) rfl) (pa_cons (pv 2) pa_nil)))
      (pss_cons (ps_expr (pe_mt0 m_settle hr (by first | decide | omega) (pv 0)))
      (pss_one (ps_ret (pe_lst (pa_cons (pe_callB call_lenM (by rfl) T.len (by decide +kernel) (pa_cons (pe_fld (pv 0) rfl) pa_nil)) pa_nil)))))))), ?_⟩
    walk_at "n"
    refine x_setV (val_ixL (val_var rfl) val_c hS at_0) ?_
    walk_at "n"
    have e0 : Kex7.step (some b) (.removeFreeze x) = if b.freezes.length ≤ x then (some b, .value (-2)) else (some (Kex7.settle { b with freezes := b.freezes.eraseIdx x }), .value (b.freezes.length - 1 : Nat)) := rfl
    refine x_ifP (ans_test (val_I0 (val_var rfl) (v_frzs B T (val_var rfl)))) (fun h1 => x_ret (x_lstV (xs := [.int (-2)]) (by walk_at "vala") fun p np => q.put0 (e0.trans (if_pos ?_)) W hc B (Same.refl H) np rfl)) (fun h1 => ?_)
    · omega
    have hx : x < b.freezes.length := by omega
    rw [if_neg (by omega)] at e0
    have hf := W.frz
    walk_at "n"
    refine x_drop (x_pop (k := x) (val_fl (val_var rfl) (fp_freezes B T)) (val_var rfl) (B.at_ .frz trivial) (by rw [frz_len B]; exact hx) (by rw [frz_len B]; omega) fun y => ?_)
    obtain ⟨B1, f1⟩ := B.fzDel x
    have W1 := W.fzDel x
    have el := frz_len B1
    generalize upd H (L.ad .frz) _ = H1 at B1 f1
    walk_at "n"
    refine x_drop (x_meth (a := L.ad .plat) (by walk_at "val") (B1.at_ .plat trivial) (lpn_settle _ _) (by walk_at "vala") ?_)
    refine ⟨{ L with fz := L.fz.eraseIdx x }, _, c, rfl, B1, W1, fun H3 L3 B3 f3 => ?_⟩
    have epl : L3.ad .plat = L.ad .plat := f3.st .plat trivial (by intro j e; cases e)
    walk_at "n"
    refine x_ret (x_lstV (vala_cons (v_frzs B3 T (val_var (by rw [epl]; rfl))) vala_nil) fun p np => q.put e0 (W1.settle.up hc) B3 (f1.trans f3) np ?_)
    have ek : (Kex7.settle { b with freezes := b.freezes.eraseIdx x }).freezes = b.freezes.eraseIdx x := (kept_settle _).freezes
    rw [ek, List.length_eraseIdx_of_lt hx]
    rfl
/-! ### add_guard, remove_guard, report -/
theorem ok_gdAdd (F : At K mg "add_guard" s_add_guard ["platform", "given"]) (T : Txt P w K mg A) : Cal P w K mg base 1 "add_guard" (spOp A K 5 (rq5 .addGuard)) [] := by
  refine F.cal sc_add_guard (fun vs H Q E h => ?_) (fun f cdv Ar outer s H vs Q E hr h => ?_)
  · obtain ⟨L, b, c, g, args, rfl, _⟩ := h
    rfl
  · obtain ⟨L, b, c, g, args, rfl, B, W, hc, hn, hS, q⟩ := h
    obtain ⟨x, y, z, u, v, rfl⟩ := len5 hn
    refine ⟨_, (pss_cons (ps_asg (pv 1) (pg_unl rfl (pgs_cons (pg_name (i := 2) sc_add_guard.nd rfl (Or.inl rfl)) (pgs_cons (pg_name (i := 3) sc_add_guard.nd rfl (Or.inl rfl)) (pgs_cons (pg_name (i := 4) sc_add_guard.nd rfl (Or.inl rfl)) (pgs_cons (pg_name (i := 5) sc_add_guard.nd rfl (Or.inl rfl)) (pgs_cons (pg_name (i := 6) sc_add_guard.nd rfl (Or.inl rfl)) pgs_nil)))))))
      (pss_cons (ps_if (pt_cmpR op_ge (pv 2) (pe_gc (by rfl) T.g_SETTINGS) (nomark _)) (pss_one (ps_ret (pe_lst (pa_cons (pe_un un_neg pe_int) pa_nil)))) pss_nil)
      (pss_cons (ps_if (PW.pt (pw_or (pt_cmpR op_gt (pv 3) (pe_gc (by rfl) T.g_MOST_VALUE) (nomark _)) (pw_or (pt_cmpR op_ge (pv 4) (pe_gc (by rfl) T.g_METRICS) (nomark _)) (pw_or1 (pt_cmpR op_gt (pv 5) pe_int (nomark _)))))) (pss_one (ps_ret (pe_lst (pa_cons (pe_un un_neg pe_int) pa_nil)))) pss_nil)
      (pss_cons (ps_if (pt_cmpR op_eqI (pe_callB call_lenM (by rfl) T.len (by decide +kernel) (pa_cons (pe_fld (pv 0) rfl) pa_nil)) (pe_gc (by rfl) T.g_MOST_ROWS) (nomark _)) (pss_one (ps_ret (pe_lst (pa_cons (pe_un un_neg pe_int) pa_nil)))) pss_nil)
      (pss_cons (ps_expr (pe_bm PySem.F.plainAttrs_list PySem.F.slot_list_append PySem.F.type_list_append mt_append (pe_fld (pv 0) rfl) (pa_cons (pe_tup (pa_cons (pv 2) (pa_cons (pv 3) (pa_cons (pv 4) (pa_cons (pv 5) (pa_cons (pv 6) pa_nil)))))) pa_nil)))
      (pss_one (ps_ret (pe_lst (pa_cons (pe_op op_sub (pe_callB call_lenM (by rfl) T.len (by decide +kernel) (pa_cons (pe_fld (pv 0) rfl) pa_nil)) pe_int) pa_nil))))))))), ?_⟩
    walk_at "n"
    refine x_asg (x_val (val_var rfl) (x_ul5 hS ?_))
    walk_at "n"
    have e0 : Kex7.step (some b) (.addGuard x y z u v) = if 16 ≤ x then (some b, .value (-2)) else if 1000 < y ∨ 7 < z ∨ 1 < u then (some b, .value (-22)) else if 8 ≤ b.guards.length then (some b, .value (-28)) else (some { b with guards := b.guards ++ [⟨x, y, z, u == 1, v⟩] }, .value b.guards.length) := rfl
    refine x_ifP (by walk_at "ans") (fun h1 => x_ret (x_lstV (xs := [.int (-2)]) (by walk_at "vala") fun p np => q.put0 (e0.trans (if_pos ?_)) W hc B (Same.refl H) np rfl)) (fun h1 => ?_)
    · omega
    rw [if_neg (by omega)] at e0
    walk_at "n"
    have no : (1000 < y ∨ 7 < z ∨ 1 < u) → ∀ p, H p = none → Q (.ref p) (upd H p (.lst [.int (-22)])) := fun h p np => q.put0 (e0.trans (if_pos h)) W hc B (Same.refl H) np rfl
    refine x_ifOr (by walk_at "ans") (fun h2 => x_ret (x_lstV (by walk_at "vala") fun p np => no ?_ p np)) (fun h2 => ?_)
    · have := of_decide_eq_true h2
      omega
    refine x_ifOr (by walk_at "ans") (fun h3 => x_ret (x_lstV (by walk_at "vala") fun p np => no ?_ p np)) (fun h3 => ?_)
    · have := of_decide_eq_true h3
      omega
    refine x_ifP (by walk_at "ans") (fun h4 => x_ret (x_lstV (by walk_at "vala") fun p np => no ?_ p np)) (fun h4 => ?_)
    · omega
    have h2 := of_decide_eq_false h2
    have h3 := of_decide_eq_false h3
    rw [if_neg (by omega)] at e0
    have hf := W.grd
    walk_at "n"
    refine x_ifP (ans_test (val_I0 (v_grds B T (val_var rfl)) val_c)) (fun h5 => x_ret (x_lstV (xs := [.int (-28)]) (by walk_at "vala") fun p np => q.put0 (e0.trans (if_pos ?_)) W hc B (Same.refl H) np rfl)) (fun h5 => ?_)
    · omega
    rw [if_neg (by omega)] at e0
    walk_at "n"
    refine x_drop (x_app (val_fl (val_var rfl) (fp_guards B T)) (B.at_ .grd trivial) (x_tupV (by walk_at "vala") fun t nt => ?_))
    refine x_rapp (same_upd nt _ _ (B.at_ .grd trivial)) (by rw [grd_len B]; omega) ?_
    obtain ⟨B1, f1⟩ := B.gdAdd nt ⟨x, y, z, u == 1, v⟩
    have W1 := W.gdAdd ⟨x, y, z, u == 1, v⟩ (by omega) (by show x < 16; omega)
    have et : tGd (⟨x, y, z, u == 1, v⟩ : Kex7.Guard) = [vN x, vN y, vN z, vN u, vN v] := by
      show [vN x, vN y, vN z, vN (b2n (u == 1)), vN v] = _
      rw [b2n_of (by omega)]
    rw [et] at B1 f1
    generalize upd (upd H t (.tup [vN x, vN y, vN z, vN u, vN v])) (L.ad .grd) (.lst (L.gd.map V.ref ++ [V.ref t])) = H1 at B1 f1
    walk_at "n"
    refine x_ret (x_lstV (vala_cons (val_I0 (v_grds B1 T (val_var rfl)) val_c) vala_nil) fun p np => q.put e0 (W1.up hc) B1 f1 np ?_)
    show [V.int (((b.guards ++ [(⟨x, y, z, u == 1, v⟩ : Kex7.Guard)]).length : Int) - 1)] = [V.int (b.guards.length : Int)]
    rw [List.length_append]
    congr 2
    show ((b.guards.length + 1 : Nat) : Int) - 1 = _
    omega
theorem ok_gdDel (F : At K mg "remove_guard" s_remove_guard ["platform", "given"]) (T : Txt P w K mg A) : Cal P w K mg base 1 "remove_guard" (spOp A K 1 (rq1 .removeGuard)) [] := by
  refine F.cal sc_remove_guard (fun vs H Q E h => ?_) (fun f cdv Ar outer s H vs Q E hr h => ?_)
  · obtain ⟨L, b, c, g, args, rfl, _⟩ := h
    rfl
  · obtain ⟨L, b, c, g, args, rfl, B, W, hc, hn, hS, q⟩ := h
    obtain ⟨x, rfl⟩ := len1 hn
    refine ⟨_, (pss_cons (ps_set (i := 2) sc_remove_guard.nd rfl (Or.inl rfl) (pe_ix ix_list (pv 1) pe_int (fun _ _ => rfl)))
      (pss_cons (ps_if (pt_cmpR op_ge (pv 2) (pe_callB call_lenM (by rfl) T.len (by decide +kernel) (pa_cons (pe_fld (pv 0) rfl) pa_nil)) (nomark _)) (pss_one (ps_ret (pe_lst (pa_cons (pe_un un_neg pe_int) pa_nil)))) pss_nil)
      (pss_cons (ps_expr (pe_bm PySem.F.plainAttrs_list PySem.F.slot_list_pop PySem.F.type_list_pop mt_popAt (pe_fld (pv 0) rfl) (pa_cons (pv 2) pa_nil)))
      (pss_one (ps_ret (pe_lst (pa_cons (pe_callB call_lenM (by rfl) T.len (by decide +kernel) (pa_cons (pe_fld (pv 0) rfl) pa_nil)) pa_nil))))))), ?_⟩
    walk_at "n"
    refine x_setV (val_ixL (val_var rfl) val_c hS at_0) ?_
    walk_at "n"
    have e0 : Kex7.step (some b) (.removeGuard x) = if b.guards.length ≤ x then (some b, .value (-2)) else (some { b with guards := b.guards.eraseIdx x }, .value (b.guards.length - 1 : Nat)) := rfl
    refine x_ifP (ans_test (val_I0 (val_var rfl) (v_grds B T (val_var rfl)))) (fun h1 => x_ret (x_lstV (xs := [.int (-2)]) (by walk_at "vala") fun p np => q.put0 (e0.trans (if_pos ?_)) W hc B (Same.refl H) np rfl)) (fun h1 => ?_)
    · omega
    have hx : x < b.guards.length := by omega
    rw [if_neg (by omega)] at e0
    have hf := W.grd
    walk_at "n"
    refine x_drop (x_pop (k := x) (val_fl (val_var rfl) (fp_guards B T)) (val_var rfl) (B.at_ .grd trivial) (by rw [grd_len B]; exact hx) (by rw [grd_len B]; omega) fun y => ?_)
    obtain ⟨B1, f1⟩ := B.gdDel x
    have W1 := W.gdDel x
    generalize upd H (L.ad .grd) _ = H1 at B1 f1
    walk_at "n"
    refine x_ret (x_lstV (vala_cons (v_grds B1 T (val_var rfl)) vala_nil) fun p np => q.put e0 (W1.up hc) B1 f1 np ?_)
    show [vN (b.guards.eraseIdx x).length] = [vN (b.guards.length - 1)]
    rw [List.length_eraseIdx_of_lt hx]
theorem ok_repo (F : At K mg "report" s_report ["platform", "given"]) (T : Txt P w K mg A) (m_report : Met P w K mg base 2 A.CP "report" (spRep A) []) : Cal P w K mg base 3 "report" (spOp A K 2 (rq2 .report)) [] := by
  refine F.cal sc_report (fun vs H Q E h => ?_) (fun f cdv Ar outer s H vs Q E hr h => ?_)
  · obtain ⟨L, b, c, g, args, rfl, _⟩ := h
    rfl
  · obtain ⟨L, b, c, g, args, rfl, B, W, hc, hn, hS, q⟩ := h
    obtain ⟨x, y, rfl⟩ := len2 hn
    refine ⟨_, (pss_cons (ps_asg (pv 1) (pg_unl rfl (pgs_cons (pg_name (i := 2) sc_report.nd rfl (Or.inl rfl)) (pgs_cons (pg_name (i := 3) sc_report.nd rfl (Or.inl rfl)) pgs_nil))))
      (pss_cons (ps_if (pt_cmpR op_ge (pv 2) (pe_gc (by rfl) T.g_METRICS) (nomark _)) (pss_one (ps_ret (pe_lst (pa_cons (pe_un un_neg pe_int) pa_nil)))) pss_nil)
      (pss_one (ps_ret (pe_lst (pa_cons (pe_mt m_report hr (by first | decide | omega) (pv 0) (pa_cons (pv 2) (pa_cons (pv 3) pa_nil))) pa_nil)))))), ?_⟩
    walk_at "n"
    refine x_asg (x_val (val_var rfl) (x_ul2 hS ?_))
    walk_at "n"
    have e0 : Kex7.step (some b) (.report x y) = if 7 < x then (some b, .value (-22)) else (some (Kex7.report b x y), .value ((Kex7.report b x y).log.length - b.log.length : Nat)) := rfl
    refine x_ifP (by walk_at "ans") (fun h1 => x_ret (x_lstV (xs := [.int (-22)]) (by walk_at "vala") fun p np => q.put0 (e0.trans (if_pos ?_)) W hc B (Same.refl H) np rfl)) (fun h1 => ?_)
    · omega
    rw [if_neg (by omega)] at e0
    walk_at "n"
    refine x_ret (x_lst1 (x_meth (by walk_at "val") (B.at_ .plat trivial) (lpn_report L b) (by walk_at "vala") ?_))
    refine ⟨L, b, c, x, y, rfl, B, W, fun H1 L1 B1 f1 => ?_⟩
    exact ⟨small_le (by show 1 ≤ 1000000; decide), fun p np => q.put e0 (W.rep hc x y) B1 f1 np rfl⟩
end
end Gc
namespace Gc
open PySem PySem.Spec PyProof.Rows L2
open C8 (Cal Mak Met CalAt pe_c pe_mk pe_mt pe_mt0 pe_gc)
/-! the short tactics (each is a row of one's own, tried by its key) -/
local macro_rules | `(tactic| walk_at "fl") => `(tactic| assumption)
local macro_rules | `(tactic| walk_at "side") => `(tactic| first | assumption | exact Or.inr ⟨by decide, by decide⟩ | exact Or.inl ⟨by decide, by decide⟩ | decide | (refine ⟨by decide, by decide⟩) | omega)
local macro_rules | `(tactic| walk_at "val") => `(tactic| first
  | with_reducible exact val_c
  | ((with_reducible refine' val_var ?vv); (case vv => rfl))
  | ((with_reducible refine' val_fl ?vfa ?vfb); (case vfa => walk_at "val"); (case vfb => walk_at "fl"))
  | ((with_reducible refine' val_len ?vla ?vlb); (case vla => walk_at "val"); (case vlb => walk_at "sq"))
  | ((with_reducible refine' val_I0 ?v0a ?v0b); (case v0a => walk_at "val"); (case v0b => walk_at "val"))
  | ((with_reducible refine' val_I ?via ?vib ?vic); (case via => walk_at "val"); (case vib => walk_at "val"); (case vic => walk_at "side"))
  | ((with_reducible refine' val_neg ?vn); (case vn => walk_at "val"))
  | ((with_reducible refine' val_isN ?vs); (case vs => walk_at "val"))
  | ((with_reducible refine' val_ixL ?xa ?xb ?xc ?xd); (case xa => walk_at "val"); (case xb => walk_at "val"); (case xc => walk_at "sq"); (case xd => walk_at "at"))
  | ((with_reducible refine' val_ixT ?ya ?yb ?yc ?yd); (case ya => walk_at "val"); (case yb => walk_at "val"); (case yc => walk_at "sqt"); (case yd => walk_at "at"))
  | ((with_reducible refine' val_chain ?ca ?cb ?cc); (case ca => walk_at "val"); (case cb => walk_at "val"); (case cc => walk_at "val"))
  | ((with_reducible refine' val_max2 ?ma ?mb); (case ma => walk_at "val"); (case mb => walk_at "val")))
local macro_rules | `(tactic| walk_at "sq") => `(tactic| first | assumption | exact SqL.of (by assumption))
local macro_rules | `(tactic| walk_at "sqt") => `(tactic| first | assumption | exact SqT.of (by assumption))
local macro_rules | `(tactic| walk_at "at") => `(tactic| first | assumption | rfl)
local macro_rules | `(tactic| walk_at "ans") => `(tactic| first
  | ((with_reducible refine' ans_test ?at_); (case at_ => walk_at "val"))
  | ((with_reducible refine' ans_B ?ab_); (case ab_ => walk_at "val"))
  | ((with_reducible refine' ans_or2 ?ao ?ap); (case ao => walk_at "ans"); (case ap => (intro _; walk_at "ans")))
  | ((with_reducible refine' ans_and3 ?aq ?ar); (case aq => walk_at "ans"); (case ar => (intro _; walk_at "ans")))
  | ((with_reducible refine' ans_notM ?an); (case an => walk_at "ans")))
local macro_rules | `(tactic| walk_at "vala") => `(tactic| first
  | with_reducible exact vala_nil
  | ((with_reducible refine' vala_cons ?wa ?wb); (case wa => walk_at "val"); (case wb => walk_at "vala")))
local macro_rules | `(tactic| walk_at "n") => `(tactic| (repeat (first | (with_reducible refine x_gn ?_) | (with_reducible refine st_seq ?_) | (with_reducible refine st_next ?_) | dsimp only)))
local macro_rules | `(tactic| walk_at "fl") => `(tactic| first
  | assumption
  | ((with_reducible refine' fp_people ?fB ?fT); (case fB => assumption); (case fT => assumption))
  | ((with_reducible refine' fp_clock ?fB ?fT); (case fB => assumption); (case fT => assumption))
  | ((with_reducible refine' fp_settings ?fB ?fT); (case fB => assumption); (case fT => assumption))
  | ((with_reducible refine' fp_classes ?fB ?fT); (case fB => assumption); (case fT => assumption))
  | ((with_reducible refine' fp_needs ?fB ?fT); (case fB => assumption); (case fT => assumption))
  | ((with_reducible refine' fp_own_counts ?fB ?fT); (case fB => assumption); (case fT => assumption))
  | ((with_reducible refine' fp_freezes ?fB ?fT); (case fB => assumption); (case fT => assumption))
  | ((with_reducible refine' fp_proposals ?fB ?fT); (case fB => assumption); (case fT => assumption))
  | ((with_reducible refine' fp_guards ?fB ?fT); (case fB => assumption); (case fT => assumption))
  | ((with_reducible refine' fp_log ?fB ?fT); (case fB => assumption); (case fT => assumption))
  | ((with_reducible refine' fp_past ?fB ?fT); (case fB => assumption); (case fT => assumption))
  | ((with_reducible refine' fq_author ?fB ?fT ?fH); (case fB => assumption); (case fT => assumption); (case fH => assumption))
  | ((with_reducible refine' fq_time ?fB ?fT ?fH); (case fB => assumption); (case fT => assumption); (case fH => assumption))
  | ((with_reducible refine' fq_changes ?fB ?fT ?fH); (case fB => assumption); (case fT => assumption); (case fH => assumption))
  | ((with_reducible refine' fq_approvals ?fB ?fT ?fH); (case fB => assumption); (case fT => assumption); (case fH => assumption))
  | ((with_reducible refine' fq_status ?fB ?fT ?fH); (case fB => assumption); (case fT => assumption); (case fH => assumption))
  | ((with_reducible refine' fq_end ?fB ?fT ?fH); (case fB => assumption); (case fT => assumption); (case fH => assumption))
  | ((with_reducible refine' fq_before ?fB ?fT ?fH); (case fB => assumption); (case fT => assumption); (case fH => assumption)))
local macro_rules | `(tactic| walk_at "sq") => `(tactic| first | assumption | exact SqL.of (by assumption) | exact s_sets (by assumption) | exact s_cls (by assumption) | exact s_need (by assumption) | exact s_own (by assumption) | exact s_frz (by assumption) | exact s_prs (by assumption) | exact s_grd (by assumption) | exact s_log (by assumption) | exact s_past (by assumption) | exact s_chg (by assumption) (by assumption) | exact s_apr (by assumption) (by assumption) | exact s_bef (by assumption) (by assumption))
local macro_rules | `(tactic| walk_at "at") => `(tactic| first | assumption | exact atI_0 rfl | exact atI_1 rfl | exact atI_2 rfl)
abbrev s_refusal : Stmt := topS 57
theorem sc_refusal : FnScope ["platform", "number", "person"] ["platform", "number", "person"] (defScope s_refusal) := ⟨rfl, rfl, rfl, by decide +kernel, rfl, by decide +kernel, by decide +kernel⟩
abbrev s_approve : Stmt := topS 58
theorem sc_approve : FnScope ["platform", "given", "number", "person", "wrong", "proposal"] ["platform", "given"] (defScope s_approve) := ⟨rfl, rfl, rfl, by decide +kernel, rfl, by decide +kernel, by decide +kernel⟩
abbrev s_withdraw : Stmt := topS 59
theorem sc_withdraw : FnScope ["platform", "given", "number", "person", "wrong", "proposal"] ["platform", "given"] (defScope s_withdraw) := ⟨rfl, rfl, rfl, by decide +kernel, rfl, by decide +kernel, by decide +kernel⟩
abbrev s_reject : Stmt := topS 60
theorem sc_reject : FnScope ["platform", "given", "number", "person", "wrong"] ["platform", "given"] (defScope s_reject) := ⟨rfl, rfl, rfl, by decide +kernel, rfl, by decide +kernel, by decide +kernel⟩
abbrev s_advance : Stmt := topS 61
theorem sc_advance : FnScope ["platform", "given", "hours", "before", "hour"] ["platform", "given"] (defScope s_advance) := ⟨rfl, rfl, rfl, by decide +kernel, rfl, by decide +kernel, by decide +kernel⟩
section
variable {P : Program} {w : World} {K : PySem.W.Frag} {mg : Str → Option Value} {base : Heap} {A : Ad}
/-! ### refusal -/
def refC (b : Board) (i u : Nat) : Int := if b.proposals.length ≤ i then -2 else if b.people ≤ u then -22 else if (pr b i).status ≠ 0 then -16 else 0
theorem open_ref (b : Board) (i u : Nat) (f : Kex7.Proposal → Kex7.State × Kex7.Result) : Kex7.openProposal b i u f = if refC b i u < 0 then (some b, .value (refC b i u)) else f (pr b i) := by
  unfold Kex7.openProposal refC
  by_cases h1 : b.proposals.length ≤ i
  · rw [List.getElem?_eq_none h1, if_pos h1, if_pos (by decide)]
  · rw [pr_at (by omega), if_neg h1]
    dsimp only
    by_cases h2 : b.people ≤ u
    · rw [if_pos h2, if_pos h2, if_pos (by decide)]
    · rw [if_neg h2, if_neg h2]
      by_cases h3 : (pr b i).status ≠ 0
      · rw [if_pos h3, if_pos h3, if_pos (by decide)]
      · rw [if_neg h3, if_neg h3, if_neg (by decide)]
theorem ref_ok {b : Board} {i u : Nat} (h : ¬ refC b i u < 0) : i < b.proposals.length ∧ (pr b i).status = 0 := by
  unfold refC at h
  split at h
  · exact absurd (by decide) h
  · split at h
    · exact absurd (by decide) h
    · split at h
      · exact absurd (by decide) h
      · exact ⟨by omega, by omega⟩
def spRef (A : Ad) : Sp := fun vs H Q _ => ∃ (L : Lay) (b : Board) (i u : Nat), vs = [.ref (L.ad .plat), vN i, vN u] ∧ Bd A L b H ∧ Q (.int (refC b i u)) H
theorem ok_ref (F : At K mg "refusal" s_refusal ["platform", "number", "person"]) (T : Txt P w K mg A) : Cal P w K mg base 1 "refusal" (spRef A) [] := by
  refine F.cal sc_refusal (fun vs H Q E h => ?_) (fun f cdv Ar outer s H vs Q E hr h => ?_)
  · obtain ⟨L, b, i, u, rfl, _⟩ := h
    rfl
  · obtain ⟨L, b, i, u, rfl, B, q⟩ := h
    refine ⟨_, (pss_cons (ps_if (pt_cmpR op_ge (pv 1) (pe_callB call_lenM (by rfl) T.len (by decide +kernel) (pa_cons (pe_fld (pv 0) rfl) pa_nil)) (nomark _)) (pss_one (ps_ret (pe_un un_neg pe_int))) pss_nil)
      (pss_cons (ps_if (pt_cmpR op_ge (pv 2) (pe_fld (pv 0) rfl) (nomark _)) (pss_one (ps_ret (pe_un un_neg pe_int))) pss_nil)
      (pss_cons (ps_if (pt_cmpR op_neI (pe_fld (pe_ix ix_list (pe_fld (pv 0) rfl) (pv 1) (fun _ _ => rfl)) rfl) (pe_gc (by rfl) T.g_OPEN) (nomark _)) (pss_one (ps_ret (pe_un un_neg pe_int))) pss_nil)
      (pss_one (ps_ret pe_int))))), ?_⟩
    unfold refC at q
    refine x_ifP (ans_test (val_I0 (val_var rfl) (v_prps B T (val_var rfl)))) (fun h1 => x_ret (x_val (v := .int (-2)) (by walk_at "val") ?_)) (fun h1 => ?_)
    · rw [if_pos (by omega)] at q
      exact q
    rw [if_neg (by omega)] at q
    have hi : i < b.proposals.length := by omega
    have hat := at_prs (L := L) hi
    walk_at "n"
    refine x_ifP (by walk_at "ans") (fun h2 => x_ret (x_val (v := .int (-22)) (by walk_at "val") ?_)) (fun h2 => ?_)
    · rw [if_pos (by omega)] at q
      exact q
    rw [if_neg (by omega)] at q
    walk_at "n"
    refine x_if (by walk_at "ans") (fun h3 => x_ret (x_val (v := .int (-16)) (by walk_at "val") ?_)) (fun h3 => ?_)
    · rw [if_pos (fun e => by rw [e] at h3; exact absurd h3 (by decide))] at q
      exact q
    walk_at "n"
    refine x_ret (x_val (v := .int 0) (by walk_at "val") ?_)
    have s0 : (pr b i).status = 0 := by
      cases z : decide (((pr b i).status : Int) = 0) with
      | true =>
        have := of_decide_eq_true z
        omega
      | false =>
        rw [z] at h3
        cases h3
    rw [if_neg (fun e => e s0)] at q
    exact q
/-! ### approve -/
theorem ok_aprv (F : At K mg "approve" s_approve ["platform", "given"]) (T : Txt P w K mg A) (c_refusal : Cal P w K mg base 1 "refusal" (spRef A) []) (m_note : Met P w K mg base 1 A.CP "note" (spNote A) []) (m_settle : Met P w K mg base 3 A.CP "settle" (spStl A) []) : Cal P w K mg base 4 "approve" (spOp A K 2 (rq2 .approve)) [] := by
  refine F.cal sc_approve (fun vs H Q E h => ?_) (fun f cdv Ar outer s H vs Q E hr h => ?_)
  · obtain ⟨L, b, c, g, args, rfl, _⟩ := h
    rfl
  · obtain ⟨L, b, c, g, args, rfl, B, W, hc, hn, hS, q⟩ := h
    obtain ⟨i, u, rfl⟩ := len2 hn
    refine ⟨_, (pss_cons (ps_asg (pv 1) (pg_unl rfl (pgs_cons (pg_name (i := 2) sc_approve.nd rfl (Or.inl rfl)) (pgs_cons (pg_name (i := 3) sc_approve.nd rfl (Or.inl rfl)) pgs_nil))))
      (pss_cons (ps_set (i := 4) sc_approve.nd rfl (Or.inl rfl) (pe_c c_refusal hr (by first | decide | omega) (by rfl) (pa_cons (pv 0) (pa_cons (pv 2) (pa_cons (pv 3) pa_nil)))))
      (pss_cons (ps_if (pt_cmpR op_lt (pv 4) pe_int (nomark _)) (pss_one (ps_ret (pe_lst (pa_cons (pv 4) pa_nil)))) pss_nil)
      (pss_cons (ps_set (i := 5) sc_approve.nd rfl (Or.inl rfl) (pe_ix ix_list (pe_fld (pv 0) rfl) (pv 2) (fun _ _ => rfl)))
      (pss_cons (ps_if (pt_cmpR op_in_seq (pv 3) (pe_fld (pv 5) rfl) (by with_unfolding_all rfl)) (pss_one (ps_ret (pe_lst (pa_cons (pe_un un_neg pe_int) pa_nil)))) pss_nil)
      (pss_cons (ps_expr (pe_bm PySem.F.plainAttrs_list PySem.F.slot_list_append PySem.F.type_list_append mt_append (pe_fld (pv 5) rfl) (pa_cons (pv 3) pa_nil)))
      (pss_cons (ps_expr (pe_mt m_note hr (by first | decide | omega) (pv 0) (pa_cons pe_int (pa_cons (pv 3) (pa_cons (pv 2) pa_nil)))))
      (pss_cons (ps_expr (pe_mt0 m_settle hr (by first | decide | omega) (pv 0)))
      (pss_one (ps_ret (pe_lst (pa_cons (pe_callB call_lenM (by rfl) T.len (by decide +kernel) (pa_cons (pe_fld (pv 5) rfl) pa_nil)) pa_nil)))))))))))), ?_⟩
    walk_at "n"
    refine x_asg (x_val (val_var rfl) (x_ul2 hS ?_))
    walk_at "n"
    refine x_set (x_call0 (by walk_at "vala") ?_)
    refine ⟨L, b, i, u, rfl, B, ?_⟩
    have e0 : Kex7.step (some b) (.approve i u) = if refC b i u < 0 then (some b, .value (refC b i u)) else if (pr b i).approvals.contains u = true then (some b, .value (-17)) else
      (some (Kex7.settle (Kex7.logged (Kex7.withProposal b i { pr b i with approvals := (pr b i).approvals ++ [u] }) 2 u i)), .value ((pr b i).approvals.length + 1 : Nat)) := open_ref b i u _
    walk_at "n"
    refine x_ifP (by walk_at "ans") (fun h1 => x_ret (x_lstV (xs := [.int (refC b i u)]) (by walk_at "vala") fun p np => q.put0 (e0.trans (if_pos h1)) W hc B (Same.refl H) np rfl)) (fun h1 => ?_)
    rw [if_neg h1] at e0
    obtain ⟨hi, s0⟩ := ref_ok h1
    have hp := W.p hi
    have hpi := pr_at hi
    have hat := at_prs (L := L) hi
    walk_at "n"
    refine x_setV (by walk_at "val") ?_
    walk_at "n"
    refine x_if (ans_in (val_var rfl) (val_fl (val_var rfl) (fq_approvals B T hi)) (s_apr B hi)) (fun h2 => x_ret (x_lstV (xs := [.int (-17)]) (by walk_at "vala") fun p np => q.put0 (e0.trans (if_pos h2)) W hc B (Same.refl H) np rfl)) (fun h2 => ?_)
    rw [if_neg (by rw [h2]; exact Bool.false_ne_true)] at e0
    have hnew : u ∉ (pr b i).approvals := fun z => by
      rw [List.contains_iff_mem.mpr z] at h2
      cases h2
    walk_at "n"
    refine x_drop (x_app (val_fl (val_var rfl) (fq_approvals B T hi)) (B.at_ (.apr i) hi) (x_val (by walk_at "val") ?_))
    refine x_rapp (B.at_ (.apr i) hi) (by rw [List.length_map]; have := hp.few; omega) ?_
    obtain ⟨B1, f1⟩ := B.setApr hi ((pr b i).approvals ++ [u])
    rw [List.map_append, show [u].map vN = [vN u] from rfl] at B1 f1
    have W1 := W.setLog hc hi (q := { pr b i with approvals := (pr b i).approvals ++ [u] }) ⟨hp.ne, hp.le, hp.key, List.nodup_append.mpr ⟨hp.nd, by simp, fun x hx y hy => by
      rw [List.mem_singleton.mp hy]
      intro z
      rw [z] at hx
      exact hnew hx⟩, by
      show ((pr b i).approvals ++ [u]).length ≤ c + 1
      rw [List.length_append]
      exact Nat.succ_le_succ hp.few, hp.bef⟩ (fun z => z) 2 u i
    have hl := W.log
    generalize upd H (L.ad (.apr i)) _ = H1 at B1 f1
    walk_at "n"
    refine x_drop (x_meth (a := L.ad .plat) (by walk_at "val") (B1.at_ .plat trivial) (lpn_note L _) (by walk_at "vala") ?_)
    refine ⟨L, _, 2, u, i, rfl, B1, by show b.log.length ≤ 1000000; omega, fun H2 L2 B2 f2 _ => ?_⟩
    have epl2 : L2.ad .plat = L.ad .plat := f2.st .plat trivial (by intro j e; cases e)
    walk_at "n"
    refine x_drop (x_meth (a := L.ad .plat) (by walk_at "val") (by rw [← epl2]; exact B2.at_ .plat trivial) (lpn_settle L2 _) (by walk_at "vala") ?_)
    refine ⟨L2, _, c + 1, by rw [epl2], B2, W1, fun H3 L3 B3 f3 => ?_⟩
    have fA := (f1.trans f2).trans f3
    have epi : L3.ad (.pin i) = L.ad (.pin i) := fA.st (.pin i) hi (by intro j e; cases e)
    have hi1 : i < (Kex7.withProposal b i { pr b i with approvals := (pr b i).approvals ++ [u] }).proposals.length := by rw [show (Kex7.withProposal b i { pr b i with approvals := (pr b i).approvals ++ [u] }).proposals.length = b.proposals.length from List.length_set]; exact hi
    have k3 := kept_settle (Kex7.logged (Kex7.withProposal b i { pr b i with approvals := (pr b i).approvals ++ [u] }) 2 u i)
    have hi3 := hi1
    rw [← show (Kex7.settle (Kex7.logged (Kex7.withProposal b i { pr b i with approvals := (pr b i).approvals ++ [u] }) 2 u i)).proposals.length = (Kex7.withProposal b i { pr b i with approvals := (pr b i).approvals ++ [u] }).proposals.length from k3.len] at hi3
    have ea := k3.appr i hi1
    rw [show pr (Kex7.logged (Kex7.withProposal b i { pr b i with approvals := (pr b i).approvals ++ [u] }) 2 u i) i = { pr b i with approvals := (pr b i).approvals ++ [u] } from pr_set_same hi] at ea
    walk_at "n"
    refine x_ret (x_lstV (vala_cons (val_len (val_fl (val_var rfl) (by rw [← epi]; exact fq_approvals B3 T hi3)) (s_apr B3 hi3)) vala_nil) fun p np => q.put e0 W1.settle B3 fA np ?_)
    rw [List.length_map, ea]
    show [vN ((pr b i).approvals ++ [u]).length] = [vN ((pr b i).approvals.length + 1)]
    rw [List.length_append]
    rfl
/-! ### withdraw -/
theorem first_of {u : Nat} : ∀ {l : List Nat}, l.Nodup → u ∈ l → ∃ j, l[j]? = some u ∧ (∀ m : Nat, m < j → l[m]? ≠ some u) ∧ l.eraseIdx j = l.filter (· != u)
  | [], _, h => absurd h (by simp)
  | x :: r, nd, h => by
    obtain ⟨n1, n2⟩ := List.nodup_cons.mp nd
    by_cases c : x = u
    · subst c
      refine ⟨0, rfl, fun m hm => absurd hm (by omega), ?_⟩
      have e : (x != x) = false := by simp
      rw [List.filter_cons_of_neg (by rw [e]; exact Bool.false_ne_true)]
      exact (List.filter_eq_self.mpr fun y hy => by
        rw [bne_iff_ne]
        intro z
        rw [z] at hy
        exact n1 hy).symm
    · have hm : u ∈ r := by
        rcases List.mem_cons.mp h with z | z
        · exact absurd z.symm c
        · exact z
      obtain ⟨j, h1, h2, h3⟩ := first_of n2 hm
      refine ⟨j + 1, h1, fun m hm => ?_, ?_⟩
      · cases m with
        | zero =>
          intro z
          exact c (Option.some.inj z)
        | succ m => exact h2 m (by omega)
      · rw [List.filter_cons_of_pos (by rw [bne_iff_ne]; exact c), ← h3]
        rfl
theorem x_rem {σ : L2.St} {H : Hp} {l : Addr} {ns : List Nat} {to ta : TE} {u j : Nat} {Q : VK} (ho : Val to σ H (.ref l)) (ha : Val ta σ H (vN u)) (h : H l = some (.lst (ns.map vN))) (h1 : ns[j]? = some u) (h2 : ∀ m : Nat, m < j → ns[m]? ≠ some u) (q : Q .non (upd H l (.lst ((ns.eraseIdx j).map vN)))) : tBM K "list" rRemI to (tCons ta tNil) σ H Q :=
  ho _ ⟨.inl ⟨rfl, _, SqL.of h⟩, ha _ ⟨l, ns.map fun n : Nat => (n : Int), u, j, rfl, rfl, by rw [h, List.map_map]; rfl, by rw [List.getElem?_map, h1]; rfl, fun m hm z => by
    rw [List.getElem?_map] at z
    cases e : ns[m]? with
    | none =>
      rw [e] at z
      cases z
    | some y =>
      rw [e] at z
      have z2 : (y : Int) = (u : Int) := Option.some.inj z
      exact h2 m hm (by rw [e]; congr 1; omega), by
    rw [← map_erase, List.map_map]
    exact q⟩⟩
theorem ok_wdr (F : At K mg "withdraw" s_withdraw ["platform", "given"]) (T : Txt P w K mg A) (c_refusal : Cal P w K mg base 1 "refusal" (spRef A) []) (m_note : Met P w K mg base 1 A.CP "note" (spNote A) []) : Cal P w K mg base 2 "withdraw" (spOp A K 2 (rq2 .withdraw)) [] := by
  refine F.cal sc_withdraw (fun vs H Q E h => ?_) (fun f cdv Ar outer s H vs Q E hr h => ?_)
  · obtain ⟨L, b, c, g, args, rfl, _⟩ := h
    rfl
  · obtain ⟨L, b, c, g, args, rfl, B, W, hc, hn, hS, q⟩ := h
    obtain ⟨i, u, rfl⟩ := len2 hn
    refine ⟨_, (pss_cons (ps_asg (pv 1) (pg_unl rfl (pgs_cons (pg_name (i := 2) sc_withdraw.nd rfl (Or.inl rfl)) (pgs_cons (pg_name (i := 3) sc_withdraw.nd rfl (Or.inl rfl)) pgs_nil))))
      (pss_cons (ps_set (i := 4) sc_withdraw.nd rfl (Or.inl rfl) (pe_c c_refusal hr (by first | decide | omega) (by rfl) (pa_cons (pv 0) (pa_cons (pv 2) (pa_cons (pv 3) pa_nil)))))
      (pss_cons (ps_if (pt_cmpR op_lt (pv 4) pe_int (nomark _)) (pss_one (ps_ret (pe_lst (pa_cons (pv 4) pa_nil)))) pss_nil)
      (pss_cons (ps_set (i := 5) sc_withdraw.nd rfl (Or.inl rfl) (pe_ix ix_list (pe_fld (pv 0) rfl) (pv 2) (fun _ _ => rfl)))
      (pss_cons (ps_if (pt_cmpR op_notIn_seq (pv 3) (pe_fld (pv 5) rfl) (by with_unfolding_all rfl)) (pss_one (ps_ret (pe_lst (pa_cons (pe_un un_neg pe_int) pa_nil)))) pss_nil)
      (pss_cons (ps_expr (pe_bm PySem.F.plainAttrs_list PySem.F.slot_list_remove PySem.F.type_list_remove mt_remove (pe_fld (pv 5) rfl) (pa_cons (pv 3) pa_nil)))
      (pss_cons (ps_expr (pe_mt m_note hr (by first | decide | omega) (pv 0) (pa_cons pe_int (pa_cons (pv 3) (pa_cons (pv 2) pa_nil)))))
      (pss_one (ps_ret (pe_lst (pa_cons (pe_callB call_lenM (by rfl) T.len (by decide +kernel) (pa_cons (pe_fld (pv 5) rfl) pa_nil)) pa_nil))))))))))), ?_⟩
    walk_at "n"
    refine x_asg (x_val (val_var rfl) (x_ul2 hS ?_))
    walk_at "n"
    refine x_set (x_call0 (by walk_at "vala") ?_)
    refine ⟨L, b, i, u, rfl, B, ?_⟩
    have e0 : Kex7.step (some b) (.withdraw i u) = if refC b i u < 0 then (some b, .value (refC b i u)) else if (pr b i).approvals.contains u = false then (some b, .value (-33)) else
      (some (Kex7.logged (Kex7.withProposal b i { pr b i with approvals := (pr b i).approvals.filter (· != u) }) 3 u i), .value ((pr b i).approvals.length - 1 : Nat)) := open_ref b i u _
    walk_at "n"
    refine x_ifP (by walk_at "ans") (fun h1 => x_ret (x_lstV (xs := [.int (refC b i u)]) (by walk_at "vala") fun p np => q.put0 (e0.trans (if_pos h1)) W hc B (Same.refl H) np rfl)) (fun h1 => ?_)
    rw [if_neg h1] at e0
    obtain ⟨hi, s0⟩ := ref_ok h1
    have hp := W.p hi
    have hpi := pr_at hi
    have hat := at_prs (L := L) hi
    walk_at "n"
    refine x_setV (by walk_at "val") ?_
    walk_at "n"
    refine x_if (ans_notIn (val_var rfl) (val_fl (val_var rfl) (fq_approvals B T hi)) (s_apr B hi)) (fun h2 => x_ret (x_lstV (xs := [.int (-33)]) (by walk_at "vala") fun p np => q.put0 (e0.trans (if_pos ?_)) W hc B (Same.refl H) np rfl)) (fun h2 => ?_)
    · cases z : (pr b i).approvals.contains u with
      | false => rfl
      | true =>
        rw [z] at h2
        cases h2
    have h2' : (pr b i).approvals.contains u = true := by
      cases z : (pr b i).approvals.contains u with
      | true => rfl
      | false =>
        rw [z] at h2
        cases h2
    rw [if_neg (by rw [h2']; exact Bool.noConfusion)] at e0
    obtain ⟨j, j1, j2, j3⟩ := first_of hp.nd (List.contains_iff_mem.mp h2')
    have hj := len_at j1
    walk_at "n"
    refine x_drop (x_rem (j := j) (val_fl (val_var rfl) (fq_approvals B T hi)) (val_var rfl) (B.at_ (.apr i) hi) j1 j2 ?_)
    rw [j3]
    have elen : ((pr b i).approvals.filter (· != u)).length = (pr b i).approvals.length - 1 := by rw [← j3, List.length_eraseIdx_of_lt hj]
    obtain ⟨B1, f1⟩ := B.setApr hi ((pr b i).approvals.filter (· != u))
    have W1 := W.setLog hc hi (q := { pr b i with approvals := (pr b i).approvals.filter (· != u) }) ⟨hp.ne, hp.le, hp.key, hp.nd.filter _, by
      show ((pr b i).approvals.filter (· != u)).length ≤ c + 1
      rw [elen]
      have := hp.few
      omega, hp.bef⟩ (fun z => z) 3 u i
    have hl := W.log
    generalize upd H (L.ad (.apr i)) _ = H1 at B1 f1
    walk_at "n"
    refine x_drop (x_meth (a := L.ad .plat) (by walk_at "val") (B1.at_ .plat trivial) (lpn_note L _) (by walk_at "vala") ?_)
    refine ⟨L, _, 3, u, i, rfl, B1, by show b.log.length ≤ 1000000; omega, fun H2 L2 B2 f2 _ => ?_⟩
    have fA := f1.trans f2
    have epi : L2.ad (.pin i) = L.ad (.pin i) := fA.st (.pin i) hi (by intro j e; cases e)
    have hi1 : i < (Kex7.logged (Kex7.withProposal b i { pr b i with approvals := (pr b i).approvals.filter (· != u) }) 3 u i).proposals.length := by
      show i < (b.proposals.set i _).length
      rw [List.length_set]
      exact hi
    have ea : pr (Kex7.logged (Kex7.withProposal b i { pr b i with approvals := (pr b i).approvals.filter (· != u) }) 3 u i) i = { pr b i with approvals := (pr b i).approvals.filter (· != u) } := pr_set_same hi
    walk_at "n"
    refine x_ret (x_lstV (vala_cons (val_len (val_fl (val_var rfl) (by rw [← epi]; exact fq_approvals B2 T hi1)) (s_apr B2 hi1)) vala_nil) fun p np => q.put e0 W1 B2 fA np ?_)
    rw [List.length_map, ea]
    show [vN ((pr b i).approvals.filter (· != u)).length] = [vN ((pr b i).approvals.length - 1)]
    rw [elen]
/-! ### reject -/
theorem ok_rej (F : At K mg "reject" s_reject ["platform", "given"]) (T : Txt P w K mg A) (c_refusal : Cal P w K mg base 1 "refusal" (spRef A) []) (m_note : Met P w K mg base 1 A.CP "note" (spNote A) []) (m_finish : Met P w K mg base 1 A.CQ "finish" (spFin A) []) : Cal P w K mg base 2 "reject" (spOp A K 2 (rq2 .reject)) [] := by
  refine F.cal sc_reject (fun vs H Q E h => ?_) (fun f cdv Ar outer s H vs Q E hr h => ?_)
  · obtain ⟨L, b, c, g, args, rfl, _⟩ := h
    rfl
  · obtain ⟨L, b, c, g, args, rfl, B, W, hc, hn, hS, q⟩ := h
    obtain ⟨i, u, rfl⟩ := len2 hn
    refine ⟨_, (pss_cons (ps_asg (pv 1) (pg_unl rfl (pgs_cons (pg_name (i := 2) sc_reject.nd rfl (Or.inl rfl)) (pgs_cons (pg_name (i := 3) sc_reject.nd rfl (Or.inl rfl)) pgs_nil))))
      (pss_cons (ps_set (i := 4) sc_reject.nd rfl (Or.inl rfl) (pe_c c_refusal hr (by first | decide | omega) (by rfl) (pa_cons (pv 0) (pa_cons (pv 2) (pa_cons (pv 3) pa_nil)))))
      (pss_cons (ps_if (pt_cmpR op_lt (pv 4) pe_int (nomark _)) (pss_one (ps_ret (pe_lst (pa_cons (pv 4) pa_nil)))) pss_nil)
      (pss_cons (ps_expr (pe_mt m_finish hr (by first | decide | omega) (pe_ix ix_list (pe_fld (pv 0) rfl) (pv 2) (fun _ _ => rfl)) (pa_cons (pe_gc (by rfl) T.g_REJECTED) (pa_cons (pe_fld (pv 0) rfl) pa_nil))))
      (pss_cons (ps_expr (pe_mt m_note hr (by first | decide | omega) (pv 0) (pa_cons pe_int (pa_cons (pv 3) (pa_cons (pv 2) pa_nil)))))
      (pss_one (ps_ret (pe_lst (pa_cons pe_int pa_nil))))))))), ?_⟩
    walk_at "n"
    refine x_asg (x_val (val_var rfl) (x_ul2 hS ?_))
    walk_at "n"
    refine x_set (x_call0 (by walk_at "vala") ?_)
    refine ⟨L, b, i, u, rfl, B, ?_⟩
    have e0 : Kex7.step (some b) (.reject i u) = if refC b i u < 0 then (some b, .value (refC b i u)) else
      (some (Kex7.logged (Kex7.withProposal b i { pr b i with status := 2, ended := b.clock }) 4 u i), .value 0) := open_ref b i u _
    walk_at "n"
    refine x_ifP (by walk_at "ans") (fun h1 => x_ret (x_lstV (xs := [.int (refC b i u)]) (by walk_at "vala") fun p np => q.put0 (e0.trans (if_pos h1)) W hc B (Same.refl H) np rfl)) (fun h1 => ?_)
    rw [if_neg h1] at e0
    obtain ⟨hi, s0⟩ := ref_ok h1
    have hp := W.p hi
    have hat := at_prs (L := L) hi
    walk_at "n"
    refine x_drop (x_meth (a := L.ad (.pin i)) (by walk_at "val") (B.at_ (.pin i) hi) (lqn_finish L i _) (by walk_at "vala") ?_)
    refine ⟨L, _, _, i, pr b i, 2, b.clock, rfl, B.at_ (.pin i) hi, ?_⟩
    obtain ⟨B1, f1⟩ := B.setP hi { pr b i with status := 2, ended := b.clock } rfl rfl rfl
    have W1 := W.setLog hc hi (q := { pr b i with status := 2, ended := b.clock }) ⟨hp.ne, hp.le, hp.key, hp.nd, Nat.le_succ_of_le hp.few, fun z => absurd (show (2 : Nat) = 1 from z) (by decide)⟩ (fun z => absurd (show ((2 : Nat) == 0) = true from z) (by decide)) 4 u i
    have hl := W.log
    generalize upd H (L.ad (.pin i)) _ = H1 at B1 f1
    walk_at "n"
    refine x_drop (x_meth (a := L.ad .plat) (by walk_at "val") (B1.at_ .plat trivial) (lpn_note L _) (by walk_at "vala") ?_)
    refine ⟨L, _, 4, u, i, rfl, B1, by show b.log.length ≤ 1000000; omega, fun H2 L2 B2 f2 _ => ?_⟩
    walk_at "n"
    exact x_ret (x_lstV (xs := [.int 0]) (by walk_at "vala") fun p np => q.put e0 W1 B2 (f1.trans f2) np rfl)
/-! ### advance -/
theorem kept_tick : ∀ (n : Nat) (b : Board), (Kex7.tick n b).proposals.length = b.proposals.length
  | 0, b => rfl
  | n + 1, b => by
    rw [tick_more, (kept_settle _).len]
    exact kept_tick n b
theorem x_lst2 {σ : L2.St} {H : Hp} {t1 te : TE} {v1 : V} {Q : VK} (h1 : Val t1 σ H v1) (h : te σ H fun v H1 => [v1, v].length ≤ sizeLine ∧ ∀ p, H1 p = none → Q (.ref p) (upd H1 p (.lst [v1, v]))) : tLst (tCons t1 (tCons te tNil)) σ H Q := h1 _ h
theorem ok_adv (F : At K mg "advance" s_advance ["platform", "given"]) (T : Txt P w K mg A) (m_count_status : Met P w K mg base 1 A.CP "count_status" (spCnt A) []) (m_settle : Met P w K mg base 3 A.CP "settle" (spStl A) []) : Cal P w K mg base 4 "advance" (spOp A K 1 (rq1 .advance)) [] := by
  refine F.cal sc_advance (fun vs H Q E h => ?_) (fun f cdv Ar outer s H vs Q E hr h => ?_)
  · obtain ⟨L, b, c, g, args, rfl, _⟩ := h
    rfl
  · obtain ⟨L, b, c, g, args, rfl, B, W, hc, hn, hS, q⟩ := h
    obtain ⟨n, rfl⟩ := len1 hn
    refine ⟨_, (pss_cons (ps_set (i := 2) sc_advance.nd rfl (Or.inl rfl) (pe_ix ix_list (pv 1) pe_int (fun _ _ => rfl)))
      (pss_cons (ps_if (PW.pt (pw_or (pt_cmpR op_gt (pv 2) (pe_gc (by rfl) T.g_MOST_HOURS) (nomark _)) (pw_or1 (pt_cmpR op_gt (pe_op op_add (pe_fld (pv 0) rfl) (pv 2)) (pe_gc (by rfl) T.g_MOST_TIME_changing) (nomark _))))) (pss_one (ps_ret (pe_lst (pa_cons (pe_un un_neg pe_int) pa_nil)))) pss_nil)
      (pss_cons (ps_set (i := 3) sc_advance.nd rfl (Or.inl rfl) (pe_mt m_count_status hr (by first | decide | omega) (pv 0) (pa_cons (pe_gc (by rfl) T.g_APPLIED) pa_nil)))
      (pss_cons (ps_for PassesOwn.never rfl (pi_range1 (by rfl) T.range (pa_cons (pv 2) pa_nil)) (pg_name (i := 4) sc_advance.nd rfl (Or.inl rfl)) (pss_cons (ps_fld (pv 0) (pe_op op_add (pe_fld (pv 0) rfl) pe_int) rfl)
      (pss_one (ps_expr (pe_mt0 m_settle hr (by first | decide | omega) (pv 0))))))
      (pss_one (ps_ret (pe_lst (pa_cons (pe_fld (pv 0) rfl) (pa_cons (pe_op op_sub (pe_mt m_count_status hr (by first | decide | omega) (pv 0) (pa_cons (pe_gc (by rfl) T.g_APPLIED) pa_nil)) (pv 3)) pa_nil))))))))), ?_⟩
    walk_at "n"
    refine x_setV (val_ixL (val_var rfl) val_c hS at_0) ?_
    have e0 : Kex7.step (some b) (.advance n) = if 200 < n ∨ 100000 < b.clock + n then (some b, .value (-22)) else (some (Kex7.tick n b), .values (Kex7.tick n b).clock [(((Kex7.tick n b).proposals.countP fun p => p.status == 1 : Nat) : Int) - ((b.proposals.countP fun p => p.status == 1 : Nat) : Int)]) := rfl
    have no : (200 < n ∨ 100000 < b.clock + n) → ∀ p, H p = none → Q (.ref p) (upd H p (.lst [.int (-22)])) := fun h p np => q.put0 (e0.trans (if_pos h)) W hc B (Same.refl H) np rfl
    walk_at "n"
    refine x_ifOr (by walk_at "ans") (fun h1 => x_ret (x_lstV (by walk_at "vala") fun p np => no ?_ p np)) (fun h1 => ?_)
    · have := of_decide_eq_true h1
      omega
    refine x_ifP (by walk_at "ans") (fun h2 => x_ret (x_lstV (by walk_at "vala") fun p np => no ?_ p np)) (fun h2 => ?_)
    · omega
    have h1 := of_decide_eq_false h1
    rw [if_neg (by omega)] at e0
    have hpl := W.prs
    walk_at "n"
    refine x_set (x_meth (a := L.ad .plat) (by walk_at "val") (B.at_ .plat trivial) (lpn_count_status L b) (by walk_at "vala") ?_)
    refine ⟨L, b, 1, rfl, B, by omega, fun H1 s1 => ?_⟩
    have B1 := B.mono s1
    have f1 : Fr L b H L b H1 := Fr.same s1
    walk_at "n"
    refine x_forR (n := n) (vala_cons (val_var rfl) vala_nil) (by omega) (fun k σ H' => ∃ v L', σ = [some (.ref (L.ad .plat)), some (.ref g), some (vN n), some (vN (b.proposals.countP fun p => p.status == 1)), v] ∧ Bd A L' (Kex7.tick k b) H' ∧ Fr L b H L' (Kex7.tick k b) H') ⟨_, L, rfl, B1, f1⟩ ?_ ?_
    · rintro k σ H' hk ⟨v, L', rfl, B', f'⟩
      have epl : L'.ad .plat = L.ad .plat := f'.st .plat trivial (by intro j e; cases e)
      have fc : Fl K H' (L.ad .plat) "clock" (vN (Kex7.tick k b).clock) := by rw [← epl]; exact fp_clock B' T
      walk_at "n"
      refine x_sfld (l := L.ad .plat) (v := vN ((Kex7.tick k b).clock + 1)) (val_I0 (val_fl (val_var rfl) fc) val_c) (val_var rfl) (by rw [← epl]; exact B'.at_ .plat trivial) T.clP T.nP_clock (by show 11 < 1000; decide) ?_
      rw [pp_clock]
      obtain ⟨B2, f2⟩ := B'.setClk ((Kex7.tick k b).clock + 1)
      have W2 := (Wf.tick k W).clk ((Kex7.tick k b).clock + 1)
      rw [epl] at B2 f2
      generalize upd H' (L.ad .plat) _ = H2 at B2 f2
      walk_at "n"
      refine x_drop (x_meth (a := L.ad .plat) (by walk_at "val") (by rw [← epl]; exact B2.at_ .plat trivial) (lpn_settle L' _) (by walk_at "vala") ?_)
      refine ⟨L', _, c, by rw [epl], B2, W2, fun H3 L3 B3 f3 => ?_⟩
      walk_at "n"
      refine ⟨_, L3, rfl, ?_, ?_⟩
      · rw [tick_more]
        exact B3
      · rw [tick_more]
        exact (f'.trans f2).trans f3
    · rintro σ H' ⟨v, L', rfl, B', f'⟩
      have epl : L'.ad .plat = L.ad .plat := f'.st .plat trivial (by intro j e; cases e)
      have fc : Fl K H' (L.ad .plat) "clock" (vN (Kex7.tick n b).clock) := by rw [← epl]; exact fp_clock B' T
      walk_at "n"
      refine x_ret (x_lst2 (val_fl (val_var rfl) fc) (x_op (x_meth (a := L.ad .plat) (by walk_at "val") (by rw [← epl]; exact B'.at_ .plat trivial) (lpn_count_status L' _) (by walk_at "vala") ?_)))
      refine ⟨L', _, 1, by rw [epl]; rfl, B', by rw [kept_tick]; omega, fun H4 s4 => ?_⟩
      refine ⟨_, rfl, _, _, rfl, rfl, small_le (by show 2 ≤ 1000000; decide), fun p np => q.put e0 ((Wf.tick n W).up hc) (B'.mono s4) (f'.trans (Fr.same s4)) np rfl⟩
end
end Gc
namespace Gc
open PySem PySem.Spec PyProof.Rows L2
open C8 (Cal Mak Met CalAt pe_c pe_mk pe_mt pe_mt0 pe_gc)
/-! the short tactics (each is a row of one's own, tried by its key) -/
local macro_rules | `(tactic| walk_at "fl") => `(tactic| assumption)
local macro_rules | `(tactic| walk_at "side") => `(tactic| first | assumption | exact Or.inr ⟨by decide, by decide⟩ | exact Or.inl ⟨by decide, by decide⟩ | decide | (refine ⟨by decide, by decide⟩) | omega)
local macro_rules | `(tactic| walk_at "val") => `(tactic| first
  | with_reducible exact val_c
  | ((with_reducible refine' val_var ?vv); (case vv => rfl))
  | ((with_reducible refine' val_fl ?vfa ?vfb); (case vfa => walk_at "val"); (case vfb => walk_at "fl"))
  | ((with_reducible refine' val_len ?vla ?vlb); (case vla => walk_at "val"); (case vlb => walk_at "sq"))
  | ((with_reducible refine' val_I0 ?v0a ?v0b); (case v0a => walk_at "val"); (case v0b => walk_at "val"))
  | ((with_reducible refine' val_I ?via ?vib ?vic); (case via => walk_at "val"); (case vib => walk_at "val"); (case vic => walk_at "side"))
  | ((with_reducible refine' val_neg ?vn); (case vn => walk_at "val"))
  | ((with_reducible refine' val_isN ?vs); (case vs => walk_at "val"))
  | ((with_reducible refine' val_ixL ?xa ?xb ?xc ?xd); (case xa => walk_at "val"); (case xb => walk_at "val"); (case xc => walk_at "sq"); (case xd => walk_at "at"))
  | ((with_reducible refine' val_ixT ?ya ?yb ?yc ?yd); (case ya => walk_at "val"); (case yb => walk_at "val"); (case yc => walk_at "sqt"); (case yd => walk_at "at"))
  | ((with_reducible refine' val_chain ?ca ?cb ?cc); (case ca => walk_at "val"); (case cb => walk_at "val"); (case cc => walk_at "val"))
  | ((with_reducible refine' val_max2 ?ma ?mb); (case ma => walk_at "val"); (case mb => walk_at "val")))
local macro_rules | `(tactic| walk_at "sq") => `(tactic| first | assumption | exact SqL.of (by assumption))
local macro_rules | `(tactic| walk_at "sqt") => `(tactic| first | assumption | exact SqT.of (by assumption))
local macro_rules | `(tactic| walk_at "at") => `(tactic| first | assumption | rfl)
local macro_rules | `(tactic| walk_at "ans") => `(tactic| first
  | ((with_reducible refine' ans_test ?at_); (case at_ => walk_at "val"))
  | ((with_reducible refine' ans_B ?ab_); (case ab_ => walk_at "val"))
  | ((with_reducible refine' ans_or2 ?ao ?ap); (case ao => walk_at "ans"); (case ap => (intro _; walk_at "ans")))
  | ((with_reducible refine' ans_and3 ?aq ?ar); (case aq => walk_at "ans"); (case ar => (intro _; walk_at "ans")))
  | ((with_reducible refine' ans_notM ?an); (case an => walk_at "ans")))
local macro_rules | `(tactic| walk_at "vala") => `(tactic| first
  | with_reducible exact vala_nil
  | ((with_reducible refine' vala_cons ?wa ?wb); (case wa => walk_at "val"); (case wb => walk_at "vala")))
local macro_rules | `(tactic| walk_at "n") => `(tactic| (repeat (first | (with_reducible refine x_gn ?_) | (with_reducible refine st_seq ?_) | (with_reducible refine st_next ?_) | dsimp only)))
local macro_rules | `(tactic| walk_at "fl") => `(tactic| first
  | assumption
  | ((with_reducible refine' fp_people ?fB ?fT); (case fB => assumption); (case fT => assumption))
  | ((with_reducible refine' fp_clock ?fB ?fT); (case fB => assumption); (case fT => assumption))
  | ((with_reducible refine' fp_settings ?fB ?fT); (case fB => assumption); (case fT => assumption))
  | ((with_reducible refine' fp_classes ?fB ?fT); (case fB => assumption); (case fT => assumption))
  | ((with_reducible refine' fp_needs ?fB ?fT); (case fB => assumption); (case fT => assumption))
  | ((with_reducible refine' fp_own_counts ?fB ?fT); (case fB => assumption); (case fT => assumption))
  | ((with_reducible refine' fp_freezes ?fB ?fT); (case fB => assumption); (case fT => assumption))
  | ((with_reducible refine' fp_proposals ?fB ?fT); (case fB => assumption); (case fT => assumption))
  | ((with_reducible refine' fp_guards ?fB ?fT); (case fB => assumption); (case fT => assumption))
  | ((with_reducible refine' fp_log ?fB ?fT); (case fB => assumption); (case fT => assumption))
  | ((with_reducible refine' fp_past ?fB ?fT); (case fB => assumption); (case fT => assumption))
  | ((with_reducible refine' fq_author ?fB ?fT ?fH); (case fB => assumption); (case fT => assumption); (case fH => assumption))
  | ((with_reducible refine' fq_time ?fB ?fT ?fH); (case fB => assumption); (case fT => assumption); (case fH => assumption))
  | ((with_reducible refine' fq_changes ?fB ?fT ?fH); (case fB => assumption); (case fT => assumption); (case fH => assumption))
  | ((with_reducible refine' fq_approvals ?fB ?fT ?fH); (case fB => assumption); (case fT => assumption); (case fH => assumption))
  | ((with_reducible refine' fq_status ?fB ?fT ?fH); (case fB => assumption); (case fT => assumption); (case fH => assumption))
  | ((with_reducible refine' fq_end ?fB ?fT ?fH); (case fB => assumption); (case fT => assumption); (case fH => assumption))
  | ((with_reducible refine' fq_before ?fB ?fT ?fH); (case fB => assumption); (case fT => assumption); (case fH => assumption)))
local macro_rules | `(tactic| walk_at "sq") => `(tactic| first | assumption | exact SqL.of (by assumption) | exact s_sets (by assumption) | exact s_cls (by assumption) | exact s_need (by assumption) | exact s_own (by assumption) | exact s_frz (by assumption) | exact s_prs (by assumption) | exact s_grd (by assumption) | exact s_log (by assumption) | exact s_past (by assumption) | exact s_chg (by assumption) (by assumption) | exact s_apr (by assumption) (by assumption) | exact s_bef (by assumption) (by assumption))
local macro_rules | `(tactic| walk_at "at") => `(tactic| first | assumption | exact atI_0 rfl | exact atI_1 rfl | exact atI_2 rfl)
abbrev s_propose : Stmt := topS 56
theorem sc_propose : FnScope ["platform", "given", "row", "author", "time", "changes"] ["platform", "given", "row"] (defScope s_propose) := ⟨rfl, rfl, rfl, by decide +kernel, rfl, by decide +kernel, by decide +kernel⟩
abbrev s_revert : Stmt := topS 65
theorem sc_revert : FnScope ["platform", "given", "number", "author", "time", "applied", "changes", "change", "before"] ["platform", "given"] (defScope s_revert) := ⟨rfl, rfl, rfl, by decide +kernel, rfl, by decide +kernel, by decide +kernel⟩
section
variable {P : Program} {w : World} {K : PySem.W.Frag} {mg : Str → Option Value} {base : Heap} {A : Ad}
/-! ### propose -/
/-- an operation with a list behind its numbers -/
def spOpR (A : Ad) (K : PySem.W.Frag) (n : Nat) (req : List Nat → List Nat → Kex7.Request) : Sp := fun vs H Q _ => ∃ (L : Lay) (b : Board) (c : Nat) (g r : Addr) (args row : List Nat), vs = [.ref (L.ad .plat), .ref g, .ref r] ∧ Bd A L b H ∧ Wf c b ∧ c + 1 ≤ 1000 ∧ args.length = n ∧ SqL K H g (args.map vN) ∧ SqL K H r (row.map vN) ∧ Out A L b c H (req args row) Q
theorem x_meth1 {σ : L2.St} {H : Hp} {ta te : TE} {sp : Sp} {E : XK} {a C dx : Addr} {fs : List (Str × V)} {m : Str} {Q : VK} (ho : Val ta σ H (.ref a)) (ha : H a = some (.ins C dx fs)) (hm : fs.lookup m = none) (h : te σ H fun v H1 => sp [.ref a, v] H1 Q E) : tMeth C m sp [] E ta (tCons te tNil) σ H Q :=
  ho _ ⟨a, dx, fs, rfl, ha, hm, h⟩
theorem x_make {σ : L2.St} {H : Hp} {C : Addr} {sp : Sp} {vs : List V} {E : XK} {t : TA} {Q : VK} (h : ValA t σ H vs) (q : ∀ x dx, H x = none → H dx = none → dx ≠ x → sp (.ref x :: vs) (upd (upd H dx (.own x)) x (.ins C dx [])) (fun v H2 => v = .non ∧ Q (.ref x) H2) E) : tMake C sp [] E t σ H Q := h _ fun x dx n1 n2 n3 => by
  rw [List.append_nil]
  exact q x dx n1 n2 n3
/-- a new proposal is put -/
theorem put_new {L : Lay} {b : Board} {c : Nat} {H0 H : Hp} {σ : L2.St} {tp t1 t2 t3 : TE} {cl : Addr} {as : List Addr} {x y : Nat} {cs : List Kex7.Change} {Q : VK} (B0 : Bd A L b H0) (s0 : Same H0 H) (W : Wf (c + 1) (addB b x y cs)) (vp : Val tp σ H (.ref (L.ad .plat))) (v1 : Val t1 σ H (vN x)) (v2 : Val t2 σ H (vN y)) (v3 : Val t3 σ H (.ref cl))
    (n0 : H0 cl = none) (hcl : H cl = some (.lst (as.map V.ref))) (ht : Tups H as (cs.map tCh)) (q : ∀ H' L', Bd A L' (Kex7.settle (addB b x y cs)) H' → Fr L b H0 L' (Kex7.settle (addB b x y cs)) H' → Q (vN b.proposals.length) H') :
    tMeth A.CP "put_proposal" (spPut A) [] C8.E0 tp (tCons (tMake A.CQ (spIniQ A) [] C8.E0 (tCons t1 (tCons t2 (tCons t3 tNil)))) tNil) σ H Q := by
  have B := B0.mono s0
  refine x_meth1 vp (B.at_ .plat trivial) (lpn_put_proposal L b) (x_make (vala_cons v1 (vala_cons v2 (vala_cons v3 vala_nil))) fun p dx np ndx dne => ?_)
  have sd := same_upd (o := .own p) ndx
  have np1 : (upd H dx (.own p)) p = none := by rw [upd_ne (Ne.symm dne)]; exact np
  have sp := same_upd (o := .ins A.CQ dx []) np1
  refine ⟨p, dx, cl, x, y, rfl, upd_same, fun al bl H' nal nbl hne hx ha hb hk => ⟨rfl, ?_⟩⟩
  have s2 := sd.trans sp
  have dfree : ∀ {z}, (upd (upd H dx (.own p)) p (.ins A.CQ dx [])) z = none → H z = none := fun {z} h => s2.free h
  have keep : ∀ z o, H z = some o → H' z = some o := fun z o h => hk z o (s2 z o h) (ne_of_none h np)
  have kp : Same H H' := keep
  refine ⟨L, b, c + 1, H0, p, dx, cl, al, bl, as, x, y, cs, rfl, B0.mono (s0.trans kp), B0, s0.trans kp, ⟨hx, hk dx _ (by rw [upd_ne dne]; exact upd_same) dne, kp _ _ hcl, ha, hb, ht.mono fun t v => kp t _, ?_, ?_, hne⟩, ⟨s0.free np, s0.free ndx, n0, s0.free (dfree nal), s0.free (dfree nbl)⟩, W, q⟩
  · exact ne_of_none hcl (dfree nal)
  · exact ne_of_none hcl (dfree nbl)
theorem ok_prop (F : At K mg "propose" s_propose ["platform", "given", "row"]) (T : Txt P w K mg A) (c_changes_in : Cal P w K mg base 1 "changes_in" (spChs K) []) (c_Proposal : Mak P w K mg base 1 "Proposal" A.CQ (spIniQ A) []) (m_put_proposal : Met P w K mg base 4 A.CP "put_proposal" (spPut A) []) :
    Cal P w K mg base 5 "propose" (spOpR A K 2 fun l r => .propose (l.getD 0 0) (l.getD 1 0) r) [] := by
  refine F.cal sc_propose (fun vs H Q E h => ?_) (fun f cdv Ar outer s H vs Q E hr h => ?_)
  · obtain ⟨L, b, c, g, r, args, row, rfl, _⟩ := h
    rfl
  · obtain ⟨L, b, c, g, r, args, row, rfl, B, W, hc, hn, hS, hR, q⟩ := h
    obtain ⟨x, y, rfl⟩ := len2 hn
    refine ⟨_, (pss_cons (ps_asg (pv 1) (pg_unl rfl (pgs_cons (pg_name (i := 3) sc_propose.nd rfl (Or.inl rfl)) (pgs_cons (pg_name (i := 4) sc_propose.nd rfl (Or.inl rfl)) pgs_nil))))
      (pss_cons (ps_set (i := 5) sc_propose.nd rfl (Or.inl rfl) (pe_c c_changes_in hr (by first | decide | omega) (by rfl) (pa_cons (pv 2) pa_nil)))
      (pss_cons (ps_if (PW.pt (pw_or (pt_cmpR op_ge (pv 3) (pe_fld (pv 0) rfl) (nomark _)) (pw_or (pt_cmpR op_gt (pv 4) (pe_gc (by rfl) T.g_MOST_TIME_changing) (nomark _)) (pw_or1 (pt_cmpR op_eqI (pe_callB call_lenM (by rfl) T.len (by decide +kernel) (pa_cons (pv 5) pa_nil)) pe_int (nomark _)))))) (pss_one (ps_ret (pe_lst (pa_cons (pe_un un_neg pe_int) pa_nil)))) pss_nil)
      (pss_cons (ps_if (pt_cmpR op_eqI (pe_callB call_lenM (by rfl) T.len (by decide +kernel) (pa_cons (pe_fld (pv 0) rfl) pa_nil)) (pe_gc (by rfl) T.g_MOST_PROPOSALS) (nomark _)) (pss_one (ps_ret (pe_lst (pa_cons (pe_un un_neg pe_int) pa_nil)))) pss_nil)
      (pss_one (ps_ret (pe_lst (pa_cons (pe_mt m_put_proposal hr (by first | decide | omega) (pv 0) (pa_cons (pe_mk c_Proposal hr (by first | decide | omega) (by rfl) (pa_cons (pv 3) (pa_cons (pv 4) (pa_cons (pv 5) pa_nil)))) pa_nil)) pa_nil)))))))), ?_⟩
    walk_at "n"
    refine x_asg (x_val (val_var rfl) (x_ul2 hS ?_))
    walk_at "n"
    refine x_set (x_call1 (x_val (val_var rfl) ?_))
    refine ⟨r, row, rfl, hR, fun H1 cl as s1 ncl e1 t1 => ?_⟩
    have B1 := B.mono s1
    have elen : (as.map V.ref).length = (chsOf row).length := by rw [List.length_map, t1.len, List.length_map]
    have e0 : Kex7.step (some b) (.propose x y row) = if b.people ≤ x ∨ 100000 < y ∨ Kex7.areChanges row = false then (some b, .value (-22)) else if 20 ≤ b.proposals.length then (some b, .value (-28)) else (some (Kex7.settle (addB b x y (Kex7.changesOf row))), .value b.proposals.length) := rfl
    have no : (b.people ≤ x ∨ 100000 < y ∨ Kex7.areChanges row = false) → ∀ p, H1 p = none → Q (.ref p) (upd H1 p (.lst [.int (-22)])) := fun h p np => q.put0 (e0.trans (if_pos h)) W hc B s1 np rfl
    walk_at "n"
    refine x_ifOr (by walk_at "ans") (fun h1 => x_ret (x_lstV (by walk_at "vala") fun p np => no (.inl ?_) p np)) (fun h1 => ?_)
    · have := of_decide_eq_true h1
      omega
    refine x_ifOr (by walk_at "ans") (fun h2 => x_ret (x_lstV (by walk_at "vala") fun p np => no (.inr (.inl ?_)) p np)) (fun h2 => ?_)
    · have := of_decide_eq_true h2
      omega
    have vl : ∀ {σ : L2.St} {te : TE}, Val te σ H1 (.ref cl) → Val (tCB (rLenM K) (tCons te tNil)) σ H1 (vN (chsOf row).length) := fun hv => by
      rw [← elen]
      exact val_len hv (SqL.of e1)
    refine x_ifP (ans_test (val_I0 (vl (val_var rfl)) val_c)) (fun h3 => x_ret (x_lstV (by walk_at "vala") fun p np => no (.inr (.inr (chs_nil.mp ?_))) p np)) (fun h3 => ?_)
    · omega
    have h1 := of_decide_eq_false h1
    have h2 := of_decide_eq_false h2
    have hA : Kex7.areChanges row = true := by
      cases z : Kex7.areChanges row with
      | true => rfl
      | false =>
        have := chs_nil.mpr z
        omega
    rw [if_neg (by
      rintro (z | z | z)
      · omega
      · omega
      · rw [hA] at z
        cases z)] at e0
    walk_at "n"
    refine x_ifP (ans_test (val_I0 (v_prps B1 T (val_var rfl)) val_c)) (fun h4 => x_ret (x_lstV (xs := [.int (-28)]) (by walk_at "vala") fun p np => q.put0 (e0.trans (if_pos ?_)) W hc B s1 np rfl)) (fun h4 => ?_)
    · omega
    have hpl := W.prs
    rw [if_neg (by omega)] at e0
    have ec : chsOf row = Kex7.changesOf row := if_pos hA
    obtain ⟨g1, g4, gk⟩ := chs_ok hA
    rw [ec] at t1 g1 g4 gk
    have W1 := W.add hc (author := x) (time := y) (by omega) g1 g4 gk
    walk_at "n"
    refine x_ret (x_lst1 (put_new (c := c) B s1 W1 (val_var rfl) (val_var rfl) (val_var rfl) (val_var rfl) ncl e1 t1 fun H2 L2 B2 f2 => ?_))
    exact ⟨small_le (by show 1 ≤ 1000000; decide), fun p np => q.put e0 W1.settle B2 f2 np rfl⟩
/-! ### revert -/
theorem x_forZ {σ : L2.St} {H : Hp} {a a2 : Addr} {xs ys : List V} {ts : TA} {g : TG} {t : TS} {D : Ends} (hv : ValA ts σ H [.ref a, .ref a2]) (hx : SqL K H a xs) (hy : SqL K H a2 ys) (hl : xs.length = ys.length) (Pv : Nat → L2.St → Hp → Prop) (h0 : Pv 0 σ H) (hq : ∀ i σ H, Pv i σ H → SqL K H a xs ∧ SqL K H a2 ys)
    (hs : ∀ (i : Nat) (x y : V) (tt : Addr) (σ : L2.St) (H : Hp), xs[i]? = some x → ys[i]? = some y → Pv i σ H → H tt = none → g (.ref tt) σ (upd H tt (.tup [x, y])) fun σ2 H2 => t { D with nx := Pv (i + 1), ct := Pv (i + 1), bk := D.nx } σ2 H2) (hd : ∀ σ H, Pv xs.length σ H → D.nx σ H) : tFor (iZip K ts) g t D σ H :=
  hv _ ⟨a, a2, xs, ys, rfl, hx, hy, RZ.for_zipL hl Pv h0 hq hs hd⟩
theorem rev_at {p : Kex7.Proposal} {k : Nat} {c : Kex7.Change} {v : Nat} (h1 : p.changes[k]? = some c) (h2 : p.before[k]? = some v) : (Kex7.reversed p)[k]? = some ⟨c.key, c.value, v⟩ := by
  unfold Kex7.reversed
  rw [List.getElem?_zipWith, h1, h2]
theorem ok_rvt (F : At K mg "revert" s_revert ["platform", "given"]) (T : Txt P w K mg A) (c_Proposal : Mak P w K mg base 1 "Proposal" A.CQ (spIniQ A) []) (m_put_proposal : Met P w K mg base 4 A.CP "put_proposal" (spPut A) []) : Cal P w K mg base 5 "revert" (spOp A K 3 (rq3 .revert)) [] := by
  refine F.cal sc_revert (fun vs H Q E h => ?_) (fun f cdv Ar outer s H vs Q E hr h => ?_)
  · obtain ⟨L, b, c, g, args, rfl, _⟩ := h
    rfl
  · obtain ⟨L, b, c, g, args, rfl, B, W, hc, hn, hS, q⟩ := h
    obtain ⟨i, x, y, rfl⟩ := len3 hn
    refine ⟨_, (pss_cons (ps_asg (pv 1) (pg_unl rfl (pgs_cons (pg_name (i := 2) sc_revert.nd rfl (Or.inl rfl)) (pgs_cons (pg_name (i := 3) sc_revert.nd rfl (Or.inl rfl)) (pgs_cons (pg_name (i := 4) sc_revert.nd rfl (Or.inl rfl)) pgs_nil)))))
      (pss_cons (ps_if (pt_cmpR op_ge (pv 2) (pe_callB call_lenM (by rfl) T.len (by decide +kernel) (pa_cons (pe_fld (pv 0) rfl) pa_nil)) (nomark _)) (pss_one (ps_ret (pe_lst (pa_cons (pe_un un_neg pe_int) pa_nil)))) pss_nil)
      (pss_cons (ps_if (PW.pt (pw_or (pt_cmpR op_ge (pv 3) (pe_fld (pv 0) rfl) (nomark _)) (pw_or1 (pt_cmpR op_gt (pv 4) (pe_gc (by rfl) T.g_MOST_TIME_changing) (nomark _))))) (pss_one (ps_ret (pe_lst (pa_cons (pe_un un_neg pe_int) pa_nil)))) pss_nil)
      (pss_cons (ps_set (i := 5) sc_revert.nd rfl (Or.inl rfl) (pe_ix ix_list (pe_fld (pv 0) rfl) (pv 2) (fun _ _ => rfl)))
      (pss_cons (ps_if (pt_cmpR op_neI (pe_fld (pv 5) rfl) (pe_gc (by rfl) T.g_APPLIED) (nomark _)) (pss_one (ps_ret (pe_lst (pa_cons (pe_un un_neg pe_int) pa_nil)))) pss_nil)
      (pss_cons (ps_if (pt_cmpR op_eqI (pe_callB call_lenM (by rfl) T.len (by decide +kernel) (pa_cons (pe_fld (pv 0) rfl) pa_nil)) (pe_gc (by rfl) T.g_MOST_PROPOSALS) (nomark _)) (pss_one (ps_ret (pe_lst (pa_cons (pe_un un_neg pe_int) pa_nil)))) pss_nil)
      (pss_cons (ps_set (i := 6) sc_revert.nd rfl (Or.inl rfl) (pe_lst pa_nil))
      (pss_cons (ps_for PassesOwn.never rfl (pi_zip (by rfl) T.zip (pa_cons (pe_fld (pv 5) rfl) (pa_cons (pe_fld (pv 5) rfl) pa_nil))) (pg_tup rfl (pgs_cons (pg_name (i := 7) sc_revert.nd rfl (Or.inl rfl)) (pgs_cons (pg_name (i := 8) sc_revert.nd rfl (Or.inl rfl)) pgs_nil))) (pss_one (ps_expr (pe_bm PySem.F.plainAttrs_list PySem.F.slot_list_append PySem.F.type_list_append mt_append (pv 6) (pa_cons (pe_tup (pa_cons (pe_ix ix_tup (pv 7) pe_int (fun _ _ => rfl)) (pa_cons (pe_ix ix_tup (pv 7) pe_int (fun _ _ => rfl)) (pa_cons (pv 8) pa_nil)))) pa_nil)))))
      (pss_one (ps_ret (pe_lst (pa_cons (pe_mt m_put_proposal hr (by first | decide | omega) (pv 0) (pa_cons (pe_mk c_Proposal hr (by first | decide | omega) (by rfl) (pa_cons (pv 3) (pa_cons (pv 4) (pa_cons (pv 6) pa_nil)))) pa_nil)) pa_nil)))))))))))), ?_⟩
    walk_at "n"
    refine x_asg (x_val (val_var rfl) (x_ul3 hS ?_))
    walk_at "n"
    refine x_ifP (ans_test (val_I0 (val_var rfl) (v_prps B T (val_var rfl)))) (fun h1 => x_ret (x_lstV (xs := [.int (-2)]) (by walk_at "vala") fun p np => q.put0 (res := .value (-2)) ?_ W hc B (Same.refl H) np rfl)) (fun h1 => ?_)
    · show (match b.proposals[i]? with | none => _ | some p => _) = _
      rw [List.getElem?_eq_none (by omega)]
    have hi : i < b.proposals.length := by omega
    have hp := W.p hi
    have hat := at_prs (L := L) hi
    have e0 : Kex7.step (some b) (.revert i x y) = if b.people ≤ x ∨ 100000 < y then (some b, .value (-22)) else if (pr b i).status ≠ 1 then (some b, .value (-16)) else Kex7.addProposal b x y (Kex7.reversed (pr b i)) := by
      show (match b.proposals[i]? with | none => _ | some p => _) = _
      rw [pr_at hi]
      rfl
    have no : (b.people ≤ x ∨ 100000 < y) → ∀ p, H p = none → Q (.ref p) (upd H p (.lst [.int (-22)])) := fun h p np => q.put0 (e0.trans (if_pos h)) W hc B (Same.refl H) np rfl
    walk_at "n"
    refine x_ifOr (by walk_at "ans") (fun h2 => x_ret (x_lstV (by walk_at "vala") fun p np => no (.inl ?_) p np)) (fun h2 => ?_)
    · have := of_decide_eq_true h2
      omega
    refine x_ifP (by walk_at "ans") (fun h3 => x_ret (x_lstV (by walk_at "vala") fun p np => no (.inr ?_) p np)) (fun h3 => ?_)
    · omega
    have h2 := of_decide_eq_false h2
    rw [if_neg (by omega)] at e0
    walk_at "n"
    refine x_setV (by walk_at "val") ?_
    walk_at "n"
    refine x_if (by walk_at "ans") (fun h4 => x_ret (x_lstV (xs := [.int (-16)]) (by walk_at "vala") fun p np => q.put0 (e0.trans (if_pos ?_)) W hc B (Same.refl H) np rfl)) (fun h4 => ?_)
    · intro e
      rw [e] at h4
      exact absurd h4 (by decide)
    have s1 : (pr b i).status = 1 := by
      cases z : decide (((pr b i).status : Int) = 1) with
      | true =>
        have := of_decide_eq_true z
        omega
      | false =>
        rw [z] at h4
        cases h4
    rw [if_neg (fun e => e s1)] at e0
    have e1 : Kex7.step (some b) (.revert i x y) = if 20 ≤ b.proposals.length then (some b, .value (-28)) else (some (Kex7.settle (addB b x y (Kex7.reversed (pr b i)))), .value b.proposals.length) := e0
    walk_at "n"
    refine x_ifP (ans_test (val_I0 (v_prps B T (val_var rfl)) val_c)) (fun h5 => x_ret (x_lstV (xs := [.int (-28)]) (by walk_at "vala") fun p np => q.put0 (e1.trans (if_pos ?_)) W hc B (Same.refl H) np rfl)) (fun h5 => ?_)
    · omega
    have hpl := W.prs
    rw [if_neg (by omega)] at e1
    have hbl := hp.bef s1
    have hrl : (Kex7.reversed (pr b i)).length = (pr b i).changes.length := by
      unfold Kex7.reversed
      rw [List.length_zipWith, hbl, Nat.min_self]
    have hrk : ∀ z ∈ Kex7.reversed (pr b i), z.key < 16 := fun z hz => by
      obtain ⟨k, hk⟩ := List.getElem?_of_mem hz
      have l1 := len_at hk
      rw [hrl] at l1
      have l2 : k < (pr b i).before.length := by omega
      rw [rev_at (List.getElem?_eq_getElem l1) (List.getElem?_eq_getElem l2)] at hk
      rw [← Option.some.inj hk]
      exact hp.key (pr b i).changes[k] (List.getElem_mem l1)
    have W1 := W.add hc (author := x) (time := y) (cs := Kex7.reversed (pr b i)) (by omega) (by rw [hrl]; exact hp.ne) (by rw [hrl]; exact hp.le) hrk
    have hcl : ((L.ch i).map V.ref).length = (pr b i).changes.length := by rw [List.length_map, (B.ch i hi).len, List.length_map]
    walk_at "n"
    refine x_set (x_lstV vala_nil fun F nF => ?_)
    have s0 : Same H (upd H F (.lst [])) := same_upd nF
    have gF : (upd H F (.lst [])) F = some (.lst []) := upd_same
    generalize upd H F (.lst []) = H0 at s0 gF
    have B0 := B.mono s0
    walk_at "n"
    refine x_forZ (vala_cons (val_fl (val_var rfl) (fq_changes B0 T hi)) (vala_cons (val_fl (val_var rfl) (fq_before B0 T hi)) vala_nil)) (s_chg B0 hi) (s_bef B0 hi) (by rw [hcl, List.length_map, hbl])
      (fun k σ H' => ∃ v7 v8 as, σ = [some (.ref (L.ad .plat)), some (.ref g), some (vN i), some (vN x), some (vN y), some (.ref (L.ad (.pin i))), some (.ref F), v7, v8] ∧ Same H H' ∧ H' F = some (.lst (as.map V.ref)) ∧ Tups H' as (((Kex7.reversed (pr b i)).take k).map tCh))
      ⟨none, none, [], rfl, s0, gF, Tups.nil⟩ ?_ ?_ ?_
    · rintro k σ H' ⟨v7, v8, as, rfl, sm, _, _⟩
      exact ⟨s_chg (B.mono sm) hi, s_bef (B.mono sm) hi⟩
    · rintro k z v tt σ H' hz hv ⟨v7, v8, as, rfl, sm, f1, t1⟩ nt
      have l1 : k < (pr b i).changes.length := by
        have := len_at hz
        omega
      have hcx : (pr b i).changes[k]? = some (pr b i).changes[k] := List.getElem?_eq_getElem l1
      obtain ⟨t, rfl, ht⟩ := ch_at (B.mono sm) hi hz hcx
      obtain ⟨bv, hb, rfl⟩ := map_at hv
      have hr := rev_at hcx hb
      generalize (pr b i).changes[k] = cx at hcx ht hr
      have st := same_upd (o := .tup [.ref t, vN bv]) nt
      refine x_un2 (SqT.of upd_same) ?_
      have sm2 := sm.trans st
      have ht2 := SqT.of (K := K) (st _ _ ht)
      have f2 := st _ _ f1
      have t2 := t1.mono fun a v => st a _
      generalize upd H' tt (.tup [.ref t, vN bv]) = H2 at sm2 ht2 f2 t2
      have a0 : atI (tCh cx) 0 = some (vN cx.key) := atI_0 rfl
      have a2 : atI (tCh cx) 2 = some (vN cx.value) := atI_2 rfl
      walk_at "n"
      refine x_drop (x_app (val_var rfl) f2 (x_tupV (xs := [vN cx.key, vN cx.value, vN bv]) (vala_cons (val_ixT (val_var rfl) val_c ht2 a0) (vala_cons (val_ixT (val_var rfl) val_c ht2 a2) (vala_cons (val_var rfl) vala_nil))) fun u nu => ?_))
      have su := same_upd (o := .tup [vN cx.key, vN cx.value, vN bv]) nu
      have asl : as.length ≤ 4 := by
        rw [t1.len, List.length_map, List.length_take, hrl]
        have := hp.le
        omega
      refine x_rapp (su _ _ f2) (by rw [List.length_map]; omega) ?_
      walk_at "n"
      refine ⟨_, _, as ++ [u], rfl, same_upd2 (sm2.trans su) nF, ?_, ?_⟩
      · rw [upd_same, List.map_append]
        rfl
      · rw [take_more hr, List.map_append]
        exact ((t2.mono fun a v => su a _).snoc upd_same).mono fun a v z => upd_at (ne_of z (su _ _ f2) (by intro y; cases y)) z
    · rintro σ H' ⟨v7, v8, as, rfl, sm, f1, t1⟩
      rw [hcl, ← hrl, List.take_length] at t1
      walk_at "n"
      refine x_ret (x_lst1 (put_new (c := c) B sm W1 (val_var rfl) (val_var rfl) (val_var rfl) (val_var rfl) nF f1 t1 fun H2 L2 B2 f2 => ?_))
      exact ⟨small_le (by show 1 ≤ 1000000; decide), fun p np => q.put e1 W1.settle B2 f2 np rfl⟩
end
end Gc
namespace Gc
open PySem PySem.Spec PyProof.Rows L2
open C8 (Cal Mak Met CalAt pe_c pe_mk pe_mt pe_mt0 pe_gc)
/-! the short tactics (each is a row of one's own, tried by its key) -/
local macro_rules | `(tactic| walk_at "fl") => `(tactic| assumption)
local macro_rules | `(tactic| walk_at "side") => `(tactic| first | assumption | exact Or.inr ⟨by decide, by decide⟩ | exact Or.inl ⟨by decide, by decide⟩ | decide | (refine ⟨by decide, by decide⟩) | omega)
local macro_rules | `(tactic| walk_at "val") => `(tactic| first
  | with_reducible exact val_c
  | ((with_reducible refine' val_var ?vv); (case vv => rfl))
  | ((with_reducible refine' val_fl ?vfa ?vfb); (case vfa => walk_at "val"); (case vfb => walk_at "fl"))
  | ((with_reducible refine' val_len ?vla ?vlb); (case vla => walk_at "val"); (case vlb => walk_at "sq"))
  | ((with_reducible refine' val_I0 ?v0a ?v0b); (case v0a => walk_at "val"); (case v0b => walk_at "val"))
  | ((with_reducible refine' val_I ?via ?vib ?vic); (case via => walk_at "val"); (case vib => walk_at "val"); (case vic => walk_at "side"))
  | ((with_reducible refine' val_neg ?vn); (case vn => walk_at "val"))
  | ((with_reducible refine' val_isN ?vs); (case vs => walk_at "val"))
  | ((with_reducible refine' val_ixL ?xa ?xb ?xc ?xd); (case xa => walk_at "val"); (case xb => walk_at "val"); (case xc => walk_at "sq"); (case xd => walk_at "at"))
  | ((with_reducible refine' val_ixT ?ya ?yb ?yc ?yd); (case ya => walk_at "val"); (case yb => walk_at "val"); (case yc => walk_at "sqt"); (case yd => walk_at "at"))
  | ((with_reducible refine' val_chain ?ca ?cb ?cc); (case ca => walk_at "val"); (case cb => walk_at "val"); (case cc => walk_at "val"))
  | ((with_reducible refine' val_max2 ?ma ?mb); (case ma => walk_at "val"); (case mb => walk_at "val")))
local macro_rules | `(tactic| walk_at "sq") => `(tactic| first | assumption | exact SqL.of (by assumption))
local macro_rules | `(tactic| walk_at "sqt") => `(tactic| first | assumption | exact SqT.of (by assumption))
local macro_rules | `(tactic| walk_at "at") => `(tactic| first | assumption | rfl)
local macro_rules | `(tactic| walk_at "ans") => `(tactic| first
  | ((with_reducible refine' ans_test ?at_); (case at_ => walk_at "val"))
  | ((with_reducible refine' ans_B ?ab_); (case ab_ => walk_at "val"))
  | ((with_reducible refine' ans_or2 ?ao ?ap); (case ao => walk_at "ans"); (case ap => (intro _; walk_at "ans")))
  | ((with_reducible refine' ans_and3 ?aq ?ar); (case aq => walk_at "ans"); (case ar => (intro _; walk_at "ans")))
  | ((with_reducible refine' ans_notM ?an); (case an => walk_at "ans")))
local macro_rules | `(tactic| walk_at "vala") => `(tactic| first
  | with_reducible exact vala_nil
  | ((with_reducible refine' vala_cons ?wa ?wb); (case wa => walk_at "val"); (case wb => walk_at "vala")))
local macro_rules | `(tactic| walk_at "n") => `(tactic| (repeat (first | (with_reducible refine x_gn ?_) | (with_reducible refine st_seq ?_) | (with_reducible refine st_next ?_) | dsimp only)))
local macro_rules | `(tactic| walk_at "fl") => `(tactic| first
  | assumption
  | ((with_reducible refine' fp_people ?fB ?fT); (case fB => assumption); (case fT => assumption))
  | ((with_reducible refine' fp_clock ?fB ?fT); (case fB => assumption); (case fT => assumption))
  | ((with_reducible refine' fp_settings ?fB ?fT); (case fB => assumption); (case fT => assumption))
  | ((with_reducible refine' fp_classes ?fB ?fT); (case fB => assumption); (case fT => assumption))
  | ((with_reducible refine' fp_needs ?fB ?fT); (case fB => assumption); (case fT => assumption))
  | ((with_reducible refine' fp_own_counts ?fB ?fT); (case fB => assumption); (case fT => assumption))
  | ((with_reducible refine' fp_freezes ?fB ?fT); (case fB => assumption); (case fT => assumption))
  | ((with_reducible refine' fp_proposals ?fB ?fT); (case fB => assumption); (case fT => assumption))
  | ((with_reducible refine' fp_guards ?fB ?fT); (case fB => assumption); (case fT => assumption))
  | ((with_reducible refine' fp_log ?fB ?fT); (case fB => assumption); (case fT => assumption))
  | ((with_reducible refine' fp_past ?fB ?fT); (case fB => assumption); (case fT => assumption))
  | ((with_reducible refine' fq_author ?fB ?fT ?fH); (case fB => assumption); (case fT => assumption); (case fH => assumption))
  | ((with_reducible refine' fq_time ?fB ?fT ?fH); (case fB => assumption); (case fT => assumption); (case fH => assumption))
  | ((with_reducible refine' fq_changes ?fB ?fT ?fH); (case fB => assumption); (case fT => assumption); (case fH => assumption))
  | ((with_reducible refine' fq_approvals ?fB ?fT ?fH); (case fB => assumption); (case fT => assumption); (case fH => assumption))
  | ((with_reducible refine' fq_status ?fB ?fT ?fH); (case fB => assumption); (case fT => assumption); (case fH => assumption))
  | ((with_reducible refine' fq_end ?fB ?fT ?fH); (case fB => assumption); (case fT => assumption); (case fH => assumption))
  | ((with_reducible refine' fq_before ?fB ?fT ?fH); (case fB => assumption); (case fT => assumption); (case fH => assumption)))
local macro_rules | `(tactic| walk_at "sq") => `(tactic| first | assumption | exact SqL.of (by assumption) | exact s_sets (by assumption) | exact s_cls (by assumption) | exact s_need (by assumption) | exact s_own (by assumption) | exact s_frz (by assumption) | exact s_prs (by assumption) | exact s_grd (by assumption) | exact s_log (by assumption) | exact s_past (by assumption) | exact s_chg (by assumption) (by assumption) | exact s_apr (by assumption) (by assumption) | exact s_bef (by assumption) (by assumption))
local macro_rules | `(tactic| walk_at "at") => `(tactic| first | assumption | exact atI_0 rfl | exact atI_1 rfl | exact atI_2 rfl)
abbrev s_about_setting : Stmt := topS 38
theorem sc_about_setting : FnScope ["platform", "number", "given", "key", "some", "found", "time", "which", "value", "source", "one"] ["platform", "number", "given"] (defScope s_about_setting) := ⟨rfl, rfl, rfl, by decide +kernel, rfl, by decide +kernel, by decide +kernel⟩
abbrev s_about_proposal : Stmt := topS 39
theorem sc_about_proposal : FnScope ["platform", "number", "given", "index", "proposal"] ["platform", "number", "given"] (defScope s_about_proposal) := ⟨rfl, rfl, rfl, by decide +kernel, rfl, by decide +kernel, by decide +kernel⟩
abbrev s_about_time : Stmt := topS 40
theorem sc_about_time : FnScope ["platform", "number", "given", "time", "found"] ["platform", "number", "given"] (defScope s_about_time) := ⟨rfl, rfl, rfl, by decide +kernel, rfl, by decide +kernel, by decide +kernel⟩
section
variable {P : Program} {w : World} {K : PySem.W.Frag} {mg : Str → Option Value} {base : Heap} {A : Ad}
/-! ## The asking operations -/
section
variable {L L' : Lay} {b b' : Board} {c : Nat} {H H1 : Hp} {q : Kex7.Request} {Q : VK} {p : Addr} {res : Kex7.Result} {l : List V}
/-- the answer lies at p already -/
theorem Out.give (h : Out A L b c H q Q) (e : Kex7.step (some b) q = (some b, res)) (W : Wf c b) (hc : c + 1 ≤ 1000) (B : Bd A L b H) (s : Same H H1) (np : H p = none) (hp : H1 p = some (.lst l)) (el : l = (Kex7Neutral.fields res).map V.int) : Q (.ref p) H1 :=
  h _ _ _ p res e (W.up hc) (B.mono s) (Fr.same s) (fun x o hx hf z => by
    rw [z, np] at hx
    cases hx) (by rw [hp, el])
end
theorem ints_vN (l : List Nat) : (Kex7.toInts l).map V.int = l.map vN := by
  unfold Kex7.toInts
  rw [List.map_map]
  rfl
/-- what is asked: a number, and what is given -/
def spAsk (A : Ad) (K : PySem.W.Frag) (ok : Nat → List Nat → Kex7.Request → Prop) : Sp := fun vs H Q _ => ∃ (L : Lay) (b : Board) (c : Nat) (g : Addr) (k : Nat) (args : List Nat) (q : Kex7.Request), vs = [.ref (L.ad .plat), vN k, .ref g] ∧ Bd A L b H ∧ Wf c b ∧ c + 1 ≤ 1000 ∧ SqL K H g (args.map vN) ∧ ok k args q ∧ Out A L b c H q Q
/-! ### about_setting -/
inductive okSet : Nat → List Nat → Kex7.Request → Prop
  | v (x : Nat) : okSet 14 [x] (.value x)
  | t (x y : Nat) : okSet 15 [x, y] (.valueAt x y)
  | h (x : Nat) : okSet 20 [x] (.history x)
theorem okSet.key {k : Nat} {args : List Nat} {q : Kex7.Request} (o : okSet k args q) : ∃ x r, args = x :: r ∧ ∀ b : Board, 16 ≤ x → Kex7.step (some b) q = (some b, .value (-2)) := by
  cases o with
  | v x => exact ⟨x, _, rfl, fun b h => congrArg (fun r => (some b, r)) (if_pos h)⟩
  | t x y => exact ⟨x, _, rfl, fun b h => congrArg (fun r => (some b, r)) (if_pos h)⟩
  | h x => exact ⟨x, _, rfl, fun b h => congrArg (fun r => (some b, r)) (if_pos h)⟩
theorem past_zip {L : Lay} {b : Board} {H : Hp} (B : Bd A L b H) {t : Addr} {a : Kex7.Assignment} (h : (t, a) ∈ L.pa.zip b.history) : H t = some (.tup (tPa a)) := by
  obtain ⟨k, hk⟩ := List.getElem?_of_mem h
  obtain ⟨h1, h2⟩ := List.getElem?_zip_eq_some.mp hk
  exact B.pa.is k t _ h1 (by rw [List.getElem?_map, h2]; rfl)
theorem zip_snd {L : Lay} {b : Board} {H : Hp} (B : Bd A L b H) (u : Kex7.Assignment → Bool) : ((L.pa.zip b.history).filter fun p => u p.2).map (·.2) = b.history.filter u := by
  have e : (L.pa.zip b.history).map (·.2) = b.history := List.map_snd_zip (by
    rw [B.pa.len, List.length_map]
    exact Nat.le_refl _)
  have z := List.filter_map (p := u) (f := fun p : Addr × Kex7.Assignment => p.2) (l := L.pa.zip b.history)
  rw [e] at z
  rw [z]
  rfl
def hist3 (a : Kex7.Assignment) : List Nat := [a.time, a.value, a.source]
theorem hist3_len (l : List Kex7.Assignment) : (l.flatMap hist3).length = 3 * l.length := by
  induction l with
  | nil => rfl
  | cons x r ih =>
    rw [List.flatMap_cons, List.length_append, ih, List.length_cons]
    show 3 + 3 * r.length = 3 * (r.length + 1)
    omega
theorem ok_aset (F : At K mg "about_setting" s_about_setting ["platform", "number", "given"]) (T : Txt P w K mg A) (m_value_at : Met P w K mg base 1 A.CP "value_at" (spVat A) []) : Cal P w K mg base 2 "about_setting" (spAsk A K okSet) [] := by
  refine F.cal sc_about_setting (fun vs H Q E h => ?_) (fun f cdv Ar outer s H vs Q E hr h => ?_)
  · obtain ⟨L, b, c, g, k, args, q, rfl, _⟩ := h
    rfl
  · obtain ⟨L, b, c, g, k, args, rq, rfl, B, W, hc, hS, ok, q⟩ := h
    refine ⟨_, (pss_cons (ps_set (i := 3) sc_about_setting.nd rfl (Or.inr rfl) (pe_ix ix_list (pv 2) pe_int (fun _ _ => rfl)))
      (pss_cons (ps_if (pt_cmpR op_ge (pv 3) (pe_gc (by rfl) T.g_SETTINGS) (nomark _)) (pss_one (ps_ret (pe_lst (pa_cons (pe_un un_neg pe_int) pa_nil)))) pss_nil)
      (pss_cons (ps_if (pt_cmpR op_eqI (pv 1) pe_int (nomark _)) (pss_one (ps_ret (pe_lst (pa_cons (pe_ix ix_list (pe_fld (pv 0) rfl) (pv 3) (fun _ _ => rfl)) pa_nil)))) pss_nil)
      (pss_cons (ps_if (pt_cmpR op_eqI (pv 1) pe_int (nomark _)) (pss_one (ps_ret (pe_ifExp (pt_cmpR op_gt (pe_ix ix_list (pv 2) pe_int (fun _ _ => rfl)) (pe_fld (pv 0) rfl) (nomark _)) (pe_lst (pa_cons (pe_un un_neg pe_int) pa_nil)) (pe_lst (pa_cons (pe_mt m_value_at hr (by first | decide | omega) (pv 0) (pa_cons (pv 3) (pa_cons (pe_ix ix_list (pv 2) pe_int (fun _ _ => rfl)) pa_nil))) pa_nil))))) pss_nil)
      (pss_cons (ps_setLc (i := 4) (own := [("one", 10)]) (g := gName 10) (tt := (tTest (tOp (rI0 fun i j => .bl (decide (i = j))) (tOp (rIxT K) (tVar 10) (tC (.int 1))) (tVar 3)))) (te := (tVar 10)) rfl sc_about_setting.nd rfl rfl (sw_true rfl rfl rfl (by decide +kernel)) (pi_list (pe_fld (pv 0) rfl)) (blkOk_by (N := ["platform", "number", "given", "key", "some", "found", "time", "which", "value", "source", "one"]) (sc := defScope s_about_setting) (by decide +kernel)) (fun _ _ _ _ _ => pg_name (i := 10) sc_about_setting.nd rfl (Or.inl rfl)) (fun _ _ _ _ _ => by exact (pts_one (pt_cmpR op_eqI (pe_ix ix_tup (pv 10) pe_int (fun _ _ => rfl)) (pv 3) (nomark _)))) (fun _ _ _ _ _ => by exact (pv 10)))
      (pss_cons (ps_set (i := 5) sc_about_setting.nd rfl (Or.inl rfl) (pe_lst (pa_cons (pe_callB call_lenM (by rfl) T.len (by decide +kernel) (pa_cons (pv 4) pa_nil)) pa_nil)))
      (pss_cons (ps_for PassesOwn.never rfl (pi_list (pv 4)) (pg_tup rfl (pgs_cons (pg_name (i := 6) sc_about_setting.nd rfl (Or.inl rfl)) (pgs_cons (pg_name (i := 7) sc_about_setting.nd rfl (Or.inl rfl)) (pgs_cons (pg_name (i := 8) sc_about_setting.nd rfl (Or.inl rfl)) (pgs_cons (pg_name (i := 9) sc_about_setting.nd rfl (Or.inl rfl)) pgs_nil))))) (pss_one (ps_expr (pe_bm PySem.F.plainAttrs_list PySem.F.slot_list_extend PySem.F.type_list_extend mt_extend (pv 5) (pa_cons (pe_lst (pa_cons (pv 6) (pa_cons (pv 8) (pa_cons (pv 9) pa_nil)))) pa_nil)))))
      (pss_one (ps_ret (pv 5)))))))))), ?_⟩
    obtain ⟨x, r, rfl, big⟩ := ok.key
    walk_at "n"
    refine x_setV (val_ixL (val_var rfl) val_c hS at_0) ?_
    walk_at "n"
    refine x_ifP (by walk_at "ans") (fun h1 => x_ret (x_lstV (xs := [.int (-2)]) (by walk_at "vala") fun p np => q.put0 (big b (by omega)) W hc B (Same.refl H) np rfl)) (fun h1 => ?_)
    have hx : ¬ 16 ≤ x := by omega
    have hxv : x < b.values.length := by rw [W.vals]; omega
    have a1 := at_vN hxv
    walk_at "n"
    cases ok with
    | v =>
      refine x_ifP (by walk_at "ans") (fun _ => x_ret (x_lstV (xs := [vN (b.values.getD x 0)]) (vala_cons (val_ixL (by walk_at "val") (by walk_at "val") (s_sets B) a1) vala_nil) fun p np => q.put0 (congrArg (fun r => (some b, r)) (if_neg hx)) W hc B (Same.refl H) np rfl)) (fun h => absurd (by decide) h)
    | t _ y =>
      refine x_ifP (by walk_at "ans") (fun h => absurd h (by decide)) (fun _ => ?_)
      walk_at "n"
      refine x_ifP (by walk_at "ans") (fun _ => ?_) (fun h => absurd (by decide) h)
      have e0 : Kex7.step (some b) (.valueAt x y) = (some b, if 16 ≤ x then .value (-2) else if b.clock < y then .value (-22) else .value (Kex7.valueAt b x y)) := rfl
      rw [if_neg hx] at e0
      refine x_ret (x_ifE (ans_test (val_I0 (val_ixL (val_var rfl) val_c hS at_1) (by walk_at "val"))) (fun h2 => x_lstV (xs := [.int (-22)]) (by walk_at "vala") fun p np => q.put0 (e0.trans (congrArg (fun r => (some b, r)) (if_pos ?_))) W hc B (Same.refl H) np rfl) (fun h2 => ?_))
      · have := of_decide_eq_true h2
        omega
      · have h2 := of_decide_eq_false h2
        rw [if_neg (by omega)] at e0
        refine x_lst1 (x_meth (by walk_at "val") (B.at_ .plat trivial) (lpn_value_at L b) (vala_cons (val_var rfl) (vala_cons (val_ixL (val_var rfl) val_c hS at_1) vala_nil)) ?_)
        refine ⟨L, b, x, y, rfl, B, ?_⟩
        exact ⟨small_le (by show 1 ≤ 1000000; decide), fun p np => q.put0 e0 W hc B (Same.refl H) np rfl⟩
    | h =>
      refine x_ifP (by walk_at "ans") (fun h => absurd h (by decide)) (fun _ => ?_)
      walk_at "n"
      refine x_ifP (by walk_at "ans") (fun h => absurd h (by decide)) (fun _ => ?_)
      have e0 : Kex7.step (some b) (.history x) = (some b, if 16 ≤ x then .value (-2) else .values ((b.history.filter fun a => a.key == x).length : Nat) (Kex7.toInts ((b.history.filter fun a => a.key == x).flatMap hist3))) := rfl
      rw [if_neg hx] at e0
      have hpa := W.past
      have hpl : L.pa.length = b.history.length := by rw [B.pa.len, List.length_map]
      have hzl : (L.pa.map V.ref).length = (L.pa.zip b.history).length := by rw [List.length_map, List.length_zip, hpl, Nat.min_self]
      have elt : ∀ {k : Nat} {v : V} {p : Addr × Kex7.Assignment}, (L.pa.map V.ref)[k]? = some v → (L.pa.zip b.history)[k]? = some p → v = .ref p.1 ∧ H p.1 = some (.tup (tPa p.2)) := fun {k v p} h1 h2 => by
        obtain ⟨t, ht, rfl⟩ := map_at h1
        obtain ⟨z1, z2⟩ := List.getElem?_zip_eq_some.mp h2
        rw [ht] at z1
        refine ⟨by rw [Option.some.inj z1], past_zip B (List.mem_of_getElem? h2)⟩
      walk_at "n"
      refine x_set (lca (cs := L.pa.zip b.history) (fun p => p.2.key == x) (fun p => .ref p.1) (by walk_at "val") (s_past B) hzl (by rw [List.length_map]; omega) (fun k v p hv hp H' sm => ?_) (fun k v p hv hp hu H' sm => ?_) fun D H1 nD s1 eD => ?_)
      · obtain ⟨rfl, ht⟩ := elt hv hp
        have ht' := SqT.of (K := K) (sm _ _ ht)
        have aa : atI (tPa p.2) 1 = some (vN p.2.key) := atI_1 rfl
        rw [← eqN]
        exact ans_test (val_I0 (val_ixT (val_var rfl) val_c ht' aa) (val_var rfl))
      · obtain ⟨rfl, ht⟩ := elt hv hp
        exact ValS.of (val_var rfl)
      have zs := zip_snd B fun a => a.key == x
      have zm : ∀ p ∈ (L.pa.zip b.history).filter (fun p => p.2.key == x), H p.1 = some (.tup (tPa p.2)) := fun p hp => past_zip B (List.mem_filter.mp hp).1
      generalize (L.pa.zip b.history).filter (fun p => p.2.key == x) = fl at eD zs zm
      have fll : fl.length = (b.history.filter fun a => a.key == x).length := by rw [← zs, List.length_map]
      have fl16 : fl.length ≤ 16000 := by
        rw [fll]
        exact Nat.le_trans (List.length_filter_le _ _) hpa
      walk_at "n"
      have vD : ∀ {σ : L2.St} {te : TE} {H2 : Hp}, Same H1 H2 → Val te σ H2 (.ref D) → Val (tCB (rLenM K) (tCons te tNil)) σ H2 (vN fl.length) := fun {σ te H2} s2 hv => by
        have z := val_len hv (SqL.of (K := K) (s2 _ _ eD))
        rw [List.length_map] at z
        exact z
      refine x_set (x_lstV (xs := [vN fl.length]) (vala_cons (vD (Same.refl H1) (val_var rfl)) vala_nil) fun F nF => ?_)
      have sF := same_upd (o := .lst [vN fl.length]) nF
      have gF : (upd H1 F (.lst [vN fl.length])) F = some (.lst [vN fl.length]) := upd_same
      have nF0 : H F = none := s1.free nF
      have s2 : Same H (upd H1 F (.lst [vN fl.length])) := s1.trans sF
      have eD2 := sF _ _ eD
      have dDF : D ≠ F := ne_of_none eD nF
      generalize upd H1 F (.lst [vN fl.length]) = H2 at gF s2 eD2
      walk_at "n"
      refine x_forL (by walk_at "val") (SqL.of eD2) (fun i σ H' => ∃ v6 v7 v8 v9 v10, σ = [some (.ref (L.ad .plat)), some (vN 20), some (.ref g), some (vN x), some (.ref D), some (.ref F), v6, v7, v8, v9, v10] ∧ Same H H' ∧ H' D = some (.lst (fl.map fun p => .ref p.1)) ∧ H' F = some (.lst (vN fl.length :: (((fl.take i).map (·.2)).flatMap hist3).map vN))) ⟨_, _, _, _, _, rfl, s2, eD2, gF⟩ ?_ ?_ ?_
      · rintro i σ H' _ ⟨v6, v7, v8, v9, v10, rfl, sm, dD, fF⟩
        exact SqL.of dD
      · rintro i y σ H' hy ⟨v6, v7, v8, v9, v10, rfl, sm, dD, fF⟩
        obtain ⟨p, hp, rfl⟩ := map_at hy
        have ht := sm _ _ (zm p (List.mem_of_getElem? hp))
        refine x_un4 (SqT.of ht) ?_
        walk_at "n"
        refine x_drop (x_ext (val_var rfl) fF (x_lstV (xs := [vN p.2.time, vN p.2.value, vN p.2.source]) (by walk_at "vala") fun t nt => ?_))
        have st := same_upd (o := .lst [vN p.2.time, vN p.2.value, vN p.2.source]) nt
        refine x_rext (st _ _ fF) upd_same ?_ ?_
        · rw [List.length_cons, List.length_map, hist3_len, List.length_map, List.length_take]
          show 3 * min i fl.length + 1 + 3 ≤ _
          omega
        · walk_at "n"
          refine ⟨_, _, _, _, _, rfl, same_upd2 (sm.trans st) nF0, upd_at dDF (st _ _ dD), ?_⟩
          rw [upd_same, take_more hp, List.map_append, List.flatMap_append, List.map_append]
          rfl
      · rintro σ H' ⟨v6, v7, v8, v9, v10, rfl, sm, dD, fF⟩
        rw [List.length_map, List.take_length, zs, fll] at fF
        walk_at "n"
        refine x_ret (x_val (by walk_at "val") (q.give e0 W hc B sm nF0 fF ?_))
        show _ = vN _ :: (Kex7.toInts _).map V.int
        rw [ints_vN]
/-! ### about_proposal -/
inductive okPro : Nat → List Nat → Kex7.Request → Prop
  | g (i : Nat) : okPro 16 [i] (.getProposal i)
  | m (i : Nat) : okPro 17 [i] (.missing i)
theorem okPro.key {k : Nat} {args : List Nat} {q : Kex7.Request} (o : okPro k args q) : ∃ i, args = [i] ∧ ∀ b : Board, b.proposals.length ≤ i → Kex7.step (some b) q = (some b, .value (-2)) := by
  cases o with
  | g i => exact ⟨i, rfl, fun b h => congrArg (fun r => (some b, r)) (by
      show (match b.proposals[i]? with | none => _ | some p => _) = _
      rw [List.getElem?_eq_none h])⟩
  | m i => exact ⟨i, rfl, fun b h => congrArg (fun r => (some b, r)) (by
      show (match b.proposals[i]? with | none => _ | some p => _) = _
      rw [List.getElem?_eq_none h])⟩
theorem ok_apro (F : At K mg "about_proposal" s_about_proposal ["platform", "number", "given"]) (T : Txt P w K mg A) (m_described : Met P w K mg base 1 A.CQ "described" (spDesc A) []) (m_approvals_of : Met P w K mg base 1 A.CP "approvals_of" (spApp A) []) : Cal P w K mg base 2 "about_proposal" (spAsk A K okPro) [] := by
  refine F.cal sc_about_proposal (fun vs H Q E h => ?_) (fun f cdv Ar outer s H vs Q E hr h => ?_)
  · obtain ⟨L, b, c, g, k, args, q, rfl, _⟩ := h
    rfl
  · obtain ⟨L, b, c, g, k, args, rq, rfl, B, W, hc, hS, ok, q⟩ := h
    refine ⟨_, (pss_cons (ps_set (i := 3) sc_about_proposal.nd rfl (Or.inl rfl) (pe_ix ix_list (pv 2) pe_int (fun _ _ => rfl)))
      (pss_cons (ps_if (pt_cmpR op_ge (pv 3) (pe_callB call_lenM (by rfl) T.len (by decide +kernel) (pa_cons (pe_fld (pv 0) rfl) pa_nil)) (nomark _)) (pss_one (ps_ret (pe_lst (pa_cons (pe_un un_neg pe_int) pa_nil)))) pss_nil)
      (pss_cons (ps_set (i := 4) sc_about_proposal.nd rfl (Or.inl rfl) (pe_ix ix_list (pe_fld (pv 0) rfl) (pv 3) (fun _ _ => rfl)))
      (pss_cons (ps_if (pt_cmpR op_eqI (pv 1) pe_int (nomark _)) (pss_one (ps_ret (pe_mt0 m_described hr (by first | decide | omega) (pv 4)))) pss_nil)
      (pss_one (ps_ret (pe_callTy call_listM (by rfl) T.list (by decide +kernel) (pa_cons (pe_mt m_approvals_of hr (by first | decide | omega) (pv 0) (pa_cons (pv 4) pa_nil)) pa_nil)))))))), ?_⟩
    obtain ⟨i, rfl, big⟩ := ok.key
    walk_at "n"
    refine x_setV (val_ixL (val_var rfl) val_c hS at_0) ?_
    walk_at "n"
    refine x_ifP (ans_test (val_I0 (val_var rfl) (v_prps B T (val_var rfl)))) (fun h1 => x_ret (x_lstV (xs := [.int (-2)]) (by walk_at "vala") fun p np => q.put0 (big b (by omega)) W hc B (Same.refl H) np rfl)) (fun h1 => ?_)
    have hi : i < b.proposals.length := by omega
    have hat := at_prs (L := L) hi
    walk_at "n"
    refine x_setV (by walk_at "val") ?_
    walk_at "n"
    cases ok with
    | g =>
      have e0 : Kex7.step (some b) (.getProposal i) = (some b, .values (pr b i).status (Kex7.toInts ([(pr b i).author, (pr b i).time, (pr b i).ended, (pr b i).approvals.length] ++ (pr b i).approvals ++ (pr b i).changes.flatMap fun c => [c.key, c.expected, c.value]))) := congrArg (fun r => (some b, r)) (by
        show (match b.proposals[i]? with | none => _ | some p => _) = _
        rw [pr_at hi])
      refine x_ifP (by walk_at "ans") (fun _ => ?_) (fun h => absurd (by decide) h)
      refine x_ret (x_meth (a := L.ad (.pin i)) (by walk_at "val") (B.at_ (.pin i) hi) (lqn_described L i _) (by walk_at "vala") ?_)
      refine ⟨L, b, c, i, rfl, B, W, hi, fun H1 p s1 np e1 => q.give e0 W hc B s1 np e1 ?_⟩
      show _ = vN _ :: (Kex7.toInts _).map V.int
      rw [ints_vN]
      rfl
    | m =>
      have e0 : Kex7.step (some b) (.missing i) = (some b, .values (Kex7.missing b (pr b i)) (Kex7.toInts [Kex7.needed b (pr b i), Kex7.validApprovals b (pr b i)])) := congrArg (fun r => (some b, r)) (by
        show (match b.proposals[i]? with | none => _ | some p => _) = _
        rw [pr_at hi])
      refine x_ifP (by walk_at "ans") (fun h => absurd h (by decide)) (fun _ => ?_)
      walk_at "n"
      refine x_ret (x_cb1 (x_meth (a := L.ad .plat) (by walk_at "val") (B.at_ .plat trivial) (lpn_approvals_of L b) (by walk_at "vala") ?_))
      refine ⟨L, b, c, i, rfl, B, W, hi, fun H1 t s1 nt e1 => ?_⟩
      exact ⟨t, _, rfl, .inr (SqT.of e1), fun p np => q.put0 e0 W hc B s1 np rfl⟩
/-! ### about_time -/
inductive okTim : Nat → List Nat → Kex7.Request → Prop
  | f (t : Nat) : okTim 18 [t] (.isFrozen t)
  | n (t : Nat) : okTim 19 [t] (.nextOpen t)
theorem okTim.key {k : Nat} {args : List Nat} {q : Kex7.Request} (o : okTim k args q) : ∃ t, args = [t] ∧ ∀ b : Board, 100000 < t → Kex7.step (some b) q = (some b, .value (-22)) := by
  cases o with
  | f t => exact ⟨t, rfl, fun b h => congrArg (fun r => (some b, r)) (if_pos h)⟩
  | n t => exact ⟨t, rfl, fun b h => congrArg (fun r => (some b, r)) (if_pos h)⟩
theorem x_ifB {σ : L2.St} {H : Hp} {te ta tb : TE} {Q : VK} (h : te σ H fun x H1 => ∃ k, x = .bl k ∧ (if k = true then ta σ H1 Q else tb σ H1 Q)) : tIf (tB te) ta tb σ H Q := h
theorem ok_atim (F : At K mg "about_time" s_about_time ["platform", "number", "given"]) (T : Txt P w K mg A) (m_is_frozen : Met P w K mg base 1 A.CP "is_frozen" (spFroz A) []) (m_next_open : Met P w K mg base 2 A.CP "next_open" (spNxt A) []) : Cal P w K mg base 3 "about_time" (spAsk A K okTim) [] := by
  refine F.cal sc_about_time (fun vs H Q E h => ?_) (fun f cdv Ar outer s H vs Q E hr h => ?_)
  · obtain ⟨L, b, c, g, k, args, q, rfl, _⟩ := h
    rfl
  · obtain ⟨L, b, c, g, k, args, rq, rfl, B, W, hc, hS, ok, q⟩ := h
    refine ⟨_, (pss_cons (ps_set (i := 3) sc_about_time.nd rfl (Or.inl rfl) (pe_ix ix_list (pv 2) pe_int (fun _ _ => rfl)))
      (pss_cons (ps_if (pt_cmpR op_gt (pv 3) (pe_gc (by rfl) T.g_MOST_TIME_asking) (nomark _)) (pss_one (ps_ret (pe_lst (pa_cons (pe_un un_neg pe_int) pa_nil)))) pss_nil)
      (pss_cons (ps_if (pt_cmpR op_eqI (pv 1) pe_int (nomark _)) (pss_one (ps_ret (pe_lst (pa_cons (pe_ifExp (pt_val (pe_mt m_is_frozen hr (by first | decide | omega) (pv 0) (pa_cons (pv 3) pa_nil))) pe_int pe_int) pa_nil)))) pss_nil)
      (pss_cons (ps_set (i := 4) sc_about_time.nd rfl (Or.inl rfl) (pe_mt m_next_open hr (by first | decide | omega) (pv 0) (pa_cons (pv 3) pa_nil)))
      (pss_one (ps_ret (pe_ifExp (pt_cmpR op_lt (pv 4) pe_int (nomark _)) (pe_lst (pa_cons (pe_un un_neg pe_int) pa_nil)) (pe_lst (pa_cons (pv 4) pa_nil))))))))), ?_⟩
    obtain ⟨t, rfl, big⟩ := ok.key
    walk_at "n"
    refine x_setV (val_ixL (val_var rfl) val_c hS at_0) ?_
    walk_at "n"
    refine x_ifP (by walk_at "ans") (fun h1 => x_ret (x_lstV (xs := [.int (-22)]) (by walk_at "vala") fun p np => q.put0 (big b (by omega)) W hc B (Same.refl H) np rfl)) (fun h1 => ?_)
    have ht : ¬ 100000 < t := by omega
    walk_at "n"
    cases ok with
    | f =>
      have e0 : Kex7.step (some b) (.isFrozen t) = (some b, if 100000 < t then .value (-22) else .value (if Kex7.isFrozenAt b.freezes t then 1 else 0)) := rfl
      rw [if_neg ht] at e0
      refine x_ifP (by walk_at "ans") (fun _ => ?_) (fun h => absurd (by decide) h)
      refine x_ret (x_lst1 (x_ifB (x_meth (a := L.ad .plat) (by walk_at "val") (B.at_ .plat trivial) (lpn_is_frozen L b) (by walk_at "vala") ?_)))
      refine ⟨L, b, t, rfl, B, _, rfl, ?_⟩
      cases hf : Kex7.isFrozenAt b.freezes t with
      | true =>
        rw [hf] at e0
        exact iteT (x_val (v := .int 1) val_c ⟨small_le (by show 1 ≤ 1000000; decide), fun p np => q.put0 e0 W hc B (Same.refl H) np rfl⟩)
      | false =>
        rw [hf] at e0
        exact iteF (x_val (v := .int 0) val_c ⟨small_le (by show 1 ≤ 1000000; decide), fun p np => q.put0 e0 W hc B (Same.refl H) np rfl⟩)
    | n =>
      have e0 : Kex7.step (some b) (.nextOpen t) = (some b, if 100000 < t then .value (-22) else match nxt b t with | none => .value (-33) | some k => .value (t + k : Nat)) := rfl
      rw [if_neg ht] at e0
      refine x_ifP (by walk_at "ans") (fun h => absurd h (by decide)) (fun _ => ?_)
      walk_at "n"
      refine x_set (x_meth (a := L.ad .plat) (by walk_at "val") (B.at_ .plat trivial) (lpn_next_open L b) (by walk_at "vala") ?_)
      refine ⟨L, b, t, rfl, B, by omega, ?_⟩
      cases hx : nxt b t with
      | none =>
        rw [hx] at e0
        show _
        dsimp only [nxtV]
        walk_at "n"
        refine x_ret (x_ifE (by walk_at "ans") (fun _ => x_lstV (xs := [.int (-33)]) (by walk_at "vala") fun p np => q.put0 e0 W hc B (Same.refl H) np rfl) (fun h => absurd h (by decide)))
      | some j =>
        rw [hx] at e0
        dsimp only [nxtV]
        walk_at "n"
        refine x_ret (x_ifE (by walk_at "ans") (fun h => absurd (of_decide_eq_true h) (by omega)) (fun _ => x_lstV (xs := [vN (t + j)]) (by walk_at "vala") fun p np => q.put0 e0 W hc B (Same.refl H) np rfl))
end
end Gc
namespace Gc
open PySem PySem.Spec PyProof.Rows L2
open C8 (Cal Mak Met CalAt pe_c pe_mk pe_mt pe_mt0 pe_gc)
/-! the short tactics (each is a row of one's own, tried by its key) -/
local macro_rules | `(tactic| walk_at "fl") => `(tactic| assumption)
local macro_rules | `(tactic| walk_at "side") => `(tactic| first | assumption | exact Or.inr ⟨by decide, by decide⟩ | exact Or.inl ⟨by decide, by decide⟩ | decide | (refine ⟨by decide, by decide⟩) | omega)
local macro_rules | `(tactic| walk_at "val") => `(tactic| first
  | with_reducible exact val_c
  | ((with_reducible refine' val_var ?vv); (case vv => rfl))
  | ((with_reducible refine' val_fl ?vfa ?vfb); (case vfa => walk_at "val"); (case vfb => walk_at "fl"))
  | ((with_reducible refine' val_len ?vla ?vlb); (case vla => walk_at "val"); (case vlb => walk_at "sq"))
  | ((with_reducible refine' val_I0 ?v0a ?v0b); (case v0a => walk_at "val"); (case v0b => walk_at "val"))
  | ((with_reducible refine' val_I ?via ?vib ?vic); (case via => walk_at "val"); (case vib => walk_at "val"); (case vic => walk_at "side"))
  | ((with_reducible refine' val_neg ?vn); (case vn => walk_at "val"))
  | ((with_reducible refine' val_isN ?vs); (case vs => walk_at "val"))
  | ((with_reducible refine' val_ixL ?xa ?xb ?xc ?xd); (case xa => walk_at "val"); (case xb => walk_at "val"); (case xc => walk_at "sq"); (case xd => walk_at "at"))
  | ((with_reducible refine' val_ixT ?ya ?yb ?yc ?yd); (case ya => walk_at "val"); (case yb => walk_at "val"); (case yc => walk_at "sqt"); (case yd => walk_at "at"))
  | ((with_reducible refine' val_chain ?ca ?cb ?cc); (case ca => walk_at "val"); (case cb => walk_at "val"); (case cc => walk_at "val"))
  | ((with_reducible refine' val_max2 ?ma ?mb); (case ma => walk_at "val"); (case mb => walk_at "val")))
local macro_rules | `(tactic| walk_at "sq") => `(tactic| first | assumption | exact SqL.of (by assumption))
local macro_rules | `(tactic| walk_at "sqt") => `(tactic| first | assumption | exact SqT.of (by assumption))
local macro_rules | `(tactic| walk_at "at") => `(tactic| first | assumption | rfl)
local macro_rules | `(tactic| walk_at "ans") => `(tactic| first
  | ((with_reducible refine' ans_test ?at_); (case at_ => walk_at "val"))
  | ((with_reducible refine' ans_B ?ab_); (case ab_ => walk_at "val"))
  | ((with_reducible refine' ans_or2 ?ao ?ap); (case ao => walk_at "ans"); (case ap => (intro _; walk_at "ans")))
  | ((with_reducible refine' ans_and3 ?aq ?ar); (case aq => walk_at "ans"); (case ar => (intro _; walk_at "ans")))
  | ((with_reducible refine' ans_notM ?an); (case an => walk_at "ans")))
local macro_rules | `(tactic| walk_at "vala") => `(tactic| first
  | with_reducible exact vala_nil
  | ((with_reducible refine' vala_cons ?wa ?wb); (case wa => walk_at "val"); (case wb => walk_at "vala")))
local macro_rules | `(tactic| walk_at "n") => `(tactic| (repeat (first | (with_reducible refine x_gn ?_) | (with_reducible refine st_seq ?_) | (with_reducible refine st_next ?_) | dsimp only)))
local macro_rules | `(tactic| walk_at "fl") => `(tactic| first
  | assumption
  | ((with_reducible refine' fp_people ?fB ?fT); (case fB => assumption); (case fT => assumption))
  | ((with_reducible refine' fp_clock ?fB ?fT); (case fB => assumption); (case fT => assumption))
  | ((with_reducible refine' fp_settings ?fB ?fT); (case fB => assumption); (case fT => assumption))
  | ((with_reducible refine' fp_classes ?fB ?fT); (case fB => assumption); (case fT => assumption))
  | ((with_reducible refine' fp_needs ?fB ?fT); (case fB => assumption); (case fT => assumption))
  | ((with_reducible refine' fp_own_counts ?fB ?fT); (case fB => assumption); (case fT => assumption))
  | ((with_reducible refine' fp_freezes ?fB ?fT); (case fB => assumption); (case fT => assumption))
  | ((with_reducible refine' fp_proposals ?fB ?fT); (case fB => assumption); (case fT => assumption))
  | ((with_reducible refine' fp_guards ?fB ?fT); (case fB => assumption); (case fT => assumption))
  | ((with_reducible refine' fp_log ?fB ?fT); (case fB => assumption); (case fT => assumption))
  | ((with_reducible refine' fp_past ?fB ?fT); (case fB => assumption); (case fT => assumption))
  | ((with_reducible refine' fq_author ?fB ?fT ?fH); (case fB => assumption); (case fT => assumption); (case fH => assumption))
  | ((with_reducible refine' fq_time ?fB ?fT ?fH); (case fB => assumption); (case fT => assumption); (case fH => assumption))
  | ((with_reducible refine' fq_changes ?fB ?fT ?fH); (case fB => assumption); (case fT => assumption); (case fH => assumption))
  | ((with_reducible refine' fq_approvals ?fB ?fT ?fH); (case fB => assumption); (case fT => assumption); (case fH => assumption))
  | ((with_reducible refine' fq_status ?fB ?fT ?fH); (case fB => assumption); (case fT => assumption); (case fH => assumption))
  | ((with_reducible refine' fq_end ?fB ?fT ?fH); (case fB => assumption); (case fT => assumption); (case fH => assumption))
  | ((with_reducible refine' fq_before ?fB ?fT ?fH); (case fB => assumption); (case fT => assumption); (case fH => assumption)))
local macro_rules | `(tactic| walk_at "sq") => `(tactic| first | assumption | exact SqL.of (by assumption) | exact s_sets (by assumption) | exact s_cls (by assumption) | exact s_need (by assumption) | exact s_own (by assumption) | exact s_frz (by assumption) | exact s_prs (by assumption) | exact s_grd (by assumption) | exact s_log (by assumption) | exact s_past (by assumption) | exact s_chg (by assumption) (by assumption) | exact s_apr (by assumption) (by assumption) | exact s_bef (by assumption) (by assumption))
local macro_rules | `(tactic| walk_at "at") => `(tactic| first | assumption | exact atI_0 rfl | exact atI_1 rfl | exact atI_2 rfl)
abbrev s_leaves_of : Stmt := topS 41
theorem sc_leaves_of : FnScope ["platform", "count", "entry"] ["platform", "count"] (defScope s_leaves_of) := ⟨rfl, rfl, rfl, by decide +kernel, rfl, by decide +kernel, by decide +kernel⟩
abbrev s_about_log : Stmt := topS 42
theorem sc_about_log : FnScope ["platform", "number", "given", "many", "index", "entry", "count", "hashes", "found", "one"] ["platform", "number", "given"] (defScope s_about_log) := ⟨rfl, rfl, rfl, by decide +kernel, rfl, by decide +kernel, by decide +kernel⟩
abbrev s_summary : Stmt := topS 45
theorem sc_summary : FnScope ["platform", "found"] ["platform"] (defScope s_summary) := ⟨rfl, rfl, rfl, by decide +kernel, rfl, by decide +kernel, by decide +kernel⟩
section
variable {P : Program} {w : World} {K : PySem.W.Frag} {mg : Str → Option Value} {base : Heap} {A : Ad}
/-! ### leaves_of -/
def spLvs (A : Ad) : Sp := fun vs H Q _ => ∃ (L : Lay) (b : Board) (n : Nat), vs = [.ref (L.ad .plat), vN n] ∧ Bd A L b H ∧ b.log.length ≤ 16000 ∧ ∀ H' p, Same H H' → H p = none → H' p = some (.lst ((Kex7.leaves b n).map vN)) → Q (.ref p) H'
theorem ok_lvs (F : At K mg "leaves_of" s_leaves_of ["platform", "count"]) (T : Txt P w K mg A) (c_leaf_of : Cal P w K mg base 2 "leaf_of" (spLeaf K) []) : Cal P w K mg base 3 "leaves_of" (spLvs A) [] := by
  refine F.cal sc_leaves_of (fun vs H Q E h => ?_) (fun f cdv Ar outer s H vs Q E hr h => ?_)
  · obtain ⟨L, b, n, rfl, _⟩ := h
    rfl
  · obtain ⟨L, b, n, rfl, B, hl, q⟩ := h
    refine ⟨_, (pss_one (ps_ret (pe_lc (own := [("entry", 2)]) (g := gName 2) (tt := tYes) (te := (tCall (spLeaf K) [] C8.E0 (tCons (tVar 2) tNil))) rfl sc_leaves_of.nd (pi_list (pe_slice sl_list (pe_fld (pv 0) rfl) po_none (po_some (pv 1)))) (blkOk_by (N := ["platform", "count", "entry"]) (sc := defScope s_leaves_of) (by decide +kernel)) (fun _ _ _ _ _ => pg_name (i := 2) sc_leaves_of.nd rfl (Or.inl rfl)) (fun _ _ _ _ _ => by exact pts_nil) (fun _ _ _ _ _ => by exact (pe_c c_leaf_of hr (by first | decide | omega) (by rfl) (pa_cons (pv 2) pa_nil)))))), ?_⟩
    have ll : L.lg.length = b.log.length := by rw [B.lg.len, List.length_map]
    have hcl : ((L.lg.map V.ref).take n).length = (b.log.take n).length := by rw [List.length_take, List.length_take, List.length_map, ll]
    refine x_ret (x_slTo (n := n) (val_fl (val_var rfl) (fp_log B T)) (val_var rfl) (s_log B) fun p np => ?_)
    have sp := same_upd (o := .lst ((L.lg.map V.ref).take n)) np
    refine ⟨p, rfl, ⟨_, SqL.of upd_same⟩, lca_at (cs := b.log.take n) (fun _ => true) (fun e => vN (Kex7.leafHash e)) (SqL.of upd_same) hcl (by rw [hcl, List.length_take]; omega) (fun _ _ _ _ _ _ _ => ans_yes) (fun k x e hx he _ H' sm => ?_) fun D H' nD sm hD => ?_⟩
    · rw [List.getElem?_take] at hx he
      by_cases hk : k < n
      · rw [if_pos hk] at hx he
        obtain ⟨t, ht, rfl⟩ := map_at hx
        have z := B.lg.is k t (tLg e) ht (by rw [List.getElem?_map, he]; rfl)
        refine fun Q' q' => x_call1 (x_val (val_var rfl) ?_)
        exact ⟨t, e, rfl, SqT.of ((sp.trans sm) _ _ z), q'⟩
      · rw [if_neg hk] at hx
        cases hx
    · have e : ((b.log.take n).filter fun _ => true).map (fun e => vN (Kex7.leafHash e)) = (Kex7.leaves b n).map vN := by
        rw [List.filter_eq_self.mpr fun _ _ => rfl]
        unfold Kex7.leaves
        rw [List.map_map]
        rfl
      rw [e] at hD
      exact q H' D (sp.trans sm) (sp.free nD) hD
/-! ### about_log -/
inductive okLog : Nat → List Nat → Kex7.Request → Prop
  | e (i : Nat) : okLog 21 [i] (.logEntry i)
  | l (i : Nat) : okLog 22 [i] (.leafHash i)
  | r (n : Nat) : okLog 23 [n] (.root n)
  | p (i n : Nat) : okLog 24 [i, n] (.proof i n)
theorem okLog.key {k : Nat} {args : List Nat} {q : Kex7.Request} (o : okLog k args q) : ∃ x r, args = x :: r := by
  cases o with
  | e i => exact ⟨i, _, rfl⟩
  | l i => exact ⟨i, _, rfl⟩
  | r n => exact ⟨n, _, rfl⟩
  | p i n => exact ⟨i, _, rfl⟩
theorem log_len {L : Lay} {b : Board} {H : Hp} (B : Bd A L b H) : (L.lg.map V.ref).length = b.log.length := by rw [List.length_map, B.lg.len, List.length_map]
theorem v_logs {L : Lay} {b : Board} {H : Hp} {σ : L2.St} {te : TE} (B : Bd A L b H) (T : Txt P w K mg A) (h : Val te σ H (.ref (L.ad .plat))) : Val (tCB (rLenM K) (tCons (tFld K te "log") tNil)) σ H (vN b.log.length) := by
  rw [← log_len B]
  exact val_len (val_fl h (fp_log B T)) (s_log B)
theorem leaf_small (e : Kex7.Entry) : Kex7.leafHash e < Kex2.word := hash_lt _
theorem lvs_small (b : Board) (n : Nat) : small (Kex7.leaves b n) := fun x hx => by
  obtain ⟨e, _, rfl⟩ := List.mem_map.mp hx
  exact leaf_small e
theorem lvs_len (b : Board) (n : Nat) : (Kex7.leaves b n).length = min n b.log.length := by
  unfold Kex7.leaves
  rw [List.length_map, List.length_take]
theorem el_hash (h : Nat) : [vN 0] ++ (Kex7.words h).map vN = (Kex7Neutral.fields (Kex7.hashResult h)).map V.int := by
  show _ = vN 0 :: (Kex7.toInts _).map V.int
  rw [ints_vN]
  rfl
theorem words4 (h : Nat) : (Kex7.words h).length = 4 := rfl
theorem flat_words (l : List Nat) : (l.flatMap Kex7.words).length = 4 * l.length := by
  induction l with
  | nil => rfl
  | cons x r ih =>
    rw [List.flatMap_cons, List.length_append, ih, List.length_cons, words4]
    omega
theorem x_call2 {σ : L2.St} {H : Hp} {ta te : TE} {sp : Sp} {E : XK} {v : V} {Q : VK} (ha : Val ta σ H v) (h : te σ H fun x H1 => sp [v, x] H1 Q E) : tCall sp [] E (tCons ta (tCons te tNil)) σ H Q := ha _ h
theorem ok_alog (F : At K mg "about_log" s_about_log ["platform", "number", "given"]) (T : Txt P w K mg A) {r1 r2 : Nat} (c_leaf_of : Cal P w K mg base 2 "leaf_of" (spLeaf K) []) (c_quarters_of : Cal P w K mg base 1 "quarters_of" spQuar []) (c_leaves_of : Cal P w K mg base 3 "leaves_of" (spLvs A) [])
    (c_root_of : Cal P w K mg base 17 "root_of" (spRoot K (2 ^ 14)) []) (c_proof_of : Cal P w K mg base 34 "proof_of" (spPrf K (2 ^ 14)) []) : Cal P w K mg base 35 "about_log" (spAsk A K okLog) [] := by
  refine F.cal sc_about_log (fun vs H Q E h => ?_) (fun f cdv Ar outer s H vs Q E hr h => ?_)
  · obtain ⟨L, b, c, g, k, args, q, rfl, _⟩ := h
    rfl
  · obtain ⟨L, b, c, g, k, args, rq, rfl, B, W, hc, hS, ok, q⟩ := h
    refine ⟨_, (pss_cons (ps_set (i := 3) sc_about_log.nd rfl (Or.inl rfl) (pe_callB call_lenM (by rfl) T.len (by decide +kernel) (pa_cons (pe_fld (pv 0) rfl) pa_nil)))
      (pss_cons (ps_set (i := 4) sc_about_log.nd rfl (Or.inl rfl) (pe_ix ix_list (pv 2) pe_int (fun _ _ => rfl)))
      (pss_cons (ps_if (PW.pt (pw_or (pt_cmpR op_eqI (pv 1) pe_int (nomark _)) (pw_or1 (pt_cmpR op_eqI (pv 1) pe_int (nomark _))))) (pss_cons (ps_if (pt_cmpR op_ge (pv 4) (pv 3) (nomark _)) (pss_one (ps_ret (pe_lst (pa_cons (pe_un un_neg pe_int) pa_nil)))) pss_nil)
      (pss_cons (ps_set (i := 5) sc_about_log.nd rfl (Or.inl rfl) (pe_ix ix_list (pe_fld (pv 0) rfl) (pv 4) (fun _ _ => rfl)))
      (pss_one (ps_ret (pe_ifExp (pt_cmpR op_eqI (pv 1) pe_int (nomark _)) (pe_callTy call_listM (by rfl) T.list (by decide +kernel) (pa_cons (pv 5) pa_nil)) (pe_op op_cat (pe_lst (pa_cons pe_int pa_nil)) (pe_c c_quarters_of hr (by first | decide | omega) (by rfl) (pa_cons (pe_c c_leaf_of hr (by first | decide | omega) (by rfl) (pa_cons (pv 5) pa_nil)) pa_nil)))))))) pss_nil)
      (pss_cons (ps_if (pt_cmpR op_eqI (pv 1) pe_int (nomark _)) (pss_one (ps_ret (pe_ifExp (pt_cmpR op_gt (pv 4) (pv 3) (nomark _)) (pe_lst (pa_cons (pe_un un_neg pe_int) pa_nil)) (pe_op op_cat (pe_lst (pa_cons pe_int pa_nil)) (pe_c c_quarters_of hr (by first | decide | omega) (by rfl) (pa_cons (pe_c c_root_of hr (by first | decide | omega) (by rfl) (pa_cons (pe_c c_leaves_of hr (by first | decide | omega) (by rfl) (pa_cons (pv 0) (pa_cons (pv 4) pa_nil))) pa_nil)) pa_nil)))))) pss_nil)
      (pss_cons (ps_set (i := 6) sc_about_log.nd rfl (Or.inl rfl) (pe_ix ix_list (pv 2) pe_int (fun _ _ => rfl)))
      (pss_cons (ps_if (PW.pt (pw_or (pt_cmpR op_gt (pv 6) (pv 3) (nomark _)) (pw_or1 (pt_cmpR op_ge (pv 4) (pv 6) (nomark _))))) (pss_one (ps_ret (pe_lst (pa_cons (pe_un un_neg pe_int) pa_nil)))) pss_nil)
      (pss_cons (ps_set (i := 7) sc_about_log.nd rfl (Or.inl rfl) (pe_c c_proof_of hr (by first | decide | omega) (by rfl) (pa_cons (pv 4) (pa_cons (pe_c c_leaves_of hr (by first | decide | omega) (by rfl) (pa_cons (pv 0) (pa_cons (pv 6) pa_nil))) pa_nil))))
      (pss_cons (ps_set (i := 8) sc_about_log.nd rfl (Or.inl rfl) (pe_lst (pa_cons (pe_callB call_lenM (by rfl) T.len (by decide +kernel) (pa_cons (pv 7) pa_nil)) pa_nil)))
      (pss_cons (ps_for PassesOwn.never rfl (pi_list (pv 7)) (pg_name (i := 9) sc_about_log.nd rfl (Or.inl rfl)) (pss_one (ps_expr (pe_bm PySem.F.plainAttrs_list PySem.F.slot_list_extend PySem.F.type_list_extend mt_extend (pv 8) (pa_cons (pe_c c_quarters_of hr (by first | decide | omega) (by rfl) (pa_cons (pv 9) pa_nil)) pa_nil)))))
      (pss_one (ps_ret (pv 8)))))))))))), ?_⟩
    have hl := W.log
    walk_at "n"
    refine x_setV (v_logs B T (val_var rfl)) ?_
    obtain ⟨x, r, rfl⟩ := ok.key
    walk_at "n"
    refine x_setV (val_ixL (val_var rfl) val_c hS at_0) ?_
    walk_at "n"
    have ent : x < b.log.length → ∃ (t : Addr) (e : Kex7.Entry), b.log[x]? = some e ∧ atI (L.lg.map V.ref) (x : Int) = some (.ref t) ∧ H t = some (.tup (tLg e)) := fun hx => by
      have h1 : b.log[x]? = some b.log[x] := List.getElem?_eq_getElem hx
      obtain ⟨t, ht, hh⟩ := B.lg.at_ (i := x) (v := tLg b.log[x]) (by rw [List.getElem?_map, h1]; rfl)
      exact ⟨t, _, h1, atI_n (by rw [List.getElem?_map, ht]; rfl), hh⟩
    cases ok with
    | e =>
      have e0 : Kex7.step (some b) (.logEntry x) = (some b, match b.log[x]? with | none => .value (-2) | some e => .values e.kind (Kex7.toInts [e.time, e.who, e.subject])) := rfl
      refine x_ifOr (by walk_at "ans") (fun _ => ?_) (fun h => absurd h (by decide))
      walk_at "n"
      refine x_ifP (by walk_at "ans") (fun h1 => x_ret (x_lstV (xs := [.int (-2)]) (by walk_at "vala") fun p np => q.put0 (e0.trans (by rw [List.getElem?_eq_none (by omega)])) W hc B (Same.refl H) np rfl)) (fun h1 => ?_)
      obtain ⟨t, e, h2, h3, h4⟩ := ent (by omega)
      rw [h2] at e0
      walk_at "n"
      refine x_setV (val_ixL (by walk_at "val") (val_var rfl) (s_log B) h3) ?_
      walk_at "n"
      refine x_ret (x_ifE (by walk_at "ans") (fun _ => ?_) (fun h => absurd h (by decide)))
      exact x_cb1 (x_val (val_var rfl) ⟨t, _, rfl, .inr (SqT.of h4), fun p np => q.put0 e0 W hc B (Same.refl H) np rfl⟩)
    | l =>
      have e0 : Kex7.step (some b) (.leafHash x) = (some b, match b.log[x]? with | none => .value (-2) | some e => Kex7.hashResult (Kex7.leafHash e)) := rfl
      refine x_ifOr (by walk_at "ans") (fun h => absurd h (by decide)) (fun _ => ?_)
      refine x_ifP (by walk_at "ans") (fun _ => ?_) (fun h => absurd (by decide) h)
      walk_at "n"
      refine x_ifP (by walk_at "ans") (fun h1 => x_ret (x_lstV (xs := [.int (-2)]) (by walk_at "vala") fun p np => q.put0 (e0.trans (by rw [List.getElem?_eq_none (by omega)])) W hc B (Same.refl H) np rfl)) (fun h1 => ?_)
      obtain ⟨t, e, h2, h3, h4⟩ := ent (by omega)
      rw [h2] at e0
      walk_at "n"
      refine x_setV (val_ixL (by walk_at "val") (val_var rfl) (s_log B) h3) ?_
      walk_at "n"
      refine x_ret (x_ifE (by walk_at "ans") (fun h => absurd h (by decide)) (fun _ => ?_))
      refine x_op (x_lstV (xs := [.int 0]) (by walk_at "vala") fun p np => x_call1 (x_call1 (x_val (val_var rfl) ?_)))
      have sp := same_upd (o := .lst [.int 0]) np
      refine ⟨t, e, rfl, SqT.of (sp _ _ h4), fun H2 s2 => ⟨_, rfl, fun r nr => ?_⟩⟩
      have sr := same_upd (o := .lst ((Kex7.words (Kex7.leafHash e)).map vN)) nr
      refine x_cat (sr _ _ (s2 _ _ upd_same)) upd_same (by rw [List.length_map, words4]; decide) fun u nu => ?_
      exact q.put0 e0 W hc B ((sp.trans s2).trans sr) nu (el_hash _)
    | r =>
      have e0 : Kex7.step (some b) (.root x) = (some b, if b.log.length < x then .value (-2) else Kex7.hashResult (Kex7.root (Kex7.leaves b x))) := rfl
      refine x_ifOr (by walk_at "ans") (fun h => absurd h (by decide)) (fun _ => ?_)
      refine x_ifP (by walk_at "ans") (fun h => absurd h (by decide)) (fun _ => ?_)
      walk_at "n"
      refine x_ifP (by walk_at "ans") (fun _ => ?_) (fun h => absurd (by decide) h)
      refine x_ret (x_ifE (by walk_at "ans") (fun h => x_lstV (xs := [.int (-2)]) (by walk_at "vala") fun p np => q.put0 (e0.trans (congrArg (fun r => (some b, r)) (if_pos (by have := of_decide_eq_true h; omega)))) W hc B (Same.refl H) np rfl) (fun h => ?_))
      have h := of_decide_eq_false h
      rw [if_neg (by omega)] at e0
      refine x_op (x_lstV (xs := [.int 0]) (by walk_at "vala") fun p np => x_call1 (x_call1 (x_call0 (vala_cons (val_var rfl) (vala_cons (val_var rfl) vala_nil)) ?_)))
      have sp := same_upd (o := .lst [.int 0]) np
      refine ⟨L, b, x, rfl, B.mono sp, hl, fun H2 a s2 na e2 => ?_⟩
      refine ⟨a, Kex7.leaves b x, rfl, SqL.of e2, by rw [lvs_len]; omega, lvs_small b x, fun H3 s3 => ⟨_, rfl, fun r nr => ?_⟩⟩
      have sr := same_upd (o := .lst ((Kex7.words (Kex7.root (Kex7.leaves b x))).map vN)) nr
      refine x_cat (sr _ _ (s3 _ _ (s2 _ _ upd_same))) upd_same (by rw [List.length_map, words4]; decide) fun u nu => ?_
      exact q.put0 e0 W hc B (((sp.trans s2).trans s3).trans sr) nu (el_hash _)
    | p _ n =>
      have e0 : Kex7.step (some b) (.proof x n) = (some b, if b.log.length < n ∨ n ≤ x then .value (-2) else .values ((Kex7.proof x (Kex7.leaves b n)).length : Nat) (Kex7.toInts ((Kex7.proof x (Kex7.leaves b n)).flatMap Kex7.words))) := rfl
      refine x_ifOr (by walk_at "ans") (fun h => absurd h (by decide)) (fun _ => ?_)
      refine x_ifP (by walk_at "ans") (fun h => absurd h (by decide)) (fun _ => ?_)
      walk_at "n"
      refine x_ifP (by walk_at "ans") (fun h => absurd h (by decide)) (fun _ => ?_)
      walk_at "n"
      refine x_setV (val_ixL (val_var rfl) val_c hS at_1) ?_
      walk_at "n"
      have no : (b.log.length < n ∨ n ≤ x) → ∀ p, H p = none → Q (.ref p) (upd H p (.lst [.int (-2)])) := fun h p np => q.put0 (e0.trans (congrArg (fun r => (some b, r)) (if_pos h))) W hc B (Same.refl H) np rfl
      refine x_ifOr (by walk_at "ans") (fun h1 => x_ret (x_lstV (by walk_at "vala") fun p np => no ?_ p np)) (fun h1 => ?_)
      · have := of_decide_eq_true h1
        omega
      refine x_ifP (by walk_at "ans") (fun h2 => x_ret (x_lstV (by walk_at "vala") fun p np => no ?_ p np)) (fun h2 => ?_)
      · omega
      have h1 := of_decide_eq_false h1
      rw [if_neg (by omega)] at e0
      have hll : (Kex7.leaves b n).length = n := by rw [lvs_len]; omega
      walk_at "n"
      refine x_set (x_call2 (val_var rfl) (x_call0 (vala_cons (val_var rfl) (vala_cons (val_var rfl) vala_nil)) ?_))
      refine ⟨L, b, n, rfl, B, hl, fun H2 a s2 na e2 => ?_⟩
      refine ⟨x, a, Kex7.leaves b n, rfl, SqL.of e2, by omega, by omega, lvs_small b n, fun H3 p s3 np e3 => ?_⟩
      have sA := s2.trans s3
      have npH : H p = none := s2.free np
      have pl := proof_len 14 x (Kex7.leaves b n) (by omega)
      generalize Kex7.proof x (Kex7.leaves b n) = pf at e3 pl e0
      walk_at "n"
      have vP : ∀ {σ : L2.St} {te : TE}, Val te σ H3 (.ref p) → Val (tCB (rLenM K) (tCons te tNil)) σ H3 (vN pf.length) := fun hv => by
        have z := val_len hv (SqL.of (K := K) e3)
        rw [List.length_map] at z
        exact z
      refine x_set (x_lstV (xs := [vN pf.length]) (vala_cons (vP (val_var rfl)) vala_nil) fun F nF => ?_)
      have sF := same_upd (o := .lst [vN pf.length]) nF
      have nF0 : H F = none := sA.free nF
      have gF : (upd H3 F (.lst [vN pf.length])) F = some (.lst [vN pf.length]) := upd_same
      have eP := sF _ _ e3
      have dPF : p ≠ F := ne_of_none e3 nF
      have s4 := sA.trans sF
      generalize upd H3 F (.lst [vN pf.length]) = H4 at gF eP s4
      walk_at "n"
      refine x_forL (by walk_at "val") (SqL.of eP) (fun i σ H' => ∃ v5 v9, σ = [some (.ref (L.ad .plat)), some (vN 24), some (.ref g), some (vN b.log.length), some (vN x), v5, some (vN n), some (.ref p), some (.ref F), v9] ∧ Same H H' ∧ H' p = some (.lst (pf.map vN)) ∧ H' F = some (.lst (vN pf.length :: ((pf.take i).flatMap Kex7.words).map vN))) ⟨_, _, rfl, s4, eP, gF⟩ ?_ ?_ ?_
      · rintro i σ H' _ ⟨v5, v9, rfl, sm, dP, fF⟩
        exact SqL.of dP
      · rintro i y σ H' hy ⟨v5, v9, rfl, sm, dP, fF⟩
        obtain ⟨o, ho, rfl⟩ := map_at hy
        walk_at "n"
        refine x_drop (x_ext (val_var rfl) fF (x_call1 (x_val (val_var rfl) ⟨o, rfl, fun t nt => ?_⟩)))
        have st := same_upd (o := .lst ((Kex7.words o).map vN)) nt
        refine x_rext (st _ _ fF) upd_same ?_ ?_
        · rw [List.length_cons, List.length_map, List.length_map, flat_words, words4, List.length_take]
          omega
        · walk_at "n"
          refine ⟨_, _, rfl, same_upd2 (sm.trans st) nF0, upd_at dPF (st _ _ dP), ?_⟩
          rw [upd_same, take_more ho, List.flatMap_append, List.map_append]
          rfl
      · rintro σ H' ⟨v5, v9, rfl, sm, dP, fF⟩
        rw [List.length_map, List.take_length] at fF
        walk_at "n"
        refine x_ret (x_val (by walk_at "val") (q.give e0 W hc B sm nF0 fF ?_))
        show _ = vN _ :: (Kex7.toInts _).map V.int
        rw [ints_vN]
/-! ### summary -/
def spSum (A : Ad) : Sp := fun vs H Q _ => ∃ (L : Lay) (b : Board) (c : Nat), vs = [.ref (L.ad .plat)] ∧ Bd A L b H ∧ Wf c b ∧ c + 1 ≤ 1000 ∧ Out A L b c H .summary Q
theorem x_lst3 {σ : L2.St} {H : Hp} {t1 t2 te : TE} {v1 v2 : V} {Q : VK} (h1 : Val t1 σ H v1) (h2 : Val t2 σ H v2) (h : te σ H fun v H1 => [v1, v2, v].length ≤ sizeLine ∧ ∀ p, H1 p = none → Q (.ref p) (upd H1 p (.lst [v1, v2, v]))) : tLst (tCons t1 (tCons t2 (tCons te tNil))) σ H Q := h1 _ (h2 _ h)
theorem v_past {L : Lay} {b : Board} {H : Hp} {σ : L2.St} {te : TE} (B : Bd A L b H) (T : Txt P w K mg A) (h : Val te σ H (.ref (L.ad .plat))) : Val (tCB (rLenM K) (tCons (tFld K te "past") tNil)) σ H (vN b.history.length) := by
  rw [← show (L.pa.map V.ref).length = b.history.length by rw [List.length_map, B.pa.len, List.length_map]]
  exact val_len (val_fl h (fp_past B T)) (s_past B)
theorem ok_sum (F : At K mg "summary" s_summary ["platform"]) (T : Txt P w K mg A) (m_count_status : Met P w K mg base 1 A.CP "count_status" (spCnt A) []) : Cal P w K mg base 2 "summary" (spSum A) [] := by
  refine F.cal sc_summary (fun vs H Q E h => ?_) (fun f cdv Ar outer s H vs Q E hr h => ?_)
  · obtain ⟨L, b, c, rfl, _⟩ := h
    rfl
  · obtain ⟨L, b, c, rfl, B, W, hc, q⟩ := h
    refine ⟨_, (pss_cons (ps_set (i := 1) sc_summary.nd rfl (Or.inl rfl) (pe_lst (pa_cons (pe_fld (pv 0) rfl) (pa_cons (pe_callB call_lenM (by rfl) T.len (by decide +kernel) (pa_cons (pe_fld (pv 0) rfl) pa_nil)) (pa_cons (pe_mt m_count_status hr (by first | decide | omega) (pv 0) (pa_cons (pe_gc (by rfl) T.g_OPEN) pa_nil)) pa_nil)))))
      (pss_one (ps_ret (pe_op op_cat (pv 1) (pe_lst (pa_cons (pe_callB call_lenM (by rfl) T.len (by decide +kernel) (pa_cons (pe_fld (pv 0) rfl) pa_nil)) (pa_cons (pe_callB call_lenM (by rfl) T.len (by decide +kernel) (pa_cons (pe_fld (pv 0) rfl) pa_nil)) (pa_cons (pe_callB call_lenM (by rfl) T.len (by decide +kernel) (pa_cons (pe_fld (pv 0) rfl) pa_nil)) (pa_cons (pe_callB call_lenM (by rfl) T.len (by decide +kernel) (pa_cons (pe_fld (pv 0) rfl) pa_nil)) pa_nil))))))))), ?_⟩
    have hpl := W.prs
    have e0 : Kex7.step (some b) .summary = (some b, .values b.clock (Kex7.toInts [b.proposals.length, b.proposals.countP (fun p => p.status == 0), b.freezes.length, b.guards.length, b.log.length, b.history.length])) := rfl
    walk_at "n"
    refine x_set (x_lst3 (by walk_at "val") (v_prps B T (val_var rfl)) (x_meth (a := L.ad .plat) (by walk_at "val") (B.at_ .plat trivial) (lpn_count_status L b) (by walk_at "vala") ?_))
    refine ⟨L, b, 0, rfl, B, by omega, fun H1 s1 => ⟨small_le (by show 3 ≤ 1000000; decide), fun p np => ?_⟩⟩
    have sp := same_upd (o := .lst [vN b.clock, vN b.proposals.length, vN (b.proposals.countP fun p => p.status == 0)]) np
    have gp : (upd H1 p (.lst [vN b.clock, vN b.proposals.length, vN (b.proposals.countP fun p => p.status == 0)])) p = some (.lst [vN b.clock, vN b.proposals.length, vN (b.proposals.countP fun p => p.status == 0)]) := upd_same
    have s2 := s1.trans sp
    generalize upd H1 p (.lst [vN b.clock, vN b.proposals.length, vN (b.proposals.countP fun p => p.status == 0)]) = H2 at gp s2
    have B2 := B.mono s2
    walk_at "n"
    refine x_ret (x_op (x_val (val_var rfl) (x_lstV (vala_cons (v_frzs B2 T (val_var rfl)) (vala_cons (v_grds B2 T (val_var rfl)) (vala_cons (v_logs B2 T (val_var rfl)) (vala_cons (v_past B2 T (val_var rfl)) vala_nil)))) fun r nr => ?_)))
    have sr := same_upd (o := .lst [vN b.freezes.length, vN b.guards.length, vN b.log.length, vN b.history.length]) nr
    exact x_cat (sr _ _ gp) upd_same (by show 3 + 4 ≤ 1000000; decide) fun u nu => q.put0 e0 W hc B (s2.trans sr) nu rfl
end
end Gc
namespace Gc
open PySem PySem.Spec PyProof.Rows L2
open C8 (Cal Mak Met CalAt pe_c pe_mk pe_mt pe_mt0 pe_gc)
/-! the short tactics (each is a row of one's own, tried by its key) -/
local macro_rules | `(tactic| walk_at "fl") => `(tactic| assumption)
local macro_rules | `(tactic| walk_at "side") => `(tactic| first | assumption | exact Or.inr ⟨by decide, by decide⟩ | exact Or.inl ⟨by decide, by decide⟩ | decide | (refine ⟨by decide, by decide⟩) | omega)
local macro_rules | `(tactic| walk_at "val") => `(tactic| first
  | with_reducible exact val_c
  | ((with_reducible refine' val_var ?vv); (case vv => rfl))
  | ((with_reducible refine' val_fl ?vfa ?vfb); (case vfa => walk_at "val"); (case vfb => walk_at "fl"))
  | ((with_reducible refine' val_len ?vla ?vlb); (case vla => walk_at "val"); (case vlb => walk_at "sq"))
  | ((with_reducible refine' val_I0 ?v0a ?v0b); (case v0a => walk_at "val"); (case v0b => walk_at "val"))
  | ((with_reducible refine' val_I ?via ?vib ?vic); (case via => walk_at "val"); (case vib => walk_at "val"); (case vic => walk_at "side"))
  | ((with_reducible refine' val_neg ?vn); (case vn => walk_at "val"))
  | ((with_reducible refine' val_isN ?vs); (case vs => walk_at "val"))
  | ((with_reducible refine' val_ixL ?xa ?xb ?xc ?xd); (case xa => walk_at "val"); (case xb => walk_at "val"); (case xc => walk_at "sq"); (case xd => walk_at "at"))
  | ((with_reducible refine' val_ixT ?ya ?yb ?yc ?yd); (case ya => walk_at "val"); (case yb => walk_at "val"); (case yc => walk_at "sqt"); (case yd => walk_at "at"))
  | ((with_reducible refine' val_chain ?ca ?cb ?cc); (case ca => walk_at "val"); (case cb => walk_at "val"); (case cc => walk_at "val"))
  | ((with_reducible refine' val_max2 ?ma ?mb); (case ma => walk_at "val"); (case mb => walk_at "val")))
local macro_rules | `(tactic| walk_at "sq") => `(tactic| first | assumption | exact SqL.of (by assumption))
local macro_rules | `(tactic| walk_at "sqt") => `(tactic| first | assumption | exact SqT.of (by assumption))
local macro_rules | `(tactic| walk_at "at") => `(tactic| first | assumption | rfl)
local macro_rules | `(tactic| walk_at "ans") => `(tactic| first
  | ((with_reducible refine' ans_test ?at_); (case at_ => walk_at "val"))
  | ((with_reducible refine' ans_B ?ab_); (case ab_ => walk_at "val"))
  | ((with_reducible refine' ans_or2 ?ao ?ap); (case ao => walk_at "ans"); (case ap => (intro _; walk_at "ans")))
  | ((with_reducible refine' ans_and3 ?aq ?ar); (case aq => walk_at "ans"); (case ar => (intro _; walk_at "ans")))
  | ((with_reducible refine' ans_notM ?an); (case an => walk_at "ans")))
local macro_rules | `(tactic| walk_at "vala") => `(tactic| first
  | with_reducible exact vala_nil
  | ((with_reducible refine' vala_cons ?wa ?wb); (case wa => walk_at "val"); (case wb => walk_at "vala")))
local macro_rules | `(tactic| walk_at "n") => `(tactic| (repeat (first | (with_reducible refine x_gn ?_) | (with_reducible refine st_seq ?_) | (with_reducible refine st_next ?_) | dsimp only)))
local macro_rules | `(tactic| walk_at "fl") => `(tactic| first
  | assumption
  | ((with_reducible refine' fp_people ?fB ?fT); (case fB => assumption); (case fT => assumption))
  | ((with_reducible refine' fp_clock ?fB ?fT); (case fB => assumption); (case fT => assumption))
  | ((with_reducible refine' fp_settings ?fB ?fT); (case fB => assumption); (case fT => assumption))
  | ((with_reducible refine' fp_classes ?fB ?fT); (case fB => assumption); (case fT => assumption))
  | ((with_reducible refine' fp_needs ?fB ?fT); (case fB => assumption); (case fT => assumption))
  | ((with_reducible refine' fp_own_counts ?fB ?fT); (case fB => assumption); (case fT => assumption))
  | ((with_reducible refine' fp_freezes ?fB ?fT); (case fB => assumption); (case fT => assumption))
  | ((with_reducible refine' fp_proposals ?fB ?fT); (case fB => assumption); (case fT => assumption))
  | ((with_reducible refine' fp_guards ?fB ?fT); (case fB => assumption); (case fT => assumption))
  | ((with_reducible refine' fp_log ?fB ?fT); (case fB => assumption); (case fT => assumption))
  | ((with_reducible refine' fp_past ?fB ?fT); (case fB => assumption); (case fT => assumption))
  | ((with_reducible refine' fq_author ?fB ?fT ?fH); (case fB => assumption); (case fT => assumption); (case fH => assumption))
  | ((with_reducible refine' fq_time ?fB ?fT ?fH); (case fB => assumption); (case fT => assumption); (case fH => assumption))
  | ((with_reducible refine' fq_changes ?fB ?fT ?fH); (case fB => assumption); (case fT => assumption); (case fH => assumption))
  | ((with_reducible refine' fq_approvals ?fB ?fT ?fH); (case fB => assumption); (case fT => assumption); (case fH => assumption))
  | ((with_reducible refine' fq_status ?fB ?fT ?fH); (case fB => assumption); (case fT => assumption); (case fH => assumption))
  | ((with_reducible refine' fq_end ?fB ?fT ?fH); (case fB => assumption); (case fT => assumption); (case fH => assumption))
  | ((with_reducible refine' fq_before ?fB ?fT ?fH); (case fB => assumption); (case fT => assumption); (case fH => assumption)))
local macro_rules | `(tactic| walk_at "sq") => `(tactic| first | assumption | exact SqL.of (by assumption) | exact s_sets (by assumption) | exact s_cls (by assumption) | exact s_need (by assumption) | exact s_own (by assumption) | exact s_frz (by assumption) | exact s_prs (by assumption) | exact s_grd (by assumption) | exact s_log (by assumption) | exact s_past (by assumption) | exact s_chg (by assumption) (by assumption) | exact s_apr (by assumption) (by assumption) | exact s_bef (by assumption) (by assumption))
local macro_rules | `(tactic| walk_at "at") => `(tactic| first | assumption | exact atI_0 rfl | exact atI_1 rfl | exact atI_2 rfl)
abbrev s_are_quarters : Stmt := topS 43
theorem sc_are_quarters : FnScope ["row", "one"] ["row"] (defScope s_are_quarters) := ⟨rfl, rfl, rfl, by decide +kernel, rfl, by decide +kernel, by decide +kernel⟩
abbrev s_verify : Stmt := topS 44
theorem sc_verify : FnScope ["given", "leaf", "hashes", "expected", "index", "count", "row", "found", "place"] ["given", "leaf", "hashes", "expected"] (defScope s_verify) := ⟨rfl, rfl, rfl, by decide +kernel, rfl, by decide +kernel, by decide +kernel⟩
section
variable {P : Program} {w : World} {K : PySem.W.Frag} {mg : Str → Option Value} {base : Heap} {A : Ad}
/-! ### are_quarters -/
def lowQ (l : List Nat) : Bool := l.all fun x => decide (x < 65536)
def spAreQ (K : PySem.W.Frag) : Sp := fun vs H Q _ => ∃ (a : Addr) (l : List Nat), vs = [.ref a] ∧ SqL K H a (l.map vN) ∧ l.length ≤ 1000 ∧ ∀ H', Same H H' → Q (.bl (lowQ l)) H'
theorem ok_areQ (F : At K mg "are_quarters" s_are_quarters ["row"]) (T : Txt P w K mg A) : Cal P w K mg base 1 "are_quarters" (spAreQ K) [] := by
  refine F.cal sc_are_quarters (fun vs H Q E h => ?_) (fun f cdv Ar outer s H vs Q E hr h => ?_)
  · obtain ⟨a, l, rfl, _⟩ := h
    rfl
  · obtain ⟨a, l, rfl, hS, hl, q⟩ := h
    refine ⟨_, (pss_one (ps_ret (pe_callB (cr_allM rfl) (by rfl) T.all (by decide +kernel) (pa_cons (pe_lc (own := [("one", 1)]) (g := gName 1) (tt := tYes) (te := (tOp (rI0 fun i j => .bl (decide (i ≤ j))) (tVar 1) (tC (.int 65535)))) rfl sc_are_quarters.nd (pi_list (pv 0)) (blkOk_by (N := ["row", "one"]) (sc := defScope s_are_quarters) (by decide +kernel)) (fun _ _ _ _ _ => pg_name (i := 1) sc_are_quarters.nd rfl (Or.inl rfl)) (fun _ _ _ _ _ => by exact pts_nil) (fun _ _ _ _ _ => by exact (pe_cmpR op_le (pv 1) (pe_gc (by rfl) T.g_MOST_QUARTER) (nomark _)))) pa_nil)))), ?_⟩
    refine x_ret (x_cb1 (lca1 (cs := l) (fun x => .bl (decide (x < 65536))) (val_var rfl) hS (by rw [List.length_map]) (by rw [List.length_map]; omega) (fun k y x hy hx H' sm => ?_) fun D1 H1 n1 s1 e1 => ?_))
    · rw [List.getElem?_map, hx] at hy
      cases hy
      refine ValS.of ?_
      rw [show decide (x < 65536) = decide ((x : Int) ≤ 65535) from decide_eq_decide.mpr (by omega)]
      exact val_I0 (val_var rfl) val_c
    refine ⟨D1, l.map fun x => decide (x < 65536), rfl, SqL.of (by rw [e1, List.map_map]; rfl), ?_⟩
    have e : (l.map fun x => decide (x < 65536)).all id = lowQ l := by
      rw [List.all_map]
      rfl
    rw [e]
    exact q H1 s1
/-! ### verify: plain laws -/
def verC (i n : Nat) (l1 l2 l3 : List Nat) : Int := if Kex7.areHashes l1 = false ∨ Kex7.areHashes l2 = false ∨ Kex7.areHashes l3 = false ∨ l1.length ≠ 4 ∨ l3.length ≠ 4 ∨ 1000 < n then -22 else if Kex7.verify i n ((Kex7.hashesOf l1).headD 0) (Kex7.hashesOf l2) ((Kex7.hashesOf l3).headD 0) = true then 1 else 0
theorem step_ver (b : Board) (i n : Nat) (l1 l2 l3 : List Nat) : Kex7.step (some b) (.verify i n l1 l2 l3) = (some b, .value (verC i n l1 l2 l3)) := by
  show (some b, if _ then _ else _) = _
  unfold verC
  split <;> rfl
theorem are_hashes (l : List Nat) : Kex7.areHashes l = (l.length % 4 == 0 && lowQ l) := rfl
theorem head4 {l : List Nat} (h : l.length = 4) (hq : lowQ l = true) : (Kex7.hashesOf l).headD 0 = fromQ l := by
  match l, h with
  | [a, b, c, d], _ =>
    unfold lowQ at hq
    simp only [List.all_cons, List.all_nil, Bool.and_eq_true, decide_eq_true_iff] at hq
    rw [fromQ4 a b c d hq.2.1 hq.2.2.1 hq.2.2.2.1]
    rfl
theorem hashes_def : ∀ (n : Nat) (l : List Nat), l.length = 4 * n → lowQ l = true → Kex7.hashesOf l = (List.range n).map fun k => fromQ ((l.drop (4 * k)).take 4)
  | 0, l, h, _ => by
    have e : l = [] := List.length_eq_zero_iff.mp (by omega)
    subst e
    rfl
  | n + 1, [], h, _ => by simp at h
  | n + 1, [_], h, _ => by simp only [List.length_cons, List.length_nil] at h; omega
  | n + 1, [_, _], h, _ => by simp only [List.length_cons, List.length_nil] at h; omega
  | n + 1, [_, _, _], h, _ => by simp only [List.length_cons, List.length_nil] at h; omega
  | n + 1, a :: b :: c :: d :: r, h, hq => by
    have hr : r.length = 4 * n := by simp only [List.length_cons] at h; omega
    unfold lowQ at hq
    simp only [List.all_cons, Bool.and_eq_true, decide_eq_true_iff] at hq
    have ih := hashes_def n r hr hq.2.2.2.2
    show (((a * 65536 + b) * 65536 + c) * 65536 + d) :: Kex7.hashesOf r = _
    rw [ih, List.range_succ_eq_map, List.map_cons, List.map_map, ← fromQ4 a b c d hq.2.1 hq.2.2.1 hq.2.2.2.1]
    congr 1
theorem hashes_small {l : List Nat} {n : Nat} (h : l.length = 4 * n) (hq : lowQ l = true) : small (Kex7.hashesOf l) := by
  rw [hashes_def n l h hq]
  intro x hx
  obtain ⟨k, _, rfl⟩ := List.mem_map.mp hx
  refine fromQ_small _ (fun y hy => ?_) (by rw [List.length_take]; omega)
  have z := List.all_eq_true.mp hq y (List.mem_of_mem_drop (List.mem_of_mem_take hy))
  exact of_decide_eq_true z
theorem rgc4 {n : Nat} (h : n < 26) : RgC 0 ((4 * n : Nat) : Int) 4 n := by
  refine ⟨by decide, by decide, ?_, ?_⟩
  · exact (by decide : ∀ n, n < 26 → Builtin.Range.small 0 ((4 * n : Nat) : Int) 4 = true) n h
  · exact (by decide : ∀ n, n < 26 → Builtin.Range.rangeSize 0 ((4 * n : Nat) : Int) 4 = n) n h
theorem x_ifNOr {σ : L2.St} {H : Hp} {te : TE} {u : TT} {t1 t2 : TS} {D : Ends} (h : te σ H fun x H1 => ∃ k, x = .bl k ∧ (if (!k) = true then t1 D σ H1 else tIfS u t1 t2 D σ H1)) : tIfS (tOr (tNot (tB te)) u) t1 t2 D σ H := h
theorem val_from {σ : L2.St} {H : Hp} {a : Addr} {l : List Nat} {te : TE} (hv : Val te σ H (.ref a)) (hS : SqL K H a (l.map vN)) (h4 : l.length ≤ 4) (hq : lowQ l = true) : Val (tCall (spFrom K) [] C8.E0 (tCons te tNil)) σ H (vN (fromQ l)) := fun Q q => x_call1 (x_val hv ⟨a, l, rfl, hS, fun x hx => of_decide_eq_true (List.all_eq_true.mp hq x hx), h4, q⟩)
theorem lcR3 {σ : L2.St} {H : Hp} {ts : TA} {i : Nat} {lo hi c : Int} {n : Nat} {te : TE} {Q : VK} (hv : ValA ts σ H [.int lo, .int hi, .int c]) (hr : RgC lo hi c n) (f : Nat → V) (hl : n ≤ 1000000)
    (he : ∀ k, k < n → ∀ H', Same H H' → ValS te ((wipe σ [i]).set i (some (.int (lo + (k : Nat) * c)))) H' (f k))
    (q : ∀ D H', H D = none → Same H H' → H' D = some (.lst ((List.range n).map f)) → Q (.ref D) H') : tLc (iRng3 ts) (gName i) tYes te [i] σ H Q := hv _ ⟨lo, hi, c, n, rfl, hr, lcc_at f hl he q⟩
def spVer (K : PySem.W.Frag) : Sp := fun vs H Q _ => ∃ (g a1 a2 a3 : Addr) (i n : Nat) (l1 l2 l3 : List Nat), vs = [.ref g, .ref a1, .ref a2, .ref a3] ∧ SqL K H g ([i, n].map vN) ∧ SqL K H a1 (l1.map vN) ∧ SqL K H a2 (l2.map vN) ∧ SqL K H a3 (l3.map vN) ∧ l2.length ≤ 100 ∧ l1.length ≤ 100 ∧ l3.length ≤ 100 ∧
  ∀ H' p, Same H H' → H' p = none → Q (.ref p) (upd H' p (.lst [.int (verC i n l1 l2 l3)]))
theorem ok_ver (F : At K mg "verify" s_verify ["given", "leaf", "hashes", "expected"]) (T : Txt P w K mg A) (c_are_quarters : Cal P w K mg base 1 "are_quarters" (spAreQ K) []) (c_from_quarters : Cal P w K mg base 1 "from_quarters" (spFrom K) []) (c_result_of : Cal P w K mg base 13 "result_of" (spRes K (2 ^ 10)) []) : Cal P w K mg base 14 "verify" (spVer K) [] := by
  refine F.cal sc_verify (fun vs H Q E h => ?_) (fun f cdv Ar outer s H vs Q E hr h => ?_)
  · obtain ⟨g, a1, a2, a3, i, n, l1, l2, l3, rfl, _⟩ := h
    rfl
  · obtain ⟨g, a1, a2, a3, i, n, l1, l2, l3, rfl, hS, h1, h2, h3, m2, m1, m3, q⟩ := h
    refine ⟨_, (pss_cons (ps_asg (pv 0) (pg_unl rfl (pgs_cons (pg_name (i := 4) sc_verify.nd rfl (Or.inl rfl)) (pgs_cons (pg_name (i := 5) sc_verify.nd rfl (Or.inl rfl)) pgs_nil))))
      (pss_cons (ps_if (PW.pt (pw_or (pt_cmpR op_neI (pe_callB call_lenM (by rfl) T.len (by decide +kernel) (pa_cons (pv 1) pa_nil)) pe_int (nomark _)) (pw_or (pt_cmpR op_neI (pe_callB call_lenM (by rfl) T.len (by decide +kernel) (pa_cons (pv 3) pa_nil)) pe_int (nomark _)) (pw_or (pt_cmpR op_neI (pe_op op_mod (pe_callB call_lenM (by rfl) T.len (by decide +kernel) (pa_cons (pv 2) pa_nil)) pe_int) pe_int (nomark _)) (pw_or1 (pt_cmpR op_gt (pv 5) (pe_gc (by rfl) T.g_MOST_COUNT) (nomark _))))))) (pss_one (ps_ret (pe_lst (pa_cons (pe_un un_neg pe_int) pa_nil)))) pss_nil)
      (pss_cons (ps_if (PW.pt (pw_or (pt_not (pt_val (pe_c c_are_quarters hr (by first | decide | omega) (by rfl) (pa_cons (pv 1) pa_nil)))) (pw_or (pt_not (pt_val (pe_c c_are_quarters hr (by first | decide | omega) (by rfl) (pa_cons (pv 2) pa_nil)))) (pw_or1 (pt_not (pt_val (pe_c c_are_quarters hr (by first | decide | omega) (by rfl) (pa_cons (pv 3) pa_nil)))))))) (pss_one (ps_ret (pe_lst (pa_cons (pe_un un_neg pe_int) pa_nil)))) pss_nil)
      (pss_cons (ps_if (pt_cmpR op_ge (pv 4) (pv 5) (nomark _)) (pss_one (ps_ret (pe_lst (pa_cons pe_int pa_nil)))) pss_nil)
      (pss_cons (ps_setLc (i := 6) (own := [("place", 8)]) (g := gName 8) (tt := tYes) (te := (tCall (spFrom K) [] C8.E0 (tCons (tSl (rSlL K) (tVar 2) (tPart (tVar 8)) (tPart (tOp (rI0 fun i j => .int (i + j)) (tVar 8) (tC (.int 4))))) tNil))) rfl sc_verify.nd rfl rfl (sw_true rfl rfl rfl (by decide +kernel)) (pi_range3 (by rfl) T.range (pa_cons pe_int (pa_cons (pe_callB call_lenM (by rfl) T.len (by decide +kernel) (pa_cons (pv 2) pa_nil)) (pa_cons pe_int pa_nil)))) (blkOk_by (N := ["given", "leaf", "hashes", "expected", "index", "count", "row", "found", "place"]) (sc := defScope s_verify) (by decide +kernel)) (fun _ _ _ _ _ => pg_name (i := 8) sc_verify.nd rfl (Or.inl rfl)) (fun _ _ _ _ _ => by exact pts_nil) (fun _ _ _ _ _ => by exact (pe_c c_from_quarters hr (by first | decide | omega) (by rfl) (pa_cons (pe_slice sl_list (pv 2) (po_some (pv 8)) (po_some (pe_op op_add (pv 8) pe_int))) pa_nil))))
      (pss_cons (ps_set (i := 7) sc_verify.nd rfl (Or.inl rfl) (pe_c c_result_of hr (by first | decide | omega) (by rfl) (pa_cons (pv 4) (pa_cons (pv 5) (pa_cons (pe_c c_from_quarters hr (by first | decide | omega) (by rfl) (pa_cons (pv 1) pa_nil)) (pa_cons (pv 6) pa_nil))))))
      (pss_one (ps_ret (pe_lst (pa_cons (pe_ifExp (PW.pt (pw_and (pt_cmpR op_ge (pv 7) pe_int (nomark _)) (pw_and1 (pt_cmpR op_eqI (pv 7) (pe_c c_from_quarters hr (by first | decide | omega) (by rfl) (pa_cons (pv 3) pa_nil)) (nomark _))))) pe_int pe_int) pa_nil)))))))))), ?_⟩
    walk_at "n"
    refine x_asg (x_val (val_var rfl) (x_ul2 hS ?_))
    walk_at "n"
    have vl : ∀ {σ : L2.St} {te : TE} {a : Addr} {l : List Nat} {H1 : Hp}, SqL K H1 a (l.map vN) → Val te σ H1 (.ref a) → Val (tCB (rLenM K) (tCons te tNil)) σ H1 (vN l.length) := fun {σ te a l H1} s hv => by
      have z := val_len hv s
      rw [List.length_map] at z
      exact z
    have no : (Kex7.areHashes l1 = false ∨ Kex7.areHashes l2 = false ∨ Kex7.areHashes l3 = false ∨ l1.length ≠ 4 ∨ l3.length ≠ 4 ∨ 1000 < n) → ∀ H' p, Same H H' → H' p = none → Q (.ref p) (upd H' p (.lst [.int (-22)])) := fun h H' p sm np => by
      have z := q H' p sm np
      have e : verC i n l1 l2 l3 = -22 := if_pos h
      rw [e] at z
      exact z
    have nb : ∀ {a b : Nat}, (!decide ((a : Int) = (b : Int))) = true → a ≠ b := fun {a b} h e => by
      rw [e, decide_eq_true rfl] at h
      cases h
    have nb2 : ∀ {a b : Nat}, (!decide ((a : Int) = (b : Int))) = false → a = b := fun {a b} h => by
      by_cases c : a = b
      · exact c
      · rw [decide_eq_false (show ¬ (a : Int) = (b : Int) by omega)] at h
        cases h
    refine x_ifOr (ans_test (val_I0 (vl h1 (val_var rfl)) val_c)) (fun c => x_ret (x_lstV (by walk_at "vala") fun p np => no (.inr (.inr (.inr (.inl (nb (b := 4) c))))) H p (Same.refl H) np)) (fun c => ?_)
    have e1 : l1.length = 4 := nb2 (b := 4) c
    refine x_ifOr (ans_test (val_I0 (vl h3 (val_var rfl)) val_c)) (fun c => x_ret (x_lstV (by walk_at "vala") fun p np => no (.inr (.inr (.inr (.inr (.inl (nb (b := 4) c)))))) H p (Same.refl H) np)) (fun c => ?_)
    have e3 : l3.length = 4 := nb2 (b := 4) c
    have m4 : ((l2.length : Int) % 4) = ((l2.length % 4 : Nat) : Int) := by omega
    refine x_ifOr (ans_test (val_I0 (val_I (vl h2 (val_var rfl)) val_c (by decide)) val_c)) (fun c => x_ret (x_lstV (by walk_at "vala") fun p np => no (.inr (.inl ?_)) H p (Same.refl H) np)) (fun c => ?_)
    · rw [m4] at c
      have c := nb (b := 0) c
      rw [are_hashes, Bool.beq_eq_decide_eq, decide_eq_false c]
      rfl
    have e2 : l2.length % 4 = 0 := by
      rw [m4] at c
      exact nb2 (b := 0) c
    refine x_ifP (by walk_at "ans") (fun c => x_ret (x_lstV (by walk_at "vala") fun p np => no (.inr (.inr (.inr (.inr (.inr (by omega)))))) H p (Same.refl H) np)) (fun hn => ?_)
    have hn : n ≤ 1000 := by omega
    have ah : ∀ {l : List Nat}, lowQ l = false → Kex7.areHashes l = false := fun {l} h => by rw [are_hashes, h, Bool.and_false]
    walk_at "n"
    refine x_ifNOr (x_call1 (x_val (val_var rfl) ⟨a1, l1, rfl, h1, by omega, fun H1 s1 => ⟨_, rfl, ?_⟩⟩))
    cases q1 : lowQ l1 with
    | false => exact iteT (x_ret (x_lstV (by walk_at "vala") fun p np => no (.inl (ah q1)) H1 p s1 np))
    | true =>
      refine iteF ?_
      refine x_ifNOr (x_call1 (x_val (val_var rfl) ⟨a2, l2, rfl, s1.seq h2, by omega, fun H2 s2 => ⟨_, rfl, ?_⟩⟩))
      cases q2 : lowQ l2 with
      | false => exact iteT (x_ret (x_lstV (by walk_at "vala") fun p np => no (.inr (.inl (ah q2))) H2 p (s1.trans s2) np))
      | true =>
        refine iteF ?_
        refine x_ifNB (x_call1 (x_val (val_var rfl) ⟨a3, l3, rfl, (s1.trans s2).seq h3, by omega, fun H3 s3 => ⟨_, rfl, ?_⟩⟩))
        have sA := (s1.trans s2).trans s3
        cases q3 : lowQ l3 with
        | false => exact iteT (x_ret (x_lstV (by walk_at "vala") fun p np => no (.inr (.inr (.inl (ah q3)))) H3 p sA np))
        | true =>
          refine iteF ?_
          have eV : verC i n l1 l2 l3 = if (decide (i < n) && fld i n (fromQ l1) (Kex7.hashesOf l2) == some (fromQ l3)) = true then 1 else 0 := by
            unfold verC
            rw [if_neg]
            · rw [head4 e1 q1, head4 e3 q3]
              rfl
            · rw [are_hashes, are_hashes, are_hashes, e1, e2, e3, q1, q2, q3]
              rintro (z | z | z | z | z | z)
              · cases z
              · cases z
              · cases z
              · exact z rfl
              · exact z rfl
              · omega
          walk_at "n"
          refine x_ifP (by walk_at "ans") (fun c => x_ret (x_lstV (xs := [.int 0]) (by walk_at "vala") fun p np => ?_)) (fun c => ?_)
          · have z := q H3 p sA np
            rw [eV, decide_eq_false (show ¬ i < n by omega)] at z
            exact z
          have hin : i < n := by omega
          rw [decide_eq_true hin, Bool.true_and] at eV
          obtain ⟨k, hk⟩ : ∃ k, l2.length = 4 * k := ⟨l2.length / 4, by omega⟩
          walk_at "n"
          have v2 := vl (sA.seq h2) (σ := [some (.ref g), some (.ref a1), some (.ref a2), some (.ref a3), some (vN i), some (vN n), none, none, none]) (te := tVar 2) (val_var rfl)
          rw [hk] at v2
          refine x_set (lcR3 (vala_cons val_c (vala_cons v2 (vala_cons val_c vala_nil))) (rgc4 (n := k) (by omega)) (fun j => vN (fromQ ((l2.drop (4 * j)).take 4))) (by omega) (fun j hj H' sm => ?_) fun D H4 nD s4 eD => ?_)
          · have e : (0 + (j : Int) * 4) = ((4 * j : Nat) : Int) := by omega
            have e' : ((4 * j : Nat) : Int) + 4 = ((4 * j + 4 : Nat) : Int) := by omega
            rw [e]
            intro Q' q'
            refine x_call1 (x_slMid (n := 4 * j) (m := 4 * j + 4) (val_var rfl) (val_var rfl) (by rw [← e']; exact val_I0 (val_var rfl) val_c) ((sA.trans sm).seq h2) fun p np => ?_)
            have ed : ((l2.map vN).drop (4 * j)).take (4 * j + 4 - 4 * j) = ((l2.drop (4 * j)).take 4).map vN := by
              rw [show 4 * j + 4 - 4 * j = 4 by omega, List.map_take, List.map_drop]
            rw [ed]
            refine ⟨p, (l2.drop (4 * j)).take 4, rfl, SqL.of upd_same, fun x hx => ?_, by rw [List.length_take]; omega, q' _ (same_upd np)⟩
            exact of_decide_eq_true (List.all_eq_true.mp q2 x (List.mem_of_mem_drop (List.mem_of_mem_take hx)))
          have eD' : H4 D = some (.lst ((Kex7.hashesOf l2).map vN)) := by
            rw [eD, hashes_def k l2 hk q2, List.map_map]
            rfl
          have sB := sA.trans s4
          walk_at "n"
          refine x_set (x_call0 (vala_cons (val_var rfl) (vala_cons (val_var rfl) (vala_cons (val_from (val_var rfl) (sB.seq h1) (by omega) q1) (vala_cons (val_var rfl) vala_nil)))) ?_)
          refine ⟨i, n, fromQ l1, D, Kex7.hashesOf l2, rfl, SqL.of eD', by omega, fromQ_small _ (fun x hx => of_decide_eq_true (List.all_eq_true.mp q1 x hx)) (by omega), hashes_small hk q2, fun H5 s5 => ?_⟩
          have sC := sB.trans s5
          cases hf : fld i n (fromQ l1) (Kex7.hashesOf l2) with
          | none =>
            rw [hf] at eV
            dsimp only [resV]
            walk_at "n"
            have va : Ans (tAnd (tTest (tOp (rI0 fun i j => .bl (decide (i ≥ j))) (tVar 7) (tC (.int 0)))) (tTest (tOp (rI0 fun i j => .bl (decide (i = j))) (tVar 7) (tCall (spFrom K) [] C8.E0 (tCons (tVar 3) tNil))))) [some (.ref g), some (.ref a1), some (.ref a2), some (.ref a3), some (vN i), some (vN n), some (.ref D), some (.int (-1)), none] H5 (decide ((-1 : Int) ≥ 0) && true) := ans_and3 (ans_test (val_I0 (val_var rfl) val_c)) fun h => absurd h (by decide)
            refine x_ret (x_lstV (xs := [.int 0]) (vala_cons (val_if va (fun h => absurd h (by decide)) (fun _ => val_c)) vala_nil) fun p np => ?_)
            have z := q H5 p sC np
            rw [eV] at z
            exact z
          | some x =>
            rw [hf] at eV
            dsimp only [resV]
            walk_at "n"
            refine x_ret (x_lstV (xs := [.int (verC i n l1 l2 l3)]) (vala_cons ?_ vala_nil) fun p np => q H5 p sC np)
            rw [eV]
            have va : Ans (tAnd (tTest (tOp (rI0 fun i j => .bl (decide (i ≥ j))) (tVar 7) (tC (.int 0)))) (tTest (tOp (rI0 fun i j => .bl (decide (i = j))) (tVar 7) (tCall (spFrom K) [] C8.E0 (tCons (tVar 3) tNil))))) [some (.ref g), some (.ref a1), some (.ref a2), some (.ref a3), some (vN i), some (vN n), some (.ref D), some (vN x), none] H5 (decide ((x : Int) ≥ 0) && decide ((x : Int) = (fromQ l3 : Int))) := ans_and3 (ans_test (val_I0 (val_var rfl) val_c)) fun _ => ans_test (val_I0 (val_var rfl) (val_from (val_var rfl) (sC.seq h3) (by omega) q3))
            refine val_if (Ans.to va (b' := some x == some (fromQ l3)) ?_) (fun h => ?_) (fun h => ?_)
            · rw [decide_eq_true (show (x : Int) ≥ 0 by omega), Bool.true_and, eqN]
              rfl
            · rw [if_pos h]
              exact val_c
            · rw [if_neg (by rw [h]; exact Bool.false_ne_true)]
              exact val_c
end
end Gc
namespace Gc
open PySem PySem.Spec PyProof.Rows L2
open C8 (Cal Mak Met CalAt pe_c pe_mk pe_mt pe_mt0 pe_gc)
/-! the short tactics (each is a row of one's own, tried by its key) -/
local macro_rules | `(tactic| walk_at "fl") => `(tactic| assumption)
local macro_rules | `(tactic| walk_at "side") => `(tactic| first | assumption | exact Or.inr ⟨by decide, by decide⟩ | exact Or.inl ⟨by decide, by decide⟩ | decide | (refine ⟨by decide, by decide⟩) | omega)
local macro_rules | `(tactic| walk_at "val") => `(tactic| first
  | with_reducible exact val_c
  | ((with_reducible refine' val_var ?vv); (case vv => rfl))
  | ((with_reducible refine' val_fl ?vfa ?vfb); (case vfa => walk_at "val"); (case vfb => walk_at "fl"))
  | ((with_reducible refine' val_len ?vla ?vlb); (case vla => walk_at "val"); (case vlb => walk_at "sq"))
  | ((with_reducible refine' val_I0 ?v0a ?v0b); (case v0a => walk_at "val"); (case v0b => walk_at "val"))
  | ((with_reducible refine' val_I ?via ?vib ?vic); (case via => walk_at "val"); (case vib => walk_at "val"); (case vic => walk_at "side"))
  | ((with_reducible refine' val_neg ?vn); (case vn => walk_at "val"))
  | ((with_reducible refine' val_isN ?vs); (case vs => walk_at "val"))
  | ((with_reducible refine' val_ixL ?xa ?xb ?xc ?xd); (case xa => walk_at "val"); (case xb => walk_at "val"); (case xc => walk_at "sq"); (case xd => walk_at "at"))
  | ((with_reducible refine' val_ixT ?ya ?yb ?yc ?yd); (case ya => walk_at "val"); (case yb => walk_at "val"); (case yc => walk_at "sqt"); (case yd => walk_at "at"))
  | ((with_reducible refine' val_chain ?ca ?cb ?cc); (case ca => walk_at "val"); (case cb => walk_at "val"); (case cc => walk_at "val"))
  | ((with_reducible refine' val_max2 ?ma ?mb); (case ma => walk_at "val"); (case mb => walk_at "val")))
local macro_rules | `(tactic| walk_at "sq") => `(tactic| first | assumption | exact SqL.of (by assumption))
local macro_rules | `(tactic| walk_at "sqt") => `(tactic| first | assumption | exact SqT.of (by assumption))
local macro_rules | `(tactic| walk_at "at") => `(tactic| first | assumption | rfl)
local macro_rules | `(tactic| walk_at "ans") => `(tactic| first
  | ((with_reducible refine' ans_test ?at_); (case at_ => walk_at "val"))
  | ((with_reducible refine' ans_B ?ab_); (case ab_ => walk_at "val"))
  | ((with_reducible refine' ans_or2 ?ao ?ap); (case ao => walk_at "ans"); (case ap => (intro _; walk_at "ans")))
  | ((with_reducible refine' ans_and3 ?aq ?ar); (case aq => walk_at "ans"); (case ar => (intro _; walk_at "ans")))
  | ((with_reducible refine' ans_notM ?an); (case an => walk_at "ans")))
local macro_rules | `(tactic| walk_at "vala") => `(tactic| first
  | with_reducible exact vala_nil
  | ((with_reducible refine' vala_cons ?wa ?wb); (case wa => walk_at "val"); (case wb => walk_at "vala")))
local macro_rules | `(tactic| walk_at "n") => `(tactic| (repeat (first | (with_reducible refine x_gn ?_) | (with_reducible refine st_seq ?_) | (with_reducible refine st_next ?_) | dsimp only)))
local macro_rules | `(tactic| walk_at "fl") => `(tactic| first
  | assumption
  | ((with_reducible refine' fp_people ?fB ?fT); (case fB => assumption); (case fT => assumption))
  | ((with_reducible refine' fp_clock ?fB ?fT); (case fB => assumption); (case fT => assumption))
  | ((with_reducible refine' fp_settings ?fB ?fT); (case fB => assumption); (case fT => assumption))
  | ((with_reducible refine' fp_classes ?fB ?fT); (case fB => assumption); (case fT => assumption))
  | ((with_reducible refine' fp_needs ?fB ?fT); (case fB => assumption); (case fT => assumption))
  | ((with_reducible refine' fp_own_counts ?fB ?fT); (case fB => assumption); (case fT => assumption))
  | ((with_reducible refine' fp_freezes ?fB ?fT); (case fB => assumption); (case fT => assumption))
  | ((with_reducible refine' fp_proposals ?fB ?fT); (case fB => assumption); (case fT => assumption))
  | ((with_reducible refine' fp_guards ?fB ?fT); (case fB => assumption); (case fT => assumption))
  | ((with_reducible refine' fp_log ?fB ?fT); (case fB => assumption); (case fT => assumption))
  | ((with_reducible refine' fp_past ?fB ?fT); (case fB => assumption); (case fT => assumption))
  | ((with_reducible refine' fq_author ?fB ?fT ?fH); (case fB => assumption); (case fT => assumption); (case fH => assumption))
  | ((with_reducible refine' fq_time ?fB ?fT ?fH); (case fB => assumption); (case fT => assumption); (case fH => assumption))
  | ((with_reducible refine' fq_changes ?fB ?fT ?fH); (case fB => assumption); (case fT => assumption); (case fH => assumption))
  | ((with_reducible refine' fq_approvals ?fB ?fT ?fH); (case fB => assumption); (case fT => assumption); (case fH => assumption))
  | ((with_reducible refine' fq_status ?fB ?fT ?fH); (case fB => assumption); (case fT => assumption); (case fH => assumption))
  | ((with_reducible refine' fq_end ?fB ?fT ?fH); (case fB => assumption); (case fT => assumption); (case fH => assumption))
  | ((with_reducible refine' fq_before ?fB ?fT ?fH); (case fB => assumption); (case fT => assumption); (case fH => assumption)))
local macro_rules | `(tactic| walk_at "sq") => `(tactic| first | assumption | exact SqL.of (by assumption) | exact s_sets (by assumption) | exact s_cls (by assumption) | exact s_need (by assumption) | exact s_own (by assumption) | exact s_frz (by assumption) | exact s_prs (by assumption) | exact s_grd (by assumption) | exact s_log (by assumption) | exact s_past (by assumption) | exact s_chg (by assumption) (by assumption) | exact s_apr (by assumption) (by assumption) | exact s_bef (by assumption) (by assumption))
local macro_rules | `(tactic| walk_at "at") => `(tactic| first | assumption | exact atI_0 rfl | exact atI_1 rfl | exact atI_2 rfl)
abbrev s_asked : Stmt := topS 71
theorem sc_asked : FnScope ["platform", "number", "given", "rows"] ["platform", "number", "given", "rows"] (defScope s_asked) := ⟨rfl, rfl, rfl, by decide +kernel, rfl, by decide +kernel, by decide +kernel⟩
abbrev s_done : Stmt := topS 72
theorem sc_done : FnScope ["platform", "number", "given", "rows", "deed"] ["platform", "number", "given", "rows"] (defScope s_done) := ⟨rfl, rfl, rfl, by decide +kernel, rfl, by decide +kernel, by decide +kernel⟩
section
variable {P : Program} {w : World} {K : PySem.W.Frag} {mg : Str → Option Value} {base : Heap} {A : Ad}
/-! ## Which call is which request -/
theorem Out.mono {L : Lay} {b : Board} {c : Nat} {H H1 : Hp} {q : Kex7.Request} {Q : VK} (h : Out A L b c H q Q) (s : Same H H1) : Out A L b c H1 q Q := fun H' L' b' r res e W B f n hr =>
  h H' L' b' r res e W B ((Fr.same s).trans f) (fun x o hx hf => n x o (s x o hx) hf) hr
/-- lists of numbers, at the addresses that the list at r holds -/
structure Rows (K : PySem.W.Frag) (H : Hp) (r : Addr) (rows : List (List Nat)) : Prop where
  ex : ∃ as : List Addr, SqL K H r (as.map V.ref) ∧ as.length = rows.length ∧ ∀ (i : Nat) (a : Addr) (l : List Nat), as[i]? = some a → rows[i]? = some l → SqL K H a (l.map vN)
theorem Rows.mono {K : PySem.W.Frag} {H H1 : Hp} {r : Addr} {rows : List (List Nat)} (h : Rows K H r rows) (s : Same H H1) : Rows K H1 r rows := by
  obtain ⟨as, h1, h2, h3⟩ := h.ex
  exact ⟨as, s.seq h1, h2, fun i a l e1 e2 => s.seq (h3 i a l e1 e2)⟩
inductive okAsk : Nat → List Nat → List (List Nat) → Kex7.Request → Prop
  | set {k : Nat} {args : List Nat} {q : Kex7.Request} (h : okSet k args q) : okAsk k args [] q
  | pro {k : Nat} {args : List Nat} {q : Kex7.Request} (h : okPro k args q) : okAsk k args [] q
  | tim {k : Nat} {args : List Nat} {q : Kex7.Request} (h : okTim k args q) : okAsk k args [] q
  | log {k : Nat} {args : List Nat} {q : Kex7.Request} (h : okLog k args q) : okAsk k args [] q
  | ver (i n : Nat) (l1 l2 l3 : List Nat) : l1.length ≤ 100 → l2.length ≤ 100 → l3.length ≤ 100 → okAsk 25 [i, n] [l1, l2, l3] (.verify i n l1 l2 l3)
  | sum : okAsk 26 [] [] .summary
/-- a call on an object: number, what is given, rows -/
def spCall (A : Ad) (K : PySem.W.Frag) (ok : Nat → List Nat → List (List Nat) → Kex7.Request → Prop) : Sp := fun vs H Q _ => ∃ (L : Lay) (b : Board) (c : Nat) (g r : Addr) (k : Nat) (args : List Nat) (rows : List (List Nat)) (q : Kex7.Request), vs = [.ref (L.ad .plat), vN k, .ref g, .ref r] ∧ Bd A L b H ∧ Wf c b ∧ c + 1 ≤ 1000 ∧ SqL K H g (args.map vN) ∧ Rows K H r rows ∧ ok k args rows q ∧ Out A L b c H q Q
theorem x_ifIn {σ : L2.St} {H : Hp} {t1 t2 : TS} {D : Ends} {k : Nat} {ta : TE} {ts : TA} {l : List Nat} (ha : Val ta σ H (vN k)) (hl : l.length ≤ 1000000) (hs : ValA ts σ H (l.map vN)) (yes : l.contains k = true → ∀ H', Same H H' → t1 D σ H') (no : l.contains k = false → ∀ H', Same H H' → t2 D σ H') : tIfS (tTest (tOp (rIn K false) ta (tTup ts))) t1 t2 D σ H := by
  refine x_ifT (x_op (x_val ha (x_tupV hs (fun t nt => ⟨t, l.map vN, rfl, .inr (SqT.of upd_same), rfl, flat_vN l, _, rfl, ?_⟩) (by rw [List.length_map]; exact hl))))
  have e : inV (vN k) (l.map vN) = l.contains k := in_vN k l
  show if inV (vN k) (l.map vN) = true then _ else _
  rw [e]
  cases c : l.contains k with
  | true => exact iteT (yes c _ (same_upd nt))
  | false => exact iteF (no c _ (same_upd nt))
theorem ok_askd (F : At K mg "asked" s_asked ["platform", "number", "given", "rows"]) (T : Txt P w K mg A) (c_about_setting : Cal P w K mg base 2 "about_setting" (spAsk A K okSet) []) (c_about_proposal : Cal P w K mg base 2 "about_proposal" (spAsk A K okPro) []) (c_about_time : Cal P w K mg base 3 "about_time" (spAsk A K okTim) [])
    (c_verify : Cal P w K mg base 14 "verify" (spVer K) []) (c_summary : Cal P w K mg base 2 "summary" (spSum A) []) (c_about_log : Cal P w K mg base 35 "about_log" (spAsk A K okLog) []) : Cal P w K mg base 36 "asked" (spCall A K okAsk) [] := by
  refine F.cal sc_asked (fun vs H Q E h => ?_) (fun f cdv Ar outer s H vs Q E hr h => ?_)
  · obtain ⟨L, b, c, g, r, k, args, rows, q, rfl, _⟩ := h
    rfl
  · obtain ⟨L, b, c, g, r, k, args, rows, rq, rfl, B, W, hc, hS, hR, ok, q⟩ := h
    refine ⟨_, (pss_cons (ps_if (pt_cmpR op_in_seq (pv 1) (pe_tup (pa_cons pe_int (pa_cons pe_int (pa_cons pe_int pa_nil)))) (by with_unfolding_all rfl)) (pss_one (ps_ret (pe_c c_about_setting hr (by first | decide | omega) (by rfl) (pa_cons (pv 0) (pa_cons (pv 1) (pa_cons (pv 2) pa_nil)))))) pss_nil)
      (pss_cons (ps_if (PW.pt (pw_or (pt_cmpR op_eqI (pv 1) pe_int (nomark _)) (pw_or1 (pt_cmpR op_eqI (pv 1) pe_int (nomark _))))) (pss_one (ps_ret (pe_c c_about_proposal hr (by first | decide | omega) (by rfl) (pa_cons (pv 0) (pa_cons (pv 1) (pa_cons (pv 2) pa_nil)))))) pss_nil)
      (pss_cons (ps_if (PW.pt (pw_or (pt_cmpR op_eqI (pv 1) pe_int (nomark _)) (pw_or1 (pt_cmpR op_eqI (pv 1) pe_int (nomark _))))) (pss_one (ps_ret (pe_c c_about_time hr (by first | decide | omega) (by rfl) (pa_cons (pv 0) (pa_cons (pv 1) (pa_cons (pv 2) pa_nil)))))) pss_nil)
      (pss_cons (ps_if (pt_cmpR op_eqI (pv 1) pe_int (nomark _)) (pss_one (ps_ret (pe_c c_verify hr (by first | decide | omega) (by rfl) (pa_cons (pv 2) (pa_cons (pe_ix ix_list (pv 3) pe_int (fun _ _ => rfl)) (pa_cons (pe_ix ix_list (pv 3) pe_int (fun _ _ => rfl)) (pa_cons (pe_ix ix_list (pv 3) pe_int (fun _ _ => rfl)) pa_nil))))))) pss_nil)
      (pss_cons (ps_if (pt_cmpR op_eqI (pv 1) pe_int (nomark _)) (pss_one (ps_ret (pe_c c_summary hr (by first | decide | omega) (by rfl) (pa_cons (pv 0) pa_nil)))) pss_nil)
      (pss_one (ps_ret (pe_c c_about_log hr (by first | decide | omega) (by rfl) (pa_cons (pv 0) (pa_cons (pv 1) (pa_cons (pv 2) pa_nil))))))))))), ?_⟩
    refine x_ifIn (l := [14, 15, 20]) (val_var rfl) (by decide) (vala_cons val_c (vala_cons val_c (vala_cons val_c vala_nil))) (fun c1 H1 s1 => ?_) (fun c1 H1 s1 => ?_)
    · cases ok with
      | set h => exact x_ret (x_call0 (by walk_at "vala") ⟨L, b, c, g, k, args, rq, rfl, B.mono s1, W, hc, s1.seq hS, h, q.mono s1⟩)
      | pro h => cases h <;> cases c1
      | tim h => cases h <;> cases c1
      | log h => cases h <;> cases c1
      | ver => cases c1
      | sum => cases c1
    walk_at "n"
    have B1 := B.mono s1
    have q1 := q.mono s1
    have S1 := s1.seq hS
    have R1 := hR.mono s1
    have eqk : ∀ {k j : Nat}, k ≠ j → ¬ ((k : Int) = (j : Int)) := fun h => by omega
    cases ok with
    | set h => cases h <;> cases c1
    | pro h =>
      have z : ∀ D' : Ends, True := fun _ => trivial
      cases h with
      | g i => exact x_ifOr (by walk_at "ans") (fun _ => x_ret (x_call0 (by walk_at "vala") ⟨L, b, c, g, 16, [i], _, rfl, B1, W, hc, S1, .g i, q1⟩)) (fun h => absurd h (by decide))
      | m i => exact x_ifOr (by walk_at "ans") (fun h => absurd h (by decide)) (fun _ => x_ifP (by walk_at "ans") (fun _ => x_ret (x_call0 (by walk_at "vala") ⟨L, b, c, g, 17, [i], _, rfl, B1, W, hc, S1, .m i, q1⟩)) (fun h => absurd (by decide) h))
    | tim h =>
      cases h with
      | f t =>
        refine x_ifOr (by walk_at "ans") (fun h => absurd h (by decide)) (fun _ => x_ifP (by walk_at "ans") (fun h => absurd h (by decide)) (fun _ => ?_))
        walk_at "n"
        exact x_ifOr (by walk_at "ans") (fun _ => x_ret (x_call0 (by walk_at "vala") ⟨L, b, c, g, 18, [t], _, rfl, B1, W, hc, S1, .f t, q1⟩)) (fun h => absurd h (by decide))
      | n t =>
        refine x_ifOr (by walk_at "ans") (fun h => absurd h (by decide)) (fun _ => x_ifP (by walk_at "ans") (fun h => absurd h (by decide)) (fun _ => ?_))
        walk_at "n"
        exact x_ifOr (by walk_at "ans") (fun h => absurd h (by decide)) (fun _ => x_ifP (by walk_at "ans") (fun _ => x_ret (x_call0 (by walk_at "vala") ⟨L, b, c, g, 19, [t], _, rfl, B1, W, hc, S1, .n t, q1⟩)) (fun h => absurd (by decide) h))
    | log h =>
      have hk : k = 21 ∨ k = 22 ∨ k = 23 ∨ k = 24 := by cases h <;> decide
      have n16 : decide ((k : Int) = 16) = false := decide_eq_false (by omega)
      have n17 : ¬ (k : Int) = 17 := by omega
      have n18 : decide ((k : Int) = 18) = false := decide_eq_false (by omega)
      have n19 : ¬ (k : Int) = 19 := by omega
      have n25 : ¬ (k : Int) = 25 := by omega
      have n26 : ¬ (k : Int) = 26 := by omega
      refine x_ifOr (by walk_at "ans") (fun h => absurd (n16.symm.trans h) (by decide)) (fun _ => x_ifP (by walk_at "ans") (fun h => absurd h n17) (fun _ => ?_))
      walk_at "n"
      refine x_ifOr (by walk_at "ans") (fun h => absurd (n18.symm.trans h) (by decide)) (fun _ => x_ifP (by walk_at "ans") (fun h => absurd h n19) (fun _ => ?_))
      walk_at "n"
      refine x_ifP (by walk_at "ans") (fun h => absurd h n25) (fun _ => ?_)
      walk_at "n"
      refine x_ifP (by walk_at "ans") (fun h => absurd h n26) (fun _ => ?_)
      walk_at "n"
      exact x_ret (x_call0 (by walk_at "vala") ⟨L, b, c, g, k, args, rq, rfl, B1, W, hc, S1, h, q1⟩)
    | ver i n l1 l2 l3 m1 m2 m3 =>
      refine x_ifOr (by walk_at "ans") (fun h => absurd h (by decide)) (fun _ => x_ifP (by walk_at "ans") (fun h => absurd h (by decide)) (fun _ => ?_))
      walk_at "n"
      refine x_ifOr (by walk_at "ans") (fun h => absurd h (by decide)) (fun _ => x_ifP (by walk_at "ans") (fun h => absurd h (by decide)) (fun _ => ?_))
      walk_at "n"
      refine x_ifP (by walk_at "ans") (fun _ => ?_) (fun h => absurd (by decide) h)
      obtain ⟨as, r1, r2, r3⟩ := R1.ex
      obtain ⟨a1, a2, a3, rfl⟩ := len3 r2
      refine x_ret (x_call0 (vala_cons (val_var rfl) (vala_cons (val_ixL (val_var rfl) val_c r1 (atI_0 rfl)) (vala_cons (val_ixL (val_var rfl) val_c r1 (atI_1 rfl)) (vala_cons (val_ixL (val_var rfl) val_c r1 (atI_2 rfl)) vala_nil)))) ?_)
      exact ⟨g, a1, a2, a3, i, n, l1, l2, l3, rfl, S1, r3 0 _ _ rfl rfl, r3 1 _ _ rfl rfl, r3 2 _ _ rfl rfl, m2, m1, m3, fun H' p sm np => q1.put0 (step_ver b i n l1 l2 l3) W hc B1 sm np rfl⟩
    | sum =>
      refine x_ifOr (by walk_at "ans") (fun h => absurd h (by decide)) (fun _ => x_ifP (by walk_at "ans") (fun h => absurd h (by decide)) (fun _ => ?_))
      walk_at "n"
      refine x_ifOr (by walk_at "ans") (fun h => absurd h (by decide)) (fun _ => x_ifP (by walk_at "ans") (fun h => absurd h (by decide)) (fun _ => ?_))
      walk_at "n"
      refine x_ifP (by walk_at "ans") (fun h => absurd h (by decide)) (fun _ => ?_)
      walk_at "n"
      refine x_ifP (by walk_at "ans") (fun _ => ?_) (fun h => absurd (by decide) h)
      exact x_ret (x_call0 (by walk_at "vala") ⟨L, b, c, rfl, B1, W, hc, q1⟩)
/-! ### done -/
def opN : Nat → Nat
  | 1 => 3 | 2 => 2 | 3 => 3 | 4 => 1 | 6 => 2 | 7 => 2 | 8 => 2 | 9 => 1 | 10 => 5 | 11 => 1 | 12 => 2 | _ => 3
def opQ : Nat → List Nat → Kex7.Request
  | 1 => rq3 .setRule | 2 => rq2 .setClass | 3 => rq3 .addFreeze | 4 => rq1 .removeFreeze | 6 => rq2 .approve | 7 => rq2 .withdraw | 8 => rq2 .reject | 9 => rq1 .advance | 10 => rq5 .addGuard | 11 => rq1 .removeGuard | 12 => rq2 .report | _ => rq3 .revert
def ops : List Nat := [1, 2, 3, 4, 6, 7, 8, 9, 10, 11, 12, 13]
def opSp (A : Ad) (K : PySem.W.Frag) (k : Nat) : Sp := spOp A K (opN k) (opQ k)
def opS (A : Ad) (K : PySem.W.Frag) (fa : Nat → Addr) (f : Addr) : Option Sp := (ops.find? fun k => fa k == f).map (opSp A K)
def kChanges (fa : Nat → Addr) : List (Key × V) := ops.map fun k : Nat => ((.inl (k : Int) : Key), V.ref (fa k))
theorem opS_of {fa : Nat → Addr} {f : Addr} {sp : Sp} (h : opS A K fa f = some sp) : ∃ k ∈ ops, fa k = f ∧ sp = opSp A K k := by
  unfold opS at h
  cases e : ops.find? fun k => fa k == f with
  | none =>
    rw [e] at h
    cases h
  | some k =>
    rw [e] at h
    exact ⟨k, List.mem_of_find?_eq_some e, by have z := List.find?_some e; exact beq_iff_eq.mp z, (Option.some.inj h).symm⟩
theorem opS_at {fa : Nat → Addr} (inj : ∀ j ∈ ops, ∀ k ∈ ops, fa j = fa k → j = k) {k : Nat} (hk : k ∈ ops) : opS A K fa (fa k) = some (opSp A K k) := by
  unfold opS
  cases e : ops.find? fun j => fa j == fa k with
  | none =>
    have z := List.find?_eq_none.mp e k hk
    exact absurd (beq_self_eq_true _) z
  | some j =>
    have z : fa j = fa k := by have z := List.find?_some e; exact beq_iff_eq.mp z
    rw [inj j (List.mem_of_find?_eq_some e) k hk z]
    rfl
inductive okAll : Nat → List Nat → List (List Nat) → Kex7.Request → Prop
  | op {k : Nat} {args : List Nat} (h : k ∈ ops) (n : args.length = opN k) : okAll k args [] (opQ k args)
  | prop (x y : Nat) (l : List Nat) : okAll 5 [x, y] [l] (.propose x y l)
  | ask {k : Nat} {args : List Nat} {rows : List (List Nat)} {q : Kex7.Request} (h : okAsk k args rows q) : okAll k args rows q
theorem ask_no {k : Nat} {args : List Nat} {rows : List (List Nat)} {q : Kex7.Request} (h : okAsk k args rows q) : k ∉ ops ∧ k ≠ 5 := by
  cases h with
  | set h => cases h <;> decide
  | pro h => cases h <;> decide
  | tim h => cases h <;> decide
  | log h => cases h <;> decide
  | ver => decide
  | sum => decide
theorem val_ch {fa : Nat → Addr} {k : Nat} (h : k ∈ ops) : valV (kChanges fa) (.inl (k : Int)) = some (.ref (fa k)) := by
  unfold ops at h
  simp only [List.mem_cons, List.not_mem_nil, or_false] at h
  rcases h with rfl | rfl | rfl | rfl | rfl | rfl | rfl | rfl | rfl | rfl | rfl | rfl <;> rfl
theorem val_no {fa : Nat → Addr} {k : Nat} (h : k ∉ ops) : valV (kChanges fa) (.inl (k : Int)) = none := by
  unfold valV kChanges
  rw [List.find?_eq_none.mpr]
  · rfl
  · intro p hp
    obtain ⟨j, hj, rfl⟩ := List.mem_map.mp hp
    intro z
    have z := of_decide_eq_true z
    have z2 : (j : Int) = (k : Int) := Sum.inl.inj z
    exact h (by rw [← show j = k by omega]; exact hj)
theorem ans_inK {σ : L2.St} {H : Hp} {ta tb : TE} {a : Addr} {kvs : List (Key × V)} {k : Nat} (kd : KDi K P w a kvs) (ha : Val ta σ H (vN k)) (hb : Val tb σ H (.ref a)) : Ans (tTest (tOp (rInKI K P w) ta tb)) σ H (valV kvs (.inl (k : Int))).isSome := fun Q q => ha _ (hb _ ⟨a, kvs, .inl (k : Int), rfl, rfl, kd, _, rfl, q⟩)
theorem val_ixK {σ : L2.St} {H : Hp} {ta tb : TE} {a : Addr} {kvs : List (Key × V)} {k : Nat} {v : V} (kd : KDi K P w a kvs) (ha : Val ta σ H (.ref a)) (hb : Val tb σ H (vN k)) (e : valV kvs (.inl (k : Int)) = some v) : Val (tOp (rIxKI K P w) ta tb) σ H v := fun Q q => ha _ (hb _ ⟨a, kvs, .inl (k : Int), v, rfl, rfl, kd, e, q⟩)
theorem ok_done {fa : Nat → Addr} (F : At K mg "done" s_done ["platform", "number", "given", "rows"]) (T : Txt P w K mg A) (kd : KDi K P w A.dC (kChanges fa)) (inj : ∀ j ∈ ops, ∀ k ∈ ops, fa j = fa k → j = k)
    (A_deed : ∀ f sp, opS A K fa f = some sp → Held P w K mg base 36 f sp) (c_propose : Cal P w K mg base 5 "propose" (spOpR A K 2 fun l r => .propose (l.getD 0 0) (l.getD 1 0) r) []) (c_asked : Cal P w K mg base 36 "asked" (spCall A K okAsk) []) : Cal P w K mg base 37 "done" (spCall A K okAll) [] := by
  refine F.cal sc_done (fun vs H Q E h => ?_) (fun f cdv Ar outer s H vs Q E hr h => ?_)
  · obtain ⟨L, b, c, g, r, k, args, rows, q, rfl, _⟩ := h
    rfl
  · obtain ⟨L, b, c, g, r, k, args, rows, rq, rfl, B, W, hc, hS, hR, ok, q⟩ := h
    refine ⟨_, (pss_cons (ps_if (pt_cmpR op_inKI (pv 1) (pe_gc (by rfl) T.g_CHANGES) (by with_unfolding_all rfl)) (pss_cons (ps_set (i := 4) sc_done.nd rfl (Or.inl rfl) (pe_ixKI (pe_gc (by rfl) T.g_CHANGES) (pv 1) (fun _ _ => rfl)))
      (pss_one (ps_ret (pe_callA (i := 4) A_deed hr rfl (Or.inl rfl) (pa_cons (pv 0) (pa_cons (pv 2) pa_nil)))))) pss_nil)
      (pss_cons (ps_if (pt_cmpR op_eqI (pv 1) pe_int (nomark _)) (pss_one (ps_ret (pe_c c_propose hr (by first | decide | omega) (by rfl) (pa_cons (pv 0) (pa_cons (pv 2) (pa_cons (pe_ix ix_list (pv 3) pe_int (fun _ _ => rfl)) pa_nil)))))) pss_nil)
      (pss_one (ps_ret (pe_c c_asked hr (by first | decide | omega) (by rfl) (pa_cons (pv 0) (pa_cons (pv 1) (pa_cons (pv 2) (pa_cons (pv 3) pa_nil))))))))), ?_⟩
    refine x_if (ans_inK kd (val_var rfl) val_c) (fun c1 => ?_) (fun c1 => ?_)
    · have hk : k ∈ ops := by
        by_cases z : k ∈ ops
        · exact z
        · rw [val_no z] at c1
          cases c1
      walk_at "n"
      refine x_setV (val_ixK kd val_c (val_var rfl) (val_ch hk)) ?_
      walk_at "n"
      cases ok with
      | op h n =>
        refine x_ret ⟨fa k, opSp A K k, rfl, opS_at inj hk, ?_⟩
        exact val_var rfl _ (val_var rfl _ ⟨L, b, c, g, args, rfl, B, W, hc, n, hS, q⟩)
      | prop => exact absurd hk (by decide)
      | ask h => exact absurd hk (ask_no h).1
    · have hk : k ∉ ops := fun z => by
        rw [val_ch z] at c1
        cases c1
      walk_at "n"
      cases ok with
      | op h n => exact absurd h hk
      | prop x y l =>
        refine x_ifP (by walk_at "ans") (fun _ => ?_) (fun h => absurd (by decide) h)
        obtain ⟨as, r1, r2, r3⟩ := hR.ex
        obtain ⟨a1, rfl⟩ := len1 r2
        refine x_ret (x_call0 (vala_cons (val_var rfl) (vala_cons (val_var rfl) (vala_cons (val_ixL (val_var rfl) val_c r1 (atI_0 rfl)) vala_nil))) ?_)
        exact ⟨L, b, c, g, a1, [x, y], l, rfl, B, W, hc, rfl, hS, r3 0 _ _ rfl rfl, q⟩
      | ask h =>
        have n5 : ¬ (k : Int) = 5 := by
          have := (ask_no h).2
          omega
        refine x_ifP (by walk_at "ans") (fun h => absurd h n5) (fun _ => ?_)
        walk_at "n"
        exact x_ret (x_call0 (by walk_at "vala") ⟨L, b, c, g, r, k, args, rows, rq, rfl, B, W, hc, hS, hR, h, q⟩)
end
end Gc
namespace Gc
open PySem PySem.Spec PyProof.Rows L2
open C8 (Cal Mak Met CalAt pe_c pe_mk pe_mt pe_mt0 pe_gc)
/-! ## Plain laws: calls in one list -/
abbrev zs (l : List Nat) : List Int := l.map fun n : Nat => (n : Int)
theorem zs_take (l : List Nat) (n : Nat) : (zs l).take n = zs (l.take n) := (List.map_take ..).symm
theorem zs_drop (l : List Nat) (n : Nat) : (zs l).drop n = zs (l.drop n) := (List.map_drop ..).symm
theorem zs_nat (l : List Nat) : (zs l).map Kex7Neutral.nat = l := by
  rw [List.map_map]
  exact List.map_id l
def numsN : List Nat := [1, 3, 2, 3, 1, 2, 2, 2, 2, 1, 5, 1, 2, 3, 1, 2, 1, 1, 1, 1, 1, 1, 1, 1, 2, 2, 0]
def lsN (k : Nat) : Nat := if k = 5 then 1 else if k = 25 then 3 else 0
def flatR (rows : List (List Nat)) : List Nat := rows.flatMap fun r => r.length :: r
theorem row_view {ns : List Nat} {x s : List Int} (h : PyFlat.row (zs ns) = some (x, s)) : ∃ r rest : List Nat, x = zs r ∧ s = zs rest ∧ ns = r.length :: r ++ rest := by
  match ns, h with
  | n :: t, h =>
    have h : (if 0 ≤ (n : Int) ∧ (n : Int).toNat ≤ (zs t).length then some ((zs t).take (n : Int).toNat, (zs t).drop (n : Int).toNat) else none) = some (x, s) := h
    rw [Int.toNat_natCast, List.length_map] at h
    split at h
    · rename_i c
      cases h
      refine ⟨t.take n, t.drop n, zs_take t n, zs_drop t n, ?_⟩
      rw [List.length_take, Nat.min_eq_left c.2]
      show n :: t = n :: (t.take n ++ t.drop n)
      rw [List.take_append_drop]
    · cases h
theorem rows_view : ∀ {k : Nat} {ns : List Nat} {xs : List (List Int)} {t : List Int}, PyFlat.rows k (zs ns) = some (xs, t) → ∃ (rows : List (List Nat)) (rest : List Nat), xs = rows.map zs ∧ t = zs rest ∧ ns = flatR rows ++ rest ∧ rows.length = k
  | 0, ns, xs, t, h => by
    cases h
    exact ⟨[], ns, rfl, rfl, rfl, rfl⟩
  | k + 1, ns, xs, t, h => by
    unfold PyFlat.rows at h
    cases e : PyFlat.row (zs ns) with
    | none =>
      rw [e] at h
      cases h
    | some p =>
      obtain ⟨x, s⟩ := p
      rw [e] at h
      dsimp only at h
      obtain ⟨r, rest, rfl, rfl, rfl⟩ := row_view e
      cases e2 : PyFlat.rows k (zs rest) with
      | none =>
        rw [e2] at h
        cases h
      | some p2 =>
        obtain ⟨xs2, t2⟩ := p2
        rw [e2] at h
        cases h
        obtain ⟨rows, rest2, rfl, rfl, rfl, hk⟩ := rows_view e2
        refine ⟨r :: rows, rest2, rfl, rfl, ?_, by rw [List.length_cons, hk]⟩
        show _ = (r.length :: r ++ flatR rows) ++ rest2
        rw [List.append_assoc]
theorem shape_is : ∀ {k : Nat}, k < 27 → PyKex7.shape (k : Int) = some (numsN.getD k 0, lsN k)
  | 0, _ => rfl
  | 1, _ => rfl
  | 2, _ => rfl
  | 3, _ => rfl
  | 4, _ => rfl
  | 5, _ => rfl
  | 6, _ => rfl
  | 7, _ => rfl
  | 8, _ => rfl
  | 9, _ => rfl
  | 10, _ => rfl
  | 11, _ => rfl
  | 12, _ => rfl
  | 13, _ => rfl
  | 14, _ => rfl
  | 15, _ => rfl
  | 16, _ => rfl
  | 17, _ => rfl
  | 18, _ => rfl
  | 19, _ => rfl
  | 20, _ => rfl
  | 21, _ => rfl
  | 22, _ => rfl
  | 23, _ => rfl
  | 24, _ => rfl
  | 25, _ => rfl
  | 26, _ => rfl
  | k + 27, h => absurd h (by omega)
theorem shape_no {k : Nat} (h : 27 ≤ k) : PyKex7.shape (k : Int) = none := by
  unfold PyKex7.shape
  rw [if_neg (show ¬ (k : Int) = 0 by omega)]
  rw [if_neg (show ¬ (k : Int) = 1 by omega)]
  rw [if_neg (show ¬ (k : Int) = 2 by omega)]
  rw [if_neg (show ¬ (k : Int) = 3 by omega)]
  rw [if_neg (show ¬ (k : Int) = 4 by omega)]
  rw [if_neg (show ¬ (k : Int) = 5 by omega)]
  rw [if_neg (show ¬ (k : Int) = 6 by omega)]
  rw [if_neg (show ¬ (k : Int) = 7 by omega)]
  rw [if_neg (show ¬ (k : Int) = 8 by omega)]
  rw [if_neg (show ¬ (k : Int) = 9 by omega)]
  rw [if_neg (show ¬ (k : Int) = 10 by omega)]
  rw [if_neg (show ¬ (k : Int) = 11 by omega)]
  rw [if_neg (show ¬ (k : Int) = 12 by omega)]
  rw [if_neg (show ¬ (k : Int) = 13 by omega)]
  rw [if_neg (show ¬ (k : Int) = 14 by omega)]
  rw [if_neg (show ¬ (k : Int) = 15 by omega)]
  rw [if_neg (show ¬ (k : Int) = 16 by omega)]
  rw [if_neg (show ¬ (k : Int) = 17 by omega)]
  rw [if_neg (show ¬ (k : Int) = 18 by omega)]
  rw [if_neg (show ¬ (k : Int) = 19 by omega)]
  rw [if_neg (show ¬ (k : Int) = 20 by omega)]
  rw [if_neg (show ¬ (k : Int) = 21 by omega)]
  rw [if_neg (show ¬ (k : Int) = 22 by omega)]
  rw [if_neg (show ¬ (k : Int) = 23 by omega)]
  rw [if_neg (show ¬ (k : Int) = 24 by omega)]
  rw [if_neg (show ¬ (k : Int) = 25 by omega)]
  rw [if_neg (show ¬ (k : Int) = 26 by omega)]
theorem asked_list {l : List Nat} (h : Kex7Neutral.list32 Kex7Neutral.nat32 (zs l) = true) : l.length ≤ 100 := by
  unfold Kex7Neutral.list32 at h
  rw [Bool.and_eq_true, decide_eq_true_iff, List.length_map] at h
  exact h.2
/-- a call in the document's form -/
abbrev callOf (k : Nat) (args : List Nat) (rows : List (List Nat)) : List (List Int) := zs (k :: args) :: rows.map zs
def okCall (k : Nat) (args : List Nat) (rows : List (List Nat)) : Prop := (k = 0 ∧ ∃ x, args = [x] ∧ rows = [] ∧ Kex7Neutral.requestOf (callOf k args rows) = some (.create x)) ∨ (k ≠ 0 ∧ ∃ q, Kex7Neutral.requestOf (callOf k args rows) = some q ∧ okAll k args rows q)
theorem co_0 {args : List Nat} {rows : List (List Nat)} (hn : args.length = 1) (hm : rows.length = 0) (h : Kex7Neutral.asked1 (callOf 0 args rows) = true) : okCall 0 args rows := by
  obtain ⟨x, rfl⟩ := len1 hn
  obtain rfl := List.length_eq_zero_iff.mp hm
  exact .inl ⟨rfl, x, rfl, rfl, rfl⟩
theorem co_1 {args : List Nat} {rows : List (List Nat)} (hn : args.length = 3) (hm : rows.length = 0) (h : Kex7Neutral.asked1 (callOf 1 args rows) = true) : okCall 1 args rows := by
  obtain ⟨x, y, z, rfl⟩ := len3 hn
  obtain rfl := List.length_eq_zero_iff.mp hm
  exact .inr ⟨by decide, _, rfl, .op (by decide) rfl⟩
theorem co_2 {args : List Nat} {rows : List (List Nat)} (hn : args.length = 2) (hm : rows.length = 0) (h : Kex7Neutral.asked1 (callOf 2 args rows) = true) : okCall 2 args rows := by
  obtain ⟨x, y, rfl⟩ := len2 hn
  obtain rfl := List.length_eq_zero_iff.mp hm
  exact .inr ⟨by decide, _, rfl, .op (by decide) rfl⟩
theorem co_3 {args : List Nat} {rows : List (List Nat)} (hn : args.length = 3) (hm : rows.length = 0) (h : Kex7Neutral.asked1 (callOf 3 args rows) = true) : okCall 3 args rows := by
  obtain ⟨x, y, z, rfl⟩ := len3 hn
  obtain rfl := List.length_eq_zero_iff.mp hm
  exact .inr ⟨by decide, _, rfl, .op (by decide) rfl⟩
theorem co_4 {args : List Nat} {rows : List (List Nat)} (hn : args.length = 1) (hm : rows.length = 0) (h : Kex7Neutral.asked1 (callOf 4 args rows) = true) : okCall 4 args rows := by
  obtain ⟨x, rfl⟩ := len1 hn
  obtain rfl := List.length_eq_zero_iff.mp hm
  exact .inr ⟨by decide, _, rfl, .op (by decide) rfl⟩
theorem co_5 {args : List Nat} {rows : List (List Nat)} (hn : args.length = 2) (hm : rows.length = 1) (h : Kex7Neutral.asked1 (callOf 5 args rows) = true) : okCall 5 args rows := by
  obtain ⟨x, y, rfl⟩ := len2 hn
  obtain ⟨r1, rfl⟩ := len1 hm
  exact .inr ⟨by decide, .propose x y r1, congrArg (fun r => some (Kex7.Request.propose x y r)) (zs_nat r1), .prop x y r1⟩
theorem co_6 {args : List Nat} {rows : List (List Nat)} (hn : args.length = 2) (hm : rows.length = 0) (h : Kex7Neutral.asked1 (callOf 6 args rows) = true) : okCall 6 args rows := by
  obtain ⟨x, y, rfl⟩ := len2 hn
  obtain rfl := List.length_eq_zero_iff.mp hm
  exact .inr ⟨by decide, _, rfl, .op (by decide) rfl⟩
theorem co_7 {args : List Nat} {rows : List (List Nat)} (hn : args.length = 2) (hm : rows.length = 0) (h : Kex7Neutral.asked1 (callOf 7 args rows) = true) : okCall 7 args rows := by
  obtain ⟨x, y, rfl⟩ := len2 hn
  obtain rfl := List.length_eq_zero_iff.mp hm
  exact .inr ⟨by decide, _, rfl, .op (by decide) rfl⟩
theorem co_8 {args : List Nat} {rows : List (List Nat)} (hn : args.length = 2) (hm : rows.length = 0) (h : Kex7Neutral.asked1 (callOf 8 args rows) = true) : okCall 8 args rows := by
  obtain ⟨x, y, rfl⟩ := len2 hn
  obtain rfl := List.length_eq_zero_iff.mp hm
  exact .inr ⟨by decide, _, rfl, .op (by decide) rfl⟩
theorem co_9 {args : List Nat} {rows : List (List Nat)} (hn : args.length = 1) (hm : rows.length = 0) (h : Kex7Neutral.asked1 (callOf 9 args rows) = true) : okCall 9 args rows := by
  obtain ⟨x, rfl⟩ := len1 hn
  obtain rfl := List.length_eq_zero_iff.mp hm
  exact .inr ⟨by decide, _, rfl, .op (by decide) rfl⟩
theorem co_10 {args : List Nat} {rows : List (List Nat)} (hn : args.length = 5) (hm : rows.length = 0) (h : Kex7Neutral.asked1 (callOf 10 args rows) = true) : okCall 10 args rows := by
  obtain ⟨x, y, z, u, v, rfl⟩ := len5 hn
  obtain rfl := List.length_eq_zero_iff.mp hm
  exact .inr ⟨by decide, _, rfl, .op (by decide) rfl⟩
theorem co_11 {args : List Nat} {rows : List (List Nat)} (hn : args.length = 1) (hm : rows.length = 0) (h : Kex7Neutral.asked1 (callOf 11 args rows) = true) : okCall 11 args rows := by
  obtain ⟨x, rfl⟩ := len1 hn
  obtain rfl := List.length_eq_zero_iff.mp hm
  exact .inr ⟨by decide, _, rfl, .op (by decide) rfl⟩
theorem co_12 {args : List Nat} {rows : List (List Nat)} (hn : args.length = 2) (hm : rows.length = 0) (h : Kex7Neutral.asked1 (callOf 12 args rows) = true) : okCall 12 args rows := by
  obtain ⟨x, y, rfl⟩ := len2 hn
  obtain rfl := List.length_eq_zero_iff.mp hm
  exact .inr ⟨by decide, _, rfl, .op (by decide) rfl⟩
theorem co_13 {args : List Nat} {rows : List (List Nat)} (hn : args.length = 3) (hm : rows.length = 0) (h : Kex7Neutral.asked1 (callOf 13 args rows) = true) : okCall 13 args rows := by
  obtain ⟨x, y, z, rfl⟩ := len3 hn
  obtain rfl := List.length_eq_zero_iff.mp hm
  exact .inr ⟨by decide, _, rfl, .op (by decide) rfl⟩
theorem co_14 {args : List Nat} {rows : List (List Nat)} (hn : args.length = 1) (hm : rows.length = 0) (h : Kex7Neutral.asked1 (callOf 14 args rows) = true) : okCall 14 args rows := by
  obtain ⟨x, rfl⟩ := len1 hn
  obtain rfl := List.length_eq_zero_iff.mp hm
  exact .inr ⟨by decide, _, rfl, .ask (.set (.v x))⟩
theorem co_15 {args : List Nat} {rows : List (List Nat)} (hn : args.length = 2) (hm : rows.length = 0) (h : Kex7Neutral.asked1 (callOf 15 args rows) = true) : okCall 15 args rows := by
  obtain ⟨x, y, rfl⟩ := len2 hn
  obtain rfl := List.length_eq_zero_iff.mp hm
  exact .inr ⟨by decide, _, rfl, .ask (.set (.t x y))⟩
theorem co_16 {args : List Nat} {rows : List (List Nat)} (hn : args.length = 1) (hm : rows.length = 0) (h : Kex7Neutral.asked1 (callOf 16 args rows) = true) : okCall 16 args rows := by
  obtain ⟨x, rfl⟩ := len1 hn
  obtain rfl := List.length_eq_zero_iff.mp hm
  exact .inr ⟨by decide, _, rfl, .ask (.pro (.g x))⟩
theorem co_17 {args : List Nat} {rows : List (List Nat)} (hn : args.length = 1) (hm : rows.length = 0) (h : Kex7Neutral.asked1 (callOf 17 args rows) = true) : okCall 17 args rows := by
  obtain ⟨x, rfl⟩ := len1 hn
  obtain rfl := List.length_eq_zero_iff.mp hm
  exact .inr ⟨by decide, _, rfl, .ask (.pro (.m x))⟩
theorem co_18 {args : List Nat} {rows : List (List Nat)} (hn : args.length = 1) (hm : rows.length = 0) (h : Kex7Neutral.asked1 (callOf 18 args rows) = true) : okCall 18 args rows := by
  obtain ⟨x, rfl⟩ := len1 hn
  obtain rfl := List.length_eq_zero_iff.mp hm
  exact .inr ⟨by decide, _, rfl, .ask (.tim (.f x))⟩
theorem co_19 {args : List Nat} {rows : List (List Nat)} (hn : args.length = 1) (hm : rows.length = 0) (h : Kex7Neutral.asked1 (callOf 19 args rows) = true) : okCall 19 args rows := by
  obtain ⟨x, rfl⟩ := len1 hn
  obtain rfl := List.length_eq_zero_iff.mp hm
  exact .inr ⟨by decide, _, rfl, .ask (.tim (.n x))⟩
theorem co_20 {args : List Nat} {rows : List (List Nat)} (hn : args.length = 1) (hm : rows.length = 0) (h : Kex7Neutral.asked1 (callOf 20 args rows) = true) : okCall 20 args rows := by
  obtain ⟨x, rfl⟩ := len1 hn
  obtain rfl := List.length_eq_zero_iff.mp hm
  exact .inr ⟨by decide, _, rfl, .ask (.set (.h x))⟩
theorem co_21 {args : List Nat} {rows : List (List Nat)} (hn : args.length = 1) (hm : rows.length = 0) (h : Kex7Neutral.asked1 (callOf 21 args rows) = true) : okCall 21 args rows := by
  obtain ⟨x, rfl⟩ := len1 hn
  obtain rfl := List.length_eq_zero_iff.mp hm
  exact .inr ⟨by decide, _, rfl, .ask (.log (.e x))⟩
theorem co_22 {args : List Nat} {rows : List (List Nat)} (hn : args.length = 1) (hm : rows.length = 0) (h : Kex7Neutral.asked1 (callOf 22 args rows) = true) : okCall 22 args rows := by
  obtain ⟨x, rfl⟩ := len1 hn
  obtain rfl := List.length_eq_zero_iff.mp hm
  exact .inr ⟨by decide, _, rfl, .ask (.log (.l x))⟩
theorem co_23 {args : List Nat} {rows : List (List Nat)} (hn : args.length = 1) (hm : rows.length = 0) (h : Kex7Neutral.asked1 (callOf 23 args rows) = true) : okCall 23 args rows := by
  obtain ⟨x, rfl⟩ := len1 hn
  obtain rfl := List.length_eq_zero_iff.mp hm
  exact .inr ⟨by decide, _, rfl, .ask (.log (.r x))⟩
theorem co_24 {args : List Nat} {rows : List (List Nat)} (hn : args.length = 2) (hm : rows.length = 0) (h : Kex7Neutral.asked1 (callOf 24 args rows) = true) : okCall 24 args rows := by
  obtain ⟨x, y, rfl⟩ := len2 hn
  obtain rfl := List.length_eq_zero_iff.mp hm
  exact .inr ⟨by decide, _, rfl, .ask (.log (.p x y))⟩
theorem co_25 {args : List Nat} {rows : List (List Nat)} (hn : args.length = 2) (hm : rows.length = 3) (h : Kex7Neutral.asked1 (callOf 25 args rows) = true) : okCall 25 args rows := by
  obtain ⟨x, y, rfl⟩ := len2 hn
  obtain ⟨r1, r2, r3, rfl⟩ := len3 hm
  exact .inr ⟨by decide, .verify x y r1 r2 r3, by
      show some (Kex7.Request.verify x y ((zs r1).map Kex7Neutral.nat) ((zs r2).map Kex7Neutral.nat) ((zs r3).map Kex7Neutral.nat)) = _
      rw [zs_nat, zs_nat, zs_nat], by
      have h : (Kex7Neutral.nat32 x && Kex7Neutral.nat32 y && Kex7Neutral.list32 Kex7Neutral.nat32 (zs r1) && Kex7Neutral.list32 Kex7Neutral.nat32 (zs r2) && Kex7Neutral.list32 Kex7Neutral.nat32 (zs r3)) = true := h
      simp only [Bool.and_eq_true] at h
      exact .ask (.ver x y r1 r2 r3 (asked_list h.1.1.2) (asked_list h.1.2) (asked_list h.2))⟩
theorem co_26 {args : List Nat} {rows : List (List Nat)} (hn : args.length = 0) (hm : rows.length = 0) (h : Kex7Neutral.asked1 (callOf 26 args rows) = true) : okCall 26 args rows := by
  obtain rfl := List.length_eq_zero_iff.mp hn
  obtain rfl := List.length_eq_zero_iff.mp hm
  exact .inr ⟨by decide, _, rfl, .ask .sum⟩
theorem call_ok : ∀ {k : Nat} {args : List Nat} {rows : List (List Nat)}, k < 27 → args.length = numsN.getD k 0 → rows.length = lsN k → Kex7Neutral.asked1 (callOf k args rows) = true → okCall k args rows
  | 0, _, _, _, hn, hm, h => co_0 hn hm h
  | 1, _, _, _, hn, hm, h => co_1 hn hm h
  | 2, _, _, _, hn, hm, h => co_2 hn hm h
  | 3, _, _, _, hn, hm, h => co_3 hn hm h
  | 4, _, _, _, hn, hm, h => co_4 hn hm h
  | 5, _, _, _, hn, hm, h => co_5 hn hm h
  | 6, _, _, _, hn, hm, h => co_6 hn hm h
  | 7, _, _, _, hn, hm, h => co_7 hn hm h
  | 8, _, _, _, hn, hm, h => co_8 hn hm h
  | 9, _, _, _, hn, hm, h => co_9 hn hm h
  | 10, _, _, _, hn, hm, h => co_10 hn hm h
  | 11, _, _, _, hn, hm, h => co_11 hn hm h
  | 12, _, _, _, hn, hm, h => co_12 hn hm h
  | 13, _, _, _, hn, hm, h => co_13 hn hm h
  | 14, _, _, _, hn, hm, h => co_14 hn hm h
  | 15, _, _, _, hn, hm, h => co_15 hn hm h
  | 16, _, _, _, hn, hm, h => co_16 hn hm h
  | 17, _, _, _, hn, hm, h => co_17 hn hm h
  | 18, _, _, _, hn, hm, h => co_18 hn hm h
  | 19, _, _, _, hn, hm, h => co_19 hn hm h
  | 20, _, _, _, hn, hm, h => co_20 hn hm h
  | 21, _, _, _, hn, hm, h => co_21 hn hm h
  | 22, _, _, _, hn, hm, h => co_22 hn hm h
  | 23, _, _, _, hn, hm, h => co_23 hn hm h
  | 24, _, _, _, hn, hm, h => co_24 hn hm h
  | 25, _, _, _, hn, hm, h => co_25 hn hm h
  | 26, _, _, _, hn, hm, h => co_26 hn hm h
  | k + 27, _, _, h, _, _, _ => absurd h (by omega)
theorem call_cons (shape : Int → Option (Nat × Nat)) (p : Int) (r : List Int) : PyFlat.call shape (p :: r) = match shape p with | none => none | some (n, k) => if r.length < n then none else match PyFlat.rows k (r.drop n) with | none => none | some (xs, t) => some ((p :: r.take n) :: xs, t) := rfl
theorem all_none {k : Nat} {args : List Nat} {rows : List (List Nat)} {q : Kex7.Request} (h : okAll k args rows q) : Kex7.step none q = (none, .value (-11)) := by
  cases h with
  | op h n =>
    unfold ops at h
    simp only [List.mem_cons, List.not_mem_nil, or_false] at h
    rcases h with rfl | rfl | rfl | rfl | rfl | rfl | rfl | rfl | rfl | rfl | rfl | rfl <;> rfl
  | prop => rfl
  | ask h =>
    cases h with
    | set h => cases h <;> rfl
    | pro h => cases h <;> rfl
    | tim h => cases h <;> rfl
    | log h => cases h <;> rfl
    | ver => rfl
    | sum => rfl
/-- one call off the list -/
theorem call_view {ns : List Nat} {c : List (List Int)} {t : List Int} (h : PyFlat.call PyKex7.shape (zs ns) = some (c, t)) :
    ∃ (k : Nat) (args : List Nat) (rows : List (List Nat)) (rest : List Nat), k < 27 ∧ args.length = numsN.getD k 0 ∧ rows.length = lsN k ∧ c = callOf k args rows ∧ t = zs rest ∧ ns = k :: args ++ (flatR rows ++ rest) := by
  match ns, h with
  | k :: r, h =>
    by_cases hk : k < 27
    · rw [show zs (k :: r) = (k : Int) :: zs r from rfl, call_cons, shape_is hk] at h
      dsimp only at h
      rw [List.length_map] at h
      split at h
      · cases h
      · rename_i hn
        rw [zs_drop] at h
        cases e : PyFlat.rows (lsN k) (zs (r.drop (numsN.getD k 0))) with
        | none =>
          rw [e] at h
          cases h
        | some p =>
          obtain ⟨xs, t2⟩ := p
          rw [e] at h
          cases h
          obtain ⟨rows, rest, rfl, rfl, er, hl⟩ := rows_view e
          refine ⟨k, r.take (numsN.getD k 0), rows, rest, hk, by rw [List.length_take]; omega, hl, ?_, rfl, ?_⟩
          · show ((k : Int) :: (zs r).take _) :: _ = ((k : Int) :: zs (r.take _)) :: _
            rw [zs_take]
          · rw [← er]
            show k :: r = k :: (r.take _ ++ r.drop _)
            rw [List.take_append_drop]
    · rw [show zs (k :: r) = (k : Int) :: zs r from rfl, call_cons, shape_no (by omega)] at h
      cases h
theorem wh_0 {args : List Nat} {rows : List (List Nat)} (hn : args.length = 1) (hm : rows.length = 0) : PyKex7.whole (callOf 0 args rows) = callOf 0 args rows := by
  obtain ⟨x, rfl⟩ := len1 hn
  obtain rfl := List.length_eq_zero_iff.mp hm
  rfl
theorem wh_1 {args : List Nat} {rows : List (List Nat)} (hn : args.length = 3) (hm : rows.length = 0) : PyKex7.whole (callOf 1 args rows) = callOf 1 args rows := by
  obtain ⟨x, y, z, rfl⟩ := len3 hn
  obtain rfl := List.length_eq_zero_iff.mp hm
  rfl
theorem wh_2 {args : List Nat} {rows : List (List Nat)} (hn : args.length = 2) (hm : rows.length = 0) : PyKex7.whole (callOf 2 args rows) = callOf 2 args rows := by
  obtain ⟨x, y, rfl⟩ := len2 hn
  obtain rfl := List.length_eq_zero_iff.mp hm
  rfl
theorem wh_3 {args : List Nat} {rows : List (List Nat)} (hn : args.length = 3) (hm : rows.length = 0) : PyKex7.whole (callOf 3 args rows) = callOf 3 args rows := by
  obtain ⟨x, y, z, rfl⟩ := len3 hn
  obtain rfl := List.length_eq_zero_iff.mp hm
  rfl
theorem wh_4 {args : List Nat} {rows : List (List Nat)} (hn : args.length = 1) (hm : rows.length = 0) : PyKex7.whole (callOf 4 args rows) = callOf 4 args rows := by
  obtain ⟨x, rfl⟩ := len1 hn
  obtain rfl := List.length_eq_zero_iff.mp hm
  rfl
theorem wh_5 {args : List Nat} {rows : List (List Nat)} (hn : args.length = 2) (hm : rows.length = 1) : PyKex7.whole (callOf 5 args rows) = callOf 5 args rows := by
  obtain ⟨x, y, rfl⟩ := len2 hn
  obtain ⟨r1, rfl⟩ := len1 hm
  rfl
theorem wh_6 {args : List Nat} {rows : List (List Nat)} (hn : args.length = 2) (hm : rows.length = 0) : PyKex7.whole (callOf 6 args rows) = callOf 6 args rows := by
  obtain ⟨x, y, rfl⟩ := len2 hn
  obtain rfl := List.length_eq_zero_iff.mp hm
  rfl
theorem wh_7 {args : List Nat} {rows : List (List Nat)} (hn : args.length = 2) (hm : rows.length = 0) : PyKex7.whole (callOf 7 args rows) = callOf 7 args rows := by
  obtain ⟨x, y, rfl⟩ := len2 hn
  obtain rfl := List.length_eq_zero_iff.mp hm
  rfl
theorem wh_8 {args : List Nat} {rows : List (List Nat)} (hn : args.length = 2) (hm : rows.length = 0) : PyKex7.whole (callOf 8 args rows) = callOf 8 args rows := by
  obtain ⟨x, y, rfl⟩ := len2 hn
  obtain rfl := List.length_eq_zero_iff.mp hm
  rfl
theorem wh_9 {args : List Nat} {rows : List (List Nat)} (hn : args.length = 1) (hm : rows.length = 0) : PyKex7.whole (callOf 9 args rows) = callOf 9 args rows := by
  obtain ⟨x, rfl⟩ := len1 hn
  obtain rfl := List.length_eq_zero_iff.mp hm
  rfl
theorem wh_10 {args : List Nat} {rows : List (List Nat)} (hn : args.length = 5) (hm : rows.length = 0) : PyKex7.whole (callOf 10 args rows) = callOf 10 args rows := by
  obtain ⟨x, y, z, u, v, rfl⟩ := len5 hn
  obtain rfl := List.length_eq_zero_iff.mp hm
  rfl
theorem wh_11 {args : List Nat} {rows : List (List Nat)} (hn : args.length = 1) (hm : rows.length = 0) : PyKex7.whole (callOf 11 args rows) = callOf 11 args rows := by
  obtain ⟨x, rfl⟩ := len1 hn
  obtain rfl := List.length_eq_zero_iff.mp hm
  rfl
theorem wh_12 {args : List Nat} {rows : List (List Nat)} (hn : args.length = 2) (hm : rows.length = 0) : PyKex7.whole (callOf 12 args rows) = callOf 12 args rows := by
  obtain ⟨x, y, rfl⟩ := len2 hn
  obtain rfl := List.length_eq_zero_iff.mp hm
  rfl
theorem wh_13 {args : List Nat} {rows : List (List Nat)} (hn : args.length = 3) (hm : rows.length = 0) : PyKex7.whole (callOf 13 args rows) = callOf 13 args rows := by
  obtain ⟨x, y, z, rfl⟩ := len3 hn
  obtain rfl := List.length_eq_zero_iff.mp hm
  rfl
theorem wh_14 {args : List Nat} {rows : List (List Nat)} (hn : args.length = 1) (hm : rows.length = 0) : PyKex7.whole (callOf 14 args rows) = callOf 14 args rows := by
  obtain ⟨x, rfl⟩ := len1 hn
  obtain rfl := List.length_eq_zero_iff.mp hm
  rfl
theorem wh_15 {args : List Nat} {rows : List (List Nat)} (hn : args.length = 2) (hm : rows.length = 0) : PyKex7.whole (callOf 15 args rows) = callOf 15 args rows := by
  obtain ⟨x, y, rfl⟩ := len2 hn
  obtain rfl := List.length_eq_zero_iff.mp hm
  rfl
theorem wh_16 {args : List Nat} {rows : List (List Nat)} (hn : args.length = 1) (hm : rows.length = 0) : PyKex7.whole (callOf 16 args rows) = callOf 16 args rows := by
  obtain ⟨x, rfl⟩ := len1 hn
  obtain rfl := List.length_eq_zero_iff.mp hm
  rfl
theorem wh_17 {args : List Nat} {rows : List (List Nat)} (hn : args.length = 1) (hm : rows.length = 0) : PyKex7.whole (callOf 17 args rows) = callOf 17 args rows := by
  obtain ⟨x, rfl⟩ := len1 hn
  obtain rfl := List.length_eq_zero_iff.mp hm
  rfl
theorem wh_18 {args : List Nat} {rows : List (List Nat)} (hn : args.length = 1) (hm : rows.length = 0) : PyKex7.whole (callOf 18 args rows) = callOf 18 args rows := by
  obtain ⟨x, rfl⟩ := len1 hn
  obtain rfl := List.length_eq_zero_iff.mp hm
  rfl
theorem wh_19 {args : List Nat} {rows : List (List Nat)} (hn : args.length = 1) (hm : rows.length = 0) : PyKex7.whole (callOf 19 args rows) = callOf 19 args rows := by
  obtain ⟨x, rfl⟩ := len1 hn
  obtain rfl := List.length_eq_zero_iff.mp hm
  rfl
theorem wh_20 {args : List Nat} {rows : List (List Nat)} (hn : args.length = 1) (hm : rows.length = 0) : PyKex7.whole (callOf 20 args rows) = callOf 20 args rows := by
  obtain ⟨x, rfl⟩ := len1 hn
  obtain rfl := List.length_eq_zero_iff.mp hm
  rfl
theorem wh_21 {args : List Nat} {rows : List (List Nat)} (hn : args.length = 1) (hm : rows.length = 0) : PyKex7.whole (callOf 21 args rows) = callOf 21 args rows := by
  obtain ⟨x, rfl⟩ := len1 hn
  obtain rfl := List.length_eq_zero_iff.mp hm
  rfl
theorem wh_22 {args : List Nat} {rows : List (List Nat)} (hn : args.length = 1) (hm : rows.length = 0) : PyKex7.whole (callOf 22 args rows) = callOf 22 args rows := by
  obtain ⟨x, rfl⟩ := len1 hn
  obtain rfl := List.length_eq_zero_iff.mp hm
  rfl
theorem wh_23 {args : List Nat} {rows : List (List Nat)} (hn : args.length = 1) (hm : rows.length = 0) : PyKex7.whole (callOf 23 args rows) = callOf 23 args rows := by
  obtain ⟨x, rfl⟩ := len1 hn
  obtain rfl := List.length_eq_zero_iff.mp hm
  rfl
theorem wh_24 {args : List Nat} {rows : List (List Nat)} (hn : args.length = 2) (hm : rows.length = 0) : PyKex7.whole (callOf 24 args rows) = callOf 24 args rows := by
  obtain ⟨x, y, rfl⟩ := len2 hn
  obtain rfl := List.length_eq_zero_iff.mp hm
  rfl
theorem wh_25 {args : List Nat} {rows : List (List Nat)} (hn : args.length = 2) (hm : rows.length = 3) : PyKex7.whole (callOf 25 args rows) = callOf 25 args rows := by
  obtain ⟨x, y, rfl⟩ := len2 hn
  obtain ⟨r1, r2, r3, rfl⟩ := len3 hm
  rfl
theorem wh_26 {args : List Nat} {rows : List (List Nat)} (hn : args.length = 0) (hm : rows.length = 0) : PyKex7.whole (callOf 26 args rows) = callOf 26 args rows := by
  obtain rfl := List.length_eq_zero_iff.mp hn
  obtain rfl := List.length_eq_zero_iff.mp hm
  rfl
theorem whole_ok : ∀ {k : Nat} {args : List Nat} {rows : List (List Nat)}, k < 27 → args.length = numsN.getD k 0 → rows.length = lsN k → PyKex7.whole (callOf k args rows) = callOf k args rows
  | 0, _, _, _, hn, hm => wh_0 hn hm
  | 1, _, _, _, hn, hm => wh_1 hn hm
  | 2, _, _, _, hn, hm => wh_2 hn hm
  | 3, _, _, _, hn, hm => wh_3 hn hm
  | 4, _, _, _, hn, hm => wh_4 hn hm
  | 5, _, _, _, hn, hm => wh_5 hn hm
  | 6, _, _, _, hn, hm => wh_6 hn hm
  | 7, _, _, _, hn, hm => wh_7 hn hm
  | 8, _, _, _, hn, hm => wh_8 hn hm
  | 9, _, _, _, hn, hm => wh_9 hn hm
  | 10, _, _, _, hn, hm => wh_10 hn hm
  | 11, _, _, _, hn, hm => wh_11 hn hm
  | 12, _, _, _, hn, hm => wh_12 hn hm
  | 13, _, _, _, hn, hm => wh_13 hn hm
  | 14, _, _, _, hn, hm => wh_14 hn hm
  | 15, _, _, _, hn, hm => wh_15 hn hm
  | 16, _, _, _, hn, hm => wh_16 hn hm
  | 17, _, _, _, hn, hm => wh_17 hn hm
  | 18, _, _, _, hn, hm => wh_18 hn hm
  | 19, _, _, _, hn, hm => wh_19 hn hm
  | 20, _, _, _, hn, hm => wh_20 hn hm
  | 21, _, _, _, hn, hm => wh_21 hn hm
  | 22, _, _, _, hn, hm => wh_22 hn hm
  | 23, _, _, _, hn, hm => wh_23 hn hm
  | 24, _, _, _, hn, hm => wh_24 hn hm
  | 25, _, _, _, hn, hm => wh_25 hn hm
  | 26, _, _, _, hn, hm => wh_26 hn hm
  | k + 27, _, _, h, _, _ => absurd h (by omega)
theorem calls_whole : ∀ {f : Nat} {ns : List Nat} {cs : List (List (List Int))}, PyFlat.calls PyKex7.shape f (zs ns) = some cs → cs.map PyKex7.whole = cs
  | f, [], cs, h => by
    have h : PyFlat.calls PyKex7.shape f [] = some cs := h
    unfold PyFlat.calls at h
    cases h
    rfl
  | 0, p :: r, cs, h => by
    have h : PyFlat.calls PyKex7.shape 0 ((p : Int) :: zs r) = some cs := h
    unfold PyFlat.calls at h
    cases h
  | f + 1, p :: r, cs, h => by
    have h : PyFlat.calls PyKex7.shape (f + 1) ((p : Int) :: zs r) = some cs := h
    unfold PyFlat.calls at h
    cases e : PyFlat.call PyKex7.shape ((p : Int) :: zs r) with
    | none =>
      rw [e] at h
      cases h
    | some x =>
      obtain ⟨c, t⟩ := x
      rw [e] at h
      dsimp only at h
      obtain ⟨k, args, rows, rest, hk, hn, hm, rfl, rfl, _⟩ := call_view (ns := p :: r) e
      cases e2 : PyFlat.calls PyKex7.shape f (zs rest) with
      | none =>
        rw [e2] at h
        cases h
      | some cs2 =>
        rw [e2] at h
        cases h
        rw [List.map_cons, whole_ok hk hn hm, calls_whole e2]
theorem step_of {s : Kex7.State} {c : List (List Int)} {q : Kex7.Request} (h : Kex7Neutral.requestOf c = some q) : Kex7Neutral.step s c = ((Kex7.step s q).1, Kex7Neutral.fields (Kex7.step s q).2) := by
  unfold Kex7Neutral.step
  rw [h]
theorem told_cons (s : Kex7.State) (c : List (List Int)) (cs : List (List (List Int))) : PyFlat.told (PyFlat.played Kex7Neutral.step s (c :: cs)) = (((Kex7Neutral.step s c).2.length : Int) :: (Kex7Neutral.step s c).2) ++ PyFlat.told (PyFlat.played Kex7Neutral.step (Kex7Neutral.step s c).1 cs) := rfl
/-- what is asked, as the walk needs it -/
theorem asked_view {ns : List Nat} (h : PyKex7.answers_asked (zs ns) = true) : ∃ cs, PyFlat.calls PyKex7.shape (zs ns).length (zs ns) = some cs ∧ cs.length ≤ 200 ∧ (∀ c ∈ cs, Kex7Neutral.asked1 c = true) ∧ PyKex7.answers (zs ns) = PyFlat.told (PyFlat.played Kex7Neutral.step none cs) ∧ (PyKex7.answers (zs ns)).length ≤ 10000000 := by
  unfold PyKex7.answers_asked at h
  cases e : PyFlat.calls PyKex7.shape (zs ns).length (zs ns) with
  | none =>
    rw [e] at h
    cases h
  | some cs =>
    rw [e] at h
    dsimp only at h
    have ew : cs.map PyKex7.whole = cs := calls_whole e
    rw [ew] at h
    simp only [Bool.and_eq_true] at h
    obtain ⟨⟨⟨⟨_, h1⟩, _⟩, h2⟩, h3⟩ := h
    refine ⟨cs, rfl, of_decide_eq_true h1, ?_, ?_, of_decide_eq_true h3⟩
    · unfold Kex7Neutral.asked at h2
      simp only [Bool.and_eq_true] at h2
      exact List.all_eq_true.mp h2.1.2.1
    · unfold PyKex7.answers PyKex7.calls
      rw [e]
      dsimp only
      rw [ew]
      rfl
end Gc
namespace Gc
open PySem PySem.Spec PyProof.Rows L2
open C8 (Cal Mak Met CalAt pe_c pe_mk pe_mt pe_mt0 pe_gc)
/-! the short tactics (each is a row of one's own, tried by its key) -/
local macro_rules | `(tactic| walk_at "fl") => `(tactic| assumption)
local macro_rules | `(tactic| walk_at "side") => `(tactic| first | assumption | exact Or.inr ⟨by decide, by decide⟩ | exact Or.inl ⟨by decide, by decide⟩ | decide | (refine ⟨by decide, by decide⟩) | omega)
local macro_rules | `(tactic| walk_at "val") => `(tactic| first
  | with_reducible exact val_c
  | ((with_reducible refine' val_var ?vv); (case vv => rfl))
  | ((with_reducible refine' val_fl ?vfa ?vfb); (case vfa => walk_at "val"); (case vfb => walk_at "fl"))
  | ((with_reducible refine' val_len ?vla ?vlb); (case vla => walk_at "val"); (case vlb => walk_at "sq"))
  | ((with_reducible refine' val_I0 ?v0a ?v0b); (case v0a => walk_at "val"); (case v0b => walk_at "val"))
  | ((with_reducible refine' val_I ?via ?vib ?vic); (case via => walk_at "val"); (case vib => walk_at "val"); (case vic => walk_at "side"))
  | ((with_reducible refine' val_neg ?vn); (case vn => walk_at "val"))
  | ((with_reducible refine' val_isN ?vs); (case vs => walk_at "val"))
  | ((with_reducible refine' val_ixL ?xa ?xb ?xc ?xd); (case xa => walk_at "val"); (case xb => walk_at "val"); (case xc => walk_at "sq"); (case xd => walk_at "at"))
  | ((with_reducible refine' val_ixT ?ya ?yb ?yc ?yd); (case ya => walk_at "val"); (case yb => walk_at "val"); (case yc => walk_at "sqt"); (case yd => walk_at "at"))
  | ((with_reducible refine' val_chain ?ca ?cb ?cc); (case ca => walk_at "val"); (case cb => walk_at "val"); (case cc => walk_at "val"))
  | ((with_reducible refine' val_max2 ?ma ?mb); (case ma => walk_at "val"); (case mb => walk_at "val")))
local macro_rules | `(tactic| walk_at "sq") => `(tactic| first | assumption | exact SqL.of (by assumption))
local macro_rules | `(tactic| walk_at "sqt") => `(tactic| first | assumption | exact SqT.of (by assumption))
local macro_rules | `(tactic| walk_at "at") => `(tactic| first | assumption | rfl)
local macro_rules | `(tactic| walk_at "ans") => `(tactic| first
  | ((with_reducible refine' ans_test ?at_); (case at_ => walk_at "val"))
  | ((with_reducible refine' ans_B ?ab_); (case ab_ => walk_at "val"))
  | ((with_reducible refine' ans_or2 ?ao ?ap); (case ao => walk_at "ans"); (case ap => (intro _; walk_at "ans")))
  | ((with_reducible refine' ans_and3 ?aq ?ar); (case aq => walk_at "ans"); (case ar => (intro _; walk_at "ans")))
  | ((with_reducible refine' ans_notM ?an); (case an => walk_at "ans")))
local macro_rules | `(tactic| walk_at "vala") => `(tactic| first
  | with_reducible exact vala_nil
  | ((with_reducible refine' vala_cons ?wa ?wb); (case wa => walk_at "val"); (case wb => walk_at "vala")))
local macro_rules | `(tactic| walk_at "n") => `(tactic| (repeat (first | (with_reducible refine x_gn ?_) | (with_reducible refine st_seq ?_) | (with_reducible refine st_next ?_) | dsimp only)))
local macro_rules | `(tactic| walk_at "fl") => `(tactic| first
  | assumption
  | ((with_reducible refine' fp_people ?fB ?fT); (case fB => assumption); (case fT => assumption))
  | ((with_reducible refine' fp_clock ?fB ?fT); (case fB => assumption); (case fT => assumption))
  | ((with_reducible refine' fp_settings ?fB ?fT); (case fB => assumption); (case fT => assumption))
  | ((with_reducible refine' fp_classes ?fB ?fT); (case fB => assumption); (case fT => assumption))
  | ((with_reducible refine' fp_needs ?fB ?fT); (case fB => assumption); (case fT => assumption))
  | ((with_reducible refine' fp_own_counts ?fB ?fT); (case fB => assumption); (case fT => assumption))
  | ((with_reducible refine' fp_freezes ?fB ?fT); (case fB => assumption); (case fT => assumption))
  | ((with_reducible refine' fp_proposals ?fB ?fT); (case fB => assumption); (case fT => assumption))
  | ((with_reducible refine' fp_guards ?fB ?fT); (case fB => assumption); (case fT => assumption))
  | ((with_reducible refine' fp_log ?fB ?fT); (case fB => assumption); (case fT => assumption))
  | ((with_reducible refine' fp_past ?fB ?fT); (case fB => assumption); (case fT => assumption))
  | ((with_reducible refine' fq_author ?fB ?fT ?fH); (case fB => assumption); (case fT => assumption); (case fH => assumption))
  | ((with_reducible refine' fq_time ?fB ?fT ?fH); (case fB => assumption); (case fT => assumption); (case fH => assumption))
  | ((with_reducible refine' fq_changes ?fB ?fT ?fH); (case fB => assumption); (case fT => assumption); (case fH => assumption))
  | ((with_reducible refine' fq_approvals ?fB ?fT ?fH); (case fB => assumption); (case fT => assumption); (case fH => assumption))
  | ((with_reducible refine' fq_status ?fB ?fT ?fH); (case fB => assumption); (case fT => assumption); (case fH => assumption))
  | ((with_reducible refine' fq_end ?fB ?fT ?fH); (case fB => assumption); (case fT => assumption); (case fH => assumption))
  | ((with_reducible refine' fq_before ?fB ?fT ?fH); (case fB => assumption); (case fT => assumption); (case fH => assumption)))
local macro_rules | `(tactic| walk_at "sq") => `(tactic| first | assumption | exact SqL.of (by assumption) | exact s_sets (by assumption) | exact s_cls (by assumption) | exact s_need (by assumption) | exact s_own (by assumption) | exact s_frz (by assumption) | exact s_prs (by assumption) | exact s_grd (by assumption) | exact s_log (by assumption) | exact s_past (by assumption) | exact s_chg (by assumption) (by assumption) | exact s_apr (by assumption) (by assumption) | exact s_bef (by assumption) (by assumption))
local macro_rules | `(tactic| walk_at "at") => `(tactic| first | assumption | exact atI_0 rfl | exact atI_1 rfl | exact atI_2 rfl)
abbrev s_rows_at : Stmt := topS 73
theorem sc_rows_at : FnScope ["calls", "place", "many", "found", "here", "number", "end"] ["calls", "place", "many"] (defScope s_rows_at) := ⟨rfl, rfl, rfl, by decide +kernel, rfl, by decide +kernel, by decide +kernel⟩
section
variable {P : Program} {w : World} {K : PySem.W.Frag} {mg : Str → Option Value} {base : Heap} {A : Ad}
/-! ### rows_at -/
theorem val_to {σ : L2.St} {H : Hp} {te : TE} {v v' : V} (h : Val te σ H v) (e : v = v') : Val te σ H v' := e ▸ h
theorem flatR_more {rows : List (List Nat)} {i : Nat} {r : List Nat} (h : rows[i]? = some r) : (flatR (rows.take (i + 1))).length = (flatR (rows.take i)).length + 1 + r.length := by
  unfold flatR
  rw [take_more h, List.flatMap_append, List.length_append]
  show _ + (r.length :: r ++ []).length = _
  rw [List.append_nil, List.length_cons]
  omega
theorem flatR_at : ∀ {rows : List (List Nat)} {i : Nat} {r : List Nat}, rows[i]? = some r → ∃ rest, (flatR rows).drop (flatR (rows.take i)).length = r.length :: r ++ rest
  | [], i, r, h => by simp at h
  | x :: t, 0, r, h => by
    cases h
    exact ⟨flatR t, rfl⟩
  | x :: t, i + 1, r, h => by
    obtain ⟨rest, e⟩ := flatR_at (rows := t) (i := i) (r := r) h
    refine ⟨rest, ?_⟩
    show ((x.length :: x ++ flatR t).drop ((x.length :: x ++ flatR (t.take i)).length)) = _
    rw [List.length_append, ← List.drop_drop, List.drop_left, e]
def spRowsAt (K : PySem.W.Frag) : Sp := fun vs H Q _ => ∃ (cl : Addr) (ns : List Nat) (place many : Nat) (rows : List (List Nat)) (rest : List Nat), vs = [.ref cl, vN place, vN many] ∧ SqL K H cl (ns.map vN) ∧ ns.length ≤ 100000 ∧ ns.drop place = flatR rows ++ rest ∧ rows.length = many ∧ many ≤ 3 ∧
  ∀ H' t r, Same H H' → H' t = some (.tup [.ref r, vN (place + (flatR rows).length)]) → Rows K H' r rows → Q (.ref t) H'
theorem ok_rowsAt (F : At K mg "rows_at" s_rows_at ["calls", "place", "many"]) (T : Txt P w K mg A) : Cal P w K mg base 1 "rows_at" (spRowsAt K) [] := by
  refine F.cal sc_rows_at (fun vs H Q E h => ?_) (fun f cdv Ar outer s H vs Q E hr h => ?_)
  · obtain ⟨cl, ns, place, many, rows, rest, rfl, _⟩ := h
    rfl
  · obtain ⟨cl, ns, place, many, rows, rest, rfl, hS, hl, hd, hm, hm3, q⟩ := h
    refine ⟨_, (pss_cons (ps_set (i := 3) sc_rows_at.nd rfl (Or.inl rfl) (pe_lst pa_nil))
      (pss_cons (ps_set (i := 4) sc_rows_at.nd rfl (Or.inl rfl) (pv 1))
      (pss_cons (ps_for PassesOwn.never rfl (pi_range1 (by rfl) T.range (pa_cons (pv 2) pa_nil)) (pg_name (i := 5) sc_rows_at.nd rfl (Or.inl rfl)) (pss_cons (ps_set (i := 6) sc_rows_at.nd rfl (Or.inl rfl) (pe_op op_add (pe_op op_add (pv 4) pe_int) (pe_ix ix_list (pv 0) (pv 4) (fun _ _ => rfl))))
      (pss_cons (ps_expr (pe_bm PySem.F.plainAttrs_list PySem.F.slot_list_append PySem.F.type_list_append mt_append (pv 3) (pa_cons (pe_slice sl_list (pv 0) (po_some (pe_op op_add (pv 4) pe_int)) (po_some (pv 6))) pa_nil)))
      (pss_one (ps_set (i := 4) sc_rows_at.nd rfl (Or.inl rfl) (pv 6))))))
      (pss_one (ps_ret (pe_tup (pa_cons (pv 3) (pa_cons (pv 4) pa_nil)))))))), ?_⟩
    walk_at "n"
    refine x_set (x_lstV vala_nil fun F nF => ?_)
    have s0 := same_upd (o := .lst []) nF
    have gF : (upd H F (.lst [])) F = some (.lst []) := upd_same
    generalize upd H F (.lst []) = H0 at s0 gF
    walk_at "n"
    refine x_setV (by walk_at "val") ?_
    walk_at "n"
    refine x_forR (n := many) (vala_cons (val_var rfl) vala_nil) (by omega) (fun i σ H' => ∃ v5 v6 as, σ = [some (.ref cl), some (vN place), some (vN many), some (.ref F), some (vN (place + (flatR (rows.take i)).length)), v5, v6] ∧ Same H H' ∧ H' F = some (.lst (as.map V.ref)) ∧ as.length = i ∧ ∀ (j : Nat) (a : Addr) (l : List Nat), as[j]? = some a → rows[j]? = some l → H' a = some (.lst (l.map vN)) ∧ a ≠ F) ⟨_, _, [], rfl, s0, gF, rfl, fun j a l h => absurd h (by simp)⟩ ?_ ?_
    · rintro i σ H' hi ⟨v5, v6, as, rfl, sm, fF, ai, el⟩
      have hr : rows[i]? = some rows[i] := List.getElem?_eq_getElem (by omega)
      generalize rows[i] = r at hr
      obtain ⟨rest2, er⟩ := flatR_at hr
      have em := flatR_more hr
      have hle : (flatR (rows.take i)).length ≤ (flatR rows).length := by
        have z : (flatR rows).length = (flatR (rows.take i)).length + (flatR (rows.drop i)).length := by
          conv => lhs; rw [← List.take_append_drop i rows]
          unfold flatR
          rw [List.flatMap_append, List.length_append]
        omega
      have hh : ns.drop (place + (flatR (rows.take i)).length) = r.length :: r ++ (rest2 ++ rest) := by
        rw [← List.drop_drop, hd, List.drop_append_of_le_length hle, er, List.append_assoc]
      generalize (flatR (rows.take i)).length = d at hh em hle
      have h0 : ns[place + d]? = some r.length := by
        have z : (ns.drop (place + d))[0]? = some r.length := by rw [hh]; rfl
        rw [List.getElem?_drop] at z
        exact z
      have h1 : (ns.drop (place + d + 1)).take (place + d + 1 + r.length - (place + d + 1)) = r := by
        rw [show place + d + 1 + r.length - (place + d + 1) = r.length by omega, ← List.drop_drop, hh]
        show ((r ++ (rest2 ++ rest))).take r.length = r
        rw [List.take_left]
      have S1 := sm.seq hS
      have a0 : atI (ns.map vN) ((place + d : Nat) : Int) = some (vN r.length) := atI_n (by rw [List.getElem?_map, h0]; rfl)
      walk_at "n"
      refine x_setV (v := vN (place + d + 1 + r.length)) (val_to (val_I0 (val_I0 (val_var rfl) val_c) (val_ixL (val_var rfl) (val_var rfl) S1 a0)) rfl) ?_
      walk_at "n"
      have as4 : as.length ≤ 3 := by omega
      refine x_drop (x_app (val_var rfl) fF (x_slMid (n := place + d + 1) (m := place + d + 1 + r.length) (val_var rfl) (val_to (val_I0 (val_var rfl) val_c) rfl) (val_var rfl) S1 fun p np => ?_))
      rw [← List.map_drop, ← List.map_take, h1]
      have sp := same_upd (o := .lst (r.map vN)) np
      refine x_rapp (sp _ _ fF) (by rw [List.length_map]; omega) ?_
      walk_at "n"
      refine x_setV (val_var rfl) ?_
      refine ⟨_, _, as ++ [p], by rw [em, ← Nat.add_assoc, ← Nat.add_assoc]; rfl, same_upd2 (sm.trans sp) nF, ?_, by rw [List.length_append, ai]; rfl, fun j a l e1 e2 => ?_⟩
      · rw [upd_same, List.map_append]
        rfl
      · by_cases c : j < as.length
        · rw [List.getElem?_append_left c] at e1
          obtain ⟨z1, z2⟩ := el j a l e1 e2
          exact ⟨upd_at z2 (sp _ _ z1), z2⟩
        · rw [List.getElem?_append_right (by omega)] at e1
          have hj : j - as.length = 0 := by
            cases z : j - as.length with
            | zero => rfl
            | succ k =>
              rw [z] at e1
              simp at e1
          rw [hj] at e1
          cases e1
          rw [show j = i by omega, hr] at e2
          cases e2
          have n := ne_of_none fF np
          exact ⟨upd_at (Ne.symm n) upd_same, Ne.symm n⟩
    · rintro σ H' ⟨v5, v6, as, rfl, sm, fF, ai, el⟩
      rw [← hm, List.take_length]
      walk_at "n"
      refine x_ret (x_tupV (by walk_at "vala") fun t nt => ?_)
      have st := same_upd (o := .tup [.ref F, vN (place + (flatR rows).length)]) nt
      exact q _ t F (sm.trans st) upd_same ⟨as, SqL.of (st _ _ fF), by omega, fun j a l e1 e2 => SqL.of (st _ _ (el j a l e1 e2).1)⟩
end
end Gc
namespace Gc
open PySem PySem.Spec PyProof.Rows L2
open C8 (Cal Mak Met CalAt pe_c pe_mk pe_mt pe_mt0 pe_gc)
/-! the short tactics (each is a row of one's own, tried by its key) -/
local macro_rules | `(tactic| walk_at "fl") => `(tactic| assumption)
local macro_rules | `(tactic| walk_at "side") => `(tactic| first | assumption | exact Or.inr ⟨by decide, by decide⟩ | exact Or.inl ⟨by decide, by decide⟩ | decide | (refine ⟨by decide, by decide⟩) | omega)
local macro_rules | `(tactic| walk_at "val") => `(tactic| first
  | with_reducible exact val_c
  | ((with_reducible refine' val_var ?vv); (case vv => rfl))
  | ((with_reducible refine' val_fl ?vfa ?vfb); (case vfa => walk_at "val"); (case vfb => walk_at "fl"))
  | ((with_reducible refine' val_len ?vla ?vlb); (case vla => walk_at "val"); (case vlb => walk_at "sq"))
  | ((with_reducible refine' val_I0 ?v0a ?v0b); (case v0a => walk_at "val"); (case v0b => walk_at "val"))
  | ((with_reducible refine' val_I ?via ?vib ?vic); (case via => walk_at "val"); (case vib => walk_at "val"); (case vic => walk_at "side"))
  | ((with_reducible refine' val_neg ?vn); (case vn => walk_at "val"))
  | ((with_reducible refine' val_isN ?vs); (case vs => walk_at "val"))
  | ((with_reducible refine' val_ixL ?xa ?xb ?xc ?xd); (case xa => walk_at "val"); (case xb => walk_at "val"); (case xc => walk_at "sq"); (case xd => walk_at "at"))
  | ((with_reducible refine' val_ixT ?ya ?yb ?yc ?yd); (case ya => walk_at "val"); (case yb => walk_at "val"); (case yc => walk_at "sqt"); (case yd => walk_at "at"))
  | ((with_reducible refine' val_chain ?ca ?cb ?cc); (case ca => walk_at "val"); (case cb => walk_at "val"); (case cc => walk_at "val"))
  | ((with_reducible refine' val_max2 ?ma ?mb); (case ma => walk_at "val"); (case mb => walk_at "val")))
local macro_rules | `(tactic| walk_at "sq") => `(tactic| first | assumption | exact SqL.of (by assumption))
local macro_rules | `(tactic| walk_at "sqt") => `(tactic| first | assumption | exact SqT.of (by assumption))
local macro_rules | `(tactic| walk_at "at") => `(tactic| first | assumption | rfl)
local macro_rules | `(tactic| walk_at "ans") => `(tactic| first
  | ((with_reducible refine' ans_test ?at_); (case at_ => walk_at "val"))
  | ((with_reducible refine' ans_B ?ab_); (case ab_ => walk_at "val"))
  | ((with_reducible refine' ans_or2 ?ao ?ap); (case ao => walk_at "ans"); (case ap => (intro _; walk_at "ans")))
  | ((with_reducible refine' ans_and3 ?aq ?ar); (case aq => walk_at "ans"); (case ar => (intro _; walk_at "ans")))
  | ((with_reducible refine' ans_notM ?an); (case an => walk_at "ans")))
local macro_rules | `(tactic| walk_at "vala") => `(tactic| first
  | with_reducible exact vala_nil
  | ((with_reducible refine' vala_cons ?wa ?wb); (case wa => walk_at "val"); (case wb => walk_at "vala")))
local macro_rules | `(tactic| walk_at "n") => `(tactic| (repeat (first | (with_reducible refine x_gn ?_) | (with_reducible refine st_seq ?_) | (with_reducible refine st_next ?_) | dsimp only)))
local macro_rules | `(tactic| walk_at "fl") => `(tactic| first
  | assumption
  | ((with_reducible refine' fp_people ?fB ?fT); (case fB => assumption); (case fT => assumption))
  | ((with_reducible refine' fp_clock ?fB ?fT); (case fB => assumption); (case fT => assumption))
  | ((with_reducible refine' fp_settings ?fB ?fT); (case fB => assumption); (case fT => assumption))
  | ((with_reducible refine' fp_classes ?fB ?fT); (case fB => assumption); (case fT => assumption))
  | ((with_reducible refine' fp_needs ?fB ?fT); (case fB => assumption); (case fT => assumption))
  | ((with_reducible refine' fp_own_counts ?fB ?fT); (case fB => assumption); (case fT => assumption))
  | ((with_reducible refine' fp_freezes ?fB ?fT); (case fB => assumption); (case fT => assumption))
  | ((with_reducible refine' fp_proposals ?fB ?fT); (case fB => assumption); (case fT => assumption))
  | ((with_reducible refine' fp_guards ?fB ?fT); (case fB => assumption); (case fT => assumption))
  | ((with_reducible refine' fp_log ?fB ?fT); (case fB => assumption); (case fT => assumption))
  | ((with_reducible refine' fp_past ?fB ?fT); (case fB => assumption); (case fT => assumption))
  | ((with_reducible refine' fq_author ?fB ?fT ?fH); (case fB => assumption); (case fT => assumption); (case fH => assumption))
  | ((with_reducible refine' fq_time ?fB ?fT ?fH); (case fB => assumption); (case fT => assumption); (case fH => assumption))
  | ((with_reducible refine' fq_changes ?fB ?fT ?fH); (case fB => assumption); (case fT => assumption); (case fH => assumption))
  | ((with_reducible refine' fq_approvals ?fB ?fT ?fH); (case fB => assumption); (case fT => assumption); (case fH => assumption))
  | ((with_reducible refine' fq_status ?fB ?fT ?fH); (case fB => assumption); (case fT => assumption); (case fH => assumption))
  | ((with_reducible refine' fq_end ?fB ?fT ?fH); (case fB => assumption); (case fT => assumption); (case fH => assumption))
  | ((with_reducible refine' fq_before ?fB ?fT ?fH); (case fB => assumption); (case fT => assumption); (case fH => assumption)))
local macro_rules | `(tactic| walk_at "sq") => `(tactic| first | assumption | exact SqL.of (by assumption) | exact s_sets (by assumption) | exact s_cls (by assumption) | exact s_need (by assumption) | exact s_own (by assumption) | exact s_frz (by assumption) | exact s_prs (by assumption) | exact s_grd (by assumption) | exact s_log (by assumption) | exact s_past (by assumption) | exact s_chg (by assumption) (by assumption) | exact s_apr (by assumption) (by assumption) | exact s_bef (by assumption) (by assumption))
local macro_rules | `(tactic| walk_at "at") => `(tactic| first | assumption | exact atI_0 rfl | exact atI_1 rfl | exact atI_2 rfl)
abbrev s_answers : Stmt := topS 74
theorem sc_answers : FnScope ["calls", "platform", "found", "place", "number", "begin", "end", "given", "rows", "answer"] ["calls"] (defScope s_answers) := ⟨rfl, rfl, rfl, by decide +kernel, rfl, by decide +kernel, by decide +kernel⟩
/-! ### answers: the loop's state -/
theorem calls_step {f : Nat} {ns : List Nat} {cs : List (List (List Int))} (h : PyFlat.calls PyKex7.shape f (zs ns) = some cs) (hne : ns ≠ []) : ∃ (k : Nat) (args : List Nat) (rows : List (List Nat)) (rest : List Nat) (cs2 : List (List (List Int))) (f2 : Nat),
    k < 27 ∧ args.length = numsN.getD k 0 ∧ rows.length = lsN k ∧ cs = callOf k args rows :: cs2 ∧ ns = k :: args ++ (flatR rows ++ rest) ∧ PyFlat.calls PyKex7.shape f2 (zs rest) = some cs2 := by
  match f, ns, h with
  | _, [], _ => exact absurd rfl hne
  | 0, p :: r, h =>
    have h : PyFlat.calls PyKex7.shape 0 ((p : Int) :: zs r) = some cs := h
    unfold PyFlat.calls at h
    cases h
  | f + 1, p :: r, h =>
    have h : PyFlat.calls PyKex7.shape (f + 1) ((p : Int) :: zs r) = some cs := h
    unfold PyFlat.calls at h
    cases e : PyFlat.call PyKex7.shape ((p : Int) :: zs r) with
    | none =>
      rw [e] at h
      cases h
    | some x =>
      obtain ⟨c, t⟩ := x
      rw [e] at h
      dsimp only at h
      obtain ⟨k, args, rows, rest, hk, hn, hm, rfl, rfl, en⟩ := call_view (ns := p :: r) e
      cases e2 : PyFlat.calls PyKex7.shape f (zs rest) with
      | none =>
        rw [e2] at h
        cases h
      | some cs2 =>
        rw [e2] at h
        cases h
        exact ⟨k, args, rows, rest, cs2, f, hk, hn, hm, rfl, en, e2⟩
theorem calls_end {f : Nat} {cs : List (List (List Int))} (h : PyFlat.calls PyKex7.shape f (zs []) = some cs) : cs = [] := by
  have h : PyFlat.calls PyKex7.shape f [] = some cs := h
  unfold PyFlat.calls at h
  cases h
  rfl
/-- the list that was handed in stands, apart from the answers and the board -/
def Hold (K : PySem.W.Frag) (H : Hp) (a : Addr) (xs : List V) (F : Addr) (NF : Addr → Prop) : Prop := (Rd H a (.lst xs) ∧ a ≠ F ∧ NF a) ∨
  ∃ (o : Obj) (its : Array Value) (n : Nat), K.lookup a = some o ∧ o.cls = .type "list" ∧ o.dict = none ∧ o.data = .seq its n ∧ its.size ≤ sizeLine ∧ Vals xs its.toList
theorem Hold.sq {K : PySem.W.Frag} {H : Hp} {a F : Addr} {xs : List V} {NF : Addr → Prop} (h : Hold K H a xs F NF) : SqL K H a xs := by
  rcases h with h | h
  · exact .inl h.1
  · exact .inr h
theorem Hold.go {K : PySem.W.Frag} {H H1 : Hp} {a F : Addr} {xs : List V} {NF NF1 : Addr → Prop} (h : Hold K H a xs F NF) (k : ∀ o, H a = some o → a ≠ F → NF a → H1 a = some o ∧ NF1 a) : Hold K H1 a xs F NF1 := by
  rcases h with ⟨h1, h2, h3⟩ | h
  · rcases h1 with h1 | ⟨o, h1⟩
    · obtain ⟨z1, z2⟩ := k _ h1 h2 h3
      exact .inl ⟨.inl z1, h2, z2⟩
    · obtain ⟨z1, z2⟩ := k _ h1 h2 h3
      exact .inl ⟨.inr ⟨o, z1⟩, h2, z2⟩
  · exact .inr h
theorem Hold.same {K : PySem.W.Frag} {H H1 : Hp} {a F : Addr} {xs : List V} {NF : Addr → Prop} (h : Hold K H a xs F NF) (s : Same H H1) : Hold K H1 a xs F NF := h.go fun o e _ n => ⟨s _ _ e, n⟩
def StV (A : Ad) (s : Kex7.State) (v : V) (c : Nat) (H : Hp) (NF : Addr → Prop) : Prop := match s with
  | none => v = .non ∧ NF = fun _ => True
  | some b => ∃ L : Lay, v = .ref (L.ad .plat) ∧ Bd A L b H ∧ Wf c b ∧ NF = fun x => ¬ Foot L b x
theorem StV.up {A : Ad} {s : Kex7.State} {v : V} {c : Nat} {H H1 : Hp} {NF : Addr → Prop} (h : StV A s v c H NF) (sm : Same H H1) (hc : c + 1 ≤ 1000) : StV A s v (c + 1) H1 NF := by
  cases s with
  | none => exact h
  | some b =>
    obtain ⟨L, h1, h2, h3, h4⟩ := h
    exact ⟨L, h1, h2.mono sm, h3.up hc, h4⟩
theorem StV.mono {A : Ad} {s : Kex7.State} {v : V} {c : Nat} {H H1 : Hp} {NF : Addr → Prop} (h : StV A s v c H NF) (sm : Same H H1) : StV A s v c H1 NF := by
  cases s with
  | none => exact h
  | some b =>
    obtain ⟨L, h1, h2, h3, h4⟩ := h
    exact ⟨L, h1, h2.mono sm, h3, h4⟩
theorem Bd.off {A : Ad} {L : Lay} {b : Board} {H : Hp} (B : Bd A L b H) {F : Addr} {xs : List V} (h : H F = some (.lst xs)) (n : ¬ Foot L b F) (o : HO) : Bd A L b (upd H F o) := by
  have tup : ∀ t v, H t = some (.tup v) → (upd H F o) t = some (.tup v) := fun t v z => upd_at (ne_of z h (by intro y; cases y)) z
  exact ⟨B.inj, fun r hr => by rw [upd_ne fun e => n ⟨r, hr, e⟩]; exact B.at_ r hr, B.fz.mono tup, B.gd.mono tup, B.lg.mono tup, B.pa.mono tup, fun i hi => (B.ch i hi).mono tup⟩
theorem StV.off {A : Ad} {s : Kex7.State} {v : V} {c : Nat} {H : Hp} {NF : Addr → Prop} (h : StV A s v c H NF) {F : Addr} {xs : List V} (hF : H F = some (.lst xs)) (n : NF F) (o : HO) : StV A s v c (upd H F o) NF := by
  cases s with
  | none => exact h
  | some b =>
    obtain ⟨L, h1, h2, h3, rfl⟩ := h
    exact ⟨L, h1, h2.off hF n o, h3, rfl⟩
theorem wf_new {c n : Nat} (h : c ≤ 1000) : Wf c (newB n) := ⟨rfl, rfl, fun x hx => by
  rw [List.eq_of_mem_replicate hx]
  decide, rfl, Nat.zero_le _, Nat.zero_le _, fun g hg => absurd hg (by simp [newB]), Nat.zero_le _, fun p hp => absurd hp (by simp [newB]), Nat.zero_le _, h⟩
structure Lp (A : Ad) (K : PySem.W.Frag) (cl F : Addr) (ns : List Nat) (cs : List (List (List Int))) (s : Kex7.State) (pv : V) (c place : Nat) (fl : List Int) (NF : Addr → Prop) (H : Hp) : Prop where
  st : StV A s pv c H NF
  ho : Hold K H cl (ns.map vN) F NF
  fF : H F = some (.lst (fl.map V.int))
  nF : NF F
  cal : ∃ f, PyFlat.calls PyKex7.shape f (zs (ns.drop place)) = some cs
  ask : ∀ x ∈ cs, Kex7Neutral.asked1 x = true
  cnt : c + cs.length ≤ 200
  tot : fl ++ PyFlat.told (PyFlat.played Kex7Neutral.step s cs) = PyKex7.answers (zs ns)
theorem lists_at {k : Nat} : (valV kLists (.inl (k : Int))).getD (.int 0) = vN (lsN k) := by
  unfold lsN
  by_cases h5 : k = 5
  · subst h5
    rfl
  · rw [if_neg h5]
    by_cases h25 : k = 25
    · subst h25
      rfl
    · rw [if_neg h25]
      have e : valV kLists (.inl (k : Int)) = none := by
        unfold valV
        rw [List.find?_eq_none.mpr]
        · rfl
        · intro p hp z
          have z := of_decide_eq_true z
          unfold kLists at hp
          simp only [List.mem_cons, List.not_mem_nil, or_false] at hp
          rcases hp with rfl | rfl
          · have z2 : (5 : Int) = (k : Int) := Sum.inl.inj z
            omega
          · have z2 : (25 : Int) = (k : Int) := Sum.inl.inj z
            omega
      rw [e]
      rfl
theorem nums_at {k : Nat} (h : k < 27) : atI vNumbers (k : Int) = some (vN (numsN.getD k 0)) := by
  have e : vNumbers = numsN.map vN := rfl
  rw [e]
  exact at_vN h
theorem val_get2 {P : Program} {w : World} {K : PySem.W.Frag} {σ : L2.St} {H : Hp} {ta tb tc : TE} {a : Addr} {kvs : List (Key × V)} {k : Nat} {z : V} (kd : KDi K P w a kvs) (ha : Val ta σ H (.ref a)) (hb : Val tb σ H (vN k)) (hc : Val tc σ H z) : Val (tGet2KI K P w ta tb tc) σ H ((valV kvs (.inl (k : Int))).getD z) := fun Q q => ha _ (hb _ (hc _ ⟨a, kvs, .inl (k : Int), rfl, rfl, kd, q⟩))
section
variable {P : Program} {w : World} {K : PySem.W.Frag} {mg : Str → Option Value} {base : Heap} {A : Ad}
def spAns (K : PySem.W.Frag) : Sp := fun vs H Q _ => ∃ (cl : Addr) (ns : List Nat), vs = [.ref cl] ∧ SqL K H cl (ns.map vN) ∧ ns.length ≤ 30000 ∧ PyKex7.answers_asked (zs ns) = true ∧ ∀ (H' : Hp) (p : Addr), H' p = some (.lst ((PyKex7.answers (zs ns)).map V.int)) → Q (.ref p) H'
theorem ok_answers {f : Addr} {fd : FuncData} (F : Fun K "answers" "answers" s_answers f fd) (T : Txt P w K mg A) (c_rows_at : Cal P w K mg base 1 "rows_at" (spRowsAt K) []) (c_Platform : Mak P w K mg base 1 "Platform" A.CP (spIniP A) []) (c_done : Cal P w K mg base 37 "done" (spCall A K okAll) []) : FnOk P w K mg base CX0 38 f fd ["calls"] (spAns K) := by
  refine F.ok (k := 37) sc_answers (fun vs H Q E h => ?_) (fun cdv Ar outer s H vs Q E hr h => ?_)
  · obtain ⟨cl, ns, rfl, _⟩ := h
    rfl
  · obtain ⟨cl, ns, rfl, hS, hl, hask, q⟩ := h
    obtain ⟨cs0, ec0, hcl0, ha0, eans, hshort⟩ := asked_view hask
    refine ⟨_, (pss_cons (ps_set (i := 1) sc_answers.nd rfl (Or.inl rfl) pe_non)
      (pss_cons (ps_set (i := 2) sc_answers.nd rfl (Or.inl rfl) (pe_lst pa_nil))
      (pss_cons (ps_set (i := 3) sc_answers.nd rfl (Or.inl rfl) pe_int)
      (pss_cons (ps_while PassesOwn.never (pt_cmpR op_lt (pv 3) (pe_callB call_lenM (by rfl) T.len (by decide +kernel) (pa_cons (pv 0) pa_nil)) (nomark _)) (pss_cons (ps_set (i := 4) sc_answers.nd rfl (Or.inl rfl) (pe_ix ix_list (pv 0) (pv 3) (fun _ _ => rfl)))
      (pss_cons (ps_set (i := 5) sc_answers.nd rfl (Or.inl rfl) (pe_op op_add (pv 3) pe_int))
      (pss_cons (ps_set (i := 6) sc_answers.nd rfl (Or.inl rfl) (pe_op op_add (pv 5) (pe_ix ix_tup (pe_gc (by rfl) T.g_NUMBERS) (pv 4) (fun _ _ => rfl))))
      (pss_cons (ps_set (i := 7) sc_answers.nd rfl (Or.inl rfl) (pe_slice sl_list (pv 0) (po_some (pv 5)) (po_some (pv 6))))
      (pss_cons (ps_asg (pe_c c_rows_at hr (by first | decide | omega) (by rfl) (pa_cons (pv 0) (pa_cons (pv 6) (pa_cons (pe_dget2KI (pe_gc (by rfl) T.g_LISTS) (pv 4) pe_int ⟨rfl, rfl, rfl, rfl⟩ (fun σ H Q h => ⟨_, ⟨_, T.kdL⟩, rfl, h⟩)) pa_nil)))) (pg_tup rfl (pgs_cons (pg_name (i := 8) sc_answers.nd rfl (Or.inl rfl)) (pgs_cons (pg_name (i := 3) sc_answers.nd rfl (Or.inl rfl)) pgs_nil))))
      (C8.pss_cut (ps_if (pt_cmpR op_eqI (pv 4) pe_int (nomark _)) (pss_cons (ps_set (i := 9) sc_answers.nd rfl (Or.inl rfl) (pe_ifExp (pt_chain op_le op_le pe_int (pe_ix ix_list (pv 7) pe_int (fun _ _ => rfl)) (pe_gc (by rfl) T.g_MOST_PEOPLE)) (pe_lst (pa_cons pe_int pa_nil)) (pe_lst (pa_cons (pe_un un_neg pe_int) pa_nil))))
      (pss_one (ps_if (pt_cmpR op_eqI (pe_ix ix_list (pv 9) pe_int (fun _ _ => rfl)) pe_int (nomark _)) (pss_one (ps_set (i := 1) sc_answers.nd rfl (Or.inl rfl) (pe_mk c_Platform hr (by first | decide | omega) (by rfl) (pa_cons (pe_ix ix_list (pv 7) pe_int (fun _ _ => rfl)) pa_nil)))) pss_nil))) (pss_one (ps_if (pt_cmpR op_isNM (pv 1) pe_non (nomark _)) (pss_one (ps_set (i := 9) sc_answers.nd rfl (Or.inl rfl) (pe_lst (pa_cons (pe_un un_neg pe_int) pa_nil)))) (pss_one (ps_set (i := 9) sc_answers.nd rfl (Or.inl rfl) (pe_c c_done hr (by first | decide | omega) (by rfl) (pa_cons (pv 1) (pa_cons (pv 4) (pa_cons (pv 7) (pa_cons (pv 8) pa_nil))))))))))
      (pss_cons (ps_expr (pe_bm PySem.F.plainAttrs_list PySem.F.slot_list_append PySem.F.type_list_append mt_append (pv 2) (pa_cons (pe_callB call_lenM (by rfl) T.len (by decide +kernel) (pa_cons (pv 9) pa_nil)) pa_nil)))
      (pss_one (ps_expr (pe_bm PySem.F.plainAttrs_list PySem.F.slot_list_extend PySem.F.type_list_extend mt_extend (pv 2) (pa_cons (pv 9) pa_nil))))))))))))
      (pss_one (ps_ret (pv 2))))))), ?_⟩
    walk_at "n"
    refine x_setV (by walk_at "val") ?_
    walk_at "n"
    refine x_set (x_lstV vala_nil fun F nF => ?_)
    have s0 := same_upd (o := .lst []) nF
    have gF : (upd H F (.lst [])) F = some (.lst []) := upd_same
    have hold0 : Hold K (upd H F (.lst [])) cl (ns.map vN) F (fun _ => True) := by
      rcases hS with hS | hS
      · rcases hS with hS | ⟨o, hS⟩
        · exact .inl ⟨.inl (s0 _ _ hS), ne_of_none hS nF, trivial⟩
        · exact .inl ⟨.inr ⟨o, s0 _ _ hS⟩, ne_of_none hS nF, trivial⟩
      · exact .inr hS
    generalize upd H F (.lst []) = H0 at s0 gF hold0
    walk_at "n"
    refine x_setV (by walk_at "val") ?_
    walk_at "n"
    refine x_while (fun m σ H' => ∃ cs st pv c place fl NF v4 v5 v6 v7 v8 v9, m = cs.length ∧ σ = [some (.ref cl), some pv, some (.ref F), some (vN place), v4, v5, v6, v7, v8, v9] ∧ Lp A K cl F ns cs st pv c place fl NF H') ?_ ?_
    · exact ⟨_, cs0, none, .non, 0, 0, [], fun _ => True, _, _, _, _, _, _, rfl, rfl, ⟨⟨rfl, rfl⟩, hold0, gF, trivial, ⟨_, ec0⟩, ha0, by omega, by rw [eans]; rfl⟩⟩
    · rintro m σ H1 ⟨cs, st, pv, c, place, fl, NF, v4, v5, v6, v7, v8, v9, rfl, rfl, X⟩
      refine ⟨decide (place < ns.length), ?_, fun hlt => ?_, fun hge => ?_⟩
      · have z := val_len (val_var (i := 0) (σ := [some (.ref cl), some pv, some (.ref F), some (vN place), v4, v5, v6, v7, v8, v9]) rfl) X.ho.sq
        rw [List.length_map] at z
        refine Ans.to (ans_test (val_I0 (val_var rfl) z)) (decide_eq_decide.mpr (by omega))
      · have hlt := of_decide_eq_true hlt
        obtain ⟨f0, ec⟩ := X.cal
        obtain ⟨k, args, rows, rest, cs2, f2, hk, hn, hm, rfl, en, ec2⟩ := calls_step ec (fun e => by
          have := congrArg List.length e
          rw [List.length_drop, List.length_nil] at this
          omega)
        have ha1 := X.ask _ (List.mem_cons_self ..)
        have hcnt := X.cnt
        rw [List.length_cons] at hcnt
        have ok := call_ok hk hn hm ha1
        have h0 : ns[place]? = some k := by
          have z : (ns.drop place)[0]? = some k := by rw [en]; rfl
          rw [List.getElem?_drop] at z
          exact z
        have at0 : atI (ns.map vN) (place : Int) = some (vN k) := atI_n (by rw [List.getElem?_map, h0]; rfl)
        have hd1 : ns.drop (place + 1) = args ++ (flatR rows ++ rest) := by
          rw [← List.drop_drop, en]
          rfl
        have hd2 : ns.drop (place + 1 + numsN.getD k 0) = flatR rows ++ rest := by
          rw [← List.drop_drop, hd1, ← hn, List.drop_left]
        have hd3 : ns.drop (place + 1 + numsN.getD k 0 + (flatR rows).length) = rest := by
          rw [← List.drop_drop, hd2, List.drop_left]
        walk_at "n"
        refine x_setV (val_ixL (val_var rfl) (val_var rfl) X.ho.sq at0) ?_
        walk_at "n"
        refine x_setV (v := vN (place + 1)) (val_to (val_I0 (val_var rfl) val_c) rfl) ?_
        walk_at "n"
        refine x_setV (v := vN (place + 1 + numsN.getD k 0)) (val_to (val_I0 (val_var rfl) (val_ixT val_c (val_var rfl) (T.sqN _) (nums_at hk))) rfl) ?_
        walk_at "n"
        refine x_set (x_slMid (n := place + 1) (m := place + 1 + numsN.getD k 0) (val_var rfl) (val_var rfl) (val_var rfl) X.ho.sq fun g ng => ?_)
        have eg : ((ns.map vN).drop (place + 1)).take (place + 1 + numsN.getD k 0 - (place + 1)) = args.map vN := by
          rw [show place + 1 + numsN.getD k 0 - (place + 1) = numsN.getD k 0 by omega, ← List.map_drop, ← List.map_take, hd1, ← hn, List.take_left]
        rw [eg]
        have sg := same_upd (o := .lst (args.map vN)) ng
        have gg : (upd H1 g (.lst (args.map vN))) g = some (.lst (args.map vN)) := upd_same
        generalize upd H1 g (.lst (args.map vN)) = H2 at sg gg
        have hm3 : lsN k ≤ 3 := by
          unfold lsN
          split
          · decide
          · split <;> decide
        walk_at "n"
        refine x_asg (x_call0 (vala_cons (val_var rfl) (vala_cons (val_var rfl) (vala_cons (val_to (val_get2 T.kdL val_c (val_var rfl) val_c) lists_at) vala_nil))) ?_)
        refine ⟨cl, ns, place + 1 + numsN.getD k 0, lsN k, rows, rest, rfl, (X.ho.same sg).sq, by omega, hd2, hm, hm3, fun H3 t r s3 ht hR => ?_⟩
        refine x_un2 (SqT.of ht) ?_
        have sA := sg.trans s3
        have gS := SqL.of (K := K) (s3 _ _ gg)
        have St3 := X.st.mono sA
        have Ho3 := X.ho.same sA
        have fF3 := sA _ _ X.fF
        have hc1 : c + 1 ≤ 1000 := by omega
        refine ⟨fun σ' H' => ∃ st' pv' NF' ans r' w8, σ' = [some (.ref cl), some pv', some (.ref F), some (vN (place + 1 + numsN.getD k 0 + (flatR rows).length)), some (vN k), some (vN (place + 1)), some (vN (place + 1 + numsN.getD k 0)), some (.ref g), w8, some (.ref r')] ∧ StV A st' pv' (c + 1) H' NF' ∧ Hold K H' cl (ns.map vN) F NF' ∧ H' F = some (.lst (fl.map V.int)) ∧ NF' F ∧
          H' r' = some (.lst (ans.map V.int)) ∧ r' ≠ F ∧ Kex7Neutral.step st (callOf k args rows) = (st', ans), ?_, ?_⟩
        · walk_at "n"
          have nfr : ∀ {H4 : Hp} {p : Addr}, Same H3 H4 → H4 p = none → p ≠ F := fun s4 np e => by
            have z := s4 _ _ fF3
            rw [← e, np] at z
            cases z
          rcases ok with ⟨rfl, x, rfl, rfl, hq⟩ | ⟨k0, rq, hq, okq⟩
          · have es := step_of (s := st) hq
            refine x_ifP (by walk_at "ans") (fun _ => ?_) (fun h => absurd (by decide) h)
            walk_at "n"
            have e0 : Kex7.step st (.create x) = if x = 0 ∨ 8 < x then (st, .value (-22)) else (some (newB x), .value 0) := rfl
            have vx : ∀ {σ : L2.St} {te : TE} {H4 : Hp}, Same H3 H4 → Val te σ H4 (.ref g) → Val (tOp (rIxL K) te (tC (.int 0))) σ H4 (vN x) := fun s4 hv => val_ixL hv val_c (s4.seq gS) at_0
            refine x_set (x_ifE (ans_B (val_chain val_c (vx (Same.refl H3) (val_var rfl)) val_c)) (fun h1 => ?_) (fun h1 => ?_))
            · rw [Bool.and_eq_true, decide_eq_true_iff, decide_eq_true_iff] at h1
              rw [if_neg (by omega)] at e0
              rw [e0] at es
              refine x_lstV (xs := [.int 0]) (by walk_at "vala") fun a na => ?_
              have s4 := same_upd (o := .lst [.int 0]) na
              have ga : (upd H3 a (.lst [.int 0])) a = some (.lst [.int 0]) := upd_same
              have aF := nfr (Same.refl H3) na
              generalize upd H3 a (.lst [.int 0]) = H4 at s4 ga
              walk_at "n"
              refine x_ifP (ans_test (val_I0 (val_ixL (val_var rfl) val_c (SqL.of ga) (atI_0 rfl)) val_c)) (fun _ => ?_) (fun h => absurd rfl h)
              walk_at "n"
              refine x_set (x_make (vala_cons (vx s4 (val_var rfl)) vala_nil) fun y dx ny ndx dne => ?_)
              have sd := same_upd (o := .own y) ndx
              have ny1 : (upd H4 dx (.own y)) y = none := by rw [upd_ne (Ne.symm dne)]; exact ny
              have sy := same_upd (o := .ins A.CP dx []) ny1
              refine ⟨y, dx, x, rfl, upd_same, by rw [upd_ne dne]; exact upd_same, fun L' H5 B5 ep k5 => ⟨rfl, ?_⟩⟩
              have kp : ∀ z o, H4 z = some o → H5 z = some o ∧ ¬ Foot L' (newB x) z := fun z o hz => k5 z o ((sd.trans sy) _ _ hz) (ne_of_none hz ny) (ne_of_none hz ndx)
              walk_at "n"
              obtain ⟨z1, z2⟩ := kp F _ (s4 _ _ fF3)
              refine ⟨some (newB x), .ref y, fun z => ¬ Foot L' (newB x) z, [0], a, _, rfl, ⟨L', by rw [ep], B5, wf_new hc1, rfl⟩, (Ho3.same s4).go fun o ho _ _ => kp _ _ ho, z1, z2, (kp a _ ga).1, aF, es⟩
            · rw [Bool.and_eq_false_iff, decide_eq_false_iff_not, decide_eq_false_iff_not] at h1
              rw [if_pos (by omega)] at e0
              rw [e0] at es
              refine x_lstV (xs := [.int (-22)]) (by walk_at "vala") fun a na => ?_
              have s4 := same_upd (o := .lst [.int (-22)]) na
              have ga : (upd H3 a (.lst [.int (-22)])) a = some (.lst [.int (-22)]) := upd_same
              have aF := nfr (Same.refl H3) na
              generalize upd H3 a (.lst [.int (-22)]) = H4 at s4 ga
              walk_at "n"
              refine x_ifP (ans_test (val_I0 (val_ixL (val_var rfl) val_c (SqL.of ga) (atI_0 rfl)) val_c)) (fun h => absurd h (by decide)) (fun _ => ?_)
              walk_at "n"
              exact ⟨st, pv, NF, [-22], a, _, rfl, St3.up s4 hc1, Ho3.same s4, s4 _ _ fF3, X.nF, ga, aF, es⟩
          · have es := step_of (s := st) hq
            have nk : ¬ (k : Int) = 0 := by omega
            refine x_ifP (by walk_at "ans") (fun h => absurd h nk) (fun _ => ?_)
            walk_at "n"
            cases st with
            | none =>
              rw [all_none okq] at es
              obtain ⟨rfl, eNF⟩ := St3
              refine x_ifP (p := (V.non = V.non)) (by walk_at "ans") (fun _ => ?_) (fun h => absurd rfl h)
              walk_at "n"
              refine x_set (x_lstV (xs := [.int (-11)]) (by walk_at "vala") fun a na => ?_)
              have s4 := same_upd (o := .lst [.int (-11)]) na
              have ga : (upd H3 a (.lst [.int (-11)])) a = some (.lst [.int (-11)]) := upd_same
              have aF := nfr (Same.refl H3) na
              generalize upd H3 a (.lst [.int (-11)]) = H4 at s4 ga
              exact ⟨none, .non, NF, [-11], a, _, rfl, ⟨rfl, eNF⟩, Ho3.same s4, s4 _ _ fF3, X.nF, ga, aF, es⟩
            | some b =>
              obtain ⟨L, rfl, B3, W3, rfl⟩ := St3
              refine x_ifP (p := (V.ref (L.ad .plat) = V.non)) (by walk_at "ans") (fun h => nomatch h) (fun _ => ?_)
              walk_at "n"
              refine x_set (x_call0 (by walk_at "vala") ?_)
              refine ⟨L, b, c, g, r, k, args, rows, rq, rfl, B3, W3, hc1, gS, hR, okq, fun H4 L4 b4 r4 res e4 W4 B4 f4 n4 g4 => ?_⟩
              rw [e4] at es
              obtain ⟨z1, z2⟩ := f4.keep F _ fF3 X.nF
              exact ⟨some b4, .ref (L4.ad .plat), fun z => ¬ Foot L4 b4 z, Kex7Neutral.fields res, r4, _, by rw [f4.st .plat trivial (by intro j e; cases e)]; rfl, ⟨L4, rfl, B4, W4, rfl⟩, Ho3.go fun o ho _ n => f4.keep _ _ ho n, z1, z2, g4, Ne.symm (n4 F _ fF3 X.nF), es⟩
        · rintro σ' H4 ⟨st', pv', NF', ans, r', w8, rfl, St4, Ho4, fF4, nF4, gr, rF, es⟩
          have etot := X.tot
          rw [told_cons, es] at etot
          dsimp only at etot
          have hsz : fl.length + ans.length + 1 ≤ 10000000 := by
            have z := congrArg List.length etot
            rw [List.length_append, List.length_append, List.length_cons] at z
            omega
          walk_at "n"
          have vA : Val (tCB (rLenM K) (tCons (tVar 9) tNil)) [some (.ref cl), some pv', some (.ref F), some (vN (place + 1 + numsN.getD k 0 + (flatR rows).length)), some (vN k), some (vN (place + 1)), some (vN (place + 1 + numsN.getD k 0)), some (.ref g), w8, some (.ref r')] H4 (vN ans.length) := by
            have z := val_len (val_var (i := 9) (σ := [some (.ref cl), some pv', some (.ref F), some (vN (place + 1 + numsN.getD k 0 + (flatR rows).length)), some (vN k), some (vN (place + 1)), some (vN (place + 1 + numsN.getD k 0)), some (.ref g), w8, some (.ref r')]) rfl) (SqL.of (K := K) gr)
            rw [List.length_map] at z
            exact z
          refine x_drop (x_app (val_var rfl) fF4 (x_val vA ⟨F, _, _, rfl, rfl, fF4, by rw [List.length_map]; exact Nat.lt_of_le_of_lt (show fl.length ≤ 10000000 by omega) (by decide), ?_⟩))
          have St5 := St4.off fF4 nF4 (.lst (fl.map V.int ++ [vN ans.length]))
          have Ho5 : Hold K (upd H4 F (.lst (fl.map V.int ++ [vN ans.length]))) cl (ns.map vN) F NF' := Ho4.go fun o ho n1 n2 => ⟨upd_at n1 ho, n2⟩
          have gr5 := upd_at (o := .lst (fl.map V.int ++ [vN ans.length])) rF gr
          have fF5 : (upd H4 F (.lst (fl.map V.int ++ [vN ans.length]))) F = some (.lst (fl.map V.int ++ [vN ans.length])) := upd_same
          generalize upd H4 F (.lst (fl.map V.int ++ [vN ans.length])) = H5 at St5 Ho5 gr5 fF5
          walk_at "n"
          refine x_drop (x_ext (val_var rfl) fF5 (x_val (val_var rfl) ?_))
          refine x_rext fF5 gr5 (by rw [List.length_append, List.length_map, List.length_map, List.length_singleton]; omega) ?_
          walk_at "n"
          refine ⟨cs2.length, Nat.lt_succ_self _, cs2, st', pv', c + 1, _, fl ++ ((ans.length : Int) :: ans), NF', _, _, _, _, _, _, rfl, rfl, ⟨St5.off fF5 nF4 _, Ho5.go fun o ho n1 n2 => ⟨upd_at n1 ho, n2⟩, ?_, nF4, ⟨f2, by rw [hd3]; exact ec2⟩, fun y hy => X.ask y (List.mem_cons_of_mem _ hy), by omega, ?_⟩⟩
          · rw [upd_same, List.map_append, List.append_assoc]
            rfl
          · rw [List.append_assoc]
            exact etot
      · have hge := of_decide_eq_false hge
        obtain ⟨f0, ec⟩ := X.cal
        rw [List.drop_eq_nil_of_le (by omega)] at ec
        have e2 := calls_end ec
        subst e2
        have etot := X.tot
        have etot : fl ++ [] = PyKex7.answers (zs ns) := etot
        rw [List.append_nil] at etot
        walk_at "n"
        refine x_ret (x_val (val_var rfl) (q H1 F ?_))
        rw [X.fF, etot]
end
end Gc
namespace Gc
open PySem PySem.Spec PyProof.Rows L2
open C8 (Cal Mak Met CalAt pe_c pe_mk pe_mt pe_mt0 pe_gc)
open PySem.W (Codec)
/-! ## The assembly -/
section
variable {P : Program} {w : World} {K : PySem.W.Frag} {mg : Str → Option Value} {base : Heap} {A : Ad} {h : Heap}
theorem held_of {x : Str} {sp : Sp} {j : Nat} {f : Addr} (c : Cal P w K mg base j x sp []) (g : mg x = some (.ref f)) (hj : j ≤ 36) : Held P w K mg base 36 f sp := by
  obtain ⟨f2, fd, ps, ds, F, g2, kp, b, d⟩ := c.ex
  rw [g] at g2
  cases g2
  cases d
  exact ⟨fd, ps, F.mono hj, kp, b⟩
def faOf (f1 f2 f3 f4 f6 f7 f8 f9 f10 f11 f12 f13 : Addr) : Nat → Addr
  | 1 => f1
  | 2 => f2
  | 3 => f3
  | 4 => f4
  | 6 => f6
  | 7 => f7
  | 8 => f8
  | 9 => f9
  | 10 => f10
  | 11 => f11
  | 12 => f12
  | _ => f13
theorem kdi_mk {es : Array DictEntry} {n : Nat} {a : Addr} {kvs : List (Key × V)} {vs : List (Key × Value)} (l : K.lookup a = some ⟨.type "dict", none, .dict es n, #[]⟩) (low : (a == sysModules) = false) (r : KV kvs vs) (ks : KeysOf (mixKind P w) es) (pq : Pairs (mixKind P w) es.toList vs) (nd : (vs.map (·.1)).Nodup) : KDi K P w a kvs :=
  ⟨low, fun h X => ⟨vs, r, _, es, n, X _ _ l, ⟨rfl, rfl, rfl⟩, rfl, ks, pq, nd⟩⟩
def mkE (l : List (Int × Tok × Value)) : Array DictEntry := (l.map fun p => (⟨hashInt p.1, .int p.1 p.2.1, p.2.2⟩ : DictEntry)).toArray
theorem mkE_keys (l : List (Int × Tok × Value)) : KeysOf (mixKind P w) (mkE l) := fun e he => by
  obtain ⟨p, _, rfl⟩ := List.mem_map.mp (show e ∈ l.map (fun p => (⟨hashInt p.1, .int p.1 p.2.1, p.2.2⟩ : DictEntry)) from he.val)
  exact ⟨.inl p.1, by
    show Value.isInt p.1 (.int p.1 p.2.1) = true
    exact decide_eq_true rfl, rfl⟩
theorem mkE_pairs : ∀ l : List (Int × Tok × Value), Pairs (mixKind P w) (mkE l).toList (l.map fun p => ((.inl p.1 : Key), p.2.2))
  | [] => .nil
  | p :: r => .cons (by
    show Value.isInt p.1 (.int p.1 p.2.1) = true
    exact decide_eq_true rfl) rfl (mkE_pairs r)
theorem at_mk {x : Str} {st : Stmt} {ps : List Str} {f : Addr} {oc : Value} {od an : Option Addr} {sl : Array (Option Value)} {kV doc pm cdv ct : Value} (X : K.In h) (G : h.Ns mainGlobals mg) (a : PySem.W.nsIn K mainGlobals x = some (some (.ref f)))
    (l : K.lookup f = some ⟨oc, od, .func (PySem.W.fnOf x x (defArgs st) (defBody st) (defScope st) .none kV doc pm an cdv ct), sl⟩) (c : PySem.W.codeIn K cdv x = true) (k : PySem.W.keepIn K (.ref f) = true)
    (b : ∀ (kV doc pm : Value) (an : Option Addr) (cdv ct : Value) (us : List Value), us.length = ps.length → bindArgs (PySem.W.fnOf x x (defArgs st) (defBody st) (defScope st) .none kV doc pm an cdv ct) ⟨us, []⟩ = pure (ps.zip us)) : At K mg x st ps :=
  ⟨f, _, fun_mk l c k, PySem.W.mg_of X G a, (fun_mk l c k).binds b⟩
theorem atm_mk {C : Addr} {m qual : Str} {st : Stmt} {ps : List Str} {f : Addr} {oc : Value} {od an : Option Addr} {sl : Array (Option Value)} {kV doc pm cdv ct : Value} (a : PySem.W.findIn K (.ref C) m = some (some (.ref f))) (i : PySem.W.isFn K (.ref f) = true)
    (l : K.lookup f = some ⟨oc, od, .func (PySem.W.fnOf m qual (defArgs st) (defBody st) (defScope st) .none kV doc pm an cdv ct), sl⟩) (c : PySem.W.codeIn K cdv qual = true) (k : PySem.W.keepIn K (.ref f) = true)
    (b : ∀ (kV doc pm : Value) (an : Option Addr) (cdv ct : Value) (us : List Value), us.length = ps.length → bindArgs (PySem.W.fnOf m qual (defArgs st) (defBody st) (defScope st) .none kV doc pm an cdv ct) ⟨us, []⟩ = pure (ps.zip us)) : AtM K C m qual st ps :=
  ⟨f, _, fun_mk l c k, ⟨a, i, k⟩, (fun_mk l c k).binds b⟩
theorem ati_mk {x : Str} {C : Addr} {qual : Str} {st : Stmt} {ps : List Str} {f : Addr} {oc : Value} {od an : Option Addr} {sl : Array (Option Value)} {kV doc pm cdv ct : Value} (X : K.In h) (G : h.Ns mainGlobals mg) (aC : PySem.W.nsIn K mainGlobals x = some (some (.ref C))) (mk : PySem.W.makesIn K C = true) (kc : PySem.W.keepIn K (.ref C) = true)
    (a : PySem.W.findIn K (.ref C) "__init__" = some (some (.ref f))) (i : PySem.W.isFn K (.ref f) = true)
    (l : K.lookup f = some ⟨oc, od, .func (PySem.W.fnOf "__init__" qual (defArgs st) (defBody st) (defScope st) .none kV doc pm an cdv ct), sl⟩) (c : PySem.W.codeIn K cdv qual = true) (k : PySem.W.keepIn K (.ref f) = true)
    (b : ∀ (kV doc pm : Value) (an : Option Addr) (cdv ct : Value) (us : List Value), us.length = ps.length → bindArgs (PySem.W.fnOf "__init__" qual (defArgs st) (defBody st) (defScope st) .none kV doc pm an cdv ct) ⟨us, []⟩ = pure (ps.zip us)) : AtI K mg x C qual st ps :=
  ⟨f, _, fun_mk l c k, ⟨mk, a, i, kc⟩, PySem.W.mg_of X G aC, (fun_mk l c k).binds b⟩
theorem ok_all {f : Addr} {fd : FuncData} {f1 f2 f3 f4 f6 f7 f8 f9 f10 f11 f12 f13 : Addr} (F : Fun K "answers" "answers" s_answers f fd) (T : Txt P w K mg A)
    (kd : KDi K P w A.dC (kChanges (faOf f1 f2 f3 f4 f6 f7 f8 f9 f10 f11 f12 f13))) (inj : ∀ j ∈ ops, ∀ k ∈ ops, faOf f1 f2 f3 f4 f6 f7 f8 f9 f10 f11 f12 f13 j = faOf f1 f2 f3 f4 f6 f7 f8 f9 f10 f11 f12 f13 k → j = k)
    (g1 : mg "set_rule" = some (.ref f1))
    (g2 : mg "set_class" = some (.ref f2))
    (g3 : mg "add_freeze" = some (.ref f3))
    (g4 : mg "remove_freeze" = some (.ref f4))
    (g6 : mg "approve" = some (.ref f6))
    (g7 : mg "withdraw" = some (.ref f7))
    (g8 : mg "reject" = some (.ref f8))
    (g9 : mg "advance" = some (.ref f9))
    (g10 : mg "add_guard" = some (.ref f10))
    (g11 : mg "remove_guard" = some (.ref f11))
    (g12 : mg "report" = some (.ref f12))
    (g13 : mg "revert" = some (.ref f13))
    (a_hash_of : At K mg "hash_of" s_hash_of ["row"])
    (a_bytes_of : At K mg "bytes_of" s_bytes_of ["number", "many"])
    (a_leaf_of : At K mg "leaf_of" s_leaf_of ["entry"])
    (a_node_of : At K mg "node_of" s_node_of ["left", "right"])
    (a_quarters_of : At K mg "quarters_of" s_quarters_of ["number"])
    (a_from_quarters : At K mg "from_quarters" s_from_quarters ["row"])
    (a_changes_in : At K mg "changes_in" s_changes_in ["row"])
    (a_parting : At K mg "parting" s_parting ["many"])
    (a_root_of : At K mg "root_of" s_root_of ["leaves"])
    (a_proof_of : At K mg "proof_of" s_proof_of ["index", "leaves"])
    (a_result_of : At K mg "result_of" s_result_of ["index", "many", "leaf", "hashes"])
    (a_about_setting : At K mg "about_setting" s_about_setting ["platform", "number", "given"])
    (a_about_proposal : At K mg "about_proposal" s_about_proposal ["platform", "number", "given"])
    (a_about_time : At K mg "about_time" s_about_time ["platform", "number", "given"])
    (a_leaves_of : At K mg "leaves_of" s_leaves_of ["platform", "count"])
    (a_about_log : At K mg "about_log" s_about_log ["platform", "number", "given"])
    (a_are_quarters : At K mg "are_quarters" s_are_quarters ["row"])
    (a_verify : At K mg "verify" s_verify ["given", "leaf", "hashes", "expected"])
    (a_summary : At K mg "summary" s_summary ["platform"])
    (a_set_rule : At K mg "set_rule" s_set_rule ["platform", "given"])
    (a_set_class : At K mg "set_class" s_set_class ["platform", "given"])
    (a_add_freeze : At K mg "add_freeze" s_add_freeze ["platform", "given"])
    (a_remove_freeze : At K mg "remove_freeze" s_remove_freeze ["platform", "given"])
    (a_propose : At K mg "propose" s_propose ["platform", "given", "row"])
    (a_refusal : At K mg "refusal" s_refusal ["platform", "number", "person"])
    (a_approve : At K mg "approve" s_approve ["platform", "given"])
    (a_withdraw : At K mg "withdraw" s_withdraw ["platform", "given"])
    (a_reject : At K mg "reject" s_reject ["platform", "given"])
    (a_advance : At K mg "advance" s_advance ["platform", "given"])
    (a_add_guard : At K mg "add_guard" s_add_guard ["platform", "given"])
    (a_remove_guard : At K mg "remove_guard" s_remove_guard ["platform", "given"])
    (a_report : At K mg "report" s_report ["platform", "given"])
    (a_revert : At K mg "revert" s_revert ["platform", "given"])
    (a_asked : At K mg "asked" s_asked ["platform", "number", "given", "rows"])
    (a_done : At K mg "done" s_done ["platform", "number", "given", "rows"])
    (a_rows_at : At K mg "rows_at" s_rows_at ["calls", "place", "many"])
    (a_Pro_init : AtI K mg "Proposal" A.CQ "Proposal.__init__" s_Pro_init ["self", "author", "time", "changes"])
    (a_Pro_finish : AtM K A.CQ "finish" "Proposal.finish" s_Pro_finish ["self", "status", "clock"])
    (a_Pro_described : AtM K A.CQ "described" "Proposal.described" s_Pro_described ["self"])
    (a_Pla_init : AtI K mg "Platform" A.CP "Platform.__init__" s_Pla_init ["self", "people"])
    (a_Pla_is_frozen : AtM K A.CP "is_frozen" "Platform.is_frozen" s_Pla_is_frozen ["self", "time"])
    (a_Pla_note : AtM K A.CP "note" "Platform.note" s_Pla_note ["self", "kind", "person", "subject"])
    (a_Pla_assign : AtM K A.CP "assign" "Platform.assign" s_Pla_assign ["self", "key", "value", "source"])
    (a_Pla_approvals_of : AtM K A.CP "approvals_of" "Platform.approvals_of" s_Pla_approvals_of ["self", "proposal"])
    (a_Pla_fits : AtM K A.CP "fits" "Platform.fits" s_Pla_fits ["self", "proposal"])
    (a_Pla_try_out : AtM K A.CP "try_out" "Platform.try_out" s_Pla_try_out ["self", "number"])
    (a_Pla_settle : AtM K A.CP "settle" "Platform.settle" s_Pla_settle ["self"])
    (a_Pla_put_proposal : AtM K A.CP "put_proposal" "Platform.put_proposal" s_Pla_put_proposal ["self", "proposal"])
    (a_Pla_count_status : AtM K A.CP "count_status" "Platform.count_status" s_Pla_count_status ["self", "status"])
    (a_Pla_value_at : AtM K A.CP "value_at" "Platform.value_at" s_Pla_value_at ["self", "key", "time"])
    (a_Pla_report : AtM K A.CP "report" "Platform.report" s_Pla_report ["self", "metric", "value"])
    (a_Pla_next_open : AtM K A.CP "next_open" "Platform.next_open" s_Pla_next_open ["self", "time"])
    : FnOk P w K mg base CX0 38 f fd ["calls"] (spAns K) := by
  have c1 := ok_hash (P := P) (w := w) (base := base) a_hash_of T
  have c2 := ok_bytes (P := P) (w := w) (base := base) a_bytes_of T
  have c3 := ok_leaf a_leaf_of T c2 c1
  have c4 := ok_node a_node_of T c2 c1
  have c5 := ok_quar (P := P) (w := w) (base := base) a_quarters_of T
  have c6 := ok_from (P := P) (w := w) (base := base) a_from_quarters T
  have c7 := ok_part (P := P) (w := w) (base := base) a_parting T
  have c8 := ok_root a_root_of T c1 c4 c7 14
  have c9 := ok_root a_root_of T c1 c4 c7 16
  have c10 := ok_prf (r := 19) (by decide) a_proof_of T c9 c7 14
  have c11 := ok_res a_result_of T c4 c7 10
  have m1 := ok_froz (P := P) (w := w) (base := base) a_Pla_is_frozen T
  have m2 := ok_note (P := P) (w := w) (base := base) a_Pla_note T
  have m3 := ok_asg (P := P) (w := w) (base := base) a_Pla_assign T
  have m4 := ok_fin (P := P) (w := w) (base := base) a_Pro_finish T
  have m5 := ok_app (P := P) (w := w) (base := base) a_Pla_approvals_of T
  have m6 := ok_fits (P := P) (w := w) (base := base) a_Pla_fits T
  have m7 := ok_cnt (P := P) (w := w) (base := base) a_Pla_count_status T
  have m8 := ok_vat (P := P) (w := w) (base := base) a_Pla_value_at T
  have m9 := ok_nxt a_Pla_next_open T m1
  have m10 := ok_desc (P := P) (w := w) (base := base) a_Pro_described T
  have m11 := ok_try a_Pla_try_out T m5 m6 m4 m2 m3
  have m12 := ok_stl a_Pla_settle T m1 m11
  have m13 := ok_put a_Pla_put_proposal T m2 m12
  have m14 := ok_rep a_Pla_report T m2 m3
  have i1 := ok_iniQ (P := P) (w := w) (base := base) a_Pro_init T
  have i2 := ok_iniP (P := P) (w := w) (base := base) a_Pla_init T
  have d0 := ok_chs (P := P) (w := w) (base := base) a_changes_in T
  have d1 := ok_rule a_set_rule T m12
  have d2 := ok_clas a_set_class T m12
  have d3 := ok_fzAdd (P := P) (w := w) (base := base) a_add_freeze T
  have d4 := ok_fzDel a_remove_freeze T m12
  have dr := ok_ref (P := P) (w := w) (base := base) a_refusal T
  have d6 := ok_aprv a_approve T dr m2 m12
  have d7 := ok_wdr a_withdraw T dr m2
  have d8 := ok_rej a_reject T dr m2 m4
  have d9 := ok_adv a_advance T m7 m12
  have d10 := ok_gdAdd (P := P) (w := w) (base := base) a_add_guard T
  have d11 := ok_gdDel (P := P) (w := w) (base := base) a_remove_guard T
  have d12 := ok_repo a_report T m14
  have d13 := ok_rvt a_revert T i1 m13
  have d5 := ok_prop a_propose T d0 i1 m13
  have e1 := ok_aset a_about_setting T m8
  have e2 := ok_apro a_about_proposal T m10 m5
  have e3 := ok_atim a_about_time T m1 m9
  have e4 := ok_lvs a_leaves_of T c3
  have e5 := ok_alog (r1 := 0) (r2 := 0) a_about_log T c3 c5 e4 c8 c10
  have e6 := ok_areQ (P := P) (w := w) (base := base) a_are_quarters T
  have e7 := ok_ver a_verify T e6 c6 c11
  have e8 := ok_sum a_summary T m7
  have e9 := ok_askd a_asked T e1 e2 e3 e7 e8 e5
  have deed : ∀ g sp, opS A K (faOf f1 f2 f3 f4 f6 f7 f8 f9 f10 f11 f12 f13) g = some sp → Held P w K mg base 36 g sp := fun g sp hs => by
    obtain ⟨k, hk, rfl, rfl⟩ := opS_of hs
    unfold ops at hk
    simp only [List.mem_cons, List.not_mem_nil, or_false] at hk
    rcases hk with rfl | rfl | rfl | rfl | rfl | rfl | rfl | rfl | rfl | rfl | rfl | rfl
    · exact held_of d1 g1 (by decide)
    · exact held_of d2 g2 (by decide)
    · exact held_of d3 g3 (by decide)
    · exact held_of d4 g4 (by decide)
    · exact held_of d6 g6 (by decide)
    · exact held_of d7 g7 (by decide)
    · exact held_of d8 g8 (by decide)
    · exact held_of d9 g9 (by decide)
    · exact held_of d10 g10 (by decide)
    · exact held_of d11 g11 (by decide)
    · exact held_of d12 g12 (by decide)
    · exact held_of d13 g13 (by decide)
  have e10 := ok_done a_done T kd inj deed d5 e9
  have e11 := ok_rowsAt (P := P) (w := w) (base := base) a_rows_at T
  exact ok_answers F T e11 i2 e10
theorem all_mk {fa : Addr} {CP CQ dL dC nb : Addr} {p_hash_of p_bytes_of p_leaf_of p_node_of p_quarters_of p_from_quarters p_Pro_init p_Pro_finish p_Pro_described p_changes_in p_Pla_init p_Pla_is_frozen p_Pla_note p_Pla_assign p_Pla_approvals_of p_Pla_fits p_Pla_try_out p_Pla_settle p_Pla_put_proposal p_Pla_count_status p_Pla_value_at p_Pla_report p_Pla_next_open p_parting p_root_of p_proof_of p_result_of p_about_setting p_about_proposal p_about_time p_leaves_of p_about_log p_are_quarters p_verify p_summary p_set_rule p_set_class p_add_freeze p_remove_freeze p_propose p_refusal p_approve p_withdraw p_reject p_advance p_add_guard p_remove_guard p_report p_revert p_asked p_done p_rows_at p_answers : Addr} (X : K.In h) (G : h.Ns mainGlobals mg) (hfa : mg "answers" = some (.ref fa))
    {od_hash_of an_hash_of od_bytes_of an_bytes_of od_leaf_of an_leaf_of od_node_of an_node_of od_quarters_of an_quarters_of od_from_quarters an_from_quarters od_Pro_init an_Pro_init od_Pro_finish an_Pro_finish od_Pro_described an_Pro_described od_changes_in an_changes_in od_Pla_init an_Pla_init od_Pla_is_frozen an_Pla_is_frozen od_Pla_note an_Pla_note od_Pla_assign an_Pla_assign od_Pla_approvals_of an_Pla_approvals_of od_Pla_fits an_Pla_fits od_Pla_try_out an_Pla_try_out od_Pla_settle an_Pla_settle od_Pla_put_proposal an_Pla_put_proposal od_Pla_count_status an_Pla_count_status od_Pla_value_at an_Pla_value_at od_Pla_report an_Pla_report od_Pla_next_open an_Pla_next_open od_parting an_parting od_root_of an_root_of od_proof_of an_proof_of od_result_of an_result_of od_about_setting an_about_setting od_about_proposal an_about_proposal od_about_time an_about_time od_leaves_of an_leaves_of od_about_log an_about_log od_are_quarters an_are_quarters od_verify an_verify od_summary an_summary od_set_rule an_set_rule od_set_class an_set_class od_add_freeze an_add_freeze od_remove_freeze an_remove_freeze od_propose an_propose od_refusal an_refusal od_approve an_approve od_withdraw an_withdraw od_reject an_reject od_advance an_advance od_add_guard an_add_guard od_remove_guard an_remove_guard od_report an_report od_revert an_revert od_asked an_asked od_done an_done od_rows_at an_rows_at od_answers an_answers : Option Addr} {sl_hash_of sl_bytes_of sl_leaf_of sl_node_of sl_quarters_of sl_from_quarters sl_Pro_init sl_Pro_finish sl_Pro_described sl_changes_in sl_Pla_init sl_Pla_is_frozen sl_Pla_note sl_Pla_assign sl_Pla_approvals_of sl_Pla_fits sl_Pla_try_out sl_Pla_settle sl_Pla_put_proposal sl_Pla_count_status sl_Pla_value_at sl_Pla_report sl_Pla_next_open sl_parting sl_root_of sl_proof_of sl_result_of sl_about_setting sl_about_proposal sl_about_time sl_leaves_of sl_about_log sl_are_quarters sl_verify sl_summary sl_set_rule sl_set_class sl_add_freeze sl_remove_freeze sl_propose sl_refusal sl_approve sl_withdraw sl_reject sl_advance sl_add_guard sl_remove_guard sl_report sl_revert sl_asked sl_done sl_rows_at sl_answers : Array (Option Value)} {oc_hash_of kV_hash_of dc_hash_of pm_hash_of cd_hash_of ct_hash_of oc_bytes_of kV_bytes_of dc_bytes_of pm_bytes_of cd_bytes_of ct_bytes_of oc_leaf_of kV_leaf_of dc_leaf_of pm_leaf_of cd_leaf_of ct_leaf_of oc_node_of kV_node_of dc_node_of pm_node_of cd_node_of ct_node_of oc_quarters_of kV_quarters_of dc_quarters_of pm_quarters_of cd_quarters_of ct_quarters_of oc_from_quarters kV_from_quarters dc_from_quarters pm_from_quarters cd_from_quarters ct_from_quarters oc_Pro_init kV_Pro_init dc_Pro_init pm_Pro_init cd_Pro_init ct_Pro_init oc_Pro_finish kV_Pro_finish dc_Pro_finish pm_Pro_finish cd_Pro_finish ct_Pro_finish oc_Pro_described kV_Pro_described dc_Pro_described pm_Pro_described cd_Pro_described ct_Pro_described oc_changes_in kV_changes_in dc_changes_in pm_changes_in cd_changes_in ct_changes_in oc_Pla_init kV_Pla_init dc_Pla_init pm_Pla_init cd_Pla_init ct_Pla_init oc_Pla_is_frozen kV_Pla_is_frozen dc_Pla_is_frozen pm_Pla_is_frozen cd_Pla_is_frozen ct_Pla_is_frozen oc_Pla_note kV_Pla_note dc_Pla_note pm_Pla_note cd_Pla_note ct_Pla_note oc_Pla_assign kV_Pla_assign dc_Pla_assign pm_Pla_assign cd_Pla_assign ct_Pla_assign oc_Pla_approvals_of kV_Pla_approvals_of dc_Pla_approvals_of pm_Pla_approvals_of cd_Pla_approvals_of ct_Pla_approvals_of oc_Pla_fits kV_Pla_fits dc_Pla_fits pm_Pla_fits cd_Pla_fits ct_Pla_fits oc_Pla_try_out kV_Pla_try_out dc_Pla_try_out pm_Pla_try_out cd_Pla_try_out ct_Pla_try_out oc_Pla_settle kV_Pla_settle dc_Pla_settle pm_Pla_settle cd_Pla_settle ct_Pla_settle oc_Pla_put_proposal kV_Pla_put_proposal dc_Pla_put_proposal pm_Pla_put_proposal cd_Pla_put_proposal ct_Pla_put_proposal oc_Pla_count_status kV_Pla_count_status dc_Pla_count_status pm_Pla_count_status cd_Pla_count_status ct_Pla_count_status oc_Pla_value_at kV_Pla_value_at dc_Pla_value_at pm_Pla_value_at cd_Pla_value_at ct_Pla_value_at oc_Pla_report kV_Pla_report dc_Pla_report pm_Pla_report cd_Pla_report ct_Pla_report oc_Pla_next_open kV_Pla_next_open dc_Pla_next_open pm_Pla_next_open cd_Pla_next_open ct_Pla_next_open oc_parting kV_parting dc_parting pm_parting cd_parting ct_parting oc_root_of kV_root_of dc_root_of pm_root_of cd_root_of ct_root_of oc_proof_of kV_proof_of dc_proof_of pm_proof_of cd_proof_of ct_proof_of oc_result_of kV_result_of dc_result_of pm_result_of cd_result_of ct_result_of oc_about_setting kV_about_setting dc_about_setting pm_about_setting cd_about_setting ct_about_setting oc_about_proposal kV_about_proposal dc_about_proposal pm_about_proposal cd_about_proposal ct_about_proposal oc_about_time kV_about_time dc_about_time pm_about_time cd_about_time ct_about_time oc_leaves_of kV_leaves_of dc_leaves_of pm_leaves_of cd_leaves_of ct_leaves_of oc_about_log kV_about_log dc_about_log pm_about_log cd_about_log ct_about_log oc_are_quarters kV_are_quarters dc_are_quarters pm_are_quarters cd_are_quarters ct_are_quarters oc_verify kV_verify dc_verify pm_verify cd_verify ct_verify oc_summary kV_summary dc_summary pm_summary cd_summary ct_summary oc_set_rule kV_set_rule dc_set_rule pm_set_rule cd_set_rule ct_set_rule oc_set_class kV_set_class dc_set_class pm_set_class cd_set_class ct_set_class oc_add_freeze kV_add_freeze dc_add_freeze pm_add_freeze cd_add_freeze ct_add_freeze oc_remove_freeze kV_remove_freeze dc_remove_freeze pm_remove_freeze cd_remove_freeze ct_remove_freeze oc_propose kV_propose dc_propose pm_propose cd_propose ct_propose oc_refusal kV_refusal dc_refusal pm_refusal cd_refusal ct_refusal oc_approve kV_approve dc_approve pm_approve cd_approve ct_approve oc_withdraw kV_withdraw dc_withdraw pm_withdraw cd_withdraw ct_withdraw oc_reject kV_reject dc_reject pm_reject cd_reject ct_reject oc_advance kV_advance dc_advance pm_advance cd_advance ct_advance oc_add_guard kV_add_guard dc_add_guard pm_add_guard cd_add_guard ct_add_guard oc_remove_guard kV_remove_guard dc_remove_guard pm_remove_guard cd_remove_guard ct_remove_guard oc_report kV_report dc_report pm_report cd_report ct_report oc_revert kV_revert dc_revert pm_revert cd_revert ct_revert oc_asked kV_asked dc_asked pm_asked cd_asked ct_asked oc_done kV_done dc_done pm_done cd_done ct_done oc_rows_at kV_rows_at dc_rows_at pm_rows_at cd_rows_at ct_rows_at oc_answers kV_answers dc_answers pm_answers cd_answers ct_answers : Value}
    {nL nC nN : Nat} {eL eC : Array DictEntry} {iN : Array Value} {tn0 tn1 tn2 tn3 tn4 tn5 tn6 tn7 tn8 tn9 tn10 tn11 tn12 tn13 tn14 tn15 tn16 tn17 tn18 tn19 tn20 tn21 tn22 tn23 tn24 tn25 tn26 tl0 tl1 tl2 tl3 tc1 tc2 tc3 tc4 tc6 tc7 tc8 tc9 tc10 tc11 tc12 tc13 : Tok}
    {tg_MASK tg_BEGIN tg_PRIME tg_FIRST tg_SECOND tg_OPEN tg_APPLIED tg_REJECTED tg_FAILED tg_ANY tg_MOST_KEY tg_MOST_VALUE tg_MOST_CHANGES tg_SETTINGS tg_CLASSES tg_GUARD tg_WEEK tg_MOST_TIME_asking tg_MOST_COUNT tg_MOST_QUARTER tg_MOST_TIME_changing tg_MOST_HOURS tg_MOST_ROWS tg_MOST_PROPOSALS tg_METRICS tg_MOST_PEOPLE : Tok}
    (a_hash_of : PySem.W.nsIn K mainGlobals "hash_of" = some (some (.ref p_hash_of)))
    (l_hash_of : K.lookup p_hash_of = some ⟨oc_hash_of, od_hash_of, .func (PySem.W.fnOf "hash_of" "hash_of" (defArgs s_hash_of) (defBody s_hash_of) (defScope s_hash_of) .none kV_hash_of dc_hash_of pm_hash_of an_hash_of cd_hash_of ct_hash_of), sl_hash_of⟩)
    (c_hash_of : PySem.W.codeIn K cd_hash_of "hash_of" = true)
    (k_hash_of : PySem.W.keepIn K (.ref p_hash_of) = true)
    (a_bytes_of : PySem.W.nsIn K mainGlobals "bytes_of" = some (some (.ref p_bytes_of)))
    (l_bytes_of : K.lookup p_bytes_of = some ⟨oc_bytes_of, od_bytes_of, .func (PySem.W.fnOf "bytes_of" "bytes_of" (defArgs s_bytes_of) (defBody s_bytes_of) (defScope s_bytes_of) .none kV_bytes_of dc_bytes_of pm_bytes_of an_bytes_of cd_bytes_of ct_bytes_of), sl_bytes_of⟩)
    (c_bytes_of : PySem.W.codeIn K cd_bytes_of "bytes_of" = true)
    (k_bytes_of : PySem.W.keepIn K (.ref p_bytes_of) = true)
    (a_leaf_of : PySem.W.nsIn K mainGlobals "leaf_of" = some (some (.ref p_leaf_of)))
    (l_leaf_of : K.lookup p_leaf_of = some ⟨oc_leaf_of, od_leaf_of, .func (PySem.W.fnOf "leaf_of" "leaf_of" (defArgs s_leaf_of) (defBody s_leaf_of) (defScope s_leaf_of) .none kV_leaf_of dc_leaf_of pm_leaf_of an_leaf_of cd_leaf_of ct_leaf_of), sl_leaf_of⟩)
    (c_leaf_of : PySem.W.codeIn K cd_leaf_of "leaf_of" = true)
    (k_leaf_of : PySem.W.keepIn K (.ref p_leaf_of) = true)
    (a_node_of : PySem.W.nsIn K mainGlobals "node_of" = some (some (.ref p_node_of)))
    (l_node_of : K.lookup p_node_of = some ⟨oc_node_of, od_node_of, .func (PySem.W.fnOf "node_of" "node_of" (defArgs s_node_of) (defBody s_node_of) (defScope s_node_of) .none kV_node_of dc_node_of pm_node_of an_node_of cd_node_of ct_node_of), sl_node_of⟩)
    (c_node_of : PySem.W.codeIn K cd_node_of "node_of" = true)
    (k_node_of : PySem.W.keepIn K (.ref p_node_of) = true)
    (a_quarters_of : PySem.W.nsIn K mainGlobals "quarters_of" = some (some (.ref p_quarters_of)))
    (l_quarters_of : K.lookup p_quarters_of = some ⟨oc_quarters_of, od_quarters_of, .func (PySem.W.fnOf "quarters_of" "quarters_of" (defArgs s_quarters_of) (defBody s_quarters_of) (defScope s_quarters_of) .none kV_quarters_of dc_quarters_of pm_quarters_of an_quarters_of cd_quarters_of ct_quarters_of), sl_quarters_of⟩)
    (c_quarters_of : PySem.W.codeIn K cd_quarters_of "quarters_of" = true)
    (k_quarters_of : PySem.W.keepIn K (.ref p_quarters_of) = true)
    (a_from_quarters : PySem.W.nsIn K mainGlobals "from_quarters" = some (some (.ref p_from_quarters)))
    (l_from_quarters : K.lookup p_from_quarters = some ⟨oc_from_quarters, od_from_quarters, .func (PySem.W.fnOf "from_quarters" "from_quarters" (defArgs s_from_quarters) (defBody s_from_quarters) (defScope s_from_quarters) .none kV_from_quarters dc_from_quarters pm_from_quarters an_from_quarters cd_from_quarters ct_from_quarters), sl_from_quarters⟩)
    (c_from_quarters : PySem.W.codeIn K cd_from_quarters "from_quarters" = true)
    (k_from_quarters : PySem.W.keepIn K (.ref p_from_quarters) = true)
    (a_changes_in : PySem.W.nsIn K mainGlobals "changes_in" = some (some (.ref p_changes_in)))
    (l_changes_in : K.lookup p_changes_in = some ⟨oc_changes_in, od_changes_in, .func (PySem.W.fnOf "changes_in" "changes_in" (defArgs s_changes_in) (defBody s_changes_in) (defScope s_changes_in) .none kV_changes_in dc_changes_in pm_changes_in an_changes_in cd_changes_in ct_changes_in), sl_changes_in⟩)
    (c_changes_in : PySem.W.codeIn K cd_changes_in "changes_in" = true)
    (k_changes_in : PySem.W.keepIn K (.ref p_changes_in) = true)
    (a_parting : PySem.W.nsIn K mainGlobals "parting" = some (some (.ref p_parting)))
    (l_parting : K.lookup p_parting = some ⟨oc_parting, od_parting, .func (PySem.W.fnOf "parting" "parting" (defArgs s_parting) (defBody s_parting) (defScope s_parting) .none kV_parting dc_parting pm_parting an_parting cd_parting ct_parting), sl_parting⟩)
    (c_parting : PySem.W.codeIn K cd_parting "parting" = true)
    (k_parting : PySem.W.keepIn K (.ref p_parting) = true)
    (a_root_of : PySem.W.nsIn K mainGlobals "root_of" = some (some (.ref p_root_of)))
    (l_root_of : K.lookup p_root_of = some ⟨oc_root_of, od_root_of, .func (PySem.W.fnOf "root_of" "root_of" (defArgs s_root_of) (defBody s_root_of) (defScope s_root_of) .none kV_root_of dc_root_of pm_root_of an_root_of cd_root_of ct_root_of), sl_root_of⟩)
    (c_root_of : PySem.W.codeIn K cd_root_of "root_of" = true)
    (k_root_of : PySem.W.keepIn K (.ref p_root_of) = true)
    (a_proof_of : PySem.W.nsIn K mainGlobals "proof_of" = some (some (.ref p_proof_of)))
    (l_proof_of : K.lookup p_proof_of = some ⟨oc_proof_of, od_proof_of, .func (PySem.W.fnOf "proof_of" "proof_of" (defArgs s_proof_of) (defBody s_proof_of) (defScope s_proof_of) .none kV_proof_of dc_proof_of pm_proof_of an_proof_of cd_proof_of ct_proof_of), sl_proof_of⟩)
    (c_proof_of : PySem.W.codeIn K cd_proof_of "proof_of" = true)
    (k_proof_of : PySem.W.keepIn K (.ref p_proof_of) = true)
    (a_result_of : PySem.W.nsIn K mainGlobals "result_of" = some (some (.ref p_result_of)))
    (l_result_of : K.lookup p_result_of = some ⟨oc_result_of, od_result_of, .func (PySem.W.fnOf "result_of" "result_of" (defArgs s_result_of) (defBody s_result_of) (defScope s_result_of) .none kV_result_of dc_result_of pm_result_of an_result_of cd_result_of ct_result_of), sl_result_of⟩)
    (c_result_of : PySem.W.codeIn K cd_result_of "result_of" = true)
    (k_result_of : PySem.W.keepIn K (.ref p_result_of) = true)
    (a_about_setting : PySem.W.nsIn K mainGlobals "about_setting" = some (some (.ref p_about_setting)))
    (l_about_setting : K.lookup p_about_setting = some ⟨oc_about_setting, od_about_setting, .func (PySem.W.fnOf "about_setting" "about_setting" (defArgs s_about_setting) (defBody s_about_setting) (defScope s_about_setting) .none kV_about_setting dc_about_setting pm_about_setting an_about_setting cd_about_setting ct_about_setting), sl_about_setting⟩)
    (c_about_setting : PySem.W.codeIn K cd_about_setting "about_setting" = true)
    (k_about_setting : PySem.W.keepIn K (.ref p_about_setting) = true)
    (a_about_proposal : PySem.W.nsIn K mainGlobals "about_proposal" = some (some (.ref p_about_proposal)))
    (l_about_proposal : K.lookup p_about_proposal = some ⟨oc_about_proposal, od_about_proposal, .func (PySem.W.fnOf "about_proposal" "about_proposal" (defArgs s_about_proposal) (defBody s_about_proposal) (defScope s_about_proposal) .none kV_about_proposal dc_about_proposal pm_about_proposal an_about_proposal cd_about_proposal ct_about_proposal), sl_about_proposal⟩)
    (c_about_proposal : PySem.W.codeIn K cd_about_proposal "about_proposal" = true)
    (k_about_proposal : PySem.W.keepIn K (.ref p_about_proposal) = true)
    (a_about_time : PySem.W.nsIn K mainGlobals "about_time" = some (some (.ref p_about_time)))
    (l_about_time : K.lookup p_about_time = some ⟨oc_about_time, od_about_time, .func (PySem.W.fnOf "about_time" "about_time" (defArgs s_about_time) (defBody s_about_time) (defScope s_about_time) .none kV_about_time dc_about_time pm_about_time an_about_time cd_about_time ct_about_time), sl_about_time⟩)
    (c_about_time : PySem.W.codeIn K cd_about_time "about_time" = true)
    (k_about_time : PySem.W.keepIn K (.ref p_about_time) = true)
    (a_leaves_of : PySem.W.nsIn K mainGlobals "leaves_of" = some (some (.ref p_leaves_of)))
    (l_leaves_of : K.lookup p_leaves_of = some ⟨oc_leaves_of, od_leaves_of, .func (PySem.W.fnOf "leaves_of" "leaves_of" (defArgs s_leaves_of) (defBody s_leaves_of) (defScope s_leaves_of) .none kV_leaves_of dc_leaves_of pm_leaves_of an_leaves_of cd_leaves_of ct_leaves_of), sl_leaves_of⟩)
    (c_leaves_of : PySem.W.codeIn K cd_leaves_of "leaves_of" = true)
    (k_leaves_of : PySem.W.keepIn K (.ref p_leaves_of) = true)
    (a_about_log : PySem.W.nsIn K mainGlobals "about_log" = some (some (.ref p_about_log)))
    (l_about_log : K.lookup p_about_log = some ⟨oc_about_log, od_about_log, .func (PySem.W.fnOf "about_log" "about_log" (defArgs s_about_log) (defBody s_about_log) (defScope s_about_log) .none kV_about_log dc_about_log pm_about_log an_about_log cd_about_log ct_about_log), sl_about_log⟩)
    (c_about_log : PySem.W.codeIn K cd_about_log "about_log" = true)
    (k_about_log : PySem.W.keepIn K (.ref p_about_log) = true)
    (a_are_quarters : PySem.W.nsIn K mainGlobals "are_quarters" = some (some (.ref p_are_quarters)))
    (l_are_quarters : K.lookup p_are_quarters = some ⟨oc_are_quarters, od_are_quarters, .func (PySem.W.fnOf "are_quarters" "are_quarters" (defArgs s_are_quarters) (defBody s_are_quarters) (defScope s_are_quarters) .none kV_are_quarters dc_are_quarters pm_are_quarters an_are_quarters cd_are_quarters ct_are_quarters), sl_are_quarters⟩)
    (c_are_quarters : PySem.W.codeIn K cd_are_quarters "are_quarters" = true)
    (k_are_quarters : PySem.W.keepIn K (.ref p_are_quarters) = true)
    (a_verify : PySem.W.nsIn K mainGlobals "verify" = some (some (.ref p_verify)))
    (l_verify : K.lookup p_verify = some ⟨oc_verify, od_verify, .func (PySem.W.fnOf "verify" "verify" (defArgs s_verify) (defBody s_verify) (defScope s_verify) .none kV_verify dc_verify pm_verify an_verify cd_verify ct_verify), sl_verify⟩)
    (c_verify : PySem.W.codeIn K cd_verify "verify" = true)
    (k_verify : PySem.W.keepIn K (.ref p_verify) = true)
    (a_summary : PySem.W.nsIn K mainGlobals "summary" = some (some (.ref p_summary)))
    (l_summary : K.lookup p_summary = some ⟨oc_summary, od_summary, .func (PySem.W.fnOf "summary" "summary" (defArgs s_summary) (defBody s_summary) (defScope s_summary) .none kV_summary dc_summary pm_summary an_summary cd_summary ct_summary), sl_summary⟩)
    (c_summary : PySem.W.codeIn K cd_summary "summary" = true)
    (k_summary : PySem.W.keepIn K (.ref p_summary) = true)
    (a_set_rule : PySem.W.nsIn K mainGlobals "set_rule" = some (some (.ref p_set_rule)))
    (l_set_rule : K.lookup p_set_rule = some ⟨oc_set_rule, od_set_rule, .func (PySem.W.fnOf "set_rule" "set_rule" (defArgs s_set_rule) (defBody s_set_rule) (defScope s_set_rule) .none kV_set_rule dc_set_rule pm_set_rule an_set_rule cd_set_rule ct_set_rule), sl_set_rule⟩)
    (c_set_rule : PySem.W.codeIn K cd_set_rule "set_rule" = true)
    (k_set_rule : PySem.W.keepIn K (.ref p_set_rule) = true)
    (a_set_class : PySem.W.nsIn K mainGlobals "set_class" = some (some (.ref p_set_class)))
    (l_set_class : K.lookup p_set_class = some ⟨oc_set_class, od_set_class, .func (PySem.W.fnOf "set_class" "set_class" (defArgs s_set_class) (defBody s_set_class) (defScope s_set_class) .none kV_set_class dc_set_class pm_set_class an_set_class cd_set_class ct_set_class), sl_set_class⟩)
    (c_set_class : PySem.W.codeIn K cd_set_class "set_class" = true)
    (k_set_class : PySem.W.keepIn K (.ref p_set_class) = true)
    (a_add_freeze : PySem.W.nsIn K mainGlobals "add_freeze" = some (some (.ref p_add_freeze)))
    (l_add_freeze : K.lookup p_add_freeze = some ⟨oc_add_freeze, od_add_freeze, .func (PySem.W.fnOf "add_freeze" "add_freeze" (defArgs s_add_freeze) (defBody s_add_freeze) (defScope s_add_freeze) .none kV_add_freeze dc_add_freeze pm_add_freeze an_add_freeze cd_add_freeze ct_add_freeze), sl_add_freeze⟩)
    (c_add_freeze : PySem.W.codeIn K cd_add_freeze "add_freeze" = true)
    (k_add_freeze : PySem.W.keepIn K (.ref p_add_freeze) = true)
    (a_remove_freeze : PySem.W.nsIn K mainGlobals "remove_freeze" = some (some (.ref p_remove_freeze)))
    (l_remove_freeze : K.lookup p_remove_freeze = some ⟨oc_remove_freeze, od_remove_freeze, .func (PySem.W.fnOf "remove_freeze" "remove_freeze" (defArgs s_remove_freeze) (defBody s_remove_freeze) (defScope s_remove_freeze) .none kV_remove_freeze dc_remove_freeze pm_remove_freeze an_remove_freeze cd_remove_freeze ct_remove_freeze), sl_remove_freeze⟩)
    (c_remove_freeze : PySem.W.codeIn K cd_remove_freeze "remove_freeze" = true)
    (k_remove_freeze : PySem.W.keepIn K (.ref p_remove_freeze) = true)
    (a_propose : PySem.W.nsIn K mainGlobals "propose" = some (some (.ref p_propose)))
    (l_propose : K.lookup p_propose = some ⟨oc_propose, od_propose, .func (PySem.W.fnOf "propose" "propose" (defArgs s_propose) (defBody s_propose) (defScope s_propose) .none kV_propose dc_propose pm_propose an_propose cd_propose ct_propose), sl_propose⟩)
    (c_propose : PySem.W.codeIn K cd_propose "propose" = true)
    (k_propose : PySem.W.keepIn K (.ref p_propose) = true)
    (a_refusal : PySem.W.nsIn K mainGlobals "refusal" = some (some (.ref p_refusal)))
    (l_refusal : K.lookup p_refusal = some ⟨oc_refusal, od_refusal, .func (PySem.W.fnOf "refusal" "refusal" (defArgs s_refusal) (defBody s_refusal) (defScope s_refusal) .none kV_refusal dc_refusal pm_refusal an_refusal cd_refusal ct_refusal), sl_refusal⟩)
    (c_refusal : PySem.W.codeIn K cd_refusal "refusal" = true)
    (k_refusal : PySem.W.keepIn K (.ref p_refusal) = true)
    (a_approve : PySem.W.nsIn K mainGlobals "approve" = some (some (.ref p_approve)))
    (l_approve : K.lookup p_approve = some ⟨oc_approve, od_approve, .func (PySem.W.fnOf "approve" "approve" (defArgs s_approve) (defBody s_approve) (defScope s_approve) .none kV_approve dc_approve pm_approve an_approve cd_approve ct_approve), sl_approve⟩)
    (c_approve : PySem.W.codeIn K cd_approve "approve" = true)
    (k_approve : PySem.W.keepIn K (.ref p_approve) = true)
    (a_withdraw : PySem.W.nsIn K mainGlobals "withdraw" = some (some (.ref p_withdraw)))
    (l_withdraw : K.lookup p_withdraw = some ⟨oc_withdraw, od_withdraw, .func (PySem.W.fnOf "withdraw" "withdraw" (defArgs s_withdraw) (defBody s_withdraw) (defScope s_withdraw) .none kV_withdraw dc_withdraw pm_withdraw an_withdraw cd_withdraw ct_withdraw), sl_withdraw⟩)
    (c_withdraw : PySem.W.codeIn K cd_withdraw "withdraw" = true)
    (k_withdraw : PySem.W.keepIn K (.ref p_withdraw) = true)
    (a_reject : PySem.W.nsIn K mainGlobals "reject" = some (some (.ref p_reject)))
    (l_reject : K.lookup p_reject = some ⟨oc_reject, od_reject, .func (PySem.W.fnOf "reject" "reject" (defArgs s_reject) (defBody s_reject) (defScope s_reject) .none kV_reject dc_reject pm_reject an_reject cd_reject ct_reject), sl_reject⟩)
    (c_reject : PySem.W.codeIn K cd_reject "reject" = true)
    (k_reject : PySem.W.keepIn K (.ref p_reject) = true)
    (a_advance : PySem.W.nsIn K mainGlobals "advance" = some (some (.ref p_advance)))
    (l_advance : K.lookup p_advance = some ⟨oc_advance, od_advance, .func (PySem.W.fnOf "advance" "advance" (defArgs s_advance) (defBody s_advance) (defScope s_advance) .none kV_advance dc_advance pm_advance an_advance cd_advance ct_advance), sl_advance⟩)
    (c_advance : PySem.W.codeIn K cd_advance "advance" = true)
    (k_advance : PySem.W.keepIn K (.ref p_advance) = true)
    (a_add_guard : PySem.W.nsIn K mainGlobals "add_guard" = some (some (.ref p_add_guard)))
    (l_add_guard : K.lookup p_add_guard = some ⟨oc_add_guard, od_add_guard, .func (PySem.W.fnOf "add_guard" "add_guard" (defArgs s_add_guard) (defBody s_add_guard) (defScope s_add_guard) .none kV_add_guard dc_add_guard pm_add_guard an_add_guard cd_add_guard ct_add_guard), sl_add_guard⟩)
    (c_add_guard : PySem.W.codeIn K cd_add_guard "add_guard" = true)
    (k_add_guard : PySem.W.keepIn K (.ref p_add_guard) = true)
    (a_remove_guard : PySem.W.nsIn K mainGlobals "remove_guard" = some (some (.ref p_remove_guard)))
    (l_remove_guard : K.lookup p_remove_guard = some ⟨oc_remove_guard, od_remove_guard, .func (PySem.W.fnOf "remove_guard" "remove_guard" (defArgs s_remove_guard) (defBody s_remove_guard) (defScope s_remove_guard) .none kV_remove_guard dc_remove_guard pm_remove_guard an_remove_guard cd_remove_guard ct_remove_guard), sl_remove_guard⟩)
    (c_remove_guard : PySem.W.codeIn K cd_remove_guard "remove_guard" = true)
    (k_remove_guard : PySem.W.keepIn K (.ref p_remove_guard) = true)
    (a_report : PySem.W.nsIn K mainGlobals "report" = some (some (.ref p_report)))
    (l_report : K.lookup p_report = some ⟨oc_report, od_report, .func (PySem.W.fnOf "report" "report" (defArgs s_report) (defBody s_report) (defScope s_report) .none kV_report dc_report pm_report an_report cd_report ct_report), sl_report⟩)
    (c_report : PySem.W.codeIn K cd_report "report" = true)
    (k_report : PySem.W.keepIn K (.ref p_report) = true)
    (a_revert : PySem.W.nsIn K mainGlobals "revert" = some (some (.ref p_revert)))
    (l_revert : K.lookup p_revert = some ⟨oc_revert, od_revert, .func (PySem.W.fnOf "revert" "revert" (defArgs s_revert) (defBody s_revert) (defScope s_revert) .none kV_revert dc_revert pm_revert an_revert cd_revert ct_revert), sl_revert⟩)
    (c_revert : PySem.W.codeIn K cd_revert "revert" = true)
    (k_revert : PySem.W.keepIn K (.ref p_revert) = true)
    (a_asked : PySem.W.nsIn K mainGlobals "asked" = some (some (.ref p_asked)))
    (l_asked : K.lookup p_asked = some ⟨oc_asked, od_asked, .func (PySem.W.fnOf "asked" "asked" (defArgs s_asked) (defBody s_asked) (defScope s_asked) .none kV_asked dc_asked pm_asked an_asked cd_asked ct_asked), sl_asked⟩)
    (c_asked : PySem.W.codeIn K cd_asked "asked" = true)
    (k_asked : PySem.W.keepIn K (.ref p_asked) = true)
    (a_done : PySem.W.nsIn K mainGlobals "done" = some (some (.ref p_done)))
    (l_done : K.lookup p_done = some ⟨oc_done, od_done, .func (PySem.W.fnOf "done" "done" (defArgs s_done) (defBody s_done) (defScope s_done) .none kV_done dc_done pm_done an_done cd_done ct_done), sl_done⟩)
    (c_done : PySem.W.codeIn K cd_done "done" = true)
    (k_done : PySem.W.keepIn K (.ref p_done) = true)
    (a_rows_at : PySem.W.nsIn K mainGlobals "rows_at" = some (some (.ref p_rows_at)))
    (l_rows_at : K.lookup p_rows_at = some ⟨oc_rows_at, od_rows_at, .func (PySem.W.fnOf "rows_at" "rows_at" (defArgs s_rows_at) (defBody s_rows_at) (defScope s_rows_at) .none kV_rows_at dc_rows_at pm_rows_at an_rows_at cd_rows_at ct_rows_at), sl_rows_at⟩)
    (c_rows_at : PySem.W.codeIn K cd_rows_at "rows_at" = true)
    (k_rows_at : PySem.W.keepIn K (.ref p_rows_at) = true)
    (a_answers : PySem.W.nsIn K mainGlobals "answers" = some (some (.ref p_answers)))
    (l_answers : K.lookup p_answers = some ⟨oc_answers, od_answers, .func (PySem.W.fnOf "answers" "answers" (defArgs s_answers) (defBody s_answers) (defScope s_answers) .none kV_answers dc_answers pm_answers an_answers cd_answers ct_answers), sl_answers⟩)
    (c_answers : PySem.W.codeIn K cd_answers "answers" = true)
    (k_answers : PySem.W.keepIn K (.ref p_answers) = true)
    (n_CP : PySem.W.nsIn K mainGlobals "Platform" = some (some (.ref CP)))
    (pg_CP : PySem.W.plainGet K CP Str.empty = true)
    (hd_CP : PySem.W.hasDictIn K CP = true)
    (po_CP : PySem.W.plainOver K CP = true)
    (sa_CP : PySem.W.findIn K (.ref CP) "__setattr__" = some (some (.builtin "object.__setattr__")))
    (mk_CP : PySem.W.makesIn K CP = true)
    (kc_CP : PySem.W.keepIn K (.ref CP) = true)
    (n_CQ : PySem.W.nsIn K mainGlobals "Proposal" = some (some (.ref CQ)))
    (pg_CQ : PySem.W.plainGet K CQ Str.empty = true)
    (hd_CQ : PySem.W.hasDictIn K CQ = true)
    (po_CQ : PySem.W.plainOver K CQ = true)
    (sa_CQ : PySem.W.findIn K (.ref CQ) "__setattr__" = some (some (.builtin "object.__setattr__")))
    (mk_CQ : PySem.W.makesIn K CQ = true)
    (kc_CQ : PySem.W.keepIn K (.ref CQ) = true)
    (nP_people : PySem.W.findIn K (.ref CP) "people" = some none)
    (nP_clock : PySem.W.findIn K (.ref CP) "clock" = some none)
    (nP_settings : PySem.W.findIn K (.ref CP) "settings" = some none)
    (nP_classes : PySem.W.findIn K (.ref CP) "classes" = some none)
    (nP_needs : PySem.W.findIn K (.ref CP) "needs" = some none)
    (nP_own_counts : PySem.W.findIn K (.ref CP) "own_counts" = some none)
    (nP_freezes : PySem.W.findIn K (.ref CP) "freezes" = some none)
    (nP_proposals : PySem.W.findIn K (.ref CP) "proposals" = some none)
    (nP_guards : PySem.W.findIn K (.ref CP) "guards" = some none)
    (nP_log : PySem.W.findIn K (.ref CP) "log" = some none)
    (nP_past : PySem.W.findIn K (.ref CP) "past" = some none)
    (nQ_author : PySem.W.findIn K (.ref CQ) "author" = some none)
    (nQ_time : PySem.W.findIn K (.ref CQ) "time" = some none)
    (nQ_changes : PySem.W.findIn K (.ref CQ) "changes" = some none)
    (nQ_approvals : PySem.W.findIn K (.ref CQ) "approvals" = some none)
    (nQ_status : PySem.W.findIn K (.ref CQ) "status" = some none)
    (nQ_end : PySem.W.findIn K (.ref CQ) "end" = some none)
    (nQ_before : PySem.W.findIn K (.ref CQ) "before" = some none)
    (a_Pro_init : PySem.W.findIn K (.ref CQ) "__init__" = some (some (.ref p_Pro_init)))
    (i_Pro_init : PySem.W.isFn K (.ref p_Pro_init) = true)
    (l_Pro_init : K.lookup p_Pro_init = some ⟨oc_Pro_init, od_Pro_init, .func (PySem.W.fnOf "__init__" "Proposal.__init__" (defArgs s_Pro_init) (defBody s_Pro_init) (defScope s_Pro_init) .none kV_Pro_init dc_Pro_init pm_Pro_init an_Pro_init cd_Pro_init ct_Pro_init), sl_Pro_init⟩)
    (c_Pro_init : PySem.W.codeIn K cd_Pro_init "Proposal.__init__" = true)
    (k_Pro_init : PySem.W.keepIn K (.ref p_Pro_init) = true)
    (a_Pro_finish : PySem.W.findIn K (.ref CQ) "finish" = some (some (.ref p_Pro_finish)))
    (i_Pro_finish : PySem.W.isFn K (.ref p_Pro_finish) = true)
    (l_Pro_finish : K.lookup p_Pro_finish = some ⟨oc_Pro_finish, od_Pro_finish, .func (PySem.W.fnOf "finish" "Proposal.finish" (defArgs s_Pro_finish) (defBody s_Pro_finish) (defScope s_Pro_finish) .none kV_Pro_finish dc_Pro_finish pm_Pro_finish an_Pro_finish cd_Pro_finish ct_Pro_finish), sl_Pro_finish⟩)
    (c_Pro_finish : PySem.W.codeIn K cd_Pro_finish "Proposal.finish" = true)
    (k_Pro_finish : PySem.W.keepIn K (.ref p_Pro_finish) = true)
    (a_Pro_described : PySem.W.findIn K (.ref CQ) "described" = some (some (.ref p_Pro_described)))
    (i_Pro_described : PySem.W.isFn K (.ref p_Pro_described) = true)
    (l_Pro_described : K.lookup p_Pro_described = some ⟨oc_Pro_described, od_Pro_described, .func (PySem.W.fnOf "described" "Proposal.described" (defArgs s_Pro_described) (defBody s_Pro_described) (defScope s_Pro_described) .none kV_Pro_described dc_Pro_described pm_Pro_described an_Pro_described cd_Pro_described ct_Pro_described), sl_Pro_described⟩)
    (c_Pro_described : PySem.W.codeIn K cd_Pro_described "Proposal.described" = true)
    (k_Pro_described : PySem.W.keepIn K (.ref p_Pro_described) = true)
    (a_Pla_init : PySem.W.findIn K (.ref CP) "__init__" = some (some (.ref p_Pla_init)))
    (i_Pla_init : PySem.W.isFn K (.ref p_Pla_init) = true)
    (l_Pla_init : K.lookup p_Pla_init = some ⟨oc_Pla_init, od_Pla_init, .func (PySem.W.fnOf "__init__" "Platform.__init__" (defArgs s_Pla_init) (defBody s_Pla_init) (defScope s_Pla_init) .none kV_Pla_init dc_Pla_init pm_Pla_init an_Pla_init cd_Pla_init ct_Pla_init), sl_Pla_init⟩)
    (c_Pla_init : PySem.W.codeIn K cd_Pla_init "Platform.__init__" = true)
    (k_Pla_init : PySem.W.keepIn K (.ref p_Pla_init) = true)
    (a_Pla_is_frozen : PySem.W.findIn K (.ref CP) "is_frozen" = some (some (.ref p_Pla_is_frozen)))
    (i_Pla_is_frozen : PySem.W.isFn K (.ref p_Pla_is_frozen) = true)
    (l_Pla_is_frozen : K.lookup p_Pla_is_frozen = some ⟨oc_Pla_is_frozen, od_Pla_is_frozen, .func (PySem.W.fnOf "is_frozen" "Platform.is_frozen" (defArgs s_Pla_is_frozen) (defBody s_Pla_is_frozen) (defScope s_Pla_is_frozen) .none kV_Pla_is_frozen dc_Pla_is_frozen pm_Pla_is_frozen an_Pla_is_frozen cd_Pla_is_frozen ct_Pla_is_frozen), sl_Pla_is_frozen⟩)
    (c_Pla_is_frozen : PySem.W.codeIn K cd_Pla_is_frozen "Platform.is_frozen" = true)
    (k_Pla_is_frozen : PySem.W.keepIn K (.ref p_Pla_is_frozen) = true)
    (a_Pla_note : PySem.W.findIn K (.ref CP) "note" = some (some (.ref p_Pla_note)))
    (i_Pla_note : PySem.W.isFn K (.ref p_Pla_note) = true)
    (l_Pla_note : K.lookup p_Pla_note = some ⟨oc_Pla_note, od_Pla_note, .func (PySem.W.fnOf "note" "Platform.note" (defArgs s_Pla_note) (defBody s_Pla_note) (defScope s_Pla_note) .none kV_Pla_note dc_Pla_note pm_Pla_note an_Pla_note cd_Pla_note ct_Pla_note), sl_Pla_note⟩)
    (c_Pla_note : PySem.W.codeIn K cd_Pla_note "Platform.note" = true)
    (k_Pla_note : PySem.W.keepIn K (.ref p_Pla_note) = true)
    (a_Pla_assign : PySem.W.findIn K (.ref CP) "assign" = some (some (.ref p_Pla_assign)))
    (i_Pla_assign : PySem.W.isFn K (.ref p_Pla_assign) = true)
    (l_Pla_assign : K.lookup p_Pla_assign = some ⟨oc_Pla_assign, od_Pla_assign, .func (PySem.W.fnOf "assign" "Platform.assign" (defArgs s_Pla_assign) (defBody s_Pla_assign) (defScope s_Pla_assign) .none kV_Pla_assign dc_Pla_assign pm_Pla_assign an_Pla_assign cd_Pla_assign ct_Pla_assign), sl_Pla_assign⟩)
    (c_Pla_assign : PySem.W.codeIn K cd_Pla_assign "Platform.assign" = true)
    (k_Pla_assign : PySem.W.keepIn K (.ref p_Pla_assign) = true)
    (a_Pla_approvals_of : PySem.W.findIn K (.ref CP) "approvals_of" = some (some (.ref p_Pla_approvals_of)))
    (i_Pla_approvals_of : PySem.W.isFn K (.ref p_Pla_approvals_of) = true)
    (l_Pla_approvals_of : K.lookup p_Pla_approvals_of = some ⟨oc_Pla_approvals_of, od_Pla_approvals_of, .func (PySem.W.fnOf "approvals_of" "Platform.approvals_of" (defArgs s_Pla_approvals_of) (defBody s_Pla_approvals_of) (defScope s_Pla_approvals_of) .none kV_Pla_approvals_of dc_Pla_approvals_of pm_Pla_approvals_of an_Pla_approvals_of cd_Pla_approvals_of ct_Pla_approvals_of), sl_Pla_approvals_of⟩)
    (c_Pla_approvals_of : PySem.W.codeIn K cd_Pla_approvals_of "Platform.approvals_of" = true)
    (k_Pla_approvals_of : PySem.W.keepIn K (.ref p_Pla_approvals_of) = true)
    (a_Pla_fits : PySem.W.findIn K (.ref CP) "fits" = some (some (.ref p_Pla_fits)))
    (i_Pla_fits : PySem.W.isFn K (.ref p_Pla_fits) = true)
    (l_Pla_fits : K.lookup p_Pla_fits = some ⟨oc_Pla_fits, od_Pla_fits, .func (PySem.W.fnOf "fits" "Platform.fits" (defArgs s_Pla_fits) (defBody s_Pla_fits) (defScope s_Pla_fits) .none kV_Pla_fits dc_Pla_fits pm_Pla_fits an_Pla_fits cd_Pla_fits ct_Pla_fits), sl_Pla_fits⟩)
    (c_Pla_fits : PySem.W.codeIn K cd_Pla_fits "Platform.fits" = true)
    (k_Pla_fits : PySem.W.keepIn K (.ref p_Pla_fits) = true)
    (a_Pla_try_out : PySem.W.findIn K (.ref CP) "try_out" = some (some (.ref p_Pla_try_out)))
    (i_Pla_try_out : PySem.W.isFn K (.ref p_Pla_try_out) = true)
    (l_Pla_try_out : K.lookup p_Pla_try_out = some ⟨oc_Pla_try_out, od_Pla_try_out, .func (PySem.W.fnOf "try_out" "Platform.try_out" (defArgs s_Pla_try_out) (defBody s_Pla_try_out) (defScope s_Pla_try_out) .none kV_Pla_try_out dc_Pla_try_out pm_Pla_try_out an_Pla_try_out cd_Pla_try_out ct_Pla_try_out), sl_Pla_try_out⟩)
    (c_Pla_try_out : PySem.W.codeIn K cd_Pla_try_out "Platform.try_out" = true)
    (k_Pla_try_out : PySem.W.keepIn K (.ref p_Pla_try_out) = true)
    (a_Pla_settle : PySem.W.findIn K (.ref CP) "settle" = some (some (.ref p_Pla_settle)))
    (i_Pla_settle : PySem.W.isFn K (.ref p_Pla_settle) = true)
    (l_Pla_settle : K.lookup p_Pla_settle = some ⟨oc_Pla_settle, od_Pla_settle, .func (PySem.W.fnOf "settle" "Platform.settle" (defArgs s_Pla_settle) (defBody s_Pla_settle) (defScope s_Pla_settle) .none kV_Pla_settle dc_Pla_settle pm_Pla_settle an_Pla_settle cd_Pla_settle ct_Pla_settle), sl_Pla_settle⟩)
    (c_Pla_settle : PySem.W.codeIn K cd_Pla_settle "Platform.settle" = true)
    (k_Pla_settle : PySem.W.keepIn K (.ref p_Pla_settle) = true)
    (a_Pla_put_proposal : PySem.W.findIn K (.ref CP) "put_proposal" = some (some (.ref p_Pla_put_proposal)))
    (i_Pla_put_proposal : PySem.W.isFn K (.ref p_Pla_put_proposal) = true)
    (l_Pla_put_proposal : K.lookup p_Pla_put_proposal = some ⟨oc_Pla_put_proposal, od_Pla_put_proposal, .func (PySem.W.fnOf "put_proposal" "Platform.put_proposal" (defArgs s_Pla_put_proposal) (defBody s_Pla_put_proposal) (defScope s_Pla_put_proposal) .none kV_Pla_put_proposal dc_Pla_put_proposal pm_Pla_put_proposal an_Pla_put_proposal cd_Pla_put_proposal ct_Pla_put_proposal), sl_Pla_put_proposal⟩)
    (c_Pla_put_proposal : PySem.W.codeIn K cd_Pla_put_proposal "Platform.put_proposal" = true)
    (k_Pla_put_proposal : PySem.W.keepIn K (.ref p_Pla_put_proposal) = true)
    (a_Pla_count_status : PySem.W.findIn K (.ref CP) "count_status" = some (some (.ref p_Pla_count_status)))
    (i_Pla_count_status : PySem.W.isFn K (.ref p_Pla_count_status) = true)
    (l_Pla_count_status : K.lookup p_Pla_count_status = some ⟨oc_Pla_count_status, od_Pla_count_status, .func (PySem.W.fnOf "count_status" "Platform.count_status" (defArgs s_Pla_count_status) (defBody s_Pla_count_status) (defScope s_Pla_count_status) .none kV_Pla_count_status dc_Pla_count_status pm_Pla_count_status an_Pla_count_status cd_Pla_count_status ct_Pla_count_status), sl_Pla_count_status⟩)
    (c_Pla_count_status : PySem.W.codeIn K cd_Pla_count_status "Platform.count_status" = true)
    (k_Pla_count_status : PySem.W.keepIn K (.ref p_Pla_count_status) = true)
    (a_Pla_value_at : PySem.W.findIn K (.ref CP) "value_at" = some (some (.ref p_Pla_value_at)))
    (i_Pla_value_at : PySem.W.isFn K (.ref p_Pla_value_at) = true)
    (l_Pla_value_at : K.lookup p_Pla_value_at = some ⟨oc_Pla_value_at, od_Pla_value_at, .func (PySem.W.fnOf "value_at" "Platform.value_at" (defArgs s_Pla_value_at) (defBody s_Pla_value_at) (defScope s_Pla_value_at) .none kV_Pla_value_at dc_Pla_value_at pm_Pla_value_at an_Pla_value_at cd_Pla_value_at ct_Pla_value_at), sl_Pla_value_at⟩)
    (c_Pla_value_at : PySem.W.codeIn K cd_Pla_value_at "Platform.value_at" = true)
    (k_Pla_value_at : PySem.W.keepIn K (.ref p_Pla_value_at) = true)
    (a_Pla_report : PySem.W.findIn K (.ref CP) "report" = some (some (.ref p_Pla_report)))
    (i_Pla_report : PySem.W.isFn K (.ref p_Pla_report) = true)
    (l_Pla_report : K.lookup p_Pla_report = some ⟨oc_Pla_report, od_Pla_report, .func (PySem.W.fnOf "report" "Platform.report" (defArgs s_Pla_report) (defBody s_Pla_report) (defScope s_Pla_report) .none kV_Pla_report dc_Pla_report pm_Pla_report an_Pla_report cd_Pla_report ct_Pla_report), sl_Pla_report⟩)
    (c_Pla_report : PySem.W.codeIn K cd_Pla_report "Platform.report" = true)
    (k_Pla_report : PySem.W.keepIn K (.ref p_Pla_report) = true)
    (a_Pla_next_open : PySem.W.findIn K (.ref CP) "next_open" = some (some (.ref p_Pla_next_open)))
    (i_Pla_next_open : PySem.W.isFn K (.ref p_Pla_next_open) = true)
    (l_Pla_next_open : K.lookup p_Pla_next_open = some ⟨oc_Pla_next_open, od_Pla_next_open, .func (PySem.W.fnOf "next_open" "Platform.next_open" (defArgs s_Pla_next_open) (defBody s_Pla_next_open) (defScope s_Pla_next_open) .none kV_Pla_next_open dc_Pla_next_open pm_Pla_next_open an_Pla_next_open cd_Pla_next_open ct_Pla_next_open), sl_Pla_next_open⟩)
    (c_Pla_next_open : PySem.W.codeIn K cd_Pla_next_open "Platform.next_open" = true)
    (k_Pla_next_open : PySem.W.keepIn K (.ref p_Pla_next_open) = true)
    (b_len : PySem.W.nsIn K mainGlobals "len" = some none)
    (b_max : PySem.W.nsIn K mainGlobals "max" = some none)
    (b_min : PySem.W.nsIn K mainGlobals "min" = some none)
    (b_all : PySem.W.nsIn K mainGlobals "all" = some none)
    (b_list : PySem.W.nsIn K mainGlobals "list" = some none)
    (b_range : PySem.W.nsIn K mainGlobals "range" = some none)
    (b_enumerate : PySem.W.nsIn K mainGlobals "enumerate" = some none)
    (b_zip : PySem.W.nsIn K mainGlobals "zip" = some none)
    (b_reversed : PySem.W.nsIn K mainGlobals "reversed" = some none)
    (g_MASK : PySem.W.nsIn K mainGlobals "MASK" = some (some (.int 18446744073709551615 tg_MASK)))
    (g_BEGIN : PySem.W.nsIn K mainGlobals "BEGIN" = some (some (.int 14695981039346656037 tg_BEGIN)))
    (g_PRIME : PySem.W.nsIn K mainGlobals "PRIME" = some (some (.int 1099511628211 tg_PRIME)))
    (g_FIRST : PySem.W.nsIn K mainGlobals "FIRST" = some (some (.int 18397679294719823053 tg_FIRST)))
    (g_SECOND : PySem.W.nsIn K mainGlobals "SECOND" = some (some (.int 14181476777654086739 tg_SECOND)))
    (g_OPEN : PySem.W.nsIn K mainGlobals "OPEN" = some (some (.int 0 tg_OPEN)))
    (g_APPLIED : PySem.W.nsIn K mainGlobals "APPLIED" = some (some (.int 1 tg_APPLIED)))
    (g_REJECTED : PySem.W.nsIn K mainGlobals "REJECTED" = some (some (.int 2 tg_REJECTED)))
    (g_FAILED : PySem.W.nsIn K mainGlobals "FAILED" = some (some (.int 3 tg_FAILED)))
    (g_ANY : PySem.W.nsIn K mainGlobals "ANY" = some (some (.int 1001 tg_ANY)))
    (g_MOST_KEY : PySem.W.nsIn K mainGlobals "MOST_KEY" = some (some (.int 15 tg_MOST_KEY)))
    (g_MOST_VALUE : PySem.W.nsIn K mainGlobals "MOST_VALUE" = some (some (.int 1000 tg_MOST_VALUE)))
    (g_MOST_CHANGES : PySem.W.nsIn K mainGlobals "MOST_CHANGES" = some (some (.int 4 tg_MOST_CHANGES)))
    (g_SETTINGS : PySem.W.nsIn K mainGlobals "SETTINGS" = some (some (.int 16 tg_SETTINGS)))
    (g_CLASSES : PySem.W.nsIn K mainGlobals "CLASSES" = some (some (.int 4 tg_CLASSES)))
    (g_GUARD : PySem.W.nsIn K mainGlobals "GUARD" = some (some (.int 255 tg_GUARD)))
    (g_WEEK : PySem.W.nsIn K mainGlobals "WEEK" = some (some (.int 168 tg_WEEK)))
    (g_MOST_TIME_asking : PySem.W.nsIn K mainGlobals "MOST_TIME_asking" = some (some (.int 100000 tg_MOST_TIME_asking)))
    (g_MOST_COUNT : PySem.W.nsIn K mainGlobals "MOST_COUNT" = some (some (.int 1000 tg_MOST_COUNT)))
    (g_MOST_QUARTER : PySem.W.nsIn K mainGlobals "MOST_QUARTER" = some (some (.int 65535 tg_MOST_QUARTER)))
    (g_MOST_TIME_changing : PySem.W.nsIn K mainGlobals "MOST_TIME_changing" = some (some (.int 100000 tg_MOST_TIME_changing)))
    (g_MOST_HOURS : PySem.W.nsIn K mainGlobals "MOST_HOURS" = some (some (.int 200 tg_MOST_HOURS)))
    (g_MOST_ROWS : PySem.W.nsIn K mainGlobals "MOST_ROWS" = some (some (.int 8 tg_MOST_ROWS)))
    (g_MOST_PROPOSALS : PySem.W.nsIn K mainGlobals "MOST_PROPOSALS" = some (some (.int 20 tg_MOST_PROPOSALS)))
    (g_METRICS : PySem.W.nsIn K mainGlobals "METRICS" = some (some (.int 8 tg_METRICS)))
    (g_MOST_PEOPLE : PySem.W.nsIn K mainGlobals "MOST_PEOPLE" = some (some (.int 8 tg_MOST_PEOPLE)))
    (g_NUMBERS : PySem.W.nsIn K mainGlobals "NUMBERS" = some (some (.ref nb)))
    (g_LISTS : PySem.W.nsIn K mainGlobals "LISTS" = some (some (.ref dL)))
    (g_CHANGES : PySem.W.nsIn K mainGlobals "CHANGES" = some (some (.ref dC)))
    (lN : K.lookup nb = some ⟨.type "tuple", none, .seq iN nN, #[]⟩)
    (qN : iN = #[.int 1 tn0, .int 3 tn1, .int 2 tn2, .int 3 tn3, .int 1 tn4, .int 2 tn5, .int 2 tn6, .int 2 tn7, .int 2 tn8, .int 1 tn9, .int 5 tn10, .int 1 tn11, .int 2 tn12, .int 3 tn13, .int 1 tn14, .int 2 tn15, .int 1 tn16, .int 1 tn17, .int 1 tn18, .int 1 tn19, .int 1 tn20, .int 1 tn21, .int 1 tn22, .int 1 tn23, .int 2 tn24, .int 2 tn25, .int 0 tn26])
    (lL : K.lookup dL = some ⟨.type "dict", none, .dict eL nL, #[]⟩)
    (qL : eL = mkE [(5, tl0, .int 1 tl1), (25, tl2, .int 3 tl3)])
    (lC : K.lookup dC = some ⟨.type "dict", none, .dict eC nC, #[]⟩)
    (qC : eC = mkE [(1, tc1, .ref p_set_rule), (2, tc2, .ref p_set_class), (3, tc3, .ref p_add_freeze), (4, tc4, .ref p_remove_freeze), (6, tc6, .ref p_approve), (7, tc7, .ref p_withdraw), (8, tc8, .ref p_reject), (9, tc9, .ref p_advance), (10, tc10, .ref p_add_guard), (11, tc11, .ref p_remove_guard), (12, tc12, .ref p_report), (13, tc13, .ref p_revert)])
    (wL : (dL == sysModules) = false)
    (wC : (dC == sysModules) = false)
    (inj : [p_set_rule, p_set_class, p_add_freeze, p_remove_freeze, p_approve, p_withdraw, p_reject, p_advance, p_add_guard, p_remove_guard, p_report, p_revert].Nodup)
    : ∃ fd : FuncData, (∀ (s : Shared) (us : List Value), us.length = (["calls"] : List Str).length → BindsTo s fd ⟨us, []⟩ ((["calls"] : List Str).zip us)) ∧ ∀ base : Heap, K.In base → base.Ns mainGlobals mg → FnOk P w K mg base CX0 38 fa fd ["calls"] (spAns K) := by
  have e := hfa.symm.trans (PySem.W.mg_of X G a_answers)
  cases e
  subst qN qL qC
  have T : Txt P w K mg ⟨CP, CQ, dL, dC, nb⟩ := {
    len := PySem.W.mg_none_of X G b_len
    max := PySem.W.mg_none_of X G b_max
    min := PySem.W.mg_none_of X G b_min
    all := PySem.W.mg_none_of X G b_all
    list := PySem.W.mg_none_of X G b_list
    range := PySem.W.mg_none_of X G b_range
    enumerate := PySem.W.mg_none_of X G b_enumerate
    zip := PySem.W.mg_none_of X G b_zip
    reversed := PySem.W.mg_none_of X G b_reversed
    g_MASK := ⟨_, PySem.W.mg_of X G g_MASK, _, rfl⟩
    g_BEGIN := ⟨_, PySem.W.mg_of X G g_BEGIN, _, rfl⟩
    g_PRIME := ⟨_, PySem.W.mg_of X G g_PRIME, _, rfl⟩
    g_FIRST := ⟨_, PySem.W.mg_of X G g_FIRST, _, rfl⟩
    g_SECOND := ⟨_, PySem.W.mg_of X G g_SECOND, _, rfl⟩
    g_OPEN := ⟨_, PySem.W.mg_of X G g_OPEN, _, rfl⟩
    g_APPLIED := ⟨_, PySem.W.mg_of X G g_APPLIED, _, rfl⟩
    g_REJECTED := ⟨_, PySem.W.mg_of X G g_REJECTED, _, rfl⟩
    g_FAILED := ⟨_, PySem.W.mg_of X G g_FAILED, _, rfl⟩
    g_ANY := ⟨_, PySem.W.mg_of X G g_ANY, _, rfl⟩
    g_MOST_KEY := ⟨_, PySem.W.mg_of X G g_MOST_KEY, _, rfl⟩
    g_MOST_VALUE := ⟨_, PySem.W.mg_of X G g_MOST_VALUE, _, rfl⟩
    g_MOST_CHANGES := ⟨_, PySem.W.mg_of X G g_MOST_CHANGES, _, rfl⟩
    g_SETTINGS := ⟨_, PySem.W.mg_of X G g_SETTINGS, _, rfl⟩
    g_CLASSES := ⟨_, PySem.W.mg_of X G g_CLASSES, _, rfl⟩
    g_GUARD := ⟨_, PySem.W.mg_of X G g_GUARD, _, rfl⟩
    g_WEEK := ⟨_, PySem.W.mg_of X G g_WEEK, _, rfl⟩
    g_MOST_TIME_asking := ⟨_, PySem.W.mg_of X G g_MOST_TIME_asking, _, rfl⟩
    g_MOST_COUNT := ⟨_, PySem.W.mg_of X G g_MOST_COUNT, _, rfl⟩
    g_MOST_QUARTER := ⟨_, PySem.W.mg_of X G g_MOST_QUARTER, _, rfl⟩
    g_MOST_TIME_changing := ⟨_, PySem.W.mg_of X G g_MOST_TIME_changing, _, rfl⟩
    g_MOST_HOURS := ⟨_, PySem.W.mg_of X G g_MOST_HOURS, _, rfl⟩
    g_MOST_ROWS := ⟨_, PySem.W.mg_of X G g_MOST_ROWS, _, rfl⟩
    g_MOST_PROPOSALS := ⟨_, PySem.W.mg_of X G g_MOST_PROPOSALS, _, rfl⟩
    g_METRICS := ⟨_, PySem.W.mg_of X G g_METRICS, _, rfl⟩
    g_MOST_PEOPLE := ⟨_, PySem.W.mg_of X G g_MOST_PEOPLE, _, rfl⟩
    g_NUMBERS := ⟨_, PySem.W.mg_of X G g_NUMBERS, rfl⟩
    g_LISTS := ⟨_, PySem.W.mg_of X G g_LISTS, rfl⟩
    g_CHANGES := ⟨_, PySem.W.mg_of X G g_CHANGES, rfl⟩
    sqN := fun H => .inr ⟨_, _, nN, lN, rfl, rfl, by show 27 ≤ sizeLine; decide, .cons ⟨_, rfl⟩ (.cons ⟨_, rfl⟩ (.cons ⟨_, rfl⟩ (.cons ⟨_, rfl⟩ (.cons ⟨_, rfl⟩ (.cons ⟨_, rfl⟩ (.cons ⟨_, rfl⟩ (.cons ⟨_, rfl⟩ (.cons ⟨_, rfl⟩ (.cons ⟨_, rfl⟩ (.cons ⟨_, rfl⟩ (.cons ⟨_, rfl⟩ (.cons ⟨_, rfl⟩ (.cons ⟨_, rfl⟩ (.cons ⟨_, rfl⟩ (.cons ⟨_, rfl⟩ (.cons ⟨_, rfl⟩ (.cons ⟨_, rfl⟩ (.cons ⟨_, rfl⟩ (.cons ⟨_, rfl⟩ (.cons ⟨_, rfl⟩ (.cons ⟨_, rfl⟩ (.cons ⟨_, rfl⟩ (.cons ⟨_, rfl⟩ (.cons ⟨_, rfl⟩ (.cons ⟨_, rfl⟩ (.cons ⟨_, rfl⟩ (.nil)))))))))))))))))))))))))))⟩
    kdL := kdi_mk (vs := [(.inl 5, .int 1 tl1), (.inl 25, .int 3 tl3)]) lL wL (.cons ⟨rfl, _, rfl⟩ (.cons ⟨rfl, _, rfl⟩ .nil)) (mkE_keys _) (mkE_pairs _) (by show [(.inl 5 : Key), .inl 25].Nodup; decide)
    clP := ⟨pg_CP, hd_CP, po_CP, sa_CP⟩
    clQ := ⟨pg_CQ, hd_CQ, po_CQ, sa_CQ⟩
    nP_people := nP_people
    nP_clock := nP_clock
    nP_settings := nP_settings
    nP_classes := nP_classes
    nP_needs := nP_needs
    nP_own_counts := nP_own_counts
    nP_freezes := nP_freezes
    nP_proposals := nP_proposals
    nP_guards := nP_guards
    nP_log := nP_log
    nP_past := nP_past
    nQ_author := nQ_author
    nQ_time := nQ_time
    nQ_changes := nQ_changes
    nQ_approvals := nQ_approvals
    nQ_status := nQ_status
    nQ_end := nQ_end
    nQ_before := nQ_before }
  have kd : KDi K P w dC (kChanges (faOf p_set_rule p_set_class p_add_freeze p_remove_freeze p_approve p_withdraw p_reject p_advance p_add_guard p_remove_guard p_report p_revert)) := kdi_mk (vs := [(.inl 1, .ref p_set_rule), (.inl 2, .ref p_set_class), (.inl 3, .ref p_add_freeze), (.inl 4, .ref p_remove_freeze), (.inl 6, .ref p_approve), (.inl 7, .ref p_withdraw), (.inl 8, .ref p_reject), (.inl 9, .ref p_advance), (.inl 10, .ref p_add_guard), (.inl 11, .ref p_remove_guard), (.inl 12, .ref p_report), (.inl 13, .ref p_revert)]) lC wC (.cons ⟨rfl, rfl⟩ (.cons ⟨rfl, rfl⟩ (.cons ⟨rfl, rfl⟩ (.cons ⟨rfl, rfl⟩ (.cons ⟨rfl, rfl⟩ (.cons ⟨rfl, rfl⟩ (.cons ⟨rfl, rfl⟩ (.cons ⟨rfl, rfl⟩ (.cons ⟨rfl, rfl⟩ (.cons ⟨rfl, rfl⟩ (.cons ⟨rfl, rfl⟩ (.cons ⟨rfl, rfl⟩ (.nil))))))))))))) (mkE_keys _) (mkE_pairs _) (by show [(.inl 1 : Key), (.inl 2 : Key), (.inl 3 : Key), (.inl 4 : Key), (.inl 6 : Key), (.inl 7 : Key), (.inl 8 : Key), (.inl 9 : Key), (.inl 10 : Key), (.inl 11 : Key), (.inl 12 : Key), (.inl 13 : Key)].Nodup; decide)
  have hinj : ∀ j ∈ ops, ∀ k ∈ ops, faOf p_set_rule p_set_class p_add_freeze p_remove_freeze p_approve p_withdraw p_reject p_advance p_add_guard p_remove_guard p_report p_revert j = faOf p_set_rule p_set_class p_add_freeze p_remove_freeze p_approve p_withdraw p_reject p_advance p_add_guard p_remove_guard p_report p_revert k → j = k := fun j hj k hk e => by
    obtain ⟨a, ha⟩ := List.getElem?_of_mem hj
    obtain ⟨c, hc⟩ := List.getElem?_of_mem hk
    have em : ops.map (faOf p_set_rule p_set_class p_add_freeze p_remove_freeze p_approve p_withdraw p_reject p_advance p_add_guard p_remove_guard p_report p_revert) = [p_set_rule, p_set_class, p_add_freeze, p_remove_freeze, p_approve, p_withdraw, p_reject, p_advance, p_add_guard, p_remove_guard, p_report, p_revert] := rfl
    have la := len_at ha
    have z := (List.getElem?_inj (i := a) (j := c) (by rw [← em, List.length_map]; exact la) inj).mp (by rw [← em, List.getElem?_map, List.getElem?_map, ha, hc]; exact congrArg some e)
    rw [z, hc] at ha
    exact (Option.some.inj ha).symm
  have FA := fun_mk (st := s_answers) l_answers c_answers k_answers
  refine ⟨PySem.W.fnOf "answers" "answers" (defArgs s_answers) (defBody s_answers) (defScope s_answers) .none kV_answers dc_answers pm_answers an_answers cd_answers ct_answers, fun s us hu => match us, hu with | [_], _ => .of_eq rfl, fun base _ _ => ok_all (A := ⟨CP, CQ, dL, dC, nb⟩) FA T kd hinj (PySem.W.mg_of X G a_set_rule) (PySem.W.mg_of X G a_set_class) (PySem.W.mg_of X G a_add_freeze) (PySem.W.mg_of X G a_remove_freeze) (PySem.W.mg_of X G a_approve) (PySem.W.mg_of X G a_withdraw) (PySem.W.mg_of X G a_reject) (PySem.W.mg_of X G a_advance) (PySem.W.mg_of X G a_add_guard) (PySem.W.mg_of X G a_remove_guard) (PySem.W.mg_of X G a_report) (PySem.W.mg_of X G a_revert)
    (at_mk X G a_hash_of l_hash_of c_hash_of k_hash_of fun _ _ _ _ _ _ us hl => match us, hl with | [_], _ => rfl)
    (at_mk X G a_bytes_of l_bytes_of c_bytes_of k_bytes_of fun _ _ _ _ _ _ us hl => match us, hl with | [_, _], _ => rfl)
    (at_mk X G a_leaf_of l_leaf_of c_leaf_of k_leaf_of fun _ _ _ _ _ _ us hl => match us, hl with | [_], _ => rfl)
    (at_mk X G a_node_of l_node_of c_node_of k_node_of fun _ _ _ _ _ _ us hl => match us, hl with | [_, _], _ => rfl)
    (at_mk X G a_quarters_of l_quarters_of c_quarters_of k_quarters_of fun _ _ _ _ _ _ us hl => match us, hl with | [_], _ => rfl)
    (at_mk X G a_from_quarters l_from_quarters c_from_quarters k_from_quarters fun _ _ _ _ _ _ us hl => match us, hl with | [_], _ => rfl)
    (at_mk X G a_changes_in l_changes_in c_changes_in k_changes_in fun _ _ _ _ _ _ us hl => match us, hl with | [_], _ => rfl)
    (at_mk X G a_parting l_parting c_parting k_parting fun _ _ _ _ _ _ us hl => match us, hl with | [_], _ => rfl)
    (at_mk X G a_root_of l_root_of c_root_of k_root_of fun _ _ _ _ _ _ us hl => match us, hl with | [_], _ => rfl)
    (at_mk X G a_proof_of l_proof_of c_proof_of k_proof_of fun _ _ _ _ _ _ us hl => match us, hl with | [_, _], _ => rfl)
    (at_mk X G a_result_of l_result_of c_result_of k_result_of fun _ _ _ _ _ _ us hl => match us, hl with | [_, _, _, _], _ => rfl)
    (at_mk X G a_about_setting l_about_setting c_about_setting k_about_setting fun _ _ _ _ _ _ us hl => match us, hl with | [_, _, _], _ => rfl)
    (at_mk X G a_about_proposal l_about_proposal c_about_proposal k_about_proposal fun _ _ _ _ _ _ us hl => match us, hl with | [_, _, _], _ => rfl)
    (at_mk X G a_about_time l_about_time c_about_time k_about_time fun _ _ _ _ _ _ us hl => match us, hl with | [_, _, _], _ => rfl)
    (at_mk X G a_leaves_of l_leaves_of c_leaves_of k_leaves_of fun _ _ _ _ _ _ us hl => match us, hl with | [_, _], _ => rfl)
    (at_mk X G a_about_log l_about_log c_about_log k_about_log fun _ _ _ _ _ _ us hl => match us, hl with | [_, _, _], _ => rfl)
    (at_mk X G a_are_quarters l_are_quarters c_are_quarters k_are_quarters fun _ _ _ _ _ _ us hl => match us, hl with | [_], _ => rfl)
    (at_mk X G a_verify l_verify c_verify k_verify fun _ _ _ _ _ _ us hl => match us, hl with | [_, _, _, _], _ => rfl)
    (at_mk X G a_summary l_summary c_summary k_summary fun _ _ _ _ _ _ us hl => match us, hl with | [_], _ => rfl)
    (at_mk X G a_set_rule l_set_rule c_set_rule k_set_rule fun _ _ _ _ _ _ us hl => match us, hl with | [_, _], _ => rfl)
    (at_mk X G a_set_class l_set_class c_set_class k_set_class fun _ _ _ _ _ _ us hl => match us, hl with | [_, _], _ => rfl)
    (at_mk X G a_add_freeze l_add_freeze c_add_freeze k_add_freeze fun _ _ _ _ _ _ us hl => match us, hl with | [_, _], _ => rfl)
    (at_mk X G a_remove_freeze l_remove_freeze c_remove_freeze k_remove_freeze fun _ _ _ _ _ _ us hl => match us, hl with | [_, _], _ => rfl)
    (at_mk X G a_propose l_propose c_propose k_propose fun _ _ _ _ _ _ us hl => match us, hl with | [_, _, _], _ => rfl)
    (at_mk X G a_refusal l_refusal c_refusal k_refusal fun _ _ _ _ _ _ us hl => match us, hl with | [_, _, _], _ => rfl)
    (at_mk X G a_approve l_approve c_approve k_approve fun _ _ _ _ _ _ us hl => match us, hl with | [_, _], _ => rfl)
    (at_mk X G a_withdraw l_withdraw c_withdraw k_withdraw fun _ _ _ _ _ _ us hl => match us, hl with | [_, _], _ => rfl)
    (at_mk X G a_reject l_reject c_reject k_reject fun _ _ _ _ _ _ us hl => match us, hl with | [_, _], _ => rfl)
    (at_mk X G a_advance l_advance c_advance k_advance fun _ _ _ _ _ _ us hl => match us, hl with | [_, _], _ => rfl)
    (at_mk X G a_add_guard l_add_guard c_add_guard k_add_guard fun _ _ _ _ _ _ us hl => match us, hl with | [_, _], _ => rfl)
    (at_mk X G a_remove_guard l_remove_guard c_remove_guard k_remove_guard fun _ _ _ _ _ _ us hl => match us, hl with | [_, _], _ => rfl)
    (at_mk X G a_report l_report c_report k_report fun _ _ _ _ _ _ us hl => match us, hl with | [_, _], _ => rfl)
    (at_mk X G a_revert l_revert c_revert k_revert fun _ _ _ _ _ _ us hl => match us, hl with | [_, _], _ => rfl)
    (at_mk X G a_asked l_asked c_asked k_asked fun _ _ _ _ _ _ us hl => match us, hl with | [_, _, _, _], _ => rfl)
    (at_mk X G a_done l_done c_done k_done fun _ _ _ _ _ _ us hl => match us, hl with | [_, _, _, _], _ => rfl)
    (at_mk X G a_rows_at l_rows_at c_rows_at k_rows_at fun _ _ _ _ _ _ us hl => match us, hl with | [_, _, _], _ => rfl)
    (ati_mk X G n_CQ mk_CQ kc_CQ a_Pro_init i_Pro_init l_Pro_init c_Pro_init k_Pro_init fun _ _ _ _ _ _ us hl => match us, hl with | [_, _, _, _], _ => rfl)
    (atm_mk a_Pro_finish i_Pro_finish l_Pro_finish c_Pro_finish k_Pro_finish fun _ _ _ _ _ _ us hl => match us, hl with | [_, _, _], _ => rfl)
    (atm_mk a_Pro_described i_Pro_described l_Pro_described c_Pro_described k_Pro_described fun _ _ _ _ _ _ us hl => match us, hl with | [_], _ => rfl)
    (ati_mk X G n_CP mk_CP kc_CP a_Pla_init i_Pla_init l_Pla_init c_Pla_init k_Pla_init fun _ _ _ _ _ _ us hl => match us, hl with | [_, _], _ => rfl)
    (atm_mk a_Pla_is_frozen i_Pla_is_frozen l_Pla_is_frozen c_Pla_is_frozen k_Pla_is_frozen fun _ _ _ _ _ _ us hl => match us, hl with | [_, _], _ => rfl)
    (atm_mk a_Pla_note i_Pla_note l_Pla_note c_Pla_note k_Pla_note fun _ _ _ _ _ _ us hl => match us, hl with | [_, _, _, _], _ => rfl)
    (atm_mk a_Pla_assign i_Pla_assign l_Pla_assign c_Pla_assign k_Pla_assign fun _ _ _ _ _ _ us hl => match us, hl with | [_, _, _, _], _ => rfl)
    (atm_mk a_Pla_approvals_of i_Pla_approvals_of l_Pla_approvals_of c_Pla_approvals_of k_Pla_approvals_of fun _ _ _ _ _ _ us hl => match us, hl with | [_, _], _ => rfl)
    (atm_mk a_Pla_fits i_Pla_fits l_Pla_fits c_Pla_fits k_Pla_fits fun _ _ _ _ _ _ us hl => match us, hl with | [_, _], _ => rfl)
    (atm_mk a_Pla_try_out i_Pla_try_out l_Pla_try_out c_Pla_try_out k_Pla_try_out fun _ _ _ _ _ _ us hl => match us, hl with | [_, _], _ => rfl)
    (atm_mk a_Pla_settle i_Pla_settle l_Pla_settle c_Pla_settle k_Pla_settle fun _ _ _ _ _ _ us hl => match us, hl with | [_], _ => rfl)
    (atm_mk a_Pla_put_proposal i_Pla_put_proposal l_Pla_put_proposal c_Pla_put_proposal k_Pla_put_proposal fun _ _ _ _ _ _ us hl => match us, hl with | [_, _], _ => rfl)
    (atm_mk a_Pla_count_status i_Pla_count_status l_Pla_count_status c_Pla_count_status k_Pla_count_status fun _ _ _ _ _ _ us hl => match us, hl with | [_, _], _ => rfl)
    (atm_mk a_Pla_value_at i_Pla_value_at l_Pla_value_at c_Pla_value_at k_Pla_value_at fun _ _ _ _ _ _ us hl => match us, hl with | [_, _, _], _ => rfl)
    (atm_mk a_Pla_report i_Pla_report l_Pla_report c_Pla_report k_Pla_report fun _ _ _ _ _ _ us hl => match us, hl with | [_, _, _], _ => rfl)
    (atm_mk a_Pla_next_open i_Pla_next_open l_Pla_next_open c_Pla_next_open k_Pla_next_open fun _ _ _ _ _ _ us hl => match us, hl with | [_, _], _ => rfl)⟩
theorem nats_of : ∀ (l : List Int), l.all (Codec.inInt 0 4294967295) = true → ∃ ns : List Nat, l = zs ns
  | [], _ => ⟨[], rfl⟩
  | x :: r, h => by
    rw [List.all_cons, Bool.and_eq_true] at h
    obtain ⟨ns, e⟩ := nats_of r h.2
    have hx : 0 ≤ x := (Codec.inInt_iff.mp h.1).1
    refine ⟨x.toNat :: ns, ?_⟩
    show x :: r = ((x.toNat : Nat) : Int) :: zs ns
    rw [e, Int.toNat_of_nonneg hx]
end
end Gc
open PySem PySem.W PyProof.Rows
set_option maxRecDepth 100000 in
set_option maxHeartbeats 0 in
theorem PySem.Challenge.cw_approvedchanges_s01_answers_holds : PySem.Challenge.rw_approvedchanges_s01_answers.Holds := by
  w_on; k_headS; (case hw => exact ⟨[.list [.int 26]], by decide +kernel, by decide +kernel⟩)
  k_fillS
  refine L2.walk_specK (r := PySem.Challenge.rw_approvedchanges_s01_answers) (k := 38) (CX := L2.CX0) (ps := ["calls"]) (sp := Gc.spAns) (by decide +kernel) rfl rfl ⟨rfl, by decide, by decide⟩ (fun w h Y => PySem.W.kIn_of Y) ?F ?S (fun _ _ _ _ z => z)
  case F =>
    intro w mg fa h Y KX G hmg
    refine' Gc.all_mk KX G hmg ?a_hash_of ?l_hash_of ?c_hash_of ?k_hash_of ?a_bytes_of ?l_bytes_of ?c_bytes_of ?k_bytes_of ?a_leaf_of ?l_leaf_of ?c_leaf_of ?k_leaf_of ?a_node_of ?l_node_of ?c_node_of ?k_node_of ?a_quarters_of ?l_quarters_of ?c_quarters_of ?k_quarters_of ?a_from_quarters ?l_from_quarters ?c_from_quarters ?k_from_quarters ?a_changes_in ?l_changes_in ?c_changes_in ?k_changes_in ?a_parting ?l_parting ?c_parting ?k_parting ?a_root_of ?l_root_of ?c_root_of ?k_root_of ?a_proof_of ?l_proof_of ?c_proof_of ?k_proof_of ?a_result_of ?l_result_of ?c_result_of ?k_result_of ?a_about_setting ?l_about_setting ?c_about_setting ?k_about_setting ?a_about_proposal ?l_about_proposal ?c_about_proposal ?k_about_proposal ?a_about_time ?l_about_time ?c_about_time ?k_about_time ?a_leaves_of ?l_leaves_of ?c_leaves_of ?k_leaves_of ?a_about_log ?l_about_log ?c_about_log ?k_about_log ?a_are_quarters ?l_are_quarters ?c_are_quarters ?k_are_quarters ?a_verify ?l_verify ?c_verify ?k_verify ?a_summary ?l_summary ?c_summary ?k_summary ?a_set_rule ?l_set_rule ?c_set_rule ?k_set_rule ?a_set_class ?l_set_class ?c_set_class ?k_set_class ?a_add_freeze ?l_add_freeze ?c_add_freeze ?k_add_freeze ?a_remove_freeze ?l_remove_freeze ?c_remove_freeze ?k_remove_freeze ?a_propose ?l_propose ?c_propose ?k_propose ?a_refusal ?l_refusal ?c_refusal ?k_refusal ?a_approve ?l_approve ?c_approve ?k_approve ?a_withdraw ?l_withdraw ?c_withdraw ?k_withdraw ?a_reject ?l_reject ?c_reject ?k_reject ?a_advance ?l_advance ?c_advance ?k_advance ?a_add_guard ?l_add_guard ?c_add_guard ?k_add_guard ?a_remove_guard ?l_remove_guard ?c_remove_guard ?k_remove_guard ?a_report ?l_report ?c_report ?k_report ?a_revert ?l_revert ?c_revert ?k_revert ?a_asked ?l_asked ?c_asked ?k_asked ?a_done ?l_done ?c_done ?k_done ?a_rows_at ?l_rows_at ?c_rows_at ?k_rows_at ?a_answers ?l_answers ?c_answers ?k_answers ?n_CP ?pg_CP ?hd_CP ?po_CP ?sa_CP ?mk_CP ?kc_CP ?n_CQ ?pg_CQ ?hd_CQ ?po_CQ ?sa_CQ ?mk_CQ ?kc_CQ ?nP_people ?nP_clock ?nP_settings ?nP_classes ?nP_needs ?nP_own_counts ?nP_freezes ?nP_proposals ?nP_guards ?nP_log ?nP_past ?nQ_author ?nQ_time ?nQ_changes ?nQ_approvals ?nQ_status ?nQ_end ?nQ_before ?a_Pro_init ?i_Pro_init ?l_Pro_init ?c_Pro_init ?k_Pro_init ?a_Pro_finish ?i_Pro_finish ?l_Pro_finish ?c_Pro_finish ?k_Pro_finish ?a_Pro_described ?i_Pro_described ?l_Pro_described ?c_Pro_described ?k_Pro_described ?a_Pla_init ?i_Pla_init ?l_Pla_init ?c_Pla_init ?k_Pla_init ?a_Pla_is_frozen ?i_Pla_is_frozen ?l_Pla_is_frozen ?c_Pla_is_frozen ?k_Pla_is_frozen ?a_Pla_note ?i_Pla_note ?l_Pla_note ?c_Pla_note ?k_Pla_note ?a_Pla_assign ?i_Pla_assign ?l_Pla_assign ?c_Pla_assign ?k_Pla_assign ?a_Pla_approvals_of ?i_Pla_approvals_of ?l_Pla_approvals_of ?c_Pla_approvals_of ?k_Pla_approvals_of ?a_Pla_fits ?i_Pla_fits ?l_Pla_fits ?c_Pla_fits ?k_Pla_fits ?a_Pla_try_out ?i_Pla_try_out ?l_Pla_try_out ?c_Pla_try_out ?k_Pla_try_out ?a_Pla_settle ?i_Pla_settle ?l_Pla_settle ?c_Pla_settle ?k_Pla_settle ?a_Pla_put_proposal ?i_Pla_put_proposal ?l_Pla_put_proposal ?c_Pla_put_proposal ?k_Pla_put_proposal ?a_Pla_count_status ?i_Pla_count_status ?l_Pla_count_status ?c_Pla_count_status ?k_Pla_count_status ?a_Pla_value_at ?i_Pla_value_at ?l_Pla_value_at ?c_Pla_value_at ?k_Pla_value_at ?a_Pla_report ?i_Pla_report ?l_Pla_report ?c_Pla_report ?k_Pla_report ?a_Pla_next_open ?i_Pla_next_open ?l_Pla_next_open ?c_Pla_next_open ?k_Pla_next_open ?b_len ?b_max ?b_min ?b_all ?b_list ?b_range ?b_enumerate ?b_zip ?b_reversed ?g_MASK ?g_BEGIN ?g_PRIME ?g_FIRST ?g_SECOND ?g_OPEN ?g_APPLIED ?g_REJECTED ?g_FAILED ?g_ANY ?g_MOST_KEY ?g_MOST_VALUE ?g_MOST_CHANGES ?g_SETTINGS ?g_CLASSES ?g_GUARD ?g_WEEK ?g_MOST_TIME_asking ?g_MOST_COUNT ?g_MOST_QUARTER ?g_MOST_TIME_changing ?g_MOST_HOURS ?g_MOST_ROWS ?g_MOST_PROPOSALS ?g_METRICS ?g_MOST_PEOPLE ?g_NUMBERS ?g_LISTS ?g_CHANGES ?lN ?qN ?lL ?qL ?lC ?qC ?wL ?wC ?inj
    (case a_hash_of => k_is)
    (case l_hash_of => k_is)
    (case c_hash_of => k_is)
    (case k_hash_of => k_is)
    (case a_bytes_of => k_is)
    (case l_bytes_of => k_is)
    (case c_bytes_of => k_is)
    (case k_bytes_of => k_is)
    (case a_leaf_of => k_is)
    (case l_leaf_of => k_is)
    (case c_leaf_of => k_is)
    (case k_leaf_of => k_is)
    (case a_node_of => k_is)
    (case l_node_of => k_is)
    (case c_node_of => k_is)
    (case k_node_of => k_is)
    (case a_quarters_of => k_is)
    (case l_quarters_of => k_is)
    (case c_quarters_of => k_is)
    (case k_quarters_of => k_is)
    (case a_from_quarters => k_is)
    (case l_from_quarters => k_is)
    (case c_from_quarters => k_is)
    (case k_from_quarters => k_is)
    (case a_changes_in => k_is)
    (case l_changes_in => k_is)
    (case c_changes_in => k_is)
    (case k_changes_in => k_is)
    (case a_parting => k_is)
    (case l_parting => k_is)
    (case c_parting => k_is)
    (case k_parting => k_is)
    (case a_root_of => k_is)
    (case l_root_of => k_is)
    (case c_root_of => k_is)
    (case k_root_of => k_is)
    (case a_proof_of => k_is)
    (case l_proof_of => k_is)
    (case c_proof_of => k_is)
    (case k_proof_of => k_is)
    (case a_result_of => k_is)
    (case l_result_of => k_is)
    (case c_result_of => k_is)
    (case k_result_of => k_is)
    (case a_about_setting => k_is)
    (case l_about_setting => k_is)
    (case c_about_setting => k_is)
    (case k_about_setting => k_is)
    (case a_about_proposal => k_is)
    (case l_about_proposal => k_is)
    (case c_about_proposal => k_is)
    (case k_about_proposal => k_is)
    (case a_about_time => k_is)
    (case l_about_time => k_is)
    (case c_about_time => k_is)
    (case k_about_time => k_is)
    (case a_leaves_of => k_is)
    (case l_leaves_of => k_is)
    (case c_leaves_of => k_is)
    (case k_leaves_of => k_is)
    (case a_about_log => k_is)
    (case l_about_log => k_is)
    (case c_about_log => k_is)
    (case k_about_log => k_is)
    (case a_are_quarters => k_is)
    (case l_are_quarters => k_is)
    (case c_are_quarters => k_is)
    (case k_are_quarters => k_is)
    (case a_verify => k_is)
    (case l_verify => k_is)
    (case c_verify => k_is)
    (case k_verify => k_is)
    (case a_summary => k_is)
    (case l_summary => k_is)
    (case c_summary => k_is)
    (case k_summary => k_is)
    (case a_set_rule => k_is)
    (case l_set_rule => k_is)
    (case c_set_rule => k_is)
    (case k_set_rule => k_is)
    (case a_set_class => k_is)
    (case l_set_class => k_is)
    (case c_set_class => k_is)
    (case k_set_class => k_is)
    (case a_add_freeze => k_is)
    (case l_add_freeze => k_is)
    (case c_add_freeze => k_is)
    (case k_add_freeze => k_is)
    (case a_remove_freeze => k_is)
    (case l_remove_freeze => k_is)
    (case c_remove_freeze => k_is)
    (case k_remove_freeze => k_is)
    (case a_propose => k_is)
    (case l_propose => k_is)
    (case c_propose => k_is)
    (case k_propose => k_is)
    (case a_refusal => k_is)
    (case l_refusal => k_is)
    (case c_refusal => k_is)
    (case k_refusal => k_is)
    (case a_approve => k_is)
    (case l_approve => k_is)
    (case c_approve => k_is)
    (case k_approve => k_is)
    (case a_withdraw => k_is)
    (case l_withdraw => k_is)
    (case c_withdraw => k_is)
    (case k_withdraw => k_is)
    (case a_reject => k_is)
    (case l_reject => k_is)
    (case c_reject => k_is)
    (case k_reject => k_is)
    (case a_advance => k_is)
    (case l_advance => k_is)
    (case c_advance => k_is)
    (case k_advance => k_is)
    (case a_add_guard => k_is)
    (case l_add_guard => k_is)
    (case c_add_guard => k_is)
    (case k_add_guard => k_is)
    (case a_remove_guard => k_is)
    (case l_remove_guard => k_is)
    (case c_remove_guard => k_is)
    (case k_remove_guard => k_is)
    (case a_report => k_is)
    (case l_report => k_is)
    (case c_report => k_is)
    (case k_report => k_is)
    (case a_revert => k_is)
    (case l_revert => k_is)
    (case c_revert => k_is)
    (case k_revert => k_is)
    (case a_asked => k_is)
    (case l_asked => k_is)
    (case c_asked => k_is)
    (case k_asked => k_is)
    (case a_done => k_is)
    (case l_done => k_is)
    (case c_done => k_is)
    (case k_done => k_is)
    (case a_rows_at => k_is)
    (case l_rows_at => k_is)
    (case c_rows_at => k_is)
    (case k_rows_at => k_is)
    (case a_answers => k_is)
    (case l_answers => k_is)
    (case c_answers => k_is)
    (case k_answers => k_is)
    (case n_CP => k_is)
    (case pg_CP => k_is)
    (case hd_CP => k_is)
    (case po_CP => k_is)
    (case sa_CP => k_is)
    (case mk_CP => k_is)
    (case kc_CP => k_is)
    (case n_CQ => k_is)
    (case pg_CQ => k_is)
    (case hd_CQ => k_is)
    (case po_CQ => k_is)
    (case sa_CQ => k_is)
    (case mk_CQ => k_is)
    (case kc_CQ => k_is)
    (case nP_people => k_is)
    (case nP_clock => k_is)
    (case nP_settings => k_is)
    (case nP_classes => k_is)
    (case nP_needs => k_is)
    (case nP_own_counts => k_is)
    (case nP_freezes => k_is)
    (case nP_proposals => k_is)
    (case nP_guards => k_is)
    (case nP_log => k_is)
    (case nP_past => k_is)
    (case nQ_author => k_is)
    (case nQ_time => k_is)
    (case nQ_changes => k_is)
    (case nQ_approvals => k_is)
    (case nQ_status => k_is)
    (case nQ_end => k_is)
    (case nQ_before => k_is)
    (case a_Pro_init => k_is)
    (case i_Pro_init => k_is)
    (case l_Pro_init => k_is)
    (case c_Pro_init => k_is)
    (case k_Pro_init => k_is)
    (case a_Pro_finish => k_is)
    (case i_Pro_finish => k_is)
    (case l_Pro_finish => k_is)
    (case c_Pro_finish => k_is)
    (case k_Pro_finish => k_is)
    (case a_Pro_described => k_is)
    (case i_Pro_described => k_is)
    (case l_Pro_described => k_is)
    (case c_Pro_described => k_is)
    (case k_Pro_described => k_is)
    (case a_Pla_init => k_is)
    (case i_Pla_init => k_is)
    (case l_Pla_init => k_is)
    (case c_Pla_init => k_is)
    (case k_Pla_init => k_is)
    (case a_Pla_is_frozen => k_is)
    (case i_Pla_is_frozen => k_is)
    (case l_Pla_is_frozen => k_is)
    (case c_Pla_is_frozen => k_is)
    (case k_Pla_is_frozen => k_is)
    (case a_Pla_note => k_is)
    (case i_Pla_note => k_is)
    (case l_Pla_note => k_is)
    (case c_Pla_note => k_is)
    (case k_Pla_note => k_is)
    (case a_Pla_assign => k_is)
    (case i_Pla_assign => k_is)
    (case l_Pla_assign => k_is)
    (case c_Pla_assign => k_is)
    (case k_Pla_assign => k_is)
    (case a_Pla_approvals_of => k_is)
    (case i_Pla_approvals_of => k_is)
    (case l_Pla_approvals_of => k_is)
    (case c_Pla_approvals_of => k_is)
    (case k_Pla_approvals_of => k_is)
    (case a_Pla_fits => k_is)
    (case i_Pla_fits => k_is)
    (case l_Pla_fits => k_is)
    (case c_Pla_fits => k_is)
    (case k_Pla_fits => k_is)
    (case a_Pla_try_out => k_is)
    (case i_Pla_try_out => k_is)
    (case l_Pla_try_out => k_is)
    (case c_Pla_try_out => k_is)
    (case k_Pla_try_out => k_is)
    (case a_Pla_settle => k_is)
    (case i_Pla_settle => k_is)
    (case l_Pla_settle => k_is)
    (case c_Pla_settle => k_is)
    (case k_Pla_settle => k_is)
    (case a_Pla_put_proposal => k_is)
    (case i_Pla_put_proposal => k_is)
    (case l_Pla_put_proposal => k_is)
    (case c_Pla_put_proposal => k_is)
    (case k_Pla_put_proposal => k_is)
    (case a_Pla_count_status => k_is)
    (case i_Pla_count_status => k_is)
    (case l_Pla_count_status => k_is)
    (case c_Pla_count_status => k_is)
    (case k_Pla_count_status => k_is)
    (case a_Pla_value_at => k_is)
    (case i_Pla_value_at => k_is)
    (case l_Pla_value_at => k_is)
    (case c_Pla_value_at => k_is)
    (case k_Pla_value_at => k_is)
    (case a_Pla_report => k_is)
    (case i_Pla_report => k_is)
    (case l_Pla_report => k_is)
    (case c_Pla_report => k_is)
    (case k_Pla_report => k_is)
    (case a_Pla_next_open => k_is)
    (case i_Pla_next_open => k_is)
    (case l_Pla_next_open => k_is)
    (case c_Pla_next_open => k_is)
    (case k_Pla_next_open => k_is)
    (case b_len => k_is)
    (case b_max => k_is)
    (case b_min => k_is)
    (case b_all => k_is)
    (case b_list => k_is)
    (case b_range => k_is)
    (case b_enumerate => k_is)
    (case b_zip => k_is)
    (case b_reversed => k_is)
    (case g_MASK => k_is)
    (case g_BEGIN => k_is)
    (case g_PRIME => k_is)
    (case g_FIRST => k_is)
    (case g_SECOND => k_is)
    (case g_OPEN => k_is)
    (case g_APPLIED => k_is)
    (case g_REJECTED => k_is)
    (case g_FAILED => k_is)
    (case g_ANY => k_is)
    (case g_MOST_KEY => k_is)
    (case g_MOST_VALUE => k_is)
    (case g_MOST_CHANGES => k_is)
    (case g_SETTINGS => k_is)
    (case g_CLASSES => k_is)
    (case g_GUARD => k_is)
    (case g_WEEK => k_is)
    (case g_MOST_TIME_asking => k_is)
    (case g_MOST_COUNT => k_is)
    (case g_MOST_QUARTER => k_is)
    (case g_MOST_TIME_changing => k_is)
    (case g_MOST_HOURS => k_is)
    (case g_MOST_ROWS => k_is)
    (case g_MOST_PROPOSALS => k_is)
    (case g_METRICS => k_is)
    (case g_MOST_PEOPLE => k_is)
    (case g_NUMBERS => k_is)
    (case g_LISTS => k_is)
    (case g_CHANGES => k_is)
    (case lN => k_is)
    (case qN => rfl)
    (case lL => k_is)
    (case qL => rfl)
    (case lC => k_is)
    (case qC => rfl)
    (case wL => decide)
    (case wC => decide)
    (case inj => decide)
  case S =>
    intro K H xs a hO hwi hask hx
    cases hx with
    | cons h1 h2 =>
      cases h2
      cases h1 with
      | lst hs ha =>
        have e := L2.ints_dw a.1 _ ha
        subst e
        have q : ((Codec.inLen 0 30000 a.1 && a.1.all (Codec.inInt 0 4294967295)) && true) = true := hwi
        rw [Bool.and_eq_true, Bool.and_eq_true] at q
        obtain ⟨ns, en⟩ := Gc.nats_of a.1 q.1.2
        have hl := (Codec.inNat_iff.mp q.1.1).2
        have hask : PyKex7.answers_asked a.1 = true := hask
        show Gc.spAns K [_] H (fun v H' => L2.Dw K H' v (.list ((PyKex7.answers a.1).map WData.int))) _
        rw [en] at hs hl hask ⊢
        exact ⟨_, ns, rfl, by rw [Gc.zs, List.map_map] at hs; exact hs, by rw [Gc.zs, List.length_map] at hl; exact hl, hask, fun H' p hp => .lst (L2.SqL.of hp) (L2.dw_ints _)⟩
