/- The hash of a row of bytes, as whole numbers. -/
import Derived.Test.YtegamlopcdjiaaaDoorShaA
namespace Go.Abs.Sha
open Go Go.Abs
set_option linter.unusedVariables false
set_option linter.unusedSimpArgs false
def byV : V → Option (List Int)
  | .sli .u8 xs => some xs
  | .nils => some []
  | _ => none
theorem byV_cases {x : V} {b : List Int} (h : byV x = some b) : x = .sli .u8 b ∨ (x = .nils ∧ b = []) := by
  unfold byV at h
  split at h
  · left; cases h; rfl
  · right; cases h; exact ⟨rfl, rfl⟩
  · cases h
def catL : List V → Option (List Int)
  | [] => some []
  | x :: l => match byV x, catL l with
    | some a, some b => some (a ++ b)
    | _, _ => none
def partsV : V → Option (List Int)
  | .sle 1 l => catL l
  | .nils => some []
  | _ => none
theorem catL_cons {x : V} {l : List V} {b : List Int} (h : catL (x :: l) = some b) : ∃ a c, byV x = some a ∧ catL l = some c ∧ b = a ++ c := by
  unfold catL at h
  cases ha : byV x with
  | none => rw [ha] at h; cases h
  | some a =>
    cases hc : catL l with
    | none => rw [ha, hc] at h; cases h
    | some c => rw [ha, hc] at h; cases h; exact ⟨a, c, rfl, rfl, rfl⟩
theorem partsV_cases {x : V} {b : List Int} (h : partsV x = some b) : (∃ l, x = .sle 1 l ∧ catL l = some b) ∨ (x = .nils ∧ b = []) := by
  unfold partsV at h
  split at h
  · left; exact ⟨_, rfl, h⟩
  · right; cases h; exact ⟨rfl, rfl⟩
  · cases h
def rowV : V → Option (List V)
  | .sle 1 l => some l
  | .nils => some []
  | _ => none
def catP : List V → Option (List V)
  | [] => some []
  | x :: l => match rowV x, catP l with
    | some a, some b => some (a ++ b)
    | _, _ => none
theorem catP_cons {x : V} {l b : List V} (h : catP (x :: l) = some b) : ∃ a c, rowV x = some a ∧ catP l = some c ∧ b = a ++ c := by
  unfold catP at h
  cases ha : rowV x with
  | none => rw [ha] at h; cases h
  | some a =>
    cases hc : catP l with
    | none => rw [ha, hc] at h; cases h
    | some c => rw [ha, hc] at h; cases h; exact ⟨a, c, rfl, rfl, rfl⟩
theorem rowV_cases {x : V} {b : List V} (h : rowV x = some b) : x = .sle 1 b ∨ (x = .nils ∧ b = []) := by
  unfold rowV at h
  split at h
  · left; cases h; rfl
  · right; cases h; exact ⟨rfl, rfl⟩
  · cases h
theorem catL_mk {x : V} {l : List V} {a c : List Int} (h1 : byV x = some a) (h2 : catL l = some c) : catL (x :: l) = some (a ++ c) := by
  unfold catL; rw [h1, h2]
theorem catP_mk {x : V} {l a c : List V} (h1 : rowV x = some a) (h2 : catP l = some c) : catP (x :: l) = some (a ++ c) := by
  unfold catP; rw [h1, h2]
theorem byV_u8 (b : List Int) : byV (.sli .u8 b) = some b := rfl
theorem rowV_sle (l : List V) : rowV (.sle 1 l) = some l := rfl
def lenB (n i : Nat) : Int := ((8 * n / 2 ^ (8 * i)) % 256 : Nat)
def lens (n : Nat) : List Int := [lenB n 7, lenB n 6, lenB n 5, lenB n 4, lenB n 3, lenB n 2, lenB n 1, lenB n 0]
def ending (n : Nat) : List Int := 128 :: (List.replicate ((119 - n % 64) % 64) 0 ++ lens n)
def fillB (b : List Int) : List Int := b ++ ending b.length
theorem lens_len (n : Nat) : (lens n).length = 8 := rfl
theorem ending_len (n : Nat) : (ending n).length = 9 + (119 - n % 64) % 64 := by simp [ending, lens_len]; omega
theorem fillB_len (b : List Int) : (fillB b).length = 64 * ((b.length + 8) / 64 + 1) := by
  simp only [fillB, List.length_append, ending_len]; omega
theorem byt_app {a b : List Int} (ha : Byt a) (hb : Byt b) : Byt (a ++ b) := fun x hx => by
  rcases List.mem_append.1 hx with h | h
  · exact ha x h
  · exact hb x h
theorem byt_nil : Byt [] := fun x h => by cases h
theorem byt_cons {x : Int} {b : List Int} (hx : 0 ≤ x ∧ x ≤ 255) (hb : Byt b) : Byt (x :: b) := fun y hy => by
  rcases List.mem_cons.1 hy with rfl | h
  · exact hx
  · exact hb y h
theorem byt_rep (n : Nat) : Byt (List.replicate n 0) := fun x hx => by
  obtain ⟨_, rfl⟩ := List.mem_replicate.1 hx; omega
theorem byt_take {b : List Int} (h : Byt b) (n : Nat) : Byt (b.take n) := fun x hx => h x (List.mem_of_mem_take hx)
theorem byt_drop {b : List Int} (h : Byt b) (n : Nat) : Byt (b.drop n) := fun x hx => h x (List.mem_of_mem_drop hx)
theorem lenB_by (n i : Nat) : 0 ≤ lenB n i ∧ lenB n i ≤ 255 := by unfold lenB; omega
theorem byt_lens (n : Nat) : Byt (lens n) := by
  unfold lens
  exact byt_cons (lenB_by _ _) (byt_cons (lenB_by _ _) (byt_cons (lenB_by _ _) (byt_cons (lenB_by _ _) (byt_cons (lenB_by _ _) (byt_cons (lenB_by _ _) (byt_cons (lenB_by _ _) (byt_cons (lenB_by _ _) byt_nil)))))))
theorem byt_fill {b : List Int} (h : Byt b) : Byt (fillB b) :=
  byt_app h (byt_cons (by omega) (byt_app (byt_rep _) (byt_lens _)))
theorem lenB_eq {n : Nat} (hn : n < 1000000000000000000) {i : Nat} (hi : 8 * i ≤ 64) :
    IntKind.u8.wrap ((IntKind.u64.wrap (IntKind.u64.wrap (n : Int) * 8)).fdiv (2 ^ min (8 * i) 64)) = lenB n i := by
  have e1 : IntKind.u64.wrap (n : Int) = n := by simp only [IntKind.wrap, IntKind.bits, IntKind.signed]; simp; omega
  have e2 : IntKind.u64.wrap ((n : Int) * 8) = ((8 * n : Nat) : Int) := by simp only [IntKind.wrap, IntKind.bits, IntKind.signed]; simp; omega
  rw [e1, e2, Nat.min_eq_left hi, Int.fdiv_eq_ediv_of_nonneg _ (by have : (0 : Int) < 2 ^ (8 * i) := Int.pow_pos (by decide); omega)]
  have e3 : ((8 * n : Nat) : Int) / 2 ^ (8 * i) = ((8 * n / 2 ^ (8 * i) : Nat) : Int) := by simp
  rw [e3]
  unfold lenB
  generalize 8 * n / 2 ^ (8 * i) = q
  simp only [IntKind.wrap, IntKind.bits, IntKind.signed]; simp
def iter (k f s : List Int) : Nat → List Int
  | 0 => s
  | i + 1 => block k (iter k f s i) ((f.drop (64 * i)).take 64)
theorem block_ok {k s b : List Int} : (block k s b).length = 8 ∧ ∀ x ∈ block k s b, Wd x := by
  refine ⟨rfl, fun x hx => ?_⟩
  simp only [block, List.mem_cons, List.not_mem_nil, or_false] at hx
  rcases hx with h | h | h | h | h | h | h | h <;> rw [h] <;> exact wd_mod _
theorem iter_ok {k f s : List Int} (hl : s.length = 8) (hs : ∀ x ∈ s, Wd x) : ∀ i, (iter k f s i).length = 8 ∧ ∀ x ∈ iter k f s i, Wd x
  | 0 => ⟨hl, hs⟩
  | i + 1 => block_ok
def start8 : List Int := [1779033703, 3144134277, 1013904242, 2773480762, 1359893119, 2600822924, 528734635, 1541459225]
theorem start8_ok : ∀ x ∈ start8, Wd x := by
  intro x hx
  simp only [start8, List.mem_cons, List.not_mem_nil, or_false] at hx
  unfold Wd
  omega
def octOf (x : Int) (i : Nat) : Int := (x / 2 ^ (24 - 8 * i)) % 256
theorem octOf_eq {x : Int} (h : Wd x) : IntKind.u8.wrap (x.fdiv (2 ^ min 24 32)) = octOf x 0 ∧ IntKind.u8.wrap (x.fdiv (2 ^ min 16 32)) = octOf x 1 ∧ IntKind.u8.wrap (x.fdiv (2 ^ min 8 32)) = octOf x 2 ∧ IntKind.u8.wrap x = octOf x 3 := by
  unfold Wd at h
  have e : ∀ n : Nat, x.fdiv (2 ^ n) = x / 2 ^ n := fun n => Int.fdiv_eq_ediv_of_nonneg _ (by have : (0 : Int) < 2 ^ n := Int.pow_pos (by decide); omega)
  have w8 : ∀ y : Int, IntKind.u8.wrap y = y % 256 := fun y => by simp [IntKind.wrap, IntKind.bits, IntKind.signed]
  refine ⟨?_, ?_, ?_, ?_⟩
  · rw [show min 24 32 = 24 from rfl, e, w8]; rfl
  · rw [show min 16 32 = 16 from rfl, e, w8]; rfl
  · rw [show min 8 32 = 8 from rfl, e, w8]; rfl
  · rw [w8]; unfold octOf; rw [show (2 : Int) ^ (24 - 8 * 3) = 1 from rfl, Int.ediv_one]
def bytes4 (x : Int) : List Int := [octOf x 0, octOf x 1, octOf x 2, octOf x 3]
def sumB (k b : List Int) : List Int := (iter k (fillB b) start8 ((b.length + 8) / 64 + 1)).flatMap bytes4
theorem flat_len : ∀ l : List Int, (l.flatMap bytes4).length = 4 * l.length
  | [] => rfl
  | x :: l => by rw [List.flatMap_cons, List.length_append, flat_len l]; simp [bytes4]; omega
theorem sumB_len (k b : List Int) : (sumB k b).length = 32 := by
  unfold sumB; rw [flat_len, (iter_ok rfl start8_ok _).1]
theorem octOf_by (x : Int) (i : Nat) : 0 ≤ octOf x i ∧ octOf x i ≤ 255 := by unfold octOf; omega
theorem byt_sum (k b : List Int) : Byt (sumB k b) := fun x hx => by
  obtain ⟨w, _, h⟩ := List.mem_flatMap.1 hx
  simp only [bytes4, List.mem_cons, List.not_mem_nil, or_false] at h
  rcases h with h | h | h | h <;> rw [h] <;> exact octOf_by _ _
/-! ### sums with a key -/
def keyB (k key : List Int) : List Int := if key.length > 64 then sumB k key ++ List.replicate 32 0 else key ++ List.replicate (64 - key.length) 0
theorem keyB_len (k key : List Int) : (keyB k key).length = 64 := by
  unfold keyB; split <;> simp [sumB_len]
  omega
def turnB (b : List Int) (c : Int) : List Int := b.map fun x => bXor .u8 x c
theorem xor8_by (x c : Int) : 0 ≤ bXor .u8 x c ∧ bXor .u8 x c ≤ 255 := by
  unfold bXor
  rw [show IntKind.u8.bits = 8 from rfl]
  generalize (BitVec.ofInt 8 x ^^^ BitVec.ofInt 8 c) = b
  have := b.isLt
  simp only [IntKind.wrap, IntKind.bits, IntKind.signed]; simp
  omega
theorem byt_turn (b : List Int) (c : Int) : Byt (turnB b c) := fun x hx => by
  obtain ⟨y, _, rfl⟩ := List.mem_map.1 hx
  exact xor8_by _ _
theorem turnB_len (b : List Int) (c : Int) : (turnB b c).length = b.length := List.length_map ..
theorem map_step {f : Int → Int} {b : List Int} {i : Nat} (h : i < b.length) : ((b.map f).take i ++ b.drop i).set i (f (((b.map f).take i ++ b.drop i).getD i 0)) = (b.map f).take (i + 1) ++ b.drop (i + 1) := by
  obtain ⟨b1, x, b2, rfl, hl⟩ : ∃ b1 x b2, b = b1 ++ x :: b2 ∧ b1.length = i := ⟨b.take i, b[i], b.drop (i + 1), by simp, by simp; omega⟩
  subst hl
  have e1 : (b1.map f).take (b1.length + 1) = b1.map f := List.take_of_length_le (by simp)
  have e2 : b1.drop (b1.length + 1) = [] := List.drop_eq_nil_of_le (by omega)
  simp [List.take_append, List.drop_append, List.set_append, List.getD_eq_getElem?_getD, List.getElem?_append, e1, e2]
theorem snoc_step {f : Int → Int} {b : List Int} {i : Nat} (h : i < b.length) : (b.map f).take i ++ [f (b.getD i 0)] = (b.map f).take (i + 1) := by
  rw [List.take_add_one, List.getElem?_map, List.getD_eq_getElem?_getD, List.getElem?_eq_getElem h]; rfl
theorem snoc_step' {b : List Int} {i : Nat} (h : i < b.length) : b.take i ++ [b.getD i 0] = b.take (i + 1) := by
  rw [List.take_add_one, List.getD_eq_getElem?_getD, List.getElem?_eq_getElem h]; rfl
/-! bytes held against each other -/
theorem b8 {x : Int} (h : 0 ≤ x ∧ x ≤ 255) : ∃ b : BitVec 8, x = b.toNat := ⟨BitVec.ofNat 8 x.toNat, by rw [BitVec.toNat_ofNat]; omega⟩
theorem wrap8_toNat (b : BitVec 8) : IntKind.u8.wrap (b.toNat : Int) = b.toNat := by
  have := b.isLt
  simp only [IntKind.wrap, IntKind.bits, IntKind.signed]; simp; omega
theorem ofInt8_toNat (b : BitVec 8) : BitVec.ofInt 8 (b.toNat : Int) = b := by
  rw [BitVec.ofInt_natCast, BitVec.ofNat_toNat]; simp
theorem or8_b (a b : BitVec 8) : bOr .u8 a.toNat b.toNat = (a ||| b).toNat := by
  show IntKind.u8.wrap ((BitVec.ofInt 8 (a.toNat : Int) ||| BitVec.ofInt 8 (b.toNat : Int)).toNat) = _
  rw [ofInt8_toNat, ofInt8_toNat, wrap8_toNat]
theorem xor8_b (a b : BitVec 8) : bXor .u8 a.toNat b.toNat = (a ^^^ b).toNat := by
  show IntKind.u8.wrap ((BitVec.ofInt 8 (a.toNat : Int) ^^^ BitVec.ofInt 8 (b.toNat : Int)).toNat) = _
  rw [ofInt8_toNat, ofInt8_toNat, wrap8_toNat]
theorem or8_by (x c : Int) : 0 ≤ bOr .u8 x c ∧ bOr .u8 x c ≤ 255 := by
  unfold bOr
  rw [show IntKind.u8.bits = 8 from rfl]
  generalize (BitVec.ofInt 8 x ||| BitVec.ofInt 8 c) = b
  have := b.isLt
  simp only [IntKind.wrap, IntKind.bits, IntKind.signed]; simp
  omega
theorem unlike_step {u x y : Int} (hu : 0 ≤ u ∧ u ≤ 255) (hx : 0 ≤ x ∧ x ≤ 255) (hy : 0 ≤ y ∧ y ≤ 255) : bOr .u8 u (bXor .u8 x y) = 0 ↔ u = 0 ∧ x = y := by
  obtain ⟨a, rfl⟩ := b8 hu
  obtain ⟨b, rfl⟩ := b8 hx
  obtain ⟨c, rfl⟩ := b8 hy
  rw [xor8_b, or8_b]
  have e : ∀ z : BitVec 8, ((z.toNat : Int) = 0 ↔ z = 0#8) := fun z => by
    constructor
    · intro h; apply BitVec.eq_of_toNat_eq; simpa using h
    · intro h; subst h; rfl
  rw [e, e, BitVec.or_eq_zero_iff, BitVec.xor_eq_zero_iff]
  constructor
  · rintro ⟨h1, h2⟩; exact ⟨h1, by rw [h2]⟩
  · rintro ⟨h1, h2⟩; exact ⟨h1, BitVec.eq_of_toNat_eq (by omega)⟩
def macB (k key text : List Int) : List Int := sumB k (turnB (keyB k key) 92 ++ sumB k (turnB (keyB k key) 54 ++ text))
theorem macB_len (k key text : List Int) : (macB k key text).length = 32 := sumB_len _ _
theorem byt_mac (k key text : List Int) : Byt (macB k key text) := byt_sum _ _
def seedB (i : Int) : List Int := [116, 105, 116, 104, 105, 110, 103, 32, 107, 101, 121, 32] ++ [IntKind.u8.wrap i]
def zero32 : List Int := [0, 0, 0, 0, 0, 0, 0, 0, 0, 0, 0, 0, 0, 0, 0, 0, 0, 0, 0, 0, 0, 0, 0, 0, 0, 0, 0, 0, 0, 0, 0, 0]
def keyH (k : List Int) (i : Int) : List Int := if 1 ≤ i ∧ i ≤ 21 then sumB k (seedB i) else zero32
def tagH (k : List Int) (i d : Int) (b : List Int) : List Int := if 1 ≤ i ∧ i ≤ 21 then macB k (keyH k i) ([d] ++ b) else zero32
theorem byt_zero : Byt zero32 := byt_rep 32
theorem keyH_len (k : List Int) (i : Int) : (keyH k i).length = 32 := by unfold keyH; split; exact sumB_len _ _; rfl
theorem byt_keyH (k : List Int) (i : Int) : Byt (keyH k i) := by unfold keyH; split; exact byt_sum _ _; exact byt_zero
theorem tagH_len (k : List Int) (i d : Int) (b : List Int) : (tagH k i d b).length = 32 := by unfold tagH; split; exact macB_len _ _ _; rfl
theorem byt_tagH (k : List Int) (i d : Int) (b : List Int) : Byt (tagH k i d b) := by unfold tagH; split; exact byt_mac _ _ _; exact byt_zero
theorem u8_by (i : Int) : 0 ≤ IntKind.u8.wrap i ∧ IntKind.u8.wrap i ≤ 255 := by
  simp only [IntKind.wrap, IntKind.bits, IntKind.signed]; simp; omega
theorem byt_seed (i : Int) : Byt (seedB i) := by
  refine byt_app ?_ (byt_cons (u8_by i) byt_nil)
  intro x hx
  simp only [List.mem_cons, List.not_mem_nil, or_false] at hx
  omega
end Go.Abs.Sha
