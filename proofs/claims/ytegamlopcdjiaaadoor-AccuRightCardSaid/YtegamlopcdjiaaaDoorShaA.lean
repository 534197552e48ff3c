/- The words of the hash, as whole numbers: rotations and their laws. -/
import Derived.Test.YtegamlopcdjiaaaDoorPlain6
namespace Go.Abs.Sha
open Go Go.Abs
set_option linter.unusedVariables false
set_option linter.unusedSimpArgs false
attribute [go_sem] decide_eq_true_eq decide_eq_false_iff_not ge_iff_le gt_iff_lt Int.not_le Int.not_lt Bool.not_eq_true' Bool.not_eq_false' Bool.and_eq_true Bool.and_eq_false_iff
def Wd (x : Int) : Prop := 0 ≤ x ∧ x < 4294967296
theorem wrap32 (n : Int) : IntKind.u32.wrap n = n % 4294967296 := by simp [IntKind.wrap, IntKind.bits, IntKind.signed]
def rot (x : Int) (n : Nat) : Int := x / 2 ^ n + x % 2 ^ n * 2 ^ (32 - n)
def shf (x : Int) (n : Nat) : Int := x / 2 ^ n
theorem shf_wd {x : Int} (h : Wd x) (n : Nat) : Wd (shf x n) := by
  unfold Wd shf at *
  have hp : (0 : Int) < 2 ^ n := by exact Int.pow_pos (by decide)
  have h1 : 0 ≤ x / 2 ^ n := Int.ediv_nonneg h.1 (by omega)
  have h2 : x / 2 ^ n ≤ x := Int.ediv_le_self _ h.1
  omega
theorem rot_wd {x : Int} (h : Wd x) {n : Nat} (hn : n ≤ 32) : Wd (rot x n) := by
  unfold Wd at *
  have hp : (0 : Int) < 2 ^ n := Int.pow_pos (by decide)
  have hq : (0 : Int) < 2 ^ (32 - n) := Int.pow_pos (by decide)
  have hpq : (2 : Int) ^ n * 2 ^ (32 - n) = 4294967296 := by rw [← Int.pow_add, show n + (32 - n) = 32 by omega]; rfl
  have h1 : 0 ≤ x / 2 ^ n := Int.ediv_nonneg h.1 (by omega)
  have h2 : x / 2 ^ n < 2 ^ (32 - n) := by
    apply Int.ediv_lt_of_lt_mul hp
    rw [Int.mul_comm, hpq]; exact h.2
  have h3 : 0 ≤ x % 2 ^ n := Int.emod_nonneg _ (by omega)
  have h4 : x % 2 ^ n ≤ 2 ^ n - 1 := by have := Int.emod_lt_of_pos x hp; omega
  have h5 : x % 2 ^ n * 2 ^ (32 - n) ≤ (2 ^ n - 1) * 2 ^ (32 - n) := Int.mul_le_mul_of_nonneg_right h4 (by omega)
  have h6 : 0 ≤ x % 2 ^ n * 2 ^ (32 - n) := Int.mul_nonneg h3 (by omega)
  rw [Int.sub_mul, hpq] at h5
  unfold rot; omega
theorem rot_succ {x : Int} (h : Wd x) {n : Nat} (hn : n < 32) : rot (rot x n) 1 = rot x (n + 1) := by
  have hp : (0 : Int) < 2 ^ n := Int.pow_pos (by decide)
  have e1 : (32 : Nat) - n = (32 - (n + 1)) + 1 := by omega
  have e2 : (2 : Int) ^ (32 - n) = 2 * 2 ^ (32 - (n + 1)) := by rw [e1, Int.pow_succ, Int.mul_comm]
  have hq : (0 : Int) < 2 ^ (32 - (n + 1)) := Int.pow_pos (by decide)
  have hpq : (2 : Int) ^ n * 2 ^ (32 - (n + 1)) = 2147483648 := by rw [← Int.pow_add, show n + (32 - (n + 1)) = 31 by omega]; rfl
  unfold rot
  rw [e2]
  generalize (2 : Int) ^ (32 - (n + 1)) = q at *
  have e3 : (2 : Int) ^ (n + 1) = 2 ^ n * 2 := Int.pow_succ ..
  rw [e3]
  generalize hP : (2 : Int) ^ n = P at *
  have d1 : x / (P * 2) = x / P / 2 := (Int.ediv_ediv_of_nonneg (by omega)).symm
  have d2 : x % (P * 2) = x % P + P * (x / P % 2) := by
    have a1 := Int.emod_add_mul_ediv x P
    have a2 := Int.emod_add_mul_ediv x (P * 2)
    have a3 := Int.emod_add_mul_ediv (x / P) 2
    rw [d1] at a2
    have : P * 2 * (x / P / 2) = P * (2 * (x / P / 2)) := by rw [Int.mul_assoc]
    rw [this] at a2
    have b : P * (x / P) = P * (x / P % 2) + P * (2 * (x / P / 2)) := by rw [← Int.mul_add, a3]
    omega
  rw [d1, d2, Int.add_mul]
  have c1 : x % P * (2 * q) = 2 * (x % P * q) := by rw [Int.mul_comm 2 q, ← Int.mul_assoc, Int.mul_comm]
  have c2 : P * (x / P % 2) * q = x / P % 2 * 2147483648 := by rw [Int.mul_comm P, Int.mul_assoc, hpq]
  rw [c1, c2]
  simp only [Int.pow_one, show (2 : Int) ^ (32 - 1) = 2147483648 from rfl]
  omega
theorem rot_zero (x : Int) (h : Wd x) : rot x 0 = x := by
  unfold rot; simp [Int.emod_one]
theorem or_rot {x : Int} (h : Wd x) {n : Nat} (h1 : 1 ≤ n) (h2 : n ≤ 31) :
    bOr .u32 (IntKind.u32.wrap (x * 2 ^ (32 - n))) (x.fdiv (2 ^ n)) = rot x n := by
  show IntKind.u32.wrap ((BitVec.ofInt 32 (IntKind.u32.wrap (x * 2 ^ (32 - n))) ||| BitVec.ofInt 32 (x.fdiv (2 ^ n))).toNat) = rot x n
  unfold Wd at h
  obtain ⟨X, rfl⟩ : ∃ X : Nat, x = X := ⟨x.toNat, by omega⟩
  have hX : X < 4294967296 := by omega
  have hpq : 2 ^ n * 2 ^ (32 - n) = 4294967296 := by rw [← Nat.pow_add, show n + (32 - n) = 32 by omega]
  have hp : 0 < 2 ^ n := Nat.pow_pos (by decide)
  have hq : 0 < 2 ^ (32 - n) := Nat.pow_pos (by decide)
  have e1 : IntKind.u32.wrap ((X : Int) * 2 ^ (32 - n)) = ((X % 2 ^ n * 2 ^ (32 - n) : Nat) : Int) := by
    rw [wrap32]
    have : ((X : Int) * 2 ^ (32 - n)) = ((X * 2 ^ (32 - n) : Nat) : Int) := by simp
    rw [this, show (4294967296 : Int) = ((4294967296 : Nat) : Int) from rfl, ← Int.natCast_emod, ← hpq, Nat.mul_mod_mul_right]
  have e2 : (X : Int).fdiv (2 ^ n) = ((X / 2 ^ n : Nat) : Int) := by
    rw [Int.fdiv_eq_ediv_of_nonneg _ (by have : (0 : Int) < 2 ^ n := Int.pow_pos (by decide); omega)]
    simp
  have b1 : X % 2 ^ n * 2 ^ (32 - n) < 4294967296 := by
    rw [← hpq]; exact Nat.mul_lt_mul_of_pos_right (Nat.mod_lt _ hp) hq
  have b2 : X / 2 ^ n < 2 ^ (32 - n) := by rw [Nat.div_lt_iff_lt_mul hp, Nat.mul_comm, hpq]; exact hX
  have b3 : X / 2 ^ n < 4294967296 := Nat.lt_of_le_of_lt (Nat.div_le_self _ _) hX
  have e3 : (BitVec.ofInt 32 ((X % 2 ^ n * 2 ^ (32 - n) : Nat) : Int) ||| BitVec.ofInt 32 ((X / 2 ^ n : Nat) : Int)).toNat = X % 2 ^ n * 2 ^ (32 - n) + X / 2 ^ n := by
    rw [BitVec.toNat_or, BitVec.ofInt_natCast, BitVec.ofInt_natCast, BitVec.toNat_ofNat, BitVec.toNat_ofNat, Nat.mod_eq_of_lt b1, Nat.mod_eq_of_lt b3,
      ← Nat.shiftLeft_eq, ← Nat.shiftLeft_add_eq_or_of_lt b2]
  rw [e1, e2, e3, wrap32]
  have b4 : X % 2 ^ n * 2 ^ (32 - n) + X / 2 ^ n < 4294967296 := by
    have : X % 2 ^ n + 1 ≤ 2 ^ n := Nat.mod_lt _ hp
    have := Nat.mul_le_mul_right (2 ^ (32 - n)) this
    rw [hpq, Nat.add_mul] at this
    omega
  rw [Int.emod_eq_of_lt (by omega) (by omega)]
  unfold rot
  push_cast
  omega
/-! bits of words -/
theorem ch_same (e f g : BitVec 32) : (e &&& f) ^^^ (~~~e &&& g) = (e &&& f) ||| (~~~e &&& g) := by
  apply BitVec.eq_of_getLsbD_eq
  intro i hi
  simp only [BitVec.getLsbD_xor, BitVec.getLsbD_and, BitVec.getLsbD_or, BitVec.getLsbD_not]
  cases e.getLsbD i <;> cases f.getLsbD i <;> cases g.getLsbD i <;> simp
theorem maj_same (a b c : BitVec 32) : (a &&& b) ^^^ (a &&& c) ^^^ (b &&& c) = (a &&& b) ||| (a &&& c) ||| (b &&& c) := by
  apply BitVec.eq_of_getLsbD_eq
  intro i hi
  simp only [BitVec.getLsbD_xor, BitVec.getLsbD_and, BitVec.getLsbD_or]
  cases a.getLsbD i <;> cases b.getLsbD i <;> cases c.getLsbD i <;> simp
theorem wrap_toNat (b : BitVec 32) : IntKind.u32.wrap (b.toNat : Int) = b.toNat := by
  rw [wrap32]; have := b.isLt; omega
theorem ofInt_toNat (b : BitVec 32) : BitVec.ofInt 32 (b.toNat : Int) = b := by
  rw [BitVec.ofInt_natCast, BitVec.ofNat_toNat]; simp
theorem xr_b (a b : BitVec 32) : bXor .u32 a.toNat b.toNat = (a ^^^ b).toNat := by
  show IntKind.u32.wrap ((BitVec.ofInt 32 (a.toNat : Int) ^^^ BitVec.ofInt 32 (b.toNat : Int)).toNat) = _
  rw [ofInt_toNat, ofInt_toNat, wrap_toNat]
theorem an_b (a b : BitVec 32) : bAnd .u32 a.toNat b.toNat = (a &&& b).toNat := by
  show IntKind.u32.wrap ((BitVec.ofInt 32 (a.toNat : Int) &&& BitVec.ofInt 32 (b.toNat : Int)).toNat) = _
  rw [ofInt_toNat, ofInt_toNat, wrap_toNat]
theorem ro_b (a b : BitVec 32) : bOr .u32 a.toNat b.toNat = (a ||| b).toNat := by
  show IntKind.u32.wrap ((BitVec.ofInt 32 (a.toNat : Int) ||| BitVec.ofInt 32 (b.toNat : Int)).toNat) = _
  rw [ofInt_toNat, ofInt_toNat, wrap_toNat]
theorem nt_b (a : BitVec 32) : bNot .u32 a.toNat = (~~~a).toNat := by
  show IntKind.u32.wrap ((BitVec.ofInt 32 4294967295 ^^^ BitVec.ofInt 32 (a.toNat : Int)).toNat) = _
  rw [ofInt_toNat, show BitVec.ofInt 32 4294967295 = BitVec.allOnes 32 from by decide, BitVec.allOnes_xor, wrap_toNat]
theorem sub_b (a : BitVec 32) : IntKind.u32.wrap (4294967295 - (a.toNat : Int)) = (~~~a).toNat := by
  rw [wrap32, BitVec.toNat_not]; have := a.isLt; omega
theorem wd_b {x : Int} (h : Wd x) : ∃ b : BitVec 32, x = b.toNat := by
  unfold Wd at h
  exact ⟨BitVec.ofNat 32 x.toNat, by rw [BitVec.toNat_ofNat]; omega⟩
theorem ch_eq {e f g : Int} (he : Wd e) (hf : Wd f) (hg : Wd g) : bOr .u32 (bAnd .u32 e f) (bAnd .u32 (IntKind.u32.wrap (4294967295 - e)) g) = bXor .u32 (bAnd .u32 e f) (bAnd .u32 (bNot .u32 e) g) := by
  obtain ⟨e, rfl⟩ := wd_b he
  obtain ⟨f, rfl⟩ := wd_b hf
  obtain ⟨g, rfl⟩ := wd_b hg
  rw [sub_b, nt_b, an_b, an_b, ro_b, xr_b, ch_same]
theorem maj_eq {a b c : Int} (ha : Wd a) (hb : Wd b) (hc : Wd c) : bOr .u32 (bOr .u32 (bAnd .u32 a b) (bAnd .u32 a c)) (bAnd .u32 b c) = bXor .u32 (bXor .u32 (bAnd .u32 a b) (bAnd .u32 a c)) (bAnd .u32 b c) := by
  obtain ⟨a, rfl⟩ := wd_b ha
  obtain ⟨b, rfl⟩ := wd_b hb
  obtain ⟨c, rfl⟩ := wd_b hc
  rw [an_b, an_b, an_b, ro_b, ro_b, xr_b, xr_b, maj_same]
/-! ### the hash -/
def word4 (b : List Int) (i : Nat) : Int := b.getD (4 * i) 0 * 16777216 + b.getD (4 * i + 1) 0 * 65536 + b.getD (4 * i + 2) 0 * 256 + b.getD (4 * i + 3) 0
def sig0 (x : Int) : Int := bXor .u32 (bXor .u32 (rot x 7) (rot x 18)) (shf x 3)
def sig1 (x : Int) : Int := bXor .u32 (bXor .u32 (rot x 17) (rot x 19)) (shf x 10)
def nextW (w : List Int) (i : Nat) : Int := (w.getD (i - 16) 0 + sig0 (w.getD (i - 15) 0) + w.getD (i - 7) 0 + sig1 (w.getD (i - 2) 0)) % 4294967296
def sched (b : List Int) : Nat → List Int
  | 0 => List.replicate 64 0
  | i + 1 => (sched b i).set i (if i < 16 then word4 b i else nextW (sched b i) i)
structure Regs where
  a : Int
  b : Int
  c : Int
  d : Int
  e : Int
  f : Int
  g : Int
  h : Int
def big0 (x : Int) : Int := bXor .u32 (bXor .u32 (rot x 2) (rot x 13)) (rot x 22)
def big1 (x : Int) : Int := bXor .u32 (bXor .u32 (rot x 6) (rot x 11)) (rot x 25)
def cho (e f g : Int) : Int := bXor .u32 (bAnd .u32 e f) (bAnd .u32 (bNot .u32 e) g)
def maj (a b c : Int) : Int := bXor .u32 (bXor .u32 (bAnd .u32 a b) (bAnd .u32 a c)) (bAnd .u32 b c)
def tee (s : Regs) (k w : Int) : Int := (s.h + big1 s.e + cho s.e s.f s.g + k + w) % 4294967296
def you (s : Regs) : Int := (big0 s.a + maj s.a s.b s.c) % 4294967296
def rnd (s : Regs) (k w : Int) : Regs := ⟨(tee s k w + you s) % 4294967296, s.a, s.b, s.c, (s.d + tee s k w) % 4294967296, s.e, s.f, s.g⟩
def rnds (k w : List Int) (s : Regs) : Nat → Regs
  | 0 => s
  | i + 1 => rnd (rnds k w s i) (k.getD i 0) (w.getD i 0)
def Regs.ok (s : Regs) : Prop := Wd s.a ∧ Wd s.b ∧ Wd s.c ∧ Wd s.d ∧ Wd s.e ∧ Wd s.f ∧ Wd s.g ∧ Wd s.h
theorem wd_mod (n : Int) : Wd (n % 4294967296) := by unfold Wd; omega
theorem rnd_ok {s : Regs} (h : s.ok) (k w : Int) : (rnd s k w).ok := by
  obtain ⟨h1, h2, h3, h4, h5, h6, h7, h8⟩ := h
  exact ⟨wd_mod _, h1, h2, h3, wd_mod _, h5, h6, h7⟩
theorem rnds_ok {k w : List Int} {s : Regs} (h : s.ok) : ∀ i, (rnds k w s i).ok
  | 0 => h
  | i + 1 => rnd_ok (rnds_ok h i) _ _
def ofL (s : List Int) : Regs := ⟨s.getD 0 0, s.getD 1 0, s.getD 2 0, s.getD 3 0, s.getD 4 0, s.getD 5 0, s.getD 6 0, s.getD 7 0⟩
def toL (s : Regs) : List Int := [s.a, s.b, s.c, s.d, s.e, s.f, s.g, s.h]
def block (k : List Int) (s b : List Int) : List Int :=
  let r := rnds k (sched b 64) (ofL s) 64
  [(s.getD 0 0 + r.a) % 4294967296, (s.getD 1 0 + r.b) % 4294967296, (s.getD 2 0 + r.c) % 4294967296, (s.getD 3 0 + r.d) % 4294967296, (s.getD 4 0 + r.e) % 4294967296, (s.getD 5 0 + r.f) % 4294967296, (s.getD 6 0 + r.g) % 4294967296, (s.getD 7 0 + r.h) % 4294967296]
theorem sched_len (b : List Int) : ∀ i, (sched b i).length = 64
  | 0 => by simp [sched]
  | i + 1 => by simp [sched, sched_len b i]
def Byt (b : List Int) : Prop := ∀ x ∈ b, 0 ≤ x ∧ x ≤ 255
theorem byt_getD {b : List Int} (h : Byt b) (i : Nat) : 0 ≤ b.getD i 0 ∧ b.getD i 0 ≤ 255 := by
  rw [List.getD_eq_getElem?_getD]
  cases hi : b[i]? with
  | none => simp
  | some x => exact h x (List.mem_of_getElem? hi)
theorem word4_wd {b : List Int} (h : Byt b) (i : Nat) : Wd (word4 b i) := by
  have h0 := byt_getD h (4 * i); have h1 := byt_getD h (4 * i + 1); have h2 := byt_getD h (4 * i + 2); have h3 := byt_getD h (4 * i + 3)
  unfold Wd word4; omega
theorem sched_wd {b : List Int} (h : Byt b) : ∀ i, ∀ x ∈ sched b i, Wd x
  | 0, x, hx => by simp [sched] at hx; subst hx; unfold Wd; omega
  | i + 1, x, hx => by
    rcases List.mem_or_eq_of_mem_set hx with hx | rfl
    · exact sched_wd h i x hx
    · split
      · exact word4_wd h i
      · exact wd_mod _
theorem wd_getD {w : List Int} (h : ∀ x ∈ w, Wd x) (i : Nat) : Wd (w.getD i 0) := by
  rw [List.getD_eq_getElem?_getD]
  cases hi : w[i]? with
  | none => unfold Wd; simp
  | some x => exact h x (List.mem_of_getElem? hi)
theorem or_byte {x c : Int} (hx : 0 ≤ x ∧ x < 16777216) (hc : 0 ≤ c ∧ c ≤ 255) : bOr .u32 (IntKind.u32.wrap (x * 256)) (IntKind.u32.wrap c) = x * 256 + c := by
  obtain ⟨X, rfl⟩ : ∃ X : Nat, x = X := ⟨x.toNat, by omega⟩
  obtain ⟨C, rfl⟩ : ∃ C : Nat, c = C := ⟨c.toNat, by omega⟩
  have e1 : IntKind.u32.wrap ((X : Int) * 256) = ((X * 256 : Nat) : Int) := by rw [wrap32]; omega
  have e2 : IntKind.u32.wrap (C : Int) = (C : Int) := by rw [wrap32]; omega
  show IntKind.u32.wrap ((BitVec.ofInt 32 (IntKind.u32.wrap ((X : Int) * 256)) ||| BitVec.ofInt 32 (IntKind.u32.wrap (C : Int))).toNat) = _
  have e3 : (BitVec.ofInt 32 ((X * 256 : Nat) : Int) ||| BitVec.ofInt 32 (C : Int)).toNat = X * 256 + C := by
    rw [BitVec.toNat_or, BitVec.ofInt_natCast, BitVec.ofInt_natCast, BitVec.toNat_ofNat, BitVec.toNat_ofNat, Nat.mod_eq_of_lt (by omega), Nat.mod_eq_of_lt (by omega),
      show X * 256 = X * 2 ^ 8 from rfl, ← Nat.shiftLeft_eq, ← Nat.shiftLeft_add_eq_or_of_lt (by omega)]
  rw [e1, e2, e3, wrap32]; omega
theorem getD_set_self {w : List Int} {i : Nat} {a : Int} (h : i < w.length) : (w.set i a).getD i 0 = a := by
  rw [List.getD_eq_getElem?_getD, List.getElem?_set_self h]; rfl
theorem sched_get0 {b : List Int} : ∀ {i j : Nat}, i ≤ j → (sched b i).getD j 0 = 0
  | 0, j, _ => by
    rw [List.getD_eq_getElem?_getD]
    show ((List.replicate 64 0)[j]?).getD 0 = 0
    rw [List.getElem?_replicate]; split <;> rfl
  | i + 1, j, h => by
    rw [List.getD_eq_getElem?_getD]
    show (((sched b i).set i _)[j]?).getD 0 = 0
    rw [List.getElem?_set_ne (by omega), ← List.getD_eq_getElem?_getD]; exact sched_get0 (by omega)
theorem fd_shf {x : Int} (h : Wd x) (n : Nat) (hn : n ≤ 32) : x.fdiv (2 ^ min n 32) = shf x n := by
  rw [Nat.min_eq_left hn, Int.fdiv_eq_ediv_of_nonneg _ (by have : (0 : Int) < 2 ^ n := Int.pow_pos (by decide); omega)]; rfl
theorem pw8 : (2 : Int) ^ min 8 32 = 256 := rfl
end Go.Abs.Sha
