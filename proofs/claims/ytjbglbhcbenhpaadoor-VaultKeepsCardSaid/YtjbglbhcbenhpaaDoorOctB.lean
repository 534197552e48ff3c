/- Objects looked up behind a change; bits of numbers. -/
import Derived.Test.YtjbglbhcbenhpaaDoorOctA
namespace Go.Abs
namespace Sha
open Go
theorem and127 {c : Int} (h : 0 ≤ c ∧ c ≤ 255) : bAnd .u8 c 127 = ((c.toNat % 128 : Nat) : Int) := by
  have hd : ∀ k : Fin 256, bAnd .u8 (k.val : Int) 127 = ((k.val % 128 : Nat) : Int) := by decide +kernel
  have := hd ⟨c.toNat, by omega⟩
  simp only at this
  rw [show ((c.toNat : Nat) : Int) = c by omega] at this
  exact this
theorem pow128 (i : Nat) : (2 : Nat) ^ (7 * i) = 128 ^ i := by rw [Nat.pow_mul]
theorem or7 {acc i d : Nat} (hi : i ≤ 9) (ha : acc < 128 ^ i) (hd : d < 128) (h9 : i = 9 → d ≤ 1) :
    bOr .u64 (acc : Int) (IntKind.u64.wrap ((d : Int) * 2 ^ (min (7 * i) 64))) = ((acc + d * 128 ^ i : Nat) : Int) := by
  have e0 : min (7 * i) 64 = 7 * i := by omega
  have hP := pow_le9 hi
  have hlt : d * 128 ^ i < 18446744073709551616 := by
    by_cases h : i = 9
    · subst h
      have : (128 : Nat) ^ 9 = 9223372036854775808 := by decide
      have := h9 rfl; omega
    · have h1 : d * 128 ^ i ≤ 127 * 128 ^ i := Nat.mul_le_mul_right _ (by omega)
      have h2 : 127 * 128 ^ i < 18446744073709551616 := by
        rcases p9 hi with rfl | rfl | rfl | rfl | rfl | rfl | rfl | rfl | rfl | rfl <;> first | exact absurd rfl h | decide
      omega
  have e1 : ((d : Int) * 2 ^ (7 * i)) = ((d * 128 ^ i : Nat) : Int) := by
    rw [← pow128]; simp
  have w : ∀ n : Nat, n < 18446744073709551616 → IntKind.u64.wrap (n : Int) = n := fun n hn => by
    simp only [IntKind.wrap, IntKind.bits, IntKind.signed]; simp; omega
  rw [e0, e1, w _ hlt]
  show IntKind.u64.wrap ((BitVec.ofInt 64 (acc : Int) ||| BitVec.ofInt 64 ((d * 128 ^ i : Nat) : Int)).toNat) = _
  have hacc : acc < 18446744073709551616 := by omega
  have e2 : acc ||| d * 128 ^ i = acc + d * 128 ^ i := by
    rw [Nat.or_comm, ← pow128, ← Nat.shiftLeft_eq, ← Nat.shiftLeft_add_eq_or_of_lt (by rw [pow128]; exact ha), Nat.add_comm]
  have hsum : acc + d * 128 ^ i < 18446744073709551616 := by
    by_cases h : i = 9
    · subst h
      have : (128 : Nat) ^ 9 = 9223372036854775808 := by decide
      have := h9 rfl; omega
    · have h1 : d * 128 ^ i ≤ 127 * 128 ^ i := Nat.mul_le_mul_right _ (by omega)
      have h2 : 128 * 128 ^ i ≤ 9223372036854775808 := by
        rcases p9 hi with rfl | rfl | rfl | rfl | rfl | rfl | rfl | rfl | rfl | rfl <;> first | exact absurd rfl h | decide
      omega
  rw [BitVec.toNat_or, BitVec.ofInt_natCast, BitVec.ofInt_natCast, BitVec.toNat_ofNat, BitVec.toNat_ofNat, Nat.mod_eq_of_lt hacc, Nat.mod_eq_of_lt hlt, e2, w _ hsum]
theorem w64u {n : Nat} (hn : n < 18446744073709551616) : IntKind.u64.wrap (n : Int) = n := by
  simp only [IntKind.wrap, IntKind.bits, IntKind.signed]; simp; omega
theorem drop_cons {b : List Int} {i : Nat} (h : i < b.length) : b.drop i = b.getD i 0 :: b.drop (i + 1) := by
  rw [List.drop_eq_getElem_cons h]; simp [h]
end Sha
end Go.Abs
namespace Go.Abs.Sha
open Go
set_option linter.unusedVariables false
theorem num_inj : ∀ {a b : Nat}, num a = num b → a = b := by
  intro a
  induction a using Nat.strongRecOn with
  | _ a ih =>
    intro b h
    by_cases ha : a < 128
    · by_cases hb : b < 128
      · rw [num_small ha, num_small hb] at h
        have := (List.cons.inj h).1; omega
      · rw [num_small ha, num_big hb] at h
        have := congrArg List.length h
        have h2 := num_pos (b / 128)
        simp at this; simp [this] at h2
    · by_cases hb : b < 128
      · rw [num_big ha, num_small hb] at h
        have := congrArg List.length h
        have h2 := num_pos (a / 128)
        simp at this; simp [this] at h2
      · rw [num_big ha, num_big hb] at h
        obtain ⟨h1, h2⟩ := List.cons.inj h
        have := ih (a / 128) (by omega) h2
        omega
theorem num_last : ∀ {n : Nat} {l : List Int}, num n = l ++ [0] → l = [] := by
  intro n
  induction n using Nat.strongRecOn with
  | _ n ih =>
    intro l h
    by_cases hn : n < 128
    · rw [num_small hn] at h
      cases l with
      | nil => rfl
      | cons a l => have := congrArg List.length h; simp at this
    · rw [num_big hn] at h
      cases l with
      | nil => have := congrArg List.length h; have h2 := num_pos (n / 128); simp at this; simp [this] at h2
      | cons a l =>
        simp only [List.cons_append, List.cons.injEq] at h
        have hl := ih (n / 128) (by omega) h.2
        subst hl
        have h3 := h.2
        simp only [List.nil_append] at h3
        by_cases h4 : n / 128 < 128
        · rw [num_small h4] at h3
          have := (List.cons.inj h3).1; omega
        · rw [num_big h4] at h3
          have := congrArg List.length h3; have h2 := num_pos (n / 128 / 128); simp at this; simp [this] at h2
theorem set_step {a z : List Int} {i : Nat} (hi : i < z.length) (hia : i < a.length) : (a.take i ++ z.drop i).set i (a.getD i 0) = a.take (i + 1) ++ z.drop (i + 1) := by
  rw [List.set_append_right _ _ (by rw [List.length_take]; omega), drop_cons hi]
  have e : i - (a.take i).length = 0 := by rw [List.length_take]; omega
  rw [e, List.set_cons_zero, List.take_add_one, List.append_assoc]
  congr 1
  simp [hia]
theorem rdUpto_suf {top : Int} {s : Rd} (hb : Byt s.1) : ∃ u, s.1 = u ++ (rdUpto top s).2.1 := by
  unfold rdUpto
  split
  · exact ⟨[], rfl⟩
  · split
    · exact ⟨[], rfl⟩
    · split
      · exact ⟨[], rfl⟩
      · exact ⟨s.1.take _, (List.take_append_drop ..).symm⟩
theorem rdNum_suf {s : Rd} (hb : Byt s.1) : ∃ u, s.1 = u ++ (rdNum s).2.1 := by
  unfold rdNum
  split
  · exact ⟨[], rfl⟩
  · split
    · exact ⟨[], rfl⟩
    · exact ⟨s.1.take _, (List.take_append_drop ..).symm⟩
theorem rdHash_suf {s : Rd} : ∃ u, s.1 = u ++ (rdHash s).2.1 := by
  unfold rdHash
  split
  · exact ⟨[], rfl⟩
  · split
    · exact ⟨[], rfl⟩
    · exact ⟨s.1.take _, (List.take_append_drop ..).symm⟩
/-- A reader that is a value: all bytes, and where it is. -/
def rrV (B : List Int) (s : Rd) : V := .agg [.sli .u8 B, .int .i64 ((B.length : Int) - s.1.length), .bool s.2]
end Go.Abs.Sha
namespace Go.Abs.Sha
open Go
set_option linter.unusedVariables false
theorem rdUpto_all {top n : Int} {b r : List Int} {w w' : Bool} (e : rdUpto top (b, w) = (n, r, w')) (hb : Byt b) (ht : 0 ≤ top) :
    Byt r ∧ r.length ≤ b.length ∧ 0 ≤ n ∧ n ≤ top ∧ (∃ u, b = u ++ r) ∧ (w' = false → w = false ∧ b = num n.toNat ++ r) := by
  have h1 := rdUpto_ok (top := top) (s := (b, w)) hb
  have h2 := rdUpto_suf (top := top) (s := (b, w)) hb
  have h3 := rdUpto_right (top := top) (s := (b, w)) hb
  rw [e] at h1 h2 h3
  exact ⟨h1.1, h1.2.1, h1.2.2.1, h1.2.2.2 ht, h2, fun hw => ⟨(h3 hw).1, (h3 hw).2.1⟩⟩
theorem rdHash_all {hh : List Int} {b r : List Int} {w w' : Bool} (e : rdHash (b, w) = (hh, r, w')) (hb : Byt b) :
    Byt r ∧ r.length ≤ b.length ∧ H32 hh ∧ (∃ u, b = u ++ r) ∧ (w' = false → w = false ∧ b = hh ++ r) := by
  have h1 := rdHash_ok (s := (b, w)) hb
  have h2 := rdHash_suf (s := (b, w))
  have h3 := rdHash_right (s := (b, w))
  rw [e] at h1 h2 h3
  exact ⟨h1.1, h1.2.1, h1.2.2, h2, fun hw => ⟨(h3 hw).1, (h3 hw).2.1⟩⟩
/-- An attestation that is read. -/
def rdAtt (s : Rd) : AttS × Rd :=
  let p1 := rdUpto 21 s
  let p2 := rdUpto 3 p1.2
  let p3 := rdUpto 1099511627776 p2.2
  let p4 := rdUpto 3 p3.2
  let p5 := rdHash p4.2
  let p6 := rdUpto 1099511627776 p5.2
  let p7 := rdHash p6.2
  let p8 := rdHash p7.2
  (⟨p1.1, p2.1, p3.1, p4.1, p5.1, p6.1, p7.1, p8.1⟩, p8.2)
theorem i64_of {n : Int} (h : 0 ≤ n) (h2 : n ≤ 1099511627776) : I64 n := ⟨by omega, by omega⟩
structure RdAtt (b : List Int) (w : Bool) (a : AttS) (r : List Int) (w' : Bool) : Prop where
  wf : a.wf
  byt : Byt r
  len : r.length ≤ b.length
  suf : ∃ u, b = u ++ r
  right : w' = false → w = false ∧ b = num a.who.toNat ++ a.said ++ a.ta ++ r
theorem rdAtt_all {b r : List Int} {w w' : Bool} {a : AttS} (e : rdAtt (b, w) = (a, r, w')) (hb : Byt b) : RdAtt b w a r w' := by
  unfold rdAtt at e
  rcases e1 : rdUpto 21 (b, w) with ⟨n1, r1, w1⟩
  rcases e2 : rdUpto 3 (r1, w1) with ⟨n2, r2, w2⟩
  rcases e3 : rdUpto 1099511627776 (r2, w2) with ⟨n3, r3, w3⟩
  rcases e4 : rdUpto 3 (r3, w3) with ⟨n4, r4, w4⟩
  rcases e5 : rdHash (r4, w4) with ⟨n5, r5, w5⟩
  rcases e6 : rdUpto 1099511627776 (r5, w5) with ⟨n6, r6, w6⟩
  rcases e7 : rdHash (r6, w6) with ⟨n7, r7, w7⟩
  rcases e8 : rdHash (r7, w7) with ⟨n8, r8, w8⟩
  simp only [e1, e2, e3, e4, e5, e6, e7, e8, Prod.mk.injEq] at e
  obtain ⟨rfl, rfl, rfl⟩ := e
  obtain ⟨a1, a2, a3, a4, ⟨u1, a5⟩, a6⟩ := rdUpto_all e1 hb (by omega)
  obtain ⟨b1, b2, b3, b4, ⟨u2, b5⟩, b6⟩ := rdUpto_all e2 a1 (by omega)
  obtain ⟨c1, c2, c3, c4, ⟨u3, c5⟩, c6⟩ := rdUpto_all e3 b1 (by omega)
  obtain ⟨d1, d2, d3, d4, ⟨u4, d5⟩, d6⟩ := rdUpto_all e4 c1 (by omega)
  obtain ⟨f1, f2, f3, ⟨u5, f5⟩, f6⟩ := rdHash_all e5 d1
  obtain ⟨g1, g2, g3, g4, ⟨u6, g5⟩, g6⟩ := rdUpto_all e6 f1 (by omega)
  obtain ⟨k1, k2, k3, ⟨u7, k5⟩, k6⟩ := rdHash_all e7 g1
  obtain ⟨l1, l2, l3, ⟨u8, l5⟩, l6⟩ := rdHash_all e8 k1
  have q1 : I64 n1 := i64_of a3 (by omega)
  have q2 : I64 n2 := i64_of b3 (by omega)
  have q3 : I64 n3 := i64_of c3 (by omega)
  have q4 : I64 n4 := i64_of d3 (by omega)
  have q5 : I64 n6 := i64_of g3 (by omega)
  refine ⟨⟨q1, q2, q3, q4, q5, f3, k3, l3⟩, l1, by omega, ?_, fun hw => ?_⟩
  · exact ⟨u1 ++ u2 ++ u3 ++ u4 ++ u5 ++ u6 ++ u7 ++ u8, by simp only [List.append_assoc]; rw [← l5, ← k5, ← g5, ← f5, ← d5, ← c5, ← b5, ← a5]⟩
  · obtain ⟨x7, y8⟩ := l6 hw; obtain ⟨x6, y7⟩ := k6 x7; obtain ⟨x5, y6⟩ := g6 x6; obtain ⟨x4, y5⟩ := f6 x5
    obtain ⟨x3, y4⟩ := d6 x4; obtain ⟨x2, y3⟩ := c6 x3; obtain ⟨x1, y2⟩ := b6 x2; obtain ⟨x0, y1⟩ := a6 x1
    refine ⟨x0, ?_⟩
    simp only [AttS.said, List.append_assoc]
    rw [← y8, ← y7, ← y6, ← y5, ← y4, ← y3, ← y2, ← y1]
/-- What was put is read. -/
theorem rdAtt_of {a : AttS} {r : List Int} (hw : a.wf) (hm : a.May) : rdAtt (num a.who.toNat ++ a.said ++ a.ta ++ r, false) = (a, (r, false)) := by
  obtain ⟨m1, m2, m3, m4, m5, m6⟩ := hm
  unfold rdAtt
  simp only [AttS.said, List.append_assoc]
  have T : ∀ {n top : Int} {r : List Int}, 0 ≤ n → n ≤ top → n ≤ 1099511627776 → rdUpto top (num n.toNat ++ r, false) = (n, (r, false)) := by
    intro n top r h1 h2 h3
    have := rdUpto_of (top := top) (n := n.toNat) (r := r) (by omega) (by omega)
    rw [this, show ((n.toNat : Nat) : Int) = n by omega]
  rw [T (by omega) (by omega) (by omega)]; simp only
  rw [T (by omega) (by omega) (by omega)]; simp only
  rw [T (by omega) (by omega) (by omega)]; simp only
  rw [T (by omega) (by omega) (by omega)]; simp only
  rw [rdHash_of hw.ha.2]; simp only
  rw [T (by omega) (by omega) (by omega)]; simp only
  rw [rdHash_of hw.pa.2]; simp only
  rw [rdHash_of hw.ta.2]
/-- An attestation's bytes. -/
def AttS.bytes (a : AttS) : List Int := num a.who.toNat ++ a.said ++ a.ta
/-- A seal. -/
structure SealS where
  vi : Int
  ph : Int
  pv : Int
  pa : List Int
def SealS.v (s : SealS) : V := .agg [.int .i64 s.vi, .int .i64 s.ph, .int .i64 s.pv, .arr .u8 32 s.pa]
structure SealS.wf (s : SealS) : Prop where
  vi : I64 s.vi
  ph : I64 s.ph
  pv : I64 s.pv
  pa : H32 s.pa
def SealS.zero : SealS := ⟨0, 0, 0, zero32⟩
theorem SealS.zero_wf : SealS.zero.wf := ⟨by decide, by decide, by decide, h32_zero⟩
def SealS.May (s : SealS) : Prop := (s.vi = 0 ∧ s.ph = 0 ∧ s.pv = 0 ∧ s.pa = zero32) ∨ ((1 ≤ s.vi ∧ s.vi ≤ 1099511627776) ∧ (1 ≤ s.ph ∧ s.ph ≤ 3) ∧ 0 ≤ s.pv ∧ (s.pv < s.vi ∨ s.pv = s.vi ∧ s.ph = 3))
instance (s : SealS) : Decidable s.May := by unfold SealS.May; infer_instance
def SealS.may (s : SealS) : Bool := decide s.May
def SealS.said (ve : Int) (s : SealS) : List Int := num ve.toNat ++ num s.vi.toNat ++ num s.ph.toNat ++ num s.pv.toNat ++ s.pa
/-- A seal's blob. -/
def SealS.blob (kt : List Int) (i ve : Int) (s : SealS) : List Int := s.said ve ++ tagH kt i 3 (s.said ve)
theorem SealS.bounds {s : SealS} (h : s.May) : (0 ≤ s.vi ∧ s.vi ≤ 1099511627776) ∧ (0 ≤ s.ph ∧ s.ph ≤ 3) ∧ 0 ≤ s.pv ∧ s.pv ≤ 1099511627776 := by
  rcases h with ⟨h1, h2, h3, _⟩ | ⟨h1, h2, h3, h4⟩ <;> omega
theorem SealS.said_ok {s : SealS} {ve : Int} (hw : s.wf) (hm : s.May) (hv : 0 ≤ ve ∧ ve ≤ 1099511627776) : Byt (s.said ve) ∧ (s.said ve).length ≤ 72 := by
  obtain ⟨h1, h2, h3⟩ := SealS.bounds hm
  obtain ⟨a1, a2⟩ := num_ok (n := ve.toNat) (by omega)
  obtain ⟨b1, b2⟩ := num_ok (n := s.vi.toNat) (by omega)
  obtain ⟨c1, c2⟩ := num_ok (n := s.ph.toNat) (by omega)
  obtain ⟨d1, d2⟩ := num_ok (n := s.pv.toNat) (by omega)
  refine ⟨byt_app (byt_app (byt_app (byt_app a1 b1) c1) d1) hw.pa.1, ?_⟩
  have := hw.pa.2
  simp only [SealS.said, List.length_append]; omega
/-- A blob that is read: its version, its seal, its tag. -/
def rdBlob (s : Rd) : Int × SealS × List Int × Rd :=
  let p0 := rdUpto 1099511627776 s
  let p1 := rdUpto 1099511627776 p0.2
  let p2 := rdUpto 3 p1.2
  let p3 := rdUpto 1099511627776 p2.2
  let p4 := rdHash p3.2
  let p5 := rdHash p4.2
  (p0.1, ⟨p1.1, p2.1, p3.1, p4.1⟩, p5.1, p5.2)
structure RdBlob (b : List Int) (w : Bool) (ve : Int) (s : SealS) (ta r : List Int) (w' : Bool) : Prop where
  wf : s.wf
  vr : 0 ≤ ve ∧ ve ≤ 1099511627776
  tg : H32 ta
  byt : Byt r
  len : r.length ≤ b.length
  suf : ∃ u, b = u ++ r
  right : w' = false → w = false ∧ b = s.said ve ++ ta ++ r
theorem rdBlob_all {b r ta : List Int} {w w' : Bool} {ve : Int} {s : SealS} (e : rdBlob (b, w) = (ve, s, ta, r, w')) (hb : Byt b) : RdBlob b w ve s ta r w' := by
  unfold rdBlob at e
  rcases e1 : rdUpto 1099511627776 (b, w) with ⟨n1, r1, w1⟩
  rcases e2 : rdUpto 1099511627776 (r1, w1) with ⟨n2, r2, w2⟩
  rcases e3 : rdUpto 3 (r2, w2) with ⟨n3, r3, w3⟩
  rcases e4 : rdUpto 1099511627776 (r3, w3) with ⟨n4, r4, w4⟩
  rcases e5 : rdHash (r4, w4) with ⟨n5, r5, w5⟩
  rcases e6 : rdHash (r5, w5) with ⟨n6, r6, w6⟩
  simp only [e1, e2, e3, e4, e5, e6, Prod.mk.injEq] at e
  obtain ⟨rfl, rfl, rfl, rfl, rfl⟩ := e
  obtain ⟨a1, a2, a3, a4, ⟨u1, a5⟩, a6⟩ := rdUpto_all e1 hb (by omega)
  obtain ⟨b1, b2, b3, b4, ⟨u2, b5⟩, b6⟩ := rdUpto_all e2 a1 (by omega)
  obtain ⟨c1, c2, c3, c4, ⟨u3, c5⟩, c6⟩ := rdUpto_all e3 b1 (by omega)
  obtain ⟨d1, d2, d3, d4, ⟨u4, d5⟩, d6⟩ := rdUpto_all e4 c1 (by omega)
  obtain ⟨f1, f2, f3, ⟨u5, f5⟩, f6⟩ := rdHash_all e5 d1
  obtain ⟨k1, k2, k3, ⟨u7, k5⟩, k6⟩ := rdHash_all e6 f1
  have q2 : I64 n2 := i64_of b3 (by omega)
  have q3 : I64 n3 := i64_of c3 (by omega)
  have q4 : I64 n4 := i64_of d3 (by omega)
  refine ⟨⟨q2, q3, q4, f3⟩, ⟨a3, a4⟩, k3, k1, by omega, ?_, fun hw => ?_⟩
  · exact ⟨u1 ++ u2 ++ u3 ++ u4 ++ u5 ++ u7, by simp only [List.append_assoc]; rw [← k5, ← f5, ← d5, ← c5, ← b5, ← a5]⟩
  · obtain ⟨x5, y6⟩ := k6 hw; obtain ⟨x4, y5⟩ := f6 x5
    obtain ⟨x3, y4⟩ := d6 x4; obtain ⟨x2, y3⟩ := c6 x3; obtain ⟨x1, y2⟩ := b6 x2; obtain ⟨x0, y1⟩ := a6 x1
    refine ⟨x0, ?_⟩
    simp only [SealS.said, List.append_assoc]
    rw [← y6, ← y5, ← y4, ← y3, ← y2, ← y1]
theorem rdBlob_of {s : SealS} {ve : Int} {ta r : List Int} (hw : s.wf) (hm : s.May) (hv : 0 ≤ ve ∧ ve ≤ 1099511627776) (ht : ta.length = 32) : rdBlob (s.said ve ++ ta ++ r, false) = (ve, s, ta, (r, false)) := by
  obtain ⟨h1, h2, h3⟩ := SealS.bounds hm
  unfold rdBlob
  simp only [SealS.said, List.append_assoc]
  have T : ∀ {n top : Int} {r : List Int}, 0 ≤ n → n ≤ top → n ≤ 1099511627776 → rdUpto top (num n.toNat ++ r, false) = (n, (r, false)) := by
    intro n top r h1 h2 h3
    have := rdUpto_of (top := top) (n := n.toNat) (r := r) (by omega) (by omega)
    rw [this, show ((n.toNat : Nat) : Int) = n by omega]
  rw [T (by omega) (by omega) (by omega)]; simp only
  rw [T (by omega) (by omega) (by omega)]; simp only
  rw [T (by omega) (by omega) (by omega)]; simp only
  rw [T (by omega) (by omega) (by omega)]; simp only
  rw [rdHash_of hw.pa.2]; simp only
  rw [rdHash_of ht]
/-- What is got of a blob: the version, the seal, and what is told. -/
def getBlob (kt : List Int) (i : Int) (b : List Int) : Int × SealS × Int :=
  let p := rdBlob (b, false)
  if p.2.2.2.2 = true ∨ p.2.2.2.1 ≠ [] ∨ p.1 = 0 ∨ ¬ p.2.1.May then (0, .zero, 2)
  else if ¬ (1 ≤ i ∧ i ≤ 21) ∨ p.2.2.1 ≠ tagH kt i 3 (p.2.1.said p.1) then (0, .zero, 7) else (p.1, p.2.1, 0)
end Go.Abs.Sha
