import Derived.Test.YteeikdgoeehhkaaGreatDoorFaS0
import Derived.Test.YteeikdgoeehhkaaGreatDoorFaX1
import Derived.Test.YteeikdgoeehhkaaGreatDoorFaM0
import Derived.Test.YteeikdgoeehhkaaGreatDoorFaX0
import Derived.Test.YteeikdgoeehhkaaGreatDoorFaDoor
set_option linter.all false
set_option maxHeartbeats 8000000
set_option maxRecDepth 100000
noncomputable section
namespace Go.Den.FaT
open Go Go.Proofs Go.Den
def xC (b : Bool) (ps : List (Int × Int)) (t s0 s1 h d0 d1 : Int) : Row := .cells true true 28 [.agg [.sl b 2 (ps.map fun p => .agg [.int .u8 p.1, .int .u8 p.2]), .int .u8 t, .int .i16 s0, .int .i16 s1, .int .u8 h, .int .i8 d0, .int .i8 d1]]
def K3 (it : List Item) : List Item := Item.inBlock 2 ::
          Item.code
              (r3_20.seq
                (r3_21.seq
                  ((r3_22.seq (Code.cond (Operand.tmp 147) (r3_23.seq Code.ret) Code.skip)).seq
                    (r3_24.seq
                      (r3_25.seq (r3_26.seq (r3_27.seq (r3_28.seq (Code.cond (Operand.tmp 179) r3_29 r3_30))))))))) ::
            Item.inBlock 1 :: Item.code r3_31 :: Item.inLoop b3_0 :: it
def ptV (p : Int × Int) : V := .agg [.int .i64 p.1, .int .i64 p.2]
attribute [go_sem] ptV
def hasP (p : Int × Int) (l : List (Int × Int)) : Bool := l.any fun q => q.1 == p.1 && q.2 == p.2
def pm (p : Int × Int) : Int × Int := ((IntKind.i64.wrap p.1).tmod 16, (IntKind.i64.wrap p.2).tmod 16)
section
variable (b : Bool) (ps : List (Int × Int)) (t s0 s1 h d0 d1 n sx sy : Int) (it : List Item)
def L0 (i : Nat) : Option Out := (lim T).loop false (.code (.loop b3_0) :: it) ⟨3, 393, 0, [(1, .ptr 0 0 0), (3, .ptr 1 0 0), (4, .sl false 0 []), (5, .sl false 0 []), (6, .sl false 0 []), (7, .sl false 0 []), (8, .sl false 0 []), (9, .sl false 0 []), (10, .sl false 0 []), (11, .sl false 0 []), (78, .sl b 2 (ps.map fun p => .agg [.int .u8 p.1, .int .u8 p.2])), (79, .int .i64 ps.length), (80, .int .i64 i)],
  [xC b ps t s0 s1 h d0 d1, .cells true true 33 [.agg [.int .i64 n, .int .i64 sx, .int .i64 sy]]], 0, []⟩
def I0 (i : Nat) (p : Int × Int) (j : Nat) : Option Out := (lim T).loop false (.code (.loop b3_1) :: K3 it) ⟨3, 393, 0, [(1, .ptr 0 0 0), (3, .ptr 1 0 0), (4, .sl false 0 []), (5, .sl false 0 []), (6, .sl false 0 []), (7, .sl false 0 []), (8, .sl false 0 []), (9, .sl false 0 []), (10, .sl false 0 []), (11, .sl false 0 []), (12, .int .i64 i), (14, .ptr 2 0 0), (78, .sl b 2 (ps.map fun p => .agg [.int .u8 p.1, .int .u8 p.2])), (79, .int .i64 ps.length), (80, .int .i64 i), (94, .sl false 0 []), (95, .int .i64 ((0 : Nat) : Nat)), (96, .int .i64 j)],
  [xC b ps t s0 s1 h d0 d1, .cells true true 33 [.agg [.int .i64 n, .int .i64 sx, .int .i64 sy]], .cells true true 31 [.agg [.int .i64 p.1, .int .i64 p.2]]], 0, []⟩
theorem ent0 (i : Nat) (hi : i < ps.length) (hl : ps.length ≤ 5) : L0 b ps t s0 s1 h d0 d1 n sx sy it  i = I0 b ps t s0 s1 h d0 d1 n sx sy it  i (pm ps[i]) 0 := by
  obtain ⟨h1, h2, h3, h4, h5⟩ := idx_in hi (by omega)
  unfold L0 I0
  rw [loopEq]
  unfold xC K3 pm
  simp -implicitDefEqProofs only [go_sem, simprocAttr, h1, h2, h3]
def LH (A4 A5 A6 A7 A8 A9 A10 : List V) (i : Nat) : Option Out := (lim T).loop false (.code (.loop b3_0) :: it) ⟨3, 393, 0, [(1, .ptr 0 0 0), (3, .ptr 1 0 0), (4, .ref 2), (5, .ref 3), (6, .ref 4), (7, .ref 5), (8, .ref 6), (9, .ref 7), (10, .ref 8), (11, .sl false 0 []), (78, .sl b 2 (ps.map fun p => .agg [.int .u8 p.1, .int .u8 p.2])), (79, .int .i64 ps.length), (80, .int .i64 i)],
  [xC b ps t s0 s1 h d0 d1, .cells true true 33 [.agg [.int .i64 n, .int .i64 sx, .int .i64 sy]], .cells false true 31 A4, .cells false true 31 A5, .cells false true 47 A6, .cells false true 52 A7, .cells false true 50 A8, .cells false true 45 A9, .cells false true 3 A10], 0, []⟩
def IH (A4 A5 A6 A7 A8 A9 A10 : List V) (i : Nat) (p : Int × Int) (j : Nat) : Option Out := (lim T).loop false (.code (.loop b3_1) :: K3 it) ⟨3, 393, 0, [(1, .ptr 0 0 0), (3, .ptr 1 0 0), (4, .ref 2), (5, .ref 3), (6, .ref 4), (7, .ref 5), (8, .ref 6), (9, .ref 7), (10, .ref 8), (11, .sl false 0 []), (12, .int .i64 i), (14, .ptr 9 0 0), (78, .sl b 2 (ps.map fun p => .agg [.int .u8 p.1, .int .u8 p.2])), (79, .int .i64 ps.length), (80, .int .i64 i), (94, .ref 2), (95, .int .i64 (A4.length : Nat)), (96, .int .i64 j)],
  [xC b ps t s0 s1 h d0 d1, .cells true true 33 [.agg [.int .i64 n, .int .i64 sx, .int .i64 sy]], .cells false true 31 A4, .cells false true 31 A5, .cells false true 47 A6, .cells false true 52 A7, .cells false true 50 A8, .cells false true 45 A9, .cells false true 3 A10, .cells true true 31 [.agg [.int .i64 p.1, .int .i64 p.2]]], 0, []⟩
theorem entH (A4 A5 A6 A7 A8 A9 A10 : List V) (i : Nat) (hi : i < ps.length) (hl : ps.length ≤ 5) : LH b ps t s0 s1 h d0 d1 n sx sy it A4 A5 A6 A7 A8 A9 A10 i = IH b ps t s0 s1 h d0 d1 n sx sy it A4 A5 A6 A7 A8 A9 A10 i (pm ps[i]) 0 := by
  obtain ⟨h1, h2, h3, h4, h5⟩ := idx_in hi (by omega)
  unfold LH IH
  rw [loopEq]
  unfold xC K3 pm
  simp -implicitDefEqProofs only [go_sem, simprocAttr, h1, h2, h3]
theorem dupH (qs : List (Int × Int)) (A5 A6 A7 A8 A9 A10 : List V) (i : Nat) (p : Int × Int) (hq : qs.length < 1000) : ∀ j, j ≤ qs.length → IH b ps t s0 s1 h d0 d1 n sx sy it (qs.map ptV) A5 A6 A7 A8 A9 A10 i p j = if hasP p (qs.drop j) = true then some (.ret (.bool true), [], 0, []) else IH b ps t s0 s1 h d0 d1 n sx sy it (qs.map ptV) A5 A6 A7 A8 A9 A10 i p qs.length := by
  refine down_ind qs.length ?_ fun j hj ih => ?_
  · rw [List.drop_of_length_le (Nat.le_refl _), if_neg (by simp [hasP])]
  · obtain ⟨h1, h2, h3, h4, h5⟩ := idx_in hj (by omega)
    rw [h5]
    have hm : (qs.map ptV).length = qs.length := List.length_map ..
    have e5 := aw5
    cases hc : (qs[j].1 == p.1 && qs[j].2 == p.2)
    · have hd : hasP p (qs[j] :: qs.drop (j + 1)) = hasP p (qs.drop (j + 1)) := by simp only [hasP, List.any_cons, hc, Bool.false_or]
      rw [hd, ← ih]
      conv => lhs; unfold IH; rw [loopEq]
      unfold IH xC K3
      simp -implicitDefEqProofs only [go_sem, simprocAttr, h1, h2, h3, h4, hc, hm, List.length_map]
    · rw [if_pos (by simp only [hasP, List.any_cons, hc, Bool.true_or])]
      unfold IH
      rw [loopEq]
      unfold xC K3
      simp -implicitDefEqProofs only [go_sem, simprocAttr, h1, h2, h3, h4, hc, hm, e5, List.length_map]
def LC (A4 A5 A6 A8 A11 : List V) (i : Nat) : Option Out := (lim T).loop false (.code (.loop b3_0) :: it) ⟨3, 393, 0, [(1, .ptr 0 0 0), (3, .ptr 1 0 0), (4, .ref 2), (5, .ref 3), (6, .ref 4), (7, .sl false 0 []), (8, .ref 5), (9, .sl false 0 []), (10, .sl false 0 []), (11, .ref 6), (78, .sl b 2 (ps.map fun p => .agg [.int .u8 p.1, .int .u8 p.2])), (79, .int .i64 ps.length), (80, .int .i64 i)],
  [xC b ps t s0 s1 h d0 d1, .cells true true 33 [.agg [.int .i64 n, .int .i64 sx, .int .i64 sy]], .cells false true 31 A4, .cells false true 31 A5, .cells false true 47 A6, .cells false true 50 A8, .cells false true 3 A11], 0, []⟩
def IC (A4 A5 A6 A8 A11 : List V) (i : Nat) (p : Int × Int) (j : Nat) : Option Out := (lim T).loop false (.code (.loop b3_1) :: K3 it) ⟨3, 393, 0, [(1, .ptr 0 0 0), (3, .ptr 1 0 0), (4, .ref 2), (5, .ref 3), (6, .ref 4), (7, .sl false 0 []), (8, .ref 5), (9, .sl false 0 []), (10, .sl false 0 []), (11, .ref 6), (12, .int .i64 i), (14, .ptr 7 0 0), (78, .sl b 2 (ps.map fun p => .agg [.int .u8 p.1, .int .u8 p.2])), (79, .int .i64 ps.length), (80, .int .i64 i), (94, .ref 2), (95, .int .i64 (A4.length : Nat)), (96, .int .i64 j)],
  [xC b ps t s0 s1 h d0 d1, .cells true true 33 [.agg [.int .i64 n, .int .i64 sx, .int .i64 sy]], .cells false true 31 A4, .cells false true 31 A5, .cells false true 47 A6, .cells false true 50 A8, .cells false true 3 A11, .cells true true 31 [.agg [.int .i64 p.1, .int .i64 p.2]]], 0, []⟩
theorem entC (A4 A5 A6 A8 A11 : List V) (i : Nat) (hi : i < ps.length) (hl : ps.length ≤ 5) : LC b ps t s0 s1 h d0 d1 n sx sy it A4 A5 A6 A8 A11 i = IC b ps t s0 s1 h d0 d1 n sx sy it A4 A5 A6 A8 A11 i (pm ps[i]) 0 := by
  obtain ⟨h1, h2, h3, h4, h5⟩ := idx_in hi (by omega)
  unfold LC IC
  rw [loopEq]
  unfold xC K3 pm
  simp -implicitDefEqProofs only [go_sem, simprocAttr, h1, h2, h3]
theorem dupC (qs : List (Int × Int)) (A5 A6 A8 A11 : List V) (i : Nat) (p : Int × Int) (hq : qs.length < 1000) : ∀ j, j ≤ qs.length → IC b ps t s0 s1 h d0 d1 n sx sy it (qs.map ptV) A5 A6 A8 A11 i p j = if hasP p (qs.drop j) = true then some (.ret (.bool true), [], 0, []) else IC b ps t s0 s1 h d0 d1 n sx sy it (qs.map ptV) A5 A6 A8 A11 i p qs.length := by
  refine down_ind qs.length ?_ fun j hj ih => ?_
  · rw [List.drop_of_length_le (Nat.le_refl _), if_neg (by simp [hasP])]
  · obtain ⟨h1, h2, h3, h4, h5⟩ := idx_in hj (by omega)
    rw [h5]
    have hm : (qs.map ptV).length = qs.length := List.length_map ..
    have e5 := aw5
    cases hc : (qs[j].1 == p.1 && qs[j].2 == p.2)
    · have hd : hasP p (qs[j] :: qs.drop (j + 1)) = hasP p (qs.drop (j + 1)) := by simp only [hasP, List.any_cons, hc, Bool.false_or]
      rw [hd, ← ih]
      conv => lhs; unfold IC; rw [loopEq]
      unfold IC xC K3
      simp -implicitDefEqProofs only [go_sem, simprocAttr, h1, h2, h3, h4, hc, hm, List.length_map]
    · rw [if_pos (by simp only [hasP, List.any_cons, hc, Bool.true_or])]
      unfold IC
      rw [loopEq]
      unfold xC K3
      simp -implicitDefEqProofs only [go_sem, simprocAttr, h1, h2, h3, h4, hc, hm, e5, List.length_map]
def LB (A4 A5 A6 A7 A8 A9 A10 A11 : List V) (i : Nat) : Option Out := (lim T).loop false (.code (.loop b3_0) :: it) ⟨3, 393, 0, [(1, .ptr 0 0 0), (3, .ptr 1 0 0), (4, .ref 2), (5, .ref 3), (6, .ref 4), (7, .ref 5), (8, .ref 6), (9, .ref 7), (10, .ref 8), (11, .ref 9), (78, .sl b 2 (ps.map fun p => .agg [.int .u8 p.1, .int .u8 p.2])), (79, .int .i64 ps.length), (80, .int .i64 i)],
  [xC b ps t s0 s1 h d0 d1, .cells true true 33 [.agg [.int .i64 n, .int .i64 sx, .int .i64 sy]], .cells false true 31 A4, .cells false true 31 A5, .cells false true 47 A6, .cells false true 52 A7, .cells false true 50 A8, .cells false true 45 A9, .cells false true 3 A10, .cells false true 3 A11], 0, []⟩
def IB (A4 A5 A6 A7 A8 A9 A10 A11 : List V) (i : Nat) (p : Int × Int) (j : Nat) : Option Out := (lim T).loop false (.code (.loop b3_1) :: K3 it) ⟨3, 393, 0, [(1, .ptr 0 0 0), (3, .ptr 1 0 0), (4, .ref 2), (5, .ref 3), (6, .ref 4), (7, .ref 5), (8, .ref 6), (9, .ref 7), (10, .ref 8), (11, .ref 9), (12, .int .i64 i), (14, .ptr 10 0 0), (78, .sl b 2 (ps.map fun p => .agg [.int .u8 p.1, .int .u8 p.2])), (79, .int .i64 ps.length), (80, .int .i64 i), (94, .ref 2), (95, .int .i64 (A4.length : Nat)), (96, .int .i64 j)],
  [xC b ps t s0 s1 h d0 d1, .cells true true 33 [.agg [.int .i64 n, .int .i64 sx, .int .i64 sy]], .cells false true 31 A4, .cells false true 31 A5, .cells false true 47 A6, .cells false true 52 A7, .cells false true 50 A8, .cells false true 45 A9, .cells false true 3 A10, .cells false true 3 A11, .cells true true 31 [.agg [.int .i64 p.1, .int .i64 p.2]]], 0, []⟩
theorem entB (A4 A5 A6 A7 A8 A9 A10 A11 : List V) (i : Nat) (hi : i < ps.length) (hl : ps.length ≤ 5) : LB b ps t s0 s1 h d0 d1 n sx sy it A4 A5 A6 A7 A8 A9 A10 A11 i = IB b ps t s0 s1 h d0 d1 n sx sy it A4 A5 A6 A7 A8 A9 A10 A11 i (pm ps[i]) 0 := by
  obtain ⟨h1, h2, h3, h4, h5⟩ := idx_in hi (by omega)
  unfold LB IB
  rw [loopEq]
  unfold xC K3 pm
  simp -implicitDefEqProofs only [go_sem, simprocAttr, h1, h2, h3]
theorem dupB (qs : List (Int × Int)) (A5 A6 A7 A8 A9 A10 A11 : List V) (i : Nat) (p : Int × Int) (hq : qs.length < 1000) : ∀ j, j ≤ qs.length → IB b ps t s0 s1 h d0 d1 n sx sy it (qs.map ptV) A5 A6 A7 A8 A9 A10 A11 i p j = if hasP p (qs.drop j) = true then some (.ret (.bool true), [], 0, []) else IB b ps t s0 s1 h d0 d1 n sx sy it (qs.map ptV) A5 A6 A7 A8 A9 A10 A11 i p qs.length := by
  refine down_ind qs.length ?_ fun j hj ih => ?_
  · rw [List.drop_of_length_le (Nat.le_refl _), if_neg (by simp [hasP])]
  · obtain ⟨h1, h2, h3, h4, h5⟩ := idx_in hj (by omega)
    rw [h5]
    have hm : (qs.map ptV).length = qs.length := List.length_map ..
    have e5 := aw5
    cases hc : (qs[j].1 == p.1 && qs[j].2 == p.2)
    · have hd : hasP p (qs[j] :: qs.drop (j + 1)) = hasP p (qs.drop (j + 1)) := by simp only [hasP, List.any_cons, hc, Bool.false_or]
      rw [hd, ← ih]
      conv => lhs; unfold IB; rw [loopEq]
      unfold IB xC K3
      simp -implicitDefEqProofs only [go_sem, simprocAttr, h1, h2, h3, h4, hc, hm, List.length_map]
    · rw [if_pos (by simp only [hasP, List.any_cons, hc, Bool.true_or])]
      unfold IB
      rw [loopEq]
      unfold xC K3
      simp -implicitDefEqProofs only [go_sem, simprocAttr, h1, h2, h3, h4, hc, hm, e5, List.length_map]
end
section
variable (b : Bool) (ps : List (Int × Int)) (t s0 s1 h d0 d1 n sx sy : Int) (it : List Item)
theorem st0h (i : Nat) (hi : i < 5) (p a : Int × Int) (tx : List UInt8) (hx : tx.length ≤ 10) 
    (e6 : (lim T).call 6 [.agg [.int .i64 n, .int .i64 sx, .int .i64 sy], .agg [.int .i64 p.1, .int .i64 p.2]] [] 0 [] = some (.tup [.agg [.int .i64 a.1, .int .i64 a.2], .int .i64 0], [], 0, []))
    (e7 : (lim T).call 7 [.agg [.int .i64 n, .int .i64 sx, .int .i64 sy], .agg [.int .i64 a.1, .int .i64 a.2]] [] 0 [] = some (.tup [.agg [.int .i64 p.1, .int .i64 p.2], .int .i64 0], [], 0, []))
    (ha : inB a) (e8 : (lim T).call 8 [.int .i64 i] [] 0 [] = some (.str tx, [], 0, []))
    (hb : (IntKind.u8.wrap ((BitVec.ofInt 8 (h.fdiv (2 ^ min i 8)) &&& 1#8).toNat : Int) == 1) = true) :
    I0 b ps t s0 s1 h d0 d1 n sx sy it  i p 0 = LH b ps t s0 s1 h d0 d1 n sx sy it [.agg [.int .i64 p.1, .int .i64 p.2]] [.agg [.int .i64 a.1, .int .i64 a.2]] [.agg [.int .u8 80, .int .u8 86, .int .u8 (48 + i), .int .u8 0, .int .u8 0, .int .u8 0, .int .u8 0, .int .u8 0, .int .i64 a.1, .int .i64 a.2]] [.agg [.int .i64 p.1, .int .i64 p.2, .int .i64 (1 + i)]] [.agg [.str (109 :: tx), .int .i64 a.1, .int .i64 a.2, .int .i64 0, .int .i64 0]] [.agg [.int .u8 80, .int .u8 86, .int .u8 (48 + i), .int .u8 0, .int .u8 0, .int .u8 0, .int .u8 0, .int .u8 0]] [.int .i64 i] (i + 1) := by
  have hmr : maxRow = 16777216 := rfl
  have hms : maxStr = 1099511627776 := rfl
  unfold inB at ha
  have d1 : decide (a.1 < -1000) = false := decide_eq_false (by omega)
  have d2 : decide (a.1 > 1000) = false := decide_eq_false (by omega)
  have d3 : decide (a.2 < -1000) = false := decide_eq_false (by omega)
  have d4 : decide (a.2 > 1000) = false := decide_eq_false (by omega)
  have h4 : IntKind.i64.wrap ((i : Int) + 1) = ((i + 1 : Nat) : Int) := by rw [wrap64] <;> omega
  have w1 : IntKind.i64.wrap (48 + (i : Int)) = 48 + i := wrapB (by omega)
  have w2 : IntKind.u8.wrap (48 + (i : Int)) = 48 + i := by have : i = 0 ∨ i = 1 ∨ i = 2 ∨ i = 3 ∨ i = 4 := by omega
                                                            rcases this with rfl | rfl | rfl | rfl | rfl <;> rfl
  have w3 : IntKind.i64.wrap (1 + (i : Int)) = 1 + i := wrapB (by omega)
  have l0 : decide (1 < maxRow) = true := rfl
  have lx : decide (1 + tx.length < maxStr) = true := decide_eq_true (by omega)
  have li : decide (0 ≤ (i : Int)) = true := decide_eq_true (by omega)

  have h0 := idx_out 0
  simp only [Int.natCast_zero] at h0
  unfold I0 LH
  rw [loopEq]
  unfold xC K3
  simp -implicitDefEqProofs only [go_sem, simprocAttr, h0, h4, e6, e7, d1, d2, d3, d4, e8, w1, w2, w3, l0, lx, li]
  generalize hg : (IntKind.u8.wrap _ == 1) = bb
  have hbb := hg.symm.trans hb
  subst hbb
  rfl
end
section
variable (b : Bool) (ps : List (Int × Int)) (t s0 s1 h d0 d1 n sx sy : Int) (it : List Item)
theorem st0c (i : Nat) (hi : i < 5) (p a : Int × Int) (tx : List UInt8) (hx : tx.length ≤ 10) 
    (e6 : (lim T).call 6 [.agg [.int .i64 n, .int .i64 sx, .int .i64 sy], .agg [.int .i64 p.1, .int .i64 p.2]] [] 0 [] = some (.tup [.agg [.int .i64 a.1, .int .i64 a.2], .int .i64 0], [], 0, []))
    (e7 : (lim T).call 7 [.agg [.int .i64 n, .int .i64 sx, .int .i64 sy], .agg [.int .i64 a.1, .int .i64 a.2]] [] 0 [] = some (.tup [.agg [.int .i64 p.1, .int .i64 p.2], .int .i64 0], [], 0, []))
    (ha : inB a) (e8 : (lim T).call 8 [.int .i64 i] [] 0 [] = some (.str tx, [], 0, []))
    (hb : (IntKind.u8.wrap ((BitVec.ofInt 8 (h.fdiv (2 ^ min i 8)) &&& 1#8).toNat : Int) == 1) = false) :
    I0 b ps t s0 s1 h d0 d1 n sx sy it  i p 0 = LC b ps t s0 s1 h d0 d1 n sx sy it [.agg [.int .i64 p.1, .int .i64 p.2]] [.agg [.int .i64 a.1, .int .i64 a.2]] [.agg [.int .u8 80, .int .u8 86, .int .u8 (48 + i), .int .u8 0, .int .u8 0, .int .u8 0, .int .u8 0, .int .u8 0, .int .i64 a.1, .int .i64 a.2]] [.agg [.str (109 :: tx), .int .i64 a.1, .int .i64 a.2, .int .i64 0, .int .i64 0]] [.int .i64 i] (i + 1) := by
  have hmr : maxRow = 16777216 := rfl
  have hms : maxStr = 1099511627776 := rfl
  unfold inB at ha
  have d1 : decide (a.1 < -1000) = false := decide_eq_false (by omega)
  have d2 : decide (a.1 > 1000) = false := decide_eq_false (by omega)
  have d3 : decide (a.2 < -1000) = false := decide_eq_false (by omega)
  have d4 : decide (a.2 > 1000) = false := decide_eq_false (by omega)
  have h4 : IntKind.i64.wrap ((i : Int) + 1) = ((i + 1 : Nat) : Int) := by rw [wrap64] <;> omega
  have w1 : IntKind.i64.wrap (48 + (i : Int)) = 48 + i := wrapB (by omega)
  have w2 : IntKind.u8.wrap (48 + (i : Int)) = 48 + i := by have : i = 0 ∨ i = 1 ∨ i = 2 ∨ i = 3 ∨ i = 4 := by omega
                                                            rcases this with rfl | rfl | rfl | rfl | rfl <;> rfl
  have w3 : IntKind.i64.wrap (1 + (i : Int)) = 1 + i := wrapB (by omega)
  have l0 : decide (1 < maxRow) = true := rfl
  have lx : decide (1 + tx.length < maxStr) = true := decide_eq_true (by omega)
  have li : decide (0 ≤ (i : Int)) = true := decide_eq_true (by omega)

  have h0 := idx_out 0
  simp only [Int.natCast_zero] at h0
  unfold I0 LC
  rw [loopEq]
  unfold xC K3
  simp -implicitDefEqProofs only [go_sem, simprocAttr, h0, h4, e6, e7, d1, d2, d3, d4, e8, w1, w2, w3, l0, lx, li]
  generalize hg : (IntKind.u8.wrap _ == 1) = bb
  have hbb := hg.symm.trans hb
  subst hbb
  rfl
end
section
variable (b : Bool) (ps : List (Int × Int)) (t s0 s1 h d0 d1 n sx sy : Int) (it : List Item)
theorem stHh (A4 A5 A6 A7 A8 A9 A10 : List V) (i : Nat) (hi : i < 5) (p a : Int × Int) (tx : List UInt8) (hx : tx.length ≤ 10) (q4 : A4.length ≤ 5) (q5 : A5.length ≤ 5) (q6 : A6.length ≤ 5) (q7 : A7.length ≤ 5) (q8 : A8.length ≤ 5) (q9 : A9.length ≤ 5) (q10 : A10.length ≤ 5)
    (e6 : (lim T).call 6 [.agg [.int .i64 n, .int .i64 sx, .int .i64 sy], .agg [.int .i64 p.1, .int .i64 p.2]] [] 0 [] = some (.tup [.agg [.int .i64 a.1, .int .i64 a.2], .int .i64 0], [], 0, []))
    (e7 : (lim T).call 7 [.agg [.int .i64 n, .int .i64 sx, .int .i64 sy], .agg [.int .i64 a.1, .int .i64 a.2]] [] 0 [] = some (.tup [.agg [.int .i64 p.1, .int .i64 p.2], .int .i64 0], [], 0, []))
    (ha : inB a) (e8 : (lim T).call 8 [.int .i64 i] [] 0 [] = some (.str tx, [], 0, []))
    (hb : (IntKind.u8.wrap ((BitVec.ofInt 8 (h.fdiv (2 ^ min i 8)) &&& 1#8).toNat : Int) == 1) = true) :
    IH b ps t s0 s1 h d0 d1 n sx sy it A4 A5 A6 A7 A8 A9 A10 i p A4.length = LH b ps t s0 s1 h d0 d1 n sx sy it (A4 ++ [.agg [.int .i64 p.1, .int .i64 p.2]]) (A5 ++ [.agg [.int .i64 a.1, .int .i64 a.2]]) (A6 ++ [.agg [.int .u8 80, .int .u8 86, .int .u8 (48 + i), .int .u8 0, .int .u8 0, .int .u8 0, .int .u8 0, .int .u8 0, .int .i64 a.1, .int .i64 a.2]]) (A7 ++ [.agg [.int .i64 p.1, .int .i64 p.2, .int .i64 (1 + i)]]) (A8 ++ [.agg [.str (109 :: tx), .int .i64 a.1, .int .i64 a.2, .int .i64 0, .int .i64 0]]) (A9 ++ [.agg [.int .u8 80, .int .u8 86, .int .u8 (48 + i), .int .u8 0, .int .u8 0, .int .u8 0, .int .u8 0, .int .u8 0]]) (A10 ++ [.int .i64 i]) (i + 1) := by
  have hmr : maxRow = 16777216 := rfl
  have hms : maxStr = 1099511627776 := rfl
  unfold inB at ha
  have d1 : decide (a.1 < -1000) = false := decide_eq_false (by omega)
  have d2 : decide (a.1 > 1000) = false := decide_eq_false (by omega)
  have d3 : decide (a.2 < -1000) = false := decide_eq_false (by omega)
  have d4 : decide (a.2 > 1000) = false := decide_eq_false (by omega)
  have h4 : IntKind.i64.wrap ((i : Int) + 1) = ((i + 1 : Nat) : Int) := by rw [wrap64] <;> omega
  have w1 : IntKind.i64.wrap (48 + (i : Int)) = 48 + i := wrapB (by omega)
  have w2 : IntKind.u8.wrap (48 + (i : Int)) = 48 + i := by have : i = 0 ∨ i = 1 ∨ i = 2 ∨ i = 3 ∨ i = 4 := by omega
                                                            rcases this with rfl | rfl | rfl | rfl | rfl <;> rfl
  have w3 : IntKind.i64.wrap (1 + (i : Int)) = 1 + i := wrapB (by omega)
  have l0 : decide (1 < maxRow) = true := rfl
  have lx : decide (1 + tx.length < maxStr) = true := decide_eq_true (by omega)
  have li : decide (0 ≤ (i : Int)) = true := decide_eq_true (by omega)
  have l4 : decide (A4.length + 1 < maxRow) = true := decide_eq_true (by omega)
  have l5 : decide (A5.length + 1 < maxRow) = true := decide_eq_true (by omega)
  have l6 : decide (A6.length + 1 < maxRow) = true := decide_eq_true (by omega)
  have l7 : decide (A7.length + 1 < maxRow) = true := decide_eq_true (by omega)
  have l8 : decide (A8.length + 1 < maxRow) = true := decide_eq_true (by omega)
  have l9 : decide (A9.length + 1 < maxRow) = true := decide_eq_true (by omega)
  have l10 : decide (A10.length + 1 < maxRow) = true := decide_eq_true (by omega)
  have h0 := idx_out A4.length
  skip
  unfold IH LH
  rw [loopEq]
  unfold xC K3
  simp -implicitDefEqProofs only [go_sem, simprocAttr, h0, h4, e6, e7, d1, d2, d3, d4, e8, w1, w2, w3, l0, lx, li, l4, l5, l6, l7, l8, l9, l10]
  generalize hg : (IntKind.u8.wrap _ == 1) = bb
  have hbb := hg.symm.trans hb
  subst hbb
  rfl
end
section
variable (b : Bool) (ps : List (Int × Int)) (t s0 s1 h d0 d1 n sx sy : Int) (it : List Item)
theorem stHc (A4 A5 A6 A7 A8 A9 A10 : List V) (i : Nat) (hi : i < 5) (p a : Int × Int) (tx : List UInt8) (hx : tx.length ≤ 10) (q4 : A4.length ≤ 5) (q5 : A5.length ≤ 5) (q6 : A6.length ≤ 5) (q7 : A7.length ≤ 5) (q8 : A8.length ≤ 5) (q9 : A9.length ≤ 5) (q10 : A10.length ≤ 5)
    (e6 : (lim T).call 6 [.agg [.int .i64 n, .int .i64 sx, .int .i64 sy], .agg [.int .i64 p.1, .int .i64 p.2]] [] 0 [] = some (.tup [.agg [.int .i64 a.1, .int .i64 a.2], .int .i64 0], [], 0, []))
    (e7 : (lim T).call 7 [.agg [.int .i64 n, .int .i64 sx, .int .i64 sy], .agg [.int .i64 a.1, .int .i64 a.2]] [] 0 [] = some (.tup [.agg [.int .i64 p.1, .int .i64 p.2], .int .i64 0], [], 0, []))
    (ha : inB a) (e8 : (lim T).call 8 [.int .i64 i] [] 0 [] = some (.str tx, [], 0, []))
    (hb : (IntKind.u8.wrap ((BitVec.ofInt 8 (h.fdiv (2 ^ min i 8)) &&& 1#8).toNat : Int) == 1) = false) :
    IH b ps t s0 s1 h d0 d1 n sx sy it A4 A5 A6 A7 A8 A9 A10 i p A4.length = LB b ps t s0 s1 h d0 d1 n sx sy it (A4 ++ [.agg [.int .i64 p.1, .int .i64 p.2]]) (A5 ++ [.agg [.int .i64 a.1, .int .i64 a.2]]) (A6 ++ [.agg [.int .u8 80, .int .u8 86, .int .u8 (48 + i), .int .u8 0, .int .u8 0, .int .u8 0, .int .u8 0, .int .u8 0, .int .i64 a.1, .int .i64 a.2]]) A7 (A8 ++ [.agg [.str (109 :: tx), .int .i64 a.1, .int .i64 a.2, .int .i64 0, .int .i64 0]]) A9 A10 [.int .i64 i] (i + 1) := by
  have hmr : maxRow = 16777216 := rfl
  have hms : maxStr = 1099511627776 := rfl
  unfold inB at ha
  have d1 : decide (a.1 < -1000) = false := decide_eq_false (by omega)
  have d2 : decide (a.1 > 1000) = false := decide_eq_false (by omega)
  have d3 : decide (a.2 < -1000) = false := decide_eq_false (by omega)
  have d4 : decide (a.2 > 1000) = false := decide_eq_false (by omega)
  have h4 : IntKind.i64.wrap ((i : Int) + 1) = ((i + 1 : Nat) : Int) := by rw [wrap64] <;> omega
  have w1 : IntKind.i64.wrap (48 + (i : Int)) = 48 + i := wrapB (by omega)
  have w2 : IntKind.u8.wrap (48 + (i : Int)) = 48 + i := by have : i = 0 ∨ i = 1 ∨ i = 2 ∨ i = 3 ∨ i = 4 := by omega
                                                            rcases this with rfl | rfl | rfl | rfl | rfl <;> rfl
  have w3 : IntKind.i64.wrap (1 + (i : Int)) = 1 + i := wrapB (by omega)
  have l0 : decide (1 < maxRow) = true := rfl
  have lx : decide (1 + tx.length < maxStr) = true := decide_eq_true (by omega)
  have li : decide (0 ≤ (i : Int)) = true := decide_eq_true (by omega)
  have l4 : decide (A4.length + 1 < maxRow) = true := decide_eq_true (by omega)
  have l5 : decide (A5.length + 1 < maxRow) = true := decide_eq_true (by omega)
  have l6 : decide (A6.length + 1 < maxRow) = true := decide_eq_true (by omega)
  have l7 : decide (A7.length + 1 < maxRow) = true := decide_eq_true (by omega)
  have l8 : decide (A8.length + 1 < maxRow) = true := decide_eq_true (by omega)
  have l9 : decide (A9.length + 1 < maxRow) = true := decide_eq_true (by omega)
  have l10 : decide (A10.length + 1 < maxRow) = true := decide_eq_true (by omega)
  have h0 := idx_out A4.length
  skip
  unfold IH LB
  rw [loopEq]
  unfold xC K3
  simp -implicitDefEqProofs only [go_sem, simprocAttr, h0, h4, e6, e7, d1, d2, d3, d4, e8, w1, w2, w3, l0, lx, li, l4, l5, l6, l7, l8, l9, l10]
  generalize hg : (IntKind.u8.wrap _ == 1) = bb
  have hbb := hg.symm.trans hb
  subst hbb
  rfl
end
section
variable (b : Bool) (ps : List (Int × Int)) (t s0 s1 h d0 d1 n sx sy : Int) (it : List Item)
theorem stCh (A4 A5 A6 A8 A11 : List V) (i : Nat) (hi : i < 5) (p a : Int × Int) (tx : List UInt8) (hx : tx.length ≤ 10) (q4 : A4.length ≤ 5) (q5 : A5.length ≤ 5) (q6 : A6.length ≤ 5) (q8 : A8.length ≤ 5) (q11 : A11.length ≤ 5)
    (e6 : (lim T).call 6 [.agg [.int .i64 n, .int .i64 sx, .int .i64 sy], .agg [.int .i64 p.1, .int .i64 p.2]] [] 0 [] = some (.tup [.agg [.int .i64 a.1, .int .i64 a.2], .int .i64 0], [], 0, []))
    (e7 : (lim T).call 7 [.agg [.int .i64 n, .int .i64 sx, .int .i64 sy], .agg [.int .i64 a.1, .int .i64 a.2]] [] 0 [] = some (.tup [.agg [.int .i64 p.1, .int .i64 p.2], .int .i64 0], [], 0, []))
    (ha : inB a) (e8 : (lim T).call 8 [.int .i64 i] [] 0 [] = some (.str tx, [], 0, []))
    (hb : (IntKind.u8.wrap ((BitVec.ofInt 8 (h.fdiv (2 ^ min i 8)) &&& 1#8).toNat : Int) == 1) = true) :
    IC b ps t s0 s1 h d0 d1 n sx sy it A4 A5 A6 A8 A11 i p A4.length = LB b ps t s0 s1 h d0 d1 n sx sy it (A4 ++ [.agg [.int .i64 p.1, .int .i64 p.2]]) (A5 ++ [.agg [.int .i64 a.1, .int .i64 a.2]]) (A6 ++ [.agg [.int .u8 80, .int .u8 86, .int .u8 (48 + i), .int .u8 0, .int .u8 0, .int .u8 0, .int .u8 0, .int .u8 0, .int .i64 a.1, .int .i64 a.2]]) [.agg [.int .i64 p.1, .int .i64 p.2, .int .i64 (1 + i)]] (A8 ++ [.agg [.str (109 :: tx), .int .i64 a.1, .int .i64 a.2, .int .i64 0, .int .i64 0]]) [.agg [.int .u8 80, .int .u8 86, .int .u8 (48 + i), .int .u8 0, .int .u8 0, .int .u8 0, .int .u8 0, .int .u8 0]] [.int .i64 i] A11 (i + 1) := by
  have hmr : maxRow = 16777216 := rfl
  have hms : maxStr = 1099511627776 := rfl
  unfold inB at ha
  have d1 : decide (a.1 < -1000) = false := decide_eq_false (by omega)
  have d2 : decide (a.1 > 1000) = false := decide_eq_false (by omega)
  have d3 : decide (a.2 < -1000) = false := decide_eq_false (by omega)
  have d4 : decide (a.2 > 1000) = false := decide_eq_false (by omega)
  have h4 : IntKind.i64.wrap ((i : Int) + 1) = ((i + 1 : Nat) : Int) := by rw [wrap64] <;> omega
  have w1 : IntKind.i64.wrap (48 + (i : Int)) = 48 + i := wrapB (by omega)
  have w2 : IntKind.u8.wrap (48 + (i : Int)) = 48 + i := by have : i = 0 ∨ i = 1 ∨ i = 2 ∨ i = 3 ∨ i = 4 := by omega
                                                            rcases this with rfl | rfl | rfl | rfl | rfl <;> rfl
  have w3 : IntKind.i64.wrap (1 + (i : Int)) = 1 + i := wrapB (by omega)
  have l0 : decide (1 < maxRow) = true := rfl
  have lx : decide (1 + tx.length < maxStr) = true := decide_eq_true (by omega)
  have li : decide (0 ≤ (i : Int)) = true := decide_eq_true (by omega)
  have l4 : decide (A4.length + 1 < maxRow) = true := decide_eq_true (by omega)
  have l5 : decide (A5.length + 1 < maxRow) = true := decide_eq_true (by omega)
  have l6 : decide (A6.length + 1 < maxRow) = true := decide_eq_true (by omega)
  have l8 : decide (A8.length + 1 < maxRow) = true := decide_eq_true (by omega)
  have l11 : decide (A11.length + 1 < maxRow) = true := decide_eq_true (by omega)
  have h0 := idx_out A4.length
  skip
  unfold IC LB
  rw [loopEq]
  unfold xC K3
  simp -implicitDefEqProofs only [go_sem, simprocAttr, h0, h4, e6, e7, d1, d2, d3, d4, e8, w1, w2, w3, l0, lx, li, l4, l5, l6, l8, l11]
  generalize hg : (IntKind.u8.wrap _ == 1) = bb
  have hbb := hg.symm.trans hb
  subst hbb
  rfl
end
section
variable (b : Bool) (ps : List (Int × Int)) (t s0 s1 h d0 d1 n sx sy : Int) (it : List Item)
theorem stCc (A4 A5 A6 A8 A11 : List V) (i : Nat) (hi : i < 5) (p a : Int × Int) (tx : List UInt8) (hx : tx.length ≤ 10) (q4 : A4.length ≤ 5) (q5 : A5.length ≤ 5) (q6 : A6.length ≤ 5) (q8 : A8.length ≤ 5) (q11 : A11.length ≤ 5)
    (e6 : (lim T).call 6 [.agg [.int .i64 n, .int .i64 sx, .int .i64 sy], .agg [.int .i64 p.1, .int .i64 p.2]] [] 0 [] = some (.tup [.agg [.int .i64 a.1, .int .i64 a.2], .int .i64 0], [], 0, []))
    (e7 : (lim T).call 7 [.agg [.int .i64 n, .int .i64 sx, .int .i64 sy], .agg [.int .i64 a.1, .int .i64 a.2]] [] 0 [] = some (.tup [.agg [.int .i64 p.1, .int .i64 p.2], .int .i64 0], [], 0, []))
    (ha : inB a) (e8 : (lim T).call 8 [.int .i64 i] [] 0 [] = some (.str tx, [], 0, []))
    (hb : (IntKind.u8.wrap ((BitVec.ofInt 8 (h.fdiv (2 ^ min i 8)) &&& 1#8).toNat : Int) == 1) = false) :
    IC b ps t s0 s1 h d0 d1 n sx sy it A4 A5 A6 A8 A11 i p A4.length = LC b ps t s0 s1 h d0 d1 n sx sy it (A4 ++ [.agg [.int .i64 p.1, .int .i64 p.2]]) (A5 ++ [.agg [.int .i64 a.1, .int .i64 a.2]]) (A6 ++ [.agg [.int .u8 80, .int .u8 86, .int .u8 (48 + i), .int .u8 0, .int .u8 0, .int .u8 0, .int .u8 0, .int .u8 0, .int .i64 a.1, .int .i64 a.2]]) (A8 ++ [.agg [.str (109 :: tx), .int .i64 a.1, .int .i64 a.2, .int .i64 0, .int .i64 0]]) (A11 ++ [.int .i64 i]) (i + 1) := by
  have hmr : maxRow = 16777216 := rfl
  have hms : maxStr = 1099511627776 := rfl
  unfold inB at ha
  have d1 : decide (a.1 < -1000) = false := decide_eq_false (by omega)
  have d2 : decide (a.1 > 1000) = false := decide_eq_false (by omega)
  have d3 : decide (a.2 < -1000) = false := decide_eq_false (by omega)
  have d4 : decide (a.2 > 1000) = false := decide_eq_false (by omega)
  have h4 : IntKind.i64.wrap ((i : Int) + 1) = ((i + 1 : Nat) : Int) := by rw [wrap64] <;> omega
  have w1 : IntKind.i64.wrap (48 + (i : Int)) = 48 + i := wrapB (by omega)
  have w2 : IntKind.u8.wrap (48 + (i : Int)) = 48 + i := by have : i = 0 ∨ i = 1 ∨ i = 2 ∨ i = 3 ∨ i = 4 := by omega
                                                            rcases this with rfl | rfl | rfl | rfl | rfl <;> rfl
  have w3 : IntKind.i64.wrap (1 + (i : Int)) = 1 + i := wrapB (by omega)
  have l0 : decide (1 < maxRow) = true := rfl
  have lx : decide (1 + tx.length < maxStr) = true := decide_eq_true (by omega)
  have li : decide (0 ≤ (i : Int)) = true := decide_eq_true (by omega)
  have l4 : decide (A4.length + 1 < maxRow) = true := decide_eq_true (by omega)
  have l5 : decide (A5.length + 1 < maxRow) = true := decide_eq_true (by omega)
  have l6 : decide (A6.length + 1 < maxRow) = true := decide_eq_true (by omega)
  have l8 : decide (A8.length + 1 < maxRow) = true := decide_eq_true (by omega)
  have l11 : decide (A11.length + 1 < maxRow) = true := decide_eq_true (by omega)
  have h0 := idx_out A4.length
  skip
  unfold IC LC
  rw [loopEq]
  unfold xC K3
  simp -implicitDefEqProofs only [go_sem, simprocAttr, h0, h4, e6, e7, d1, d2, d3, d4, e8, w1, w2, w3, l0, lx, li, l4, l5, l6, l8, l11]
  generalize hg : (IntKind.u8.wrap _ == 1) = bb
  have hbb := hg.symm.trans hb
  subst hbb
  rfl
end
section
variable (b : Bool) (ps : List (Int × Int)) (t s0 s1 h d0 d1 n sx sy : Int) (it : List Item)
theorem stBh (A4 A5 A6 A7 A8 A9 A10 A11 : List V) (i : Nat) (hi : i < 5) (p a : Int × Int) (tx : List UInt8) (hx : tx.length ≤ 10) (q4 : A4.length ≤ 5) (q5 : A5.length ≤ 5) (q6 : A6.length ≤ 5) (q7 : A7.length ≤ 5) (q8 : A8.length ≤ 5) (q9 : A9.length ≤ 5) (q10 : A10.length ≤ 5) (q11 : A11.length ≤ 5)
    (e6 : (lim T).call 6 [.agg [.int .i64 n, .int .i64 sx, .int .i64 sy], .agg [.int .i64 p.1, .int .i64 p.2]] [] 0 [] = some (.tup [.agg [.int .i64 a.1, .int .i64 a.2], .int .i64 0], [], 0, []))
    (e7 : (lim T).call 7 [.agg [.int .i64 n, .int .i64 sx, .int .i64 sy], .agg [.int .i64 a.1, .int .i64 a.2]] [] 0 [] = some (.tup [.agg [.int .i64 p.1, .int .i64 p.2], .int .i64 0], [], 0, []))
    (ha : inB a) (e8 : (lim T).call 8 [.int .i64 i] [] 0 [] = some (.str tx, [], 0, []))
    (hb : (IntKind.u8.wrap ((BitVec.ofInt 8 (h.fdiv (2 ^ min i 8)) &&& 1#8).toNat : Int) == 1) = true) :
    IB b ps t s0 s1 h d0 d1 n sx sy it A4 A5 A6 A7 A8 A9 A10 A11 i p A4.length = LB b ps t s0 s1 h d0 d1 n sx sy it (A4 ++ [.agg [.int .i64 p.1, .int .i64 p.2]]) (A5 ++ [.agg [.int .i64 a.1, .int .i64 a.2]]) (A6 ++ [.agg [.int .u8 80, .int .u8 86, .int .u8 (48 + i), .int .u8 0, .int .u8 0, .int .u8 0, .int .u8 0, .int .u8 0, .int .i64 a.1, .int .i64 a.2]]) (A7 ++ [.agg [.int .i64 p.1, .int .i64 p.2, .int .i64 (1 + i)]]) (A8 ++ [.agg [.str (109 :: tx), .int .i64 a.1, .int .i64 a.2, .int .i64 0, .int .i64 0]]) (A9 ++ [.agg [.int .u8 80, .int .u8 86, .int .u8 (48 + i), .int .u8 0, .int .u8 0, .int .u8 0, .int .u8 0, .int .u8 0]]) (A10 ++ [.int .i64 i]) A11 (i + 1) := by
  have hmr : maxRow = 16777216 := rfl
  have hms : maxStr = 1099511627776 := rfl
  unfold inB at ha
  have d1 : decide (a.1 < -1000) = false := decide_eq_false (by omega)
  have d2 : decide (a.1 > 1000) = false := decide_eq_false (by omega)
  have d3 : decide (a.2 < -1000) = false := decide_eq_false (by omega)
  have d4 : decide (a.2 > 1000) = false := decide_eq_false (by omega)
  have h4 : IntKind.i64.wrap ((i : Int) + 1) = ((i + 1 : Nat) : Int) := by rw [wrap64] <;> omega
  have w1 : IntKind.i64.wrap (48 + (i : Int)) = 48 + i := wrapB (by omega)
  have w2 : IntKind.u8.wrap (48 + (i : Int)) = 48 + i := by have : i = 0 ∨ i = 1 ∨ i = 2 ∨ i = 3 ∨ i = 4 := by omega
                                                            rcases this with rfl | rfl | rfl | rfl | rfl <;> rfl
  have w3 : IntKind.i64.wrap (1 + (i : Int)) = 1 + i := wrapB (by omega)
  have l0 : decide (1 < maxRow) = true := rfl
  have lx : decide (1 + tx.length < maxStr) = true := decide_eq_true (by omega)
  have li : decide (0 ≤ (i : Int)) = true := decide_eq_true (by omega)
  have l4 : decide (A4.length + 1 < maxRow) = true := decide_eq_true (by omega)
  have l5 : decide (A5.length + 1 < maxRow) = true := decide_eq_true (by omega)
  have l6 : decide (A6.length + 1 < maxRow) = true := decide_eq_true (by omega)
  have l7 : decide (A7.length + 1 < maxRow) = true := decide_eq_true (by omega)
  have l8 : decide (A8.length + 1 < maxRow) = true := decide_eq_true (by omega)
  have l9 : decide (A9.length + 1 < maxRow) = true := decide_eq_true (by omega)
  have l10 : decide (A10.length + 1 < maxRow) = true := decide_eq_true (by omega)
  have l11 : decide (A11.length + 1 < maxRow) = true := decide_eq_true (by omega)
  have h0 := idx_out A4.length
  skip
  unfold IB LB
  rw [loopEq]
  unfold xC K3
  simp -implicitDefEqProofs only [go_sem, simprocAttr, h0, h4, e6, e7, d1, d2, d3, d4, e8, w1, w2, w3, l0, lx, li, l4, l5, l6, l7, l8, l9, l10, l11]
  generalize hg : (IntKind.u8.wrap _ == 1) = bb
  have hbb := hg.symm.trans hb
  subst hbb
  rfl
end
section
variable (b : Bool) (ps : List (Int × Int)) (t s0 s1 h d0 d1 n sx sy : Int) (it : List Item)
theorem stBc (A4 A5 A6 A7 A8 A9 A10 A11 : List V) (i : Nat) (hi : i < 5) (p a : Int × Int) (tx : List UInt8) (hx : tx.length ≤ 10) (q4 : A4.length ≤ 5) (q5 : A5.length ≤ 5) (q6 : A6.length ≤ 5) (q7 : A7.length ≤ 5) (q8 : A8.length ≤ 5) (q9 : A9.length ≤ 5) (q10 : A10.length ≤ 5) (q11 : A11.length ≤ 5)
    (e6 : (lim T).call 6 [.agg [.int .i64 n, .int .i64 sx, .int .i64 sy], .agg [.int .i64 p.1, .int .i64 p.2]] [] 0 [] = some (.tup [.agg [.int .i64 a.1, .int .i64 a.2], .int .i64 0], [], 0, []))
    (e7 : (lim T).call 7 [.agg [.int .i64 n, .int .i64 sx, .int .i64 sy], .agg [.int .i64 a.1, .int .i64 a.2]] [] 0 [] = some (.tup [.agg [.int .i64 p.1, .int .i64 p.2], .int .i64 0], [], 0, []))
    (ha : inB a) (e8 : (lim T).call 8 [.int .i64 i] [] 0 [] = some (.str tx, [], 0, []))
    (hb : (IntKind.u8.wrap ((BitVec.ofInt 8 (h.fdiv (2 ^ min i 8)) &&& 1#8).toNat : Int) == 1) = false) :
    IB b ps t s0 s1 h d0 d1 n sx sy it A4 A5 A6 A7 A8 A9 A10 A11 i p A4.length = LB b ps t s0 s1 h d0 d1 n sx sy it (A4 ++ [.agg [.int .i64 p.1, .int .i64 p.2]]) (A5 ++ [.agg [.int .i64 a.1, .int .i64 a.2]]) (A6 ++ [.agg [.int .u8 80, .int .u8 86, .int .u8 (48 + i), .int .u8 0, .int .u8 0, .int .u8 0, .int .u8 0, .int .u8 0, .int .i64 a.1, .int .i64 a.2]]) A7 (A8 ++ [.agg [.str (109 :: tx), .int .i64 a.1, .int .i64 a.2, .int .i64 0, .int .i64 0]]) A9 A10 (A11 ++ [.int .i64 i]) (i + 1) := by
  have hmr : maxRow = 16777216 := rfl
  have hms : maxStr = 1099511627776 := rfl
  unfold inB at ha
  have d1 : decide (a.1 < -1000) = false := decide_eq_false (by omega)
  have d2 : decide (a.1 > 1000) = false := decide_eq_false (by omega)
  have d3 : decide (a.2 < -1000) = false := decide_eq_false (by omega)
  have d4 : decide (a.2 > 1000) = false := decide_eq_false (by omega)
  have h4 : IntKind.i64.wrap ((i : Int) + 1) = ((i + 1 : Nat) : Int) := by rw [wrap64] <;> omega
  have w1 : IntKind.i64.wrap (48 + (i : Int)) = 48 + i := wrapB (by omega)
  have w2 : IntKind.u8.wrap (48 + (i : Int)) = 48 + i := by have : i = 0 ∨ i = 1 ∨ i = 2 ∨ i = 3 ∨ i = 4 := by omega
                                                            rcases this with rfl | rfl | rfl | rfl | rfl <;> rfl
  have w3 : IntKind.i64.wrap (1 + (i : Int)) = 1 + i := wrapB (by omega)
  have l0 : decide (1 < maxRow) = true := rfl
  have lx : decide (1 + tx.length < maxStr) = true := decide_eq_true (by omega)
  have li : decide (0 ≤ (i : Int)) = true := decide_eq_true (by omega)
  have l4 : decide (A4.length + 1 < maxRow) = true := decide_eq_true (by omega)
  have l5 : decide (A5.length + 1 < maxRow) = true := decide_eq_true (by omega)
  have l6 : decide (A6.length + 1 < maxRow) = true := decide_eq_true (by omega)
  have l7 : decide (A7.length + 1 < maxRow) = true := decide_eq_true (by omega)
  have l8 : decide (A8.length + 1 < maxRow) = true := decide_eq_true (by omega)
  have l9 : decide (A9.length + 1 < maxRow) = true := decide_eq_true (by omega)
  have l10 : decide (A10.length + 1 < maxRow) = true := decide_eq_true (by omega)
  have l11 : decide (A11.length + 1 < maxRow) = true := decide_eq_true (by omega)
  have h0 := idx_out A4.length
  skip
  unfold IB LB
  rw [loopEq]
  unfold xC K3
  simp -implicitDefEqProofs only [go_sem, simprocAttr, h0, h4, e6, e7, d1, d2, d3, d4, e8, w1, w2, w3, l0, lx, li, l4, l5, l6, l7, l8, l9, l10, l11]
  generalize hg : (IntKind.u8.wrap _ == 1) = bb
  have hbb := hg.symm.trans hb
  subst hbb
  rfl
end
theorem e66 {n sx sy : Int} {p : Int × Int} (hf : ckF n sx sy = 0) (hp : bnd 1000 p) : (lim T).call 6 [.agg [.int .i64 n, .int .i64 sx, .int .i64 sy], .agg [.int .i64 p.1, .int .i64 p.2]] [] 0 [] = some (.tup [.agg [.int .i64 (cry n sx sy p.1 p.2).1, .int .i64 (cry n sx sy p.1 p.2).2], .int .i64 0], [], 0, []) := by
  have hs := ckF_bnd hf
  have hk : ckP p.1 p.2 = 0 := ckP_0 (by unfold bnd at hp; unfold inB; omega)
  have h0 : fnz [ckF n sx sy, ckP p.1 p.2] = 0 := by rw [hf, hk]; rfl
  have h := c66 n sx sy p.1 p.2
  rw [if_pos h0, carr_cry (bnd_mono (by omega) hs.2) (bnd_mono (by omega) (show bnd 1000 (p.1, p.2) from hp))] at h
  exact h
theorem e67 {n sx sy : Int} {p : Int × Int} (hf : ckF n sx sy = 0) (hp : bnd 1000 p) (hc : ckP (cry n sx sy p.1 p.2).1 (cry n sx sy p.1 p.2).2 = 0) : (lim T).call 7 [.agg [.int .i64 n, .int .i64 sx, .int .i64 sy], .agg [.int .i64 (cry n sx sy p.1 p.2).1, .int .i64 (cry n sx sy p.1 p.2).2]] [] 0 [] = some (.tup [.agg [.int .i64 p.1, .int .i64 p.2], .int .i64 0], [], 0, []) := by
  have hs := ckF_bnd hf
  have h0 : fnz [ckF n sx sy, ckP (cry n sx sy p.1 p.2).1 (cry n sx sy p.1 p.2).2] = 0 := by rw [hf, hc]; rfl
  have h := c67 n sx sy (cry n sx sy p.1 p.2).1 (cry n sx sy p.1 p.2).2
  rw [if_pos h0, back_cry hs.1 (bnd_mono (by omega) hs.2) (bnd_mono (by omega) (show bnd 1000 (p.1, p.2) from hp))] at h
  exact h
def txI (k : Nat) : List UInt8 := [UInt8.ofNat (48 + k)]
theorem e8 (i : Nat) (hi : i < 5) : (lim T).call 8 [.int .i64 i] [] 0 [] = some (.str (txI i), [], 0, []) := by
  have h : i = 0 ∨ i = 1 ∨ i = 2 ∨ i = 3 ∨ i = 4 := by omega
  rcases h with rfl | rfl | rfl | rfl | rfl
  · exact memo_call mo0 100000 (by kernel_rfl)
  · exact memo_call mo0 100000 (by kernel_rfl)
  · exact memo_call mo0 100000 (by kernel_rfl)
  · exact memo_call mo0 100000 (by kernel_rfl)
  · exact memo_call mo0 100000 (by kernel_rfl)
structure Ask where
  b : Bool
  ps : List (Int × Int)
  t : Int
  s0 : Int
  s1 : Int
  h : Int
  d0 : Int
  d1 : Int
  n : Int
  sx : Int
  sy : Int
namespace Ask
variable (x : Ask)
def pt (k : Nat) : Int × Int := pm (x.ps.getD k (0, 0))
def at_ (k : Nat) : Int × Int := cry x.n x.sx x.sy (x.pt k).1 (x.pt k).2
def ser (k : Nat) : Ser := ⟨80, 86, 48 + k, 0, 0, 0, 0, 0⟩
def md (k : Nat) : Md := ⟨ser k, (x.at_ k).1, (x.at_ k).2⟩
def sd (k : Nat) : Sd := ⟨109 :: txI k, x.at_ k, 0, 0⟩
def sp (k : Nat) : Int × Int × Int := ((x.pt k).1, (x.pt k).2, 1 + k)
def hot (k : Nat) : Bool := IntKind.u8.wrap ((BitVec.ofInt 8 (x.h.fdiv (2 ^ min k 8)) &&& 1#8).toNat : Int) == 1
def hotL (i : Nat) : List Nat := (List.range i).filter x.hot
def coldL (i : Nat) : List Nat := (List.range i).filter fun k => !x.hot k
def pic (i : Nat) : List (Int × Int) := (List.range i).map x.pt
def park (i : Nat) : List (Int × Int) := (List.range i).map x.at_
def mds (i : Nat) : List Md := (List.range i).map x.md
def sds (i : Nat) : List Sd := (List.range i).map x.sd
def sps (i : Nat) : List (Int × Int × Int) := (x.hotL i).map x.sp
def want (i : Nat) : List Ser := (x.hotL i).map ser
def hots (i : Nat) : List Int := (x.hotL i).map fun (k : Nat) => (k : Int)
def colds (i : Nat) : List Int := (x.coldL i).map fun (k : Nat) => (k : Int)
structure Ok : Prop where
  len : x.ps.length ≤ 5
  pts : ∀ p ∈ x.ps, (0 ≤ p.1 ∧ p.1 ≤ 255) ∧ 0 ≤ p.2 ∧ p.2 ≤ 255
  n : 0 ≤ x.n ∧ x.n ≤ 3
  sx : -900 ≤ x.sx ∧ x.sx ≤ 900
  sy : -900 ≤ x.sy ∧ x.sy ≤ 900
variable {x}
theorem Ok.pt (hx : x.Ok) (k : Nat) : (0 ≤ (x.pt k).1 ∧ (x.pt k).1 ≤ 15) ∧ 0 ≤ (x.pt k).2 ∧ (x.pt k).2 ≤ 15 := by
  have hb : (0 ≤ (x.ps.getD k (0, 0)).1 ∧ (x.ps.getD k (0, 0)).1 ≤ 255) ∧ 0 ≤ (x.ps.getD k (0, 0)).2 ∧ (x.ps.getD k (0, 0)).2 ≤ 255 := by
    rw [List.getD_eq_getElem?_getD]
    cases h : x.ps[k]? with
    | none => simp
    | some p => simpa using hx.pts p (List.mem_of_getElem? h)
  unfold Ask.pt pm
  dsimp only
  rw [wrapB (by omega), wrapB (by omega), Int.tmod_eq_emod_of_nonneg hb.1.1, Int.tmod_eq_emod_of_nonneg hb.2.1]
  omega
theorem Ok.fr (hx : x.Ok) : ckF x.n x.sx x.sy = 0 := by
  have := hx.n
  have := hx.sx
  have := hx.sy
  unfold ckF ckP
  rw [rng_0 (by omega), rng_0 (by omega), rng_0 (by omega)]; rfl
theorem Ok.at_ (hx : x.Ok) (k : Nat) : -915 ≤ (x.at_ k).1 ∧ (x.at_ k).1 ≤ 915 ∧ -915 ≤ (x.at_ k).2 ∧ (x.at_ k).2 ≤ 915 := by
  have h1 := hx.pt k
  have h2 := hx.n
  have h3 := hx.sx
  have h4 := hx.sy
  unfold Ask.at_ cry tr
  have hn : x.n = 0 ∨ x.n = 1 ∨ x.n = 2 ∨ x.n = 3 := by omega
  rcases hn with h | h | h | h <;> simp [h] <;> omega
theorem hotL_s (i : Nat) : x.hotL (i + 1) = x.hotL i ++ (if x.hot i then [i] else []) := by
  unfold hotL; rw [List.range_succ, List.filter_append]; cases h : x.hot i <;> simp [h]
theorem coldL_s (i : Nat) : x.coldL (i + 1) = x.coldL i ++ (if x.hot i then [] else [i]) := by
  unfold coldL; rw [List.range_succ, List.filter_append]; cases h : x.hot i <;> simp [h]
theorem empty {i : Nat} (h : x.hotL i = []) (h2 : x.coldL i = []) : i = 0 := by
  cases i with
  | zero => rfl
  | succ i =>
    rw [hotL_s] at h
    rw [coldL_s] at h2
    cases hc : x.hot i <;> simp [hc] at h h2
theorem hotL_len (i : Nat) : (x.hotL i).length ≤ i := by unfold hotL; exact Nat.le_trans (List.length_filter_le _ _) (by simp)
theorem coldL_len (i : Nat) : (x.coldL i).length ≤ i := by unfold coldL; exact Nat.le_trans (List.length_filter_le _ _) (by simp)
variable (x)
def R4 (i : Nat) : List V := (x.pic i).map ptV
def R5 (i : Nat) : List V := (x.park i).map ptV
def R6 (i : Nat) : List V := (x.mds i).map mdV
def R7 (i : Nat) : List V := (x.sps i).map spV
def R8 (i : Nat) : List V := (x.sds i).map sdV
def R9 (i : Nat) : List V := (x.want i).map serV
def R10 (i : Nat) : List V := (x.hots i).map intV
def R11 (i : Nat) : List V := (x.colds i).map intV
def LL (it : List Item) (i : Nat) : Option Out := match x.hotL i, x.coldL i with
  | [], [] => L0 x.b x.ps x.t x.s0 x.s1 x.h x.d0 x.d1 x.n x.sx x.sy it i
  | _ :: _, [] => LH x.b x.ps x.t x.s0 x.s1 x.h x.d0 x.d1 x.n x.sx x.sy it (x.R4 i) (x.R5 i) (x.R6 i) (x.R7 i) (x.R8 i) (x.R9 i) (x.R10 i) i
  | [], _ :: _ => LC x.b x.ps x.t x.s0 x.s1 x.h x.d0 x.d1 x.n x.sx x.sy it (x.R4 i) (x.R5 i) (x.R6 i) (x.R8 i) (x.R11 i) i
  | _ :: _, _ :: _ => LB x.b x.ps x.t x.s0 x.s1 x.h x.d0 x.d1 x.n x.sx x.sy it (x.R4 i) (x.R5 i) (x.R6 i) (x.R7 i) (x.R8 i) (x.R9 i) (x.R10 i) (x.R11 i) i
variable {x}
theorem R4_s (i : Nat) : x.R4 (i + 1) = x.R4 i ++ [.agg [.int .i64 (x.pt i).1, .int .i64 (x.pt i).2]] := by unfold R4 pic; rw [List.range_succ, List.map_append, List.map_append]; rfl
theorem R5_s (i : Nat) : x.R5 (i + 1) = x.R5 i ++ [.agg [.int .i64 (x.at_ i).1, .int .i64 (x.at_ i).2]] := by unfold R5 park; rw [List.range_succ, List.map_append, List.map_append]; rfl
theorem R6_s (i : Nat) : x.R6 (i + 1) = x.R6 i ++ [.agg [.int .u8 80, .int .u8 86, .int .u8 (48 + i), .int .u8 0, .int .u8 0, .int .u8 0, .int .u8 0, .int .u8 0, .int .i64 (x.at_ i).1, .int .i64 (x.at_ i).2]] := by unfold R6 mds; rw [List.range_succ, List.map_append, List.map_append]; rfl
theorem R8_s (i : Nat) : x.R8 (i + 1) = x.R8 i ++ [.agg [.str (109 :: txI i), .int .i64 (x.at_ i).1, .int .i64 (x.at_ i).2, .int .i64 0, .int .i64 0]] := by unfold R8 sds; rw [List.range_succ, List.map_append, List.map_append]; rfl
theorem R7_h {i : Nat} (h : x.hot i = true) : x.R7 (i + 1) = x.R7 i ++ [.agg [.int .i64 (x.pt i).1, .int .i64 (x.pt i).2, .int .i64 (1 + i)]] := by unfold R7 sps; rw [hotL_s, h, if_pos rfl, List.map_append, List.map_append]; rfl
theorem R9_h {i : Nat} (h : x.hot i = true) : x.R9 (i + 1) = x.R9 i ++ [.agg [.int .u8 80, .int .u8 86, .int .u8 (48 + i), .int .u8 0, .int .u8 0, .int .u8 0, .int .u8 0, .int .u8 0]] := by unfold R9 want; rw [hotL_s, h, if_pos rfl, List.map_append, List.map_append]; rfl
theorem R10_h {i : Nat} (h : x.hot i = true) : x.R10 (i + 1) = x.R10 i ++ [.int .i64 i] := by unfold R10 hots; rw [hotL_s, h, if_pos rfl, List.map_append, List.map_append]; rfl
theorem R11_h {i : Nat} (h : x.hot i = true) : x.R11 (i + 1) = x.R11 i := by unfold R11 colds; rw [coldL_s, h, if_pos rfl, List.append_nil]
theorem R7_c {i : Nat} (h : x.hot i = false) : x.R7 (i + 1) = x.R7 i := by unfold R7 sps; rw [hotL_s, h, if_neg (by decide), List.append_nil]
theorem R9_c {i : Nat} (h : x.hot i = false) : x.R9 (i + 1) = x.R9 i := by unfold R9 want; rw [hotL_s, h, if_neg (by decide), List.append_nil]
theorem R10_c {i : Nat} (h : x.hot i = false) : x.R10 (i + 1) = x.R10 i := by unfold R10 hots; rw [hotL_s, h, if_neg (by decide), List.append_nil]
theorem R11_c {i : Nat} (h : x.hot i = false) : x.R11 (i + 1) = x.R11 i ++ [.int .i64 i] := by unfold R11 colds; rw [coldL_s, h, if_neg (by decide), List.map_append, List.map_append]; rfl
theorem LL_0 {it : List Item} {i : Nat} (h : x.hotL i = []) (h2 : x.coldL i = []) : x.LL it i = L0 x.b x.ps x.t x.s0 x.s1 x.h x.d0 x.d1 x.n x.sx x.sy it i := by unfold LL; rw [h, h2]
theorem LL_H {it : List Item} {i : Nat} (h : x.hotL i ≠ []) (h2 : x.coldL i = []) : x.LL it i = LH x.b x.ps x.t x.s0 x.s1 x.h x.d0 x.d1 x.n x.sx x.sy it (x.R4 i) (x.R5 i) (x.R6 i) (x.R7 i) (x.R8 i) (x.R9 i) (x.R10 i) i := by
  unfold LL; rw [h2]
  cases hh : x.hotL i with
  | nil => exact absurd hh h
  | cons a r => rfl
theorem LL_C {it : List Item} {i : Nat} (h : x.hotL i = []) (h2 : x.coldL i ≠ []) : x.LL it i = LC x.b x.ps x.t x.s0 x.s1 x.h x.d0 x.d1 x.n x.sx x.sy it (x.R4 i) (x.R5 i) (x.R6 i) (x.R8 i) (x.R11 i) i := by
  unfold LL; rw [h]
  cases hh : x.coldL i with
  | nil => exact absurd hh h2
  | cons a r => rfl
theorem LL_B {it : List Item} {i : Nat} (h : x.hotL i ≠ []) (h2 : x.coldL i ≠ []) : x.LL it i = LB x.b x.ps x.t x.s0 x.s1 x.h x.d0 x.d1 x.n x.sx x.sy it (x.R4 i) (x.R5 i) (x.R6 i) (x.R7 i) (x.R8 i) (x.R9 i) (x.R10 i) (x.R11 i) i := by
  unfold LL
  cases hh : x.hotL i with
  | nil => exact absurd hh h
  | cons a r => cases hc : x.coldL i with
    | nil => exact absurd hc h2
    | cons a r => rfl
theorem LL_step (hx : x.Ok) (it : List Item) (i : Nat) (hi : i < x.ps.length) :
    x.LL it i = if hasP (x.pt i) (x.pic i) = true then some (.ret (.bool true), [], 0, []) else x.LL it (i + 1) := by
  have hlen := hx.len
  have hp := hx.pt i
  have ha := hx.at_ i
  have hia : inB (x.at_ i) := by unfold inB; omega
  have hpi : pm x.ps[i] = x.pt i := by unfold Ask.pt; rw [List.getD_eq_getElem?_getD, List.getElem?_eq_getElem hi]; rfl
  have hbn : bnd 1000 (x.pt i) := by unfold bnd; omega
  have f6 := e66 hx.fr hbn
  have f7 := e67 hx.fr hbn (ckP_0 hia)
  have f8 := e8 i (by omega)
  have htx : (txI i).length ≤ 10 := by simp [txI]
  have q4 : (x.R4 i).length ≤ 5 := by simp [R4, pic]; omega
  have q5 : (x.R5 i).length ≤ 5 := by simp [R5, park]; omega
  have q6 : (x.R6 i).length ≤ 5 := by simp [R6, mds]; omega
  have q8 : (x.R8 i).length ≤ 5 := by simp [R8, sds]; omega
  have hh := x.hotL_len i
  have hcl := x.coldL_len i
  have q7 : (x.R7 i).length ≤ 5 := by simp [R7, sps]; omega
  have q9 : (x.R9 i).length ≤ 5 := by simp [R9, want]; omega
  have q10 : (x.R10 i).length ≤ 5 := by simp [R10, hots]; omega
  have q11 : (x.R11 i).length ≤ 5 := by simp [R11, colds]; omega
  have hpl : (x.pic i).length = i := by simp [pic]
  have h4 : (x.R4 i).length = (x.pic i).length := by simp [R4]
  have hs := hotL_s (x := x) i
  have cs := coldL_s (x := x) i
  have hg : ∀ bv, x.hot i = bv → (IntKind.u8.wrap ((BitVec.ofInt 8 (x.h.fdiv (2 ^ min i 8)) &&& 1#8).toNat : Int) == 1) = bv := fun bv h => h
  by_cases hH : x.hotL i = []
  · by_cases hC : x.coldL i = []
    · rw [LL_0 hH hC, ent0 x.b x.ps x.t x.s0 x.s1 x.h x.d0 x.d1 x.n x.sx x.sy it  i hi hlen, hpi]
      have hi0 := empty hH hC
      have hn : hasP (x.pt i) (x.pic i) = false := by rw [hi0]; rfl
      rw [hn, if_neg (by decide)]
      have z4 : x.R4 i = [] := by rw [hi0]; rfl
      have z5 : x.R5 i = [] := by rw [hi0]; rfl
      have z6 : x.R6 i = [] := by rw [hi0]; rfl
      have z8 : x.R8 i = [] := by rw [hi0]; rfl
      have z7 : x.R7 i = [] := by unfold R7 sps; rw [hH]; rfl
      have z9 : x.R9 i = [] := by unfold R9 want; rw [hH]; rfl
      have z10 : x.R10 i = [] := by unfold R10 hots; rw [hH]; rfl
      have z11 : x.R11 i = [] := by unfold R11 colds; rw [hC]; rfl
      cases hb : x.hot i
      · have e := st0c x.b x.ps x.t x.s0 x.s1 x.h x.d0 x.d1 x.n x.sx x.sy it  i (by omega) (x.pt i) (x.at_ i) (txI i) htx  f6 f7 hia f8 (hg _ hb)
        refine (show I0 x.b x.ps x.t x.s0 x.s1 x.h x.d0 x.d1 x.n x.sx x.sy it i (x.pt i) 0 = _ from e).trans ?_
        rw [LL_C (by rw [hs]; simp [hb, hH]) (by rw [cs]; simp [hb]), R4_s, R5_s, R6_s, R8_s, R11_c hb]
        rw [z4, z5, z6, z8, z11]
        rfl
      · have e := st0h x.b x.ps x.t x.s0 x.s1 x.h x.d0 x.d1 x.n x.sx x.sy it  i (by omega) (x.pt i) (x.at_ i) (txI i) htx  f6 f7 hia f8 (hg _ hb)
        refine (show I0 x.b x.ps x.t x.s0 x.s1 x.h x.d0 x.d1 x.n x.sx x.sy it i (x.pt i) 0 = _ from e).trans ?_
        rw [LL_H (by rw [hs]; simp [hb]) (by rw [cs]; simp [hb, hC]), R4_s, R5_s, R6_s, R8_s, R7_h hb, R9_h hb, R10_h hb]
        rw [z4, z5, z6, z8, z7, z9, z10]
        rfl
    · rw [LL_C hH hC, entC x.b x.ps x.t x.s0 x.s1 x.h x.d0 x.d1 x.n x.sx x.sy it (x.R4 i) (x.R5 i) (x.R6 i) (x.R8 i) (x.R11 i) i hi hlen, hpi]
      have hd := dupC x.b x.ps x.t x.s0 x.s1 x.h x.d0 x.d1 x.n x.sx x.sy it (x.pic i) (x.R5 i) (x.R6 i) (x.R8 i) (x.R11 i) i (x.pt i) (by rw [hpl]; omega) 0 (by omega)
      rw [List.drop_zero] at hd
      rw [show IC x.b x.ps x.t x.s0 x.s1 x.h x.d0 x.d1 x.n x.sx x.sy it (x.R4 i) (x.R5 i) (x.R6 i) (x.R8 i) (x.R11 i) i (x.pt i) 0 = _ from hd]
      split
      · rfl
      · cases hb : x.hot i
        · have e := stCc x.b x.ps x.t x.s0 x.s1 x.h x.d0 x.d1 x.n x.sx x.sy it (x.R4 i) (x.R5 i) (x.R6 i) (x.R8 i) (x.R11 i) i (by omega) (x.pt i) (x.at_ i) (txI i) htx q4 q5 q6 q8 q11 f6 f7 hia f8 (hg _ hb)
          rw [h4] at e
          refine (show IC x.b x.ps x.t x.s0 x.s1 x.h x.d0 x.d1 x.n x.sx x.sy it ((x.pic i).map ptV) (x.R5 i) (x.R6 i) (x.R8 i) (x.R11 i) i (x.pt i) (x.pic i).length = _ from e).trans ?_
          rw [LL_C (by rw [hs]; simp [hb, hH]) (by rw [cs]; simp [hb]), R4_s, R5_s, R6_s, R8_s, R11_c hb]
        · have e := stCh x.b x.ps x.t x.s0 x.s1 x.h x.d0 x.d1 x.n x.sx x.sy it (x.R4 i) (x.R5 i) (x.R6 i) (x.R8 i) (x.R11 i) i (by omega) (x.pt i) (x.at_ i) (txI i) htx q4 q5 q6 q8 q11 f6 f7 hia f8 (hg _ hb)
          rw [h4] at e
          refine (show IC x.b x.ps x.t x.s0 x.s1 x.h x.d0 x.d1 x.n x.sx x.sy it ((x.pic i).map ptV) (x.R5 i) (x.R6 i) (x.R8 i) (x.R11 i) i (x.pt i) (x.pic i).length = _ from e).trans ?_
          rw [LL_B (by rw [hs]; simp [hb]) (by rw [cs]; simp [hb, hC]), R4_s, R5_s, R6_s, R8_s, R7_h hb, R9_h hb, R10_h hb, R11_h hb]
          rw [show x.R7 i = [] by unfold R7 sps; rw [hH]; rfl, show x.R9 i = [] by unfold R9 want; rw [hH]; rfl, show x.R10 i = [] by unfold R10 hots; rw [hH]; rfl]
          rfl
  · by_cases hC : x.coldL i = []
    · rw [LL_H hH hC, entH x.b x.ps x.t x.s0 x.s1 x.h x.d0 x.d1 x.n x.sx x.sy it (x.R4 i) (x.R5 i) (x.R6 i) (x.R7 i) (x.R8 i) (x.R9 i) (x.R10 i) i hi hlen, hpi]
      have hd := dupH x.b x.ps x.t x.s0 x.s1 x.h x.d0 x.d1 x.n x.sx x.sy it (x.pic i) (x.R5 i) (x.R6 i) (x.R7 i) (x.R8 i) (x.R9 i) (x.R10 i) i (x.pt i) (by rw [hpl]; omega) 0 (by omega)
      rw [List.drop_zero] at hd
      rw [show IH x.b x.ps x.t x.s0 x.s1 x.h x.d0 x.d1 x.n x.sx x.sy it (x.R4 i) (x.R5 i) (x.R6 i) (x.R7 i) (x.R8 i) (x.R9 i) (x.R10 i) i (x.pt i) 0 = _ from hd]
      split
      · rfl
      · cases hb : x.hot i
        · have e := stHc x.b x.ps x.t x.s0 x.s1 x.h x.d0 x.d1 x.n x.sx x.sy it (x.R4 i) (x.R5 i) (x.R6 i) (x.R7 i) (x.R8 i) (x.R9 i) (x.R10 i) i (by omega) (x.pt i) (x.at_ i) (txI i) htx q4 q5 q6 q7 q8 q9 q10 f6 f7 hia f8 (hg _ hb)
          rw [h4] at e
          refine (show IH x.b x.ps x.t x.s0 x.s1 x.h x.d0 x.d1 x.n x.sx x.sy it ((x.pic i).map ptV) (x.R5 i) (x.R6 i) (x.R7 i) (x.R8 i) (x.R9 i) (x.R10 i) i (x.pt i) (x.pic i).length = _ from e).trans ?_
          rw [LL_B (by rw [hs]; simp [hb, hH]) (by rw [cs]; simp [hb]), R4_s, R5_s, R6_s, R8_s, R7_c hb, R9_c hb, R10_c hb, R11_c hb]
          rw [show x.R11 i = [] by unfold R11 colds; rw [hC]; rfl]
          rfl
        · have e := stHh x.b x.ps x.t x.s0 x.s1 x.h x.d0 x.d1 x.n x.sx x.sy it (x.R4 i) (x.R5 i) (x.R6 i) (x.R7 i) (x.R8 i) (x.R9 i) (x.R10 i) i (by omega) (x.pt i) (x.at_ i) (txI i) htx q4 q5 q6 q7 q8 q9 q10 f6 f7 hia f8 (hg _ hb)
          rw [h4] at e
          refine (show IH x.b x.ps x.t x.s0 x.s1 x.h x.d0 x.d1 x.n x.sx x.sy it ((x.pic i).map ptV) (x.R5 i) (x.R6 i) (x.R7 i) (x.R8 i) (x.R9 i) (x.R10 i) i (x.pt i) (x.pic i).length = _ from e).trans ?_
          rw [LL_H (by rw [hs]; simp [hb]) (by rw [cs]; simp [hb, hC]), R4_s, R5_s, R6_s, R8_s, R7_h hb, R9_h hb, R10_h hb]
    · rw [LL_B hH hC, entB x.b x.ps x.t x.s0 x.s1 x.h x.d0 x.d1 x.n x.sx x.sy it (x.R4 i) (x.R5 i) (x.R6 i) (x.R7 i) (x.R8 i) (x.R9 i) (x.R10 i) (x.R11 i) i hi hlen, hpi]
      have hd := dupB x.b x.ps x.t x.s0 x.s1 x.h x.d0 x.d1 x.n x.sx x.sy it (x.pic i) (x.R5 i) (x.R6 i) (x.R7 i) (x.R8 i) (x.R9 i) (x.R10 i) (x.R11 i) i (x.pt i) (by rw [hpl]; omega) 0 (by omega)
      rw [List.drop_zero] at hd
      rw [show IB x.b x.ps x.t x.s0 x.s1 x.h x.d0 x.d1 x.n x.sx x.sy it (x.R4 i) (x.R5 i) (x.R6 i) (x.R7 i) (x.R8 i) (x.R9 i) (x.R10 i) (x.R11 i) i (x.pt i) 0 = _ from hd]
      split
      · rfl
      · cases hb : x.hot i
        · have e := stBc x.b x.ps x.t x.s0 x.s1 x.h x.d0 x.d1 x.n x.sx x.sy it (x.R4 i) (x.R5 i) (x.R6 i) (x.R7 i) (x.R8 i) (x.R9 i) (x.R10 i) (x.R11 i) i (by omega) (x.pt i) (x.at_ i) (txI i) htx q4 q5 q6 q7 q8 q9 q10 q11 f6 f7 hia f8 (hg _ hb)
          rw [h4] at e
          refine (show IB x.b x.ps x.t x.s0 x.s1 x.h x.d0 x.d1 x.n x.sx x.sy it ((x.pic i).map ptV) (x.R5 i) (x.R6 i) (x.R7 i) (x.R8 i) (x.R9 i) (x.R10 i) (x.R11 i) i (x.pt i) (x.pic i).length = _ from e).trans ?_
          rw [LL_B (by rw [hs]; simp [hb, hH]) (by rw [cs]; simp [hb]), R4_s, R5_s, R6_s, R8_s, R7_c hb, R9_c hb, R10_c hb, R11_c hb]
        · have e := stBh x.b x.ps x.t x.s0 x.s1 x.h x.d0 x.d1 x.n x.sx x.sy it (x.R4 i) (x.R5 i) (x.R6 i) (x.R7 i) (x.R8 i) (x.R9 i) (x.R10 i) (x.R11 i) i (by omega) (x.pt i) (x.at_ i) (txI i) htx q4 q5 q6 q7 q8 q9 q10 q11 f6 f7 hia f8 (hg _ hb)
          rw [h4] at e
          refine (show IB x.b x.ps x.t x.s0 x.s1 x.h x.d0 x.d1 x.n x.sx x.sy it ((x.pic i).map ptV) (x.R5 i) (x.R6 i) (x.R7 i) (x.R8 i) (x.R9 i) (x.R10 i) (x.R11 i) i (x.pt i) (x.pic i).length = _ from e).trans ?_
          rw [LL_B (by rw [hs]; simp [hb]) (by rw [cs]; simp [hb, hC]), R4_s, R5_s, R6_s, R8_s, R7_h hb, R9_h hb, R10_h hb, R11_h hb]
def dup (x : Ask) (n : Nat) : Bool := (List.range n).any fun i => hasP (x.pt i) (x.pic i)
theorem LL_all (hx : x.Ok) (it : List Item) : ∀ i, i ≤ x.ps.length → x.LL it 0 = if x.dup i = true then some (.ret (.bool true), [], 0, []) else x.LL it i
  | 0, _ => rfl
  | i + 1, hi => by
    rw [LL_all hx it i (by omega)]
    unfold dup
    rw [List.range_succ, List.any_append]
    cases h : (List.range i).any fun i => hasP (x.pt i) (x.pic i)
    · rw [if_neg (by decide), LL_step hx it i (by omega)]
      simp only [List.any_cons, List.any_nil, Bool.or_false, Bool.false_or]
    · rfl
end Ask
def it3 : List Item := [Item.inBlock 0,
          Item.code (r3_32.seq
              ((r3_33.seq (Code.cond (Operand.tmp 226) (r3_34.seq Code.ret) Code.skip)).seq
                ((r3_35.seq (Code.block 4 b3_2.loop)).seq
                  (r3_41.seq
                    ((r3_42.seq (Code.cond (Operand.tmp 260) (r3_43.seq Code.ret) Code.skip)).seq
                      ((r3_44.seq (Code.block 6 b3_3.loop)).seq
                        (r3_51.seq
                          (r3_52.seq
                            ((r3_53.seq (Code.block 8 b3_4.loop)).seq
                              (r3_58.seq
                                (r3_59.seq
                                  (r3_60.seq
                                    (r3_61.seq
                                      ((r3_62.seq (Code.cond (Operand.tmp 380) (r3_63.seq Code.ret) Code.skip)).seq
                                        ((r3_64.seq (Code.block 10 b3_5.loop)).seq (r3_70.seq Code.ret))))))))))))))))]
def it4 : List Item := [Item.inBlock 4,
          Item.code (r3_41.seq
                    ((r3_42.seq (Code.cond (Operand.tmp 260) (r3_43.seq Code.ret) Code.skip)).seq
                      ((r3_44.seq (Code.block 6 b3_3.loop)).seq
                        (r3_51.seq
                          (r3_52.seq
                            ((r3_53.seq (Code.block 8 b3_4.loop)).seq
                              (r3_58.seq
                                (r3_59.seq
                                  (r3_60.seq
                                    (r3_61.seq
                                      ((r3_62.seq (Code.cond (Operand.tmp 380) (r3_63.seq Code.ret) Code.skip)).seq
                                        ((r3_64.seq (Code.block 10 b3_5.loop)).seq (r3_70.seq Code.ret)))))))))))))]
def it6 : List Item := [Item.inBlock 6, Item.code (r3_51.seq
                          (r3_52.seq
                            ((r3_53.seq (Code.block 8 b3_4.loop)).seq
                              (r3_58.seq
                                (r3_59.seq
                                  (r3_60.seq
                                    (r3_61.seq
                                      ((r3_62.seq (Code.cond (Operand.tmp 380) (r3_63.seq Code.ret) Code.skip)).seq
                                        ((r3_64.seq (Code.block 10 b3_5.loop)).seq (r3_70.seq Code.ret))))))))))]
def it8 : List Item := [Item.inBlock 8, Item.code (r3_58.seq
                                (r3_59.seq
                                  (r3_60.seq
                                    (r3_61.seq
                                      ((r3_62.seq (Code.cond (Operand.tmp 380) (r3_63.seq Code.ret) Code.skip)).seq
                                        ((r3_64.seq (Code.block 10 b3_5.loop)).seq (r3_70.seq Code.ret)))))))]
def it10 : List Item := [Item.inBlock 10, Item.code (r3_70.seq Code.ret)]
structure Rw (A : List V) : Prop where
  q : A.isEmpty = false
  p : pureL A = true
  r : decide (A.length < maxRow) = true
section
variable (b : Bool) (ps : List (Int × Int)) (t s0 s1 h d0 d1 n sx sy : Int)
def MH (A4 A5 A8 A9 A10 W : List V) (j : Nat) : Option Out := (lim T).loop false (.code (.loop b3_2) :: it4) ⟨3, 393, 0, [(1, .ptr 0 0 0), (4, .ref 1), (5, .ref 2), (8, .ref 3), (9, .ref 4), (10, .ref 5), (11, .sl false 0 []), (227, .sl true 8 W), (228, .int .i64 W.length), (229, .int .i64 j)],
  [xC b ps t s0 s1 h d0 d1, .cells false true 31 A4, .cells false true 31 A5, .cells false true 50 A8, .cells false true 45 A9, .cells false true 3 A10], 0, []⟩
theorem sg1H (A4 A5 A6 A7 A8 A9 A10 : List V) (W : List V) (w6 : Rw A6) (w7 : Rw A7) (hw : ((W.length : Int) != (A9.length : Int)) = false) 
    (e9 : (lim T).call 9 [.sl true 3 A7, .agg [.int .i64 n, .int .i64 sx, .int .i64 sy], .sl true 10 A6] [] 0 [] = some (.tup [.sl true 8 W, .sl false 0 [], .int .i64 0], [], 0, [])) :
    LH b ps t s0 s1 h d0 d1 n sx sy it3 A4 A5 A6 A7 A8 A9 A10 ps.length = MH b ps t s0 s1 h d0 d1 A4 A5 A8 A9 A10 W 0 := by
  have h0 := idx_out ps.length
  unfold LH MH
  rw [loopEq]
  unfold xC it3 it4
  simp -implicitDefEqProofs only [go_sem, simprocAttr, h0, e9, w6.q, w6.p, w6.r, w7.q, w7.p, w7.r, hw, appRow_ne]
theorem sg2H (ws : List Ser) (hws : ws.length < 1000) (A4 A5 A8 A10 : List V) : ∀ j, j ≤ ws.length → MH b ps t s0 s1 h d0 d1 A4 A5 A8 (ws.map serV) A10 (ws.map serV) j = MH b ps t s0 s1 h d0 d1 A4 A5 A8 (ws.map serV) A10 (ws.map serV) ws.length := by
  refine down_ind ws.length rfl fun j hj ih => ?_
  obtain ⟨h1, h2, h3, h4, h5⟩ := idx_in hj (by omega)
  rw [← ih]
  conv => lhs; unfold MH; rw [loopEq]
  unfold MH xC it4
  simp -implicitDefEqProofs only [go_sem, simprocAttr, h1, h2, h3, h4, List.length_map]
def FH (g0 g1 g2 : Int) (A4 A5 A8 A10 : List V) (j : Nat) : Option Out := (lim T).loop false (.code (.loop b3_3) :: it6) ⟨3, 393, 0, [(1, .ptr 0 0 0), (5, .ref 1), (8, .ref 2), (10, .ref 3), (11, .sl false 0 []), (27, .ptr 4 0 0), (261, .ref 5), (262, .int .i64 A4.length), (263, .int .i64 j)],
  [xC b ps t s0 s1 h d0 d1, .cells false true 31 A5, .cells false true 50 A8, .cells false true 3 A10, .cells true true 33 [.agg [.int .i64 g0, .int .i64 g1, .int .i64 g2]], .cells false true 31 A4], 0, []⟩
theorem sg3H (g0 g1 g2 : Int) (A4 A5 A8 A9 A10 W Q : List V) (w4 : Rw A4) (w5 : Rw A5) (hq : ((Q.length : Int) != (A4.length : Int)) = false)
    (e10 : (lim T).call 10 [.sl true 2 A4, .sl true 2 A5] [] 0 [] = some (.tup [.agg [.int .i64 g0, .int .i64 g1, .int .i64 g2], .sl true 1 Q, .int .i64 0], [], 0, [])) :
    MH b ps t s0 s1 h d0 d1 A4 A5 A8 A9 A10 W W.length = FH b ps t s0 s1 h d0 d1 g0 g1 g2 A4 A5 A8 A10 0 := by
  have h0 := idx_out W.length
  unfold MH FH
  rw [loopEq]
  unfold xC it4 it6
  simp -implicitDefEqProofs only [go_sem, simprocAttr, h0, e10, hq, w4.q, w4.p, w4.r, w5.q, w5.p, w5.r, appRow_ne]
theorem sg4H (g0 g1 g2 : Int) (pc pk : List (Int × Int)) (hl : pc.length = pk.length) (hpc : pc.length < 1000) (A8 A10 : List V)
    (e6 : ∀ j (hj : j < pc.length), (lim T).call 6 [.agg [.int .i64 g0, .int .i64 g1, .int .i64 g2], .agg [.int .i64 pc[j].1, .int .i64 pc[j].2]] [] 0 [] = some (.tup [.agg [.int .i64 (pk[j]'(by omega)).1, .int .i64 (pk[j]'(by omega)).2], .int .i64 0], [], 0, [])) :
    ∀ j, j ≤ pc.length → FH b ps t s0 s1 h d0 d1 g0 g1 g2 (pc.map ptV) (pk.map ptV) A8 A10 j = FH b ps t s0 s1 h d0 d1 g0 g1 g2 (pc.map ptV) (pk.map ptV) A8 A10 pc.length := by
  refine down_ind pc.length rfl fun j hj ih => ?_
  obtain ⟨h1, h2, h3, h4, h5⟩ := idx_in hj (by omega)
  obtain ⟨k1, k2, k3, k4, k5⟩ := idx_in (l := pk) (show j < pk.length by omega) (by omega)
  have ej := e6 j hj
  rw [← ih]
  conv => lhs; unfold FH; rw [loopEq]
  unfold FH xC it6
  simp -implicitDefEqProofs only [go_sem, simprocAttr, h1, h2, k2, h3, k3, h4, ej, List.length_map]
def MC (A4 A5 A8 A11 W : List V) (j : Nat) : Option Out := (lim T).loop false (.code (.loop b3_2) :: it4) ⟨3, 393, 0, [(1, .ptr 0 0 0), (4, .ref 1), (5, .ref 2), (8, .ref 3), (9, .sl false 0 []), (10, .sl false 0 []), (11, .ref 4), (227, .sl false 8 W), (228, .int .i64 W.length), (229, .int .i64 j)],
  [xC b ps t s0 s1 h d0 d1, .cells false true 31 A4, .cells false true 31 A5, .cells false true 50 A8, .cells false true 3 A11], 0, []⟩
theorem sg1C (A4 A5 A6 A8 A11 : List V) (w6 : Rw A6) 
    (e9 : (lim T).call 9 [.sl true 3 [], .agg [.int .i64 n, .int .i64 sx, .int .i64 sy], .sl true 10 A6] [] 0 [] = some (.tup [.sl false 0 [], .sl false 0 [], .int .i64 0], [], 0, [])) :
    LC b ps t s0 s1 h d0 d1 n sx sy it3 A4 A5 A6 A8 A11 ps.length = MC b ps t s0 s1 h d0 d1 A4 A5 A8 A11 [] 0 := by
  have h0 := idx_out ps.length
  unfold LC MC
  rw [loopEq]
  unfold xC it3 it4
  simp -implicitDefEqProofs only [go_sem, simprocAttr, h0, e9, w6.q, w6.p, w6.r, appRow_ne]
def FC (g0 g1 g2 : Int) (A4 A5 A8 A11 : List V) (j : Nat) : Option Out := (lim T).loop false (.code (.loop b3_3) :: it6) ⟨3, 393, 0, [(1, .ptr 0 0 0), (5, .ref 1), (8, .ref 2), (10, .sl false 0 []), (11, .ref 3), (27, .ptr 4 0 0), (261, .ref 5), (262, .int .i64 A4.length), (263, .int .i64 j)],
  [xC b ps t s0 s1 h d0 d1, .cells false true 31 A5, .cells false true 50 A8, .cells false true 3 A11, .cells true true 33 [.agg [.int .i64 g0, .int .i64 g1, .int .i64 g2]], .cells false true 31 A4], 0, []⟩
theorem sg3C (g0 g1 g2 : Int) (A4 A5 A8 A11 W Q : List V) (w4 : Rw A4) (w5 : Rw A5) (hq : ((Q.length : Int) != (A4.length : Int)) = false)
    (e10 : (lim T).call 10 [.sl true 2 A4, .sl true 2 A5] [] 0 [] = some (.tup [.agg [.int .i64 g0, .int .i64 g1, .int .i64 g2], .sl true 1 Q, .int .i64 0], [], 0, [])) :
    MC b ps t s0 s1 h d0 d1 A4 A5 A8 A11 W W.length = FC b ps t s0 s1 h d0 d1 g0 g1 g2 A4 A5 A8 A11 0 := by
  have h0 := idx_out W.length
  unfold MC FC
  rw [loopEq]
  unfold xC it4 it6
  simp -implicitDefEqProofs only [go_sem, simprocAttr, h0, e10, hq, w4.q, w4.p, w4.r, w5.q, w5.p, w5.r, appRow_ne]
theorem sg4C (g0 g1 g2 : Int) (pc pk : List (Int × Int)) (hl : pc.length = pk.length) (hpc : pc.length < 1000) (A8 A11 : List V)
    (e6 : ∀ j (hj : j < pc.length), (lim T).call 6 [.agg [.int .i64 g0, .int .i64 g1, .int .i64 g2], .agg [.int .i64 pc[j].1, .int .i64 pc[j].2]] [] 0 [] = some (.tup [.agg [.int .i64 (pk[j]'(by omega)).1, .int .i64 (pk[j]'(by omega)).2], .int .i64 0], [], 0, [])) :
    ∀ j, j ≤ pc.length → FC b ps t s0 s1 h d0 d1 g0 g1 g2 (pc.map ptV) (pk.map ptV) A8 A11 j = FC b ps t s0 s1 h d0 d1 g0 g1 g2 (pc.map ptV) (pk.map ptV) A8 A11 pc.length := by
  refine down_ind pc.length rfl fun j hj ih => ?_
  obtain ⟨h1, h2, h3, h4, h5⟩ := idx_in hj (by omega)
  obtain ⟨k1, k2, k3, k4, k5⟩ := idx_in (l := pk) (show j < pk.length by omega) (by omega)
  have ej := e6 j hj
  rw [← ih]
  conv => lhs; unfold FC; rw [loopEq]
  unfold FC xC it6
  simp -implicitDefEqProofs only [go_sem, simprocAttr, h1, h2, k2, h3, k3, h4, ej, List.length_map]
def MB (A4 A5 A8 A9 A10 A11 W : List V) (j : Nat) : Option Out := (lim T).loop false (.code (.loop b3_2) :: it4) ⟨3, 393, 0, [(1, .ptr 0 0 0), (4, .ref 1), (5, .ref 2), (8, .ref 3), (9, .ref 4), (10, .ref 5), (11, .ref 6), (227, .sl true 8 W), (228, .int .i64 W.length), (229, .int .i64 j)],
  [xC b ps t s0 s1 h d0 d1, .cells false true 31 A4, .cells false true 31 A5, .cells false true 50 A8, .cells false true 45 A9, .cells false true 3 A10, .cells false true 3 A11], 0, []⟩
theorem sg1B (A4 A5 A6 A7 A8 A9 A10 A11 : List V) (W : List V) (w6 : Rw A6) (w7 : Rw A7) (hw : ((W.length : Int) != (A9.length : Int)) = false) 
    (e9 : (lim T).call 9 [.sl true 3 A7, .agg [.int .i64 n, .int .i64 sx, .int .i64 sy], .sl true 10 A6] [] 0 [] = some (.tup [.sl true 8 W, .sl false 0 [], .int .i64 0], [], 0, [])) :
    LB b ps t s0 s1 h d0 d1 n sx sy it3 A4 A5 A6 A7 A8 A9 A10 A11 ps.length = MB b ps t s0 s1 h d0 d1 A4 A5 A8 A9 A10 A11 W 0 := by
  have h0 := idx_out ps.length
  unfold LB MB
  rw [loopEq]
  unfold xC it3 it4
  simp -implicitDefEqProofs only [go_sem, simprocAttr, h0, e9, w6.q, w6.p, w6.r, w7.q, w7.p, w7.r, hw, appRow_ne]
theorem sg2B (ws : List Ser) (hws : ws.length < 1000) (A4 A5 A8 A10 A11 : List V) : ∀ j, j ≤ ws.length → MB b ps t s0 s1 h d0 d1 A4 A5 A8 (ws.map serV) A10 A11 (ws.map serV) j = MB b ps t s0 s1 h d0 d1 A4 A5 A8 (ws.map serV) A10 A11 (ws.map serV) ws.length := by
  refine down_ind ws.length rfl fun j hj ih => ?_
  obtain ⟨h1, h2, h3, h4, h5⟩ := idx_in hj (by omega)
  rw [← ih]
  conv => lhs; unfold MB; rw [loopEq]
  unfold MB xC it4
  simp -implicitDefEqProofs only [go_sem, simprocAttr, h1, h2, h3, h4, List.length_map]
def FB (g0 g1 g2 : Int) (A4 A5 A8 A10 A11 : List V) (j : Nat) : Option Out := (lim T).loop false (.code (.loop b3_3) :: it6) ⟨3, 393, 0, [(1, .ptr 0 0 0), (5, .ref 1), (8, .ref 2), (10, .ref 3), (11, .ref 4), (27, .ptr 5 0 0), (261, .ref 6), (262, .int .i64 A4.length), (263, .int .i64 j)],
  [xC b ps t s0 s1 h d0 d1, .cells false true 31 A5, .cells false true 50 A8, .cells false true 3 A10, .cells false true 3 A11, .cells true true 33 [.agg [.int .i64 g0, .int .i64 g1, .int .i64 g2]], .cells false true 31 A4], 0, []⟩
theorem sg3B (g0 g1 g2 : Int) (A4 A5 A8 A9 A10 A11 W Q : List V) (w4 : Rw A4) (w5 : Rw A5) (hq : ((Q.length : Int) != (A4.length : Int)) = false)
    (e10 : (lim T).call 10 [.sl true 2 A4, .sl true 2 A5] [] 0 [] = some (.tup [.agg [.int .i64 g0, .int .i64 g1, .int .i64 g2], .sl true 1 Q, .int .i64 0], [], 0, [])) :
    MB b ps t s0 s1 h d0 d1 A4 A5 A8 A9 A10 A11 W W.length = FB b ps t s0 s1 h d0 d1 g0 g1 g2 A4 A5 A8 A10 A11 0 := by
  have h0 := idx_out W.length
  unfold MB FB
  rw [loopEq]
  unfold xC it4 it6
  simp -implicitDefEqProofs only [go_sem, simprocAttr, h0, e10, hq, w4.q, w4.p, w4.r, w5.q, w5.p, w5.r, appRow_ne]
theorem sg4B (g0 g1 g2 : Int) (pc pk : List (Int × Int)) (hl : pc.length = pk.length) (hpc : pc.length < 1000) (A8 A10 A11 : List V)
    (e6 : ∀ j (hj : j < pc.length), (lim T).call 6 [.agg [.int .i64 g0, .int .i64 g1, .int .i64 g2], .agg [.int .i64 pc[j].1, .int .i64 pc[j].2]] [] 0 [] = some (.tup [.agg [.int .i64 (pk[j]'(by omega)).1, .int .i64 (pk[j]'(by omega)).2], .int .i64 0], [], 0, [])) :
    ∀ j, j ≤ pc.length → FB b ps t s0 s1 h d0 d1 g0 g1 g2 (pc.map ptV) (pk.map ptV) A8 A10 A11 j = FB b ps t s0 s1 h d0 d1 g0 g1 g2 (pc.map ptV) (pk.map ptV) A8 A10 A11 pc.length := by
  refine down_ind pc.length rfl fun j hj ih => ?_
  obtain ⟨h1, h2, h3, h4, h5⟩ := idx_in hj (by omega)
  obtain ⟨k1, k2, k3, k4, k5⟩ := idx_in (l := pk) (show j < pk.length by omega) (by omega)
  have ej := e6 j hj
  rw [← ih]
  conv => lhs; unfold FB; rw [loopEq]
  unfold FB xC it6
  simp -implicitDefEqProofs only [go_sem, simprocAttr, h1, h2, k2, h3, k3, h4, ej, List.length_map]
end
theorem k13 (b : Bool) (l : List Int) (v : Int) (hb : l.length < 1000000) : (lim T).call 13 [.sl b 1 (l.map intV), .int .i64 v] [] 0 [] = some (.bool (l.any fun y => y == v), [], 0, []) := by
  have key : ∀ i, i ≤ l.length → (lim T).loop false [.code (.loop b13_0), .inBlock 0, .code (.seq r13_6 .ret)] ⟨13, 18, 0, [(0, .sl b 1 (l.map intV)), (1, .int .i64 v), (5, .int .i64 i)], [], 0, []⟩ = some (.ret (.bool ((l.drop i).any fun y => y == v)), [], 0, []) := by
    refine down_ind l.length ?_ fun i hi ih => ?_
    · rw [loopEq]
      have h1 := idx_out l.length
      simp -implicitDefEqProofs only [go_sem, simprocAttr, h1, List.length_map]
      simp
    · obtain ⟨h1, h2, h3, h4, h5⟩ := idx_in hi (by omega)
      rw [loopEq, h5]
      simp only [List.any_cons]
      cases h6 : (l[i] == v)
      · simp -implicitDefEqProofs only [go_sem, simprocAttr, h1, h2, h3, h4, h6, ih, List.length_map]
      · simp -implicitDefEqProofs only [go_sem, simprocAttr, h1, h2, h3, h4, h6, List.length_map]
  have h := key 0 (by omega)
  rw [show ((0 : Nat) : Int) = 0 from rfl, List.drop_zero] at h
  rw [ent13]
  simp -implicitDefEqProofs only [go_sem, simprocAttr, h]
section
variable (b : Bool) (ps : List (Int × Int)) (t s0 s1 h d0 d1 n sx sy : Int)
def GH (c0 c1 : Int) (A8 A10 : List V) (o : Option (List Int)) (j : Nat) : Option Out := (lim T).loop false (.code (.loop b3_4) :: it8) ⟨3, 393, 0, [(8, .ref 0), (10, .ref 1), (11, .sl false 0 []), (34, .ptr 2 0 0), (35, acV o 3), (296, .int .i64 A8.length), (297, .int .i64 j)],
  [.cells false true 50 A8, .cells false true 3 A10, .cells true true 58 [.agg [.int .i64 c0, .int .i64 c1, .int .i64 0, .int .i64 0]]] ++ acR intV o 3, 0, []⟩
theorem sg5H (g0 g1 g2 : Int) (A4 A5 A8 A10 : List V) : FH b ps t s0 s1 h d0 d1 g0 g1 g2 A4 A5 A8 A10 A4.length = GH (IntKind.i64.wrap d0) (IntKind.i64.wrap d1) A8 A10 none 0 := by
  have h0 := idx_out A4.length
  unfold FH GH
  rw [loopEq]
  unfold xC it6 it8
  simp only [acV_n, acR_n, List.append_nil]
  simp -implicitDefEqProofs only [go_sem, simprocAttr, h0]
theorem sg6H (c0 c1 : Int) (A8 A10 : List V) (m : Nat) (hm : A8.length = m + 1) (hm5 : m < 5) : GH c0 c1 A8 A10 none 0 = GH c0 c1 A8 A10 (some ((List.range (m + 1)).map fun (k : Nat) => (k : Int))) (m + 1) := by
  have key : ∀ j, j ≤ m → GH c0 c1 A8 A10 none 0 = GH c0 c1 A8 A10 (some ((List.range (j + 1)).map fun (k : Nat) => (k : Int))) (j + 1) := by
    intro j
    induction j with
    | zero =>
      intro _
      have t1 : decide ((0 : Int) < ((m + 1 : Nat) : Int)) = true := decide_eq_true (by omega)
      have l0 : decide (1 < maxRow) = true := rfl
      have w1 : IntKind.i64.wrap 1 = 1 := rfl
      unfold GH
      rw [loopEq]
      unfold it8
      simp only [acV_n, acR_n, acV_s, acR_s, List.append_nil, hm, show List.map (fun (k : Nat) => (k : Int)) (List.range (0 + 1)) = [0] from rfl, List.map_cons, List.map_nil, intV, show ((0 : Nat) : Int) = 0 from rfl, show ((0 + 1 : Nat) : Int) = 1 from rfl, List.cons_append, List.nil_append]
      simp -implicitDefEqProofs only [go_sem, simprocAttr, t1, l0, w1]
    | succ j ih =>
      intro hj
      rw [ih (by omega)]
      have t1 : decide (((j + 1 : Nat) : Int) < ((m + 1 : Nat) : Int)) = true := decide_eq_true (by omega)
      have hl : (List.map intV (List.map (fun (k : Nat) => (k : Int)) (List.range (j + 1)))).length = j + 1 := by simp
      have l0 : decide (j + 1 + 1 < maxRow) = true := decide_eq_true (by have : maxRow = 16777216 := rfl; omega)
      have w1 : IntKind.i64.wrap (((j + 1 : Nat) : Int) + 1) = ((j + 1 + 1 : Nat) : Int) := by rw [wrap64] <;> omega
      have hr : List.map intV (List.map (fun (k : Nat) => (k : Int)) (List.range (j + 1 + 1))) = List.map intV (List.map (fun (k : Nat) => (k : Int)) (List.range (j + 1))) ++ [.int .i64 ((j + 1 : Nat) : Int)] := by
        rw [List.range_succ (n := j + 1), List.map_append, List.map_append]; rfl
      conv => lhs; unfold GH; rw [loopEq]
      unfold GH it8
      simp only [acV_s, acR_s, hm, hr, List.cons_append, List.nil_append]
      generalize List.map intV (List.map (fun (k : Nat) => (k : Int)) (List.range (j + 1))) = AL at *
      simp -implicitDefEqProofs only [go_sem, simprocAttr, t1, hl, l0, w1]
  exact key m (Nat.le_refl _)
theorem sg7H (c0 c1 : Int) (A8 A10 : List V) (al : List Int) (os r1 : List V) (w pl w1 w2 : Int) (w8 : Rw A8) (wa : Rw (al.map intV)) (hol : ((os.length : Int) != ((al.map intV).length : Int)) = false) (hw : decide (w > pl) = false) (hs : IntKind.i64.wrap (w1 + w2) = w1 + w2) (hs2 : decide (w1 + w2 < w) = false)
    (e11 : (lim T).call 11 [.agg [.int .i64 c0, .int .i64 c1, .int .i64 0, .int .i64 0], .sl true 5 A8, .sl true 1 (al.map intV)] [] 0 [] = some (.tup [.sl true 1 os, .int .i64 w, .int .i64 0], [], 0, []))
    (e12 : (lim T).call 12 [.agg [.int .i64 c0, .int .i64 c1, .int .i64 0, .int .i64 0], .sl true 5 A8, .sl true 1 (al.map intV)] [] 0 [] = some (.tup [.int .i64 pl, .int .i64 0], [], 0, []))
    (e13 : (lim T).call 11 [.agg [.int .i64 c0, .int .i64 c1, .int .i64 0, .int .i64 0], .sl true 5 A8, .sl true 1 A10] [] 0 [] = some (.tup [.sl true 1 r1, .int .i64 w1, .int .i64 0], [], 0, []))
    (e14 : (lim T).call 11 [.agg [.int .i64 c0, .int .i64 c1, .int .i64 0, .int .i64 0], .sl true 5 A8, .sl false 0 []] [] 0 [] = some (.tup [.sl false 1 [], .int .i64 w2, .int .i64 0], [], 0, []))
    (hA : A8.length = (al.map intV).length)
    (eh : ∀ v ∈ al, (lim T).call 13 [.sl true 1 os, .int .i64 v] [] 0 [] = some (.bool true, [], 0, [])) :
    GH c0 c1 A8 A10 (some al) A8.length = some (.ret (.bool true), [], 0, []) := by
  have h0 := idx_out A8.length
  have h9 := idx_out al.length
  have key : ∀ j, j ≤ al.length → (lim T).loop false (.code (.loop b3_5) :: it10) ⟨3, 393, 0, [(37, .sl true 1 os), (381, .ref 0), (382, .int .i64 al.length), (383, .int .i64 j)], [.cells false true 3 (al.map intV)], 0, []⟩ = some (.ret (.bool true), [], 0, []) := by
    refine down_ind al.length ?_ fun j hj ih => ?_
    · rw [loopEq]
      unfold it10
      have e5 := aw5
      simp -implicitDefEqProofs only [go_sem, simprocAttr, h9, e5]
    · obtain ⟨h1, h2, h3, h4, h5⟩ := idx_in hj (by have := of_decide_eq_true wa.r; have h7 : maxRow = 16777216 := rfl; simp at this; omega)
      have ev := eh _ (List.getElem_mem hj)
      rw [loopEq]
      unfold it10 at ih ⊢
      simp -implicitDefEqProofs only [go_sem, simprocAttr, h1, h2, h3, h4, ev, ih]
  have k0 := key 0 (by omega)
  rw [show ((0 : Nat) : Int) = 0 from rfl] at k0
  have hml : (al.map intV).length = al.length := List.length_map ..
  unfold GH
  rw [loopEq]
  unfold it8
  unfold it10 at k0
  simp only [acV_s, acR_s, List.cons_append, List.nil_append]
  obtain ⟨a1, a2, a3⟩ := wa
  rw [hml] at hol
  generalize hAL : al.map intV = AL at *
  have hAl : AL.length = al.length := by rw [← hAL]; exact List.length_map ..
  rw [hAl] at a3
  simp (maxSteps := 2000000) -implicitDefEqProofs only [go_sem, simprocAttr, h0, e11, e12, e13, e14, w8.q, w8.p, w8.r, a1, a2, a3, appRow_ne, hw, hs, hs2, hol, hAl, k0]
def GC (c0 c1 : Int) (A8 A11 : List V) (o : Option (List Int)) (j : Nat) : Option Out := (lim T).loop false (.code (.loop b3_4) :: it8) ⟨3, 393, 0, [(8, .ref 0), (10, .sl false 0 []), (11, .ref 1), (34, .ptr 2 0 0), (35, acV o 3), (296, .int .i64 A8.length), (297, .int .i64 j)],
  [.cells false true 50 A8, .cells false true 3 A11, .cells true true 58 [.agg [.int .i64 c0, .int .i64 c1, .int .i64 0, .int .i64 0]]] ++ acR intV o 3, 0, []⟩
theorem sg5C (g0 g1 g2 : Int) (A4 A5 A8 A11 : List V) : FC b ps t s0 s1 h d0 d1 g0 g1 g2 A4 A5 A8 A11 A4.length = GC (IntKind.i64.wrap d0) (IntKind.i64.wrap d1) A8 A11 none 0 := by
  have h0 := idx_out A4.length
  unfold FC GC
  rw [loopEq]
  unfold xC it6 it8
  simp only [acV_n, acR_n, List.append_nil]
  simp -implicitDefEqProofs only [go_sem, simprocAttr, h0]
theorem sg6C (c0 c1 : Int) (A8 A11 : List V) (m : Nat) (hm : A8.length = m + 1) (hm5 : m < 5) : GC c0 c1 A8 A11 none 0 = GC c0 c1 A8 A11 (some ((List.range (m + 1)).map fun (k : Nat) => (k : Int))) (m + 1) := by
  have key : ∀ j, j ≤ m → GC c0 c1 A8 A11 none 0 = GC c0 c1 A8 A11 (some ((List.range (j + 1)).map fun (k : Nat) => (k : Int))) (j + 1) := by
    intro j
    induction j with
    | zero =>
      intro _
      have t1 : decide ((0 : Int) < ((m + 1 : Nat) : Int)) = true := decide_eq_true (by omega)
      have l0 : decide (1 < maxRow) = true := rfl
      have w1 : IntKind.i64.wrap 1 = 1 := rfl
      unfold GC
      rw [loopEq]
      unfold it8
      simp only [acV_n, acR_n, acV_s, acR_s, List.append_nil, hm, show List.map (fun (k : Nat) => (k : Int)) (List.range (0 + 1)) = [0] from rfl, List.map_cons, List.map_nil, intV, show ((0 : Nat) : Int) = 0 from rfl, show ((0 + 1 : Nat) : Int) = 1 from rfl, List.cons_append, List.nil_append]
      simp -implicitDefEqProofs only [go_sem, simprocAttr, t1, l0, w1]
    | succ j ih =>
      intro hj
      rw [ih (by omega)]
      have t1 : decide (((j + 1 : Nat) : Int) < ((m + 1 : Nat) : Int)) = true := decide_eq_true (by omega)
      have hl : (List.map intV (List.map (fun (k : Nat) => (k : Int)) (List.range (j + 1)))).length = j + 1 := by simp
      have l0 : decide (j + 1 + 1 < maxRow) = true := decide_eq_true (by have : maxRow = 16777216 := rfl; omega)
      have w1 : IntKind.i64.wrap (((j + 1 : Nat) : Int) + 1) = ((j + 1 + 1 : Nat) : Int) := by rw [wrap64] <;> omega
      have hr : List.map intV (List.map (fun (k : Nat) => (k : Int)) (List.range (j + 1 + 1))) = List.map intV (List.map (fun (k : Nat) => (k : Int)) (List.range (j + 1))) ++ [.int .i64 ((j + 1 : Nat) : Int)] := by
        rw [List.range_succ (n := j + 1), List.map_append, List.map_append]; rfl
      conv => lhs; unfold GC; rw [loopEq]
      unfold GC it8
      simp only [acV_s, acR_s, hm, hr, List.cons_append, List.nil_append]
      generalize List.map intV (List.map (fun (k : Nat) => (k : Int)) (List.range (j + 1))) = AL at *
      simp -implicitDefEqProofs only [go_sem, simprocAttr, t1, hl, l0, w1]
  exact key m (Nat.le_refl _)
theorem sg7C (c0 c1 : Int) (A8 A11 : List V) (al : List Int) (os r2 : List V) (w pl w1 w2 : Int) (w8 : Rw A8) (wa : Rw (al.map intV)) (hol : ((os.length : Int) != ((al.map intV).length : Int)) = false) (hw : decide (w > pl) = false) (hs : IntKind.i64.wrap (w1 + w2) = w1 + w2) (hs2 : decide (w1 + w2 < w) = false)
    (e11 : (lim T).call 11 [.agg [.int .i64 c0, .int .i64 c1, .int .i64 0, .int .i64 0], .sl true 5 A8, .sl true 1 (al.map intV)] [] 0 [] = some (.tup [.sl true 1 os, .int .i64 w, .int .i64 0], [], 0, []))
    (e12 : (lim T).call 12 [.agg [.int .i64 c0, .int .i64 c1, .int .i64 0, .int .i64 0], .sl true 5 A8, .sl true 1 (al.map intV)] [] 0 [] = some (.tup [.int .i64 pl, .int .i64 0], [], 0, []))
    (e13 : (lim T).call 11 [.agg [.int .i64 c0, .int .i64 c1, .int .i64 0, .int .i64 0], .sl true 5 A8, .sl false 0 []] [] 0 [] = some (.tup [.sl false 1 [], .int .i64 w1, .int .i64 0], [], 0, []))
    (e14 : (lim T).call 11 [.agg [.int .i64 c0, .int .i64 c1, .int .i64 0, .int .i64 0], .sl true 5 A8, .sl true 1 A11] [] 0 [] = some (.tup [.sl true 1 r2, .int .i64 w2, .int .i64 0], [], 0, []))
    (hA : A8.length = (al.map intV).length)
    (eh : ∀ v ∈ al, (lim T).call 13 [.sl true 1 os, .int .i64 v] [] 0 [] = some (.bool true, [], 0, [])) :
    GC c0 c1 A8 A11 (some al) A8.length = some (.ret (.bool true), [], 0, []) := by
  have h0 := idx_out A8.length
  have h9 := idx_out al.length
  have key : ∀ j, j ≤ al.length → (lim T).loop false (.code (.loop b3_5) :: it10) ⟨3, 393, 0, [(37, .sl true 1 os), (381, .ref 0), (382, .int .i64 al.length), (383, .int .i64 j)], [.cells false true 3 (al.map intV)], 0, []⟩ = some (.ret (.bool true), [], 0, []) := by
    refine down_ind al.length ?_ fun j hj ih => ?_
    · rw [loopEq]
      unfold it10
      have e5 := aw5
      simp -implicitDefEqProofs only [go_sem, simprocAttr, h9, e5]
    · obtain ⟨h1, h2, h3, h4, h5⟩ := idx_in hj (by have := of_decide_eq_true wa.r; have h7 : maxRow = 16777216 := rfl; simp at this; omega)
      have ev := eh _ (List.getElem_mem hj)
      rw [loopEq]
      unfold it10 at ih ⊢
      simp -implicitDefEqProofs only [go_sem, simprocAttr, h1, h2, h3, h4, ev, ih]
  have k0 := key 0 (by omega)
  rw [show ((0 : Nat) : Int) = 0 from rfl] at k0
  have hml : (al.map intV).length = al.length := List.length_map ..
  unfold GC
  rw [loopEq]
  unfold it8
  unfold it10 at k0
  simp only [acV_s, acR_s, List.cons_append, List.nil_append]
  obtain ⟨a1, a2, a3⟩ := wa
  rw [hml] at hol
  generalize hAL : al.map intV = AL at *
  have hAl : AL.length = al.length := by rw [← hAL]; exact List.length_map ..
  rw [hAl] at a3
  simp (maxSteps := 2000000) -implicitDefEqProofs only [go_sem, simprocAttr, h0, e11, e12, e13, e14, w8.q, w8.p, w8.r, a1, a2, a3, appRow_ne, hw, hs, hs2, hol, hAl, k0]
def GB (c0 c1 : Int) (A8 A10 A11 : List V) (o : Option (List Int)) (j : Nat) : Option Out := (lim T).loop false (.code (.loop b3_4) :: it8) ⟨3, 393, 0, [(8, .ref 0), (10, .ref 1), (11, .ref 2), (34, .ptr 3 0 0), (35, acV o 4), (296, .int .i64 A8.length), (297, .int .i64 j)],
  [.cells false true 50 A8, .cells false true 3 A10, .cells false true 3 A11, .cells true true 58 [.agg [.int .i64 c0, .int .i64 c1, .int .i64 0, .int .i64 0]]] ++ acR intV o 3, 0, []⟩
theorem sg5B (g0 g1 g2 : Int) (A4 A5 A8 A10 A11 : List V) : FB b ps t s0 s1 h d0 d1 g0 g1 g2 A4 A5 A8 A10 A11 A4.length = GB (IntKind.i64.wrap d0) (IntKind.i64.wrap d1) A8 A10 A11 none 0 := by
  have h0 := idx_out A4.length
  unfold FB GB
  rw [loopEq]
  unfold xC it6 it8
  simp only [acV_n, acR_n, List.append_nil]
  simp -implicitDefEqProofs only [go_sem, simprocAttr, h0]
theorem sg6B (c0 c1 : Int) (A8 A10 A11 : List V) (m : Nat) (hm : A8.length = m + 1) (hm5 : m < 5) : GB c0 c1 A8 A10 A11 none 0 = GB c0 c1 A8 A10 A11 (some ((List.range (m + 1)).map fun (k : Nat) => (k : Int))) (m + 1) := by
  have key : ∀ j, j ≤ m → GB c0 c1 A8 A10 A11 none 0 = GB c0 c1 A8 A10 A11 (some ((List.range (j + 1)).map fun (k : Nat) => (k : Int))) (j + 1) := by
    intro j
    induction j with
    | zero =>
      intro _
      have t1 : decide ((0 : Int) < ((m + 1 : Nat) : Int)) = true := decide_eq_true (by omega)
      have l0 : decide (1 < maxRow) = true := rfl
      have w1 : IntKind.i64.wrap 1 = 1 := rfl
      unfold GB
      rw [loopEq]
      unfold it8
      simp only [acV_n, acR_n, acV_s, acR_s, List.append_nil, hm, show List.map (fun (k : Nat) => (k : Int)) (List.range (0 + 1)) = [0] from rfl, List.map_cons, List.map_nil, intV, show ((0 : Nat) : Int) = 0 from rfl, show ((0 + 1 : Nat) : Int) = 1 from rfl, List.cons_append, List.nil_append]
      simp -implicitDefEqProofs only [go_sem, simprocAttr, t1, l0, w1]
    | succ j ih =>
      intro hj
      rw [ih (by omega)]
      have t1 : decide (((j + 1 : Nat) : Int) < ((m + 1 : Nat) : Int)) = true := decide_eq_true (by omega)
      have hl : (List.map intV (List.map (fun (k : Nat) => (k : Int)) (List.range (j + 1)))).length = j + 1 := by simp
      have l0 : decide (j + 1 + 1 < maxRow) = true := decide_eq_true (by have : maxRow = 16777216 := rfl; omega)
      have w1 : IntKind.i64.wrap (((j + 1 : Nat) : Int) + 1) = ((j + 1 + 1 : Nat) : Int) := by rw [wrap64] <;> omega
      have hr : List.map intV (List.map (fun (k : Nat) => (k : Int)) (List.range (j + 1 + 1))) = List.map intV (List.map (fun (k : Nat) => (k : Int)) (List.range (j + 1))) ++ [.int .i64 ((j + 1 : Nat) : Int)] := by
        rw [List.range_succ (n := j + 1), List.map_append, List.map_append]; rfl
      conv => lhs; unfold GB; rw [loopEq]
      unfold GB it8
      simp only [acV_s, acR_s, hm, hr, List.cons_append, List.nil_append]
      generalize List.map intV (List.map (fun (k : Nat) => (k : Int)) (List.range (j + 1))) = AL at *
      simp -implicitDefEqProofs only [go_sem, simprocAttr, t1, hl, l0, w1]
  exact key m (Nat.le_refl _)
theorem sg7B (c0 c1 : Int) (A8 A10 A11 : List V) (al : List Int) (os r1 r2 : List V) (w pl w1 w2 : Int) (w8 : Rw A8) (wa : Rw (al.map intV)) (hol : ((os.length : Int) != ((al.map intV).length : Int)) = false) (hw : decide (w > pl) = false) (hs : IntKind.i64.wrap (w1 + w2) = w1 + w2) (hs2 : decide (w1 + w2 < w) = false)
    (e11 : (lim T).call 11 [.agg [.int .i64 c0, .int .i64 c1, .int .i64 0, .int .i64 0], .sl true 5 A8, .sl true 1 (al.map intV)] [] 0 [] = some (.tup [.sl true 1 os, .int .i64 w, .int .i64 0], [], 0, []))
    (e12 : (lim T).call 12 [.agg [.int .i64 c0, .int .i64 c1, .int .i64 0, .int .i64 0], .sl true 5 A8, .sl true 1 (al.map intV)] [] 0 [] = some (.tup [.int .i64 pl, .int .i64 0], [], 0, []))
    (e13 : (lim T).call 11 [.agg [.int .i64 c0, .int .i64 c1, .int .i64 0, .int .i64 0], .sl true 5 A8, .sl true 1 A10] [] 0 [] = some (.tup [.sl true 1 r1, .int .i64 w1, .int .i64 0], [], 0, []))
    (e14 : (lim T).call 11 [.agg [.int .i64 c0, .int .i64 c1, .int .i64 0, .int .i64 0], .sl true 5 A8, .sl true 1 A11] [] 0 [] = some (.tup [.sl true 1 r2, .int .i64 w2, .int .i64 0], [], 0, []))
    (hA : A8.length = (al.map intV).length)
    (eh : ∀ v ∈ al, (lim T).call 13 [.sl true 1 os, .int .i64 v] [] 0 [] = some (.bool true, [], 0, [])) :
    GB c0 c1 A8 A10 A11 (some al) A8.length = some (.ret (.bool true), [], 0, []) := by
  have h0 := idx_out A8.length
  have h9 := idx_out al.length
  have key : ∀ j, j ≤ al.length → (lim T).loop false (.code (.loop b3_5) :: it10) ⟨3, 393, 0, [(37, .sl true 1 os), (381, .ref 0), (382, .int .i64 al.length), (383, .int .i64 j)], [.cells false true 3 (al.map intV)], 0, []⟩ = some (.ret (.bool true), [], 0, []) := by
    refine down_ind al.length ?_ fun j hj ih => ?_
    · rw [loopEq]
      unfold it10
      have e5 := aw5
      simp -implicitDefEqProofs only [go_sem, simprocAttr, h9, e5]
    · obtain ⟨h1, h2, h3, h4, h5⟩ := idx_in hj (by have := of_decide_eq_true wa.r; have h7 : maxRow = 16777216 := rfl; simp at this; omega)
      have ev := eh _ (List.getElem_mem hj)
      rw [loopEq]
      unfold it10 at ih ⊢
      simp -implicitDefEqProofs only [go_sem, simprocAttr, h1, h2, h3, h4, ev, ih]
  have k0 := key 0 (by omega)
  rw [show ((0 : Nat) : Int) = 0 from rfl] at k0
  have hml : (al.map intV).length = al.length := List.length_map ..
  unfold GB
  rw [loopEq]
  unfold it8
  unfold it10 at k0
  simp only [acV_s, acR_s, List.cons_append, List.nil_append]
  obtain ⟨a1, a2, a3⟩ := wa
  rw [hml] at hol
  generalize hAL : al.map intV = AL at *
  have hAl : AL.length = al.length := by rw [← hAL]; exact List.length_map ..
  rw [hAl] at a3
  simp (maxSteps := 2000000) -implicitDefEqProofs only [go_sem, simprocAttr, h0, e11, e12, e13, e14, w8.q, w8.p, w8.r, a1, a2, a3, appRow_ne, hw, hs, hs2, hol, hAl, k0]
end
theorem cry_inj {n sx sy : Int} {p q : Int × Int} (hn : 0 ≤ n ∧ n ≤ 3) (h : cry n sx sy p.1 p.2 = cry n sx sy q.1 q.2) : p = q := by
  obtain ⟨p1, p2⟩ := p
  obtain ⟨q1, q2⟩ := q
  have hc : n = 0 ∨ n = 1 ∨ n = 2 ∨ n = 3 := by omega
  unfold cry tr at h
  rcases hc with rfl | rfl | rfl | rfl <;> simp at h <;> (rw [Prod.mk.injEq]; omega)
namespace Ask
variable {x : Ask}
theorem dis_of {n : Nat} (h : x.dup n = false) {i j : Nat} (hi : i < j) (hj : j < n) : x.pt i ≠ x.pt j := by
  intro he
  unfold dup at h
  rw [List.any_eq_false] at h
  have h1 := h j (List.mem_range.2 hj)
  apply h1
  unfold hasP
  rw [List.any_eq_true]
  refine ⟨x.pt i, List.mem_map.2 ⟨i, List.mem_range.2 hi, rfl⟩, ?_⟩
  rw [he]; simp
theorem at_ne (hx : x.Ok) {n : Nat} (h : x.dup n = false) {i j : Nat} (hi : i < n) (hj : j < n) (hij : i ≠ j) : x.at_ i ≠ x.at_ j := by
  intro he
  have := cry_inj hx.n he
  rcases Nat.lt_or_gt_of_ne hij with h1 | h1
  · exact dis_of h h1 hj this
  · exact dis_of h h1 hi this.symm
theorem mem_hot {n k : Nat} : k ∈ x.hotL n ↔ k < n ∧ x.hot k = true := by unfold hotL; simp
theorem mem_cold {n k : Nat} : k ∈ x.coldL n ↔ k < n ∧ x.hot k = false := by unfold coldL; simp
theorem fnd_md (hx : x.Ok) {n : Nat} (h : x.dup n = false) {k : Nat} (hk : k < n) : fnd (x.mds n) (x.at_ k) = some (x.md k) := by
  unfold fnd mds
  rw [List.find?_eq_some_iff_getElem]
  refine ⟨by simp [md], k, by simpa using hk, by simp, fun j hj => ?_⟩
  have hne := at_ne hx h (i := j) (j := k) (by omega) hk (by omega)
  simp only [List.getElem_map, List.getElem_range, md]
  rw [Bool.not_eq_true', Bool.and_eq_false_iff]
  refine Classical.byContradiction fun hc => hne ?_
  simp only [not_or, Bool.not_eq_false, beq_iff_eq] at hc
  exact Prod.ext hc.1 hc.2
theorem out_want (hx : x.Ok) {n : Nat} (h : x.dup n = false) : ∀ l : List Nat, (∀ k ∈ l, k < n) → outS (x.mds n) x.n x.sx x.sy (l.map x.sp) = l.map ser
  | [], _ => rfl
  | k :: l, hl => by
    have hk := hl k (List.mem_cons_self ..)
    rw [List.map_cons, List.map_cons]
    show (match fnd (x.mds n) (x.at_ k) with | some m => m.s :: outS (x.mds n) x.n x.sx x.sy (l.map x.sp) | none => outS (x.mds n) x.n x.sx x.sy (l.map x.sp)) = _
    rw [fnd_md hx h hk, out_want hx h l fun k hk => hl k (List.mem_cons_of_mem _ hk)]
    rfl
theorem non_none (hx : x.Ok) {n : Nat} (h : x.dup n = false) : ∀ (l : List Nat) (i : Nat), (∀ k ∈ l, k < n) → nonS (x.mds n) x.n x.sx x.sy i (l.map x.sp) = []
  | [], _, _ => rfl
  | k :: l, i, hl => by
    have hk := hl k (List.mem_cons_self ..)
    rw [List.map_cons]
    show (match fnd (x.mds n) (x.at_ k) with | some m => nonS (x.mds n) x.n x.sx x.sy (i + 1) (l.map x.sp) | none => (i : Int) :: nonS (x.mds n) x.n x.sx x.sy (i + 1) (l.map x.sp)) = _
    rw [fnd_md hx h hk]
    exact non_none hx h l (i + 1) fun k hk => hl k (List.mem_cons_of_mem _ hk)
theorem fnz0 {l : List Int} (h : ∀ e ∈ l, e = 0) : fnz l = 0 := fnz_zero.2 h
theorem ckN0 (hx : x.Ok) {n : Nat} (h : x.dup n = false) (hn : n ≤ 5) : ckN (x.sps n) x.n x.sx x.sy (x.mds n) = 0 := by
  unfold ckN
  refine fnz0 fun e he => ?_
  simp only [List.mem_cons, List.not_mem_nil, or_false] at he
  rcases he with rfl | rfl | rfl
  · unfold ckSp
    have := x.hotL_len n
    rw [if_neg (by simp [sps]; omega)]
    refine fnz0 fun e he => ?_
    obtain ⟨s, hs, rfl⟩ := List.mem_map.1 he
    obtain ⟨k, hk, rfl⟩ := List.mem_map.1 hs
    have hp := hx.pt k
    have hk2 := (mem_hot.1 hk).1
    unfold ckS sp
    rw [rng_0 (by dsimp only; omega), rng_0 (by dsimp only; omega), rng_0 (by dsimp only; omega)]; rfl
  · exact hx.fr
  · unfold ckMd
    rw [if_neg (by simp [mds]; omega)]
    have key : ∀ (m i : Nat), i + m = n → ∀ e ∈ mdEs (x.mds n) i ((x.mds n).drop i), e = 0 := by
      intro m
      induction m with
      | zero =>
        intro i hi e he
        rw [List.drop_of_length_le (by simp [mds]; omega)] at he
        cases he
      | succ m ih =>
        intro i hi e he
        have hil : i < (x.mds n).length := by simp [mds]; omega
        rw [List.drop_eq_getElem_cons hil] at he
        rcases List.mem_cons.1 he with rfl | he
        · have hgi : (x.mds n)[i] = x.md i := by simp [mds]
          have ha := hx.at_ i
          rw [hgi]
          unfold mdE
          have a1 : ckP (x.md i).x (x.md i).y = 0 := ckP_0 (p := x.at_ i) (by unfold inB; omega)
          have a2 : (((x.mds n).take i).any fun a => serB a.s (x.md i).s) = false := by
            rw [List.any_eq_false]
            intro a ha
            obtain ⟨j, hj, rfl⟩ := List.mem_iff_getElem.1 ha
            have hji : j < i := by simp [mds] at hj; omega
            simp only [List.getElem_take, mds, List.getElem_map, List.getElem_range]
            simp [serB, md, ser]
            omega
          have a3 : (((x.mds n).take i).any fun a => atB a (x.md i)) = false := by
            rw [List.any_eq_false]
            intro a ha
            obtain ⟨j, hj, rfl⟩ := List.mem_iff_getElem.1 ha
            have hji : j < i := by simp [mds] at hj; omega
            simp only [List.getElem_take, mds, List.getElem_map, List.getElem_range]
            have hne := at_ne hx h (i := j) (j := i) (by omega) (by omega) (by omega)
            intro hc
            apply hne
            simp only [atB, md, Bool.and_eq_true, beq_iff_eq] at hc
            exact Prod.ext hc.1 hc.2
          rw [a1, a2, a3]; rfl
        · exact ih (i + 1) (by omega) e he
    have := fnz0 (key n 0 (by omega))
    rwa [List.drop_zero] at this
end Ask
theorem nameOk (k : Nat) (hk : k < 5) : (lim T).call 103 [.str (109 :: txI k)] [] 0 [] = some (.bool true, [], 0, []) := by
  have h : k = 0 ∨ k = 1 ∨ k = 2 ∨ k = 3 ∨ k = 4 := by omega
  rcases h with rfl | rfl | rfl | rfl | rfl
  · exact memo_call mo0 100000 (by kernel_rfl)
  · exact memo_call mo0 100000 (by kernel_rfl)
  · exact memo_call mo0 100000 (by kernel_rfl)
  · exact memo_call mo0 100000 (by kernel_rfl)
  · exact memo_call mo0 100000 (by kernel_rfl)
theorem tx_ne {i j : Nat} (hi : i < 5) (hj : j < 5) (h : i ≠ j) : (txI j == txI i) = false := by
  have h1 : i = 0 ∨ i = 1 ∨ i = 2 ∨ i = 3 ∨ i = 4 := by omega
  have h2 : j = 0 ∨ j = 1 ∨ j = 2 ∨ j = 3 ∨ j = 4 := by omega
  rcases h1 with rfl | rfl | rfl | rfl | rfl <;> rcases h2 with rfl | rfl | rfl | rfl | rfl <;> first | rfl | exact absurd rfl h
namespace Ask
variable {x : Ask}
theorem okS (hx : x.Ok) {n : Nat} (hn : n ≤ 5) : OkS (x.sds n) := by
  refine ⟨fun s hs => ?_, fun i j hi hj => ?_, fun s hs => ?_, fun s hs => ?_, fun s hs => ?_, by simp [sds]; omega⟩
  · obtain ⟨k, hk, rfl⟩ := List.mem_map.1 hs
    have := List.mem_range.1 hk
    exact nameOk k (by omega)
  · have hj' : j < n := by simpa [sds] using hj
    simp only [sds, List.getElem_map, List.getElem_range, sd]
    have := tx_ne (i := i) (j := j) (by omega) (by omega) (by omega)
    simpa using this
  · obtain ⟨k, hk, rfl⟩ := List.mem_map.1 hs
    have := hx.at_ k
    show inB (x.at_ k)
    unfold inB; omega
  · obtain ⟨k, hk, rfl⟩ := List.mem_map.1 hs
    exact ⟨Int.le_refl _, show (0 : Int) ≤ 1000000 by decide⟩
  · obtain ⟨k, hk, rfl⟩ := List.mem_map.1 hs
    exact ⟨Int.le_refl _, show (0 : Int) ≤ 10000 by decide⟩
theorem okO_of {n : Nat} (hn : n ≤ 5) (l : List Nat) (h1 : ∀ k ∈ l, k < n) (h2 : l.Pairwise (· < ·)) (h3 : l.length ≤ n) (set : Bool) : OkO set n (l.map fun (k : Nat) => (k : Int)) := by
  refine ⟨fun i hi => ?_, fun _ i hi => ?_, fun _ i hi hi2 => ?_, by simp; omega⟩
  · obtain ⟨k, hk, rfl⟩ := List.mem_map.1 hi
    have := h1 k hk
    omega
  · unfold hasI
    rw [List.any_eq_false]
    intro a ha hc
    obtain ⟨j, hj, rfl⟩ := List.mem_iff_getElem.1 ha
    have hi' : i < l.length := by simpa using hi
    have hji : j < i := by simp at hj; omega
    simp only [List.getElem_take, List.getElem_map, beq_iff_eq] at hc
    have := List.pairwise_iff_getElem.1 h2 j i (by omega) hi' hji
    omega
  · have hi' : i < l.length := by simpa using hi2
    simp only [List.getElem_map]
    have := List.pairwise_iff_getElem.1 h2 (i - 1) i (by omega) hi' (by omega)
    omega
def allI (n : Nat) : List Int := (List.range n).map fun (k : Nat) => (k : Int)
theorem all_ok {n : Nat} (hn : n ≤ 5) (set : Bool) : OkO set n (allI n) := okO_of hn _ (fun k hk => List.mem_range.1 hk) List.pairwise_lt_range (by simp) set
theorem hots_ok {n : Nat} (hn : n ≤ 5) : OkO true n (x.hots n) := okO_of hn _ (fun k hk => (mem_hot.1 hk).1) (List.pairwise_lt_range.filter _) (x.hotL_len n) true
theorem colds_ok {n : Nat} (hn : n ≤ 5) : OkO true n (x.colds n) := okO_of hn _ (fun k hk => (mem_cold.1 hk).1) (List.pairwise_lt_range.filter _) (x.coldL_len n) true
theorem hc_perm (n : Nat) : (x.hots n ++ x.colds n).Perm (allI n) := by
  unfold hots colds allI hotL coldL
  rw [← List.map_append]
  refine List.Perm.map _ ?_
  exact List.filter_append_perm x.hot (List.range n)
end Ask
theorem wayO_app (c : Int × Int) (l : List Sd) (a b : List Int) : wayO c l (a ++ b) ≤ wayO c l a + wayO c l b := by
  unfold wayO
  rw [List.map_append]
  exact wayP_app c _ _ c
theorem wayO_nn (c : Int × Int) (l : List Sd) (a : List Int) : 0 ≤ wayO c l a := wayP_nn c _ c
theorem wayO_le (c : Int × Int) (hc : inB c) (l : List Sd) (hl : ∀ s ∈ l, inB s.p) (a : List Int) (ha : okI l.length a) : wayO c l a ≤ 4000 * (a.length + 1) := by
  unfold wayO
  have h := wayP_le c 4000 (fun a b ha hb => legL_le a b ha hb) hc (a.map (ptAt l)) c (fun p hp => by
    obtain ⟨i, hi, rfl⟩ := List.mem_map.1 hp
    have hi2 := ha i hi
    have hlt : i.toNat < l.length := by omega
    unfold ptAt
    rw [List.getElem?_eq_getElem hlt]
    exact hl _ (List.getElem_mem hlt)) hc
  simpa using h
theorem ways (c : Int × Int) (l : List Sd) (al ho co : List Int) (hp : (ho ++ co).Perm al) :
    (shortW (wayO c l) al).2 ≤ wayO c l al ∧ (shortW (wayO c l) al).2 ≤ (shortW (wayO c l) ho).2 + (shortW (wayO c l) co).2 := by
  obtain ⟨a1, a2, a3⟩ := shortW_spec (wayO c l) (wayO_nn c l) al
  obtain ⟨b1, b2, b3⟩ := shortW_spec (wayO c l) (wayO_nn c l) ho
  obtain ⟨c1, c2, c3⟩ := shortW_spec (wayO c l) (wayO_nn c l) co
  refine ⟨a3 al (List.Perm.refl _), ?_⟩
  have h := a3 ((shortW (wayO c l) ho).1 ++ (shortW (wayO c l) co).1) ((b2.append c2).trans hp)
  have h2 := wayO_app c l (shortW (wayO c l) ho).1 (shortW (wayO c l) co).1
  omega
theorem row_of {α : Type} (f : α → V) (l : List α) (hne : l ≠ []) (hf : ∀ a, pureV (f a) = true) (hl : l.length ≤ 100) : Rw (l.map f) := by
  refine ⟨?_, pureL_iff.2 fun v hv => ?_, decide_eq_true ?_⟩
  · cases l with
    | nil => exact absurd rfl hne
    | cons a r => rfl
  · obtain ⟨a, _, rfl⟩ := List.mem_map.1 hv
    exact hf a
  · have : maxRow = 16777216 := rfl
    simp; omega
theorem shortW_nil (w : List Int → Int) : shortW w [] = ([], w []) := by
  show best1 w ([], -1) [] = _
  unfold best1
  rw [if_pos (.inl (by decide))]
theorem ne_cons {α : Type} {l : List α} (h : l ≠ []) : ∃ a r, l = a :: r := by
  cases l with
  | nil => exact absurd rfl h
  | cons a r => exact ⟨a, r, rfl⟩
theorem k11' {c : Int × Int} (hc : OkC c 0 0) (l : List Sd) (hl : OkS l) (o : List Int) (ho : OkO true l.length o) (hne : o ≠ []) :
    (lim T).call 11 [crV c 0 0, .sl true 5 (l.map sdV), .sl true 1 (o.map intV)] [] 0 [] = some (.tup [.sl true 1 ((shortW (wayO c l) o).1.map intV), .int .i64 (shortW (wayO c l) o).2, .int .i64 0], [], 0, []) := by
  obtain ⟨a, r, rfl⟩ := ne_cons hne
  exact k11 hc true l hl a r ho
namespace Ask
variable {x : Ask}
theorem shaped (hx : x.Ok) {m : Nat} (hm : m + 1 ≤ 5) (hd : x.dup (m + 1) = false) (hps : x.ps.length = m + 1) (hd0 : -128 ≤ x.d0 ∧ x.d0 ≤ 127) (hd1 : -128 ≤ x.d1 ∧ x.d1 ≤ 127) : x.LL it3 (m + 1) = some (.ret (.bool true), [], 0, []) := by
  -- Matched
  have c9 := c77 true true (x.sps (m + 1)) x.n x.sx x.sy (x.mds (m + 1)) (by have := x.hotL_len (m + 1); simp [sps]; omega) (by simp [mds]; omega)
  rw [if_pos (ckN0 hx hd hm)] at c9
  have o1 : outS (x.mds (m + 1)) x.n x.sx x.sy (x.sps (m + 1)) = x.want (m + 1) := out_want hx hd _ fun k hk => (mem_hot.1 hk).1
  have o2 : nonS (x.mds (m + 1)) x.n x.sx x.sy 0 (x.sps (m + 1)) = [] := non_none hx hd _ 0 fun k hk => (mem_hot.1 hk).1
  rw [o1, o2] at c9
  -- Framed
  have hpk : x.park (m + 1) = thr x.n x.sx x.sy (x.pic (m + 1)) := by unfold park thr pic; rw [List.map_map]; rfl
  have hne : x.pic (m + 1) ≠ [] := by unfold pic; rw [List.range_succ]; simp
  obtain ⟨g1, g2, g3, g4⟩ := frm_thr hne hx.n hx.fr
  rw [← hpk] at g1 g2 g3 g4
  have hlp : (x.pic (m + 1)).length = m + 1 := by simp [pic]
  have hlk : (x.park (m + 1)).length = m + 1 := by simp [park]
  have hcm : ckM (x.pic (m + 1)) (x.park (m + 1)) = 0 := by
    unfold ckM
    rw [hlp, hlk]
    have t1 : (((m + 1 : Nat) : Int) == 0) = false := by simp; omega
    have t2 : decide (8 < ((m + 1 : Nat) : Int)) = false := decide_eq_false (by omega)
    have t3 : (((m + 1 : Nat) : Int) != ((m + 1 : Nat) : Int)) = false := by simp
    have f1 : fnz ((x.pic (m + 1)).map fun p => ckP p.1 p.2) = 0 := fnz0 fun e he => by
      obtain ⟨p, hp, rfl⟩ := List.mem_map.1 he
      obtain ⟨k, hk, rfl⟩ := List.mem_map.1 hp
      have := hx.pt k
      exact ckP_0 (by unfold inB; omega)
    have f2 : fnz ((x.park (m + 1)).map fun p => ckP p.1 p.2) = 0 := fnz0 fun e he => by
      obtain ⟨p, hp, rfl⟩ := List.mem_map.1 he
      obtain ⟨k, hk, rfl⟩ := List.mem_map.1 hp
      have := hx.at_ k
      exact ckP_0 (by unfold inB; omega)
    rw [t1, t2, t3, f1, f2]; rfl
  have c10 := c68 true true (x.pic (m + 1)) (x.park (m + 1)) (by rw [hlp]; omega) (by rw [hlk]; omega)
  rw [if_pos hcm] at c10
  generalize hg : frm (x.pic (m + 1)) (x.park (m + 1)) = g at *
  obtain ⟨q, qs, hq⟩ := ne_cons (l := g.l) (fun h => by rw [h, hlp] at g1; simp at g1)
  have hgl : ((g.l.length : Int) == 0) = false := by rw [hq]; simp; omega
  rw [hgl, hq] at c10
  have e10 : (lim T).call 10 [.sl true 2 (x.R4 (m + 1)), .sl true 2 (x.R5 (m + 1))] [] 0 [] = some (.tup [.agg [.int .i64 g.n, .int .i64 g.x, .int .i64 g.y], .sl true 1 ((q :: qs).map intV), .int .i64 0], [], 0, []) := c10
  have hql : ((((q :: qs).map intV).length : Int) != ((x.R4 (m + 1)).length : Int)) = false := by
    rw [List.length_map, ← hq, g1]; simp [R4]
  have e6 : ∀ j (hj : j < (x.pic (m + 1)).length), (lim T).call 6 [.agg [.int .i64 g.n, .int .i64 g.x, .int .i64 g.y], .agg [.int .i64 (x.pic (m + 1))[j].1, .int .i64 (x.pic (m + 1))[j].2]] [] 0 [] =
      some (.tup [.agg [.int .i64 ((x.park (m + 1))[j]'(by omega)).1, .int .i64 ((x.park (m + 1))[j]'(by omega)).2], .int .i64 0], [], 0, []) := by
    intro j hj
    have hb : bnd 1000 (x.pic (m + 1))[j] := by
      have := hx.pt j
      simp only [pic, List.getElem_map, List.getElem_range]
      unfold bnd; omega
    have h := e66 g2 hb
    have hc : cry g.n g.x g.y (x.pic (m + 1))[j].1 (x.pic (m + 1))[j].2 = (x.park (m + 1))[j]'(by omega) := by
      have : (thr g.n g.x g.y (x.pic (m + 1)))[j]? = (x.park (m + 1))[j]? := by rw [g4, hpk]
      unfold thr at this
      rw [List.getElem?_map, List.getElem?_eq_getElem hj, List.getElem?_eq_getElem (by omega)] at this
      simpa using this
    rw [hc] at h
    exact h
  -- rows
  have w4 : Rw (x.R4 (m + 1)) := row_of ptV _ hne (fun _ => rfl) (by rw [hlp]; omega)
  have w5 : Rw (x.R5 (m + 1)) := row_of ptV _ (by rw [← List.length_pos_iff, hlk]; omega) (fun _ => rfl) (by rw [hlk]; omega)
  have w6 : Rw (x.R6 (m + 1)) := row_of mdV _ (by unfold mds; rw [List.range_succ]; simp) (fun _ => rfl) (by simp [mds]; omega)
  have w8 : Rw (x.R8 (m + 1)) := row_of sdV _ (by unfold sds; rw [List.range_succ]; simp) (fun _ => rfl) (by simp [sds]; omega)
  have hls : (x.sds (m + 1)).length = m + 1 := by simp [sds]
  have hl8 : (x.R8 (m + 1)).length = m + 1 := by unfold R8; rw [List.length_map, hls]
  have hla : (allI (m + 1)).length = m + 1 := by simp [allI]
  have hane : allI (m + 1) ≠ [] := by rw [← List.length_pos_iff, hla]; omega
  have wa : Rw ((allI (m + 1)).map intV) := row_of intV _ hane (fun _ => rfl) (by rw [hla]; omega)
  -- ways
  have hwd0 : IntKind.i64.wrap x.d0 = x.d0 := wrapB (by omega)
  have hwd1 : IntKind.i64.wrap x.d1 = x.d1 := wrapB (by omega)
  have hcb : inB (x.d0, x.d1) := by unfold inB; dsimp only; omega
  have hc : OkC (x.d0, x.d1) 0 0 := ⟨hcb, by decide, by decide⟩
  have hS := okS hx hm
  have hoA : OkO true (x.sds (m + 1)).length (allI (m + 1)) := by rw [hls]; exact all_ok hm true
  have hoF : OkO false (x.sds (m + 1)).length (allI (m + 1)) := by rw [hls]; exact all_ok hm false
  have hoH : OkO true (x.sds (m + 1)).length (x.hots (m + 1)) := by rw [hls]; exact hots_ok hm
  have hoC : OkO true (x.sds (m + 1)).length (x.colds (m + 1)) := by rw [hls]; exact colds_ok hm
  have f11 := k11' hc _ hS _ hoA hane
  have f12 := k12 hc true true _ hS _ hoF
  obtain ⟨v1, v2⟩ := ways (x.d0, x.d1) (x.sds (m + 1)) _ _ _ (x.hc_perm (m + 1))
  have hpm := (shortW_spec (wayO (x.d0, x.d1) (x.sds (m + 1))) (wayO_nn _ _) (allI (m + 1))).2.1
  have spH := shortW_spec (wayO (x.d0, x.d1) (x.sds (m + 1))) (wayO_nn _ _) (x.hots (m + 1))
  have spC := shortW_spec (wayO (x.d0, x.d1) (x.sds (m + 1))) (wayO_nn _ _) (x.colds (m + 1))
  have bH := wayO_le (x.d0, x.d1) hcb _ hS.p _ hoH.ok
  have bC := wayO_le (x.d0, x.d1) hcb _ hS.p _ hoC.ok
  have b1 := spH.2.2 _ (List.Perm.refl _)
  have b2 := spC.2.2 _ (List.Perm.refl _)
  have n1 : 0 ≤ (shortW (wayO (x.d0, x.d1) (x.sds (m + 1))) (x.hots (m + 1))).2 := by rw [spH.1]; exact wayO_nn _ _ _
  have n2 : 0 ≤ (shortW (wayO (x.d0, x.d1) (x.sds (m + 1))) (x.colds (m + 1))).2 := by rw [spC.1]; exact wayO_nn _ _ _
  have lH := hoH.len
  have lC := hoC.len
  have hol : ((((shortW (wayO (x.d0, x.d1) (x.sds (m + 1))) (allI (m + 1))).1.map intV).length : Int) != (((allI (m + 1)).map intV).length : Int)) = false := by
    rw [List.length_map, List.length_map, hpm.length_eq]; simp
  have hw := decide_eq_false (Int.not_lt.2 v1)
  have hs := wrapB (n := (shortW (wayO (x.d0, x.d1) (x.sds (m + 1))) (x.hots (m + 1))).2 + (shortW (wayO (x.d0, x.d1) (x.sds (m + 1))) (x.colds (m + 1))).2) (by omega)
  have hs2 := decide_eq_false (Int.not_lt.2 v2)
  have eh : ∀ v ∈ allI (m + 1), (lim T).call 13 [.sl true 1 ((shortW (wayO (x.d0, x.d1) (x.sds (m + 1))) (allI (m + 1))).1.map intV), .int .i64 v] [] 0 [] = some (.bool true, [], 0, []) := by
    intro v hv
    have h := k13 true (shortW (wayO (x.d0, x.d1) (x.sds (m + 1))) (allI (m + 1))).1 v (by rw [hpm.length_eq, hla]; omega)
    rw [show ((shortW (wayO (x.d0, x.d1) (x.sds (m + 1))) (allI (m + 1))).1.any fun y => y == v) = true from List.any_eq_true.2 ⟨v, hpm.symm.subset hv, by simp⟩] at h
    exact h
  have h8a : (x.R8 (m + 1)).length = ((allI (m + 1)).map intV).length := by rw [hl8, List.length_map, hla]
  by_cases hH : x.hotL (m + 1) = []
  · by_cases hC : x.coldL (m + 1) = []
    · exact absurd (empty hH hC) (by omega)
    · have hs0 : x.sps (m + 1) = [] := by unfold sps; rw [hH]; rfl
      have hw0 : x.want (m + 1) = [] := by unfold want; rw [hH]; rfl
      have hh0 : x.hots (m + 1) = [] := by unfold hots; rw [hH]; rfl
      rw [hs0, hw0] at c9
      have e9 : (lim T).call 9 [.sl true 3 [], .agg [.int .i64 x.n, .int .i64 x.sx, .int .i64 x.sy], .sl true 10 (x.R6 (m + 1))] [] 0 [] = some (.tup [.sl false 0 [], .sl false 0 [], .int .i64 0], [], 0, []) := c9
      have s1 := sg1C x.b x.ps x.t x.s0 x.s1 x.h x.d0 x.d1 x.n x.sx x.sy (x.R4 (m + 1)) (x.R5 (m + 1)) (x.R6 (m + 1)) (x.R8 (m + 1)) (x.R11 (m + 1)) w6 e9
      have s3 := sg3C x.b x.ps x.t x.s0 x.s1 x.h x.d0 x.d1 g.n g.x g.y (x.R4 (m + 1)) (x.R5 (m + 1)) (x.R8 (m + 1)) (x.R11 (m + 1)) [] ((q :: qs).map intV) w4 w5 hql e10
      have hcn : x.colds (m + 1) ≠ [] := by unfold colds; simpa using hC
      have s4 := sg4C x.b x.ps x.t x.s0 x.s1 x.h x.d0 x.d1 g.n g.x g.y (x.pic (m + 1)) (x.park (m + 1)) (by rw [hlp, hlk]) (by omega) (x.R8 (m + 1)) (x.R11 (m + 1)) e6 0 (by omega)
      have s5 := sg5C x.b x.ps x.t x.s0 x.s1 x.h x.d0 x.d1 g.n g.x g.y (x.R4 (m + 1)) (x.R5 (m + 1)) (x.R8 (m + 1)) (x.R11 (m + 1)) 
      rw [hwd0, hwd1] at s5
      have s6 := sg6C x.d0 x.d1 (x.R8 (m + 1)) (x.R11 (m + 1)) m hl8 (by omega)
      rw [hh0, shortW_nil] at hs hs2
      have f13 := k11e hc true false _ hS 0
      have f14 := k11' hc _ hS _ hoC hcn
      have s7 := sg7C x.d0 x.d1 (x.R8 (m + 1)) (x.R11 (m + 1)) (allI (m + 1)) _ ((shortW (wayO (x.d0, x.d1) (x.sds (m + 1))) (x.colds (m + 1))).1.map intV) _ _ _ _ w8 wa hol hw hs hs2 f11 f12 f13 f14 h8a eh
      rw [hps] at s1
      rw [LL_C hH hC, s1]
      refine s3.trans ?_
      refine (show FC x.b x.ps x.t x.s0 x.s1 x.h x.d0 x.d1 g.n g.x g.y (x.R4 (m + 1)) (x.R5 (m + 1)) (x.R8 (m + 1)) (x.R11 (m + 1)) 0 = _ from s4).trans ?_
      rw [show (x.R4 (m + 1)).length = (x.pic (m + 1)).length by simp [R4]] at s5
      refine (show FC x.b x.ps x.t x.s0 x.s1 x.h x.d0 x.d1 g.n g.x g.y (x.R4 (m + 1)) (x.R5 (m + 1)) (x.R8 (m + 1)) (x.R11 (m + 1)) (x.pic (m + 1)).length = _ from s5).trans ?_
      rw [hl8] at s7
      exact s6.trans s7
  · by_cases hC : x.coldL (m + 1) = []
    · have hwn : x.want (m + 1) ≠ [] := by unfold want; simpa using hH
      have hhn : x.hots (m + 1) ≠ [] := by unfold hots; simpa using hH
      have hwl : (x.want (m + 1)).length ≤ 5 := by have := x.hotL_len (m + 1); simp [want]; omega
      have w7 : Rw (x.R7 (m + 1)) := row_of spV _ (by unfold sps; simpa using hH) (fun _ => rfl) (by have := x.hotL_len (m + 1); simp [sps]; omega)
      have hw9 : ((((x.want (m + 1)).map serV).length : Int) != ((x.R9 (m + 1)).length : Int)) = false := by simp [R9]
      have e9 : (lim T).call 9 [.sl true 3 (x.R7 (m + 1)), .agg [.int .i64 x.n, .int .i64 x.sx, .int .i64 x.sy], .sl true 10 (x.R6 (m + 1))] [] 0 [] = some (.tup [.sl true 8 ((x.want (m + 1)).map serV), .sl false 0 [], .int .i64 0], [], 0, []) := by
        obtain ⟨wa1, wr1, hw1⟩ := ne_cons hwn
        rw [hw1] at c9 ⊢
        exact c9
      have s1 := sg1H x.b x.ps x.t x.s0 x.s1 x.h x.d0 x.d1 x.n x.sx x.sy (x.R4 (m + 1)) (x.R5 (m + 1)) (x.R6 (m + 1)) (x.R7 (m + 1)) (x.R8 (m + 1)) (x.R9 (m + 1)) (x.R10 (m + 1)) ((x.want (m + 1)).map serV) w6 w7 hw9 e9
      have s2 := sg2H x.b x.ps x.t x.s0 x.s1 x.h x.d0 x.d1 (x.want (m + 1)) (by omega) (x.R4 (m + 1)) (x.R5 (m + 1)) (x.R8 (m + 1)) (x.R10 (m + 1))  0 (by omega)
      have s3 := sg3H x.b x.ps x.t x.s0 x.s1 x.h x.d0 x.d1 g.n g.x g.y (x.R4 (m + 1)) (x.R5 (m + 1)) (x.R8 (m + 1)) (x.R9 (m + 1)) (x.R10 (m + 1)) ((x.want (m + 1)).map serV) ((q :: qs).map intV) w4 w5 hql e10
      have hc0 : x.colds (m + 1) = [] := by unfold colds; rw [hC]; rfl
      have s4 := sg4H x.b x.ps x.t x.s0 x.s1 x.h x.d0 x.d1 g.n g.x g.y (x.pic (m + 1)) (x.park (m + 1)) (by rw [hlp, hlk]) (by omega) (x.R8 (m + 1)) (x.R10 (m + 1)) e6 0 (by omega)
      have s5 := sg5H x.b x.ps x.t x.s0 x.s1 x.h x.d0 x.d1 g.n g.x g.y (x.R4 (m + 1)) (x.R5 (m + 1)) (x.R8 (m + 1)) (x.R10 (m + 1)) 
      rw [hwd0, hwd1] at s5
      have s6 := sg6H x.d0 x.d1 (x.R8 (m + 1)) (x.R10 (m + 1)) m hl8 (by omega)
      have f13 := k11' hc _ hS _ hoH hhn
      rw [hc0, shortW_nil] at hs hs2
      have f14 := k11e hc true false _ hS 0
      have s7 := sg7H x.d0 x.d1 (x.R8 (m + 1)) (x.R10 (m + 1)) (allI (m + 1)) _ ((shortW (wayO (x.d0, x.d1) (x.sds (m + 1))) (x.hots (m + 1))).1.map intV) _ _ _ _ w8 wa hol hw hs hs2 f11 f12 f13 f14 h8a eh
      rw [hps] at s1
      rw [LL_H hH hC, s1]
      refine (show MH x.b x.ps x.t x.s0 x.s1 x.h x.d0 x.d1 (x.R4 (m + 1)) (x.R5 (m + 1)) (x.R8 (m + 1)) (x.R9 (m + 1)) (x.R10 (m + 1)) ((x.want (m + 1)).map serV) 0 = _ from s2).trans ?_
      rw [List.length_map] at s3
      refine (show MH x.b x.ps x.t x.s0 x.s1 x.h x.d0 x.d1 (x.R4 (m + 1)) (x.R5 (m + 1)) (x.R8 (m + 1)) (x.R9 (m + 1)) (x.R10 (m + 1)) ((x.want (m + 1)).map serV) (x.want (m + 1)).length = _ from s3).trans ?_
      refine (show FH x.b x.ps x.t x.s0 x.s1 x.h x.d0 x.d1 g.n g.x g.y (x.R4 (m + 1)) (x.R5 (m + 1)) (x.R8 (m + 1)) (x.R10 (m + 1)) 0 = _ from s4).trans ?_
      rw [show (x.R4 (m + 1)).length = (x.pic (m + 1)).length by simp [R4]] at s5
      refine (show FH x.b x.ps x.t x.s0 x.s1 x.h x.d0 x.d1 g.n g.x g.y (x.R4 (m + 1)) (x.R5 (m + 1)) (x.R8 (m + 1)) (x.R10 (m + 1)) (x.pic (m + 1)).length = _ from s5).trans ?_
      rw [hl8] at s7
      exact s6.trans s7
    · have hwn : x.want (m + 1) ≠ [] := by unfold want; simpa using hH
      have hhn : x.hots (m + 1) ≠ [] := by unfold hots; simpa using hH
      have hwl : (x.want (m + 1)).length ≤ 5 := by have := x.hotL_len (m + 1); simp [want]; omega
      have w7 : Rw (x.R7 (m + 1)) := row_of spV _ (by unfold sps; simpa using hH) (fun _ => rfl) (by have := x.hotL_len (m + 1); simp [sps]; omega)
      have hw9 : ((((x.want (m + 1)).map serV).length : Int) != ((x.R9 (m + 1)).length : Int)) = false := by simp [R9]
      have e9 : (lim T).call 9 [.sl true 3 (x.R7 (m + 1)), .agg [.int .i64 x.n, .int .i64 x.sx, .int .i64 x.sy], .sl true 10 (x.R6 (m + 1))] [] 0 [] = some (.tup [.sl true 8 ((x.want (m + 1)).map serV), .sl false 0 [], .int .i64 0], [], 0, []) := by
        obtain ⟨wa1, wr1, hw1⟩ := ne_cons hwn
        rw [hw1] at c9 ⊢
        exact c9
      have s1 := sg1B x.b x.ps x.t x.s0 x.s1 x.h x.d0 x.d1 x.n x.sx x.sy (x.R4 (m + 1)) (x.R5 (m + 1)) (x.R6 (m + 1)) (x.R7 (m + 1)) (x.R8 (m + 1)) (x.R9 (m + 1)) (x.R10 (m + 1)) (x.R11 (m + 1)) ((x.want (m + 1)).map serV) w6 w7 hw9 e9
      have s2 := sg2B x.b x.ps x.t x.s0 x.s1 x.h x.d0 x.d1 (x.want (m + 1)) (by omega) (x.R4 (m + 1)) (x.R5 (m + 1)) (x.R8 (m + 1)) (x.R10 (m + 1)) (x.R11 (m + 1))  0 (by omega)
      have s3 := sg3B x.b x.ps x.t x.s0 x.s1 x.h x.d0 x.d1 g.n g.x g.y (x.R4 (m + 1)) (x.R5 (m + 1)) (x.R8 (m + 1)) (x.R9 (m + 1)) (x.R10 (m + 1)) (x.R11 (m + 1)) ((x.want (m + 1)).map serV) ((q :: qs).map intV) w4 w5 hql e10
      have hcn : x.colds (m + 1) ≠ [] := by unfold colds; simpa using hC
      have s4 := sg4B x.b x.ps x.t x.s0 x.s1 x.h x.d0 x.d1 g.n g.x g.y (x.pic (m + 1)) (x.park (m + 1)) (by rw [hlp, hlk]) (by omega) (x.R8 (m + 1)) (x.R10 (m + 1)) (x.R11 (m + 1)) e6 0 (by omega)
      have s5 := sg5B x.b x.ps x.t x.s0 x.s1 x.h x.d0 x.d1 g.n g.x g.y (x.R4 (m + 1)) (x.R5 (m + 1)) (x.R8 (m + 1)) (x.R10 (m + 1)) (x.R11 (m + 1)) 
      rw [hwd0, hwd1] at s5
      have s6 := sg6B x.d0 x.d1 (x.R8 (m + 1)) (x.R10 (m + 1)) (x.R11 (m + 1)) m hl8 (by omega)
      have f13 := k11' hc _ hS _ hoH hhn
      have f14 := k11' hc _ hS _ hoC hcn
      have s7 := sg7B x.d0 x.d1 (x.R8 (m + 1)) (x.R10 (m + 1)) (x.R11 (m + 1)) (allI (m + 1)) _ ((shortW (wayO (x.d0, x.d1) (x.sds (m + 1))) (x.hots (m + 1))).1.map intV) ((shortW (wayO (x.d0, x.d1) (x.sds (m + 1))) (x.colds (m + 1))).1.map intV) _ _ _ _ w8 wa hol hw hs hs2 f11 f12 f13 f14 h8a eh
      rw [hps] at s1
      rw [LL_B hH hC, s1]
      refine (show MB x.b x.ps x.t x.s0 x.s1 x.h x.d0 x.d1 (x.R4 (m + 1)) (x.R5 (m + 1)) (x.R8 (m + 1)) (x.R9 (m + 1)) (x.R10 (m + 1)) (x.R11 (m + 1)) ((x.want (m + 1)).map serV) 0 = _ from s2).trans ?_
      rw [List.length_map] at s3
      refine (show MB x.b x.ps x.t x.s0 x.s1 x.h x.d0 x.d1 (x.R4 (m + 1)) (x.R5 (m + 1)) (x.R8 (m + 1)) (x.R9 (m + 1)) (x.R10 (m + 1)) (x.R11 (m + 1)) ((x.want (m + 1)).map serV) (x.want (m + 1)).length = _ from s3).trans ?_
      refine (show FB x.b x.ps x.t x.s0 x.s1 x.h x.d0 x.d1 g.n g.x g.y (x.R4 (m + 1)) (x.R5 (m + 1)) (x.R8 (m + 1)) (x.R10 (m + 1)) (x.R11 (m + 1)) 0 = _ from s4).trans ?_
      rw [show (x.R4 (m + 1)).length = (x.pic (m + 1)).length by simp [R4]] at s5
      refine (show FB x.b x.ps x.t x.s0 x.s1 x.h x.d0 x.d1 g.n g.x g.y (x.R4 (m + 1)) (x.R5 (m + 1)) (x.R8 (m + 1)) (x.R10 (m + 1)) (x.R11 (m + 1)) (x.pic (m + 1)).length = _ from s5).trans ?_
      rw [hl8] at s7
      exact s6.trans s7
theorem c3 (b : Bool) (ps : List (Int × Int)) (t s0 s1 h d0 d1 : Int) (hps : ∀ p ∈ ps, (0 ≤ p.1 ∧ p.1 ≤ 255) ∧ 0 ≤ p.2 ∧ p.2 ≤ 255) (ht : 0 ≤ t ∧ t ≤ 255) (h0 : -32768 ≤ s0 ∧ s0 ≤ 32767) (h1 : -32768 ≤ s1 ∧ s1 ≤ 32767) (hd0 : -128 ≤ d0 ∧ d0 ≤ 127) (hd1 : -128 ≤ d1 ∧ d1 ≤ 127) :
    (lim T).call 3 [.agg [.sl b 2 (ps.map fun p => .agg [.int .u8 p.1, .int .u8 p.2]), .int .u8 t, .int .i16 s0, .int .i16 s1, .int .u8 h, .int .i8 d0, .int .i8 d1]] [] 0 [] = some (.bool true, [], 0, []) := by
  have e5 := aw5
  by_cases c1 : ps.length < 1
  · have k1 : decide ((ps.length : Int) < 1) = true := decide_eq_true (by omega)
    rw [ent3]
    simp -implicitDefEqProofs only [go_sem, simprocAttr, k1, e5]
  · have k1 : decide ((ps.length : Int) < 1) = false := decide_eq_false (by omega)
    by_cases c2 : ps.length > 5
    · have k2 : decide ((ps.length : Int) > 5) = true := decide_eq_true (by omega)
      rw [ent3]
      simp -implicitDefEqProofs only [go_sem, simprocAttr, k1, k2, e5]
    · have k2 : decide ((ps.length : Int) > 5) = false := decide_eq_false (by omega)
      have y1 : (IntKind.i64.wrap t).tmod 4 = t % 4 := by rw [wrapB (by omega), Int.tmod_eq_emod_of_nonneg ht.1]
      have y2 : -900 ≤ (IntKind.i64.wrap s0).tmod 901 ∧ (IntKind.i64.wrap s0).tmod 901 ≤ 900 := by
        rw [wrapB (by omega)]
        have a := Int.tmod_lt_of_pos s0 (show (0 : Int) < 901 by decide)
        have b := Int.tmod_lt_of_pos (-s0) (show (0 : Int) < 901 by decide)
        rw [Int.neg_tmod] at b
        omega
      have y3 : -900 ≤ (IntKind.i64.wrap s1).tmod 901 ∧ (IntKind.i64.wrap s1).tmod 901 ≤ 900 := by
        rw [wrapB (by omega)]
        have a := Int.tmod_lt_of_pos s1 (show (0 : Int) < 901 by decide)
        have b := Int.tmod_lt_of_pos (-s1) (show (0 : Int) < 901 by decide)
        rw [Int.neg_tmod] at b
        omega
      let x : Ask := ⟨b, ps, t, s0, s1, h, d0, d1, (IntKind.i64.wrap t).tmod 4, (IntKind.i64.wrap s0).tmod 901, (IntKind.i64.wrap s1).tmod 901⟩
      have hx : x.Ok := ⟨show ps.length ≤ 5 by omega, hps, show 0 ≤ (IntKind.i64.wrap t).tmod 4 ∧ (IntKind.i64.wrap t).tmod 4 ≤ 3 by rw [y1]; omega, y2, y3⟩
      have e : x.LL it3 0 = some (.ret (.bool true), [], 0, []) := by
        rw [LL_all hx it3 ps.length (Nat.le_refl _)]
        cases hd : x.dup ps.length
        · rw [if_neg (by decide)]
          obtain ⟨m, hm⟩ : ∃ m, ps.length = m + 1 := ⟨ps.length - 1, by omega⟩
          rw [hm] at hd ⊢
          exact shaped hx (by omega) hd hm hd0 hd1
        · rfl
      rw [LL_0 (x := x) rfl rfl] at e
      unfold L0 xC it3 at e
      rw [ent3]
      simp -implicitDefEqProofs only [go_sem, simprocAttr, k1, k2]
      rw [show ((0 : Nat) : Int) = 0 from rfl] at e
      rw [show (lim T).loop false _ _ = _ from e]
      simp -implicitDefEqProofs only [go_sem, simprocAttr]
end Ask
end Go.Den.FaT
namespace Go.Proofs.YteeikdgoeehhkaaGreatDoor
open Go Go.Proofs Go.Den Go.Den.FaT Go.ChangeShapes Go.WideShapes Go.ChangeAt Go.RowKit
theorem cl5 {n : Nat} {us : List V} (h : Cl Tryz.prog n 5 us) : ∃ a : Int, us = [.int .u8 a] ∧ 0 ≤ a ∧ a ≤ 255 := by
  cases n with
  | zero => cases h
  | succ n =>
    unfold Cl at h
    rw [Tryz.underlying5] at h
    obtain ⟨i, rfl, hw⟩ := h
    have h3 : 0 ≤ i ∧ i ≤ 255 := by simpa [Lit.wf, IntKind.min, IntKind.max, IntKind.signed, IntKind.bits] using hw
    exact ⟨i, rfl, h3⟩
theorem cl23 {n : Nat} {us : List V} (h : Cl Tryz.prog n 23 us) : ∃ a : Int, us = [.int .i16 a] ∧ -32768 ≤ a ∧ a ≤ 32767 := by
  cases n with
  | zero => cases h
  | succ n =>
    unfold Cl at h
    rw [Tryz.underlying23] at h
    obtain ⟨i, rfl, hw⟩ := h
    have h3 : -32768 ≤ i ∧ i ≤ 32767 := by simpa [Lit.wf, IntKind.min, IntKind.max, IntKind.signed, IntKind.bits] using hw
    exact ⟨i, rfl, h3⟩
theorem cl25 {n : Nat} {us : List V} (h : Cl Tryz.prog n 25 us) : ∃ a : Int, us = [.int .i8 a] ∧ -128 ≤ a ∧ a ≤ 127 := by
  cases n with
  | zero => cases h
  | succ n =>
    unfold Cl at h
    rw [Tryz.underlying25] at h
    obtain ⟨i, rfl, hw⟩ := h
    have h3 : -128 ≤ i ∧ i ≤ 127 := by simpa [Lit.wf, IntKind.min, IntKind.max, IntKind.signed, IntKind.bits] using hw
    exact ⟨i, rfl, h3⟩
theorem cl24 {n : Nat} {us : List V} (h : Cl Tryz.prog n 24 us) : ∃ a b : Int, us = [.int .i16 a, .int .i16 b] ∧ (-32768 ≤ a ∧ a ≤ 32767) ∧ -32768 ≤ b ∧ b ≤ 32767 := by
  cases n with
  | zero => cases h
  | succ n =>
    unfold Cl at h
    rw [Tryz.underlying24] at h
    obtain ⟨ps, rfl, hl, hp⟩ := h
    match ps, hl with
    | [p, q], _ =>
      obtain ⟨x, rfl, hx⟩ := cl23 (hp p (by simp))
      obtain ⟨y, rfl, hy⟩ := cl23 (hp q (by simp))
      exact ⟨x, y, rfl, hx, hy⟩
theorem cl26 {n : Nat} {us : List V} (h : Cl Tryz.prog n 26 us) : ∃ a b : Int, us = [.int .i8 a, .int .i8 b] ∧ (-128 ≤ a ∧ a ≤ 127) ∧ -128 ≤ b ∧ b ≤ 127 := by
  cases n with
  | zero => cases h
  | succ n =>
    unfold Cl at h
    rw [Tryz.underlying26] at h
    obtain ⟨ps, rfl, hl, hp⟩ := h
    match ps, hl with
    | [p, q], _ =>
      obtain ⟨x, rfl, hx⟩ := cl25 (hp p (by simp))
      obtain ⟨y, rfl, hy⟩ := cl25 (hp q (by simp))
      exact ⟨x, y, rfl, hx, hy⟩
theorem mk40 (us : List V) : mk Tryz.prog 40 us = .agg us := by unfold mk; rw [Tryz.underlying40]
theorem mk28 (us : List V) : mk Tryz.prog 28 us = .agg us := by unfold mk; rw [Tryz.underlying28]
theorem bytes2 {n : Nat} : ∀ {l : List V}, (∀ u ∈ l, ∃ us, Cl Tryz.prog n 40 us ∧ u = mk Tryz.prog 40 us) → ∃ ps : List (Int × Int), l = ps.map (fun p => .agg [.int .u8 p.1, .int .u8 p.2]) ∧ ∀ p ∈ ps, (0 ≤ p.1 ∧ p.1 ≤ 255) ∧ 0 ≤ p.2 ∧ p.2 ≤ 255
  | [], _ => ⟨[], rfl, fun p h => by cases h⟩
  | u :: l, h => by
    obtain ⟨ps, rfl, hps⟩ := bytes2 (l := l) fun v hv => h v (List.mem_cons_of_mem _ hv)
    obtain ⟨us, h1, rfl⟩ := h u (List.mem_cons_self)
    cases n with
    | zero => cases h1
    | succ n =>
      unfold Cl at h1
      rw [Tryz.underlying40] at h1
      obtain ⟨qs, rfl, hl, hp⟩ := h1
      match qs, hl with
      | [p, q], _ =>
        obtain ⟨x, rfl, hx⟩ := cl5 (hp p (by simp))
        obtain ⟨y, rfl, hy⟩ := cl5 (hp q (by simp))
        refine ⟨(x, y) :: ps, by rw [mk40]; rfl, fun r hr => ?_⟩
        rcases List.mem_cons.1 hr with rfl | hr
        · exact ⟨hx, hy⟩
        · exact hps r hr
theorem cl22 {n : Nat} {us : List V} (h : Cl Tryz.prog n 22 us) : ∃ b, ∃ ps : List (Int × Int), us = [.sl b 2 (ps.map fun p => .agg [.int .u8 p.1, .int .u8 p.2])] ∧ ∀ p ∈ ps, (0 ≤ p.1 ∧ p.1 ≤ 255) ∧ 0 ≤ p.2 ∧ p.2 ≤ 255 := by
  cases n with
  | zero => cases h
  | succ n =>
    unfold Cl at h
    rw [Tryz.underlying22] at h
    obtain ⟨b, l, rfl, _, _, hl⟩ := h
    obtain ⟨ps, rfl, hps⟩ := bytes2 hl
    have : Tryz.prog.cellsOf 40 = 2 := by kernel_rfl
    exact ⟨b, ps, by rw [this], hps⟩
theorem cl28 {n : Nat} {us : List V} (h : Cl Tryz.prog n 28 us) : ∃ (b : Bool) (ps : List (Int × Int)) (t s0 s1 h d0 d1 : Int), mk Tryz.prog 28 us = .agg [.sl b 2 (ps.map fun p => .agg [.int .u8 p.1, .int .u8 p.2]), .int .u8 t, .int .i16 s0, .int .i16 s1, .int .u8 h, .int .i8 d0, .int .i8 d1] ∧
    (∀ p ∈ ps, (0 ≤ p.1 ∧ p.1 ≤ 255) ∧ 0 ≤ p.2 ∧ p.2 ≤ 255) ∧ (0 ≤ t ∧ t ≤ 255) ∧ (-32768 ≤ s0 ∧ s0 ≤ 32767) ∧ (-32768 ≤ s1 ∧ s1 ≤ 32767) ∧ (-128 ≤ d0 ∧ d0 ≤ 127) ∧ (-128 ≤ d1 ∧ d1 ≤ 127) := by
  rw [mk28]
  cases n with
  | zero => cases h
  | succ n =>
    unfold Cl at h
    rw [Tryz.underlying28] at h
    obtain ⟨ps, rfl, hl, hp⟩ := h
    match ps, hl with
    | [p, q, r, s, t], _ =>
      obtain ⟨b, ps, rfl, hps⟩ := cl22 (hp 0 _ p rfl rfl)
      obtain ⟨t0, rfl, ht⟩ := cl5 (hp 1 _ q rfl rfl)
      obtain ⟨s0, s1, rfl, h0, h1⟩ := cl24 (hp 2 _ r rfl rfl)
      obtain ⟨hh, rfl, _⟩ := cl5 (hp 3 _ s rfl rfl)
      obtain ⟨d0, d1, rfl, k0, k1⟩ := cl26 (hp 4 _ t rfl rfl)
      exact ⟨b, ps, t0, s0, s1, hh, d0, d1, rfl, hps, ht, h0, h1, k0, k1⟩
theorem law3 {al : List V} (h : al.length = 1 ∧ ∀ (i : Nat) t a, [28][i]? = some t → al[i]? = some a → ∃ us, Cl Tryz.prog 12 t us ∧ a = mk Tryz.prog t us) : (lim T).call 3 al [] 0 [] = some (.bool true, [], 0, []) := by
  obtain ⟨hl, h⟩ := h
  match al, hl with
  | [a], _ =>
    obtain ⟨us, h1, rfl⟩ := h 0 28 a rfl rfl
    obtain ⟨b, ps, t, s0, s1, hh, d0, d1, he, x1, x2, x3, x4, x5, x6⟩ := cl28 h1
    rw [he]
    exact Ask.c3 b ps t s0 s1 hh d0 d1 x1 x2 x3 x4 x5 x6
theorem lifted3 (os : Os) (started : os.Started) (H : Type) (enc : TypeId × Value → H) :
    ReturnsInHanded {} Tryz.checked os 3 .any (fun w args => (Rows.topClampVisitedSpec.pre enc Tryz.prog Tryz.f3 [] false w args ∧ laidMetH Tryz.prog laidL w) ∧ sizedMet enc Tryz.prog Tryz.f3 (OpenSpec.ofChange Rows.topClampVisitedSpec) false w args)
      (Rows.topClampVisitedSpec.post enc Tryz.prog Tryz.f3 false true false false) := by
  refine returnsInHanded_of_change_and (C := Tryz.checked) (X := fun w _ => laidMetH Tryz.prog laidL w) (fun _ _ _ hh h => h.of_heap hh) own started (by kernel_rfl) Tryz.func3
    (ChangeSpec.witness_shaped (enc := enc) (C := Tryz.checked) (os := os) (X := fun w _ => laidMetH Tryz.prog laidL w) false (World.doorLaid Tryz.prog 4000 os) #[.agg #[.slice none 0 0, .int .u8 0, .int .i16 0, .int .i16 0, .int .u8 0, .int .i8 0, .int .i8 0]] 8 rfl (World.shaped_of_RefB (by kernel_rfl) (by kernel_rfl)) (by kernel_rfl) (by kernel_rfl) (by kernel_rfl) (door_met os _)) ?_
  intro W base args ds gs before hval0 hW _ _ hL _
  have hval : ∀ (j : Nat) t v, Tryz.f3.params[j]? = some t → args[j]? = some v → Value.okWide Tryz.prog W .any base t v := hval0
  have hW' := hW
  obtain ⟨p, q, hA0, hV, rfl, hfz, hnd⟩ := hW
  have hA : DataW.TrodAll enc Tryz.prog W 0 (fun _ => true) true Tryz.f3.params.toList args.toList ds p := hA0
  have hV : DataW.TrodVars enc Tryz.prog W (fun _ => true) [] gs q := hV
  obtain ⟨rfl, rfl⟩ := trodVars_none hV
  rw [Tryz.params3] at hA hval
  obtain ⟨al, r1, r2, r3⟩ := args_rel (n := 12) (by kernel_rfl) hA (fun j t v h1 h2 => hval j t v (by simpa using h1) (by simpa using h2))
  refine (calls_true sound (by kernel_rfl) (law3 ⟨r2, r3⟩) r1 (of_laid hL)).mono ?_
  rintro e W' ⟨rfl, hs, hk, ho⟩
  refine ⟨_, rfl, law_post (tb := 4) rfl rfl Tryz.underlying4 ?_ laidOut (by kernel_rfl) hW' hs hk ho⟩
  obtain ⟨v0, d0, _, rfl, _⟩ := trodAll_one hA
  rfl
end Go.Proofs.YteeikdgoeehhkaaGreatDoor
end
