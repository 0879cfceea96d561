import Derived.Test.YtifljcjddphpjaaGreatDoorFaS0
import Derived.Test.YtifljcjddphpjaaGreatDoorZN
import Derived.Test.YtifljcjddphpjaaGreatDoorFaS1
import Derived.Test.YtifljcjddphpjaaGreatDoorZQ
import Derived.Test.YtifljcjddphpjaaGreatDoorFaS2
import Derived.Test.YtifljcjddphpjaaGreatDoorFaS3
set_option linter.all false
set_option maxHeartbeats 8000000
set_option maxRecDepth 100000
noncomputable section
namespace Go.Den.FaT
open Go Go.Proofs Go.Den

theorem c115 (b : Bool) (e : Int) : (lim T).call 115 [.bool b, .int .i64 e] [] 0 [] = some (.int .i64 (cond b e 0), [], 0, []) := by
  rw [ent115]
  cases b
  · simp -implicitDefEqProofs only [go_sem, simprocAttr]
  · simp -implicitDefEqProofs only [go_sem, simprocAttr]
theorem c39 (b : Bool) (e : Int) : (lim T).call 39 [.bool b, .int .i64 e] [] 0 [] = some (.int .i64 (cond b e 0), [], 0, []) := by
  rw [ent39]
  cases b
  · simp -implicitDefEqProofs only [go_sem, simprocAttr]
  · simp -implicitDefEqProofs only [go_sem, simprocAttr]
theorem c137 (n a b : Int) : (lim T).call 137 [.int .i64 n, .int .i64 a, .int .i64 b] [] 0 [] = some (.int .i64 (rng n a b), [], 0, []) := by
  rw [ent137]
  cases h : decide (n < a)
  · simp -implicitDefEqProofs only [go_sem, simprocAttr, h, c115, rng]
  · simp -implicitDefEqProofs only [go_sem, simprocAttr, h, c115, rng]
theorem c90 (n a b : Int) : (lim T).call 90 [.int .i64 n, .int .i64 a, .int .i64 b] [] 0 [] = some (.int .i64 (rng n a b), [], 0, []) := by
  rw [ent90]
  cases h : decide (n < a)
  · simp -implicitDefEqProofs only [go_sem, simprocAttr, h, c39, rng]
  · simp -implicitDefEqProofs only [go_sem, simprocAttr, h, c39, rng]

theorem loop114 (b : Bool) (l : List Int) (hb : l.length < 4611686018427387904) : ∀ i, i ≤ l.length → (lim T).loop false [.code (.loop b114_0), .inBlock 0, .code (.seq r114_7 .ret)] ⟨114, 15, 0, [(5, .sl b 1 (l.map fun n => .int .i64 n)), (6, .int .i64 l.length), (7, .int .i64 i)], [], 0, []⟩ = some (.ret (.int .i64 (fnz (l.drop i))), [], 0, []) := by
  refine down_ind l.length ?_ fun i hi ih => ?_
  · rw [loopEq]
    have h1 := idx_out l.length
    simp -implicitDefEqProofs only [go_sem, simprocAttr, h1]
    simp [fnz]
  · obtain ⟨h1, h2, h3, h4, h5⟩ := idx_in hi hb
    rw [loopEq, h5]
    cases h6 : (l[i] != 0)
    · have h7 : l[i] = 0 := by simpa using h6
      simp -implicitDefEqProofs only [go_sem, simprocAttr, h1, h2, h3, h4, h6, ih]
      simp [fnz, h7]
    · have h7 : l[i] ≠ 0 := by simpa using h6
      simp -implicitDefEqProofs only [go_sem, simprocAttr, h1, h2, h3, h4, h6]
      simp [fnz, h7]
theorem c114 (b : Bool) (l : List Int) (hb : l.length < 4611686018427387904) : (lim T).call 114 [.sl b 1 (l.map fun n => .int .i64 n)] [] 0 [] = some (.int .i64 (fnz l), [], 0, []) := by
  rw [ent114]
  have h := loop114 b l hb 0 (by omega)
  rw [show ((0 : Nat) : Int) = 0 from rfl, List.drop_zero] at h
  simp -implicitDefEqProofs only [go_sem, simprocAttr, h]

theorem loop108 (b : Bool) (l : List Int) (hb : l.length < 4611686018427387904) : ∀ i, i ≤ l.length → (lim T).loop false [.code (.loop b108_0), .inBlock 0, .code (.seq r108_6 .ret)] ⟨108, 19, 0, [(0, .sl b 1 (l.map fun n => .int .i64 n)), (3, .int .i64 i)], [], 0, []⟩ = some (.ret (.int .i64 (fnz (l.drop i))), [], 0, []) := by
  refine down_ind l.length ?_ fun i hi ih => ?_
  · rw [loopEq]
    have h1 := idx_out l.length
    simp -implicitDefEqProofs only [go_sem, simprocAttr, h1]
    simp [fnz]
  · obtain ⟨h1, h2, h3, h4, h5⟩ := idx_in hi hb
    rw [loopEq, h5]
    cases h6 : (l[i] != 0)
    · have h7 : l[i] = 0 := by simpa using h6
      simp -implicitDefEqProofs only [go_sem, simprocAttr, h1, h2, h3, h4, h6, ih]
      simp [fnz, h7]
    · have h7 : l[i] ≠ 0 := by simpa using h6
      simp -implicitDefEqProofs only [go_sem, simprocAttr, h1, h2, h3, h4, h6]
      simp [fnz, h7]
theorem c108 (b : Bool) (l : List Int) (hb : l.length < 4611686018427387904) : (lim T).call 108 [.sl b 1 (l.map fun n => .int .i64 n)] [] 0 [] = some (.int .i64 (fnz l), [], 0, []) := by
  rw [ent108]
  have h := loop108 b l hb 0 (by omega)
  rw [show ((0 : Nat) : Int) = 0 from rfl, List.drop_zero] at h
  simp -implicitDefEqProofs only [go_sem, simprocAttr, h]
theorem c114_2 (b : Bool) (x y : Int) : (lim T).call 114 [.sl b 1 [.int .i64 x, .int .i64 y]] [] 0 [] = some (.int .i64 (fnz [x, y]), [], 0, []) := c114 b [x, y] (by simp)
theorem c114_3 (b : Bool) (x y z : Int) : (lim T).call 114 [.sl b 1 [.int .i64 x, .int .i64 y, .int .i64 z]] [] 0 [] = some (.int .i64 (fnz [x, y, z]), [], 0, []) := c114 b [x, y, z] (by simp)
theorem c114_4 (b : Bool) (x y z u : Int) : (lim T).call 114 [.sl b 1 [.int .i64 x, .int .i64 y, .int .i64 z, .int .i64 u]] [] 0 [] = some (.int .i64 (fnz [x, y, z, u]), [], 0, []) := c114 b [x, y, z, u] (by simp)
theorem c108_2 (b : Bool) (x y : Int) : (lim T).call 108 [.sl b 1 [.int .i64 x, .int .i64 y]] [] 0 [] = some (.int .i64 (fnz [x, y]), [], 0, []) := c108 b [x, y] (by simp)
theorem c108_3 (b : Bool) (x y z : Int) : (lim T).call 108 [.sl b 1 [.int .i64 x, .int .i64 y, .int .i64 z]] [] 0 [] = some (.int .i64 (fnz [x, y, z]), [], 0, []) := c108 b [x, y, z] (by simp)
theorem c108_6 (b : Bool) (x y z u v w : Int) : (lim T).call 108 [.sl b 1 [.int .i64 x, .int .i64 y, .int .i64 z, .int .i64 u, .int .i64 v, .int .i64 w]] [] 0 [] = some (.int .i64 (fnz [x, y, z, u, v, w]), [], 0, []) := c108 b [x, y, z, u, v, w] (by simp)
theorem c112 (n k : Int) : (lim T).call 112 [.int .i64 n, .int .i64 k] [] 0 [] = some (.int .i64 (fnz [cond (n == 0) 12 0, cond (decide (k < n)) 5 0]), [], 0, []) := by
  rw [ent112]
  simp -implicitDefEqProofs only [go_sem, simprocAttr, c115, c114_2]
def intV (n : Int) : V := .int .i64 n
attribute [go_sem] intV
theorem fnz_zero {l : List Int} : fnz l = 0 ↔ ∀ x ∈ l, x = 0 := by
  induction l with
  | nil => simp [fnz]
  | cons x l ih =>
    simp only [fnz]
    by_cases h : x = 0
    · simp [h, ih]
    · simp [h]
def ckE (n : Int) : Int := rng n 0 1000000
theorem ckE_f (n : Int) : rng n 0 1000000 = ckE n := rfl
theorem c117 (n : Int) : (lim T).call 117 [.int .i64 n] [] 0 [] = some (.int .i64 (ckE n), [], 0, []) := by
  rw [ent117]
  simp -implicitDefEqProofs only [go_sem, simprocAttr, c137, ckE_f]
theorem c109 (n : Int) : (lim T).call 109 [.int .i64 n] [] 0 [] = some (.int .i64 (ckE n), [], 0, []) := by
  rw [ent109]
  simp -implicitDefEqProofs only [go_sem, simprocAttr, c90, ckE_f]
def ivV (x : Int × Int) : V := .agg [.int .i64 x.1, .int .i64 x.2]
attribute [go_sem] ivV
def ckL (x : Int × Int) : Int := fnz [ckE x.1, ckE x.2, cond (decide (x.2 < x.1)) 11 0]
theorem ckL_f (x : Int × Int) : fnz [ckE x.1, ckE x.2, cond (decide (x.2 < x.1)) 11 0] = ckL x := rfl
theorem c146 (x : Int × Int) : (lim T).call 146 [.agg [.int .i64 x.1, .int .i64 x.2]] [] 0 [] = some (.int .i64 (ckL x), [], 0, []) := by
  rw [ent146]
  simp -implicitDefEqProofs only [go_sem, simprocAttr, c117, c115, c114_3, ckL_f]
theorem c212 (x : Int × Int) : (lim T).call 212 [.agg [.int .i64 x.1, .int .i64 x.2], .int .i64 0, .int .i64 1000000] [] 0 [] = some (.int .i64 (ckL x), [], 0, []) := by
  rw [ent212]
  simp -implicitDefEqProofs only [go_sem, simprocAttr, c90, ckE_f, c39, c108_3, ckL_f]
theorem loop145 (b : Bool) (l : List (Int × Int)) (hb : l.length < 1000000) : ∀ i, i ≤ l.length → ∀ o : Option (List (Int)), acL o = i →
    (lim T).loop false [.code (.loop b145_0), .inBlock 0, .code (.seq r145_7 .ret)] ⟨145, 22, 0, [(1, .fn 146 []), (5, acV o 0), (8, .sl b 2 (l.map ivV)), (9, .int .i64 l.length), (10, .int .i64 i)], acR intV o 29, 0, []⟩ =
      some (.ret (acO intV 0 1 (acA o ((l.drop i).map (fun x => ckL x)))), [], 0, []) := by
  refine down_ind l.length ?_ fun i hi ih o ho => ?_
  · intro o ho
    rw [loopEq]
    have h1 := idx_out l.length
    cases o with
    | none =>
      simp -implicitDefEqProofs only [go_sem, simprocAttr, h1]
      simp [acA, acO]
    | some a =>
      simp -implicitDefEqProofs only [go_sem, simprocAttr, h1]
      simp [acA, acO]
  · obtain ⟨h1, h2, h3, h4, h5⟩ := idx_in hi (by omega)
    rw [loopEq, h5]
    have ih' := ih (acA o [((fun x => ckL x) l[i])]) (by rw [acL_A, ho]; rfl)
    rw [acA_acA] at ih'
    dsimp only at ih'
    cases o with
    | none =>
      have h8 := row_ok (n := 0) (by omega)
      simp only [acA_n, acV_s, acR_s, List.map_cons, List.map_nil, intV] at ih'
      simp -implicitDefEqProofs only [go_sem, simprocAttr, h1, h2, h3, h4, ih', h8.2, c146]
    | some a =>
      have h9 : a.length = i := ho
      have h8 := (row_ok (n := a.length) (by omega)).1
      simp only [acA_s, acV_s, acR_s, List.map_append, List.map_cons, List.map_nil, intV] at ih'
      simp -implicitDefEqProofs only [go_sem, simprocAttr, h1, h2, h3, h4, ih', h8, c146]
theorem c145 (b : Bool) (l : List (Int × Int)) (hb : l.length < 1000000) : (lim T).call 145 [.sl b 2 (l.map ivV), .fn 146 []] [] 0 [] = some (slV 1 (((l).map (fun x => ckL x)).map intV), [], 0, []) := by
  rw [ent145]
  have h := loop145  b l hb  0 (by omega) none rfl
  rw [show ((0 : Nat) : Int) = 0 from rfl, List.drop_zero, acO_slV] at h
  simp only [acV_n, acR_n] at h
  simp -implicitDefEqProofs only [go_sem, simprocAttr, h]
theorem loop116 (b : Bool) (l : List (Int)) (hb : l.length < 1000000) : ∀ i, i ≤ l.length → ∀ o : Option (List (Int)), acL o = i →
    (lim T).loop false [.code (.loop b116_0), .inBlock 0, .code (.seq r116_7 .ret)] ⟨116, 22, 0, [(1, .fn 117 []), (5, acV o 0), (8, .sl b 1 (l.map intV)), (9, .int .i64 l.length), (10, .int .i64 i)], acR intV o 29, 0, []⟩ =
      some (.ret (acO intV 0 1 (acA o ((l.drop i).map (fun x => ckE x)))), [], 0, []) := by
  refine down_ind l.length ?_ fun i hi ih o ho => ?_
  · intro o ho
    rw [loopEq]
    have h1 := idx_out l.length
    cases o with
    | none =>
      simp -implicitDefEqProofs only [go_sem, simprocAttr, h1]
      simp [acA, acO]
    | some a =>
      simp -implicitDefEqProofs only [go_sem, simprocAttr, h1]
      simp [acA, acO]
  · obtain ⟨h1, h2, h3, h4, h5⟩ := idx_in hi (by omega)
    rw [loopEq, h5]
    have ih' := ih (acA o [((fun x => ckE x) l[i])]) (by rw [acL_A, ho]; rfl)
    rw [acA_acA] at ih'
    dsimp only at ih'
    cases o with
    | none =>
      have h8 := row_ok (n := 0) (by omega)
      simp only [acA_n, acV_s, acR_s, List.map_cons, List.map_nil, intV] at ih'
      simp -implicitDefEqProofs only [go_sem, simprocAttr, h1, h2, h3, h4, ih', h8.2, c117]
    | some a =>
      have h9 : a.length = i := ho
      have h8 := (row_ok (n := a.length) (by omega)).1
      simp only [acA_s, acV_s, acR_s, List.map_append, List.map_cons, List.map_nil, intV] at ih'
      simp -implicitDefEqProofs only [go_sem, simprocAttr, h1, h2, h3, h4, ih', h8, c117]
theorem c116 (b : Bool) (l : List (Int)) (hb : l.length < 1000000) : (lim T).call 116 [.sl b 1 (l.map intV), .fn 117 []] [] 0 [] = some (slV 1 (((l).map (fun x => ckE x)).map intV), [], 0, []) := by
  rw [ent116]
  have h := loop116  b l hb  0 (by omega) none rfl
  rw [show ((0 : Nat) : Int) = 0 from rfl, List.drop_zero, acO_slV] at h
  simp only [acV_n, acR_n] at h
  simp -implicitDefEqProofs only [go_sem, simprocAttr, h]
def letR (r : Int) : Bool := (decide (97 ≤ r) && decide (r ≤ 122)) || (decide (65 ≤ r) && decide (r ≤ 90))
def badR (first : Bool) (r : Int) : Bool := !letR r && (first || (r != 95 && (decide (r < 48) || decide (57 < r))))
def nameFrom : Bool → List UInt8 → Bool
  | _, [] => true
  | f, c :: l => !badR f c.toNat && nameFrom false l
def nameB (s : List UInt8) : Bool := nameFrom true s && (!s.isEmpty && decide (s.length ≤ 24))
theorem dec_lo {s : List UInt8} {p : Nat} (h : p < s.length) (hb : s[p].toNat < 128) : Utf8.decode ⟨s.toArray⟩ p = (s[p].toNat, 1) := by
  have e : ByteArray.get! ⟨s.toArray⟩ (p + 0) = s[p] := by simp [ByteArray.get!, h]
  unfold Utf8.decode
  simp only [e]
  rw [if_pos (by omega)]
theorem dec_hi {s : List UInt8} {p : Nat} (h : p < s.length) (hb : ¬ s[p].toNat < 128) : ∃ r k, Utf8.decode ⟨s.toArray⟩ p = (r, k) ∧ 128 ≤ r := by
  have e : ByteArray.get! ⟨s.toArray⟩ (p + 0) = s[p] := by simp [ByteArray.get!, h]
  unfold Utf8.decode
  simp only [e]
  rw [if_neg (by omega)]
  have hR : 128 ≤ Utf8.runeError := by decide
  repeat' split
  all_goals refine ⟨_, _, rfl, ?_⟩
  all_goals first | exact hR | (rename_i hc; simp at hc; omega) | (simp_all; omega)
theorem cl_a (r : Int) (h : 97 ≤ r ∧ r ≤ 122) : decide (97 ≤ r) = true ∧ decide (r ≤ 122) = true := by
  refine ⟨?_, ?_⟩ <;> simp <;> omega
theorem cl_b (r : Int) (h : 65 ≤ r ∧ r ≤ 90) : decide (97 ≤ r) = false ∧ decide (65 ≤ r) = true ∧ decide (r ≤ 90) = true := by
  refine ⟨?_, ?_, ?_⟩ <;> simp <;> omega
theorem cl_c (r : Int) (h : 123 ≤ r) : decide (97 ≤ r) = true ∧ decide (r ≤ 122) = false ∧ decide (65 ≤ r) = true ∧ decide (r ≤ 90) = false ∧ (r != 95) = true ∧ decide (r < 48) = false ∧ decide (57 < r) = true := by
  refine ⟨?_, ?_, ?_, ?_, ?_, ?_, ?_⟩ <;> simp <;> omega
theorem cl_d (r : Int) (h : 91 ≤ r ∧ r ≤ 96 ∧ r ≠ 95) : decide (97 ≤ r) = false ∧ decide (65 ≤ r) = true ∧ decide (r ≤ 90) = false ∧ (r != 95) = true ∧ decide (r < 48) = false ∧ decide (57 < r) = true := by
  refine ⟨?_, ?_, ?_, ?_, ?_, ?_⟩ <;> simp <;> omega
theorem cl_e (r : Int) (h : r = 95) : decide (97 ≤ r) = false ∧ decide (65 ≤ r) = true ∧ decide (r ≤ 90) = false ∧ (r != 95) = false := by
  refine ⟨?_, ?_, ?_, ?_⟩ <;> simp <;> omega
theorem cl_f (r : Int) (h : 58 ≤ r ∧ r ≤ 64) : decide (97 ≤ r) = false ∧ decide (65 ≤ r) = false ∧ (r != 95) = true ∧ decide (r < 48) = false ∧ decide (57 < r) = true := by
  refine ⟨?_, ?_, ?_, ?_, ?_⟩ <;> simp <;> omega
theorem cl_g (r : Int) (h : 48 ≤ r ∧ r ≤ 57) : decide (97 ≤ r) = false ∧ decide (65 ≤ r) = false ∧ (r != 95) = true ∧ decide (r < 48) = false ∧ decide (57 < r) = false := by
  refine ⟨?_, ?_, ?_, ?_, ?_⟩ <;> simp <;> omega
theorem cl_h (r : Int) (h : r < 48) : decide (97 ≤ r) = false ∧ decide (65 ≤ r) = false ∧ (r != 95) = true ∧ decide (r < 48) = true := by
  refine ⟨?_, ?_, ?_, ?_⟩ <;> simp <;> omega
theorem cl_all (r : Int) : (97 ≤ r ∧ r ≤ 122) ∨ (65 ≤ r ∧ r ≤ 90) ∨ (123 ≤ r) ∨ (91 ≤ r ∧ r ≤ 96 ∧ r ≠ 95) ∨ (r = 95) ∨ (58 ≤ r ∧ r ≤ 64) ∨ (48 ≤ r ∧ r ≤ 57) ∨ (r < 48) := by omega
def L190 (s : List UInt8) (p : Nat) : Option Out :=
  (lim T).loop false [.code (.loop b190_0), .inBlock 0, .code (.seq r190_7 .ret)] ⟨190, 51, 0, [(0, .str s), (7, .it 0)], [.siter s p], 0, []⟩
theorem loop190 (s : List UInt8) (hb : s.length < 1000000) : ∀ p, p ≤ s.length → L190 s p = some (.ret (.bool (nameFrom ((p : Int) == 0) (s.drop p) && (!s.isEmpty && decide (s.length ≤ 24)))), [], 0, []) := by
  refine down_ind s.length ?_ fun p hp ih => ?_
  · unfold L190
    rw [loopEq]
    have h1 : decide (s.length < s.length) = false := by simp
    cases h2 : (s == ([] : List UInt8))
    · have h3 : s.isEmpty = false := by cases s with | nil => cases h2 | cons a b => rfl
      have h4 : decide ((s.length : Int) ≤ 24) = decide (s.length ≤ 24) := by simp; omega
      simp -implicitDefEqProofs only [go_sem, simprocAttr, h1, h2, h4, Bool.not_false]
      simp [nameFrom, h3]
    · have h3 : s = [] := by simpa using h2
      subst h3
      simp -implicitDefEqProofs only [go_sem, simprocAttr]
  · have h1 : decide (p < s.length) = true := decide_eq_true hp
    have h5 : s.drop p = s[p] :: s.drop (p + 1) := List.drop_eq_getElem_cons hp
    rw [h5]
    have h6 : (((p + 1 : Nat) : Int) == 0) = false := by simp; omega
    rw [h6] at ih
    simp only [nameFrom]
    by_cases hlo : s[p].toNat < 128
    · have hd := dec_lo hp hlo
      unfold L190 at ih ⊢
      rw [loopEq]
      generalize hr : ((s[p].toNat : Nat) : Int) = r at *
      rcases cl_all r with hc | hc | hc | hc | hc | hc | hc | hc
      · obtain ⟨qA, qB⟩ := cl_a r hc
        simp -implicitDefEqProofs only [go_sem, simprocAttr, h1, hd, hr, qA, qB, ih]
        simp [badR, letR, qA, qB]
      · obtain ⟨qA, qC, qD⟩ := cl_b r hc
        simp -implicitDefEqProofs only [go_sem, simprocAttr, h1, hd, hr, qA, qC, qD, ih]
        simp [badR, letR, qA, qC, qD]
      · obtain ⟨qA, qB, qC, qD, qE, qF, qG⟩ := cl_c r hc
        cases hz : ((p : Int) == 0)
        · simp -implicitDefEqProofs only [go_sem, simprocAttr, h1, hd, hr, qA, qB, qC, qD, qE, qF, qG, ih, hz]
          try simp [badR, letR, qA, qB, qC, qD, qE, qF, qG, hz]
        · simp -implicitDefEqProofs only [go_sem, simprocAttr, h1, hd, hr, qA, qB, qC, qD, qE, qF, qG, ih, hz]
          try simp [badR, letR, qA, qB, qC, qD, qE, qF, qG, hz]
      · obtain ⟨qA, qC, qD, qE, qF, qG⟩ := cl_d r hc
        cases hz : ((p : Int) == 0)
        · simp -implicitDefEqProofs only [go_sem, simprocAttr, h1, hd, hr, qA, qC, qD, qE, qF, qG, ih, hz]
          try simp [badR, letR, qA, qC, qD, qE, qF, qG, hz]
        · simp -implicitDefEqProofs only [go_sem, simprocAttr, h1, hd, hr, qA, qC, qD, qE, qF, qG, ih, hz]
          try simp [badR, letR, qA, qC, qD, qE, qF, qG, hz]
      · obtain ⟨qA, qC, qD, qE⟩ := cl_e r hc
        cases hz : ((p : Int) == 0)
        · simp -implicitDefEqProofs only [go_sem, simprocAttr, h1, hd, hr, qA, qC, qD, qE, ih, hz]
          try simp [badR, letR, qA, qC, qD, qE, hz]
        · simp -implicitDefEqProofs only [go_sem, simprocAttr, h1, hd, hr, qA, qC, qD, qE, ih, hz]
          try simp [badR, letR, qA, qC, qD, qE, hz]
      · obtain ⟨qA, qC, qE, qF, qG⟩ := cl_f r hc
        cases hz : ((p : Int) == 0)
        · simp -implicitDefEqProofs only [go_sem, simprocAttr, h1, hd, hr, qA, qC, qE, qF, qG, ih, hz]
          try simp [badR, letR, qA, qC, qE, qF, qG, hz]
        · simp -implicitDefEqProofs only [go_sem, simprocAttr, h1, hd, hr, qA, qC, qE, qF, qG, ih, hz]
          try simp [badR, letR, qA, qC, qE, qF, qG, hz]
      · obtain ⟨qA, qC, qE, qF, qG⟩ := cl_g r hc
        cases hz : ((p : Int) == 0)
        · simp -implicitDefEqProofs only [go_sem, simprocAttr, h1, hd, hr, qA, qC, qE, qF, qG, ih, hz]
          try simp [badR, letR, qA, qC, qE, qF, qG, hz]
        · simp -implicitDefEqProofs only [go_sem, simprocAttr, h1, hd, hr, qA, qC, qE, qF, qG, ih, hz]
          try simp [badR, letR, qA, qC, qE, qF, qG, hz]
      · obtain ⟨qA, qC, qE, qF⟩ := cl_h r hc
        cases hz : ((p : Int) == 0)
        · simp -implicitDefEqProofs only [go_sem, simprocAttr, h1, hd, hr, qA, qC, qE, qF, ih, hz]
          try simp [badR, letR, qA, qC, qE, qF, hz]
        · simp -implicitDefEqProofs only [go_sem, simprocAttr, h1, hd, hr, qA, qC, qE, qF, ih, hz]
          try simp [badR, letR, qA, qC, qE, qF, hz]
    · obtain ⟨r0, k0, hd, hhi⟩ := dec_hi hp hlo
      unfold L190
      rw [loopEq]
      obtain ⟨qA, qB, qC, qD, qE, qF, qG⟩ := cl_c (r0 : Int) (by omega)
      obtain ⟨wA, wB, wC, wD, wE, wF, wG⟩ := cl_c (s[p].toNat : Int) (by omega)
      cases hz : ((p : Int) == 0)
      · simp -implicitDefEqProofs only [go_sem, simprocAttr, h1, hd, qA, qB, qC, qD, qE, qF, qG, hz]
        simp [badR, letR, wA, wB, wC, wD, wE, wF, wG, hz]
      · simp -implicitDefEqProofs only [go_sem, simprocAttr, h1, hd, qA, qB, qC, qD, qE, qF, qG, hz]
        simp [badR, letR, wA, wB, wC, wD, wE, wF, wG, hz]
theorem c190 (s : List UInt8) (hb : s.length < 1000000) : (lim T).call 190 [.str s] [] 0 [] = some (.bool (nameB s), [], 0, []) := by
  rw [ent190]
  have h := loop190 s hb 0 (by omega)
  rw [List.drop_zero] at h
  unfold L190 at h
  simp -implicitDefEqProofs only [go_sem, simprocAttr, h]
  rfl
theorem cr_a (r : Int) (h : 97 ≤ r ∧ r ≤ 122) : decide (65 ≤ r) = true ∧ decide (r ≤ 90) = false ∧ decide (97 ≤ r) = true ∧ decide (r ≤ 122) = true ∧ decide (48 ≤ r) = true ∧ decide (r ≤ 57) = false ∧ (r == 95) = false := by
  refine ⟨?_, ?_, ?_, ?_, ?_, ?_, ?_⟩ <;> simp <;> omega
theorem cr_b (r : Int) (h : 65 ≤ r ∧ r ≤ 90) : decide (65 ≤ r) = true ∧ decide (r ≤ 90) = true ∧ decide (97 ≤ r) = false ∧ decide (48 ≤ r) = true ∧ decide (r ≤ 57) = false ∧ (r == 95) = false := by
  refine ⟨?_, ?_, ?_, ?_, ?_, ?_⟩ <;> simp <;> omega
theorem cr_c (r : Int) (h : 123 ≤ r) : decide (97 ≤ r) = true ∧ decide (r ≤ 122) = false ∧ decide (65 ≤ r) = true ∧ decide (r ≤ 90) = false ∧ decide (48 ≤ r) = true ∧ decide (r ≤ 57) = false ∧ (r == 95) = false := by
  refine ⟨?_, ?_, ?_, ?_, ?_, ?_, ?_⟩ <;> simp <;> omega
theorem cr_d (r : Int) (h : 91 ≤ r ∧ r ≤ 96 ∧ r ≠ 95) : decide (97 ≤ r) = false ∧ decide (65 ≤ r) = true ∧ decide (r ≤ 90) = false ∧ decide (48 ≤ r) = true ∧ decide (r ≤ 57) = false ∧ (r == 95) = false := by
  refine ⟨?_, ?_, ?_, ?_, ?_, ?_⟩ <;> simp <;> omega
theorem cr_e (r : Int) (h : r = 95) : decide (97 ≤ r) = false ∧ decide (65 ≤ r) = true ∧ decide (r ≤ 90) = false ∧ decide (48 ≤ r) = true ∧ decide (r ≤ 57) = false ∧ (r == 95) = true := by
  refine ⟨?_, ?_, ?_, ?_, ?_, ?_⟩ <;> simp <;> omega
theorem cr_f (r : Int) (h : 58 ≤ r ∧ r ≤ 64) : decide (97 ≤ r) = false ∧ decide (65 ≤ r) = false ∧ decide (48 ≤ r) = true ∧ decide (r ≤ 57) = false ∧ (r == 95) = false := by
  refine ⟨?_, ?_, ?_, ?_, ?_⟩ <;> simp <;> omega
theorem cr_g (r : Int) (h : 48 ≤ r ∧ r ≤ 57) : decide (97 ≤ r) = false ∧ decide (65 ≤ r) = false ∧ decide (48 ≤ r) = true ∧ decide (r ≤ 57) = true ∧ (r == 95) = false := by
  refine ⟨?_, ?_, ?_, ?_, ?_⟩ <;> simp <;> omega
theorem cr_h (r : Int) (h : r < 48) : decide (97 ≤ r) = false ∧ decide (65 ≤ r) = false ∧ decide (48 ≤ r) = false ∧ (r == 95) = false := by
  refine ⟨?_, ?_, ?_, ?_⟩ <;> simp <;> omega
theorem loop230 (s : List UInt8) (hb : s.length < 1000000) : ∀ i, i ≤ s.length → (lim T).loop false [.code (.loop b230_0), .inBlock 0, .code (.seq r230_10 .ret)] ⟨230, 68, 0, [(0, .str s), (3, .int .i64 i)], [], 0, []⟩ = some (.ret (.bool (nameFrom ((i : Int) == 0) (s.drop i))), [], 0, []) := by
  refine down_ind s.length ?_ fun p hp ih => ?_
  · rw [loopEq]
    have h1 := idx_out s.length
    simp -implicitDefEqProofs only [go_sem, simprocAttr, h1]
    simp [nameFrom]
  · obtain ⟨h1, h2, h3, h4, h5⟩ := idx_in hp (by omega)
    rw [h5]
    have h6 : (((p + 1 : Nat) : Int) == 0) = false := by simp; omega
    rw [h6] at ih
    have h7 : decide (0 ≤ (p : Int)) = true := decide_eq_true (by omega)
    simp only [nameFrom]
    rw [loopEq]
    generalize hr : ((s[p].toNat : Nat) : Int) = r at *
    rcases cl_all r with hc | hc | hc | hc | hc | hc | hc | hc
    · obtain ⟨qC, qD, qA, qB, qF, qG, qE⟩ := cr_a r hc
      obtain ⟨wA, wB⟩ := cl_a r hc
      simp -implicitDefEqProofs only [go_sem, simprocAttr, h1, h3, h4, h7, hr, qC, qD, qA, qB, qF, qG, qE, ih]
      simp [badR, letR, wA, wB]
    · obtain ⟨qC, qD, qA, qF, qG, qE⟩ := cr_b r hc
      obtain ⟨wA, wC, wD⟩ := cl_b r hc
      simp -implicitDefEqProofs only [go_sem, simprocAttr, h1, h3, h4, h7, hr, qC, qD, qA, qF, qG, qE, ih]
      simp [badR, letR, wA, wC, wD]
    · obtain ⟨qA, qB, qC, qD, qF, qG, qE⟩ := cr_c r hc
      obtain ⟨wA, wB, wC, wD, wE, wF, wG⟩ := cl_c r hc
      cases hz : ((p : Int) == 0)
      · simp -implicitDefEqProofs only [go_sem, simprocAttr, h1, h3, h4, h7, hr, qA, qB, qC, qD, qF, qG, qE, ih, hz]
        try simp [badR, letR, wA, wB, wC, wD, wE, wF, wG, hz]
      · simp -implicitDefEqProofs only [go_sem, simprocAttr, h1, h3, h4, h7, hr, qA, qB, qC, qD, qF, qG, qE, ih, hz]
        try simp [badR, letR, wA, wB, wC, wD, wE, wF, wG, hz]
    · obtain ⟨qA, qC, qD, qF, qG, qE⟩ := cr_d r hc
      obtain ⟨wA, wC, wD, wE, wF, wG⟩ := cl_d r hc
      cases hz : ((p : Int) == 0)
      · simp -implicitDefEqProofs only [go_sem, simprocAttr, h1, h3, h4, h7, hr, qA, qC, qD, qF, qG, qE, ih, hz]
        try simp [badR, letR, wA, wC, wD, wE, wF, wG, hz]
      · simp -implicitDefEqProofs only [go_sem, simprocAttr, h1, h3, h4, h7, hr, qA, qC, qD, qF, qG, qE, ih, hz]
        try simp [badR, letR, wA, wC, wD, wE, wF, wG, hz]
    · obtain ⟨qA, qC, qD, qF, qG, qE⟩ := cr_e r hc
      obtain ⟨wA, wC, wD, wE⟩ := cl_e r hc
      cases hz : ((p : Int) == 0)
      · simp -implicitDefEqProofs only [go_sem, simprocAttr, h1, h3, h4, h7, hr, qA, qC, qD, qF, qG, qE, ih, hz]
        try simp [badR, letR, wA, wC, wD, wE, hz]
      · simp -implicitDefEqProofs only [go_sem, simprocAttr, h1, h3, h4, h7, hr, qA, qC, qD, qF, qG, qE, ih, hz]
        try simp [badR, letR, wA, wC, wD, wE, hz]
    · obtain ⟨qA, qC, qF, qG, qE⟩ := cr_f r hc
      obtain ⟨wA, wC, wE, wF, wG⟩ := cl_f r hc
      cases hz : ((p : Int) == 0)
      · simp -implicitDefEqProofs only [go_sem, simprocAttr, h1, h3, h4, h7, hr, qA, qC, qF, qG, qE, ih, hz]
        try simp [badR, letR, wA, wC, wE, wF, wG, hz]
      · simp -implicitDefEqProofs only [go_sem, simprocAttr, h1, h3, h4, h7, hr, qA, qC, qF, qG, qE, ih, hz]
        try simp [badR, letR, wA, wC, wE, wF, wG, hz]
    · obtain ⟨qA, qC, qF, qG, qE⟩ := cr_g r hc
      obtain ⟨wA, wC, wE, wF, wG⟩ := cl_g r hc
      cases hz : ((p : Int) == 0)
      · simp -implicitDefEqProofs only [go_sem, simprocAttr, h1, h3, h4, h7, hr, qA, qC, qF, qG, qE, ih, hz]
        try simp [badR, letR, wA, wC, wE, wF, wG, hz]
      · simp -implicitDefEqProofs only [go_sem, simprocAttr, h1, h3, h4, h7, hr, qA, qC, qF, qG, qE, ih, hz]
        try simp [badR, letR, wA, wC, wE, wF, wG, hz]
    · obtain ⟨qA, qC, qF, qE⟩ := cr_h r hc
      obtain ⟨wA, wC, wE, wF⟩ := cl_h r hc
      cases hz : ((p : Int) == 0)
      · simp -implicitDefEqProofs only [go_sem, simprocAttr, h1, h3, h4, h7, hr, qA, qC, qF, qE, ih, hz]
        try simp [badR, letR, wA, wC, wE, wF, hz]
      · simp -implicitDefEqProofs only [go_sem, simprocAttr, h1, h3, h4, h7, hr, qA, qC, qF, qE, ih, hz]
        try simp [badR, letR, wA, wC, wE, wF, hz]
theorem c230 (s : List UInt8) (hb : s.length < 1000000) : (lim T).call 230 [.str s] [] 0 [] = some (.bool (nameB s), [], 0, []) := by
  rw [ent230]
  have h := loop230 s hb 0 (by omega)
  rw [show ((0 : Nat) : Int) = 0 from rfl, List.drop_zero] at h
  unfold nameB
  cases h1 : ((s.length : Int) == 0)
  · have h3 : s.isEmpty = false := by cases s with | nil => cases h1 | cons a b => rfl
    cases h2 : decide (24 < (s.length : Int))
    · have h4 : s.length ≤ 24 := by simp at h2; omega
      simp -implicitDefEqProofs only [go_sem, simprocAttr, h1, h2, h]
      simp [h3, h4]
    · have h4 : ¬ s.length ≤ 24 := by simp at h2; omega
      simp -implicitDefEqProofs only [go_sem, simprocAttr, h1, h2]
      simp [h3, h4]
  · have h3 : s = [] := by simp at h1; exact h1
    subst h3
    simp -implicitDefEqProofs only [go_sem, simprocAttr]
    try rfl
theorem c188 (s : List UInt8) (hb : s.length < 1000000) : (lim T).call 188 [.str s] [] 0 [] = some (.int .i64 (cond (!nameB s) 8 0), [], 0, []) := by
  rw [ent188]
  simp -implicitDefEqProofs only [go_sem, simprocAttr, c230 s hb, c39]
structure Cz where
  n : List UInt8
  c : Int
  b : Bool
  l : List (Int × Int)
def czV (c : Cz) : V := .agg [.str c.n, .int .i64 c.c, .sl c.b 2 (c.l.map ivV)]
attribute [go_sem] czV
def szd (n k : Int) : Int := fnz [cond (n == 0) 12 0, cond (decide (k < n)) 5 0]
theorem szd_f (n k : Int) : fnz [cond (n == 0) 12 0, cond (decide (k < n)) 5 0] = szd n k := rfl
def ckC (c : Cz) : Int := fnz [rng c.c 0 7, szd c.l.length 8, fnz (c.l.map fun x => ckL x)]
theorem ckC_f (c : Cz) : fnz [rng c.c 0 7, szd c.l.length 8, fnz (c.l.map fun x => ckL x)] = ckC c := rfl
theorem c191 (c : Cz) (hl : c.l.length < 1000000) : (lim T).call 191 [czV c] [] 0 [] = some (.int .i64 (ckC c), [], 0, []) := by
  rw [ent191]
  have e1 := c145 c.b c.l hl
  have e2 := fun b => c114 b (c.l.map fun x => ckL x) (by simp; omega)
  have e3 : List.map intV (List.map (fun x => ckL x) c.l) = List.map (fun n => V.int .i64 n) (List.map (fun x => ckL x) c.l) := rfl
  rw [e3] at e1
  simp -implicitDefEqProofs only [go_sem, simprocAttr, e1, e2, c137, c112, szd_f, c114_3, ckC_f]
theorem loop149 (b : Bool) (l : List (Int × Int)) (hb : l.length < 4611686018427387904) : ∀ i, i ≤ l.length → (lim T).loop false [.code (.loop b149_0), .inBlock 0, .code (.seq r149_7 .ret)] ⟨149, 19, 0, [(0, .sl b 2 (l.map ivV)), (3, .int .i64 i)], [], 0, []⟩ = some (.ret (.int .i64 (fnz ((l.drop i).map fun x => ckL x))), [], 0, []) := by
  refine down_ind l.length ?_ fun i hi ih => ?_
  · rw [loopEq]
    have h1 := idx_out l.length
    simp -implicitDefEqProofs only [go_sem, simprocAttr, h1]
    simp [fnz]
  · obtain ⟨h1, h2, h3, h4, h5⟩ := idx_in hi (by omega)
    rw [loopEq, h5]
    cases h6 : (ckL l[i] != 0)
    · have h7 : ckL l[i] = 0 := by simpa using h6
      simp -implicitDefEqProofs only [go_sem, simprocAttr, h1, h2, h3, h4, h6, ih, c212]
      simp [fnz, h7]
    · have h7 : ckL l[i] ≠ 0 := by simpa using h6
      simp -implicitDefEqProofs only [go_sem, simprocAttr, h1, h2, h3, h4, h6, c212]
      simp [fnz, h7]
theorem c149 (b : Bool) (l : List (Int × Int)) (hb : l.length < 4611686018427387904) : (lim T).call 149 [.sl b 2 (l.map ivV)] [] 0 [] = some (.int .i64 (fnz (l.map fun x => ckL x)), [], 0, []) := by
  rw [ent149]
  have h := loop149 b l hb 0 (by omega)
  rw [show ((0 : Nat) : Int) = 0 from rfl, List.drop_zero] at h
  simp -implicitDefEqProofs only [go_sem, simprocAttr, h]
def idxF {α : Type} (P : α → Bool) : List α → Nat → Int
  | [], _ => -1
  | x :: r, i => cond (P x) (i : Int) (idxF P r (i + 1))
theorem idxF_any {α : Type} (P : α → Bool) : ∀ (l : List α) (i : Nat), decide (0 ≤ idxF P l i) = l.any P := by
  intro l
  induction l with
  | nil => intro i; rfl
  | cons x r ih =>
    intro i
    simp only [idxF, List.any_cons]
    rw [← ih (i + 1)]
    by_cases h : P x = true <;> simp [h]
theorem loop189 (b : Bool) (s : List UInt8) (l : List Cz) (hb : l.length < 1000000) : ∀ i, i ≤ l.length → (lim T).loop false [.code (.loop b189_0), .inBlock 0, .code (.seq r189_6 .ret)] ⟨189, 20, 0, [(0, .sl b 3 (l.map czV)), (1, .str s), (5, .int .i64 i)], [], 0, []⟩ = some (.ret (.int .i64 (idxF (fun a => a.n == s) (l.drop i) i)), [], 0, []) := by
  refine down_ind l.length ?_ fun i hi ih => ?_
  · rw [loopEq]
    have h1 := idx_out l.length
    simp -implicitDefEqProofs only [go_sem, simprocAttr, h1]
    simp [idxF]
  · obtain ⟨h1, h2, h3, h4, h5⟩ := idx_in hi (by omega)
    rw [loopEq, h5]
    cases h6 : (l[i].n == s)
    · simp -implicitDefEqProofs only [go_sem, simprocAttr, h1, h2, h3, h4, h6, ih]
      simp [idxF, h6]
    · simp -implicitDefEqProofs only [go_sem, simprocAttr, h1, h2, h3, h4, h6]
      simp [idxF, h6]
theorem c189 (b : Bool) (s : List UInt8) (l : List Cz) (hb : l.length < 1000000) : (lim T).call 189 [.sl b 3 (l.map czV), .str s] [] 0 [] = some (.int .i64 (idxF (fun a => a.n == s) l 0), [], 0, []) := by
  rw [ent189]
  have h := loop189 b s l hb 0 (by omega)
  rw [show ((0 : Nat) : Int) = 0 from rfl, List.drop_zero] at h
  simp -implicitDefEqProofs only [go_sem, simprocAttr, h]
def dupN (l : List Cz) (i : Nat) (c : Cz) : Bool := (l.take i).any fun a => a.n == c.n
def csE (l : List Cz) (i : Nat) (c : Cz) : Int := fnz [cond (!nameB c.n) 8 0, cond (dupN l i c) 9 0, ckC c]
theorem csE_f (l : List Cz) (i : Nat) (c : Cz) : fnz [cond (!nameB c.n) 8 0, cond (dupN l i c) 9 0, ckC c] = csE l i c := rfl
def csEs (l : List Cz) : Nat → List Cz → List Int
  | _, [] => []
  | i, m :: r => csE l i m :: csEs l (i + 1) r
def ckCs (l : List Cz) : Int := if 8 < l.length then 5 else fnz (csEs l 0 l)
theorem fnz_app (a b : List Int) : fnz (a ++ b) = fnz (a ++ [fnz b]) := by
  induction a with
  | nil =>
    simp only [List.nil_append, fnz]
    by_cases h : fnz b = 0 <;> simp [h]
  | cons x a ih => simp only [List.cons_append, fnz, ih]
theorem csE_ref (l : List Cz) (i : Nat) (c : Cz) : fnz [cond (!nameB c.n) 8 0, cond (dupN l i c) 9 0, rng c.c 0 7, cond ((c.l.length : Int) == 0) 12 0, cond (decide (8 < (c.l.length : Int))) 5 0, fnz (c.l.map fun x => ckL x)] = csE l i c := by
  have h1 := fnz_app [cond (!nameB c.n) 8 0, cond (dupN l i c) 9 0] [rng c.c 0 7, cond ((c.l.length : Int) == 0) 12 0, cond (decide (8 < (c.l.length : Int))) 5 0, fnz (c.l.map fun x => ckL x)]
  simp only [List.cons_append, List.nil_append] at h1
  rw [h1]
  unfold csE ckC
  have h2 : fnz [rng c.c 0 7, cond ((c.l.length : Int) == 0) 12 0, cond (decide (8 < (c.l.length : Int))) 5 0, fnz (c.l.map fun x => ckL x)] = fnz [rng c.c 0 7, szd c.l.length 8, fnz (c.l.map fun x => ckL x)] := by
    unfold szd
    simp only [fnz]
    by_cases h : cond ((c.l.length : Int) == 0) (12 : Int) 0 = 0
    · by_cases h' : cond (decide (8 < (c.l.length : Int))) (5 : Int) 0 = 0
      · simp [h, h']
      · simp [h, h']
    · simp [h]
  rw [h2]
def kvC (c : Cz) : V × V := (.str c.n, .bool true)
theorem mapSet_new {eq : V → V → Option Bool} {x y : V} : ∀ {es : List (V × V)}, (∀ e ∈ es, eq x e.1 = some false) → mapSet eq es x y = some (es ++ [(x, y)])
  | [], _ => rfl
  | (a, b) :: r, h => by
    have h1 := h (a, b) (List.mem_cons_self ..)
    dsimp only at h1
    simp only [mapSet, h1, mapSet_new (es := r) (fun e he => h e (List.mem_cons_of_mem _ he)), List.cons_append]
theorem eq9 (a b : List UInt8) : eqT T 5 9 (.str a) (.str b) = some (a == b) := by
  simp -implicitDefEqProofs only [go_sem, simprocAttr]
theorem key9 (a : List UInt8) : keyOk T 3 9 (.str a) = true := by kernel_rfl
theorem setC {l : List Cz} {i : Nat} (hi : i < l.length) (hd : dupN l i l[i] = false) : mapSet (eqT T 5 9) ((l.take i).map kvC) (.str l[i].n) (.bool true) = some ((l.take (i + 1)).map kvC) := by
  rw [mapSet_new]
  · rw [List.take_succ_eq_append_getElem hi, List.map_append]; rfl
  · intro e he
    obtain ⟨m, hm, rfl⟩ := List.mem_map.1 he
    unfold dupN at hd
    rw [List.any_eq_false] at hd
    have := hd m hm
    simp only [kvC]
    rw [eq9, Bool.beq_comm]
    simpa using this
theorem getC (l : List Cz) (s : List UInt8) : mapGet (eqT T 5 9) (l.map kvC) (.str s) = some (cond (l.any fun a => a.n == s) (some (.bool true)) none) := by
  induction l with
  | nil => rfl
  | cons c l ih =>
    simp only [List.map_cons, kvC, mapGet, eq9, List.any_cons]
    rw [Bool.beq_comm]
    cases h : (c.n == s)
    · simpa [kvC] using ih
    · rfl
def L120 (b : Bool) (l : List Cz) (i : Nat) : Option Out :=
  (lim T).loop false [.code (.loop b120_0), .inBlock 0, .code (.seq r120_12 .ret)] ⟨120, 38, 0, [(3, .map 0), (11, .sl b 3 (l.map czV)), (12, .int .i64 l.length), (13, .int .i64 i)], [.map ((l.take i).map kvC)], 0, []⟩
theorem loop120 (b : Bool) (l : List Cz) (hb : l.length < 1000000) (hn : ∀ c ∈ l, c.n.length < 1000000 ∧ c.l.length < 1000000) : ∀ i, i ≤ l.length → L120 b l i = some (.ret (.int .i64 (fnz (csEs l i (l.drop i)))), [], 0, []) := by
  refine down_ind l.length ?_ fun i hi ih => ?_
  · unfold L120
    rw [loopEq]
    have h1 := idx_out l.length
    simp -implicitDefEqProofs only [go_sem, simprocAttr, h1]
    simp [fnz, csEs]
  · obtain ⟨h1, h2, h3, h4, h5⟩ := idx_in hi (by omega)
    rw [h5]
    obtain ⟨k1, k2⟩ := hn l[i] (List.getElem_mem hi)
    have e1 := c190 l[i].n k1
    have e2 := c191 l[i] k2
    have e3 := getC (l.take i) l[i].n
    have e4 := key9 l[i].n
    have ef := csE_f l i l[i]
    simp only [czV] at e2
    have ed : dupN l i l[i] = (l.take i).any fun a => a.n == l[i].n := rfl
    rw [← ed] at e3
    cases h6 : (csE l i l[i] != 0)
    · have h7 : csE l i l[i] = 0 := by simpa using h6
      have h8 : dupN l i l[i] = false := by
        have := fnz_zero.1 h7 (cond (dupN l i l[i]) 9 0) (by simp)
        cases hd : dupN l i l[i] with
        | false => rfl
        | true => rw [hd] at this; cases this
      have e5 := setC hi h8
      unfold L120 at ih ⊢
      rw [loopEq]
      rw [h8] at e3 ef
      simp only [cond_false] at ef e3
      simp -implicitDefEqProofs only [go_sem, simprocAttr, h1, h2, h3, h4, e1, e2, e3, e4, c115, c114_3, ef, h6, e5, ih, cond_false]
      simp [fnz, csEs, h7]
    · have h7 : csE l i l[i] ≠ 0 := by simpa using h6
      unfold L120
      rw [loopEq]
      cases h8 : dupN l i l[i]
      · rw [h8] at e3 ef
        simp only [cond_false] at ef e3
        simp -implicitDefEqProofs only [go_sem, simprocAttr, h1, h2, h3, h4, e1, e2, e3, e4, c115, c114_3, ef, h6, cond_false]
        simp [fnz, csEs, h7]
      · rw [h8] at e3 ef
        simp only [cond_true] at ef e3
        simp -implicitDefEqProofs only [go_sem, simprocAttr, h1, h2, h3, h4, e1, e2, e3, e4, c115, c114_3, ef, h6, cond_true]
        simp [fnz, csEs, h7]
theorem c120 (b : Bool) (l : List Cz) (hb : l.length < 1000000) (hn : ∀ c ∈ l, c.n.length < 1000000 ∧ c.l.length < 1000000) : (lim T).call 120 [.sl b 3 (l.map czV)] [] 0 [] = some (.int .i64 (ckCs l), [], 0, []) := by
  rw [ent120]
  have h := loop120 b l hb hn 0 (by omega)
  rw [List.drop_zero] at h
  unfold L120 at h
  rw [show ((0 : Nat) : Int) = 0 from rfl, List.take_zero, List.map_nil] at h
  cases h1 : decide (8 < (l.length : Int))
  · have h2 : ¬ 8 < l.length := by simp at h1; omega
    simp -implicitDefEqProofs only [go_sem, simprocAttr, h, h1]
    simp [ckCs, h2]
  · have h2 : 8 < l.length := by simp at h1; omega
    simp -implicitDefEqProofs only [go_sem, simprocAttr, h1]
    simp [ckCs, h2]
theorem loop110 (b : Bool) (l : List Cz) (hb : l.length < 1000000) (hn : ∀ c ∈ l, c.n.length < 1000000 ∧ c.l.length < 1000000) : ∀ i, i ≤ l.length → (lim T).loop false [.code (.loop b110_0), .inBlock 0, .code (.seq r110_10 .ret)] ⟨110, 51, 0, [(0, .sl b 3 (l.map czV)), (3, .int .i64 i)], [], 0, []⟩ = some (.ret (.int .i64 (fnz (csEs l i (l.drop i)))), [], 0, []) := by
  refine down_ind l.length ?_ fun i hi ih => ?_
  · rw [loopEq]
    have h1 := idx_out l.length
    simp -implicitDefEqProofs only [go_sem, simprocAttr, h1]
    simp [fnz, csEs]
  · obtain ⟨h1, h2, h3, h4, h5⟩ := idx_in hi (by omega)
    rw [h5, loopEq]
    obtain ⟨k1, k2⟩ := hn l[i] (List.getElem_mem hi)
    have e1 := c188 l[i].n k1
    have e2 := c149 l[i].b l[i].l (by omega)
    have e3 := c189 b l[i].n (l.take i) (by simp; omega)
    simp only [List.map_take] at e3
    have e4 : decide (0 ≤ idxF (fun a : Cz => a.n == l[i].n) (l.take i) 0) = dupN l i l[i] := idxF_any _ _ 0
    have ef := csE_ref l i l[i]
    have hle : i ≤ l.length := by omega
    cases h6 : (csE l i l[i] != 0)
    · have h7 : csE l i l[i] = 0 := by simpa using h6
      simp -implicitDefEqProofs only [go_sem, simprocAttr, h1, h2, h3, h4, e1, e2, e3, e4, c39, c90, c108_6, ef, h6, ih]
      simp [fnz, csEs, h7, need, hle]
    · have h7 : csE l i l[i] ≠ 0 := by simpa using h6
      simp -implicitDefEqProofs only [go_sem, simprocAttr, h1, h2, h3, h4, e1, e2, e3, e4, c39, c90, c108_6, ef, h6]
      simp [fnz, csEs, h7, need, hle]
theorem c110 (b : Bool) (l : List Cz) (hb : l.length < 1000000) (hn : ∀ c ∈ l, c.n.length < 1000000 ∧ c.l.length < 1000000) : (lim T).call 110 [.sl b 3 (l.map czV)] [] 0 [] = some (.int .i64 (ckCs l), [], 0, []) := by
  rw [ent110]
  have h := loop110 b l hb hn 0 (by omega)
  rw [show ((0 : Nat) : Int) = 0 from rfl, List.drop_zero] at h
  cases h1 : decide (8 < (l.length : Int))
  · have h2 : ¬ 8 < l.length := by simp at h1; omega
    simp -implicitDefEqProofs only [go_sem, simprocAttr, h, h1]
    simp [ckCs, h2]
  · have h2 : 8 < l.length := by simp at h1; omega
    simp -implicitDefEqProofs only [go_sem, simprocAttr, h1]
    simp [ckCs, h2]
def rwV (r : Bool × List Int) : V := .sl r.1 1 (r.2.map intV)
structure Pk where
  vb : Bool
  v : List (Bool × List Int)
  n : Int
  cb : Bool
  c : List Cz
def pkV (p : Pk) : V := .agg [.sl p.vb 1 (p.v.map rwV), .int .i64 p.n, .sl p.cb 3 (p.c.map czV)]
attribute [go_sem] rwV
def chE (s : Nat) (r : Bool × List Int) : Int := fnz [szd r.2.length 8, cond ((r.2.length : Int) != s) 2 0, fnz (r.2.map fun n => ckE n)]
theorem chE_f (s : Nat) (r : Bool × List Int) : fnz [szd r.2.length 8, cond ((r.2.length : Int) != s) 2 0, fnz (r.2.map fun n => ckE n)] = chE s r := rfl
def caE (k s : Nat) (c : Cz) : Int := fnz [cond (decide ((k : Int) ≤ c.c)) 10 0, cond ((c.l.length : Int) != s) 2 0]
theorem caE_f (k s : Nat) (c : Cz) : fnz [cond (decide ((k : Int) ≤ c.c)) 10 0, cond ((c.l.length : Int) != s) 2 0] = caE k s c := rfl
def Pk.fit (p : Pk) : Prop := p.v.length < 1000 ∧ (∀ r ∈ p.v, r.2.length < 1000) ∧ p.c.length < 1000 ∧ ∀ c ∈ p.c, c.n.length < 1000000 ∧ c.l.length < 1000000
theorem first_in {p : Pk} {r0 : Bool × List Int} (h : p.v[0]? = some r0) : decide (0 < (p.v.length : Int)) = true := by
  obtain ⟨h, _⟩ := List.getElem?_eq_some_iff.1 h
  exact decide_eq_true (by omega)
theorem c113 (p : Pk) (r0 r : Bool × List Int) (h0 : p.v[0]? = some r0) (hr : r.2.length < 1000000) : (lim T).call 113 [.sl r.1 1 (r.2.map intV), .pp 3 [pkV p] 0 0] [] 0 [] = some (.int .i64 (chE r0.2.length r), [], 0, []) := by
  rw [ent113]
  have g := first_in h0
  have e1 := c116 r.1 r.2 hr
  have e2 := fun b => c114 b (r.2.map fun n => ckE n) (by simp; omega)
  have e3 : List.map intV (List.map (fun x => ckE x) r.2) = List.map (fun n => V.int .i64 n) (List.map (fun x => ckE x) r.2) := rfl
  rw [e3] at e1
  simp -implicitDefEqProofs only [go_sem, simprocAttr, pkV, h0, g, e1, e2, c115, c112, szd_f, c114_3, chE_f]
theorem c118 (p : Pk) (r0 : Bool × List Int) (c : Cz) (h0 : p.v[0]? = some r0) : (lim T).call 118 [.agg [.str c.n, .int .i64 c.c, .sl c.b 2 (c.l.map ivV)], .pp 3 [pkV p] 0 0] [] 0 [] = some (.int .i64 (caE p.v.length r0.2.length c), [], 0, []) := by
  rw [ent118]
  have g := first_in h0
  simp -implicitDefEqProofs only [go_sem, simprocAttr, pkV, h0, g, c115, c114_2, caE_f]
theorem loop119 (p : Pk) (r0 : Bool × List Int) (h0 : p.v[0]? = some r0) (b : Bool) (l : List (Bool × List Int)) (hb : l.length < 1000000) (hr : ∀ r ∈ l, r.2.length < 1000000) : ∀ i, i ≤ l.length → ∀ o : Option (List (Int)), acL o = i →
    (lim T).loop false [.code (.loop b119_0), .inBlock 0, .code (.seq r119_7 .ret)] ⟨119, 22, 0, [(1, .fn 113 [.pp 3 [pkV p] 0 0]), (5, acV o 0), (8, .sl b 1 (l.map rwV)), (9, .int .i64 l.length), (10, .int .i64 i)], acR intV o 29, 0, []⟩ =
      some (.ret (acO intV 0 1 (acA o ((l.drop i).map (fun r => chE r0.2.length r)))), [], 0, []) := by
  refine down_ind l.length ?_ fun i hi ih o ho => ?_
  · intro o ho
    rw [loopEq]
    have h1 := idx_out l.length
    cases o with
    | none =>
      simp -implicitDefEqProofs only [go_sem, simprocAttr, h1]
      simp [acA, acO]
    | some a =>
      simp -implicitDefEqProofs only [go_sem, simprocAttr, h1]
      simp [acA, acO]
  · obtain ⟨h1, h2, h3, h4, h5⟩ := idx_in hi (by omega)
    rw [loopEq, h5]
    have ih' := ih (acA o [((fun r => chE r0.2.length r) l[i])]) (by rw [acL_A, ho]; rfl)
    rw [acA_acA] at ih'
    dsimp only at ih'
    cases o with
    | none =>
      have h8 := row_ok (n := 0) (by omega)
      simp only [acA_n, acV_s, acR_s, List.map_cons, List.map_nil, intV] at ih'
      simp -implicitDefEqProofs only [go_sem, simprocAttr, h1, h2, h3, h4, ih', h8.2, c113 p r0 l[i] h0 (hr _ (List.getElem_mem hi))]
    | some a =>
      have h9 : a.length = i := ho
      have h8 := (row_ok (n := a.length) (by omega)).1
      simp only [acA_s, acV_s, acR_s, List.map_append, List.map_cons, List.map_nil, intV] at ih'
      simp -implicitDefEqProofs only [go_sem, simprocAttr, h1, h2, h3, h4, ih', h8, c113 p r0 l[i] h0 (hr _ (List.getElem_mem hi))]
theorem c119 (p : Pk) (r0 : Bool × List Int) (h0 : p.v[0]? = some r0) (b : Bool) (l : List (Bool × List Int)) (hb : l.length < 1000000) (hr : ∀ r ∈ l, r.2.length < 1000000) : (lim T).call 119 [.sl b 1 (l.map rwV), .fn 113 [.pp 3 [pkV p] 0 0]] [] 0 [] = some (slV 1 (((l).map (fun r => chE r0.2.length r)).map intV), [], 0, []) := by
  rw [ent119]
  have h := loop119 p r0 h0 b l hb hr 0 (by omega) none rfl
  rw [show ((0 : Nat) : Int) = 0 from rfl, List.drop_zero, acO_slV] at h
  simp only [acV_n, acR_n] at h
  simp -implicitDefEqProofs only [go_sem, simprocAttr, h]
theorem loop121 (p : Pk) (r0 : Bool × List Int) (h0 : p.v[0]? = some r0) (b : Bool) (l : List (Cz)) (hb : l.length < 1000000) : ∀ i, i ≤ l.length → ∀ o : Option (List (Int)), acL o = i →
    (lim T).loop false [.code (.loop b121_0), .inBlock 0, .code (.seq r121_7 .ret)] ⟨121, 22, 0, [(1, .fn 118 [.pp 3 [pkV p] 0 0]), (5, acV o 0), (8, .sl b 3 (l.map czV)), (9, .int .i64 l.length), (10, .int .i64 i)], acR intV o 29, 0, []⟩ =
      some (.ret (acO intV 0 1 (acA o ((l.drop i).map (fun c => caE p.v.length r0.2.length c)))), [], 0, []) := by
  refine down_ind l.length ?_ fun i hi ih o ho => ?_
  · intro o ho
    rw [loopEq]
    have h1 := idx_out l.length
    cases o with
    | none =>
      simp -implicitDefEqProofs only [go_sem, simprocAttr, h1]
      simp [acA, acO]
    | some a =>
      simp -implicitDefEqProofs only [go_sem, simprocAttr, h1]
      simp [acA, acO]
  · obtain ⟨h1, h2, h3, h4, h5⟩ := idx_in hi (by omega)
    rw [loopEq, h5]
    have ih' := ih (acA o [((fun c => caE p.v.length r0.2.length c) l[i])]) (by rw [acL_A, ho]; rfl)
    rw [acA_acA] at ih'
    dsimp only at ih'
    cases o with
    | none =>
      have h8 := row_ok (n := 0) (by omega)
      simp only [acA_n, acV_s, acR_s, List.map_cons, List.map_nil, intV] at ih'
      simp -implicitDefEqProofs only [go_sem, simprocAttr, h1, h2, h3, h4, ih', h8.2, c118 p r0 l[i] h0]
    | some a =>
      have h9 : a.length = i := ho
      have h8 := (row_ok (n := a.length) (by omega)).1
      simp only [acA_s, acV_s, acR_s, List.map_append, List.map_cons, List.map_nil, intV] at ih'
      simp -implicitDefEqProofs only [go_sem, simprocAttr, h1, h2, h3, h4, ih', h8, c118 p r0 l[i] h0]
theorem c121 (p : Pk) (r0 : Bool × List Int) (h0 : p.v[0]? = some r0) (b : Bool) (l : List (Cz)) (hb : l.length < 1000000) : (lim T).call 121 [.sl b 3 (l.map czV), .fn 118 [.pp 3 [pkV p] 0 0]] [] 0 [] = some (slV 1 (((l).map (fun c => caE p.v.length r0.2.length c)).map intV), [], 0, []) := by
  rw [ent121]
  have h := loop121 p r0 h0 b l hb  0 (by omega) none rfl
  rw [show ((0 : Nat) : Int) = 0 from rfl, List.drop_zero, acO_slV] at h
  simp only [acV_n, acR_n] at h
  simp -implicitDefEqProofs only [go_sem, simprocAttr, h]
def ckPk (p : Pk) : Int := if szd p.v.length 8 = 0 then fnz [fnz (p.v.map fun r => chE ((p.v[0]?.getD (false, [])).2.length) r), ckE p.n, ckCs p.c, fnz (p.c.map fun c => caE p.v.length ((p.v[0]?.getD (false, [])).2.length) c)] else szd p.v.length 8
theorem szd_ne {n : Nat} (h : szd n 8 = 0) : 0 < n ∧ n ≤ 8 := by
  unfold szd at h
  have h1 := fnz_zero.1 h (cond ((n : Int) == 0) 12 0) (by simp)
  have h2 := fnz_zero.1 h (cond (decide (8 < (n : Int))) 5 0) (by simp)
  constructor
  · cases n with
    | zero => cases h1
    | succ n => omega
  · by_cases hc : 8 < (n : Int)
    · simp [hc] at h2
    · omega
theorem c23 (p : Pk) (hf : p.fit) : (lim T).call 23 [pkV p] [] 0 [] = some (.int .i64 (ckPk p), [], 0, []) := by
  rw [ent23]
  obtain ⟨f1, f2, f3, f4⟩ := hf
  have e1 := c112 p.v.length 8
  rw [szd_f] at e1
  unfold ckPk
  cases h : (szd p.v.length 8 != 0)
  · have h0 : szd p.v.length 8 = 0 := by simpa using h
    rw [if_pos h0]
    obtain ⟨k1, k2⟩ := szd_ne h0
    have hr0 : p.v[0]? = some p.v[0] := List.getElem?_eq_getElem k1
    have e2 := c119 p p.v[0] hr0 p.vb p.v (by omega) (fun r hr => by have := f2 r hr; omega)
    have e3 := c121 p p.v[0] hr0 p.cb p.c (by omega)
    have e4 := c120 p.cb p.c (by omega) f4
    have e5 := fun b => c114 b (p.v.map fun r => chE p.v[0].2.length r) (by simp; omega)
    have e6 := fun b => c114 b (p.c.map fun c => caE p.v.length p.v[0].2.length c) (by simp; omega)
    have t1 : List.map intV (List.map (fun r => chE p.v[0].2.length r) p.v) = List.map (fun n => V.int .i64 n) (List.map (fun r => chE p.v[0].2.length r) p.v) := rfl
    have t2 : List.map intV (List.map (fun c => caE p.v.length p.v[0].2.length c) p.c) = List.map (fun n => V.int .i64 n) (List.map (fun c => caE p.v.length p.v[0].2.length c) p.c) := rfl
    rw [t1] at e2
    rw [t2] at e3
    rw [hr0]
    dsimp only [Option.getD_some]
    have e7 := c114_4 true (fnz (p.v.map fun r => chE p.v[0].2.length r)) (ckE p.n) (ckCs p.c) (fnz (p.c.map fun c => caE p.v.length p.v[0].2.length c))
    simp only [pkV] at e2 e3
    simp -implicitDefEqProofs only [go_sem, simprocAttr, pkV, e1, h, e2, e3, e4, e5, e6, e7, c117]
  · have h0 : ¬ szd p.v.length 8 = 0 := by simpa using h
    rw [if_neg h0]
    simp -implicitDefEqProofs only [go_sem, simprocAttr, pkV, e1, h]
def chQ (s : Nat) (r : Bool × List Int) : Int := fnz [cond ((r.2.length : Int) == 0) 12 0, cond (decide (8 < (r.2.length : Int))) 5 0, cond ((r.2.length : Int) != s) 2 0]
theorem chQ_f (s : Nat) (r : Bool × List Int) : fnz [cond ((r.2.length : Int) == 0) 12 0, cond (decide (8 < (r.2.length : Int))) 5 0, cond ((r.2.length : Int) != s) 2 0] = chQ s r := rfl
theorem chE_ref (s : Nat) (r : Bool × List Int) : chE s r = if chQ s r = 0 then fnz (r.2.map fun n => ckE n) else chQ s r := by
  unfold chE chQ szd
  simp only [fnz]
  by_cases h : cond ((r.2.length : Int) == 0) (12 : Int) 0 = 0
  · by_cases h' : cond (decide (8 < (r.2.length : Int))) (5 : Int) 0 = 0
    · by_cases h'' : cond ((r.2.length : Int) != s) (2 : Int) 0 = 0
      · simp only [h, h', h'', if_true]
        by_cases h3 : fnz (r.2.map fun n => ckE n) = 0 <;> simp [h3]
      · simp [h, h', h'']
    · simp [h, h']
  · simp [h]
def brE (e : Int) (x : Option Out) : Option Out := if e = 0 then x else some (.ret (.int .i64 e), [], 0, [])
theorem brE_c {a : Int} {l : List Int} {x : Option Out} (h : a = 0) : brE (fnz (a :: l)) x = brE (fnz l) x := by simp [brE, fnz, h]
theorem brE_n {a : Int} {l : List Int} {x : Option Out} (h : ¬ a = 0) : brE (fnz (a :: l)) x = some (.ret (.int .i64 a), [], 0, []) := by simp [brE, fnz, h]
def L20i (p : Pk) (s : Nat) (r : Bool × List Int) (i k : Nat) : Option Out :=
  (lim T).loop false [.code (.loop b20_1), .inBlock 2, .inBlock 1, .code r20_7, .inLoop b20_0, .inBlock 0, .code (.seq (.seq r20_18 (.seq r20_19 (.cond (.tmp 86) (.seq r20_20 .ret) .skip))) (.seq (.seq r20_21 (.block 4 (.loop b20_2))) (.seq r20_27 .ret)))]
    ⟨20, 121, 0, [(1, .ptr 0 0 0), (4, .int .i64 s), (5, .int .i64 i), (6, .sl r.1 1 (r.2.map intV)), (8, .int .i64 k)], [.cells true true 25 [pkV p]], 0, []⟩
theorem loop20i (p : Pk) (s : Nat) (r : Bool × List Int) (i : Nat) (hr : r.2.length < 1000000) : ∀ k, k ≤ r.2.length → L20i p s r i k = brE (fnz ((r.2.drop k).map fun n => ckE n)) (L20i p s r i r.2.length) := by
  refine down_ind r.2.length ?_ fun k hk ih => ?_
  · have h0 : r.2.drop r.2.length = [] := by simp
    rw [h0]; rfl
  · obtain ⟨h1, h2, h3, h4, h5⟩ := idx_in hk (by omega)
    rw [h5, List.map_cons]
    conv => lhs; unfold L20i; rw [loopEq]
    cases h6 : (ckE r.2[k] != 0)
    · have h7 : ckE r.2[k] = 0 := by simpa using h6
      rw [brE_c h7, ← ih]
      unfold L20i
      simp -implicitDefEqProofs only [go_sem, simprocAttr, pkV, h1, h2, h3, h4, h6, c109]
    · have h7 : ¬ ckE r.2[k] = 0 := by simpa using h6
      rw [brE_n h7]
      simp -implicitDefEqProofs only [go_sem, simprocAttr, pkV, h1, h2, h3, h4, h6, c109]
def L20 (p : Pk) (s : Nat) (i : Nat) : Option Out :=
  (lim T).loop false [.code (.loop b20_0), .inBlock 0, .code (.seq (.seq r20_18 (.seq r20_19 (.cond (.tmp 86) (.seq r20_20 .ret) .skip))) (.seq (.seq r20_21 (.block 4 (.loop b20_2))) (.seq r20_27 .ret)))]
    ⟨20, 121, 0, [(1, .ptr 0 0 0), (4, .int .i64 s), (5, .int .i64 i)], [.cells true true 25 [pkV p]], 0, []⟩
theorem loop20 (p : Pk) (s : Nat) (hv : p.v.length < 1000) (hr : ∀ r ∈ p.v, r.2.length < 1000) : ∀ i, i ≤ p.v.length → L20 p s i = brE (fnz ((p.v.drop i).map fun r => chE s r)) (L20 p s p.v.length) := by
  refine down_ind p.v.length ?_ fun i hi ih => ?_
  · have h0 : p.v.drop p.v.length = [] := by simp
    rw [h0]; rfl
  · obtain ⟨h1, h2, h3, h4, h5⟩ := idx_in hi (by omega)
    rw [h5, List.map_cons]
    have hri := hr _ (List.getElem_mem hi)
    have hI := loop20i p s p.v[i] i (by omega) 0 (by omega)
    rw [List.drop_zero] at hI
    have hE := idx_out p.v[i].2.length
    have fin : L20i p s p.v[i] i p.v[i].2.length = L20 p s (i + 1) := by
      unfold L20i L20
      rw [loopEq]
      simp -implicitDefEqProofs only [go_sem, simprocAttr, pkV, hE, h4]
    rw [fin] at hI
    conv at hI => lhs; unfold L20i
    rw [show ((0 : Nat) : Int) = 0 from rfl] at hI
    simp only [pkV] at hI
    conv => lhs; unfold L20; rw [loopEq]
    have hch := chE_ref s p.v[i]
    cases h6 : (chQ s p.v[i] != 0)
    · have h7 : chQ s p.v[i] = 0 := by simpa using h6
      rw [if_pos h7] at hch
      by_cases h8 : fnz (p.v[i].2.map fun n => ckE n) = 0
      · rw [h8] at hch
        unfold brE at hI
        rw [if_pos h8] at hI
        rw [brE_c hch, ← ih]
        conv at hI => rhs; unfold L20
        simp only [pkV] at hI
        conv => rhs; unfold L20
        simp -implicitDefEqProofs only [go_sem, simprocAttr, pkV, h1, h2, h3, h4, c39, c108_3, chQ_f, h6, hI]
      · unfold brE at hI
        rw [if_neg h8, ← hch] at hI
        rw [← hch] at h8
        rw [brE_n h8]
        simp -implicitDefEqProofs only [go_sem, simprocAttr, pkV, h1, h2, h3, h4, c39, c108_3, chQ_f, h6, hI]
    · have h7 : ¬ chQ s p.v[i] = 0 := by simpa using h6
      rw [if_neg h7] at hch
      rw [← hch] at h7
      rw [brE_n h7, hch]
      simp -implicitDefEqProofs only [go_sem, simprocAttr, pkV, h1, h2, h3, h4, c39, c108_3, chQ_f, h6]
def L20c (p : Pk) (s : Nat) (i : Nat) : Option Out :=
  (lim T).loop false [.code (.loop b20_2), .inBlock 4, .code (.seq r20_27 .ret)]
    ⟨20, 121, 0, [(1, .ptr 0 0 0), (4, .int .i64 s), (11, .int .i64 i)], [.cells true true 25 [pkV p]], 0, []⟩
theorem loop20c (p : Pk) (s : Nat) (hc : p.c.length < 1000) : ∀ i, i ≤ p.c.length → L20c p s i = some (.ret (.int .i64 (fnz ((p.c.drop i).map fun c => caE p.v.length s c))), [], 0, []) := by
  refine down_ind p.c.length ?_ fun i hi ih => ?_
  · have h0 : p.c.drop p.c.length = [] := by simp
    rw [h0]
    unfold L20c
    rw [loopEq]
    have h1 := idx_out p.c.length
    simp -implicitDefEqProofs only [go_sem, simprocAttr, pkV, h1]
    simp [fnz]
  · obtain ⟨h1, h2, h3, h4, h5⟩ := idx_in hi (by omega)
    rw [h5, List.map_cons]
    simp only [fnz]
    unfold L20c at ih ⊢
    simp only [pkV] at ih
    rw [loopEq]
    cases h6 : (caE p.v.length s p.c[i] != 0)
    · have h7 : caE p.v.length s p.c[i] = 0 := by simpa using h6
      rw [if_pos h7]
      simp -implicitDefEqProofs only [go_sem, simprocAttr, pkV, h1, h2, h3, h4, c39, c108_2, caE_f, h6, ih]
    · have h7 : ¬ caE p.v.length s p.c[i] = 0 := by simpa using h6
      rw [if_neg h7]
      simp -implicitDefEqProofs only [go_sem, simprocAttr, pkV, h1, h2, h3, h4, c39, c108_2, caE_f, h6]
theorem fnz4 (a b c d : Int) : fnz [a, b, c, d] = if a = 0 then (if fnz [b, c] = 0 then d else fnz [b, c]) else a := by
  simp only [fnz]
  by_cases h : a = 0
  · by_cases h' : b = 0
    · by_cases h'' : c = 0
      · by_cases h3 : d = 0 <;> simp [h, h', h'', h3]
      · simp [h, h', h'']
    · simp [h, h']
  · simp [h]
theorem c20 (p : Pk) (hf : p.fit) : (lim T).call 20 [pkV p] [] 0 [] = some (.int .i64 (ckPk p), [], 0, []) := by
  rw [ent20]
  obtain ⟨f1, f2, f3, f4⟩ := hf
  unfold ckPk
  cases h : (szd p.v.length 8 != 0)
  · have h0 : szd p.v.length 8 = 0 := by simpa using h
    rw [if_pos h0]
    obtain ⟨k1, k2⟩ := szd_ne h0
    have hr0 : p.v[0]? = some p.v[0] := List.getElem?_eq_getElem k1
    have g := first_in hr0
    rw [hr0]
    dsimp only [Option.getD_some]
    rw [fnz4]
    have hL := loop20 p p.v[0].2.length f1 f2 0 (by omega)
    rw [List.drop_zero] at hL
    have hC := loop20c p p.v[0].2.length f3 0 (by omega)
    rw [List.drop_zero] at hC
    unfold L20c at hC
    rw [show ((0 : Nat) : Int) = 0 from rfl] at hC
    simp only [pkV] at hC
    have e4 := c110 p.cb p.c (by omega) f4
    have hE := idx_out p.v.length
    by_cases h8 : fnz (p.v.map fun r => chE p.v[0].2.length r) = 0
    · unfold brE at hL
      rw [if_pos h8] at hL ⊢
      have fin : L20 p p.v[0].2.length p.v.length = some (.ret (.int .i64 (if fnz [ckE p.n, ckCs p.c] = 0 then fnz (p.c.map fun c => caE p.v.length p.v[0].2.length c) else fnz [ckE p.n, ckCs p.c])), [], 0, []) := by
        unfold L20
        rw [loopEq]
        cases h9 : (fnz [ckE p.n, ckCs p.c] != 0)
        · have h10 : fnz [ckE p.n, ckCs p.c] = 0 := by simpa using h9
          rw [if_pos h10]
          simp -implicitDefEqProofs only [go_sem, simprocAttr, pkV, hE, e4, c109, c108_2, h9, hC]
        · have h10 : ¬ fnz [ckE p.n, ckCs p.c] = 0 := by simpa using h9
          rw [if_neg h10]
          simp -implicitDefEqProofs only [go_sem, simprocAttr, pkV, hE, e4, c109, c108_2, h9]
      rw [fin] at hL
      unfold L20 at hL
      rw [show ((0 : Nat) : Int) = 0 from rfl] at hL
      simp only [pkV] at hL
      simp -implicitDefEqProofs only [go_sem, simprocAttr, pkV, c39, c108_2, szd_f, h, g, hr0, hL]
    · unfold brE at hL
      rw [if_neg h8] at hL ⊢
      unfold L20 at hL
      rw [show ((0 : Nat) : Int) = 0 from rfl] at hL
      simp only [pkV] at hL
      simp -implicitDefEqProofs only [go_sem, simprocAttr, pkV, c39, c108_2, szd_f, h, g, hr0, hL]
  · have h0 : ¬ szd p.v.length 8 = 0 := by simpa using h
    rw [if_neg h0]
    simp -implicitDefEqProofs only [go_sem, simprocAttr, pkV, c39, c108_2, szd_f, h]
def shC1 (c : Cz) : Bool := !(decide (40 < (c.n.length : Int)) || decide (9 < (c.l.length : Int)))
def shC (l : List Cz) : Bool := !(decide (6 < (l.length : Int)) && ((l.length : Int) != 9)) && l.all shC1
theorem loop101 (b : Bool) (l : List Cz) (hb : l.length < 4611686018427387904) : ∀ i, i ≤ l.length → (lim T).loop false [.code (.loop b101_0), .inBlock 0, .code (.seq r101_8 .ret)] ⟨101, 34, 0, [(0, .sl b 3 (l.map czV)), (3, .int .i64 i)], [], 0, []⟩ = some (.ret (.bool ((l.drop i).all shC1)), [], 0, []) := by
  refine down_ind l.length ?_ fun i hi ih => ?_
  · rw [loopEq]
    have h1 := idx_out l.length
    simp -implicitDefEqProofs only [go_sem, simprocAttr, h1]
    try simp
  · obtain ⟨h1, h2, h3, h4, h5⟩ := idx_in hi hb
    rw [loopEq, h5, List.all_cons]
    unfold shC1 at ih ⊢
    cases h6 : decide (40 < (l[i].n.length : Int))
    · cases h7 : decide (9 < (l[i].l.length : Int))
      · simp -implicitDefEqProofs only [go_sem, simprocAttr, h1, h2, h3, h4, h6, h7, ih]
        try simp
      · simp -implicitDefEqProofs only [go_sem, simprocAttr, h1, h2, h3, h4, h6, h7, ih]
        try simp
    · simp -implicitDefEqProofs only [go_sem, simprocAttr, h1, h2, h3, h4, h6, ih]
      try simp
theorem c101 (b : Bool) (l : List Cz) : (lim T).call 101 [.sl b 3 (l.map czV)] [] 0 [] = some (.bool (shC l), [], 0, []) := by
  rw [ent101]
  have h := fun hb => loop101 b l hb 0 (by omega)
  rw [show ((0 : Nat) : Int) = 0 from rfl, List.drop_zero] at h
  unfold shC
  cases h1 : decide (6 < (l.length : Int))
  · have h := h (by simp at h1; omega)
    simp -implicitDefEqProofs only [go_sem, simprocAttr, h1, h]
    try simp
  · cases h2 : ((l.length : Int) != 9)
    · have h := h (by simp at h2; omega)
      simp -implicitDefEqProofs only [go_sem, simprocAttr, h1, h2, h]
      try simp
    · simp -implicitDefEqProofs only [go_sem, simprocAttr, h1, h2]
      try simp
def shR (r : Bool × List Int) : Bool := !decide (9 < (r.2.length : Int))
def shP (p : Pk) : Bool := !(decide (9 < (p.v.length : Int)) || !shC p.c) && p.v.all shR
theorem loop15 (p : Pk) (hb : p.v.length < 4611686018427387904) : ∀ i, i ≤ p.v.length → (lim T).loop false [.code (.loop b15_0), .inBlock 0, .code (.seq r15_8 .ret)] ⟨15, 28, 0, [(1, .ptr 0 0 0), (3, .int .i64 i)], [.cells true true 25 [pkV p]], 0, []⟩ = some (.ret (.bool ((p.v.drop i).all shR)), [], 0, []) := by
  refine down_ind p.v.length ?_ fun i hi ih => ?_
  · rw [loopEq]
    have h1 := idx_out p.v.length
    simp -implicitDefEqProofs only [go_sem, simprocAttr, pkV, h1]
    try simp
  · obtain ⟨h1, h2, h3, h4, h5⟩ := idx_in hi hb
    rw [loopEq, h5, List.all_cons]
    unfold shR at ih ⊢
    simp only [pkV] at ih
    cases h6 : decide (9 < (p.v[i].2.length : Int))
    · simp -implicitDefEqProofs only [go_sem, simprocAttr, pkV, h1, h2, h3, h4, h6, ih]
      try simp
    · simp -implicitDefEqProofs only [go_sem, simprocAttr, pkV, h1, h2, h3, h4, h6, ih]
      try simp
theorem c15 (p : Pk) : (lim T).call 15 [pkV p] [] 0 [] = some (.bool (shP p), [], 0, []) := by
  rw [ent15]
  have h := fun hb => loop15 p hb 0 (by omega)
  rw [show ((0 : Nat) : Int) = 0 from rfl, List.drop_zero] at h
  have e1 := c101 p.cb p.c
  unfold shP
  cases h1 : decide (9 < (p.v.length : Int))
  · have h := h (by simp at h1; omega)
    simp only [pkV] at h
    cases h2 : shC p.c
    · rw [h2] at e1
      simp -implicitDefEqProofs only [go_sem, simprocAttr, pkV, h1, e1]
      try simp
    · rw [h2] at e1
      simp -implicitDefEqProofs only [go_sem, simprocAttr, pkV, h1, e1, h]
      try simp
  · simp -implicitDefEqProofs only [go_sem, simprocAttr, pkV, h1]
    try simp
def ownC (c : Cz) : Cz := ⟨c.n, c.c, true, c.l⟩
theorem loop172 (b : Bool) (l : List Cz) (hb : l.length < 1000) (hl : ∀ c ∈ l, c.l.length < 1000000) : ∀ i, i ≤ l.length → ∀ o : Option (List Cz), acL o = i →
    (lim T).loop false [.code (.loop b172_0), .inBlock 0, .code (.seq r172_8 .ret)] ⟨172, 26, 0, [(0, .sl b 3 (l.map czV)), (3, acV o 0), (4, .int .i64 i)], acR czV o 140, 0, []⟩ =
      some (.ret (acO czV 0 3 (acA o ((l.drop i).map ownC))), [], 0, []) := by
  refine down_ind l.length ?_ fun i hi ih o ho => ?_
  · intro o ho
    rw [loopEq]
    have h1 := idx_out l.length
    cases o with
    | none =>
      simp -implicitDefEqProofs only [go_sem, simprocAttr, h1]
      simp [acA, acO]
    | some a =>
      simp -implicitDefEqProofs only [go_sem, simprocAttr, h1]
      simp [acA, acO]
  · obtain ⟨h1, h2, h3, h4, h5⟩ := idx_in hi (by omega)
    rw [loopEq, h5]
    have ih' := ih (acA o [ownC l[i]]) (by rw [acL_A, ho]; rfl)
    rw [acA_acA] at ih'
    have hli := hl _ (List.getElem_mem hi)
    cases hx : l[i].l with
    | nil =>
      cases o with
      | none =>
        have h8 := row_ok (n := 0) (by omega)
        simp only [acA_n, acV_s, acR_s, List.map_cons, List.map_nil, czV, ownC, hx] at ih'
        simp -implicitDefEqProofs only [go_sem, simprocAttr, h1, h2, h3, h4, hx, ih', h8.2, ownC]
      | some a =>
        have h9 : a.length = i := ho
        have h8 := (row_ok (n := a.length) (by omega)).1
        simp only [acA_s, acV_s, acR_s, List.map_append, List.map_cons, List.map_nil, czV, ownC, hx] at ih'
        simp -implicitDefEqProofs only [go_sem, simprocAttr, h1, h2, h3, h4, hx, ih', h8, ownC]
    | cons y r =>
      have h7 := (row_ok (n := r.length) (by rw [hx] at hli; simp at hli; omega)).1
      cases o with
      | none =>
        have h8 := row_ok (n := 0) (by omega)
        simp only [acA_n, acV_s, acR_s, List.map_cons, List.map_nil, czV, ownC, hx, ivV] at ih'
        simp -implicitDefEqProofs only [go_sem, simprocAttr, h1, h2, h3, h4, hx, ih', h8.2, h7, ownC]
      | some a =>
        have h9 : a.length = i := ho
        have h8 := (row_ok (n := a.length) (by omega)).1
        simp only [acA_s, acV_s, acR_s, List.map_append, List.map_cons, List.map_nil, czV, ownC, hx, ivV] at ih'
        simp -implicitDefEqProofs only [go_sem, simprocAttr, h1, h2, h3, h4, hx, ih', h8, h7, ownC]
theorem c172 (b : Bool) (l : List Cz) (hb : l.length < 1000) (hl : ∀ c ∈ l, c.l.length < 1000000) : (lim T).call 172 [.sl b 3 (l.map czV)] [] 0 [] = some (slV 3 ((l.map ownC).map czV), [], 0, []) := by
  rw [ent172]
  have h := loop172 b l hb hl 0 (by omega) none rfl
  rw [show ((0 : Nat) : Int) = 0 from rfl, List.drop_zero, acO_slV] at h
  simp only [acV_n, acR_n] at h
  simp -implicitDefEqProofs only [go_sem, simprocAttr, h]
def ownR (r : Bool × List Int) : Bool × List Int := (true, r.2)
def L88 (p : Pk) (o : Option (List (Bool × List Int))) (i : Nat) : Option Out :=
  (lim T).loop false [.code (.loop b88_0), .inBlock 0, .code (.seq r88_6 (.seq r88_7 .ret))]
    ⟨88, 32, 0, [(1, .ptr 0 0 0), (2, .ptr 1 0 0), (3, .ptr 2 0 0), (4, .int .i64 i)], .cells true true 25 [pkV p] :: .cells true true 25 [.agg [.sl false 0 [], .int .i64 0, .sl false 0 []]] :: .cells true o.isNone 25 [.agg [acV o 3, .int .i64 p.n, .sl false 0 []]] :: acR rwV o 28, 0, []⟩
def ownK (p : Pk) : V := .agg [slV 1 ((p.v.map ownR).map rwV), .int .i64 p.n, .sl (!((p.c.map ownC).map czV).isEmpty) 3 ((p.c.map ownC).map czV)]
theorem loop88 (p : Pk) (hf : p.fit) : ∀ i, i ≤ p.v.length → ∀ o : Option (List (Bool × List Int)), acL o = i →
    L88 p o i = some (.ret (.agg [acO rwV 0 1 (acA o ((p.v.drop i).map ownR)), .int .i64 p.n, .sl (!((p.c.map ownC).map czV).isEmpty) 3 ((p.c.map ownC).map czV)]), [], 0, []) := by
  obtain ⟨f1, f2, f3, f4⟩ := hf
  have e1 := c172 p.cb p.c f3 (fun c hc => (f4 c hc).2)
  refine down_ind p.v.length ?_ fun i hi ih o ho => ?_
  · intro o ho
    unfold L88
    rw [loopEq]
    have h1 := idx_out p.v.length
    cases o with
    | none =>
      simp only [acV_n, acR_n, Option.isNone_none]
      simp -implicitDefEqProofs only [go_sem, simprocAttr, pkV, h1, e1]
      simp [acA, acO]
    | some a =>
      simp only [acV_s, acR_s, Option.isNone_some]
      simp -implicitDefEqProofs only [go_sem, simprocAttr, pkV, h1, e1]
      simp [acA, acO]
  · obtain ⟨h1, h2, h3, h4, h5⟩ := idx_in hi (by omega)
    rw [h5]
    have ih' := ih (acA o [ownR p.v[i]]) (by rw [acL_A, ho]; rfl)
    rw [acA_acA] at ih'
    have hli := f2 _ (List.getElem_mem hi)
    unfold L88 at ih' ⊢
    rw [loopEq]
    cases hx : p.v[i].2 with
    | nil =>
      cases o with
      | none =>
        have h8 := row_ok (n := 0) (by omega)
        simp only [acA_n, acV_s, acR_s, acV_n, acR_n, Option.isNone_some, Option.isNone_none, List.map_cons, List.map_nil, rwV, ownR, hx, pkV] at ih' ⊢
        simp -implicitDefEqProofs only [go_sem, simprocAttr, pkV, h1, h2, h3, h4, hx, ih', h8.2]
      | some a =>
        have h9 : a.length = i := ho
        have h8 := (row_ok (n := a.length) (by omega)).1
        simp only [acA_s, acV_s, acR_s, Option.isNone_some, List.map_append, List.map_cons, List.map_nil, rwV, ownR, hx, pkV] at ih' ⊢
        simp -implicitDefEqProofs only [go_sem, simprocAttr, pkV, h1, h2, h3, h4, hx, ih', h8]
    | cons y r =>
      have h7 := (row_ok (n := r.length) (by rw [hx] at hli; simp at hli; omega)).1
      cases o with
      | none =>
        have h8 := row_ok (n := 0) (by omega)
        simp only [acA_n, acV_s, acR_s, acV_n, acR_n, Option.isNone_some, Option.isNone_none, List.map_cons, List.map_nil, rwV, ownR, hx, pkV, intV] at ih' ⊢
        simp -implicitDefEqProofs only [go_sem, simprocAttr, pkV, h1, h2, h3, h4, hx, ih', h8.2, h7]
      | some a =>
        have h9 : a.length = i := ho
        have h8 := (row_ok (n := a.length) (by omega)).1
        simp only [acA_s, acV_s, acR_s, Option.isNone_some, List.map_append, List.map_cons, List.map_nil, rwV, ownR, hx, pkV, intV] at ih' ⊢
        simp -implicitDefEqProofs only [go_sem, simprocAttr, pkV, h1, h2, h3, h4, hx, ih', h8, h7]
theorem c88 (p : Pk) (hf : p.fit) : (lim T).call 88 [pkV p] [] 0 [] = some (ownK p, [], 0, []) := by
  rw [ent88]
  have h := loop88 p hf 0 (by omega) none rfl
  rw [List.drop_zero, acO_slV] at h
  unfold L88 at h
  rw [show ((0 : Nat) : Int) = 0 from rfl] at h
  simp only [acV_n, acR_n, Option.isNone_none, pkV] at h
  unfold ownK
  simp -implicitDefEqProofs only [go_sem, simprocAttr, pkV, h]
def L18 (vb : Bool) (vs : List V) (n : Int) (b : Bool) (l : List Cz) (o : Option (List Cz)) (i : Nat) : Option Out :=
  (lim T).loop false [.code (.loop b18_0), .inBlock 0, .code (.seq r18_8 .ret)]
    ⟨18, 28, 0, [(2, .ptr 0 0 0), (3, .ptr 1 0 0), (14, .sl b 3 (l.map czV)), (15, .int .i64 l.length), (16, .int .i64 i)], .cells true true 34 [.agg [.sl false 0 [], .int .i64 0, .sl false 0 []]] :: .cells true o.isNone 34 [.agg [.sl vb 1 vs, .int .i64 n, acV o 2]] :: acR czV o 180, 0, []⟩
theorem loop18 (vb : Bool) (vs : List V) (n : Int) (b : Bool) (l : List Cz) (hb : l.length < 1000) : ∀ i, i ≤ l.length → ∀ o : Option (List Cz), acL o = i →
    L18 vb vs n b l o i = some (.ret (.agg [.sl vb 1 vs, .int .i64 n, acO czV 0 3 (acA o (l.drop i))]), [], 0, []) := by
  refine down_ind l.length ?_ fun i hi ih o ho => ?_
  · intro o ho
    unfold L18
    rw [loopEq]
    have h1 := idx_out l.length
    cases o with
    | none =>
      simp only [acV_n, acR_n, Option.isNone_none]
      simp -implicitDefEqProofs only [go_sem, simprocAttr, h1]
      simp [acA, acO]
    | some a =>
      simp only [acV_s, acR_s, Option.isNone_some]
      simp -implicitDefEqProofs only [go_sem, simprocAttr, h1]
      simp [acA, acO]
  · obtain ⟨h1, h2, h3, h4, h5⟩ := idx_in hi (by omega)
    rw [h5]
    have ih' := ih (acA o [l[i]]) (by rw [acL_A, ho]; rfl)
    rw [acA_acA] at ih'
    unfold L18 at ih' ⊢
    rw [loopEq]
    cases o with
    | none =>
      have h8 := row_ok (n := 0) (by omega)
      simp only [acA_n, acV_s, acR_s, acV_n, acR_n, Option.isNone_some, Option.isNone_none, List.map_cons, List.map_nil, czV] at ih' ⊢
      simp -implicitDefEqProofs only [go_sem, simprocAttr, h1, h2, h3, h4, ih', h8.2]
    | some a =>
      have h9 : a.length = i := ho
      have h8 := (row_ok (n := a.length) (by omega)).1
      simp only [acA_s, acV_s, acR_s, Option.isNone_some, List.map_append, List.map_cons, List.map_nil, czV] at ih' ⊢
      simp -implicitDefEqProofs only [go_sem, simprocAttr, h1, h2, h3, h4, ih', h8]
def ownP (p : Pk) : Pk := ⟨!((p.v.map ownR).map rwV).isEmpty, p.v.map ownR, p.n, !((p.c.map ownC).map czV).isEmpty, p.c.map ownC⟩
theorem c18 (p : Pk) (hf : p.fit) : (lim T).call 18 [pkV p] [] 0 [] = some (.agg [.sl (!((p.v.map ownR).map rwV).isEmpty) 1 ((p.v.map ownR).map rwV), .int .i64 p.n, slV 3 ((p.c.map ownC).map czV)], [], 0, []) := by
  rw [ent18]
  have e1 := c88 p hf
  unfold ownK at e1
  have h := loop18 (!((p.v.map ownR).map rwV).isEmpty) ((p.v.map ownR).map rwV) p.n (!((p.c.map ownC).map czV).isEmpty) (p.c.map ownC) (by simp; exact hf.2.2.1) 0 (by omega) none rfl
  rw [List.drop_zero, acO_slV] at h
  unfold L18 at h
  rw [show ((0 : Nat) : Int) = 0 from rfl] at h
  simp only [acV_n, acR_n, Option.isNone_none, List.length_map] at h
  simp only [pkV] at e1
  simp -implicitDefEqProofs only [go_sem, simprocAttr, pkV, e1, h]
theorem fit_own {p : Pk} (hf : p.fit) : (ownP p).fit := by
  obtain ⟨f1, f2, f3, f4⟩ := hf
  refine ⟨by simpa [ownP] using f1, fun r hr => ?_, by simpa [ownP] using f3, fun c hc => ?_⟩
  · simp only [ownP] at hr
    obtain ⟨q, hq, rfl⟩ := List.mem_map.1 hr
    exact f2 q hq
  · simp only [ownP] at hc
    obtain ⟨q, hq, rfl⟩ := List.mem_map.1 hc
    exact f4 q hq
theorem ck_own (p : Pk) : ckPk (ownP p) = ckPk p := by
  have h1 : ∀ r : Bool × List Int, ∀ s, chE s (ownR r) = chE s r := fun r s => rfl
  have h2 : ∀ c : Cz, ∀ k s, caE k s (ownC c) = caE k s c := fun c k s => rfl
  have h3 : ∀ (l r : List Cz) (i : Nat), csEs (l.map ownC) i (r.map ownC) = csEs l i r := by
    intro l r
    induction r with
    | nil => intro i; rfl
    | cons c r ih =>
      intro i
      simp only [List.map_cons, csEs, ih]
      have : csE (l.map ownC) i (ownC c) = csE l i c := by
        unfold csE
        have : dupN (l.map ownC) i (ownC c) = dupN l i c := by
          unfold dupN
          rw [← List.map_take, List.any_map]; rfl
        rw [this]; rfl
      rw [this]
  have h4 : ckCs (p.c.map ownC) = ckCs p.c := by
    unfold ckCs
    rw [List.length_map, h3]
  have h5 : ((p.v.map ownR)[0]?.getD (false, [])).2.length = (p.v[0]?.getD (false, [])).2.length := by
    rw [List.getElem?_map]
    cases p.v[0]? <;> rfl
  unfold ckPk
  simp only [ownP, List.length_map, List.map_map, h4]
  rw [h5]
  rfl
theorem c234 (x : Int) : (lim T).call 234 [.int .i64 x] [] 0 [] = some (.bool false, [], 0, []) := by
  rw [ent234]
  have h : (x != x) = false := by simp
  simp -implicitDefEqProofs only [go_sem, simprocAttr, h]
theorem c275 (x y : Int) : (lim T).call 275 [.int .i64 x, .int .i64 y] [] 0 [] = some (.bool (decide (x < y)), [], 0, []) := by
  rw [ent275]
  simp -implicitDefEqProofs only [go_sem, simprocAttr, c234]
def insRev (x : Int) : List Int → List Int
  | [] => [x]
  | p :: r => if x < p then p :: insRev x r else x :: p :: r
def srtR (acc : List Int) : List Int → List Int
  | [] => acc
  | x :: r => srtR (insRev x acc) r
def srt (l : List Int) : List Int := (srtR [] l).reverse
theorem insRev_len (x : Int) (l : List Int) : (insRev x l).length = l.length + 1 := by
  induction l with
  | nil => rfl
  | cons p r ih => simp only [insRev]; split <;> simp [ih]
theorem insRev_perm (x : Int) (l : List Int) : (insRev x l).Perm (x :: l) := by
  induction l with
  | nil => exact .refl _
  | cons p r ih =>
    simp only [insRev]
    split
    · exact (ih.cons p).trans (.swap x p r)
    · exact .refl _
theorem insRev_sorted (x : Int) (l : List Int) (h : l.Pairwise (· ≥ ·)) : (insRev x l).Pairwise (· ≥ ·) := by
  induction l with
  | nil => simp [insRev]
  | cons p r ih =>
    rw [List.pairwise_cons] at h
    simp only [insRev]
    split
    · rename_i hx
      rw [List.pairwise_cons]
      refine ⟨fun y hy => ?_, ih h.2⟩
      rcases List.mem_cons.1 ((insRev_perm x r).mem_iff.1 hy) with rfl | hy
      · omega
      · exact h.1 y hy
    · rename_i hx
      rw [List.pairwise_cons, List.pairwise_cons]
      refine ⟨fun y hy => ?_, h⟩
      rcases List.mem_cons.1 hy with rfl | hy
      · omega
      · have := h.1 y hy; omega
theorem srtR_spec : ∀ (l acc : List Int), acc.Pairwise (· ≥ ·) → (srtR acc l).Pairwise (· ≥ ·) ∧ (srtR acc l).Perm (l ++ acc)
  | [], acc, h => ⟨h, .refl _⟩
  | x :: r, acc, h => by
    obtain ⟨h1, h2⟩ := srtR_spec r (insRev x acc) (insRev_sorted x acc h)
    refine ⟨h1, h2.trans ?_⟩
    have := (insRev_perm x acc).append_left r
    exact this.trans List.perm_middle
theorem srt_sorted (l : List Int) : (srt l).Pairwise (· ≤ ·) := by
  unfold srt
  rw [List.pairwise_reverse]
  exact (srtR_spec l [] List.Pairwise.nil).1
theorem srt_perm (l : List Int) : (srt l).Perm l := by
  unfold srt
  have := (srtR_spec l [] List.Pairwise.nil).2
  rw [List.append_nil] at this
  exact (List.reverse_perm _).trans this
theorem get_x (R Q : List Int) (x : Int) : (R.reverse ++ x :: Q)[R.length]? = some x := by
  rw [List.getElem?_append_right (by simp)]; simp
theorem get_p (R Q : List Int) (p x : Int) : ((p :: R).reverse ++ x :: Q)[R.length]? = some p := by
  rw [List.reverse_cons, List.append_assoc, List.getElem?_append_right (by simp)]; simp
theorem swp_l (R Q : List Int) (p x : Int) : (((p :: R).reverse ++ x :: Q).set (R.length + 1) p).set R.length x = R.reverse ++ x :: p :: Q := by
  rw [List.reverse_cons, List.append_assoc, List.set_append_right _ _ (by simp), List.set_append_right _ _ (by simp)]
  simp
def L269i (l : List Int) (n i j : Nat) : Option Out :=
  (lim T).loop false [.code (.loop b269_1), .inBlock 2, .inBlock 1, .code r269_2, .inLoop b269_0, .inBlock 0]
    ⟨269, 49, 1, [(0, .ref 0), (1, .int .i64 0), (2, .int .i64 n), (6, .int .i64 i), (7, .int .i64 j)], [.cells false true 3 (l.map intV)], 0, []⟩
def L269 (l : List Int) (n i : Nat) : Option Out :=
  (lim T).loop false [.code (.loop b269_0), .inBlock 0]
    ⟨269, 49, 1, [(0, .ref 0), (1, .int .i64 0), (2, .int .i64 n), (6, .int .i64 i)], [.cells false true 3 (l.map intV)], 0, []⟩
theorem loop269i (n i : Nat) (hn : n < 1000000) (hi : i < 1000000) (x : Int) : ∀ (R Q : List Int), (R.reverse ++ x :: Q).length < 1000000 → L269i (R.reverse ++ x :: Q) n i R.length = L269 ((insRev x R).reverse ++ Q) n (i + 1) := by
  intro R
  induction R with
  | nil =>
    intro Q hl
    unfold L269i
    rw [loopEq]
    have h4 : IntKind.i64.wrap ((i : Int) + 1) = ((i + 1 : Nat) : Int) := by rw [wrap64] <;> omega
    simp only [List.length_nil, insRev, List.reverse_nil, List.nil_append, List.reverse_cons, List.cons_append]
    unfold L269
    simp -implicitDefEqProofs only [go_sem, simprocAttr, h4]
  | cons p R ih =>
    intro Q hl
    have g1 := get_x (p :: R) Q x
    have g2 := get_p R Q p x
    have g3 := swp_l R Q p x
    have hll : ((p :: R).reverse ++ x :: Q).length = R.length + 2 + Q.length := by simp; omega
    rw [hll] at hl
    have w1 : IntKind.i64.wrap (((R.length + 1 : Nat) : Int) - 1) = (R.length : Int) := by rw [wrap64] <;> omega
    have w2 : IntKind.i64.wrap ((i : Int) + 1) = ((i + 1 : Nat) : Int) := by rw [wrap64] <;> omega
    have d1 : decide (0 < ((R.length + 1 : Nat) : Int)) = true := decide_eq_true (by omega)
    have d2 : decide (0 ≤ ((R.length + 1 : Nat) : Int) ∧ ((R.length + 1 : Nat) : Int) < (((p :: R).reverse ++ x :: Q).length : Int)) = true := by rw [hll]; exact decide_eq_true (by omega)
    have d3 : decide (0 ≤ (R.length : Int) ∧ (R.length : Int) < (((p :: R).reverse ++ x :: Q).length : Int)) = true := by rw [hll]; exact decide_eq_true (by omega)
    have ih' := ih (p :: Q) (by simp at *; omega)
    rw [← g3] at ih'
    rw [List.length_cons] at g1 ⊢
    generalize hL : (p :: R).reverse ++ x :: Q = L at *
    have d4 : R.length < L.length := by rw [hll]; omega
    have d5 : R.length + 1 < L.length := by rw [hll]; omega
    have g4 : ((L.map intV).set (R.length + 1) (.int .i64 p))[R.length]? = some (.int .i64 p) := by
      rw [List.getElem?_set_ne (by omega), List.getElem?_map, g2]; rfl
    unfold L269i
    rw [loopEq]
    cases hx : decide (x < p)
    · have hx' : ¬ x < p := by simpa using hx
      have e : (insRev x (p :: R)).reverse ++ Q = L := by simp only [insRev, if_neg hx']; rw [← hL]; simp
      rw [e]
      unfold L269
      simp -implicitDefEqProofs only [go_sem, simprocAttr, d1, d2, d3, g1, g2, w1, w2, c275, hx]
    · have hx' : x < p := by simpa using hx
      have e : (insRev x (p :: R)).reverse ++ Q = (insRev x R).reverse ++ p :: Q := by simp only [insRev, if_pos hx']; simp
      rw [e, ← ih']
      unfold L269i
      simp -implicitDefEqProofs only [go_sem, simprocAttr, d1, d2, d3, g1, g2, w1, w2, c275, hx, d4, d5, g4, List.map_set]
theorem loop269 (n : Nat) (hn : n < 100000) : ∀ (r R : List Int), R.length + r.length = n → 0 < R.length → L269 (R.reverse ++ r) n R.length = some (.ret (.tup []), [.cells false true 3 ((srtR R r).reverse.map intV)], 0, []) := by
  intro r
  induction r with
  | nil =>
    intro R hl _
    simp only [List.length_nil, Nat.add_zero] at hl
    subst hl
    rw [List.append_nil]
    unfold L269
    rw [loopEq]
    have h1 := idx_out R.length
    simp -implicitDefEqProofs only [go_sem, simprocAttr, h1]
    rfl
  | cons x r ih =>
    intro R hl hR
    rw [List.length_cons] at hl
    have hI := loop269i n R.length (by omega) (by omega) x R r (by simp; omega)
    have h1 : decide ((R.length : Int) < (n : Int)) = true := decide_eq_true (by omega)
    have hh : L269 (R.reverse ++ x :: r) n R.length = L269i (R.reverse ++ x :: r) n R.length R.length := by
      conv => lhs; unfold L269; rw [loopEq]
      unfold L269i
      simp -implicitDefEqProofs only [go_sem, simprocAttr, h1]
    rw [hh, hI]
    have ih' := ih (insRev x R) (by rw [insRev_len]; omega) (by rw [insRev_len]; omega)
    rw [insRev_len] at ih'
    exact ih'
theorem c269 (l : List Int) (hl : l.length < 100000) (h0 : 0 < l.length) : (lim T).call 269 [.ref 0, .int .i64 0, .int .i64 l.length] [.cells false true 3 (l.map intV)] 0 [] = some (.tup [], [.cells false true 3 ((srt l).map intV)], 0, []) := by
  rw [ent269]
  match l, h0 with
  | x :: r, _ =>
    have h := loop269 (x :: r).length hl r [x] (by simp; omega) (by simp)
    unfold L269 at h
    simp only [List.reverse_cons, List.reverse_nil, List.nil_append, List.cons_append, List.length_singleton, List.map_cons, intV, List.length_cons, List.length_nil, Nat.zero_add, Int.cast_ofNat_Int] at h
    have w : IntKind.i64.wrap ((0 : Int) + 1) = 1 := by rw [wrap64] <;> omega
    have e : srt (x :: r) = (srtR [x] r).reverse := rfl
    rw [e]
    simp -implicitDefEqProofs only [go_sem, simprocAttr, wrap64, h, Int.reduceAdd]
theorem c247 (l : List Int) (k : Int) (hl : l.length ≤ 12) (h0 : 0 < l.length) : (lim T).call 247 [.ref 0, .int .i64 0, .int .i64 l.length, .int .i64 k] [.cells false true 3 (l.map intV)] 0 [] = some (.tup [], [.cells false true 3 ((srt l).map intV)], 0, []) := by
  rw [ent247]
  have e := c269 l (by omega) h0
  have w : IntKind.i64.wrap ((l.length : Int) - 0) = (l.length : Int) := by rw [wrap64] <;> omega
  have d : decide ((l.length : Int) ≤ 12) = true := decide_eq_true (by omega)
  simp -implicitDefEqProofs only [go_sem, simprocAttr]
  rw [loopEq]
  simp -implicitDefEqProofs only [go_sem, simprocAttr, w, d]
  rw [go_ref1 (id := 0) (l' := (srt l).map intV) fct269.1 res269 rfl rfl _ rfl rfl e]
  simp -implicitDefEqProofs only [go_sem, simprocAttr]
theorem len0 : (lim T).call 233 [.int .u64 0] [] 0 [] = some (.int .i64 0, [], 0, []) := memo_call (MemoOk.nil T) 100000 (by kernel_rfl)
theorem len1 : (lim T).call 233 [.int .u64 1] [] 0 [] = some (.int .i64 1, [], 0, []) := memo_call (MemoOk.nil T) 100000 (by kernel_rfl)
theorem len2 : (lim T).call 233 [.int .u64 2] [] 0 [] = some (.int .i64 2, [], 0, []) := memo_call (MemoOk.nil T) 100000 (by kernel_rfl)
theorem len3 : (lim T).call 233 [.int .u64 3] [] 0 [] = some (.int .i64 2, [], 0, []) := memo_call (MemoOk.nil T) 100000 (by kernel_rfl)
theorem len4 : (lim T).call 233 [.int .u64 4] [] 0 [] = some (.int .i64 3, [], 0, []) := memo_call (MemoOk.nil T) 100000 (by kernel_rfl)
theorem len5 : (lim T).call 233 [.int .u64 5] [] 0 [] = some (.int .i64 3, [], 0, []) := memo_call (MemoOk.nil T) 100000 (by kernel_rfl)
theorem len6 : (lim T).call 233 [.int .u64 6] [] 0 [] = some (.int .i64 3, [], 0, []) := memo_call (MemoOk.nil T) 100000 (by kernel_rfl)
theorem len7 : (lim T).call 233 [.int .u64 7] [] 0 [] = some (.int .i64 3, [], 0, []) := memo_call (MemoOk.nil T) 100000 (by kernel_rfl)
theorem len8 : (lim T).call 233 [.int .u64 8] [] 0 [] = some (.int .i64 4, [], 0, []) := memo_call (MemoOk.nil T) 100000 (by kernel_rfl)
theorem len9 : (lim T).call 233 [.int .u64 9] [] 0 [] = some (.int .i64 4, [], 0, []) := memo_call (MemoOk.nil T) 100000 (by kernel_rfl)
theorem len10 : (lim T).call 233 [.int .u64 10] [] 0 [] = some (.int .i64 4, [], 0, []) := memo_call (MemoOk.nil T) 100000 (by kernel_rfl)
theorem len11 : (lim T).call 233 [.int .u64 11] [] 0 [] = some (.int .i64 4, [], 0, []) := memo_call (MemoOk.nil T) 100000 (by kernel_rfl)
theorem len12 : (lim T).call 233 [.int .u64 12] [] 0 [] = some (.int .i64 4, [], 0, []) := memo_call (MemoOk.nil T) 100000 (by kernel_rfl)
theorem c233 (n : Nat) (h : n ≤ 12) : ∃ r, (lim T).call 233 [.int .u64 n] [] 0 [] = some (.int .i64 r, [], 0, []) := by
  have : n = 0 ∨ n = 1 ∨ n = 2 ∨ n = 3 ∨ n = 4 ∨ n = 5 ∨ n = 6 ∨ n = 7 ∨ n = 8 ∨ n = 9 ∨ n = 10 ∨ n = 11 ∨ n = 12 := by omega
  rcases this with rfl | rfl | rfl | rfl | rfl | rfl | rfl | rfl | rfl | rfl | rfl | rfl | rfl
  · exact ⟨0, len0⟩
  · exact ⟨1, len1⟩
  · exact ⟨2, len2⟩
  · exact ⟨2, len3⟩
  · exact ⟨3, len4⟩
  · exact ⟨3, len5⟩
  · exact ⟨3, len6⟩
  · exact ⟨3, len7⟩
  · exact ⟨4, len8⟩
  · exact ⟨4, len9⟩
  · exact ⟨4, len10⟩
  · exact ⟨4, len11⟩
  · exact ⟨4, len12⟩
theorem c229 (l : List Int) (hl : l.length ≤ 12) (h0 : 0 < l.length) : (lim T).call 229 [.ref 0] [.cells false true 3 (l.map intV)] 0 [] = some (.tup [], [.cells false true 3 ((srt l).map intV)], 0, []) := by
  rw [ent229]
  obtain ⟨r, e1⟩ := c233 l.length hl
  have e := c247 l r hl h0
  have w : IntKind.u64.wrap (l.length : Int) = (l.length : Int) := by
    simp only [IntKind.wrap, IntKind.bits, IntKind.signed]
    have : (2 : Int) ^ 64 = 18446744073709551616 := by decide
    simp
    omega
  simp -implicitDefEqProofs only [go_sem, simprocAttr, w, e1]
  rw [go_ref1 (id := 0) (l' := (srt l).map intV) fct247.1 res247 rfl rfl _ rfl rfl e]
  simp -implicitDefEqProofs only [go_sem, simprocAttr]
def med (l : List Int) : Int := (srt l).getD ((l.length - 1) / 2) 0
theorem c183 (b : Bool) (l : List Int) (hl : l.length ≤ 12) (h0 : 0 < l.length) : (lim T).call 183 [.sl b 1 (l.map intV)] [] 0 [] = some (.int .i64 (med l), [], 0, []) := by
  rw [ent183]
  have e := c229 l hl h0
  have d1 : decide (0 ≤ (l.length : Int) ∧ (l.length : Int) ≤ (l.length : Int) ∧ (l.length : Int) < (maxRow : Int)) = true := decide_eq_true ⟨by omega, by omega, by unfold maxRow; omega⟩
  have d2 : List.take (List.replicate l.length (V.int IntKind.i64 0)).length (List.map intV l) ++ List.drop (min l.length (List.replicate l.length (V.int IntKind.i64 0)).length) (List.replicate l.length (V.int IntKind.i64 0)) = l.map intV := by
    rw [List.length_replicate, Nat.min_self, List.drop_of_length_le (by simp), List.append_nil, List.take_of_length_le (by simp)]
  simp -implicitDefEqProofs only [go_sem, simprocAttr, d1, d2]
  rw [go_ref1 (id := 0) (l' := (srt l).map intV) fct229.1 res229 rfl rfl _ rfl rfl e]
  have hp := (srt_perm l).length_eq
  have w1 : IntKind.i64.wrap ((l.length : Int) - 1) = ((l.length - 1 : Nat) : Int) := by rw [wrap64] <;> omega
  have hm : (l.length - 1) / 2 < (srt l).length := by rw [hp]; omega
  have g : (srt l)[(l.length - 1) / 2]? = some (med l) := by
    unfold med
    rw [List.getD_eq_getElem?_getD, List.getElem?_eq_getElem hm]; rfl
  have w2 : IntKind.i64.wrap (((l.length - 1 : Nat) : Int).tdiv 2) = (((l.length - 1) / 2 : Nat) : Int) := by
    rw [show ((l.length - 1 : Nat) : Int).tdiv 2 = (((l.length - 1) / 2 : Nat) : Int) from rfl, wrap64] <;> omega
  have d3 : decide (0 ≤ (((l.length - 1) / 2 : Nat) : Int) ∧ (((l.length - 1) / 2 : Nat) : Int) < (l.length : Int)) = true := decide_eq_true (by omega)
  simp -implicitDefEqProofs only [go_sem, simprocAttr, hp, w1, w2, d3, g]
end Go.Den.FaT
namespace Go.Den.FaT
def cntLt (l : List Int) (x : Int) : Nat := l.countP fun y => decide (y < x)
def cntEq (l : List Int) (x : Int) : Nat := l.countP fun y => decide (y = x)
def medR (l : List Int) : List Int → Int
  | [] => 0
  | x :: r => if cntLt l x ≤ (l.length - 1) / 2 ∧ (l.length - 1) / 2 < cntLt l x + cntEq l x then x else medR l r
theorem cnt_le (l : List Int) (x : Int) : cntLt l x + cntEq l x ≤ l.length := by
  unfold cntLt cntEq
  induction l with
  | nil => simp
  | cons y l ih =>
    simp only [List.countP_cons, List.length_cons]
    by_cases h : y < x
    · have : ¬ y = x := by omega
      simp [h, this]; omega
    · by_cases h' : y = x <;> simp [h, h'] <;> omega
theorem cnt_all {l : List Int} {x : Int} (h : ∀ y ∈ l, y ≤ x) : cntLt l x + cntEq l x = l.length := by
  unfold cntLt cntEq
  induction l with
  | nil => simp
  | cons y l ih =>
    have ih := ih fun z hz => h z (List.mem_cons_of_mem _ hz)
    have hy := h y (List.mem_cons_self ..)
    simp only [List.countP_cons, List.length_cons]
    by_cases h1 : y < x
    · have : ¬ y = x := by omega
      simp [h1, this]; omega
    · have : y = x := by omega
      simp [this]; omega
theorem cntLt_all {l : List Int} {x : Int} (h : ∀ y ∈ l, y < x) : cntLt l x = l.length := by
  unfold cntLt
  rw [List.countP_eq_length]
  intro y hy
  simpa using h y hy
theorem cntLt_none {l : List Int} {x : Int} (h : ∀ y ∈ l, x ≤ y) : cntLt l x = 0 := by
  unfold cntLt
  rw [List.countP_eq_zero]
  intro y hy
  have := h y hy
  simp; omega
theorem cntEq_none {l : List Int} {x : Int} (h : ∀ y ∈ l, x < y) : cntEq l x = 0 := by
  unfold cntEq
  rw [List.countP_eq_zero]
  intro y hy
  have := h y hy
  simp; omega
theorem med_iff {s : List Int} (hs : s.Pairwise (· ≤ ·)) {m : Nat} (hm : m < s.length) (x : Int) : (cntLt s x ≤ m ∧ m < cntLt s x + cntEq s x) ↔ x = s[m] := by
  have e : s = s.take m ++ s[m] :: s.drop (m + 1) := by rw [← List.drop_eq_getElem_cons hm, List.take_append_drop]
  generalize hy : s[m] = y at e
  generalize hA : s.take m = A at e
  generalize hB : s.drop (m + 1) = B at e
  have hl : A.length = m := by rw [← hA]; simp; omega
  rw [e] at hs
  rw [List.pairwise_append, List.pairwise_cons] at hs
  obtain ⟨_, ⟨h1, _⟩, h2⟩ := hs
  have hle : ∀ z ∈ A, z ≤ y := fun z hz => h2 z hz y (List.mem_cons_self ..)
  have eL : ∀ x, cntLt s x = cntLt A x + cntLt (y :: B) x := fun x => by rw [e]; simp [cntLt, List.countP_append]
  have eE : ∀ x, cntEq s x = cntEq A x + cntEq (y :: B) x := fun x => by rw [e]; simp [cntEq, List.countP_append]
  constructor
  · rintro ⟨c1, c2⟩
    rw [eL] at c1 c2
    rw [eE] at c2
    by_cases hlt : x < y
    · have a1 := cntLt_none (l := y :: B) (x := x) (fun z hz => by
        rcases List.mem_cons.1 hz with rfl | hz
        · omega
        · have := h1 z hz; omega)
      have a2 := cntEq_none (l := y :: B) (x := x) (fun z hz => by
        rcases List.mem_cons.1 hz with rfl | hz
        · omega
        · have := h1 z hz; omega)
      have a3 := cnt_le A x
      omega
    · by_cases hgt : y < x
      · have a1 := cntLt_all (l := A) (x := x) (fun z hz => by have := hle z hz; omega)
        have a2 : 1 ≤ cntLt (y :: B) x := by
          unfold cntLt
          rw [List.countP_cons]
          simp [hgt]
        omega
      · omega
  · rintro rfl
    rw [eL, eE]
    have a1 := cntLt_none (l := x :: B) (x := x) (fun z hz => by
      rcases List.mem_cons.1 hz with rfl | hz
      · omega
      · exact h1 z hz)
    have a2 := cnt_all hle
    have a3 : 1 ≤ cntEq (x :: B) x := by
      unfold cntEq
      rw [List.countP_cons]
      simp
    omega
theorem medR_find {l : List Int} {y : Int} (h : ∀ x, (cntLt l x ≤ (l.length - 1) / 2 ∧ (l.length - 1) / 2 < cntLt l x + cntEq l x) ↔ x = y) : ∀ r : List Int, y ∈ r → medR l r = y := by
  intro r
  induction r with
  | nil => intro h; cases h
  | cons x r ih =>
    intro hm
    simp only [medR]
    by_cases hx : x = y
    · rw [if_pos ((h x).2 hx), hx]
    · rw [if_neg (fun e => hx ((h x).1 e))]
      rcases List.mem_cons.1 hm with e | hm
      · exact absurd e.symm hx
      · exact ih hm
theorem med_sorted {l s : List Int} (hp : s.Perm l) (hs : s.Pairwise (· ≤ ·)) (hm : (l.length - 1) / 2 < s.length) : medR l l = s[(l.length - 1) / 2] := by
  refine medR_find (fun x => ?_) l ?_
  · rw [← med_iff hs hm x]
    simp only [cntLt, cntEq, hp.countP_eq]
  · exact hp.mem_iff.1 (List.getElem_mem hm)
theorem med_eq {l : List Int} (h : l ≠ []) : medR l l = med l := by
  have hp := srt_perm l
  have hl := hp.length_eq
  have h0 : 0 < l.length := List.length_pos_iff.2 h
  have hm : (l.length - 1) / 2 < (srt l).length := by omega
  rw [med_sorted hp (srt_sorted l) hm]
  unfold med
  rw [List.getD_eq_getElem?_getD, List.getElem?_eq_getElem hm]; rfl
def L111i (b : Bool) (l : List Int) (i k : Nat) (a c : Nat) : Option Out :=
  (lim T).loop false [.code (.loop b111_1), .inBlock 2, .code (.seq r111_12 (.seq r111_13 (.cond (.tmp 55) (.seq r111_14 .ret) .skip))), .inBlock 1, .code r111_3, .inLoop b111_0, .inBlock 0, .code (.seq r111_15 .ret)]
    ⟨111, 60, 0, [(0, .sl b 1 (l.map intV)), (3, .int .i64 i), (4, .int .i64 a), (5, .int .i64 c), (6, .int .i64 k)], [], 0, []⟩
theorem cntLt_cons (y : Int) (l : List Int) (x : Int) : cntLt (y :: l) x = (if y < x then 1 else 0) + cntLt l x := by
  unfold cntLt
  rw [List.countP_cons]
  by_cases h : y < x <;> simp [h]; omega
theorem cntEq_cons (y : Int) (l : List Int) (x : Int) : cntEq (y :: l) x = (if y = x then 1 else 0) + cntEq l x := by
  unfold cntEq
  rw [List.countP_cons]
  by_cases h : y = x <;> simp [h]; omega
theorem loop111i (b : Bool) (l : List Int) (hl : l.length < 1000000) (i : Nat) (hi : i < l.length) : ∀ k, k ≤ l.length → ∀ a c, a ≤ k → c ≤ k → L111i b l i k a c = L111i b l i l.length (a + cntLt (l.drop k) l[i]) (c + cntEq (l.drop k) l[i]) := by
  refine down_ind l.length ?_ fun k hk ih a c ha hc => ?_
  · intro a c ha hc
    have h0 : l.drop l.length = [] := by simp
    rw [h0]; rfl
  · obtain ⟨h1, h2, h3, h4, h5⟩ := idx_in hk (by omega)
    obtain ⟨g1, g2, g3, g4, g5⟩ := idx_in hi (by omega)
    rw [h5, cntLt_cons, cntEq_cons, ← Nat.add_assoc, ← Nat.add_assoc]
    have w1 : IntKind.i64.wrap ((a : Int) + 1) = ((a + 1 : Nat) : Int) := by rw [wrap64] <;> omega
    have w2 : IntKind.i64.wrap ((c : Int) + 1) = ((c + 1 : Nat) : Int) := by rw [wrap64] <;> omega
    conv => lhs; unfold L111i; rw [loopEq]
    cases h6 : decide (l[k] < l[i])
    · have h7 : ¬ l[k] < l[i] := by simpa using h6
      rw [if_neg h7]
      cases h8 : (l[k] == l[i])
      · have h9 : ¬ l[k] = l[i] := by simpa using h8
        rw [if_neg h9, ← ih _ _ (by omega) (by omega)]
        unfold L111i
        simp -implicitDefEqProofs only [go_sem, simprocAttr, h1, h2, h3, h4, g2, g3, h6, h8, Nat.add_zero]
      · have h9 : l[k] = l[i] := by simpa using h8
        rw [if_pos h9, ← ih _ _ (by omega) (by omega)]
        unfold L111i
        simp -implicitDefEqProofs only [go_sem, simprocAttr, h1, h2, h3, h4, g2, g3, h6, h8, w2, Nat.add_zero]
    · have h7 : l[k] < l[i] := by simpa using h6
      have h9 : ¬ l[k] = l[i] := by omega
      have h8 : (l[k] == l[i]) = false := by simpa using h9
      rw [if_pos h7, if_neg h9, ← ih _ _ (by omega) (by omega)]
      unfold L111i
      simp -implicitDefEqProofs only [go_sem, simprocAttr, h1, h2, h3, h4, g2, g3, h6, h8, w1, Nat.add_zero]
theorem loop111 (b : Bool) (l : List Int) (hl : l.length < 1000000) : ∀ i, i ≤ l.length → (lim T).loop false [.code (.loop b111_0), .inBlock 0, .code (.seq r111_15 .ret)] ⟨111, 60, 0, [(0, .sl b 1 (l.map intV)), (3, .int .i64 i)], [], 0, []⟩ = some (.ret (.int .i64 (medR l (l.drop i))), [], 0, []) := by
  refine down_ind l.length ?_ fun i hi ih => ?_
  · rw [loopEq]
    have h1 := idx_out l.length
    simp -implicitDefEqProofs only [go_sem, simprocAttr, h1]
    simp [medR]
  · obtain ⟨h1, h2, h3, h4, h5⟩ := idx_in hi (by omega)
    rw [loopEq, h5]
    have hI := loop111i b l hl i hi 0 (by omega) 0 0 (by omega) (by omega)
    rw [List.drop_zero, Nat.zero_add, Nat.zero_add] at hI
    have hE := idx_out l.length
    have cl := cnt_le l l[i]
    have w1 : IntKind.i64.wrap ((l.length : Int) - 1) = ((l.length - 1 : Nat) : Int) := by rw [wrap64] <;> omega
    have w2 : IntKind.i64.wrap (((l.length - 1 : Nat) : Int).tdiv 2) = (((l.length - 1) / 2 : Nat) : Int) := by
      rw [show ((l.length - 1 : Nat) : Int).tdiv 2 = (((l.length - 1) / 2 : Nat) : Int) from rfl, wrap64] <;> omega
    have w3 : IntKind.i64.wrap ((cntLt l l[i] : Int) + (cntEq l l[i] : Int)) = ((cntLt l l[i] + cntEq l l[i] : Nat) : Int) := by rw [wrap64] <;> omega
    have fin : L111i b l i l.length (cntLt l l[i]) (cntEq l l[i]) = some (.ret (.int .i64 (medR l (l[i] :: l.drop (i + 1)))), [], 0, []) := by
      unfold L111i
      rw [loopEq]
      simp only [medR]
      generalize cntLt l l[i] = A at *
      generalize cntEq l l[i] = B at *
      cases h6 : decide ((A : Int) ≤ (((l.length - 1) / 2 : Nat) : Int))
      · have h7 : ¬ A ≤ (l.length - 1) / 2 := by
          have : ¬ ((A : Int) ≤ (((l.length - 1) / 2 : Nat) : Int)) := by simpa using h6
          omega
        rw [if_neg (fun e => h7 e.1)]
        simp -implicitDefEqProofs only [go_sem, simprocAttr, hE, w1, w2, h6, h4, ih]
      · have h7 : A ≤ (l.length - 1) / 2 := by
          have : ((A : Int) ≤ (((l.length - 1) / 2 : Nat) : Int)) := of_decide_eq_true h6
          omega
        cases h8 : decide ((((l.length - 1) / 2 : Nat) : Int) < ((A + B : Nat) : Int))
        · have h9 : ¬ (l.length - 1) / 2 < A + B := by
            have : ¬ ((((l.length - 1) / 2 : Nat) : Int) < ((A + B : Nat) : Int)) := by simpa using h8
            omega
          rw [if_neg (fun e => h9 e.2)]
          simp -implicitDefEqProofs only [go_sem, simprocAttr, hE, w1, w2, w3, h6, h8, h4, ih]
        · have h9 : (l.length - 1) / 2 < A + B := by
            have : ((((l.length - 1) / 2 : Nat) : Int) < ((A + B : Nat) : Int)) := of_decide_eq_true h8
            omega
          rw [if_pos ⟨h7, h9⟩]
          simp -implicitDefEqProofs only [go_sem, simprocAttr, hE, w1, w2, w3, h6, h8, h2, h3]
    rw [fin] at hI
    conv at hI => lhs; unfold L111i
    rw [show ((0 : Nat) : Int) = 0 from rfl] at hI
    simp -implicitDefEqProofs only [go_sem, simprocAttr, h1, hI]
theorem c111 (b : Bool) (l : List Int) (hl : l.length < 1000000) (h0 : l ≠ []) : (lim T).call 111 [.sl b 1 (l.map intV)] [] 0 [] = some (.int .i64 (med l), [], 0, []) := by
  rw [ent111]
  have h := loop111 b l hl 0 (by omega)
  rw [show ((0 : Nat) : Int) = 0 from rfl, List.drop_zero, med_eq h0] at h
  simp -implicitDefEqProofs only [go_sem, simprocAttr, h]
def slots (p : Pk) : Nat := (p.v[0]?.getD (false, [])).2.length
def col (p : Pk) (k : Nat) : List Int := p.v.map fun r => r.2.getD k 0
def meds (p : Pk) : List Int := (List.range (slots p)).map fun k => med (col p k)
structure Ok (p : Pk) : Prop where
  v1 : 0 < p.v.length
  v8 : p.v.length ≤ 8
  s1 : 0 < slots p
  s8 : slots p ≤ 8
  row : ∀ r ∈ p.v, r.2.length = slots p
  en : ∀ r ∈ p.v, ∀ n ∈ r.2, 0 ≤ n ∧ n ≤ 1000000
  no : 0 ≤ p.n ∧ p.n ≤ 1000000
  cs : ckCs p.c = 0
  c8 : p.c.length ≤ 8
  ca : ∀ c ∈ p.c, 0 ≤ c.c ∧ c.c < p.v.length ∧ c.l.length = slots p
  lo : ∀ c ∈ p.c, ∀ x ∈ c.l, 0 ≤ x.1 ∧ x.1 ≤ x.2 ∧ x.2 ≤ 1000000
theorem ckE_ok {n : Int} (h : ckE n = 0) : 0 ≤ n ∧ n ≤ 1000000 := by
  unfold ckE at h
  rw [rng_eq] at h
  by_cases h3 : n < 0 ∨ 1000000 < n
  · simp [h3] at h
  · omega
theorem cond_z {b : Bool} {e : Int} (h : cond b e 0 = 0) (he : e ≠ 0) : b = false := by cases b <;> simp_all
theorem csEs_get (l : List Cz) : ∀ (r : List Cz) (i k : Nat) (h : k < r.length), csE l (i + k) r[k] ∈ csEs l i r
  | [], _, _, h => by cases h
  | m :: r, i, 0, _ => List.mem_cons_self ..
  | m :: r, i, k + 1, h => by
    have := csEs_get l r (i + 1) k (by simpa using h)
    rw [show i + 1 + k = i + (k + 1) by omega] at this
    exact List.mem_cons_of_mem _ this
theorem ok_of {p : Pk} (h : ckPk p = 0) : Ok p := by
  unfold ckPk at h
  split at h
  · rename_i h0
    obtain ⟨k1, k2⟩ := szd_ne h0
    have hr0 : p.v[0]? = some p.v[0] := List.getElem?_eq_getElem k1
    have hs : slots p = p.v[0].2.length := by unfold slots; rw [hr0]; rfl
    rw [hr0] at h
    dsimp only [Option.getD_some] at h
    rw [← hs] at h
    have q1 := fnz_zero.1 (fnz_zero.1 h (fnz (p.v.map fun r => chE (slots p) r)) (by simp))
    have q2 := ckE_ok (fnz_zero.1 h (ckE p.n) (by simp))
    have q3 := fnz_zero.1 h (ckCs p.c) (by simp)
    have q4 := fnz_zero.1 (fnz_zero.1 h (fnz (p.c.map fun c => caE p.v.length (slots p) c)) (by simp))
    have row : ∀ r ∈ p.v, r.2.length = slots p ∧ (0 < r.2.length ∧ r.2.length ≤ 8) ∧ ∀ n ∈ r.2, 0 ≤ n ∧ n ≤ 1000000 := fun r hr => by
      have a := fnz_zero.1 (q1 _ (List.mem_map.2 ⟨r, hr, rfl⟩))
      have a1 := szd_ne (a (szd r.2.length 8) (by simp))
      have a2 := cond_z (a (cond ((r.2.length : Int) != slots p) 2 0) (by simp)) (by decide)
      have a3 := fnz_zero.1 (a (fnz (r.2.map fun n => ckE n)) (by simp))
      refine ⟨by simp at a2; omega, a1, fun n hn => ckE_ok (a3 _ (List.mem_map.2 ⟨n, hn, rfl⟩))⟩
    have r0 := row p.v[0] (List.getElem_mem k1)
    have hc8 : p.c.length ≤ 8 ∧ fnz (csEs p.c 0 p.c) = 0 := by
      unfold ckCs at q3
      by_cases hl : 8 < p.c.length
      · rw [if_pos hl] at q3; cases q3
      · rw [if_neg hl] at q3; exact ⟨by omega, q3⟩
    have cc : ∀ c ∈ p.c, ckC c = 0 := fun c hc => by
      obtain ⟨k, hk, rfl⟩ := List.mem_iff_getElem.1 hc
      have a := csEs_get p.c p.c 0 k hk
      have a := fnz_zero.1 hc8.2 _ a
      exact fnz_zero.1 a (ckC p.c[k]) (by simp)
    refine ⟨k1, k2, by omega, by omega, fun r hr => (row r hr).1, fun r hr => (row r hr).2.2, q2, q3, hc8.1, fun c hc => ?_, fun c hc x hx => ?_⟩
    · have a := fnz_zero.1 (q4 _ (List.mem_map.2 ⟨c, hc, rfl⟩))
      have a1 := cond_z (a (cond (decide ((p.v.length : Int) ≤ c.c)) 10 0) (by simp)) (by decide)
      have a2 := cond_z (a (cond ((c.l.length : Int) != slots p) 2 0) (by simp)) (by decide)
      have b := fnz_zero.1 (cc c hc) (rng c.c 0 7) (by simp)
      rw [rng_eq] at b
      simp at a1 a2
      by_cases h3 : c.c < 0 ∨ 7 < c.c
      · simp [h3] at b
      · omega
    · have b := fnz_zero.1 (fnz_zero.1 (cc c hc) (fnz (c.l.map fun x => ckL x)) (by simp)) _ (List.mem_map.2 ⟨x, hx, rfl⟩)
      have b1 := ckE_ok (fnz_zero.1 b (ckE x.1) (by simp))
      have b2 := ckE_ok (fnz_zero.1 b (ckE x.2) (by simp))
      have b3 := cond_z (fnz_zero.1 b (cond (decide (x.2 < x.1)) 11 0) (by simp)) (by decide)
      simp at b3
      omega
  · rename_i h0; exact absurd h h0
theorem c185 (r : Bool × List Int) (k : Nat) (hk : k < r.2.length) (hr : r.2.length < 1000000) : (lim T).call 185 [.sl r.1 1 (r.2.map intV), .pp 1 [.int .i64 k] 0 0] [] 0 [] = some (.int .i64 (r.2.getD k 0), [], 0, []) := by
  rw [ent185]
  obtain ⟨h1, h2, h3, h4, h5⟩ := idx_in hk (by omega)
  have e : r.2.getD k 0 = r.2[k] := by rw [List.getD_eq_getElem?_getD, h3]; rfl
  rw [e]
  simp -implicitDefEqProofs only [go_sem, simprocAttr, h2, h3]
theorem loop184 (k : Nat) (b : Bool) (l : List (Bool × List Int)) (hb : l.length < 1000000) (hk : ∀ r ∈ l, k < r.2.length ∧ r.2.length < 1000000) : ∀ i, i ≤ l.length → ∀ o : Option (List (Int)), acL o = i →
    (lim T).loop false [.code (.loop b184_0), .inBlock 0, .code (.seq r184_7 .ret)] ⟨184, 22, 0, [(1, .fn 185 [.pp 1 [.int .i64 k] 0 0]), (5, acV o 0), (8, .sl b 1 (l.map rwV)), (9, .int .i64 l.length), (10, .int .i64 i)], acR intV o 3, 0, []⟩ =
      some (.ret (acO intV 0 1 (acA o ((l.drop i).map (fun r => r.2.getD k 0)))), [], 0, []) := by
  refine down_ind l.length ?_ fun i hi ih o ho => ?_
  · intro o ho
    rw [loopEq]
    have h1 := idx_out l.length
    cases o with
    | none =>
      simp -implicitDefEqProofs only [go_sem, simprocAttr, h1]
      simp [acA, acO]
    | some a =>
      simp -implicitDefEqProofs only [go_sem, simprocAttr, h1]
      simp [acA, acO]
  · obtain ⟨h1, h2, h3, h4, h5⟩ := idx_in hi (by omega)
    rw [loopEq, h5]
    have ih' := ih (acA o [((fun r => r.2.getD k 0) l[i])]) (by rw [acL_A, ho]; rfl)
    rw [acA_acA] at ih'
    dsimp only at ih'
    cases o with
    | none =>
      have h8 := row_ok (n := 0) (by omega)
      simp only [acA_n, acV_s, acR_s, List.map_cons, List.map_nil, intV] at ih'
      simp -implicitDefEqProofs only [go_sem, simprocAttr, h1, h2, h3, h4, ih', h8.2, c185 l[i] k (hk _ (List.getElem_mem hi)).1 (hk _ (List.getElem_mem hi)).2]
    | some a =>
      have h9 : a.length = i := ho
      have h8 := (row_ok (n := a.length) (by omega)).1
      simp only [acA_s, acV_s, acR_s, List.map_append, List.map_cons, List.map_nil, intV] at ih'
      simp -implicitDefEqProofs only [go_sem, simprocAttr, h1, h2, h3, h4, ih', h8, c185 l[i] k (hk _ (List.getElem_mem hi)).1 (hk _ (List.getElem_mem hi)).2]
theorem c184 (k : Nat) (b : Bool) (l : List (Bool × List Int)) (hb : l.length < 1000000) (hk : ∀ r ∈ l, k < r.2.length ∧ r.2.length < 1000000) : (lim T).call 184 [.sl b 1 (l.map rwV), .fn 185 [.pp 1 [.int .i64 k] 0 0]] [] 0 [] = some (slV 1 (((l).map (fun r => r.2.getD k 0)).map intV), [], 0, []) := by
  rw [ent184]
  have h := loop184 k b l hb hk 0 (by omega) none rfl
  rw [show ((0 : Nat) : Int) = 0 from rfl, List.drop_zero, acO_slV] at h
  simp only [acV_n, acR_n] at h
  simp -implicitDefEqProofs only [go_sem, simprocAttr, h]
theorem c184' (p : Pk) (b : Bool) (k : Nat) (ho : Ok p) (hk : k < slots p) : (lim T).call 184 [.sl b 1 (p.v.map rwV), .fn 185 [.pp 1 [.int .i64 k] 0 0]] [] 0 [] = some (slV 1 ((col p k).map intV), [], 0, []) :=
  c184 k b p.v (by have := ho.v8; omega) (fun r hr => by have := ho.row r hr; have := ho.s8; omega)
theorem meds_len (p : Pk) : (meds p).length = slots p := by simp [meds]
theorem meds_get (p : Pk) (k : Nat) (h : k < (meds p).length) : (meds p)[k] = med (col p k) := by simp [meds]
theorem col_len (p : Pk) (k : Nat) : (col p k).length = p.v.length := by simp [col]
def L106 (p : Pk) (o : Option (List Int)) (k : Nat) : Option Out :=
  (lim T).loop false [.code (.loop b106_0), .inBlock 0, .code (.seq r106_7 .ret)]
    ⟨106, 23, 0, [(1, .ptr 0 0 0), (3, acV o 1), (9, .int .i64 (meds p).length), (10, .int .i64 k)], .cells true true 34 [pkV p] :: acR intV o 3, 0, []⟩
theorem loop106 (p : Pk) (ho : Ok p) : ∀ k, k ≤ (meds p).length → ∀ o, acL o = k → L106 p o k = some (.ret (acO intV 0 1 (acA o ((meds p).drop k))), [], 0, []) := by
  have hs8 := ho.s8
  have hml := meds_len p
  refine down_ind (meds p).length ?_ fun k hk ih o hO => ?_
  · intro o hO
    unfold L106
    rw [loopEq]
    have h1 := idx_out (meds p).length
    have h0 : (meds p).drop (meds p).length = [] := by simp
    rw [h0, acA_0]
    cases o with
    | none => simp -implicitDefEqProofs only [go_sem, simprocAttr, pkV, h1]
    | some a => simp -implicitDefEqProofs only [go_sem, simprocAttr, pkV, h1]
  · obtain ⟨h1, h2, h3, h4, h5⟩ := idx_in hk (by omega)
    rw [h5]
    have e1 := c184' p p.vb k ho (by omega)
    have e2 := c183 (!((col p k).map intV).isEmpty) (col p k) (by rw [col_len]; have := ho.v8; omega) (by rw [col_len]; exact ho.v1)
    rw [← meds_get p k hk] at e2
    have ih' := ih (acA o [(meds p)[k]]) (by rw [acL_A, hO]; rfl)
    rw [acA_acA] at ih'
    unfold L106 at ih' ⊢
    rw [loopEq]
    cases o with
    | none =>
      have h8 := row_ok (n := 0) (by omega)
      simp only [acA_n, acV_s, acR_s, acV_n, acR_n, List.map_cons, List.map_nil, intV, pkV] at ih' ⊢
      simp -implicitDefEqProofs only [go_sem, simprocAttr, h1, h2, h3, h4, e1, e2, ih', h8.2]
    | some a =>
      have h9 : a.length = k := hO
      have h8 := (row_ok (n := a.length) (by omega)).1
      simp only [acA_s, acV_s, acR_s, List.map_append, List.map_cons, List.map_nil, intV, pkV] at ih' ⊢
      simp -implicitDefEqProofs only [go_sem, simprocAttr, h1, h2, h3, h4, e1, e2, ih', h8]
theorem slots_in {p : Pk} (ho : Ok p) : ∃ r0, p.v[0]? = some r0 ∧ r0.2.length = (meds p).length ∧ decide (0 < (p.v.length : Int)) = true := by
  have hv := ho.v1
  have hr0 : p.v[0]? = some p.v[0] := List.getElem?_eq_getElem hv
  exact ⟨p.v[0]'hv, hr0, by rw [meds_len]; unfold slots; rw [hr0]; rfl, first_in hr0⟩
theorem c106 (p : Pk) (ho : Ok p) : (lim T).call 106 [pkV p] [] 0 [] = some (slV 1 ((meds p).map intV), [], 0, []) := by
  rw [ent106]
  have h := loop106 p ho 0 (by omega) none rfl
  rw [List.drop_zero, acO_slV] at h
  unfold L106 at h
  obtain ⟨r0, g1, g2, g3⟩ := slots_in ho
  simp only [acV_n, acR_n, show ((0 : Nat) : Int) = 0 from rfl, pkV] at h
  simp -implicitDefEqProofs only [go_sem, simprocAttr, pkV, g1, g2, g3, h]
def L21i (p : Pk) (o : Option (List Int)) (k : Nat) (c : Option (List Int)) (i : Nat) : Option Out :=
  (lim T).loop false [.code (.loop b21_1), .inBlock 2, .code r21_10, .inBlock 1, .code r21_4, .inLoop b21_0, .inBlock 0, .code (.seq r21_11 .ret)]
    ⟨21, 40, 0, [(1, .ptr 0 0 0), (3, acV o 1), (4, .int .i64 k), (5, acV c (acI o 1)), (6, .int .i64 i)], .cells true true 25 [pkV p] :: (acR intV o 3 ++ acR intV c 3), 0, []⟩
theorem loop21i (p : Pk) (ho : Ok p) (o : Option (List Int)) (k : Nat) (hk : k < slots p) : ∀ i, i ≤ p.v.length → ∀ c, acL c = i → L21i p o k c i = L21i p o k (acA c ((col p k).drop i)) p.v.length := by
  have hv8 := ho.v8
  refine down_ind p.v.length ?_ fun i hi ih c hc => ?_
  · intro c hc
    have h0 : (col p k).drop p.v.length = [] := by rw [← col_len p k]; simp
    rw [h0, acA_0]
  · obtain ⟨h1, h2, h3, h4, h5⟩ := idx_in hi (by omega)
    have hrow := ho.row _ (List.getElem_mem hi)
    obtain ⟨g1, g2, g3, g4, g5⟩ := idx_in (l := p.v[i].2) (i := k) (by omega) (by have := ho.s8; omega)
    have e : (col p k).drop i = p.v[i].2[k] :: (col p k).drop (i + 1) := by
      rw [List.drop_eq_getElem_cons (by rw [col_len]; exact hi)]
      congr 1
      simp only [col, List.getElem_map, List.getD_eq_getElem?_getD, g3]
      rfl
    rw [e]
    have ih' := ih (acA c [p.v[i].2[k]]) (by rw [acL_A, hc]; rfl)
    rw [acA_acA] at ih'
    simp only [List.cons_append, List.nil_append] at ih'
    rw [← ih']
    conv => lhs; unfold L21i; rw [loopEq]
    unfold L21i
    cases c with
    | none =>
      have h8 := (row_ok (n := 0) (by omega)).2
      cases o with
      | none =>
        simp only [acA_n, acV_n, acR_n, acI_n, acV_s, acR_s, acI_s, List.nil_append, List.append_nil, List.cons_append, List.map_cons, List.map_nil, Nat.reduceAdd, intV, pkV]
        simp -implicitDefEqProofs only [go_sem, simprocAttr, h1, h2, h3, h4, g2, g3, h8]
      | some a =>
        simp only [acA_n, acV_n, acR_n, acI_n, acV_s, acR_s, acI_s, List.nil_append, List.append_nil, List.cons_append, List.map_cons, List.map_nil, Nat.reduceAdd, intV, pkV]
        simp -implicitDefEqProofs only [go_sem, simprocAttr, h1, h2, h3, h4, g2, g3, h8]
    | some c =>
      have h9 : c.length = i := hc
      have h8 := (row_ok (n := c.length) (by omega)).1
      cases o with
      | none =>
        simp only [acA_s, acV_n, acR_n, acI_n, acV_s, acR_s, acI_s, List.nil_append, List.append_nil, List.cons_append, List.map_append, List.map_cons, List.map_nil, Nat.reduceAdd, intV, pkV]
        simp -implicitDefEqProofs only [go_sem, simprocAttr, h1, h2, h3, h4, g2, g3, h8]
      | some a =>
        simp only [acA_s, acV_n, acR_n, acI_n, acV_s, acR_s, acI_s, List.nil_append, List.append_nil, List.cons_append, List.map_append, List.map_cons, List.map_nil, Nat.reduceAdd, intV, pkV]
        simp -implicitDefEqProofs only [go_sem, simprocAttr, h1, h2, h3, h4, g2, g3, h8]
def L21 (p : Pk) (o : Option (List Int)) (k : Nat) : Option Out :=
  (lim T).loop false [.code (.loop b21_0), .inBlock 0, .code (.seq r21_11 .ret)]
    ⟨21, 40, 0, [(1, .ptr 0 0 0), (3, acV o 1), (4, .int .i64 k)], .cells true true 25 [pkV p] :: acR intV o 3, 0, []⟩
theorem loop21 (p : Pk) (ho : Ok p) : ∀ k, k ≤ (meds p).length → ∀ o, acL o = k → L21 p o k = some (.ret (acO intV 0 1 (acA o ((meds p).drop k))), [], 0, []) := by
  have hs8 := ho.s8
  have hml := meds_len p
  obtain ⟨r0, q1, q2, q3⟩ := slots_in ho
  refine down_ind (meds p).length ?_ fun k hk ih o hO => ?_
  · intro o hO
    unfold L21
    rw [loopEq]
    have h1 := idx_out (meds p).length
    have h0 : (meds p).drop (meds p).length = [] := by simp
    rw [h0, acA_0]
    cases o with
    | none => simp -implicitDefEqProofs only [go_sem, simprocAttr, pkV, q1, q2, q3, h1]
    | some a => simp -implicitDefEqProofs only [go_sem, simprocAttr, pkV, q1, q2, q3, h1]
  · obtain ⟨h1, h2, h3, h4, h5⟩ := idx_in hk (by omega)
    rw [h5]
    have hI := loop21i p ho o k (by omega) 0 (by omega) none rfl
    rw [List.drop_zero] at hI
    have hcn : col p k ≠ [] := by
      intro e
      have h := col_len p k
      have hv := ho.v1
      rw [e, List.length_nil] at h
      omega
    have hcA : acA none (col p k) = some (col p k) := by cases hc : col p k with | nil => exact absurd hc hcn | cons x r => rfl
    rw [hcA] at hI
    have e2 := c111 true (col p k) (by rw [col_len]; have := ho.v8; omega) hcn
    rw [← meds_get p k hk] at e2
    have hE := idx_out p.v.length
    have ih' := ih (acA o [(meds p)[k]]) (by rw [acL_A, hO]; rfl)
    rw [acA_acA] at ih'
    have head : L21 p o k = L21i p o k none 0 := by
      conv => lhs; unfold L21; rw [loopEq]
      unfold L21i
      rw [show ((0 : Nat) : Int) = 0 from rfl]
      cases o with
      | none =>
        simp only [acV_n, acR_n, acI_n, List.nil_append, List.append_nil, pkV]
        simp -implicitDefEqProofs only [go_sem, simprocAttr, q1, q2, q3, h1]
      | some a =>
        simp only [acV_n, acR_n, acI_n, acV_s, acR_s, acI_s, List.nil_append, List.append_nil, pkV]
        simp -implicitDefEqProofs only [go_sem, simprocAttr, q1, q2, q3, h1]
    rw [head, hI]
    simp only [List.cons_append, List.nil_append] at ih'
    rw [← ih']
    unfold L21i
    rw [loopEq]
    unfold L21
    cases o with
    | none =>
      have h8 := row_ok (n := 0) (by omega)
      simp only [acA_n, acV_n, acR_n, acI_n, acV_s, acR_s, acI_s, List.nil_append, List.append_nil, List.cons_append, List.map_cons, List.map_nil, Nat.reduceAdd, intV, pkV]
      simp -implicitDefEqProofs only [go_sem, simprocAttr, hE, h4, e2, h8.2]
    | some a =>
      have h9 : a.length = k := hO
      have h8 := (row_ok (n := a.length) (by omega)).1
      simp only [acA_s, acV_n, acR_n, acI_n, acV_s, acR_s, acI_s, List.nil_append, List.append_nil, List.cons_append, List.map_append, List.map_cons, List.map_nil, Nat.reduceAdd, intV, pkV]
      simp -implicitDefEqProofs only [go_sem, simprocAttr, hE, h4, e2, h8]
theorem c21 (p : Pk) (ho : Ok p) : (lim T).call 21 [pkV p] [] 0 [] = some (slV 1 ((meds p).map intV), [], 0, []) := by
  rw [ent21]
  have h := loop21 p ho 0 (by omega) none rfl
  rw [List.drop_zero, acO_slV] at h
  unfold L21 at h
  simp only [acV_n, acR_n, show ((0 : Nat) : Int) = 0 from rfl, pkV] at h
  simp -implicitDefEqProofs only [go_sem, simprocAttr, pkV, h]
def rsd (m l : List Int) : List Int := List.zipWith (fun a b => IntKind.i64.wrap (a - b)) m l
theorem rsd_len (m l : List Int) (h : l.length = m.length) : (rsd m l).length = l.length := by simp [rsd, h]
theorem rsd_drop (m l : List Int) (i : Nat) (h1 : i < l.length) (h2 : i < m.length) : (rsd m l).drop i = IntKind.i64.wrap (m[i] - l[i]) :: (rsd m l).drop (i + 1) := by
  rw [List.drop_eq_getElem_cons (by simp [rsd]; omega)]
  simp [rsd]
theorem loop187 (b mb : Bool) (m l : List Int) (hb : l.length < 1000000) (hm : l.length = m.length) : ∀ i, i ≤ l.length → ∀ o : Option (List Int), acL o = i →
    (lim T).loop false [.code (.loop b187_0), .inBlock 0, .code (.seq r187_7 .ret)] ⟨187, 25, 0, [(1, .pp 1 [.sl mb 1 (m.map intV)] 0 0), (4, acV o 0), (7, .sl b 1 (l.map intV)), (8, .int .i64 l.length), (9, .int .i64 i)], acR intV o 3, 0, []⟩ =
      some (.ret (acO intV 0 1 (acA o ((rsd m l).drop i))), [], 0, []) := by
  refine down_ind l.length ?_ fun i hi ih o ho => ?_
  · intro o ho
    rw [loopEq]
    have h1 := idx_out l.length
    have h0 : (rsd m l).drop l.length = [] := by rw [← rsd_len m l hm]; simp
    rw [h0, acA_0]
    cases o with
    | none =>
      simp -implicitDefEqProofs only [go_sem, simprocAttr, h1]
    | some a =>
      simp -implicitDefEqProofs only [go_sem, simprocAttr, h1]
  · obtain ⟨h1, h2, h3, h4, h5⟩ := idx_in hi (by omega)
    obtain ⟨g1, g2, g3, g4, g5⟩ := idx_in (l := m) (i := i) (by omega) (by omega)
    rw [loopEq, rsd_drop m l i hi (by omega)]
    have ih' := ih (acA o [IntKind.i64.wrap (m[i] - l[i])]) (by rw [acL_A, ho]; rfl)
    rw [acA_acA] at ih'
    cases o with
    | none =>
      have h8 := row_ok (n := 0) (by omega)
      simp only [acA_n, acV_s, acR_s, List.map_cons, List.map_nil, intV] at ih'
      simp -implicitDefEqProofs only [go_sem, simprocAttr, h1, h2, h3, h4, g2, g3, ih', h8.2]
    | some a =>
      have h9 : a.length = i := ho
      have h8 := (row_ok (n := a.length) (by omega)).1
      simp only [acA_s, acV_s, acR_s, List.map_append, List.map_cons, List.map_nil, intV] at ih'
      simp -implicitDefEqProofs only [go_sem, simprocAttr, h1, h2, h3, h4, g2, g3, ih', h8]
theorem c187 (r : Bool × List Int) (mb : Bool) (m : List Int) (hr : r.2.length < 1000000 ∧ r.2.length = m.length) : (lim T).call 187 [.sl r.1 1 (r.2.map intV), .pp 1 [.sl mb 1 (m.map intV)] 0 0] [] 0 [] = some (slV 1 ((rsd m r.2).map intV), [], 0, []) := by
  rw [ent187]
  have h := loop187 r.1 mb m r.2 hr.1 hr.2 0 (by omega) none rfl
  rw [show ((0 : Nat) : Int) = 0 from rfl, List.drop_zero, acO_slV] at h
  simp only [acV_n, acR_n] at h
  simp -implicitDefEqProofs only [go_sem, simprocAttr, h]
def rsR (m : List Int) (r : Bool × List Int) : Bool × List Int := (!((rsd m r.2).map intV).isEmpty, rsd m r.2)
theorem loop186 (mb : Bool) (m : List Int) (b : Bool) (l : List (Bool × List Int)) (hb : l.length < 1000000) (hk : ∀ r ∈ l, r.2.length < 1000000 ∧ r.2.length = m.length) : ∀ i, i ≤ l.length → ∀ o : Option (List (Bool × List Int)), acL o = i →
    (lim T).loop false [.code (.loop b186_0), .inBlock 0, .code (.seq r186_7 .ret)] ⟨186, 22, 0, [(1, .fn 187 [.pp 1 [.sl mb 1 (m.map intV)] 0 0]), (5, acV o 0), (8, .sl b 1 (l.map rwV)), (9, .int .i64 l.length), (10, .int .i64 i)], acR rwV o 28, 0, []⟩ =
      some (.ret (acO rwV 0 1 (acA o ((l.drop i).map (fun r => rsR m r)))), [], 0, []) := by
  refine down_ind l.length ?_ fun i hi ih o ho => ?_
  · intro o ho
    rw [loopEq]
    have h1 := idx_out l.length
    cases o with
    | none =>
      simp -implicitDefEqProofs only [go_sem, simprocAttr, h1]
      simp [acA, acO]
    | some a =>
      simp -implicitDefEqProofs only [go_sem, simprocAttr, h1]
      simp [acA, acO]
  · obtain ⟨h1, h2, h3, h4, h5⟩ := idx_in hi (by omega)
    rw [loopEq, h5]
    have ih' := ih (acA o [((fun r => rsR m r) l[i])]) (by rw [acL_A, ho]; rfl)
    rw [acA_acA] at ih'
    dsimp only at ih'
    cases o with
    | none =>
      have h8 := row_ok (n := 0) (by omega)
      simp only [acA_n, acV_s, acR_s, List.map_cons, List.map_nil, rwV, rsR] at ih'
      simp -implicitDefEqProofs only [go_sem, simprocAttr, h1, h2, h3, h4, ih', h8.2, rsR, c187 l[i] mb m (hk _ (List.getElem_mem hi))]
    | some a =>
      have h9 : a.length = i := ho
      have h8 := (row_ok (n := a.length) (by omega)).1
      simp only [acA_s, acV_s, acR_s, List.map_append, List.map_cons, List.map_nil, rwV, rsR] at ih'
      simp -implicitDefEqProofs only [go_sem, simprocAttr, h1, h2, h3, h4, ih', h8, rsR, c187 l[i] mb m (hk _ (List.getElem_mem hi))]
theorem c186 (mb : Bool) (m : List Int) (b : Bool) (l : List (Bool × List Int)) (hb : l.length < 1000000) (hk : ∀ r ∈ l, r.2.length < 1000000 ∧ r.2.length = m.length) : (lim T).call 186 [.sl b 1 (l.map rwV), .fn 187 [.pp 1 [.sl mb 1 (m.map intV)] 0 0]] [] 0 [] = some (slV 1 (((l).map (fun r => rsR m r)).map rwV), [], 0, []) := by
  rw [ent186]
  have h := loop186 mb m b l hb hk 0 (by omega) none rfl
  rw [show ((0 : Nat) : Int) = 0 from rfl, List.drop_zero, acO_slV] at h
  simp only [acV_n, acR_n] at h
  simp -implicitDefEqProofs only [go_sem, simprocAttr, h]
def ress (p : Pk) : List (Bool × List Int) := p.v.map fun r => rsR (meds p) r
theorem ok_rows {p : Pk} (ho : Ok p) : ∀ r ∈ p.v, r.2.length < 1000000 ∧ r.2.length = (meds p).length := fun r hr => by
  have := ho.row r hr
  have := ho.s8
  rw [meds_len]
  omega
theorem c107 (p : Pk) (ho : Ok p) : (lim T).call 107 [pkV p] [] 0 [] = some (.sl (!((ress p).map rwV).isEmpty) 1 ((ress p).map rwV), [], 0, []) := by
  rw [ent107]
  have e1 := c106 p ho
  have e2 := c186 (!((meds p).map intV).isEmpty) (meds p) p.vb p.v (by have := ho.v8; omega) (ok_rows ho)
  rw [show List.map (fun r => rsR (meds p) r) p.v = ress p from rfl] at e2
  simp only [pkV] at e1
  simp -implicitDefEqProofs only [go_sem, simprocAttr, pkV, e1, e2]
def rsT (m : List Int) (r : Bool × List Int) : Bool × List Int := (true, rsd m r.2)
def L22i (p : Pk) (mb : Bool) (m : List Int) (o : Option (List (Bool × List Int))) (i : Nat) (c : Option (List Int)) (k : Nat) : Option Out :=
  (lim T).loop false [.code (.loop b22_1), .inBlock 2, .code r22_11, .inBlock 1, .code r22_5, .inLoop b22_0, .inBlock 0, .code (.seq r22_12 .ret)]
    ⟨22, 44, 0, [(1, .ptr 0 0 0), (3, .sl mb 1 (m.map intV)), (4, acV o 1), (5, .int .i64 i), (6, acV c (acI o 1)), (7, .int .i64 k)], .cells true true 25 [pkV p] :: (acR rwV o 28 ++ acR intV c 3), 0, []⟩
theorem loop22i (p : Pk) (mb : Bool) (m : List Int) (hm : m.length < 1000) (o : Option (List (Bool × List Int))) (i : Nat) (hi : i < p.v.length) (hv : p.v.length < 1000) (hr : p.v[i].2.length = m.length) : ∀ k, k ≤ m.length → ∀ c, acL c = k → L22i p mb m o i c k = L22i p mb m o i (acA c ((rsd m p.v[i].2).drop k)) m.length := by
  refine down_ind m.length ?_ fun k hk ih c hc => ?_
  · intro c hc
    have h0 : (rsd m p.v[i].2).drop m.length = [] := by rw [← hr, ← rsd_len m p.v[i].2 hr]; simp
    rw [h0, acA_0]
  · obtain ⟨h1, h2, h3, h4, h5⟩ := idx_in hk (by omega)
    obtain ⟨g1, g2, g3, g4, g5⟩ := idx_in hi (by omega)
    obtain ⟨q1, q2, q3, q4, q5⟩ := idx_in (l := p.v[i].2) (i := k) (by omega) (by omega)
    rw [rsd_drop m p.v[i].2 k (by omega) hk]
    have ih' := ih (acA c [IntKind.i64.wrap (m[k] - p.v[i].2[k])]) (by rw [acL_A, hc]; rfl)
    rw [acA_acA] at ih'
    simp only [List.cons_append, List.nil_append] at ih'
    rw [← ih']
    conv => lhs; unfold L22i; rw [loopEq]
    unfold L22i
    cases c with
    | none =>
      have h8 := (row_ok (n := 0) (by omega)).2
      cases o with
      | none =>
        simp only [acA_n, acV_n, acR_n, acI_n, acV_s, acR_s, acI_s, List.nil_append, List.append_nil, List.cons_append, List.map_cons, List.map_nil, Nat.reduceAdd, intV, pkV]
        simp -implicitDefEqProofs only [go_sem, simprocAttr, h1, h2, h3, h4, g2, g3, q2, q3, h8]
      | some a =>
        simp only [acA_n, acV_n, acR_n, acI_n, acV_s, acR_s, acI_s, List.nil_append, List.append_nil, List.cons_append, List.map_cons, List.map_nil, Nat.reduceAdd, intV, pkV]
        simp -implicitDefEqProofs only [go_sem, simprocAttr, h1, h2, h3, h4, g2, g3, q2, q3, h8]
    | some c =>
      have h9 : c.length = k := hc
      have h8 := (row_ok (n := c.length) (by omega)).1
      cases o with
      | none =>
        simp only [acA_s, acV_n, acR_n, acI_n, acV_s, acR_s, acI_s, List.nil_append, List.append_nil, List.cons_append, List.map_append, List.map_cons, List.map_nil, Nat.reduceAdd, intV, pkV]
        simp -implicitDefEqProofs only [go_sem, simprocAttr, h1, h2, h3, h4, g2, g3, q2, q3, h8]
      | some a =>
        simp only [acA_s, acV_n, acR_n, acI_n, acV_s, acR_s, acI_s, List.nil_append, List.append_nil, List.cons_append, List.map_append, List.map_cons, List.map_nil, Nat.reduceAdd, intV, pkV]
        simp -implicitDefEqProofs only [go_sem, simprocAttr, h1, h2, h3, h4, g2, g3, q2, q3, h8]
def L22 (p : Pk) (mb : Bool) (m : List Int) (o : Option (List (Bool × List Int))) (i : Nat) : Option Out :=
  (lim T).loop false [.code (.loop b22_0), .inBlock 0, .code (.seq r22_12 .ret)]
    ⟨22, 44, 0, [(1, .ptr 0 0 0), (3, .sl mb 1 (m.map intV)), (4, acV o 1), (5, .int .i64 i)], .cells true true 25 [pkV p] :: acR rwV o 28, 0, []⟩
theorem loop22 (p : Pk) (mb : Bool) (m : List Int) (hm : m.length < 1000) (hm0 : 0 < m.length) (hv : p.v.length < 1000) (hr : ∀ r ∈ p.v, r.2.length = m.length) : ∀ i, i ≤ p.v.length → ∀ o, acL o = i → L22 p mb m o i = some (.ret (acO rwV 0 1 (acA o ((p.v.drop i).map (rsT m)))), [], 0, []) := by
  refine down_ind p.v.length ?_ fun i hi ih o hO => ?_
  · intro o hO
    unfold L22
    rw [loopEq]
    have h1 := idx_out p.v.length
    have h0 : p.v.drop p.v.length = [] := by simp
    rw [h0, List.map_nil, acA_0]
    cases o with
    | none => simp -implicitDefEqProofs only [go_sem, simprocAttr, pkV, h1]
    | some a => simp -implicitDefEqProofs only [go_sem, simprocAttr, pkV, h1]
  · obtain ⟨h1, h2, h3, h4, h5⟩ := idx_in hi (by omega)
    have hri := hr _ (List.getElem_mem hi)
    rw [h5, List.map_cons]
    have hI := loop22i p mb m hm o i hi hv hri 0 (by omega) none rfl
    rw [List.drop_zero] at hI
    have hcA : acA none (rsd m p.v[i].2) = some (rsd m p.v[i].2) := by
      cases hc : rsd m p.v[i].2 with
      | nil => have := rsd_len m p.v[i].2 hri; rw [hc, List.length_nil] at this; omega
      | cons x r => rfl
    rw [hcA] at hI
    have hE := idx_out m.length
    have ih' := ih (acA o [rsT m p.v[i]]) (by rw [acL_A, hO]; rfl)
    rw [acA_acA] at ih'
    have head : L22 p mb m o i = L22i p mb m o i none 0 := by
      conv => lhs; unfold L22; rw [loopEq]
      unfold L22i
      rw [show ((0 : Nat) : Int) = 0 from rfl]
      cases o with
      | none =>
        simp only [acV_n, acR_n, acI_n, List.nil_append, List.append_nil, pkV]
        simp -implicitDefEqProofs only [go_sem, simprocAttr, h1]
      | some a =>
        simp only [acV_n, acR_n, acI_n, acV_s, acR_s, acI_s, List.nil_append, List.append_nil, pkV]
        simp -implicitDefEqProofs only [go_sem, simprocAttr, h1]
    rw [head, hI]
    simp only [List.cons_append, List.nil_append] at ih'
    rw [← ih']
    unfold L22i
    rw [loopEq]
    unfold L22
    cases o with
    | none =>
      have h8 := row_ok (n := 0) (by omega)
      simp only [acA_n, acV_n, acR_n, acI_n, acV_s, acR_s, acI_s, List.nil_append, List.append_nil, List.cons_append, List.map_cons, List.map_nil, Nat.reduceAdd, rwV, rsT, pkV]
      simp -implicitDefEqProofs only [go_sem, simprocAttr, hE, h4, h8.2]
    | some a =>
      have h9 : a.length = i := hO
      have h8 := (row_ok (n := a.length) (by omega)).1
      simp only [acA_s, acV_n, acR_n, acI_n, acV_s, acR_s, acI_s, List.nil_append, List.append_nil, List.cons_append, List.map_append, List.map_cons, List.map_nil, Nat.reduceAdd, rwV, rsT, pkV]
      simp -implicitDefEqProofs only [go_sem, simprocAttr, hE, h4, h8]
def resT (p : Pk) : List (Bool × List Int) := p.v.map (rsT (meds p))
theorem c22 (p : Pk) (ho : Ok p) : (lim T).call 22 [pkV p] [] 0 [] = some (slV 1 ((resT p).map rwV), [], 0, []) := by
  rw [ent22]
  have e1 := c21 p ho
  simp only [pkV] at e1
  have hs := ho.s8
  have hs1 := ho.s1
  have hl := meds_len p
  have h := loop22 p (!((meds p).map intV).isEmpty) (meds p) (by omega) (by omega) (by have := ho.v8; omega) (fun r hr => (ok_rows ho r hr).2) 0 (by omega) none rfl
  rw [List.drop_zero, acO_slV] at h
  unfold L22 at h
  simp only [acV_n, acR_n, show ((0 : Nat) : Int) = 0 from rfl, pkV] at h
  unfold resT
  simp -implicitDefEqProofs only [go_sem, simprocAttr, pkV, e1, h]
theorem meds_own (p : Pk) : meds (ownP p) = meds p := by
  have h1 : slots (ownP p) = slots p := by
    unfold slots ownP
    simp only [List.getElem?_map]
    cases p.v[0]? <;> rfl
  have h2 : ∀ k, col (ownP p) k = col p k := fun k => by
    unfold col ownP
    simp only [List.map_map]
    rfl
  unfold meds
  rw [h1]
  congr 1
  funext k
  rw [h2]
theorem ress_same (p : Pk) : (ress (ownP p)).map (·.2) = (resT p).map (·.2) := by
  unfold ress resT
  rw [meds_own]
  unfold ownP
  simp only [List.map_map]
  rfl
theorem fit_of {p : Pk} (h : shP p = true) (hv : p.v.length < 1000) : p.fit := by
  unfold shP at h
  simp only [Bool.and_eq_true, Bool.not_eq_true', Bool.or_eq_false_iff, Bool.not_eq_false', List.all_eq_true] at h
  obtain ⟨⟨h1, h2⟩, h3⟩ := h
  unfold shC at h2
  simp only [Bool.and_eq_true, Bool.not_eq_true', Bool.and_eq_false_iff, List.all_eq_true] at h2
  obtain ⟨h4, h5⟩ := h2
  refine ⟨hv, fun r hr => ?_, ?_, fun c hc => ?_⟩
  · have := h3 r hr
    unfold shR at this
    simp at this
    omega
  · rcases h4 with h4 | h4
    · simp at h4; omega
    · simp at h4; omega
  · have := h5 c hc
    unfold shC1 at this
    simp at this
    omega
theorem shP_len {p : Pk} (h : shP p = true) : p.v.length ≤ 9 := by
  unfold shP at h
  simp only [Bool.and_eq_true, Bool.not_eq_true', Bool.or_eq_false_iff] at h
  have := h.1.1
  simp at this
  omega
theorem fnz_02 {a b : Int} (h : a = 0) : fnz [a, b] = b := by
  simp only [fnz, h, if_true]
  by_cases hb : b = 0 <;> simp [hb]
def ptV (x : Int × Int) : V := .agg [.int .i64 x.1, .int .i64 x.2]
attribute [go_sem] ptV
theorem pair_eq (a b : Int × Int) (h : (a.1 == b.1 && a.2 == b.2) = true) : a = b := by
  simp at h; exact Prod.ext h.1 h.2
theorem pair_ne (a b : Int × Int) (h : (a.1 == b.1 && a.2 == b.2) = false) : ¬ a = b := by
  rintro rfl; simp at h
theorem loop103 (b c : Bool) (l m : List (Int × Int)) (hb : l.length < 1000000) (hm : l.length = m.length) : ∀ i, i ≤ l.length → (lim T).loop false [.code (.loop b103_0), .inBlock 0, .code (.seq r103_8 .ret)] ⟨103, 26, 0, [(0, .sl b 2 (l.map ptV)), (1, .sl c 2 (m.map ptV)), (5, .int .i64 i)], [], 0, []⟩ = some (.ret (.bool (decide (l.drop i = m.drop i))), [], 0, []) := by
  refine down_ind l.length ?_ fun i hi ih => ?_
  · rw [loopEq]
    have h1 := idx_out l.length
    simp -implicitDefEqProofs only [go_sem, simprocAttr, h1]
    simp [hm]
  · obtain ⟨h1, h2, h3, h4, h5⟩ := idx_in hi (by omega)
    obtain ⟨g1, g2, g3, g4, g5⟩ := idx_in (l := m) (i := i) (by omega) (by omega)
    rw [loopEq]
    cases h6 : (l[i].1 == m[i].1 && l[i].2 == m[i].2)
    · have h7 := pair_ne _ _ h6
      simp -implicitDefEqProofs only [go_sem, simprocAttr, h1, h2, h3, h4, g1, g2, g3, g4, h6]
      simp only [h5, g5, List.cons.injEq, h7, true_and, false_and, decide_false]
    · have h7 := pair_eq _ _ h6
      simp -implicitDefEqProofs only [go_sem, simprocAttr, h1, h2, h3, h4, g1, g2, g3, g4, h6, ih]
      simp only [h5, g5, List.cons.injEq, h7, true_and, false_and, decide_false]
theorem c103 (b c : Bool) (l m : List (Int × Int)) (hb : l.length < 1000000) : (lim T).call 103 [.sl b 2 (l.map ptV), .sl c 2 (m.map ptV)] [] 0 [] = some (.bool (decide (l = m)), [], 0, []) := by
  rw [ent103]
  cases h : ((l.length : Int) != m.length)
  · have h1 : l.length = m.length := by simp at h; omega
    have h2 := loop103 b c l m hb h1 0 (by omega)
    rw [show ((0 : Nat) : Int) = 0 from rfl, List.drop_zero, List.drop_zero] at h2
    simp -implicitDefEqProofs only [go_sem, simprocAttr, h, h2]
  · have h1 : ¬ l.length = m.length := by simp at h; omega
    simp -implicitDefEqProofs only [go_sem, simprocAttr, h]
    have : ¬ l = m := fun e => h1 (by rw [e])
    simp [this]
def z0 (s : Nat) : List (Int × Int) := List.replicate s (0, 0)
theorem rep_z0 (s : Nat) : List.replicate s (V.agg [.int .i64 0, .int .i64 0]) = (z0 s).map ivV := by
  unfold z0; rw [List.map_replicate]; rfl
theorem c195 (r : Bool × List Int) (hr : r.2.length < 1000) : (lim T).call 195 [.sl r.1 1 (r.2.map intV)] [] 0 [] = some (.ref 0, [.cells false true 142 ((z0 r.2.length).map ivV)], 0, []) := by
  rw [ent195]
  have d1 : decide (0 ≤ (r.2.length : Int) ∧ (r.2.length : Int) ≤ (r.2.length : Int) ∧ (r.2.length : Int) < (maxRow : Int)) = true := decide_eq_true ⟨by omega, by omega, by unfold maxRow; omega⟩
  simp -implicitDefEqProofs only [go_sem, simprocAttr, d1, rep_z0]
theorem rok (n : Nat) (h : n < 10) : decide (n + 1 < maxRow) = true := (row_ok (by omega)).1
theorem c194_1 (b : Bool) (r1 : Bool × List Int) (hr1 : r1.2.length < 1000) : (lim T).call 194 [.sl b 1 [.sl r1.1 1 (r1.2.map intV)], .fn 195 []] [] 0 [] = some (.ref 0, [.cells false false 72 [.ref 1], .cells false true 142 ((z0 r1.2.length).map ivV)], 0, []) := by
  rw [ent194]
  simp -implicitDefEqProofs only [go_sem, simprocAttr]
  iterate 1
    rw [loopEq]
    simp -implicitDefEqProofs only [go_sem, simprocAttr, c195, hr1, (row_ok (n := 0) (by omega)).2, wrap64, Int.reduceAdd]
  rw [loopEq]
  simp -implicitDefEqProofs only [go_sem, simprocAttr]
theorem c194_2 (b : Bool) (r1 r2 : Bool × List Int) (hr1 : r1.2.length < 1000) (hr2 : r2.2.length < 1000) : (lim T).call 194 [.sl b 1 [.sl r1.1 1 (r1.2.map intV), .sl r2.1 1 (r2.2.map intV)], .fn 195 []] [] 0 [] = some (.ref 0, [.cells false false 72 [.ref 1, .ref 2], .cells false true 142 ((z0 r1.2.length).map ivV), .cells false true 142 ((z0 r2.2.length).map ivV)], 0, []) := by
  rw [ent194]
  simp -implicitDefEqProofs only [go_sem, simprocAttr]
  iterate 2
    rw [loopEq]
    simp -implicitDefEqProofs only [go_sem, simprocAttr, c195, hr1, hr2, (row_ok (n := 0) (by omega)).2, rok 1 (by omega), wrap64, Int.reduceAdd]
  rw [loopEq]
  simp -implicitDefEqProofs only [go_sem, simprocAttr]
theorem c194_3 (b : Bool) (r1 r2 r3 : Bool × List Int) (hr1 : r1.2.length < 1000) (hr2 : r2.2.length < 1000) (hr3 : r3.2.length < 1000) : (lim T).call 194 [.sl b 1 [.sl r1.1 1 (r1.2.map intV), .sl r2.1 1 (r2.2.map intV), .sl r3.1 1 (r3.2.map intV)], .fn 195 []] [] 0 [] = some (.ref 0, [.cells false false 72 [.ref 1, .ref 2, .ref 3], .cells false true 142 ((z0 r1.2.length).map ivV), .cells false true 142 ((z0 r2.2.length).map ivV), .cells false true 142 ((z0 r3.2.length).map ivV)], 0, []) := by
  rw [ent194]
  simp -implicitDefEqProofs only [go_sem, simprocAttr]
  iterate 3
    rw [loopEq]
    simp -implicitDefEqProofs only [go_sem, simprocAttr, c195, hr1, hr2, hr3, (row_ok (n := 0) (by omega)).2, rok 1 (by omega), rok 2 (by omega), wrap64, Int.reduceAdd]
  rw [loopEq]
  simp -implicitDefEqProofs only [go_sem, simprocAttr]
theorem c194_4 (b : Bool) (r1 r2 r3 r4 : Bool × List Int) (hr1 : r1.2.length < 1000) (hr2 : r2.2.length < 1000) (hr3 : r3.2.length < 1000) (hr4 : r4.2.length < 1000) : (lim T).call 194 [.sl b 1 [.sl r1.1 1 (r1.2.map intV), .sl r2.1 1 (r2.2.map intV), .sl r3.1 1 (r3.2.map intV), .sl r4.1 1 (r4.2.map intV)], .fn 195 []] [] 0 [] = some (.ref 0, [.cells false false 72 [.ref 1, .ref 2, .ref 3, .ref 4], .cells false true 142 ((z0 r1.2.length).map ivV), .cells false true 142 ((z0 r2.2.length).map ivV), .cells false true 142 ((z0 r3.2.length).map ivV), .cells false true 142 ((z0 r4.2.length).map ivV)], 0, []) := by
  rw [ent194]
  simp -implicitDefEqProofs only [go_sem, simprocAttr]
  iterate 4
    rw [loopEq]
    simp -implicitDefEqProofs only [go_sem, simprocAttr, c195, hr1, hr2, hr3, hr4, (row_ok (n := 0) (by omega)).2, rok 1 (by omega), rok 2 (by omega), rok 3 (by omega), wrap64, Int.reduceAdd]
  rw [loopEq]
  simp -implicitDefEqProofs only [go_sem, simprocAttr]
theorem c194_5 (b : Bool) (r1 r2 r3 r4 r5 : Bool × List Int) (hr1 : r1.2.length < 1000) (hr2 : r2.2.length < 1000) (hr3 : r3.2.length < 1000) (hr4 : r4.2.length < 1000) (hr5 : r5.2.length < 1000) : (lim T).call 194 [.sl b 1 [.sl r1.1 1 (r1.2.map intV), .sl r2.1 1 (r2.2.map intV), .sl r3.1 1 (r3.2.map intV), .sl r4.1 1 (r4.2.map intV), .sl r5.1 1 (r5.2.map intV)], .fn 195 []] [] 0 [] = some (.ref 0, [.cells false false 72 [.ref 1, .ref 2, .ref 3, .ref 4, .ref 5], .cells false true 142 ((z0 r1.2.length).map ivV), .cells false true 142 ((z0 r2.2.length).map ivV), .cells false true 142 ((z0 r3.2.length).map ivV), .cells false true 142 ((z0 r4.2.length).map ivV), .cells false true 142 ((z0 r5.2.length).map ivV)], 0, []) := by
  rw [ent194]
  simp -implicitDefEqProofs only [go_sem, simprocAttr]
  iterate 5
    rw [loopEq]
    simp -implicitDefEqProofs only [go_sem, simprocAttr, c195, hr1, hr2, hr3, hr4, hr5, (row_ok (n := 0) (by omega)).2, rok 1 (by omega), rok 2 (by omega), rok 3 (by omega), rok 4 (by omega), wrap64, Int.reduceAdd]
  rw [loopEq]
  simp -implicitDefEqProofs only [go_sem, simprocAttr]
theorem c194_6 (b : Bool) (r1 r2 r3 r4 r5 r6 : Bool × List Int) (hr1 : r1.2.length < 1000) (hr2 : r2.2.length < 1000) (hr3 : r3.2.length < 1000) (hr4 : r4.2.length < 1000) (hr5 : r5.2.length < 1000) (hr6 : r6.2.length < 1000) : (lim T).call 194 [.sl b 1 [.sl r1.1 1 (r1.2.map intV), .sl r2.1 1 (r2.2.map intV), .sl r3.1 1 (r3.2.map intV), .sl r4.1 1 (r4.2.map intV), .sl r5.1 1 (r5.2.map intV), .sl r6.1 1 (r6.2.map intV)], .fn 195 []] [] 0 [] = some (.ref 0, [.cells false false 72 [.ref 1, .ref 2, .ref 3, .ref 4, .ref 5, .ref 6], .cells false true 142 ((z0 r1.2.length).map ivV), .cells false true 142 ((z0 r2.2.length).map ivV), .cells false true 142 ((z0 r3.2.length).map ivV), .cells false true 142 ((z0 r4.2.length).map ivV), .cells false true 142 ((z0 r5.2.length).map ivV), .cells false true 142 ((z0 r6.2.length).map ivV)], 0, []) := by
  rw [ent194]
  simp -implicitDefEqProofs only [go_sem, simprocAttr]
  iterate 6
    rw [loopEq]
    simp -implicitDefEqProofs only [go_sem, simprocAttr, c195, hr1, hr2, hr3, hr4, hr5, hr6, (row_ok (n := 0) (by omega)).2, rok 1 (by omega), rok 2 (by omega), rok 3 (by omega), rok 4 (by omega), rok 5 (by omega), wrap64, Int.reduceAdd]
  rw [loopEq]
  simp -implicitDefEqProofs only [go_sem, simprocAttr]
theorem c194_7 (b : Bool) (r1 r2 r3 r4 r5 r6 r7 : Bool × List Int) (hr1 : r1.2.length < 1000) (hr2 : r2.2.length < 1000) (hr3 : r3.2.length < 1000) (hr4 : r4.2.length < 1000) (hr5 : r5.2.length < 1000) (hr6 : r6.2.length < 1000) (hr7 : r7.2.length < 1000) : (lim T).call 194 [.sl b 1 [.sl r1.1 1 (r1.2.map intV), .sl r2.1 1 (r2.2.map intV), .sl r3.1 1 (r3.2.map intV), .sl r4.1 1 (r4.2.map intV), .sl r5.1 1 (r5.2.map intV), .sl r6.1 1 (r6.2.map intV), .sl r7.1 1 (r7.2.map intV)], .fn 195 []] [] 0 [] = some (.ref 0, [.cells false false 72 [.ref 1, .ref 2, .ref 3, .ref 4, .ref 5, .ref 6, .ref 7], .cells false true 142 ((z0 r1.2.length).map ivV), .cells false true 142 ((z0 r2.2.length).map ivV), .cells false true 142 ((z0 r3.2.length).map ivV), .cells false true 142 ((z0 r4.2.length).map ivV), .cells false true 142 ((z0 r5.2.length).map ivV), .cells false true 142 ((z0 r6.2.length).map ivV), .cells false true 142 ((z0 r7.2.length).map ivV)], 0, []) := by
  rw [ent194]
  simp -implicitDefEqProofs only [go_sem, simprocAttr]
  iterate 7
    rw [loopEq]
    simp -implicitDefEqProofs only [go_sem, simprocAttr, c195, hr1, hr2, hr3, hr4, hr5, hr6, hr7, (row_ok (n := 0) (by omega)).2, rok 1 (by omega), rok 2 (by omega), rok 3 (by omega), rok 4 (by omega), rok 5 (by omega), rok 6 (by omega), wrap64, Int.reduceAdd]
  rw [loopEq]
  simp -implicitDefEqProofs only [go_sem, simprocAttr]
theorem c194_8 (b : Bool) (r1 r2 r3 r4 r5 r6 r7 r8 : Bool × List Int) (hr1 : r1.2.length < 1000) (hr2 : r2.2.length < 1000) (hr3 : r3.2.length < 1000) (hr4 : r4.2.length < 1000) (hr5 : r5.2.length < 1000) (hr6 : r6.2.length < 1000) (hr7 : r7.2.length < 1000) (hr8 : r8.2.length < 1000) : (lim T).call 194 [.sl b 1 [.sl r1.1 1 (r1.2.map intV), .sl r2.1 1 (r2.2.map intV), .sl r3.1 1 (r3.2.map intV), .sl r4.1 1 (r4.2.map intV), .sl r5.1 1 (r5.2.map intV), .sl r6.1 1 (r6.2.map intV), .sl r7.1 1 (r7.2.map intV), .sl r8.1 1 (r8.2.map intV)], .fn 195 []] [] 0 [] = some (.ref 0, [.cells false false 72 [.ref 1, .ref 2, .ref 3, .ref 4, .ref 5, .ref 6, .ref 7, .ref 8], .cells false true 142 ((z0 r1.2.length).map ivV), .cells false true 142 ((z0 r2.2.length).map ivV), .cells false true 142 ((z0 r3.2.length).map ivV), .cells false true 142 ((z0 r4.2.length).map ivV), .cells false true 142 ((z0 r5.2.length).map ivV), .cells false true 142 ((z0 r6.2.length).map ivV), .cells false true 142 ((z0 r7.2.length).map ivV), .cells false true 142 ((z0 r8.2.length).map ivV)], 0, []) := by
  rw [ent194]
  simp -implicitDefEqProofs only [go_sem, simprocAttr]
  iterate 8
    rw [loopEq]
    simp -implicitDefEqProofs only [go_sem, simprocAttr, c195, hr1, hr2, hr3, hr4, hr5, hr6, hr7, hr8, (row_ok (n := 0) (by omega)).2, rok 1 (by omega), rok 2 (by omega), rok 3 (by omega), rok 4 (by omega), rok 5 (by omega), rok 6 (by omega), rok 7 (by omega), wrap64, Int.reduceAdd]
  rw [loopEq]
  simp -implicitDefEqProofs only [go_sem, simprocAttr]
def add2 (a b : Int × Int) : Int × Int := (IntKind.i64.wrap (a.1 + b.1), IntKind.i64.wrap (a.2 + b.2))
def nst (n : Nat) : List V := (List.range n).map fun k => .ref (k + 2)
def L123i (p : Pk) (R : List (List (Int × Int))) (sb : Bool) (z : Nat) (st : List Int) (t : Nat) (c : Cz) (k : Nat) : Option Out :=
  (lim T).loop false [.code (.loop b123_1), .inBlock 2, .inBlock 1, .code r123_12, .inLoop b123_0, .inBlock 0, .code (.seq r123_13 .ret)]
    ⟨123, 64, 0, [(2, .ptr 0 0 0), (5, .ref 1), (8, .ptr (R.length + 2) 0 0), (14, .sl sb z (st.map intV)), (15, .int .i64 st.length), (16, .int .i64 t), (26, .sl c.b 2 (c.l.map ivV)), (27, .int .i64 c.l.length), (28, .int .i64 k)],
      .cells true true 34 [pkV p] :: .cells false false 72 (nst R.length) :: (R.map (fun l => .cells false true 142 (l.map ivV)) ++ [.cells true true 180 [czV c]]), 0, []⟩
theorem step123_1 (p : Pk) (a0 : List (Int × Int)) (sb : Bool) (z : Nat) (st : List Int) (t : Nat) (c : Cz) (k : Nat) (j : Nat) (hj : c.c = (j : Int)) (hjn : j < 1) (x : List (Int × Int)) (hx : [a0][j]? = some x) (hk : k < c.l.length) (hkx : k < x.length) (hc : c.l.length < 1000000) (hxl : x.length < 1000000) :
    L123i p [a0] sb z st t c k = L123i p ([a0].set j (x.set k (add2 x[k] c.l[k]))) sb z st t c (k + 1) := by
  obtain ⟨h1, h2, h3, h4, h5⟩ := idx_in hk (by omega)
  obtain ⟨g1, g2, g3, g4, g5⟩ := idx_in hkx (by omega)
  have hs : ∀ v, (x.set k v)[k]? = some v := fun v => by rw [List.getElem?_set_self hkx]
  have hj' : j = 0 := by omega
  conv => lhs; unfold L123i; rw [loopEq]
  unfold L123i
  rcases hj' with rfl
  all_goals
    obtain rfl := Option.some.inj hx
    simp only [nst, List.length_cons, List.length_nil, Nat.reduceAdd, List.range_succ, List.range_zero, List.nil_append, List.cons_append, List.map_cons, List.map_nil, List.map_append, List.set_cons_zero, List.set_cons_succ, pkV, czV, hj]
    simp -implicitDefEqProofs only [go_sem, simprocAttr, pkV, h1, h2, h3, h4, g2, g3, hj, hkx, List.length_map, List.length_set, List.getElem?_map, add2, List.map_set, List.getElem?_set_self, List.set_set]
theorem step123_2 (p : Pk) (a0 a1 : List (Int × Int)) (sb : Bool) (z : Nat) (st : List Int) (t : Nat) (c : Cz) (k : Nat) (j : Nat) (hj : c.c = (j : Int)) (hjn : j < 2) (x : List (Int × Int)) (hx : [a0, a1][j]? = some x) (hk : k < c.l.length) (hkx : k < x.length) (hc : c.l.length < 1000000) (hxl : x.length < 1000000) :
    L123i p [a0, a1] sb z st t c k = L123i p ([a0, a1].set j (x.set k (add2 x[k] c.l[k]))) sb z st t c (k + 1) := by
  obtain ⟨h1, h2, h3, h4, h5⟩ := idx_in hk (by omega)
  obtain ⟨g1, g2, g3, g4, g5⟩ := idx_in hkx (by omega)
  have hs : ∀ v, (x.set k v)[k]? = some v := fun v => by rw [List.getElem?_set_self hkx]
  have hj' : j = 0 ∨ j = 1 := by omega
  conv => lhs; unfold L123i; rw [loopEq]
  unfold L123i
  rcases hj' with rfl | rfl
  all_goals
    obtain rfl := Option.some.inj hx
    simp only [nst, List.length_cons, List.length_nil, Nat.reduceAdd, List.range_succ, List.range_zero, List.nil_append, List.cons_append, List.map_cons, List.map_nil, List.map_append, List.set_cons_zero, List.set_cons_succ, pkV, czV, hj]
    simp -implicitDefEqProofs only [go_sem, simprocAttr, pkV, h1, h2, h3, h4, g2, g3, hj, hkx, List.length_map, List.length_set, List.getElem?_map, add2, List.map_set, List.getElem?_set_self, List.set_set]
theorem step123_3 (p : Pk) (a0 a1 a2 : List (Int × Int)) (sb : Bool) (z : Nat) (st : List Int) (t : Nat) (c : Cz) (k : Nat) (j : Nat) (hj : c.c = (j : Int)) (hjn : j < 3) (x : List (Int × Int)) (hx : [a0, a1, a2][j]? = some x) (hk : k < c.l.length) (hkx : k < x.length) (hc : c.l.length < 1000000) (hxl : x.length < 1000000) :
    L123i p [a0, a1, a2] sb z st t c k = L123i p ([a0, a1, a2].set j (x.set k (add2 x[k] c.l[k]))) sb z st t c (k + 1) := by
  obtain ⟨h1, h2, h3, h4, h5⟩ := idx_in hk (by omega)
  obtain ⟨g1, g2, g3, g4, g5⟩ := idx_in hkx (by omega)
  have hs : ∀ v, (x.set k v)[k]? = some v := fun v => by rw [List.getElem?_set_self hkx]
  have hj' : j = 0 ∨ j = 1 ∨ j = 2 := by omega
  conv => lhs; unfold L123i; rw [loopEq]
  unfold L123i
  rcases hj' with rfl | rfl | rfl
  all_goals
    obtain rfl := Option.some.inj hx
    simp only [nst, List.length_cons, List.length_nil, Nat.reduceAdd, List.range_succ, List.range_zero, List.nil_append, List.cons_append, List.map_cons, List.map_nil, List.map_append, List.set_cons_zero, List.set_cons_succ, pkV, czV, hj]
    simp -implicitDefEqProofs only [go_sem, simprocAttr, pkV, h1, h2, h3, h4, g2, g3, hj, hkx, List.length_map, List.length_set, List.getElem?_map, add2, List.map_set, List.getElem?_set_self, List.set_set]
theorem step123_4 (p : Pk) (a0 a1 a2 a3 : List (Int × Int)) (sb : Bool) (z : Nat) (st : List Int) (t : Nat) (c : Cz) (k : Nat) (j : Nat) (hj : c.c = (j : Int)) (hjn : j < 4) (x : List (Int × Int)) (hx : [a0, a1, a2, a3][j]? = some x) (hk : k < c.l.length) (hkx : k < x.length) (hc : c.l.length < 1000000) (hxl : x.length < 1000000) :
    L123i p [a0, a1, a2, a3] sb z st t c k = L123i p ([a0, a1, a2, a3].set j (x.set k (add2 x[k] c.l[k]))) sb z st t c (k + 1) := by
  obtain ⟨h1, h2, h3, h4, h5⟩ := idx_in hk (by omega)
  obtain ⟨g1, g2, g3, g4, g5⟩ := idx_in hkx (by omega)
  have hs : ∀ v, (x.set k v)[k]? = some v := fun v => by rw [List.getElem?_set_self hkx]
  have hj' : j = 0 ∨ j = 1 ∨ j = 2 ∨ j = 3 := by omega
  conv => lhs; unfold L123i; rw [loopEq]
  unfold L123i
  rcases hj' with rfl | rfl | rfl | rfl
  all_goals
    obtain rfl := Option.some.inj hx
    simp only [nst, List.length_cons, List.length_nil, Nat.reduceAdd, List.range_succ, List.range_zero, List.nil_append, List.cons_append, List.map_cons, List.map_nil, List.map_append, List.set_cons_zero, List.set_cons_succ, pkV, czV, hj]
    simp -implicitDefEqProofs only [go_sem, simprocAttr, pkV, h1, h2, h3, h4, g2, g3, hj, hkx, List.length_map, List.length_set, List.getElem?_map, add2, List.map_set, List.getElem?_set_self, List.set_set]
theorem step123_5 (p : Pk) (a0 a1 a2 a3 a4 : List (Int × Int)) (sb : Bool) (z : Nat) (st : List Int) (t : Nat) (c : Cz) (k : Nat) (j : Nat) (hj : c.c = (j : Int)) (hjn : j < 5) (x : List (Int × Int)) (hx : [a0, a1, a2, a3, a4][j]? = some x) (hk : k < c.l.length) (hkx : k < x.length) (hc : c.l.length < 1000000) (hxl : x.length < 1000000) :
    L123i p [a0, a1, a2, a3, a4] sb z st t c k = L123i p ([a0, a1, a2, a3, a4].set j (x.set k (add2 x[k] c.l[k]))) sb z st t c (k + 1) := by
  obtain ⟨h1, h2, h3, h4, h5⟩ := idx_in hk (by omega)
  obtain ⟨g1, g2, g3, g4, g5⟩ := idx_in hkx (by omega)
  have hs : ∀ v, (x.set k v)[k]? = some v := fun v => by rw [List.getElem?_set_self hkx]
  have hj' : j = 0 ∨ j = 1 ∨ j = 2 ∨ j = 3 ∨ j = 4 := by omega
  conv => lhs; unfold L123i; rw [loopEq]
  unfold L123i
  rcases hj' with rfl | rfl | rfl | rfl | rfl
  all_goals
    obtain rfl := Option.some.inj hx
    simp only [nst, List.length_cons, List.length_nil, Nat.reduceAdd, List.range_succ, List.range_zero, List.nil_append, List.cons_append, List.map_cons, List.map_nil, List.map_append, List.set_cons_zero, List.set_cons_succ, pkV, czV, hj]
    simp -implicitDefEqProofs only [go_sem, simprocAttr, pkV, h1, h2, h3, h4, g2, g3, hj, hkx, List.length_map, List.length_set, List.getElem?_map, add2, List.map_set, List.getElem?_set_self, List.set_set]
theorem step123_6 (p : Pk) (a0 a1 a2 a3 a4 a5 : List (Int × Int)) (sb : Bool) (z : Nat) (st : List Int) (t : Nat) (c : Cz) (k : Nat) (j : Nat) (hj : c.c = (j : Int)) (hjn : j < 6) (x : List (Int × Int)) (hx : [a0, a1, a2, a3, a4, a5][j]? = some x) (hk : k < c.l.length) (hkx : k < x.length) (hc : c.l.length < 1000000) (hxl : x.length < 1000000) :
    L123i p [a0, a1, a2, a3, a4, a5] sb z st t c k = L123i p ([a0, a1, a2, a3, a4, a5].set j (x.set k (add2 x[k] c.l[k]))) sb z st t c (k + 1) := by
  obtain ⟨h1, h2, h3, h4, h5⟩ := idx_in hk (by omega)
  obtain ⟨g1, g2, g3, g4, g5⟩ := idx_in hkx (by omega)
  have hs : ∀ v, (x.set k v)[k]? = some v := fun v => by rw [List.getElem?_set_self hkx]
  have hj' : j = 0 ∨ j = 1 ∨ j = 2 ∨ j = 3 ∨ j = 4 ∨ j = 5 := by omega
  conv => lhs; unfold L123i; rw [loopEq]
  unfold L123i
  rcases hj' with rfl | rfl | rfl | rfl | rfl | rfl
  all_goals
    obtain rfl := Option.some.inj hx
    simp only [nst, List.length_cons, List.length_nil, Nat.reduceAdd, List.range_succ, List.range_zero, List.nil_append, List.cons_append, List.map_cons, List.map_nil, List.map_append, List.set_cons_zero, List.set_cons_succ, pkV, czV, hj]
    simp -implicitDefEqProofs only [go_sem, simprocAttr, pkV, h1, h2, h3, h4, g2, g3, hj, hkx, List.length_map, List.length_set, List.getElem?_map, add2, List.map_set, List.getElem?_set_self, List.set_set]
theorem step123_7 (p : Pk) (a0 a1 a2 a3 a4 a5 a6 : List (Int × Int)) (sb : Bool) (z : Nat) (st : List Int) (t : Nat) (c : Cz) (k : Nat) (j : Nat) (hj : c.c = (j : Int)) (hjn : j < 7) (x : List (Int × Int)) (hx : [a0, a1, a2, a3, a4, a5, a6][j]? = some x) (hk : k < c.l.length) (hkx : k < x.length) (hc : c.l.length < 1000000) (hxl : x.length < 1000000) :
    L123i p [a0, a1, a2, a3, a4, a5, a6] sb z st t c k = L123i p ([a0, a1, a2, a3, a4, a5, a6].set j (x.set k (add2 x[k] c.l[k]))) sb z st t c (k + 1) := by
  obtain ⟨h1, h2, h3, h4, h5⟩ := idx_in hk (by omega)
  obtain ⟨g1, g2, g3, g4, g5⟩ := idx_in hkx (by omega)
  have hs : ∀ v, (x.set k v)[k]? = some v := fun v => by rw [List.getElem?_set_self hkx]
  have hj' : j = 0 ∨ j = 1 ∨ j = 2 ∨ j = 3 ∨ j = 4 ∨ j = 5 ∨ j = 6 := by omega
  conv => lhs; unfold L123i; rw [loopEq]
  unfold L123i
  rcases hj' with rfl | rfl | rfl | rfl | rfl | rfl | rfl
  all_goals
    obtain rfl := Option.some.inj hx
    simp only [nst, List.length_cons, List.length_nil, Nat.reduceAdd, List.range_succ, List.range_zero, List.nil_append, List.cons_append, List.map_cons, List.map_nil, List.map_append, List.set_cons_zero, List.set_cons_succ, pkV, czV, hj]
    simp -implicitDefEqProofs only [go_sem, simprocAttr, pkV, h1, h2, h3, h4, g2, g3, hj, hkx, List.length_map, List.length_set, List.getElem?_map, add2, List.map_set, List.getElem?_set_self, List.set_set]
theorem step123_8 (p : Pk) (a0 a1 a2 a3 a4 a5 a6 a7 : List (Int × Int)) (sb : Bool) (z : Nat) (st : List Int) (t : Nat) (c : Cz) (k : Nat) (j : Nat) (hj : c.c = (j : Int)) (hjn : j < 8) (x : List (Int × Int)) (hx : [a0, a1, a2, a3, a4, a5, a6, a7][j]? = some x) (hk : k < c.l.length) (hkx : k < x.length) (hc : c.l.length < 1000000) (hxl : x.length < 1000000) :
    L123i p [a0, a1, a2, a3, a4, a5, a6, a7] sb z st t c k = L123i p ([a0, a1, a2, a3, a4, a5, a6, a7].set j (x.set k (add2 x[k] c.l[k]))) sb z st t c (k + 1) := by
  obtain ⟨h1, h2, h3, h4, h5⟩ := idx_in hk (by omega)
  obtain ⟨g1, g2, g3, g4, g5⟩ := idx_in hkx (by omega)
  have hs : ∀ v, (x.set k v)[k]? = some v := fun v => by rw [List.getElem?_set_self hkx]
  have hj' : j = 0 ∨ j = 1 ∨ j = 2 ∨ j = 3 ∨ j = 4 ∨ j = 5 ∨ j = 6 ∨ j = 7 := by omega
  conv => lhs; unfold L123i; rw [loopEq]
  unfold L123i
  rcases hj' with rfl | rfl | rfl | rfl | rfl | rfl | rfl | rfl
  all_goals
    obtain rfl := Option.some.inj hx
    simp only [nst, List.length_cons, List.length_nil, Nat.reduceAdd, List.range_succ, List.range_zero, List.nil_append, List.cons_append, List.map_cons, List.map_nil, List.map_append, List.set_cons_zero, List.set_cons_succ, pkV, czV, hj]
    simp -implicitDefEqProofs only [go_sem, simprocAttr, pkV, h1, h2, h3, h4, g2, g3, hj, hkx, List.length_map, List.length_set, List.getElem?_map, add2, List.map_set, List.getElem?_set_self, List.set_set]
theorem cases8 {α : Type} {R : List α} (h : 0 < R.length) (h8 : R.length ≤ 8) : (∃ a0, R = [a0]) ∨ (∃ a0 a1, R = [a0, a1]) ∨ (∃ a0 a1 a2, R = [a0, a1, a2]) ∨ (∃ a0 a1 a2 a3, R = [a0, a1, a2, a3]) ∨ (∃ a0 a1 a2 a3 a4, R = [a0, a1, a2, a3, a4]) ∨ (∃ a0 a1 a2 a3 a4 a5, R = [a0, a1, a2, a3, a4, a5]) ∨ (∃ a0 a1 a2 a3 a4 a5 a6, R = [a0, a1, a2, a3, a4, a5, a6]) ∨ (∃ a0 a1 a2 a3 a4 a5 a6 a7, R = [a0, a1, a2, a3, a4, a5, a6, a7]) := by
  match R, h, h8 with
  | [a0], _, _ => exact .inl ⟨a0, rfl⟩
  | [a0, a1], _, _ => exact .inr (.inl ⟨a0, a1, rfl⟩)
  | [a0, a1, a2], _, _ => exact .inr (.inr (.inl ⟨a0, a1, a2, rfl⟩))
  | [a0, a1, a2, a3], _, _ => exact .inr (.inr (.inr (.inl ⟨a0, a1, a2, a3, rfl⟩)))
  | [a0, a1, a2, a3, a4], _, _ => exact .inr (.inr (.inr (.inr (.inl ⟨a0, a1, a2, a3, a4, rfl⟩))))
  | [a0, a1, a2, a3, a4, a5], _, _ => exact .inr (.inr (.inr (.inr (.inr (.inl ⟨a0, a1, a2, a3, a4, a5, rfl⟩)))))
  | [a0, a1, a2, a3, a4, a5, a6], _, _ => exact .inr (.inr (.inr (.inr (.inr (.inr (.inl ⟨a0, a1, a2, a3, a4, a5, a6, rfl⟩))))))
  | [a0, a1, a2, a3, a4, a5, a6, a7], _, _ => exact .inr (.inr (.inr (.inr (.inr (.inr (.inr ⟨a0, a1, a2, a3, a4, a5, a6, a7, rfl⟩))))))
  | _ :: _ :: _ :: _ :: _ :: _ :: _ :: _ :: _ :: _, _, h => exact absurd h (by simp only [List.length_cons]; omega)
theorem step123 (p : Pk) (R : List (List (Int × Int))) (h0 : 0 < R.length) (h8 : R.length ≤ 8) (sb : Bool) (z : Nat) (st : List Int) (t : Nat) (c : Cz) (k : Nat) (j : Nat) (hj : c.c = (j : Int)) (hjn : j < R.length) (x : List (Int × Int)) (hx : R[j]? = some x) (hk : k < c.l.length) (hkx : k < x.length) (hc : c.l.length < 1000000) (hxl : x.length < 1000000) :
    L123i p R sb z st t c k = L123i p (R.set j (x.set k (add2 x[k] c.l[k]))) sb z st t c (k + 1) := by
  rcases cases8 h0 h8 with ⟨a0, rfl⟩ | ⟨a0, a1, rfl⟩ | ⟨a0, a1, a2, rfl⟩ | ⟨a0, a1, a2, a3, rfl⟩ | ⟨a0, a1, a2, a3, a4, rfl⟩ | ⟨a0, a1, a2, a3, a4, a5, rfl⟩ | ⟨a0, a1, a2, a3, a4, a5, a6, rfl⟩ | ⟨a0, a1, a2, a3, a4, a5, a6, a7, rfl⟩
  · exact step123_1 p a0 sb z st t c k j hj hjn x hx hk hkx hc hxl
  · exact step123_2 p a0 a1 sb z st t c k j hj hjn x hx hk hkx hc hxl
  · exact step123_3 p a0 a1 a2 sb z st t c k j hj hjn x hx hk hkx hc hxl
  · exact step123_4 p a0 a1 a2 a3 sb z st t c k j hj hjn x hx hk hkx hc hxl
  · exact step123_5 p a0 a1 a2 a3 a4 sb z st t c k j hj hjn x hx hk hkx hc hxl
  · exact step123_6 p a0 a1 a2 a3 a4 a5 sb z st t c k j hj hjn x hx hk hkx hc hxl
  · exact step123_7 p a0 a1 a2 a3 a4 a5 a6 sb z st t c k j hj hjn x hx hk hkx hc hxl
  · exact step123_8 p a0 a1 a2 a3 a4 a5 a6 a7 sb z st t c k j hj hjn x hx hk hkx hc hxl
def addR (x l : List (Int × Int)) : List (Int × Int) := List.zipWith add2 x l
def part (x l : List (Int × Int)) (k : Nat) : List (Int × Int) := (addR x l).take k ++ x.drop k
theorem addR_len {x l : List (Int × Int)} (h : x.length = l.length) : (addR x l).length = l.length := by simp [addR, h]
theorem part_len {x l : List (Int × Int)} (h : x.length = l.length) (k : Nat) (hk : k ≤ l.length) : (part x l k).length = l.length := by
  simp [part, addR_len h]; omega
theorem part_get {x l : List (Int × Int)} (h : x.length = l.length) (k : Nat) (hk : k < l.length) : (part x l k)[k]? = some (x[k]'(by omega)) := by
  unfold part
  have : ((addR x l).take k).length = k := by simp [addR_len h]; omega
  rw [List.getElem?_append_right (by omega), this, Nat.sub_self, List.getElem?_drop, Nat.add_zero, List.getElem?_eq_getElem (by omega)]
theorem part_set {x l : List (Int × Int)} (h : x.length = l.length) (k : Nat) (hk : k < l.length) : (part x l k).set k (add2 (x[k]'(by omega)) l[k]) = part x l (k + 1) := by
  unfold part
  have h1 : ((addR x l).take k).length = k := by simp [addR_len h]; omega
  rw [List.set_append_right _ _ (by omega), h1, Nat.sub_self, List.drop_eq_getElem_cons (show k < x.length by omega), List.set_cons_zero, List.take_succ_eq_append_getElem (by rw [addR_len h]; exact hk), List.append_assoc]
  congr 1
  simp [addR]
theorem loop123i (p : Pk) (R : List (List (Int × Int))) (h0 : 0 < R.length) (h8 : R.length ≤ 8) (sb : Bool) (z : Nat) (st : List Int) (t : Nat) (c : Cz) (j : Nat) (hj : c.c = (j : Int)) (hjn : j < R.length) (x : List (Int × Int)) (hxl : x.length = c.l.length) (hc : c.l.length < 1000000) : ∀ k, k ≤ c.l.length →
    L123i p (R.set j (part x c.l k)) sb z st t c k = L123i p (R.set j (addR x c.l)) sb z st t c c.l.length := by
  refine down_ind c.l.length ?_ fun k hk ih => ?_
  · have : part x c.l c.l.length = addR x c.l := by
      unfold part
      rw [List.take_of_length_le (by rw [addR_len hxl]; exact Nat.le_refl _), List.drop_of_length_le (by omega), List.append_nil]
    rw [this]
  · rw [← ih, ← part_set hxl k hk]
    have hl := part_len hxl k (by omega)
    have hg := part_get hxl k hk
    have hkk : k < (part x c.l k).length := by omega
    have hg2 : (part x c.l k)[k] = x[k]'(by omega) := by
      have := hg
      rw [List.getElem?_eq_getElem hkk] at this
      exact Option.some.inj this
    rw [step123 p (R.set j (part x c.l k)) (by simpa using h0) (by simpa using h8) sb z st t c k j hj (by simpa using hjn) (part x c.l k) (by rw [List.getElem?_set_self (by simpa using hjn)]) hk hkk hc (by omega), List.set_set, hg2]
def L123 (p : Pk) (R : List (List (Int × Int))) (sb : Bool) (z : Nat) (st : List Int) (t : Nat) : Option Out :=
  (lim T).loop false [.code (.loop b123_0), .inBlock 0, .code (.seq r123_13 .ret)]
    ⟨123, 64, 0, [(2, .ptr 0 0 0), (5, .ref 1), (14, .sl sb z (st.map intV)), (15, .int .i64 st.length), (16, .int .i64 t)],
      .cells true true 34 [pkV p] :: .cells false false 72 (nst R.length) :: R.map (fun l => .cells false true 142 (l.map ivV)), 0, []⟩
def rvV (r : Bool × List (Int × Int)) : V := .sl r.1 2 (r.2.map ivV)
attribute [go_sem] rvV
def rvT (l : List (Int × Int)) : Bool × List (Int × Int) := (true, l)
theorem exit123 (p : Pk) (R : List (List (Int × Int))) (h0 : 0 < R.length) (h8 : R.length ≤ 8) (sb : Bool) (z : Nat) (st : List Int) (t : Nat) (ht : t < 1000000) (c : Cz) : L123i p R sb z st t c c.l.length = L123 p R sb z st (t + 1) := by
  have h1 := idx_out c.l.length
  have h4 : IntKind.i64.wrap ((t : Int) + 1) = ((t + 1 : Nat) : Int) := by rw [wrap64] <;> omega
  unfold L123i L123
  rw [loopEq]
  rcases cases8 h0 h8 with ⟨a0, rfl⟩ | ⟨a0, a1, rfl⟩ | ⟨a0, a1, a2, rfl⟩ | ⟨a0, a1, a2, a3, rfl⟩ | ⟨a0, a1, a2, a3, a4, rfl⟩ | ⟨a0, a1, a2, a3, a4, a5, rfl⟩ | ⟨a0, a1, a2, a3, a4, a5, a6, rfl⟩ | ⟨a0, a1, a2, a3, a4, a5, a6, a7, rfl⟩
  all_goals
    simp only [nst, List.length_cons, List.length_nil, Nat.reduceAdd, List.range_succ, List.range_zero, List.nil_append, List.cons_append, List.map_cons, List.map_nil, List.map_append, pkV, czV]
    simp -implicitDefEqProofs only [go_sem, simprocAttr, h1, h4]
theorem head123 (p : Pk) (R : List (List (Int × Int))) (h0 : 0 < R.length) (h8 : R.length ≤ 8) (sb : Bool) (st : List Int) (t : Nat) (ht : t < st.length) (hs : st.length < 1000000) (c : Cz) (hd : decide (0 ≤ st[t] ∧ st[t] < (p.c.length : Int)) = true) (hc : p.c[st[t].toNat]? = some c) : L123 p R sb 1 st t = L123i p R sb 1 st t c 0 := by
  obtain ⟨h1, h2, h3, h4, h5⟩ := idx_in ht (by omega)
  conv => lhs; unfold L123; rw [loopEq]
  unfold L123i
  rw [show ((0 : Nat) : Int) = 0 from rfl]
  rcases cases8 h0 h8 with ⟨a0, rfl⟩ | ⟨a0, a1, rfl⟩ | ⟨a0, a1, a2, rfl⟩ | ⟨a0, a1, a2, a3, rfl⟩ | ⟨a0, a1, a2, a3, a4, rfl⟩ | ⟨a0, a1, a2, a3, a4, a5, rfl⟩ | ⟨a0, a1, a2, a3, a4, a5, a6, rfl⟩ | ⟨a0, a1, a2, a3, a4, a5, a6, a7, rfl⟩
  all_goals
    simp only [nst, List.length_cons, List.length_nil, Nat.reduceAdd, List.range_succ, List.range_zero, List.nil_append, List.cons_append, List.map_cons, List.map_nil, List.map_append, pkV, czV]
    simp -implicitDefEqProofs only [go_sem, simprocAttr, h1, h2, h3, hd, hc]
theorem end123 (p : Pk) (R : List (List (Int × Int))) (h0 : 0 < R.length) (h8 : R.length ≤ 8) (sb : Bool) (z : Nat) (st : List Int) : L123 p R sb z st st.length = some (.ret (.sl true 1 ((R.map rvT).map rvV)), [], 0, []) := by
  have h1 := idx_out st.length
  unfold L123
  rw [loopEq]
  rcases cases8 h0 h8 with ⟨a0, rfl⟩ | ⟨a0, a1, rfl⟩ | ⟨a0, a1, a2, rfl⟩ | ⟨a0, a1, a2, a3, rfl⟩ | ⟨a0, a1, a2, a3, a4, rfl⟩ | ⟨a0, a1, a2, a3, a4, a5, rfl⟩ | ⟨a0, a1, a2, a3, a4, a5, a6, rfl⟩ | ⟨a0, a1, a2, a3, a4, a5, a6, a7, rfl⟩
  all_goals
    simp only [nst, List.length_cons, List.length_nil, Nat.reduceAdd, List.range_succ, List.range_zero, List.nil_append, List.cons_append, List.map_cons, List.map_nil, List.map_append, pkV, rvT]
    simp -implicitDefEqProofs only [go_sem, simprocAttr, h1]
def lsF : List (Nat × List (Int × Int)) → List (List (Int × Int)) → List (List (Int × Int))
  | [], R => R
  | c :: cs, R => lsF cs (R.set c.1 (addR (R.getD c.1 []) c.2))
def lossF (i k : Nat) : List (Nat × List (Int × Int)) → Int × Int → Int × Int
  | [], x => x
  | c :: cs, x => lossF i k cs (if c.1 = i then add2 x (c.2.getD k (0, 0)) else x)
def tab {α : Type} (n s : Nat) (f : Nat → Nat → α) : List (List α) := (List.range n).map fun i => (List.range s).map fun k => f i k
theorem lsF_len : ∀ (cs : List (Nat × List (Int × Int))) (R : List (List (Int × Int))), (lsF cs R).length = R.length := by
  intro cs
  induction cs with
  | nil => intro R; rfl
  | cons c cs ih => intro R; simp only [lsF]; rw [ih, List.length_set]
theorem set_rows {R : List (List (Int × Int))} {s j : Nat} {l : List (Int × Int)} (hR : ∀ x ∈ R, x.length = s) (hj : j < R.length) (hl : l.length = s) : ∀ x ∈ R.set j (addR (R.getD j []) l), x.length = s := by
  intro x hx
  have hm : (R.getD j []) ∈ R := by
    rw [List.getD_eq_getElem?_getD, List.getElem?_eq_getElem hj]; exact List.getElem_mem hj
  rcases List.mem_or_eq_of_mem_set hx with h | h
  · exact hR x h
  · rw [h]; unfold addR; rw [List.length_zipWith, hR _ hm, hl, Nat.min_self]
theorem tab_self {R : List (List (Int × Int))} {s : Nat} (hR : ∀ x ∈ R, x.length = s) : R = tab R.length s fun i k => (R.getD i []).getD k (0, 0) := by
  unfold tab
  apply List.ext_getElem
  · simp
  · intro i h1 h2
    have hs := hR _ (List.getElem_mem h1)
    simp only [List.getElem_map, List.getElem_range]
    apply List.ext_getElem
    · simp [hs]
    · intro k h3 h4
      simp [List.getD_eq_getElem?_getD, List.getElem?_eq_getElem h1, List.getElem?_eq_getElem h3]
theorem lsF_tab (s : Nat) : ∀ (cs : List (Nat × List (Int × Int))) (R : List (List (Int × Int))), (∀ x ∈ R, x.length = s) → (∀ c ∈ cs, c.1 < R.length ∧ c.2.length = s) →
    lsF cs R = tab R.length s fun i k => lossF i k cs ((R.getD i []).getD k (0, 0)) := by
  intro cs
  induction cs with
  | nil => intro R hR _; exact tab_self hR
  | cons c cs ih =>
    intro R hR hc
    obtain ⟨c1, c2⟩ := hc c (by simp)
    simp only [lsF]
    rw [ih _ (set_rows hR c1 c2) (fun d hd => by rw [List.length_set]; exact hc d (by simp [hd])), List.length_set]
    unfold tab
    apply List.map_congr_left
    intro i hi
    rw [List.mem_range] at hi
    apply List.map_congr_left
    intro k hk
    rw [List.mem_range] at hk
    simp only [lossF]
    congr 1
    by_cases h : c.1 = i
    · subst h
      have e1 : (R.set c.1 (addR (R.getD c.1 []) c.2)).getD c.1 [] = addR (R.getD c.1 []) c.2 := by
        rw [List.getD_eq_getElem?_getD, List.getElem?_set_self hi]; rfl
      rw [e1, if_pos rfl]
      have e2 : (R.getD c.1 []).length = s := hR _ (by rw [List.getD_eq_getElem?_getD, List.getElem?_eq_getElem hi]; exact List.getElem_mem hi)
      generalize R.getD c.1 [] = y at e2 ⊢
      unfold addR
      simp only [List.getD_eq_getElem?_getD, List.getElem?_zipWith]
      have q1 : y[k]? = some (y[k]'(by omega)) := List.getElem?_eq_getElem _
      have q2 : c.2[k]? = some (c.2[k]'(by omega)) := List.getElem?_eq_getElem _
      rw [q1, q2]
      rfl
    · have e1 : (R.set c.1 (addR (R.getD c.1 []) c.2)).getD i [] = R.getD i [] := by
        rw [List.getD_eq_getElem?_getD, List.getElem?_set_ne h, ← List.getD_eq_getElem?_getD]
      rw [e1, if_neg h]
def bdB (nz n : Int) (x : Int × Int) : Bool := decide (n < Go.IntKind.i64.wrap (x.1 - nz)) || decide (Go.IntKind.i64.wrap (x.2 + nz) < n)
def rowP (nz : Int) (i : Nat) : Nat → List Int → List (Int × Int) → List (Int × Int)
  | k, n :: r, x :: l => bif bdB nz n x then ((i : Int), (k : Int)) :: rowP nz i (k + 1) r l else rowP nz i (k + 1) r l
  | _, _, _ => []
def allP (nz : Int) : Nat → List (List Int) → List (List (Int × Int)) → List (Int × Int)
  | i, r :: R, l :: L => rowP nz i 0 r l ++ allP nz (i + 1) R L
  | _, _, _ => []
theorem rowP_len (nz : Int) (i : Nat) : ∀ (r : List Int) (k : Nat) (l : List (Int × Int)), (rowP nz i k r l).length ≤ r.length := by
  intro r
  induction r with
  | nil => intro k l; simp [rowP]
  | cons n r ih =>
    intro k l
    cases l with
    | nil => simp [rowP]
    | cons x l =>
      simp only [rowP]
      cases bdB nz n x
      · simp; exact Nat.le_succ_of_le (ih _ _)
      · simp; exact ih _ _
theorem allP_len (nz : Int) (s : Nat) : ∀ (R : List (List Int)) (i : Nat) (L : List (List (Int × Int))), (∀ r ∈ R, r.length ≤ s) → (allP nz i R L).length ≤ R.length * s := by
  intro R
  induction R with
  | nil => intro i L h; simp [allP]
  | cons r R ih =>
    intro i L h
    cases L with
    | nil => simp [allP]
    | cons l L =>
      simp only [allP, List.length_append, List.length_cons]
      have h1 := rowP_len nz i r 0 l
      have h2 := h r (by simp)
      have h3 := ih (i + 1) L (fun x hx => h x (by simp [hx]))
      rw [Nat.add_mul]; omega
def cPr (c : Cz) : Nat × List (Int × Int) := (c.c.toNat, c.l)
def cAt (p : Pk) (i : Int) : Cz := (p.c[i.toNat]?).getD ⟨[], 0, false, []⟩
def csq (p : Pk) (st : List Int) : List (Nat × List (Int × Int)) := st.map fun i => cPr (cAt p i)
def ls0 (p : Pk) : List (List (Int × Int)) := p.v.map fun r => z0 r.2.length
def lss (p : Pk) (st : List Int) : List (List (Int × Int)) := lsF (csq p st) (ls0 p)
abbrev Vst (p : Pk) (st : List Int) : Prop := ∀ i ∈ st, 0 ≤ i ∧ i < (p.c.length : Int)
theorem cAt_ok {p : Pk} (ho : Ok p) {i : Int} (h : 0 ≤ i ∧ i < (p.c.length : Int)) : p.c[i.toNat]? = some (cAt p i) ∧ 0 ≤ (cAt p i).c ∧ (cAt p i).c < p.v.length ∧ (cAt p i).l.length = slots p := by
  have hlt : i.toNat < p.c.length := by omega
  have hg : p.c[i.toNat]? = some p.c[i.toNat] := List.getElem?_eq_getElem hlt
  have hc : cAt p i = p.c[i.toNat] := by unfold cAt; rw [hg]; rfl
  rw [hc]
  exact ⟨hg, ho.ca _ (List.getElem_mem hlt)⟩
theorem part_0 (x l : List (Int × Int)) : part x l 0 = x := by simp [part]
theorem loop123 (p : Pk) (ho : Ok p) (sb : Bool) (z : Nat) (st : List Int) (hs : st.length < 1000000) (hv : Vst p st) (hz : st ≠ [] → z = 1) : ∀ t, t ≤ st.length → ∀ R, R.length = p.v.length → (∀ x ∈ R, x.length = slots p) →
    L123 p R sb z st t = L123 p (lsF (csq p (st.drop t)) R) sb z st st.length := by
  refine down_ind st.length ?_ fun t ht ih => ?_
  · intro R _ _
    rw [List.drop_of_length_le (Nat.le_refl _)]
    rfl
  · intro R hR hx
    obtain ⟨h1, h2, h3, h4, h5⟩ := idx_in ht (by omega)
    have hz1 := hz (fun e => by rw [e] at ht; cases ht)
    subst hz1
    have hi := hv _ (List.getElem_mem ht)
    obtain ⟨hg, k1, k2, k3⟩ := cAt_ok ho hi
    have v1 := ho.v1
    have v8 := ho.v8
    have s8 := ho.s8
    have r0 : 0 < R.length := by omega
    have r8 : R.length ≤ 8 := by omega
    have hjR : (cAt p st[t]).c.toNat < R.length := by omega
    have hxj := hx _ (List.getElem_mem hjR)
    have e := loop123i p R r0 r8 sb 1 st t (cAt p st[t]) (cAt p st[t]).c.toNat (by omega) hjR R[(cAt p st[t]).c.toNat] (by rw [hxj, k3]) (by omega) 0 (by omega)
    rw [part_0, List.set_getElem_self] at e
    rw [head123 p R r0 r8 sb st t ht hs _ (decide_eq_true hi) hg, e, exit123 p _ (by rw [List.length_set]; exact r0) (by rw [List.length_set]; exact r8) sb 1 st t (by omega) _]
    have hgd : R.getD (cAt p st[t]).c.toNat [] = R[(cAt p st[t]).c.toNat] := by rw [List.getD_eq_getElem?_getD, List.getElem?_eq_getElem hjR]; rfl
    have hs2 := set_rows (l := (cAt p st[t]).l) hx hjR k3
    rw [hgd] at hs2
    rw [ih _ (by rw [List.length_set]; exact hR) hs2, h5]
    simp only [csq, List.map_cons, lsF, cPr, hgd]
theorem ls0_len (p : Pk) : (ls0 p).length = p.v.length := by simp [ls0]
theorem ls0_row {p : Pk} (ho : Ok p) : ∀ x ∈ ls0 p, x.length = slots p := by
  intro x hx
  obtain ⟨r, hr, rfl⟩ := List.mem_map.1 hx
  simp [z0, ho.row r hr]
theorem lss_len (p : Pk) (st : List Int) : (lss p st).length = p.v.length := by unfold lss; rw [lsF_len, ls0_len]
theorem c123 (p : Pk) (ho : Ok p) (sb : Bool) (z : Nat) (st : List Int) (hs : st.length < 1000000) (hv : Vst p st) (hz : st ≠ [] → z = 1) : (lim T).call 123 [pkV p, .sl sb z (st.map intV)] [] 0 [] = some (.sl true 1 (((lss p st).map rvT).map rvV), [], 0, []) := by
  have v1 := ho.v1
  have v8 := ho.v8
  have s8 := ho.s8
  have hrow : ∀ r ∈ p.v, r.2.length < 1000 := fun r hr => by rw [ho.row r hr]; omega
  have h := loop123 p ho sb z st hs hv hz 0 (by omega) (ls0 p) (ls0_len p) (ls0_row ho)
  rw [List.drop_zero] at h
  have hE := end123 p (lss p st) (by rw [lss_len]; exact v1) (by rw [lss_len]; exact v8) sb z st
  rw [show lsF (csq p st) (ls0 p) = lss p st from rfl, hE] at h
  clear hE hv
  generalize hL : V.sl true 1 (((lss p st).map rvT).map rvV) = res at h ⊢
  clear hL
  unfold L123 ls0 at h
  clear ho
  obtain ⟨vb, v, n, cb, c⟩ := p
  simp only at v1 v8 hrow h
  rw [ent123]
  rcases cases8 v1 v8 with ⟨a0, rfl⟩ | ⟨a0, a1, rfl⟩ | ⟨a0, a1, a2, rfl⟩ | ⟨a0, a1, a2, a3, rfl⟩ | ⟨a0, a1, a2, a3, a4, rfl⟩ | ⟨a0, a1, a2, a3, a4, a5, rfl⟩ | ⟨a0, a1, a2, a3, a4, a5, a6, rfl⟩ | ⟨a0, a1, a2, a3, a4, a5, a6, a7, rfl⟩
  all_goals simp only [nst, List.length_cons, List.length_nil, Nat.reduceAdd, List.range_succ, List.range_zero, List.nil_append, List.cons_append, List.map_cons, List.map_nil, List.map_append, pkV, rwV, show ((0 : Nat) : Int) = 0 from rfl] at h
  · simp -implicitDefEqProofs only [go_sem, simprocAttr, pkV, c194_1 vb a0 (hrow a0 (by simp)), h]
  · simp -implicitDefEqProofs only [go_sem, simprocAttr, pkV, c194_2 vb a0 a1 (hrow a0 (by simp)) (hrow a1 (by simp)), h]
  · simp -implicitDefEqProofs only [go_sem, simprocAttr, pkV, c194_3 vb a0 a1 a2 (hrow a0 (by simp)) (hrow a1 (by simp)) (hrow a2 (by simp)), h]
  · simp -implicitDefEqProofs only [go_sem, simprocAttr, pkV, c194_4 vb a0 a1 a2 a3 (hrow a0 (by simp)) (hrow a1 (by simp)) (hrow a2 (by simp)) (hrow a3 (by simp)), h]
  · simp -implicitDefEqProofs only [go_sem, simprocAttr, pkV, c194_5 vb a0 a1 a2 a3 a4 (hrow a0 (by simp)) (hrow a1 (by simp)) (hrow a2 (by simp)) (hrow a3 (by simp)) (hrow a4 (by simp)), h]
  · simp -implicitDefEqProofs only [go_sem, simprocAttr, pkV, c194_6 vb a0 a1 a2 a3 a4 a5 (hrow a0 (by simp)) (hrow a1 (by simp)) (hrow a2 (by simp)) (hrow a3 (by simp)) (hrow a4 (by simp)) (hrow a5 (by simp)), h]
  · simp -implicitDefEqProofs only [go_sem, simprocAttr, pkV, c194_7 vb a0 a1 a2 a3 a4 a5 a6 (hrow a0 (by simp)) (hrow a1 (by simp)) (hrow a2 (by simp)) (hrow a3 (by simp)) (hrow a4 (by simp)) (hrow a5 (by simp)) (hrow a6 (by simp)), h]
  · simp -implicitDefEqProofs only [go_sem, simprocAttr, pkV, c194_8 vb a0 a1 a2 a3 a4 a5 a6 a7 (hrow a0 (by simp)) (hrow a1 (by simp)) (hrow a2 (by simp)) (hrow a3 (by simp)) (hrow a4 (by simp)) (hrow a5 (by simp)) (hrow a6 (by simp)) (hrow a7 (by simp)), h]
def L32c (p : Pk) (sb : Bool) (z : Nat) (st : List Int) (o : Option (List (Bool × List (Int × Int)))) (i : Nat) (c : Option (List (Int × Int))) (k : Nat) (x : Int × Int) (j : Nat) : Option Out :=
  (lim T).loop false [.code (.loop b32_2), .inBlock 4, .code r32_16, .inBlock 3, .code r32_8, .inLoop b32_1, .inBlock 2, .code r32_17, .inBlock 1, .code r32_4, .inLoop b32_0, .inBlock 0, .code (.seq r32_18 .ret)]
    ⟨32, 74, 0, [(1, .sl sb z (st.map intV)), (2, .ptr 0 0 0), (5, acV o 1), (6, .int .i64 i), (7, acV c (acI o 1)), (8, .int .i64 k), (9, .ptr (acI c (acI o 1)) 0 0), (10, .int .i64 j)], .cells true true 25 [pkV p] :: (acR rvV o 72 ++ (acR ivV c 142 ++ [.cells true true 142 [ivV x]])), 0, []⟩
theorem lossF_cons (i k : Nat) (c : Nat × List (Int × Int)) (cs : List (Nat × List (Int × Int))) (x : Int × Int) : lossF i k (c :: cs) x = lossF i k cs (if c.1 = i then add2 x (c.2.getD k (0, 0)) else x) := rfl
theorem loop32c (p : Pk) (ho : Ok p) (sb : Bool) (z : Nat) (st : List Int) (hs : st.length < 1000000) (hv : Vst p st) (hz : st ≠ [] → z = 1) (o : Option (List (Bool × List (Int × Int)))) (i : Nat) (c : Option (List (Int × Int))) (k : Nat) (hk : k < slots p) : ∀ j, j ≤ st.length → ∀ x,
    L32c p sb z st o i c k x j = L32c p sb z st o i c k (lossF i k (csq p (st.drop j)) x) st.length := by
  refine down_ind st.length ?_ fun j hj ih => ?_
  · intro x
    rw [List.drop_of_length_le (Nat.le_refl _)]
    rfl
  · intro x
    obtain ⟨h1, h2, h3, h4, h5⟩ := idx_in hj (by omega)
    have hz1 := hz (fun e => by rw [e] at hj; cases hj)
    subst hz1
    have hi := hv _ (List.getElem_mem hj)
    obtain ⟨hg, k1, k2, k3⟩ := cAt_ok ho hi
    have hd : decide (0 ≤ st[j] ∧ st[j] < (p.c.length : Int)) = true := decide_eq_true hi
    have s8 := ho.s8
    have hkl : k < (cAt p st[j]).l.length := by omega
    obtain ⟨g1, g2, g3, g4, g5⟩ := idx_in hkl (by omega)
    rw [h5]
    simp only [csq, List.map_cons, cPr]
    rw [lossF_cons]
    have hgd : (cAt p st[j]).l.getD k (0, 0) = (cAt p st[j]).l[k] := by rw [List.getD_eq_getElem?_getD, g3]; rfl
    simp only [hgd]
    have hih := ih
    simp only [csq, cPr] at hih
    rw [← hih]
    clear hih ih
    generalize cAt p st[j] = z at hg k1 k2 k3 hkl g1 g2 g3 g4 g5 hgd ⊢
    cases hb : (z.c == (i : Int))
    · have hn : ¬ z.c.toNat = i := by intro e; simp at hb; omega
      rw [if_neg hn]
      conv => lhs; unfold L32c; rw [loopEq]
      unfold L32c
      cases o with
      | none => cases c with
        | none =>
          simp only [acV_n, acR_n, acI_n, List.nil_append, List.append_nil, pkV, czV]
          simp -implicitDefEqProofs only [go_sem, simprocAttr, h1, h2, h3, h4, hd, hg, hb]
        | some c =>
          simp only [acV_n, acR_n, acI_n, acV_s, acR_s, acI_s, List.nil_append, List.append_nil, List.cons_append, Nat.reduceAdd, pkV, czV]
          simp -implicitDefEqProofs only [go_sem, simprocAttr, h1, h2, h3, h4, hd, hg, hb]
      | some a => cases c with
        | none =>
          simp only [acV_n, acR_n, acI_n, acV_s, acR_s, acI_s, List.nil_append, List.append_nil, List.cons_append, Nat.reduceAdd, pkV, czV]
          simp -implicitDefEqProofs only [go_sem, simprocAttr, h1, h2, h3, h4, hd, hg, hb]
        | some c =>
          simp only [acV_n, acR_n, acI_n, acV_s, acR_s, acI_s, List.nil_append, List.append_nil, List.cons_append, Nat.reduceAdd, pkV, czV]
          simp -implicitDefEqProofs only [go_sem, simprocAttr, h1, h2, h3, h4, hd, hg, hb]
    · have hn : z.c.toNat = i := by simp at hb; omega
      rw [if_pos hn]
      conv => lhs; unfold L32c; rw [loopEq]
      unfold L32c
      cases o with
      | none => cases c with
        | none =>
          simp only [acV_n, acR_n, acI_n, List.nil_append, List.append_nil, pkV, czV]
          simp -implicitDefEqProofs only [go_sem, simprocAttr, h1, h2, h3, h4, hd, hg, hb, g2, g3, add2]
        | some c =>
          simp only [acV_n, acR_n, acI_n, acV_s, acR_s, acI_s, List.nil_append, List.append_nil, List.cons_append, Nat.reduceAdd, pkV, czV]
          simp -implicitDefEqProofs only [go_sem, simprocAttr, h1, h2, h3, h4, hd, hg, hb, g2, g3, add2]
      | some a => cases c with
        | none =>
          simp only [acV_n, acR_n, acI_n, acV_s, acR_s, acI_s, List.nil_append, List.append_nil, List.cons_append, Nat.reduceAdd, pkV, czV]
          simp -implicitDefEqProofs only [go_sem, simprocAttr, h1, h2, h3, h4, hd, hg, hb, g2, g3, add2]
        | some c =>
          simp only [acV_n, acR_n, acI_n, acV_s, acR_s, acI_s, List.nil_append, List.append_nil, List.cons_append, Nat.reduceAdd, pkV, czV]
          simp -implicitDefEqProofs only [go_sem, simprocAttr, h1, h2, h3, h4, hd, hg, hb, g2, g3, add2]
def lsA (p : Pk) (st : List Int) (i k : Nat) : Int × Int := lossF i k (csq p st) (0, 0)
def lsR (p : Pk) (st : List Int) (i : Nat) : List (Int × Int) := (List.range (slots p)).map (lsA p st i)
def L32b (p : Pk) (sb : Bool) (z : Nat) (st : List Int) (o : Option (List (Bool × List (Int × Int)))) (i : Nat) (c : Option (List (Int × Int))) (k : Nat) : Option Out :=
  (lim T).loop false [.code (.loop b32_1), .inBlock 2, .code r32_17, .inBlock 1, .code r32_4, .inLoop b32_0, .inBlock 0, .code (.seq r32_18 .ret)]
    ⟨32, 74, 0, [(1, .sl sb z (st.map intV)), (2, .ptr 0 0 0), (5, acV o 1), (6, .int .i64 i), (7, acV c (acI o 1)), (8, .int .i64 k)], .cells true true 25 [pkV p] :: (acR rvV o 72 ++ acR ivV c 142), 0, []⟩
theorem lsR_len (p : Pk) (st : List Int) (i : Nat) : (lsR p st i).length = slots p := by simp [lsR]
theorem lsR_drop (p : Pk) (st : List Int) (i k : Nat) (hk : k < slots p) : (lsR p st i).drop k = lsA p st i k :: (lsR p st i).drop (k + 1) := by
  rw [List.drop_eq_getElem_cons (by rw [lsR_len]; exact hk)]
  simp [lsR]
theorem slots_r0 {p : Pk} (ho : Ok p) : ∃ r0, p.v[0]? = some r0 ∧ r0.2.length = slots p ∧ decide (0 < (p.v.length : Int)) = true := by
  obtain ⟨r0, h1, h2, h3⟩ := slots_in ho
  exact ⟨r0, h1, by rw [h2, meds_len], h3⟩
theorem loop32b (p : Pk) (ho : Ok p) (sb : Bool) (z : Nat) (st : List Int) (hs : st.length < 1000000) (hv : Vst p st) (hz : st ≠ [] → z = 1) (o : Option (List (Bool × List (Int × Int)))) (i : Nat) : ∀ k, k ≤ slots p → ∀ c, acL c = k →
    L32b p sb z st o i c k = L32b p sb z st o i (acA c ((lsR p st i).drop k)) (slots p) := by
  refine down_ind (slots p) ?_ fun k hk ih => ?_
  · intro c hc
    rw [List.drop_of_length_le (by rw [lsR_len]; exact Nat.le_refl _), acA_0]
  · intro c hc
    have s8 := ho.s8
    have h4 : IntKind.i64.wrap ((k : Int) + 1) = ((k + 1 : Nat) : Int) := by rw [wrap64] <;> omega
    have h1 : decide ((k : Int) < (slots p : Int)) = true := by simp; omega
    obtain ⟨r0, g1, g2, g3⟩ := slots_r0 ho
    have ih' := ih (acA c [lsA p st i k]) (by rw [acL_A, hc]; rfl)
    rw [acA_acA] at ih'
    rw [lsR_drop p st i k hk]
    simp only [List.cons_append, List.nil_append] at ih'
    rw [← ih']
    have hI := loop32c p ho sb z st hs hv hz o i c k hk 0 (by omega) (0, 0)
    rw [List.drop_zero, show lossF i k (csq p st) (0, 0) = lsA p st i k from rfl] at hI
    have hE := idx_out st.length
    have head : L32b p sb z st o i c k = L32c p sb z st o i c k (0, 0) 0 := by
      conv => lhs; unfold L32b; rw [loopEq]
      unfold L32c
      rw [show ((0 : Nat) : Int) = 0 from rfl]
      cases o with
      | none => cases c with
        | none =>
          simp only [acV_n, acR_n, acI_n, List.nil_append, List.append_nil, pkV]
          simp -implicitDefEqProofs only [go_sem, simprocAttr, h1, g1, g2, g3]
        | some c =>
          simp only [acV_n, acR_n, acI_n, acV_s, acR_s, acI_s, List.nil_append, List.append_nil, List.cons_append, Nat.reduceAdd, pkV]
          simp -implicitDefEqProofs only [go_sem, simprocAttr, h1, g1, g2, g3]
      | some a => cases c with
        | none =>
          simp only [acV_n, acR_n, acI_n, acV_s, acR_s, acI_s, List.nil_append, List.append_nil, List.cons_append, Nat.reduceAdd, pkV]
          simp -implicitDefEqProofs only [go_sem, simprocAttr, h1, g1, g2, g3]
        | some c =>
          simp only [acV_n, acR_n, acI_n, acV_s, acR_s, acI_s, List.nil_append, List.append_nil, List.cons_append, Nat.reduceAdd, pkV]
          simp -implicitDefEqProofs only [go_sem, simprocAttr, h1, g1, g2, g3]
    rw [head, hI]
    unfold L32c
    rw [loopEq]
    unfold L32b
    generalize lsA p st i k = x
    cases c with
    | none =>
      have h8 := (row_ok (n := 0) (by omega)).2
      cases o with
      | none =>
        simp only [acA_n, acV_n, acR_n, acI_n, acV_s, acR_s, acI_s, List.nil_append, List.append_nil, List.cons_append, List.map_cons, List.map_nil, Nat.reduceAdd, ivV, pkV]
        simp -implicitDefEqProofs only [go_sem, simprocAttr, hE, h4, h8]
      | some a =>
        simp only [acA_n, acV_n, acR_n, acI_n, acV_s, acR_s, acI_s, List.nil_append, List.append_nil, List.cons_append, List.map_cons, List.map_nil, Nat.reduceAdd, ivV, pkV]
        simp -implicitDefEqProofs only [go_sem, simprocAttr, hE, h4, h8]
    | some c =>
      have h9 : c.length = k := hc
      have h8 := (row_ok (n := c.length) (by omega)).1
      cases o with
      | none =>
        simp only [acA_s, acV_n, acR_n, acI_n, acV_s, acR_s, acI_s, List.nil_append, List.append_nil, List.cons_append, List.map_append, List.map_cons, List.map_nil, Nat.reduceAdd, ivV, pkV]
        simp -implicitDefEqProofs only [go_sem, simprocAttr, hE, h4, h8]
      | some a =>
        simp only [acA_s, acV_n, acR_n, acI_n, acV_s, acR_s, acI_s, List.nil_append, List.append_nil, List.cons_append, List.map_append, List.map_cons, List.map_nil, Nat.reduceAdd, ivV, pkV]
        simp -implicitDefEqProofs only [go_sem, simprocAttr, hE, h4, h8]
def L32 (p : Pk) (sb : Bool) (z : Nat) (st : List Int) (o : Option (List (Bool × List (Int × Int)))) (i : Nat) : Option Out :=
  (lim T).loop false [.code (.loop b32_0), .inBlock 0, .code (.seq r32_18 .ret)]
    ⟨32, 74, 0, [(1, .sl sb z (st.map intV)), (2, .ptr 0 0 0), (5, acV o 1), (6, .int .i64 i)], .cells true true 25 [pkV p] :: acR rvV o 72, 0, []⟩
def lsT (p : Pk) (st : List Int) : List (List (Int × Int)) := (List.range p.v.length).map (lsR p st)
theorem lsT_drop (p : Pk) (st : List Int) (i : Nat) (hi : i < p.v.length) : (lsT p st).drop i = lsR p st i :: (lsT p st).drop (i + 1) := by
  rw [List.drop_eq_getElem_cons (by simp [lsT]; exact hi)]
  simp [lsT]
theorem loop32 (p : Pk) (ho : Ok p) (sb : Bool) (z : Nat) (st : List Int) (hs : st.length < 1000000) (hv : Vst p st) (hz : st ≠ [] → z = 1) : ∀ i, i ≤ p.v.length → ∀ o, acL o = i → L32 p sb z st o i = some (.ret (acO rvV 0 1 (acA o (((lsT p st).drop i).map rvT))), [], 0, []) := by
  have v8 := ho.v8
  refine down_ind p.v.length ?_ fun i hi ih => ?_
  · intro o hO
    unfold L32
    rw [loopEq]
    have h1 := idx_out p.v.length
    rw [List.drop_of_length_le (by simp [lsT]), List.map_nil, acA_0]
    cases o with
    | none => simp -implicitDefEqProofs only [go_sem, simprocAttr, pkV, h1]
    | some a => simp -implicitDefEqProofs only [go_sem, simprocAttr, pkV, h1]
  · intro o hO
    obtain ⟨h1, h2, h3, h4, h5⟩ := idx_in hi (by omega)
    rw [lsT_drop p st i hi, List.map_cons]
    have hI := loop32b p ho sb z st hs hv hz o i 0 (by omega) none rfl
    rw [List.drop_zero] at hI
    have s1 := ho.s1
    have hcA : acA none (lsR p st i) = some (lsR p st i) := by
      cases hc : lsR p st i with
      | nil => have := lsR_len p st i; rw [hc, List.length_nil] at this; omega
      | cons x r => rfl
    rw [hcA] at hI
    have hE := idx_out (slots p)
    obtain ⟨r0, g1, g2, g3⟩ := slots_r0 ho
    have ih' := ih (acA o [rvT (lsR p st i)]) (by rw [acL_A, hO]; rfl)
    rw [acA_acA] at ih'
    have head : L32 p sb z st o i = L32b p sb z st o i none 0 := by
      conv => lhs; unfold L32; rw [loopEq]
      unfold L32b
      rw [show ((0 : Nat) : Int) = 0 from rfl]
      cases o with
      | none =>
        simp only [acV_n, acR_n, acI_n, List.nil_append, List.append_nil, pkV]
        simp -implicitDefEqProofs only [go_sem, simprocAttr, h1]
      | some a =>
        simp only [acV_n, acR_n, acI_n, acV_s, acR_s, acI_s, List.nil_append, List.append_nil, pkV]
        simp -implicitDefEqProofs only [go_sem, simprocAttr, h1]
    rw [head, hI]
    simp only [List.cons_append, List.nil_append] at ih'
    rw [← ih']
    unfold L32b
    rw [loopEq]
    unfold L32
    generalize lsR p st i = y
    cases o with
    | none =>
      have h8 := row_ok (n := 0) (by omega)
      simp only [acA_n, acV_n, acR_n, acI_n, acV_s, acR_s, acI_s, List.nil_append, List.append_nil, List.cons_append, List.map_cons, List.map_nil, Nat.reduceAdd, rvV, rvT, pkV]
      simp -implicitDefEqProofs only [go_sem, simprocAttr, hE, g1, g2, g3, h4, h8.2]
    | some a =>
      have h9 : a.length = i := hO
      have h8 := (row_ok (n := a.length) (by omega)).1
      simp only [acA_s, acV_n, acR_n, acI_n, acV_s, acR_s, acI_s, List.nil_append, List.append_nil, List.cons_append, List.map_append, List.map_cons, List.map_nil, Nat.reduceAdd, rvV, rvT, pkV]
      simp -implicitDefEqProofs only [go_sem, simprocAttr, hE, g1, g2, g3, h4, h8]
theorem c32 (p : Pk) (ho : Ok p) (sb : Bool) (z : Nat) (st : List Int) (hs : st.length < 1000000) (hv : Vst p st) (hz : st ≠ [] → z = 1) : (lim T).call 32 [pkV p, .sl sb z (st.map intV)] [] 0 [] = some (slV 1 (((lsT p st).map rvT).map rvV), [], 0, []) := by
  rw [ent32]
  have h := loop32 p ho sb z st hs hv hz 0 (by omega) none rfl
  rw [List.drop_zero, acO_slV] at h
  unfold L32 at h
  simp only [acV_n, acR_n, show ((0 : Nat) : Int) = 0 from rfl, pkV] at h
  simp -implicitDefEqProofs only [go_sem, simprocAttr, pkV, h]
theorem lsT_eq (p : Pk) (ho : Ok p) (st : List Int) (hv : Vst p st) : lss p st = lsT p st := by
  unfold lss
  rw [lsF_tab (slots p) (csq p st) (ls0 p) (ls0_row ho) (fun c hc => by
    obtain ⟨i, hi, rfl⟩ := List.mem_map.1 hc
    obtain ⟨hg, k1, k2, k3⟩ := cAt_ok ho (hv i hi)
    exact ⟨by rw [ls0_len]; simp only [cPr]; omega, k3⟩), ls0_len]
  unfold tab lsT lsR
  apply List.map_congr_left
  intro i hi
  rw [List.mem_range] at hi
  apply List.map_congr_left
  intro k hk
  rw [List.mem_range] at hk
  unfold lsA
  congr 1
  have hr := ho.row _ (List.getElem_mem hi)
  simp [ls0, z0, List.getD_eq_getElem?_getD, List.getElem?_eq_getElem hi, List.getElem?_replicate, hr, hk]
def L33i (p : Pk) (rb lb : Bool) (R : List (Bool × List Int)) (L : List (Bool × List (Int × Int))) (o : Option (List (Int × Int))) (i k : Nat) : Option Out :=
  (lim T).loop false [.code (.loop b33_1), .inBlock 2, .inBlock 1, .code r33_5, .inLoop b33_0, .inBlock 0, .code (.seq r33_11 .ret)]
    ⟨33, 77, 0, [(2, .ptr 0 0 0), (5, .sl rb 1 (R.map rwV)), (6, .sl lb 1 (L.map rvV)), (7, acV o 1), (8, .int .i64 i), (9, .int .i64 k)], .cells true true 25 [pkV p] :: acR ptV o 100, 0, []⟩
theorem gt_lt (a b : Int) : decide (a > b) = decide (b < a) := rfl
theorem loop33i (p : Pk) (rb lb : Bool) (R : List (Bool × List Int)) (L : List (Bool × List (Int × Int))) (i : Nat) (hi : i < R.length) (hR : R.length ≤ 8) (hL : L.length = R.length) (r : Bool × List Int) (hr : R[i]? = some r) (l : Bool × List (Int × Int)) (hl : L[i]? = some l) (hrl : r.2.length = l.2.length) (hr8 : r.2.length ≤ 8) :
    ∀ k, k ≤ r.2.length → ∀ o, acL o ≤ 8 * i + k → L33i p rb lb R L o i k = L33i p rb lb R L (acA o (rowP p.n i k (r.2.drop k) (l.2.drop k))) i r.2.length := by
  refine down_ind r.2.length ?_ fun k hk ih => ?_
  · intro o _
    rw [List.drop_of_length_le (Nat.le_refl _), show rowP p.n i r.2.length [] (l.2.drop r.2.length) = [] from by unfold rowP; rfl, acA_0]
  · intro o hO
    obtain ⟨h1, h2, h3, h4, h5⟩ := idx_in hk (by omega)
    obtain ⟨g1, g2, g3, g4, g5⟩ := idx_in (l := l.2) (i := k) (by omega) (by omega)
    obtain ⟨q1, q2, q3, q4, q5⟩ := idx_in hi (by omega)
    obtain ⟨m1, m2, m3, m4, m5⟩ := idx_in (l := L) (i := i) (by omega) (by omega)
    rw [h5, g5]
    simp only [rowP, bdB]
    generalize r.2[k] = n at h3 ⊢
    generalize l.2[k]'(by omega) = x at g3 ⊢
    cases hA : decide (n < IntKind.i64.wrap (x.1 - p.n))
    · cases hB : decide (IntKind.i64.wrap (x.2 + p.n) < n)
      · simp only [Bool.or_false, cond_false]
        rw [← ih o (by omega)]
        conv => lhs; unfold L33i; rw [loopEq]
        unfold L33i
        cases o with
        | none =>
          simp only [acV_n, acR_n, pkV]
          simp -implicitDefEqProofs only [go_sem, simprocAttr, rwV, rvV, h1, h2, h3, h4, g2, g3, q2, hr, m2, hl, hA, hB, gt_lt]
        | some a =>
          simp only [acV_s, acR_s, pkV]
          simp -implicitDefEqProofs only [go_sem, simprocAttr, rwV, rvV, h1, h2, h3, h4, g2, g3, q2, hr, m2, hl, hA, hB, gt_lt]
      · simp only [Bool.or_true, cond_true]
        have ih' := ih (acA o [((i : Int), (k : Int))]) (by rw [acL_A]; simp only [List.length_cons, List.length_nil]; omega)
        rw [acA_acA] at ih'
        simp only [List.cons_append, List.nil_append] at ih'
        rw [← ih']
        conv => lhs; unfold L33i; rw [loopEq]
        unfold L33i
        cases o with
        | none =>
          have h8 := row_ok (n := 0) (by omega)
          simp only [acA_n, acV_n, acR_n, acV_s, acR_s, List.map_cons, List.map_nil, ptV, pkV]
          simp -implicitDefEqProofs only [go_sem, simprocAttr, rwV, rvV, h1, h2, h3, h4, g2, g3, q2, hr, m2, hl, hA, hB, gt_lt, h8.2]
        | some a =>
          have h9 : a.length ≤ 8 * i + k := hO
          have h8 := (row_ok (n := a.length) (by omega)).1
          simp only [acA_s, acV_n, acR_n, acV_s, acR_s, List.map_append, List.map_cons, List.map_nil, ptV, pkV]
          simp -implicitDefEqProofs only [go_sem, simprocAttr, rwV, rvV, h1, h2, h3, h4, g2, g3, q2, hr, m2, hl, hA, hB, gt_lt, h8]
    · simp only [Bool.true_or, cond_true]
      have ih' := ih (acA o [((i : Int), (k : Int))]) (by rw [acL_A]; simp only [List.length_cons, List.length_nil]; omega)
      rw [acA_acA] at ih'
      simp only [List.cons_append, List.nil_append] at ih'
      rw [← ih']
      conv => lhs; unfold L33i; rw [loopEq]
      unfold L33i
      cases o with
      | none =>
        have h8 := row_ok (n := 0) (by omega)
        simp only [acA_n, acV_n, acR_n, acV_s, acR_s, List.map_cons, List.map_nil, ptV, pkV]
        simp -implicitDefEqProofs only [go_sem, simprocAttr, rwV, rvV, h1, h2, h3, h4, g2, g3, q2, hr, m2, hl, hA, gt_lt, h8.2]
      | some a =>
        have h9 : a.length ≤ 8 * i + k := hO
        have h8 := (row_ok (n := a.length) (by omega)).1
        simp only [acA_s, acV_n, acR_n, acV_s, acR_s, List.map_append, List.map_cons, List.map_nil, ptV, pkV]
        simp -implicitDefEqProofs only [go_sem, simprocAttr, rwV, rvV, h1, h2, h3, h4, g2, g3, q2, hr, m2, hl, hA, gt_lt, h8]
def L33 (p : Pk) (rb lb : Bool) (R : List (Bool × List Int)) (L : List (Bool × List (Int × Int))) (o : Option (List (Int × Int))) (i : Nat) : Option Out :=
  (lim T).loop false [.code (.loop b33_0), .inBlock 0, .code (.seq r33_11 .ret)]
    ⟨33, 77, 0, [(2, .ptr 0 0 0), (5, .sl rb 1 (R.map rwV)), (6, .sl lb 1 (L.map rvV)), (7, acV o 1), (8, .int .i64 i)], .cells true true 25 [pkV p] :: acR ptV o 100, 0, []⟩
theorem loop33 (p : Pk) (rb lb : Bool) (R : List (Bool × List Int)) (L : List (Bool × List (Int × Int))) (hR : R.length ≤ 8) (hL : L.length = R.length) (s : Nat) (hs : s ≤ 8) (hr : ∀ r ∈ R, r.2.length = s) (hl : ∀ l ∈ L, l.2.length = s) :
    ∀ i, i ≤ R.length → ∀ o, acL o ≤ 8 * i → L33 p rb lb R L o i = some (.ret (acO ptV 0 2 (acA o (allP p.n i ((R.map (·.2)).drop i) ((L.map (·.2)).drop i)))), [], 0, []) := by
  refine down_ind R.length ?_ fun i hi ih => ?_
  · intro o _
    rw [List.drop_of_length_le (by simp), show allP p.n R.length [] ((L.map (·.2)).drop R.length) = [] from by unfold allP; rfl, acA_0]
    unfold L33
    rw [loopEq]
    have h1 := idx_out R.length
    cases o with
    | none => simp -implicitDefEqProofs only [go_sem, simprocAttr, pkV, h1]
    | some a => simp -implicitDefEqProofs only [go_sem, simprocAttr, pkV, h1]
  · intro o hO
    obtain ⟨h1, h2, h3, h4, h5⟩ := idx_in hi (by omega)
    obtain ⟨m1, m2, m3, m4, m5⟩ := idx_in (l := L) (i := i) (by omega) (by omega)
    have r1 := hr _ (List.getElem_mem hi)
    have l1 := hl _ (List.getElem_mem (show i < L.length by omega))
    have e1 : (R.map (·.2)).drop i = R[i].2 :: (R.map (·.2)).drop (i + 1) := by rw [List.drop_eq_getElem_cons (by simpa using hi)]; simp
    have e2 : (L.map (·.2)).drop i = (L[i]'(by omega)).2 :: (L.map (·.2)).drop (i + 1) := by rw [List.drop_eq_getElem_cons (by simp; omega)]; simp
    rw [e1, e2]
    simp only [allP]
    have hI := loop33i p rb lb R L i hi hR hL R[i] h3 (L[i]'(by omega)) m3 (by rw [r1, l1]) (by omega) 0 (by omega) o (by omega)
    rw [List.drop_zero, List.drop_zero] at hI
    have hlen := rowP_len p.n i R[i].2 0 (L[i]'(by omega)).2
    have ih' := ih (acA o (rowP p.n i 0 R[i].2 (L[i]'(by omega)).2)) (by rw [acL_A]; omega)
    rw [acA_acA] at ih'
    rw [← ih']
    have hE := idx_out R[i].2.length
    have head : L33 p rb lb R L o i = L33i p rb lb R L o i 0 := by
      conv => lhs; unfold L33; rw [loopEq]
      unfold L33i
      rw [show ((0 : Nat) : Int) = 0 from rfl]
      cases o with
      | none =>
        simp only [acV_n, acR_n, pkV]
        simp -implicitDefEqProofs only [go_sem, simprocAttr, h1]
      | some a =>
        simp only [acV_s, acR_s, pkV]
        simp -implicitDefEqProofs only [go_sem, simprocAttr, h1]
    rw [head, hI]
    generalize acA o (rowP p.n i 0 R[i].2 (L[i]'(by omega)).2) = o'
    unfold L33i
    rw [loopEq]
    unfold L33
    cases o' with
    | none =>
      simp only [acV_n, acR_n, pkV]
      simp -implicitDefEqProofs only [go_sem, simprocAttr, rwV, hE, h2, h3, h4]
    | some a =>
      simp only [acV_s, acR_s, pkV]
      simp -implicitDefEqProofs only [go_sem, simprocAttr, rwV, hE, h2, h3, h4]
def unx (p : Pk) (st : List Int) : List (Int × Int) := allP p.n 0 ((resT p).map (·.2)) (lsT p st)
theorem resT_ok {p : Pk} (ho : Ok p) : ∀ r ∈ resT p, r.2.length = slots p := by
  intro r hr
  obtain ⟨x, hx, rfl⟩ := List.mem_map.1 hr
  unfold rsT
  have h := rsd_len _ _ ((ok_rows ho x hx).2)
  have := (ok_rows ho x hx).2
  have := meds_len p
  simp only
  omega
theorem lsT_ok {p : Pk} (st : List Int) : ∀ l ∈ (lsT p st).map rvT, l.2.length = slots p := by
  intro l hl
  obtain ⟨x, hx, rfl⟩ := List.mem_map.1 hl
  obtain ⟨i, hi, rfl⟩ := List.mem_map.1 hx
  exact lsR_len p st i
theorem c33 (p : Pk) (ho : Ok p) (sb : Bool) (z : Nat) (st : List Int) (hs : st.length < 1000000) (hv : Vst p st) (hz : st ≠ [] → z = 1) : (lim T).call 33 [pkV p, .sl sb z (st.map intV)] [] 0 [] = some (slV 2 ((unx p st).map ptV), [], 0, []) := by
  rw [ent33]
  have e1 := c22 p ho
  have e2 := c32 p ho sb z st hs hv hz
  have v8 := ho.v8
  have h := loop33 p (!((resT p).map rwV).isEmpty) (!(((lsT p st).map rvT).map rvV).isEmpty) (resT p) ((lsT p st).map rvT) (by simp [resT]; omega) (by simp [resT, lsT]) (slots p) ho.s8 (resT_ok ho) (lsT_ok st) 0 (by omega) none (by simp [acL_n])
  rw [List.drop_zero, List.drop_zero, acO_slV, show ((lsT p st).map rvT).map (·.2) = lsT p st by rw [List.map_map]; exact List.map_id _] at h
  rw [show allP p.n 0 ((resT p).map (·.2)) (lsT p st) = unx p st from rfl] at h
  unfold L33 at h
  simp only [acV_n, acR_n, show ((0 : Nat) : Int) = 0 from rfl, pkV] at h e1 e2
  simp -implicitDefEqProofs only [go_sem, simprocAttr, pkV, e1, e2, h]
def L197 (p : Pk) (rb lb : Bool) (R : List (Bool × List Int)) (L : List (Bool × List (Int × Int))) (d : Nat) (S : Stk) (i : Nat) : Option Out :=
  (lim T).loop false [.code (.loop b197_0), .inBlock 0]
    ⟨197, 57, 0, [(0, .yld d), (2, .pp 1 [.sl lb 1 (L.map rvV)] 0 0), (3, .pp 3 [pkV p] 0 0), (10, .sl rb 1 (R.map rwV)), (11, .int .i64 R.length), (12, .int .i64 i)], [], 0, S⟩
def L197i (p : Pk) (rb lb : Bool) (R : List (Bool × List Int)) (L : List (Bool × List (Int × Int))) (d : Nat) (S : Stk) (i : Nat) (r : Bool × List Int) (k : Nat) : Option Out :=
  (lim T).loop false [.code (.loop b197_1), .inBlock 2, .inBlock 1, .code r197_9, .inLoop b197_0, .inBlock 0]
    ⟨197, 57, 0, [(0, .yld d), (2, .pp 1 [.sl lb 1 (L.map rvV)] 0 0), (3, .pp 3 [pkV p] 0 0), (5, .int .i64 i), (10, .sl rb 1 (R.map rwV)), (11, .int .i64 R.length), (12, .int .i64 i), (17, .sl r.1 1 (r.2.map intV)), (18, .int .i64 r.2.length), (19, .int .i64 k)], [], 0, S⟩
theorem loop197i (p : Pk) (rb lb : Bool) (R : List (Bool × List Int)) (L : List (Bool × List (Int × Int))) (d : Nat) (i : Nat) (hi : i < R.length) (hR : R.length ≤ 8) (hL : L.length = R.length) (r : Bool × List Int) (hr : R[i]? = some r) (l : Bool × List (Int × Int)) (hl : L[i]? = some l) (hrl : r.2.length = l.2.length) (hr8 : r.2.length ≤ 8)
    (rest : List V) (hrest : ∀ S S' b, yldAll T d rest S = some (b, S') → L197 p rb lb R L d S (i + 1) = some (.ret (.tup []), [], 0, S')) :
    ∀ k, k ≤ r.2.length → ∀ S S' b, yldAll T d ((rowP p.n i k (r.2.drop k) (l.2.drop k)).map ptV ++ rest) S = some (b, S') → L197i p rb lb R L d S i r k = some (.ret (.tup []), [], 0, S') := by
  refine down_ind r.2.length ?_ fun k hk ih => ?_
  · intro S S' b h
    rw [List.drop_of_length_le (Nat.le_refl _), show rowP p.n i r.2.length [] (l.2.drop r.2.length) = [] from by unfold rowP; rfl, List.map_nil, List.nil_append] at h
    rw [← hrest _ _ _ h]
    obtain ⟨q1, q2, q3, q4, q5⟩ := idx_in hi (by omega)
    have hE := idx_out r.2.length
    conv => lhs; unfold L197i; rw [loopEq]
    unfold L197
    simp -implicitDefEqProofs only [go_sem, simprocAttr, pkV, hE, q4]
  · intro S S' b h
    obtain ⟨h1, h2, h3, h4, h5⟩ := idx_in hk (by omega)
    obtain ⟨g1, g2, g3, g4, g5⟩ := idx_in (l := l.2) (i := k) (by omega) (by omega)
    obtain ⟨q1, q2, q3, q4, q5⟩ := idx_in hi (by omega)
    obtain ⟨m1, m2, m3, m4, m5⟩ := idx_in (l := L) (i := i) (by omega) (by omega)
    rw [h5, g5] at h
    simp only [rowP, bdB] at h
    generalize r.2[k] = n at h3 h
    generalize l.2[k]'(by omega) = x at g3 h
    cases hA : decide (n < IntKind.i64.wrap (x.1 - p.n))
    · cases hB : decide (IntKind.i64.wrap (x.2 + p.n) < n)
      · simp only [hA, hB, Bool.or_false, cond_false] at h
        rw [← ih _ _ _ h]
        conv => lhs; unfold L197i; rw [loopEq]
        unfold L197i
        simp -implicitDefEqProofs only [go_sem, simprocAttr, pkV, rvV, h1, h2, h3, h4, g2, g3, m2, hl, hA, hB, gt_lt]
      · simp only [hA, hB, Bool.or_true, cond_true, List.map_cons, List.cons_append, yldAll, ptV] at h
        cases hy : (lim T).yld d [.agg [.int .i64 i, .int .i64 k]] S with
        | none => rw [hy] at h; cases h
        | some w =>
          obtain ⟨c, S1⟩ := w
          rw [hy] at h
          cases c
          · simp only [Option.some.injEq, Prod.mk.injEq] at h
            obtain ⟨_, rfl⟩ := h
            unfold L197i
            rw [loopEq]
            simp -implicitDefEqProofs only [go_sem, simprocAttr, pkV, rvV, h1, h2, h3, h4, g2, g3, m2, hl, hA, hB, gt_lt, hy]
          · rw [← ih _ _ _ h]
            conv => lhs; unfold L197i; rw [loopEq]
            unfold L197i
            simp -implicitDefEqProofs only [go_sem, simprocAttr, pkV, rvV, h1, h2, h3, h4, g2, g3, m2, hl, hA, hB, gt_lt, hy]
    · simp only [hA, Bool.true_or, cond_true, List.map_cons, List.cons_append, yldAll, ptV] at h
      cases hy : (lim T).yld d [.agg [.int .i64 i, .int .i64 k]] S with
      | none => rw [hy] at h; cases h
      | some w =>
        obtain ⟨c, S1⟩ := w
        rw [hy] at h
        cases c
        · simp only [Option.some.injEq, Prod.mk.injEq] at h
          obtain ⟨_, rfl⟩ := h
          unfold L197i
          rw [loopEq]
          simp -implicitDefEqProofs only [go_sem, simprocAttr, pkV, rvV, h1, h2, h3, h4, g2, g3, m2, hl, hA, gt_lt, hy]
        · rw [← ih _ _ _ h]
          conv => lhs; unfold L197i; rw [loopEq]
          unfold L197i
          simp -implicitDefEqProofs only [go_sem, simprocAttr, pkV, rvV, h1, h2, h3, h4, g2, g3, m2, hl, hA, gt_lt, hy]
theorem loop197 (p : Pk) (rb lb : Bool) (R : List (Bool × List Int)) (L : List (Bool × List (Int × Int))) (d : Nat) (hR : R.length ≤ 8) (hL : L.length = R.length) (s : Nat) (hs : s ≤ 8) (hr : ∀ r ∈ R, r.2.length = s) (hl : ∀ l ∈ L, l.2.length = s) :
    ∀ i, i ≤ R.length → ∀ S S' b, yldAll T d ((allP p.n i ((R.map (·.2)).drop i) ((L.map (·.2)).drop i)).map ptV) S = some (b, S') → L197 p rb lb R L d S i = some (.ret (.tup []), [], 0, S') := by
  refine down_ind R.length ?_ fun i hi ih => ?_
  · intro S S' b h
    rw [List.drop_of_length_le (by simp), show allP p.n R.length [] ((L.map (·.2)).drop R.length) = [] from by unfold allP; rfl, List.map_nil] at h
    simp only [yldAll, Option.some.injEq, Prod.mk.injEq] at h
    obtain ⟨_, rfl⟩ := h
    unfold L197
    rw [loopEq]
    have h1 := idx_out R.length
    simp -implicitDefEqProofs only [go_sem, simprocAttr, pkV, h1]
  · intro S S' b h
    obtain ⟨h1, h2, h3, h4, h5⟩ := idx_in hi (by omega)
    have r1 := hr _ (List.getElem_mem hi)
    have l1 := hl _ (List.getElem_mem (show i < L.length by omega))
    have e1 : (R.map (·.2)).drop i = R[i].2 :: (R.map (·.2)).drop (i + 1) := by rw [List.drop_eq_getElem_cons (by simpa using hi)]; simp
    have e2 : (L.map (·.2)).drop i = (L[i]'(by omega)).2 :: (L.map (·.2)).drop (i + 1) := by rw [List.drop_eq_getElem_cons (by simp; omega)]; simp
    rw [e1, e2] at h
    simp only [allP, List.map_append] at h
    rw [← loop197i p rb lb R L d i hi hR hL R[i] h3 (L[i]'(by omega)) (List.getElem?_eq_getElem (by omega)) (by rw [r1, l1]) (by omega) _ (fun S S' b h => ih S S' b h) 0 (by omega) S S' b (by rw [List.drop_zero, List.drop_zero]; exact h)]
    conv => lhs; unfold L197; rw [loopEq]
    unfold L197i
    rw [show ((0 : Nat) : Int) = 0 from rfl]
    simp -implicitDefEqProofs only [go_sem, simprocAttr, pkV, rwV, h1, h2, h3]
theorem c197 (p : Pk) (rb lb : Bool) (R : List (Bool × List Int)) (L : List (Bool × List (Int × Int))) (d : Nat) (hR : R.length ≤ 8) (hL : L.length = R.length) (s : Nat) (hs : s ≤ 8) (hr : ∀ r ∈ R, r.2.length = s) (hl : ∀ l ∈ L, l.2.length = s) (S S' : Stk) (b : Bool)
    (h : yldAll T d ((allP p.n 0 (R.map (·.2)) (L.map (·.2))).map ptV) S = some (b, S')) :
    (lim T).call 197 [.yld d, .pp 1 [.sl rb 1 (R.map rwV)] 0 0, .pp 1 [.sl lb 1 (L.map rvV)] 0 0, .pp 3 [pkV p] 0 0] [] 0 S = some (.tup [], [], 0, S') := by
  rw [ent197]
  have e := loop197 p rb lb R L d hR hL s hs hr hl 0 (by omega) S S' b (by rw [List.drop_zero, List.drop_zero]; exact h)
  unfold L197 at e
  simp only [show ((0 : Nat) : Int) = 0 from rfl, pkV] at e
  simp -implicitDefEqProofs only [go_sem, simprocAttr, pkV, e]
theorem c125 (p : Pk) (ho : Ok p) (sb : Bool) (z : Nat) (st : List Int) (hs : st.length < 1000000) (hv : Vst p st) (hz : st ≠ [] → z = 1) : (lim T).call 125 [pkV p, .sl sb z (st.map intV)] [] 0 [] =
    some (.fn 197 [.pp 1 [.sl (!((ress p).map rwV).isEmpty) 1 ((ress p).map rwV)] 0 0, .pp 1 [.sl true 1 (((lsT p st).map rvT).map rvV)] 0 0, .pp 3 [pkV p] 0 0], [], 0, []) := by
  rw [ent125]
  have e1 := c107 p ho
  have e2 := c123 p ho sb z st hs hv hz
  rw [lsT_eq p ho st hv] at e2
  simp only [pkV] at e1 e2
  simp -implicitDefEqProofs only [go_sem, simprocAttr, pkV, e1, e2]
theorem gA {B L : Heap} {N : Nat} (h : B.length = N) : (B ++ L)[N]? = L[0]? := by subst h; rw [List.getElem?_append_right (Nat.le_refl _), Nat.sub_self]
theorem gA1 {B L : Heap} {N : Nat} (h : B.length = N) : (B ++ L)[N + 1]? = L[1]? := by subst h; rw [List.getElem?_append_right (by omega)]; congr 1; omega
theorem sA {B L : Heap} {N : Nat} {r : Row} (h : B.length = N) : (B ++ L).set N r = B ++ L.set 0 r := by subst h; rw [List.set_append_right _ _ (Nat.le_refl _), Nat.sub_self]
theorem round196 (env : Den.Env) (he : lookV env 2 = .ptr 0 0 0) (H : Heap) (m : Nat) (l : List (Int × Int)) (x : Int × Int) (S : Stk) (fl : Bool) (h0 : H[0]? = some (.cells true fl 48 [.ref m])) (hm : H[m]? = some (.cells false true 100 (l.map ptV))) (hm0 : 0 < m) (hll : l.length < 1000) (N : Nat) (hN : H.length = N) (hmN : m < N) :
    runK (lim T) T true segFuel [.code a196_0, .beginRound, .code c196_0] ⟨196, 13, N, (7, ptV x) :: env, H, 0, S⟩ =
      some (.round none, (H.set m .dead).set 0 (.cells true false 48 [.ref (N + 2)]) ++ [.cells true true 100 [ptV x], .cells false true 100 [ptV x], .cells false true 100 ((l ++ [x]).map ptV)], 0, S) := by
  have h8 := (row_ok (n := l.length) (by omega)).1
  have n0 : 0 < N := by omega
  have d1 : decide (N < N + 1) = true := by simp
  have d2 : decide (m < N + 2) = true := decide_eq_true (by omega)
  have d3 : decide (0 < N + 3) = true := by simp
  have hd0 : (H.set m .dead)[0]? = some (.cells true fl 48 [.ref m]) := by rw [List.getElem?_set_ne (by omega), h0]
  simp only [List.map_append, List.map_cons, List.map_nil]
  simp -implicitDefEqProofs only [go_sem, simprocAttr, he, h0, hm, hd0, hN, n0, hmN, gA, gA1, sA, List.getElem?_append_left, List.set_append_left, List.append_assoc, List.length_set, h8, d1, d2, d3, Nat.zero_shiftRight, Nat.and_zero, Nat.zero_or]
theorem first196 (env : Den.Env) (he : lookV env 2 = .ptr 0 0 0) (x : Int × Int) (S : Stk) :
    runK (lim T) T true segFuel [.code a196_0, .beginRound, .code c196_0] ⟨196, 13, 1, (7, ptV x) :: env, [.cells true true 48 [.sl false 0 []]], 0, S⟩ =
      some (.round none, [.cells true false 48 [.ref 3], .cells true true 100 [ptV x], .cells false true 100 [ptV x], .cells false true 100 [ptV x]], 0, S) := by
  have h8 := (row_ok (n := 0) (by omega)).2
  simp -implicitDefEqProofs only [go_sem, simprocAttr, he, h8]
def env196 (caps : List V) : Den.Env := [(6, .fn 197 caps), (4, .sl false 0 []), (2, .ptr 0 0 0), (0, .sl false 0 []), (1, .fn 197 caps)]
theorem env196_2 (caps : List V) : lookV (env196 caps) 2 = .ptr 0 0 0 := rfl
def own196 (caps : List V) (H : Heap) : Own := ⟨196, 13, env196 caps, H, 0, [7], a196_0, c196_0, false, none⟩
def Inv196 (H : Heap) (l : List (Int × Int)) : Prop := ∃ m fl, H[0]? = some (.cells true fl 48 [.ref m]) ∧ H[m]? = some (.cells false true 100 (l.map ptV)) ∧ 0 < m ∧ m < H.length
theorem rounds196 (caps : List V) (S : Stk) : ∀ (xs : List (Int × Int)) (H : Heap) (l : List (Int × Int)), Inv196 H l → l.length + xs.length < 1000 →
    ∃ H', Inv196 H' (l ++ xs) ∧ yldAll T S.length (xs.map ptV) (S ++ [own196 caps H]) = some (true, S ++ [own196 caps H']) := by
  intro xs
  induction xs with
  | nil => intro H l hI _; exact ⟨H, by rw [List.append_nil]; exact hI, rfl⟩
  | cons x xs ih =>
    intro H l hI hl
    obtain ⟨m, fl, i1, i2, i3, i4⟩ := hI
    simp only [List.length_cons] at hl
    have hr := round196 (env196 caps) (env196_2 caps) H m l x S fl i1 i2 i3 (by omega) H.length rfl i4
    have hy := yldEq (S := S) (own := own196 caps H) rfl (args := [ptV x]) rfl hr
    have hI2 : Inv196 ((H.set m .dead).set 0 (.cells true false 48 [.ref (H.length + 2)]) ++ [.cells true true 100 [ptV x], .cells false true 100 [ptV x], .cells false true 100 ((l ++ [x]).map ptV)]) (l ++ [x]) := by
      refine ⟨H.length + 2, false, ?_, ?_, by omega, by simp⟩
      · rw [List.getElem?_append_left (by simp; omega), List.getElem?_set_self (by simp; omega)]
      · rw [List.getElem?_append_right (by simp)]
        simp
    obtain ⟨H', j1, j2⟩ := ih _ _ hI2 (by simp; omega)
    refine ⟨H', by rw [List.append_assoc] at j1; exact j1, ?_⟩
    simp only [List.map_cons, yldAll]
    rw [hy]
    exact j2
theorem all196 (caps : List V) (S : Stk) (x : Int × Int) (xs : List (Int × Int)) (hx : xs.length < 900) :
    ∃ H', Inv196 H' (x :: xs) ∧ yldAll T S.length ((x :: xs).map ptV) (S ++ [own196 caps [.cells true true 48 [.sl false 0 []]]]) = some (true, S ++ [own196 caps H']) := by
  have hr := first196 (env196 caps) (env196_2 caps) x S
  have hy := yldEq (S := S) (own := own196 caps [.cells true true 48 [.sl false 0 []]]) rfl (args := [ptV x]) rfl hr
  have hI : Inv196 [.cells true false 48 [.ref 3], .cells true true 100 [ptV x], .cells false true 100 [ptV x], .cells false true 100 [ptV x]] [x] := ⟨3, false, rfl, rfl, by omega, by simp⟩
  obtain ⟨H', j1, j2⟩ := rounds196 caps S xs _ _ hI (by simp; omega)
  refine ⟨H', j1, ?_⟩
  simp only [List.map_cons, yldAll]
  rw [hy]
  exact j2
abbrev Call197 (caps : List V) (xs : List (Int × Int)) : Prop := ∀ S S' b, yldAll T 0 (xs.map ptV) S = some (b, S') → (lim T).call 197 (.yld 0 :: caps) [] 0 S = some (.tup [], [], 0, S')
theorem c196 (caps : List V) (hc : idsL caps = []) (hy : yldL caps = false) (xs : List (Int × Int)) (hx : xs.length < 900) (hcall : Call197 caps xs) : (lim T).call 196 [.sl false 0 [], .fn 197 caps] [] 0 [] = some (slV 2 (xs.map ptV), [], 0, []) := by
  rw [ent196]
  simp -implicitDefEqProofs only [go_sem, simprocAttr, hc]
  cases xs with
  | nil =>
    have e : (lim T).call 197 (.yld (List.length ([] : Stk)) :: caps) [] 0 ([] ++ [⟨196, 13, env196 caps, [.cells true true 48 [.sl false 0 []]], 0, (#[7] : Array Nat).toList, a196_0, c196_0, false, none⟩]) = some (.tup [], [], 0, [] ++ [own196 caps [.cells true true 48 [.sl false 0 []]]]) := hcall _ _ _ rfl
    unfold env196 at e
    rw [rangeRun (f := .tmp 6) (g := 197) (caps := caps) (S := []) (ps := #[7]) rfl hc hy fct197.1 fct197.2.1 res197 rfl (own' := own196 caps [.cells true true 48 [.sl false 0 []]]) e]
    simp only [own196, env196]
    simp -implicitDefEqProofs only [go_sem, simprocAttr]
    rfl
  | cons x xs =>
    obtain ⟨H', ⟨m, fl, i1, i2, i3, i4⟩, j2⟩ := all196 caps [] x xs (by simp at hx; omega)
    have e : (lim T).call 197 (.yld (List.length ([] : Stk)) :: caps) [] 0 ([] ++ [⟨196, 13, env196 caps, [.cells true true 48 [.sl false 0 []]], 0, (#[7] : Array Nat).toList, a196_0, c196_0, false, none⟩]) = some (.tup [], [], 0, [] ++ [own196 caps H']) := hcall _ _ _ j2
    unfold env196 at e
    rw [rangeRun (f := .tmp 6) (g := 197) (caps := caps) (S := []) (ps := #[7]) rfl hc hy fct197.1 fct197.2.1 res197 rfl (own' := own196 caps H') e]
    simp only [own196, env196]
    simp -implicitDefEqProofs only [go_sem, simprocAttr, i1, i2]
    rfl
theorem c124 (caps : List V) (hc : idsL caps = []) (hy : yldL caps = false) (xs : List (Int × Int)) (hx : xs.length < 900) (hcall : Call197 caps xs) : (lim T).call 124 [.fn 197 caps] [] 0 [] = some (.sl (!(xs.map ptV).isEmpty) 2 (xs.map ptV), [], 0, []) := by
  rw [ent124]
  have e := c196 caps hc hy xs hx hcall
  simp -implicitDefEqProofs only [go_sem, simprocAttr, hc, hy, e]
def env126 (p : Pk) (sb : Bool) (z : Nat) (st : List Int) (caps : List V) : Den.Env := [(7, .fn 197 caps), (6, .sl sb z (st.map intV)), (5, pkV p), (4, .ptr 1 0 0), (2, .ptr 0 0 0), (0, pkV p), (1, .sl sb z (st.map intV))]
def H126 (p : Pk) : Heap := [.cells true true 34 [pkV p], .cells true true 4 [.bool false]]
theorem first126 (p : Pk) (env : Den.Env) (he : lookV env 4 = .ptr 1 0 0) (x : Int × Int) (S : Stk) :
    runK (lim T) T true segFuel [.code a126_0, .beginRound, .code c126_0] ⟨126, 9, 2, (8, ptV x) :: env, H126 p, 0, S⟩ = some (.round (some .ret), H126 p, 0, S) := by
  unfold H126
  simp -implicitDefEqProofs only [go_sem, simprocAttr, he]
theorem c126 (p : Pk) (sb : Bool) (z : Nat) (st : List Int) (caps : List V) (hc : idsL caps = []) (hy : yldL caps = false) (xs : List (Int × Int)) (hcall : Call197 caps xs) (e1 : (lim T).call 125 [pkV p, .sl sb z (st.map intV)] [] 0 [] = some (.fn 197 caps, [], 0, [])) :
    (lim T).call 126 [pkV p, .sl sb z (st.map intV)] [] 0 [] = some (.bool xs.isEmpty, [], 0, []) := by
  rw [ent126]
  simp only [pkV] at e1
  simp -implicitDefEqProofs only [go_sem, simprocAttr, pkV, e1, hc]
  cases xs with
  | nil =>
    have e : (lim T).call 197 (.yld (List.length ([] : Stk)) :: caps) [] 0 ([] ++ [⟨126, 9, env126 p sb z st caps, H126 p, 0, (#[8] : Array Nat).toList, a126_0, c126_0, false, none⟩]) = some (.tup [], [], 0, [] ++ [⟨126, 9, env126 p sb z st caps, H126 p, 0, [8], a126_0, c126_0, false, none⟩]) := hcall _ _ _ rfl
    unfold env126 H126 pkV at e
    rw [rangeRun (f := .tmp 7) (g := 197) (caps := caps) (S := []) (ps := #[8]) rfl hc hy fct197.1 fct197.2.1 res197 rfl e]
    simp -implicitDefEqProofs only [go_sem, simprocAttr]
  | cons x xs =>
    have hr := first126 p (env126 p sb z st caps) rfl x []
    have hY := yldEq (S := []) (own := ⟨126, 9, env126 p sb z st caps, H126 p, 0, [8], a126_0, c126_0, false, none⟩) rfl (args := [ptV x]) rfl hr
    have e : (lim T).call 197 (.yld (List.length ([] : Stk)) :: caps) [] 0 ([] ++ [⟨126, 9, env126 p sb z st caps, H126 p, 0, (#[8] : Array Nat).toList, a126_0, c126_0, false, none⟩]) = some (.tup [], [], 0, [] ++ [⟨126, 9, env126 p sb z st caps, H126 p, 0, [8], a126_0, c126_0, true, some .ret⟩]) := hcall _ _ false (by
      have hY' : (lim T).yld 0 [ptV x] [⟨126, 9, env126 p sb z st caps, H126 p, 0, [8], a126_0, c126_0, false, none⟩] = some (false, [⟨126, 9, env126 p sb z st caps, H126 p, 0, [8], a126_0, c126_0, true, some .ret⟩]) := hY
      show (match (lim T).yld 0 [ptV x] [⟨126, 9, env126 p sb z st caps, H126 p, 0, [8], a126_0, c126_0, false, none⟩] with | some (true, S') => yldAll T 0 (xs.map ptV) S' | o => o) = _
      rw [hY']
      rfl)
    unfold env126 H126 pkV at e
    rw [rangeRun (f := .tmp 7) (g := 197) (caps := caps) (S := []) (ps := #[8]) rfl hc hy fct197.1 fct197.2.1 res197 rfl e]
    simp -implicitDefEqProofs only [go_sem, simprocAttr]
theorem fnz2 {a b : Int} (h : fnz [a, b] = 0) : a = 0 ∧ b = 0 := by
  simp only [fnz] at h
  by_cases h1 : a = 0
  · by_cases h2 : b = 0
    · exact ⟨h1, h2⟩
    · simp [h1, h2] at h
  · simp [h1] at h
def unq (p : Pk) (st : List Int) : List (Int × Int) := allP p.n 0 ((ress p).map (·.2)) (lsT p st)
theorem ress_ok {p : Pk} (ho : Ok p) : ∀ r ∈ ress p, r.2.length = slots p := by
  intro r hr
  obtain ⟨x, hx, rfl⟩ := List.mem_map.1 hr
  have h := rsd_len _ _ ((ok_rows ho x hx).2)
  have h2 := (ok_rows ho x hx).2
  have h3 := meds_len p
  simp only [rsR]
  omega
theorem unq_len {p : Pk} (ho : Ok p) (st : List Int) : (unq p st).length ≤ 64 := by
  have h := allP_len p.n 8 ((ress p).map (·.2)) 0 (lsT p st) (fun r hr => by
    obtain ⟨x, hx, rfl⟩ := List.mem_map.1 hr
    have := ress_ok ho x hx
    have := ho.s8
    omega)
  have v8 := ho.v8
  simp only [List.length_map, show (ress p).length = p.v.length by simp [ress]] at h
  unfold unq
  omega
abbrev cap125 (p : Pk) (st : List Int) : List V := [.pp 1 [.sl (!((ress p).map rwV).isEmpty) 1 ((ress p).map rwV)] 0 0, .pp 1 [.sl true 1 (((lsT p st).map rvT).map rvV)] 0 0, .pp 3 [pkV p] 0 0]
theorem call125 (p : Pk) (ho : Ok p) (st : List Int) : Call197 (cap125 p st) (unq p st) := by
  intro S S' b h
  have v8 := ho.v8
  refine c197 p _ _ (ress p) ((lsT p st).map rvT) 0 (by simp [ress]; omega) (by simp [ress, lsT]) (slots p) ho.s8 (ress_ok ho) (lsT_ok st) S S' b ?_
  rw [show ((lsT p st).map rvT).map (·.2) = lsT p st by rw [List.map_map]; exact List.map_id _]
  exact h
theorem cap_pure (p : Pk) (st : List Int) : idsL (cap125 p st) = [] ∧ yldL (cap125 p st) = false := ⟨rfl, rfl⟩
theorem c103n (z : Nat) : (lim T).call 103 [.sl false z [], .sl false 0 []] [] 0 [] = some (.bool true, [], 0, []) := by
  rw [ent103]
  simp -implicitDefEqProofs only [go_sem, simprocAttr]
  rw [loopEq]
  simp -implicitDefEqProofs only [go_sem, simprocAttr]
theorem c35z (z : Nat) (E : Int) (h : ¬ E = 0) : (lim T).call 35 [.sl false z [], .int .i64 E, .int .i64 E, .sl false 0 []] [] 0 [] = some (.bool true, [], 0, []) := by
  rw [ent35]
  have h1 : (E != 0) = true := by simpa using h
  have h2 : (E == E) = true := by simp
  simp -implicitDefEqProofs only [go_sem, simprocAttr, h1, h2, c103n]
theorem c35 (b c : Bool) (l : List (Int × Int)) (hl : l.length < 1000000) : (lim T).call 35 [.sl b 2 (l.map ptV), .int .i64 0, .int .i64 0, .sl c 2 (l.map ptV)] [] 0 [] = some (.bool true, [], 0, []) := by
  rw [ent35]
  have e := c103 b c l l hl
  rw [show decide (l = l) = true by simp] at e
  simp -implicitDefEqProofs only [go_sem, simprocAttr, e]
theorem slots_own (p : Pk) : slots (ownP p) = slots p := by
  unfold slots ownP
  simp only [List.getElem?_map]
  cases p.v[0]? <;> rfl
theorem csq_own (p : Pk) (st : List Int) : csq (ownP p) st = csq p st := by
  unfold csq cPr cAt ownP
  apply List.map_congr_left
  intro i _
  simp only [List.getElem?_map]
  cases p.c[i.toNat]? <;> rfl
theorem lsT_own (p : Pk) (st : List Int) : lsT (ownP p) st = lsT p st := by
  unfold lsT lsR lsA
  rw [slots_own, csq_own]
  unfold ownP
  simp only [List.length_map]
theorem unq_own (p : Pk) (st : List Int) : unq (ownP p) st = unx p st := by
  unfold unq unx
  rw [lsT_own, ress_same]
  rfl
theorem unx_len {p : Pk} (ho : Ok p) (st : List Int) : (unx p st).length ≤ 64 := by
  have h := allP_len p.n 8 ((resT p).map (·.2)) 0 (lsT p st) (fun r hr => by
    obtain ⟨x, hx, rfl⟩ := List.mem_map.1 hr
    have := resT_ok ho x hx
    have := ho.s8
    omega)
  have v8 := ho.v8
  simp only [List.length_map, show (resT p).length = p.v.length by simp [resT]] at h
  unfold unx
  omega
def cmpI (x y : Int) : Int := bif decide (x < y) then -1 else bif decide (y < x) then 1 else 0
theorem c207 (x y : Int) : (lim T).call 207 [.int .i64 x, .int .i64 y] [] 0 [] = some (.int .i64 (cmpI x y), [], 0, []) := by
  rw [ent207]
  unfold cmpI
  cases h : decide (x < y)
  · cases h2 : decide (y < x)
    · simp -implicitDefEqProofs only [go_sem, simprocAttr, c234, h, h2, gt_lt]
    · simp -implicitDefEqProofs only [go_sem, simprocAttr, c234, h, h2, gt_lt]
  · simp -implicitDefEqProofs only [go_sem, simprocAttr, c234, h]
def cmpL : List Int → List Int → Int
  | [], [] => 0
  | [], _ :: _ => -1
  | _ :: _, [] => 1
  | a :: r, b :: s => bif cmpI a b != 0 then cmpI a b else cmpL r s
theorem loop208 (b c : Bool) (y z : Nat) (l m : List Int) (hy : l ≠ [] → y = 1) (hz : m ≠ [] → z = 1) (hb : l.length < 1000000) (hm : m.length < 1000000) : ∀ i, i ≤ l.length → i ≤ m.length → (lim T).loop false [.code (.loop b208_0), .inBlock 0, .code (.seq (.seq r208_11 (.cond (.tmp 35) (.seq r208_12 .ret) .skip)) (.seq r208_13 .ret))] ⟨208, 36, 0, [(0, .sl b y (l.map intV)), (1, .sl c z (m.map intV)), (9, .sl b y (l.map intV)), (10, .int .i64 l.length), (11, .int .i64 i)], [], 0, []⟩ =
    some (.ret (.int .i64 (cmpL (l.drop i) (m.drop i))), [], 0, []) := by
  refine down_ind l.length ?_ fun i hi ih => ?_
  · intro hm2
    have h1 := idx_out l.length
    rw [loopEq, List.drop_of_length_le (Nat.le_refl _)]
    by_cases h : l.length < m.length
    · have h2 : decide ((l.length : Int) < (m.length : Int)) = true := by simp; omega
      rw [List.drop_eq_getElem_cons h]
      simp -implicitDefEqProofs only [go_sem, simprocAttr, h1, h2]
      rfl
    · have h2 : decide ((l.length : Int) < (m.length : Int)) = false := by simp; omega
      rw [List.drop_of_length_le (by omega)]
      simp -implicitDefEqProofs only [go_sem, simprocAttr, h1, h2]
      rfl
  · intro hm2
    obtain ⟨h1, h2, h3, h4, h5⟩ := idx_in hi (by omega)
    have hy1 := hy (fun e => by rw [e] at hi; cases hi)
    subst hy1
    rw [loopEq, h5]
    by_cases h : i < m.length
    · obtain ⟨g1, g2, g3, g4, g5⟩ := idx_in h (by omega)
      have hz1 := hz (fun e => by rw [e] at h; cases h)
      subst hz1
      rw [g5]
      simp only [cmpL]
      have h6 : decide ((i : Int) ≥ (m.length : Int)) = false := by simp; omega
      have h6' : decide ((m.length : Int) ≤ (i : Int)) = false := by simp; omega
      cases h7 : (cmpI l[i] m[i] != 0)
      · simp only [cond_false]
        rw [← ih (by omega)]
        simp -implicitDefEqProofs only [go_sem, simprocAttr, h1, h2, h3, h4, g2, g3, h6, h6', c207, h7]
      · simp -implicitDefEqProofs only [go_sem, simprocAttr, h1, h2, h3, h4, g2, g3, h6, h6', c207, h7]
    · have h6 : decide ((i : Int) ≥ (m.length : Int)) = true := by simp; omega
      have h6' : decide ((m.length : Int) ≤ (i : Int)) = true := by simp; omega
      rw [show m.drop i = [] from List.drop_of_length_le (by omega)]
      simp -implicitDefEqProofs only [go_sem, simprocAttr, h1, h2, h3, h4, h6, h6']
      rfl
theorem c208 (b c : Bool) (y z : Nat) (l m : List Int) (hy : l ≠ [] → y = 1) (hz : m ≠ [] → z = 1) (hb : l.length < 1000000) (hm : m.length < 1000000) : (lim T).call 208 [.sl b y (l.map intV), .sl c z (m.map intV)] [] 0 [] = some (.int .i64 (cmpL l m), [], 0, []) := by
  rw [ent208]
  have h := loop208 b c y z l m hy hz hb hm 0 (by omega) (by omega)
  rw [show ((0 : Nat) : Int) = 0 from rfl, List.drop_zero, List.drop_zero] at h
  simp -implicitDefEqProofs only [go_sem, simprocAttr, h]
theorem c206 (x y : Int) : (lim T).call 206 [.sl true 1 [.int .i64 x, .int .i64 y]] [] 0 [] = some (.int .i64 (bif x != 0 then x else y), [], 0, []) := by
  rw [ent206]
  simp -implicitDefEqProofs only [go_sem, simprocAttr]
  rw [loopEq]
  cases h : (x != 0)
  · simp -implicitDefEqProofs only [go_sem, simprocAttr, h, wrap64]
    rw [loopEq]
    cases h2 : (y != 0)
    · have : y = 0 := by simpa using h2
      simp -implicitDefEqProofs only [go_sem, simprocAttr, h2, wrap64]
      rw [loopEq]
      simp -implicitDefEqProofs only [go_sem, simprocAttr]
      rw [this]
    · simp -implicitDefEqProofs only [go_sem, simprocAttr, h2]
  · simp -implicitDefEqProofs only [go_sem, simprocAttr, h]
def cmpS (l m : List Int) : Int := bif cmpI l.length m.length != 0 then cmpI l.length m.length else cmpL l m
theorem c205 (b c : Bool) (y z : Nat) (l m : List Int) (hy : l ≠ [] → y = 1) (hz : m ≠ [] → z = 1) (hb : l.length < 1000000) (hm : m.length < 1000000) : (lim T).call 205 [.sl b y (l.map intV), .sl c z (m.map intV)] [] 0 [] = some (.int .i64 (cmpS l m), [], 0, []) := by
  rw [ent205]
  have e := c208 b c y z l m hy hz hb hm
  unfold cmpS
  simp -implicitDefEqProofs only [go_sem, simprocAttr, c207, e, c206]
def dInts : List V → Option (List Int)
  | [] => some []
  | .int .i64 n :: r => (match dInts r with | some l => some (n :: l) | none => none)
  | _ :: _ => none
theorem dInts_ok : ∀ {vs l}, dInts vs = some l → vs = l.map intV
  | [], l, h => by cases h; rfl
  | v :: r, l, h => by
    unfold dInts at h
    split at h
    · rename_i h0; cases h0
    · rename_i n r' h0
      cases h0
      split at h
      · rename_i l' hl
        cases h
        rw [dInts_ok hl]; rfl
      · cases h
    · cases h
def lenOk (l : List Int) (y : Nat) : Bool := Nat.ble l.length 1000 && (Nat.beq l.length 0 || Nat.beq y 1)
theorem lenOk_ok {l : List Int} {y : Nat} (h : lenOk l y = true) : l.length < 1000000 ∧ (l ≠ [] → y = 1) := by
  unfold lenOk at h
  simp only [Bool.and_eq_true, Bool.or_eq_true] at h
  have h1 := Nat.le_of_ble_eq_true h.1
  refine ⟨by omega, fun hn => ?_⟩
  rcases h.2 with h2 | h2
  · have := Nat.eq_of_beq_eq_true h2
    exact absurd (List.length_eq_zero_iff.1 this) hn
  · exact Nat.eq_of_beq_eq_true h2
def memS (f : FuncId) (args : List V) : Option V :=
  match Nat.beq f 205 with
  | false => none
  | true => (match args with
    | [.sl _ y a, .sl _ z b] => (match dInts a, dInts b with
      | some l, some m => (match lenOk l y && lenOk m z with | true => some (.int .i64 (cmpS l m)) | false => none)
      | _, _ => none)
    | _ => none)
theorem memS_ok (f : FuncId) (args : List V) (v : V) (h : memS f args = some v) : (lim T).call f args [] 0 [] = some (v, [], 0, []) := by
  unfold memS at h
  split at h
  · cases h
  · rename_i hf
    have hf2 := Nat.eq_of_beq_eq_true hf
    subst hf2
    split at h
    · split at h
      · rename_i l m h1 h2
        split at h
        · rename_i h3
          rw [Bool.and_eq_true] at h3
          cases h
          rw [dInts_ok h1, dInts_ok h2]
          exact c205 _ _ _ _ l m (lenOk_ok h3.1).2 (lenOk_ok h3.2).2 (lenOk_ok h3.1).1 (lenOk_ok h3.2).1
        · cases h
      · cases h
    · cases h
def combos : Nat → List Int → List (List Int)
  | 0, _ => [[]]
  | _ + 1, [] => []
  | s + 1, x :: xs => (combos s xs).map (x :: ·) ++ combos (s + 1) xs
def setsN (n : Nat) : List (List Int) := (List.range (n + 1)).flatMap fun s => combos s ((List.range n).map Int.ofNat)
def seV (z : Nat) (l : List Int) : V := .sl (!l.isEmpty) (bif l.isEmpty then z else 1) (l.map fun n => .int .i64 n)
def seZ (n : Nat) : Nat := bif Nat.ble n 3 then 0 else 1
theorem ms0 : (lim T).call 136 [.int .i64 0] [] 0 [] = some (.fn 235 [.pp 1 [.sl true 1 ((setsN 0).map (seV (seZ 0)))] 0 0], [], 0, []) := memF_call memS_ok 100000 (by kernel_rfl)
theorem mt0 : (lim T).call 134 [.int .i64 0] [] 0 [] = some (.sl true 1 ((setsN 0).map (seV 0)), [], 0, []) := memF_call memS_ok 100000 (by kernel_rfl)
theorem ms1 : (lim T).call 136 [.int .i64 1] [] 0 [] = some (.fn 235 [.pp 1 [.sl true 1 ((setsN 1).map (seV (seZ 1)))] 0 0], [], 0, []) := memF_call memS_ok 100000 (by kernel_rfl)
theorem mt1 : (lim T).call 134 [.int .i64 1] [] 0 [] = some (.sl true 1 ((setsN 1).map (seV 0)), [], 0, []) := memF_call memS_ok 100000 (by kernel_rfl)
theorem ms2 : (lim T).call 136 [.int .i64 2] [] 0 [] = some (.fn 235 [.pp 1 [.sl true 1 ((setsN 2).map (seV (seZ 2)))] 0 0], [], 0, []) := memF_call memS_ok 100000 (by kernel_rfl)
theorem mt2 : (lim T).call 134 [.int .i64 2] [] 0 [] = some (.sl true 1 ((setsN 2).map (seV 0)), [], 0, []) := memF_call memS_ok 100000 (by kernel_rfl)
theorem ms3 : (lim T).call 136 [.int .i64 3] [] 0 [] = some (.fn 235 [.pp 1 [.sl true 1 ((setsN 3).map (seV (seZ 3)))] 0 0], [], 0, []) := memF_call memS_ok 100000 (by kernel_rfl)
theorem mt3 : (lim T).call 134 [.int .i64 3] [] 0 [] = some (.sl true 1 ((setsN 3).map (seV 0)), [], 0, []) := memF_call memS_ok 100000 (by kernel_rfl)
theorem ms4 : (lim T).call 136 [.int .i64 4] [] 0 [] = some (.fn 235 [.pp 1 [.sl true 1 ((setsN 4).map (seV (seZ 4)))] 0 0], [], 0, []) := memF_call memS_ok 100000 (by kernel_rfl)
theorem mt4 : (lim T).call 134 [.int .i64 4] [] 0 [] = some (.sl true 1 ((setsN 4).map (seV 0)), [], 0, []) := memF_call memS_ok 100000 (by kernel_rfl)
attribute [go_sem] seV
def seW (l : List Int) : V := .sl (!l.isEmpty) 1 (l.map intV)
attribute [go_sem] seW
theorem seW_c (l : List Int) : seW l = .sl (!l.isEmpty) 1 (l.map intV) := rfl
@[go_sem] theorem asSl_se {α : Type} (z : Nat) (x : List Int) (k : Bool → List V → Option α) : asSl 1 (.sl (!x.isEmpty) (bif x.isEmpty then z else 1) (x.map fun n => .int .i64 n)) k = k (!x.isEmpty) (x.map intV) := by
  cases x with
  | nil => simp [asSl]
  | cons a r => simp [asSl]; rfl
theorem loop235 (z : Nat) (l : List (List Int)) (d : Nat) (hl : l.length < 1000000) : ∀ i, i ≤ l.length → ∀ S S' b, yldAll T d ((l.drop i).map seW) S = some (b, S') →
    (lim T).loop false [.code (.loop b235_0), .inBlock 0] ⟨235, 16, 0, [(0, .yld d), (5, .sl true 1 (l.map (seV z))), (6, .int .i64 l.length), (7, .int .i64 i)], [], 0, S⟩ = some (.ret (.tup []), [], 0, S') := by
  refine down_ind l.length ?_ fun i hi ih => ?_
  · intro S S' b h
    rw [List.drop_of_length_le (Nat.le_refl _)] at h
    simp only [List.map_nil, yldAll, Option.some.injEq, Prod.mk.injEq] at h
    obtain ⟨_, rfl⟩ := h
    have h1 := idx_out l.length
    rw [loopEq]
    simp -implicitDefEqProofs only [go_sem, simprocAttr, h1]
  · intro S S' b h
    obtain ⟨h1, h2, h3, h4, h5⟩ := idx_in hi (by omega)
    rw [h5] at h
    simp only [List.map_cons, yldAll] at h
    generalize l[i] = x at h3 h
    cases hy : (lim T).yld d [seW x] S with
    | none => rw [hy] at h; cases h
    | some w =>
      obtain ⟨c, S1⟩ := w
      rw [hy] at h
      rw [seW_c] at hy
      cases c
      · simp only [Option.some.injEq, Prod.mk.injEq] at h
        obtain ⟨_, rfl⟩ := h
        rw [loopEq]
        simp -implicitDefEqProofs only [go_sem, simprocAttr, h1, h2, h3, h4, hy]
      · rw [← ih _ _ _ h]
        conv => lhs; rw [loopEq]
        simp -implicitDefEqProofs only [go_sem, simprocAttr, h1, h2, h3, h4, hy]
theorem c235 (z : Nat) (l : List (List Int)) (d : Nat) (hl : l.length < 1000000) (S S' : Stk) (b : Bool) (h : yldAll T d (l.map seW) S = some (b, S')) : (lim T).call 235 [.yld d, .pp 1 [.sl true 1 (l.map (seV z))] 0 0] [] 0 S = some (.tup [], [], 0, S') := by
  rw [ent235]
  have e := loop235 z l d hl 0 (by omega) S S' b (by rw [List.drop_zero]; exact h)
  rw [show ((0 : Nat) : Int) = 0 from rfl] at e
  simp -implicitDefEqProofs only [go_sem, simprocAttr, e]
def expl (p : Pk) (l : List (List Int)) : List (List Int) := l.filter fun st => (unq p st).isEmpty
theorem call126 (p : Pk) (ho : Ok p) (st : List Int) (hs : st.length < 1000000) (hv : Vst p st) : (lim T).call 126 [pkV p, seW st] [] 0 [] = some (.bool (unq p st).isEmpty, [], 0, []) := by
  obtain ⟨i1, i2⟩ := cap_pure p st
  exact c126 p _ _ st (cap125 p st) i1 i2 (unq p st) (call125 p ho st) (c125 p ho _ _ st hs hv (fun _ => rfl))
def In198 (p : Pk) (H : Heap) (l : List (List Int)) : Prop := 2 ≤ H.length ∧ H[0]? = some (.cells true true 34 [pkV p]) ∧
  ((l = [] ∧ ∃ fl, H[1]? = some (.cells true fl 22 [.sl false 0 []])) ∨ (l ≠ [] ∧ ∃ m fl, H[1]? = some (.cells true fl 22 [.ref m]) ∧ H[m]? = some (.cells false true 28 (l.map seW)) ∧ 1 < m ∧ m < H.length))
theorem round198 (p : Pk) (ho : Ok p) (env : Den.Env) (he1 : lookV env 1 = .ptr 0 0 0) (he3 : lookV env 3 = .ptr 1 0 0) (H : Heap) (l : List (List Int)) (x : List Int) (hx : x.length < 1000000) (hv : Vst p x) (hll : l.length < 1000) (hI : In198 p H l) (N : Nat) (hN : H.length = N) :
    ∃ H', In198 p H' (l ++ expl p [x]) ∧ runK (lim T) T true segFuel [.code a198_0, .beginRound, .code c198_0] ⟨198, 18, N, (9, seW x) :: env, H, 0, []⟩ = some (.round none, H', 0, []) := by
  obtain ⟨hN2, h0, hI⟩ := hI
  have e := call126 p ho x hx hv
  rw [seW_c] at e
  have n0 : 0 < N := by omega
  have n1 : 1 < N := by omega
  cases hu : (unq p x).isEmpty
  · rw [hu] at e
    refine ⟨H, ?_, ?_⟩
    · rw [show expl p [x] = [] by simp [expl, hu], List.append_nil]
      exact ⟨hN2, h0, hI⟩
    · simp only [pkV] at e h0
      simp -implicitDefEqProofs only [go_sem, simprocAttr, he1, he3, h0, hN, n0, e]
  · rw [hu] at e
    have hex : expl p [x] = [x] := by simp [expl, hu]
    rw [hex]
    have d1 : decide (1 < N + 1) = true := decide_eq_true (by omega)
    have d2 : decide (1 < N + 2) = true := decide_eq_true (by omega)
    simp only [pkV] at e h0
    rcases hI with ⟨rfl, fl, h1⟩ | ⟨hl, m, fl, h1, hm, hm1, hmN⟩
    · refine ⟨H.set 1 (.cells true false 22 [.ref (N + 1)]) ++ [.cells false true 28 [seW x], .cells false true 28 [seW x]], ⟨by simp, ?_, .inr ⟨by simp, N + 1, false, ?_, ?_, by omega, by simp [hN]⟩⟩, ?_⟩
      · rw [List.getElem?_append_left (by simp; omega), List.getElem?_set_ne (by omega), h0, pkV]
      · rw [List.getElem?_append_left (by simp; omega), List.getElem?_set_self (by omega)]
      · rw [gA1 (by simp; exact hN)]; rfl
      · have h8 := (row_ok (n := 0) (by omega)).2
        simp -implicitDefEqProofs only [go_sem, simprocAttr, he1, he3, h0, h1, hN, n0, n1, e, gA, gA1, sA, List.getElem?_append_left, List.set_append_left, List.append_assoc, List.length_set, h8, d1, d2, Nat.zero_shiftRight, Nat.and_zero, Nat.zero_or]
    · have h8 := (row_ok (n := l.length) (by omega)).1
      have d4 : decide (m < N + 1) = true := decide_eq_true (by omega)
      have hmN' : m < N := by omega
      have hd1 : (H.set m .dead)[1]? = some (.cells true fl 22 [.ref m]) := by rw [List.getElem?_set_ne (by omega), h1]
      refine ⟨(H.set m .dead).set 1 (.cells true false 22 [.ref (N + 1)]) ++ [.cells false true 28 [seW x], .cells false true 28 ((l ++ [x]).map seW)], ⟨by simp, ?_, .inr ⟨by simp, N + 1, false, ?_, ?_, by omega, by simp [hN]⟩⟩, ?_⟩
      · rw [List.getElem?_append_left (by simp; omega), List.getElem?_set_ne (by omega), List.getElem?_set_ne (by omega), h0, pkV]
      · rw [List.getElem?_append_left (by simp; omega), List.getElem?_set_self (by simp; omega)]
      · rw [gA1 (by simp; exact hN)]; rfl
      · simp only [List.map_append, List.map_cons, List.map_nil]
        simp -implicitDefEqProofs only [go_sem, simprocAttr, he1, he3, h0, h1, hm, hd1, hN, n0, n1, hmN', e, gA, gA1, sA, List.getElem?_append_left, List.set_append_left, List.append_assoc, List.length_set, h8, d1, d2, d4, Nat.zero_shiftRight, Nat.and_zero, Nat.zero_or]
abbrev cap136 (n : Nat) : List V := [.pp 1 [.sl true 1 ((setsN n).map (seV (seZ n)))] 0 0]
def env198 (p : Pk) : Den.Env := [(8, .fn 235 (cap136 p.c.length)), (7, .int .i64 p.c.length), (6, .sl p.cb 3 (p.c.map czV)), (5, .ptr 0 0 2), (3, .ptr 1 0 0), (2, .sl false 0 []), (1, .ptr 0 0 0), (0, pkV p)]
def own198 (p : Pk) (H : Heap) : Own := ⟨198, 18, env198 p, H, 0, [9], a198_0, c198_0, false, none⟩
theorem expl_cons (p : Pk) (x : List Int) (xs : List (List Int)) : expl p (x :: xs) = expl p [x] ++ expl p xs := by
  unfold expl
  cases h : (unq p x).isEmpty <;> simp [h]
theorem expl_len (p : Pk) (xs : List (List Int)) : (expl p xs).length ≤ xs.length := List.length_filter_le _ _
theorem rounds198 (p : Pk) (ho : Ok p) : ∀ (xs : List (List Int)), (∀ x ∈ xs, x.length < 1000000 ∧ Vst p x) → ∀ (H : Heap) (l : List (List Int)), In198 p H l → l.length + xs.length < 1000 →
    ∃ H', In198 p H' (l ++ expl p xs) ∧ yldAll T 0 (xs.map seW) [own198 p H] = some (true, [own198 p H']) := by
  intro xs
  induction xs with
  | nil => intro _ H l hI _; exact ⟨H, by rw [show expl p [] = [] from rfl, List.append_nil]; exact hI, rfl⟩
  | cons x xs ih =>
    intro hx H l hI hl
    simp only [List.length_cons] at hl
    obtain ⟨x1, x2⟩ := hx x (by simp)
    obtain ⟨H1, hI1, hr⟩ := round198 p ho (env198 p) rfl rfl H l x x1 x2 (by omega) hI H.length rfl
    have hy := yldEq (S := []) (own := own198 p H) rfl (args := [seW x]) rfl hr
    have hlen := expl_len p [x]
    simp only [List.length_cons, List.length_nil] at hlen
    obtain ⟨H', j1, j2⟩ := ih (fun y hy => hx y (by simp [hy])) H1 _ hI1 (by rw [List.length_append]; omega)
    refine ⟨H', by rw [expl_cons, ← List.append_assoc]; exact j1, ?_⟩
    have hy' : (lim T).yld 0 [seW x] [own198 p H] = some (true, [own198 p H1]) := hy
    simp only [List.map_cons, yldAll]
    rw [hy']
    exact j2
abbrev exA (p : Pk) : List (List Int) := expl p (setsN p.c.length)
theorem c198 (p : Pk) (ho : Ok p) (hl : (setsN p.c.length).length ≤ 64) (hs : ∀ x ∈ setsN p.c.length, x.length < 1000000 ∧ Vst p x) (h136 : (lim T).call 136 [.int .i64 p.c.length] [] 0 [] = some (.fn 235 (cap136 p.c.length), [], 0, [])) :
    ∃ H', (exA p = [] ∧ (lim T).call 198 [pkV p] [] 0 [] = some (.sl false 0 [], H', 0, [])) ∨ (exA p ≠ [] ∧ ∃ m, H'[m]? = some (.cells false true 28 ((exA p).map seW)) ∧ (lim T).call 198 [pkV p] [] 0 [] = some (.ref m, H', 0, [])) := by
  obtain ⟨H', ⟨i1, i2, i3⟩, hy⟩ := rounds198 p ho (setsN p.c.length) hs [.cells true true 34 [pkV p], .cells true true 22 [.sl false 0 []]] [] ⟨by simp, rfl, .inl ⟨rfl, true, rfl⟩⟩ (by simp; omega)
  rw [List.nil_append] at i3
  have e : (lim T).call 235 (.yld (List.length ([] : Stk)) :: cap136 p.c.length) [] 0 ([] ++ [⟨198, 18, env198 p, [.cells true true 34 [pkV p], .cells true true 22 [.sl false 0 []]], 0, (#[9] : Array Nat).toList, a198_0, c198_0, false, none⟩]) = some (.tup [], [], 0, [] ++ [own198 p H']) :=
    c235 _ _ 0 (by omega) _ _ true hy
  have e0 := e
  unfold env198 pkV at e0
  have start : ∀ R, retK (runK (lim T) T false 99991 [.inBlock 0, .code (r198_6.seq .ret)] ⟨198, 18, 0, env198 p, H', 0, []⟩) = R → (lim T).call 198 [pkV p] [] 0 [] = R := by
    intro R hR
    rw [ent198]
    simp -implicitDefEqProofs only [go_sem, simprocAttr, pkV, h136]
    rw [rangeRun (f := .tmp 8) (g := 235) (caps := cap136 p.c.length) (S := []) (ps := #[9]) rfl rfl rfl fct235.1 fct235.2.1 res235 rfl e0]
    exact hR
  refine ⟨H', ?_⟩
  rcases i3 with ⟨h1, fl, h2⟩ | ⟨h1, m, fl, h2, h3, h4, h5⟩
  · refine .inl ⟨h1, start _ ?_⟩
    unfold env198
    simp -implicitDefEqProofs only [go_sem, simprocAttr, h2]
  · refine .inr ⟨h1, m, h3, start _ ?_⟩
    unfold env198
    simp -implicitDefEqProofs only [go_sem, simprocAttr, h2]
structure Sok (p : Pk) : Prop where
  len : (setsN p.c.length).length ≤ 64
  el : ∀ x ∈ setsN p.c.length, x.length < 1000000 ∧ Vst p x
  c136 : (lim T).call 136 [.int .i64 p.c.length] [] 0 [] = some (.fn 235 (cap136 p.c.length), [], 0, [])
theorem c128e (p : Pk) (hf : p.fit) (h : ¬ ckPk p = 0) : (lim T).call 128 [pkV p] [] 0 [] = some (.tup [.sl false 0 [], .int .i64 (ckPk p)], [.cells true true 34 [pkV p]], 0, []) := by
  rw [ent128]
  have e1 := c23 p hf
  have h1 : (ckPk p != 0) = true := by simpa using h
  simp only [pkV] at e1
  simp -implicitDefEqProofs only [go_sem, simprocAttr, pkV, e1, h1]
theorem c128n (p : Pk) (hf : p.fit) (h : ckPk p = 0) (hs : Sok p) (hx : exA p = []) : (lim T).call 128 [pkV p] [] 0 [] = some (.tup [.sl false 1 [], .int .i64 18], [.cells true true 34 [pkV p]], 0, []) := by
  rw [ent128]
  have e1 := c23 p hf
  rw [h] at e1
  obtain ⟨H', ⟨h1, e2⟩ | ⟨h1, _⟩⟩ := c198 p (ok_of h) hs.len hs.el hs.c136
  · simp only [pkV] at e1 e2
    simp -implicitDefEqProofs only [go_sem, simprocAttr, pkV, e1, e2, c115]
  · exact absurd hx h1
theorem c128 (p : Pk) (hf : p.fit) (h : ckPk p = 0) (hs : Sok p) (hx : exA p ≠ []) : (lim T).call 128 [pkV p] [] 0 [] = some (.tup [.ref 1, .int .i64 0], [.cells true true 34 [pkV p], .cells false true 28 ((exA p).map seW)], 0, []) := by
  rw [ent128]
  have e1 := c23 p hf
  rw [h] at e1
  have hne : (((exA p).length : Int) == 0) = false := by
    cases hc : exA p with
    | nil => exact absurd hc hx
    | cons a r => simp; omega
  obtain ⟨H', ⟨h1, e2⟩ | ⟨h1, m, h2, e2⟩⟩ := c198 p (ok_of h) hs.len hs.el hs.c136
  · exact absurd h1 hx
  · generalize exA p = E at *
    simp only [pkV] at e1 e2
    simp -implicitDefEqProofs only [go_sem, simprocAttr, pkV, e1, e2, h2, c115, hne]
abbrev rw28 (l : List (List Int)) : Row := .cells false true 28 (l.map seW)
abbrev c22r : Row := .cells true false 22 [.ref 0]
abbrev f130 : V := .fn 130 [.ptr 1 0 0]
structure Cut (x0 : List Int) (l : List (List Int)) (n : Nat) : Prop where
  hx : l[0]? = some x0
  le : n ≤ l.length
  ha : ∀ i (h : i < l.length), i < n → l[i].length ≤ x0.length
  hb : ∀ i (h : i < l.length), n ≤ i → x0.length < l[i].length
  hm : l.length < 1000
abbrev clr (l : List (List Int)) (n : Nat) : List V := (l.map seW).take n ++ (List.replicate (l.length - n) (.sl false 0 []) ++ (l.map seW).drop (n + (l.length - n)))
def idxI (x : Int) : Nat → List Int → Int
  | _, [] => -1
  | i, a :: r => bif x == a then i else idxI x (i + 1) r
theorem loop231 (x : Int) (b : Bool) (z : Nat) (l : List Int) (hz : l ≠ [] → z = 1) (hb : l.length < 1000000) : ∀ i, i ≤ l.length → (lim T).loop false [.code (.loop b231_0), .inBlock 0, .code (.seq r231_7 .ret)] ⟨231, 19, 0, [(0, .sl b z (l.map intV)), (1, .int .i64 x), (7, .int .i64 l.length), (8, .int .i64 i)], [], 0, []⟩ =
    some (.ret (.int .i64 (idxI x i (l.drop i))), [], 0, []) := by
  refine down_ind l.length ?_ fun i hi ih => ?_
  · have h1 := idx_out l.length
    rw [loopEq, List.drop_of_length_le (Nat.le_refl _)]
    simp -implicitDefEqProofs only [go_sem, simprocAttr, h1]
    rfl
  · obtain ⟨h1, h2, h3, h4, h5⟩ := idx_in hi (by omega)
    have hz1 := hz (fun e => by rw [e] at hi; cases hi)
    subst hz1
    rw [loopEq, h5]
    simp only [idxI]
    cases h6 : (x == l[i])
    · simp only [cond_false]
      rw [← ih]
      simp -implicitDefEqProofs only [go_sem, simprocAttr, h1, h2, h3, h4, h6]
    · simp only [cond_true]
      simp -implicitDefEqProofs only [go_sem, simprocAttr, h1, h2, h3, h4, h6]
theorem c231 (x : Int) (b : Bool) (z : Nat) (l : List Int) (hz : l ≠ [] → z = 1) (hb : l.length < 1000000) : (lim T).call 231 [.sl b z (l.map intV), .int .i64 x] [] 0 [] = some (.int .i64 (idxI x 0 l), [], 0, []) := by
  rw [ent231]
  have h := loop231 x b z l hz hb 0 (by omega)
  rw [show ((0 : Nat) : Int) = 0 from rfl, List.drop_zero] at h
  simp -implicitDefEqProofs only [go_sem, simprocAttr, h]
theorem ge_le (a b : Int) : decide (a ≥ b) = decide (b ≤ a) := rfl
structure IsF (f : Nat) (g : Int → Int → Bool) : Prop where
  c : ∀ a b : Int, (lim T).call f [.int .i64 a, .int .i64 b] [] 0 [] = some (.bool (g a b), [], 0, [])
  y : T.byref f = false
  p : T.prim f = none
  r : Res1 T f 4
structure Rok (p : Pk) : Prop where
  len : (setsN p.c.length).length ≤ 64
  el : ∀ x ∈ setsN p.c.length, x.length < 1000000 ∧ Vst p x
  c134 : (lim T).call 134 [.int .i64 p.c.length] [] 0 [] = some (.sl true 1 ((setsN p.c.length).map (seV 0)), [], 0, [])
def exF (p : Pk) (l : List (List Int)) : List (List Int) := l.filter fun st => (unx p st).isEmpty
def exR (p : Pk) : List (List Int) := exF p (setsN p.c.length)
theorem exF_cons (p : Pk) (x : List Int) (l : List (List Int)) : exF p (x :: l) = (bif (unx p x).isEmpty then [x] else []) ++ exF p l := by
  unfold exF
  cases h : (unx p x).isEmpty <;> simp [h]
theorem loop40 (p : Pk) (ho : Ok p) (L : List (List Int)) (hL : L.length ≤ 64) (hl : ∀ x ∈ L, x.length < 1000000 ∧ Vst p x) : ∀ i, i ≤ L.length → ∀ o, acL o ≤ i → (lim T).loop false [.code (.loop b40_0), .inBlock 0, .code (.seq r40_8 .ret)] ⟨40, 32, 0, [(1, .ptr 0 0 0), (3, acV o 1), (4, .sl true 1 (L.map (seV 0))), (5, .int .i64 i)], .cells true true 25 [pkV p] :: acR seW o 28, 0, []⟩ =
    some (.ret (acO seW 0 1 (acA o (exF p (L.drop i)))), [], 0, []) := by
  refine down_ind L.length ?_ fun i hi ih => ?_
  · intro o _
    rw [loopEq, List.drop_of_length_le (Nat.le_refl _), show exF p [] = [] from rfl, acA_0]
    have h1 := idx_out L.length
    cases o with
    | none => simp -implicitDefEqProofs only [go_sem, simprocAttr, pkV, h1]
    | some a => simp -implicitDefEqProofs only [go_sem, simprocAttr, pkV, h1]
  · intro o ho'
    obtain ⟨h1, h2, h3, h4, h5⟩ := idx_in hi (by omega)
    obtain ⟨x1, x2⟩ := hl _ (List.getElem_mem hi)
    have e := c33 p ho (!L[i].isEmpty) 1 L[i] x1 x2 (fun _ => rfl)
    rw [h5, exF_cons]
    generalize L[i] = x at *
    have hem : (((unx p x).length : Int) == 0) = (unx p x).isEmpty := by cases unx p x with
      | nil => rfl
      | cons a r => simp; omega
    simp only [pkV] at e
    cases h6 : (unx p x).isEmpty
    · rw [h6] at hem
      simp only [cond_false, List.nil_append]
      rw [← ih o (by omega)]
      conv => lhs; rw [loopEq]
      cases o with
      | none =>
        simp only [acV_n, acR_n, pkV]
        simp -implicitDefEqProofs only [go_sem, simprocAttr, h1, h2, h3, h4, e, hem]
      | some a =>
        simp only [acV_s, acR_s, pkV]
        simp -implicitDefEqProofs only [go_sem, simprocAttr, h1, h2, h3, h4, e, hem]
    · rw [h6] at hem
      simp only [cond_true]
      have ih' := ih (acA o [x]) (by rw [acL_A]; simp only [List.length_cons, List.length_nil]; omega)
      rw [acA_acA] at ih'
      rw [← ih']
      conv => lhs; rw [loopEq]
      cases o with
      | none =>
        have h8 := (row_ok (n := 0) (by omega)).2
        simp only [acA_n, acV_n, acR_n, acV_s, acR_s, List.map_cons, List.map_nil, pkV]
        simp -implicitDefEqProofs only [go_sem, simprocAttr, h1, h2, h3, h4, e, hem, h8]
      | some a =>
        have h9 : a.length ≤ i := ho'
        have h8 := (row_ok (n := a.length) (by omega)).1
        simp only [acA_s, acV_s, acR_s, List.map_append, List.map_cons, List.map_nil, pkV]
        simp -implicitDefEqProofs only [go_sem, simprocAttr, h1, h2, h3, h4, e, hem, h8]
theorem c40 (p : Pk) (ho : Ok p) (hr : Rok p) : (lim T).call 40 [pkV p] [] 0 [] = some (slV 1 ((exR p).map seW), [], 0, []) := by
  rw [ent40]
  have h := loop40 p ho (setsN p.c.length) hr.len hr.el 0 (by omega) none (by simp [acL_n])
  rw [List.drop_zero, acO_slV, show exF p (setsN p.c.length) = exR p from rfl] at h
  have e := hr.c134
  simp only [acV_n, acR_n, show ((0 : Nat) : Int) = 0 from rfl, pkV] at h
  simp -implicitDefEqProofs only [go_sem, simprocAttr, pkV, e, h]
def fLe (x0 : List Int) (L : List (List Int)) : List (List Int) := L.filter fun s => s.length == x0.length
theorem fLe_cons (x0 x : List Int) (L : List (List Int)) : fLe x0 (x :: L) = (bif x.length == x0.length then [x] else []) ++ fLe x0 L := by
  unfold fLe
  cases h : (x.length == x0.length) <;> simp [h]
theorem loop41 (x0 : List Int) (b : Bool) (L : List (List Int)) (hx : L[0]? = some x0) (hL : L.length < 1000) : ∀ i, i ≤ L.length → ∀ o, acL o ≤ i → (lim T).loop false [.code (.loop b41_0), .inBlock 0, .code (.seq r41_8 .ret)] ⟨41, 32, 0, [(3, acV o 0), (4, .sl b 1 (L.map seW)), (5, .int .i64 i)], acR seW o 28, 0, []⟩ =
    some (.ret (acO seW 0 1 (acA o (fLe x0 (L.drop i)))), [], 0, []) := by
  have d0 : decide (0 < (L.length : Int)) = true := decide_eq_true (by have := (List.getElem?_eq_some_iff.1 hx).1; omega)
  refine down_ind L.length ?_ fun i hi ih => ?_
  · intro o _
    rw [loopEq, List.drop_of_length_le (Nat.le_refl _), show fLe x0 [] = [] from rfl, acA_0]
    have h1 := idx_out L.length
    cases o with
    | none => simp -implicitDefEqProofs only [go_sem, simprocAttr, h1]
    | some a => simp -implicitDefEqProofs only [go_sem, simprocAttr, h1]
  · intro o ho'
    obtain ⟨h1, h2, h3, h4, h5⟩ := idx_in hi (by omega)
    rw [h5, fLe_cons]
    generalize L[i] = x at *
    have hq : ((x.length : Int) == (x0.length : Int)) = (x.length == x0.length) := by
      cases h : (x.length == x0.length)
      · simp at h ⊢; omega
      · simp at h ⊢; omega
    cases h6 : (x.length == x0.length)
    · rw [h6] at hq
      simp only [cond_false, List.nil_append]
      rw [← ih o (by omega)]
      conv => lhs; rw [loopEq]
      cases o with
      | none =>
        simp only [acV_n, acR_n]
        simp -implicitDefEqProofs only [go_sem, simprocAttr, h1, h2, h3, h4, hq, d0, hx]
      | some a =>
        simp only [acV_s, acR_s]
        simp -implicitDefEqProofs only [go_sem, simprocAttr, h1, h2, h3, h4, hq, d0, hx]
    · rw [h6] at hq
      simp only [cond_true]
      have ih' := ih (acA o [x]) (by rw [acL_A]; simp only [List.length_cons, List.length_nil]; omega)
      rw [acA_acA] at ih'
      rw [← ih']
      conv => lhs; rw [loopEq]
      cases o with
      | none =>
        have h8 := (row_ok (n := 0) (by omega)).2
        simp only [acA_n, acV_n, acR_n, acV_s, acR_s, List.map_cons, List.map_nil]
        simp -implicitDefEqProofs only [go_sem, simprocAttr, h1, h2, h3, h4, hq, d0, hx, h8]
      | some a =>
        have h9 : a.length ≤ i := ho'
        have h8 := (row_ok (n := a.length) (by omega)).1
        simp only [acA_s, acV_s, acR_s, List.map_append, List.map_cons, List.map_nil]
        simp -implicitDefEqProofs only [go_sem, simprocAttr, h1, h2, h3, h4, hq, d0, hx, h8]
theorem exR_el {p : Pk} (hr : Rok p) : (exR p).length < 1000 ∧ ∀ l ∈ exR p, l.length < 1000000 :=
  ⟨by have : (exR p).length ≤ (setsN p.c.length).length := List.length_filter_le _ _; have := hr.len; omega, fun l hl => (hr.el l (List.mem_filter.1 hl).1).1⟩
theorem c41 (p : Pk) (ho : Ok p) (hr : Rok p) (x0 : List Int) (hx : (exR p)[0]? = some x0) : (lim T).call 41 [pkV p] [] 0 [] = some (slV 1 ((fLe x0 (exR p)).map seW), [], 0, []) := by
  rw [ent41]
  have e := c40 p ho hr
  have h := loop41 x0 (!((exR p).map seW).isEmpty) (exR p) hx (exR_el hr).1 0 (by omega) none (by simp [acL_n])
  rw [List.drop_zero, acO_slV] at h
  simp only [acV_n, acR_n, show ((0 : Nat) : Int) = 0 from rfl] at h
  simp only [pkV] at e
  simp -implicitDefEqProofs only [go_sem, simprocAttr, pkV, e, h]
end Go.Den.FaT
end
