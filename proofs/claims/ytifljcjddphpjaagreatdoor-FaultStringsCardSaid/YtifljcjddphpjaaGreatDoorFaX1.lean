import Derived.Test.YtifljcjddphpjaaGreatDoorFaS0
import Derived.Test.YtifljcjddphpjaaGreatDoorZO
import Derived.Test.YtifljcjddphpjaaGreatDoorZR
import Derived.Lib.IndexLaws
import Derived.Test.YtifljcjddphpjaaGreatDoorZP
import Derived.Test.YtifljcjddphpjaaGreatDoorFaX0
set_option linter.all false
set_option maxHeartbeats 8000000
set_option maxRecDepth 100000
noncomputable section
namespace Go.Den.FaT
open Go Go.Proofs Go.Den

theorem c115 (b : Bool) (e : Int) : (lim T).call 115 [.bool b, .int .i64 e] [] 0 [] = some (.int .i64 (cond b e 0), [], 0, []) := by
  rw [ent115]
  cases b
  · simp -implicitDefEqProofs only [go_sem, simprocAttr]
  · simp -implicitDefEqProofs only [go_sem, simprocAttr]
theorem c39 (b : Bool) (e : Int) : (lim T).call 39 [.bool b, .int .i64 e] [] 0 [] = some (.int .i64 (cond b e 0), [], 0, []) := by
  rw [ent39]
  cases b
  · simp -implicitDefEqProofs only [go_sem, simprocAttr]
  · simp -implicitDefEqProofs only [go_sem, simprocAttr]
theorem c137 (n a b : Int) : (lim T).call 137 [.int .i64 n, .int .i64 a, .int .i64 b] [] 0 [] = some (.int .i64 (rng n a b), [], 0, []) := by
  rw [ent137]
  cases h : decide (n < a)
  · simp -implicitDefEqProofs only [go_sem, simprocAttr, h, c115, rng]
  · simp -implicitDefEqProofs only [go_sem, simprocAttr, h, c115, rng]
theorem c90 (n a b : Int) : (lim T).call 90 [.int .i64 n, .int .i64 a, .int .i64 b] [] 0 [] = some (.int .i64 (rng n a b), [], 0, []) := by
  rw [ent90]
  cases h : decide (n < a)
  · simp -implicitDefEqProofs only [go_sem, simprocAttr, h, c39, rng]
  · simp -implicitDefEqProofs only [go_sem, simprocAttr, h, c39, rng]

theorem loop114 (b : Bool) (l : List Int) (hb : l.length < 4611686018427387904) : ∀ i, i ≤ l.length → (lim T).loop false [.code (.loop b114_0), .inBlock 0, .code (.seq r114_7 .ret)] ⟨114, 15, 0, [(5, .sl b 1 (l.map fun n => .int .i64 n)), (6, .int .i64 l.length), (7, .int .i64 i)], [], 0, []⟩ = some (.ret (.int .i64 (fnz (l.drop i))), [], 0, []) := by
  refine down_ind l.length ?_ fun i hi ih => ?_
  · rw [loopEq]
    have h1 := idx_out l.length
    simp -implicitDefEqProofs only [go_sem, simprocAttr, h1]
    simp [fnz]
  · obtain ⟨h1, h2, h3, h4, h5⟩ := idx_in hi hb
    rw [loopEq, h5]
    cases h6 : (l[i] != 0)
    · have h7 : l[i] = 0 := by simpa using h6
      simp -implicitDefEqProofs only [go_sem, simprocAttr, h1, h2, h3, h4, h6, ih]
      simp [fnz, h7]
    · have h7 : l[i] ≠ 0 := by simpa using h6
      simp -implicitDefEqProofs only [go_sem, simprocAttr, h1, h2, h3, h4, h6]
      simp [fnz, h7]
theorem c114 (b : Bool) (l : List Int) (hb : l.length < 4611686018427387904) : (lim T).call 114 [.sl b 1 (l.map fun n => .int .i64 n)] [] 0 [] = some (.int .i64 (fnz l), [], 0, []) := by
  rw [ent114]
  have h := loop114 b l hb 0 (by omega)
  rw [show ((0 : Nat) : Int) = 0 from rfl, List.drop_zero] at h
  simp -implicitDefEqProofs only [go_sem, simprocAttr, h]

theorem loop108 (b : Bool) (l : List Int) (hb : l.length < 4611686018427387904) : ∀ i, i ≤ l.length → (lim T).loop false [.code (.loop b108_0), .inBlock 0, .code (.seq r108_6 .ret)] ⟨108, 19, 0, [(0, .sl b 1 (l.map fun n => .int .i64 n)), (3, .int .i64 i)], [], 0, []⟩ = some (.ret (.int .i64 (fnz (l.drop i))), [], 0, []) := by
  refine down_ind l.length ?_ fun i hi ih => ?_
  · rw [loopEq]
    have h1 := idx_out l.length
    simp -implicitDefEqProofs only [go_sem, simprocAttr, h1]
    simp [fnz]
  · obtain ⟨h1, h2, h3, h4, h5⟩ := idx_in hi hb
    rw [loopEq, h5]
    cases h6 : (l[i] != 0)
    · have h7 : l[i] = 0 := by simpa using h6
      simp -implicitDefEqProofs only [go_sem, simprocAttr, h1, h2, h3, h4, h6, ih]
      simp [fnz, h7]
    · have h7 : l[i] ≠ 0 := by simpa using h6
      simp -implicitDefEqProofs only [go_sem, simprocAttr, h1, h2, h3, h4, h6]
      simp [fnz, h7]
theorem c108 (b : Bool) (l : List Int) (hb : l.length < 4611686018427387904) : (lim T).call 108 [.sl b 1 (l.map fun n => .int .i64 n)] [] 0 [] = some (.int .i64 (fnz l), [], 0, []) := by
  rw [ent108]
  have h := loop108 b l hb 0 (by omega)
  rw [show ((0 : Nat) : Int) = 0 from rfl, List.drop_zero] at h
  simp -implicitDefEqProofs only [go_sem, simprocAttr, h]
theorem c114_2 (b : Bool) (x y : Int) : (lim T).call 114 [.sl b 1 [.int .i64 x, .int .i64 y]] [] 0 [] = some (.int .i64 (fnz [x, y]), [], 0, []) := c114 b [x, y] (by simp)
theorem c114_3 (b : Bool) (x y z : Int) : (lim T).call 114 [.sl b 1 [.int .i64 x, .int .i64 y, .int .i64 z]] [] 0 [] = some (.int .i64 (fnz [x, y, z]), [], 0, []) := c114 b [x, y, z] (by simp)
theorem c114_4 (b : Bool) (x y z u : Int) : (lim T).call 114 [.sl b 1 [.int .i64 x, .int .i64 y, .int .i64 z, .int .i64 u]] [] 0 [] = some (.int .i64 (fnz [x, y, z, u]), [], 0, []) := c114 b [x, y, z, u] (by simp)
theorem c108_2 (b : Bool) (x y : Int) : (lim T).call 108 [.sl b 1 [.int .i64 x, .int .i64 y]] [] 0 [] = some (.int .i64 (fnz [x, y]), [], 0, []) := c108 b [x, y] (by simp)
theorem c108_3 (b : Bool) (x y z : Int) : (lim T).call 108 [.sl b 1 [.int .i64 x, .int .i64 y, .int .i64 z]] [] 0 [] = some (.int .i64 (fnz [x, y, z]), [], 0, []) := c108 b [x, y, z] (by simp)
theorem c108_6 (b : Bool) (x y z u v w : Int) : (lim T).call 108 [.sl b 1 [.int .i64 x, .int .i64 y, .int .i64 z, .int .i64 u, .int .i64 v, .int .i64 w]] [] 0 [] = some (.int .i64 (fnz [x, y, z, u, v, w]), [], 0, []) := c108 b [x, y, z, u, v, w] (by simp)
theorem c112 (n k : Int) : (lim T).call 112 [.int .i64 n, .int .i64 k] [] 0 [] = some (.int .i64 (fnz [cond (n == 0) 12 0, cond (decide (k < n)) 5 0]), [], 0, []) := by
  rw [ent112]
  simp -implicitDefEqProofs only [go_sem, simprocAttr, c115, c114_2]
def intV (n : Int) : V := .int .i64 n
attribute [go_sem] intV
theorem fnz_zero {l : List Int} : fnz l = 0 ↔ ∀ x ∈ l, x = 0 := by
  induction l with
  | nil => simp [fnz]
  | cons x l ih =>
    simp only [fnz]
    by_cases h : x = 0
    · simp [h, ih]
    · simp [h]
def ckE (n : Int) : Int := rng n 0 1000000
theorem ckE_f (n : Int) : rng n 0 1000000 = ckE n := rfl
theorem c117 (n : Int) : (lim T).call 117 [.int .i64 n] [] 0 [] = some (.int .i64 (ckE n), [], 0, []) := by
  rw [ent117]
  simp -implicitDefEqProofs only [go_sem, simprocAttr, c137, ckE_f]
theorem c109 (n : Int) : (lim T).call 109 [.int .i64 n] [] 0 [] = some (.int .i64 (ckE n), [], 0, []) := by
  rw [ent109]
  simp -implicitDefEqProofs only [go_sem, simprocAttr, c90, ckE_f]
def ivV (x : Int × Int) : V := .agg [.int .i64 x.1, .int .i64 x.2]
attribute [go_sem] ivV
def ckL (x : Int × Int) : Int := fnz [ckE x.1, ckE x.2, cond (decide (x.2 < x.1)) 11 0]
theorem ckL_f (x : Int × Int) : fnz [ckE x.1, ckE x.2, cond (decide (x.2 < x.1)) 11 0] = ckL x := rfl
theorem c146 (x : Int × Int) : (lim T).call 146 [.agg [.int .i64 x.1, .int .i64 x.2]] [] 0 [] = some (.int .i64 (ckL x), [], 0, []) := by
  rw [ent146]
  simp -implicitDefEqProofs only [go_sem, simprocAttr, c117, c115, c114_3, ckL_f]
theorem c212 (x : Int × Int) : (lim T).call 212 [.agg [.int .i64 x.1, .int .i64 x.2], .int .i64 0, .int .i64 1000000] [] 0 [] = some (.int .i64 (ckL x), [], 0, []) := by
  rw [ent212]
  simp -implicitDefEqProofs only [go_sem, simprocAttr, c90, ckE_f, c39, c108_3, ckL_f]
theorem loop145 (b : Bool) (l : List (Int × Int)) (hb : l.length < 1000000) : ∀ i, i ≤ l.length → ∀ o : Option (List (Int)), acL o = i →
    (lim T).loop false [.code (.loop b145_0), .inBlock 0, .code (.seq r145_7 .ret)] ⟨145, 22, 0, [(1, .fn 146 []), (5, acV o 0), (8, .sl b 2 (l.map ivV)), (9, .int .i64 l.length), (10, .int .i64 i)], acR intV o 29, 0, []⟩ =
      some (.ret (acO intV 0 1 (acA o ((l.drop i).map (fun x => ckL x)))), [], 0, []) := by
  refine down_ind l.length ?_ fun i hi ih o ho => ?_
  · intro o ho
    rw [loopEq]
    have h1 := idx_out l.length
    cases o with
    | none =>
      simp -implicitDefEqProofs only [go_sem, simprocAttr, h1]
      simp [acA, acO]
    | some a =>
      simp -implicitDefEqProofs only [go_sem, simprocAttr, h1]
      simp [acA, acO]
  · obtain ⟨h1, h2, h3, h4, h5⟩ := idx_in hi (by omega)
    rw [loopEq, h5]
    have ih' := ih (acA o [((fun x => ckL x) l[i])]) (by rw [acL_A, ho]; rfl)
    rw [acA_acA] at ih'
    dsimp only at ih'
    cases o with
    | none =>
      have h8 := row_ok (n := 0) (by omega)
      simp only [acA_n, acV_s, acR_s, List.map_cons, List.map_nil, intV] at ih'
      simp -implicitDefEqProofs only [go_sem, simprocAttr, h1, h2, h3, h4, ih', h8.2, c146]
    | some a =>
      have h9 : a.length = i := ho
      have h8 := (row_ok (n := a.length) (by omega)).1
      simp only [acA_s, acV_s, acR_s, List.map_append, List.map_cons, List.map_nil, intV] at ih'
      simp -implicitDefEqProofs only [go_sem, simprocAttr, h1, h2, h3, h4, ih', h8, c146]
theorem c145 (b : Bool) (l : List (Int × Int)) (hb : l.length < 1000000) : (lim T).call 145 [.sl b 2 (l.map ivV), .fn 146 []] [] 0 [] = some (slV 1 (((l).map (fun x => ckL x)).map intV), [], 0, []) := by
  rw [ent145]
  have h := loop145  b l hb  0 (by omega) none rfl
  rw [show ((0 : Nat) : Int) = 0 from rfl, List.drop_zero, acO_slV] at h
  simp only [acV_n, acR_n] at h
  simp -implicitDefEqProofs only [go_sem, simprocAttr, h]
theorem loop116 (b : Bool) (l : List (Int)) (hb : l.length < 1000000) : ∀ i, i ≤ l.length → ∀ o : Option (List (Int)), acL o = i →
    (lim T).loop false [.code (.loop b116_0), .inBlock 0, .code (.seq r116_7 .ret)] ⟨116, 22, 0, [(1, .fn 117 []), (5, acV o 0), (8, .sl b 1 (l.map intV)), (9, .int .i64 l.length), (10, .int .i64 i)], acR intV o 29, 0, []⟩ =
      some (.ret (acO intV 0 1 (acA o ((l.drop i).map (fun x => ckE x)))), [], 0, []) := by
  refine down_ind l.length ?_ fun i hi ih o ho => ?_
  · intro o ho
    rw [loopEq]
    have h1 := idx_out l.length
    cases o with
    | none =>
      simp -implicitDefEqProofs only [go_sem, simprocAttr, h1]
      simp [acA, acO]
    | some a =>
      simp -implicitDefEqProofs only [go_sem, simprocAttr, h1]
      simp [acA, acO]
  · obtain ⟨h1, h2, h3, h4, h5⟩ := idx_in hi (by omega)
    rw [loopEq, h5]
    have ih' := ih (acA o [((fun x => ckE x) l[i])]) (by rw [acL_A, ho]; rfl)
    rw [acA_acA] at ih'
    dsimp only at ih'
    cases o with
    | none =>
      have h8 := row_ok (n := 0) (by omega)
      simp only [acA_n, acV_s, acR_s, List.map_cons, List.map_nil, intV] at ih'
      simp -implicitDefEqProofs only [go_sem, simprocAttr, h1, h2, h3, h4, ih', h8.2, c117]
    | some a =>
      have h9 : a.length = i := ho
      have h8 := (row_ok (n := a.length) (by omega)).1
      simp only [acA_s, acV_s, acR_s, List.map_append, List.map_cons, List.map_nil, intV] at ih'
      simp -implicitDefEqProofs only [go_sem, simprocAttr, h1, h2, h3, h4, ih', h8, c117]
theorem c116 (b : Bool) (l : List (Int)) (hb : l.length < 1000000) : (lim T).call 116 [.sl b 1 (l.map intV), .fn 117 []] [] 0 [] = some (slV 1 (((l).map (fun x => ckE x)).map intV), [], 0, []) := by
  rw [ent116]
  have h := loop116  b l hb  0 (by omega) none rfl
  rw [show ((0 : Nat) : Int) = 0 from rfl, List.drop_zero, acO_slV] at h
  simp only [acV_n, acR_n] at h
  simp -implicitDefEqProofs only [go_sem, simprocAttr, h]
def letR (r : Int) : Bool := (decide (97 ≤ r) && decide (r ≤ 122)) || (decide (65 ≤ r) && decide (r ≤ 90))
def badR (first : Bool) (r : Int) : Bool := !letR r && (first || (r != 95 && (decide (r < 48) || decide (57 < r))))
def nameFrom : Bool → List UInt8 → Bool
  | _, [] => true
  | f, c :: l => !badR f c.toNat && nameFrom false l
def nameB (s : List UInt8) : Bool := nameFrom true s && (!s.isEmpty && decide (s.length ≤ 24))
theorem dec_lo {s : List UInt8} {p : Nat} (h : p < s.length) (hb : s[p].toNat < 128) : Utf8.decode ⟨s.toArray⟩ p = (s[p].toNat, 1) := by
  have e : ByteArray.get! ⟨s.toArray⟩ (p + 0) = s[p] := by simp [ByteArray.get!, h]
  unfold Utf8.decode
  simp only [e]
  rw [if_pos (by omega)]
theorem dec_hi {s : List UInt8} {p : Nat} (h : p < s.length) (hb : ¬ s[p].toNat < 128) : ∃ r k, Utf8.decode ⟨s.toArray⟩ p = (r, k) ∧ 128 ≤ r := by
  have e : ByteArray.get! ⟨s.toArray⟩ (p + 0) = s[p] := by simp [ByteArray.get!, h]
  unfold Utf8.decode
  simp only [e]
  rw [if_neg (by omega)]
  have hR : 128 ≤ Utf8.runeError := by decide
  repeat' split
  all_goals refine ⟨_, _, rfl, ?_⟩
  all_goals first | exact hR | (rename_i hc; simp at hc; omega) | (simp_all; omega)
theorem cl_a (r : Int) (h : 97 ≤ r ∧ r ≤ 122) : decide (97 ≤ r) = true ∧ decide (r ≤ 122) = true := by
  refine ⟨?_, ?_⟩ <;> simp <;> omega
theorem cl_b (r : Int) (h : 65 ≤ r ∧ r ≤ 90) : decide (97 ≤ r) = false ∧ decide (65 ≤ r) = true ∧ decide (r ≤ 90) = true := by
  refine ⟨?_, ?_, ?_⟩ <;> simp <;> omega
theorem cl_c (r : Int) (h : 123 ≤ r) : decide (97 ≤ r) = true ∧ decide (r ≤ 122) = false ∧ decide (65 ≤ r) = true ∧ decide (r ≤ 90) = false ∧ (r != 95) = true ∧ decide (r < 48) = false ∧ decide (57 < r) = true := by
  refine ⟨?_, ?_, ?_, ?_, ?_, ?_, ?_⟩ <;> simp <;> omega
theorem cl_d (r : Int) (h : 91 ≤ r ∧ r ≤ 96 ∧ r ≠ 95) : decide (97 ≤ r) = false ∧ decide (65 ≤ r) = true ∧ decide (r ≤ 90) = false ∧ (r != 95) = true ∧ decide (r < 48) = false ∧ decide (57 < r) = true := by
  refine ⟨?_, ?_, ?_, ?_, ?_, ?_⟩ <;> simp <;> omega
theorem cl_e (r : Int) (h : r = 95) : decide (97 ≤ r) = false ∧ decide (65 ≤ r) = true ∧ decide (r ≤ 90) = false ∧ (r != 95) = false := by
  refine ⟨?_, ?_, ?_, ?_⟩ <;> simp <;> omega
theorem cl_f (r : Int) (h : 58 ≤ r ∧ r ≤ 64) : decide (97 ≤ r) = false ∧ decide (65 ≤ r) = false ∧ (r != 95) = true ∧ decide (r < 48) = false ∧ decide (57 < r) = true := by
  refine ⟨?_, ?_, ?_, ?_, ?_⟩ <;> simp <;> omega
theorem cl_g (r : Int) (h : 48 ≤ r ∧ r ≤ 57) : decide (97 ≤ r) = false ∧ decide (65 ≤ r) = false ∧ (r != 95) = true ∧ decide (r < 48) = false ∧ decide (57 < r) = false := by
  refine ⟨?_, ?_, ?_, ?_, ?_⟩ <;> simp <;> omega
theorem cl_h (r : Int) (h : r < 48) : decide (97 ≤ r) = false ∧ decide (65 ≤ r) = false ∧ (r != 95) = true ∧ decide (r < 48) = true := by
  refine ⟨?_, ?_, ?_, ?_⟩ <;> simp <;> omega
theorem cl_all (r : Int) : (97 ≤ r ∧ r ≤ 122) ∨ (65 ≤ r ∧ r ≤ 90) ∨ (123 ≤ r) ∨ (91 ≤ r ∧ r ≤ 96 ∧ r ≠ 95) ∨ (r = 95) ∨ (58 ≤ r ∧ r ≤ 64) ∨ (48 ≤ r ∧ r ≤ 57) ∨ (r < 48) := by omega
def L190 (s : List UInt8) (p : Nat) : Option Out :=
  (lim T).loop false [.code (.loop b190_0), .inBlock 0, .code (.seq r190_7 .ret)] ⟨190, 51, 0, [(0, .str s), (7, .it 0)], [.siter s p], 0, []⟩
theorem loop190 (s : List UInt8) (hb : s.length < 1000000) : ∀ p, p ≤ s.length → L190 s p = some (.ret (.bool (nameFrom ((p : Int) == 0) (s.drop p) && (!s.isEmpty && decide (s.length ≤ 24)))), [], 0, []) := by
  refine down_ind s.length ?_ fun p hp ih => ?_
  · unfold L190
    rw [loopEq]
    have h1 : decide (s.length < s.length) = false := by simp
    cases h2 : (s == ([] : List UInt8))
    · have h3 : s.isEmpty = false := by cases s with | nil => cases h2 | cons a b => rfl
      have h4 : decide ((s.length : Int) ≤ 24) = decide (s.length ≤ 24) := by simp; omega
      simp -implicitDefEqProofs only [go_sem, simprocAttr, h1, h2, h4, Bool.not_false]
      simp [nameFrom, h3]
    · have h3 : s = [] := by simpa using h2
      subst h3
      simp -implicitDefEqProofs only [go_sem, simprocAttr]
  · have h1 : decide (p < s.length) = true := decide_eq_true hp
    have h5 : s.drop p = s[p] :: s.drop (p + 1) := List.drop_eq_getElem_cons hp
    rw [h5]
    have h6 : (((p + 1 : Nat) : Int) == 0) = false := by simp; omega
    rw [h6] at ih
    simp only [nameFrom]
    by_cases hlo : s[p].toNat < 128
    · have hd := dec_lo hp hlo
      unfold L190 at ih ⊢
      rw [loopEq]
      generalize hr : ((s[p].toNat : Nat) : Int) = r at *
      rcases cl_all r with hc | hc | hc | hc | hc | hc | hc | hc
      · obtain ⟨qA, qB⟩ := cl_a r hc
        simp -implicitDefEqProofs only [go_sem, simprocAttr, h1, hd, hr, qA, qB, ih]
        simp [badR, letR, qA, qB]
      · obtain ⟨qA, qC, qD⟩ := cl_b r hc
        simp -implicitDefEqProofs only [go_sem, simprocAttr, h1, hd, hr, qA, qC, qD, ih]
        simp [badR, letR, qA, qC, qD]
      · obtain ⟨qA, qB, qC, qD, qE, qF, qG⟩ := cl_c r hc
        cases hz : ((p : Int) == 0)
        · simp -implicitDefEqProofs only [go_sem, simprocAttr, h1, hd, hr, qA, qB, qC, qD, qE, qF, qG, ih, hz]
          try simp [badR, letR, qA, qB, qC, qD, qE, qF, qG, hz]
        · simp -implicitDefEqProofs only [go_sem, simprocAttr, h1, hd, hr, qA, qB, qC, qD, qE, qF, qG, ih, hz]
          try simp [badR, letR, qA, qB, qC, qD, qE, qF, qG, hz]
      · obtain ⟨qA, qC, qD, qE, qF, qG⟩ := cl_d r hc
        cases hz : ((p : Int) == 0)
        · simp -implicitDefEqProofs only [go_sem, simprocAttr, h1, hd, hr, qA, qC, qD, qE, qF, qG, ih, hz]
          try simp [badR, letR, qA, qC, qD, qE, qF, qG, hz]
        · simp -implicitDefEqProofs only [go_sem, simprocAttr, h1, hd, hr, qA, qC, qD, qE, qF, qG, ih, hz]
          try simp [badR, letR, qA, qC, qD, qE, qF, qG, hz]
      · obtain ⟨qA, qC, qD, qE⟩ := cl_e r hc
        cases hz : ((p : Int) == 0)
        · simp -implicitDefEqProofs only [go_sem, simprocAttr, h1, hd, hr, qA, qC, qD, qE, ih, hz]
          try simp [badR, letR, qA, qC, qD, qE, hz]
        · simp -implicitDefEqProofs only [go_sem, simprocAttr, h1, hd, hr, qA, qC, qD, qE, ih, hz]
          try simp [badR, letR, qA, qC, qD, qE, hz]
      · obtain ⟨qA, qC, qE, qF, qG⟩ := cl_f r hc
        cases hz : ((p : Int) == 0)
        · simp -implicitDefEqProofs only [go_sem, simprocAttr, h1, hd, hr, qA, qC, qE, qF, qG, ih, hz]
          try simp [badR, letR, qA, qC, qE, qF, qG, hz]
        · simp -implicitDefEqProofs only [go_sem, simprocAttr, h1, hd, hr, qA, qC, qE, qF, qG, ih, hz]
          try simp [badR, letR, qA, qC, qE, qF, qG, hz]
      · obtain ⟨qA, qC, qE, qF, qG⟩ := cl_g r hc
        cases hz : ((p : Int) == 0)
        · simp -implicitDefEqProofs only [go_sem, simprocAttr, h1, hd, hr, qA, qC, qE, qF, qG, ih, hz]
          try simp [badR, letR, qA, qC, qE, qF, qG, hz]
        · simp -implicitDefEqProofs only [go_sem, simprocAttr, h1, hd, hr, qA, qC, qE, qF, qG, ih, hz]
          try simp [badR, letR, qA, qC, qE, qF, qG, hz]
      · obtain ⟨qA, qC, qE, qF⟩ := cl_h r hc
        cases hz : ((p : Int) == 0)
        · simp -implicitDefEqProofs only [go_sem, simprocAttr, h1, hd, hr, qA, qC, qE, qF, ih, hz]
          try simp [badR, letR, qA, qC, qE, qF, hz]
        · simp -implicitDefEqProofs only [go_sem, simprocAttr, h1, hd, hr, qA, qC, qE, qF, ih, hz]
          try simp [badR, letR, qA, qC, qE, qF, hz]
    · obtain ⟨r0, k0, hd, hhi⟩ := dec_hi hp hlo
      unfold L190
      rw [loopEq]
      obtain ⟨qA, qB, qC, qD, qE, qF, qG⟩ := cl_c (r0 : Int) (by omega)
      obtain ⟨wA, wB, wC, wD, wE, wF, wG⟩ := cl_c (s[p].toNat : Int) (by omega)
      cases hz : ((p : Int) == 0)
      · simp -implicitDefEqProofs only [go_sem, simprocAttr, h1, hd, qA, qB, qC, qD, qE, qF, qG, hz]
        simp [badR, letR, wA, wB, wC, wD, wE, wF, wG, hz]
      · simp -implicitDefEqProofs only [go_sem, simprocAttr, h1, hd, qA, qB, qC, qD, qE, qF, qG, hz]
        simp [badR, letR, wA, wB, wC, wD, wE, wF, wG, hz]
theorem c190 (s : List UInt8) (hb : s.length < 1000000) : (lim T).call 190 [.str s] [] 0 [] = some (.bool (nameB s), [], 0, []) := by
  rw [ent190]
  have h := loop190 s hb 0 (by omega)
  rw [List.drop_zero] at h
  unfold L190 at h
  simp -implicitDefEqProofs only [go_sem, simprocAttr, h]
  rfl
theorem cr_a (r : Int) (h : 97 ≤ r ∧ r ≤ 122) : decide (65 ≤ r) = true ∧ decide (r ≤ 90) = false ∧ decide (97 ≤ r) = true ∧ decide (r ≤ 122) = true ∧ decide (48 ≤ r) = true ∧ decide (r ≤ 57) = false ∧ (r == 95) = false := by
  refine ⟨?_, ?_, ?_, ?_, ?_, ?_, ?_⟩ <;> simp <;> omega
theorem cr_b (r : Int) (h : 65 ≤ r ∧ r ≤ 90) : decide (65 ≤ r) = true ∧ decide (r ≤ 90) = true ∧ decide (97 ≤ r) = false ∧ decide (48 ≤ r) = true ∧ decide (r ≤ 57) = false ∧ (r == 95) = false := by
  refine ⟨?_, ?_, ?_, ?_, ?_, ?_⟩ <;> simp <;> omega
theorem cr_c (r : Int) (h : 123 ≤ r) : decide (97 ≤ r) = true ∧ decide (r ≤ 122) = false ∧ decide (65 ≤ r) = true ∧ decide (r ≤ 90) = false ∧ decide (48 ≤ r) = true ∧ decide (r ≤ 57) = false ∧ (r == 95) = false := by
  refine ⟨?_, ?_, ?_, ?_, ?_, ?_, ?_⟩ <;> simp <;> omega
theorem cr_d (r : Int) (h : 91 ≤ r ∧ r ≤ 96 ∧ r ≠ 95) : decide (97 ≤ r) = false ∧ decide (65 ≤ r) = true ∧ decide (r ≤ 90) = false ∧ decide (48 ≤ r) = true ∧ decide (r ≤ 57) = false ∧ (r == 95) = false := by
  refine ⟨?_, ?_, ?_, ?_, ?_, ?_⟩ <;> simp <;> omega
theorem cr_e (r : Int) (h : r = 95) : decide (97 ≤ r) = false ∧ decide (65 ≤ r) = true ∧ decide (r ≤ 90) = false ∧ decide (48 ≤ r) = true ∧ decide (r ≤ 57) = false ∧ (r == 95) = true := by
  refine ⟨?_, ?_, ?_, ?_, ?_, ?_⟩ <;> simp <;> omega
theorem cr_f (r : Int) (h : 58 ≤ r ∧ r ≤ 64) : decide (97 ≤ r) = false ∧ decide (65 ≤ r) = false ∧ decide (48 ≤ r) = true ∧ decide (r ≤ 57) = false ∧ (r == 95) = false := by
  refine ⟨?_, ?_, ?_, ?_, ?_⟩ <;> simp <;> omega
theorem cr_g (r : Int) (h : 48 ≤ r ∧ r ≤ 57) : decide (97 ≤ r) = false ∧ decide (65 ≤ r) = false ∧ decide (48 ≤ r) = true ∧ decide (r ≤ 57) = true ∧ (r == 95) = false := by
  refine ⟨?_, ?_, ?_, ?_, ?_⟩ <;> simp <;> omega
theorem cr_h (r : Int) (h : r < 48) : decide (97 ≤ r) = false ∧ decide (65 ≤ r) = false ∧ decide (48 ≤ r) = false ∧ (r == 95) = false := by
  refine ⟨?_, ?_, ?_, ?_⟩ <;> simp <;> omega
theorem loop230 (s : List UInt8) (hb : s.length < 1000000) : ∀ i, i ≤ s.length → (lim T).loop false [.code (.loop b230_0), .inBlock 0, .code (.seq r230_10 .ret)] ⟨230, 68, 0, [(0, .str s), (3, .int .i64 i)], [], 0, []⟩ = some (.ret (.bool (nameFrom ((i : Int) == 0) (s.drop i))), [], 0, []) := by
  refine down_ind s.length ?_ fun p hp ih => ?_
  · rw [loopEq]
    have h1 := idx_out s.length
    simp -implicitDefEqProofs only [go_sem, simprocAttr, h1]
    simp [nameFrom]
  · obtain ⟨h1, h2, h3, h4, h5⟩ := idx_in hp (by omega)
    rw [h5]
    have h6 : (((p + 1 : Nat) : Int) == 0) = false := by simp; omega
    rw [h6] at ih
    have h7 : decide (0 ≤ (p : Int)) = true := decide_eq_true (by omega)
    simp only [nameFrom]
    rw [loopEq]
    generalize hr : ((s[p].toNat : Nat) : Int) = r at *
    rcases cl_all r with hc | hc | hc | hc | hc | hc | hc | hc
    · obtain ⟨qC, qD, qA, qB, qF, qG, qE⟩ := cr_a r hc
      obtain ⟨wA, wB⟩ := cl_a r hc
      simp -implicitDefEqProofs only [go_sem, simprocAttr, h1, h3, h4, h7, hr, qC, qD, qA, qB, qF, qG, qE, ih]
      simp [badR, letR, wA, wB]
    · obtain ⟨qC, qD, qA, qF, qG, qE⟩ := cr_b r hc
      obtain ⟨wA, wC, wD⟩ := cl_b r hc
      simp -implicitDefEqProofs only [go_sem, simprocAttr, h1, h3, h4, h7, hr, qC, qD, qA, qF, qG, qE, ih]
      simp [badR, letR, wA, wC, wD]
    · obtain ⟨qA, qB, qC, qD, qF, qG, qE⟩ := cr_c r hc
      obtain ⟨wA, wB, wC, wD, wE, wF, wG⟩ := cl_c r hc
      cases hz : ((p : Int) == 0)
      · simp -implicitDefEqProofs only [go_sem, simprocAttr, h1, h3, h4, h7, hr, qA, qB, qC, qD, qF, qG, qE, ih, hz]
        try simp [badR, letR, wA, wB, wC, wD, wE, wF, wG, hz]
      · simp -implicitDefEqProofs only [go_sem, simprocAttr, h1, h3, h4, h7, hr, qA, qB, qC, qD, qF, qG, qE, ih, hz]
        try simp [badR, letR, wA, wB, wC, wD, wE, wF, wG, hz]
    · obtain ⟨qA, qC, qD, qF, qG, qE⟩ := cr_d r hc
      obtain ⟨wA, wC, wD, wE, wF, wG⟩ := cl_d r hc
      cases hz : ((p : Int) == 0)
      · simp -implicitDefEqProofs only [go_sem, simprocAttr, h1, h3, h4, h7, hr, qA, qC, qD, qF, qG, qE, ih, hz]
        try simp [badR, letR, wA, wC, wD, wE, wF, wG, hz]
      · simp -implicitDefEqProofs only [go_sem, simprocAttr, h1, h3, h4, h7, hr, qA, qC, qD, qF, qG, qE, ih, hz]
        try simp [badR, letR, wA, wC, wD, wE, wF, wG, hz]
    · obtain ⟨qA, qC, qD, qF, qG, qE⟩ := cr_e r hc
      obtain ⟨wA, wC, wD, wE⟩ := cl_e r hc
      cases hz : ((p : Int) == 0)
      · simp -implicitDefEqProofs only [go_sem, simprocAttr, h1, h3, h4, h7, hr, qA, qC, qD, qF, qG, qE, ih, hz]
        try simp [badR, letR, wA, wC, wD, wE, hz]
      · simp -implicitDefEqProofs only [go_sem, simprocAttr, h1, h3, h4, h7, hr, qA, qC, qD, qF, qG, qE, ih, hz]
        try simp [badR, letR, wA, wC, wD, wE, hz]
    · obtain ⟨qA, qC, qF, qG, qE⟩ := cr_f r hc
      obtain ⟨wA, wC, wE, wF, wG⟩ := cl_f r hc
      cases hz : ((p : Int) == 0)
      · simp -implicitDefEqProofs only [go_sem, simprocAttr, h1, h3, h4, h7, hr, qA, qC, qF, qG, qE, ih, hz]
        try simp [badR, letR, wA, wC, wE, wF, wG, hz]
      · simp -implicitDefEqProofs only [go_sem, simprocAttr, h1, h3, h4, h7, hr, qA, qC, qF, qG, qE, ih, hz]
        try simp [badR, letR, wA, wC, wE, wF, wG, hz]
    · obtain ⟨qA, qC, qF, qG, qE⟩ := cr_g r hc
      obtain ⟨wA, wC, wE, wF, wG⟩ := cl_g r hc
      cases hz : ((p : Int) == 0)
      · simp -implicitDefEqProofs only [go_sem, simprocAttr, h1, h3, h4, h7, hr, qA, qC, qF, qG, qE, ih, hz]
        try simp [badR, letR, wA, wC, wE, wF, wG, hz]
      · simp -implicitDefEqProofs only [go_sem, simprocAttr, h1, h3, h4, h7, hr, qA, qC, qF, qG, qE, ih, hz]
        try simp [badR, letR, wA, wC, wE, wF, wG, hz]
    · obtain ⟨qA, qC, qF, qE⟩ := cr_h r hc
      obtain ⟨wA, wC, wE, wF⟩ := cl_h r hc
      cases hz : ((p : Int) == 0)
      · simp -implicitDefEqProofs only [go_sem, simprocAttr, h1, h3, h4, h7, hr, qA, qC, qF, qE, ih, hz]
        try simp [badR, letR, wA, wC, wE, wF, hz]
      · simp -implicitDefEqProofs only [go_sem, simprocAttr, h1, h3, h4, h7, hr, qA, qC, qF, qE, ih, hz]
        try simp [badR, letR, wA, wC, wE, wF, hz]
theorem c230 (s : List UInt8) (hb : s.length < 1000000) : (lim T).call 230 [.str s] [] 0 [] = some (.bool (nameB s), [], 0, []) := by
  rw [ent230]
  have h := loop230 s hb 0 (by omega)
  rw [show ((0 : Nat) : Int) = 0 from rfl, List.drop_zero] at h
  unfold nameB
  cases h1 : ((s.length : Int) == 0)
  · have h3 : s.isEmpty = false := by cases s with | nil => cases h1 | cons a b => rfl
    cases h2 : decide (24 < (s.length : Int))
    · have h4 : s.length ≤ 24 := by simp at h2; omega
      simp -implicitDefEqProofs only [go_sem, simprocAttr, h1, h2, h]
      simp [h3, h4]
    · have h4 : ¬ s.length ≤ 24 := by simp at h2; omega
      simp -implicitDefEqProofs only [go_sem, simprocAttr, h1, h2]
      simp [h3, h4]
  · have h3 : s = [] := by simp at h1; exact h1
    subst h3
    simp -implicitDefEqProofs only [go_sem, simprocAttr]
    try rfl
theorem c188 (s : List UInt8) (hb : s.length < 1000000) : (lim T).call 188 [.str s] [] 0 [] = some (.int .i64 (cond (!nameB s) 8 0), [], 0, []) := by
  rw [ent188]
  simp -implicitDefEqProofs only [go_sem, simprocAttr, c230 s hb, c39]
structure Cz where
  n : List UInt8
  c : Int
  b : Bool
  l : List (Int × Int)
def czV (c : Cz) : V := .agg [.str c.n, .int .i64 c.c, .sl c.b 2 (c.l.map ivV)]
attribute [go_sem] czV
def szd (n k : Int) : Int := fnz [cond (n == 0) 12 0, cond (decide (k < n)) 5 0]
theorem szd_f (n k : Int) : fnz [cond (n == 0) 12 0, cond (decide (k < n)) 5 0] = szd n k := rfl
def ckC (c : Cz) : Int := fnz [rng c.c 0 7, szd c.l.length 8, fnz (c.l.map fun x => ckL x)]
theorem ckC_f (c : Cz) : fnz [rng c.c 0 7, szd c.l.length 8, fnz (c.l.map fun x => ckL x)] = ckC c := rfl
theorem c191 (c : Cz) (hl : c.l.length < 1000000) : (lim T).call 191 [czV c] [] 0 [] = some (.int .i64 (ckC c), [], 0, []) := by
  rw [ent191]
  have e1 := c145 c.b c.l hl
  have e2 := fun b => c114 b (c.l.map fun x => ckL x) (by simp; omega)
  have e3 : List.map intV (List.map (fun x => ckL x) c.l) = List.map (fun n => V.int .i64 n) (List.map (fun x => ckL x) c.l) := rfl
  rw [e3] at e1
  simp -implicitDefEqProofs only [go_sem, simprocAttr, e1, e2, c137, c112, szd_f, c114_3, ckC_f]
theorem loop149 (b : Bool) (l : List (Int × Int)) (hb : l.length < 4611686018427387904) : ∀ i, i ≤ l.length → (lim T).loop false [.code (.loop b149_0), .inBlock 0, .code (.seq r149_7 .ret)] ⟨149, 19, 0, [(0, .sl b 2 (l.map ivV)), (3, .int .i64 i)], [], 0, []⟩ = some (.ret (.int .i64 (fnz ((l.drop i).map fun x => ckL x))), [], 0, []) := by
  refine down_ind l.length ?_ fun i hi ih => ?_
  · rw [loopEq]
    have h1 := idx_out l.length
    simp -implicitDefEqProofs only [go_sem, simprocAttr, h1]
    simp [fnz]
  · obtain ⟨h1, h2, h3, h4, h5⟩ := idx_in hi (by omega)
    rw [loopEq, h5]
    cases h6 : (ckL l[i] != 0)
    · have h7 : ckL l[i] = 0 := by simpa using h6
      simp -implicitDefEqProofs only [go_sem, simprocAttr, h1, h2, h3, h4, h6, ih, c212]
      simp [fnz, h7]
    · have h7 : ckL l[i] ≠ 0 := by simpa using h6
      simp -implicitDefEqProofs only [go_sem, simprocAttr, h1, h2, h3, h4, h6, c212]
      simp [fnz, h7]
theorem c149 (b : Bool) (l : List (Int × Int)) (hb : l.length < 4611686018427387904) : (lim T).call 149 [.sl b 2 (l.map ivV)] [] 0 [] = some (.int .i64 (fnz (l.map fun x => ckL x)), [], 0, []) := by
  rw [ent149]
  have h := loop149 b l hb 0 (by omega)
  rw [show ((0 : Nat) : Int) = 0 from rfl, List.drop_zero] at h
  simp -implicitDefEqProofs only [go_sem, simprocAttr, h]
def idxF {α : Type} (P : α → Bool) : List α → Nat → Int
  | [], _ => -1
  | x :: r, i => cond (P x) (i : Int) (idxF P r (i + 1))
theorem idxF_any {α : Type} (P : α → Bool) : ∀ (l : List α) (i : Nat), decide (0 ≤ idxF P l i) = l.any P := by
  intro l
  induction l with
  | nil => intro i; rfl
  | cons x r ih =>
    intro i
    simp only [idxF, List.any_cons]
    rw [← ih (i + 1)]
    by_cases h : P x = true <;> simp [h]
theorem loop189 (b : Bool) (s : List UInt8) (l : List Cz) (hb : l.length < 1000000) : ∀ i, i ≤ l.length → (lim T).loop false [.code (.loop b189_0), .inBlock 0, .code (.seq r189_6 .ret)] ⟨189, 20, 0, [(0, .sl b 3 (l.map czV)), (1, .str s), (5, .int .i64 i)], [], 0, []⟩ = some (.ret (.int .i64 (idxF (fun a => a.n == s) (l.drop i) i)), [], 0, []) := by
  refine down_ind l.length ?_ fun i hi ih => ?_
  · rw [loopEq]
    have h1 := idx_out l.length
    simp -implicitDefEqProofs only [go_sem, simprocAttr, h1]
    simp [idxF]
  · obtain ⟨h1, h2, h3, h4, h5⟩ := idx_in hi (by omega)
    rw [loopEq, h5]
    cases h6 : (l[i].n == s)
    · simp -implicitDefEqProofs only [go_sem, simprocAttr, h1, h2, h3, h4, h6, ih]
      simp [idxF, h6]
    · simp -implicitDefEqProofs only [go_sem, simprocAttr, h1, h2, h3, h4, h6]
      simp [idxF, h6]
theorem c189 (b : Bool) (s : List UInt8) (l : List Cz) (hb : l.length < 1000000) : (lim T).call 189 [.sl b 3 (l.map czV), .str s] [] 0 [] = some (.int .i64 (idxF (fun a => a.n == s) l 0), [], 0, []) := by
  rw [ent189]
  have h := loop189 b s l hb 0 (by omega)
  rw [show ((0 : Nat) : Int) = 0 from rfl, List.drop_zero] at h
  simp -implicitDefEqProofs only [go_sem, simprocAttr, h]
def dupN (l : List Cz) (i : Nat) (c : Cz) : Bool := (l.take i).any fun a => a.n == c.n
def csE (l : List Cz) (i : Nat) (c : Cz) : Int := fnz [cond (!nameB c.n) 8 0, cond (dupN l i c) 9 0, ckC c]
theorem csE_f (l : List Cz) (i : Nat) (c : Cz) : fnz [cond (!nameB c.n) 8 0, cond (dupN l i c) 9 0, ckC c] = csE l i c := rfl
def csEs (l : List Cz) : Nat → List Cz → List Int
  | _, [] => []
  | i, m :: r => csE l i m :: csEs l (i + 1) r
def ckCs (l : List Cz) : Int := if 8 < l.length then 5 else fnz (csEs l 0 l)
theorem fnz_app (a b : List Int) : fnz (a ++ b) = fnz (a ++ [fnz b]) := by
  induction a with
  | nil =>
    simp only [List.nil_append, fnz]
    by_cases h : fnz b = 0 <;> simp [h]
  | cons x a ih => simp only [List.cons_append, fnz, ih]
theorem csE_ref (l : List Cz) (i : Nat) (c : Cz) : fnz [cond (!nameB c.n) 8 0, cond (dupN l i c) 9 0, rng c.c 0 7, cond ((c.l.length : Int) == 0) 12 0, cond (decide (8 < (c.l.length : Int))) 5 0, fnz (c.l.map fun x => ckL x)] = csE l i c := by
  have h1 := fnz_app [cond (!nameB c.n) 8 0, cond (dupN l i c) 9 0] [rng c.c 0 7, cond ((c.l.length : Int) == 0) 12 0, cond (decide (8 < (c.l.length : Int))) 5 0, fnz (c.l.map fun x => ckL x)]
  simp only [List.cons_append, List.nil_append] at h1
  rw [h1]
  unfold csE ckC
  have h2 : fnz [rng c.c 0 7, cond ((c.l.length : Int) == 0) 12 0, cond (decide (8 < (c.l.length : Int))) 5 0, fnz (c.l.map fun x => ckL x)] = fnz [rng c.c 0 7, szd c.l.length 8, fnz (c.l.map fun x => ckL x)] := by
    unfold szd
    simp only [fnz]
    by_cases h : cond ((c.l.length : Int) == 0) (12 : Int) 0 = 0
    · by_cases h' : cond (decide (8 < (c.l.length : Int))) (5 : Int) 0 = 0
      · simp [h, h']
      · simp [h, h']
    · simp [h]
  rw [h2]
def kvC (c : Cz) : V × V := (.str c.n, .bool true)
theorem mapSet_new {eq : V → V → Option Bool} {x y : V} : ∀ {es : List (V × V)}, (∀ e ∈ es, eq x e.1 = some false) → mapSet eq es x y = some (es ++ [(x, y)])
  | [], _ => rfl
  | (a, b) :: r, h => by
    have h1 := h (a, b) (List.mem_cons_self ..)
    dsimp only at h1
    simp only [mapSet, h1, mapSet_new (es := r) (fun e he => h e (List.mem_cons_of_mem _ he)), List.cons_append]
theorem eq9 (a b : List UInt8) : eqT T 5 9 (.str a) (.str b) = some (a == b) := by
  simp -implicitDefEqProofs only [go_sem, simprocAttr]
theorem key9 (a : List UInt8) : keyOk T 3 9 (.str a) = true := by kernel_rfl
theorem setC {l : List Cz} {i : Nat} (hi : i < l.length) (hd : dupN l i l[i] = false) : mapSet (eqT T 5 9) ((l.take i).map kvC) (.str l[i].n) (.bool true) = some ((l.take (i + 1)).map kvC) := by
  rw [mapSet_new]
  · rw [List.take_succ_eq_append_getElem hi, List.map_append]; rfl
  · intro e he
    obtain ⟨m, hm, rfl⟩ := List.mem_map.1 he
    unfold dupN at hd
    rw [List.any_eq_false] at hd
    have := hd m hm
    simp only [kvC]
    rw [eq9, Bool.beq_comm]
    simpa using this
theorem getC (l : List Cz) (s : List UInt8) : mapGet (eqT T 5 9) (l.map kvC) (.str s) = some (cond (l.any fun a => a.n == s) (some (.bool true)) none) := by
  induction l with
  | nil => rfl
  | cons c l ih =>
    simp only [List.map_cons, kvC, mapGet, eq9, List.any_cons]
    rw [Bool.beq_comm]
    cases h : (c.n == s)
    · simpa [kvC] using ih
    · rfl
def L120 (b : Bool) (l : List Cz) (i : Nat) : Option Out :=
  (lim T).loop false [.code (.loop b120_0), .inBlock 0, .code (.seq r120_12 .ret)] ⟨120, 38, 0, [(3, .map 0), (11, .sl b 3 (l.map czV)), (12, .int .i64 l.length), (13, .int .i64 i)], [.map ((l.take i).map kvC)], 0, []⟩
theorem loop120 (b : Bool) (l : List Cz) (hb : l.length < 1000000) (hn : ∀ c ∈ l, c.n.length < 1000000 ∧ c.l.length < 1000000) : ∀ i, i ≤ l.length → L120 b l i = some (.ret (.int .i64 (fnz (csEs l i (l.drop i)))), [], 0, []) := by
  refine down_ind l.length ?_ fun i hi ih => ?_
  · unfold L120
    rw [loopEq]
    have h1 := idx_out l.length
    simp -implicitDefEqProofs only [go_sem, simprocAttr, h1]
    simp [fnz, csEs]
  · obtain ⟨h1, h2, h3, h4, h5⟩ := idx_in hi (by omega)
    rw [h5]
    obtain ⟨k1, k2⟩ := hn l[i] (List.getElem_mem hi)
    have e1 := c190 l[i].n k1
    have e2 := c191 l[i] k2
    have e3 := getC (l.take i) l[i].n
    have e4 := key9 l[i].n
    have ef := csE_f l i l[i]
    simp only [czV] at e2
    have ed : dupN l i l[i] = (l.take i).any fun a => a.n == l[i].n := rfl
    rw [← ed] at e3
    cases h6 : (csE l i l[i] != 0)
    · have h7 : csE l i l[i] = 0 := by simpa using h6
      have h8 : dupN l i l[i] = false := by
        have := fnz_zero.1 h7 (cond (dupN l i l[i]) 9 0) (by simp)
        cases hd : dupN l i l[i] with
        | false => rfl
        | true => rw [hd] at this; cases this
      have e5 := setC hi h8
      unfold L120 at ih ⊢
      rw [loopEq]
      rw [h8] at e3 ef
      simp only [cond_false] at ef e3
      simp -implicitDefEqProofs only [go_sem, simprocAttr, h1, h2, h3, h4, e1, e2, e3, e4, c115, c114_3, ef, h6, e5, ih, cond_false]
      simp [fnz, csEs, h7]
    · have h7 : csE l i l[i] ≠ 0 := by simpa using h6
      unfold L120
      rw [loopEq]
      cases h8 : dupN l i l[i]
      · rw [h8] at e3 ef
        simp only [cond_false] at ef e3
        simp -implicitDefEqProofs only [go_sem, simprocAttr, h1, h2, h3, h4, e1, e2, e3, e4, c115, c114_3, ef, h6, cond_false]
        simp [fnz, csEs, h7]
      · rw [h8] at e3 ef
        simp only [cond_true] at ef e3
        simp -implicitDefEqProofs only [go_sem, simprocAttr, h1, h2, h3, h4, e1, e2, e3, e4, c115, c114_3, ef, h6, cond_true]
        simp [fnz, csEs, h7]
theorem c120 (b : Bool) (l : List Cz) (hb : l.length < 1000000) (hn : ∀ c ∈ l, c.n.length < 1000000 ∧ c.l.length < 1000000) : (lim T).call 120 [.sl b 3 (l.map czV)] [] 0 [] = some (.int .i64 (ckCs l), [], 0, []) := by
  rw [ent120]
  have h := loop120 b l hb hn 0 (by omega)
  rw [List.drop_zero] at h
  unfold L120 at h
  rw [show ((0 : Nat) : Int) = 0 from rfl, List.take_zero, List.map_nil] at h
  cases h1 : decide (8 < (l.length : Int))
  · have h2 : ¬ 8 < l.length := by simp at h1; omega
    simp -implicitDefEqProofs only [go_sem, simprocAttr, h, h1]
    simp [ckCs, h2]
  · have h2 : 8 < l.length := by simp at h1; omega
    simp -implicitDefEqProofs only [go_sem, simprocAttr, h1]
    simp [ckCs, h2]
theorem loop110 (b : Bool) (l : List Cz) (hb : l.length < 1000000) (hn : ∀ c ∈ l, c.n.length < 1000000 ∧ c.l.length < 1000000) : ∀ i, i ≤ l.length → (lim T).loop false [.code (.loop b110_0), .inBlock 0, .code (.seq r110_10 .ret)] ⟨110, 51, 0, [(0, .sl b 3 (l.map czV)), (3, .int .i64 i)], [], 0, []⟩ = some (.ret (.int .i64 (fnz (csEs l i (l.drop i)))), [], 0, []) := by
  refine down_ind l.length ?_ fun i hi ih => ?_
  · rw [loopEq]
    have h1 := idx_out l.length
    simp -implicitDefEqProofs only [go_sem, simprocAttr, h1]
    simp [fnz, csEs]
  · obtain ⟨h1, h2, h3, h4, h5⟩ := idx_in hi (by omega)
    rw [h5, loopEq]
    obtain ⟨k1, k2⟩ := hn l[i] (List.getElem_mem hi)
    have e1 := c188 l[i].n k1
    have e2 := c149 l[i].b l[i].l (by omega)
    have e3 := c189 b l[i].n (l.take i) (by simp; omega)
    simp only [List.map_take] at e3
    have e4 : decide (0 ≤ idxF (fun a : Cz => a.n == l[i].n) (l.take i) 0) = dupN l i l[i] := idxF_any _ _ 0
    have ef := csE_ref l i l[i]
    have hle : i ≤ l.length := by omega
    cases h6 : (csE l i l[i] != 0)
    · have h7 : csE l i l[i] = 0 := by simpa using h6
      simp -implicitDefEqProofs only [go_sem, simprocAttr, h1, h2, h3, h4, e1, e2, e3, e4, c39, c90, c108_6, ef, h6, ih]
      simp [fnz, csEs, h7, need, hle]
    · have h7 : csE l i l[i] ≠ 0 := by simpa using h6
      simp -implicitDefEqProofs only [go_sem, simprocAttr, h1, h2, h3, h4, e1, e2, e3, e4, c39, c90, c108_6, ef, h6]
      simp [fnz, csEs, h7, need, hle]
theorem c110 (b : Bool) (l : List Cz) (hb : l.length < 1000000) (hn : ∀ c ∈ l, c.n.length < 1000000 ∧ c.l.length < 1000000) : (lim T).call 110 [.sl b 3 (l.map czV)] [] 0 [] = some (.int .i64 (ckCs l), [], 0, []) := by
  rw [ent110]
  have h := loop110 b l hb hn 0 (by omega)
  rw [show ((0 : Nat) : Int) = 0 from rfl, List.drop_zero] at h
  cases h1 : decide (8 < (l.length : Int))
  · have h2 : ¬ 8 < l.length := by simp at h1; omega
    simp -implicitDefEqProofs only [go_sem, simprocAttr, h, h1]
    simp [ckCs, h2]
  · have h2 : 8 < l.length := by simp at h1; omega
    simp -implicitDefEqProofs only [go_sem, simprocAttr, h1]
    simp [ckCs, h2]
def rwV (r : Bool × List Int) : V := .sl r.1 1 (r.2.map intV)
structure Pk where
  vb : Bool
  v : List (Bool × List Int)
  n : Int
  cb : Bool
  c : List Cz
def pkV (p : Pk) : V := .agg [.sl p.vb 1 (p.v.map rwV), .int .i64 p.n, .sl p.cb 3 (p.c.map czV)]
attribute [go_sem] rwV
def chE (s : Nat) (r : Bool × List Int) : Int := fnz [szd r.2.length 8, cond ((r.2.length : Int) != s) 2 0, fnz (r.2.map fun n => ckE n)]
theorem chE_f (s : Nat) (r : Bool × List Int) : fnz [szd r.2.length 8, cond ((r.2.length : Int) != s) 2 0, fnz (r.2.map fun n => ckE n)] = chE s r := rfl
def caE (k s : Nat) (c : Cz) : Int := fnz [cond (decide ((k : Int) ≤ c.c)) 10 0, cond ((c.l.length : Int) != s) 2 0]
theorem caE_f (k s : Nat) (c : Cz) : fnz [cond (decide ((k : Int) ≤ c.c)) 10 0, cond ((c.l.length : Int) != s) 2 0] = caE k s c := rfl
def Pk.fit (p : Pk) : Prop := p.v.length < 1000 ∧ (∀ r ∈ p.v, r.2.length < 1000) ∧ p.c.length < 1000 ∧ ∀ c ∈ p.c, c.n.length < 1000000 ∧ c.l.length < 1000000
theorem first_in {p : Pk} {r0 : Bool × List Int} (h : p.v[0]? = some r0) : decide (0 < (p.v.length : Int)) = true := by
  obtain ⟨h, _⟩ := List.getElem?_eq_some_iff.1 h
  exact decide_eq_true (by omega)
theorem c113 (p : Pk) (r0 r : Bool × List Int) (h0 : p.v[0]? = some r0) (hr : r.2.length < 1000000) : (lim T).call 113 [.sl r.1 1 (r.2.map intV), .pp 3 [pkV p] 0 0] [] 0 [] = some (.int .i64 (chE r0.2.length r), [], 0, []) := by
  rw [ent113]
  have g := first_in h0
  have e1 := c116 r.1 r.2 hr
  have e2 := fun b => c114 b (r.2.map fun n => ckE n) (by simp; omega)
  have e3 : List.map intV (List.map (fun x => ckE x) r.2) = List.map (fun n => V.int .i64 n) (List.map (fun x => ckE x) r.2) := rfl
  rw [e3] at e1
  simp -implicitDefEqProofs only [go_sem, simprocAttr, pkV, h0, g, e1, e2, c115, c112, szd_f, c114_3, chE_f]
theorem c118 (p : Pk) (r0 : Bool × List Int) (c : Cz) (h0 : p.v[0]? = some r0) : (lim T).call 118 [.agg [.str c.n, .int .i64 c.c, .sl c.b 2 (c.l.map ivV)], .pp 3 [pkV p] 0 0] [] 0 [] = some (.int .i64 (caE p.v.length r0.2.length c), [], 0, []) := by
  rw [ent118]
  have g := first_in h0
  simp -implicitDefEqProofs only [go_sem, simprocAttr, pkV, h0, g, c115, c114_2, caE_f]
theorem loop119 (p : Pk) (r0 : Bool × List Int) (h0 : p.v[0]? = some r0) (b : Bool) (l : List (Bool × List Int)) (hb : l.length < 1000000) (hr : ∀ r ∈ l, r.2.length < 1000000) : ∀ i, i ≤ l.length → ∀ o : Option (List (Int)), acL o = i →
    (lim T).loop false [.code (.loop b119_0), .inBlock 0, .code (.seq r119_7 .ret)] ⟨119, 22, 0, [(1, .fn 113 [.pp 3 [pkV p] 0 0]), (5, acV o 0), (8, .sl b 1 (l.map rwV)), (9, .int .i64 l.length), (10, .int .i64 i)], acR intV o 29, 0, []⟩ =
      some (.ret (acO intV 0 1 (acA o ((l.drop i).map (fun r => chE r0.2.length r)))), [], 0, []) := by
  refine down_ind l.length ?_ fun i hi ih o ho => ?_
  · intro o ho
    rw [loopEq]
    have h1 := idx_out l.length
    cases o with
    | none =>
      simp -implicitDefEqProofs only [go_sem, simprocAttr, h1]
      simp [acA, acO]
    | some a =>
      simp -implicitDefEqProofs only [go_sem, simprocAttr, h1]
      simp [acA, acO]
  · obtain ⟨h1, h2, h3, h4, h5⟩ := idx_in hi (by omega)
    rw [loopEq, h5]
    have ih' := ih (acA o [((fun r => chE r0.2.length r) l[i])]) (by rw [acL_A, ho]; rfl)
    rw [acA_acA] at ih'
    dsimp only at ih'
    cases o with
    | none =>
      have h8 := row_ok (n := 0) (by omega)
      simp only [acA_n, acV_s, acR_s, List.map_cons, List.map_nil, intV] at ih'
      simp -implicitDefEqProofs only [go_sem, simprocAttr, h1, h2, h3, h4, ih', h8.2, c113 p r0 l[i] h0 (hr _ (List.getElem_mem hi))]
    | some a =>
      have h9 : a.length = i := ho
      have h8 := (row_ok (n := a.length) (by omega)).1
      simp only [acA_s, acV_s, acR_s, List.map_append, List.map_cons, List.map_nil, intV] at ih'
      simp -implicitDefEqProofs only [go_sem, simprocAttr, h1, h2, h3, h4, ih', h8, c113 p r0 l[i] h0 (hr _ (List.getElem_mem hi))]
theorem c119 (p : Pk) (r0 : Bool × List Int) (h0 : p.v[0]? = some r0) (b : Bool) (l : List (Bool × List Int)) (hb : l.length < 1000000) (hr : ∀ r ∈ l, r.2.length < 1000000) : (lim T).call 119 [.sl b 1 (l.map rwV), .fn 113 [.pp 3 [pkV p] 0 0]] [] 0 [] = some (slV 1 (((l).map (fun r => chE r0.2.length r)).map intV), [], 0, []) := by
  rw [ent119]
  have h := loop119 p r0 h0 b l hb hr 0 (by omega) none rfl
  rw [show ((0 : Nat) : Int) = 0 from rfl, List.drop_zero, acO_slV] at h
  simp only [acV_n, acR_n] at h
  simp -implicitDefEqProofs only [go_sem, simprocAttr, h]
theorem loop121 (p : Pk) (r0 : Bool × List Int) (h0 : p.v[0]? = some r0) (b : Bool) (l : List (Cz)) (hb : l.length < 1000000) : ∀ i, i ≤ l.length → ∀ o : Option (List (Int)), acL o = i →
    (lim T).loop false [.code (.loop b121_0), .inBlock 0, .code (.seq r121_7 .ret)] ⟨121, 22, 0, [(1, .fn 118 [.pp 3 [pkV p] 0 0]), (5, acV o 0), (8, .sl b 3 (l.map czV)), (9, .int .i64 l.length), (10, .int .i64 i)], acR intV o 29, 0, []⟩ =
      some (.ret (acO intV 0 1 (acA o ((l.drop i).map (fun c => caE p.v.length r0.2.length c)))), [], 0, []) := by
  refine down_ind l.length ?_ fun i hi ih o ho => ?_
  · intro o ho
    rw [loopEq]
    have h1 := idx_out l.length
    cases o with
    | none =>
      simp -implicitDefEqProofs only [go_sem, simprocAttr, h1]
      simp [acA, acO]
    | some a =>
      simp -implicitDefEqProofs only [go_sem, simprocAttr, h1]
      simp [acA, acO]
  · obtain ⟨h1, h2, h3, h4, h5⟩ := idx_in hi (by omega)
    rw [loopEq, h5]
    have ih' := ih (acA o [((fun c => caE p.v.length r0.2.length c) l[i])]) (by rw [acL_A, ho]; rfl)
    rw [acA_acA] at ih'
    dsimp only at ih'
    cases o with
    | none =>
      have h8 := row_ok (n := 0) (by omega)
      simp only [acA_n, acV_s, acR_s, List.map_cons, List.map_nil, intV] at ih'
      simp -implicitDefEqProofs only [go_sem, simprocAttr, h1, h2, h3, h4, ih', h8.2, c118 p r0 l[i] h0]
    | some a =>
      have h9 : a.length = i := ho
      have h8 := (row_ok (n := a.length) (by omega)).1
      simp only [acA_s, acV_s, acR_s, List.map_append, List.map_cons, List.map_nil, intV] at ih'
      simp -implicitDefEqProofs only [go_sem, simprocAttr, h1, h2, h3, h4, ih', h8, c118 p r0 l[i] h0]
theorem c121 (p : Pk) (r0 : Bool × List Int) (h0 : p.v[0]? = some r0) (b : Bool) (l : List (Cz)) (hb : l.length < 1000000) : (lim T).call 121 [.sl b 3 (l.map czV), .fn 118 [.pp 3 [pkV p] 0 0]] [] 0 [] = some (slV 1 (((l).map (fun c => caE p.v.length r0.2.length c)).map intV), [], 0, []) := by
  rw [ent121]
  have h := loop121 p r0 h0 b l hb  0 (by omega) none rfl
  rw [show ((0 : Nat) : Int) = 0 from rfl, List.drop_zero, acO_slV] at h
  simp only [acV_n, acR_n] at h
  simp -implicitDefEqProofs only [go_sem, simprocAttr, h]
def ckPk (p : Pk) : Int := if szd p.v.length 8 = 0 then fnz [fnz (p.v.map fun r => chE ((p.v[0]?.getD (false, [])).2.length) r), ckE p.n, ckCs p.c, fnz (p.c.map fun c => caE p.v.length ((p.v[0]?.getD (false, [])).2.length) c)] else szd p.v.length 8
theorem szd_ne {n : Nat} (h : szd n 8 = 0) : 0 < n ∧ n ≤ 8 := by
  unfold szd at h
  have h1 := fnz_zero.1 h (cond ((n : Int) == 0) 12 0) (by simp)
  have h2 := fnz_zero.1 h (cond (decide (8 < (n : Int))) 5 0) (by simp)
  constructor
  · cases n with
    | zero => cases h1
    | succ n => omega
  · by_cases hc : 8 < (n : Int)
    · simp [hc] at h2
    · omega
theorem c23 (p : Pk) (hf : p.fit) : (lim T).call 23 [pkV p] [] 0 [] = some (.int .i64 (ckPk p), [], 0, []) := by
  rw [ent23]
  obtain ⟨f1, f2, f3, f4⟩ := hf
  have e1 := c112 p.v.length 8
  rw [szd_f] at e1
  unfold ckPk
  cases h : (szd p.v.length 8 != 0)
  · have h0 : szd p.v.length 8 = 0 := by simpa using h
    rw [if_pos h0]
    obtain ⟨k1, k2⟩ := szd_ne h0
    have hr0 : p.v[0]? = some p.v[0] := List.getElem?_eq_getElem k1
    have e2 := c119 p p.v[0] hr0 p.vb p.v (by omega) (fun r hr => by have := f2 r hr; omega)
    have e3 := c121 p p.v[0] hr0 p.cb p.c (by omega)
    have e4 := c120 p.cb p.c (by omega) f4
    have e5 := fun b => c114 b (p.v.map fun r => chE p.v[0].2.length r) (by simp; omega)
    have e6 := fun b => c114 b (p.c.map fun c => caE p.v.length p.v[0].2.length c) (by simp; omega)
    have t1 : List.map intV (List.map (fun r => chE p.v[0].2.length r) p.v) = List.map (fun n => V.int .i64 n) (List.map (fun r => chE p.v[0].2.length r) p.v) := rfl
    have t2 : List.map intV (List.map (fun c => caE p.v.length p.v[0].2.length c) p.c) = List.map (fun n => V.int .i64 n) (List.map (fun c => caE p.v.length p.v[0].2.length c) p.c) := rfl
    rw [t1] at e2
    rw [t2] at e3
    rw [hr0]
    dsimp only [Option.getD_some]
    have e7 := c114_4 true (fnz (p.v.map fun r => chE p.v[0].2.length r)) (ckE p.n) (ckCs p.c) (fnz (p.c.map fun c => caE p.v.length p.v[0].2.length c))
    simp only [pkV] at e2 e3
    simp -implicitDefEqProofs only [go_sem, simprocAttr, pkV, e1, h, e2, e3, e4, e5, e6, e7, c117]
  · have h0 : ¬ szd p.v.length 8 = 0 := by simpa using h
    rw [if_neg h0]
    simp -implicitDefEqProofs only [go_sem, simprocAttr, pkV, e1, h]
def chQ (s : Nat) (r : Bool × List Int) : Int := fnz [cond ((r.2.length : Int) == 0) 12 0, cond (decide (8 < (r.2.length : Int))) 5 0, cond ((r.2.length : Int) != s) 2 0]
theorem chQ_f (s : Nat) (r : Bool × List Int) : fnz [cond ((r.2.length : Int) == 0) 12 0, cond (decide (8 < (r.2.length : Int))) 5 0, cond ((r.2.length : Int) != s) 2 0] = chQ s r := rfl
theorem chE_ref (s : Nat) (r : Bool × List Int) : chE s r = if chQ s r = 0 then fnz (r.2.map fun n => ckE n) else chQ s r := by
  unfold chE chQ szd
  simp only [fnz]
  by_cases h : cond ((r.2.length : Int) == 0) (12 : Int) 0 = 0
  · by_cases h' : cond (decide (8 < (r.2.length : Int))) (5 : Int) 0 = 0
    · by_cases h'' : cond ((r.2.length : Int) != s) (2 : Int) 0 = 0
      · simp only [h, h', h'', if_true]
        by_cases h3 : fnz (r.2.map fun n => ckE n) = 0 <;> simp [h3]
      · simp [h, h', h'']
    · simp [h, h']
  · simp [h]
def brE (e : Int) (x : Option Out) : Option Out := if e = 0 then x else some (.ret (.int .i64 e), [], 0, [])
theorem brE_c {a : Int} {l : List Int} {x : Option Out} (h : a = 0) : brE (fnz (a :: l)) x = brE (fnz l) x := by simp [brE, fnz, h]
theorem brE_n {a : Int} {l : List Int} {x : Option Out} (h : ¬ a = 0) : brE (fnz (a :: l)) x = some (.ret (.int .i64 a), [], 0, []) := by simp [brE, fnz, h]
def L20i (p : Pk) (s : Nat) (r : Bool × List Int) (i k : Nat) : Option Out :=
  (lim T).loop false [.code (.loop b20_1), .inBlock 2, .inBlock 1, .code r20_7, .inLoop b20_0, .inBlock 0, .code (.seq (.seq r20_18 (.seq r20_19 (.cond (.tmp 86) (.seq r20_20 .ret) .skip))) (.seq (.seq r20_21 (.block 4 (.loop b20_2))) (.seq r20_27 .ret)))]
    ⟨20, 121, 0, [(1, .ptr 0 0 0), (4, .int .i64 s), (5, .int .i64 i), (6, .sl r.1 1 (r.2.map intV)), (8, .int .i64 k)], [.cells true true 25 [pkV p]], 0, []⟩
theorem loop20i (p : Pk) (s : Nat) (r : Bool × List Int) (i : Nat) (hr : r.2.length < 1000000) : ∀ k, k ≤ r.2.length → L20i p s r i k = brE (fnz ((r.2.drop k).map fun n => ckE n)) (L20i p s r i r.2.length) := by
  refine down_ind r.2.length ?_ fun k hk ih => ?_
  · have h0 : r.2.drop r.2.length = [] := by simp
    rw [h0]; rfl
  · obtain ⟨h1, h2, h3, h4, h5⟩ := idx_in hk (by omega)
    rw [h5, List.map_cons]
    conv => lhs; unfold L20i; rw [loopEq]
    cases h6 : (ckE r.2[k] != 0)
    · have h7 : ckE r.2[k] = 0 := by simpa using h6
      rw [brE_c h7, ← ih]
      unfold L20i
      simp -implicitDefEqProofs only [go_sem, simprocAttr, pkV, h1, h2, h3, h4, h6, c109]
    · have h7 : ¬ ckE r.2[k] = 0 := by simpa using h6
      rw [brE_n h7]
      simp -implicitDefEqProofs only [go_sem, simprocAttr, pkV, h1, h2, h3, h4, h6, c109]
def L20 (p : Pk) (s : Nat) (i : Nat) : Option Out :=
  (lim T).loop false [.code (.loop b20_0), .inBlock 0, .code (.seq (.seq r20_18 (.seq r20_19 (.cond (.tmp 86) (.seq r20_20 .ret) .skip))) (.seq (.seq r20_21 (.block 4 (.loop b20_2))) (.seq r20_27 .ret)))]
    ⟨20, 121, 0, [(1, .ptr 0 0 0), (4, .int .i64 s), (5, .int .i64 i)], [.cells true true 25 [pkV p]], 0, []⟩
theorem loop20 (p : Pk) (s : Nat) (hv : p.v.length < 1000) (hr : ∀ r ∈ p.v, r.2.length < 1000) : ∀ i, i ≤ p.v.length → L20 p s i = brE (fnz ((p.v.drop i).map fun r => chE s r)) (L20 p s p.v.length) := by
  refine down_ind p.v.length ?_ fun i hi ih => ?_
  · have h0 : p.v.drop p.v.length = [] := by simp
    rw [h0]; rfl
  · obtain ⟨h1, h2, h3, h4, h5⟩ := idx_in hi (by omega)
    rw [h5, List.map_cons]
    have hri := hr _ (List.getElem_mem hi)
    have hI := loop20i p s p.v[i] i (by omega) 0 (by omega)
    rw [List.drop_zero] at hI
    have hE := idx_out p.v[i].2.length
    have fin : L20i p s p.v[i] i p.v[i].2.length = L20 p s (i + 1) := by
      unfold L20i L20
      rw [loopEq]
      simp -implicitDefEqProofs only [go_sem, simprocAttr, pkV, hE, h4]
    rw [fin] at hI
    conv at hI => lhs; unfold L20i
    rw [show ((0 : Nat) : Int) = 0 from rfl] at hI
    simp only [pkV] at hI
    conv => lhs; unfold L20; rw [loopEq]
    have hch := chE_ref s p.v[i]
    cases h6 : (chQ s p.v[i] != 0)
    · have h7 : chQ s p.v[i] = 0 := by simpa using h6
      rw [if_pos h7] at hch
      by_cases h8 : fnz (p.v[i].2.map fun n => ckE n) = 0
      · rw [h8] at hch
        unfold brE at hI
        rw [if_pos h8] at hI
        rw [brE_c hch, ← ih]
        conv at hI => rhs; unfold L20
        simp only [pkV] at hI
        conv => rhs; unfold L20
        simp -implicitDefEqProofs only [go_sem, simprocAttr, pkV, h1, h2, h3, h4, c39, c108_3, chQ_f, h6, hI]
      · unfold brE at hI
        rw [if_neg h8, ← hch] at hI
        rw [← hch] at h8
        rw [brE_n h8]
        simp -implicitDefEqProofs only [go_sem, simprocAttr, pkV, h1, h2, h3, h4, c39, c108_3, chQ_f, h6, hI]
    · have h7 : ¬ chQ s p.v[i] = 0 := by simpa using h6
      rw [if_neg h7] at hch
      rw [← hch] at h7
      rw [brE_n h7, hch]
      simp -implicitDefEqProofs only [go_sem, simprocAttr, pkV, h1, h2, h3, h4, c39, c108_3, chQ_f, h6]
def L20c (p : Pk) (s : Nat) (i : Nat) : Option Out :=
  (lim T).loop false [.code (.loop b20_2), .inBlock 4, .code (.seq r20_27 .ret)]
    ⟨20, 121, 0, [(1, .ptr 0 0 0), (4, .int .i64 s), (11, .int .i64 i)], [.cells true true 25 [pkV p]], 0, []⟩
theorem loop20c (p : Pk) (s : Nat) (hc : p.c.length < 1000) : ∀ i, i ≤ p.c.length → L20c p s i = some (.ret (.int .i64 (fnz ((p.c.drop i).map fun c => caE p.v.length s c))), [], 0, []) := by
  refine down_ind p.c.length ?_ fun i hi ih => ?_
  · have h0 : p.c.drop p.c.length = [] := by simp
    rw [h0]
    unfold L20c
    rw [loopEq]
    have h1 := idx_out p.c.length
    simp -implicitDefEqProofs only [go_sem, simprocAttr, pkV, h1]
    simp [fnz]
  · obtain ⟨h1, h2, h3, h4, h5⟩ := idx_in hi (by omega)
    rw [h5, List.map_cons]
    simp only [fnz]
    unfold L20c at ih ⊢
    simp only [pkV] at ih
    rw [loopEq]
    cases h6 : (caE p.v.length s p.c[i] != 0)
    · have h7 : caE p.v.length s p.c[i] = 0 := by simpa using h6
      rw [if_pos h7]
      simp -implicitDefEqProofs only [go_sem, simprocAttr, pkV, h1, h2, h3, h4, c39, c108_2, caE_f, h6, ih]
    · have h7 : ¬ caE p.v.length s p.c[i] = 0 := by simpa using h6
      rw [if_neg h7]
      simp -implicitDefEqProofs only [go_sem, simprocAttr, pkV, h1, h2, h3, h4, c39, c108_2, caE_f, h6]
theorem fnz4 (a b c d : Int) : fnz [a, b, c, d] = if a = 0 then (if fnz [b, c] = 0 then d else fnz [b, c]) else a := by
  simp only [fnz]
  by_cases h : a = 0
  · by_cases h' : b = 0
    · by_cases h'' : c = 0
      · by_cases h3 : d = 0 <;> simp [h, h', h'', h3]
      · simp [h, h', h'']
    · simp [h, h']
  · simp [h]
theorem c20 (p : Pk) (hf : p.fit) : (lim T).call 20 [pkV p] [] 0 [] = some (.int .i64 (ckPk p), [], 0, []) := by
  rw [ent20]
  obtain ⟨f1, f2, f3, f4⟩ := hf
  unfold ckPk
  cases h : (szd p.v.length 8 != 0)
  · have h0 : szd p.v.length 8 = 0 := by simpa using h
    rw [if_pos h0]
    obtain ⟨k1, k2⟩ := szd_ne h0
    have hr0 : p.v[0]? = some p.v[0] := List.getElem?_eq_getElem k1
    have g := first_in hr0
    rw [hr0]
    dsimp only [Option.getD_some]
    rw [fnz4]
    have hL := loop20 p p.v[0].2.length f1 f2 0 (by omega)
    rw [List.drop_zero] at hL
    have hC := loop20c p p.v[0].2.length f3 0 (by omega)
    rw [List.drop_zero] at hC
    unfold L20c at hC
    rw [show ((0 : Nat) : Int) = 0 from rfl] at hC
    simp only [pkV] at hC
    have e4 := c110 p.cb p.c (by omega) f4
    have hE := idx_out p.v.length
    by_cases h8 : fnz (p.v.map fun r => chE p.v[0].2.length r) = 0
    · unfold brE at hL
      rw [if_pos h8] at hL ⊢
      have fin : L20 p p.v[0].2.length p.v.length = some (.ret (.int .i64 (if fnz [ckE p.n, ckCs p.c] = 0 then fnz (p.c.map fun c => caE p.v.length p.v[0].2.length c) else fnz [ckE p.n, ckCs p.c])), [], 0, []) := by
        unfold L20
        rw [loopEq]
        cases h9 : (fnz [ckE p.n, ckCs p.c] != 0)
        · have h10 : fnz [ckE p.n, ckCs p.c] = 0 := by simpa using h9
          rw [if_pos h10]
          simp -implicitDefEqProofs only [go_sem, simprocAttr, pkV, hE, e4, c109, c108_2, h9, hC]
        · have h10 : ¬ fnz [ckE p.n, ckCs p.c] = 0 := by simpa using h9
          rw [if_neg h10]
          simp -implicitDefEqProofs only [go_sem, simprocAttr, pkV, hE, e4, c109, c108_2, h9]
      rw [fin] at hL
      unfold L20 at hL
      rw [show ((0 : Nat) : Int) = 0 from rfl] at hL
      simp only [pkV] at hL
      simp -implicitDefEqProofs only [go_sem, simprocAttr, pkV, c39, c108_2, szd_f, h, g, hr0, hL]
    · unfold brE at hL
      rw [if_neg h8] at hL ⊢
      unfold L20 at hL
      rw [show ((0 : Nat) : Int) = 0 from rfl] at hL
      simp only [pkV] at hL
      simp -implicitDefEqProofs only [go_sem, simprocAttr, pkV, c39, c108_2, szd_f, h, g, hr0, hL]
  · have h0 : ¬ szd p.v.length 8 = 0 := by simpa using h
    rw [if_neg h0]
    simp -implicitDefEqProofs only [go_sem, simprocAttr, pkV, c39, c108_2, szd_f, h]
def shC1 (c : Cz) : Bool := !(decide (40 < (c.n.length : Int)) || decide (9 < (c.l.length : Int)))
def shC (l : List Cz) : Bool := !(decide (6 < (l.length : Int)) && ((l.length : Int) != 9)) && l.all shC1
theorem loop101 (b : Bool) (l : List Cz) (hb : l.length < 4611686018427387904) : ∀ i, i ≤ l.length → (lim T).loop false [.code (.loop b101_0), .inBlock 0, .code (.seq r101_8 .ret)] ⟨101, 34, 0, [(0, .sl b 3 (l.map czV)), (3, .int .i64 i)], [], 0, []⟩ = some (.ret (.bool ((l.drop i).all shC1)), [], 0, []) := by
  refine down_ind l.length ?_ fun i hi ih => ?_
  · rw [loopEq]
    have h1 := idx_out l.length
    simp -implicitDefEqProofs only [go_sem, simprocAttr, h1]
    try simp
  · obtain ⟨h1, h2, h3, h4, h5⟩ := idx_in hi hb
    rw [loopEq, h5, List.all_cons]
    unfold shC1 at ih ⊢
    cases h6 : decide (40 < (l[i].n.length : Int))
    · cases h7 : decide (9 < (l[i].l.length : Int))
      · simp -implicitDefEqProofs only [go_sem, simprocAttr, h1, h2, h3, h4, h6, h7, ih]
        try simp
      · simp -implicitDefEqProofs only [go_sem, simprocAttr, h1, h2, h3, h4, h6, h7, ih]
        try simp
    · simp -implicitDefEqProofs only [go_sem, simprocAttr, h1, h2, h3, h4, h6, ih]
      try simp
theorem c101 (b : Bool) (l : List Cz) : (lim T).call 101 [.sl b 3 (l.map czV)] [] 0 [] = some (.bool (shC l), [], 0, []) := by
  rw [ent101]
  have h := fun hb => loop101 b l hb 0 (by omega)
  rw [show ((0 : Nat) : Int) = 0 from rfl, List.drop_zero] at h
  unfold shC
  cases h1 : decide (6 < (l.length : Int))
  · have h := h (by simp at h1; omega)
    simp -implicitDefEqProofs only [go_sem, simprocAttr, h1, h]
    try simp
  · cases h2 : ((l.length : Int) != 9)
    · have h := h (by simp at h2; omega)
      simp -implicitDefEqProofs only [go_sem, simprocAttr, h1, h2, h]
      try simp
    · simp -implicitDefEqProofs only [go_sem, simprocAttr, h1, h2]
      try simp
def shR (r : Bool × List Int) : Bool := !decide (9 < (r.2.length : Int))
def shP (p : Pk) : Bool := !(decide (9 < (p.v.length : Int)) || !shC p.c) && p.v.all shR
theorem loop15 (p : Pk) (hb : p.v.length < 4611686018427387904) : ∀ i, i ≤ p.v.length → (lim T).loop false [.code (.loop b15_0), .inBlock 0, .code (.seq r15_8 .ret)] ⟨15, 28, 0, [(1, .ptr 0 0 0), (3, .int .i64 i)], [.cells true true 25 [pkV p]], 0, []⟩ = some (.ret (.bool ((p.v.drop i).all shR)), [], 0, []) := by
  refine down_ind p.v.length ?_ fun i hi ih => ?_
  · rw [loopEq]
    have h1 := idx_out p.v.length
    simp -implicitDefEqProofs only [go_sem, simprocAttr, pkV, h1]
    try simp
  · obtain ⟨h1, h2, h3, h4, h5⟩ := idx_in hi hb
    rw [loopEq, h5, List.all_cons]
    unfold shR at ih ⊢
    simp only [pkV] at ih
    cases h6 : decide (9 < (p.v[i].2.length : Int))
    · simp -implicitDefEqProofs only [go_sem, simprocAttr, pkV, h1, h2, h3, h4, h6, ih]
      try simp
    · simp -implicitDefEqProofs only [go_sem, simprocAttr, pkV, h1, h2, h3, h4, h6, ih]
      try simp
theorem c15 (p : Pk) : (lim T).call 15 [pkV p] [] 0 [] = some (.bool (shP p), [], 0, []) := by
  rw [ent15]
  have h := fun hb => loop15 p hb 0 (by omega)
  rw [show ((0 : Nat) : Int) = 0 from rfl, List.drop_zero] at h
  have e1 := c101 p.cb p.c
  unfold shP
  cases h1 : decide (9 < (p.v.length : Int))
  · have h := h (by simp at h1; omega)
    simp only [pkV] at h
    cases h2 : shC p.c
    · rw [h2] at e1
      simp -implicitDefEqProofs only [go_sem, simprocAttr, pkV, h1, e1]
      try simp
    · rw [h2] at e1
      simp -implicitDefEqProofs only [go_sem, simprocAttr, pkV, h1, e1, h]
      try simp
  · simp -implicitDefEqProofs only [go_sem, simprocAttr, pkV, h1]
    try simp
def ownC (c : Cz) : Cz := ⟨c.n, c.c, true, c.l⟩
theorem loop172 (b : Bool) (l : List Cz) (hb : l.length < 1000) (hl : ∀ c ∈ l, c.l.length < 1000000) : ∀ i, i ≤ l.length → ∀ o : Option (List Cz), acL o = i →
    (lim T).loop false [.code (.loop b172_0), .inBlock 0, .code (.seq r172_8 .ret)] ⟨172, 26, 0, [(0, .sl b 3 (l.map czV)), (3, acV o 0), (4, .int .i64 i)], acR czV o 140, 0, []⟩ =
      some (.ret (acO czV 0 3 (acA o ((l.drop i).map ownC))), [], 0, []) := by
  refine down_ind l.length ?_ fun i hi ih o ho => ?_
  · intro o ho
    rw [loopEq]
    have h1 := idx_out l.length
    cases o with
    | none =>
      simp -implicitDefEqProofs only [go_sem, simprocAttr, h1]
      simp [acA, acO]
    | some a =>
      simp -implicitDefEqProofs only [go_sem, simprocAttr, h1]
      simp [acA, acO]
  · obtain ⟨h1, h2, h3, h4, h5⟩ := idx_in hi (by omega)
    rw [loopEq, h5]
    have ih' := ih (acA o [ownC l[i]]) (by rw [acL_A, ho]; rfl)
    rw [acA_acA] at ih'
    have hli := hl _ (List.getElem_mem hi)
    cases hx : l[i].l with
    | nil =>
      cases o with
      | none =>
        have h8 := row_ok (n := 0) (by omega)
        simp only [acA_n, acV_s, acR_s, List.map_cons, List.map_nil, czV, ownC, hx] at ih'
        simp -implicitDefEqProofs only [go_sem, simprocAttr, h1, h2, h3, h4, hx, ih', h8.2, ownC]
      | some a =>
        have h9 : a.length = i := ho
        have h8 := (row_ok (n := a.length) (by omega)).1
        simp only [acA_s, acV_s, acR_s, List.map_append, List.map_cons, List.map_nil, czV, ownC, hx] at ih'
        simp -implicitDefEqProofs only [go_sem, simprocAttr, h1, h2, h3, h4, hx, ih', h8, ownC]
    | cons y r =>
      have h7 := (row_ok (n := r.length) (by rw [hx] at hli; simp at hli; omega)).1
      cases o with
      | none =>
        have h8 := row_ok (n := 0) (by omega)
        simp only [acA_n, acV_s, acR_s, List.map_cons, List.map_nil, czV, ownC, hx, ivV] at ih'
        simp -implicitDefEqProofs only [go_sem, simprocAttr, h1, h2, h3, h4, hx, ih', h8.2, h7, ownC]
      | some a =>
        have h9 : a.length = i := ho
        have h8 := (row_ok (n := a.length) (by omega)).1
        simp only [acA_s, acV_s, acR_s, List.map_append, List.map_cons, List.map_nil, czV, ownC, hx, ivV] at ih'
        simp -implicitDefEqProofs only [go_sem, simprocAttr, h1, h2, h3, h4, hx, ih', h8, h7, ownC]
theorem c172 (b : Bool) (l : List Cz) (hb : l.length < 1000) (hl : ∀ c ∈ l, c.l.length < 1000000) : (lim T).call 172 [.sl b 3 (l.map czV)] [] 0 [] = some (slV 3 ((l.map ownC).map czV), [], 0, []) := by
  rw [ent172]
  have h := loop172 b l hb hl 0 (by omega) none rfl
  rw [show ((0 : Nat) : Int) = 0 from rfl, List.drop_zero, acO_slV] at h
  simp only [acV_n, acR_n] at h
  simp -implicitDefEqProofs only [go_sem, simprocAttr, h]
def ownR (r : Bool × List Int) : Bool × List Int := (true, r.2)
def L88 (p : Pk) (o : Option (List (Bool × List Int))) (i : Nat) : Option Out :=
  (lim T).loop false [.code (.loop b88_0), .inBlock 0, .code (.seq r88_6 (.seq r88_7 .ret))]
    ⟨88, 32, 0, [(1, .ptr 0 0 0), (2, .ptr 1 0 0), (3, .ptr 2 0 0), (4, .int .i64 i)], .cells true true 25 [pkV p] :: .cells true true 25 [.agg [.sl false 0 [], .int .i64 0, .sl false 0 []]] :: .cells true o.isNone 25 [.agg [acV o 3, .int .i64 p.n, .sl false 0 []]] :: acR rwV o 28, 0, []⟩
def ownK (p : Pk) : V := .agg [slV 1 ((p.v.map ownR).map rwV), .int .i64 p.n, .sl (!((p.c.map ownC).map czV).isEmpty) 3 ((p.c.map ownC).map czV)]
theorem loop88 (p : Pk) (hf : p.fit) : ∀ i, i ≤ p.v.length → ∀ o : Option (List (Bool × List Int)), acL o = i →
    L88 p o i = some (.ret (.agg [acO rwV 0 1 (acA o ((p.v.drop i).map ownR)), .int .i64 p.n, .sl (!((p.c.map ownC).map czV).isEmpty) 3 ((p.c.map ownC).map czV)]), [], 0, []) := by
  obtain ⟨f1, f2, f3, f4⟩ := hf
  have e1 := c172 p.cb p.c f3 (fun c hc => (f4 c hc).2)
  refine down_ind p.v.length ?_ fun i hi ih o ho => ?_
  · intro o ho
    unfold L88
    rw [loopEq]
    have h1 := idx_out p.v.length
    cases o with
    | none =>
      simp only [acV_n, acR_n, Option.isNone_none]
      simp -implicitDefEqProofs only [go_sem, simprocAttr, pkV, h1, e1]
      simp [acA, acO]
    | some a =>
      simp only [acV_s, acR_s, Option.isNone_some]
      simp -implicitDefEqProofs only [go_sem, simprocAttr, pkV, h1, e1]
      simp [acA, acO]
  · obtain ⟨h1, h2, h3, h4, h5⟩ := idx_in hi (by omega)
    rw [h5]
    have ih' := ih (acA o [ownR p.v[i]]) (by rw [acL_A, ho]; rfl)
    rw [acA_acA] at ih'
    have hli := f2 _ (List.getElem_mem hi)
    unfold L88 at ih' ⊢
    rw [loopEq]
    cases hx : p.v[i].2 with
    | nil =>
      cases o with
      | none =>
        have h8 := row_ok (n := 0) (by omega)
        simp only [acA_n, acV_s, acR_s, acV_n, acR_n, Option.isNone_some, Option.isNone_none, List.map_cons, List.map_nil, rwV, ownR, hx, pkV] at ih' ⊢
        simp -implicitDefEqProofs only [go_sem, simprocAttr, pkV, h1, h2, h3, h4, hx, ih', h8.2]
      | some a =>
        have h9 : a.length = i := ho
        have h8 := (row_ok (n := a.length) (by omega)).1
        simp only [acA_s, acV_s, acR_s, Option.isNone_some, List.map_append, List.map_cons, List.map_nil, rwV, ownR, hx, pkV] at ih' ⊢
        simp -implicitDefEqProofs only [go_sem, simprocAttr, pkV, h1, h2, h3, h4, hx, ih', h8]
    | cons y r =>
      have h7 := (row_ok (n := r.length) (by rw [hx] at hli; simp at hli; omega)).1
      cases o with
      | none =>
        have h8 := row_ok (n := 0) (by omega)
        simp only [acA_n, acV_s, acR_s, acV_n, acR_n, Option.isNone_some, Option.isNone_none, List.map_cons, List.map_nil, rwV, ownR, hx, pkV, intV] at ih' ⊢
        simp -implicitDefEqProofs only [go_sem, simprocAttr, pkV, h1, h2, h3, h4, hx, ih', h8.2, h7]
      | some a =>
        have h9 : a.length = i := ho
        have h8 := (row_ok (n := a.length) (by omega)).1
        simp only [acA_s, acV_s, acR_s, Option.isNone_some, List.map_append, List.map_cons, List.map_nil, rwV, ownR, hx, pkV, intV] at ih' ⊢
        simp -implicitDefEqProofs only [go_sem, simprocAttr, pkV, h1, h2, h3, h4, hx, ih', h8, h7]
theorem c88 (p : Pk) (hf : p.fit) : (lim T).call 88 [pkV p] [] 0 [] = some (ownK p, [], 0, []) := by
  rw [ent88]
  have h := loop88 p hf 0 (by omega) none rfl
  rw [List.drop_zero, acO_slV] at h
  unfold L88 at h
  rw [show ((0 : Nat) : Int) = 0 from rfl] at h
  simp only [acV_n, acR_n, Option.isNone_none, pkV] at h
  unfold ownK
  simp -implicitDefEqProofs only [go_sem, simprocAttr, pkV, h]
def L18 (vb : Bool) (vs : List V) (n : Int) (b : Bool) (l : List Cz) (o : Option (List Cz)) (i : Nat) : Option Out :=
  (lim T).loop false [.code (.loop b18_0), .inBlock 0, .code (.seq r18_8 .ret)]
    ⟨18, 28, 0, [(2, .ptr 0 0 0), (3, .ptr 1 0 0), (14, .sl b 3 (l.map czV)), (15, .int .i64 l.length), (16, .int .i64 i)], .cells true true 34 [.agg [.sl false 0 [], .int .i64 0, .sl false 0 []]] :: .cells true o.isNone 34 [.agg [.sl vb 1 vs, .int .i64 n, acV o 2]] :: acR czV o 180, 0, []⟩
theorem loop18 (vb : Bool) (vs : List V) (n : Int) (b : Bool) (l : List Cz) (hb : l.length < 1000) : ∀ i, i ≤ l.length → ∀ o : Option (List Cz), acL o = i →
    L18 vb vs n b l o i = some (.ret (.agg [.sl vb 1 vs, .int .i64 n, acO czV 0 3 (acA o (l.drop i))]), [], 0, []) := by
  refine down_ind l.length ?_ fun i hi ih o ho => ?_
  · intro o ho
    unfold L18
    rw [loopEq]
    have h1 := idx_out l.length
    cases o with
    | none =>
      simp only [acV_n, acR_n, Option.isNone_none]
      simp -implicitDefEqProofs only [go_sem, simprocAttr, h1]
      simp [acA, acO]
    | some a =>
      simp only [acV_s, acR_s, Option.isNone_some]
      simp -implicitDefEqProofs only [go_sem, simprocAttr, h1]
      simp [acA, acO]
  · obtain ⟨h1, h2, h3, h4, h5⟩ := idx_in hi (by omega)
    rw [h5]
    have ih' := ih (acA o [l[i]]) (by rw [acL_A, ho]; rfl)
    rw [acA_acA] at ih'
    unfold L18 at ih' ⊢
    rw [loopEq]
    cases o with
    | none =>
      have h8 := row_ok (n := 0) (by omega)
      simp only [acA_n, acV_s, acR_s, acV_n, acR_n, Option.isNone_some, Option.isNone_none, List.map_cons, List.map_nil, czV] at ih' ⊢
      simp -implicitDefEqProofs only [go_sem, simprocAttr, h1, h2, h3, h4, ih', h8.2]
    | some a =>
      have h9 : a.length = i := ho
      have h8 := (row_ok (n := a.length) (by omega)).1
      simp only [acA_s, acV_s, acR_s, Option.isNone_some, List.map_append, List.map_cons, List.map_nil, czV] at ih' ⊢
      simp -implicitDefEqProofs only [go_sem, simprocAttr, h1, h2, h3, h4, ih', h8]
def ownP (p : Pk) : Pk := ⟨!((p.v.map ownR).map rwV).isEmpty, p.v.map ownR, p.n, !((p.c.map ownC).map czV).isEmpty, p.c.map ownC⟩
theorem c18 (p : Pk) (hf : p.fit) : (lim T).call 18 [pkV p] [] 0 [] = some (.agg [.sl (!((p.v.map ownR).map rwV).isEmpty) 1 ((p.v.map ownR).map rwV), .int .i64 p.n, slV 3 ((p.c.map ownC).map czV)], [], 0, []) := by
  rw [ent18]
  have e1 := c88 p hf
  unfold ownK at e1
  have h := loop18 (!((p.v.map ownR).map rwV).isEmpty) ((p.v.map ownR).map rwV) p.n (!((p.c.map ownC).map czV).isEmpty) (p.c.map ownC) (by simp; exact hf.2.2.1) 0 (by omega) none rfl
  rw [List.drop_zero, acO_slV] at h
  unfold L18 at h
  rw [show ((0 : Nat) : Int) = 0 from rfl] at h
  simp only [acV_n, acR_n, Option.isNone_none, List.length_map] at h
  simp only [pkV] at e1
  simp -implicitDefEqProofs only [go_sem, simprocAttr, pkV, e1, h]
theorem fit_own {p : Pk} (hf : p.fit) : (ownP p).fit := by
  obtain ⟨f1, f2, f3, f4⟩ := hf
  refine ⟨by simpa [ownP] using f1, fun r hr => ?_, by simpa [ownP] using f3, fun c hc => ?_⟩
  · simp only [ownP] at hr
    obtain ⟨q, hq, rfl⟩ := List.mem_map.1 hr
    exact f2 q hq
  · simp only [ownP] at hc
    obtain ⟨q, hq, rfl⟩ := List.mem_map.1 hc
    exact f4 q hq
theorem ck_own (p : Pk) : ckPk (ownP p) = ckPk p := by
  have h1 : ∀ r : Bool × List Int, ∀ s, chE s (ownR r) = chE s r := fun r s => rfl
  have h2 : ∀ c : Cz, ∀ k s, caE k s (ownC c) = caE k s c := fun c k s => rfl
  have h3 : ∀ (l r : List Cz) (i : Nat), csEs (l.map ownC) i (r.map ownC) = csEs l i r := by
    intro l r
    induction r with
    | nil => intro i; rfl
    | cons c r ih =>
      intro i
      simp only [List.map_cons, csEs, ih]
      have : csE (l.map ownC) i (ownC c) = csE l i c := by
        unfold csE
        have : dupN (l.map ownC) i (ownC c) = dupN l i c := by
          unfold dupN
          rw [← List.map_take, List.any_map]; rfl
        rw [this]; rfl
      rw [this]
  have h4 : ckCs (p.c.map ownC) = ckCs p.c := by
    unfold ckCs
    rw [List.length_map, h3]
  have h5 : ((p.v.map ownR)[0]?.getD (false, [])).2.length = (p.v[0]?.getD (false, [])).2.length := by
    rw [List.getElem?_map]
    cases p.v[0]? <;> rfl
  unfold ckPk
  simp only [ownP, List.length_map, List.map_map, h4]
  rw [h5]
  rfl
def tkV (b : Bool) (z : Nat) (ws : List V) (bad : Bool) : V := .agg [.sl b z ws, .bool bad]
theorem c179_0 (b : Bool) (z : Nat) (bad : Bool) (S : Stk) : (lim T).call 179 [.ptr 0 0 0] [.cells true true 267 [tkV b z [] bad]] 0 S = some (.str [], [.cells true true 267 [tkV false 0 [] true]], 0, S) := by
  rw [ent179]
  simp -implicitDefEqProofs only [go_sem, simprocAttr, tkV]
theorem tk_0 (n : Nat) : (((n + 1 : Nat) : Int) == 0) = false := by rw [beq_eq_false_iff_ne]; omega
theorem tk_1 (n : Nat) : decide (0 < ((n + 1 : Nat) : Int)) = true := by rw [decide_eq_true_iff]; omega
theorem c179_e (b : Bool) (ws : List V) (bad : Bool) (S : Stk) : (lim T).call 179 [.ptr 0 0 0] [.cells true true 267 [tkV b 1 (.str [] :: ws) bad]] 0 S = some (.str [], [.cells true true 267 [tkV false 0 [] true]], 0, S) := by
  rw [ent179]
  have h0 := tk_0 ws.length
  have h1 := tk_1 ws.length
  simp -implicitDefEqProofs only [go_sem, simprocAttr, tkV, h0, h1]
theorem c179_w (b : Bool) (c : UInt8) (w : List UInt8) (ws : List V) (hp : pureL ws = true) (hb : ws.length < 1000000) (bad : Bool) (S : Stk) : (lim T).call 179 [.ptr 0 0 0] [.cells true true 267 [tkV b 1 (.str (c :: w) :: ws) bad]] 0 S = some (.str (c :: w), [.cells true true 267 [tkV b 1 ws bad]], 0, S) := by
  rw [ent179]
  have h0 := tk_0 ws.length
  have h1 := tk_1 ws.length
  have h2 : (c :: w == []) = false := rfl
  have h3 : decide (ws.length ≤ ws.length) = true := by simp
  have h4 : ws.take ws.length = ws := List.take_length
  simp -implicitDefEqProofs only [go_sem, simprocAttr, tkV, h0, h1, h2, h3, h4]
structure Tk where
  b : Bool
  z : Nat
  ws : List (List UInt8)
  bad : Bool
def Tk.ok (t : Tk) : Prop := (t.ws ≠ [] → t.z = 1) ∧ t.ws.length < 1000000
def rowT (t : Tk) : Row := .cells true true 267 [tkV t.b t.z (t.ws.map .str) t.bad]
def wordF (t : Tk) : List UInt8 × Tk := match t.ws with
  | [] => ([], ⟨false, 0, [], true⟩)
  | [] :: _ => ([], ⟨false, 0, [], true⟩)
  | w :: r => (w, ⟨t.b, t.z, r, t.bad⟩)
theorem pure_strs (l : List (List UInt8)) : pureL (l.map V.str) = true := by
  rw [pureL_iff]
  intro v hv
  obtain ⟨s, _, rfl⟩ := List.mem_map.1 hv
  rfl
theorem c179 (t : Tk) (h : t.ok) (S : Stk) : (lim T).call 179 [.ptr 0 0 0] [rowT t] 0 S = some (.str (wordF t).1, [rowT (wordF t).2], 0, S) := by
  obtain ⟨b, z, ws, bad⟩ := t
  obtain ⟨h1, h2⟩ := h
  match ws, h1, h2 with
  | [], _, _ => exact c179_0 b z bad S
  | [] :: r, h1, _ => cases h1 (by simp); exact c179_e b _ bad S
  | (c :: w) :: r, h1, h2 => cases h1 (by simp); exact c179_w b c w _ (pure_strs r) (by simp at h2 ⊢; omega) bad S
theorem word_ok {t : Tk} (h : t.ok) : (wordF t).2.ok := by
  obtain ⟨b, z, ws, bad⟩ := t
  obtain ⟨h1, h2⟩ := h
  match ws, h1, h2 with
  | [], _, _ => exact ⟨fun h => absurd rfl h, by simp [wordF]⟩
  | [] :: r, _, _ => exact ⟨fun h => absurd rfl h, by simp [wordF]⟩
  | (c :: w) :: r, h1, h2 => exact ⟨fun _ => h1 (by simp), by simp [wordF] at h2 ⊢; omega⟩
def L180 (t : Tk) (s : List UInt8) (p : Nat) (n : Int) (S : Stk) : Option Out :=
  (lim T).loop false [.code (.loop b180_0), .inBlock 0, .code (.seq r180_10 (.seq r180_11 .ret))] ⟨180, 52, 1, [(0, .ptr 0 0 0), (3, .str s), (4, .int .i64 n), (10, .it 1)], [rowT t, .siter s p], 0, S⟩
def digC (c : UInt8) : Bool := decide (48 ≤ c.toNat) && decide (c.toNat ≤ 57)
def goNum (big : Bool) : Nat → List UInt8 → Option Nat
  | n, [] => some n
  | n, c :: r => cond (digC c && !big) (goNum big (10 * n + (c.toNat - 48)) r) none
def zlead : List UInt8 → Bool
  | a :: _ :: _ => a == 48
  | _ => false
def endN (t : Tk) (s : List UInt8) (o : Option Nat) : Nat × Tk := match o with
  | none => (0, { t with bad := true })
  | some m => (m, { t with bad := t.bad || zlead s })
theorem dg_lo {r : Int} (h : r < 48) : decide (r < 48) = true := by simp; omega
theorem dg_mid {r : Int} (h : 48 ≤ r ∧ r ≤ 57) : decide (r < 48) = false ∧ decide (57 < r) = false := by simp; omega
theorem dg_hi {r : Int} (h : 57 < r) : decide (r < 48) = false ∧ decide (57 < r) = true := by simp; omega
theorem wrap_s {n : Int} (h : 0 ≤ n ∧ n < 4611686018427387904) : IntKind.i64.wrap n = n := by
  unfold IntKind.wrap; simp [IntKind.signed, IntKind.bits]; omega
theorem wrap_t {n : Int} (h : 0 ≤ n ∧ n < 1073741824) : IntKind.i32.wrap n = n := by
  unfold IntKind.wrap; simp [IntKind.signed, IntKind.bits]; omega
theorem num_wrap {n c : Nat} (hn : n < 1000000000) (hc : 48 ≤ c ∧ c ≤ 57) : IntKind.i64.wrap (IntKind.i64.wrap (10 * (n : Int)) + IntKind.i64.wrap (IntKind.i32.wrap ((c : Int) - 48))) = ((10 * n + (c - 48) : Nat) : Int) := by
  rw [wrap_t (by omega), wrap_s (n := 10 * (n : Int)) (by omega), wrap_s (n := (c : Int) - 48) (by omega), wrap_s (by omega)]
  omega
theorem loop180e (t : Tk) (s : List UInt8) (hb : s.length < 1000000) (n : Nat) (S : Stk) : L180 t s s.length n S = some (.ret (.int .i64 n), [rowT { t with bad := t.bad || zlead s }, .siter s s.length], 0, S) := by
  unfold L180
  rw [loopEq]
  have h1 : decide (s.length < s.length) = false := by simp
  match s, hb with
  | [], _ =>
    cases hbad : t.bad
    · simp -implicitDefEqProofs only [go_sem, simprocAttr, h1, rowT, tkV, hbad, zlead, List.length_nil]
    · simp -implicitDefEqProofs only [go_sem, simprocAttr, h1, rowT, tkV, hbad, zlead, List.length_nil]
  | [a], _ =>
    cases hbad : t.bad
    · simp -implicitDefEqProofs only [go_sem, simprocAttr, h1, rowT, tkV, hbad, zlead, List.length_cons, List.length_nil]
    · simp -implicitDefEqProofs only [go_sem, simprocAttr, h1, rowT, tkV, hbad, zlead, List.length_cons, List.length_nil]
  | a :: c :: r, _ =>
    have h2 : decide (1 < ((r.length + 1 + 1 : Nat) : Int)) = true := by rw [decide_eq_true_iff]; omega
    have h1' : decide (r.length + 1 + 1 < r.length + 1 + 1) = false := by simp
    have h3 : (((a.toNat : Nat) : Int) == 48) = (a == 48) := by
      rw [Bool.eq_iff_iff]; simp only [beq_iff_eq]
      constructor
      · intro h; exact UInt8.toNat_inj.1 (by show a.toNat = 48; omega)
      · rintro rfl; rfl
    cases hbad : t.bad
    · simp -implicitDefEqProofs only [go_sem, simprocAttr, h1', h2, h3, rowT, tkV, hbad, zlead, List.length_cons]
      try simp
    · simp -implicitDefEqProofs only [go_sem, simprocAttr, h1', h2, h3, rowT, tkV, hbad, zlead, List.length_cons]
      try simp
theorem loop180 (t : Tk) (s : List UInt8) (hb : s.length < 1000000) (S : Stk) : ∀ p, p ≤ s.length → ∀ n : Nat, (s.length ≤ 9 → n < 10 ^ p) → ∃ q, L180 t s p n S = some (.ret (.int .i64 (endN t s (goNum (decide (9 < s.length)) n (s.drop p))).1), [rowT (endN t s (goNum (decide (9 < s.length)) n (s.drop p))).2, .siter s q], 0, S) := by
  refine down_ind s.length ?_ fun p hp ih => ?_
  · intro n _
    refine ⟨s.length, ?_⟩
    rw [loop180e t s hb n S, List.drop_length]
    rfl
  · intro n hn
    have h1 : decide (p < s.length) = true := decide_eq_true hp
    have h5 : s.drop p = s[p] :: s.drop (p + 1) := List.drop_eq_getElem_cons hp
    have h9 : decide (9 < (s.length : Int)) = decide (9 < s.length) := by
      rw [Bool.eq_iff_iff]; simp only [decide_eq_true_iff]; omega
    rw [h5]
    simp only [goNum, digC]
    have bad : ∀ (r : Nat) (k : Nat), Utf8.decode ⟨s.toArray⟩ p = (r, k) → (r < 48 ∨ 57 < r ∨ 9 < s.length) → ∃ q, L180 t s p n S = some (.ret (.int .i64 0), [rowT { t with bad := true }, .siter s q], 0, S) := by
      intro r k hd hr
      refine ⟨p + k, ?_⟩
      unfold L180
      rw [loopEq]
      by_cases hlo : r < 48
      · have q1 := dg_lo (r := (r : Int)) (by omega)
        simp -implicitDefEqProofs only [go_sem, simprocAttr, h1, hd, q1, rowT, tkV]
      · by_cases hhi : 57 < r
        · obtain ⟨q1, q2⟩ := dg_hi (r := (r : Int)) (by omega)
          simp -implicitDefEqProofs only [go_sem, simprocAttr, h1, hd, q1, q2, rowT, tkV]
        · obtain ⟨q1, q2⟩ := dg_mid (r := (r : Int)) (by omega)
          have q3 : decide (9 < (s.length : Int)) = true := by rw [decide_eq_true_iff]; omega
          simp -implicitDefEqProofs only [go_sem, simprocAttr, h1, hd, q1, q2, q3, rowT, tkV]
    by_cases hlo : s[p].toNat < 128
    · have hd := dec_lo hp hlo
      cases hc : (decide (48 ≤ s[p].toNat) && decide (s[p].toNat ≤ 57) && !decide (9 < s.length))
      · simp only [cond_false, endN]
        refine bad _ _ hd ?_
        simp only [Bool.and_eq_false_iff, decide_eq_false_iff_not, Bool.not_eq_false', decide_eq_true_iff] at hc
        omega
      · simp only [cond_true]
        simp only [Bool.and_eq_true, decide_eq_true_iff, Bool.not_eq_true', decide_eq_false_iff_not] at hc
        obtain ⟨q1, q2⟩ := dg_mid (r := ((s[p].toNat : Nat) : Int)) (by omega)
        have q3 : decide (9 < (s.length : Int)) = false := by rw [decide_eq_false_iff_not]; omega
        have hn9 : n < 10 ^ p := hn (by omega)
        have hp9 : p ≤ 8 := by omega
        have hpow : (10 : Nat) ^ p ≤ 10 ^ 8 := Nat.pow_le_pow_right (by omega) hp9
        obtain ⟨q, hq⟩ := ih (10 * n + (s[p].toNat - 48)) (fun _ => by rw [Nat.pow_succ]; omega)
        refine ⟨q, ?_⟩
        rw [← hq]
        have hw := num_wrap (n := n) (c := s[p].toNat) (by omega) (by omega)
        conv => lhs; unfold L180; rw [loopEq]
        unfold L180
        simp -implicitDefEqProofs only [go_sem, simprocAttr, h1, hd, q1, q2, q3, rowT, tkV, hw]
    · obtain ⟨r, k, hd, hr⟩ := dec_hi hp hlo
      have hc : (decide (48 ≤ s[p].toNat) && decide (s[p].toNat ≤ 57) && !decide (9 < s.length)) = false := by
        have : decide (s[p].toNat ≤ 57) = false := by rw [decide_eq_false_iff_not]; omega
        rw [this, Bool.and_false, Bool.false_and]
      rw [hc]
      simp only [cond_false, endN]
      exact bad _ _ hd (by omega)
def numF (t : Tk) : Nat × Tk := endN (wordF t).2 (wordF t).1 (goNum (decide (9 < (wordF t).1.length)) 0 (wordF t).1)
theorem word_len {t : Tk} (hs : ∀ s ∈ t.ws, s.length < 1000000) : (wordF t).1.length < 1000000 := by
  obtain ⟨b, z, ws, bad⟩ := t
  match ws, hs with
  | [], _ => simp [wordF]
  | [] :: r, _ => simp [wordF]
  | (c :: w) :: r, hs => exact hs (c :: w) (List.mem_cons_self ..)
theorem c180 (t : Tk) (h : t.ok) (hs : ∀ s ∈ t.ws, s.length < 1000000) : ∃ q, (lim T).call 180 [.ptr 0 0 0] [rowT t] 0 [] = some (.int .i64 (numF t).1, [rowT (numF t).2, .siter (wordF t).1 q], 0, []) := by
  obtain ⟨q, hq⟩ := loop180 (wordF t).2 (wordF t).1 (word_len hs) [] 0 (by omega) 0 (fun _ => by simp)
  rw [List.drop_zero] at hq
  refine ⟨q, ?_⟩
  have hc := c179 t h []
  unfold numF
  unfold L180 at hq
  rw [ent180]
  simp only [rowT, tkV] at hc hq ⊢

  rw [show ((0 : Nat) : Int) = 0 from rfl] at hq
  simp -implicitDefEqProofs only [go_sem, simprocAttr, callP_r, hc, hq, backId_eq, frzAllP_cons]
@[go_sem] theorem callP_226 {ih : Ih} {args : List V} {k : V → Prog} : callP ih T 226 args k = stowLP T args fun args => needP (!yldL args) <| optP (ixV args) fun v => toP (resK T 226 v fun v => some (k v)) := callP_p _ _ _ _ _ fct226.1 _ fct226.2.1
@[go_sem] theorem callP_246 {ih : Ih} {args : List V} {k : V → Prog} : callP ih T 246 args k = stowLP T args fun args => needP (!yldL args) <| optP (ix1V args) fun v => toP (resK T 246 v fun v => some (k v)) := callP_p _ _ _ _ _ fct246.1 _ fct246.2.1
@[go_sem] theorem callP_245 {ih : Ih} {args : List V} {k : V → Prog} : callP ih T 245 args k = stowLP T args fun args => needP (!yldL args) <| optP (ct1V args) fun v => toP (resK T 245 v fun v => some (k v)) := callP_p _ _ _ _ _ fct245.1 _ fct245.2.1
@[go_sem] theorem callP_224 {ih : Ih} {args : List V} {k : V → Prog} : callP ih T 224 args k = stowLP T args fun args => needP (!yldL args) <| optP (itoaV args) fun v => toP (resK T 224 v fun v => some (k v)) := callP_p _ _ _ _ _ fct224.1 _ fct224.2.1
@[go_sem] theorem callP_173 {ih : Ih} {args : List V} {k : V → Prog} : callP ih T 173 args k = stowLP T args fun args => needP (!yldL args) <| optP (joinV args) fun v => toP (resK T 173 v fun v => some (k v)) := callP_p _ _ _ _ _ fct173.1 _ fct173.2.1
@[go_sem] theorem ixV_eq (s : List UInt8) (c : Int) : ixV [.str s, .int .u8 c] = some (.int .i64 (Lib.indexByte s c.toNat.toUInt8)) := rfl
@[go_sem] theorem ix1V_eq (s : List UInt8) (c : UInt8) : ix1V [.str s, .str [c]] = some (.int .i64 (Lib.indexByte s c)) := rfl
@[go_sem] theorem ct1V_eq (s : List UInt8) (c : UInt8) : ct1V [.str s, .str [c]] = some (.int .i64 (Lib.countByte s c)) := rfl
def cutN (l : List UInt8) : List UInt8 × Bool := match l.getLast? with
  | some c => cond (c == 10) (l.dropLast, true) (l, false)
  | none => (l, false)
theorem cutN_nil : cutN [] = ([], false) := rfl
theorem cutN_app (r : List UInt8) (c : UInt8) : cutN (r ++ [c]) = cond (c == 10) (r, true) (r ++ [c], false) := by
  unfold cutN
  rw [List.getLast?_concat]
  simp
theorem c243 (r : List UInt8) (c : UInt8) (hb : r.length < 1000000) : (lim T).call 243 [.str (r ++ [c]), .str [10]] [] 0 [] = some (.bool (c == 10), [], 0, []) := by
  have hl : (r ++ [c]).length = r.length + 1 := by simp
  have hi : IntKind.i64.wrap (((r.length + 1 : Nat) : Int) - 1) = (r.length : Int) := by rw [wrap_s (by omega)]; omega
  have h1 : decide (((r.length + 1 : Nat) : Int) ≥ 1) = true := by rw [decide_eq_true_iff]; omega
  have h2 : decide (1 ≤ ((r.length + 1 : Nat) : Int)) = true := by rw [decide_eq_true_iff]; omega
  have h3 : ((r ++ [c]).take (r.length + 1)).drop r.length = [c] := by rw [List.take_of_length_le (by simp)]; simp
  have h4 : decide (0 ≤ (r.length : Int)) = true := by rw [decide_eq_true_iff]; omega
  have h5 : decide (r.length ≤ r.length + 1 ∧ r.length ≤ r.length) = true := by rw [decide_eq_true_iff]; omega
  have h6 : ([c] == ([10] : List UInt8)) = (c == 10) := by cases h : (c == 10) <;> simp_all
  rw [ent243]
  simp -implicitDefEqProofs only [go_sem, simprocAttr, hl, hi, h1, h2, h3, h4, h5, h6]
theorem c243_0 : (lim T).call 243 [.str [], .str [10]] [] 0 [] = some (.bool false, [], 0, []) := by
  rw [ent243]
  simp -implicitDefEqProofs only [go_sem, simprocAttr]
theorem c227_0 : (lim T).call 227 [.str [], .str [10]] [] 0 [] = some (.tup [.str [], .bool false], [], 0, []) := by
  rw [ent227]
  have h := c243_0
  simp -implicitDefEqProofs only [go_sem, simprocAttr, h]
theorem c227 (r : List UInt8) (c : UInt8) (hb : r.length < 1000000) : (lim T).call 227 [.str (r ++ [c]), .str [10]] [] 0 [] = some (.tup [.str (cutN (r ++ [c])).1, .bool (cutN (r ++ [c])).2], [], 0, []) := by
  have hl : (r ++ [c]).length = r.length + 1 := by simp
  have hi : IntKind.i64.wrap (((r.length + 1 : Nat) : Int) - 1) = (r.length : Int) := by rw [wrap_s (by omega)]; omega
  have h4 : decide (0 ≤ (r.length : Int)) = true := by rw [decide_eq_true_iff]; omega
  have h5 : decide (0 ≤ r.length ∧ r.length ≤ r.length + 1) = true := by rw [decide_eq_true_iff]; omega
  have h6 : (r ++ [c]).take r.length = r := by simp
  have h := c243 r c hb
  rw [cutN_app, ent227]
  cases hc : (c == 10)
  · rw [hc] at h
    simp -implicitDefEqProofs only [go_sem, simprocAttr, hl, hi, h]
  · rw [hc] at h
    simp -implicitDefEqProofs only [go_sem, simprocAttr, hl, hi, h, h4, h5, h6]
theorem c177 (l : List UInt8) (hb : l.length < 1000000) : (lim T).call 177 [.str l, .str [10]] [] 0 [] = some (.tup [.str (cutN l).1, .bool (cutN l).2], [], 0, []) := by
  rw [ent177]
  rcases List.eq_nil_or_concat l with rfl | ⟨r, c, rfl⟩
  · have h := c227_0
    rw [cutN_nil]
    simp -implicitDefEqProofs only [go_sem, simprocAttr, h]
  · rw [List.concat_eq_append] at hb ⊢
    have h := c227 r c (by simp at hb; omega)
    simp -implicitDefEqProofs only [go_sem, simprocAttr, h]
def splitB (c : UInt8) : List UInt8 → List (List UInt8)
  | [] => [[]]
  | b :: r => match b == c with
    | true => [] :: splitB c r
    | false => (match splitB c r with | [] => [[b]] | w :: ws => (b :: w) :: ws)
theorem split_ne (c : UInt8) : ∀ s, splitB c s ≠ []
  | [] => by simp [splitB]
  | b :: r => by
    unfold splitB
    split
    · simp
    · split <;> simp
theorem split_no {c : UInt8} : ∀ {s : List UInt8}, c ∉ s → splitB c s = [s]
  | [], _ => rfl
  | b :: r, h => by
    simp only [List.mem_cons, not_or] at h
    have hb : (b == c) = false := by simpa using fun e => h.1 e.symm
    unfold splitB
    rw [hb, split_no h.2]
theorem split_at {c : UInt8} (v : List UInt8) : ∀ {u : List UInt8}, c ∉ u → splitB c (u ++ c :: v) = u :: splitB c v
  | [], _ => by simp [splitB]
  | b :: r, h => by
    simp only [List.mem_cons, not_or] at h
    have hb : (b == c) = false := by simpa using fun e => h.1 e.symm
    rw [List.cons_append, splitB, hb, split_at v h.2]
theorem ix_no {c : UInt8} {s : List UInt8} (h : c ∉ s) : Lib.indexByte s c = -1 := by
  induction s with
  | nil => rfl
  | cons b r ih =>
    simp only [List.mem_cons, not_or] at h
    have hb : (b == c) = false := by simpa using fun e => h.1 e.symm
    unfold Lib.indexByte
    rw [hb, ih h.2]
    rfl
theorem ix_at {c : UInt8} (v : List UInt8) : ∀ {u : List UInt8}, c ∉ u → Lib.indexByte (u ++ c :: v) c = u.length
  | [], _ => by simp [Lib.indexByte]
  | b :: r, h => by
    simp only [List.mem_cons, not_or] at h
    have hb : (b == c) = false := by simpa using fun e => h.1 e.symm
    rw [List.cons_append]
    unfold Lib.indexByte
    rw [hb, ix_at v h.2]
    simp only [Bool.false_eq_true, if_false, List.length_cons]
    rw [if_neg (by rw [beq_iff_eq]; omega)]
    omega
theorem first_of (c : UInt8) (s : List UInt8) : c ∉ s ∨ ∃ u v, s = u ++ c :: v ∧ c ∉ u := by
  induction s with
  | nil => exact .inl (by simp)
  | cons b r ih =>
    by_cases hb : b = c
    · subst hb; exact .inr ⟨[], r, rfl, by simp⟩
    · rcases ih with h | ⟨u, v, rfl, h⟩
      · exact .inl (by simp only [List.mem_cons, not_or]; exact ⟨fun e => hb e.symm, h⟩)
      · exact .inr ⟨b :: u, v, rfl, by simp only [List.mem_cons, not_or]; exact ⟨fun e => hb e.symm, h⟩⟩
def L228 (s : List UInt8) (c : UInt8) (n i : Nat) (a : List (List UInt8)) : Option Out :=
  (lim T).loop false [.code (.loop b228_0), .inBlock 0, .code (.seq r228_17 (.seq r228_18 .ret))] ⟨228, 66, 0, [(0, .str s), (1, .str [c]), (2, .int .i64 0), (3, .int .i64 n), (9, .ref 0), (10, .int .i64 i)], [.cells false true 9 (a.map .str)], 0, []⟩
theorem take_set_app {α : Type} (a : List α) (i : Nat) (s : α) (h : i < a.length) : (a.set i s).take (i + 1) = a.take i ++ [s] := by
  apply List.ext_getElem?
  intro k
  rw [List.getElem?_take, List.getElem?_append, List.getElem?_take, List.length_take]
  by_cases h1 : k < i
  · rw [if_pos (by omega), if_pos (by omega), if_pos h1, List.getElem?_set_ne (by omega)]
  · by_cases h2 : k = i
    · subst h2
      rw [if_pos (by omega), if_neg (by omega), List.getElem?_set_self h]
      rw [Nat.min_eq_left (by omega)]; simp
    · rw [if_neg (by omega), if_neg (by omega)]
      symm; rw [List.getElem?_eq_none]; simp; omega
theorem end228 (s : List UInt8) (c : UInt8) (n i : Nat) (hi : i ≤ n) (hn : n < 100000) (a : List (List UInt8)) (ha : a.length = n + 1) (hc : i = n ∨ Lib.indexByte s c = -1) : L228 s c n i a = some (.ret (.sl true 1 (((a.set i s).take (i + 1)).map .str)), [], 0, []) := by
  unfold L228
  rw [loopEq]
  have h2 : decide (0 ≤ (i : Int) ∧ (i : Int) < (a.length : Int)) = true := by rw [decide_eq_true_iff]; omega
  have h3 : a[i]? = some (a[i]'(by omega)) := List.getElem?_eq_getElem (by omega)
  have h4 : IntKind.i64.wrap ((i : Int) + 1) = ((i + 1 : Nat) : Int) := by rw [wrap_s (by omega)]; omega
  have h5 : decide (0 ≤ ((i + 1 : Nat) : Int)) = true := by rw [decide_eq_true_iff]; omega
  have h6 : decide (0 ≤ ((i + 1 : Nat) : Int).toNat ∧ ((i + 1 : Nat) : Int).toNat ≤ a.length) = true := by rw [decide_eq_true_iff]; omega
  have h7 : ((i + 1 : Nat) : Int).toNat = i + 1 := by omega
  have h8 : ((a.map V.str).set i (V.str s)).take (i + 1) = ((a.set i s).take (i + 1)).map V.str := by rw [List.map_take, List.map_set]
  have h10 : decide (i + 1 ≤ a.length) = true := by rw [decide_eq_true_iff]; omega
  by_cases he : i = n
  · have h1 : decide ((i : Int) < (n : Int)) = false := by rw [decide_eq_false_iff_not]; omega
    simp -implicitDefEqProofs only [go_sem, simprocAttr, h1, h2, h3, h4, h5, h6, h7, h8, h10, Nat.sub_zero]
  · have h1 : decide ((i : Int) < (n : Int)) = true := by rw [decide_eq_true_iff]; omega
    have h9 := hc.resolve_left he
    simp -implicitDefEqProofs only [go_sem, simprocAttr, h1, h2, h3, h4, h5, h6, h7, h8, h9, h10, Nat.sub_zero]
theorem loop228 (c : UInt8) (n : Nat) (hn : n < 100000) : ∀ (k : Nat) (s : List UInt8) (i : Nat) (a : List (List UInt8)), s.length ≤ k → s.length < 100000 → i + s.count c = n → a.length = n + 1 →
    L228 s c n i a = some (.ret (.sl true 1 ((a.take i ++ splitB c s).map .str)), [], 0, []) := by
  intro k
  induction k with
  | zero =>
    intro s i a hk hs hi ha
    have : s = [] := List.length_eq_zero_iff.1 (by omega)
    subst this
    simp only [List.count_nil, Nat.add_zero] at hi
    subst hi
    rw [end228 [] c i i (by omega) hn a ha (.inl rfl), take_set_app a i [] (by omega)]
    rfl
  | succ k ih =>
    intro s i a hk hs hi ha
    rcases first_of c s with h | ⟨u, v, rfl, h⟩
    · rw [end228 s c n i (by omega) hn a ha (.inr (ix_no h)), take_set_app a i s (by omega), split_no h]
    · have hc : (u ++ c :: v).count c = v.count c + 1 := by
        rw [List.count_append, List.count_cons_self, List.count_eq_zero.2 h]; omega
      rw [hc] at hi
      have hl : (u ++ c :: v).length = u.length + (v.length + 1) := by simp
      have hix := ix_at (c := c) v h
      have h1 : decide ((i : Int) < (n : Int)) = true := by rw [decide_eq_true_iff]; omega
      have h2 : decide (0 ≤ (i : Int) ∧ (i : Int) < (a.length : Int)) = true := by rw [decide_eq_true_iff]; omega
      have h3 : a[i]? = some (a[i]'(by omega)) := List.getElem?_eq_getElem (by omega)
      have h4 : IntKind.i64.wrap ((i : Int) + 1) = ((i + 1 : Nat) : Int) := by rw [wrap_s (by omega)]; omega
      have h5 : IntKind.i64.wrap ((u.length : Int) + 0) = (u.length : Int) := by rw [wrap_s (by omega)]; omega
      have h6 : IntKind.i64.wrap ((u.length : Int) + 1) = ((u.length + 1 : Nat) : Int) := by rw [wrap_s (by omega)]; omega
      have h7 : decide ((u.length : Int) < 0) = false := by rw [decide_eq_false_iff_not]; omega
      have h8 : (u ++ c :: v).take u.length = u := by simp
      have h9 : ((u ++ c :: v).take (u.length + (v.length + 1))).drop (u.length + 1) = v := by rw [List.take_of_length_le (by simp)]; simp
      have q1 : decide (0 ≤ (u.length : Int)) = true := by rw [decide_eq_true_iff]; omega
      have q2 : decide (0 ≤ u.length ∧ u.length ≤ u.length + (v.length + 1)) = true := by rw [decide_eq_true_iff]; omega
      have q3 : decide (0 ≤ ((u.length + 1 : Nat) : Int)) = true := by rw [decide_eq_true_iff]; omega
      have q4 : decide (u.length + 1 ≤ u.length + (v.length + 1) ∧ u.length + (v.length + 1) ≤ u.length + (v.length + 1)) = true := by rw [decide_eq_true_iff]; omega
      have hrec := ih v (i + 1) (a.set i u) (by omega) (by omega) (by omega) (by simp [ha])
      rw [take_set_app a i u (by omega), List.append_assoc] at hrec
      rw [split_at v h]
      rw [show a.take i ++ u :: splitB c v = a.take i ++ ([u] ++ splitB c v) from rfl, ← hrec]
      conv => lhs; unfold L228; rw [loopEq]
      unfold L228
      rw [List.map_set]
      simp -implicitDefEqProofs only [go_sem, simprocAttr, h1, h2, h3, h4, h5, h6, h7, h8, h9, q1, q2, q3, q4, hix, hl]
theorem bi_minS {t u : Nat} {a b : Int} {k : V → Prog} (h : a ≤ b) : builtinP T .min [t, u] [.int .i64 a, .int .i64 b] k = k (.int .i64 a) := by
  show k (.int .i64 (if b < a then b else a)) = _
  rw [if_neg (by omega)]
theorem c228 (s : List UInt8) (c : UInt8) (hs : s.length < 10000) : (lim T).call 228 [.str s, .str [c], .int .i64 0, .int .i64 (-1)] [] 0 [] = some (.sl true 1 ((splitB c s).map .str), [], 0, []) := by
  have hc : s.count c ≤ s.length := List.count_le_length
  have h1 : IntKind.i64.wrap ((Lib.countByte s c : Int) + 1) = ((s.count c + 1 : Nat) : Int) := by unfold Lib.countByte; rw [wrap_s (by omega)]; omega
  have h2 : IntKind.i64.wrap ((s.length : Int) + 1) = ((s.length + 1 : Nat) : Int) := by rw [wrap_s (by omega)]; omega
  have h3 : IntKind.i64.wrap (((s.count c + 1 : Nat) : Int) - 1) = ((s.count c : Nat) : Int) := by rw [wrap_s (by omega)]; omega
  have h4 := loop228 c (s.count c) (by omega) s.length s 0 (List.replicate (s.count c + 1) []) (Nat.le_refl _) (by omega) (by omega) (by simp)
  rw [List.take_zero, List.nil_append] at h4
  unfold L228 at h4
  rw [List.map_replicate] at h4
  have h5 : ([c] == ([] : List UInt8)) = false := rfl
  have h6 := fun (t u : Nat) (k : V → Prog) => bi_minS (t := t) (u := u) (a := ((s.count c + 1 : Nat) : Int)) (b := ((s.length + 1 : Nat) : Int)) (k := k) (by omega)
  have h7 : ((s.count c + 1 : Nat) : Int).toNat = s.count c + 1 := by omega
  have h8 : decide (0 ≤ ((s.count c + 1 : Nat) : Int) ∧ ((s.count c + 1 : Nat) : Int) ≤ ((s.count c + 1 : Nat) : Int) ∧ ((s.count c + 1 : Nat) : Int) < maxRow) = true := by
    rw [decide_eq_true_iff]; refine ⟨by omega, by omega, ?_⟩
    have : (10001 : Int) < maxRow := by decide
    omega
  rw [show ((0 : Nat) : Int) = 0 from rfl, List.replicate_succ] at h4
  rw [ent228]
  simp -implicitDefEqProofs only [go_sem, simprocAttr, h1, h2, h3, h4, h5, h6, h7, h8]
theorem c178 (s : List UInt8) (c : UInt8) (hs : s.length < 10000) : (lim T).call 178 [.str s, .str [c]] [] 0 [] = some (.sl true 1 ((splitB c s).map .str), [], 0, []) := by
  have h := c228 s c hs
  rw [ent178]
  simp -implicitDefEqProofs only [go_sem, simprocAttr, h]
def linesB : List UInt8 → List (List UInt8)
  | [] => []
  | b :: r => match b == 10 with
    | true => [10] :: linesB r
    | false => (match linesB r with | [] => [[b]] | w :: ws => (b :: w) :: ws)
theorem lines_no : ∀ {s : List UInt8}, 10 ∉ s → s ≠ [] → linesB s = [s]
  | [], _, h => absurd rfl h
  | [b], h, _ => by
    have hb : (b == 10) = false := by simpa using fun e => h (by simp [e])
    simp [linesB, hb]
  | b :: d :: r, h, _ => by
    have h' := h
    rw [List.mem_cons, not_or] at h
    have hb : (b == 10) = false := by simpa using fun e => h.1 e.symm
    rw [linesB, hb, lines_no h.2 (by simp)]
theorem lines_at (v : List UInt8) : ∀ {u : List UInt8}, 10 ∉ u → linesB (u ++ 10 :: v) = (u ++ [10]) :: linesB v
  | [], _ => by simp [linesB]
  | b :: r, h => by
    rw [List.mem_cons, not_or] at h
    have hb : (b == 10) = false := by simpa using fun e => h.1 e.symm
    rw [List.cons_append, linesB, hb, lines_at v h.2]
    rfl
def L225 (d : Nat) (s : List UInt8) (S : Stk) : Option Out :=
  (lim T).loop false [.code (.loop b225_0), .inBlock 0] ⟨225, 25, 1, [(0, .yld d), (1, .ptr 0 0 0)], [.cells true true 9 [.str s]], 0, S⟩
theorem loop225 (d : Nat) : ∀ (k : Nat) (s : List UInt8), s.length ≤ k → s.length < 100000 → ∀ (S S1 : Stk) (b : Bool), yldAll T d ((linesB s).map .str) S = some (b, S1) →
    ∃ s' R, L225 d s S = some (.ret (.tup []), .cells true true 9 [.str s'] :: R, 0, S1) := by
  intro k
  induction k with
  | zero =>
    intro s hk hs S S1 b hy
    have : s = [] := List.length_eq_zero_iff.1 (by omega)
    subst this
    simp only [linesB, List.map_nil, yldAll, Option.some.injEq, Prod.mk.injEq] at hy
    obtain ⟨_, rfl⟩ := hy
    refine ⟨[], [], ?_⟩
    unfold L225
    rw [loopEq]
    simp -implicitDefEqProofs only [go_sem, simprocAttr]
  | succ k ih =>
    intro s hk hs S S1 b hy
    cases hs0 : s with
    | nil =>
      subst hs0
      simp only [linesB, List.map_nil, yldAll, Option.some.injEq, Prod.mk.injEq] at hy
      obtain ⟨_, rfl⟩ := hy
      refine ⟨[], [], ?_⟩
      unfold L225
      rw [loopEq]
      simp -implicitDefEqProofs only [go_sem, simprocAttr]
    | cons c0 r0 =>
      have hpos : 0 < s.length := by rw [hs0]; simp
      rw [← hs0]
      have h1 : decide (0 < (s.length : Int)) = true := by rw [decide_eq_true_iff]; omega
      rcases first_of 10 s with h | ⟨u, v, he, h⟩
      · have hix : Lib.indexByte s (Nat.toUInt8 10) = -1 := ix_no h
        rw [lines_no h (by rw [hs0]; simp)] at hy
        simp only [List.map_cons, List.map_nil, yldAll] at hy
        cases hq : (lim T).yld d [.str s] S with
        | none => rw [hq] at hy; cases hy
        | some w =>
          obtain ⟨c, S2⟩ := w
          rw [hq] at hy
          refine ⟨[], [], ?_⟩
          cases c
          · simp only [Option.some.injEq, Prod.mk.injEq] at hy
            obtain ⟨_, rfl⟩ := hy
            unfold L225
            rw [loopEq]
            simp -implicitDefEqProofs only [go_sem, simprocAttr, h1, hix, hq]
          · simp only [Option.some.injEq, Prod.mk.injEq] at hy
            obtain ⟨_, rfl⟩ := hy
            unfold L225
            rw [loopEq]
            simp -implicitDefEqProofs only [go_sem, simprocAttr, h1, hix, hq]
            rw [loopEq]
            simp -implicitDefEqProofs only [go_sem, simprocAttr]
      · have hl : s.length = u.length + (v.length + 1) := by rw [he]; simp
        have hix : Lib.indexByte s (Nat.toUInt8 10) = u.length := by rw [he]; exact ix_at v h
        have h2 : decide (0 ≤ (u.length : Int)) = true := by rw [decide_eq_true_iff]; omega
        have h3 : IntKind.i64.wrap ((u.length : Int) + 1) = ((u.length + 1 : Nat) : Int) := by rw [wrap_s (by omega)]; omega
        have h4 : decide (0 ≤ ((u.length + 1 : Nat) : Int)) = true := by rw [decide_eq_true_iff]; omega
        have h5 : ((u.length + 1 : Nat) : Int).toNat = u.length + 1 := by omega
        have h6 : decide (0 ≤ u.length + 1 ∧ u.length + 1 ≤ s.length) = true := by rw [decide_eq_true_iff]; omega
        have h7 : decide (u.length + 1 ≤ s.length ∧ s.length ≤ s.length) = true := by rw [decide_eq_true_iff]; omega
        have h10 : decide (u.length + 1 ≤ s.length) = true := by rw [decide_eq_true_iff]; omega
        have h8 : s.take (u.length + 1) = u ++ [10] := by rw [he, List.take_append, List.take_of_length_le (by omega)]; simp
        have h9 : (s.take s.length).drop (u.length + 1) = v := by rw [List.take_length, he]; simp
        rw [he, lines_at v h] at hy
        simp only [List.map_cons, yldAll] at hy
        cases hq : (lim T).yld d [.str (u ++ [10])] S with
        | none => rw [hq] at hy; cases hy
        | some w =>
          obtain ⟨c, S2⟩ := w
          rw [hq] at hy
          cases c
          · simp only [Option.some.injEq, Prod.mk.injEq] at hy
            obtain ⟨_, rfl⟩ := hy
            refine ⟨v, [.free, .free, .free, .free, .free, .free, .free, .free, .free, .free], ?_⟩
            unfold L225
            rw [loopEq]
            simp -implicitDefEqProofs only [go_sem, simprocAttr, h1, h2, h3, h4, h5, h6, h7, h8, h9, h10, hix, hq]
            try rfl
          · obtain ⟨s', R, hr⟩ := ih v (by omega) (by omega) S2 S1 b hy
            refine ⟨s', R, ?_⟩
            rw [← hr]
            conv => lhs; unfold L225; rw [loopEq]
            unfold L225
            simp -implicitDefEqProofs only [go_sem, simprocAttr, h1, h2, h3, h4, h5, h6, h7, h8, h9, h10, hix, hq]
theorem c225 (d : Nat) (s : List UInt8) (hs : s.length < 100000) (S S1 : Stk) (b : Bool) (hy : yldAll T d ((linesB s).map .str) S = some (b, S1)) :
    ∃ s' R, (lim T).call 225 [.yld d, .ptr 0 0 0] [.cells true true 9 [.str s]] 0 S = some (.tup [], .cells true true 9 [.str s'] :: R, 0, S1) := by
  obtain ⟨s', R, h⟩ := loop225 d s.length s (Nat.le_refl _) hs S S1 b hy
  refine ⟨s', R, ?_⟩
  unfold L225 at h
  rw [ent225]
  simp -implicitDefEqProofs only [go_sem, simprocAttr, h]
theorem c176 (s : List UInt8) : (lim T).call 176 [.str s] [] 0 [] = some (.fn 225 [.ptr 0 0 0], [.cells true true 9 [.str s]], 0, []) := by
  rw [ent176]
  simp -implicitDefEqProofs only [go_sem, simprocAttr]
def eRow (nm : List UInt8) (ch : Nat) : List (Int × Int) → Row
  | [] => .cells true true 180 [.agg [.str nm, .int .i64 ch, .sl false 0 []]]
  | _ => .cells true false 180 [.agg [.str nm, .int .i64 ch, .ref 7]]
def lRows : List (Int × Int) → Heap
  | [] => []
  | l => [.cells false true 142 (l.map ivV)]
def L93 (o3 r4 : Row) (en is : Bool) (nm : List UInt8) (ch : Nat) (t : Tk) (acc : List (Int × Int)) : Option Out :=
  (lim T).loop true [.code (.loop b93_1), .inBlock 2, .code (.seq (.seq r93_17 (.cond (.tmp 73) (.seq r93_18 .ret) .skip)) r93_19), .inBlock 1]
    ⟨93, 88, 5, [(2, .ptr 0 0 0), (3, .ptr 1 0 0), (4, .ptr 2 0 0), (5, .ptr 3 0 0), (8, .bool en), (9, .ptr 5 0 0), (11, .fn 180 [.yld 0, .ptr 5 0 0]), (12, .bool is), (13, .ptr 6 0 0)],
      [.cells true true 32 [.sl false 0 []], .cells true true 3 [.int .i64 0], .cells true true 29 [.int .i64 0], o3, r4, rowT t, eRow nm ch acc] ++ lRows acc, 0, []⟩
def E4 : Den.Env := [(2, .ptr 0 0 0), (3, .ptr 1 0 0), (4, .ptr 2 0 0), (5, .ptr 3 0 0)]
def outRows : List V → Heap
  | [] => [.cells true true 32 [.sl false 0 []]]
  | l => [.cells true false 32 [.ref 4], .cells false true 180 l]
def Hst (n e : Int) (l : List V) : Heap := [.cells true true 32 [.sl false 0 []], .cells true true 3 [.int .i64 n], .cells true true 29 [.int .i64 e]] ++ outRows l
def EnvOk (env : Den.Env) : Prop := lookV env 2 = .ptr 0 0 0 ∧ lookV env 3 = .ptr 1 0 0 ∧ lookV env 4 = .ptr 2 0 0 ∧ lookV env 5 = .ptr 3 0 0
def endK (env : Den.Env) : Option Out → Option (Option Code × Den.Env × Heap × Nat)
  | some (.round J, H, Fz, []) => optK (gc [2, 3, 4, 5] ⟨93, 88, 0, env, H, Fz, []⟩) fun st => some (J, st.env, st.H, st.Fz)
  | _ => none
theorem endK_r (env : Den.Env) (J : Option Code) (H : Heap) (Fz : Nat) : endK env (some (.round J, H, Fz, [])) = optK (gc [2, 3, 4, 5] ⟨93, 88, 0, env, H, Fz, []⟩) fun st => some (J, st.env, st.H, st.Fz) := rfl
def fr3 : List V → Row
  | [] => .cells true true 32 [.sl false 0 []]
  | _ => .cells true false 32 [.ref 4]
def fr4 : List V → Row
  | [] => .dead
  | l => .cells false true 180 l
def cauV (nm : List UInt8) (ch : Nat) (acc : List (Int × Int)) : V := .agg [.str nm, .int .i64 ch, slV 2 (acc.map ivV)]
def endV (os : List V) (nm : List UInt8) (ch : Nat) (acc : List (Int × Int)) : Bool → Option (Option Code × Den.Env × Heap × Nat)
  | true => some (some .ret, E4, Hst (os.length : Nat) 25 os, 0)
  | false => some (none, E4, Hst 0 0 (os ++ [cauV nm ch acc]), 0)
theorem pure_ivs (l : List (Int × Int)) : pureL (l.map ivV) = true := by
  rw [pureL_iff]
  intro v hv
  obtain ⟨s, _, rfl⟩ := List.mem_map.1 hv
  rfl
theorem end93_a (en is : Bool) (nm : List UInt8) (ch : Nat) (b : Bool) (z : Nat) (bad : Bool) (env : Den.Env) (he : EnvOk env) :
    endK env (L93 (fr3 []) (fr4 []) en is nm ch ⟨b, z, [], bad⟩ []) = endV [] nm ch [] (!en || !is || bad) := by
  obtain ⟨e2, e3, e4, e5⟩ := he
  obtain ⟨h8, h9⟩ := row_ok (n := 0) (by omega)
  unfold L93
  rw [loopEq]
  cases en
  · simp -implicitDefEqProofs only [go_sem, simprocAttr, eRow, lRows, rowT, tkV, fr3, fr4, List.map_nil, List.append_nil, endK_r, e2, e3, e4, e5, h8, h9]
    rfl
  · cases is
    · simp -implicitDefEqProofs only [go_sem, simprocAttr, eRow, lRows, rowT, tkV, fr3, fr4, List.map_nil, List.append_nil, endK_r, e2, e3, e4, e5, h8, h9]
      rfl
    · cases bad
      · simp -implicitDefEqProofs only [go_sem, simprocAttr, eRow, lRows, rowT, tkV, fr3, fr4, List.map_nil, List.append_nil, endK_r, e2, e3, e4, e5, h8, h9]
        rfl
      · simp -implicitDefEqProofs only [go_sem, simprocAttr, eRow, lRows, rowT, tkV, fr3, fr4, List.map_nil, List.append_nil, endK_r, e2, e3, e4, e5, h8, h9]
        rfl
theorem end93_b (o0 : V) (os : List V) (hl : os.length < 10000) (hp : pureL (o0 :: os) = true) (en is : Bool) (nm : List UInt8) (ch : Nat) (b : Bool) (z : Nat) (bad : Bool) (env : Den.Env) (he : EnvOk env) :
    endK env (L93 (fr3 (o0 :: os)) (fr4 (o0 :: os)) en is nm ch ⟨b, z, [], bad⟩ []) = endV (o0 :: os) nm ch [] (!en || !is || bad) := by
  obtain ⟨e2, e3, e4, e5⟩ := he
  obtain ⟨h8, h9⟩ := row_ok (n := os.length + 1) (by omega)
  unfold L93
  rw [loopEq]
  cases en
  · simp -implicitDefEqProofs only [go_sem, simprocAttr, eRow, lRows, rowT, tkV, fr3, fr4, List.map_nil, List.append_nil, endK_r, e2, e3, e4, e5, h8, h9]
    rfl
  · cases is
    · simp -implicitDefEqProofs only [go_sem, simprocAttr, eRow, lRows, rowT, tkV, fr3, fr4, List.map_nil, List.append_nil, endK_r, e2, e3, e4, e5, h8, h9]
      rfl
    · cases bad
      · simp -implicitDefEqProofs only [go_sem, simprocAttr, eRow, lRows, rowT, tkV, fr3, fr4, List.map_nil, List.append_nil, endK_r, e2, e3, e4, e5, h8, h9]
        rfl
      · simp -implicitDefEqProofs only [go_sem, simprocAttr, eRow, lRows, rowT, tkV, fr3, fr4, List.map_nil, List.append_nil, endK_r, e2, e3, e4, e5, h8, h9]
        rfl
theorem end93_c (a0 : Int × Int) (acc : List (Int × Int)) (en is : Bool) (nm : List UInt8) (ch : Nat) (b : Bool) (z : Nat) (bad : Bool) (env : Den.Env) (he : EnvOk env) :
    endK env (L93 (fr3 []) (fr4 []) en is nm ch ⟨b, z, [], bad⟩ (a0 :: acc)) = endV [] nm ch (a0 :: acc) (!en || !is || bad) := by
  obtain ⟨e2, e3, e4, e5⟩ := he
  obtain ⟨h8, h9⟩ := row_ok (n := 0) (by omega)
  have hq := pure_ivs acc
  unfold pureL at hq
  unfold L93
  rw [loopEq]
  cases en
  · simp -implicitDefEqProofs only [go_sem, simprocAttr, eRow, lRows, rowT, tkV, fr3, fr4, List.map_nil, List.map_cons, List.append_nil, endK_r, e2, e3, e4, e5, h8, h9]
    rfl
  · cases is
    · simp -implicitDefEqProofs only [go_sem, simprocAttr, eRow, lRows, rowT, tkV, fr3, fr4, List.map_nil, List.map_cons, List.append_nil, endK_r, e2, e3, e4, e5, h8, h9]
      rfl
    · cases bad
      · simp -implicitDefEqProofs only [go_sem, simprocAttr, eRow, lRows, rowT, tkV, fr3, fr4, List.map_nil, List.map_cons, List.append_nil, endK_r, e2, e3, e4, e5, h8, h9]
        rfl
      · simp -implicitDefEqProofs only [go_sem, simprocAttr, eRow, lRows, rowT, tkV, fr3, fr4, List.map_nil, List.map_cons, List.append_nil, endK_r, e2, e3, e4, e5, h8, h9]
        rfl
theorem end93_d (o0 : V) (os : List V) (hl : os.length < 10000) (hp : pureL (o0 :: os) = true) (a0 : Int × Int) (acc : List (Int × Int)) (en is : Bool) (nm : List UInt8) (ch : Nat) (b : Bool) (z : Nat) (bad : Bool) (env : Den.Env) (he : EnvOk env) :
    endK env (L93 (fr3 (o0 :: os)) (fr4 (o0 :: os)) en is nm ch ⟨b, z, [], bad⟩ (a0 :: acc)) = endV (o0 :: os) nm ch (a0 :: acc) (!en || !is || bad) := by
  obtain ⟨e2, e3, e4, e5⟩ := he
  obtain ⟨h8, h9⟩ := row_ok (n := os.length + 1) (by omega)
  have hq := pure_ivs acc
  unfold pureL at hq
  unfold L93
  rw [loopEq]
  cases en
  · simp -implicitDefEqProofs only [go_sem, simprocAttr, eRow, lRows, rowT, tkV, fr3, fr4, List.map_nil, List.map_cons, List.append_nil, endK_r, e2, e3, e4, e5, h8, h9]
    rfl
  · cases is
    · simp -implicitDefEqProofs only [go_sem, simprocAttr, eRow, lRows, rowT, tkV, fr3, fr4, List.map_nil, List.map_cons, List.append_nil, endK_r, e2, e3, e4, e5, h8, h9]
      rfl
    · cases bad
      · simp -implicitDefEqProofs only [go_sem, simprocAttr, eRow, lRows, rowT, tkV, fr3, fr4, List.map_nil, List.map_cons, List.append_nil, endK_r, e2, e3, e4, e5, h8, h9]
        rfl
      · simp -implicitDefEqProofs only [go_sem, simprocAttr, eRow, lRows, rowT, tkV, fr3, fr4, List.map_nil, List.map_cons, List.append_nil, endK_r, e2, e3, e4, e5, h8, h9]
        rfl
theorem end93 (os : List V) (hp : pureL os = true) (hl : os.length < 10000) (acc : List (Int × Int)) (en is : Bool) (nm : List UInt8) (ch : Nat) (t : Tk) (ht : t.ws = []) (env : Den.Env) (he : EnvOk env) :
    endK env (L93 (fr3 os) (fr4 os) en is nm ch t acc) = endV os nm ch acc (!en || !is || t.bad) := by
  obtain ⟨b, z, ws, bad⟩ := t
  cases ht
  cases os with
  | nil => cases acc with
    | nil => exact end93_a en is nm ch b z bad env he
    | cons a0 acc => exact end93_c a0 acc en is nm ch b z bad env he
  | cons o0 os => cases acc with
    | nil => exact end93_b o0 os (by simp at hl; omega) hp en is nm ch b z bad env he
    | cons a0 acc => exact end93_d o0 os (by simp at hl; omega) hp a0 acc en is nm ch b z bad env he
theorem num_ok {t : Tk} (h : t.ok) (hs : ∀ s ∈ t.ws, s.length < 1000000) : (numF t).2.ok ∧ ∀ s ∈ (numF t).2.ws, s.length < 1000000 := by
  have h1 : (numF t).2.ws = (wordF t).2.ws ∧ (numF t).2.z = (wordF t).2.z := by
    unfold numF endN
    split <;> exact ⟨rfl, rfl⟩
  have h2 := word_ok h
  refine ⟨⟨by rw [h1.1, h1.2]; exact h2.1, by rw [h1.1]; exact h2.2⟩, fun s hm => ?_⟩
  rw [h1.1] at hm
  refine hs s ?_
  obtain ⟨b, z, ws, bad⟩ := t
  match ws, hm with
  | [] :: r, hm => cases hm
  | (c :: w) :: r, hm => exact List.mem_cons_of_mem _ hm
@[go_sem] theorem reachR_dead (n id : Nat) (w seen : List Nat) (H : Heap) : reachR n id w seen H .dead = reach n w (id :: seen) H := rfl
theorem step93_a (en is : Bool) (nm : List UInt8) (ch : Nat) (t : Tk) (h : t.ok) (hs : ∀ s ∈ t.ws, s.length < 1000000) (hw : t.ws ≠ []) :
    L93 (fr3 []) (fr4 []) en is nm ch t [] = L93 (fr3 []) (fr4 []) en is nm ch (numF (numF t).2).2 [(((numF t).1 : Int), ((numF (numF t).2).1 : Int))] := by
  obtain ⟨h2, hs2⟩ := num_ok h hs
  obtain ⟨q1, hc1⟩ := c180 t h hs
  obtain ⟨q2, hc2⟩ := c180 (numF t).2 h2 hs2
  have hne : decide (0 < ((t.ws.length : Nat) : Int)) = true := by
    rw [decide_eq_true_iff]
    have := List.length_pos_iff.2 hw
    omega
  obtain ⟨h8, h9⟩ := row_ok (n := 0) (by omega)
  generalize numF (numF t).2 = N2 at *
  generalize numF t = N1 at *
  simp only [rowT, tkV] at hc1 hc2
  conv => lhs; unfold L93; rw [loopEq]
  unfold L93
  simp -implicitDefEqProofs only [go_sem, simprocAttr, eRow, lRows, rowT, tkV, fr3, fr4, List.map_nil, List.map_cons, List.append_nil, List.length_map, hne, callP_r, backId_eq, frzAllP_cons, hc1, hc2, h8, h9]
theorem step93_b (o0 : V) (os : List V) (en is : Bool) (nm : List UInt8) (ch : Nat) (t : Tk) (h : t.ok) (hs : ∀ s ∈ t.ws, s.length < 1000000) (hw : t.ws ≠ []) :
    L93 (fr3 (o0 :: os)) (fr4 (o0 :: os)) en is nm ch t [] = L93 (fr3 (o0 :: os)) (fr4 (o0 :: os)) en is nm ch (numF (numF t).2).2 [(((numF t).1 : Int), ((numF (numF t).2).1 : Int))] := by
  obtain ⟨h2, hs2⟩ := num_ok h hs
  obtain ⟨q1, hc1⟩ := c180 t h hs
  obtain ⟨q2, hc2⟩ := c180 (numF t).2 h2 hs2
  have hne : decide (0 < ((t.ws.length : Nat) : Int)) = true := by
    rw [decide_eq_true_iff]
    have := List.length_pos_iff.2 hw
    omega
  obtain ⟨h8, h9⟩ := row_ok (n := 0) (by omega)
  generalize numF (numF t).2 = N2 at *
  generalize numF t = N1 at *
  simp only [rowT, tkV] at hc1 hc2
  conv => lhs; unfold L93; rw [loopEq]
  unfold L93
  simp -implicitDefEqProofs only [go_sem, simprocAttr, eRow, lRows, rowT, tkV, fr3, fr4, List.map_nil, List.map_cons, List.append_nil, List.map_append, List.length_map, hne, callP_r, backId_eq, frzAllP_cons, hc1, hc2, h8, h9]
theorem step93_c (a0 : Int × Int) (acc : List (Int × Int)) (ha : acc.length < 10000) (en is : Bool) (nm : List UInt8) (ch : Nat) (t : Tk) (h : t.ok) (hs : ∀ s ∈ t.ws, s.length < 1000000) (hw : t.ws ≠ []) :
    L93 (fr3 []) (fr4 []) en is nm ch t (a0 :: acc) = L93 (fr3 []) (fr4 []) en is nm ch (numF (numF t).2).2 (a0 :: (acc ++ [(((numF t).1 : Int), ((numF (numF t).2).1 : Int))])) := by
  obtain ⟨h2, hs2⟩ := num_ok h hs
  obtain ⟨q1, hc1⟩ := c180 t h hs
  obtain ⟨q2, hc2⟩ := c180 (numF t).2 h2 hs2
  have hne : decide (0 < ((t.ws.length : Nat) : Int)) = true := by
    rw [decide_eq_true_iff]
    have := List.length_pos_iff.2 hw
    omega
  obtain ⟨h8, h9⟩ := row_ok (n := acc.length + 1) (by omega)
  generalize numF (numF t).2 = N2 at *
  generalize numF t = N1 at *
  simp only [rowT, tkV] at hc1 hc2
  conv => lhs; unfold L93; rw [loopEq]
  unfold L93
  simp -implicitDefEqProofs only [go_sem, simprocAttr, eRow, lRows, rowT, tkV, fr3, fr4, List.map_nil, List.map_cons, List.append_nil, List.map_append, List.length_map, hne, callP_r, backId_eq, frzAllP_cons, hc1, hc2, h8, h9]
theorem step93_d (o0 : V) (os : List V) (a0 : Int × Int) (acc : List (Int × Int)) (ha : acc.length < 10000) (en is : Bool) (nm : List UInt8) (ch : Nat) (t : Tk) (h : t.ok) (hs : ∀ s ∈ t.ws, s.length < 1000000) (hw : t.ws ≠ []) :
    L93 (fr3 (o0 :: os)) (fr4 (o0 :: os)) en is nm ch t (a0 :: acc) = L93 (fr3 (o0 :: os)) (fr4 (o0 :: os)) en is nm ch (numF (numF t).2).2 (a0 :: (acc ++ [(((numF t).1 : Int), ((numF (numF t).2).1 : Int))])) := by
  obtain ⟨h2, hs2⟩ := num_ok h hs
  obtain ⟨q1, hc1⟩ := c180 t h hs
  obtain ⟨q2, hc2⟩ := c180 (numF t).2 h2 hs2
  have hne : decide (0 < ((t.ws.length : Nat) : Int)) = true := by
    rw [decide_eq_true_iff]
    have := List.length_pos_iff.2 hw
    omega
  obtain ⟨h8, h9⟩ := row_ok (n := acc.length + 1) (by omega)
  generalize numF (numF t).2 = N2 at *
  generalize numF t = N1 at *
  simp only [rowT, tkV] at hc1 hc2
  conv => lhs; unfold L93; rw [loopEq]
  unfold L93
  simp -implicitDefEqProofs only [go_sem, simprocAttr, eRow, lRows, rowT, tkV, fr3, fr4, List.map_nil, List.map_cons, List.append_nil, List.map_append, List.length_map, hne, callP_r, backId_eq, frzAllP_cons, hc1, hc2, h8, h9]
theorem step93 (os : List V) (acc : List (Int × Int)) (ha : acc.length < 10000) (en is : Bool) (nm : List UInt8) (ch : Nat) (t : Tk) (h : t.ok) (hs : ∀ s ∈ t.ws, s.length < 1000000) (hw : t.ws ≠ []) :
    L93 (fr3 os) (fr4 os) en is nm ch t acc = L93 (fr3 os) (fr4 os) en is nm ch (numF (numF t).2).2 (acc ++ [(((numF t).1 : Int), ((numF (numF t).2).1 : Int))]) := by
  cases os with
  | nil => cases acc with
    | nil => exact step93_a en is nm ch t h hs hw
    | cons a0 acc => exact step93_c a0 acc (by simp at ha; omega) en is nm ch t h hs hw
  | cons o0 os => cases acc with
    | nil => exact step93_b o0 os en is nm ch t h hs hw
    | cons a0 acc => exact step93_d o0 os a0 acc (by simp at ha; omega) en is nm ch t h hs hw
theorem word_dec (t : Tk) : (wordF t).2.ws.length ≤ t.ws.length - 1 := by
  obtain ⟨b, z, ws, bad⟩ := t
  match ws with
  | [] => simp [wordF]
  | [] :: r => simp [wordF]
  | (c :: w) :: r => simp [wordF]
theorem num_ws (t : Tk) : (numF t).2.ws = (wordF t).2.ws := by
  unfold numF endN
  split <;> rfl
def lossF : Nat → Tk → List (Int × Int) → List (Int × Int) × Tk
  | 0, t, acc => (acc, t)
  | n + 1, t, acc => match t.ws with
    | [] => (acc, t)
    | _ => lossF n (numF (numF t).2).2 (acc ++ [(((numF t).1 : Int), ((numF (numF t).2).1 : Int))])
theorem loop93 (os : List V) (hp : pureL os = true) (hl : os.length < 10000) (en is : Bool) (nm : List UInt8) (ch : Nat) (env : Den.Env) (he : EnvOk env) : ∀ (n : Nat) (t : Tk) (acc : List (Int × Int)), t.ws.length ≤ n → acc.length + n < 10000 → t.ok → (∀ s ∈ t.ws, s.length < 1000000) →
    endK env (L93 (fr3 os) (fr4 os) en is nm ch t acc) = endV os nm ch (lossF n t acc).1 (!en || !is || (lossF n t acc).2.bad) := by
  intro n
  induction n with
  | zero =>
    intro t acc hn hacc ht hs
    exact end93 os hp hl acc en is nm ch t (List.length_eq_zero_iff.1 (by omega)) env he
  | succ n ih =>
    intro t acc hn hacc ht hs
    cases hw : t.ws with
    | nil =>
      have : lossF (n + 1) t acc = (acc, t) := by simp [lossF, hw]
      rw [this]
      exact end93 os hp hl acc en is nm ch t hw env he
    | cons w ws =>
      have : lossF (n + 1) t acc = lossF n (numF (numF t).2).2 (acc ++ [(((numF t).1 : Int), ((numF (numF t).2).1 : Int))]) := by simp [lossF, hw]
      rw [this, step93 os acc (by omega) en is nm ch t ht hs (by rw [hw]; simp)]
      obtain ⟨h2, hs2⟩ := num_ok ht hs
      obtain ⟨h3, hs3⟩ := num_ok h2 hs2
      have e1 := word_dec t
      have e2 := word_dec (numF t).2
      refine ih _ _ ?_ (by simp; omega) h3 hs3
      rw [num_ws]
      rw [num_ws] at e2
      omega
def headW : List UInt8 := [99, 97, 117, 115, 101]
def tk0 (line : List UInt8) : Tk := ⟨true, 1, splitB 32 (cutN line).1, false⟩
def nmT (line : List UInt8) : List UInt8 × Tk := wordF (wordF (tk0 line)).2
def chT (line : List UInt8) : Nat × Tk := numF (nmT line).2
def lsT (line : List UInt8) : List (Int × Int) × Tk := lossF (chT line).2.ws.length (chT line).2 []
def badT (line : List UInt8) : Bool := !(cutN line).2 || !((wordF (tk0 line)).1 == headW) || (lsT line).2.bad
def endL (os : List V) (line : List UInt8) := endV os (nmT line).1 (chT line).1 (lsT line).1 (badT line)
theorem cut_len (l : List UInt8) : (cutN l).1.length ≤ l.length := by
  rcases List.eq_nil_or_concat l with rfl | ⟨r, c, rfl⟩
  · simp [cutN_nil]
  · rw [List.concat_eq_append, cutN_app]
    cases c == 10 <;> simp
theorem split_sum (c : UInt8) : ∀ s : List UInt8, (splitB c s).length ≤ s.length + 1 ∧ ∀ w ∈ splitB c s, w.length ≤ s.length
  | [] => by simp [splitB]
  | b :: r => by
    obtain ⟨h1, h2⟩ := split_sum c r
    unfold splitB
    cases hb : (b == c)
    · simp only
      cases hs : splitB c r with
      | nil => exact absurd hs (split_ne c r)
      | cons w ws =>
        rw [hs] at h1 h2
        simp only [List.length_cons] at h1 ⊢
        refine ⟨by omega, fun x hx => ?_⟩
        rcases List.mem_cons.1 hx with rfl | hx
        · have := h2 w (List.mem_cons_self ..); simp; omega
        · have := h2 x (List.mem_cons_of_mem _ hx); omega
    · simp only [List.length_cons]
      refine ⟨by omega, fun x hx => ?_⟩
      rcases List.mem_cons.1 hx with rfl | hx
      · simp
      · have := h2 x hx; omega
theorem tk0_ok {line : List UInt8} (hl : line.length < 9000) : (tk0 line).ok ∧ ∀ s ∈ (tk0 line).ws, s.length < 1000000 := by
  have h1 := cut_len line
  obtain ⟨h2, h3⟩ := split_sum 32 (cutN line).1
  exact ⟨⟨fun _ => rfl, by show (splitB 32 (cutN line).1).length < _; omega⟩, fun s hs => by have := h3 s hs; omega⟩
theorem word_ok2 {t : Tk} (h : t.ok) (hs : ∀ s ∈ t.ws, s.length < 1000000) : (wordF t).2.ok ∧ ∀ s ∈ (wordF t).2.ws, s.length < 1000000 :=
  ⟨word_ok h, fun s hm => (num_ok h hs).2 s (by rw [num_ws]; exact hm)⟩
theorem run93_a (line : List UInt8) (hl : line.length < 9000) (env : Den.Env) (he : EnvOk env) :
    runK (lim T) T true segFuel [.code a93_0, .beginRound, .code c93_0] ⟨93, 88, 5, (21, .str line) :: env, [.cells true true 32 [.sl false 0 []], .cells true true 3 [.int .i64 0], .cells true true 29 [.int .i64 0], fr3 [], fr4 []], 0, []⟩ =
      L93 (fr3 []) (fr4 []) (cutN line).2 ((wordF (tk0 line)).1 == headW) (nmT line).1 (chT line).1 (chT line).2 [] := by
  obtain ⟨e2, e3, e4, e5⟩ := he
  have h1 := c177 line (by omega)
  have h2 := c178 (cutN line).1 32 (by have := cut_len line; omega)
  obtain ⟨k0, s0⟩ := tk0_ok hl
  obtain ⟨k1, s1⟩ := word_ok2 k0 s0
  obtain ⟨k2, s2⟩ := word_ok2 k1 s1
  have a1 := c179 (tk0 line) k0 []
  have a2 := c179 (wordF (tk0 line)).2 k1 []
  obtain ⟨q, a3⟩ := c180 (wordF (wordF (tk0 line)).2).2 k2 s2
  have b0 : (tk0 line).b = true ∧ (tk0 line).z = 1 ∧ (tk0 line).ws = splitB 32 (cutN line).1 ∧ (tk0 line).bad = false := ⟨rfl, rfl, rfl, rfl⟩
  obtain ⟨b1, b2, b3, b4⟩ := b0
  unfold chT nmT
  simp only [rowT, tkV] at a1 a2 a3
  rw [b1, b2, b3, b4] at a1
  unfold L93
  have hp := pure_strs (splitB 32 (cutN line).1)
  generalize numF (wordF (wordF (tk0 line)).2).2 = N3 at *
  generalize wordF (wordF (tk0 line)).2 = W2 at *
  generalize wordF (tk0 line) = W1 at *
  generalize splitB 32 (cutN line).1 = ws at *
  simp -implicitDefEqProofs only [go_sem, simprocAttr, eRow, lRows, rowT, tkV, fr3, fr4, List.map_nil, List.append_nil, callP_r, backId_eq, frzAllP_cons, e2, e3, e4, e5, h1, h2, a1, a2, a3, headW]
theorem run93_b (o0 : V) (os : List V) (line : List UInt8) (hl : line.length < 9000) (env : Den.Env) (he : EnvOk env) :
    runK (lim T) T true segFuel [.code a93_0, .beginRound, .code c93_0] ⟨93, 88, 5, (21, .str line) :: env, [.cells true true 32 [.sl false 0 []], .cells true true 3 [.int .i64 0], .cells true true 29 [.int .i64 0], fr3 (o0 :: os), fr4 (o0 :: os)], 0, []⟩ =
      L93 (fr3 (o0 :: os)) (fr4 (o0 :: os)) (cutN line).2 ((wordF (tk0 line)).1 == headW) (nmT line).1 (chT line).1 (chT line).2 [] := by
  obtain ⟨e2, e3, e4, e5⟩ := he
  have h1 := c177 line (by omega)
  have h2 := c178 (cutN line).1 32 (by have := cut_len line; omega)
  obtain ⟨k0, s0⟩ := tk0_ok hl
  obtain ⟨k1, s1⟩ := word_ok2 k0 s0
  obtain ⟨k2, s2⟩ := word_ok2 k1 s1
  have a1 := c179 (tk0 line) k0 []
  have a2 := c179 (wordF (tk0 line)).2 k1 []
  obtain ⟨q, a3⟩ := c180 (wordF (wordF (tk0 line)).2).2 k2 s2
  have b0 : (tk0 line).b = true ∧ (tk0 line).z = 1 ∧ (tk0 line).ws = splitB 32 (cutN line).1 ∧ (tk0 line).bad = false := ⟨rfl, rfl, rfl, rfl⟩
  obtain ⟨b1, b2, b3, b4⟩ := b0
  unfold chT nmT
  simp only [rowT, tkV] at a1 a2 a3
  rw [b1, b2, b3, b4] at a1
  unfold L93
  have hp := pure_strs (splitB 32 (cutN line).1)
  generalize numF (wordF (wordF (tk0 line)).2).2 = N3 at *
  generalize wordF (wordF (tk0 line)).2 = W2 at *
  generalize wordF (tk0 line) = W1 at *
  generalize splitB 32 (cutN line).1 = ws at *
  simp -implicitDefEqProofs only [go_sem, simprocAttr, eRow, lRows, rowT, tkV, fr3, fr4, List.map_nil, List.append_nil, callP_r, backId_eq, frzAllP_cons, e2, e3, e4, e5, h1, h2, a1, a2, a3, headW]
def frH (os : List V) : Heap := [.cells true true 32 [.sl false 0 []], .cells true true 3 [.int .i64 0], .cells true true 29 [.int .i64 0], fr3 os, fr4 os]
theorem round93 (os : List V) (hp : pureL os = true) (hn : os.length < 10000) (line : List UInt8) (hl : line.length < 9000) (env : Den.Env) (he : EnvOk env) :
    endK env (runK (lim T) T true segFuel [.code a93_0, .beginRound, .code c93_0] ⟨93, 88, 5, (21, .str line) :: env, frH os, 0, []⟩) = endL os line := by
  obtain ⟨k0, s0⟩ := tk0_ok hl
  obtain ⟨k1, s1⟩ := word_ok2 k0 s0
  obtain ⟨k2, s2⟩ := word_ok2 k1 s1
  obtain ⟨k3, s3⟩ := num_ok k2 s2
  have hw : (chT line).2.ws.length < 9500 := by
    have e1 := word_dec (tk0 line)
    have e2 := word_dec (wordF (tk0 line)).2
    have e3 := word_dec (nmT line).2
    have e4 : (chT line).2.ws = (wordF (nmT line).2).2.ws := num_ws _
    have e5 := (split_sum 32 (cutN line).1).1
    have e6 := cut_len line
    have e7 : (tk0 line).ws = splitB 32 (cutN line).1 := rfl
    rw [e4]
    rw [e7] at e1
    unfold nmT at e3 ⊢
    omega
  have h := loop93 os hp hn (cutN line).2 ((wordF (tk0 line)).1 == headW) (nmT line).1 (chT line).1 env he (chT line).2.ws.length (chT line).2 [] (Nat.le_refl _) (by simp; omega) k3 s3
  unfold frH
  cases os with
  | nil => rw [run93_a line hl env he]; exact h
  | cons o0 os => rw [run93_b o0 os line hl env he]; exact h
def own93 (env : Den.Env) (H : Heap) (J : Option Code) : Own := ⟨93, 88, env, H, 0, [21], a93_0, c93_0, J.isSome, J, 0⟩
theorem kp93 : T.keep 93 1000000 = some [2, 3, 4, 5] := by kernel_rfl
theorem endK_inv {env E : Den.Env} {o : Option Out} {J : Option Code} {Hx : Heap} (h : endK env o = some (J, E, Hx, 0)) : ∃ H' Fz', o = some (.round J, H', Fz', []) ∧ ∃ st, gc [2, 3, 4, 5] ⟨93, 88, 0, env, H', Fz', []⟩ = some st ∧ st.env = E ∧ st.H = Hx ∧ st.Fz = 0 := by
  unfold endK at h
  split at h
  · rename_i J' H' Fz'
    cases hg : gc [2, 3, 4, 5] ⟨93, 88, 0, env, H', Fz', []⟩ with
    | none => rw [hg] at h; cases h
    | some st =>
      rw [hg] at h
      simp only [optK, Option.some.injEq, Prod.mk.injEq] at h
      obtain ⟨rfl, h2, h3, h4⟩ := h
      exact ⟨H', Fz', rfl, st, hg, h2, h3, h4⟩
  · cases h
theorem yld93 {os : List V} (hp : pureL os = true) (hn : os.length < 10000) {line : List UInt8} (hl : line.length < 9000) {env : Den.Env} (he : EnvOk env) {J : Option Code} {Hx : Heap} (h : endL os line = some (J, E4, Hx, 0)) :
    (lim T).yld 0 [.str line] [own93 env (frH os) none] = some (J.isNone, [own93 E4 Hx J]) := by
  obtain ⟨H', Fz', hr, st, hg, h1, h2, h3⟩ := endK_inv ((round93 os hp hn line hl env he).trans h)
  refine yldEnd (S := []) (own := own93 env (frH os) none) (own' := own93 E4 Hx J) rfl (args := [.str line]) rfl hr ?_
  unfold ownEnd
  rw [show (own93 env (frH os) none).fn = 93 from rfl, kp93]
  show (gc [2, 3, 4, 5] ⟨93, 88, 0, env, H', Fz', []⟩).bind _ = _
  rw [hg]
  simp only [Option.bind_some, h1, h2, h3]
  rfl
theorem E4_ok : EnvOk E4 := ⟨rfl, rfl, rfl, rfl⟩
def cauL (line : List UInt8) : V := cauV (nmT line).1 (chT line).1 (lsT line).1
theorem cau_pure (nm : List UInt8) (ch : Nat) (acc : List (Int × Int)) : pureV (cauV nm ch acc) = true := by
  unfold cauV
  cases acc with
  | nil => rfl
  | cons a r => have := pure_ivs (a :: r); unfold pureL at this; simp only [pureV, idsV, idsL, List.map_cons, slV, List.nil_append, List.append_nil]; simpa using this
def takeL : List V → List (List UInt8) → List V × Bool
  | os, [] => (os, true)
  | os, l :: r => cond (badT l) (os, false) (takeL (os ++ [cauL l]) r)
theorem all93 : ∀ (ls : List (List UInt8)) (os : List V) (env : Den.Env), pureL os = true → os.length + ls.length < 10000 → (∀ l ∈ ls, l.length < 9000) → EnvOk env →
    ∃ env', EnvOk env' ∧ yldAll T 0 (ls.map .str) [own93 env (frH os) none] =
      some ((takeL os ls).2, [cond (takeL os ls).2 (own93 env' (frH (takeL os ls).1) none) (own93 env' (Hst ((takeL os ls).1.length : Nat) 25 (takeL os ls).1) (some .ret))]) := by
  intro ls
  induction ls with
  | nil => intro os env _ _ _ he; exact ⟨env, he, rfl⟩
  | cons l r ih =>
    intro os env hp hn hl he
    simp only [List.length_cons] at hn
    simp only [List.map_cons, yldAll, takeL]
    cases hb : badT l
    · have hL : endL os l = some (none, E4, Hst 0 0 (os ++ [cauL l]), 0) := by unfold endL; rw [hb]; rfl
      have hy := yld93 hp (by omega) (hl l (List.mem_cons_self ..)) he hL
      have hfr : Hst 0 0 (os ++ [cauL l]) = frH (os ++ [cauL l]) := by
        cases os with
        | nil => rfl
        | cons o0 os => rfl
      rw [hfr] at hy
      obtain ⟨env', h1, h2⟩ := ih (os ++ [cauL l]) E4 (by rw [pureL_iff] at hp ⊢; intro v hv; rcases List.mem_append.1 hv with hv | hv; exact hp v hv; rw [List.mem_singleton.1 hv]; exact cau_pure _ _ _) (by simp; omega) (fun x hx => hl x (List.mem_cons_of_mem _ hx)) E4_ok
      refine ⟨env', h1, ?_⟩
      simp only [cond_false]
      rw [hy]
      exact h2
    · have hL : endL os l = some (some .ret, E4, Hst (os.length : Nat) 25 os, 0) := by unfold endL; rw [hb]; rfl
      have hy := yld93 hp (by omega) (hl l (List.mem_cons_self ..)) he hL
      refine ⟨E4, E4_ok, ?_⟩
      simp only [cond_true, cond_false]
      rw [hy]
      rfl
def czW (c : Cz) : V := .agg [.str c.n, .int .i64 c.c, slV 2 (c.l.map ivV)]
attribute [go_sem] czW
theorem w149 (l : List (Int × Int)) (hl : l.length < 1000000) : (lim T).call 149 [slV 2 (l.map ivV)] [] 0 [] = some (.int .i64 (fnz (l.map fun x => ckL x)), [], 0, []) := by
  cases l with
  | cons x r => exact c149 true (x :: r) (by omega)
  | nil =>
    rw [ent149]
    simp -implicitDefEqProofs only [go_sem, simprocAttr, slV, List.map_nil]
    rw [loopEq]
    simp -implicitDefEqProofs only [go_sem, simprocAttr]
    rfl
theorem wloop189 (b : Bool) (s : List UInt8) (l : List Cz) (hb : l.length < 1000000) : ∀ i, i ≤ l.length → (lim T).loop false [.code (.loop b189_0), .inBlock 0, .code (.seq r189_6 .ret)] ⟨189, 20, 0, [(0, .sl b 3 (l.map czW)), (1, .str s), (5, .int .i64 i)], [], 0, []⟩ = some (.ret (.int .i64 (idxF (fun a => a.n == s) (l.drop i) i)), [], 0, []) := by
  refine down_ind l.length ?_ fun i hi ih => ?_
  · rw [loopEq]
    have h1 := idx_out l.length
    simp -implicitDefEqProofs only [go_sem, simprocAttr, h1]
    simp [idxF]
  · obtain ⟨h1, h2, h3, h4, h5⟩ := idx_in hi (by omega)
    rw [loopEq, h5]
    cases h6 : (l[i].n == s)
    · simp -implicitDefEqProofs only [go_sem, simprocAttr, h1, h2, h3, h4, h6, ih]
      simp [idxF, h6]
    · simp -implicitDefEqProofs only [go_sem, simprocAttr, h1, h2, h3, h4, h6]
      simp [idxF, h6]
theorem w189 (b : Bool) (s : List UInt8) (l : List Cz) (hb : l.length < 1000000) : (lim T).call 189 [.sl b 3 (l.map czW), .str s] [] 0 [] = some (.int .i64 (idxF (fun a => a.n == s) l 0), [], 0, []) := by
  rw [ent189]
  have h := wloop189 b s l hb 0 (by omega)
  rw [show ((0 : Nat) : Int) = 0 from rfl, List.drop_zero] at h
  simp -implicitDefEqProofs only [go_sem, simprocAttr, h]
def W120 (b : Bool) (l : List Cz) (i : Nat) : Option Out :=
  (lim T).loop false [.code (.loop b120_0), .inBlock 0, .code (.seq r120_12 .ret)] ⟨120, 38, 0, [(3, .map 0), (11, .sl b 3 (l.map czW)), (12, .int .i64 l.length), (13, .int .i64 i)], [.map ((l.take i).map kvC)], 0, []⟩
theorem wloop120 (b : Bool) (l : List Cz) (hb : l.length < 1000000) (hn : ∀ c ∈ l, c.n.length < 1000000 ∧ c.l.length < 1000000) : ∀ i, i ≤ l.length → W120 b l i = some (.ret (.int .i64 (fnz (csEs l i (l.drop i)))), [], 0, []) := by
  refine down_ind l.length ?_ fun i hi ih => ?_
  · unfold W120
    rw [loopEq]
    have h1 := idx_out l.length
    simp -implicitDefEqProofs only [go_sem, simprocAttr, h1]
    simp [fnz, csEs]
  · obtain ⟨h1, h2, h3, h4, h5⟩ := idx_in hi (by omega)
    rw [h5]
    obtain ⟨k1, k2⟩ := hn l[i] (List.getElem_mem hi)
    have e1 := c190 l[i].n k1
    have e2 := c191 ⟨l[i].n, l[i].c, !(l[i].l.map ivV).isEmpty, l[i].l⟩ k2
    rw [show ckC ⟨l[i].n, l[i].c, !(l[i].l.map ivV).isEmpty, l[i].l⟩ = ckC l[i] from rfl] at e2
    have e3 := getC (l.take i) l[i].n
    have e4 := key9 l[i].n
    have ef := csE_f l i l[i]
    simp only [czV] at e2
    have ed : dupN l i l[i] = (l.take i).any fun a => a.n == l[i].n := rfl
    rw [← ed] at e3
    cases h6 : (csE l i l[i] != 0)
    · have h7 : csE l i l[i] = 0 := by simpa using h6
      have h8 : dupN l i l[i] = false := by
        have := fnz_zero.1 h7 (cond (dupN l i l[i]) 9 0) (by simp)
        cases hd : dupN l i l[i] with
        | false => rfl
        | true => rw [hd] at this; cases this
      have e5 := setC hi h8
      unfold W120 at ih ⊢
      rw [loopEq]
      rw [h8] at e3 ef
      simp only [cond_false] at ef e3
      simp -implicitDefEqProofs only [go_sem, simprocAttr, h1, h2, h3, h4, e1, e2, e3, e4, c115, c114_3, ef, h6, e5, ih, cond_false]
      simp [fnz, csEs, h7]
    · have h7 : csE l i l[i] ≠ 0 := by simpa using h6
      unfold W120
      rw [loopEq]
      cases h8 : dupN l i l[i]
      · rw [h8] at e3 ef
        simp only [cond_false] at ef e3
        simp -implicitDefEqProofs only [go_sem, simprocAttr, h1, h2, h3, h4, e1, e2, e3, e4, c115, c114_3, ef, h6, cond_false]
        simp [fnz, csEs, h7]
      · rw [h8] at e3 ef
        simp only [cond_true] at ef e3
        simp -implicitDefEqProofs only [go_sem, simprocAttr, h1, h2, h3, h4, e1, e2, e3, e4, c115, c114_3, ef, h6, cond_true]
        simp [fnz, csEs, h7]
theorem w120 (b : Bool) (l : List Cz) (hb : l.length < 1000000) (hn : ∀ c ∈ l, c.n.length < 1000000 ∧ c.l.length < 1000000) : (lim T).call 120 [.sl b 3 (l.map czW)] [] 0 [] = some (.int .i64 (ckCs l), [], 0, []) := by
  rw [ent120]
  have h := wloop120 b l hb hn 0 (by omega)
  rw [List.drop_zero] at h
  unfold W120 at h
  rw [show ((0 : Nat) : Int) = 0 from rfl, List.take_zero, List.map_nil] at h
  cases h1 : decide (8 < (l.length : Int))
  · have h2 : ¬ 8 < l.length := by simp at h1; omega
    simp -implicitDefEqProofs only [go_sem, simprocAttr, h, h1]
    simp [ckCs, h2]
  · have h2 : 8 < l.length := by simp at h1; omega
    simp -implicitDefEqProofs only [go_sem, simprocAttr, h1]
    simp [ckCs, h2]
theorem wloop110 (b : Bool) (l : List Cz) (hb : l.length < 1000000) (hn : ∀ c ∈ l, c.n.length < 1000000 ∧ c.l.length < 1000000) : ∀ i, i ≤ l.length → (lim T).loop false [.code (.loop b110_0), .inBlock 0, .code (.seq r110_10 .ret)] ⟨110, 51, 0, [(0, .sl b 3 (l.map czW)), (3, .int .i64 i)], [], 0, []⟩ = some (.ret (.int .i64 (fnz (csEs l i (l.drop i)))), [], 0, []) := by
  refine down_ind l.length ?_ fun i hi ih => ?_
  · rw [loopEq]
    have h1 := idx_out l.length
    simp -implicitDefEqProofs only [go_sem, simprocAttr, h1]
    simp [fnz, csEs]
  · obtain ⟨h1, h2, h3, h4, h5⟩ := idx_in hi (by omega)
    rw [h5, loopEq]
    obtain ⟨k1, k2⟩ := hn l[i] (List.getElem_mem hi)
    have e1 := c188 l[i].n k1
    have e2 := c149 (!(l[i].l.map ivV).isEmpty) l[i].l (by omega)
    have e2' := w149 l[i].l (by omega)
    have e3 := w189 b l[i].n (l.take i) (by simp; omega)
    simp only [List.map_take] at e3
    have e4 : decide (0 ≤ idxF (fun a : Cz => a.n == l[i].n) (l.take i) 0) = dupN l i l[i] := idxF_any _ _ 0
    have ef := csE_ref l i l[i]
    have hle : i ≤ l.length := by omega
    cases h6 : (csE l i l[i] != 0)
    · have h7 : csE l i l[i] = 0 := by simpa using h6
      simp -implicitDefEqProofs only [go_sem, simprocAttr, h1, h2, h3, h4, e1, e2, e2', e3, e4, c39, c90, c108_6, ef, h6, ih]
      simp [fnz, csEs, h7, need, hle]
    · have h7 : csE l i l[i] ≠ 0 := by simpa using h6
      simp -implicitDefEqProofs only [go_sem, simprocAttr, h1, h2, h3, h4, e1, e2, e2', e3, e4, c39, c90, c108_6, ef, h6]
      simp [fnz, csEs, h7, need, hle]
theorem w110 (b : Bool) (l : List Cz) (hb : l.length < 1000000) (hn : ∀ c ∈ l, c.n.length < 1000000 ∧ c.l.length < 1000000) : (lim T).call 110 [.sl b 3 (l.map czW)] [] 0 [] = some (.int .i64 (ckCs l), [], 0, []) := by
  rw [ent110]
  have h := wloop110 b l hb hn 0 (by omega)
  rw [show ((0 : Nat) : Int) = 0 from rfl, List.drop_zero] at h
  cases h1 : decide (8 < (l.length : Int))
  · have h2 : ¬ 8 < l.length := by simp at h1; omega
    simp -implicitDefEqProofs only [go_sem, simprocAttr, h, h1]
    simp [ckCs, h2]
  · have h2 : 8 < l.length := by simp at h1; omega
    simp -implicitDefEqProofs only [go_sem, simprocAttr, h1]
    simp [ckCs, h2]
end Go.Den.FaT
namespace Go.Den
open Go
theorem callP_ry {T : Tab} {ih : Ih} {f : Nat} {args : List V} {k : V → Prog} (h : T.byref f = true) (hy : yldL args = true) : callP ih T f args k = reachP 10000 (idsL args) [] fun ids => maskP ids 0 0 fun Fz => rowsP ids [] fun rows => .stk fun S =>
    optP (ih.call f (mapHL (idx ids) args) (mapRows (idx ids) rows) Fz S) fun q => optP (reach 10000 (List.range ids.length ++ idsV q.1) [] q.2.1) fun rs => .base fun b =>
    setRowsP ids (mapRows (backId ids (newIds ids.length rs) b) (q.2.1.take ids.length)) (newRowsP (mapRows (backId ids (newIds ids.length rs) b) (pick q.2.1 (newIds ids.length rs)))
      (frzAllP (backId ids (newIds ids.length rs) b) q.2.2.1 rs (.setStk q.2.2.2 (toP (resK T f (mapH (backId ids (newIds ids.length rs) b) q.1) fun v => some (k v)))))) := by
  unfold callP
  rw [h]
  simp only [hy, withStk]
theorem rangeMv {T : Tab} {rnd : Bool} {n f' nt fp : Nat} {env : Den.Env} {H : Heap} {Fz : Nat} {S : Stk} {f : Operand} {ps : Array Nat} {as' body : Code} {k : List Item} {g : Nat} {caps : List V}
    (hf : St.eval ⟨f', nt, fp, env, H, Fz, S⟩ f = .fn g caps) (hy : yldL caps = false) (hb : T.byref g = true) (hps : psOk nt ps.toList = true) {own' : Own}
    (hc : ∃ v Hx Fx fpx, ∀ K : V → Heap → Nat → Stk → FP → Option Out, (callP (lim T) T g (.yld S.length :: caps) .ret).go none (onlyRows (idsL caps) 0 H) Fz (S ++ [⟨f', nt, env, butRows (idsL caps) 0 H, Fz, ps.toList, as', body, false, none, fp⟩]) .none K = K v Hx Fx (S ++ [own']) fpx) :
    runK (lim T) T rnd (n + 1) (.code (.rangeFunc f ps as' body) :: k) ⟨f', nt, fp, env, H, Fz, S⟩ = runK (lim T) T rnd n (match own'.pending with | some c => .code c :: k | none => k) ⟨own'.fn, own'.nt, fp, own'.env, own'.H, own'.Fz, S⟩ := by
  obtain ⟨v, Hx, Fx, fpx, hc⟩ := hc
  have h4 : movesV T (.fn g caps) = true := hb
  obtain ⟨h5, h6⟩ := capsNo (args := [.yld S.length]) (g := g) hy
  have h7 : idsV (.fn g caps) = idsL caps := by simp [idsV]
  simp only [runK, hps, need, hf, h4, h5, Bool.not_false, h7]
  simp only [callV, h6, List.cons_append, List.nil_append]
  rw [hc]
  simp
  cases own'.pending <;> rfl
end Go.Den
namespace Go.Den.FaT
open Go Go.Proofs Go.Den
def cauC (line : List UInt8) : Cz := ⟨(nmT line).1, (chT line).1, true, (lsT line).1⟩
def takeC : List Cz → List (List UInt8) → List Cz × Bool
  | os, [] => (os, true)
  | os, l :: r => cond (badT l) (os, false) (takeC (os ++ [cauC l]) r)
theorem take_eq : ∀ (ls : List (List UInt8)) (os : List Cz), takeL (os.map czW) ls = ((takeC os ls).1.map czW, (takeC os ls).2) := by
  intro ls
  induction ls with
  | nil => intro os; rfl
  | cons l r ih =>
    intro os
    simp only [takeL, takeC]
    cases badT l
    · simp only [cond_false]
      rw [← ih, List.map_append]
      rfl
    · rfl
theorem lines_len : ∀ s : List UInt8, (linesB s).length ≤ s.length ∧ ∀ l ∈ linesB s, l.length ≤ s.length
  | [] => by simp [linesB]
  | b :: r => by
    obtain ⟨h1, h2⟩ := lines_len r
    unfold linesB
    cases hb : (b == 10)
    · simp only
      cases hs : linesB r with
      | nil => simp
      | cons w ws =>
        rw [hs] at h1 h2
        simp only [List.length_cons] at h1 ⊢
        refine ⟨by omega, fun x hx => ?_⟩
        rcases List.mem_cons.1 hx with rfl | hx
        · have := h2 w (List.mem_cons_self ..); simp; omega
        · have := h2 x (List.mem_cons_of_mem _ hx); omega
    · simp only [List.length_cons]
      refine ⟨by omega, fun x hx => ?_⟩
      rcases List.mem_cons.1 hx with rfl | hx
      · simp
      · have := h2 x hx; omega
theorem go225 (s : List UInt8) (hs : s.length < 5000) (own : Own) (S1 : Stk) (b : Bool) (hy : yldAll T 0 ((linesB s).map .str) [own] = some (b, S1)) :
    ∃ v Hx Fx fpx, ∀ K : V → Heap → Nat → Stk → FP → Option Out, (callP (lim T) T 225 [.yld 0, .ptr 4 0 0] .ret).go none [.dead, .dead, .dead, .dead, .cells true true 9 [.str s]] 0 [own] .none K = K v Hx Fx S1 fpx := by
  obtain ⟨s', R, h⟩ := c225 0 s (by omega) _ _ _ hy
  refine ⟨.tup [], [.dead, .dead, .dead, .dead, .cells true true 9 [.str s']], 0, ⟨16, 16, 0, true⟩, fun K => ?_⟩
  rw [callP_ry fct225.1 rfl]
  simp -implicitDefEqProofs only [go_sem, simprocAttr, h, backId_eq, frzAllP_cons, FP.none]
theorem range93 (s : List UInt8) (hs : s.length < 5000) (env : Den.Env) (he : EnvOk env) (hf : lookV env 20 = .fn 225 [.ptr 4 0 0]) (n : Nat) (k : List Item) :
    ∃ env', EnvOk env' ∧ runK (lim T) T false (n + 1) (.code (.rangeFunc (.tmp 20) #[21] a93_0 c93_0) :: k) ⟨93, 88, 0, env, [.cells true true 32 [.sl false 0 []], .cells true true 3 [.int .i64 0], .cells true true 29 [.int .i64 0], .cells true true 32 [.sl false 0 []], .cells true true 9 [.str s]], 0, []⟩ =
      cond (takeC [] (linesB s)).2 (runK (lim T) T false n k ⟨93, 88, 0, env', frH ((takeC [] (linesB s)).1.map czW), 0, []⟩)
        (runK (lim T) T false n (.code .ret :: k) ⟨93, 88, 0, env', Hst ((takeC [] (linesB s)).1.length : Nat) 25 ((takeC [] (linesB s)).1.map czW), 0, []⟩) := by
  obtain ⟨h1, h2⟩ := lines_len s
  obtain ⟨env', he', hy⟩ := all93 (linesB s) [] env rfl (by simp; omega) (fun l hl => by have := h2 l hl; omega) he
  have ht := take_eq (linesB s) []
  simp only [List.map_nil] at ht
  rw [ht] at hy
  simp only [List.length_map] at hy
  have hg := go225 s hs _ _ _ hy
  refine ⟨env', he', ?_⟩
  cases hok : (takeC [] (linesB s)).2
  · rw [hok] at hg
    simp only [cond_false] at hg ⊢
    exact rangeMv (T := T) (rnd := false) (n := n) (f' := 93) (nt := 88) (fp := 0) (env := env) (H := [.cells true true 32 [.sl false 0 []], .cells true true 3 [.int .i64 0], .cells true true 29 [.int .i64 0], .cells true true 32 [.sl false 0 []], .cells true true 9 [.str s]]) (Fz := 0) (as' := a93_0) (body := c93_0) (k := k) (f := .tmp 20) (g := 225) (caps := [.ptr 4 0 0]) (S := []) (ps := #[21]) hf rfl fct225.1 rfl (own' := own93 env' (Hst ((takeC [] (linesB s)).1.length : Nat) 25 ((takeC [] (linesB s)).1.map czW)) (some .ret)) hg
  · rw [hok] at hg
    simp only [cond_true] at hg ⊢
    exact rangeMv (T := T) (rnd := false) (n := n) (f' := 93) (nt := 88) (fp := 0) (env := env) (H := [.cells true true 32 [.sl false 0 []], .cells true true 3 [.int .i64 0], .cells true true 29 [.int .i64 0], .cells true true 32 [.sl false 0 []], .cells true true 9 [.str s]]) (Fz := 0) (as' := a93_0) (body := c93_0) (k := k) (f := .tmp 20) (g := 225) (caps := [.ptr 4 0 0]) (S := []) (ps := #[21]) hf rfl fct225.1 rfl (own' := own93 env' (frH ((takeC [] (linesB s)).1.map czW)) none) hg
def parseV (s : List UInt8) : V × Int × Int :=
  cond (decide (4096 < s.length)) (.sl false 0 [], 0, 26) <|
  cond (takeC [] (linesB s)).2
    (cond (ckCs (takeC [] (linesB s)).1 != 0) (.sl false 0 [], (takeC [] (linesB s)).1.length, ckCs (takeC [] (linesB s)).1) (slV 3 ((takeC [] (linesB s)).1.map czW), 0, 0))
    (.sl false 0 [], (takeC [] (linesB s)).1.length, 25)
theorem num_len (t : Tk) : (wordF t).1 = [] ∨ (wordF t).1 ∈ t.ws := by
  obtain ⟨b, z, ws, bad⟩ := t
  match ws with
  | [] => exact .inl rfl
  | [] :: r => exact .inl rfl
  | (c :: w) :: r => exact .inr (List.mem_cons_self ..)
theorem loss_len : ∀ (n : Nat) (t : Tk) (acc : List (Int × Int)), (lossF n t acc).1.length ≤ acc.length + n := by
  intro n
  induction n with
  | zero => intro t acc; simp [lossF]
  | succ n ih =>
    intro t acc
    unfold lossF
    split
    · simp
    · have := ih (numF (numF t).2).2 (acc ++ [(((numF t).1 : Int), ((numF (numF t).2).1 : Int))])
      simp at this
      omega
theorem cau_fit (l : List UInt8) (hl : l.length < 9000) : (cauC l).n.length < 1000000 ∧ (cauC l).l.length < 1000000 := by
  obtain ⟨k0, s0⟩ := tk0_ok hl
  obtain ⟨k1, s1⟩ := word_ok2 k0 s0
  refine ⟨?_, ?_⟩
  · rcases num_len (wordF (tk0 l)).2 with h | h
    · show (nmT l).1.length < _; unfold nmT; rw [h]; simp
    · exact s1 _ h
  · have h1 := loss_len (chT l).2.ws.length (chT l).2 []
    have e1 := word_dec (tk0 l)
    have e2 := word_dec (wordF (tk0 l)).2
    have e3 := word_dec (nmT l).2
    have e4 : (chT l).2.ws = (wordF (nmT l).2).2.ws := num_ws _
    have e5 := (split_sum 32 (cutN l).1).1
    have e6 := cut_len l
    have e7 : (tk0 l).ws = splitB 32 (cutN l).1 := rfl
    rw [e7] at e1
    unfold nmT at e3 e4
    simp only [List.length_nil] at h1
    show (lsT l).1.length < _
    unfold lsT
    rw [e4] at h1 ⊢
    omega
theorem takeC_fit : ∀ (ls : List (List UInt8)) (os : List Cz), (takeC os ls).1.length ≤ os.length + ls.length ∧ ((∀ c ∈ os, c.n.length < 1000000 ∧ c.l.length < 1000000) → (∀ l ∈ ls, l.length < 9000) → ∀ c ∈ (takeC os ls).1, c.n.length < 1000000 ∧ c.l.length < 1000000) := by
  intro ls
  induction ls with
  | nil => intro os; exact ⟨by simp [takeC], fun h _ => h⟩
  | cons l r ih =>
    intro os
    simp only [takeC]
    cases badT l
    · obtain ⟨h1, h2⟩ := ih (os ++ [cauC l])
      simp only [cond_false]
      refine ⟨by simp at h1 ⊢; omega, fun h hl => h2 (fun c hc => ?_) fun x hx => hl x (List.mem_cons_of_mem _ hx)⟩
      rcases List.mem_append.1 hc with hc | hc
      · exact h c hc
      · rw [List.mem_singleton.1 hc]; exact cau_fit l (hl l (List.mem_cons_self ..))
    · exact ⟨by simp, fun h _ => h⟩
theorem take_fit (s : List UInt8) (hs : s.length < 5000) : (takeC [] (linesB s)).1.length < 1000000 ∧ ∀ c ∈ (takeC [] (linesB s)).1, c.n.length < 1000000 ∧ c.l.length < 1000000 := by
  obtain ⟨h1, h2⟩ := takeC_fit (linesB s) []
  obtain ⟨h3, h4⟩ := lines_len s
  exact ⟨by simp at h1; omega, h2 (fun c hc => by cases hc) fun l hl => by have := h4 l hl; omega⟩
theorem c93 (s : List UInt8) (hs : s.length < 5000) : (lim T).call 93 [.str s] [] 0 [] = some (.tup [(parseV s).1, .int .i64 (parseV s).2.1, .int .i64 (parseV s).2.2], [], 0, []) := by
  rw [ent93]
  unfold parseV
  have h0 : decide (4096 < (s.length : Int)) = decide (4096 < s.length) := by
    rw [Bool.eq_iff_iff]; simp only [decide_eq_true_iff]; omega
  have h1 := c176 s
  cases hl : decide (4096 < s.length)
  · rw [hl] at h0
    simp -implicitDefEqProofs only [go_sem, simprocAttr, h0, h1, callP_r, backId_eq, frzAllP_cons]
    obtain ⟨env', ⟨e2, e3, e4, e5⟩, hr⟩ := range93 s hs [(20, .fn 225 [.ptr 4 0 0]), (19, .str s), (5, .ptr 3 0 0), (18, .bool false), (17, .int .i64 s.length), (16, .str s), (4, .ptr 2 0 0), (3, .ptr 1 0 0), (2, .ptr 0 0 0), (0, .str s)] ⟨rfl, rfl, rfl, rfl⟩ rfl 99986
      [.inBlock 0, .code ((r93_20.seq (r93_21.seq (Code.cond (Operand.tmp 83) (r93_22.seq Code.ret) Code.skip))).seq (r93_23.seq Code.ret))]
    rw [hr]
    have hfit := take_fit s hs
    generalize takeC [] (linesB s) = q at *
    obtain ⟨os, ok⟩ := q
    cases ok
    · simp only [cond_false]
      simp -implicitDefEqProofs only [go_sem, simprocAttr, Hst, e2, e3, e4, e5]
    · simp only [cond_true]
      cases os with
      | nil =>
        have hc : (lim T).call 120 [.sl false 0 []] [] 0 [] = some (.int .i64 0, [], 0, []) := by
          rw [ent120]
          simp -implicitDefEqProofs only [go_sem, simprocAttr]
          rw [loopEq]
          simp -implicitDefEqProofs only [go_sem, simprocAttr]
        simp -implicitDefEqProofs only [go_sem, simprocAttr, frH, fr3, fr4, List.map_nil, hc, e2, e3, e4, e5]
        rfl
      | cons o os =>
        have hc := w120 true (o :: os) (by simpa using hfit.1) hfit.2
        rw [List.map_cons] at hc ⊢
        have hc : (lim T).call 120 [.sl true 3 (.agg [.str o.n, .int .i64 o.c, slV 2 (o.l.map ivV)] :: os.map czW)] [] 0 [] = some (.int .i64 (ckCs (o :: os)), [], 0, []) := hc
        cases he : (ckCs (o :: os) != 0)
        · simp -implicitDefEqProofs only [go_sem, simprocAttr, frH, fr3, fr4, hc, he, e2, e3, e4, e5]
          try rfl
        · simp -implicitDefEqProofs only [go_sem, simprocAttr, frH, fr3, fr4, hc, he, e2, e3, e4, e5]
          try rfl
  · rw [hl] at h0
    simp -implicitDefEqProofs only [go_sem, simprocAttr, h0]
    try rfl
def splitC (c : UInt8) (cur rest : List UInt8) : List (List UInt8) := match splitB c rest with
  | [] => [cur]
  | w :: ws => (cur ++ w) :: ws
theorem splitC_nil (c : UInt8) (cur : List UInt8) : splitC c cur [] = [cur] := by simp [splitC, splitB]
theorem splitC_0 (c : UInt8) (r : List UInt8) : splitC c [] r = splitB c r := by
  unfold splitC
  cases h : splitB c r with
  | nil => exact absurd h (split_ne c r)
  | cons w ws => rfl
theorem splitC_eq {c b : UInt8} (h : (b == c) = true) (cur r : List UInt8) : splitC c cur (b :: r) = cur :: splitC c [] r := by
  rw [splitC_0]
  unfold splitC
  rw [splitB, h]
  simp
theorem splitC_ne {c b : UInt8} (h : (b == c) = false) (cur r : List UInt8) : splitC c cur (b :: r) = splitC c (cur ++ [b]) r := by
  unfold splitC
  rw [splitB, h]
  simp only
  cases hs : splitB c r with
  | nil => simp
  | cons w ws => simp
theorem beq_byte (a c : UInt8) : (((a.toNat : Nat) : Int) == ((c.toNat : Nat) : Int)) = (a == c) := by
  rw [Bool.eq_iff_iff]; simp only [beq_iff_eq]
  constructor
  · intro h; exact UInt8.toNat_inj.1 (by omega)
  · rintro rfl; rfl
theorem acL_len {α : Type} {o : Option (List α)} {n : Nat} (h : acL o = n) : (o.getD []).length = n := by
  cases o with
  | none => exact h
  | some l => exact h
theorem loop181 (s : List UInt8) (c : UInt8) (hb : s.length < 5000) : ∀ i, i ≤ s.length → ∀ (fr : Nat) (o : Option (List (List UInt8))), fr ≤ i → acL o ≤ i →
    (lim T).loop false [.code (.loop b181_0), .inBlock 0, .code (.seq r181_9 .ret)] ⟨181, 34, 0, [(0, .str s), (1, .int .u8 c.toNat), (5, acV o 0), (6, .int .i64 fr), (7, .int .i64 i)], acR .str o 9, 0, []⟩ =
      some (.ret (.sl true 1 ((o.getD [] ++ splitC c ((s.take i).drop fr) (s.drop i)).map .str)), [], 0, []) := by
  refine down_ind s.length ?_ fun i hi ih => ?_
  · intro fr o hf ho
    rw [loopEq]
    have h1 := idx_out s.length
    have h2 : decide (0 ≤ (fr : Int)) = true := by rw [decide_eq_true_iff]; omega
    have h3 : decide (fr ≤ s.length ∧ s.length ≤ s.length) = true := by rw [decide_eq_true_iff]; omega
    have h4 : decide (fr ≤ s.length) = true := by rw [decide_eq_true_iff]; omega
    rw [List.drop_length, splitC_nil, List.take_length]
    have h5 : s.take s.length = s := List.take_length
    cases o with
    | none =>
      have h8 := row_ok (n := 0) (by omega)
      simp -implicitDefEqProofs only [go_sem, simprocAttr, h1, h2, h3, h4, h5, h8.2, h8.1]
      try simp
    | some a =>
      have h9 : a.length ≤ s.length := ho
      have h8 := (row_ok (n := a.length) (by omega)).1
      simp -implicitDefEqProofs only [go_sem, simprocAttr, h1, h2, h3, h4, h5, h8]
      try simp
  · intro fr o hf ho
    obtain ⟨h1, h2, h3, h4, h5⟩ := idx_in hi (by omega)
    have q1 : decide (0 ≤ (fr : Int)) = true := by rw [decide_eq_true_iff]; omega
    have q2 : decide (0 ≤ (i : Int)) = true := by rw [decide_eq_true_iff]; omega
    have q3 : decide (fr ≤ i ∧ i ≤ s.length) = true := by rw [decide_eq_true_iff]; omega
    have q4 : decide (fr ≤ i) = true := by rw [decide_eq_true_iff]; omega
    have q5 : decide (i ≤ s.length) = true := by rw [decide_eq_true_iff]; omega
    have hbb := beq_byte s[i] c
    rw [h5, loopEq]
    cases hc : (s[i] == c)
    · rw [hc] at hbb
      have ih' := ih fr o (by omega) (by omega)
      have e : (s.take (i + 1)).drop fr = (s.take i).drop fr ++ [s[i]] := by
        rw [List.take_succ_eq_append_getElem hi, List.drop_append_of_le_length (by simp; omega)]
      rw [e] at ih'
      rw [splitC_ne hc]
      cases o with
      | none =>
        simp only [acV_n, acR_n] at ih'
        simp -implicitDefEqProofs only [go_sem, simprocAttr, h1, h2, h3, h4, q2, hbb, ih']
      | some a =>
        simp only [acV_s, acR_s] at ih'
        simp -implicitDefEqProofs only [go_sem, simprocAttr, h1, h2, h3, h4, q2, hbb, ih']
    · rw [hc] at hbb
      rw [splitC_eq hc]
      have ih' := ih (i + 1) (acA o [(s.take i).drop fr]) (by omega) (by rw [acL_A]; simp; omega)
      have e : (s.take (i + 1)).drop (i + 1) = [] := by simp
      rw [e] at ih'
      cases o with
      | none =>
        have h8 := row_ok (n := 0) (by omega)
        simp only [acA_n, acV_s, acR_s, List.map_cons, List.map_nil] at ih'
        simp -implicitDefEqProofs only [go_sem, simprocAttr, h1, h2, h3, h4, q1, q2, q3, q4, q5, hbb, ih', h8.2]
        try simp
      | some a =>
        have h9 : a.length ≤ i := ho
        have h8 := (row_ok (n := a.length) (by omega)).1
        simp only [acA_s, acV_s, acR_s, List.map_append, List.map_cons, List.map_nil] at ih'
        simp -implicitDefEqProofs only [go_sem, simprocAttr, h1, h2, h3, h4, q1, q2, q3, q4, q5, hbb, ih', h8]
        try simp
theorem c181 (s : List UInt8) (c : UInt8) (hb : s.length < 5000) : (lim T).call 181 [.str s, .int .u8 c.toNat] [] 0 [] = some (.sl true 1 ((splitB c s).map .str), [], 0, []) := by
  rw [ent181]
  have h := loop181 s c hb 0 (by omega) 0 none (by omega) (by simp [acL])
  rw [show ((0 : Nat) : Int) = 0 from rfl, List.take_zero, List.drop_zero, List.drop_zero, splitC_0] at h
  simp only [acV_n, acR_n] at h
  simp -implicitDefEqProofs only [go_sem, simprocAttr, h]
  simp
def digR (s : List UInt8) : Option Nat := cond (s.isEmpty || (decide (9 < s.length) || zlead s)) none (goNum false 0 s)
def digV : Option Nat → V
  | none => .tup [.int .i64 0, .bool false]
  | some n => .tup [.int .i64 n, .bool true]
theorem wrap_8 {n : Int} (h : 0 ≤ n ∧ n < 256) : IntKind.u8.wrap n = n := by
  unfold IntKind.wrap; simp [IntKind.signed, IntKind.bits]; omega
theorem num_wrap8 {n c : Nat} (hn : n < 1000000000) (hc : 48 ≤ c ∧ c ≤ 57) : IntKind.i64.wrap (IntKind.i64.wrap (10 * (n : Int)) + IntKind.i64.wrap (IntKind.u8.wrap ((c : Int) - 48))) = ((10 * n + (c - 48) : Nat) : Int) := by
  rw [wrap_8 (by omega), wrap_s (n := 10 * (n : Int)) (by omega), wrap_s (n := (c : Int) - 48) (by omega), wrap_s (by omega)]
  omega
theorem loop182 (s : List UInt8) (hb : s.length ≤ 9) : ∀ i, i ≤ s.length → ∀ n : Nat, n < 10 ^ i →
    (lim T).loop false [.code (.loop b182_0), .inBlock 0, .code (.seq r182_10 .ret)] ⟨182, 48, 0, [(0, .str s), (4, .int .i64 n), (5, .int .i64 i)], [], 0, []⟩ = some (.ret (digV (goNum false n (s.drop i))), [], 0, []) := by
  refine down_ind s.length ?_ fun i hi ih => ?_
  · intro n hn
    rw [loopEq]
    have h1 := idx_out s.length
    rw [List.drop_length]
    simp -implicitDefEqProofs only [go_sem, simprocAttr, h1, goNum, digV]
  · intro n hn
    obtain ⟨h1, h2, h3, h4, h5⟩ := idx_in hi (by omega)
    have q2 : decide (0 ≤ (i : Int)) = true := by rw [decide_eq_true_iff]; omega
    rw [h5, loopEq]
    simp only [goNum, digC, Bool.not_false, Bool.and_true]
    have hpow : (10 : Nat) ^ i ≤ 10 ^ 8 := Nat.pow_le_pow_right (by omega) (by omega)
    cases hc : (decide (48 ≤ s[i].toNat) && decide (s[i].toNat ≤ 57))
    · simp only [cond_false, digV]
      by_cases hlo : s[i].toNat < 48
      · have q1 := dg_lo (r := ((s[i].toNat : Nat) : Int)) (by omega)
        simp -implicitDefEqProofs only [go_sem, simprocAttr, h1, h2, h3, h4, q1, q2]
      · have hhi : 57 < s[i].toNat := by
          simp only [Bool.and_eq_false_iff, decide_eq_false_iff_not] at hc
          omega
        obtain ⟨q1, q3⟩ := dg_hi (r := ((s[i].toNat : Nat) : Int)) (by omega)
        simp -implicitDefEqProofs only [go_sem, simprocAttr, h1, h2, h3, h4, q1, q2, q3]
    · simp only [cond_true]
      simp only [Bool.and_eq_true, decide_eq_true_iff] at hc
      obtain ⟨q1, q3⟩ := dg_mid (r := ((s[i].toNat : Nat) : Int)) (by omega)
      have ih' := ih (10 * n + (s[i].toNat - 48)) (by rw [Nat.pow_succ]; omega)
      have hw := num_wrap8 (n := n) (c := s[i].toNat) (by omega) (by omega)
      simp -implicitDefEqProofs only [go_sem, simprocAttr, h1, h2, h3, h4, q1, q2, q3, hw, ih']
theorem c182 (s : List UInt8) (hb : s.length < 1000000) : (lim T).call 182 [.str s] [] 0 [] = some (digV (digR s), [], 0, []) := by
  rw [ent182]
  unfold digR
  match s, hb with
  | [], _ => simp -implicitDefEqProofs only [go_sem, simprocAttr, List.isEmpty_nil, digV]
  | [a], _ =>
    have h := loop182 [a] (by simp) 0 (by omega) 0 (by simp)
    rw [List.drop_zero, show ((0 : Nat) : Int) = 0 from rfl] at h
    have h1 : ([a] == ([] : List UInt8)) = false := rfl
    have h2 : ([a].isEmpty || (decide (9 < [a].length) || zlead [a])) = false := by simp [zlead]
    rw [h2]
    cases hg : goNum false 0 [a] with
    | none => rw [hg] at h; simp -implicitDefEqProofs only [go_sem, simprocAttr, h, h1, List.length_cons, List.length_nil, cond_false, digV]
    | some n => rw [hg] at h; simp -implicitDefEqProofs only [go_sem, simprocAttr, h, h1, List.length_cons, List.length_nil, cond_false, digV]
  | a :: b :: r, hb =>
    have h1 : (a :: b :: r == ([] : List UInt8)) = false := rfl
    have h2 : decide (1 < ((r.length + 1 + 1 : Nat) : Int)) = true := by rw [decide_eq_true_iff]; omega
    have h3 := beq_byte a 48
    rw [show (((48 : UInt8).toNat : Nat) : Int) = 48 from rfl] at h3
    have h4 : decide (9 < ((r.length + 1 + 1 : Nat) : Int)) = decide (9 < r.length + 1 + 1) := by
      rw [Bool.eq_iff_iff]; simp only [decide_eq_true_iff]; omega
    have h5 : (a :: b :: r).isEmpty = false := rfl
    rw [h5, Bool.false_or, List.length_cons, List.length_cons]
    cases hl : decide (9 < r.length + 1 + 1)
    · rw [hl] at h4
      have h := loop182 (a :: b :: r) (by simp at hl ⊢; omega) 0 (by omega) 0 (by simp)
      rw [List.drop_zero, show ((0 : Nat) : Int) = 0 from rfl] at h
      cases hz : (a == 48)
      · rw [hz] at h3
        have hz' : zlead (a :: b :: r) = false := hz
        rw [hz']
        cases hg : goNum false 0 (a :: b :: r) with
        | none => rw [hg] at h; simp -implicitDefEqProofs only [go_sem, simprocAttr, h, h1, h2, h3, h4, List.length_cons, cond_false, digV, Bool.or_false]
        | some n => rw [hg] at h; simp -implicitDefEqProofs only [go_sem, simprocAttr, h, h1, h2, h3, h4, List.length_cons, cond_false, digV, Bool.or_false]
      · rw [hz] at h3
        have hz' : zlead (a :: b :: r) = true := hz
        rw [hz']
        simp -implicitDefEqProofs only [go_sem, simprocAttr, h1, h2, h3, h4, List.length_cons, cond_true, digV, Bool.or_true]
    · rw [hl] at h4
      simp -implicitDefEqProofs only [go_sem, simprocAttr, h1, h4, List.length_cons, cond_true, digV, Bool.true_or]
def K95 : Code := .seq (.seq r95_26 (.cond (.tmp 115) (.seq r95_27 .ret) .skip)) (.seq (.seq r95_28 (.seq r95_29 (.cond (.tmp 120) (.seq r95_30 .ret) .skip))) (.seq r95_31 .ret))
def L95 (rows : List (List UInt8)) (wh : Nat) (o : Option (List Cz)) (i : Nat) : Option Out :=
  (lim T).loop false [.code (.loop b95_0), .inBlock 0, .code K95] ⟨95, 124, 0, [(5, .sl true 1 (rows.map .str)), (6, .int .i64 wh), (7, acV o 0), (8, .int .i64 i)], acR czW o 140, 0, []⟩
def cRow (nm : List UInt8) (ch : Int) (id : Nat) : List (Int × Int) → Row
  | [] => .cells true true 140 [.agg [.str nm, .int .i64 ch, .sl false 0 []]]
  | _ => .cells true false 140 [.agg [.str nm, .int .i64 ch, .ref id]]
def M95 (rows : List (List UInt8)) (wh : Nat) (o : Option (List Cz)) (i : Nat) (n : List Int) (nm : List UInt8) (ch : Int) (acc : List (Int × Int)) (j : Nat) : Option Out :=
  (lim T).loop false [.code (.loop b95_2), .inBlock 4, .code r95_25, .inBlock 1, .code r95_8, .inLoop b95_0, .inBlock 0, .code K95]
    ⟨95, 124, 0, [(5, .sl true 1 (rows.map .str)), (6, .int .i64 wh), (7, acV o 0), (8, .int .i64 i), (10, .ref (acI o 0)), (14, .ptr (acI o 0 + 1) 0 0), (15, .int .i64 j)],
      acR czW o 140 ++ [.cells false true 3 (n.map intV), cRow nm ch (acI o 0 + 2) acc] ++ lRows acc, 0, []⟩
theorem M95_end (rows : List (List UInt8)) (wh : Nat) (o : Option (List Cz)) (ho : acL o < 10000) (i : Nat) (hi : i < 100000) (n : List Int) (nm : List UInt8) (ch : Int) (acc : List (Int × Int)) (j : Nat) (hj : j < 100000) (he : ¬ j + 1 < n.length) :
    M95 rows wh o i n nm ch acc j = L95 rows wh (acA o [⟨nm, ch, true, acc⟩]) (i + 1) := by
  have h1 : IntKind.i64.wrap ((j : Int) + 1) = ((j + 1 : Nat) : Int) := by rw [wrap_s (by omega)]; omega
  have h2 : decide (((j + 1 : Nat) : Int) < (n.length : Int)) = false := by rw [decide_eq_false_iff_not]; omega
  have h3 : IntKind.i64.wrap ((i : Int) + 1) = ((i + 1 : Nat) : Int) := by rw [wrap_s (by omega)]; omega
  obtain ⟨h8, h9⟩ := row_ok (n := acL o) (by omega)
  have hp := pure_ivs acc
  unfold pureL at hp
  conv => lhs; unfold M95; rw [loopEq]
  unfold L95
  cases o with
  | none =>
    cases acc with
    | nil => simp -implicitDefEqProofs only [go_sem, simprocAttr, cRow, lRows, slV, h1, h2, h3, h8, h9, List.nil_append, List.cons_append, List.append_nil, List.map_nil]
    | cons a r => simp -implicitDefEqProofs only [go_sem, simprocAttr, cRow, lRows, slV, h1, h2, h3, h8, h9, List.nil_append, List.cons_append, List.append_nil, List.map_cons]
  | some l =>
    rw [acL_s] at h8
    cases acc with
    | nil => simp -implicitDefEqProofs only [go_sem, simprocAttr, cRow, lRows, slV, h1, h2, h3, h8, h9, List.nil_append, List.cons_append, List.append_nil, List.map_nil, List.map_append, List.map_cons]
    | cons a r => simp -implicitDefEqProofs only [go_sem, simprocAttr, cRow, lRows, slV, h1, h2, h3, h8, h9, List.nil_append, List.cons_append, List.append_nil, List.map_cons, List.map_append, List.map_nil]
theorem M95_step (rows : List (List UInt8)) (wh : Nat) (o : Option (List Cz)) (i : Nat) (n : List Int) (nm : List UInt8) (ch : Int) (acc : List (Int × Int)) (hacc : acc.length < 10000) (j : Nat) (hj : j < 100000) (x y : Int) (hx : n[j]? = some x) (hy : n[j + 1]? = some y) :
    M95 rows wh o i n nm ch acc j = M95 rows wh o i n nm ch (acc ++ [(x, y)]) (j + 2) := by
  have hl : j + 1 < n.length := (List.getElem?_eq_some_iff.1 hy).1
  have h1 : IntKind.i64.wrap ((j : Int) + 1) = ((j + 1 : Nat) : Int) := by rw [wrap_s (by omega)]; omega
  have h1' : IntKind.i64.wrap ((j : Int) + 2) = ((j + 2 : Nat) : Int) := by rw [wrap_s (by omega)]; omega
  have h2 : decide (((j + 1 : Nat) : Int) < (n.length : Int)) = true := by rw [decide_eq_true_iff]; omega
  have h3 : decide (0 ≤ (j : Int) ∧ (j : Int) < (n.length : Int)) = true := by rw [decide_eq_true_iff]; omega
  have h4 : decide (0 ≤ ((j + 1 : Nat) : Int) ∧ ((j + 1 : Nat) : Int) < (n.length : Int)) = true := by rw [decide_eq_true_iff]; omega
  have h5 : ((j + 1 : Nat) : Int).toNat = j + 1 := by omega
  obtain ⟨h8, h9⟩ := row_ok (n := acc.length) (by omega)
  conv => lhs; unfold M95; rw [loopEq]
  unfold M95
  cases o with
  | none =>
    cases acc with
    | nil => simp -implicitDefEqProofs only [go_sem, simprocAttr, cRow, lRows, h1, h1', h2, h3, h4, h5, h8, h9, hx, hy, List.nil_append, List.cons_append, List.append_nil, List.map_nil]
    | cons a r =>
      rw [List.length_cons] at h8
      simp -implicitDefEqProofs only [go_sem, simprocAttr, cRow, lRows, h1, h1', h2, h3, h4, h5, h8, h9, hx, hy, List.nil_append, List.cons_append, List.append_nil, List.map_cons, List.map_append, List.map_nil]
  | some l =>
    cases acc with
    | nil => simp -implicitDefEqProofs only [go_sem, simprocAttr, cRow, lRows, h1, h1', h2, h3, h4, h5, h8, h9, hx, hy, List.nil_append, List.cons_append, List.append_nil, List.map_nil]
    | cons a r =>
      rw [List.length_cons] at h8
      simp -implicitDefEqProofs only [go_sem, simprocAttr, cRow, lRows, h1, h1', h2, h3, h4, h5, h8, h9, hx, hy, List.nil_append, List.cons_append, List.append_nil, List.map_cons, List.map_append, List.map_nil]
def pairs : List Int → List (Int × Int)
  | x :: y :: r => (x, y) :: pairs r
  | _ => []
theorem M95_all (rows : List (List UInt8)) (wh : Nat) (o : Option (List Cz)) (ho : acL o < 10000) (i : Nat) (hi : i < 100000) (n : List Int) (hn : n.length < 10000) (nm : List UInt8) (ch : Int) : ∀ (k : Nat) (acc : List (Int × Int)) (j : Nat), n.length - j ≤ k → j ≤ n.length → acc.length + j < 20000 → acc.length ≤ j →
    M95 rows wh o i n nm ch acc j = L95 rows wh (acA o [⟨nm, ch, true, acc ++ pairs (n.drop j)⟩]) (i + 1) := by
  intro k
  induction k using Nat.strongRecOn with
  | _ k ih =>
    intro acc j hk hj ha ha2
    by_cases h : j + 1 < n.length
    · have e1 : n.drop j = n[j] :: n[j + 1] :: n.drop (j + 2) := by
        rw [List.drop_eq_getElem_cons (show j < n.length by omega), List.drop_eq_getElem_cons h]
      rw [M95_step rows wh o i n nm ch acc (by omega) j (by omega) n[j] n[j + 1] (List.getElem?_eq_getElem (by omega)) (List.getElem?_eq_getElem h), ih (k - 1) (by omega) _ (j + 2) (by omega) (by omega) (by simp; omega) (by simp; omega), e1]
      simp [pairs]
    · have e1 : pairs (n.drop j) = [] := by
        cases hd : n.drop j with
        | nil => rfl
        | cons x r =>
          cases r with
          | nil => rfl
          | cons y r => have := congrArg List.length hd; simp at this; omega
      rw [M95_end rows wh o ho i hi n nm ch acc j (by omega) h, e1, List.append_nil]
def N95 (rows : List (List UInt8)) (wh : Nat) (o : Option (List Cz)) (i : Nat) (w : List (List UInt8)) (m : Option (List Int)) (k : Nat) : Option Out :=
  (lim T).loop false [.code (.loop b95_1), .inBlock 2, .code (.seq r95_20 (.seq (.seq r95_21 (.block 4 (.loop b95_2))) r95_25)), .inBlock 1, .code r95_8, .inLoop b95_0, .inBlock 0, .code K95]
    ⟨95, 124, 0, [(5, .sl true 1 (rows.map .str)), (6, .int .i64 wh), (7, acV o 0), (8, .int .i64 i), (9, .sl true 1 (w.map .str)), (10, acV m (acI o 0)), (11, .int .i64 k)], acR czW o 140 ++ acR intV m 3, 0, []⟩
def allNum : List (List UInt8) → Option (List Int)
  | [] => some []
  | s :: r => match digR s with
    | none => none
    | some n => (match allNum r with | none => none | some l => some ((n : Int) :: l))
theorem N95_end (rows : List (List UInt8)) (wh : Nat) (o : Option (List Cz)) (i : Nat) (w : List (List UInt8)) (x : Int) (l : List Int) (w1 : List UInt8) (h1 : w[1]? = some w1) :
    N95 rows wh o i w (some (x :: l)) w.length = M95 rows wh o i (x :: l) w1 x [] 1 := by
  have q1 := idx_out w.length
  have hl : 1 < w.length := (List.getElem?_eq_some_iff.1 h1).1
  have q2 : decide (1 < (w.length : Int)) = true := by rw [decide_eq_true_iff]; omega
  have q3 : decide (0 < ((l.length + 1 : Nat) : Int)) = true := by rw [decide_eq_true_iff]; omega
  conv => lhs; unfold N95; rw [loopEq]
  unfold M95
  cases o with
  | none => simp -implicitDefEqProofs only [go_sem, simprocAttr, cRow, lRows, h1, q1, q2, q3, List.nil_append, List.cons_append, List.append_nil, List.map_cons]
  | some o => simp -implicitDefEqProofs only [go_sem, simprocAttr, cRow, lRows, h1, q1, q2, q3, List.nil_append, List.cons_append, List.append_nil, List.map_cons]
theorem N95_bad (rows : List (List UInt8)) (wh : Nat) (o : Option (List Cz)) (i : Nat) (w : List (List UInt8)) (hw : ∀ s ∈ w, s.length < 1000000) (m : Option (List Int)) (k : Nat) (hk : k < w.length) (hn : w.length < 100000) (hd : digR w[k] = none) :
    N95 rows wh o i w m k = some (.ret (.tup [.sl false 0 [], .int .i64 i, .int .i64 25]), [], 0, []) := by
  obtain ⟨h1, h2, h3, h4, h5⟩ := idx_in hk (by omega)
  have hc := c182 w[k] (hw _ (List.getElem_mem hk))
  rw [hd, digV] at hc
  unfold N95
  rw [loopEq]
  cases o <;> cases m <;> simp -implicitDefEqProofs only [go_sem, simprocAttr, h1, h2, h3, hc, List.nil_append, List.cons_append, List.append_nil]
theorem N95_step (rows : List (List UInt8)) (wh : Nat) (o : Option (List Cz)) (i : Nat) (w : List (List UInt8)) (hw : ∀ s ∈ w, s.length < 1000000) (m : Option (List Int)) (hm : acL m < 10000) (k : Nat) (hk : k < w.length) (hn : w.length < 100000) (n : Nat) (hd : digR w[k] = some n) :
    N95 rows wh o i w m k = N95 rows wh o i w (acA m [(n : Int)]) (k + 1) := by
  obtain ⟨h1, h2, h3, h4, h5⟩ := idx_in hk (by omega)
  have hc := c182 w[k] (hw _ (List.getElem_mem hk))
  rw [hd, digV] at hc
  obtain ⟨h8, h9⟩ := row_ok (n := acL m) (by omega)
  conv => lhs; unfold N95; rw [loopEq]
  unfold N95
  cases m with
  | none => cases o <;> simp -implicitDefEqProofs only [go_sem, simprocAttr, h1, h2, h3, h4, h9, hc, List.nil_append, List.cons_append, List.append_nil, List.map_cons, List.map_nil]
  | some l =>
    rw [acL_s] at h8
    cases o <;> simp -implicitDefEqProofs only [go_sem, simprocAttr, h1, h2, h3, h4, h8, h9, hc, List.nil_append, List.cons_append, List.append_nil, List.map_cons, List.map_nil, List.map_append]
theorem N95_all (rows : List (List UInt8)) (wh : Nat) (o : Option (List Cz)) (ho : acL o < 10000) (i : Nat) (hi : i < 100000) (w : List (List UInt8)) (hw : ∀ s ∈ w, s.length < 1000000) (hn : w.length < 9000) (w1 : List UInt8) (h1 : w[1]? = some w1) :
    ∀ k, k ≤ w.length → ∀ m : Option (List Int), acL m + 2 = k → (k = 2 → 2 < w.length) →
      N95 rows wh o i w m k = match allNum (w.drop k) with
        | none => some (.ret (.tup [.sl false 0 [], .int .i64 i, .int .i64 25]), [], 0, [])
        | some l => match (m.getD [] ++ l) with
          | [] => none
          | x :: r => L95 rows wh (acA o [⟨w1, x, true, pairs r⟩]) (i + 1) := by
  refine down_ind w.length ?_ fun k hk ih => ?_
  · intro m hm h2
    rw [List.drop_length]
    simp only [allNum, List.append_nil]
    have hm2 : m.getD [] ≠ [] := by
      intro e
      have := acL_len (o := m) rfl
      rw [e] at this
      simp at this
      exact absurd (h2 (by omega)) (by omega)
    cases m with
    | none => simp at hm2
    | some l =>
      cases l with
      | nil => simp at hm2
      | cons x r =>
        rw [N95_end rows wh o i w x r w1 h1]
        have hl : (x :: r).length < 10000 := by rw [acL_s] at hm; omega
        rw [M95_all rows wh o ho i hi (x :: r) hl w1 x (x :: r).length [] 1 (by omega) (by simp) (by simp) (by simp)]
        rfl
  · intro m hm h2
    have e := List.drop_eq_getElem_cons hk
    rw [e]
    simp only [allNum]
    cases hd : digR w[k] with
    | none => rw [N95_bad rows wh o i w hw m k hk (by omega) hd]
    | some n =>
      rw [N95_step rows wh o i w hw m (by omega) k hk (by omega) n hd, ih (acA m [(n : Int)]) (by rw [acL_A]; simp; omega) (fun h => by omega)]
      cases hr : allNum (w.drop (k + 1)) with
      | none => rfl
      | some l => cases m <;> simp [acA]
def rowR : List (List UInt8) → Option Cz
  | w0 :: w1 :: w2 :: r => cond ((r.length % 2 == 0) && (w0 == headW && !(w1 == []))) (match allNum (w2 :: r) with
    | some (x :: l) => some ⟨w1, x, true, pairs l⟩
    | _ => none) none
  | _ => none
theorem allNum_ne {s : List UInt8} {r : List (List UInt8)} : allNum (s :: r) ≠ some [] := by
  simp only [allNum]
  split
  · simp
  · split <;> simp
theorem odd_len (n : Nat) : ((((n + 1 + 1 + 1 : Nat) : Int)).tmod 2 != 1) = !(n % 2 == 0) := by
  have h : (((n + 1 + 1 + 1 : Nat) : Int)).tmod 2 = (((n + 1 + 1 + 1) % 2 : Nat) : Int) := by
    rw [Int.tmod_eq_emod_of_nonneg (by omega)]; omega
  rw [h, Bool.eq_iff_iff]
  simp only [bne_iff_ne, Bool.not_eq_true', beq_eq_false_iff_ne]
  omega
theorem L95_step (rows : List (List UInt8)) (hr : ∀ s ∈ rows, s.length < 5000) (hrl : rows.length < 10000) (wh : Nat) (o : Option (List Cz)) (ho : acL o < 10000) (i : Nat) (hi : i < wh) (hwh : wh < rows.length) :
    L95 rows wh o i = match rowR (splitB 32 (rows[i]'(by omega))) with
      | none => some (.ret (.tup [.sl false 0 [], .int .i64 i, .int .i64 25]), [], 0, [])
      | some c => L95 rows wh (acA o [c]) (i + 1) := by
  have h1 : decide ((i : Int) < (wh : Int)) = true := by rw [decide_eq_true_iff]; omega
  obtain ⟨_, h2, h3, h4, _⟩ := idx_in (l := rows) (i := i) (by omega) (by omega)
  have hc : (lim T).call 181 [.str (rows[i]'(by omega)), .int .u8 32] [] 0 [] = some (.sl true 1 ((splitB 32 (rows[i]'(by omega))).map .str), [], 0, []) :=
    c181 (rows[i]'(by omega)) 32 (hr _ (List.getElem_mem (by omega)))
  have hri := hr (rows[i]'(by omega)) (List.getElem_mem (by omega))
  obtain ⟨hs1, hs2⟩ := split_sum 32 (rows[i]'(by omega))
  have hN := N95_all rows wh o ho i (by omega) (splitB 32 (rows[i]'(by omega))) (fun s hs => by have := hs2 s hs; omega) (by omega)
  generalize splitB 32 (rows[i]'(by omega)) = w at *
  match w, hc, hN, hs1 with
  | [], hc, _, _ =>
    unfold L95
    rw [loopEq]
    simp only [List.map_nil] at hc
    cases o <;> simp -implicitDefEqProofs only [go_sem, simprocAttr, h1, h2, h3, hc, rowR, List.nil_append, List.cons_append, List.append_nil, List.length_nil]
  | [a], hc, _, _ =>
    unfold L95
    rw [loopEq]
    simp only [List.map_nil, List.map_cons] at hc
    cases o <;> simp -implicitDefEqProofs only [go_sem, simprocAttr, h1, h2, h3, hc, rowR, List.nil_append, List.cons_append, List.append_nil, List.length_nil, List.length_cons]
  | [a, b], hc, _, _ =>
    unfold L95
    rw [loopEq]
    simp only [List.map_nil, List.map_cons] at hc
    cases o <;> simp -implicitDefEqProofs only [go_sem, simprocAttr, h1, h2, h3, hc, rowR, List.nil_append, List.cons_append, List.append_nil, List.length_nil, List.length_cons]
  | w0 :: w1 :: w2 :: r, hc, hN, hs1 =>
    have f1 : decide (((r.length + 1 + 1 + 1 : Nat) : Int) < 3) = false := by rw [decide_eq_false_iff_not]; omega
    have f2 := odd_len r.length
    have f3 : decide (0 < ((r.length + 1 + 1 + 1 : Nat) : Int)) = true := by rw [decide_eq_true_iff]; omega
    have f4 : decide (1 < ((r.length + 1 + 1 + 1 : Nat) : Int)) = true := by rw [decide_eq_true_iff]; omega
    have f5 : (w0 == [99, 97, 117, 115, 101]) = (w0 == headW) := rfl
    have hN := hN w1 rfl 2 (by simp) none rfl (fun _ => by simp)
    simp only [List.drop_succ_cons, List.drop_zero, Option.getD_none, List.nil_append] at hN
    have hR : rowR (w0 :: w1 :: w2 :: r) = cond ((r.length % 2 == 0) && (w0 == headW && !(w1 == []))) (match allNum (w2 :: r) with | some (x :: l) => some ⟨w1, x, true, pairs l⟩ | _ => none) none := rfl
    rw [hR]
    simp only [List.map_cons] at hc
    cases ge : (r.length % 2 == 0)
    · rw [ge] at f2
      simp only [Bool.false_and, cond_false]
      unfold L95
      rw [loopEq]
      cases o <;> simp -implicitDefEqProofs only [go_sem, simprocAttr, h1, h2, h3, hc, f1, f2, f3, f4, f5, List.nil_append, List.cons_append, List.append_nil, List.length_cons, List.length_map]
    · rw [ge] at f2
      cases gh : (w0 == headW)
      · rw [gh] at f5
        simp only [Bool.false_and, Bool.and_false, cond_false]
        unfold L95
        rw [loopEq]
        cases o <;> simp -implicitDefEqProofs only [go_sem, simprocAttr, h1, h2, h3, hc, f1, f2, f3, f4, f5, List.nil_append, List.cons_append, List.append_nil, List.length_cons, List.length_map]
      · rw [gh] at f5
        cases gw : (w1 == ([] : List UInt8))
        · simp only [Bool.not_false, Bool.true_and, cond_true]
          have key : L95 rows wh o i = N95 rows wh o i (w0 :: w1 :: w2 :: r) none 2 := by
            conv => lhs; unfold L95; rw [loopEq]
            unfold N95
            cases o <;> simp -implicitDefEqProofs only [go_sem, simprocAttr, h1, h2, h3, hc, f1, f2, f3, f4, f5, gw, List.nil_append, List.cons_append, List.append_nil, List.length_cons, List.length_map, List.map_cons]
          rw [key, hN]
          cases ha : allNum (w2 :: r) with
          | none => rfl
          | some l =>
            cases l with
            | nil => exact absurd ha allNum_ne
            | cons x l => rfl
        · simp only [Bool.not_true, Bool.and_false, cond_false]
          unfold L95
          rw [loopEq]
          cases o <;> simp -implicitDefEqProofs only [go_sem, simprocAttr, h1, h2, h3, hc, f1, f2, f3, f4, f5, gw, List.nil_append, List.cons_append, List.append_nil, List.length_cons, List.length_map]
def rowsR : List Cz → List (List UInt8) → List Cz × Bool
  | os, [] => (os, true)
  | os, w :: r => match rowR (splitB 32 w) with
    | none => (os, false)
    | some c => rowsR (os ++ [c]) r
def endR (wh : Nat) (la : List UInt8) (os : List Cz) : V × Int × Int :=
  cond (la == []) (cond (ckCs os != 0) (.sl false 0 [], wh, ckCs os) (slV 3 (os.map czW), 0, 0)) (.sl false 0 [], wh, 25)
def outR (x : V × Int × Int) : Option Out := some (.ret (.tup [x.1, .int .i64 x.2.1, .int .i64 x.2.2]), [], 0, [])
theorem L95_end (rows : List (List UInt8)) (hrl : rows.length < 10000) (wh : Nat) (hwh : wh + 1 = rows.length) (o : Option (List Cz)) (hn : o ≠ some []) (ho : acL o < 10000) (hf : ∀ c ∈ o.getD [], c.n.length < 1000000 ∧ c.l.length < 1000000) :
    L95 rows wh o wh = outR (endR wh (rows[wh]'(by omega)) (o.getD [])) := by
  have h1 := idx_out wh
  have h2 : decide (0 ≤ (wh : Int) ∧ (wh : Int) < (rows.length : Int)) = true := by rw [decide_eq_true_iff]; omega
  have h3 : rows[wh]? = some (rows[wh]'(by omega)) := List.getElem?_eq_getElem (by omega)
  unfold endR outR
  generalize rows[wh]'(by omega) = la at *
  cases hl : (la == ([] : List UInt8))
  · unfold L95
    rw [loopEq]
    unfold K95
    cases o <;> simp -implicitDefEqProofs only [go_sem, simprocAttr, h1, h2, h3, hl, List.nil_append, List.cons_append, List.append_nil, cond_false]
  · cases o with
    | none =>
      have hc : (lim T).call 110 [.sl false 0 []] [] 0 [] = some (.int .i64 0, [], 0, []) := by
        rw [ent110]
        simp -implicitDefEqProofs only [go_sem, simprocAttr]
        rw [loopEq]
        simp -implicitDefEqProofs only [go_sem, simprocAttr]
      have he : (ckCs [] != 0) = false := rfl
      unfold L95
      rw [loopEq]
      unfold K95
      rw [Option.getD_none, he]
      simp -implicitDefEqProofs only [go_sem, simprocAttr, h1, h2, h3, hl, hc, List.nil_append, List.cons_append, List.append_nil, cond_false, cond_true, slV, List.map_nil]
    | some l =>
      cases l with
      | nil => exact absurd rfl hn
      | cons c l =>
        have hc := w110 true (c :: l) (by simp [acL] at ho ⊢; omega) hf
        have hc : (lim T).call 110 [.sl true 3 (.agg [.str c.n, .int .i64 c.c, slV 2 (c.l.map ivV)] :: l.map czW)] [] 0 [] = some (.int .i64 (ckCs (c :: l)), [], 0, []) := hc
        rw [Option.getD_some, show slV 3 ((c :: l).map czW) = .sl true 3 ((c :: l).map czW) from rfl]
        cases he : (ckCs (c :: l) != 0)
        · unfold L95
          rw [loopEq]
          unfold K95
          simp -implicitDefEqProofs only [go_sem, simprocAttr, h1, h2, h3, hl, hc, he, List.nil_append, List.cons_append, List.append_nil, List.map_cons, cond_false, cond_true]
        · unfold L95
          rw [loopEq]
          unfold K95
          simp -implicitDefEqProofs only [go_sem, simprocAttr, h1, h2, h3, hl, hc, he, List.nil_append, List.cons_append, List.append_nil, List.map_cons, cond_false, cond_true]
theorem L95_all (rows : List (List UInt8)) (hr : ∀ s ∈ rows, s.length < 5000) (hrl : rows.length < 9000) (wh : Nat) (hwh : wh + 1 = rows.length) : ∀ i, i ≤ wh → ∀ o : Option (List Cz), o ≠ some [] → acL o = i → (∀ c ∈ (rowsR (o.getD []) ((rows.take wh).drop i)).1, c.n.length < 1000000 ∧ c.l.length < 1000000) →
    L95 rows wh o i = outR (cond (rowsR (o.getD []) ((rows.take wh).drop i)).2 (endR wh (rows[wh]'(by omega)) (rowsR (o.getD []) ((rows.take wh).drop i)).1) (.sl false 0 [], (rowsR (o.getD []) ((rows.take wh).drop i)).1.length, 25)) := by
  refine down_ind wh ?_ fun i hi ih => ?_
  · intro o hn ho hf
    have e : (rows.take wh).drop wh = [] := by simp
    rw [e] at hf ⊢
    simp only [rowsR, cond_true] at hf ⊢
    exact L95_end rows (by omega) wh hwh o hn (by omega) hf
  · intro o hn ho hf
    have hlt : i < (rows.take wh).length := by simp; omega
    have e := List.drop_eq_getElem_cons hlt
    have e2 : (rows.take wh)[i] = rows[i]'(by omega) := by simp
    rw [e, e2] at hf ⊢
    simp only [rowsR] at hf ⊢
    rw [L95_step rows hr (by omega) wh o (by omega) i hi (by omega)]
    cases hq : rowR (splitB 32 (rows[i]'(by omega))) with
    | none =>
      simp only [cond_false]
      rw [acL_len ho]
      rfl
    | some c =>
      rw [hq] at hf
      simp only at hf ⊢
      have e3 : (acA o [c]).getD [] = o.getD [] ++ [c] := by cases o <;> simp [acA]
      have ih' := ih (acA o [c]) (by simp [acA]) (by rw [acL_A, ho]; rfl) (by rw [e3]; exact hf)
      rw [e3] at ih'
      exact ih'
theorem word_bad {t : Tk} (h : t.bad = true) : (wordF t).2.bad = true := by
  obtain ⟨b, z, ws, bad⟩ := t
  match ws with
  | [] => rfl
  | [] :: r => rfl
  | (c :: w) :: r => exact h
theorem num_bad {t : Tk} (h : t.bad = true) : (numF t).2.bad = true := by
  have := word_bad h
  unfold numF endN
  split
  · rfl
  · simp [this]
theorem loss_bad : ∀ (n : Nat) (t : Tk) (acc : List (Int × Int)), t.bad = true → (lossF n t acc).2.bad = true := by
  intro n
  induction n with
  | zero => intro t acc h; exact h
  | succ n ih =>
    intro t acc h
    unfold lossF
    split
    · exact h
    · exact ih _ _ (num_bad (num_bad h))
theorem go_big {c : UInt8} {r : List UInt8} (n : Nat) : goNum true n (c :: r) = none := by simp [goNum]
theorem num_dig (b : Bool) (z : Nat) (s : List UInt8) (r : List (List UInt8)) : match digR s with
    | none => (numF ⟨b, z, s :: r, false⟩).2.bad = true
    | some n => numF ⟨b, z, s :: r, false⟩ = (n, ⟨b, z, r, false⟩) := by
  cases s with
  | nil => rfl
  | cons c s =>
    have e : numF ⟨b, z, (c :: s) :: r, false⟩ = endN ⟨b, z, r, false⟩ (c :: s) (goNum (decide (9 < (c :: s).length)) 0 (c :: s)) := rfl
    rw [e]
    unfold digR
    have e2 : (c :: s).isEmpty = false := rfl
    rw [e2, Bool.false_or]
    cases hl : decide (9 < (c :: s).length)
    · rw [Bool.false_or]
      cases hz : zlead (c :: s)
      · simp only [cond_false]
        cases hg : goNum false 0 (c :: s) with
        | none => rfl
        | some n => simp [endN, hz]
      · simp only [cond_true]
        cases hg : goNum false 0 (c :: s) with
        | none => rfl
        | some n => simp [endN, hz]
    · rw [Bool.true_or, go_big]
      rfl
theorem loss_all (b : Bool) (z : Nat) : ∀ (k : Nat) (ws : List (List UInt8)), ws.length ≤ k → ∀ (n : Nat) (acc : List (Int × Int)), ws.length ≤ n →
    match cond (ws.length % 2 == 0) (allNum ws) none with
    | none => (lossF n ⟨b, z, ws, false⟩ acc).2.bad = true
    | some l => (lossF n ⟨b, z, ws, false⟩ acc).1 = acc ++ pairs l ∧ (lossF n ⟨b, z, ws, false⟩ acc).2.bad = false := by
  intro k
  induction k using Nat.strongRecOn with
  | _ k ih =>
    intro ws hk n acc hn
    match ws, hk, hn with
    | [], _, _ =>
      have e : lossF n ⟨b, z, [], false⟩ acc = (acc, ⟨b, z, [], false⟩) := by cases n <;> rfl
      rw [e]
      simp [allNum, pairs]
    | [s], _, hn =>
      cases n with
      | zero => simp at hn
      | succ n =>
        show (lossF (n + 1) ⟨b, z, [s], false⟩ acc).2.bad = true
        have e : lossF (n + 1) ⟨b, z, [s], false⟩ acc = lossF n (numF (numF ⟨b, z, [s], false⟩).2).2 (acc ++ [(((numF ⟨b, z, [s], false⟩).1 : Int), ((numF (numF ⟨b, z, [s], false⟩).2).1 : Int))]) := rfl
        rw [e]
        refine loss_bad _ _ _ ?_
        have h := num_dig b z s []
        cases hd : digR s with
        | none => rw [hd] at h; exact num_bad h
        | some m => rw [hd] at h; simp only at h; rw [h]; rfl
    | s1 :: s2 :: r, hk, hn =>
      cases n with
      | zero => simp at hn
      | succ n =>
        have e : lossF (n + 1) ⟨b, z, s1 :: s2 :: r, false⟩ acc = lossF n (numF (numF ⟨b, z, s1 :: s2 :: r, false⟩).2).2 (acc ++ [(((numF ⟨b, z, s1 :: s2 :: r, false⟩).1 : Int), ((numF (numF ⟨b, z, s1 :: s2 :: r, false⟩).2).1 : Int))]) := rfl
        rw [e]
        have hp : ((s1 :: s2 :: r).length % 2 == 0) = (r.length % 2 == 0) := by
          rw [Bool.eq_iff_iff]; simp only [List.length_cons, beq_iff_eq]; omega
        rw [hp]
        simp only [List.length_cons] at hk hn
        have h1 := num_dig b z s1 (s2 :: r)
        simp only [allNum]
        cases hd : digR s1 with
        | none =>
          rw [hd] at h1
          have hb := loss_bad n _ (acc ++ [(((numF ⟨b, z, s1 :: s2 :: r, false⟩).1 : Int), ((numF (numF ⟨b, z, s1 :: s2 :: r, false⟩).2).1 : Int))]) (num_bad h1)
          cases (r.length % 2 == 0) <;> exact hb
        | some m1 =>
          rw [hd] at h1
          simp only at h1 ⊢
          rw [h1]
          have h2 := num_dig b z s2 r
          cases hd2 : digR s2 with
          | none =>
            rw [hd2] at h2
            have hb := loss_bad n _ (acc ++ [((m1 : Int), ((numF ⟨b, z, s2 :: r, false⟩).1 : Int))]) h2
            cases (r.length % 2 == 0) <;> exact hb
          | some m2 =>
            rw [hd2] at h2
            simp only at h2 ⊢
            rw [h2]
            have h3 := ih (k - 1) (by omega) r (by omega) n (acc ++ [((m1 : Int), (m2 : Int))]) (by omega)
            cases hp2 : (r.length % 2 == 0)
            · rw [hp2] at h3
              exact h3
            · rw [hp2] at h3
              simp only [cond_true] at h3 ⊢
              cases ha : allNum r with
              | none => rw [ha] at h3; exact h3
              | some l =>
                rw [ha] at h3
                simp only [pairs] at h3 ⊢
                refine ⟨?_, h3.2⟩
                rw [h3.1, List.append_assoc]
                rfl
theorem line_eq (r : List UInt8) : match rowR (splitB 32 r) with
    | none => badT (r ++ [10]) = true
    | some c => badT (r ++ [10]) = false ∧ cauC (r ++ [10]) = c := by
  have hc : cutN (r ++ [10]) = (r, true) := by rw [cutN_app]; rfl
  have ht : tk0 (r ++ [10]) = ⟨true, 1, splitB 32 r, false⟩ := by unfold tk0; rw [hc]
  have hb : badT (r ++ [10]) = (!((wordF (tk0 (r ++ [10]))).1 == headW) || (lsT (r ++ [10])).2.bad) := by unfold badT; rw [hc]; rfl
  have hls : lsT (r ++ [10]) = lossF (chT (r ++ [10])).2.ws.length (chT (r ++ [10])).2 [] := rfl
  have hch : chT (r ++ [10]) = numF (nmT (r ++ [10])).2 := rfl
  have hnm : nmT (r ++ [10]) = wordF (wordF (tk0 (r ++ [10]))).2 := rfl
  have hcau : cauC (r ++ [10]) = ⟨(nmT (r ++ [10])).1, (chT (r ++ [10])).1, true, (lsT (r ++ [10])).1⟩ := rfl
  rw [ht] at hb hnm
  have hne := split_ne 32 r
  generalize splitB 32 r = w at *
  match w, hne with
  | [] :: rest, _ =>
    have h1 : badT (r ++ [10]) = true := by rw [hb]; rfl
    have h2 : rowR ([] :: rest) = none := by
      match rest with
      | [] => rfl
      | [a] => rfl
      | a :: b :: l => simp [rowR, headW]
    rw [h2]; exact h1
  | (c :: w0) :: rest, _ =>
    have e0 : wordF ⟨true, 1, (c :: w0) :: rest, false⟩ = (c :: w0, ⟨true, 1, rest, false⟩) := rfl
    rw [e0] at hb hnm
    simp only at hb hnm
    cases hh : (c :: w0 == headW)
    · have h1 : badT (r ++ [10]) = true := by rw [hb, hh]; rfl
      have h2 : rowR ((c :: w0) :: rest) = none := by
        match rest with
        | [] => rfl
        | [a] => rfl
        | a :: b :: l => simp [rowR, hh]
      rw [h2]; exact h1
    · rw [hh] at hb
      simp only [Bool.not_true, Bool.false_or] at hb
      match rest with
      | [] =>
        show badT (r ++ [10]) = true
        rw [hb, hls]
        refine loss_bad _ _ _ ?_
        rw [hch]
        refine num_bad ?_
        rw [hnm]; rfl
      | [] :: l =>
        have h2 : rowR ((c :: w0) :: [] :: l) = none := by
          match l with
          | [] => rfl
          | a :: b => simp [rowR]
        rw [h2]
        show badT (r ++ [10]) = true
        rw [hb, hls]
        refine loss_bad _ _ _ ?_
        rw [hch]
        refine num_bad ?_
        rw [hnm]; rfl
      | (d :: w1) :: l =>
        have e1 : wordF ⟨true, 1, (d :: w1) :: l, false⟩ = (d :: w1, ⟨true, 1, l, false⟩) := rfl
        rw [e1] at hnm
        rw [hnm] at hch hcau
        simp only at hch hcau
        match l with
        | [] =>
          show badT (r ++ [10]) = true
          rw [hb, hls]
          refine loss_bad _ _ _ ?_
          rw [hch]; rfl
        | s :: l =>
          have hR : rowR ((c :: w0) :: (d :: w1) :: s :: l) = cond (l.length % 2 == 0) (match allNum (s :: l) with | some (x :: l) => some ⟨d :: w1, x, true, pairs l⟩ | _ => none) none := by
            simp [rowR, hh] <;> rfl
          rw [hR]
          have hd := num_dig true 1 s l
          cases hq : digR s with
          | none =>
            rw [hq] at hd
            have e3 : allNum (s :: l) = none := by simp [allNum, hq]
            have hbad : badT (r ++ [10]) = true := by
              rw [hb, hls]
              refine loss_bad _ _ _ ?_
              rw [hch]; exact hd
            rw [e3]
            cases (l.length % 2 == 0) <;> exact hbad
          | some n =>
            rw [hq] at hd
            simp only at hd
            rw [hd] at hch
            rw [hch] at hls hcau
            simp only at hls hcau
            have hL := loss_all true 1 l.length l (Nat.le_refl _) l.length [] (Nat.le_refl _)
            cases hp : (l.length % 2 == 0)
            · rw [hp] at hL
              simp only [cond_false] at hL ⊢
              rw [hb, hls]; exact hL
            · rw [hp] at hL
              simp only [cond_true] at hL ⊢
              simp only [allNum, hq]
              cases ha : allNum l with
              | none =>
                rw [ha] at hL
                simp only at hL ⊢
                rw [hb, hls]; exact hL
              | some m =>
                rw [ha] at hL
                simp only [List.nil_append] at hL ⊢
                refine ⟨by rw [hb, hls]; exact hL.2, ?_⟩
                rw [hcau, hls, hL.1]
theorem line_bad {la : List UInt8} (h : 10 ∉ la) : badT la = true := by
  have hc : (cutN la).2 = false := by
    rcases List.eq_nil_or_concat la with rfl | ⟨r, c, rfl⟩
    · rfl
    · rw [List.concat_eq_append] at h ⊢
      rw [cutN_app]
      have : (c == 10) = false := by simp at h; simpa using fun e => h.2 e.symm
      rw [this]; rfl
  unfold badT
  rw [hc]; rfl
theorem split_lines : ∀ s : List UInt8, linesB s = (splitB 10 s).dropLast.map (· ++ [10]) ++ cond (((splitB 10 s).getLast?.getD []) == []) [] [(splitB 10 s).getLast?.getD []]
  | [] => rfl
  | b :: r => by
    have ih := split_lines r
    have hne := split_ne 10 r
    unfold linesB splitB
    cases hb : (b == 10)
    · simp only
      cases hs : splitB 10 r with
      | nil => exact absurd hs hne
      | cons w ws =>
        rw [hs] at ih
        rw [ih]
        cases ws with
        | nil =>
          cases w with
          | nil => rfl
          | cons a w => rfl
        | cons w2 ws => simp
    · have hb : b = 10 := by simpa using hb
      subst hb
      simp only
      rw [ih]
      cases hs : splitB 10 r with
      | nil => exact absurd hs hne
      | cons w ws => simp
theorem split_none (c : UInt8) : ∀ s : List UInt8, ∀ w ∈ splitB c s, c ∉ w
  | [] => by simp [splitB]
  | b :: r => by
    have ih := split_none c r
    have hne := split_ne c r
    unfold splitB
    cases hb : (b == c)
    · simp only
      cases hs : splitB c r with
      | nil => exact absurd hs hne
      | cons w ws =>
        rw [hs] at ih
        intro x hx
        rcases List.mem_cons.1 hx with rfl | hx
        · intro hm
          rcases List.mem_cons.1 hm with rfl | hm
          · simp at hb
          · exact ih w (List.mem_cons_self ..) hm
        · exact ih x (List.mem_cons_of_mem _ hx)
    · simp only
      intro x hx
      rcases List.mem_cons.1 hx with rfl | hx
      · simp
      · exact ih x hx
theorem take_rows : ∀ (ws : List (List UInt8)) (os : List Cz) (t : List (List UInt8)), takeC os (ws.map (· ++ [10]) ++ t) = cond (rowsR os ws).2 (takeC (rowsR os ws).1 t) ((rowsR os ws).1, false) := by
  intro ws
  induction ws with
  | nil => intro os t; rfl
  | cons w ws ih =>
    intro os t
    have h := line_eq w
    simp only [List.map_cons, List.cons_append, takeC, rowsR]
    cases hq : rowR (splitB 32 w) with
    | none => rw [hq] at h; simp only at h; rw [h]; rfl
    | some c =>
      rw [hq] at h
      simp only at h ⊢
      rw [h.1, h.2]
      simp only [cond_false]
      exact ih _ _
theorem rows_len : ∀ (ws : List (List UInt8)) (os : List Cz), (rowsR os ws).2 = true → (rowsR os ws).1.length = os.length + ws.length := by
  intro ws
  induction ws with
  | nil => intro os _; rfl
  | cons w ws ih =>
    intro os h
    simp only [rowsR] at h ⊢
    cases hq : rowR (splitB 32 w) with
    | none => rw [hq] at h; cases h
    | some c =>
      rw [hq] at h
      simp only at h ⊢
      rw [ih _ h]
      simp; omega
theorem take_all (s : List UInt8) : takeC [] (linesB s) = ((rowsR [] (splitB 10 s).dropLast).1, (rowsR [] (splitB 10 s).dropLast).2 && (((splitB 10 s).getLast?.getD []) == [])) := by
  rw [split_lines, take_rows]
  cases h : (rowsR [] (splitB 10 s).dropLast).2
  · rfl
  · simp only [cond_true, Bool.true_and]
    cases hl : (((splitB 10 s).getLast?.getD []) == [])
    · simp only [cond_false, takeC]
      have hm : (splitB 10 s).getLast?.getD [] ∈ splitB 10 s := by
        cases hg : (splitB 10 s).getLast? with
        | none => rw [List.getLast?_eq_none_iff] at hg; exact absurd hg (split_ne 10 s)
        | some x => exact List.mem_of_getLast? hg
      rw [line_bad (split_none 10 s _ hm)]
      rfl
    · rfl
theorem rowsR_fit : ∀ (ws : List (List UInt8)) (os : List Cz), (∀ c ∈ os, c.n.length < 1000000 ∧ c.l.length < 1000000) → (∀ w ∈ ws, w.length < 8000) → ∀ c ∈ (rowsR os ws).1, c.n.length < 1000000 ∧ c.l.length < 1000000 := by
  intro ws
  induction ws with
  | nil => intro os h _; exact h
  | cons w ws ih =>
    intro os h hw
    simp only [rowsR]
    have hl := line_eq w
    cases hq : rowR (splitB 32 w) with
    | none => exact h
    | some c =>
      rw [hq] at hl
      refine ih _ (fun c' hc => ?_) fun x hx => hw x (List.mem_cons_of_mem _ hx)
      rcases List.mem_append.1 hc with hc | hc
      · exact h c' hc
      · rw [List.mem_singleton.1 hc, ← hl.2]
        exact cau_fit _ (by have := hw w (List.mem_cons_self ..); simp; omega)
theorem c95 (s : List UInt8) (hs : s.length < 5000) : (lim T).call 95 [.str s] [] 0 [] = some (.tup [(parseV s).1, .int .i64 (parseV s).2.1, .int .i64 (parseV s).2.2], [], 0, []) := by
  have h0 : decide (4096 < (s.length : Int)) = decide (4096 < s.length) := by
    rw [Bool.eq_iff_iff]; simp only [decide_eq_true_iff]; omega
  rw [ent95]
  unfold parseV
  cases hl : decide (4096 < s.length)
  · rw [hl] at h0
    have hc : (lim T).call 181 [.str s, .int .u8 10] [] 0 [] = some (.sl true 1 ((splitB 10 s).map .str), [], 0, []) := c181 s 10 hs
    obtain ⟨hs1, hs2⟩ := split_sum 10 s
    have hne := split_ne 10 s
    have hlen : 0 < (splitB 10 s).length := List.length_pos_iff.2 hne
    have hw : IntKind.i64.wrap (((splitB 10 s).length : Int) - 1) = (((splitB 10 s).length - 1 : Nat) : Int) := by rw [wrap_s (by omega)]; omega
    have hd : (splitB 10 s).dropLast = ((splitB 10 s).take ((splitB 10 s).length - 1)).drop 0 := by rw [List.drop_zero, List.dropLast_eq_take]
    have hla : (splitB 10 s).getLast?.getD [] = (splitB 10 s)[(splitB 10 s).length - 1]'(by omega) := by
      rw [List.getLast?_eq_getElem?, List.getElem?_eq_getElem (by omega)]; rfl
    have hfit := rowsR_fit (splitB 10 s).dropLast [] (fun c hc => by cases hc) (fun w hw => by have := hs2 w (List.dropLast_subset _ hw); omega)
    have hL := L95_all (splitB 10 s) (fun w hw => by have := hs2 w hw; omega) (by omega) ((splitB 10 s).length - 1) (by omega) 0 (by omega) none (by simp) rfl (by rw [← hd]; exact hfit)
    rw [← hd, ← hla] at hL
    have hlen2 := rows_len (splitB 10 s).dropLast []
    have hta := take_all s
    unfold L95 at hL
    unfold K95 at hL
    rw [show ((0 : Nat) : Int) = 0 from rfl] at hL
    simp only [acV_n, acR_n, Option.getD_none] at hL
    rw [hta]
    clear hla hd hfit
    generalize (splitB 10 s).getLast?.getD [] = la at *
    have hdl : (splitB 10 s).dropLast.length = (splitB 10 s).length - 1 := by simp
    generalize (splitB 10 s).dropLast = dl at *
    generalize splitB 10 s = rows at *
    simp -implicitDefEqProofs only [go_sem, simprocAttr, h0, hc, hw, hL]
    generalize rowsR [] dl = q at *
    obtain ⟨os, ok⟩ := q
    cases ok
    · rfl
    · have hlen3 : os.length = rows.length - 1 := by have := hlen2 rfl; simp at this; omega
      simp only [cond_true, Bool.true_and, outR, endR, cond_false]
      cases hla2 : (la == ([] : List UInt8))
      · simp only [cond_false]
        rw [hlen3]
        rfl
      · simp only [cond_true]
        rw [hlen3]
        cases (ckCs os != 0) <;> rfl
  · rw [hl] at h0
    simp -implicitDefEqProofs only [go_sem, simprocAttr, h0]
    try rfl
def dg (x : Int) : List UInt8 := digits 20 x.toNat
def L86 (n v : Int) (s : List UInt8) : Option Out :=
  (lim T).loop false [.code (.loop b86_0), .inBlock 0, .code (.seq (.seq r86_8 (.cond (.tmp 25) (.seq r86_9 .ret) .skip)) (.seq r86_10 .ret))] ⟨86, 29, 0, [(0, .int .i64 n), (3, .str s), (4, .int .i64 v)], [], 0, []⟩
theorem bi_maxS {t u : Nat} {a b : Int} {k : V → Prog} (h : b ≤ a) : builtinP T .max [t, u] [.int .i64 a, .int .i64 b] k = k (.int .i64 a) := by
  show k (.int .i64 (if a < b then b else a)) = _
  rw [if_neg (by omega)]
theorem wrap_i {n : Int} (h : -4611686018427387904 ≤ n ∧ n < 4611686018427387904) : IntKind.i64.wrap n = n := by
  unfold IntKind.wrap; simp [IntKind.signed, IntKind.bits]; omega
theorem dec_step {v : Nat} (hv : 0 < v) (s : List UInt8) : (if v / 10 = 0 then [] else Lib.decDigits (v / 10)) ++ UInt8.ofNat (48 + v % 10) :: s = Lib.decDigits v ++ s := by
  conv => rhs; rw [Lib.decDigits]
  by_cases h : v < 10
  · rw [dif_pos h, if_pos (by omega), Nat.mod_eq_of_lt h]; rfl
  · rw [dif_neg h, if_neg (by omega)]; simp
theorem loop86 (n : Int) (hn : 0 ≤ n) : ∀ (f v : Nat) (s : List UInt8), v < f → s.length + v < 1000000000001 → L86 n v s = some (.ret (.str ((if v = 0 then [] else Lib.decDigits v) ++ s)), [], 0, []) := by
  intro f
  induction f with
  | zero => intro v s h; omega
  | succ f ih =>
    intro v s hf hv
    by_cases h0 : v = 0
    · subst h0
      have h2 : decide (n < 0) = false := by rw [decide_eq_false_iff_not]; omega
      unfold L86
      rw [loopEq]
      rw [show ((0 : Nat) : Int) = 0 from rfl]
      simp -implicitDefEqProofs only [go_sem, simprocAttr, h2, if_true, List.nil_append]
    · have h1 : ((v : Int) == 0) = false := by rw [beq_eq_false_iff_ne]; omega
      have h1' : ((v : Int) != 0) = true := by rw [bne_iff_ne]; omega
      have m1 : ((v : Int).tmod 10) = ((v % 10 : Nat) : Int) := by rw [Int.tmod_eq_emod_of_nonneg (by omega)]; omega
      have m2 : ((v : Int).tdiv 10) = ((v / 10 : Nat) : Int) := by rw [Int.tdiv_eq_ediv_of_nonneg (by omega)]; omega
      have m3 : IntKind.i64.wrap (0 - ((v % 10 : Nat) : Int)) = 0 - ((v % 10 : Nat) : Int) := wrap_i (by omega)
      have m4 := fun (t u : Nat) (k : V → Prog) => bi_maxS (t := t) (u := u) (a := ((v % 10 : Nat) : Int)) (b := 0 - ((v % 10 : Nat) : Int)) (k := k) (by omega)
      have m5 : IntKind.i64.wrap (48 + ((v % 10 : Nat) : Int)) = ((48 + v % 10 : Nat) : Int) := by rw [wrap_s (by omega)]; omega
      have m6 : IntKind.u8.wrap ((48 + v % 10 : Nat) : Int) = ((48 + v % 10 : Nat) : Int) := wrap_8 (by omega)
      have m7 : ((48 + v % 10 : Nat) : Int).toNat = 48 + v % 10 := by omega
      have m8 : IntKind.i64.wrap ((v / 10 : Nat) : Int) = ((v / 10 : Nat) : Int) := wrap_s (by omega)
      have m9 : decide (1 + s.length < maxStr) = true := by rw [decide_eq_true_iff]; unfold maxStr; omega
      have ih' := ih (v / 10) (UInt8.ofNat (48 + v % 10) :: s) (by omega) (by simp; omega)
      rw [dec_step (by omega)] at ih'
      rw [if_neg h0]
      unfold L86 at ih' ⊢
      rw [loopEq]
      simp -implicitDefEqProofs only [go_sem, simprocAttr, h1, h1', m1, m2, m3, m4, m5, m6, m7, m8, m9, bytesOf, ih', List.singleton_append, List.cons_append, List.nil_append]
theorem dg_eq {x : Int} (h0 : 0 ≤ x) (h1 : x < 1000000000000) : dg x = Lib.decDigits x.toNat := by
  unfold dg
  rw [digits_eq 20 x.toNat (by omega), if_neg (by omega)]
theorem c86 (x : Int) (h0 : 0 ≤ x) (h1 : x < 1000000000000) : (lim T).call 86 [.int .i64 x] [] 0 [] = some (.str (dg x), [], 0, []) := by
  rw [ent86, dg_eq h0 h1]
  obtain ⟨v, rfl⟩ : ∃ v : Nat, x = (v : Int) := ⟨x.toNat, by omega⟩
  by_cases hv : v = 0
  · subst hv
    rw [show Lib.decDigits ((0 : Nat) : Int).toNat = [48] from by rw [Lib.decDigits]; rfl]
    simp -implicitDefEqProofs only [go_sem, simprocAttr, show ((0 : Nat) : Int) = 0 from rfl]
  · have h2 : ((v : Int) == 0) = false := by rw [beq_eq_false_iff_ne]; omega
    have hL := loop86 (v : Int) (by omega) (v + 1) v [] (by omega) (by simp; omega)
    rw [if_neg hv, List.append_nil] at hL
    unfold L86 at hL
    simp -implicitDefEqProofs only [go_sem, simprocAttr, h2, hL]
theorem itoa_ev {x : Int} (h0 : 0 ≤ x) (h1 : x < 1000000000000) : itoaV [.int .i64 x] = some (.str (dg x)) := by
  obtain ⟨v, rfl⟩ : ∃ v : Nat, x = (v : Int) := ⟨x.toNat, by omega⟩
  show (match Nat.ble v 9223372036854775807 with | true => some (V.str (digits 20 v)) | false => none) = _
  rw [Nat.ble_eq_true_of_le (by omega)]
  rfl
def ivW : List (Int × Int) → List (List UInt8)
  | [] => []
  | x :: r => dg x.1 :: dg x.2 :: ivW r
def nnI (x : Int) : Prop := 0 ≤ x ∧ x < 1000000000000
def Cz.nn (c : Cz) : Prop := nnI c.c ∧ c.n.length < 1000000 ∧ c.l.length < 100000 ∧ ∀ x ∈ c.l, nnI x.1 ∧ nnI x.2
def wordsC (c : Cz) : List (List UInt8) := [99, 97, 117, 115, 101] :: c.n :: dg c.c :: ivW c.l
def lineS (c : Cz) : List UInt8 := joinL [32] (wordsC c) ++ [10]
theorem dg_len (x : Int) : (dg x).length ≤ 20 := by
  unfold dg
  have : ∀ f n, (digits f n).length ≤ f := by
    intro f
    induction f with
    | zero => intro n; simp [digits]
    | succ f ih =>
      intro n
      unfold digits
      split
      · have := ih (n / 10); simp; omega
      · simp
  exact this 20 _
theorem iv_len : ∀ l : List (Int × Int), (ivW l).length = 2 * l.length
  | [] => rfl
  | x :: r => by have := iv_len r; simp [ivW]; omega
theorem iv_mem : ∀ l : List (Int × Int), ∀ w ∈ ivW l, w.length ≤ 20
  | [], w, h => by cases h
  | x :: r, w, h => by
    rcases List.mem_cons.1 h with rfl | h
    · exact dg_len _
    · rcases List.mem_cons.1 h with rfl | h
      · exact dg_len _
      · exact iv_mem r w h
theorem join_len (sep : List UInt8) (M : Nat) : ∀ ws : List (List UInt8), (∀ w ∈ ws, w.length ≤ M) → (joinL sep ws).length ≤ ws.length * (M + sep.length)
  | [], _ => by simp [joinL]
  | [w], h => by have := h w (List.mem_cons_self ..); simp [joinL]; omega
  | w :: w2 :: r, h => by
    have h1 := h w (List.mem_cons_self ..)
    have h2 := join_len sep M (w2 :: r) fun x hx => h x (List.mem_cons_of_mem _ hx)
    simp only [joinL, List.length_append, List.length_cons] at h2 ⊢
    rw [Nat.succ_mul (r.length + 1)]
    omega
theorem strs_of : ∀ ws : List (List UInt8), strsOf (ws.map V.str) = some ws
  | [] => rfl
  | w :: r => by simp [strsOf, strs_of r]
theorem join_ev {b : Bool} {z : Nat} {ws : List (List UInt8)} {sep : List UInt8} (h1 : ws.length ≤ 140737488355328) (h2 : (joinL sep ws).length ≤ 140737488355328) : joinV [.sl b z (ws.map .str), .str sep] = some (.str (joinL sep ws)) := by
  show (match strsOf (ws.map V.str) with | some ss => (match Nat.ble (ws.map V.str).length 140737488355328 && Nat.ble (joinL sep ss).length 140737488355328 with | true => some (V.str (joinL sep ss)) | false => none) | none => none) = _
  rw [strs_of]
  simp only
  rw [Nat.ble_eq_true_of_le (by simpa using h1), Nat.ble_eq_true_of_le h2]
  rfl
def L175 (c : Cz) (i : Nat) (ws : List (List UInt8)) : Option Out :=
  (lim T).loop false [.code (.loop b175_0), .inBlock 0, .code (.seq r175_7 .ret)] ⟨175, 32, 0, [(3, .ref 0), (13, .sl c.b 2 (c.l.map ivV)), (14, .int .i64 c.l.length), (15, .int .i64 i)], [.cells false true 9 (ws.map .str)], 0, []⟩
theorem loop175 (c : Cz) (hc : c.nn) : ∀ i, i ≤ c.l.length → ∀ ws : List (List UInt8), ws.length ≤ 2 * i + 3 → (joinL [32] (ws ++ ivW (c.l.drop i))).length < 1000000000000 →
    L175 c i ws = some (.ret (.str (joinL [32] (ws ++ ivW (c.l.drop i)) ++ [10])), [], 0, []) := by
  obtain ⟨h1, h2, h3, h4⟩ := hc
  refine down_ind c.l.length ?_ fun i hi ih => ?_
  · intro ws hw hj
    rw [List.drop_length] at hj ⊢
    simp only [ivW, List.append_nil] at hj ⊢
    have q1 := idx_out c.l.length
    have q2 := join_ev (b := true) (z := 1) (ws := ws) (sep := [32]) (by omega) (by omega)
    have q3 : decide ((joinL [32] ws).length + 1 < maxStr) = true := by rw [decide_eq_true_iff]; unfold maxStr; omega
    unfold L175
    rw [loopEq]
    simp -implicitDefEqProofs only [go_sem, simprocAttr, q1, q2, q3]
  · intro ws hw hj
    obtain ⟨q1, q2, q3, q4, q5⟩ := idx_in hi (by omega)
    obtain ⟨n1, n2⟩ := h4 _ (List.getElem_mem hi)
    have e1 := itoa_ev n1.1 n1.2
    have e2 := itoa_ev n2.1 n2.2
    rw [q5] at hj ⊢
    simp only [ivW] at hj ⊢
    have ea : ∀ r : List (List UInt8), ws ++ dg c.l[i].1 :: dg c.l[i].2 :: r = (ws ++ [dg c.l[i].1, dg c.l[i].2]) ++ r := by intro r; simp
    rw [ea] at hj ⊢
    rw [← ih _ (by simp; omega) hj]
    have h8 : decide (ws.length + 2 < maxRow) = true := by rw [decide_eq_true_iff]; unfold maxRow; omega
    conv => lhs; unfold L175; rw [loopEq]
    unfold L175
    simp -implicitDefEqProofs only [go_sem, simprocAttr, q1, q2, q3, q4, e1, e2, h8, List.map_append, List.map_cons, List.map_nil]
theorem words_len (c : Cz) (hc : c.nn) : (joinL [32] (wordsC c)).length < 1000000000000 ∧ (wordsC c).length < 300000 := by
  obtain ⟨h1, h2, h3, h4⟩ := hc
  have hl : (wordsC c).length = 2 * c.l.length + 3 := by simp [wordsC, iv_len]
  have hj := join_len [32] 1000000 (wordsC c) (fun w hw => by
    unfold wordsC at hw
    rcases List.mem_cons.1 hw with rfl | hw
    · simp
    rcases List.mem_cons.1 hw with rfl | hw
    · omega
    rcases List.mem_cons.1 hw with rfl | hw
    · have := dg_len c.c; omega
    · have := iv_mem c.l w hw; omega)
  have : (wordsC c).length * (1000000 + 1) ≤ 300000 * 1000001 := Nat.mul_le_mul_right _ (by omega)
  simp only [List.length_singleton] at hj
  exact ⟨by omega, by omega⟩
theorem c175 (c : Cz) (hc : c.nn) : (lim T).call 175 [czV c] [] 0 [] = some (.str (lineS c), [], 0, []) := by
  have hj := (words_len c hc).1
  have h := loop175 c hc 0 (by omega) [[99, 97, 117, 115, 101], c.n, dg c.c] (by simp) (by rw [List.drop_zero]; exact hj)
  rw [List.drop_zero] at h
  have e1 := itoa_ev hc.1.1 hc.1.2
  unfold L175 at h
  simp only [List.map_cons, List.map_nil, show ((0 : Nat) : Int) = 0 from rfl] at h
  rw [ent175]
  simp -implicitDefEqProofs only [go_sem, simprocAttr, h, e1]
  rfl
theorem loop174 (b : Bool) (l : List Cz) (hb : l.length < 1000000) (hn : ∀ c ∈ l, c.nn) : ∀ i, i ≤ l.length → ∀ o : Option (List (List UInt8)), acL o = i →
    (lim T).loop false [.code (.loop b174_0), .inBlock 0, .code (.seq r174_7 .ret)] ⟨174, 22, 0, [(1, .fn 175 []), (5, acV o 0), (8, .sl b 3 (l.map czV)), (9, .int .i64 l.length), (10, .int .i64 i)], acR .str o 9, 0, []⟩ =
      some (.ret (acO .str 0 1 (acA o ((l.drop i).map lineS))), [], 0, []) := by
  refine down_ind l.length ?_ fun i hi ih => ?_
  · intro o ho
    rw [loopEq]
    have h1 := idx_out l.length
    cases o with
    | none =>
      simp -implicitDefEqProofs only [go_sem, simprocAttr, h1]
      simp [acA, acO]
    | some a =>
      simp -implicitDefEqProofs only [go_sem, simprocAttr, h1]
      simp [acA, acO]
  · intro o ho
    obtain ⟨h1, h2, h3, h4, h5⟩ := idx_in hi (by omega)
    rw [loopEq, h5]
    have ih' := ih (acA o [lineS l[i]]) (by rw [acL_A, ho]; rfl)
    rw [acA_acA] at ih'
    have hc := c175 l[i] (hn _ (List.getElem_mem hi))
    simp only [czV] at hc
    cases o with
    | none =>
      have h8 := row_ok (n := 0) (by omega)
      simp only [acA_n, acV_s, acR_s, List.map_cons, List.map_nil] at ih'
      simp -implicitDefEqProofs only [go_sem, simprocAttr, h1, h2, h3, h4, ih', h8.2, hc]
      try simp
    | some a =>
      have h9 : a.length = i := ho
      have h8 := (row_ok (n := a.length) (by omega)).1
      simp only [acA_s, acV_s, acR_s, List.map_append, List.map_cons, List.map_nil] at ih'
      simp -implicitDefEqProofs only [go_sem, simprocAttr, h1, h2, h3, h4, ih', h8, hc]
      try simp
theorem c174 (b : Bool) (l : List Cz) (hb : l.length < 1000000) (hn : ∀ c ∈ l, c.nn) : (lim T).call 174 [.sl b 3 (l.map czV), .fn 175 []] [] 0 [] = some (slV 1 ((l.map lineS).map .str), [], 0, []) := by
  rw [ent174]
  have h := loop174 b l hb hn 0 (by omega) none rfl
  rw [show ((0 : Nat) : Int) = 0 from rfl, List.drop_zero, acO_slV] at h
  simp only [acV_n, acR_n] at h
  simp -implicitDefEqProofs only [go_sem, simprocAttr, h]
theorem loop127 (b1 b2 : Bool) (l : List (Int × Int)) (hb : l.length < 1000000) : ∀ i, i ≤ l.length → (lim T).loop false [.code (.loop b127_0), .inBlock 0, .code (.seq r127_8 .ret)] ⟨127, 26, 0, [(0, .sl b1 2 (l.map ivV)), (1, .sl b2 2 (l.map ivV)), (5, .int .i64 i)], [], 0, []⟩ = some (.ret (.bool true), [], 0, []) := by
  refine down_ind l.length ?_ fun i hi ih => ?_
  · rw [loopEq]
    have h1 := idx_out l.length
    simp -implicitDefEqProofs only [go_sem, simprocAttr, h1]
  · obtain ⟨h1, h2, h3, h4, h5⟩ := idx_in hi (by omega)
    rw [loopEq]
    simp -implicitDefEqProofs only [go_sem, simprocAttr, h1, h2, h3, h4, ih, beq_self_eq_true, bne_self_eq_false]
theorem c127 (b1 b2 : Bool) (l : List (Int × Int)) (hb : l.length < 1000000) : (lim T).call 127 [.sl b1 2 (l.map ivV), .sl b2 2 (l.map ivV)] [] 0 [] = some (.bool true, [], 0, []) := by
  rw [ent127]
  have h := loop127 b1 b2 l hb 0 (by omega)
  rw [show ((0 : Nat) : Int) = 0 from rfl] at h
  simp -implicitDefEqProofs only [go_sem, simprocAttr, h, beq_self_eq_true, bne_self_eq_false]
def czN (c : Cz) : V := .agg [.str c.n, .int .i64 c.c, .sl (!(c.l.map ivV).isEmpty) 2 (c.l.map ivV)]
attribute [go_sem] czN
theorem loop96 (b1 b2 : Bool) (l : List Cz) (hb : l.length < 1000000) (hl : ∀ c ∈ l, c.l.length < 1000000) : ∀ i, i ≤ l.length → (lim T).loop false [.code (.loop b96_0), .inBlock 0, .code (.seq r96_8 .ret)] ⟨96, 55, 0, [(0, .sl b1 3 (l.map czN)), (1, .sl b2 3 (l.map czW)), (5, .int .i64 i)], [], 0, []⟩ = some (.ret (.bool true), [], 0, []) := by
  refine down_ind l.length ?_ fun i hi ih => ?_
  · rw [loopEq]
    have h1 := idx_out l.length
    simp -implicitDefEqProofs only [go_sem, simprocAttr, h1]
  · obtain ⟨h1, h2, h3, h4, h5⟩ := idx_in hi (by omega)
    have hc := c127 (!(l[i].l.map ivV).isEmpty) (!(l[i].l.map ivV).isEmpty) l[i].l (hl _ (List.getElem_mem hi))
    rw [loopEq]
    simp -implicitDefEqProofs only [go_sem, simprocAttr, h1, h2, h3, h4, ih, hc, beq_self_eq_true, bne_self_eq_false]
theorem c96 (b1 b2 : Bool) (l : List Cz) (hb : l.length < 1000000) (hl : ∀ c ∈ l, c.l.length < 1000000) : (lim T).call 96 [.sl b1 3 (l.map czN), .sl b2 3 (l.map czW)] [] 0 [] = some (.bool true, [], 0, []) := by
  rw [ent96]
  have h := loop96 b1 b2 l hb hl 0 (by omega)
  rw [show ((0 : Nat) : Int) = 0 from rfl] at h
  simp -implicitDefEqProofs only [go_sem, simprocAttr, h, beq_self_eq_true, bne_self_eq_false]
theorem loop97 (b : Bool) (l : List Cz) (hb : l.length < 1000000) : ∀ i, i ≤ l.length → ∀ o : Option (List Cz), acL o = i →
    (lim T).loop false [.code (.loop b97_0), .inBlock 0, .code (.seq r97_7 .ret)] ⟨97, 18, 0, [(3, acV o 0), (6, .sl b 3 (l.map czW)), (7, .int .i64 l.length), (8, .int .i64 i)], acR czN o 140, 0, []⟩ =
      some (.ret (acO czN 0 3 (acA o (l.drop i))), [], 0, []) := by
  refine down_ind l.length ?_ fun i hi ih => ?_
  · intro o ho
    rw [loopEq]
    have h1 := idx_out l.length
    cases o with
    | none =>
      simp -implicitDefEqProofs only [go_sem, simprocAttr, h1]
      simp [acA, acO]
    | some a =>
      simp -implicitDefEqProofs only [go_sem, simprocAttr, h1]
      simp [acA, acO]
  · intro o ho
    obtain ⟨h1, h2, h3, h4, h5⟩ := idx_in hi (by omega)
    rw [loopEq, h5]
    have ih' := ih (acA o [l[i]]) (by rw [acL_A, ho]; rfl)
    rw [acA_acA] at ih'
    cases o with
    | none =>
      have h8 := row_ok (n := 0) (by omega)
      simp only [acA_n, acV_s, acR_s, List.map_cons, List.map_nil, czN] at ih'
      simp -implicitDefEqProofs only [go_sem, simprocAttr, h1, h2, h3, h4, ih', h8.2]
      try simp
    | some a =>
      have h9 : a.length = i := ho
      have h8 := (row_ok (n := a.length) (by omega)).1
      simp only [acA_s, acV_s, acR_s, List.map_append, List.map_cons, List.map_nil, czN] at ih'
      simp -implicitDefEqProofs only [go_sem, simprocAttr, h1, h2, h3, h4, ih', h8]
      try simp
theorem c97 (b : Bool) (l : List Cz) (hb : l.length < 1000000) : (lim T).call 97 [.sl b 3 (l.map czW)] [] 0 [] = some (slV 3 (l.map czN), [], 0, []) := by
  rw [ent97]
  have h := loop97 b l hb 0 (by omega) none rfl
  rw [show ((0 : Nat) : Int) = 0 from rfl, List.drop_zero, acO_slV] at h
  simp only [acV_n, acR_n] at h
  simp -implicitDefEqProofs only [go_sem, simprocAttr, h]
def L94 (b : Bool) (l : List Cz) (i : Nat) (o : List UInt8) : Option Out :=
  (lim T).loop false [.code (.loop b94_0), .inBlock 0, .code (.seq r94_11 .ret)] ⟨94, 66, 0, [(0, .sl b 3 (l.map czV)), (3, .str o), (4, .int .i64 i)], [], 0, []⟩
def L94i (b : Bool) (l : List Cz) (i k : Nat) (o : List UInt8) : Option Out :=
  (lim T).loop false [.code (.loop b94_1), .inBlock 2, .code r94_10, .inBlock 1, .code r94_4, .inLoop b94_0, .inBlock 0, .code (.seq r94_11 .ret)] ⟨94, 66, 0, [(0, .sl b 3 (l.map czV)), (3, .str o), (4, .int .i64 i), (5, .int .i64 k)], [], 0, []⟩
theorem step94 (b : Bool) (l : List Cz) (hb : l.length < 1000000) (hn : ∀ c ∈ l, c.nn) (i : Nat) (hi : i < l.length) (o : List UInt8) (ho : o.length + 6 + l[i].n.length + 1 + (dg l[i].c).length < 1000000000000) :
    L94 b l i o = L94i b l i 0 (o ++ [99, 97, 117, 115, 101, 32] ++ l[i].n ++ [32] ++ dg l[i].c) := by
  obtain ⟨h1, h2, h3, h4, h5⟩ := idx_in hi (by omega)
  have hc := c86 l[i].c (hn _ (List.getElem_mem hi)).1.1 (hn _ (List.getElem_mem hi)).1.2
  have m1 : decide (o.length + 6 < maxStr) = true := by rw [decide_eq_true_iff]; unfold maxStr; omega
  have m2 : decide (o.length + 6 + l[i].n.length < maxStr) = true := by rw [decide_eq_true_iff]; unfold maxStr; omega
  have m3 : decide (o.length + 6 + l[i].n.length + 1 < maxStr) = true := by rw [decide_eq_true_iff]; unfold maxStr; omega
  have m4 : decide (o.length + 6 + l[i].n.length + 1 + (dg l[i].c).length < maxStr) = true := by rw [decide_eq_true_iff]; unfold maxStr; omega
  conv => lhs; unfold L94; rw [loopEq]
  unfold L94i
  simp -implicitDefEqProofs only [go_sem, simprocAttr, h1, h2, h3, h4, hc, m1, m2, m3, m4]
theorem step94i (b : Bool) (l : List Cz) (hb : l.length < 1000000) (hn : ∀ c ∈ l, c.nn) (i : Nat) (hi : i < l.length) (k : Nat) (hk : k < l[i].l.length) (o : List UInt8) (ho : o.length + 1 + (dg l[i].l[k].1).length + 1 + (dg l[i].l[k].2).length < 1000000000000) :
    L94i b l i k o = L94i b l i (k + 1) (o ++ [32] ++ dg l[i].l[k].1 ++ [32] ++ dg l[i].l[k].2) := by
  obtain ⟨h1, h2, h3, h4, h5⟩ := idx_in hi (by omega)
  have hnn := hn _ (List.getElem_mem hi)
  obtain ⟨q1, q2, q3, q4, q5⟩ := idx_in hk (by have := hnn.2.2.1; omega)
  have hx := hnn.2.2.2 _ (List.getElem_mem hk)
  have e1 := c86 l[i].l[k].1 hx.1.1 hx.1.2
  have e2 := c86 l[i].l[k].2 hx.2.1 hx.2.2
  have m1 : decide (o.length + 1 < maxStr) = true := by rw [decide_eq_true_iff]; unfold maxStr; omega
  have m2 : decide (o.length + 1 + (dg l[i].l[k].1).length < maxStr) = true := by rw [decide_eq_true_iff]; unfold maxStr; omega
  have m3 : decide (o.length + 1 + (dg l[i].l[k].1).length + 1 < maxStr) = true := by rw [decide_eq_true_iff]; unfold maxStr; omega
  have m4 : decide (o.length + 1 + (dg l[i].l[k].1).length + 1 + (dg l[i].l[k].2).length < maxStr) = true := by rw [decide_eq_true_iff]; unfold maxStr; omega
  conv => lhs; unfold L94i; rw [loopEq]
  unfold L94i
  simp -implicitDefEqProofs only [go_sem, simprocAttr, h1, h2, h3, h4, q1, q2, q3, q4, e1, e2, m1, m2, m3, m4]
theorem end94i (b : Bool) (l : List Cz) (hb : l.length < 1000000) (hn : ∀ c ∈ l, c.nn) (i : Nat) (hi : i < l.length) (o : List UInt8) (ho : o.length + 1 < 1000000000000) :
    L94i b l i l[i].l.length o = L94 b l (i + 1) (o ++ [10]) := by
  obtain ⟨h1, h2, h3, h4, h5⟩ := idx_in hi (by omega)
  have q1 := idx_out l[i].l.length
  have m1 : decide (o.length + 1 < maxStr) = true := by rw [decide_eq_true_iff]; unfold maxStr; omega
  conv => lhs; unfold L94i; rw [loopEq]
  unfold L94
  simp -implicitDefEqProofs only [go_sem, simprocAttr, h1, h2, h3, h4, q1, m1]
def flat32 : List (List UInt8) → List UInt8
  | [] => []
  | w :: r => [32] ++ w ++ flat32 r
theorem join32 (w : List UInt8) : ∀ ws : List (List UInt8), joinL [32] (w :: ws) = w ++ flat32 ws
  | [] => by simp [joinL, flat32]
  | v :: r => by rw [joinL, join32 v r]; simp [flat32]; exact fun h => by cases h
theorem all94i (b : Bool) (l : List Cz) (hb : l.length < 1000000) (hn : ∀ c ∈ l, c.nn) (i : Nat) (hi : i < l.length) : ∀ k, k ≤ l[i].l.length → ∀ o : List UInt8, (o ++ flat32 (ivW (l[i].l.drop k)) ++ [10]).length < 1000000000000 →
    L94i b l i k o = L94 b l (i + 1) (o ++ flat32 (ivW (l[i].l.drop k)) ++ [10]) := by
  refine down_ind l[i].l.length ?_ fun k hk ih => ?_
  · intro o ho
    rw [List.drop_length] at ho ⊢
    simp only [ivW, flat32, List.append_nil] at ho ⊢
    exact end94i b l hb hn i hi o (by simpa using ho)
  · intro o ho
    have e := List.drop_eq_getElem_cons hk
    rw [e] at ho ⊢
    simp only [ivW, flat32] at ho ⊢
    have hl : (o ++ [32] ++ dg l[i].l[k].1 ++ [32] ++ dg l[i].l[k].2 ++ flat32 (ivW (l[i].l.drop (k + 1))) ++ [10]).length < 1000000000000 := by
      simp only [List.length_append, List.length_cons, List.length_nil] at ho ⊢; omega
    rw [step94i b l hb hn i hi k hk o (by simp only [List.length_append, List.length_cons, List.length_nil] at hl; omega), ih _ hl]
    congr 1
    simp only [List.append_assoc]
def printS (l : List Cz) : List UInt8 := (l.map lineS).flatten
theorem lineS_eq (c : Cz) : lineS c = [99, 97, 117, 115, 101, 32] ++ c.n ++ [32] ++ dg c.c ++ flat32 (ivW c.l) ++ [10] := by
  unfold lineS wordsC
  rw [join32]
  simp [flat32]
theorem all94 (b : Bool) (l : List Cz) (hb : l.length < 1000000) (hn : ∀ c ∈ l, c.nn) : ∀ i, i ≤ l.length → ∀ o : List UInt8, (o ++ printS (l.drop i)).length < 1000000000000 →
    L94 b l i o = some (.ret (.str (o ++ printS (l.drop i))), [], 0, []) := by
  refine down_ind l.length ?_ fun i hi ih => ?_
  · intro o ho
    have h1 := idx_out l.length
    rw [List.drop_length]
    unfold L94
    rw [loopEq]
    simp -implicitDefEqProofs only [go_sem, simprocAttr, h1, printS, List.map_nil, List.flatten_nil, List.append_nil]
  · intro o ho
    have e := List.drop_eq_getElem_cons hi
    rw [e] at ho ⊢
    have ep : printS (l[i] :: l.drop (i + 1)) = lineS l[i] ++ printS (l.drop (i + 1)) := rfl
    rw [ep, lineS_eq] at ho ⊢
    simp only [List.length_append, List.length_cons, List.length_nil] at ho
    rw [step94 b l hb hn i hi o (by omega), all94i b l hb hn i hi 0 (by omega) _ (by rw [List.drop_zero]; simp only [List.length_append, List.length_cons, List.length_nil]; omega), List.drop_zero,
      ih _ (by simp only [List.length_append, List.length_cons, List.length_nil]; omega)]
    simp only [List.append_assoc]
theorem c94 (b : Bool) (l : List Cz) (hb : l.length < 1000000) (hn : ∀ c ∈ l, c.nn) (hp : (printS l).length < 1000000000000) : (lim T).call 94 [.sl b 3 (l.map czV)] [] 0 [] = some (.str (printS l), [], 0, []) := by
  rw [ent94]
  have h := all94 b l hb hn 0 (by omega) [] (by simpa using hp)
  rw [List.drop_zero, List.nil_append] at h
  unfold L94 at h
  rw [show ((0 : Nat) : Int) = 0 from rfl] at h
  simp -implicitDefEqProofs only [go_sem, simprocAttr, h]
theorem join0 : ∀ ws : List (List UInt8), joinL [] ws = ws.flatten
  | [] => rfl
  | [w] => by simp [joinL]
  | w :: v :: r => by rw [joinL, join0 (v :: r)]; simp; exact fun h => by cases h
theorem ckE_ok {n : Int} (h : ckE n = 0) : 0 ≤ n ∧ n ≤ 1000000 := by
  unfold ckE at h
  rw [rng_eq] at h
  by_cases h3 : n < 0 ∨ 1000000 < n
  · simp [h3] at h
  · omega
theorem csEs_get (l : List Cz) : ∀ (r : List Cz) (i k : Nat) (h : k < r.length), csE l (i + k) r[k] ∈ csEs l i r
  | [], _, _, h => by cases h
  | m :: r, i, 0, _ => List.mem_cons_self ..
  | m :: r, i, k + 1, h => by
    have := csEs_get l r (i + 1) k (by simpa using h)
    rw [show i + 1 + k = i + (k + 1) by omega] at this
    exact List.mem_cons_of_mem _ this
theorem fit_of {p : Pk} (h : shP p = true) (hv : p.v.length < 1000) : p.fit := by
  unfold shP at h
  simp only [Bool.and_eq_true, Bool.not_eq_true', Bool.or_eq_false_iff, Bool.not_eq_false', List.all_eq_true] at h
  obtain ⟨⟨h1, h2⟩, h3⟩ := h
  unfold shC at h2
  simp only [Bool.and_eq_true, Bool.not_eq_true', Bool.and_eq_false_iff, List.all_eq_true] at h2
  obtain ⟨h4, h5⟩ := h2
  refine ⟨hv, fun r hr => ?_, ?_, fun c hc => ?_⟩
  · have := h3 r hr
    unfold shR at this
    simp at this
    omega
  · rcases h4 with h4 | h4
    · simp at h4; omega
    · simp at h4; omega
  · have := h5 c hc
    unfold shC1 at this
    simp at this
    omega

theorem shP_len {p : Pk} (h : shP p = true) : p.v.length ≤ 9 := by
  unfold shP at h
  simp only [Bool.and_eq_true, Bool.not_eq_true', Bool.or_eq_false_iff] at h
  have := h.1.1
  simp at this
  omega
theorem cz_nn {p : Pk} (hf : p.fit) (h : ckPk p = 0) : ∀ c ∈ p.c, c.nn ∧ c.l.length < 1000000 := by
  unfold ckPk at h
  split at h
  · have q3 := fnz_zero.1 h (ckCs p.c) (by simp)
    have hc8 : p.c.length ≤ 8 ∧ fnz (csEs p.c 0 p.c) = 0 := by
      unfold ckCs at q3
      by_cases hl : 8 < p.c.length
      · rw [if_pos hl] at q3; cases q3
      · rw [if_neg hl] at q3; exact ⟨by omega, q3⟩
    have cc : ∀ c ∈ p.c, ckC c = 0 := fun c hc => by
      obtain ⟨k, hk, rfl⟩ := List.mem_iff_getElem.1 hc
      have a := csEs_get p.c p.c 0 k hk
      have a := fnz_zero.1 hc8.2 _ a
      exact fnz_zero.1 a (ckC p.c[k]) (by simp)
    intro c hc
    obtain ⟨f1, f2⟩ := hf.2.2.2 c hc
    have b := fnz_zero.1 (cc c hc) (rng c.c 0 7) (by simp)
    have bs := szd_ne (fnz_zero.1 (cc c hc) (szd c.l.length 8) (by simp))
    rw [rng_eq] at b
    refine ⟨⟨?_, f1, by omega, fun x hx => ?_⟩, f2⟩
    · by_cases h3 : c.c < 0 ∨ 7 < c.c
      · simp [h3] at b
      · unfold nnI; omega
    · have b := fnz_zero.1 (fnz_zero.1 (cc c hc) (fnz (c.l.map fun x => ckL x)) (by simp)) _ (List.mem_map.2 ⟨x, hx, rfl⟩)
      have b1 := ckE_ok (fnz_zero.1 b (ckE x.1) (by simp))
      have b2 := ckE_ok (fnz_zero.1 b (ckE x.2) (by simp))
      unfold nnI
      omega
  · rename_i h0; exact absurd h h0
theorem print_len (l : List Cz) (hl : l.length ≤ 8) (hn : ∀ c ∈ l, c.nn) (hs : ∀ c ∈ l, c.n.length ≤ 1000000 ∧ c.l.length ≤ 8) : (printS l).length < 1000000000000 := by
  have key : ∀ l : List Cz, (∀ c ∈ l, c.n.length ≤ 1000000 ∧ c.l.length ≤ 8) → (printS l).length ≤ l.length * 20000000000 := by
    intro l
    induction l with
    | nil => intro _; simp [printS]
    | cons c l ih =>
      intro h
      have h1 := h c (List.mem_cons_self ..)
      have h2 := ih fun x hx => h x (List.mem_cons_of_mem _ hx)
      have e : printS (c :: l) = lineS c ++ printS l := rfl
      have hj := join_len [32] 1000000 (wordsC c) (fun w hw => by
        unfold wordsC at hw
        rcases List.mem_cons.1 hw with rfl | hw
        · simp
        rcases List.mem_cons.1 hw with rfl | hw
        · exact h1.1
        rcases List.mem_cons.1 hw with rfl | hw
        · have := dg_len c.c; omega
        · have := iv_mem c.l w hw; omega)
      have hw : (wordsC c).length = 2 * c.l.length + 3 := by simp [wordsC, iv_len]
      have : (wordsC c).length * (1000000 + 1) ≤ 19 * 1000001 := Nat.mul_le_mul_right _ (by omega)
      simp only [List.length_singleton] at hj
      rw [e, List.length_append, List.length_cons, Nat.succ_mul]
      unfold lineS
      simp only [List.length_append, List.length_singleton]
      omega
  have := key l hs
  have : l.length * 20000000000 ≤ 8 * 20000000000 := Nat.mul_le_mul_right _ hl
  omega
theorem c92 (p : Pk) (hf : p.fit) (hn : ckPk p = 0 → ∀ c ∈ p.c, c.nn) (hp : ckPk p = 0 → (printS p.c).length < 1000000000000) : (lim T).call 92 [pkV p] [] 0 [] = some (.tup [.str (if ckPk p = 0 then printS p.c else []), .int .i64 (ckPk p)], [], 0, []) := by
  have e23 := c23 p hf
  rw [ent92]
  simp only [pkV] at e23
  cases hk : (ckPk p == 0)
  · have h0 : ¬ ckPk p = 0 := by simpa using hk
    rw [if_neg h0]
    have hk' : (ckPk p != 0) = true := by simpa using h0
    simp -implicitDefEqProofs only [go_sem, simprocAttr, pkV, e23, hk, hk']
  · have h0 : ckPk p = 0 := by simpa using hk
    rw [if_pos h0]
    have e174 := c174 p.cb p.c (by have := hf.2.2.1; omega) (hn h0)
    have ej : joinV [.sl (!((p.c.map lineS).map V.str).isEmpty) 1 ((p.c.map lineS).map .str), .str []] = some (.str (printS p.c)) := by
      have hh : joinL [] (p.c.map lineS) = printS p.c := by rw [join0]; rfl
      rw [join_ev (by simp; have := hf.2.2.1; omega) (by rw [hh]; have := hp h0; omega), hh]
    rw [h0] at e23 ⊢
    simp -implicitDefEqProofs only [go_sem, simprocAttr, pkV, e23, e174, ej]
theorem parse_form (s : List UInt8) (hs : s.length < 5000) : ∃ l : List Cz, (parseV s).1 = slV 3 (l.map czW) ∧ l.length < 1000000 ∧ ∀ c ∈ l, c.l.length < 1000000 := by
  have hf := take_fit s hs
  unfold parseV
  generalize takeC [] (linesB s) = q at *
  obtain ⟨os, ok⟩ := q
  have nil : ∃ l : List Cz, V.sl false 0 [] = slV 3 (l.map czW) ∧ l.length < 1000000 ∧ ∀ c ∈ l, c.l.length < 1000000 := ⟨[], rfl, by simp, fun c hc => by cases hc⟩
  cases decide (4096 < s.length)
  · cases ok
    · exact nil
    · cases h : (ckCs os != 0)
      · simp only [cond_true, cond_false, h]
        exact ⟨os, rfl, hf.1, fun c hc => (hf.2 c hc).2⟩
      · simp only [cond_true, cond_false, h]
        exact nil
  · exact nil
theorem c13a (haw : (lim T).call 16 [] [] 0 [] = some (.bool true, [], 0, [])) (p : Pk) (s : List UInt8) (hsh : shP p = true) (hs : s.length < 5000) (hc : (decide (400 < (s.length : Int)) && ((s.length : Int) != 4097)) = false) :
    (lim T).call 13 [pkV p, .str s] [] 0 [] = some (.bool true, [], 0, []) := by
  have hf := fit_of hsh (by have := shP_len hsh; omega)
  have e15 := c15 p
  rw [hsh] at e15
  have e18 := c18 p hf
  have e20 := c20 p hf
  have hS : ckPk p = 0 → p.c.length ≤ 8 ∧ (∀ c ∈ p.c, c.nn) ∧ ∀ c ∈ p.c, c.n.length ≤ 1000000 ∧ c.l.length ≤ 8 := fun h0 => by
    have hnn := cz_nn hf h0
    unfold ckPk at h0
    split at h0
    · have q3 := fnz_zero.1 h0 (ckCs p.c) (by simp)
      have hc8 : p.c.length ≤ 8 ∧ fnz (csEs p.c 0 p.c) = 0 := by
        unfold ckCs at q3
        by_cases hl : 8 < p.c.length
        · rw [if_pos hl] at q3; cases q3
        · rw [if_neg hl] at q3; exact ⟨by omega, q3⟩
      refine ⟨hc8.1, fun c hc => (hnn c hc).1, fun c hc => ⟨by have := (hf.2.2.2 c hc).1; omega, ?_⟩⟩
      obtain ⟨k, hk, rfl⟩ := List.mem_iff_getElem.1 hc
      have a := csEs_get p.c p.c 0 k hk
      have a := fnz_zero.1 hc8.2 _ a
      have b := fnz_zero.1 a (ckC p.c[k]) (by simp)
      exact (szd_ne (fnz_zero.1 b (szd p.c[k].l.length 8) (by simp))).2
    · rename_i h1; exact absurd h0 h1
  have hown : printS (ownP p).c = printS p.c := by
    show ((p.c.map ownC).map lineS).flatten = (p.c.map lineS).flatten
    rw [List.map_map]; rfl
  have hnn2 : (∀ c ∈ p.c, c.nn) → ∀ c ∈ (ownP p).c, c.nn := fun h c hc => by
    obtain ⟨q, hq, rfl⟩ := List.mem_map.1 hc
    exact h q hq
  have e92 := c92 (ownP p) (fit_own hf) (fun h => hnn2 (hS (by rw [ck_own] at h; exact h)).2.1) (fun h => by
    rw [hown]; rw [ck_own] at h
    exact print_len p.c (hS h).1 (hS h).2.1 (hS h).2.2)
  rw [ck_own, hown] at e92
  obtain ⟨l, hl, hl1, hl2⟩ := parse_form s hs
  have e93 := c93 s hs
  have e95 := c95 s hs
  rw [hl] at e93 e95
  generalize (parseV s).2.1 = n at *
  generalize (parseV s).2.2 = e at *
  have e97 := c97 (!(l.map czW).isEmpty) l hl1
  have e96 := c96 (!(l.map czN).isEmpty) (!(l.map czW).isEmpty) l hl1 hl2
  rw [ent13]
  simp only [pkV] at e15 e18 e20
  simp only [pkV, ownP] at e92
  cases h400 : decide (400 < (s.length : Int))
  · cases hk : (ckPk p == 0)
    · have h0 : ¬ ckPk p = 0 := by simpa using hk
      rw [if_neg h0] at e92
      simp -implicitDefEqProofs only [go_sem, simprocAttr, pkV, e15, e18, e20, e92, e93, e95, e96, e97, haw, h400, hk, beq_self_eq_true]
    · have h0 : ckPk p = 0 := by simpa using hk
      have e94 := c94 p.cb p.c (by have := (hS h0).1; omega) (hS h0).2.1 (print_len p.c (hS h0).1 (hS h0).2.1 (hS h0).2.2)
      rw [h0] at e92 e20
      rw [if_pos rfl] at e92
      simp -implicitDefEqProofs only [go_sem, simprocAttr, pkV, e15, e18, e20, e92, e93, e94, e95, e96, e97, haw, h400, hk, beq_self_eq_true]
  · rw [h400] at hc
    have h97 : ((s.length : Int) != 4097) = false := by simpa using hc
    have h97' : ((s.length : Int) == 4097) = true := by simpa using h97
    cases hk : (ckPk p == 0)
    · have h0 : ¬ ckPk p = 0 := by simpa using hk
      rw [if_neg h0] at e92
      simp -implicitDefEqProofs only [go_sem, simprocAttr, pkV, e15, e18, e20, e92, e93, e95, e96, e97, haw, h400, h97, h97', hk, beq_self_eq_true]
    · have h0 : ckPk p = 0 := by simpa using hk
      have e94 := c94 p.cb p.c (by have := (hS h0).1; omega) (hS h0).2.1 (print_len p.c (hS h0).1 (hS h0).2.1 (hS h0).2.2)
      rw [h0] at e92 e20
      rw [if_pos rfl] at e92
      simp -implicitDefEqProofs only [go_sem, simprocAttr, pkV, e15, e18, e20, e92, e93, e94, e95, e96, e97, haw, h400, h97, h97', hk, beq_self_eq_true]
theorem c13 (haw : (lim T).call 16 [] [] 0 [] = some (.bool true, [], 0, [])) (p : Pk) (s : List UInt8) : (lim T).call 13 [pkV p, .str s] [] 0 [] = some (.bool true, [], 0, []) := by
  have e15 := c15 p
  cases hsh : shP p
  · rw [hsh] at e15
    rw [ent13]
    simp only [pkV] at e15
    simp -implicitDefEqProofs only [go_sem, simprocAttr, pkV, e15, haw]
  · cases hc : (decide (400 < (s.length : Int)) && ((s.length : Int) != 4097))
    · refine c13a haw p s hsh ?_ hc
      simp at hc
      omega
    · rw [hsh] at e15
      rw [ent13]
      simp only [pkV] at e15
      rw [Bool.and_eq_true] at hc
      have h2 : ((s.length : Int) == 4097) = false := by have := hc.2; simpa using this
      simp -implicitDefEqProofs only [go_sem, simprocAttr, pkV, e15, haw, hc.1, hc.2, h2]
end Go.Den.FaT
namespace Go.Proofs.YtifljcjddphpjaaGreatDoor
open Go Go.Proofs Go.Den Go.Den.FaT Go.ChangeShapes Go.WideShapes Go.ChangeAt Go.RowKit
theorem mapOf {α : Type} {f : α → V} {e : TypeId} {n : Nat} (hc : ∀ {us}, Cl Tryz.prog n e us → ∃ a, mk Tryz.prog e us = f a) : ∀ {l : List V}, (∀ u ∈ l, ∃ us, Cl Tryz.prog n e us ∧ u = mk Tryz.prog e us) → ∃ ps : List α, l = ps.map f
  | [], _ => ⟨[], rfl⟩
  | u :: l, h => by
    obtain ⟨ps, rfl⟩ := mapOf hc (l := l) fun v hv => h v (List.mem_cons_of_mem _ hv)
    obtain ⟨us, h1, rfl⟩ := h u (List.mem_cons_self)
    obtain ⟨a, ha⟩ := hc h1
    exact ⟨a :: ps, by rw [ha]; rfl⟩
theorem mk3 (v : V) : mk Tryz.prog 3 [v] = v := by unfold mk; rw [Tryz.underlying3]; rfl
theorem mk28 (v : V) : mk Tryz.prog 28 [v] = v := by unfold mk; rw [Tryz.underlying28]; rfl
theorem mk142 (us : List V) : mk Tryz.prog 142 us = .agg us := by unfold mk; rw [Tryz.underlying142]
theorem mk140 (us : List V) : mk Tryz.prog 140 us = .agg us := by unfold mk; rw [Tryz.underlying140]
theorem mk25 (us : List V) : mk Tryz.prog 25 us = .agg us := by unfold mk; rw [Tryz.underlying25]
theorem cl3i {n : Nat} {us : List V} (h : Cl Tryz.prog n 3 us) : ∃ a, mk Tryz.prog 3 us = intV a := by
  obtain ⟨i, rfl, _⟩ := cl3 h
  exact ⟨i, mk3 _⟩
theorem cl28 {n : Nat} {vs : List V} (h : Cl Tryz.prog n 28 vs) : ∃ b, ∃ l : List Int, vs = [.sl b 1 (l.map intV)] := by
  cases n with
  | zero => cases h
  | succ n =>
    unfold Cl at h
    rw [Tryz.underlying28] at h
    obtain ⟨b, l, rfl, _, _, hl⟩ := h
    obtain ⟨ps, rfl⟩ := mapOf cl3i hl
    have : Tryz.prog.cellsOf 3 = 1 := by kernel_rfl
    exact ⟨b, ps, by rw [this]⟩
theorem cl28r {n : Nat} {us : List V} (h : Cl Tryz.prog n 28 us) : ∃ a, mk Tryz.prog 28 us = rwV a := by
  obtain ⟨b, l, rfl⟩ := cl28 h
  exact ⟨(b, l), mk28 _⟩
theorem cl22 {n : Nat} {vs : List V} (h : Cl Tryz.prog n 22 vs) : ∃ b, ∃ l : List (Bool × List Int), vs = [.sl b 1 (l.map rwV)] := by
  cases n with
  | zero => cases h
  | succ n =>
    unfold Cl at h
    rw [Tryz.underlying22] at h
    obtain ⟨b, l, rfl, _, _, hl⟩ := h
    obtain ⟨ps, rfl⟩ := mapOf cl28r hl
    have : Tryz.prog.cellsOf 28 = 1 := by kernel_rfl
    exact ⟨b, ps, by rw [this]⟩
theorem cl142 {n : Nat} {us : List V} (h : Cl Tryz.prog n 142 us) : ∃ a, mk Tryz.prog 142 us = ivV a := by
  cases n with
  | zero => cases h
  | succ n =>
    unfold Cl at h
    rw [Tryz.underlying142] at h
    obtain ⟨ps, rfl, hl, hp⟩ := h
    match ps, hl with
    | [p, q], _ =>
      obtain ⟨x, rfl, _⟩ := cl3 (hp 0 _ p rfl rfl)
      obtain ⟨y, rfl, _⟩ := cl3 (hp 1 _ q rfl rfl)
      exact ⟨(x, y), by rw [mk142]; rfl⟩
theorem cl72 {n : Nat} {vs : List V} (h : Cl Tryz.prog n 72 vs) : ∃ b, ∃ l : List (Int × Int), vs = [.sl b 2 (l.map ivV)] := by
  cases n with
  | zero => cases h
  | succ n =>
    unfold Cl at h
    rw [Tryz.underlying72] at h
    obtain ⟨b, l, rfl, _, _, hl⟩ := h
    obtain ⟨ps, rfl⟩ := mapOf cl142 hl
    have : Tryz.prog.cellsOf 142 = 2 := by kernel_rfl
    exact ⟨b, ps, by rw [this]⟩
theorem cl9 {n : Nat} {vs : List V} (h : Cl Tryz.prog n 9 vs) : ∃ s : List UInt8, vs = [.str s] := by
  cases n with
  | zero => cases h
  | succ n => unfold Cl at h; rw [Tryz.underlying9] at h; obtain ⟨s, h, _⟩ := h; exact ⟨s, h⟩
theorem cl140 {n : Nat} {us : List V} (h : Cl Tryz.prog n 140 us) : ∃ a, mk Tryz.prog 140 us = czV a := by
  cases n with
  | zero => cases h
  | succ n =>
    unfold Cl at h
    rw [Tryz.underlying140] at h
    obtain ⟨ps, rfl, hl, hp⟩ := h
    match ps, hl with
    | [p, q, r], _ =>
      obtain ⟨s, rfl⟩ := cl9 (hp 0 _ p rfl rfl)
      obtain ⟨c, rfl, _⟩ := cl3 (hp 1 _ q rfl rfl)
      obtain ⟨b, l, rfl⟩ := cl72 (hp 2 _ r rfl rfl)
      exact ⟨⟨s, c, b, l⟩, by rw [mk140]; rfl⟩
theorem cl23 {n : Nat} {vs : List V} (h : Cl Tryz.prog n 23 vs) : ∃ b, ∃ l : List Cz, vs = [.sl b 3 (l.map czV)] := by
  cases n with
  | zero => cases h
  | succ n =>
    unfold Cl at h
    rw [Tryz.underlying23] at h
    obtain ⟨b, l, rfl, _, _, hl⟩ := h
    obtain ⟨ps, rfl⟩ := mapOf cl140 hl
    have : Tryz.prog.cellsOf 140 = 3 := by kernel_rfl
    exact ⟨b, ps, by rw [this]⟩
theorem cl25 {n : Nat} {us : List V} (h : Cl Tryz.prog n 25 us) : ∃ p : Pk, mk Tryz.prog 25 us = pkV p := by
  cases n with
  | zero => cases h
  | succ n =>
    unfold Cl at h
    rw [Tryz.underlying25] at h
    obtain ⟨ps, rfl, hl, hp⟩ := h
    match ps, hl with
    | [p, q, r], _ =>
      obtain ⟨vb, v, rfl⟩ := cl22 (hp 0 _ p rfl rfl)
      obtain ⟨n, rfl, _⟩ := cl3 (hp 1 _ q rfl rfl)
      obtain ⟨cb, c, rfl⟩ := cl23 (hp 2 _ r rfl rfl)
      exact ⟨⟨vb, v, n, cb, c⟩, by rw [mk25]; rfl⟩
end Go.Proofs.YtifljcjddphpjaaGreatDoor
end
