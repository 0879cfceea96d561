import Derived.Test.YtifljcjddphpjaaGreatDoorFaS0
import Derived.Test.YtifljcjddphpjaaGreatDoorZO
import Derived.Test.YtifljcjddphpjaaGreatDoorZR
import Derived.Test.YtifljcjddphpjaaGreatDoorFaX0
import Derived.Test.YtifljcjddphpjaaGreatDoorFaPrim
import Derived.Test.YtifljcjddphpjaaGreatDoorFaTi
set_option linter.all false
set_option maxHeartbeats 8000000
set_option maxRecDepth 100000
noncomputable section
namespace Go.Den.FaT
open Go Go.Proofs Go.Den

theorem c115 (b : Bool) (e : Int) : (lim T).call 115 [.bool b, .int .i64 e] [] 0 [] = some (.int .i64 (cond b e 0), [], 0, []) := by
  rw [ent115]
  cases b
  · simp -implicitDefEqProofs only [go_sem, simprocAttr]
  · simp -implicitDefEqProofs only [go_sem, simprocAttr]
theorem c39 (b : Bool) (e : Int) : (lim T).call 39 [.bool b, .int .i64 e] [] 0 [] = some (.int .i64 (cond b e 0), [], 0, []) := by
  rw [ent39]
  cases b
  · simp -implicitDefEqProofs only [go_sem, simprocAttr]
  · simp -implicitDefEqProofs only [go_sem, simprocAttr]
theorem c137 (n a b : Int) : (lim T).call 137 [.int .i64 n, .int .i64 a, .int .i64 b] [] 0 [] = some (.int .i64 (rng n a b), [], 0, []) := by
  rw [ent137]
  cases h : decide (n < a)
  · simp -implicitDefEqProofs only [go_sem, simprocAttr, h, c115, rng]
  · simp -implicitDefEqProofs only [go_sem, simprocAttr, h, c115, rng]
theorem c90 (n a b : Int) : (lim T).call 90 [.int .i64 n, .int .i64 a, .int .i64 b] [] 0 [] = some (.int .i64 (rng n a b), [], 0, []) := by
  rw [ent90]
  cases h : decide (n < a)
  · simp -implicitDefEqProofs only [go_sem, simprocAttr, h, c39, rng]
  · simp -implicitDefEqProofs only [go_sem, simprocAttr, h, c39, rng]

theorem loop114 (b : Bool) (l : List Int) (hb : l.length < 4611686018427387904) : ∀ i, i ≤ l.length → (lim T).loop false [.code (.loop b114_0), .inBlock 0, .code (.seq r114_7 .ret)] ⟨114, 15, 0, [(5, .sl b 1 (l.map fun n => .int .i64 n)), (6, .int .i64 l.length), (7, .int .i64 i)], [], 0, []⟩ = some (.ret (.int .i64 (fnz (l.drop i))), [], 0, []) := by
  refine down_ind l.length ?_ fun i hi ih => ?_
  · rw [loopEq]
    have h1 := idx_out l.length
    simp -implicitDefEqProofs only [go_sem, simprocAttr, h1]
    simp [fnz]
  · obtain ⟨h1, h2, h3, h4, h5⟩ := idx_in hi hb
    rw [loopEq, h5]
    cases h6 : (l[i] != 0)
    · have h7 : l[i] = 0 := by simpa using h6
      simp -implicitDefEqProofs only [go_sem, simprocAttr, h1, h2, h3, h4, h6, ih]
      simp [fnz, h7]
    · have h7 : l[i] ≠ 0 := by simpa using h6
      simp -implicitDefEqProofs only [go_sem, simprocAttr, h1, h2, h3, h4, h6]
      simp [fnz, h7]
theorem c114 (b : Bool) (l : List Int) (hb : l.length < 4611686018427387904) : (lim T).call 114 [.sl b 1 (l.map fun n => .int .i64 n)] [] 0 [] = some (.int .i64 (fnz l), [], 0, []) := by
  rw [ent114]
  have h := loop114 b l hb 0 (by omega)
  rw [show ((0 : Nat) : Int) = 0 from rfl, List.drop_zero] at h
  simp -implicitDefEqProofs only [go_sem, simprocAttr, h]

theorem loop108 (b : Bool) (l : List Int) (hb : l.length < 4611686018427387904) : ∀ i, i ≤ l.length → (lim T).loop false [.code (.loop b108_0), .inBlock 0, .code (.seq r108_6 .ret)] ⟨108, 19, 0, [(0, .sl b 1 (l.map fun n => .int .i64 n)), (3, .int .i64 i)], [], 0, []⟩ = some (.ret (.int .i64 (fnz (l.drop i))), [], 0, []) := by
  refine down_ind l.length ?_ fun i hi ih => ?_
  · rw [loopEq]
    have h1 := idx_out l.length
    simp -implicitDefEqProofs only [go_sem, simprocAttr, h1]
    simp [fnz]
  · obtain ⟨h1, h2, h3, h4, h5⟩ := idx_in hi hb
    rw [loopEq, h5]
    cases h6 : (l[i] != 0)
    · have h7 : l[i] = 0 := by simpa using h6
      simp -implicitDefEqProofs only [go_sem, simprocAttr, h1, h2, h3, h4, h6, ih]
      simp [fnz, h7]
    · have h7 : l[i] ≠ 0 := by simpa using h6
      simp -implicitDefEqProofs only [go_sem, simprocAttr, h1, h2, h3, h4, h6]
      simp [fnz, h7]
theorem c108 (b : Bool) (l : List Int) (hb : l.length < 4611686018427387904) : (lim T).call 108 [.sl b 1 (l.map fun n => .int .i64 n)] [] 0 [] = some (.int .i64 (fnz l), [], 0, []) := by
  rw [ent108]
  have h := loop108 b l hb 0 (by omega)
  rw [show ((0 : Nat) : Int) = 0 from rfl, List.drop_zero] at h
  simp -implicitDefEqProofs only [go_sem, simprocAttr, h]
theorem c114_2 (b : Bool) (x y : Int) : (lim T).call 114 [.sl b 1 [.int .i64 x, .int .i64 y]] [] 0 [] = some (.int .i64 (fnz [x, y]), [], 0, []) := c114 b [x, y] (by simp)
theorem c114_3 (b : Bool) (x y z : Int) : (lim T).call 114 [.sl b 1 [.int .i64 x, .int .i64 y, .int .i64 z]] [] 0 [] = some (.int .i64 (fnz [x, y, z]), [], 0, []) := c114 b [x, y, z] (by simp)
theorem c114_4 (b : Bool) (x y z u : Int) : (lim T).call 114 [.sl b 1 [.int .i64 x, .int .i64 y, .int .i64 z, .int .i64 u]] [] 0 [] = some (.int .i64 (fnz [x, y, z, u]), [], 0, []) := c114 b [x, y, z, u] (by simp)
theorem c108_2 (b : Bool) (x y : Int) : (lim T).call 108 [.sl b 1 [.int .i64 x, .int .i64 y]] [] 0 [] = some (.int .i64 (fnz [x, y]), [], 0, []) := c108 b [x, y] (by simp)
theorem c108_3 (b : Bool) (x y z : Int) : (lim T).call 108 [.sl b 1 [.int .i64 x, .int .i64 y, .int .i64 z]] [] 0 [] = some (.int .i64 (fnz [x, y, z]), [], 0, []) := c108 b [x, y, z] (by simp)
theorem c108_6 (b : Bool) (x y z u v w : Int) : (lim T).call 108 [.sl b 1 [.int .i64 x, .int .i64 y, .int .i64 z, .int .i64 u, .int .i64 v, .int .i64 w]] [] 0 [] = some (.int .i64 (fnz [x, y, z, u, v, w]), [], 0, []) := c108 b [x, y, z, u, v, w] (by simp)
theorem c112 (n k : Int) : (lim T).call 112 [.int .i64 n, .int .i64 k] [] 0 [] = some (.int .i64 (fnz [cond (n == 0) 12 0, cond (decide (k < n)) 5 0]), [], 0, []) := by
  rw [ent112]
  simp -implicitDefEqProofs only [go_sem, simprocAttr, c115, c114_2]
def intV (n : Int) : V := .int .i64 n
attribute [go_sem] intV
theorem fnz_zero {l : List Int} : fnz l = 0 ↔ ∀ x ∈ l, x = 0 := by
  induction l with
  | nil => simp [fnz]
  | cons x l ih =>
    simp only [fnz]
    by_cases h : x = 0
    · simp [h, ih]
    · simp [h]
def ckE (n : Int) : Int := rng n 0 1000000
theorem ckE_f (n : Int) : rng n 0 1000000 = ckE n := rfl
theorem c117 (n : Int) : (lim T).call 117 [.int .i64 n] [] 0 [] = some (.int .i64 (ckE n), [], 0, []) := by
  rw [ent117]
  simp -implicitDefEqProofs only [go_sem, simprocAttr, c137, ckE_f]
theorem c109 (n : Int) : (lim T).call 109 [.int .i64 n] [] 0 [] = some (.int .i64 (ckE n), [], 0, []) := by
  rw [ent109]
  simp -implicitDefEqProofs only [go_sem, simprocAttr, c90, ckE_f]
def ivV (x : Int × Int) : V := .agg [.int .i64 x.1, .int .i64 x.2]
attribute [go_sem] ivV
def ckL (x : Int × Int) : Int := fnz [ckE x.1, ckE x.2, cond (decide (x.2 < x.1)) 11 0]
theorem ckL_f (x : Int × Int) : fnz [ckE x.1, ckE x.2, cond (decide (x.2 < x.1)) 11 0] = ckL x := rfl
theorem c146 (x : Int × Int) : (lim T).call 146 [.agg [.int .i64 x.1, .int .i64 x.2]] [] 0 [] = some (.int .i64 (ckL x), [], 0, []) := by
  rw [ent146]
  simp -implicitDefEqProofs only [go_sem, simprocAttr, c117, c115, c114_3, ckL_f]
theorem c212 (x : Int × Int) : (lim T).call 212 [.agg [.int .i64 x.1, .int .i64 x.2], .int .i64 0, .int .i64 1000000] [] 0 [] = some (.int .i64 (ckL x), [], 0, []) := by
  rw [ent212]
  simp -implicitDefEqProofs only [go_sem, simprocAttr, c90, ckE_f, c39, c108_3, ckL_f]
theorem loop145 (b : Bool) (l : List (Int × Int)) (hb : l.length < 1000000) : ∀ i, i ≤ l.length → ∀ o : Option (List (Int)), acL o = i →
    (lim T).loop false [.code (.loop b145_0), .inBlock 0, .code (.seq r145_7 .ret)] ⟨145, 22, 0, [(1, .fn 146 []), (5, acV o 0), (8, .sl b 2 (l.map ivV)), (9, .int .i64 l.length), (10, .int .i64 i)], acR intV o 29, 0, []⟩ =
      some (.ret (acO intV 0 1 (acA o ((l.drop i).map (fun x => ckL x)))), [], 0, []) := by
  refine down_ind l.length ?_ fun i hi ih o ho => ?_
  · intro o ho
    rw [loopEq]
    have h1 := idx_out l.length
    cases o with
    | none =>
      simp -implicitDefEqProofs only [go_sem, simprocAttr, h1]
      simp [acA, acO]
    | some a =>
      simp -implicitDefEqProofs only [go_sem, simprocAttr, h1]
      simp [acA, acO]
  · obtain ⟨h1, h2, h3, h4, h5⟩ := idx_in hi (by omega)
    rw [loopEq, h5]
    have ih' := ih (acA o [((fun x => ckL x) l[i])]) (by rw [acL_A, ho]; rfl)
    rw [acA_acA] at ih'
    dsimp only at ih'
    cases o with
    | none =>
      have h8 := row_ok (n := 0) (by omega)
      simp only [acA_n, acV_s, acR_s, List.map_cons, List.map_nil, intV] at ih'
      simp -implicitDefEqProofs only [go_sem, simprocAttr, h1, h2, h3, h4, ih', h8.2, c146]
    | some a =>
      have h9 : a.length = i := ho
      have h8 := (row_ok (n := a.length) (by omega)).1
      simp only [acA_s, acV_s, acR_s, List.map_append, List.map_cons, List.map_nil, intV] at ih'
      simp -implicitDefEqProofs only [go_sem, simprocAttr, h1, h2, h3, h4, ih', h8, c146]
theorem c145 (b : Bool) (l : List (Int × Int)) (hb : l.length < 1000000) : (lim T).call 145 [.sl b 2 (l.map ivV), .fn 146 []] [] 0 [] = some (slV 1 (((l).map (fun x => ckL x)).map intV), [], 0, []) := by
  rw [ent145]
  have h := loop145  b l hb  0 (by omega) none rfl
  rw [show ((0 : Nat) : Int) = 0 from rfl, List.drop_zero, acO_slV] at h
  simp only [acV_n, acR_n] at h
  simp -implicitDefEqProofs only [go_sem, simprocAttr, h]
theorem loop116 (b : Bool) (l : List (Int)) (hb : l.length < 1000000) : ∀ i, i ≤ l.length → ∀ o : Option (List (Int)), acL o = i →
    (lim T).loop false [.code (.loop b116_0), .inBlock 0, .code (.seq r116_7 .ret)] ⟨116, 22, 0, [(1, .fn 117 []), (5, acV o 0), (8, .sl b 1 (l.map intV)), (9, .int .i64 l.length), (10, .int .i64 i)], acR intV o 29, 0, []⟩ =
      some (.ret (acO intV 0 1 (acA o ((l.drop i).map (fun x => ckE x)))), [], 0, []) := by
  refine down_ind l.length ?_ fun i hi ih o ho => ?_
  · intro o ho
    rw [loopEq]
    have h1 := idx_out l.length
    cases o with
    | none =>
      simp -implicitDefEqProofs only [go_sem, simprocAttr, h1]
      simp [acA, acO]
    | some a =>
      simp -implicitDefEqProofs only [go_sem, simprocAttr, h1]
      simp [acA, acO]
  · obtain ⟨h1, h2, h3, h4, h5⟩ := idx_in hi (by omega)
    rw [loopEq, h5]
    have ih' := ih (acA o [((fun x => ckE x) l[i])]) (by rw [acL_A, ho]; rfl)
    rw [acA_acA] at ih'
    dsimp only at ih'
    cases o with
    | none =>
      have h8 := row_ok (n := 0) (by omega)
      simp only [acA_n, acV_s, acR_s, List.map_cons, List.map_nil, intV] at ih'
      simp -implicitDefEqProofs only [go_sem, simprocAttr, h1, h2, h3, h4, ih', h8.2, c117]
    | some a =>
      have h9 : a.length = i := ho
      have h8 := (row_ok (n := a.length) (by omega)).1
      simp only [acA_s, acV_s, acR_s, List.map_append, List.map_cons, List.map_nil, intV] at ih'
      simp -implicitDefEqProofs only [go_sem, simprocAttr, h1, h2, h3, h4, ih', h8, c117]
theorem c116 (b : Bool) (l : List (Int)) (hb : l.length < 1000000) : (lim T).call 116 [.sl b 1 (l.map intV), .fn 117 []] [] 0 [] = some (slV 1 (((l).map (fun x => ckE x)).map intV), [], 0, []) := by
  rw [ent116]
  have h := loop116  b l hb  0 (by omega) none rfl
  rw [show ((0 : Nat) : Int) = 0 from rfl, List.drop_zero, acO_slV] at h
  simp only [acV_n, acR_n] at h
  simp -implicitDefEqProofs only [go_sem, simprocAttr, h]
def letR (r : Int) : Bool := (decide (97 ≤ r) && decide (r ≤ 122)) || (decide (65 ≤ r) && decide (r ≤ 90))
def badR (first : Bool) (r : Int) : Bool := !letR r && (first || (r != 95 && (decide (r < 48) || decide (57 < r))))
def nameFrom : Bool → List UInt8 → Bool
  | _, [] => true
  | f, c :: l => !badR f c.toNat && nameFrom false l
def nameB (s : List UInt8) : Bool := nameFrom true s && (!s.isEmpty && decide (s.length ≤ 24))
theorem dec_lo {s : List UInt8} {p : Nat} (h : p < s.length) (hb : s[p].toNat < 128) : Utf8.decode ⟨s.toArray⟩ p = (s[p].toNat, 1) := by
  have e : ByteArray.get! ⟨s.toArray⟩ (p + 0) = s[p] := by simp [ByteArray.get!, h]
  unfold Utf8.decode
  simp only [e]
  rw [if_pos (by omega)]
theorem dec_hi {s : List UInt8} {p : Nat} (h : p < s.length) (hb : ¬ s[p].toNat < 128) : ∃ r k, Utf8.decode ⟨s.toArray⟩ p = (r, k) ∧ 128 ≤ r := by
  have e : ByteArray.get! ⟨s.toArray⟩ (p + 0) = s[p] := by simp [ByteArray.get!, h]
  unfold Utf8.decode
  simp only [e]
  rw [if_neg (by omega)]
  have hR : 128 ≤ Utf8.runeError := by decide
  repeat' split
  all_goals refine ⟨_, _, rfl, ?_⟩
  all_goals first | exact hR | (rename_i hc; simp at hc; omega) | (simp_all; omega)
theorem cl_a (r : Int) (h : 97 ≤ r ∧ r ≤ 122) : decide (97 ≤ r) = true ∧ decide (r ≤ 122) = true := by
  refine ⟨?_, ?_⟩ <;> simp <;> omega
theorem cl_b (r : Int) (h : 65 ≤ r ∧ r ≤ 90) : decide (97 ≤ r) = false ∧ decide (65 ≤ r) = true ∧ decide (r ≤ 90) = true := by
  refine ⟨?_, ?_, ?_⟩ <;> simp <;> omega
theorem cl_c (r : Int) (h : 123 ≤ r) : decide (97 ≤ r) = true ∧ decide (r ≤ 122) = false ∧ decide (65 ≤ r) = true ∧ decide (r ≤ 90) = false ∧ (r != 95) = true ∧ decide (r < 48) = false ∧ decide (57 < r) = true := by
  refine ⟨?_, ?_, ?_, ?_, ?_, ?_, ?_⟩ <;> simp <;> omega
theorem cl_d (r : Int) (h : 91 ≤ r ∧ r ≤ 96 ∧ r ≠ 95) : decide (97 ≤ r) = false ∧ decide (65 ≤ r) = true ∧ decide (r ≤ 90) = false ∧ (r != 95) = true ∧ decide (r < 48) = false ∧ decide (57 < r) = true := by
  refine ⟨?_, ?_, ?_, ?_, ?_, ?_⟩ <;> simp <;> omega
theorem cl_e (r : Int) (h : r = 95) : decide (97 ≤ r) = false ∧ decide (65 ≤ r) = true ∧ decide (r ≤ 90) = false ∧ (r != 95) = false := by
  refine ⟨?_, ?_, ?_, ?_⟩ <;> simp <;> omega
theorem cl_f (r : Int) (h : 58 ≤ r ∧ r ≤ 64) : decide (97 ≤ r) = false ∧ decide (65 ≤ r) = false ∧ (r != 95) = true ∧ decide (r < 48) = false ∧ decide (57 < r) = true := by
  refine ⟨?_, ?_, ?_, ?_, ?_⟩ <;> simp <;> omega
theorem cl_g (r : Int) (h : 48 ≤ r ∧ r ≤ 57) : decide (97 ≤ r) = false ∧ decide (65 ≤ r) = false ∧ (r != 95) = true ∧ decide (r < 48) = false ∧ decide (57 < r) = false := by
  refine ⟨?_, ?_, ?_, ?_, ?_⟩ <;> simp <;> omega
theorem cl_h (r : Int) (h : r < 48) : decide (97 ≤ r) = false ∧ decide (65 ≤ r) = false ∧ (r != 95) = true ∧ decide (r < 48) = true := by
  refine ⟨?_, ?_, ?_, ?_⟩ <;> simp <;> omega
theorem cl_all (r : Int) : (97 ≤ r ∧ r ≤ 122) ∨ (65 ≤ r ∧ r ≤ 90) ∨ (123 ≤ r) ∨ (91 ≤ r ∧ r ≤ 96 ∧ r ≠ 95) ∨ (r = 95) ∨ (58 ≤ r ∧ r ≤ 64) ∨ (48 ≤ r ∧ r ≤ 57) ∨ (r < 48) := by omega
def L190 (s : List UInt8) (p : Nat) : Option Out :=
  (lim T).loop false [.code (.loop b190_0), .inBlock 0, .code (.seq r190_7 .ret)] ⟨190, 51, 0, [(0, .str s), (7, .it 0)], [.siter s p], 0, []⟩
theorem loop190 (s : List UInt8) (hb : s.length < 1000000) : ∀ p, p ≤ s.length → L190 s p = some (.ret (.bool (nameFrom ((p : Int) == 0) (s.drop p) && (!s.isEmpty && decide (s.length ≤ 24)))), [], 0, []) := by
  refine down_ind s.length ?_ fun p hp ih => ?_
  · unfold L190
    rw [loopEq]
    have h1 : decide (s.length < s.length) = false := by simp
    cases h2 : (s == ([] : List UInt8))
    · have h3 : s.isEmpty = false := by cases s with | nil => cases h2 | cons a b => rfl
      have h4 : decide ((s.length : Int) ≤ 24) = decide (s.length ≤ 24) := by simp; omega
      simp -implicitDefEqProofs only [go_sem, simprocAttr, h1, h2, h4, Bool.not_false]
      simp [nameFrom, h3]
    · have h3 : s = [] := by simpa using h2
      subst h3
      simp -implicitDefEqProofs only [go_sem, simprocAttr]
  · have h1 : decide (p < s.length) = true := decide_eq_true hp
    have h5 : s.drop p = s[p] :: s.drop (p + 1) := List.drop_eq_getElem_cons hp
    rw [h5]
    have h6 : (((p + 1 : Nat) : Int) == 0) = false := by simp; omega
    rw [h6] at ih
    simp only [nameFrom]
    by_cases hlo : s[p].toNat < 128
    · have hd := dec_lo hp hlo
      unfold L190 at ih ⊢
      rw [loopEq]
      generalize hr : ((s[p].toNat : Nat) : Int) = r at *
      rcases cl_all r with hc | hc | hc | hc | hc | hc | hc | hc
      · obtain ⟨qA, qB⟩ := cl_a r hc
        simp -implicitDefEqProofs only [go_sem, simprocAttr, h1, hd, hr, qA, qB, ih]
        simp [badR, letR, qA, qB]
      · obtain ⟨qA, qC, qD⟩ := cl_b r hc
        simp -implicitDefEqProofs only [go_sem, simprocAttr, h1, hd, hr, qA, qC, qD, ih]
        simp [badR, letR, qA, qC, qD]
      · obtain ⟨qA, qB, qC, qD, qE, qF, qG⟩ := cl_c r hc
        cases hz : ((p : Int) == 0)
        · simp -implicitDefEqProofs only [go_sem, simprocAttr, h1, hd, hr, qA, qB, qC, qD, qE, qF, qG, ih, hz]
          try simp [badR, letR, qA, qB, qC, qD, qE, qF, qG, hz]
        · simp -implicitDefEqProofs only [go_sem, simprocAttr, h1, hd, hr, qA, qB, qC, qD, qE, qF, qG, ih, hz]
          try simp [badR, letR, qA, qB, qC, qD, qE, qF, qG, hz]
      · obtain ⟨qA, qC, qD, qE, qF, qG⟩ := cl_d r hc
        cases hz : ((p : Int) == 0)
        · simp -implicitDefEqProofs only [go_sem, simprocAttr, h1, hd, hr, qA, qC, qD, qE, qF, qG, ih, hz]
          try simp [badR, letR, qA, qC, qD, qE, qF, qG, hz]
        · simp -implicitDefEqProofs only [go_sem, simprocAttr, h1, hd, hr, qA, qC, qD, qE, qF, qG, ih, hz]
          try simp [badR, letR, qA, qC, qD, qE, qF, qG, hz]
      · obtain ⟨qA, qC, qD, qE⟩ := cl_e r hc
        cases hz : ((p : Int) == 0)
        · simp -implicitDefEqProofs only [go_sem, simprocAttr, h1, hd, hr, qA, qC, qD, qE, ih, hz]
          try simp [badR, letR, qA, qC, qD, qE, hz]
        · simp -implicitDefEqProofs only [go_sem, simprocAttr, h1, hd, hr, qA, qC, qD, qE, ih, hz]
          try simp [badR, letR, qA, qC, qD, qE, hz]
      · obtain ⟨qA, qC, qE, qF, qG⟩ := cl_f r hc
        cases hz : ((p : Int) == 0)
        · simp -implicitDefEqProofs only [go_sem, simprocAttr, h1, hd, hr, qA, qC, qE, qF, qG, ih, hz]
          try simp [badR, letR, qA, qC, qE, qF, qG, hz]
        · simp -implicitDefEqProofs only [go_sem, simprocAttr, h1, hd, hr, qA, qC, qE, qF, qG, ih, hz]
          try simp [badR, letR, qA, qC, qE, qF, qG, hz]
      · obtain ⟨qA, qC, qE, qF, qG⟩ := cl_g r hc
        cases hz : ((p : Int) == 0)
        · simp -implicitDefEqProofs only [go_sem, simprocAttr, h1, hd, hr, qA, qC, qE, qF, qG, ih, hz]
          try simp [badR, letR, qA, qC, qE, qF, qG, hz]
        · simp -implicitDefEqProofs only [go_sem, simprocAttr, h1, hd, hr, qA, qC, qE, qF, qG, ih, hz]
          try simp [badR, letR, qA, qC, qE, qF, qG, hz]
      · obtain ⟨qA, qC, qE, qF⟩ := cl_h r hc
        cases hz : ((p : Int) == 0)
        · simp -implicitDefEqProofs only [go_sem, simprocAttr, h1, hd, hr, qA, qC, qE, qF, ih, hz]
          try simp [badR, letR, qA, qC, qE, qF, hz]
        · simp -implicitDefEqProofs only [go_sem, simprocAttr, h1, hd, hr, qA, qC, qE, qF, ih, hz]
          try simp [badR, letR, qA, qC, qE, qF, hz]
    · obtain ⟨r0, k0, hd, hhi⟩ := dec_hi hp hlo
      unfold L190
      rw [loopEq]
      obtain ⟨qA, qB, qC, qD, qE, qF, qG⟩ := cl_c (r0 : Int) (by omega)
      obtain ⟨wA, wB, wC, wD, wE, wF, wG⟩ := cl_c (s[p].toNat : Int) (by omega)
      cases hz : ((p : Int) == 0)
      · simp -implicitDefEqProofs only [go_sem, simprocAttr, h1, hd, qA, qB, qC, qD, qE, qF, qG, hz]
        simp [badR, letR, wA, wB, wC, wD, wE, wF, wG, hz]
      · simp -implicitDefEqProofs only [go_sem, simprocAttr, h1, hd, qA, qB, qC, qD, qE, qF, qG, hz]
        simp [badR, letR, wA, wB, wC, wD, wE, wF, wG, hz]
theorem c190 (s : List UInt8) (hb : s.length < 1000000) : (lim T).call 190 [.str s] [] 0 [] = some (.bool (nameB s), [], 0, []) := by
  rw [ent190]
  have h := loop190 s hb 0 (by omega)
  rw [List.drop_zero] at h
  unfold L190 at h
  simp -implicitDefEqProofs only [go_sem, simprocAttr, h]
  rfl
theorem cr_a (r : Int) (h : 97 ≤ r ∧ r ≤ 122) : decide (65 ≤ r) = true ∧ decide (r ≤ 90) = false ∧ decide (97 ≤ r) = true ∧ decide (r ≤ 122) = true ∧ decide (48 ≤ r) = true ∧ decide (r ≤ 57) = false ∧ (r == 95) = false := by
  refine ⟨?_, ?_, ?_, ?_, ?_, ?_, ?_⟩ <;> simp <;> omega
theorem cr_b (r : Int) (h : 65 ≤ r ∧ r ≤ 90) : decide (65 ≤ r) = true ∧ decide (r ≤ 90) = true ∧ decide (97 ≤ r) = false ∧ decide (48 ≤ r) = true ∧ decide (r ≤ 57) = false ∧ (r == 95) = false := by
  refine ⟨?_, ?_, ?_, ?_, ?_, ?_⟩ <;> simp <;> omega
theorem cr_c (r : Int) (h : 123 ≤ r) : decide (97 ≤ r) = true ∧ decide (r ≤ 122) = false ∧ decide (65 ≤ r) = true ∧ decide (r ≤ 90) = false ∧ decide (48 ≤ r) = true ∧ decide (r ≤ 57) = false ∧ (r == 95) = false := by
  refine ⟨?_, ?_, ?_, ?_, ?_, ?_, ?_⟩ <;> simp <;> omega
theorem cr_d (r : Int) (h : 91 ≤ r ∧ r ≤ 96 ∧ r ≠ 95) : decide (97 ≤ r) = false ∧ decide (65 ≤ r) = true ∧ decide (r ≤ 90) = false ∧ decide (48 ≤ r) = true ∧ decide (r ≤ 57) = false ∧ (r == 95) = false := by
  refine ⟨?_, ?_, ?_, ?_, ?_, ?_⟩ <;> simp <;> omega
theorem cr_e (r : Int) (h : r = 95) : decide (97 ≤ r) = false ∧ decide (65 ≤ r) = true ∧ decide (r ≤ 90) = false ∧ decide (48 ≤ r) = true ∧ decide (r ≤ 57) = false ∧ (r == 95) = true := by
  refine ⟨?_, ?_, ?_, ?_, ?_, ?_⟩ <;> simp <;> omega
theorem cr_f (r : Int) (h : 58 ≤ r ∧ r ≤ 64) : decide (97 ≤ r) = false ∧ decide (65 ≤ r) = false ∧ decide (48 ≤ r) = true ∧ decide (r ≤ 57) = false ∧ (r == 95) = false := by
  refine ⟨?_, ?_, ?_, ?_, ?_⟩ <;> simp <;> omega
theorem cr_g (r : Int) (h : 48 ≤ r ∧ r ≤ 57) : decide (97 ≤ r) = false ∧ decide (65 ≤ r) = false ∧ decide (48 ≤ r) = true ∧ decide (r ≤ 57) = true ∧ (r == 95) = false := by
  refine ⟨?_, ?_, ?_, ?_, ?_⟩ <;> simp <;> omega
theorem cr_h (r : Int) (h : r < 48) : decide (97 ≤ r) = false ∧ decide (65 ≤ r) = false ∧ decide (48 ≤ r) = false ∧ (r == 95) = false := by
  refine ⟨?_, ?_, ?_, ?_⟩ <;> simp <;> omega
theorem loop230 (s : List UInt8) (hb : s.length < 1000000) : ∀ i, i ≤ s.length → (lim T).loop false [.code (.loop b230_0), .inBlock 0, .code (.seq r230_10 .ret)] ⟨230, 68, 0, [(0, .str s), (3, .int .i64 i)], [], 0, []⟩ = some (.ret (.bool (nameFrom ((i : Int) == 0) (s.drop i))), [], 0, []) := by
  refine down_ind s.length ?_ fun p hp ih => ?_
  · rw [loopEq]
    have h1 := idx_out s.length
    simp -implicitDefEqProofs only [go_sem, simprocAttr, h1]
    simp [nameFrom]
  · obtain ⟨h1, h2, h3, h4, h5⟩ := idx_in hp (by omega)
    rw [h5]
    have h6 : (((p + 1 : Nat) : Int) == 0) = false := by simp; omega
    rw [h6] at ih
    have h7 : decide (0 ≤ (p : Int)) = true := decide_eq_true (by omega)
    simp only [nameFrom]
    rw [loopEq]
    generalize hr : ((s[p].toNat : Nat) : Int) = r at *
    rcases cl_all r with hc | hc | hc | hc | hc | hc | hc | hc
    · obtain ⟨qC, qD, qA, qB, qF, qG, qE⟩ := cr_a r hc
      obtain ⟨wA, wB⟩ := cl_a r hc
      simp -implicitDefEqProofs only [go_sem, simprocAttr, h1, h3, h4, h7, hr, qC, qD, qA, qB, qF, qG, qE, ih]
      simp [badR, letR, wA, wB]
    · obtain ⟨qC, qD, qA, qF, qG, qE⟩ := cr_b r hc
      obtain ⟨wA, wC, wD⟩ := cl_b r hc
      simp -implicitDefEqProofs only [go_sem, simprocAttr, h1, h3, h4, h7, hr, qC, qD, qA, qF, qG, qE, ih]
      simp [badR, letR, wA, wC, wD]
    · obtain ⟨qA, qB, qC, qD, qF, qG, qE⟩ := cr_c r hc
      obtain ⟨wA, wB, wC, wD, wE, wF, wG⟩ := cl_c r hc
      cases hz : ((p : Int) == 0)
      · simp -implicitDefEqProofs only [go_sem, simprocAttr, h1, h3, h4, h7, hr, qA, qB, qC, qD, qF, qG, qE, ih, hz]
        try simp [badR, letR, wA, wB, wC, wD, wE, wF, wG, hz]
      · simp -implicitDefEqProofs only [go_sem, simprocAttr, h1, h3, h4, h7, hr, qA, qB, qC, qD, qF, qG, qE, ih, hz]
        try simp [badR, letR, wA, wB, wC, wD, wE, wF, wG, hz]
    · obtain ⟨qA, qC, qD, qF, qG, qE⟩ := cr_d r hc
      obtain ⟨wA, wC, wD, wE, wF, wG⟩ := cl_d r hc
      cases hz : ((p : Int) == 0)
      · simp -implicitDefEqProofs only [go_sem, simprocAttr, h1, h3, h4, h7, hr, qA, qC, qD, qF, qG, qE, ih, hz]
        try simp [badR, letR, wA, wC, wD, wE, wF, wG, hz]
      · simp -implicitDefEqProofs only [go_sem, simprocAttr, h1, h3, h4, h7, hr, qA, qC, qD, qF, qG, qE, ih, hz]
        try simp [badR, letR, wA, wC, wD, wE, wF, wG, hz]
    · obtain ⟨qA, qC, qD, qF, qG, qE⟩ := cr_e r hc
      obtain ⟨wA, wC, wD, wE⟩ := cl_e r hc
      cases hz : ((p : Int) == 0)
      · simp -implicitDefEqProofs only [go_sem, simprocAttr, h1, h3, h4, h7, hr, qA, qC, qD, qF, qG, qE, ih, hz]
        try simp [badR, letR, wA, wC, wD, wE, hz]
      · simp -implicitDefEqProofs only [go_sem, simprocAttr, h1, h3, h4, h7, hr, qA, qC, qD, qF, qG, qE, ih, hz]
        try simp [badR, letR, wA, wC, wD, wE, hz]
    · obtain ⟨qA, qC, qF, qG, qE⟩ := cr_f r hc
      obtain ⟨wA, wC, wE, wF, wG⟩ := cl_f r hc
      cases hz : ((p : Int) == 0)
      · simp -implicitDefEqProofs only [go_sem, simprocAttr, h1, h3, h4, h7, hr, qA, qC, qF, qG, qE, ih, hz]
        try simp [badR, letR, wA, wC, wE, wF, wG, hz]
      · simp -implicitDefEqProofs only [go_sem, simprocAttr, h1, h3, h4, h7, hr, qA, qC, qF, qG, qE, ih, hz]
        try simp [badR, letR, wA, wC, wE, wF, wG, hz]
    · obtain ⟨qA, qC, qF, qG, qE⟩ := cr_g r hc
      obtain ⟨wA, wC, wE, wF, wG⟩ := cl_g r hc
      cases hz : ((p : Int) == 0)
      · simp -implicitDefEqProofs only [go_sem, simprocAttr, h1, h3, h4, h7, hr, qA, qC, qF, qG, qE, ih, hz]
        try simp [badR, letR, wA, wC, wE, wF, wG, hz]
      · simp -implicitDefEqProofs only [go_sem, simprocAttr, h1, h3, h4, h7, hr, qA, qC, qF, qG, qE, ih, hz]
        try simp [badR, letR, wA, wC, wE, wF, wG, hz]
    · obtain ⟨qA, qC, qF, qE⟩ := cr_h r hc
      obtain ⟨wA, wC, wE, wF⟩ := cl_h r hc
      cases hz : ((p : Int) == 0)
      · simp -implicitDefEqProofs only [go_sem, simprocAttr, h1, h3, h4, h7, hr, qA, qC, qF, qE, ih, hz]
        try simp [badR, letR, wA, wC, wE, wF, hz]
      · simp -implicitDefEqProofs only [go_sem, simprocAttr, h1, h3, h4, h7, hr, qA, qC, qF, qE, ih, hz]
        try simp [badR, letR, wA, wC, wE, wF, hz]
theorem c230 (s : List UInt8) (hb : s.length < 1000000) : (lim T).call 230 [.str s] [] 0 [] = some (.bool (nameB s), [], 0, []) := by
  rw [ent230]
  have h := loop230 s hb 0 (by omega)
  rw [show ((0 : Nat) : Int) = 0 from rfl, List.drop_zero] at h
  unfold nameB
  cases h1 : ((s.length : Int) == 0)
  · have h3 : s.isEmpty = false := by cases s with | nil => cases h1 | cons a b => rfl
    cases h2 : decide (24 < (s.length : Int))
    · have h4 : s.length ≤ 24 := by simp at h2; omega
      simp -implicitDefEqProofs only [go_sem, simprocAttr, h1, h2, h]
      simp [h3, h4]
    · have h4 : ¬ s.length ≤ 24 := by simp at h2; omega
      simp -implicitDefEqProofs only [go_sem, simprocAttr, h1, h2]
      simp [h3, h4]
  · have h3 : s = [] := by simp at h1; exact h1
    subst h3
    simp -implicitDefEqProofs only [go_sem, simprocAttr]
    try rfl
theorem c188 (s : List UInt8) (hb : s.length < 1000000) : (lim T).call 188 [.str s] [] 0 [] = some (.int .i64 (cond (!nameB s) 8 0), [], 0, []) := by
  rw [ent188]
  simp -implicitDefEqProofs only [go_sem, simprocAttr, c230 s hb, c39]
structure Cz where
  n : List UInt8
  c : Int
  b : Bool
  l : List (Int × Int)
def czV (c : Cz) : V := .agg [.str c.n, .int .i64 c.c, .sl c.b 2 (c.l.map ivV)]
attribute [go_sem] czV
def szd (n k : Int) : Int := fnz [cond (n == 0) 12 0, cond (decide (k < n)) 5 0]
theorem szd_f (n k : Int) : fnz [cond (n == 0) 12 0, cond (decide (k < n)) 5 0] = szd n k := rfl
def ckC (c : Cz) : Int := fnz [rng c.c 0 7, szd c.l.length 8, fnz (c.l.map fun x => ckL x)]
theorem ckC_f (c : Cz) : fnz [rng c.c 0 7, szd c.l.length 8, fnz (c.l.map fun x => ckL x)] = ckC c := rfl
theorem c191 (c : Cz) (hl : c.l.length < 1000000) : (lim T).call 191 [czV c] [] 0 [] = some (.int .i64 (ckC c), [], 0, []) := by
  rw [ent191]
  have e1 := c145 c.b c.l hl
  have e2 := fun b => c114 b (c.l.map fun x => ckL x) (by simp; omega)
  have e3 : List.map intV (List.map (fun x => ckL x) c.l) = List.map (fun n => V.int .i64 n) (List.map (fun x => ckL x) c.l) := rfl
  rw [e3] at e1
  simp -implicitDefEqProofs only [go_sem, simprocAttr, e1, e2, c137, c112, szd_f, c114_3, ckC_f]
theorem loop149 (b : Bool) (l : List (Int × Int)) (hb : l.length < 4611686018427387904) : ∀ i, i ≤ l.length → (lim T).loop false [.code (.loop b149_0), .inBlock 0, .code (.seq r149_7 .ret)] ⟨149, 19, 0, [(0, .sl b 2 (l.map ivV)), (3, .int .i64 i)], [], 0, []⟩ = some (.ret (.int .i64 (fnz ((l.drop i).map fun x => ckL x))), [], 0, []) := by
  refine down_ind l.length ?_ fun i hi ih => ?_
  · rw [loopEq]
    have h1 := idx_out l.length
    simp -implicitDefEqProofs only [go_sem, simprocAttr, h1]
    simp [fnz]
  · obtain ⟨h1, h2, h3, h4, h5⟩ := idx_in hi (by omega)
    rw [loopEq, h5]
    cases h6 : (ckL l[i] != 0)
    · have h7 : ckL l[i] = 0 := by simpa using h6
      simp -implicitDefEqProofs only [go_sem, simprocAttr, h1, h2, h3, h4, h6, ih, c212]
      simp [fnz, h7]
    · have h7 : ckL l[i] ≠ 0 := by simpa using h6
      simp -implicitDefEqProofs only [go_sem, simprocAttr, h1, h2, h3, h4, h6, c212]
      simp [fnz, h7]
theorem c149 (b : Bool) (l : List (Int × Int)) (hb : l.length < 4611686018427387904) : (lim T).call 149 [.sl b 2 (l.map ivV)] [] 0 [] = some (.int .i64 (fnz (l.map fun x => ckL x)), [], 0, []) := by
  rw [ent149]
  have h := loop149 b l hb 0 (by omega)
  rw [show ((0 : Nat) : Int) = 0 from rfl, List.drop_zero] at h
  simp -implicitDefEqProofs only [go_sem, simprocAttr, h]
def idxF {α : Type} (P : α → Bool) : List α → Nat → Int
  | [], _ => -1
  | x :: r, i => cond (P x) (i : Int) (idxF P r (i + 1))
theorem idxF_any {α : Type} (P : α → Bool) : ∀ (l : List α) (i : Nat), decide (0 ≤ idxF P l i) = l.any P := by
  intro l
  induction l with
  | nil => intro i; rfl
  | cons x r ih =>
    intro i
    simp only [idxF, List.any_cons]
    rw [← ih (i + 1)]
    by_cases h : P x = true <;> simp [h]
theorem loop189 (b : Bool) (s : List UInt8) (l : List Cz) (hb : l.length < 1000000) : ∀ i, i ≤ l.length → (lim T).loop false [.code (.loop b189_0), .inBlock 0, .code (.seq r189_6 .ret)] ⟨189, 20, 0, [(0, .sl b 3 (l.map czV)), (1, .str s), (5, .int .i64 i)], [], 0, []⟩ = some (.ret (.int .i64 (idxF (fun a => a.n == s) (l.drop i) i)), [], 0, []) := by
  refine down_ind l.length ?_ fun i hi ih => ?_
  · rw [loopEq]
    have h1 := idx_out l.length
    simp -implicitDefEqProofs only [go_sem, simprocAttr, h1]
    simp [idxF]
  · obtain ⟨h1, h2, h3, h4, h5⟩ := idx_in hi (by omega)
    rw [loopEq, h5]
    cases h6 : (l[i].n == s)
    · simp -implicitDefEqProofs only [go_sem, simprocAttr, h1, h2, h3, h4, h6, ih]
      simp [idxF, h6]
    · simp -implicitDefEqProofs only [go_sem, simprocAttr, h1, h2, h3, h4, h6]
      simp [idxF, h6]
theorem c189 (b : Bool) (s : List UInt8) (l : List Cz) (hb : l.length < 1000000) : (lim T).call 189 [.sl b 3 (l.map czV), .str s] [] 0 [] = some (.int .i64 (idxF (fun a => a.n == s) l 0), [], 0, []) := by
  rw [ent189]
  have h := loop189 b s l hb 0 (by omega)
  rw [show ((0 : Nat) : Int) = 0 from rfl, List.drop_zero] at h
  simp -implicitDefEqProofs only [go_sem, simprocAttr, h]
def dupN (l : List Cz) (i : Nat) (c : Cz) : Bool := (l.take i).any fun a => a.n == c.n
def csE (l : List Cz) (i : Nat) (c : Cz) : Int := fnz [cond (!nameB c.n) 8 0, cond (dupN l i c) 9 0, ckC c]
theorem csE_f (l : List Cz) (i : Nat) (c : Cz) : fnz [cond (!nameB c.n) 8 0, cond (dupN l i c) 9 0, ckC c] = csE l i c := rfl
def csEs (l : List Cz) : Nat → List Cz → List Int
  | _, [] => []
  | i, m :: r => csE l i m :: csEs l (i + 1) r
def ckCs (l : List Cz) : Int := if 8 < l.length then 5 else fnz (csEs l 0 l)
theorem fnz_app (a b : List Int) : fnz (a ++ b) = fnz (a ++ [fnz b]) := by
  induction a with
  | nil =>
    simp only [List.nil_append, fnz]
    by_cases h : fnz b = 0 <;> simp [h]
  | cons x a ih => simp only [List.cons_append, fnz, ih]
theorem csE_ref (l : List Cz) (i : Nat) (c : Cz) : fnz [cond (!nameB c.n) 8 0, cond (dupN l i c) 9 0, rng c.c 0 7, cond ((c.l.length : Int) == 0) 12 0, cond (decide (8 < (c.l.length : Int))) 5 0, fnz (c.l.map fun x => ckL x)] = csE l i c := by
  have h1 := fnz_app [cond (!nameB c.n) 8 0, cond (dupN l i c) 9 0] [rng c.c 0 7, cond ((c.l.length : Int) == 0) 12 0, cond (decide (8 < (c.l.length : Int))) 5 0, fnz (c.l.map fun x => ckL x)]
  simp only [List.cons_append, List.nil_append] at h1
  rw [h1]
  unfold csE ckC
  have h2 : fnz [rng c.c 0 7, cond ((c.l.length : Int) == 0) 12 0, cond (decide (8 < (c.l.length : Int))) 5 0, fnz (c.l.map fun x => ckL x)] = fnz [rng c.c 0 7, szd c.l.length 8, fnz (c.l.map fun x => ckL x)] := by
    unfold szd
    simp only [fnz]
    by_cases h : cond ((c.l.length : Int) == 0) (12 : Int) 0 = 0
    · by_cases h' : cond (decide (8 < (c.l.length : Int))) (5 : Int) 0 = 0
      · simp [h, h']
      · simp [h, h']
    · simp [h]
  rw [h2]
def kvC (c : Cz) : V × V := (.str c.n, .bool true)
theorem mapSet_new {eq : V → V → Option Bool} {x y : V} : ∀ {es : List (V × V)}, (∀ e ∈ es, eq x e.1 = some false) → mapSet eq es x y = some (es ++ [(x, y)])
  | [], _ => rfl
  | (a, b) :: r, h => by
    have h1 := h (a, b) (List.mem_cons_self ..)
    dsimp only at h1
    simp only [mapSet, h1, mapSet_new (es := r) (fun e he => h e (List.mem_cons_of_mem _ he)), List.cons_append]
theorem eq9 (a b : List UInt8) : eqT T 5 9 (.str a) (.str b) = some (a == b) := by
  simp -implicitDefEqProofs only [go_sem, simprocAttr]
theorem key9 (a : List UInt8) : keyOk T 3 9 (.str a) = true := by kernel_rfl
theorem setC {l : List Cz} {i : Nat} (hi : i < l.length) (hd : dupN l i l[i] = false) : mapSet (eqT T 5 9) ((l.take i).map kvC) (.str l[i].n) (.bool true) = some ((l.take (i + 1)).map kvC) := by
  rw [mapSet_new]
  · rw [List.take_succ_eq_append_getElem hi, List.map_append]; rfl
  · intro e he
    obtain ⟨m, hm, rfl⟩ := List.mem_map.1 he
    unfold dupN at hd
    rw [List.any_eq_false] at hd
    have := hd m hm
    simp only [kvC]
    rw [eq9, Bool.beq_comm]
    simpa using this
theorem getC (l : List Cz) (s : List UInt8) : mapGet (eqT T 5 9) (l.map kvC) (.str s) = some (cond (l.any fun a => a.n == s) (some (.bool true)) none) := by
  induction l with
  | nil => rfl
  | cons c l ih =>
    simp only [List.map_cons, kvC, mapGet, eq9, List.any_cons]
    rw [Bool.beq_comm]
    cases h : (c.n == s)
    · simpa [kvC] using ih
    · rfl
def L120 (b : Bool) (l : List Cz) (i : Nat) : Option Out :=
  (lim T).loop false [.code (.loop b120_0), .inBlock 0, .code (.seq r120_12 .ret)] ⟨120, 38, 0, [(3, .map 0), (11, .sl b 3 (l.map czV)), (12, .int .i64 l.length), (13, .int .i64 i)], [.map ((l.take i).map kvC)], 0, []⟩
theorem loop120 (b : Bool) (l : List Cz) (hb : l.length < 1000000) (hn : ∀ c ∈ l, c.n.length < 1000000 ∧ c.l.length < 1000000) : ∀ i, i ≤ l.length → L120 b l i = some (.ret (.int .i64 (fnz (csEs l i (l.drop i)))), [], 0, []) := by
  refine down_ind l.length ?_ fun i hi ih => ?_
  · unfold L120
    rw [loopEq]
    have h1 := idx_out l.length
    simp -implicitDefEqProofs only [go_sem, simprocAttr, h1]
    simp [fnz, csEs]
  · obtain ⟨h1, h2, h3, h4, h5⟩ := idx_in hi (by omega)
    rw [h5]
    obtain ⟨k1, k2⟩ := hn l[i] (List.getElem_mem hi)
    have e1 := c190 l[i].n k1
    have e2 := c191 l[i] k2
    have e3 := getC (l.take i) l[i].n
    have e4 := key9 l[i].n
    have ef := csE_f l i l[i]
    simp only [czV] at e2
    have ed : dupN l i l[i] = (l.take i).any fun a => a.n == l[i].n := rfl
    rw [← ed] at e3
    cases h6 : (csE l i l[i] != 0)
    · have h7 : csE l i l[i] = 0 := by simpa using h6
      have h8 : dupN l i l[i] = false := by
        have := fnz_zero.1 h7 (cond (dupN l i l[i]) 9 0) (by simp)
        cases hd : dupN l i l[i] with
        | false => rfl
        | true => rw [hd] at this; cases this
      have e5 := setC hi h8
      unfold L120 at ih ⊢
      rw [loopEq]
      rw [h8] at e3 ef
      simp only [cond_false] at ef e3
      simp -implicitDefEqProofs only [go_sem, simprocAttr, h1, h2, h3, h4, e1, e2, e3, e4, c115, c114_3, ef, h6, e5, ih, cond_false]
      simp [fnz, csEs, h7]
    · have h7 : csE l i l[i] ≠ 0 := by simpa using h6
      unfold L120
      rw [loopEq]
      cases h8 : dupN l i l[i]
      · rw [h8] at e3 ef
        simp only [cond_false] at ef e3
        simp -implicitDefEqProofs only [go_sem, simprocAttr, h1, h2, h3, h4, e1, e2, e3, e4, c115, c114_3, ef, h6, cond_false]
        simp [fnz, csEs, h7]
      · rw [h8] at e3 ef
        simp only [cond_true] at ef e3
        simp -implicitDefEqProofs only [go_sem, simprocAttr, h1, h2, h3, h4, e1, e2, e3, e4, c115, c114_3, ef, h6, cond_true]
        simp [fnz, csEs, h7]
theorem c120 (b : Bool) (l : List Cz) (hb : l.length < 1000000) (hn : ∀ c ∈ l, c.n.length < 1000000 ∧ c.l.length < 1000000) : (lim T).call 120 [.sl b 3 (l.map czV)] [] 0 [] = some (.int .i64 (ckCs l), [], 0, []) := by
  rw [ent120]
  have h := loop120 b l hb hn 0 (by omega)
  rw [List.drop_zero] at h
  unfold L120 at h
  rw [show ((0 : Nat) : Int) = 0 from rfl, List.take_zero, List.map_nil] at h
  cases h1 : decide (8 < (l.length : Int))
  · have h2 : ¬ 8 < l.length := by simp at h1; omega
    simp -implicitDefEqProofs only [go_sem, simprocAttr, h, h1]
    simp [ckCs, h2]
  · have h2 : 8 < l.length := by simp at h1; omega
    simp -implicitDefEqProofs only [go_sem, simprocAttr, h1]
    simp [ckCs, h2]
theorem loop110 (b : Bool) (l : List Cz) (hb : l.length < 1000000) (hn : ∀ c ∈ l, c.n.length < 1000000 ∧ c.l.length < 1000000) : ∀ i, i ≤ l.length → (lim T).loop false [.code (.loop b110_0), .inBlock 0, .code (.seq r110_10 .ret)] ⟨110, 51, 0, [(0, .sl b 3 (l.map czV)), (3, .int .i64 i)], [], 0, []⟩ = some (.ret (.int .i64 (fnz (csEs l i (l.drop i)))), [], 0, []) := by
  refine down_ind l.length ?_ fun i hi ih => ?_
  · rw [loopEq]
    have h1 := idx_out l.length
    simp -implicitDefEqProofs only [go_sem, simprocAttr, h1]
    simp [fnz, csEs]
  · obtain ⟨h1, h2, h3, h4, h5⟩ := idx_in hi (by omega)
    rw [h5, loopEq]
    obtain ⟨k1, k2⟩ := hn l[i] (List.getElem_mem hi)
    have e1 := c188 l[i].n k1
    have e2 := c149 l[i].b l[i].l (by omega)
    have e3 := c189 b l[i].n (l.take i) (by simp; omega)
    simp only [List.map_take] at e3
    have e4 : decide (0 ≤ idxF (fun a : Cz => a.n == l[i].n) (l.take i) 0) = dupN l i l[i] := idxF_any _ _ 0
    have ef := csE_ref l i l[i]
    have hle : i ≤ l.length := by omega
    cases h6 : (csE l i l[i] != 0)
    · have h7 : csE l i l[i] = 0 := by simpa using h6
      simp -implicitDefEqProofs only [go_sem, simprocAttr, h1, h2, h3, h4, e1, e2, e3, e4, c39, c90, c108_6, ef, h6, ih]
      simp [fnz, csEs, h7, need, hle]
    · have h7 : csE l i l[i] ≠ 0 := by simpa using h6
      simp -implicitDefEqProofs only [go_sem, simprocAttr, h1, h2, h3, h4, e1, e2, e3, e4, c39, c90, c108_6, ef, h6]
      simp [fnz, csEs, h7, need, hle]
theorem c110 (b : Bool) (l : List Cz) (hb : l.length < 1000000) (hn : ∀ c ∈ l, c.n.length < 1000000 ∧ c.l.length < 1000000) : (lim T).call 110 [.sl b 3 (l.map czV)] [] 0 [] = some (.int .i64 (ckCs l), [], 0, []) := by
  rw [ent110]
  have h := loop110 b l hb hn 0 (by omega)
  rw [show ((0 : Nat) : Int) = 0 from rfl, List.drop_zero] at h
  cases h1 : decide (8 < (l.length : Int))
  · have h2 : ¬ 8 < l.length := by simp at h1; omega
    simp -implicitDefEqProofs only [go_sem, simprocAttr, h, h1]
    simp [ckCs, h2]
  · have h2 : 8 < l.length := by simp at h1; omega
    simp -implicitDefEqProofs only [go_sem, simprocAttr, h1]
    simp [ckCs, h2]
def rwV (r : Bool × List Int) : V := .sl r.1 1 (r.2.map intV)
structure Pk where
  vb : Bool
  v : List (Bool × List Int)
  n : Int
  cb : Bool
  c : List Cz
def pkV (p : Pk) : V := .agg [.sl p.vb 1 (p.v.map rwV), .int .i64 p.n, .sl p.cb 3 (p.c.map czV)]
attribute [go_sem] rwV
def chE (s : Nat) (r : Bool × List Int) : Int := fnz [szd r.2.length 8, cond ((r.2.length : Int) != s) 2 0, fnz (r.2.map fun n => ckE n)]
theorem chE_f (s : Nat) (r : Bool × List Int) : fnz [szd r.2.length 8, cond ((r.2.length : Int) != s) 2 0, fnz (r.2.map fun n => ckE n)] = chE s r := rfl
def caE (k s : Nat) (c : Cz) : Int := fnz [cond (decide ((k : Int) ≤ c.c)) 10 0, cond ((c.l.length : Int) != s) 2 0]
theorem caE_f (k s : Nat) (c : Cz) : fnz [cond (decide ((k : Int) ≤ c.c)) 10 0, cond ((c.l.length : Int) != s) 2 0] = caE k s c := rfl
def Pk.fit (p : Pk) : Prop := p.v.length < 1000 ∧ (∀ r ∈ p.v, r.2.length < 1000) ∧ p.c.length < 1000 ∧ ∀ c ∈ p.c, c.n.length < 1000000 ∧ c.l.length < 1000000
theorem first_in {p : Pk} {r0 : Bool × List Int} (h : p.v[0]? = some r0) : decide (0 < (p.v.length : Int)) = true := by
  obtain ⟨h, _⟩ := List.getElem?_eq_some_iff.1 h
  exact decide_eq_true (by omega)
theorem c113 (p : Pk) (r0 r : Bool × List Int) (h0 : p.v[0]? = some r0) (hr : r.2.length < 1000000) : (lim T).call 113 [.sl r.1 1 (r.2.map intV), .pp 3 [pkV p] 0 0] [] 0 [] = some (.int .i64 (chE r0.2.length r), [], 0, []) := by
  rw [ent113]
  have g := first_in h0
  have e1 := c116 r.1 r.2 hr
  have e2 := fun b => c114 b (r.2.map fun n => ckE n) (by simp; omega)
  have e3 : List.map intV (List.map (fun x => ckE x) r.2) = List.map (fun n => V.int .i64 n) (List.map (fun x => ckE x) r.2) := rfl
  rw [e3] at e1
  simp -implicitDefEqProofs only [go_sem, simprocAttr, pkV, h0, g, e1, e2, c115, c112, szd_f, c114_3, chE_f]
theorem c118 (p : Pk) (r0 : Bool × List Int) (c : Cz) (h0 : p.v[0]? = some r0) : (lim T).call 118 [.agg [.str c.n, .int .i64 c.c, .sl c.b 2 (c.l.map ivV)], .pp 3 [pkV p] 0 0] [] 0 [] = some (.int .i64 (caE p.v.length r0.2.length c), [], 0, []) := by
  rw [ent118]
  have g := first_in h0
  simp -implicitDefEqProofs only [go_sem, simprocAttr, pkV, h0, g, c115, c114_2, caE_f]
theorem loop119 (p : Pk) (r0 : Bool × List Int) (h0 : p.v[0]? = some r0) (b : Bool) (l : List (Bool × List Int)) (hb : l.length < 1000000) (hr : ∀ r ∈ l, r.2.length < 1000000) : ∀ i, i ≤ l.length → ∀ o : Option (List (Int)), acL o = i →
    (lim T).loop false [.code (.loop b119_0), .inBlock 0, .code (.seq r119_7 .ret)] ⟨119, 22, 0, [(1, .fn 113 [.pp 3 [pkV p] 0 0]), (5, acV o 0), (8, .sl b 1 (l.map rwV)), (9, .int .i64 l.length), (10, .int .i64 i)], acR intV o 29, 0, []⟩ =
      some (.ret (acO intV 0 1 (acA o ((l.drop i).map (fun r => chE r0.2.length r)))), [], 0, []) := by
  refine down_ind l.length ?_ fun i hi ih o ho => ?_
  · intro o ho
    rw [loopEq]
    have h1 := idx_out l.length
    cases o with
    | none =>
      simp -implicitDefEqProofs only [go_sem, simprocAttr, h1]
      simp [acA, acO]
    | some a =>
      simp -implicitDefEqProofs only [go_sem, simprocAttr, h1]
      simp [acA, acO]
  · obtain ⟨h1, h2, h3, h4, h5⟩ := idx_in hi (by omega)
    rw [loopEq, h5]
    have ih' := ih (acA o [((fun r => chE r0.2.length r) l[i])]) (by rw [acL_A, ho]; rfl)
    rw [acA_acA] at ih'
    dsimp only at ih'
    cases o with
    | none =>
      have h8 := row_ok (n := 0) (by omega)
      simp only [acA_n, acV_s, acR_s, List.map_cons, List.map_nil, intV] at ih'
      simp -implicitDefEqProofs only [go_sem, simprocAttr, h1, h2, h3, h4, ih', h8.2, c113 p r0 l[i] h0 (hr _ (List.getElem_mem hi))]
    | some a =>
      have h9 : a.length = i := ho
      have h8 := (row_ok (n := a.length) (by omega)).1
      simp only [acA_s, acV_s, acR_s, List.map_append, List.map_cons, List.map_nil, intV] at ih'
      simp -implicitDefEqProofs only [go_sem, simprocAttr, h1, h2, h3, h4, ih', h8, c113 p r0 l[i] h0 (hr _ (List.getElem_mem hi))]
theorem c119 (p : Pk) (r0 : Bool × List Int) (h0 : p.v[0]? = some r0) (b : Bool) (l : List (Bool × List Int)) (hb : l.length < 1000000) (hr : ∀ r ∈ l, r.2.length < 1000000) : (lim T).call 119 [.sl b 1 (l.map rwV), .fn 113 [.pp 3 [pkV p] 0 0]] [] 0 [] = some (slV 1 (((l).map (fun r => chE r0.2.length r)).map intV), [], 0, []) := by
  rw [ent119]
  have h := loop119 p r0 h0 b l hb hr 0 (by omega) none rfl
  rw [show ((0 : Nat) : Int) = 0 from rfl, List.drop_zero, acO_slV] at h
  simp only [acV_n, acR_n] at h
  simp -implicitDefEqProofs only [go_sem, simprocAttr, h]
theorem loop121 (p : Pk) (r0 : Bool × List Int) (h0 : p.v[0]? = some r0) (b : Bool) (l : List (Cz)) (hb : l.length < 1000000) : ∀ i, i ≤ l.length → ∀ o : Option (List (Int)), acL o = i →
    (lim T).loop false [.code (.loop b121_0), .inBlock 0, .code (.seq r121_7 .ret)] ⟨121, 22, 0, [(1, .fn 118 [.pp 3 [pkV p] 0 0]), (5, acV o 0), (8, .sl b 3 (l.map czV)), (9, .int .i64 l.length), (10, .int .i64 i)], acR intV o 29, 0, []⟩ =
      some (.ret (acO intV 0 1 (acA o ((l.drop i).map (fun c => caE p.v.length r0.2.length c)))), [], 0, []) := by
  refine down_ind l.length ?_ fun i hi ih o ho => ?_
  · intro o ho
    rw [loopEq]
    have h1 := idx_out l.length
    cases o with
    | none =>
      simp -implicitDefEqProofs only [go_sem, simprocAttr, h1]
      simp [acA, acO]
    | some a =>
      simp -implicitDefEqProofs only [go_sem, simprocAttr, h1]
      simp [acA, acO]
  · obtain ⟨h1, h2, h3, h4, h5⟩ := idx_in hi (by omega)
    rw [loopEq, h5]
    have ih' := ih (acA o [((fun c => caE p.v.length r0.2.length c) l[i])]) (by rw [acL_A, ho]; rfl)
    rw [acA_acA] at ih'
    dsimp only at ih'
    cases o with
    | none =>
      have h8 := row_ok (n := 0) (by omega)
      simp only [acA_n, acV_s, acR_s, List.map_cons, List.map_nil, intV] at ih'
      simp -implicitDefEqProofs only [go_sem, simprocAttr, h1, h2, h3, h4, ih', h8.2, c118 p r0 l[i] h0]
    | some a =>
      have h9 : a.length = i := ho
      have h8 := (row_ok (n := a.length) (by omega)).1
      simp only [acA_s, acV_s, acR_s, List.map_append, List.map_cons, List.map_nil, intV] at ih'
      simp -implicitDefEqProofs only [go_sem, simprocAttr, h1, h2, h3, h4, ih', h8, c118 p r0 l[i] h0]
theorem c121 (p : Pk) (r0 : Bool × List Int) (h0 : p.v[0]? = some r0) (b : Bool) (l : List (Cz)) (hb : l.length < 1000000) : (lim T).call 121 [.sl b 3 (l.map czV), .fn 118 [.pp 3 [pkV p] 0 0]] [] 0 [] = some (slV 1 (((l).map (fun c => caE p.v.length r0.2.length c)).map intV), [], 0, []) := by
  rw [ent121]
  have h := loop121 p r0 h0 b l hb  0 (by omega) none rfl
  rw [show ((0 : Nat) : Int) = 0 from rfl, List.drop_zero, acO_slV] at h
  simp only [acV_n, acR_n] at h
  simp -implicitDefEqProofs only [go_sem, simprocAttr, h]
def ckPk (p : Pk) : Int := if szd p.v.length 8 = 0 then fnz [fnz (p.v.map fun r => chE ((p.v[0]?.getD (false, [])).2.length) r), ckE p.n, ckCs p.c, fnz (p.c.map fun c => caE p.v.length ((p.v[0]?.getD (false, [])).2.length) c)] else szd p.v.length 8
theorem szd_ne {n : Nat} (h : szd n 8 = 0) : 0 < n ∧ n ≤ 8 := by
  unfold szd at h
  have h1 := fnz_zero.1 h (cond ((n : Int) == 0) 12 0) (by simp)
  have h2 := fnz_zero.1 h (cond (decide (8 < (n : Int))) 5 0) (by simp)
  constructor
  · cases n with
    | zero => cases h1
    | succ n => omega
  · by_cases hc : 8 < (n : Int)
    · simp [hc] at h2
    · omega
theorem c23 (p : Pk) (hf : p.fit) : (lim T).call 23 [pkV p] [] 0 [] = some (.int .i64 (ckPk p), [], 0, []) := by
  rw [ent23]
  obtain ⟨f1, f2, f3, f4⟩ := hf
  have e1 := c112 p.v.length 8
  rw [szd_f] at e1
  unfold ckPk
  cases h : (szd p.v.length 8 != 0)
  · have h0 : szd p.v.length 8 = 0 := by simpa using h
    rw [if_pos h0]
    obtain ⟨k1, k2⟩ := szd_ne h0
    have hr0 : p.v[0]? = some p.v[0] := List.getElem?_eq_getElem k1
    have e2 := c119 p p.v[0] hr0 p.vb p.v (by omega) (fun r hr => by have := f2 r hr; omega)
    have e3 := c121 p p.v[0] hr0 p.cb p.c (by omega)
    have e4 := c120 p.cb p.c (by omega) f4
    have e5 := fun b => c114 b (p.v.map fun r => chE p.v[0].2.length r) (by simp; omega)
    have e6 := fun b => c114 b (p.c.map fun c => caE p.v.length p.v[0].2.length c) (by simp; omega)
    have t1 : List.map intV (List.map (fun r => chE p.v[0].2.length r) p.v) = List.map (fun n => V.int .i64 n) (List.map (fun r => chE p.v[0].2.length r) p.v) := rfl
    have t2 : List.map intV (List.map (fun c => caE p.v.length p.v[0].2.length c) p.c) = List.map (fun n => V.int .i64 n) (List.map (fun c => caE p.v.length p.v[0].2.length c) p.c) := rfl
    rw [t1] at e2
    rw [t2] at e3
    rw [hr0]
    dsimp only [Option.getD_some]
    have e7 := c114_4 true (fnz (p.v.map fun r => chE p.v[0].2.length r)) (ckE p.n) (ckCs p.c) (fnz (p.c.map fun c => caE p.v.length p.v[0].2.length c))
    simp only [pkV] at e2 e3
    simp -implicitDefEqProofs only [go_sem, simprocAttr, pkV, e1, h, e2, e3, e4, e5, e6, e7, c117]
  · have h0 : ¬ szd p.v.length 8 = 0 := by simpa using h
    rw [if_neg h0]
    simp -implicitDefEqProofs only [go_sem, simprocAttr, pkV, e1, h]
def chQ (s : Nat) (r : Bool × List Int) : Int := fnz [cond ((r.2.length : Int) == 0) 12 0, cond (decide (8 < (r.2.length : Int))) 5 0, cond ((r.2.length : Int) != s) 2 0]
theorem chQ_f (s : Nat) (r : Bool × List Int) : fnz [cond ((r.2.length : Int) == 0) 12 0, cond (decide (8 < (r.2.length : Int))) 5 0, cond ((r.2.length : Int) != s) 2 0] = chQ s r := rfl
theorem chE_ref (s : Nat) (r : Bool × List Int) : chE s r = if chQ s r = 0 then fnz (r.2.map fun n => ckE n) else chQ s r := by
  unfold chE chQ szd
  simp only [fnz]
  by_cases h : cond ((r.2.length : Int) == 0) (12 : Int) 0 = 0
  · by_cases h' : cond (decide (8 < (r.2.length : Int))) (5 : Int) 0 = 0
    · by_cases h'' : cond ((r.2.length : Int) != s) (2 : Int) 0 = 0
      · simp only [h, h', h'', if_true]
        by_cases h3 : fnz (r.2.map fun n => ckE n) = 0 <;> simp [h3]
      · simp [h, h', h'']
    · simp [h, h']
  · simp [h]
def brE (e : Int) (x : Option Out) : Option Out := if e = 0 then x else some (.ret (.int .i64 e), [], 0, [])
theorem brE_c {a : Int} {l : List Int} {x : Option Out} (h : a = 0) : brE (fnz (a :: l)) x = brE (fnz l) x := by simp [brE, fnz, h]
theorem brE_n {a : Int} {l : List Int} {x : Option Out} (h : ¬ a = 0) : brE (fnz (a :: l)) x = some (.ret (.int .i64 a), [], 0, []) := by simp [brE, fnz, h]
def L20i (p : Pk) (s : Nat) (r : Bool × List Int) (i k : Nat) : Option Out :=
  (lim T).loop false [.code (.loop b20_1), .inBlock 2, .inBlock 1, .code r20_7, .inLoop b20_0, .inBlock 0, .code (.seq (.seq r20_18 (.seq r20_19 (.cond (.tmp 86) (.seq r20_20 .ret) .skip))) (.seq (.seq r20_21 (.block 4 (.loop b20_2))) (.seq r20_27 .ret)))]
    ⟨20, 121, 0, [(1, .ptr 0 0 0), (4, .int .i64 s), (5, .int .i64 i), (6, .sl r.1 1 (r.2.map intV)), (8, .int .i64 k)], [.cells true true 25 [pkV p]], 0, []⟩
theorem loop20i (p : Pk) (s : Nat) (r : Bool × List Int) (i : Nat) (hr : r.2.length < 1000000) : ∀ k, k ≤ r.2.length → L20i p s r i k = brE (fnz ((r.2.drop k).map fun n => ckE n)) (L20i p s r i r.2.length) := by
  refine down_ind r.2.length ?_ fun k hk ih => ?_
  · have h0 : r.2.drop r.2.length = [] := by simp
    rw [h0]; rfl
  · obtain ⟨h1, h2, h3, h4, h5⟩ := idx_in hk (by omega)
    rw [h5, List.map_cons]
    conv => lhs; unfold L20i; rw [loopEq]
    cases h6 : (ckE r.2[k] != 0)
    · have h7 : ckE r.2[k] = 0 := by simpa using h6
      rw [brE_c h7, ← ih]
      unfold L20i
      simp -implicitDefEqProofs only [go_sem, simprocAttr, pkV, h1, h2, h3, h4, h6, c109]
    · have h7 : ¬ ckE r.2[k] = 0 := by simpa using h6
      rw [brE_n h7]
      simp -implicitDefEqProofs only [go_sem, simprocAttr, pkV, h1, h2, h3, h4, h6, c109]
def L20 (p : Pk) (s : Nat) (i : Nat) : Option Out :=
  (lim T).loop false [.code (.loop b20_0), .inBlock 0, .code (.seq (.seq r20_18 (.seq r20_19 (.cond (.tmp 86) (.seq r20_20 .ret) .skip))) (.seq (.seq r20_21 (.block 4 (.loop b20_2))) (.seq r20_27 .ret)))]
    ⟨20, 121, 0, [(1, .ptr 0 0 0), (4, .int .i64 s), (5, .int .i64 i)], [.cells true true 25 [pkV p]], 0, []⟩
theorem loop20 (p : Pk) (s : Nat) (hv : p.v.length < 1000) (hr : ∀ r ∈ p.v, r.2.length < 1000) : ∀ i, i ≤ p.v.length → L20 p s i = brE (fnz ((p.v.drop i).map fun r => chE s r)) (L20 p s p.v.length) := by
  refine down_ind p.v.length ?_ fun i hi ih => ?_
  · have h0 : p.v.drop p.v.length = [] := by simp
    rw [h0]; rfl
  · obtain ⟨h1, h2, h3, h4, h5⟩ := idx_in hi (by omega)
    rw [h5, List.map_cons]
    have hri := hr _ (List.getElem_mem hi)
    have hI := loop20i p s p.v[i] i (by omega) 0 (by omega)
    rw [List.drop_zero] at hI
    have hE := idx_out p.v[i].2.length
    have fin : L20i p s p.v[i] i p.v[i].2.length = L20 p s (i + 1) := by
      unfold L20i L20
      rw [loopEq]
      simp -implicitDefEqProofs only [go_sem, simprocAttr, pkV, hE, h4]
    rw [fin] at hI
    conv at hI => lhs; unfold L20i
    rw [show ((0 : Nat) : Int) = 0 from rfl] at hI
    simp only [pkV] at hI
    conv => lhs; unfold L20; rw [loopEq]
    have hch := chE_ref s p.v[i]
    cases h6 : (chQ s p.v[i] != 0)
    · have h7 : chQ s p.v[i] = 0 := by simpa using h6
      rw [if_pos h7] at hch
      by_cases h8 : fnz (p.v[i].2.map fun n => ckE n) = 0
      · rw [h8] at hch
        unfold brE at hI
        rw [if_pos h8] at hI
        rw [brE_c hch, ← ih]
        conv at hI => rhs; unfold L20
        simp only [pkV] at hI
        conv => rhs; unfold L20
        simp -implicitDefEqProofs only [go_sem, simprocAttr, pkV, h1, h2, h3, h4, c39, c108_3, chQ_f, h6, hI]
      · unfold brE at hI
        rw [if_neg h8, ← hch] at hI
        rw [← hch] at h8
        rw [brE_n h8]
        simp -implicitDefEqProofs only [go_sem, simprocAttr, pkV, h1, h2, h3, h4, c39, c108_3, chQ_f, h6, hI]
    · have h7 : ¬ chQ s p.v[i] = 0 := by simpa using h6
      rw [if_neg h7] at hch
      rw [← hch] at h7
      rw [brE_n h7, hch]
      simp -implicitDefEqProofs only [go_sem, simprocAttr, pkV, h1, h2, h3, h4, c39, c108_3, chQ_f, h6]
def L20c (p : Pk) (s : Nat) (i : Nat) : Option Out :=
  (lim T).loop false [.code (.loop b20_2), .inBlock 4, .code (.seq r20_27 .ret)]
    ⟨20, 121, 0, [(1, .ptr 0 0 0), (4, .int .i64 s), (11, .int .i64 i)], [.cells true true 25 [pkV p]], 0, []⟩
theorem loop20c (p : Pk) (s : Nat) (hc : p.c.length < 1000) : ∀ i, i ≤ p.c.length → L20c p s i = some (.ret (.int .i64 (fnz ((p.c.drop i).map fun c => caE p.v.length s c))), [], 0, []) := by
  refine down_ind p.c.length ?_ fun i hi ih => ?_
  · have h0 : p.c.drop p.c.length = [] := by simp
    rw [h0]
    unfold L20c
    rw [loopEq]
    have h1 := idx_out p.c.length
    simp -implicitDefEqProofs only [go_sem, simprocAttr, pkV, h1]
    simp [fnz]
  · obtain ⟨h1, h2, h3, h4, h5⟩ := idx_in hi (by omega)
    rw [h5, List.map_cons]
    simp only [fnz]
    unfold L20c at ih ⊢
    simp only [pkV] at ih
    rw [loopEq]
    cases h6 : (caE p.v.length s p.c[i] != 0)
    · have h7 : caE p.v.length s p.c[i] = 0 := by simpa using h6
      rw [if_pos h7]
      simp -implicitDefEqProofs only [go_sem, simprocAttr, pkV, h1, h2, h3, h4, c39, c108_2, caE_f, h6, ih]
    · have h7 : ¬ caE p.v.length s p.c[i] = 0 := by simpa using h6
      rw [if_neg h7]
      simp -implicitDefEqProofs only [go_sem, simprocAttr, pkV, h1, h2, h3, h4, c39, c108_2, caE_f, h6]
theorem fnz4 (a b c d : Int) : fnz [a, b, c, d] = if a = 0 then (if fnz [b, c] = 0 then d else fnz [b, c]) else a := by
  simp only [fnz]
  by_cases h : a = 0
  · by_cases h' : b = 0
    · by_cases h'' : c = 0
      · by_cases h3 : d = 0 <;> simp [h, h', h'', h3]
      · simp [h, h', h'']
    · simp [h, h']
  · simp [h]
theorem c20 (p : Pk) (hf : p.fit) : (lim T).call 20 [pkV p] [] 0 [] = some (.int .i64 (ckPk p), [], 0, []) := by
  rw [ent20]
  obtain ⟨f1, f2, f3, f4⟩ := hf
  unfold ckPk
  cases h : (szd p.v.length 8 != 0)
  · have h0 : szd p.v.length 8 = 0 := by simpa using h
    rw [if_pos h0]
    obtain ⟨k1, k2⟩ := szd_ne h0
    have hr0 : p.v[0]? = some p.v[0] := List.getElem?_eq_getElem k1
    have g := first_in hr0
    rw [hr0]
    dsimp only [Option.getD_some]
    rw [fnz4]
    have hL := loop20 p p.v[0].2.length f1 f2 0 (by omega)
    rw [List.drop_zero] at hL
    have hC := loop20c p p.v[0].2.length f3 0 (by omega)
    rw [List.drop_zero] at hC
    unfold L20c at hC
    rw [show ((0 : Nat) : Int) = 0 from rfl] at hC
    simp only [pkV] at hC
    have e4 := c110 p.cb p.c (by omega) f4
    have hE := idx_out p.v.length
    by_cases h8 : fnz (p.v.map fun r => chE p.v[0].2.length r) = 0
    · unfold brE at hL
      rw [if_pos h8] at hL ⊢
      have fin : L20 p p.v[0].2.length p.v.length = some (.ret (.int .i64 (if fnz [ckE p.n, ckCs p.c] = 0 then fnz (p.c.map fun c => caE p.v.length p.v[0].2.length c) else fnz [ckE p.n, ckCs p.c])), [], 0, []) := by
        unfold L20
        rw [loopEq]
        cases h9 : (fnz [ckE p.n, ckCs p.c] != 0)
        · have h10 : fnz [ckE p.n, ckCs p.c] = 0 := by simpa using h9
          rw [if_pos h10]
          simp -implicitDefEqProofs only [go_sem, simprocAttr, pkV, hE, e4, c109, c108_2, h9, hC]
        · have h10 : ¬ fnz [ckE p.n, ckCs p.c] = 0 := by simpa using h9
          rw [if_neg h10]
          simp -implicitDefEqProofs only [go_sem, simprocAttr, pkV, hE, e4, c109, c108_2, h9]
      rw [fin] at hL
      unfold L20 at hL
      rw [show ((0 : Nat) : Int) = 0 from rfl] at hL
      simp only [pkV] at hL
      simp -implicitDefEqProofs only [go_sem, simprocAttr, pkV, c39, c108_2, szd_f, h, g, hr0, hL]
    · unfold brE at hL
      rw [if_neg h8] at hL ⊢
      unfold L20 at hL
      rw [show ((0 : Nat) : Int) = 0 from rfl] at hL
      simp only [pkV] at hL
      simp -implicitDefEqProofs only [go_sem, simprocAttr, pkV, c39, c108_2, szd_f, h, g, hr0, hL]
  · have h0 : ¬ szd p.v.length 8 = 0 := by simpa using h
    rw [if_neg h0]
    simp -implicitDefEqProofs only [go_sem, simprocAttr, pkV, c39, c108_2, szd_f, h]
def ownC (c : Cz) : Cz := ⟨c.n, c.c, true, c.l⟩
theorem loop172 (b : Bool) (l : List Cz) (hb : l.length < 1000) (hl : ∀ c ∈ l, c.l.length < 1000000) : ∀ i, i ≤ l.length → ∀ o : Option (List Cz), acL o = i →
    (lim T).loop false [.code (.loop b172_0), .inBlock 0, .code (.seq r172_8 .ret)] ⟨172, 26, 0, [(0, .sl b 3 (l.map czV)), (3, acV o 0), (4, .int .i64 i)], acR czV o 140, 0, []⟩ =
      some (.ret (acO czV 0 3 (acA o ((l.drop i).map ownC))), [], 0, []) := by
  refine down_ind l.length ?_ fun i hi ih o ho => ?_
  · intro o ho
    rw [loopEq]
    have h1 := idx_out l.length
    cases o with
    | none =>
      simp -implicitDefEqProofs only [go_sem, simprocAttr, h1]
      simp [acA, acO]
    | some a =>
      simp -implicitDefEqProofs only [go_sem, simprocAttr, h1]
      simp [acA, acO]
  · obtain ⟨h1, h2, h3, h4, h5⟩ := idx_in hi (by omega)
    rw [loopEq, h5]
    have ih' := ih (acA o [ownC l[i]]) (by rw [acL_A, ho]; rfl)
    rw [acA_acA] at ih'
    have hli := hl _ (List.getElem_mem hi)
    cases hx : l[i].l with
    | nil =>
      cases o with
      | none =>
        have h8 := row_ok (n := 0) (by omega)
        simp only [acA_n, acV_s, acR_s, List.map_cons, List.map_nil, czV, ownC, hx] at ih'
        simp -implicitDefEqProofs only [go_sem, simprocAttr, h1, h2, h3, h4, hx, ih', h8.2, ownC]
      | some a =>
        have h9 : a.length = i := ho
        have h8 := (row_ok (n := a.length) (by omega)).1
        simp only [acA_s, acV_s, acR_s, List.map_append, List.map_cons, List.map_nil, czV, ownC, hx] at ih'
        simp -implicitDefEqProofs only [go_sem, simprocAttr, h1, h2, h3, h4, hx, ih', h8, ownC]
    | cons y r =>
      have h7 := (row_ok (n := r.length) (by rw [hx] at hli; simp at hli; omega)).1
      cases o with
      | none =>
        have h8 := row_ok (n := 0) (by omega)
        simp only [acA_n, acV_s, acR_s, List.map_cons, List.map_nil, czV, ownC, hx, ivV] at ih'
        simp -implicitDefEqProofs only [go_sem, simprocAttr, h1, h2, h3, h4, hx, ih', h8.2, h7, ownC]
      | some a =>
        have h9 : a.length = i := ho
        have h8 := (row_ok (n := a.length) (by omega)).1
        simp only [acA_s, acV_s, acR_s, List.map_append, List.map_cons, List.map_nil, czV, ownC, hx, ivV] at ih'
        simp -implicitDefEqProofs only [go_sem, simprocAttr, h1, h2, h3, h4, hx, ih', h8, h7, ownC]
theorem c172 (b : Bool) (l : List Cz) (hb : l.length < 1000) (hl : ∀ c ∈ l, c.l.length < 1000000) : (lim T).call 172 [.sl b 3 (l.map czV)] [] 0 [] = some (slV 3 ((l.map ownC).map czV), [], 0, []) := by
  rw [ent172]
  have h := loop172 b l hb hl 0 (by omega) none rfl
  rw [show ((0 : Nat) : Int) = 0 from rfl, List.drop_zero, acO_slV] at h
  simp only [acV_n, acR_n] at h
  simp -implicitDefEqProofs only [go_sem, simprocAttr, h]
def ownR (r : Bool × List Int) : Bool × List Int := (true, r.2)
def L88 (p : Pk) (o : Option (List (Bool × List Int))) (i : Nat) : Option Out :=
  (lim T).loop false [.code (.loop b88_0), .inBlock 0, .code (.seq r88_6 (.seq r88_7 .ret))]
    ⟨88, 32, 0, [(1, .ptr 0 0 0), (2, .ptr 1 0 0), (3, .ptr 2 0 0), (4, .int .i64 i)], .cells true true 25 [pkV p] :: .cells true true 25 [.agg [.sl false 0 [], .int .i64 0, .sl false 0 []]] :: .cells true o.isNone 25 [.agg [acV o 3, .int .i64 p.n, .sl false 0 []]] :: acR rwV o 28, 0, []⟩
def ownK (p : Pk) : V := .agg [slV 1 ((p.v.map ownR).map rwV), .int .i64 p.n, .sl (!((p.c.map ownC).map czV).isEmpty) 3 ((p.c.map ownC).map czV)]
theorem loop88 (p : Pk) (hf : p.fit) : ∀ i, i ≤ p.v.length → ∀ o : Option (List (Bool × List Int)), acL o = i →
    L88 p o i = some (.ret (.agg [acO rwV 0 1 (acA o ((p.v.drop i).map ownR)), .int .i64 p.n, .sl (!((p.c.map ownC).map czV).isEmpty) 3 ((p.c.map ownC).map czV)]), [], 0, []) := by
  obtain ⟨f1, f2, f3, f4⟩ := hf
  have e1 := c172 p.cb p.c f3 (fun c hc => (f4 c hc).2)
  refine down_ind p.v.length ?_ fun i hi ih o ho => ?_
  · intro o ho
    unfold L88
    rw [loopEq]
    have h1 := idx_out p.v.length
    cases o with
    | none =>
      simp only [acV_n, acR_n, Option.isNone_none]
      simp -implicitDefEqProofs only [go_sem, simprocAttr, pkV, h1, e1]
      simp [acA, acO]
    | some a =>
      simp only [acV_s, acR_s, Option.isNone_some]
      simp -implicitDefEqProofs only [go_sem, simprocAttr, pkV, h1, e1]
      simp [acA, acO]
  · obtain ⟨h1, h2, h3, h4, h5⟩ := idx_in hi (by omega)
    rw [h5]
    have ih' := ih (acA o [ownR p.v[i]]) (by rw [acL_A, ho]; rfl)
    rw [acA_acA] at ih'
    have hli := f2 _ (List.getElem_mem hi)
    unfold L88 at ih' ⊢
    rw [loopEq]
    cases hx : p.v[i].2 with
    | nil =>
      cases o with
      | none =>
        have h8 := row_ok (n := 0) (by omega)
        simp only [acA_n, acV_s, acR_s, acV_n, acR_n, Option.isNone_some, Option.isNone_none, List.map_cons, List.map_nil, rwV, ownR, hx, pkV] at ih' ⊢
        simp -implicitDefEqProofs only [go_sem, simprocAttr, pkV, h1, h2, h3, h4, hx, ih', h8.2]
      | some a =>
        have h9 : a.length = i := ho
        have h8 := (row_ok (n := a.length) (by omega)).1
        simp only [acA_s, acV_s, acR_s, Option.isNone_some, List.map_append, List.map_cons, List.map_nil, rwV, ownR, hx, pkV] at ih' ⊢
        simp -implicitDefEqProofs only [go_sem, simprocAttr, pkV, h1, h2, h3, h4, hx, ih', h8]
    | cons y r =>
      have h7 := (row_ok (n := r.length) (by rw [hx] at hli; simp at hli; omega)).1
      cases o with
      | none =>
        have h8 := row_ok (n := 0) (by omega)
        simp only [acA_n, acV_s, acR_s, acV_n, acR_n, Option.isNone_some, Option.isNone_none, List.map_cons, List.map_nil, rwV, ownR, hx, pkV, intV] at ih' ⊢
        simp -implicitDefEqProofs only [go_sem, simprocAttr, pkV, h1, h2, h3, h4, hx, ih', h8.2, h7]
      | some a =>
        have h9 : a.length = i := ho
        have h8 := (row_ok (n := a.length) (by omega)).1
        simp only [acA_s, acV_s, acR_s, Option.isNone_some, List.map_append, List.map_cons, List.map_nil, rwV, ownR, hx, pkV, intV] at ih' ⊢
        simp -implicitDefEqProofs only [go_sem, simprocAttr, pkV, h1, h2, h3, h4, hx, ih', h8, h7]
theorem c88 (p : Pk) (hf : p.fit) : (lim T).call 88 [pkV p] [] 0 [] = some (ownK p, [], 0, []) := by
  rw [ent88]
  have h := loop88 p hf 0 (by omega) none rfl
  rw [List.drop_zero, acO_slV] at h
  unfold L88 at h
  rw [show ((0 : Nat) : Int) = 0 from rfl] at h
  simp only [acV_n, acR_n, Option.isNone_none, pkV] at h
  unfold ownK
  simp -implicitDefEqProofs only [go_sem, simprocAttr, pkV, h]
def L18 (vb : Bool) (vs : List V) (n : Int) (b : Bool) (l : List Cz) (o : Option (List Cz)) (i : Nat) : Option Out :=
  (lim T).loop false [.code (.loop b18_0), .inBlock 0, .code (.seq r18_8 .ret)]
    ⟨18, 28, 0, [(2, .ptr 0 0 0), (3, .ptr 1 0 0), (14, .sl b 3 (l.map czV)), (15, .int .i64 l.length), (16, .int .i64 i)], .cells true true 34 [.agg [.sl false 0 [], .int .i64 0, .sl false 0 []]] :: .cells true o.isNone 34 [.agg [.sl vb 1 vs, .int .i64 n, acV o 2]] :: acR czV o 180, 0, []⟩
theorem loop18 (vb : Bool) (vs : List V) (n : Int) (b : Bool) (l : List Cz) (hb : l.length < 1000) : ∀ i, i ≤ l.length → ∀ o : Option (List Cz), acL o = i →
    L18 vb vs n b l o i = some (.ret (.agg [.sl vb 1 vs, .int .i64 n, acO czV 0 3 (acA o (l.drop i))]), [], 0, []) := by
  refine down_ind l.length ?_ fun i hi ih o ho => ?_
  · intro o ho
    unfold L18
    rw [loopEq]
    have h1 := idx_out l.length
    cases o with
    | none =>
      simp only [acV_n, acR_n, Option.isNone_none]
      simp -implicitDefEqProofs only [go_sem, simprocAttr, h1]
      simp [acA, acO]
    | some a =>
      simp only [acV_s, acR_s, Option.isNone_some]
      simp -implicitDefEqProofs only [go_sem, simprocAttr, h1]
      simp [acA, acO]
  · obtain ⟨h1, h2, h3, h4, h5⟩ := idx_in hi (by omega)
    rw [h5]
    have ih' := ih (acA o [l[i]]) (by rw [acL_A, ho]; rfl)
    rw [acA_acA] at ih'
    unfold L18 at ih' ⊢
    rw [loopEq]
    cases o with
    | none =>
      have h8 := row_ok (n := 0) (by omega)
      simp only [acA_n, acV_s, acR_s, acV_n, acR_n, Option.isNone_some, Option.isNone_none, List.map_cons, List.map_nil, czV] at ih' ⊢
      simp -implicitDefEqProofs only [go_sem, simprocAttr, h1, h2, h3, h4, ih', h8.2]
    | some a =>
      have h9 : a.length = i := ho
      have h8 := (row_ok (n := a.length) (by omega)).1
      simp only [acA_s, acV_s, acR_s, Option.isNone_some, List.map_append, List.map_cons, List.map_nil, czV] at ih' ⊢
      simp -implicitDefEqProofs only [go_sem, simprocAttr, h1, h2, h3, h4, ih', h8]
theorem c18 (p : Pk) (hf : p.fit) : (lim T).call 18 [pkV p] [] 0 [] = some (.agg [.sl (!((p.v.map ownR).map rwV).isEmpty) 1 ((p.v.map ownR).map rwV), .int .i64 p.n, slV 3 ((p.c.map ownC).map czV)], [], 0, []) := by
  rw [ent18]
  have e1 := c88 p hf
  unfold ownK at e1
  have h := loop18 (!((p.v.map ownR).map rwV).isEmpty) ((p.v.map ownR).map rwV) p.n (!((p.c.map ownC).map czV).isEmpty) (p.c.map ownC) (by simp; exact hf.2.2.1) 0 (by omega) none rfl
  rw [List.drop_zero, acO_slV] at h
  unfold L18 at h
  rw [show ((0 : Nat) : Int) = 0 from rfl] at h
  simp only [acV_n, acR_n, Option.isNone_none, List.length_map] at h
  simp only [pkV] at e1
  simp -implicitDefEqProofs only [go_sem, simprocAttr, pkV, e1, h]
theorem c234 (x : Int) : (lim T).call 234 [.int .i64 x] [] 0 [] = some (.bool false, [], 0, []) := by
  rw [ent234]
  have h : (x != x) = false := by simp
  simp -implicitDefEqProofs only [go_sem, simprocAttr, h]
theorem c275 (x y : Int) : (lim T).call 275 [.int .i64 x, .int .i64 y] [] 0 [] = some (.bool (decide (x < y)), [], 0, []) := by
  rw [ent275]
  simp -implicitDefEqProofs only [go_sem, simprocAttr, c234]
def insRev (x : Int) : List Int → List Int
  | [] => [x]
  | p :: r => if x < p then p :: insRev x r else x :: p :: r
def srtR (acc : List Int) : List Int → List Int
  | [] => acc
  | x :: r => srtR (insRev x acc) r
def srt (l : List Int) : List Int := (srtR [] l).reverse
theorem insRev_len (x : Int) (l : List Int) : (insRev x l).length = l.length + 1 := by
  induction l with
  | nil => rfl
  | cons p r ih => simp only [insRev]; split <;> simp [ih]
theorem insRev_perm (x : Int) (l : List Int) : (insRev x l).Perm (x :: l) := by
  induction l with
  | nil => exact .refl _
  | cons p r ih =>
    simp only [insRev]
    split
    · exact (ih.cons p).trans (.swap x p r)
    · exact .refl _
theorem insRev_sorted (x : Int) (l : List Int) (h : l.Pairwise (· ≥ ·)) : (insRev x l).Pairwise (· ≥ ·) := by
  induction l with
  | nil => simp [insRev]
  | cons p r ih =>
    rw [List.pairwise_cons] at h
    simp only [insRev]
    split
    · rename_i hx
      rw [List.pairwise_cons]
      refine ⟨fun y hy => ?_, ih h.2⟩
      rcases List.mem_cons.1 ((insRev_perm x r).mem_iff.1 hy) with rfl | hy
      · omega
      · exact h.1 y hy
    · rename_i hx
      rw [List.pairwise_cons, List.pairwise_cons]
      refine ⟨fun y hy => ?_, h⟩
      rcases List.mem_cons.1 hy with rfl | hy
      · omega
      · have := h.1 y hy; omega
theorem srtR_spec : ∀ (l acc : List Int), acc.Pairwise (· ≥ ·) → (srtR acc l).Pairwise (· ≥ ·) ∧ (srtR acc l).Perm (l ++ acc)
  | [], acc, h => ⟨h, .refl _⟩
  | x :: r, acc, h => by
    obtain ⟨h1, h2⟩ := srtR_spec r (insRev x acc) (insRev_sorted x acc h)
    refine ⟨h1, h2.trans ?_⟩
    have := (insRev_perm x acc).append_left r
    exact this.trans List.perm_middle
theorem srt_sorted (l : List Int) : (srt l).Pairwise (· ≤ ·) := by
  unfold srt
  rw [List.pairwise_reverse]
  exact (srtR_spec l [] List.Pairwise.nil).1
theorem srt_perm (l : List Int) : (srt l).Perm l := by
  unfold srt
  have := (srtR_spec l [] List.Pairwise.nil).2
  rw [List.append_nil] at this
  exact (List.reverse_perm _).trans this
theorem get_x (R Q : List Int) (x : Int) : (R.reverse ++ x :: Q)[R.length]? = some x := by
  rw [List.getElem?_append_right (by simp)]; simp
theorem get_p (R Q : List Int) (p x : Int) : ((p :: R).reverse ++ x :: Q)[R.length]? = some p := by
  rw [List.reverse_cons, List.append_assoc, List.getElem?_append_right (by simp)]; simp
theorem swp_l (R Q : List Int) (p x : Int) : (((p :: R).reverse ++ x :: Q).set (R.length + 1) p).set R.length x = R.reverse ++ x :: p :: Q := by
  rw [List.reverse_cons, List.append_assoc, List.set_append_right _ _ (by simp), List.set_append_right _ _ (by simp)]
  simp
def L269i (l : List Int) (n i j : Nat) : Option Out :=
  (lim T).loop false [.code (.loop b269_1), .inBlock 2, .inBlock 1, .code r269_2, .inLoop b269_0, .inBlock 0]
    ⟨269, 49, 1, [(0, .ref 0), (1, .int .i64 0), (2, .int .i64 n), (6, .int .i64 i), (7, .int .i64 j)], [.cells false true 3 (l.map intV)], 0, []⟩
def L269 (l : List Int) (n i : Nat) : Option Out :=
  (lim T).loop false [.code (.loop b269_0), .inBlock 0]
    ⟨269, 49, 1, [(0, .ref 0), (1, .int .i64 0), (2, .int .i64 n), (6, .int .i64 i)], [.cells false true 3 (l.map intV)], 0, []⟩
theorem loop269i (n i : Nat) (hn : n < 1000000) (hi : i < 1000000) (x : Int) : ∀ (R Q : List Int), (R.reverse ++ x :: Q).length < 1000000 → L269i (R.reverse ++ x :: Q) n i R.length = L269 ((insRev x R).reverse ++ Q) n (i + 1) := by
  intro R
  induction R with
  | nil =>
    intro Q hl
    unfold L269i
    rw [loopEq]
    have h4 : IntKind.i64.wrap ((i : Int) + 1) = ((i + 1 : Nat) : Int) := by rw [wrap64] <;> omega
    simp only [List.length_nil, insRev, List.reverse_nil, List.nil_append, List.reverse_cons, List.cons_append]
    unfold L269
    simp -implicitDefEqProofs only [go_sem, simprocAttr, h4]
  | cons p R ih =>
    intro Q hl
    have g1 := get_x (p :: R) Q x
    have g2 := get_p R Q p x
    have g3 := swp_l R Q p x
    have hll : ((p :: R).reverse ++ x :: Q).length = R.length + 2 + Q.length := by simp; omega
    rw [hll] at hl
    have w1 : IntKind.i64.wrap (((R.length + 1 : Nat) : Int) - 1) = (R.length : Int) := by rw [wrap64] <;> omega
    have w2 : IntKind.i64.wrap ((i : Int) + 1) = ((i + 1 : Nat) : Int) := by rw [wrap64] <;> omega
    have d1 : decide (0 < ((R.length + 1 : Nat) : Int)) = true := decide_eq_true (by omega)
    have d2 : decide (0 ≤ ((R.length + 1 : Nat) : Int) ∧ ((R.length + 1 : Nat) : Int) < (((p :: R).reverse ++ x :: Q).length : Int)) = true := by rw [hll]; exact decide_eq_true (by omega)
    have d3 : decide (0 ≤ (R.length : Int) ∧ (R.length : Int) < (((p :: R).reverse ++ x :: Q).length : Int)) = true := by rw [hll]; exact decide_eq_true (by omega)
    have ih' := ih (p :: Q) (by simp at *; omega)
    rw [← g3] at ih'
    rw [List.length_cons] at g1 ⊢
    generalize hL : (p :: R).reverse ++ x :: Q = L at *
    have d4 : R.length < L.length := by rw [hll]; omega
    have d5 : R.length + 1 < L.length := by rw [hll]; omega
    have g4 : ((L.map intV).set (R.length + 1) (.int .i64 p))[R.length]? = some (.int .i64 p) := by
      rw [List.getElem?_set_ne (by omega), List.getElem?_map, g2]; rfl
    unfold L269i
    rw [loopEq]
    cases hx : decide (x < p)
    · have hx' : ¬ x < p := by simpa using hx
      have e : (insRev x (p :: R)).reverse ++ Q = L := by simp only [insRev, if_neg hx']; rw [← hL]; simp
      rw [e]
      unfold L269
      simp -implicitDefEqProofs only [go_sem, simprocAttr, d1, d2, d3, g1, g2, w1, w2, c275, hx]
    · have hx' : x < p := by simpa using hx
      have e : (insRev x (p :: R)).reverse ++ Q = (insRev x R).reverse ++ p :: Q := by simp only [insRev, if_pos hx']; simp
      rw [e, ← ih']
      unfold L269i
      simp -implicitDefEqProofs only [go_sem, simprocAttr, d1, d2, d3, g1, g2, w1, w2, c275, hx, d4, d5, g4, List.map_set]
theorem loop269 (n : Nat) (hn : n < 100000) : ∀ (r R : List Int), R.length + r.length = n → 0 < R.length → L269 (R.reverse ++ r) n R.length = some (.ret (.tup []), [.cells false true 3 ((srtR R r).reverse.map intV)], 0, []) := by
  intro r
  induction r with
  | nil =>
    intro R hl _
    simp only [List.length_nil, Nat.add_zero] at hl
    subst hl
    rw [List.append_nil]
    unfold L269
    rw [loopEq]
    have h1 := idx_out R.length
    simp -implicitDefEqProofs only [go_sem, simprocAttr, h1]
    rfl
  | cons x r ih =>
    intro R hl hR
    rw [List.length_cons] at hl
    have hI := loop269i n R.length (by omega) (by omega) x R r (by simp; omega)
    have h1 : decide ((R.length : Int) < (n : Int)) = true := decide_eq_true (by omega)
    have hh : L269 (R.reverse ++ x :: r) n R.length = L269i (R.reverse ++ x :: r) n R.length R.length := by
      conv => lhs; unfold L269; rw [loopEq]
      unfold L269i
      simp -implicitDefEqProofs only [go_sem, simprocAttr, h1]
    rw [hh, hI]
    have ih' := ih (insRev x R) (by rw [insRev_len]; omega) (by rw [insRev_len]; omega)
    rw [insRev_len] at ih'
    exact ih'
theorem c269 (l : List Int) (hl : l.length < 100000) (h0 : 0 < l.length) : (lim T).call 269 [.ref 0, .int .i64 0, .int .i64 l.length] [.cells false true 3 (l.map intV)] 0 [] = some (.tup [], [.cells false true 3 ((srt l).map intV)], 0, []) := by
  rw [ent269]
  match l, h0 with
  | x :: r, _ =>
    have h := loop269 (x :: r).length hl r [x] (by simp; omega) (by simp)
    unfold L269 at h
    simp only [List.reverse_cons, List.reverse_nil, List.nil_append, List.cons_append, List.length_singleton, List.map_cons, intV, List.length_cons, List.length_nil, Nat.zero_add, Int.cast_ofNat_Int] at h
    have w : IntKind.i64.wrap ((0 : Int) + 1) = 1 := by rw [wrap64] <;> omega
    have e : srt (x :: r) = (srtR [x] r).reverse := rfl
    rw [e]
    simp -implicitDefEqProofs only [go_sem, simprocAttr, wrap64, h, Int.reduceAdd]
theorem c247 (l : List Int) (k : Int) (hl : l.length ≤ 12) (h0 : 0 < l.length) : (lim T).call 247 [.ref 0, .int .i64 0, .int .i64 l.length, .int .i64 k] [.cells false true 3 (l.map intV)] 0 [] = some (.tup [], [.cells false true 3 ((srt l).map intV)], 0, []) := by
  rw [ent247]
  have e := c269 l (by omega) h0
  have w : IntKind.i64.wrap ((l.length : Int) - 0) = (l.length : Int) := by rw [wrap64] <;> omega
  have d : decide ((l.length : Int) ≤ 12) = true := decide_eq_true (by omega)
  simp -implicitDefEqProofs only [go_sem, simprocAttr]
  rw [loopEq]
  simp -implicitDefEqProofs only [go_sem, simprocAttr, w, d]
  rw [go_ref1 (id := 0) (l' := (srt l).map intV) fct269.1 res269 rfl rfl _ rfl rfl e]
  simp -implicitDefEqProofs only [go_sem, simprocAttr]
theorem len0 : (lim T).call 233 [.int .u64 0] [] 0 [] = some (.int .i64 0, [], 0, []) := memo_call (MemoOk.nil T) 100000 (by kernel_rfl)
theorem len1 : (lim T).call 233 [.int .u64 1] [] 0 [] = some (.int .i64 1, [], 0, []) := memo_call (MemoOk.nil T) 100000 (by kernel_rfl)
theorem len2 : (lim T).call 233 [.int .u64 2] [] 0 [] = some (.int .i64 2, [], 0, []) := memo_call (MemoOk.nil T) 100000 (by kernel_rfl)
theorem len3 : (lim T).call 233 [.int .u64 3] [] 0 [] = some (.int .i64 2, [], 0, []) := memo_call (MemoOk.nil T) 100000 (by kernel_rfl)
theorem len4 : (lim T).call 233 [.int .u64 4] [] 0 [] = some (.int .i64 3, [], 0, []) := memo_call (MemoOk.nil T) 100000 (by kernel_rfl)
theorem len5 : (lim T).call 233 [.int .u64 5] [] 0 [] = some (.int .i64 3, [], 0, []) := memo_call (MemoOk.nil T) 100000 (by kernel_rfl)
theorem len6 : (lim T).call 233 [.int .u64 6] [] 0 [] = some (.int .i64 3, [], 0, []) := memo_call (MemoOk.nil T) 100000 (by kernel_rfl)
theorem len7 : (lim T).call 233 [.int .u64 7] [] 0 [] = some (.int .i64 3, [], 0, []) := memo_call (MemoOk.nil T) 100000 (by kernel_rfl)
theorem len8 : (lim T).call 233 [.int .u64 8] [] 0 [] = some (.int .i64 4, [], 0, []) := memo_call (MemoOk.nil T) 100000 (by kernel_rfl)
theorem len9 : (lim T).call 233 [.int .u64 9] [] 0 [] = some (.int .i64 4, [], 0, []) := memo_call (MemoOk.nil T) 100000 (by kernel_rfl)
theorem len10 : (lim T).call 233 [.int .u64 10] [] 0 [] = some (.int .i64 4, [], 0, []) := memo_call (MemoOk.nil T) 100000 (by kernel_rfl)
theorem len11 : (lim T).call 233 [.int .u64 11] [] 0 [] = some (.int .i64 4, [], 0, []) := memo_call (MemoOk.nil T) 100000 (by kernel_rfl)
theorem len12 : (lim T).call 233 [.int .u64 12] [] 0 [] = some (.int .i64 4, [], 0, []) := memo_call (MemoOk.nil T) 100000 (by kernel_rfl)
theorem c233 (n : Nat) (h : n ≤ 12) : ∃ r, (lim T).call 233 [.int .u64 n] [] 0 [] = some (.int .i64 r, [], 0, []) := by
  have : n = 0 ∨ n = 1 ∨ n = 2 ∨ n = 3 ∨ n = 4 ∨ n = 5 ∨ n = 6 ∨ n = 7 ∨ n = 8 ∨ n = 9 ∨ n = 10 ∨ n = 11 ∨ n = 12 := by omega
  rcases this with rfl | rfl | rfl | rfl | rfl | rfl | rfl | rfl | rfl | rfl | rfl | rfl | rfl
  · exact ⟨0, len0⟩
  · exact ⟨1, len1⟩
  · exact ⟨2, len2⟩
  · exact ⟨2, len3⟩
  · exact ⟨3, len4⟩
  · exact ⟨3, len5⟩
  · exact ⟨3, len6⟩
  · exact ⟨3, len7⟩
  · exact ⟨4, len8⟩
  · exact ⟨4, len9⟩
  · exact ⟨4, len10⟩
  · exact ⟨4, len11⟩
  · exact ⟨4, len12⟩
theorem c229 (l : List Int) (hl : l.length ≤ 12) (h0 : 0 < l.length) : (lim T).call 229 [.ref 0] [.cells false true 3 (l.map intV)] 0 [] = some (.tup [], [.cells false true 3 ((srt l).map intV)], 0, []) := by
  rw [ent229]
  obtain ⟨r, e1⟩ := c233 l.length hl
  have e := c247 l r hl h0
  have w : IntKind.u64.wrap (l.length : Int) = (l.length : Int) := by
    simp only [IntKind.wrap, IntKind.bits, IntKind.signed]
    have : (2 : Int) ^ 64 = 18446744073709551616 := by decide
    simp
    omega
  simp -implicitDefEqProofs only [go_sem, simprocAttr, w, e1]
  rw [go_ref1 (id := 0) (l' := (srt l).map intV) fct247.1 res247 rfl rfl _ rfl rfl e]
  simp -implicitDefEqProofs only [go_sem, simprocAttr]
def med (l : List Int) : Int := (srt l).getD ((l.length - 1) / 2) 0
theorem c183 (b : Bool) (l : List Int) (hl : l.length ≤ 12) (h0 : 0 < l.length) : (lim T).call 183 [.sl b 1 (l.map intV)] [] 0 [] = some (.int .i64 (med l), [], 0, []) := by
  rw [ent183]
  have e := c229 l hl h0
  have d1 : decide (0 ≤ (l.length : Int) ∧ (l.length : Int) ≤ (l.length : Int) ∧ (l.length : Int) < (maxRow : Int)) = true := decide_eq_true ⟨by omega, by omega, by unfold maxRow; omega⟩
  have d2 : List.take (List.replicate l.length (V.int IntKind.i64 0)).length (List.map intV l) ++ List.drop (min l.length (List.replicate l.length (V.int IntKind.i64 0)).length) (List.replicate l.length (V.int IntKind.i64 0)) = l.map intV := by
    rw [List.length_replicate, Nat.min_self, List.drop_of_length_le (by simp), List.append_nil, List.take_of_length_le (by simp)]
  simp -implicitDefEqProofs only [go_sem, simprocAttr, d1, d2]
  rw [go_ref1 (id := 0) (l' := (srt l).map intV) fct229.1 res229 rfl rfl _ rfl rfl e]
  have hp := (srt_perm l).length_eq
  have w1 : IntKind.i64.wrap ((l.length : Int) - 1) = ((l.length - 1 : Nat) : Int) := by rw [wrap64] <;> omega
  have hm : (l.length - 1) / 2 < (srt l).length := by rw [hp]; omega
  have g : (srt l)[(l.length - 1) / 2]? = some (med l) := by
    unfold med
    rw [List.getD_eq_getElem?_getD, List.getElem?_eq_getElem hm]; rfl
  have w2 : IntKind.i64.wrap (((l.length - 1 : Nat) : Int).tdiv 2) = (((l.length - 1) / 2 : Nat) : Int) := by
    rw [show ((l.length - 1 : Nat) : Int).tdiv 2 = (((l.length - 1) / 2 : Nat) : Int) from rfl, wrap64] <;> omega
  have d3 : decide (0 ≤ (((l.length - 1) / 2 : Nat) : Int) ∧ (((l.length - 1) / 2 : Nat) : Int) < (l.length : Int)) = true := decide_eq_true (by omega)
  simp -implicitDefEqProofs only [go_sem, simprocAttr, hp, w1, w2, d3, g]
end Go.Den.FaT
namespace Go.Den.FaT
def cntLt (l : List Int) (x : Int) : Nat := l.countP fun y => decide (y < x)
def cntEq (l : List Int) (x : Int) : Nat := l.countP fun y => decide (y = x)
def medR (l : List Int) : List Int → Int
  | [] => 0
  | x :: r => if cntLt l x ≤ (l.length - 1) / 2 ∧ (l.length - 1) / 2 < cntLt l x + cntEq l x then x else medR l r
theorem cnt_le (l : List Int) (x : Int) : cntLt l x + cntEq l x ≤ l.length := by
  unfold cntLt cntEq
  induction l with
  | nil => simp
  | cons y l ih =>
    simp only [List.countP_cons, List.length_cons]
    by_cases h : y < x
    · have : ¬ y = x := by omega
      simp [h, this]; omega
    · by_cases h' : y = x <;> simp [h, h'] <;> omega
theorem cnt_all {l : List Int} {x : Int} (h : ∀ y ∈ l, y ≤ x) : cntLt l x + cntEq l x = l.length := by
  unfold cntLt cntEq
  induction l with
  | nil => simp
  | cons y l ih =>
    have ih := ih fun z hz => h z (List.mem_cons_of_mem _ hz)
    have hy := h y (List.mem_cons_self ..)
    simp only [List.countP_cons, List.length_cons]
    by_cases h1 : y < x
    · have : ¬ y = x := by omega
      simp [h1, this]; omega
    · have : y = x := by omega
      simp [this]; omega
theorem cntLt_all {l : List Int} {x : Int} (h : ∀ y ∈ l, y < x) : cntLt l x = l.length := by
  unfold cntLt
  rw [List.countP_eq_length]
  intro y hy
  simpa using h y hy
theorem cntLt_none {l : List Int} {x : Int} (h : ∀ y ∈ l, x ≤ y) : cntLt l x = 0 := by
  unfold cntLt
  rw [List.countP_eq_zero]
  intro y hy
  have := h y hy
  simp; omega
theorem cntEq_none {l : List Int} {x : Int} (h : ∀ y ∈ l, x < y) : cntEq l x = 0 := by
  unfold cntEq
  rw [List.countP_eq_zero]
  intro y hy
  have := h y hy
  simp; omega
theorem med_iff {s : List Int} (hs : s.Pairwise (· ≤ ·)) {m : Nat} (hm : m < s.length) (x : Int) : (cntLt s x ≤ m ∧ m < cntLt s x + cntEq s x) ↔ x = s[m] := by
  have e : s = s.take m ++ s[m] :: s.drop (m + 1) := by rw [← List.drop_eq_getElem_cons hm, List.take_append_drop]
  generalize hy : s[m] = y at e
  generalize hA : s.take m = A at e
  generalize hB : s.drop (m + 1) = B at e
  have hl : A.length = m := by rw [← hA]; simp; omega
  rw [e] at hs
  rw [List.pairwise_append, List.pairwise_cons] at hs
  obtain ⟨_, ⟨h1, _⟩, h2⟩ := hs
  have hle : ∀ z ∈ A, z ≤ y := fun z hz => h2 z hz y (List.mem_cons_self ..)
  have eL : ∀ x, cntLt s x = cntLt A x + cntLt (y :: B) x := fun x => by rw [e]; simp [cntLt, List.countP_append]
  have eE : ∀ x, cntEq s x = cntEq A x + cntEq (y :: B) x := fun x => by rw [e]; simp [cntEq, List.countP_append]
  constructor
  · rintro ⟨c1, c2⟩
    rw [eL] at c1 c2
    rw [eE] at c2
    by_cases hlt : x < y
    · have a1 := cntLt_none (l := y :: B) (x := x) (fun z hz => by
        rcases List.mem_cons.1 hz with rfl | hz
        · omega
        · have := h1 z hz; omega)
      have a2 := cntEq_none (l := y :: B) (x := x) (fun z hz => by
        rcases List.mem_cons.1 hz with rfl | hz
        · omega
        · have := h1 z hz; omega)
      have a3 := cnt_le A x
      omega
    · by_cases hgt : y < x
      · have a1 := cntLt_all (l := A) (x := x) (fun z hz => by have := hle z hz; omega)
        have a2 : 1 ≤ cntLt (y :: B) x := by
          unfold cntLt
          rw [List.countP_cons]
          simp [hgt]
        omega
      · omega
  · rintro rfl
    rw [eL, eE]
    have a1 := cntLt_none (l := x :: B) (x := x) (fun z hz => by
      rcases List.mem_cons.1 hz with rfl | hz
      · omega
      · exact h1 z hz)
    have a2 := cnt_all hle
    have a3 : 1 ≤ cntEq (x :: B) x := by
      unfold cntEq
      rw [List.countP_cons]
      simp
    omega
theorem medR_find {l : List Int} {y : Int} (h : ∀ x, (cntLt l x ≤ (l.length - 1) / 2 ∧ (l.length - 1) / 2 < cntLt l x + cntEq l x) ↔ x = y) : ∀ r : List Int, y ∈ r → medR l r = y := by
  intro r
  induction r with
  | nil => intro h; cases h
  | cons x r ih =>
    intro hm
    simp only [medR]
    by_cases hx : x = y
    · rw [if_pos ((h x).2 hx), hx]
    · rw [if_neg (fun e => hx ((h x).1 e))]
      rcases List.mem_cons.1 hm with e | hm
      · exact absurd e.symm hx
      · exact ih hm
theorem med_sorted {l s : List Int} (hp : s.Perm l) (hs : s.Pairwise (· ≤ ·)) (hm : (l.length - 1) / 2 < s.length) : medR l l = s[(l.length - 1) / 2] := by
  refine medR_find (fun x => ?_) l ?_
  · rw [← med_iff hs hm x]
    simp only [cntLt, cntEq, hp.countP_eq]
  · exact hp.mem_iff.1 (List.getElem_mem hm)
theorem med_eq {l : List Int} (h : l ≠ []) : medR l l = med l := by
  have hp := srt_perm l
  have hl := hp.length_eq
  have h0 : 0 < l.length := List.length_pos_iff.2 h
  have hm : (l.length - 1) / 2 < (srt l).length := by omega
  rw [med_sorted hp (srt_sorted l) hm]
  unfold med
  rw [List.getD_eq_getElem?_getD, List.getElem?_eq_getElem hm]; rfl
theorem cntLt_cons (y : Int) (l : List Int) (x : Int) : cntLt (y :: l) x = (if y < x then 1 else 0) + cntLt l x := by
  unfold cntLt
  rw [List.countP_cons]
  by_cases h : y < x <;> simp [h]; omega
theorem loop89 (b c : Bool) (l m : List Int) (hb : l.length < 4611686018427387904) (hm : l.length = m.length) : ∀ i, i ≤ l.length → (lim T).loop false [.code (.loop b89_0), .inBlock 0, .code (.seq r89_8 .ret)] ⟨89, 26, 0, [(0, .sl b 1 (l.map intV)), (1, .sl c 1 (m.map intV)), (5, .int .i64 i)], [], 0, []⟩ = some (.ret (.bool (decide (l.drop i = m.drop i))), [], 0, []) := by
  refine down_ind l.length ?_ fun i hi ih => ?_
  · rw [loopEq]
    have h1 := idx_out l.length
    simp -implicitDefEqProofs only [go_sem, simprocAttr, h1]
    simp [hm]
  · obtain ⟨h1, h2, h3, h4, h5⟩ := idx_in hi hb
    obtain ⟨g1, g2, g3, g4, g5⟩ := idx_in (l := m) (i := i) (by omega) (by omega)
    rw [loopEq]
    cases h6 : (l[i] != m[i])
    · have h7 : l[i] = m[i] := by simpa using h6
      simp -implicitDefEqProofs only [go_sem, simprocAttr, h1, h2, h3, h4, h6, g1, g2, g3, g4, ih]
      simp only [h5, g5, List.cons.injEq, h7, true_and, false_and, decide_false]
    · have h7 : ¬ l[i] = m[i] := by simpa using h6
      simp -implicitDefEqProofs only [go_sem, simprocAttr, h1, h2, h3, h4, h6, g1, g2, g3, g4]
      simp only [h5, g5, List.cons.injEq, h7, true_and, false_and, decide_false]
theorem c89 (b c : Bool) (l m : List Int) (hb : l.length < 4611686018427387904) : (lim T).call 89 [.sl b 1 (l.map intV), .sl c 1 (m.map intV)] [] 0 [] = some (.bool (decide (l = m)), [], 0, []) := by
  rw [ent89]
  cases h : ((l.length : Int) != m.length)
  · have h1 : l.length = m.length := by simp at h; omega
    have h2 := loop89 b c l m hb h1 0 (by omega)
    rw [show ((0 : Nat) : Int) = 0 from rfl, List.drop_zero, List.drop_zero] at h2
    simp -implicitDefEqProofs only [go_sem, simprocAttr, h, h2]
  · have h1 : ¬ l.length = m.length := by simp at h; omega
    simp -implicitDefEqProofs only [go_sem, simprocAttr, h]
    have : ¬ l = m := fun e => h1 (by rw [e])
    simp [this]
def slots (p : Pk) : Nat := (p.v[0]?.getD (false, [])).2.length
def col (p : Pk) (k : Nat) : List Int := p.v.map fun r => r.2.getD k 0
def meds (p : Pk) : List Int := (List.range (slots p)).map fun k => med (col p k)
structure Ok (p : Pk) : Prop where
  v1 : 0 < p.v.length
  v8 : p.v.length ≤ 8
  s1 : 0 < slots p
  s8 : slots p ≤ 8
  row : ∀ r ∈ p.v, r.2.length = slots p
  en : ∀ r ∈ p.v, ∀ n ∈ r.2, 0 ≤ n ∧ n ≤ 1000000
  no : 0 ≤ p.n ∧ p.n ≤ 1000000
  cs : ckCs p.c = 0
  c8 : p.c.length ≤ 8
  ca : ∀ c ∈ p.c, 0 ≤ c.c ∧ c.c < p.v.length ∧ c.l.length = slots p
  lo : ∀ c ∈ p.c, ∀ x ∈ c.l, 0 ≤ x.1 ∧ x.1 ≤ x.2 ∧ x.2 ≤ 1000000
theorem ckE_ok {n : Int} (h : ckE n = 0) : 0 ≤ n ∧ n ≤ 1000000 := by
  unfold ckE at h
  rw [rng_eq] at h
  by_cases h3 : n < 0 ∨ 1000000 < n
  · simp [h3] at h
  · omega
theorem cond_z {b : Bool} {e : Int} (h : cond b e 0 = 0) (he : e ≠ 0) : b = false := by cases b <;> simp_all
theorem csEs_get (l : List Cz) : ∀ (r : List Cz) (i k : Nat) (h : k < r.length), csE l (i + k) r[k] ∈ csEs l i r
  | [], _, _, h => by cases h
  | m :: r, i, 0, _ => List.mem_cons_self ..
  | m :: r, i, k + 1, h => by
    have := csEs_get l r (i + 1) k (by simpa using h)
    rw [show i + 1 + k = i + (k + 1) by omega] at this
    exact List.mem_cons_of_mem _ this
theorem ok_of {p : Pk} (h : ckPk p = 0) : Ok p := by
  unfold ckPk at h
  split at h
  · rename_i h0
    obtain ⟨k1, k2⟩ := szd_ne h0
    have hr0 : p.v[0]? = some p.v[0] := List.getElem?_eq_getElem k1
    have hs : slots p = p.v[0].2.length := by unfold slots; rw [hr0]; rfl
    rw [hr0] at h
    dsimp only [Option.getD_some] at h
    rw [← hs] at h
    have q1 := fnz_zero.1 (fnz_zero.1 h (fnz (p.v.map fun r => chE (slots p) r)) (by simp))
    have q2 := ckE_ok (fnz_zero.1 h (ckE p.n) (by simp))
    have q3 := fnz_zero.1 h (ckCs p.c) (by simp)
    have q4 := fnz_zero.1 (fnz_zero.1 h (fnz (p.c.map fun c => caE p.v.length (slots p) c)) (by simp))
    have row : ∀ r ∈ p.v, r.2.length = slots p ∧ (0 < r.2.length ∧ r.2.length ≤ 8) ∧ ∀ n ∈ r.2, 0 ≤ n ∧ n ≤ 1000000 := fun r hr => by
      have a := fnz_zero.1 (q1 _ (List.mem_map.2 ⟨r, hr, rfl⟩))
      have a1 := szd_ne (a (szd r.2.length 8) (by simp))
      have a2 := cond_z (a (cond ((r.2.length : Int) != slots p) 2 0) (by simp)) (by decide)
      have a3 := fnz_zero.1 (a (fnz (r.2.map fun n => ckE n)) (by simp))
      refine ⟨by simp at a2; omega, a1, fun n hn => ckE_ok (a3 _ (List.mem_map.2 ⟨n, hn, rfl⟩))⟩
    have r0 := row p.v[0] (List.getElem_mem k1)
    have hc8 : p.c.length ≤ 8 ∧ fnz (csEs p.c 0 p.c) = 0 := by
      unfold ckCs at q3
      by_cases hl : 8 < p.c.length
      · rw [if_pos hl] at q3; cases q3
      · rw [if_neg hl] at q3; exact ⟨by omega, q3⟩
    have cc : ∀ c ∈ p.c, ckC c = 0 := fun c hc => by
      obtain ⟨k, hk, rfl⟩ := List.mem_iff_getElem.1 hc
      have a := csEs_get p.c p.c 0 k hk
      have a := fnz_zero.1 hc8.2 _ a
      exact fnz_zero.1 a (ckC p.c[k]) (by simp)
    refine ⟨k1, k2, by omega, by omega, fun r hr => (row r hr).1, fun r hr => (row r hr).2.2, q2, q3, hc8.1, fun c hc => ?_, fun c hc x hx => ?_⟩
    · have a := fnz_zero.1 (q4 _ (List.mem_map.2 ⟨c, hc, rfl⟩))
      have a1 := cond_z (a (cond (decide ((p.v.length : Int) ≤ c.c)) 10 0) (by simp)) (by decide)
      have a2 := cond_z (a (cond ((c.l.length : Int) != slots p) 2 0) (by simp)) (by decide)
      have b := fnz_zero.1 (cc c hc) (rng c.c 0 7) (by simp)
      rw [rng_eq] at b
      simp at a1 a2
      by_cases h3 : c.c < 0 ∨ 7 < c.c
      · simp [h3] at b
      · omega
    · have b := fnz_zero.1 (fnz_zero.1 (cc c hc) (fnz (c.l.map fun x => ckL x)) (by simp)) _ (List.mem_map.2 ⟨x, hx, rfl⟩)
      have b1 := ckE_ok (fnz_zero.1 b (ckE x.1) (by simp))
      have b2 := ckE_ok (fnz_zero.1 b (ckE x.2) (by simp))
      have b3 := cond_z (fnz_zero.1 b (cond (decide (x.2 < x.1)) 11 0) (by simp)) (by decide)
      simp at b3
      omega
  · rename_i h0; exact absurd h h0
theorem c185 (r : Bool × List Int) (k : Nat) (hk : k < r.2.length) (hr : r.2.length < 1000000) : (lim T).call 185 [.sl r.1 1 (r.2.map intV), .pp 1 [.int .i64 k] 0 0] [] 0 [] = some (.int .i64 (r.2.getD k 0), [], 0, []) := by
  rw [ent185]
  obtain ⟨h1, h2, h3, h4, h5⟩ := idx_in hk (by omega)
  have e : r.2.getD k 0 = r.2[k] := by rw [List.getD_eq_getElem?_getD, h3]; rfl
  rw [e]
  simp -implicitDefEqProofs only [go_sem, simprocAttr, h2, h3]
theorem loop184 (k : Nat) (b : Bool) (l : List (Bool × List Int)) (hb : l.length < 1000000) (hk : ∀ r ∈ l, k < r.2.length ∧ r.2.length < 1000000) : ∀ i, i ≤ l.length → ∀ o : Option (List (Int)), acL o = i →
    (lim T).loop false [.code (.loop b184_0), .inBlock 0, .code (.seq r184_7 .ret)] ⟨184, 22, 0, [(1, .fn 185 [.pp 1 [.int .i64 k] 0 0]), (5, acV o 0), (8, .sl b 1 (l.map rwV)), (9, .int .i64 l.length), (10, .int .i64 i)], acR intV o 3, 0, []⟩ =
      some (.ret (acO intV 0 1 (acA o ((l.drop i).map (fun r => r.2.getD k 0)))), [], 0, []) := by
  refine down_ind l.length ?_ fun i hi ih o ho => ?_
  · intro o ho
    rw [loopEq]
    have h1 := idx_out l.length
    cases o with
    | none =>
      simp -implicitDefEqProofs only [go_sem, simprocAttr, h1]
      simp [acA, acO]
    | some a =>
      simp -implicitDefEqProofs only [go_sem, simprocAttr, h1]
      simp [acA, acO]
  · obtain ⟨h1, h2, h3, h4, h5⟩ := idx_in hi (by omega)
    rw [loopEq, h5]
    have ih' := ih (acA o [((fun r => r.2.getD k 0) l[i])]) (by rw [acL_A, ho]; rfl)
    rw [acA_acA] at ih'
    dsimp only at ih'
    cases o with
    | none =>
      have h8 := row_ok (n := 0) (by omega)
      simp only [acA_n, acV_s, acR_s, List.map_cons, List.map_nil, intV] at ih'
      simp -implicitDefEqProofs only [go_sem, simprocAttr, h1, h2, h3, h4, ih', h8.2, c185 l[i] k (hk _ (List.getElem_mem hi)).1 (hk _ (List.getElem_mem hi)).2]
    | some a =>
      have h9 : a.length = i := ho
      have h8 := (row_ok (n := a.length) (by omega)).1
      simp only [acA_s, acV_s, acR_s, List.map_append, List.map_cons, List.map_nil, intV] at ih'
      simp -implicitDefEqProofs only [go_sem, simprocAttr, h1, h2, h3, h4, ih', h8, c185 l[i] k (hk _ (List.getElem_mem hi)).1 (hk _ (List.getElem_mem hi)).2]
theorem c184 (k : Nat) (b : Bool) (l : List (Bool × List Int)) (hb : l.length < 1000000) (hk : ∀ r ∈ l, k < r.2.length ∧ r.2.length < 1000000) : (lim T).call 184 [.sl b 1 (l.map rwV), .fn 185 [.pp 1 [.int .i64 k] 0 0]] [] 0 [] = some (slV 1 (((l).map (fun r => r.2.getD k 0)).map intV), [], 0, []) := by
  rw [ent184]
  have h := loop184 k b l hb hk 0 (by omega) none rfl
  rw [show ((0 : Nat) : Int) = 0 from rfl, List.drop_zero, acO_slV] at h
  simp only [acV_n, acR_n] at h
  simp -implicitDefEqProofs only [go_sem, simprocAttr, h]
theorem c184' (p : Pk) (b : Bool) (k : Nat) (ho : Ok p) (hk : k < slots p) : (lim T).call 184 [.sl b 1 (p.v.map rwV), .fn 185 [.pp 1 [.int .i64 k] 0 0]] [] 0 [] = some (slV 1 ((col p k).map intV), [], 0, []) :=
  c184 k b p.v (by have := ho.v8; omega) (fun r hr => by have := ho.row r hr; have := ho.s8; omega)
theorem meds_len (p : Pk) : (meds p).length = slots p := by simp [meds]
theorem meds_get (p : Pk) (k : Nat) (h : k < (meds p).length) : (meds p)[k] = med (col p k) := by simp [meds]
theorem col_len (p : Pk) (k : Nat) : (col p k).length = p.v.length := by simp [col]
def L106 (p : Pk) (o : Option (List Int)) (k : Nat) : Option Out :=
  (lim T).loop false [.code (.loop b106_0), .inBlock 0, .code (.seq r106_7 .ret)]
    ⟨106, 23, 0, [(1, .ptr 0 0 0), (3, acV o 1), (9, .int .i64 (meds p).length), (10, .int .i64 k)], .cells true true 34 [pkV p] :: acR intV o 3, 0, []⟩
theorem loop106 (p : Pk) (ho : Ok p) : ∀ k, k ≤ (meds p).length → ∀ o, acL o = k → L106 p o k = some (.ret (acO intV 0 1 (acA o ((meds p).drop k))), [], 0, []) := by
  have hs8 := ho.s8
  have hml := meds_len p
  refine down_ind (meds p).length ?_ fun k hk ih o hO => ?_
  · intro o hO
    unfold L106
    rw [loopEq]
    have h1 := idx_out (meds p).length
    have h0 : (meds p).drop (meds p).length = [] := by simp
    rw [h0, acA_0]
    cases o with
    | none => simp -implicitDefEqProofs only [go_sem, simprocAttr, pkV, h1]
    | some a => simp -implicitDefEqProofs only [go_sem, simprocAttr, pkV, h1]
  · obtain ⟨h1, h2, h3, h4, h5⟩ := idx_in hk (by omega)
    rw [h5]
    have e1 := c184' p p.vb k ho (by omega)
    have e2 := c183 (!((col p k).map intV).isEmpty) (col p k) (by rw [col_len]; have := ho.v8; omega) (by rw [col_len]; exact ho.v1)
    rw [← meds_get p k hk] at e2
    have ih' := ih (acA o [(meds p)[k]]) (by rw [acL_A, hO]; rfl)
    rw [acA_acA] at ih'
    unfold L106 at ih' ⊢
    rw [loopEq]
    cases o with
    | none =>
      have h8 := row_ok (n := 0) (by omega)
      simp only [acA_n, acV_s, acR_s, acV_n, acR_n, List.map_cons, List.map_nil, intV, pkV] at ih' ⊢
      simp -implicitDefEqProofs only [go_sem, simprocAttr, h1, h2, h3, h4, e1, e2, ih', h8.2]
    | some a =>
      have h9 : a.length = k := hO
      have h8 := (row_ok (n := a.length) (by omega)).1
      simp only [acA_s, acV_s, acR_s, List.map_append, List.map_cons, List.map_nil, intV, pkV] at ih' ⊢
      simp -implicitDefEqProofs only [go_sem, simprocAttr, h1, h2, h3, h4, e1, e2, ih', h8]
theorem slots_in {p : Pk} (ho : Ok p) : ∃ r0, p.v[0]? = some r0 ∧ r0.2.length = (meds p).length ∧ decide (0 < (p.v.length : Int)) = true := by
  have hv := ho.v1
  have hr0 : p.v[0]? = some p.v[0] := List.getElem?_eq_getElem hv
  exact ⟨p.v[0]'hv, hr0, by rw [meds_len]; unfold slots; rw [hr0]; rfl, first_in hr0⟩
theorem c106 (p : Pk) (ho : Ok p) : (lim T).call 106 [pkV p] [] 0 [] = some (slV 1 ((meds p).map intV), [], 0, []) := by
  rw [ent106]
  have h := loop106 p ho 0 (by omega) none rfl
  rw [List.drop_zero, acO_slV] at h
  unfold L106 at h
  obtain ⟨r0, g1, g2, g3⟩ := slots_in ho
  simp only [acV_n, acR_n, show ((0 : Nat) : Int) = 0 from rfl, pkV] at h
  simp -implicitDefEqProofs only [go_sem, simprocAttr, pkV, g1, g2, g3, h]
theorem c17 (p : Pk) (hf : p.fit) : (lim T).call 17 [pkV p] [] 0 [] = some (if ckPk p = 0 then .tup [.sl (!((meds p).map intV).isEmpty) 1 ((meds p).map intV), .int .i64 0] else .tup [.sl false 0 [], .int .i64 (ckPk p)], [], 0, []) := by
  rw [ent17]
  have e1 := c23 p hf
  simp only [pkV] at e1
  cases h : (ckPk p != 0)
  · have h0 : ckPk p = 0 := by simpa using h
    rw [if_pos h0]
    have e2 := c106 p (ok_of h0)
    simp only [pkV] at e2
    simp -implicitDefEqProofs only [go_sem, simprocAttr, pkV, e1, h, e2]
  · have h0 : ¬ ckPk p = 0 := by simpa using h
    rw [if_neg h0]
    simp -implicitDefEqProofs only [go_sem, simprocAttr, pkV, e1, h]
def rsd (m l : List Int) : List Int := List.zipWith (fun a b => IntKind.i64.wrap (a - b)) m l
theorem rsd_len (m l : List Int) (h : l.length = m.length) : (rsd m l).length = l.length := by simp [rsd, h]
theorem rsd_drop (m l : List Int) (i : Nat) (h1 : i < l.length) (h2 : i < m.length) : (rsd m l).drop i = IntKind.i64.wrap (m[i] - l[i]) :: (rsd m l).drop (i + 1) := by
  rw [List.drop_eq_getElem_cons (by simp [rsd]; omega)]
  simp [rsd]
theorem loop187 (b mb : Bool) (m l : List Int) (hb : l.length < 1000000) (hm : l.length = m.length) : ∀ i, i ≤ l.length → ∀ o : Option (List Int), acL o = i →
    (lim T).loop false [.code (.loop b187_0), .inBlock 0, .code (.seq r187_7 .ret)] ⟨187, 25, 0, [(1, .pp 1 [.sl mb 1 (m.map intV)] 0 0), (4, acV o 0), (7, .sl b 1 (l.map intV)), (8, .int .i64 l.length), (9, .int .i64 i)], acR intV o 3, 0, []⟩ =
      some (.ret (acO intV 0 1 (acA o ((rsd m l).drop i))), [], 0, []) := by
  refine down_ind l.length ?_ fun i hi ih o ho => ?_
  · intro o ho
    rw [loopEq]
    have h1 := idx_out l.length
    have h0 : (rsd m l).drop l.length = [] := by rw [← rsd_len m l hm]; simp
    rw [h0, acA_0]
    cases o with
    | none =>
      simp -implicitDefEqProofs only [go_sem, simprocAttr, h1]
    | some a =>
      simp -implicitDefEqProofs only [go_sem, simprocAttr, h1]
  · obtain ⟨h1, h2, h3, h4, h5⟩ := idx_in hi (by omega)
    obtain ⟨g1, g2, g3, g4, g5⟩ := idx_in (l := m) (i := i) (by omega) (by omega)
    rw [loopEq, rsd_drop m l i hi (by omega)]
    have ih' := ih (acA o [IntKind.i64.wrap (m[i] - l[i])]) (by rw [acL_A, ho]; rfl)
    rw [acA_acA] at ih'
    cases o with
    | none =>
      have h8 := row_ok (n := 0) (by omega)
      simp only [acA_n, acV_s, acR_s, List.map_cons, List.map_nil, intV] at ih'
      simp -implicitDefEqProofs only [go_sem, simprocAttr, h1, h2, h3, h4, g2, g3, ih', h8.2]
    | some a =>
      have h9 : a.length = i := ho
      have h8 := (row_ok (n := a.length) (by omega)).1
      simp only [acA_s, acV_s, acR_s, List.map_append, List.map_cons, List.map_nil, intV] at ih'
      simp -implicitDefEqProofs only [go_sem, simprocAttr, h1, h2, h3, h4, g2, g3, ih', h8]
theorem c187 (r : Bool × List Int) (mb : Bool) (m : List Int) (hr : r.2.length < 1000000 ∧ r.2.length = m.length) : (lim T).call 187 [.sl r.1 1 (r.2.map intV), .pp 1 [.sl mb 1 (m.map intV)] 0 0] [] 0 [] = some (slV 1 ((rsd m r.2).map intV), [], 0, []) := by
  rw [ent187]
  have h := loop187 r.1 mb m r.2 hr.1 hr.2 0 (by omega) none rfl
  rw [show ((0 : Nat) : Int) = 0 from rfl, List.drop_zero, acO_slV] at h
  simp only [acV_n, acR_n] at h
  simp -implicitDefEqProofs only [go_sem, simprocAttr, h]
def rsR (m : List Int) (r : Bool × List Int) : Bool × List Int := (!((rsd m r.2).map intV).isEmpty, rsd m r.2)
theorem loop186 (mb : Bool) (m : List Int) (b : Bool) (l : List (Bool × List Int)) (hb : l.length < 1000000) (hk : ∀ r ∈ l, r.2.length < 1000000 ∧ r.2.length = m.length) : ∀ i, i ≤ l.length → ∀ o : Option (List (Bool × List Int)), acL o = i →
    (lim T).loop false [.code (.loop b186_0), .inBlock 0, .code (.seq r186_7 .ret)] ⟨186, 22, 0, [(1, .fn 187 [.pp 1 [.sl mb 1 (m.map intV)] 0 0]), (5, acV o 0), (8, .sl b 1 (l.map rwV)), (9, .int .i64 l.length), (10, .int .i64 i)], acR rwV o 28, 0, []⟩ =
      some (.ret (acO rwV 0 1 (acA o ((l.drop i).map (fun r => rsR m r)))), [], 0, []) := by
  refine down_ind l.length ?_ fun i hi ih o ho => ?_
  · intro o ho
    rw [loopEq]
    have h1 := idx_out l.length
    cases o with
    | none =>
      simp -implicitDefEqProofs only [go_sem, simprocAttr, h1]
      simp [acA, acO]
    | some a =>
      simp -implicitDefEqProofs only [go_sem, simprocAttr, h1]
      simp [acA, acO]
  · obtain ⟨h1, h2, h3, h4, h5⟩ := idx_in hi (by omega)
    rw [loopEq, h5]
    have ih' := ih (acA o [((fun r => rsR m r) l[i])]) (by rw [acL_A, ho]; rfl)
    rw [acA_acA] at ih'
    dsimp only at ih'
    cases o with
    | none =>
      have h8 := row_ok (n := 0) (by omega)
      simp only [acA_n, acV_s, acR_s, List.map_cons, List.map_nil, rwV, rsR] at ih'
      simp -implicitDefEqProofs only [go_sem, simprocAttr, h1, h2, h3, h4, ih', h8.2, rsR, c187 l[i] mb m (hk _ (List.getElem_mem hi))]
    | some a =>
      have h9 : a.length = i := ho
      have h8 := (row_ok (n := a.length) (by omega)).1
      simp only [acA_s, acV_s, acR_s, List.map_append, List.map_cons, List.map_nil, rwV, rsR] at ih'
      simp -implicitDefEqProofs only [go_sem, simprocAttr, h1, h2, h3, h4, ih', h8, rsR, c187 l[i] mb m (hk _ (List.getElem_mem hi))]
theorem c186 (mb : Bool) (m : List Int) (b : Bool) (l : List (Bool × List Int)) (hb : l.length < 1000000) (hk : ∀ r ∈ l, r.2.length < 1000000 ∧ r.2.length = m.length) : (lim T).call 186 [.sl b 1 (l.map rwV), .fn 187 [.pp 1 [.sl mb 1 (m.map intV)] 0 0]] [] 0 [] = some (slV 1 (((l).map (fun r => rsR m r)).map rwV), [], 0, []) := by
  rw [ent186]
  have h := loop186 mb m b l hb hk 0 (by omega) none rfl
  rw [show ((0 : Nat) : Int) = 0 from rfl, List.drop_zero, acO_slV] at h
  simp only [acV_n, acR_n] at h
  simp -implicitDefEqProofs only [go_sem, simprocAttr, h]
def ress (p : Pk) : List (Bool × List Int) := p.v.map fun r => rsR (meds p) r
theorem ok_rows {p : Pk} (ho : Ok p) : ∀ r ∈ p.v, r.2.length < 1000000 ∧ r.2.length = (meds p).length := fun r hr => by
  have := ho.row r hr
  have := ho.s8
  rw [meds_len]
  omega
theorem c107 (p : Pk) (ho : Ok p) : (lim T).call 107 [pkV p] [] 0 [] = some (.sl (!((ress p).map rwV).isEmpty) 1 ((ress p).map rwV), [], 0, []) := by
  rw [ent107]
  have e1 := c106 p ho
  have e2 := c186 (!((meds p).map intV).isEmpty) (meds p) p.vb p.v (by have := ho.v8; omega) (ok_rows ho)
  rw [show List.map (fun r => rsR (meds p) r) p.v = ress p from rfl] at e2
  simp only [pkV] at e1
  simp -implicitDefEqProofs only [go_sem, simprocAttr, pkV, e1, e2]
theorem c19 (p : Pk) (hf : p.fit) : (lim T).call 19 [pkV p] [] 0 [] = some (if ckPk p = 0 then .tup [.sl (!((ress p).map rwV).isEmpty) 1 ((ress p).map rwV), .int .i64 0] else .tup [.sl false 0 [], .int .i64 (ckPk p)], [], 0, []) := by
  rw [ent19]
  have e1 := c23 p hf
  simp only [pkV] at e1
  cases h : (ckPk p != 0)
  · have h0 : ckPk p = 0 := by simpa using h
    rw [if_pos h0]
    have e2 := c107 p (ok_of h0)
    simp only [pkV] at e2
    simp -implicitDefEqProofs only [go_sem, simprocAttr, pkV, e1, h, e2]
  · have h0 : ¬ ckPk p = 0 := by simpa using h
    rw [if_neg h0]
    simp -implicitDefEqProofs only [go_sem, simprocAttr, pkV, e1, h]
end Go.Den.FaT
namespace Go.Proofs.YtifljcjddphpjaaGreatDoor
open Go Go.Proofs Go.Den Go.Den.FaT Go.ChangeShapes Go.WideShapes Go.ChangeAt Go.RowKit
theorem mapOf {α : Type} {f : α → V} {e : TypeId} {n : Nat} (hc : ∀ {us}, Cl Tryz.prog n e us → ∃ a, mk Tryz.prog e us = f a) : ∀ {l : List V}, (∀ u ∈ l, ∃ us, Cl Tryz.prog n e us ∧ u = mk Tryz.prog e us) → ∃ ps : List α, l = ps.map f
  | [], _ => ⟨[], rfl⟩
  | u :: l, h => by
    obtain ⟨ps, rfl⟩ := mapOf hc (l := l) fun v hv => h v (List.mem_cons_of_mem _ hv)
    obtain ⟨us, h1, rfl⟩ := h u (List.mem_cons_self)
    obtain ⟨a, ha⟩ := hc h1
    exact ⟨a :: ps, by rw [ha]; rfl⟩
theorem mk3 (v : V) : mk Tryz.prog 3 [v] = v := by unfold mk; rw [Tryz.underlying3]; rfl
theorem mk28 (v : V) : mk Tryz.prog 28 [v] = v := by unfold mk; rw [Tryz.underlying28]; rfl
theorem mk25 (us : List V) : mk Tryz.prog 25 us = .agg us := by unfold mk; rw [Tryz.underlying25]
end Go.Proofs.YtifljcjddphpjaaGreatDoor
namespace Go.Den.FaU
open Go Go.Proofs Go.Den
def T : Tab := over2 FaT.T [11, 88, 172] [88, 172] [11, 88, 172]
theorem sound : CallOk Tryz.prog T (lim T) := over2_snd FaT.tabOk (FaT.fnsOk FaT.prim) (by decide) (fun f h => by
  rcases List.mem_cons.1 h with rfl | h
  · exact .inr (by kernel_rfl)
  rcases List.mem_cons.1 h with rfl | h
  · exact .inr (by kernel_rfl)
  rcases List.mem_cons.1 h with rfl | h
  · exact .inr (by kernel_rfl)
  cases h)
@[go_sem] theorem tiU (t : Nat) : T.ti t = FaT.T.ti t := rfl
end Go.Den.FaU
end
