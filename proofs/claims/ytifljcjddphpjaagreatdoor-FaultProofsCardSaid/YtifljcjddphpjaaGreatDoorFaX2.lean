import Derived.Test.YtifljcjddphpjaaGreatDoorFaX1
import Derived.Test.YtifljcjddphpjaaGreatDoorZQ
import Derived.Test.YtifljcjddphpjaaGreatDoorFaS4
import Derived.Test.YtifljcjddphpjaaGreatDoorFaX0
set_option linter.all false
set_option maxHeartbeats 8000000
set_option maxRecDepth 100000
noncomputable section
namespace Go.Den.FaT
open Go Go.Proofs Go.Den
theorem ms5 : (lim T).call 136 [.int .i64 5] [] 0 [] = some (.fn 235 [.pp 1 [.sl true 1 ((setsN 5).map (seV (seZ 5)))] 0 0], [], 0, []) := memF_call memS_ok 100000 (by kernel_rfl)
theorem mt5 : (lim T).call 134 [.int .i64 5] [] 0 [] = some (.sl true 1 ((setsN 5).map (seV 0)), [], 0, []) := memF_call memS_ok 100000 (by kernel_rfl)
def rowB (z : Nat) (l : List Nat) : List V := l.map fun b => seV z ((List.range 6).filterMap fun i => bif b.testBit i then some (Int.ofNat i) else none)
def qf0 : FactG := ⟨232, [.ref 0, .int .i64 12, .int .i64 34, .int .i64 7, .fn 205 []], 28, rowB 1 [0, 1, 2, 4, 8, 16, 32, 3, 5, 9, 17, 33, 34, 13, 14, 49, 11, 10, 18, 19, 20, 21, 22, 48, 24, 25, 41, 40, 12, 37, 36, 35, 7, 6, 38, 31, 30, 29, 28, 39, 27, 26, 42, 43, 44, 45, 46, 47, 23, 15, 50, 51, 52, 53, 54, 55, 56, 57, 58, 59, 60, 61, 62, 63], .tup [], rowB 1 [0, 1, 2, 4, 8, 16, 32, 3, 5, 9, 17, 33, 6, 10, 18, 34, 12, 20, 36, 24, 40, 48, 7, 11, 19, 35, 13, 21, 37, 25, 41, 49, 14, 22, 38, 31, 30, 29, 28, 39, 27, 26, 42, 43, 44, 45, 46, 47, 23, 15, 50, 51, 52, 53, 54, 55, 56, 57, 58, 59, 60, 61, 62, 63]⟩
theorem qo0 : qf0.ok T := by unfold FactG.ok; exact memG_call memS_ok (factsG_nil T) 100000 (by kernel_rfl)
def qf1 : FactG := ⟨232, [.ref 0, .int .i64 35, .int .i64 41, .int .i64 7, .fn 205 []], 28, rowB 1 [0, 1, 2, 4, 8, 16, 32, 3, 5, 9, 17, 33, 6, 10, 18, 34, 12, 20, 36, 24, 40, 48, 7, 11, 19, 35, 13, 21, 37, 25, 41, 49, 14, 22, 38, 26, 52, 50, 28, 44, 42, 56, 27, 43, 39, 45, 46, 47, 23, 15, 29, 51, 30, 53, 54, 55, 31, 57, 58, 59, 60, 61, 62, 63], .tup [], rowB 1 [0, 1, 2, 4, 8, 16, 32, 3, 5, 9, 17, 33, 6, 10, 18, 34, 12, 20, 36, 24, 40, 48, 7, 11, 19, 35, 13, 21, 37, 25, 41, 49, 14, 22, 38, 26, 42, 50, 28, 44, 52, 56, 27, 43, 39, 45, 46, 47, 23, 15, 29, 51, 30, 53, 54, 55, 31, 57, 58, 59, 60, 61, 62, 63]⟩
theorem qo1 : qf1.ok T := by unfold FactG.ok; exact memG_call memS_ok (factsG_cons qo0 (factsG_nil T)) 100000 (by kernel_rfl)
def qf2 : FactG := ⟨232, [.ref 0, .int .i64 42, .int .i64 52, .int .i64 7, .fn 205 []], 28, rowB 1 [0, 1, 2, 4, 8, 16, 32, 3, 5, 9, 17, 33, 6, 10, 18, 34, 12, 20, 36, 24, 40, 48, 7, 11, 19, 35, 13, 21, 37, 25, 41, 49, 14, 22, 38, 26, 42, 50, 28, 44, 52, 56, 27, 43, 39, 45, 57, 53, 23, 15, 29, 51, 30, 47, 54, 55, 31, 46, 58, 59, 60, 61, 62, 63], .tup [], rowB 1 [0, 1, 2, 4, 8, 16, 32, 3, 5, 9, 17, 33, 6, 10, 18, 34, 12, 20, 36, 24, 40, 48, 7, 11, 19, 35, 13, 21, 37, 25, 41, 49, 14, 22, 38, 26, 42, 50, 28, 44, 52, 56, 15, 23, 39, 27, 43, 51, 29, 45, 53, 57, 30, 47, 54, 55, 31, 46, 58, 59, 60, 61, 62, 63]⟩
theorem qo2 : qf2.ok T := by unfold FactG.ok; exact memG_call memS_ok (factsG_cons qo1 (factsG_cons qo0 (factsG_nil T))) 100000 (by kernel_rfl)
def qf3 : FactG := ⟨204, [.ref 0, .fn 205 []], 28, rowB 0 [0, 1, 2, 3, 4, 5, 6, 7, 8, 9, 10, 11, 12, 13, 14, 15, 16, 17, 18, 19, 20, 21, 22, 23, 24, 25, 26, 27, 28, 29, 30, 31, 32, 33, 34, 35, 36, 37, 38, 39, 40, 41, 42, 43, 44, 45, 46, 47, 48, 49, 50, 51, 52, 53, 54, 55, 56, 57, 58, 59, 60, 61, 62, 63], .tup [], rowB 1 [0, 1, 2, 4, 8, 16, 32, 3, 5, 9, 17, 33, 6, 10, 18, 34, 12, 20, 36, 24, 40, 48, 7, 11, 19, 35, 13, 21, 37, 25, 41, 49, 14, 22, 38, 26, 42, 50, 28, 44, 52, 56, 15, 23, 39, 27, 43, 51, 29, 45, 53, 57, 30, 46, 54, 58, 60, 31, 47, 55, 59, 61, 62, 63]⟩
theorem qo3 : qf3.ok T := by unfold FactG.ok; exact memG_call memS_ok (factsG_cons qo2 (factsG_cons qo1 (factsG_cons qo0 (factsG_nil T)))) 100000 (by kernel_rfl)
theorem ms6 : (lim T).call 136 [.int .i64 6] [] 0 [] = some (.fn 235 [.pp 1 [.sl true 1 ((setsN 6).map (seV (seZ 6)))] 0 0], [], 0, []) := memG_call memS_ok (factsG_cons qo3 (factsG_nil T)) 100000 (by kernel_rfl)
theorem mt6 : (lim T).call 134 [.int .i64 6] [] 0 [] = some (.sl true 1 ((setsN 6).map (seV 0)), [], 0, []) := memF_call memS_ok 100000 (by kernel_rfl)
theorem c136 (n : Nat) (h : n ≤ 6) : (lim T).call 136 [.int .i64 n] [] 0 [] = some (.fn 235 [.pp 1 [.sl true 1 ((setsN n).map (seV (seZ n)))] 0 0], [], 0, []) := by
  match n, h with
  | 0, _ => exact ms0
  | 1, _ => exact ms1
  | 2, _ => exact ms2
  | 3, _ => exact ms3
  | 4, _ => exact ms4
  | 5, _ => exact ms5
  | 6, _ => exact ms6
theorem c134 (n : Nat) (h : n ≤ 6) : (lim T).call 134 [.int .i64 n] [] 0 [] = some (.sl true 1 ((setsN n).map (seV 0)), [], 0, []) := by
  match n, h with
  | 0, _ => exact mt0
  | 1, _ => exact mt1
  | 2, _ => exact mt2
  | 3, _ => exact mt3
  | 4, _ => exact mt4
  | 5, _ => exact mt5
  | 6, _ => exact mt6
theorem sets_all (n : Nat) (h : n ≤ 6) : ((setsN n).length ≤ 64 ∧ 0 < (setsN n).length) ∧ (∀ s ∈ setsN n, ∀ i ∈ s, 0 ≤ i ∧ i < (n : Int)) ∧ (∀ s ∈ setsN n, s.length ≤ 6) ∧ (setsN n).Pairwise (fun a b => a.length ≤ b.length) := by
  match n, h with
  | 0, _ => decide +kernel
  | 1, _ => decide +kernel
  | 2, _ => decide +kernel
  | 3, _ => decide +kernel
  | 4, _ => decide +kernel
  | 5, _ => decide +kernel
  | 6, _ => decide +kernel
theorem sok_of {p : Pk} (h6 : p.c.length ≤ 6) : Sok p :=
  ⟨(sets_all _ h6).1.1, fun x hx => ⟨by have := (sets_all _ h6).2.2.1 x hx; omega, (sets_all _ h6).2.1 x hx⟩, c136 _ h6⟩
theorem rok_of {p : Pk} (h6 : p.c.length ≤ 6) : Rok p :=
  ⟨(sets_all _ h6).1.1, fun x hx => ⟨by have := (sets_all _ h6).2.2.1 x hx; omega, (sets_all _ h6).2.1 x hx⟩, c134 _ h6⟩
theorem caus6 {p : Pk} (h : shP p = true) (ho : Ok p) : p.c.length ≤ 6 := by
  have h8 := ho.c8
  unfold shP at h
  simp only [Bool.and_eq_true, Bool.not_eq_true', Bool.or_eq_false_iff, Bool.not_eq_false'] at h
  obtain ⟨⟨_, h2⟩, _⟩ := h
  unfold shC at h2
  simp only [Bool.and_eq_true, Bool.not_eq_true', Bool.and_eq_false_iff] at h2
  rcases h2.1 with h4 | h4
  · simp at h4; omega
  · simp at h4; omega
theorem ok_own {p : Pk} (hck : ckPk p = 0) : ckPk (ownP p) = 0 := by rw [ck_own]; exact hck
theorem len_own (p : Pk) : (ownP p).c.length = p.c.length := by unfold ownP; simp
theorem exA_own (p : Pk) : exA (ownP p) = exR p := by
  show expl (ownP p) (setsN (ownP p).c.length) = exF p (setsN p.c.length)
  rw [len_own]
  unfold expl exF
  congr 1
  funext st
  rw [unq_own]
def sameP (a x : Int × Int) : Bool := a.1 == x.1 && a.2 == x.2
def hasP (x : Int × Int) (l : List (Int × Int)) : Bool := l.any fun a => sameP a x
theorem loop91 (x : Int × Int) (b : Bool) (l : List (Int × Int)) (hb : l.length < 1000000) : ∀ i, i ≤ l.length → (lim T).loop false [.code (.loop b91_0), .inBlock 0, .code (.seq r91_6 .ret)] ⟨91, 18, 0, [(0, .sl b 2 (l.map ptV)), (3, .ptr 0 0 0), (5, .int .i64 i)], [.cells true true 100 [ptV x]], 0, []⟩ =
    some (.ret (.bool (hasP x (l.drop i))), [], 0, []) := by
  refine down_ind l.length ?_ fun i hi ih => ?_
  · have h1 := idx_out l.length
    rw [loopEq, List.drop_of_length_le (Nat.le_refl _)]
    simp -implicitDefEqProofs only [go_sem, simprocAttr, h1]
    rfl
  · obtain ⟨h1, h2, h3, h4, h5⟩ := idx_in hi (by omega)
    rw [loopEq, h5]
    simp only [hasP, List.any_cons] at ih ⊢
    cases h6 : sameP l[i] x
    · simp only [Bool.false_or]
      rw [← ih]
      unfold sameP at h6
      simp -implicitDefEqProofs only [go_sem, simprocAttr, h1, h2, h3, h4, h6]
    · simp only [Bool.true_or]
      unfold sameP at h6
      simp -implicitDefEqProofs only [go_sem, simprocAttr, h1, h2, h3, h4, h6]
theorem c91 (x : Int × Int) (b : Bool) (l : List (Int × Int)) (hb : l.length < 1000000) : (lim T).call 91 [.sl b 2 (l.map ptV), .agg [.int .i64 x.1, .int .i64 x.2]] [] 0 [] = some (.bool (hasP x l), [], 0, []) := by
  rw [ent91]
  have h := loop91 x b l hb 0 (by omega)
  rw [show ((0 : Nat) : Int) = 0 from rfl, List.drop_zero] at h
  simp only [ptV] at h
  simp -implicitDefEqProofs only [go_sem, simprocAttr, h]
theorem c142 (a x : Int × Int) (b : Bool) (pr : List (Int × Int)) (i : Nat) (hi : pr[i]? = some x) : (lim T).call 142 [.agg [.int .i64 a.1, .int .i64 a.2], .pp 1 [.sl b 2 (pr.map ptV)] 0 0, .pp 1 [.int .i64 i] 0 0] [] 0 [] = some (.bool (sameP a x), [], 0, []) := by
  rw [ent142]
  have h2 : decide (0 ≤ (i : Int) ∧ (i : Int) < (pr.length : Int)) = true := decide_eq_true (by have := (List.getElem?_eq_some_iff.1 hi).1; omega)
  unfold sameP
  simp -implicitDefEqProofs only [go_sem, simprocAttr, h2, hi]
def idxP (x : Int × Int) : Nat → List (Int × Int) → Int
  | _, [] => -1
  | i, a :: r => bif sameP a x then i else idxP x (i + 1) r
theorem idxP_has (x : Int × Int) : ∀ (l : List (Int × Int)) (i : Nat), decide (0 ≤ idxP x i l) = hasP x l := by
  intro l
  induction l with
  | nil => intro i; rfl
  | cons a r ih =>
    intro i
    rw [show idxP x i (a :: r) = bif sameP a x then (i : Int) else idxP x (i + 1) r from rfl, show hasP x (a :: r) = (sameP a x || hasP x r) from rfl, ← ih (i + 1)]
    cases sameP a x <;> simp
theorem loop211 (x : Int × Int) (b bp : Bool) (pr : List (Int × Int)) (k : Nat) (hk : pr[k]? = some x) (l : List (Int × Int)) (hb : l.length < 1000000) : ∀ i, i ≤ l.length → (lim T).loop false [.code (.loop b211_0), .inBlock 0, .code (.seq r211_7 .ret)] ⟨211, 19, 0, [(0, .sl b 2 (l.map ptV)), (1, .fn 142 [.pp 1 [.sl bp 2 (pr.map ptV)] 0 0, .pp 1 [.int .i64 k] 0 0]), (7, .int .i64 l.length), (8, .int .i64 i)], [], 0, []⟩ =
    some (.ret (.int .i64 (idxP x i (l.drop i))), [], 0, []) := by
  refine down_ind l.length ?_ fun i hi ih => ?_
  · have h1 := idx_out l.length
    rw [loopEq, List.drop_of_length_le (Nat.le_refl _)]
    simp -implicitDefEqProofs only [go_sem, simprocAttr, h1]
    rfl
  · obtain ⟨h1, h2, h3, h4, h5⟩ := idx_in hi (by omega)
    have e := c142 l[i] x bp pr k hk
    rw [loopEq, h5]
    simp only [idxP]
    cases h6 : sameP l[i] x
    · rw [h6] at e
      simp only [cond_false]
      rw [← ih]
      simp -implicitDefEqProofs only [go_sem, simprocAttr, h1, h2, h3, h4, e]
    · rw [h6] at e
      simp only [cond_true]
      simp -implicitDefEqProofs only [go_sem, simprocAttr, h1, h2, h3, h4, e]
theorem c143 (x : Int × Int) (b bp : Bool) (pr : List (Int × Int)) (k : Nat) (hk : pr[k]? = some x) (l : List (Int × Int)) (hb : l.length < 1000000) : (lim T).call 143 [.sl b 2 (l.map ptV), .fn 142 [.pp 1 [.sl bp 2 (pr.map ptV)] 0 0, .pp 1 [.int .i64 k] 0 0]] [] 0 [] = some (.bool (hasP x l), [], 0, []) := by
  have h := loop211 x b bp pr k hk l hb 0 (by omega)
  rw [show ((0 : Nat) : Int) = 0 from rfl, List.drop_zero] at h
  have e : (lim T).call 211 [.sl b 2 (l.map ptV), .fn 142 [.pp 1 [.sl bp 2 (pr.map ptV)] 0 0, .pp 1 [.int .i64 k] 0 0]] [] 0 [] = some (.int .i64 (idxP x 0 l), [], 0, []) := by
    rw [ent211]
    simp -implicitDefEqProofs only [go_sem, simprocAttr, h]
  rw [ent143]
  simp -implicitDefEqProofs only [go_sem, simprocAttr, e, ge_le, idxP_has]
theorem c47 (b : Bool) (l : List (Int × Int)) (hl : l.length < 1000000) : (lim T).call 47 [.sl b 2 (l.map ptV)] [] 0 [] = some (.sl true 2 (l.map ptV), [], 0, []) := by
  rw [ent47]
  cases l with
  | nil => simp -implicitDefEqProofs only [go_sem, simprocAttr]
  | cons p l =>
    have h8 := (row_ok (n := l.length) (by simp at hl; omega)).1
    simp -implicitDefEqProofs only [go_sem, simprocAttr, h8]
def unkP (nv s : Nat) (x : Int × Int) : Bool := ((decide (x.1 < 0) || decide ((nv : Int) ≤ x.1)) || decide (x.2 < 0)) || decide ((s : Int) ≤ x.2)
def knP (nv s : Nat) (x : Int × Int) : Int := cond (unkP nv s x) 10 0
theorem c140 (p : Pk) (ho : Ok p) (a b : Int) : (lim T).call 140 [.agg [.int .i64 a, .int .i64 b], .pp 3 [pkV p] 0 0] [] 0 [] = some (.int .i64 (knP p.v.length (slots p) (a, b)), [], 0, []) := by
  rw [ent140]
  obtain ⟨r0, g1, g2, g3⟩ := slots_r0 ho
  unfold knP unkP
  simp only
  cases h1 : decide (a < 0)
  · cases h2 : decide ((p.v.length : Int) ≤ a)
    · cases h3 : decide (b < 0)
      · simp -implicitDefEqProofs only [go_sem, simprocAttr, pkV, h1, h2, h3, g1, g2, g3, ge_le, c115, Bool.false_or]
      · simp -implicitDefEqProofs only [go_sem, simprocAttr, pkV, h1, h2, h3, ge_le, c115, Bool.false_or, Bool.true_or]
    · simp -implicitDefEqProofs only [go_sem, simprocAttr, pkV, h1, h2, ge_le, c115, Bool.false_or, Bool.true_or]
  · simp -implicitDefEqProofs only [go_sem, simprocAttr, pkV, h1, c115, Bool.true_or]
theorem loop141 (p : Pk) (hok : Ok p) (b : Bool) (l : List (Int × Int)) (hb : l.length < 1000000) : ∀ i, i ≤ l.length → ∀ o : Option (List (Int)), acL o = i →
    (lim T).loop false [.code (.loop b141_0), .inBlock 0, .code (.seq r141_7 .ret)] ⟨141, 22, 0, [(1, .fn 140 [.pp 3 [pkV p] 0 0]), (5, acV o 0), (8, .sl b 2 (l.map ptV)), (9, .int .i64 l.length), (10, .int .i64 i)], acR intV o 29, 0, []⟩ =
      some (.ret (acO intV 0 1 (acA o ((l.drop i).map (fun x => knP p.v.length (slots p) x)))), [], 0, []) := by
  refine down_ind l.length ?_ fun i hi ih o ho => ?_
  · intro o ho
    rw [loopEq]
    have h1 := idx_out l.length
    cases o with
    | none =>
      simp -implicitDefEqProofs only [go_sem, simprocAttr, h1]
      simp [acA, acO]
    | some a =>
      simp -implicitDefEqProofs only [go_sem, simprocAttr, h1]
      simp [acA, acO]
  · obtain ⟨h1, h2, h3, h4, h5⟩ := idx_in hi (by omega)
    rw [loopEq, h5]
    have ih' := ih (acA o [((fun x => knP p.v.length (slots p) x) l[i])]) (by rw [acL_A, ho]; rfl)
    rw [acA_acA] at ih'
    dsimp only at ih'
    cases o with
    | none =>
      have h8 := row_ok (n := 0) (by omega)
      simp only [acA_n, acV_s, acR_s, List.map_cons, List.map_nil, intV] at ih'
      simp -implicitDefEqProofs only [go_sem, simprocAttr, h1, h2, h3, h4, ih', h8.2, c140 p hok]
    | some a =>
      have h9 : a.length = i := ho
      have h8 := (row_ok (n := a.length) (by omega)).1
      simp only [acA_s, acV_s, acR_s, List.map_append, List.map_cons, List.map_nil, intV] at ih'
      simp -implicitDefEqProofs only [go_sem, simprocAttr, h1, h2, h3, h4, ih', h8, c140 p hok]
theorem c141 (p : Pk) (hok : Ok p) (b : Bool) (l : List (Int × Int)) (hb : l.length < 1000000) : (lim T).call 141 [.sl b 2 (l.map ptV), .fn 140 [.pp 3 [pkV p] 0 0]] [] 0 [] = some (slV 1 (((l).map (fun x => knP p.v.length (slots p) x)).map intV), [], 0, []) := by
  rw [ent141]
  have h := loop141 p hok b l hb  0 (by omega) none rfl
  rw [show ((0 : Nat) : Int) = 0 from rfl, List.drop_zero, acO_slV] at h
  simp only [acV_n, acR_n] at h
  simp -implicitDefEqProofs only [go_sem, simprocAttr, h]
def fwr (n : Int) (L : List (List Int)) : List (List Int) := L.filter fun s => decide ((s.length : Int) < n)
theorem fwr_cons (n : Int) (x : List Int) (L : List (List Int)) : fwr n (x :: L) = (bif decide ((x.length : Int) < n) then [x] else []) ++ fwr n L := by
  unfold fwr
  by_cases h : (x.length : Int) < n <;> simp [h]
theorem loop144 (n : Int) (L : List (List Int)) (hL : L.length < 1000) : ∀ i, i ≤ L.length → ∀ o, acL o ≤ i → (lim T).loop false [.code (.loop b144_0), .inBlock 0, .code (.seq r144_8 .ret)] ⟨144, 33, 0, [(1, .int .i64 n), (5, acV o 0), (6, .sl true 1 (L.map (seV 0))), (7, .int .i64 i)], acR seW o 28, 0, []⟩ =
    some (.ret (acO seW 0 1 (acA o (fwr n (L.drop i)))), [], 0, []) := by
  refine down_ind L.length ?_ fun i hi ih => ?_
  · intro o _
    rw [loopEq, List.drop_of_length_le (Nat.le_refl _), show fwr n [] = [] from rfl, acA_0]
    have h1 := idx_out L.length
    cases o with
    | none => simp -implicitDefEqProofs only [go_sem, simprocAttr, h1]
    | some a => simp -implicitDefEqProofs only [go_sem, simprocAttr, h1]
  · intro o ho'
    obtain ⟨h1, h2, h3, h4, h5⟩ := idx_in hi (by omega)
    rw [h5, fwr_cons]
    generalize L[i] = x at *
    cases h6 : decide ((x.length : Int) < n)
    · simp only [cond_false, List.nil_append]
      rw [← ih o (by omega)]
      conv => lhs; rw [loopEq]
      cases o with
      | none =>
        simp only [acV_n, acR_n]
        simp -implicitDefEqProofs only [go_sem, simprocAttr, h1, h2, h3, h4, h6]
      | some a =>
        simp only [acV_s, acR_s]
        simp -implicitDefEqProofs only [go_sem, simprocAttr, h1, h2, h3, h4, h6]
    · simp only [cond_true]
      have ih' := ih (acA o [x]) (by rw [acL_A]; simp only [List.length_cons, List.length_nil]; omega)
      rw [acA_acA] at ih'
      rw [← ih']
      conv => lhs; rw [loopEq]
      cases o with
      | none =>
        have h8 := (row_ok (n := 0) (by omega)).2
        simp only [acA_n, acV_n, acR_n, acV_s, acR_s, List.map_cons, List.map_nil]
        simp -implicitDefEqProofs only [go_sem, simprocAttr, h1, h2, h3, h4, h6, h8]
      | some a =>
        have h9 : a.length ≤ i := ho'
        have h8 := (row_ok (n := a.length) (by omega)).1
        simp only [acA_s, acV_s, acR_s, List.map_append, List.map_cons, List.map_nil]
        simp -implicitDefEqProofs only [go_sem, simprocAttr, h1, h2, h3, h4, h6, h8]
theorem c144 (p : Pk) (hr : Rok p) (n : Int) : (lim T).call 144 [pkV p, .int .i64 n] [] 0 [] = some (slV 1 ((fwr n (setsN p.c.length)).map seW), [], 0, []) := by
  rw [ent144]
  have hl := hr.len
  have h := loop144 n (setsN p.c.length) (by omega) 0 (by omega) none (by simp [acL_n])
  rw [List.drop_zero, acO_slV] at h
  have e := hr.c134
  simp only [acV_n, acR_n, show ((0 : Nat) : Int) = 0 from rfl] at h
  simp -implicitDefEqProofs only [go_sem, simprocAttr, pkV, e, h]
theorem gA2 {B L : Heap} {N : Nat} (h : B.length = N) : (B ++ L)[N + 2]? = L[2]? := by subst h; rw [List.getElem?_append_right (by omega)]; congr 1; omega
abbrev c22q : Row := .cells true false 22 [.ref 1]
def Out45 (H : Heap) (out : List (Int × Int)) : Prop :=
  (out = [] ∧ ∃ fl, H[3]? = some (.cells true fl 48 [.sl false 0 []])) ∨ (out ≠ [] ∧ ∃ m fl, H[3]? = some (.cells true fl 48 [.ref m]) ∧ H[m]? = some (.cells false true 100 (out.map ptV)) ∧ 3 < m ∧ m < H.length)
structure In45 (p : Pk) (L : List (List Int)) (H : Heap) (out : List (Int × Int)) : Prop where
  n : 4 ≤ H.length
  h0 : H[0]? = some (.cells true true 34 [pkV p])
  h1 : H[1]? = some (rw28 L)
  h2 : H[2]? = some c22q
  o : Out45 H out
theorem inner45 (p : Pk) (L : List (List Int)) (env : Den.Env) (he : lookV env 6 = .ptr 3 0 0) (H : Heap) (out : List (Int × Int)) (x : Int × Int) (hll : out.length < 1000) (hI : In45 p L H out) (N : Nat) (hN : H.length = N) :
    ∃ H', In45 p L H' (out ++ [x]) ∧ runK (lim T) T true segFuel [.code a45_2, .beginRound, .code c45_2] ⟨45, 38, N, (32, ptV x) :: env, H, 0, []⟩ = some (.round (some (.exit 1)), H', 0, []) := by
  obtain ⟨hn, h0, h1, h2, ho⟩ := hI
  have n3 : 3 < N := by omega
  have d1 : decide (N < N + 1) = true := by simp
  have d2 : decide (3 < N + 3) = true := decide_eq_true (by omega)
  have d2' : decide (3 < N + 2) = true := decide_eq_true (by omega)
  rcases ho with ⟨rfl, fl, h3⟩ | ⟨ho, m, fl, h3, hm, hm3, hmN⟩
  · have h8 := (row_ok (n := 0) (by omega)).2
    refine ⟨H.set 3 (.cells true false 48 [.ref (N + 2)]) ++ [.cells true true 100 [ptV x], .cells false true 100 [ptV x], .cells false true 100 [ptV x]], ⟨by simp; omega, ?_, ?_, ?_, .inr ⟨by simp, N + 2, false, ?_, ?_, by omega, by simp [hN]⟩⟩, ?_⟩
    · rw [List.getElem?_append_left (by simp; omega), List.getElem?_set_ne (by omega), h0]
    · rw [List.getElem?_append_left (by simp; omega), List.getElem?_set_ne (by omega), h1]
    · rw [List.getElem?_append_left (by simp; omega), List.getElem?_set_ne (by omega), h2]
    · rw [List.getElem?_append_left (by simp; omega), List.getElem?_set_self (by omega)]
    · rw [gA2 (by simp; exact hN)]; rfl
    · simp -implicitDefEqProofs only [go_sem, simprocAttr, he, h3, hN, n3, gA, gA1, sA, List.getElem?_append_left, List.set_append_left, List.append_assoc, List.length_set, h8, d1, d2, d2', Nat.zero_shiftRight, Nat.and_zero, Nat.zero_or]
  · have h8 := (row_ok (n := out.length) (by omega)).1
    have d4 : decide (m < N + 2) = true := decide_eq_true (by omega)
    have hmN' : m < N := by omega
    have hd3 : (H.set m .dead)[3]? = some (.cells true fl 48 [.ref m]) := by rw [List.getElem?_set_ne (by omega), h3]
    refine ⟨(H.set m .dead).set 3 (.cells true false 48 [.ref (N + 2)]) ++ [.cells true true 100 [ptV x], .cells false true 100 [ptV x], .cells false true 100 ((out ++ [x]).map ptV)], ⟨by simp; omega, ?_, ?_, ?_, .inr ⟨by simp, N + 2, false, ?_, ?_, by omega, by simp [hN]⟩⟩, ?_⟩
    · rw [List.getElem?_append_left (by simp; omega), List.getElem?_set_ne (by omega), List.getElem?_set_ne (by omega), h0]
    · rw [List.getElem?_append_left (by simp; omega), List.getElem?_set_ne (by omega), List.getElem?_set_ne (by omega), h1]
    · rw [List.getElem?_append_left (by simp; omega), List.getElem?_set_ne (by omega), List.getElem?_set_ne (by omega), h2]
    · rw [List.getElem?_append_left (by simp; omega), List.getElem?_set_self (by simp; omega)]
    · rw [gA2 (by simp; exact hN)]; rfl
    · simp only [List.map_append, List.map_cons, List.map_nil]
      simp -implicitDefEqProofs only [go_sem, simprocAttr, he, h3, hm, hd3, hN, n3, hmN', gA, gA1, sA, List.getElem?_append_left, List.set_append_left, List.append_assoc, List.length_set, h8, d1, d2, d2', d4, Nat.zero_shiftRight, Nat.and_zero, Nat.zero_or]
def env45 (p : Pk) (x x0 : List Int) (caps : List V) (env : Den.Env) : Den.Env :=
  (31, .fn 197 caps) :: (30, .sl (!x.isEmpty) 1 (x.map intV)) :: (29, pkV p) :: (28, .bool false) :: (27, .int .i64 x0.length) :: (26, .sl (!x0.isEmpty) 1 (x0.map intV)) :: (25, .ptr 1 0 0) :: (24, .ref 1) :: (23, .int .i64 x.length) ::
    (22, .sl (!x.isEmpty) 1 (x.map intV)) :: (7, .sl (!x.isEmpty) 1 (x.map intV)) :: (21, .sl (!x.isEmpty) 1 (x.map intV)) :: env
theorem env45_6 (p : Pk) (x x0 : List Int) (caps : List V) (env : Den.Env) (he : lookV env 6 = .ptr 3 0 0) : lookV (env45 p x x0 caps env) 6 = .ptr 3 0 0 := by
  unfold env45
  simp -implicitDefEqProofs only [go_sem, simprocAttr, he]
def own45i (p : Pk) (x x0 : List Int) (caps : List V) (env : Den.Env) (H : Heap) (d : Bool) (pd : Option Code) : Own := ⟨45, 38, env45 p x x0 caps env, H, 0, [32], a45_2, c45_2, d, pd⟩
theorem round45 (p : Pk) (ho : Ok p) (L : List (List Int)) (x0 : List Int) (hx0 : L[0]? = some x0) (env : Den.Env) (he1 : lookV env 1 = .ptr 0 0 0) (he4 : lookV env 4 = .ptr 2 0 0) (he6 : lookV env 6 = .ptr 3 0 0) (H : Heap) (out : List (Int × Int)) (hol : out.length < 1000)
    (x : List Int) (hx : x.length < 1000000) (hv : Vst p x) (hI : In45 p L H out) (N : Nat) (hN : H.length = N) (hlt : decide ((x0.length : Int) ≤ x.length) = false) :
    ∃ H', In45 p L H' (out ++ (unq p x).take 1) ∧ runK (lim T) T true segFuel [.code a45_1, .beginRound, .code c45_1] ⟨45, 38, N, (21, seW x) :: env, H, 0, []⟩ = some (.round none, H', 0, []) := by
  obtain ⟨caps, i1, i2, hcl, e1⟩ : ∃ caps, idsL caps = [] ∧ yldL caps = false ∧ Call197 caps (unq p x) ∧ (lim T).call 125 [pkV p, .sl (!x.isEmpty) 1 (x.map intV)] [] 0 [] = some (.fn 197 caps, [], 0, []) :=
    ⟨cap125 p x, (cap_pure p x).1, (cap_pure p x).2, call125 p ho x, c125 p ho (!x.isEmpty) 1 x hx hv (fun _ => rfl)⟩
  have hI0 := hI
  obtain ⟨hn, h0, h1, h2, _⟩ := hI
  have d0 : decide (0 < (L.length : Int)) = true := decide_eq_true (by have := (List.getElem?_eq_some_iff.1 hx0).1; omega)
  have h0' := h0
  have e1' := e1
  simp only [pkV] at h0' e1'
  have start : ∀ R, (∀ own', (lim T).call 197 (.yld (List.length ([] : Stk)) :: caps) [] 0 ([] ++ [own45i p x x0 caps env H false none]) = some (.tup [], [], 0, [] ++ [own']) →
      runK (lim T) T true 99988 (match own'.pending with | some c => .code c :: [.inBlock 2, .inBlock 1] | none => [.inBlock 2, .inBlock 1]) ⟨own'.fn, own'.nt, N, own'.env, own'.H, own'.Fz, []⟩ = R →
      runK (lim T) T true segFuel [.code a45_1, .beginRound, .code c45_1] ⟨45, 38, N, (21, seW x) :: env, H, 0, []⟩ = R) := by
    intro R own' hc hR
    simp -implicitDefEqProofs only [go_sem, simprocAttr, he1, he4, h0', h1, h2, hN, d0, hx0, ge_le, hlt, e1', i1]
    unfold own45i env45 pkV at hc
    rw [rangeRun (f := .tmp 31) (g := 197) (caps := caps) (S := []) (ps := #[32]) rfl i1 i2 fct197.1 fct197.2.1 res197 rfl hc]
    exact hR
  cases hxs : unq p x with
  | nil =>
    refine ⟨H, by rw [List.take_nil, List.append_nil]; exact hI0, ?_⟩
    refine start _ (own45i p x x0 caps env H false none) ?_ ?_
    · rw [hxs] at hcl
      exact hcl _ _ true rfl
    · simp only [own45i]
      simp -implicitDefEqProofs only [go_sem, simprocAttr]
  | cons y ys =>
    obtain ⟨H', hI', hr⟩ := inner45 p L (env45 p x x0 caps env) (env45_6 p x x0 caps env he6) H out y hol hI0 N hN
    refine ⟨H', by rw [show (y :: ys).take 1 = [y] from rfl]; exact hI', ?_⟩
    have hY := yldEq (S := []) (own := own45i p x x0 caps env H false none) rfl (args := [ptV y]) rfl (by
      simp only [own45i]
      rw [hN]
      exact hr)
    have hY' : (lim T).yld 0 [ptV y] [own45i p x x0 caps env H false none] = some (false, [own45i p x x0 caps env H' true (some (.exit 1))]) := hY
    refine start _ (own45i p x x0 caps env H' true (some (.exit 1))) ?_ ?_
    · rw [hxs] at hcl
      refine hcl _ _ false ?_
      show (match (lim T).yld 0 [ptV y] [own45i p x x0 caps env H false none] with | some (true, S') => yldAll T 0 (ys.map ptV) S' | o => o) = _
      rw [hY']
      rfl
    · simp only [own45i]
      simp -implicitDefEqProofs only [go_sem, simprocAttr]
theorem break45 (p : Pk) (L : List (List Int)) (x0 : List Int) (hx0 : L[0]? = some x0) (env : Den.Env) (he4 : lookV env 4 = .ptr 2 0 0) (H : Heap) (out : List (Int × Int)) (x : List Int) (hI : In45 p L H out) (N : Nat) (hlt : decide ((x0.length : Int) ≤ x.length) = true) :
    runK (lim T) T true segFuel [.code a45_1, .beginRound, .code c45_1] ⟨45, 38, N, (21, seW x) :: env, H, 0, []⟩ = some (.round (some (.exit 0)), H, 0, []) := by
  obtain ⟨hn, h0, h1, h2, _⟩ := hI
  have d0 : decide (0 < (L.length : Int)) = true := decide_eq_true (by have := (List.getElem?_eq_some_iff.1 hx0).1; omega)
  simp -implicitDefEqProofs only [go_sem, simprocAttr, he4, h1, h2, d0, hx0, ge_le, hlt]
def pfL (p : Pk) (k : Nat) : List (List Int) → List (Int × Int)
  | [] => []
  | s :: r => bif decide ((k : Int) ≤ s.length) then [] else (unq p s).take 1 ++ pfL p k r
def own45 (env : Den.Env) (H : Heap) (d : Bool) (pd : Option Code) : Own := ⟨45, 38, env, H, 0, [21], a45_1, c45_1, d, pd⟩
theorem rounds45 (p : Pk) (ho : Ok p) (L : List (List Int)) (x0 : List Int) (hx0 : L[0]? = some x0) (env : Den.Env) (he1 : lookV env 1 = .ptr 0 0 0) (he4 : lookV env 4 = .ptr 2 0 0) (he6 : lookV env 6 = .ptr 3 0 0) : ∀ (xs : List (List Int)), (∀ x ∈ xs, x.length < 1000000 ∧ Vst p x) → ∀ (H : Heap) (out : List (Int × Int)), In45 p L H out → out.length + xs.length < 900 →
    ∃ b H' pd, In45 p L H' (out ++ pfL p x0.length xs) ∧ (pd = none ∨ pd = some (.exit 0)) ∧ yldAll T 0 (xs.map seW) [own45 env H false none] = some (b, [own45 env H' pd.isSome pd]) := by
  intro xs
  induction xs with
  | nil => intro _ H out hI _; exact ⟨true, H, none, by rw [show pfL p x0.length [] = [] from rfl, List.append_nil]; exact hI, .inl rfl, rfl⟩
  | cons x xs ih =>
    intro hx H out hI hl
    simp only [List.length_cons] at hl
    obtain ⟨x1, x2⟩ := hx x (by simp)
    cases hlt : decide ((x0.length : Int) ≤ x.length)
    · obtain ⟨H1, hI1, hr⟩ := round45 p ho L x0 hx0 env he1 he4 he6 H out (by omega) x x1 x2 hI H.length rfl hlt
      have hY := yldEq (S := []) (own := own45 env H false none) rfl (args := [seW x]) rfl hr
      have hY' : (lim T).yld 0 [seW x] [own45 env H false none] = some (true, [own45 env H1 false none]) := hY
      have htl : ((unq p x).take 1).length ≤ 1 := by rw [List.length_take]; omega
      obtain ⟨b, H', pd, j1, j2, j3⟩ := ih (fun y hy => hx y (by simp [hy])) H1 _ hI1 (by rw [List.length_append]; omega)
      refine ⟨b, H', pd, ?_, j2, ?_⟩
      · rw [List.append_assoc] at j1
        rw [show pfL p x0.length (x :: xs) = bif decide ((x0.length : Int) ≤ x.length) then [] else (unq p x).take 1 ++ pfL p x0.length xs from rfl, hlt]
        exact j1
      · simp only [List.map_cons, yldAll]
        rw [hY']
        exact j3
    · have hr := break45 p L x0 hx0 env he4 H out x hI H.length hlt
      have hY := yldEq (S := []) (own := own45 env H false none) rfl (args := [seW x]) rfl hr
      have hY' : (lim T).yld 0 [seW x] [own45 env H false none] = some (false, [own45 env H true (some (.exit 0))]) := hY
      refine ⟨false, H, some (.exit 0), ?_, .inr rfl, ?_⟩
      · rw [show pfL p x0.length (x :: xs) = bif decide ((x0.length : Int) ≤ x.length) then [] else (unq p x).take 1 ++ pfL p x0.length xs from rfl, hlt, cond_true, List.append_nil]
        exact hI
      · simp only [List.map_cons, yldAll]
        rw [hY']
        rfl
def envP (p : Pk) : Den.Env := [(20, .fn 235 (cap136 p.c.length)), (19, .int .i64 p.c.length), (18, .sl p.cb 3 (p.c.map czV)), (17, .ptr 0 0 2), (6, .ptr 3 0 0), (15, .bool false), (14, .int .i64 0), (5, .int .i64 0), (4, .ptr 2 0 0), (13, .int .i64 0),
  (12, .ref 1), (9, .tup [.ref 1, .int .i64 0]), (11, .tup [.ref 1, .int .i64 0]), (10, pkV p), (3, .int .i64 0), (2, .sl false 0 []), (1, .ptr 0 0 0), (0, pkV p)]
theorem c45 (p : Pk) (hf : p.fit) (h : ckPk p = 0) (hs : Sok p) (hx : exA p ≠ []) (x0 : List Int) (hx0 : (exA p)[0]? = some x0) : (lim T).call 45 [pkV p] [] 0 [] = some (.tup [slV 2 ((pfL p x0.length (setsN p.c.length)).map ptV), .int .i64 0], [], 0, []) := by
  have e := c128 p hf h hs hx
  have e1 := hs.c136
  have hl := hs.len
  obtain ⟨b, H', pd, j1, j2, j3⟩ := rounds45 p (ok_of h) (exA p) x0 hx0 (envP p) rfl rfl rfl (setsN p.c.length) hs.el [.cells true true 34 [pkV p], rw28 (exA p), c22q, .cells true true 48 [.sl false 0 []]] [] ⟨by simp, rfl, rfl, rfl, .inl ⟨rfl, true, rfl⟩⟩ (by simp; omega)
  rw [List.nil_append] at j1
  have hc : (lim T).call 235 (.yld (List.length ([] : Stk)) :: cap136 p.c.length) [] 0 ([] ++ [⟨45, 38, envP p, [.cells true true 34 [pkV p], rw28 (exA p), c22q, .cells true true 48 [.sl false 0 []]], 0, (#[21] : Array Nat).toList, a45_1, c45_1, false, none⟩]) = some (.tup [], [], 0, [] ++ [own45 (envP p) H' pd.isSome pd]) :=
    c235 _ _ 0 (by omega) _ _ b j3
  have start : ∀ R, retK (runK (lim T) T false 99981 (match pd with | some c => .code c :: [.inBlock 0, .code (r45_11.seq .ret), .inScope s45_0] | none => [.inBlock 0, .code (r45_11.seq .ret), .inScope s45_0]) ⟨45, 38, 0, envP p, H', 0, []⟩) = R → (lim T).call 45 [pkV p] [] 0 [] = R := by
    intro R hR
    rw [ent45]
    simp only [pkV] at e
    simp -implicitDefEqProofs only [go_sem, simprocAttr, pkV, e, e1]
    unfold envP pkV at hc
    rw [rangeRun (f := .tmp 20) (g := 235) (caps := cap136 p.c.length) (S := []) (ps := #[21]) rfl rfl rfl fct235.1 fct235.2.1 res235 rfl hc]
    unfold envP pkV at hR
    exact hR
  obtain ⟨hn, h0, h1, h2, ho⟩ := j1
  refine start _ ?_
  unfold envP
  generalize pfL p x0.length (setsN p.c.length) = out at *
  rcases ho with ⟨rfl, fl, h3⟩ | ⟨hne, m, fl, h3, hm, _, _⟩
  · rcases j2 with rfl | rfl
    · simp -implicitDefEqProofs only [go_sem, simprocAttr, h3]
      rfl
    · simp -implicitDefEqProofs only [go_sem, simprocAttr, h3]
      rfl
  · rw [slV_ne _ _ (by simpa using hne)]
    rcases j2 with rfl | rfl
    · simp -implicitDefEqProofs only [go_sem, simprocAttr, h3, hm]
    · simp -implicitDefEqProofs only [go_sem, simprocAttr, h3, hm]
theorem c45e (p : Pk) (E : Int) (hE : ¬ E = 0) (z : Nat) (H : Heap) (h : (lim T).call 128 [pkV p] [] 0 [] = some (.tup [.sl false z [], .int .i64 E], H, 0, [])) : (lim T).call 45 [pkV p] [] 0 [] = some (.tup [.sl false 0 [], .int .i64 E], [], 0, []) := by
  rw [ent45]
  have h1 : (E != 0) = true := by simpa using hE
  simp only [pkV] at h
  simp -implicitDefEqProofs only [go_sem, simprocAttr, pkV, h, h1, asSl, Bool.not_false, Bool.or_true]
def hdP (p : Pk) (s : List Int) : Int × Int := ((unx p s)[0]?).getD (0, 0)
theorem loop49 (p : Pk) (ho : Ok p) (b : Bool) (L : List (List Int)) (hL : L.length < 1000) (hl : ∀ x ∈ L, (x.length < 1000000 ∧ Vst p x) ∧ unx p x ≠ []) : ∀ i, i ≤ L.length → ∀ o, acL o = i → (lim T).loop false [.code (.loop b49_0), .inBlock 0, .code (.seq r49_7 .ret)] ⟨49, 31, 0, [(1, .ptr 0 0 0), (3, acV o 1), (4, .sl b 1 (L.map seW)), (5, .int .i64 i)], .cells true true 25 [pkV p] :: acR ptV o 100, 0, []⟩ =
    some (.ret (acO ptV 0 2 (acA o ((L.drop i).map (hdP p)))), [], 0, []) := by
  refine down_ind L.length ?_ fun i hi ih => ?_
  · intro o _
    rw [loopEq, List.drop_of_length_le (Nat.le_refl _), List.map_nil, acA_0]
    have h1 := idx_out L.length
    cases o with
    | none => simp -implicitDefEqProofs only [go_sem, simprocAttr, pkV, h1]
    | some a => simp -implicitDefEqProofs only [go_sem, simprocAttr, pkV, h1]
  · intro o ho'
    obtain ⟨h1, h2, h3, h4, h5⟩ := idx_in hi (by omega)
    obtain ⟨⟨x1, x2⟩, x3⟩ := hl _ (List.getElem_mem hi)
    have e := c33 p ho (!L[i].isEmpty) 1 L[i] x1 x2 (fun _ => rfl)
    rw [h5, List.map_cons]
    generalize L[i] = x at *
    have hg : (unx p x)[0]? = some (hdP p x) := by
      unfold hdP
      cases hc : unx p x with
      | nil => exact absurd hc x3
      | cons a r => rfl
    have d0 : decide (0 < ((unx p x).length : Int)) = true := decide_eq_true (by have := (List.getElem?_eq_some_iff.1 hg).1; omega)
    simp only [pkV] at e
    have ih' := ih (acA o [hdP p x]) (by rw [acL_A, ho']; rfl)
    rw [acA_acA] at ih'
    simp only [List.cons_append, List.nil_append] at ih'
    rw [← ih']
    conv => lhs; rw [loopEq]
    cases o with
    | none =>
      have h8 := (row_ok (n := 0) (by omega)).2
      simp only [acA_n, acV_n, acR_n, acV_s, acR_s, List.map_cons, List.map_nil, pkV]
      simp -implicitDefEqProofs only [go_sem, simprocAttr, h1, h2, h3, h4, e, hg, d0, h8]
    | some a =>
      have h9 : a.length = i := ho'
      have h8 := (row_ok (n := a.length) (by omega)).1
      simp only [acA_s, acV_s, acR_s, List.map_append, List.map_cons, List.map_nil, pkV]
      simp -implicitDefEqProofs only [go_sem, simprocAttr, h1, h2, h3, h4, e, hg, d0, h8]
theorem c49 (p : Pk) (ho : Ok p) (hr : Rok p) (x0 : List Int) (hx : (exR p)[0]? = some x0) (hne : ∀ x ∈ fwr x0.length (setsN p.c.length), unx p x ≠ []) : (lim T).call 49 [pkV p] [] 0 [] = some (slV 2 (((fwr x0.length (setsN p.c.length)).map (hdP p)).map ptV), [], 0, []) := by
  rw [ent49]
  have e1 := c41 p ho hr x0 hx
  have hx2 : (fLe x0 (exR p))[0]? = some x0 := by
    cases hc : exR p with
    | nil => rw [hc] at hx; cases hx
    | cons a r =>
      rw [hc] at hx
      obtain rfl : a = x0 := Option.some.inj hx
      rw [fLe_cons]
      simp
  have d0 : decide (0 < ((fLe x0 (exR p)).length : Int)) = true := decide_eq_true (by have := (List.getElem?_eq_some_iff.1 hx2).1; omega)
  have e2 := c144 p hr x0.length
  have hl := hr.len
  have hfl : (fwr (x0.length : Int) (setsN p.c.length)).length ≤ (setsN p.c.length).length := List.length_filter_le _ _
  have h := loop49 p ho (!((fwr (x0.length : Int) (setsN p.c.length)).map seW).isEmpty) (fwr x0.length (setsN p.c.length)) (by omega) (fun x hx => ⟨hr.el x (List.mem_filter.1 hx).1, hne x hx⟩) 0 (by omega) none rfl
  rw [List.drop_zero, acO_slV] at h
  simp only [acV_n, acR_n, show ((0 : Nat) : Int) = 0 from rfl, pkV] at h
  generalize fLe x0 (exR p) = F at *
  generalize fwr (x0.length : Int) (setsN p.c.length) = W at *
  simp only [pkV] at e1 e2
  simp -implicitDefEqProofs only [go_sem, simprocAttr, pkV, e1, hx2, d0, e2, h]
def chkP (p : Pk) : List (List Int) → List (Int × Int) → Int
  | s :: L, x :: r => bif hasP x (unx p s) then chkP p L r else 19
  | _, _ => 0
theorem loop48b (p : Pk) (ho : Ok p) (b lb : Bool) (L : List (List Int)) (hL : L.length < 1000) (hl : ∀ x ∈ L, x.length < 1000000 ∧ Vst p x) (pr : List (Int × Int)) (hp : pr.length = L.length) : ∀ i, i ≤ L.length → (lim T).loop false [.code (.loop b48_1), .inBlock 2, .code (.seq r48_17 .ret)] ⟨48, 89, 0, [(2, .sl b 2 (pr.map ptV)), (3, .ptr 0 0 0), (8, .sl lb 1 (L.map seW)), (10, .int .i64 i)], [.cells true true 25 [pkV p]], 0, []⟩ =
    some (.ret (.int .i64 (chkP p (L.drop i) (pr.drop i))), [], 0, []) := by
  refine down_ind L.length ?_ fun i hi ih => ?_
  · have h1 := idx_out L.length
    rw [loopEq, List.drop_of_length_le (Nat.le_refl _), List.drop_of_length_le (by omega)]
    simp -implicitDefEqProofs only [go_sem, simprocAttr, pkV, h1]
    rfl
  · obtain ⟨h1, h2, h3, h4, h5⟩ := idx_in hi (by omega)
    obtain ⟨g1, g2, g3, g4, g5⟩ := idx_in (l := pr) (i := i) (by omega) (by omega)
    obtain ⟨x1, x2⟩ := hl _ (List.getElem_mem hi)
    have e := c33 p ho (!L[i].isEmpty) 1 L[i] x1 x2 (fun _ => rfl)
    have hul := unx_len ho L[i]
    rw [h5, g5]
    simp only [chkP]
    generalize L[i] = x at *
    generalize pr[i]'(by omega) = y at *
    have e2 := c91 y (!((unx p x).map ptV).isEmpty) (unx p x) (by omega)
    simp only [pkV] at e
    cases h6 : hasP y (unx p x)
    · rw [h6] at e2
      simp only [cond_false]
      rw [loopEq]
      simp -implicitDefEqProofs only [go_sem, simprocAttr, pkV, h1, h2, h3, h4, g2, g3, e, e2]
    · rw [h6] at e2
      simp only [cond_true]
      rw [← ih]
      conv => lhs; rw [loopEq]
      simp -implicitDefEqProofs only [go_sem, simprocAttr, pkV, h1, h2, h3, h4, g2, g3, e, e2]
def L48a (p : Pk) (b lb : Bool) (L : List (List Int)) (pr : List (Int × Int)) (i : Nat) : Option Out :=
  (lim T).loop false [.code (.loop b48_0), .inBlock 0, .code (.seq (.seq r48_12 (.block 2 (.loop b48_1))) (.seq r48_17 .ret))] ⟨48, 89, 0, [(2, .sl b 2 (pr.map ptV)), (3, .ptr 0 0 0), (8, .sl lb 1 (L.map seW)), (9, .int .i64 i)], [.cells true true 25 [pkV p]], 0, []⟩
theorem loop48a (p : Pk) (ho : Ok p) (b lb : Bool) (L : List (List Int)) (pr : List (Int × Int)) (hp : pr.length < 1000) : ∀ i, i ≤ pr.length → L48a p b lb L pr i = brE (fnz ((pr.drop i).map (knP p.v.length (slots p)))) (L48a p b lb L pr pr.length) := by
  obtain ⟨r0, k1, k2, k3⟩ := slots_r0 ho
  refine down_ind pr.length ?_ fun i hi ih => ?_
  · rw [List.drop_of_length_le (Nat.le_refl _)]
    rfl
  · obtain ⟨h1, h2, h3, h4, h5⟩ := idx_in hi (by omega)
    rw [h5, List.map_cons]
    generalize pr[i] = x at *
    conv => lhs; unfold L48a; rw [loopEq]
    cases q1 : decide (x.1 < 0)
    · cases q2 : decide ((p.v.length : Int) ≤ x.1)
      · cases q3 : decide (x.2 < 0)
        · cases q4 : decide ((slots p : Int) ≤ x.2)
          · have hk : knP p.v.length (slots p) x = 0 := by unfold knP unkP; rw [q1, q2, q3, q4]; rfl
            rw [brE_c hk, ← ih]
            unfold L48a
            simp -implicitDefEqProofs only [go_sem, simprocAttr, pkV, h1, h2, h3, h4, k1, k2, k3, q1, q2, q3, q4, ge_le]
          · have hk : knP p.v.length (slots p) x = 10 := by unfold knP unkP; rw [q1, q2, q3, q4]; rfl
            rw [brE_n (by rw [hk]; decide), hk]
            simp -implicitDefEqProofs only [go_sem, simprocAttr, pkV, h1, h2, h3, h4, k1, k2, k3, q1, q2, q3, q4, ge_le]
        · have hk : knP p.v.length (slots p) x = 10 := by unfold knP unkP; rw [q1, q2, q3]; rfl
          rw [brE_n (by rw [hk]; decide), hk]
          simp -implicitDefEqProofs only [go_sem, simprocAttr, pkV, h1, h2, h3, h4, k1, k2, k3, q1, q2, q3, ge_le]
      · have hk : knP p.v.length (slots p) x = 10 := by unfold knP unkP; rw [q1, q2]; rfl
        rw [brE_n (by rw [hk]; decide), hk]
        simp -implicitDefEqProofs only [go_sem, simprocAttr, pkV, h1, h2, h3, h4, k1, k2, k3, q1, q2, ge_le]
    · have hk : knP p.v.length (slots p) x = 10 := by unfold knP unkP; rw [q1]; rfl
      rw [brE_n (by rw [hk]; decide), hk]
      simp -implicitDefEqProofs only [go_sem, simprocAttr, pkV, h1, h2, h3, h4, k1, k2, k3, q1, ge_le]
def ckPf (p : Pk) (n : Int) (pr : List (Int × Int)) : Int :=
  if rng n 0 p.c.length = 0 then
    (if ((pr.length : Int) != (fwr n (setsN p.c.length)).length) then 2 else
      if fnz (pr.map (knP p.v.length (slots p))) = 0 then chkP p (fwr n (setsN p.c.length)) pr else fnz (pr.map (knP p.v.length (slots p))))
  else rng n 0 p.c.length
theorem c48 (p : Pk) (ho : Ok p) (hr : Rok p) (n : Int) (b : Bool) (pr : List (Int × Int)) (hpr : pr.length < 1000) : (lim T).call 48 [pkV p, .int .i64 n, .sl b 2 (pr.map ptV)] [] 0 [] = some (.int .i64 (ckPf p n pr), [], 0, []) := by
  rw [ent48]
  have e1 := c90 n 0 p.c.length
  unfold ckPf
  cases h0 : (rng n 0 p.c.length != 0)
  · have h00 : rng n 0 p.c.length = 0 := by simpa using h0
    rw [if_pos h00]
    have e2 := c144 p hr n
    have hl := hr.len
    have hfl : (fwr n (setsN p.c.length)).length ≤ (setsN p.c.length).length := List.length_filter_le _ _
    have hel : ∀ x ∈ fwr n (setsN p.c.length), x.length < 1000000 ∧ Vst p x := fun x hx => hr.el x (List.mem_filter.1 hx).1
    generalize fwr n (setsN p.c.length) = W at *
    cases hq : ((pr.length : Int) != W.length)
    · have hq2 : pr.length = W.length := by simp at hq; omega
      rw [if_neg (by simp)]
      have hA := loop48a p ho b (!(W.map seW).isEmpty) W pr hpr 0 (by omega)
      have hB := loop48b p ho b (!(W.map seW).isEmpty) W (by omega) hel pr hq2 0 (by omega)
      rw [List.drop_zero] at hA
      rw [List.drop_zero, List.drop_zero, show ((0 : Nat) : Int) = 0 from rfl] at hB
      have fin : L48a p b (!(W.map seW).isEmpty) W pr pr.length = some (.ret (.int .i64 (chkP p W pr)), [], 0, []) := by
        unfold L48a
        rw [loopEq]
        have h1 := idx_out pr.length
        simp only [pkV] at hB
        simp -implicitDefEqProofs only [go_sem, simprocAttr, pkV, h1, hB]
      rw [fin] at hA
      unfold L48a at hA
      unfold brE at hA
      simp only [pkV] at e2
      by_cases hz : fnz (pr.map (knP p.v.length (slots p))) = 0
      · rw [if_pos hz] at hA ⊢
        rw [show ((0 : Nat) : Int) = 0 from rfl] at hA
        simp only [pkV] at hA
        simp -implicitDefEqProofs only [go_sem, simprocAttr, pkV, e1, h0, e2, hq, hA]
      · rw [if_neg hz] at hA ⊢
        rw [show ((0 : Nat) : Int) = 0 from rfl] at hA
        simp only [pkV] at hA
        simp -implicitDefEqProofs only [go_sem, simprocAttr, pkV, e1, h0, e2, hq, hA]
    · rw [if_pos rfl]
      simp only [pkV] at e2
      simp -implicitDefEqProofs only [go_sem, simprocAttr, pkV, e1, h0, e2, hq]
  · have h00 : ¬ rng n 0 p.c.length = 0 := by simpa using h0
    rw [if_neg h00]
    simp -implicitDefEqProofs only [go_sem, simprocAttr, pkV, e1, h0]
def In210 (H : Heap) (l : List (List Int)) : Prop := 1 ≤ H.length ∧
  ((l = [] ∧ ∃ fl, H[0]? = some (.cells true fl 22 [.sl false 0 []])) ∨ (l ≠ [] ∧ ∃ m fl, H[0]? = some (.cells true fl 22 [.ref m]) ∧ H[m]? = some (rw28 l) ∧ 0 < m ∧ m < H.length))
theorem round210 (env : Den.Env) (he : lookV env 2 = .ptr 0 0 0) (H : Heap) (l : List (List Int)) (x : List Int) (hll : l.length < 1000) (hI : In210 H l) (N : Nat) (hN : H.length = N) :
    ∃ H', In210 H' (l ++ [x]) ∧ runK (lim T) T true segFuel [.code a210_0, .beginRound, .code c210_0] ⟨210, 13, N, (7, seW x) :: env, H, 0, []⟩ = some (.round none, H', 0, []) := by
  obtain ⟨hn, hI⟩ := hI
  have n0 : 0 < N := by omega
  have d2 : decide (0 < N + 2) = true := decide_eq_true (by omega)
  rcases hI with ⟨rfl, fl, h1⟩ | ⟨hl, m, fl, h1, hm, hm1, hmN⟩
  · have h8 := (row_ok (n := 0) (by omega)).2
    refine ⟨H.set 0 (.cells true false 22 [.ref (N + 1)]) ++ [.cells false true 28 [seW x], .cells false true 28 [seW x]], ⟨by simp, .inr ⟨by simp, N + 1, false, ?_, ?_, by omega, by simp [hN]⟩⟩, ?_⟩
    · rw [List.getElem?_append_left (by simp; omega), List.getElem?_set_self (by omega)]
    · rw [gA1 (by simp; exact hN)]; rfl
    · simp -implicitDefEqProofs only [go_sem, simprocAttr, he, h1, hN, n0, gA, gA1, sA, List.getElem?_append_left, List.set_append_left, List.append_assoc, List.length_set, h8, d2, Nat.zero_shiftRight, Nat.and_zero, Nat.zero_or]
  · have h8 := (row_ok (n := l.length) (by omega)).1
    have d4 : decide (m < N + 1) = true := decide_eq_true (by omega)
    have hmN' : m < N := by omega
    have hd1 : (H.set m .dead)[0]? = some (.cells true fl 22 [.ref m]) := by rw [List.getElem?_set_ne (by omega), h1]
    refine ⟨(H.set m .dead).set 0 (.cells true false 22 [.ref (N + 1)]) ++ [.cells false true 28 [seW x], .cells false true 28 ((l ++ [x]).map seW)], ⟨by simp, .inr ⟨by simp, N + 1, false, ?_, ?_, by omega, by simp [hN]⟩⟩, ?_⟩
    · rw [List.getElem?_append_left (by simp; omega), List.getElem?_set_self (by simp; omega)]
    · rw [gA1 (by simp; exact hN)]; rfl
    · simp only [List.map_append, List.map_cons, List.map_nil]
      simp -implicitDefEqProofs only [go_sem, simprocAttr, he, h1, hm, hd1, hN, n0, hmN', gA, gA1, sA, List.getElem?_append_left, List.set_append_left, List.append_assoc, List.length_set, h8, d2, d4, Nat.zero_shiftRight, Nat.and_zero, Nat.zero_or]
def env210 (n : Nat) : Den.Env := [(6, .fn 235 (cap136 n)), (4, .sl false 0 []), (2, .ptr 0 0 0), (0, .sl false 0 []), (1, .fn 235 (cap136 n))]
def own210 (n : Nat) (H : Heap) : Own := ⟨210, 13, env210 n, H, 0, [7], a210_0, c210_0, false, none⟩
theorem rounds210 (n : Nat) : ∀ (xs : List (List Int)) (H : Heap) (l : List (List Int)), In210 H l → l.length + xs.length < 1000 → ∃ H', In210 H' (l ++ xs) ∧ yldAll T 0 (xs.map seW) [own210 n H] = some (true, [own210 n H']) := by
  intro xs
  induction xs with
  | nil => intro H l hI _; exact ⟨H, by rw [List.append_nil]; exact hI, rfl⟩
  | cons x xs ih =>
    intro H l hI hl
    simp only [List.length_cons] at hl
    obtain ⟨H1, hI1, hr⟩ := round210 (env210 n) rfl H l x (by omega) hI H.length rfl
    have hy := yldEq (S := []) (own := own210 n H) rfl (args := [seW x]) rfl hr
    obtain ⟨H', j1, j2⟩ := ih H1 _ hI1 (by rw [List.length_append, List.length_singleton]; omega)
    refine ⟨H', by rw [List.append_assoc] at j1; exact j1, ?_⟩
    have hy' : (lim T).yld 0 [seW x] [own210 n H] = some (true, [own210 n H1]) := hy
    simp only [List.map_cons, yldAll]
    rw [hy']
    exact j2
theorem c210 (n : Nat) (hl : (setsN n).length ≤ 64) (hne : setsN n ≠ []) : ∃ H' m, H'[m]? = some (rw28 (setsN n)) ∧ (lim T).call 210 [.sl false 0 [], .fn 235 (cap136 n)] [] 0 [] = some (.ref m, H', 0, []) := by
  obtain ⟨H', ⟨i1, i2⟩, hy⟩ := rounds210 n (setsN n) [.cells true true 22 [.sl false 0 []]] [] ⟨by simp, .inl ⟨rfl, true, rfl⟩⟩ (by simp; omega)
  rw [List.nil_append] at i2
  rcases i2 with ⟨h, _⟩ | ⟨_, m, fl, h1, h2, _, _⟩
  · exact absurd h hne
  refine ⟨H', m, h2, ?_⟩
  have e : (lim T).call 235 (.yld (List.length ([] : Stk)) :: cap136 n) [] 0 ([] ++ [⟨210, 13, env210 n, [.cells true true 22 [.sl false 0 []]], 0, (#[7] : Array Nat).toList, a210_0, c210_0, false, none⟩]) = some (.tup [], [], 0, [] ++ [own210 n H']) :=
    c235 _ _ 0 (by omega) _ _ true hy
  rw [ent210]
  simp -implicitDefEqProofs only [go_sem, simprocAttr]
  unfold env210 at e
  rw [rangeRun (f := .tmp 6) (g := 235) (caps := cap136 n) (S := []) (ps := #[7]) rfl rfl rfl fct235.1 fct235.2.1 res235 rfl e]
  simp only [own210, env210]
  simp -implicitDefEqProofs only [go_sem, simprocAttr, h1]
theorem c138 (n : Nat) (hl : (setsN n).length ≤ 64) (hne : setsN n ≠ []) : (lim T).call 138 [.fn 235 (cap136 n)] [] 0 [] = some (.ref 0, [rw28 (setsN n)], 0, []) := by
  obtain ⟨H', m, h1, h2⟩ := c210 n hl hne
  rw [ent138]
  simp -implicitDefEqProofs only [go_sem, simprocAttr, h1, h2]
theorem c139 (n : Int) (s : List Int) : (lim T).call 139 [.sl (!s.isEmpty) 1 (s.map intV), .pp 1 [.int .i64 n] 0 0] [] 0 [] = some (.bool (decide (n ≤ (s.length : Int))), [], 0, []) := by
  rw [ent139]
  simp -implicitDefEqProofs only [go_sem, simprocAttr, ge_le]
abbrev cN (n : Int) : Row := .cells true true 3 [.int .i64 n]
abbrev f139 : V := .fn 139 [.ptr 1 0 0]
structure CutN (n : Int) (l : List (List Int)) (k : Nat) : Prop where
  le : k ≤ l.length
  ha : ∀ i (h : i < l.length), i < k → (l[i].length : Int) < n
  hb : ∀ i (h : i < l.length), k ≤ i → n ≤ (l[i].length : Int)
  hm : l.length < 1000
  h0 : 0 < l.length
def L199k (l : List (List Int)) (n : Int) (i : Nat) (z : Nat) : Option Out :=
  (lim T).loop false [.code (.loop b199_0), .inBlock 0, .code (.seq r199_7 .ret)]
    ⟨199, 19, 2, [(0, .ref 0), (1, f139), (7, .int .i64 l.length), (8, .int .i64 i)], [rw28 l, cN n], z, []⟩
theorem step199k (n : Int) (l : List (List Int)) (k : Nat) (hc : CutN n l k) (i : Nat) (hi : i < l.length) (z : Nat) (hz : z = 0 ∨ z = 2) : L199k l n i z = if i < k then L199k l n (i + 1) 2 else some (.ret (.int .i64 i), [rw28 l, cN n], 2, []) := by
  have hm := hc.hm
  obtain ⟨h1, h2, h3, h4, h5⟩ := idx_in hi (by omega)
  have e := c139 n l[i]
  by_cases h : i < k
  · have hb : decide (n ≤ (l[i].length : Int)) = false := by have := hc.ha i hi h; simp; omega
    rw [if_pos h]
    conv => lhs; unfold L199k; rw [loopEq]
    unfold L199k
    rcases hz with rfl | rfl
    · simp -implicitDefEqProofs only [go_sem, simprocAttr, h1, h2, h3, h4, e, hb]
    · simp -implicitDefEqProofs only [go_sem, simprocAttr, h1, h2, h3, h4, e, hb]
  · have hb : decide (n ≤ (l[i].length : Int)) = true := by have := hc.hb i hi (by omega); simp; omega
    rw [if_neg h]
    unfold L199k
    rw [loopEq]
    rcases hz with rfl | rfl
    · simp -implicitDefEqProofs only [go_sem, simprocAttr, h1, h2, h3, h4, e, hb]
    · simp -implicitDefEqProofs only [go_sem, simprocAttr, h1, h2, h3, h4, e, hb]
theorem loop199k (n : Int) (l : List (List Int)) (k : Nat) (hc : CutN n l k) : ∀ i, i ≤ k → L199k l n i 2 = some (.ret (.int .i64 (if k = l.length then -1 else k)), [rw28 l, cN n], 2, []) := by
  have hm := hc.hm
  have hn := hc.le
  refine down_ind k ?_ fun i hi ih => ?_
  · by_cases hE : k = l.length
    · have h1 := idx_out l.length
      unfold L199k
      rw [if_pos hE, loopEq]
      subst hE
      simp -implicitDefEqProofs only [go_sem, simprocAttr, h1]
    · rw [step199k n l k hc k (by omega) 2 (.inr rfl), if_neg (by omega), if_neg hE]
  · rw [step199k n l k hc i (by omega) 2 (.inr rfl), if_pos hi, ih]
theorem c199k (n : Int) (l : List (List Int)) (k : Nat) (hc : CutN n l k) : (lim T).call 199 [.ref 0, f139] [rw28 l, cN n] 0 [] = some (.int .i64 (if k = l.length then -1 else k), [rw28 l, cN n], 2, []) := by
  have h : L199k l n 0 0 = some (.ret (.int .i64 (if k = l.length then -1 else k)), [rw28 l, cN n], 2, []) := by
    have h0 := hc.h0
    rw [step199k n l k hc 0 h0 0 (.inl rfl)]
    by_cases h : 0 < k
    · rw [if_pos h, loop199k n l k hc 1 (by omega)]
    · rw [if_neg h, if_neg (by omega), show k = 0 by omega]
  unfold L199k at h
  rw [show ((0 : Nat) : Int) = 0 from rfl] at h
  rw [ent199]
  simp -implicitDefEqProofs only [go_sem, simprocAttr, h]
theorem call199k (n : Int) (l : List (List Int)) (k : Nat) (hc : CutN n l k) (kk : V → Prog) (S : Stk) (rd wr fr : Nat) (sk : Bool) (K : V → Heap → Nat → Stk → FP → Option Out) : (callP (lim T) T 199 [.ref 0, .fn 139 [.ptr 1 0 0]] kk).go none [.cells false true 28 (l.map seW), .cells true true 3 [.int .i64 n]] 0 S ⟨rd, wr, fr, sk⟩ K =
    (kk (.int .i64 (if k = l.length then -1 else k))).go none [.cells false true 28 (l.map seW), .cells true true 3 [.int .i64 n]] 2 S ⟨rd ||| bit 0 ||| bit 1 ||| bit 0 ||| bit 1, wr ||| bit 0 ||| bit 1 ||| bit 0 ||| bit 1, fr ||| bit 1, sk⟩ K := by
  refine (go_ref2z (x := 0) (y := 1) fct199.1 rfl kk (fun k' => reachC (by omega) rfl rfl 9996 k') rfl rfl rfl rfl rfl rfl (c199k n l k hc) rfl).trans ?_
  simp -implicitDefEqProofs only [go_sem, simprocAttr]
def L129k (l : List (List Int)) (n : Int) (k j : Nat) : Option Out :=
  (lim T).loop false [.code (.loop b129_0), .inBlock 0, .code (.seq r129_11 (.seq r129_12 .ret))]
    ⟨129, 42, 2, [(0, .ref 0), (1, f139), (5, .int .i64 k), (6, .int .i64 j)], [rw28 l, cN n], 2, []⟩
theorem loop129k (n : Int) (l : List (List Int)) (k : Nat) (hc : CutN n l k) : ∀ j, j ≤ l.length → k ≤ j → L129k l n k j = some (.ret (.sub 0 0 k), [.cells false true 28 (clr l k), cN n], 2, []) := by
  have hm := hc.hm
  have hn := hc.le
  refine down_ind l.length ?_ fun j hj ih => ?_
  · intro _
    unfold L129k
    rw [loopEq]
    have h1 := idx_out l.length
    have d1 : decide (k ≤ l.length) = true := decide_eq_true hn
    have d2 : decide (0 ≤ (k : Int)) = true := decide_eq_true (by omega)
    have d3 : decide (k ≤ l.length ∧ l.length ≤ l.length) = true := decide_eq_true ⟨hn, Nat.le_refl _⟩
    have d4 : decide (0 ≤ k ∧ k ≤ (List.take k (List.map seW l)).length + ((List.replicate (l.length - k) (V.sl false 0 [])).length + (List.drop (k + (l.length - k)) (List.map seW l)).length)) = true := decide_eq_true ⟨Nat.zero_le _, by simp; omega⟩
    simp -implicitDefEqProofs only [go_sem, simprocAttr, h1, d1, d2, d3, d4, Nat.sub_zero]
  · intro hAj
    obtain ⟨h1, h2, h3, h4, h5⟩ := idx_in hj (by omega)
    have e := c139 n l[j]
    have hb : decide (n ≤ (l[j].length : Int)) = true := by have := hc.hb j hj hAj; simp; omega
    rw [← ih (by omega)]
    unfold L129k
    conv => lhs; rw [loopEq]
    simp -implicitDefEqProofs only [go_sem, simprocAttr, h1, h2, h3, h4, e, hb]
theorem c129k (n : Int) (l : List (List Int)) (k : Nat) (hc : CutN n l k) : (lim T).call 129 [.ref 0, f139] [rw28 l, cN n] 0 [] = if k = l.length then some (.ref 0, [rw28 l, cN n], 2, []) else some (.sub 0 0 k, [.cells false true 28 (clr l k), cN n], 2, []) := by
  rw [ent129]
  have e := call199k n l k hc
  have hm := hc.hm
  have hn := hc.le
  by_cases hE : k = l.length
  · rw [if_pos hE]
    simp only [if_pos hE] at e
    simp -implicitDefEqProofs only [go_sem, simprocAttr, e]
  · rw [if_neg hE]
    simp only [if_neg hE] at e
    have hb : ((k : Int) == -1) = false := by simp
    have hw : IntKind.i64.wrap ((k : Int) + 1) = ((k + 1 : Nat) : Int) := by rw [wrap64] <;> omega
    have h := loop129k n l k hc (k + 1) (by omega) (by omega)
    unfold L129k at h
    simp -implicitDefEqProofs only [go_sem, simprocAttr, e, hb, hw, h]
theorem sorted_cutN (n : Int) : ∀ (l : List (List Int)), l.Pairwise (fun a b => a.length ≤ b.length) → ∃ k, k ≤ l.length ∧ fwr n l = l.take k ∧ (∀ i (h : i < l.length), i < k → (l[i].length : Int) < n) ∧ (∀ i (h : i < l.length), k ≤ i → n ≤ (l[i].length : Int)) := by
  intro l
  induction l with
  | nil => intro _; exact ⟨0, by simp, by simp [fwr], by intro i h; exact absurd h (by simp), by intro i h; exact absurd h (by simp)⟩
  | cons a r ih =>
    intro hp
    obtain ⟨ha, hp2⟩ := List.pairwise_cons.1 hp
    by_cases h : (a.length : Int) < n
    · obtain ⟨k, h1, h2, h3, h4⟩ := ih hp2
      refine ⟨k + 1, by simp; omega, ?_, ?_, ?_⟩
      · rw [fwr_cons, h2, decide_eq_true h, cond_true, List.take_succ_cons]; rfl
      · intro i hi hn
        cases i with
        | zero => exact h
        | succ i => simpa using h3 i (by simpa using hi) (by omega)
      · intro i hi hn
        cases i with
        | zero => omega
        | succ i => simpa using h4 i (by simpa using hi) (by omega)
    · have hall : ∀ s ∈ a :: r, n ≤ (s.length : Int) := by
        intro s hs
        rcases List.mem_cons.1 hs with rfl | hs
        · omega
        · have := ha s hs; omega
      refine ⟨0, by simp, ?_, fun i _ h => by omega, fun i hi _ => hall _ (List.getElem_mem hi)⟩
      unfold fwr
      rw [List.take_zero, List.filter_eq_nil_iff]
      intro s hs
      have := hall s hs
      simp; omega
def chkQ (p : Pk) : List (List Int) → List (Int × Int) → Int
  | s :: L, x :: r => bif hasP x (unq p s) then chkQ p L r else 19
  | _, _ => 0
def L46a (p : Pk) (W : List (List Int)) (R : List V) (pr : List (Int × Int)) (i z : Nat) : Option Out :=
  (lim T).loop false [.code (.loop b46_0), .inBlock 0, .code (.seq r46_19 .ret)]
    ⟨46, 67, 0, [(3, .ptr 0 0 0), (5, .ptr 1 0 0), (51, .ref 2), (52, .int .i64 W.length), (53, .int .i64 i)], [.cells true true 34 [pkV p], .cells true true 48 [.sl true 2 (pr.map ptV)], .cells false true 28 R], z, []⟩
theorem loop46a (p : Pk) (ho : Ok p) (W : List (List Int)) (hW : W.length < 1000) (hel : ∀ x ∈ W, x.length < 1000000 ∧ Vst p x) (R : List V) (hR : ∀ i (h : i < W.length), R[i]? = some (seW W[i])) (hlen : R.length = W.length) (pr : List (Int × Int)) (hp : pr.length = W.length) : ∀ i, i ≤ W.length → ∀ z, z = 1 ∨ z = 3 → L46a p W R pr i z = some (.ret (.int .i64 (chkQ p (W.drop i) (pr.drop i))), [], 0, []) := by
  refine down_ind W.length ?_ fun i hi ih => ?_
  · intro z hz
    unfold L46a
    have h1 := idx_out W.length
    rw [loopEq, List.drop_of_length_le (Nat.le_refl _), List.drop_of_length_le (by omega)]
    rcases hz with rfl | rfl
    · simp -implicitDefEqProofs only [go_sem, simprocAttr, pkV, h1]
      rfl
    · simp -implicitDefEqProofs only [go_sem, simprocAttr, pkV, h1]
      rfl
  · intro z hz
    obtain ⟨h1, h2, h3, h4, h5⟩ := idx_in hi (by omega)
    obtain ⟨g1, g2, g3, g4, g5⟩ := idx_in (l := pr) (i := i) (by omega) (by omega)
    obtain ⟨x1, x2⟩ := hel _ (List.getElem_mem hi)
    have hr := hR i hi
    rw [h5, g5]
    simp only [chkQ]
    generalize W[i] = x at *
    have hy3 := g3
    generalize pr[i]'(by omega) = y at *
    obtain ⟨caps, i1, i2, hcl, e1⟩ : ∃ caps, idsL caps = [] ∧ yldL caps = false ∧ Call197 caps (unq p x) ∧ (lim T).call 125 [pkV p, .sl (!x.isEmpty) 1 (x.map intV)] [] 0 [] = some (.fn 197 caps, [], 0, []) :=
      ⟨cap125 p x, (cap_pure p x).1, (cap_pure p x).2, call125 p ho x, c125 p ho (!x.isEmpty) 1 x x1 x2 (fun _ => rfl)⟩
    have hul := unq_len ho x
    have e2 := c124 caps i1 i2 (unq p x) (by omega) hcl
    have e3 := c143 y (!((unq p x).map ptV).isEmpty) true pr i hy3 (unq p x) (by omega)
    simp only [pkV] at e1
    cases h6 : hasP y (unq p x)
    · rw [h6] at e3
      simp only [cond_false]
      unfold L46a
      rw [loopEq]
      rcases hz with rfl | rfl
      · simp -implicitDefEqProofs only [go_sem, simprocAttr, pkV, h1, h2, hlen, hr, h4, e1, i1, i2, e2, e3]
      · simp -implicitDefEqProofs only [go_sem, simprocAttr, pkV, h1, h2, hlen, hr, h4, e1, i1, i2, e2, e3]
    · rw [h6] at e3
      simp only [cond_true]
      rw [← ih 3 (.inr rfl)]
      conv => lhs; unfold L46a; rw [loopEq]
      unfold L46a
      rcases hz with rfl | rfl
      · simp -implicitDefEqProofs only [go_sem, simprocAttr, pkV, h1, h2, hlen, hr, h4, e1, i1, i2, e2, e3]
      · simp -implicitDefEqProofs only [go_sem, simprocAttr, pkV, h1, h2, hlen, hr, h4, e1, i1, i2, e2, e3]
def L46b (p : Pk) (W : List (List Int)) (R : List V) (pr : List (Int × Int)) (i z : Nat) : Option Out :=
  (lim T).loop false [.code (.loop b46_0), .inBlock 0, .code (.seq r46_19 .ret)]
    ⟨46, 67, 0, [(3, .ptr 0 0 0), (5, .ptr 1 0 0), (51, .sub 2 0 W.length), (52, .int .i64 W.length), (53, .int .i64 i)], [.cells true true 34 [pkV p], .cells true true 48 [.sl true 2 (pr.map ptV)], .cells false true 28 R], z, []⟩
theorem loop46b (p : Pk) (ho : Ok p) (W : List (List Int)) (hW : W.length < 1000) (hel : ∀ x ∈ W, x.length < 1000000 ∧ Vst p x) (R : List V) (hR : ∀ i (h : i < W.length), R[i]? = some (seW W[i])) (pr : List (Int × Int)) (hp : pr.length = W.length) : ∀ i, i ≤ W.length → ∀ z, z = 1 ∨ z = 3 → L46b p W R pr i z = some (.ret (.int .i64 (chkQ p (W.drop i) (pr.drop i))), [], 0, []) := by
  refine down_ind W.length ?_ fun i hi ih => ?_
  · intro z hz
    unfold L46b
    have h1 := idx_out W.length
    rw [loopEq, List.drop_of_length_le (Nat.le_refl _), List.drop_of_length_le (by omega)]
    rcases hz with rfl | rfl
    · simp -implicitDefEqProofs only [go_sem, simprocAttr, pkV, h1]
      rfl
    · simp -implicitDefEqProofs only [go_sem, simprocAttr, pkV, h1]
      rfl
  · intro z hz
    obtain ⟨h1, h2, h3, h4, h5⟩ := idx_in hi (by omega)
    obtain ⟨g1, g2, g3, g4, g5⟩ := idx_in (l := pr) (i := i) (by omega) (by omega)
    obtain ⟨x1, x2⟩ := hel _ (List.getElem_mem hi)
    have hr := hR i hi
    rw [h5, g5]
    simp only [chkQ]
    generalize W[i] = x at *
    have hy3 := g3
    generalize pr[i]'(by omega) = y at *
    obtain ⟨caps, i1, i2, hcl, e1⟩ : ∃ caps, idsL caps = [] ∧ yldL caps = false ∧ Call197 caps (unq p x) ∧ (lim T).call 125 [pkV p, .sl (!x.isEmpty) 1 (x.map intV)] [] 0 [] = some (.fn 197 caps, [], 0, []) :=
      ⟨cap125 p x, (cap_pure p x).1, (cap_pure p x).2, call125 p ho x, c125 p ho (!x.isEmpty) 1 x x1 x2 (fun _ => rfl)⟩
    have hul := unq_len ho x
    have e2 := c124 caps i1 i2 (unq p x) (by omega) hcl
    have e3 := c143 y (!((unq p x).map ptV).isEmpty) true pr i hy3 (unq p x) (by omega)
    simp only [pkV] at e1
    cases h6 : hasP y (unq p x)
    · rw [h6] at e3
      simp only [cond_false]
      unfold L46b
      rw [loopEq]
      rcases hz with rfl | rfl
      · simp -implicitDefEqProofs only [go_sem, simprocAttr, pkV, h1, h2, hr, h4, e1, i1, i2, e2, e3]
      · simp -implicitDefEqProofs only [go_sem, simprocAttr, pkV, h1, h2, hr, h4, e1, i1, i2, e2, e3]
    · rw [h6] at e3
      simp only [cond_true]
      rw [← ih 3 (.inr rfl)]
      conv => lhs; unfold L46b; rw [loopEq]
      unfold L46b
      rcases hz with rfl | rfl
      · simp -implicitDefEqProofs only [go_sem, simprocAttr, pkV, h1, h2, hr, h4, e1, i1, i2, e2, e3]
      · simp -implicitDefEqProofs only [go_sem, simprocAttr, pkV, h1, h2, hr, h4, e1, i1, i2, e2, e3]
abbrev knL (p : Pk) (pr : List (Int × Int)) : List Int := pr.map fun x => knP p.v.length (slots p) x
def ckPg (p : Pk) (n : Int) (pr : List (Int × Int)) : Int :=
  if rng n 0 p.c.length = 0 then
    (if fnz [cond (((fwr n (setsN p.c.length)).length : Int) != pr.length) 2 0, fnz (knL p pr)] = 0 then chkQ p (fwr n (setsN p.c.length)) pr
     else fnz [cond (((fwr n (setsN p.c.length)).length : Int) != pr.length) 2 0, fnz (knL p pr)])
  else rng n 0 p.c.length
theorem c46e (p : Pk) (hf : p.fit) (n : Int) (pr : List (Int × Int)) (h : ¬ ckPk p = 0) : (lim T).call 46 [pkV p, .int .i64 n, .sl true 2 (pr.map ptV)] [] 0 [] = some (.int .i64 (ckPk p), [], 0, []) := by
  rw [ent46]
  have e1 := c23 p hf
  have h1 : (ckPk p != 0) = true := by simpa using h
  simp only [pkV] at e1
  simp -implicitDefEqProofs only [go_sem, simprocAttr, pkV, e1, h1]
theorem c46 (p : Pk) (hf : p.fit) (h0 : ckPk p = 0) (hs : Sok p) (hne : setsN p.c.length ≠ []) (hpw : (setsN p.c.length).Pairwise (fun a b => a.length ≤ b.length)) (n : Int) (pr : List (Int × Int)) (hpr : pr.length < 1000) :
    (lim T).call 46 [pkV p, .int .i64 n, .sl true 2 (pr.map ptV)] [] 0 [] = some (.int .i64 (ckPg p n pr), [], 0, []) := by
  rw [ent46]
  have ho := ok_of h0
  have e1 := c23 p hf
  rw [h0] at e1
  have e2 := c137 n 0 p.c.length
  unfold ckPg
  simp only [pkV] at e1
  cases hr : (rng n 0 p.c.length != 0)
  · have hr0 : rng n 0 p.c.length = 0 := by simpa using hr
    rw [if_pos hr0]
    have e3 := hs.c136
    have e4 := c138 p.c.length hs.len hne
    obtain ⟨k, k1, k2, k3, k4⟩ := sorted_cutN n (setsN p.c.length) hpw
    have hlen := hs.len
    have hc : CutN n (setsN p.c.length) k := ⟨k1, k3, k4, by omega, by cases hq : setsN p.c.length with | nil => exact absurd hq hne | cons a r => simp⟩
    have e5 := c129k n (setsN p.c.length) k hc
    have e6 := c141 p ho true pr (by omega)
    have t1 : List.map intV (List.map (fun x => knP p.v.length (slots p) x) pr) = List.map (fun n => V.int .i64 n) (knL p pr) := rfl
    rw [t1] at e6
    have e7 := fun b => c114 b (knL p pr) (by simp; omega)
    rw [k2]
    have hel : ∀ x ∈ (setsN p.c.length).take k, x.length < 1000000 ∧ Vst p x := fun x hx => hs.el x (List.mem_of_mem_take hx)
    have hWl : ((setsN p.c.length).take k).length = k := by rw [List.length_take]; omega
    generalize setsN p.c.length = l at *
    have e8 := c114_2 true (cond ((k : Int) != pr.length) 2 0) (fnz (knL p pr))
    rw [hWl]
    simp only [pkV] at e6
    by_cases hE : k = l.length
    · rw [if_pos hE] at e5
      have e9 : ∀ (kk : V → Prog) (S : Stk) (rd wr fr : Nat) (sk : Bool) (K : V → Heap → Nat → Stk → FP → Option Out) (r0 r2 : Row), (callP (lim T) T 129 [.ref 3, .fn 139 [.ptr 1 0 0]] kk).go none [r0, .cells true true 3 [.int .i64 n], r2, .cells false true 28 (l.map seW)] 0 S ⟨rd, wr, fr, sk⟩ K =
          (kk (.ref 3)).go none [r0, .cells true true 3 [.int .i64 n], r2, .cells false true 28 (l.map seW)] 2 S ⟨rd ||| bit 3 ||| bit 1 ||| bit 3 ||| bit 1, wr ||| bit 3 ||| bit 1 ||| bit 3 ||| bit 1, fr ||| bit 1, sk⟩ K := by
        intro kk S rd wr fr sk K r0 r2
        refine (go_ref2z (x := 3) (y := 1) fct129.1 rfl kk (fun k' => reachC (by omega) rfl rfl 9996 k') rfl rfl rfl rfl rfl rfl e5 rfl).trans ?_
        simp -implicitDefEqProofs only [go_sem, simprocAttr]
        rfl
      have htk : l.take k = l := by rw [hE, List.take_length]
      cases hz : (fnz [cond ((k : Int) != pr.length) 2 0, fnz (knL p pr)] != 0)
      · have hz0 : fnz [cond ((k : Int) != pr.length) 2 0, fnz (knL p pr)] = 0 := by simpa using hz
        rw [if_pos hz0, htk]
        have hpl : pr.length = l.length := by
          have := (fnz2 hz0).1
          cases hq : ((k : Int) != pr.length)
          · simp at hq; omega
          · rw [hq] at this; cases this
        have hloop := loop46a p ho l (by omega) (by rw [htk] at hel; exact hel) (l.map seW) (fun i h => by rw [List.getElem?_map, List.getElem?_eq_getElem h]; rfl) (by simp) pr hpl 0 (by omega) 1 (.inl rfl)
        rw [List.drop_zero, List.drop_zero] at hloop
        unfold L46a at hloop
        simp only [show ((0 : Nat) : Int) = 0 from rfl, pkV] at hloop
        rw [← hE] at hloop
        have hlE : (l.length : Int) = (k : Int) := by rw [hE]
        simp -implicitDefEqProofs only [go_sem, simprocAttr, pkV, e1, e2, hr, e3, e4, e9, hlE, e6, e7, c115, e8, hz, hloop]
      · have hz0 : ¬ fnz [cond ((k : Int) != pr.length) 2 0, fnz (knL p pr)] = 0 := by simpa using hz
        rw [if_neg hz0]
        have hlE : (l.length : Int) = (k : Int) := by rw [hE]
        simp -implicitDefEqProofs only [go_sem, simprocAttr, pkV, e1, e2, hr, e3, e4, e9, hlE, e6, e7, c115, e8, hz]
    · rw [if_neg hE] at e5
      have e9 : ∀ (kk : V → Prog) (S : Stk) (rd wr fr : Nat) (sk : Bool) (K : V → Heap → Nat → Stk → FP → Option Out) (r0 r2 : Row), (callP (lim T) T 129 [.ref 3, .fn 139 [.ptr 1 0 0]] kk).go none [r0, .cells true true 3 [.int .i64 n], r2, .cells false true 28 (l.map seW)] 0 S ⟨rd, wr, fr, sk⟩ K =
          (kk (.sub 3 0 k)).go none [r0, .cells true true 3 [.int .i64 n], r2, .cells false true 28 (clr l k)] 2 S ⟨rd ||| bit 3 ||| bit 1 ||| bit 3 ||| bit 1, wr ||| bit 3 ||| bit 1 ||| bit 3 ||| bit 1, fr ||| bit 1, sk⟩ K := by
        intro kk S rd wr fr sk K r0 r2
        refine (go_ref2z (x := 3) (y := 1) fct129.1 rfl kk (fun k' => reachC (by omega) rfl rfl 9996 k') rfl rfl rfl rfl rfl rfl e5 rfl).trans ?_
        simp -implicitDefEqProofs only [go_sem, simprocAttr]
        rfl
      have hRR : ∀ i (h : i < (l.take k).length), (clr l k)[i]? = some (seW (l.take k)[i]) := by
        intro i h
        rw [hWl] at h
        have hil : i < l.length := by omega
        rw [List.getElem?_append_left (by simp; omega), List.getElem?_take_of_lt h, List.getElem?_map, List.getElem?_eq_getElem hil, List.getElem_take]
        rfl
      generalize clr l k = R at *
      cases hz : (fnz [cond ((k : Int) != pr.length) 2 0, fnz (knL p pr)] != 0)
      · have hz0 : fnz [cond ((k : Int) != pr.length) 2 0, fnz (knL p pr)] = 0 := by simpa using hz
        rw [if_pos hz0]
        have hpl : pr.length = (l.take k).length := by
          have := (fnz2 hz0).1
          rw [hWl]
          cases hq : ((k : Int) != pr.length)
          · simp at hq; omega
          · rw [hq] at this; cases this
        have hloop := loop46b p ho (l.take k) (by omega) hel R hRR pr hpl 0 (by omega) 1 (.inl rfl)
        rw [List.drop_zero, List.drop_zero] at hloop
        unfold L46b at hloop
        simp only [show ((0 : Nat) : Int) = 0 from rfl, pkV, hWl] at hloop
        simp -implicitDefEqProofs only [go_sem, simprocAttr, pkV, e1, e2, hr, e3, e4, e9, e6, e7, c115, e8, hz, hloop]
      · have hz0 : ¬ fnz [cond ((k : Int) != pr.length) 2 0, fnz (knL p pr)] = 0 := by simpa using hz
        rw [if_neg hz0]
        simp -implicitDefEqProofs only [go_sem, simprocAttr, pkV, e1, e2, hr, e3, e4, e9, e6, e7, c115, e8, hz]
  · have hr0 : ¬ rng n 0 p.c.length = 0 := by simpa using hr
    rw [if_neg hr0]
    simp -implicitDefEqProofs only [go_sem, simprocAttr, pkV, e1, e2, hr]
theorem chkQ_own (p : Pk) : ∀ (L : List (List Int)) (r : List (Int × Int)), chkQ (ownP p) L r = chkP p L r := by
  intro L
  induction L with
  | nil => intro r; cases r <;> rfl
  | cons s L ih =>
    intro r
    cases r with
    | nil => rfl
    | cons x r =>
      simp only [chkQ, chkP, unq_own, ih]
theorem ckPg_own (p : Pk) (n : Int) (pr : List (Int × Int)) : ckPg (ownP p) n pr = ckPf p n pr := by
  unfold ckPg ckPf
  have hv : (ownP p).v.length = p.v.length := by unfold ownP; simp
  have hk : knL (ownP p) pr = pr.map (knP p.v.length (slots p)) := by unfold knL; rw [hv, slots_own]
  rw [len_own, hk, chkQ_own]
  generalize fwr n (setsN p.c.length) = W
  generalize fnz (pr.map (knP p.v.length (slots p))) = E
  by_cases h0 : rng n 0 p.c.length = 0
  · rw [if_pos h0, if_pos h0]
    by_cases hq : pr.length = W.length
    · have h1 : (((W.length : Int)) != pr.length) = false := by simp; omega
      have h2 : (((pr.length : Int)) != W.length) = false := by simp; omega
      rw [h1, h2, if_neg (by simp : ¬ (false = true))]
      simp only [cond_false]
      rw [fnz_02 rfl]
    · have h1 : (((W.length : Int)) != pr.length) = true := by simp; omega
      have h2 : (((pr.length : Int)) != W.length) = true := by simp; omega
      rw [h1, h2, if_pos rfl]
      simp only [cond_true]
      rw [if_neg (by simp [fnz])]
      rfl
  · rw [if_neg h0, if_neg h0]
theorem unx_ne {p : Pk} {x0 : List Int} (hx : (exR p)[0]? = some x0) (hp : (exR p).Pairwise (fun a b => a.length ≤ b.length)) {s : List Int} (hs : s ∈ setsN p.c.length) (hl : (s.length : Int) < x0.length) : unx p s ≠ [] := by
  intro he
  have hm : s ∈ exR p := List.mem_filter.2 ⟨hs, by rw [he]; rfl⟩
  cases hc : exR p with
  | nil => rw [hc] at hm; cases hm
  | cons a r =>
    rw [hc] at hm hx hp
    obtain rfl : a = x0 := Option.some.inj hx
    rcases List.mem_cons.1 hm with rfl | hm
    · omega
    · have := (List.pairwise_cons.1 hp).1 s hm
      omega
theorem pfL_eq (p : Pk) (k : Nat) : ∀ (L : List (List Int)), L.Pairwise (fun a b => a.length ≤ b.length) → (∀ s ∈ L, (s.length : Int) < k → unx p s ≠ []) → pfL (ownP p) k L = (fwr k L).map (hdP p) := by
  intro L
  induction L with
  | nil => intro _ _; rfl
  | cons s r ih =>
    intro hp hn
    obtain ⟨ha, hp2⟩ := List.pairwise_cons.1 hp
    rw [show pfL (ownP p) k (s :: r) = bif decide ((k : Int) ≤ s.length) then [] else (unq (ownP p) s).take 1 ++ pfL (ownP p) k r from rfl, fwr_cons]
    by_cases h : (s.length : Int) < k
    · have h1 : decide ((k : Int) ≤ s.length) = false := by simp; omega
      rw [h1, decide_eq_true h, cond_false, cond_true, unq_own, ih hp2 (fun t ht => hn t (by simp [ht])), List.map_append]
      congr 1
      have := hn s (by simp) h
      unfold hdP
      cases hc : unx p s with
      | nil => exact absurd hc this
      | cons a t => simp [hc]
    · have h1 : decide ((k : Int) ≤ s.length) = true := by simp; omega
      have h2 : fwr (k : Int) r = [] := by
        unfold fwr
        rw [List.filter_eq_nil_iff]
        intro t ht
        have := ha t ht
        simp; omega
      rw [h1, decide_eq_false h, cond_true, cond_false, h2]
      rfl
theorem c6a (haw : (lim T).call 16 [] [] 0 [] = some (.bool true, [], 0, [])) (p : Pk) (n : Int) (b : Bool) (pr : List (Int × Int)) (hsh : shP p = true) (hl : decide (64 < (pr.length : Int)) = false) (h1 : (ckPk p == 0) = false) : (lim T).call 6 [pkV p, .int .i64 n, .sl b 2 (pr.map ptV)] [] 0 [] = some (.bool true, [], 0, []) := by
  rw [ent6]
  have hlen : pr.length ≤ 64 := by simp at hl; omega
  have hf := fit_of hsh (by have := shP_len hsh; omega)
  have h0 : ¬ ckPk p = 0 := by simpa using h1
  have h0' : ¬ ckPk (ownP p) = 0 := by rw [ck_own]; exact h0
  have e15 := c15 p
  rw [hsh] at e15
  have e18 := c18 p hf
  have e20 := c20 p hf
  have e47 := c47 b pr (by omega)
  have e45 := c45e (ownP p) _ h0' _ _ (c128e (ownP p) (fit_own hf) h0')
  have e46 := c46e (ownP p) (fit_own hf) n pr h0'
  rw [ck_own] at e45 e46
  generalize ckPk p = E at *
  have hE : (E == E) = true := by simp
  have e35 := c35z 2 E h0
  simp only [pkV, ownP] at e15 e18 e20 e45 e46
  simp -implicitDefEqProofs only [go_sem, simprocAttr, pkV, e15, e18, e20, e45, e46, e47, h1, e35, hE, hl, gt_lt, haw]
theorem c6n (haw : (lim T).call 16 [] [] 0 [] = some (.bool true, [], 0, [])) (p : Pk) (n : Int) (b : Bool) (pr : List (Int × Int)) (hsh : shP p = true) (hl : decide (64 < (pr.length : Int)) = false) (h0 : ckPk p = 0) (hx : exR p = []) : (lim T).call 6 [pkV p, .int .i64 n, .sl b 2 (pr.map ptV)] [] 0 [] = some (.bool true, [], 0, []) := by
  rw [ent6]
  have hlen : pr.length ≤ 64 := by simp at hl; omega
  have hf := fit_of hsh (by have := shP_len hsh; omega)
  have ho := ok_of h0
  have h6 := caus6 hsh ho
  have h0' := ok_own h0
  have hs : Sok (ownP p) := sok_of (by rw [len_own]; exact h6)
  have hr : Rok p := rok_of h6
  have hall := sets_all p.c.length h6
  have hne : setsN (ownP p).c.length ≠ [] := by rw [len_own]; intro e; have := hall.1.2; rw [e] at this; cases this
  have hx' : exA (ownP p) = [] := by rw [exA_own]; exact hx
  have e15 := c15 p
  rw [hsh] at e15
  have e18 := c18 p hf
  have e20 := c20 p hf
  rw [h0] at e20
  have e47 := c47 b pr (by omega)
  have e45 := c45e (ownP p) 18 (by decide) _ _ (c128n (ownP p) (fit_own hf) h0' hs hx')
  have e46 := c46 (ownP p) (fit_own hf) h0' hs hne (by rw [len_own]; exact hall.2.2.2) n pr (by omega)
  rw [ckPg_own] at e46
  have e48 := c48 p ho hr n b pr (by omega)
  have e40 := c40 p ho hr
  rw [hx] at e40
  have e35 := c35z 2 18 (by decide)
  generalize ckPf p n pr = E at *
  have hE : (E == E) = true := by simp
  simp only [pkV, ownP, List.map_nil] at e15 e18 e20 e45 e46 e48 e40
  simp -implicitDefEqProofs only [go_sem, simprocAttr, pkV, e15, e18, e20, e45, e46, e47, e48, e40, c39, e35, hE, hl, gt_lt, haw]
theorem c6b (haw : (lim T).call 16 [] [] 0 [] = some (.bool true, [], 0, [])) (p : Pk) (n : Int) (b : Bool) (pr : List (Int × Int)) (hsh : shP p = true) (hl : decide (64 < (pr.length : Int)) = false) (h0 : ckPk p = 0) (hx : exR p ≠ []) : (lim T).call 6 [pkV p, .int .i64 n, .sl b 2 (pr.map ptV)] [] 0 [] = some (.bool true, [], 0, []) := by
  rw [ent6]
  have hlen : pr.length ≤ 64 := by simp at hl; omega
  have hf := fit_of hsh (by have := shP_len hsh; omega)
  have ho := ok_of h0
  have h6 := caus6 hsh ho
  have h0' := ok_own h0
  have hs : Sok (ownP p) := sok_of (by rw [len_own]; exact h6)
  have hr : Rok p := rok_of h6
  have hall := sets_all p.c.length h6
  have hne : setsN (ownP p).c.length ≠ [] := by rw [len_own]; intro e; have := hall.1.2; rw [e] at this; cases this
  have hx' : exA (ownP p) ≠ [] := by rw [exA_own]; exact hx
  have hpw : (exR p).Pairwise (fun a b => a.length ≤ b.length) := hall.2.2.2.sublist List.filter_sublist
  obtain ⟨x0, hx0⟩ : ∃ x0, (exR p)[0]? = some x0 := by
    cases hc : exR p with
    | nil => exact absurd hc hx
    | cons a r => exact ⟨a, rfl⟩
  have hnx : ∀ s ∈ setsN p.c.length, (s.length : Int) < x0.length → unx p s ≠ [] := fun s hs hl => unx_ne hx0 hpw hs hl
  have e15 := c15 p
  rw [hsh] at e15
  have e18 := c18 p hf
  have e20 := c20 p hf
  rw [h0] at e20
  have e47 := c47 b pr (by omega)
  have e45 := c45 (ownP p) (fit_own hf) h0' hs hx' x0 (by rw [exA_own]; exact hx0)
  rw [len_own, pfL_eq p x0.length (setsN p.c.length) hall.2.2.2 hnx] at e45
  have e46 := c46 (ownP p) (fit_own hf) h0' hs hne (by rw [len_own]; exact hall.2.2.2) n pr (by omega)
  rw [ckPg_own] at e46
  have e48 := c48 p ho hr n b pr (by omega)
  have e40 := c40 p ho hr
  have e49 := c49 p ho hr x0 hx0 (fun x hx => by
    have h := List.mem_filter.1 hx
    exact hnx x h.1 (by simpa using h.2))
  have hfl : (fwr (x0.length : Int) (setsN p.c.length)).length ≤ (setsN p.c.length).length := List.length_filter_le _ _
  have hrl := hr.len
  have hne2 : (((exR p).length : Int) == 0) = false := by
    cases hc : exR p with
    | nil => exact absurd hc hx
    | cons a r => simp; omega
  have e35 := c35 (!(((fwr (x0.length : Int) (setsN p.c.length)).map (hdP p)).map ptV).isEmpty) (!(((fwr (x0.length : Int) (setsN p.c.length)).map (hdP p)).map ptV).isEmpty) ((fwr (x0.length : Int) (setsN p.c.length)).map (hdP p)) (by rw [List.length_map]; omega)
  generalize (fwr (x0.length : Int) (setsN p.c.length)).map (hdP p) = Q at *
  generalize ckPf p n pr = E at *
  have hE : (E == E) = true := by simp
  simp only [pkV, ownP] at e15 e18 e20 e45 e46 e48 e40 e49
  simp -implicitDefEqProofs only [go_sem, simprocAttr, pkV, e15, e18, e20, e45, e46, e47, e48, e40, hne2, e49, c39, e35, hE, hl, gt_lt, haw]
theorem c6 (haw : (lim T).call 16 [] [] 0 [] = some (.bool true, [], 0, [])) (p : Pk) (n : Int) (b : Bool) (pr : List (Int × Int)) : (lim T).call 6 [pkV p, .int .i64 n, .sl b 2 (pr.map ptV)] [] 0 [] = some (.bool true, [], 0, []) := by
  cases hsh : shP p
  · rw [ent6]
    have e15 := c15 p
    rw [hsh] at e15
    simp only [pkV] at e15
    simp -implicitDefEqProofs only [go_sem, simprocAttr, pkV, e15, haw]
  · cases hl : decide (64 < (pr.length : Int))
    · cases h1 : (ckPk p == 0)
      · exact c6a haw p n b pr hsh hl h1
      · by_cases hx : exR p = []
        · exact c6n haw p n b pr hsh hl (by simpa using h1) hx
        · exact c6b haw p n b pr hsh hl (by simpa using h1) hx
    · rw [ent6]
      have e15 := c15 p
      rw [hsh] at e15
      simp only [pkV] at e15
      simp -implicitDefEqProofs only [go_sem, simprocAttr, pkV, e15, hl, gt_lt, haw]
end Go.Den.FaT
namespace Go.Proofs.YtifljcjddphpjaaGreatDoor
open Go Go.Proofs Go.Den Go.Den.FaT Go.ChangeShapes Go.WideShapes Go.ChangeAt Go.RowKit
theorem mapOf {α : Type} {f : α → V} {e : TypeId} {n : Nat} (hc : ∀ {us}, Cl Tryz.prog n e us → ∃ a, mk Tryz.prog e us = f a) : ∀ {l : List V}, (∀ u ∈ l, ∃ us, Cl Tryz.prog n e us ∧ u = mk Tryz.prog e us) → ∃ ps : List α, l = ps.map f
  | [], _ => ⟨[], rfl⟩
  | u :: l, h => by
    obtain ⟨ps, rfl⟩ := mapOf hc (l := l) fun v hv => h v (List.mem_cons_of_mem _ hv)
    obtain ⟨us, h1, rfl⟩ := h u (List.mem_cons_self)
    obtain ⟨a, ha⟩ := hc h1
    exact ⟨a :: ps, by rw [ha]; rfl⟩
theorem mk3 (v : V) : mk Tryz.prog 3 [v] = v := by unfold mk; rw [Tryz.underlying3]; rfl
theorem mk28 (v : V) : mk Tryz.prog 28 [v] = v := by unfold mk; rw [Tryz.underlying28]; rfl
theorem mk142 (us : List V) : mk Tryz.prog 142 us = .agg us := by unfold mk; rw [Tryz.underlying142]
theorem mk140 (us : List V) : mk Tryz.prog 140 us = .agg us := by unfold mk; rw [Tryz.underlying140]
theorem mk25 (us : List V) : mk Tryz.prog 25 us = .agg us := by unfold mk; rw [Tryz.underlying25]
theorem cl3i {n : Nat} {us : List V} (h : Cl Tryz.prog n 3 us) : ∃ a, mk Tryz.prog 3 us = intV a := by
  obtain ⟨i, rfl, _⟩ := cl3 h
  exact ⟨i, mk3 _⟩
theorem cl28 {n : Nat} {vs : List V} (h : Cl Tryz.prog n 28 vs) : ∃ b, ∃ l : List Int, vs = [.sl b 1 (l.map intV)] := by
  cases n with
  | zero => cases h
  | succ n =>
    unfold Cl at h
    rw [Tryz.underlying28] at h
    obtain ⟨b, l, rfl, _, _, hl⟩ := h
    obtain ⟨ps, rfl⟩ := mapOf cl3i hl
    have : Tryz.prog.cellsOf 3 = 1 := by kernel_rfl
    exact ⟨b, ps, by rw [this]⟩
theorem cl28r {n : Nat} {us : List V} (h : Cl Tryz.prog n 28 us) : ∃ a, mk Tryz.prog 28 us = rwV a := by
  obtain ⟨b, l, rfl⟩ := cl28 h
  exact ⟨(b, l), mk28 _⟩
theorem cl22 {n : Nat} {vs : List V} (h : Cl Tryz.prog n 22 vs) : ∃ b, ∃ l : List (Bool × List Int), vs = [.sl b 1 (l.map rwV)] := by
  cases n with
  | zero => cases h
  | succ n =>
    unfold Cl at h
    rw [Tryz.underlying22] at h
    obtain ⟨b, l, rfl, _, _, hl⟩ := h
    obtain ⟨ps, rfl⟩ := mapOf cl28r hl
    have : Tryz.prog.cellsOf 28 = 1 := by kernel_rfl
    exact ⟨b, ps, by rw [this]⟩
theorem cl142 {n : Nat} {us : List V} (h : Cl Tryz.prog n 142 us) : ∃ a, mk Tryz.prog 142 us = ivV a := by
  cases n with
  | zero => cases h
  | succ n =>
    unfold Cl at h
    rw [Tryz.underlying142] at h
    obtain ⟨ps, rfl, hl, hp⟩ := h
    match ps, hl with
    | [p, q], _ =>
      obtain ⟨x, rfl, _⟩ := cl3 (hp 0 _ p rfl rfl)
      obtain ⟨y, rfl, _⟩ := cl3 (hp 1 _ q rfl rfl)
      exact ⟨(x, y), by rw [mk142]; rfl⟩
theorem cl72 {n : Nat} {vs : List V} (h : Cl Tryz.prog n 72 vs) : ∃ b, ∃ l : List (Int × Int), vs = [.sl b 2 (l.map ivV)] := by
  cases n with
  | zero => cases h
  | succ n =>
    unfold Cl at h
    rw [Tryz.underlying72] at h
    obtain ⟨b, l, rfl, _, _, hl⟩ := h
    obtain ⟨ps, rfl⟩ := mapOf cl142 hl
    have : Tryz.prog.cellsOf 142 = 2 := by kernel_rfl
    exact ⟨b, ps, by rw [this]⟩
theorem cl9 {n : Nat} {vs : List V} (h : Cl Tryz.prog n 9 vs) : ∃ s : List UInt8, vs = [.str s] := by
  cases n with
  | zero => cases h
  | succ n => unfold Cl at h; rw [Tryz.underlying9] at h; obtain ⟨s, h, _⟩ := h; exact ⟨s, h⟩
theorem cl140 {n : Nat} {us : List V} (h : Cl Tryz.prog n 140 us) : ∃ a, mk Tryz.prog 140 us = czV a := by
  cases n with
  | zero => cases h
  | succ n =>
    unfold Cl at h
    rw [Tryz.underlying140] at h
    obtain ⟨ps, rfl, hl, hp⟩ := h
    match ps, hl with
    | [p, q, r], _ =>
      obtain ⟨s, rfl⟩ := cl9 (hp 0 _ p rfl rfl)
      obtain ⟨c, rfl, _⟩ := cl3 (hp 1 _ q rfl rfl)
      obtain ⟨b, l, rfl⟩ := cl72 (hp 2 _ r rfl rfl)
      exact ⟨⟨s, c, b, l⟩, by rw [mk140]; rfl⟩
theorem cl23 {n : Nat} {vs : List V} (h : Cl Tryz.prog n 23 vs) : ∃ b, ∃ l : List Cz, vs = [.sl b 3 (l.map czV)] := by
  cases n with
  | zero => cases h
  | succ n =>
    unfold Cl at h
    rw [Tryz.underlying23] at h
    obtain ⟨b, l, rfl, _, _, hl⟩ := h
    obtain ⟨ps, rfl⟩ := mapOf cl140 hl
    have : Tryz.prog.cellsOf 140 = 3 := by kernel_rfl
    exact ⟨b, ps, by rw [this]⟩
theorem cl25 {n : Nat} {us : List V} (h : Cl Tryz.prog n 25 us) : ∃ p : Pk, mk Tryz.prog 25 us = pkV p := by
  cases n with
  | zero => cases h
  | succ n =>
    unfold Cl at h
    rw [Tryz.underlying25] at h
    obtain ⟨ps, rfl, hl, hp⟩ := h
    match ps, hl with
    | [p, q, r], _ =>
      obtain ⟨vb, v, rfl⟩ := cl22 (hp 0 _ p rfl rfl)
      obtain ⟨n, rfl, _⟩ := cl3 (hp 1 _ q rfl rfl)
      obtain ⟨cb, c, rfl⟩ := cl23 (hp 2 _ r rfl rfl)
      exact ⟨⟨vb, v, n, cb, c⟩, by rw [mk25]; rfl⟩
theorem mk100p (us : List V) : mk Tryz.prog 100 us = .agg us := by unfold mk; rw [Tryz.underlying100]
theorem mk48p (v : V) : mk Tryz.prog 48 [v] = v := by unfold mk; rw [Tryz.underlying48]; rfl
theorem cl100p {n : Nat} {us : List V} (h : Cl Tryz.prog n 100 us) : ∃ a, mk Tryz.prog 100 us = ptV a := by
  cases n with
  | zero => cases h
  | succ n =>
    unfold Cl at h
    rw [Tryz.underlying100] at h
    obtain ⟨ps, rfl, hl, hp⟩ := h
    match ps, hl with
    | [p, q], _ =>
      obtain ⟨x, rfl, _⟩ := cl3 (hp 0 _ p rfl rfl)
      obtain ⟨y, rfl, _⟩ := cl3 (hp 1 _ q rfl rfl)
      exact ⟨(x, y), by rw [mk100p]; rfl⟩
theorem cl48p {n : Nat} {us : List V} (h : Cl Tryz.prog n 48 us) : ∃ b, ∃ l : List (Int × Int), mk Tryz.prog 48 us = .sl b 2 (l.map ptV) := by
  cases n with
  | zero => cases h
  | succ n =>
    unfold Cl at h
    rw [Tryz.underlying48] at h
    obtain ⟨b, l, rfl, _, _, hl⟩ := h
    obtain ⟨ps, rfl⟩ := mapOf cl100p hl
    have : Tryz.prog.cellsOf 100 = 2 := by kernel_rfl
    exact ⟨b, ps, by rw [this, mk48p]⟩
end Go.Proofs.YtifljcjddphpjaaGreatDoor
end
