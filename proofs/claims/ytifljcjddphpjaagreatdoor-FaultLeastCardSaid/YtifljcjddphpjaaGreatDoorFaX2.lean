import Derived.Test.YtifljcjddphpjaaGreatDoorFaX1
import Derived.Test.YtifljcjddphpjaaGreatDoorZQ
import Derived.Test.YtifljcjddphpjaaGreatDoorFaX0
set_option linter.all false
set_option maxHeartbeats 8000000
set_option maxRecDepth 100000
namespace Go.Den.FaT
open Go Go.Proofs Go.Den
theorem ms5 : (lim T).call 136 [.int .i64 5] [] 0 [] = some (.fn 235 [.pp 1 [.sl true 1 ((setsN 5).map (seV (seZ 5)))] 0 0], [], 0, []) := memF_call memS_ok 100000 (by kernel_rfl)
theorem mt5 : (lim T).call 134 [.int .i64 5] [] 0 [] = some (.sl true 1 ((setsN 5).map (seV 0)), [], 0, []) := memF_call memS_ok 100000 (by kernel_rfl)
def rowB (z : Nat) (l : List Nat) : List V := l.map fun b => seV z ((List.range 6).filterMap fun i => bif b.testBit i then some (Int.ofNat i) else none)
def qf0 : FactG := ⟨232, [.ref 0, .int .i64 12, .int .i64 34, .int .i64 7, .fn 205 []], 28, rowB 1 [0, 1, 2, 4, 8, 16, 32, 3, 5, 9, 17, 33, 34, 13, 14, 49, 11, 10, 18, 19, 20, 21, 22, 48, 24, 25, 41, 40, 12, 37, 36, 35, 7, 6, 38, 31, 30, 29, 28, 39, 27, 26, 42, 43, 44, 45, 46, 47, 23, 15, 50, 51, 52, 53, 54, 55, 56, 57, 58, 59, 60, 61, 62, 63], .tup [], rowB 1 [0, 1, 2, 4, 8, 16, 32, 3, 5, 9, 17, 33, 6, 10, 18, 34, 12, 20, 36, 24, 40, 48, 7, 11, 19, 35, 13, 21, 37, 25, 41, 49, 14, 22, 38, 31, 30, 29, 28, 39, 27, 26, 42, 43, 44, 45, 46, 47, 23, 15, 50, 51, 52, 53, 54, 55, 56, 57, 58, 59, 60, 61, 62, 63]⟩
theorem qo0 : qf0.ok T := by unfold FactG.ok; exact memG_call memS_ok (factsG_nil T) 100000 (by kernel_rfl)
def qf1 : FactG := ⟨232, [.ref 0, .int .i64 35, .int .i64 41, .int .i64 7, .fn 205 []], 28, rowB 1 [0, 1, 2, 4, 8, 16, 32, 3, 5, 9, 17, 33, 6, 10, 18, 34, 12, 20, 36, 24, 40, 48, 7, 11, 19, 35, 13, 21, 37, 25, 41, 49, 14, 22, 38, 26, 52, 50, 28, 44, 42, 56, 27, 43, 39, 45, 46, 47, 23, 15, 29, 51, 30, 53, 54, 55, 31, 57, 58, 59, 60, 61, 62, 63], .tup [], rowB 1 [0, 1, 2, 4, 8, 16, 32, 3, 5, 9, 17, 33, 6, 10, 18, 34, 12, 20, 36, 24, 40, 48, 7, 11, 19, 35, 13, 21, 37, 25, 41, 49, 14, 22, 38, 26, 42, 50, 28, 44, 52, 56, 27, 43, 39, 45, 46, 47, 23, 15, 29, 51, 30, 53, 54, 55, 31, 57, 58, 59, 60, 61, 62, 63]⟩
theorem qo1 : qf1.ok T := by unfold FactG.ok; exact memG_call memS_ok (factsG_cons qo0 (factsG_nil T)) 100000 (by kernel_rfl)
def qf2 : FactG := ⟨232, [.ref 0, .int .i64 42, .int .i64 52, .int .i64 7, .fn 205 []], 28, rowB 1 [0, 1, 2, 4, 8, 16, 32, 3, 5, 9, 17, 33, 6, 10, 18, 34, 12, 20, 36, 24, 40, 48, 7, 11, 19, 35, 13, 21, 37, 25, 41, 49, 14, 22, 38, 26, 42, 50, 28, 44, 52, 56, 27, 43, 39, 45, 57, 53, 23, 15, 29, 51, 30, 47, 54, 55, 31, 46, 58, 59, 60, 61, 62, 63], .tup [], rowB 1 [0, 1, 2, 4, 8, 16, 32, 3, 5, 9, 17, 33, 6, 10, 18, 34, 12, 20, 36, 24, 40, 48, 7, 11, 19, 35, 13, 21, 37, 25, 41, 49, 14, 22, 38, 26, 42, 50, 28, 44, 52, 56, 15, 23, 39, 27, 43, 51, 29, 45, 53, 57, 30, 47, 54, 55, 31, 46, 58, 59, 60, 61, 62, 63]⟩
theorem qo2 : qf2.ok T := by unfold FactG.ok; exact memG_call memS_ok (factsG_cons qo1 (factsG_cons qo0 (factsG_nil T))) 100000 (by kernel_rfl)
def qf3 : FactG := ⟨204, [.ref 0, .fn 205 []], 28, rowB 0 [0, 1, 2, 3, 4, 5, 6, 7, 8, 9, 10, 11, 12, 13, 14, 15, 16, 17, 18, 19, 20, 21, 22, 23, 24, 25, 26, 27, 28, 29, 30, 31, 32, 33, 34, 35, 36, 37, 38, 39, 40, 41, 42, 43, 44, 45, 46, 47, 48, 49, 50, 51, 52, 53, 54, 55, 56, 57, 58, 59, 60, 61, 62, 63], .tup [], rowB 1 [0, 1, 2, 4, 8, 16, 32, 3, 5, 9, 17, 33, 6, 10, 18, 34, 12, 20, 36, 24, 40, 48, 7, 11, 19, 35, 13, 21, 37, 25, 41, 49, 14, 22, 38, 26, 42, 50, 28, 44, 52, 56, 15, 23, 39, 27, 43, 51, 29, 45, 53, 57, 30, 46, 54, 58, 60, 31, 47, 55, 59, 61, 62, 63]⟩
theorem qo3 : qf3.ok T := by unfold FactG.ok; exact memG_call memS_ok (factsG_cons qo2 (factsG_cons qo1 (factsG_cons qo0 (factsG_nil T)))) 100000 (by kernel_rfl)
theorem ms6 : (lim T).call 136 [.int .i64 6] [] 0 [] = some (.fn 235 [.pp 1 [.sl true 1 ((setsN 6).map (seV (seZ 6)))] 0 0], [], 0, []) := memG_call memS_ok (factsG_cons qo3 (factsG_nil T)) 100000 (by kernel_rfl)
theorem mt6 : (lim T).call 134 [.int .i64 6] [] 0 [] = some (.sl true 1 ((setsN 6).map (seV 0)), [], 0, []) := memF_call memS_ok 100000 (by kernel_rfl)
theorem c136 (n : Nat) (h : n ≤ 6) : (lim T).call 136 [.int .i64 n] [] 0 [] = some (.fn 235 [.pp 1 [.sl true 1 ((setsN n).map (seV (seZ n)))] 0 0], [], 0, []) := by
  match n, h with
  | 0, _ => exact ms0
  | 1, _ => exact ms1
  | 2, _ => exact ms2
  | 3, _ => exact ms3
  | 4, _ => exact ms4
  | 5, _ => exact ms5
  | 6, _ => exact ms6
theorem c134 (n : Nat) (h : n ≤ 6) : (lim T).call 134 [.int .i64 n] [] 0 [] = some (.sl true 1 ((setsN n).map (seV 0)), [], 0, []) := by
  match n, h with
  | 0, _ => exact mt0
  | 1, _ => exact mt1
  | 2, _ => exact mt2
  | 3, _ => exact mt3
  | 4, _ => exact mt4
  | 5, _ => exact mt5
  | 6, _ => exact mt6
theorem sets_all (n : Nat) (h : n ≤ 6) : ((setsN n).length ≤ 64 ∧ 0 < (setsN n).length) ∧ (∀ s ∈ setsN n, ∀ i ∈ s, 0 ≤ i ∧ i < (n : Int)) ∧ (∀ s ∈ setsN n, s.length ≤ 6) ∧ (setsN n).Pairwise (fun a b => a.length ≤ b.length) := by
  match n, h with
  | 0, _ => decide +kernel
  | 1, _ => decide +kernel
  | 2, _ => decide +kernel
  | 3, _ => decide +kernel
  | 4, _ => decide +kernel
  | 5, _ => decide +kernel
  | 6, _ => decide +kernel
theorem sok_of {p : Pk} (h6 : p.c.length ≤ 6) : Sok p :=
  ⟨(sets_all _ h6).1.1, fun x hx => ⟨by have := (sets_all _ h6).2.2.1 x hx; omega, (sets_all _ h6).2.1 x hx⟩, c136 _ h6⟩
theorem rok_of {p : Pk} (h6 : p.c.length ≤ 6) : Rok p :=
  ⟨(sets_all _ h6).1.1, fun x hx => ⟨by have := (sets_all _ h6).2.2.1 x hx; omega, (sets_all _ h6).2.1 x hx⟩, c134 _ h6⟩
theorem caus6 {p : Pk} (h : shP p = true) (ho : Ok p) : p.c.length ≤ 6 := by
  have h8 := ho.c8
  unfold shP at h
  simp only [Bool.and_eq_true, Bool.not_eq_true', Bool.or_eq_false_iff, Bool.not_eq_false'] at h
  obtain ⟨⟨_, h2⟩, _⟩ := h
  unfold shC at h2
  simp only [Bool.and_eq_true, Bool.not_eq_true', Bool.and_eq_false_iff] at h2
  rcases h2.1 with h4 | h4
  · simp at h4; omega
  · simp at h4; omega
theorem ok_own {p : Pk} (hck : ckPk p = 0) : ckPk (ownP p) = 0 := by rw [ck_own]; exact hck
theorem len_own (p : Pk) : (ownP p).c.length = p.c.length := by unfold ownP; simp
theorem exA_own (p : Pk) : exA (ownP p) = exR p := by
  show expl (ownP p) (setsN (ownP p).c.length) = exF p (setsN p.c.length)
  rw [len_own]
  unfold expl exF
  congr 1
  funext st
  rw [unq_own]
theorem selF_own (g : Int → Int → Bool) (L : List (List Int)) : ∀ (l : List Cz) (i : Nat), (selF g L i (l.map ownC)).map (fun c => c.n) = (selF g L i l).map (fun c => c.n) := by
  intro l
  induction l with
  | nil => intro i; rfl
  | cons c r ih =>
    intro i
    simp only [List.map_cons, selF]
    cases g (cnt i L) L.length
    · simp only [cond_false]; exact ih _
    · simp only [cond_true, List.map_cons, ih]; rfl
theorem selW_own (g : Int → Int → Bool) (L : List (List Int)) (p : Pk) : selW g L (ownP p).c = selW g L p.c := selF_own g L p.c 0
theorem c36e (p : Pk) (E : Int) (hE : ¬ E = 0) (z : Nat) (H : Heap) (h : (lim T).call 128 [pkV p] [] 0 [] = some (.tup [.sl false z [], .int .i64 E], H, 0, [])) : (lim T).call 36 [pkV p] [] 0 [] = some (.tup [.sl false 0 [], .int .i64 E], [], 0, []) := by
  rw [ent36]
  have h1 : (E != 0) = true := by simpa using hE
  simp only [pkV] at h
  simp -implicitDefEqProofs only [go_sem, simprocAttr, pkV, h, h1, asSl, Bool.not_false, Bool.or_true]
theorem seW_rw (l : List (List Int)) : l.map seW = (l.map fun s => (!s.isEmpty, s)).map rwV := by rw [List.map_map]; rfl
theorem c25s (b c : Bool) (l : List (List Int)) (hb : l.length < 1000000) (hl : ∀ r ∈ l, r.length < 1000000) : (lim T).call 25 [.sl b 1 (l.map seW), .sl c 1 (l.map seW)] [] 0 [] = some (.bool true, [], 0, []) := by
  rw [seW_rw]
  have h := c25 b c (l.map fun s => (!s.isEmpty, s)) (l.map fun s => (!s.isEmpty, s)) (by simpa using hb) (fun r hr => by
    obtain ⟨s, hs, rfl⟩ := List.mem_map.1 hr
    exact hl s hs)
  rw [show decide ((l.map fun s => (!s.isEmpty, s)).map (·.2) = (l.map fun s => (!s.isEmpty, s)).map (·.2)) = true by simp] at h
  exact h
theorem c5a (haw : (lim T).call 16 [] [] 0 [] = some (.bool true, [], 0, [])) (p : Pk) (hsh : shP p = true) (h1 : (ckPk p == 0) = false) : (lim T).call 5 [pkV p] [] 0 [] = some (.bool true, [], 0, []) := by
  rw [ent5]
  have hf := fit_of hsh (by have := shP_len hsh; omega)
  have h0 : ¬ ckPk p = 0 := by simpa using h1
  have h0' : ¬ ckPk (ownP p) = 0 := by rw [ck_own]; exact h0
  have e15 := c15 p
  rw [hsh] at e15
  have e18 := c18 p hf
  have e20 := c20 p hf
  have e36 := c36e (ownP p) _ h0' _ _ (c128e (ownP p) (fit_own hf) h0')
  have e37 := c37 (ownP p) .undef _ _ _ _ (c131e 132 (ownP p) (fit_own hf) h0') (.inr rfl)
  have e38 := c38 (ownP p) .undef _ _ _ _ (c131e 133 (ownP p) (fit_own hf) h0') (.inr rfl)
  rw [ck_own] at e36 e37 e38
  generalize ckPk p = E at *
  have hE : (E == E) = true := by simp
  have e44 := c44z 1 E h0
  simp only [pkV, ownP] at e15 e18 e20 e36 e37 e38
  simp -implicitDefEqProofs only [go_sem, simprocAttr, pkV, e15, e18, e20, e36, e37, e38, h1, e44, c25n, hE, haw]
theorem c5n (haw : (lim T).call 16 [] [] 0 [] = some (.bool true, [], 0, [])) (p : Pk) (hsh : shP p = true) (h0 : ckPk p = 0) (hx : exR p = []) : (lim T).call 5 [pkV p] [] 0 [] = some (.bool true, [], 0, []) := by
  rw [ent5]
  have hf := fit_of hsh (by have := shP_len hsh; omega)
  have ho := ok_of h0
  have h6 := caus6 hsh ho
  have h0' := ok_own h0
  have hs : Sok (ownP p) := sok_of (by rw [len_own]; exact h6)
  have hx' : exA (ownP p) = [] := by rw [exA_own]; exact hx
  have e15 := c15 p
  rw [hsh] at e15
  have e18 := c18 p hf
  have e20 := c20 p hf
  rw [h0] at e20
  have e36 := c36e (ownP p) 18 (by decide) _ _ (c128n (ownP p) (fit_own hf) h0' hs hx')
  have e37 := c37 (ownP p) .undef _ _ _ _ (c131n 132 (ownP p) (fit_own hf) h0' hs hx') (.inr rfl)
  have e38 := c38 (ownP p) .undef _ _ _ _ (c131n 133 (ownP p) (fit_own hf) h0' hs hx') (.inr rfl)
  have e40 := c40 p ho (rok_of h6)
  rw [hx] at e40
  have e44 := c44z 1 18 (by decide)
  simp only [pkV, ownP, List.map_nil] at e15 e18 e20 e36 e37 e38 e40
  simp -implicitDefEqProofs only [go_sem, simprocAttr, pkV, e15, e18, e20, e36, e37, e38, e40, c39, e44, c25n, haw]
theorem c5b (haw : (lim T).call 16 [] [] 0 [] = some (.bool true, [], 0, [])) (p : Pk) (hsh : shP p = true) (h0 : ckPk p = 0) (hx : exR p ≠ []) : (lim T).call 5 [pkV p] [] 0 [] = some (.bool true, [], 0, []) := by
  rw [ent5]
  have hf := fit_of hsh (by have := shP_len hsh; omega)
  have ho := ok_of h0
  have h6 := caus6 hsh ho
  have h0' := ok_own h0
  have hs : Sok (ownP p) := sok_of (by rw [len_own]; exact h6)
  have hr : Rok p := rok_of h6
  have hx' : exA (ownP p) ≠ [] := by rw [exA_own]; exact hx
  obtain ⟨k1, k2⟩ := exR_el hr
  have hpw : (exR p).Pairwise (fun a b => a.length ≤ b.length) := (sets_all _ h6).2.2.2.sublist List.filter_sublist
  obtain ⟨x0, n, hx0, hcut, hfl⟩ := cut_of hpw k1 hx
  have e15 := c15 p
  rw [hsh] at e15
  have e18 := c18 p hf
  have e20 := c20 p hf
  rw [h0] at e20
  have e36 := c36 (ownP p) (fit_own hf) h0' hs x0 n (by rw [exA_own]; exact hcut)
  have e37 := c37 (ownP p) .undef _ _ _ _ (c131 132 _ is132 (ownP p) (fit_own hf) h0' hs hx') (.inl rfl)
  have e38 := c38 (ownP p) .undef _ _ _ _ (c131 133 _ is133 (ownP p) (fit_own hf) h0' hs hx') (.inl rfl)
  rw [exA_own] at e36 e37 e38
  rw [selW_own] at e37 e38
  have e40 := c40 p ho hr
  have e41 := c41 p ho hr x0 hx0
  rw [hfl] at e41
  have e42 := c42 p ho hr
  have e43 := c43 p ho hr
  have c8 := ho.c8
  have hne : (((exR p).length : Int) == 0) = false := by
    cases hc : exR p with
    | nil => exact absurd hc hx
    | cons a r => simp; omega
  have w1 := selF_len (fun a b => a == b) (exR p) p.c 0
  have w2 := selF_len (fun a b => decide (0 < a)) (exR p) p.c 0
  have e25 := c25s true (!(((exR p).take n).map seW).isEmpty) ((exR p).take n) (by rw [List.length_take]; omega) (fun r hr => k2 r (List.mem_of_mem_take hr))
  have e44 := c44 (!((selW (fun a b => a == b) (exR p) p.c).map wdV).isEmpty) (!((selW (fun a b => a == b) (exR p) p.c).map wdV).isEmpty) (selW (fun a b => a == b) (exR p) p.c) (by unfold selW; rw [List.length_map]; omega)
  have e44b := c44 (!((selW (fun a b => decide (0 < a)) (exR p) p.c).map wdV).isEmpty) (!((selW (fun a b => decide (0 < a)) (exR p) p.c).map wdV).isEmpty) (selW (fun a b => decide (0 < a)) (exR p) p.c) (by unfold selW; rw [List.length_map]; omega)
  generalize selW (fun a b => a == b) (exR p) p.c = W1 at *
  generalize selW (fun a b => decide (0 < a)) (exR p) p.c = W2 at *
  generalize (exR p).take n = L1 at *
  simp only [pkV, ownP] at e15 e18 e20 e36 e37 e38 e40 e41 e42 e43
  simp -implicitDefEqProofs only [go_sem, simprocAttr, pkV, e15, e18, e20, e36, e37, e38, e40, e41, e42, e43, hne, c39, e25, e44, e44b, haw]
theorem c5 (haw : (lim T).call 16 [] [] 0 [] = some (.bool true, [], 0, [])) (p : Pk) : (lim T).call 5 [pkV p] [] 0 [] = some (.bool true, [], 0, []) := by
  cases hsh : shP p
  · rw [ent5]
    have e15 := c15 p
    rw [hsh] at e15
    simp only [pkV] at e15
    simp -implicitDefEqProofs only [go_sem, simprocAttr, pkV, e15, haw]
  · cases h1 : (ckPk p == 0)
    · exact c5a haw p hsh h1
    · by_cases hx : exR p = []
      · exact c5n haw p hsh (by simpa using h1) hx
      · exact c5b haw p hsh (by simpa using h1) hx
end Go.Den.FaT
namespace Go.Proofs.YtifljcjddphpjaaGreatDoor
open Go Go.Proofs Go.Den Go.Den.FaT Go.ChangeShapes Go.WideShapes Go.ChangeAt Go.RowKit
theorem mapOf {α : Type} {f : α → V} {e : TypeId} {n : Nat} (hc : ∀ {us}, Cl Tryz.prog n e us → ∃ a, mk Tryz.prog e us = f a) : ∀ {l : List V}, (∀ u ∈ l, ∃ us, Cl Tryz.prog n e us ∧ u = mk Tryz.prog e us) → ∃ ps : List α, l = ps.map f
  | [], _ => ⟨[], rfl⟩
  | u :: l, h => by
    obtain ⟨ps, rfl⟩ := mapOf hc (l := l) fun v hv => h v (List.mem_cons_of_mem _ hv)
    obtain ⟨us, h1, rfl⟩ := h u (List.mem_cons_self)
    obtain ⟨a, ha⟩ := hc h1
    exact ⟨a :: ps, by rw [ha]; rfl⟩
theorem mk3 (v : V) : mk Tryz.prog 3 [v] = v := by unfold mk; rw [Tryz.underlying3]; rfl
theorem mk28 (v : V) : mk Tryz.prog 28 [v] = v := by unfold mk; rw [Tryz.underlying28]; rfl
theorem mk142 (us : List V) : mk Tryz.prog 142 us = .agg us := by unfold mk; rw [Tryz.underlying142]
theorem mk140 (us : List V) : mk Tryz.prog 140 us = .agg us := by unfold mk; rw [Tryz.underlying140]
theorem mk25 (us : List V) : mk Tryz.prog 25 us = .agg us := by unfold mk; rw [Tryz.underlying25]
theorem cl3i {n : Nat} {us : List V} (h : Cl Tryz.prog n 3 us) : ∃ a, mk Tryz.prog 3 us = intV a := by
  obtain ⟨i, rfl, _⟩ := cl3 h
  exact ⟨i, mk3 _⟩
theorem cl28 {n : Nat} {vs : List V} (h : Cl Tryz.prog n 28 vs) : ∃ b, ∃ l : List Int, vs = [.sl b 1 (l.map intV)] := by
  cases n with
  | zero => cases h
  | succ n =>
    unfold Cl at h
    rw [Tryz.underlying28] at h
    obtain ⟨b, l, rfl, _, _, hl⟩ := h
    obtain ⟨ps, rfl⟩ := mapOf cl3i hl
    have : Tryz.prog.cellsOf 3 = 1 := by kernel_rfl
    exact ⟨b, ps, by rw [this]⟩
theorem cl28r {n : Nat} {us : List V} (h : Cl Tryz.prog n 28 us) : ∃ a, mk Tryz.prog 28 us = rwV a := by
  obtain ⟨b, l, rfl⟩ := cl28 h
  exact ⟨(b, l), mk28 _⟩
theorem cl22 {n : Nat} {vs : List V} (h : Cl Tryz.prog n 22 vs) : ∃ b, ∃ l : List (Bool × List Int), vs = [.sl b 1 (l.map rwV)] := by
  cases n with
  | zero => cases h
  | succ n =>
    unfold Cl at h
    rw [Tryz.underlying22] at h
    obtain ⟨b, l, rfl, _, _, hl⟩ := h
    obtain ⟨ps, rfl⟩ := mapOf cl28r hl
    have : Tryz.prog.cellsOf 28 = 1 := by kernel_rfl
    exact ⟨b, ps, by rw [this]⟩
theorem cl142 {n : Nat} {us : List V} (h : Cl Tryz.prog n 142 us) : ∃ a, mk Tryz.prog 142 us = ivV a := by
  cases n with
  | zero => cases h
  | succ n =>
    unfold Cl at h
    rw [Tryz.underlying142] at h
    obtain ⟨ps, rfl, hl, hp⟩ := h
    match ps, hl with
    | [p, q], _ =>
      obtain ⟨x, rfl, _⟩ := cl3 (hp 0 _ p rfl rfl)
      obtain ⟨y, rfl, _⟩ := cl3 (hp 1 _ q rfl rfl)
      exact ⟨(x, y), by rw [mk142]; rfl⟩
theorem cl72 {n : Nat} {vs : List V} (h : Cl Tryz.prog n 72 vs) : ∃ b, ∃ l : List (Int × Int), vs = [.sl b 2 (l.map ivV)] := by
  cases n with
  | zero => cases h
  | succ n =>
    unfold Cl at h
    rw [Tryz.underlying72] at h
    obtain ⟨b, l, rfl, _, _, hl⟩ := h
    obtain ⟨ps, rfl⟩ := mapOf cl142 hl
    have : Tryz.prog.cellsOf 142 = 2 := by kernel_rfl
    exact ⟨b, ps, by rw [this]⟩
theorem cl9 {n : Nat} {vs : List V} (h : Cl Tryz.prog n 9 vs) : ∃ s : List UInt8, vs = [.str s] := by
  cases n with
  | zero => cases h
  | succ n => unfold Cl at h; rw [Tryz.underlying9] at h; obtain ⟨s, h, _⟩ := h; exact ⟨s, h⟩
theorem cl140 {n : Nat} {us : List V} (h : Cl Tryz.prog n 140 us) : ∃ a, mk Tryz.prog 140 us = czV a := by
  cases n with
  | zero => cases h
  | succ n =>
    unfold Cl at h
    rw [Tryz.underlying140] at h
    obtain ⟨ps, rfl, hl, hp⟩ := h
    match ps, hl with
    | [p, q, r], _ =>
      obtain ⟨s, rfl⟩ := cl9 (hp 0 _ p rfl rfl)
      obtain ⟨c, rfl, _⟩ := cl3 (hp 1 _ q rfl rfl)
      obtain ⟨b, l, rfl⟩ := cl72 (hp 2 _ r rfl rfl)
      exact ⟨⟨s, c, b, l⟩, by rw [mk140]; rfl⟩
theorem cl23 {n : Nat} {vs : List V} (h : Cl Tryz.prog n 23 vs) : ∃ b, ∃ l : List Cz, vs = [.sl b 3 (l.map czV)] := by
  cases n with
  | zero => cases h
  | succ n =>
    unfold Cl at h
    rw [Tryz.underlying23] at h
    obtain ⟨b, l, rfl, _, _, hl⟩ := h
    obtain ⟨ps, rfl⟩ := mapOf cl140 hl
    have : Tryz.prog.cellsOf 140 = 3 := by kernel_rfl
    exact ⟨b, ps, by rw [this]⟩
theorem cl25 {n : Nat} {us : List V} (h : Cl Tryz.prog n 25 us) : ∃ p : Pk, mk Tryz.prog 25 us = pkV p := by
  cases n with
  | zero => cases h
  | succ n =>
    unfold Cl at h
    rw [Tryz.underlying25] at h
    obtain ⟨ps, rfl, hl, hp⟩ := h
    match ps, hl with
    | [p, q, r], _ =>
      obtain ⟨vb, v, rfl⟩ := cl22 (hp 0 _ p rfl rfl)
      obtain ⟨n, rfl, _⟩ := cl3 (hp 1 _ q rfl rfl)
      obtain ⟨cb, c, rfl⟩ := cl23 (hp 2 _ r rfl rfl)
      exact ⟨⟨vb, v, n, cb, c⟩, by rw [mk25]; rfl⟩
end Go.Proofs.YtifljcjddphpjaaGreatDoor
