import Derived.Test.YteeikdgoeehhkaaGreatDoorFaS0
import Derived.Test.YteeikdgoeehhkaaGreatDoorZP
import Derived.Test.YteeikdgoeehhkaaGreatDoorZR
set_option linter.all false
set_option maxHeartbeats 8000000
set_option maxRecDepth 100000
noncomputable section
namespace Go.Den.FaT
open Go Go.Proofs Go.Den

theorem c115 (b : Bool) (e : Int) : (lim T).call 29 [.bool b, .int .i64 e] [] 0 [] = some (.int .i64 (cond b e 0), [], 0, []) := by
  rw [ent29]
  cases b
  · simp -implicitDefEqProofs only [go_sem, simprocAttr]
  · simp -implicitDefEqProofs only [go_sem, simprocAttr]
theorem c137 (n a b : Int) : (lim T).call 47 [.int .i64 n, .int .i64 a, .int .i64 b] [] 0 [] = some (.int .i64 (rng n a b), [], 0, []) := by
  rw [ent47]
  cases h : decide (n < a)
  · simp -implicitDefEqProofs only [go_sem, simprocAttr, h, c115, rng]
  · simp -implicitDefEqProofs only [go_sem, simprocAttr, h, c115, rng]
theorem loop114 (b : Bool) (l : List Int) (hb : l.length < 4611686018427387904) : ∀ i, i ≤ l.length → (lim T).loop false [.code (.loop b24_0), .inBlock 0, .code (.seq r24_7 .ret)] ⟨24, 15, 0, [(5, .sl b 1 (l.map fun n => .int .i64 n)), (6, .int .i64 l.length), (7, .int .i64 i)], [], 0, []⟩ = some (.ret (.int .i64 (fnz (l.drop i))), [], 0, []) := by
  refine down_ind l.length ?_ fun i hi ih => ?_
  · rw [loopEq]
    have h1 := idx_out l.length
    simp -implicitDefEqProofs only [go_sem, simprocAttr, h1]
    simp [fnz]
  · obtain ⟨h1, h2, h3, h4, h5⟩ := idx_in hi hb
    rw [loopEq, h5]
    cases h6 : (l[i] != 0)
    · have h7 : l[i] = 0 := by simpa using h6
      simp -implicitDefEqProofs only [go_sem, simprocAttr, h1, h2, h3, h4, h6, ih]
      simp [fnz, h7]
    · have h7 : l[i] ≠ 0 := by simpa using h6
      simp -implicitDefEqProofs only [go_sem, simprocAttr, h1, h2, h3, h4, h6]
      simp [fnz, h7]
theorem c114 (b : Bool) (l : List Int) (hb : l.length < 4611686018427387904) : (lim T).call 24 [.sl b 1 (l.map fun n => .int .i64 n)] [] 0 [] = some (.int .i64 (fnz l), [], 0, []) := by
  rw [ent24]
  have h := loop114 b l hb 0 (by omega)
  rw [show ((0 : Nat) : Int) = 0 from rfl, List.drop_zero] at h
  simp -implicitDefEqProofs only [go_sem, simprocAttr, h]

theorem c152 (a b c d : Int) : (lim T).call 68 [.agg [.int .i64 a, .int .i64 b], .agg [.int .i64 c, .int .i64 d]] [] 0 [] = some (.agg [.int .i64 (IntKind.i64.wrap (a + c)), .int .i64 (IntKind.i64.wrap (b + d))], [], 0, []) := by
  rw [ent68]
  simp -implicitDefEqProofs only [go_sem, simprocAttr]
theorem c163 (a b c d : Int) : (lim T).call 28 [.agg [.int .i64 a, .int .i64 b], .agg [.int .i64 c, .int .i64 d]] [] 0 [] = some (.agg [.int .i64 (IntKind.i64.wrap (a - c)), .int .i64 (IntKind.i64.wrap (b - d))], [], 0, []) := by
  rw [ent28]
  simp -implicitDefEqProofs only [go_sem, simprocAttr]
theorem c327 (a b : Int) : (lim T).call 170 [.agg [.int .i64 a, .int .i64 b]] [] 0 [] = some (.agg [.int .i64 a, .int .i64 b], [], 0, []) := by
  rw [ent170]
  simp -implicitDefEqProofs only [go_sem, simprocAttr]
theorem c328 (a b : Int) : (lim T).call 171 [.agg [.int .i64 a, .int .i64 b]] [] 0 [] = some (.agg [.int .i64 (IntKind.i64.wrap (0 - b)), .int .i64 a], [], 0, []) := by
  rw [ent171]
  simp -implicitDefEqProofs only [go_sem, simprocAttr]

theorem c329 (a b : Int) : (lim T).call 172 [.agg [.int .i64 a, .int .i64 b]] [] 0 [] = some (.agg [.int .i64 (IntKind.i64.wrap (0 - a)), .int .i64 (IntKind.i64.wrap (0 - b))], [], 0, []) := by
  rw [ent172]
  simp -implicitDefEqProofs only [go_sem, simprocAttr]
theorem c330 (a b : Int) : (lim T).call 173 [.agg [.int .i64 a, .int .i64 b]] [] 0 [] = some (.agg [.int .i64 b, .int .i64 (IntKind.i64.wrap (0 - a))], [], 0, []) := by
  rw [ent173]
  simp -implicitDefEqProofs only [go_sem, simprocAttr]
theorem c24_2 (b : Bool) (x y : Int) : (lim T).call 24 [.sl b 1 [.int .i64 x, .int .i64 y]] [] 0 [] = some (.int .i64 (fnz [x, y]), [], 0, []) := c114 b [x, y] (by simp)
theorem c24_3 (b : Bool) (x y z : Int) : (lim T).call 24 [.sl b 1 [.int .i64 x, .int .i64 y, .int .i64 z]] [] 0 [] = some (.int .i64 (fnz [x, y, z]), [], 0, []) := c114 b [x, y, z] (by simp)
theorem c24_4 (b : Bool) (x y z u : Int) : (lim T).call 24 [.sl b 1 [.int .i64 x, .int .i64 y, .int .i64 z, .int .i64 u]] [] 0 [] = some (.int .i64 (fnz [x, y, z, u]), [], 0, []) := c114 b [x, y, z, u] (by simp)
theorem c161 (x y : Int) : (lim T).call 26 [.agg [.int .i64 x, .int .i64 y]] [] 0 [] = some (.int .i64 (ckP x y), [], 0, []) := by
  rw [ent26]
  simp -implicitDefEqProofs only [go_sem, simprocAttr, c137, c24_2, ckP]
theorem c160 (n x y : Int) : (lim T).call 25 [.agg [.int .i64 n, .int .i64 x, .int .i64 y]] [] 0 [] = some (.int .i64 (ckF n x y), [], 0, []) := by
  rw [ent25]
  simp -implicitDefEqProofs only [go_sem, simprocAttr, c137, c161, c24_2, ckF]
def trn (n x y : Int) : Int × Int := if n = 0 then (x, y) else if n = 1 then (IntKind.i64.wrap (0 - y), x) else if n = 2 then (IntKind.i64.wrap (0 - x), IntKind.i64.wrap (0 - y)) else (y, IntKind.i64.wrap (0 - x))
def carr (n sx sy x y : Int) : Int × Int := (IntKind.i64.wrap ((trn n x y).1 + sx), IntKind.i64.wrap ((trn n x y).2 + sy))
theorem c162 (n sx sy x y : Int) (h : 0 ≤ n ∧ n ≤ 3) : (lim T).call 27 [.agg [.int .i64 n, .int .i64 sx, .int .i64 sy], .agg [.int .i64 x, .int .i64 y]] [] 0 [] = some (.agg [.int .i64 (carr n sx sy x y).1, .int .i64 (carr n sx sy x y).2], [], 0, []) := by
  rw [ent27]
  have h : n = 0 ∨ n = 1 ∨ n = 2 ∨ n = 3 := by omega
  rcases h with rfl | rfl | rfl | rfl
  · simp -implicitDefEqProofs only [go_sem, simprocAttr, c152, c327]
    simp [carr, trn]
  · simp -implicitDefEqProofs only [go_sem, simprocAttr, c152, c328]
    simp [carr, trn]
  · simp -implicitDefEqProofs only [go_sem, simprocAttr, c152, c329]
    simp [carr, trn]
  · simp -implicitDefEqProofs only [go_sem, simprocAttr, c152, c330]
    simp [carr, trn]
end Go.Den.FaT
namespace Go.Den.FaT
open Go Go.Den
def ords : Nat → List Int → List Int → List (List Int)
  | 0, b, r => [b]
  | n + 1, b, r => (List.range r.length).flatMap fun k => ords n (b ++ [r.getD k 0]) (r.eraseIdx k)
theorem get_erase : ∀ (r : List Int) (k : Nat) (h : k < r.length), (r[k] :: r.eraseIdx k).Perm r
  | a :: r, 0, _ => List.Perm.refl _
  | a :: r, k + 1, h => by
    have := get_erase r k (by simpa using h)
    rw [List.getElem_cons_succ, List.eraseIdx_cons_succ]
    exact (List.Perm.swap a _ _).trans (List.Perm.cons a this)
theorem mem_ords : ∀ (n : Nat) (b r x : List Int), r.length = n → (x ∈ ords n b r ↔ ∃ p, p.Perm r ∧ x = b ++ p)
  | 0, b, r, x, h => by
    have : r = [] := List.length_eq_zero_iff.1 h
    subst this
    simp only [ords, List.mem_singleton, List.perm_nil, exists_eq_left, List.append_nil]
  | n + 1, b, r, x, h => by
    simp only [ords, List.mem_flatMap, List.mem_range]
    constructor
    · rintro ⟨k, hk, hx⟩
      rw [mem_ords n _ _ x (by rw [List.length_eraseIdx]; split <;> omega)] at hx
      obtain ⟨p, hp, rfl⟩ := hx
      refine ⟨r.getD k 0 :: p, ?_, by simp⟩
      have e : r.getD k 0 = r[k] := by simp [List.getD, hk]
      rw [e]
      exact (List.Perm.cons _ hp).trans (get_erase r k hk)
    · rintro ⟨p, hp, rfl⟩
      match p, hp with
      | [], hp => have := hp.length_eq; simp at this; omega
      | a :: q, hp =>
        have ha : a ∈ r := hp.subset (List.mem_cons_self ..)
        obtain ⟨k, hk, rfl⟩ := List.mem_iff_getElem.1 ha
        refine ⟨k, hk, ?_⟩
        rw [mem_ords n _ _ _ (by rw [List.length_eraseIdx]; split <;> omega)]
        have e : r.getD k 0 = r[k] := by simp [List.getD, hk]
        refine ⟨q, ?_, by rw [e]; simp⟩
        exact List.Perm.cons_inv (hp.trans (get_erase r k hk).symm)
def best1 (w : List Int → Int) (s : List Int × Int) (o : List Int) : List Int × Int := if s.2 < 0 ∨ w o < s.2 then (o, w o) else s
def bestL (w : List Int → Int) (l : List (List Int)) (s : List Int × Int) : List Int × Int := l.foldl (best1 w) s
theorem bestL_append (w : List Int → Int) (a b : List (List Int)) (s : List Int × Int) : bestL w (a ++ b) s = bestL w b (bestL w a s) := List.foldl_append ..
theorem bestL_inv (w : List Int → Int) (hw : ∀ o, 0 ≤ w o) : ∀ (l : List (List Int)) (s : List Int × Int), 0 ≤ s.2 → s.2 = w s.1 →
    (bestL w l s).2 = w (bestL w l s).1 ∧ (bestL w l s).2 ≤ s.2 ∧ (∀ o ∈ l, (bestL w l s).2 ≤ w o) ∧ ((bestL w l s).1 = s.1 ∨ (bestL w l s).1 ∈ l)
  | [], s, h0, h => ⟨h, Int.le_refl _, fun o (ho : o ∈ []) => (List.not_mem_nil ho).elim, Or.inl rfl⟩
  | o :: l, s, h0, h => by
    have e : bestL w (o :: l) s = bestL w l (best1 w s o) := rfl
    by_cases hc : w o < s.2
    · have e1 : best1 w s o = (o, w o) := if_pos (.inr hc)
      rw [e, e1]
      obtain ⟨i1, i2, i3, i4⟩ := bestL_inv w hw l (o, w o) (hw o) rfl
      refine ⟨i1, by dsimp only at i2; omega, fun p hp => ?_, ?_⟩
      · rcases List.mem_cons.1 hp with rfl | hp
        · exact i2
        · exact i3 p hp
      · rcases i4 with i4 | i4
        · exact .inr (by rw [i4]; exact List.mem_cons_self ..)
        · exact .inr (List.mem_cons_of_mem _ i4)
    · have e1 : best1 w s o = s := if_neg (by rintro (h | h) <;> omega)
      rw [e, e1]
      obtain ⟨i1, i2, i3, i4⟩ := bestL_inv w hw l s h0 h
      refine ⟨i1, i2, fun p hp => ?_, ?_⟩
      · rcases List.mem_cons.1 hp with rfl | hp
        · omega
        · exact i3 p hp
      · rcases i4 with i4 | i4
        · exact .inl i4
        · exact .inr (List.mem_cons_of_mem _ i4)
def shortW (w : List Int → Int) (r : List Int) : List Int × Int := bestL w (ords r.length [] r) ([], -1)
theorem ords_ne : ∀ (n : Nat) (b r : List Int), r.length = n → ords n b r ≠ [] := by
  intro n b r h h0
  have : b ++ r ∈ ords n b r := (mem_ords n b r _ h).2 ⟨r, List.Perm.refl _, rfl⟩
  rw [h0] at this
  cases this
theorem shortW_spec (w : List Int → Int) (hw : ∀ o, 0 ≤ w o) (r : List Int) :
    (shortW w r).2 = w (shortW w r).1 ∧ (shortW w r).1.Perm r ∧ ∀ o, o.Perm r → (shortW w r).2 ≤ w o := by
  have hm := fun x => mem_ords r.length [] r x rfl
  unfold shortW
  cases ho : ords r.length [] r with
  | nil => exact absurd ho (ords_ne _ _ _ rfl)
  | cons o l =>
    have e : bestL w (o :: l) ([], -1) = bestL w l (o, w o) := by
      show bestL w l (best1 w ([], -1) o) = _
      rw [show best1 w ([], -1) o = (o, w o) from if_pos (.inl (by decide))]
    rw [e]
    obtain ⟨i1, i2, i3, i4⟩ := bestL_inv w hw l (o, w o) (hw o) rfl
    have hmem : (bestL w l (o, w o)).1 ∈ ords r.length [] r := by
      rw [ho]
      rcases i4 with i4 | i4
      · rw [i4]; exact List.mem_cons_self ..
      · exact List.mem_cons_of_mem _ i4
    obtain ⟨p, hp, hpe⟩ := (hm _).1 hmem
    refine ⟨i1, by rw [hpe]; simpa using hp, fun q hq => ?_⟩
    have hq' : q ∈ ords r.length [] r := (hm _).2 ⟨q, hq, rfl⟩
    rw [ho] at hq'
    rcases List.mem_cons.1 hq' with rfl | hq'
    · exact i2
    · exact i3 q hq'
def iabs (x : Int) : Int := max x (-x)
def legL (a b : Int × Int) : Int := iabs (a.1 - b.1) + iabs (a.2 - b.2)
theorem legL_nn (a b : Int × Int) : 0 ≤ legL a b := by unfold legL iabs; omega
theorem legL_tri (a b c : Int × Int) : legL a c ≤ legL a b + legL b c := by unfold legL iabs; omega
def wayP (d : Int × Int) : Int × Int → List (Int × Int) → Int
  | a, [] => legL a d
  | a, p :: l => legL a p + wayP d p l
theorem wayP_nn (d : Int × Int) : ∀ (l : List (Int × Int)) (a : Int × Int), 0 ≤ wayP d a l
  | [], a => legL_nn ..
  | p :: l, a => by
    have := wayP_nn d l p
    have := legL_nn a p
    simp only [wayP]; omega
theorem wayP_le (d : Int × Int) (B : Int) (hB : ∀ a b : Int × Int, a.1 ≤ 1000 ∧ -1000 ≤ a.1 ∧ a.2 ≤ 1000 ∧ -1000 ≤ a.2 → b.1 ≤ 1000 ∧ -1000 ≤ b.1 ∧ b.2 ≤ 1000 ∧ -1000 ≤ b.2 → legL a b ≤ B) (hd : d.1 ≤ 1000 ∧ -1000 ≤ d.1 ∧ d.2 ≤ 1000 ∧ -1000 ≤ d.2) :
    ∀ (l : List (Int × Int)) (a : Int × Int), (∀ p ∈ l, p.1 ≤ 1000 ∧ -1000 ≤ p.1 ∧ p.2 ≤ 1000 ∧ -1000 ≤ p.2) → (a.1 ≤ 1000 ∧ -1000 ≤ a.1 ∧ a.2 ≤ 1000 ∧ -1000 ≤ a.2) → wayP d a l ≤ B * (l.length + 1)
  | [], a, _, ha => by simpa [wayP] using hB a d ha hd
  | p :: l, a, h, ha => by
    have h1 := hB a p ha (h p (List.mem_cons_self ..))
    have h2 := wayP_le d B hB hd l p (fun q hq => h q (List.mem_cons_of_mem _ hq)) (h p (List.mem_cons_self ..))
    simp only [wayP, List.length_cons, Int.natCast_add, Int.natCast_one]
    have : B * ((l.length : Int) + 1 + 1) = B * (l.length + 1) + B := by rw [Int.mul_add, Int.mul_one]
    omega
theorem legL_le (a b : Int × Int) (ha : a.1 ≤ 1000 ∧ -1000 ≤ a.1 ∧ a.2 ≤ 1000 ∧ -1000 ≤ a.2) (hb : b.1 ≤ 1000 ∧ -1000 ≤ b.1 ∧ b.2 ≤ 1000 ∧ -1000 ≤ b.2) : legL a b ≤ 4000 := by
  unfold legL iabs; omega
theorem wayP_app (d : Int × Int) : ∀ (l m : List (Int × Int)) (a : Int × Int), wayP d a (l ++ m) ≤ wayP d a l + wayP d d m
  | [], m, a => by
    cases m with
    | nil => have := legL_nn d d; simp only [List.append_nil, wayP]; omega
    | cons p m => have := legL_tri a d p; simp only [List.nil_append, wayP]; omega
  | p :: l, m, a => by
    have := wayP_app d l m p
    simp only [List.cons_append, wayP]; omega
end Go.Den.FaT
namespace Go.Den.FaT
open Go Go.Proofs Go.Den
theorem k63 (b : Bool) (e : Int) : (lim T).call 63 [.bool b, .int .i64 e] [] 0 [] = some (.int .i64 (cond b e 0), [], 0, []) := by
  rw [ent63]
  cases b
  · simp -implicitDefEqProofs only [go_sem, simprocAttr]
  · simp -implicitDefEqProofs only [go_sem, simprocAttr]
theorem k67 (n a b : Int) : (lim T).call 67 [.int .i64 n, .int .i64 a, .int .i64 b] [] 0 [] = some (.int .i64 (rng n a b), [], 0, []) := by
  rw [ent67]
  cases h : decide (n < a)
  · simp -implicitDefEqProofs only [go_sem, simprocAttr, h, k63, rng]
  · simp -implicitDefEqProofs only [go_sem, simprocAttr, h, k63, rng]
theorem loop54 (b : Bool) (l : List Int) (hb : l.length < 4611686018427387904) : ∀ i, i ≤ l.length → (lim T).loop false [.code (.loop b54_0), .inBlock 0, .code (.seq r54_7 .ret)] ⟨54, 15, 0, [(5, .sl b 1 (l.map fun n => .int .i64 n)), (6, .int .i64 l.length), (7, .int .i64 i)], [], 0, []⟩ = some (.ret (.int .i64 (fnz (l.drop i))), [], 0, []) := by
  refine down_ind l.length ?_ fun i hi ih => ?_
  · rw [loopEq]
    have h1 := idx_out l.length
    simp -implicitDefEqProofs only [go_sem, simprocAttr, h1]
    simp [fnz]
  · obtain ⟨h1, h2, h3, h4, h5⟩ := idx_in hi hb
    rw [loopEq, h5]
    cases h6 : (l[i] != 0)
    · have h7 : l[i] = 0 := by simpa using h6
      simp -implicitDefEqProofs only [go_sem, simprocAttr, h1, h2, h3, h4, h6, ih]
      simp [fnz, h7]
    · have h7 : l[i] ≠ 0 := by simpa using h6
      simp -implicitDefEqProofs only [go_sem, simprocAttr, h1, h2, h3, h4, h6]
      simp [fnz, h7]
theorem k54 (b : Bool) (l : List Int) (hb : l.length < 4611686018427387904) : (lim T).call 54 [.sl b 1 (l.map fun n => .int .i64 n)] [] 0 [] = some (.int .i64 (fnz l), [], 0, []) := by
  rw [ent54]
  have h := loop54 b l hb 0 (by omega)
  rw [show ((0 : Nat) : Int) = 0 from rfl, List.drop_zero] at h
  simp -implicitDefEqProofs only [go_sem, simprocAttr, h]
theorem k54_2 (b : Bool) (x y : Int) : (lim T).call 54 [.sl b 1 [.int .i64 x, .int .i64 y]] [] 0 [] = some (.int .i64 (fnz [x, y]), [], 0, []) := k54 b [x, y] (by simp)
theorem k54_3 (b : Bool) (x y z : Int) : (lim T).call 54 [.sl b 1 [.int .i64 x, .int .i64 y, .int .i64 z]] [] 0 [] = some (.int .i64 (fnz [x, y, z]), [], 0, []) := k54 b [x, y, z] (by simp)
theorem k54_5 (b : Bool) (x y z u v : Int) : (lim T).call 54 [.sl b 1 [.int .i64 x, .int .i64 y, .int .i64 z, .int .i64 u, .int .i64 v]] [] 0 [] = some (.int .i64 (fnz [x, y, z, u, v]), [], 0, []) := k54 b [x, y, z, u, v] (by simp)
theorem k102 (x y : Int) : (lim T).call 102 [.agg [.int .i64 x, .int .i64 y]] [] 0 [] = some (.int .i64 (ckP x y), [], 0, []) := by
  rw [ent102]
  simp -implicitDefEqProofs only [go_sem, simprocAttr, k67, k54_2, ckP]
theorem k58 (n : Int) : (lim T).call 58 [.int .i64 n] [] 0 [] = some (.int .i64 (rng n 0 1000), [], 0, []) := by
  rw [ent58]
  simp -implicitDefEqProofs only [go_sem, simprocAttr, k67]
def ckCrew (x y t p : Int) : Int := fnz [ckP x y, rng t 0 10000, rng p 0 1000]
theorem k55 (x y t p : Int) : (lim T).call 55 [.agg [.int .i64 x, .int .i64 y, .int .i64 t, .int .i64 p]] [] 0 [] = some (.int .i64 (ckCrew x y t p), [], 0, []) := by
  rw [ent55]
  simp -implicitDefEqProofs only [go_sem, simprocAttr, k67, k102, k58, k54_3, ckCrew]
def inB (a : Int × Int) : Prop := a.1 ≤ 1000 ∧ -1000 ≤ a.1 ∧ a.2 ≤ 1000 ∧ -1000 ≤ a.2
theorem wrapB {n : Int} (h : -1000000 ≤ n ∧ n ≤ 1000000) : IntKind.i64.wrap n = n := wrap64 (by omega) (by omega)
theorem k76 (a b : Int × Int) (ha : inB a) (hb : inB b) : (lim T).call 76 [.agg [.int .i64 a.1, .int .i64 a.2, .int .i64 b.1, .int .i64 b.2]] [] 0 [] = some (.int .i64 (legL a b), [], 0, []) := by
  obtain ⟨a1, a2⟩ := a
  obtain ⟨b1, b2⟩ := b
  unfold inB at ha hb
  dsimp only at ha hb
  have w1 : IntKind.i64.wrap (a1 - b1) = a1 - b1 := wrapB (by omega)
  have w2 : IntKind.i64.wrap (a2 - b2) = a2 - b2 := wrapB (by omega)
  have w3 : IntKind.i64.wrap (0 - (a1 - b1)) = -(a1 - b1) := by rw [wrapB (by omega)]; omega
  have w4 : IntKind.i64.wrap (0 - (a2 - b2)) = -(a2 - b2) := by rw [wrapB (by omega)]; omega
  have w5 : IntKind.i64.wrap (max (a1 - b1) (-(a1 - b1)) + max (a2 - b2) (-(a2 - b2))) = legL (a1, a2) (b1, b2) := by rw [wrapB (by omega)]; rfl
  rw [ent76]
  cases h : (a1 == 0 && a2 == 0 && (b1 == 0 && b2 == 0))
  · simp -implicitDefEqProofs only [go_sem, simprocAttr, h, w1, w2, w3, w4, w5]
  · have h0 : legL (a1, a2) (b1, b2) = 0 := by
      simp only [Bool.and_eq_true, beq_iff_eq] at h
      obtain ⟨⟨rfl, rfl⟩, rfl, rfl⟩ := h
      rfl
    simp -implicitDefEqProofs only [go_sem, simprocAttr, h, h0]

theorem c66 (n sx sy x y : Int) : (lim T).call 6 [.agg [.int .i64 n, .int .i64 sx, .int .i64 sy], .agg [.int .i64 x, .int .i64 y]] [] 0 [] =
    some (if fnz [ckF n sx sy, ckP x y] = 0 then .tup [.agg [.int .i64 (carr n sx sy x y).1, .int .i64 (carr n sx sy x y).2], .int .i64 0] else .tup [.agg [.int .i64 0, .int .i64 0], .int .i64 (fnz [ckF n sx sy, ckP x y])], [], 0, []) := by
  rw [ent6]
  cases h : (fnz [ckF n sx sy, ckP x y] != 0)
  · have h1 : fnz [ckF n sx sy, ckP x y] = 0 := by simpa using h
    have h2 : 0 ≤ n ∧ n ≤ 3 := by
      simp only [ckF, fnz, rng_eq] at h1
      by_cases h3 : n < 0 ∨ 3 < n
      · simp [h3] at h1
      · omega
    simp -implicitDefEqProofs only [go_sem, simprocAttr, c160, c161, c24_2, h, c162 n sx sy x y h2]
    simp [h1]
  · have h1 : fnz [ckF n sx sy, ckP x y] ≠ 0 := by simpa using h
    simp -implicitDefEqProofs only [go_sem, simprocAttr, c160, c161, c24_2, h]
    simp [h1]
theorem c67 (n sx sy x y : Int) : (lim T).call 7 [.agg [.int .i64 n, .int .i64 sx, .int .i64 sy], .agg [.int .i64 x, .int .i64 y]] [] 0 [] =
    some (if fnz [ckF n sx sy, ckP x y] = 0 then .tup [.agg [.int .i64 (trn ((4 - n) % 4) (IntKind.i64.wrap (x - sx)) (IntKind.i64.wrap (y - sy))).1, .int .i64 (trn ((4 - n) % 4) (IntKind.i64.wrap (x - sx)) (IntKind.i64.wrap (y - sy))).2], .int .i64 0] else .tup [.agg [.int .i64 0, .int .i64 0], .int .i64 (fnz [ckF n sx sy, ckP x y])], [], 0, []) := by
  rw [ent7]
  cases h : (fnz [ckF n sx sy, ckP x y] != 0)
  · have h1 : fnz [ckF n sx sy, ckP x y] = 0 := by simpa using h
    have h2 : 0 ≤ n ∧ n ≤ 3 := by
      simp only [ckF, fnz, rng_eq] at h1
      by_cases h3 : n < 0 ∨ 3 < n
      · simp [h3] at h1
      · omega
    rw [if_pos h1]
    have h3 : n = 0 ∨ n = 1 ∨ n = 2 ∨ n = 3 := by omega
    rcases h3 with rfl | rfl | rfl | rfl
    · simp -implicitDefEqProofs only [go_sem, simprocAttr, c160, c161, c24_2, h, wrap64, c163, c327]
      simp [trn]
    · simp -implicitDefEqProofs only [go_sem, simprocAttr, c160, c161, c24_2, h, wrap64, c163, c330]
      simp [trn]
    · simp -implicitDefEqProofs only [go_sem, simprocAttr, c160, c161, c24_2, h, wrap64, c163, c329]
      simp [trn]
    · simp -implicitDefEqProofs only [go_sem, simprocAttr, c160, c161, c24_2, h, wrap64, c163, c328]
      simp [trn]
  · have h1 : fnz [ckF n sx sy, ckP x y] ≠ 0 := by simpa using h
    simp -implicitDefEqProofs only [go_sem, simprocAttr, c160, c161, c24_2, h]
    simp [h1]

theorem loop141 (b : Bool) (l : List (Int × Int)) (hb : l.length < 1000000) : ∀ i, i ≤ l.length → ∀ o : Option (List Int), acL o = i →
    (lim T).loop false [.code (.loop b34_0), .inBlock 0, .code (.seq r34_7 .ret)] ⟨34, 22, 0, [(1, .fn 26 []), (5, acV o 0), (8, .sl b 2 (l.map fun p => .agg [.int .i64 p.1, .int .i64 p.2])), (9, .int .i64 l.length), (10, .int .i64 i)], acR (fun n => .int .i64 n) o 41, 0, []⟩ =
      some (.ret (acO (fun n => .int .i64 n) 0 1 (acA o ((l.drop i).map fun p => ckP p.1 p.2))), [], 0, []) := by
  refine down_ind l.length ?_ fun i hi ih o ho => ?_
  · intro o ho
    rw [loopEq]
    have h1 := idx_out l.length
    cases o with
    | none =>
      simp -implicitDefEqProofs only [go_sem, simprocAttr, h1]
      simp [acA, acO]
    | some a =>
      simp -implicitDefEqProofs only [go_sem, simprocAttr, h1]
      simp [acA, acO]
  · obtain ⟨h1, h2, h3, h4, h5⟩ := idx_in hi (by omega)
    rw [loopEq, h5]
    have ih' := ih (acA o [ckP l[i].1 l[i].2]) (by rw [acL_A, ho]; rfl)
    rw [acA_acA] at ih'
    cases o with
    | none =>
      have h8 := row_ok (n := 0) (by omega)
      simp only [acA_n, acV_s, acR_s, List.map_cons, List.map_nil] at ih'
      simp -implicitDefEqProofs only [go_sem, simprocAttr, h1, h2, h3, h4, ih', c161, h8.2]
    | some a =>
      have h9 : a.length = i := ho
      have h8 := (row_ok (n := a.length) (by omega)).1
      simp only [acA_s, acV_s, acR_s, List.map_append, List.map_cons, List.map_nil] at ih'
      simp -implicitDefEqProofs only [go_sem, simprocAttr, h1, h2, h3, h4, ih', c161, h8]
theorem c141 (b : Bool) (l : List (Int × Int)) (hb : l.length < 1000000) : (lim T).call 34 [.sl b 2 (l.map fun p => .agg [.int .i64 p.1, .int .i64 p.2]), .fn 26 []] [] 0 [] =
    some (slV 1 ((l.map fun p => ckP p.1 p.2).map fun n => .int .i64 n), [], 0, []) := by
  rw [ent34]
  have h := loop141 b l hb 0 (by omega) none rfl
  rw [show ((0 : Nat) : Int) = 0 from rfl, List.drop_zero, acO_slV] at h
  simp only [acV_n, acR_n] at h
  simp -implicitDefEqProofs only [go_sem, simprocAttr, h]
theorem c112 (n k : Int) : (lim T).call 33 [.int .i64 n, .int .i64 k] [] 0 [] = some (.int .i64 (fnz [cond (n == 0) 12 0, cond (decide (k < n)) 5 0]), [], 0, []) := by
  rw [ent33]
  simp -implicitDefEqProofs only [go_sem, simprocAttr, c115, c24_2]

def tr (n x y : Int) : Int × Int := if n = 0 then (x, y) else if n = 1 then (0 - y, x) else if n = 2 then (0 - x, 0 - y) else (y, 0 - x)
def cry (n sx sy x y : Int) : Int × Int := ((tr n x y).1 + sx, (tr n x y).2 + sy)
def bnd (b : Int) (p : Int × Int) : Prop := -b ≤ p.1 ∧ p.1 ≤ b ∧ -b ≤ p.2 ∧ p.2 ≤ b
theorem tr_bnd (n : Int) {b : Int} {p : Int × Int} (h : bnd b p) : bnd b (tr n p.1 p.2) := by
  unfold bnd at *
  unfold tr
  split
  · exact h
  · split
    · dsimp only; omega
    · split <;> (dsimp only; omega)
theorem trn_tr (n : Int) {p : Int × Int} (h : bnd 1000000 p) : trn n p.1 p.2 = tr n p.1 p.2 := by
  unfold bnd at h
  unfold trn tr
  rw [wrap64 (n := 0 - p.1) (by omega) (by omega), wrap64 (n := 0 - p.2) (by omega) (by omega)]
theorem c162' (n sx sy x y : Int) (h : 0 ≤ n ∧ n ≤ 3) (hs : bnd 1000000 (sx, sy)) (hp : bnd 1000000 (x, y)) : (lim T).call 27 [.agg [.int .i64 n, .int .i64 sx, .int .i64 sy], .agg [.int .i64 x, .int .i64 y]] [] 0 [] =
    some (.agg [.int .i64 (cry n sx sy x y).1, .int .i64 (cry n sx sy x y).2], [], 0, []) := by
  rw [c162 n sx sy x y h]
  unfold carr
  rw [trn_tr n hp]
  have := tr_bnd n hp
  unfold bnd at this hs
  dsimp only at this hs ⊢
  rw [wrap64 (by omega) (by omega), wrap64 (by omega) (by omega)]
  rfl
def agr (n sx sy : Int) : Nat → List (Int × Int) → List (Int × Int) → List Int
  | j, p :: ps, q :: qs => if cry n sx sy p.1 p.2 = q then (j : Int) :: agr n sx sy (j + 1) ps qs else agr n sx sy (j + 1) ps qs
  | _, _, _ => []
theorem agr_len (n sx sy : Int) : ∀ (j : Nat) (ps qs : List (Int × Int)), (agr n sx sy j ps qs).length ≤ ps.length := by
  intro j ps
  induction ps generalizing j with
  | nil => intro qs; simp [agr]
  | cons p ps ih =>
    intro qs
    cases qs with
    | nil => simp [agr]
    | cons q qs =>
      simp only [agr]
      split
      · have := ih (j + 1) qs; simp; omega
      · have := ih (j + 1) qs; simp; omega


def spV (s : Int × Int × Int) : V := .agg [.int .i64 s.1, .int .i64 s.2.1, .int .i64 s.2.2]
structure Ser where
  a : Int
  b : Int
  c : Int
  d : Int
  e : Int
  f : Int
  g : Int
  h : Int
  deriving DecidableEq
def serV (s : Ser) : V := .agg [.int .u8 s.a, .int .u8 s.b, .int .u8 s.c, .int .u8 s.d, .int .u8 s.e, .int .u8 s.f, .int .u8 s.g, .int .u8 s.h]
structure Md where
  s : Ser
  x : Int
  y : Int
  deriving DecidableEq
def mdV (m : Md) : V := .agg [.int .u8 m.s.a, .int .u8 m.s.b, .int .u8 m.s.c, .int .u8 m.s.d, .int .u8 m.s.e, .int .u8 m.s.f, .int .u8 m.s.g, .int .u8 m.s.h, .int .i64 m.x, .int .i64 m.y]
attribute [go_sem] spV serV mdV
def ckS (s : Int × Int × Int) : Int := fnz [rng s.1 0 15, rng s.2.1 0 15, rng s.2.2 1 256]
theorem c168 (s : Int × Int × Int) : (lim T).call 31 [.agg [.int .i64 s.1, .int .i64 s.2.1, .int .i64 s.2.2]] [] 0 [] = some (.int .i64 (ckS s), [], 0, []) := by
  rw [ent31]
  simp -implicitDefEqProofs only [go_sem, simprocAttr, c137, c24_3, ckS]
def intV (n : Int) : V := .int .i64 n
attribute [go_sem] intV
theorem loop167 (b : Bool) (l : List (Int × Int × Int)) (hb : l.length < 1000000) : ∀ i, i ≤ l.length → ∀ o : Option (List (Int)), acL o = i →
    (lim T).loop false [.code (.loop b30_0), .inBlock 0, .code (.seq r30_7 .ret)] ⟨30, 22, 0, [(1, .fn 31 []), (5, acV o 0), (8, .sl b 3 (l.map spV)), (9, .int .i64 l.length), (10, .int .i64 i)], acR intV o 41, 0, []⟩ =
      some (.ret (acO intV 0 1 (acA o ((l.drop i).map (fun s => ckS s)))), [], 0, []) := by
  refine down_ind l.length ?_ fun i hi ih o ho => ?_
  · intro o ho
    rw [loopEq]
    have h1 := idx_out l.length
    cases o with
    | none =>
      simp -implicitDefEqProofs only [go_sem, simprocAttr, h1]
      simp [acA, acO]
    | some a =>
      simp -implicitDefEqProofs only [go_sem, simprocAttr, h1]
      simp [acA, acO]
  · obtain ⟨h1, h2, h3, h4, h5⟩ := idx_in hi (by omega)
    rw [loopEq, h5]
    have ih' := ih (acA o [((fun s => ckS s) l[i])]) (by rw [acL_A, ho]; rfl)
    rw [acA_acA] at ih'
    dsimp only at ih'
    cases o with
    | none =>
      have h8 := row_ok (n := 0) (by omega)
      simp only [acA_n, acV_s, acR_s, List.map_cons, List.map_nil, intV] at ih'
      simp -implicitDefEqProofs only [go_sem, simprocAttr, h1, h2, h3, h4, ih', h8.2, c168]
    | some a =>
      have h9 : a.length = i := ho
      have h8 := (row_ok (n := a.length) (by omega)).1
      simp only [acA_s, acV_s, acR_s, List.map_append, List.map_cons, List.map_nil, intV] at ih'
      simp -implicitDefEqProofs only [go_sem, simprocAttr, h1, h2, h3, h4, ih', h8, c168]
theorem c167 (b : Bool) (l : List (Int × Int × Int)) (hb : l.length < 1000000) : (lim T).call 30 [.sl b 3 (l.map spV), .fn 31 []] [] 0 [] = some (slV 1 (((l).map (fun s => ckS s)).map intV), [], 0, []) := by
  rw [ent30]
  have h := loop167  b l hb  0 (by omega) none rfl
  rw [show ((0 : Nat) : Int) = 0 from rfl, List.drop_zero, acO_slV] at h
  simp only [acV_n, acR_n] at h
  simp -implicitDefEqProofs only [go_sem, simprocAttr, h]
def ckSp (l : List (Int × Int × Int)) : Int := if 64 < l.length then 5 else fnz (l.map fun x => ckS x)
structure Sd where
  nm : List UInt8
  p : Int × Int
  w : Int
  t : Int
def sdV (s : Sd) : V := .agg [.str s.nm, .int .i64 s.p.1, .int .i64 s.p.2, .int .i64 s.w, .int .i64 s.t]
attribute [go_sem] sdV
def ptAt (l : List Sd) (i : Int) : Int × Int := match l[i.toNat]? with | some s => s.p | none => (0, 0)
def okI (n : Nat) (o : List Int) : Prop := ∀ i ∈ o, 0 ≤ i ∧ i < n
theorem loop37 (c : Int × Int) (ct cp : Int) (hc : inB c) (b b' : Bool) (l : List Sd) (hl : ∀ s ∈ l, inB s.p) (hll : l.length < 1000) (o : List Int) (hol : o.length ≤ 100) (ho : okI l.length o) : ∀ i, i ≤ o.length → ∀ (a : Int × Int) (n : Int), inB a → 0 ≤ n → n ≤ 4000 * i →
    (lim T).loop false [.code (.loop b37_0), .inBlock 0, .code (.seq r37_8 .ret)] ⟨37, 42, 0, [(1, .sl b 5 (l.map sdV)), (3, .ptr 0 0 0), (7, .ptr 1 0 0), (8, .int .i64 n), (13, .sl b' 1 (o.map intV)), (14, .int .i64 o.length), (15, .int .i64 i)],
      [.cells true true 58 [.agg [.int .i64 c.1, .int .i64 c.2, .int .i64 ct, .int .i64 cp]], .cells true true 31 [.agg [.int .i64 a.1, .int .i64 a.2]]], 0, []⟩ =
    some (.ret (.int .i64 (n + wayP c a ((o.drop i).map (ptAt l)))), [], 0, []) := by
  refine down_ind o.length ?_ fun i hi ih => ?_
  · intro a n ha h0 hn
    rw [loopEq]
    have h1 := idx_out o.length
    have e1 := k76 a c ha hc
    have hb := legL_nn a c
    have hb2 := legL_le a c ha hc
    have w1 : IntKind.i64.wrap (n + legL a c) = n + legL a c := wrapB (by omega)
    simp -implicitDefEqProofs only [go_sem, simprocAttr, h1, e1, w1]
    simp [wayP]
  · intro a n ha h0 hn
    obtain ⟨h1, h2, h3, h4, h5⟩ := idx_in hi (by omega)
    have hi2 := ho o[i] (List.getElem_mem hi)
    obtain ⟨k, hk⟩ : ∃ k : Nat, o[i] = k := ⟨o[i].toNat, by omega⟩
    have hkl : k < l.length := by omega
    have q1 : decide (0 ≤ (k : Int) ∧ (k : Int) < (l.length : Int)) = true := by simp; omega
    have q2 : l[k]? = some l[k] := List.getElem?_eq_getElem hkl
    have hp : inB l[k].p := hl _ (List.getElem_mem hkl)
    have e1 := k76 a l[k].p ha hp
    have hb := legL_nn a l[k].p
    have hb2 := legL_le a l[k].p ha hp
    have w1 : IntKind.i64.wrap (n + legL a l[k].p) = n + legL a l[k].p := wrapB (by omega)
    have hih := ih l[k].p (n + legL a l[k].p) hp (by omega) (by omega)
    have hpt : ptAt l o[i] = l[k].p := by unfold ptAt; rw [hk]; simp [q2]
    rw [loopEq, h5, List.map_cons, hpt]
    simp only [wayP]
    rw [hk] at h3
    simp -implicitDefEqProofs only [go_sem, simprocAttr, h1, h2, h3, h4, q1, q2, e1, w1, hih]
    rw [Int.add_assoc]
def crV (c : Int × Int) (ct cp : Int) : V := .agg [.int .i64 c.1, .int .i64 c.2, .int .i64 ct, .int .i64 cp]
attribute [go_sem] crV
def wayO (c : Int × Int) (l : List Sd) (o : List Int) : Int := wayP c c (o.map (ptAt l))
theorem k37 (c : Int × Int) (ct cp : Int) (hc : inB c) (b b' : Bool) (l : List Sd) (hl : ∀ s ∈ l, inB s.p) (hll : l.length < 1000) (o : List Int) (hol : o.length ≤ 100) (ho : okI l.length o) :
    (lim T).call 37 [crV c ct cp, .sl b 5 (l.map sdV), .sl b' 1 (o.map intV)] [] 0 [] = some (.int .i64 (wayO c l o), [], 0, []) := by
  rw [ent37]
  have h := loop37 c ct cp hc b b' l hl hll o hol ho 0 (by omega) c 0 hc (by omega) (by omega)
  rw [show ((0 : Nat) : Int) = 0 from rfl, List.drop_zero, Int.zero_add] at h
  simp -implicitDefEqProofs only [go_sem, simprocAttr, h]
  rfl
def serB (s t : Ser) : Bool := s.a == t.a && (s.b == t.b && (s.c == t.c && (s.d == t.d && (s.e == t.e && (s.f == t.f && (s.g == t.g && s.h == t.h))))))
theorem serB_f (s t : Ser) : (s.a == t.a && (s.b == t.b && (s.c == t.c && (s.d == t.d && (s.e == t.e && (s.f == t.f && (s.g == t.g && s.h == t.h))))))) = serB s t := rfl
def atB (m n : Md) : Bool := m.x == n.x && m.y == n.y
theorem atB_f (m n : Md) : (m.x == n.x && m.y == n.y) = atB m n := rfl
theorem c169 (a m : Md) : (lim T).call 69 [mdV a, .pp 10 [mdV m] 0 0] [] 0 [] = some (.bool (serB a.s m.s), [], 0, []) := by
  rw [ent69]
  simp -implicitDefEqProofs only [go_sem, simprocAttr, serB_f]
theorem c170 (a m : Md) : (lim T).call 70 [mdV a, .pp 10 [mdV m] 0 0] [] 0 [] = some (.bool (atB a m), [], 0, []) := by
  rw [ent70]
  simp -implicitDefEqProofs only [go_sem, simprocAttr, atB_f]
def idxF {α : Type} (P : α → Bool) : List α → Nat → Int
  | [], _ => -1
  | x :: r, i => cond (P x) (i : Int) (idxF P r (i + 1))
theorem idxF_any {α : Type} (P : α → Bool) : ∀ (l : List α) (i : Nat), decide (0 ≤ idxF P l i) = l.any P := by
  intro l
  induction l with
  | nil => intro i; rfl
  | cons x r ih =>
    intro i
    simp only [idxF, List.any_cons]
    rw [← ih (i + 1)]
    by_cases h : P x = true <;> simp [h]
theorem loop220_169 (b : Bool) (m : Md) (l : List Md) (hb : l.length < 4611686018427387904) : ∀ i, i ≤ l.length → (lim T).loop false [.code (.loop b107_0), .inBlock 0, .code (.seq r107_7 .ret)] ⟨107, 19, 0, [(0, .sl b 10 (l.map mdV)), (1, .fn 69 [.pp 10 [mdV m] 0 0]), (7, .int .i64 l.length), (8, .int .i64 i)], [], 0, []⟩ = some (.ret (.int .i64 (idxF (fun a => serB a.s m.s) (l.drop i) i)), [], 0, []) := by
  have hc := fun a => c169 a m
  simp only [mdV] at hc ⊢
  refine down_ind l.length ?_ fun i hi ih => ?_
  · rw [loopEq]
    have h1 := idx_out l.length
    simp -implicitDefEqProofs only [go_sem, simprocAttr, h1]
    simp [idxF]
  · obtain ⟨h1, h2, h3, h4, h5⟩ := idx_in hi hb
    rw [loopEq, h5]
    cases h6 : serB l[i].s m.s
    · simp -implicitDefEqProofs only [go_sem, simprocAttr, h1, h2, h3, h4, h6, ih, hc]
      simp [idxF, h6]
    · simp -implicitDefEqProofs only [go_sem, simprocAttr, h1, h2, h3, h4, h6, hc]
      simp [idxF, h6]
theorem c71_169 (b : Bool) (m : Md) (l : List Md) (hb : l.length < 4611686018427387904) : (lim T).call 71 [.sl b 10 (l.map mdV), .fn 69 [.pp 10 [mdV m] 0 0]] [] 0 [] = some (.bool (l.any (fun a => serB a.s m.s)), [], 0, []) := by
  have h := loop220_169 b m l hb 0 (by omega)
  rw [show ((0 : Nat) : Int) = 0 from rfl, List.drop_zero] at h
  simp only [mdV] at h
  have h2 : (lim T).call 107 [.sl b 10 (l.map mdV), .fn 69 [.pp 10 [mdV m] 0 0]] [] 0 [] = some (.int .i64 (idxF (fun a => serB a.s m.s) l 0), [], 0, []) := by
    rw [ent107]
    simp -implicitDefEqProofs only [go_sem, simprocAttr, h]
  rw [ent71, ← idxF_any _ _ 0]
  simp only [mdV] at h2 ⊢
  simp -implicitDefEqProofs only [go_sem, simprocAttr, h2]
theorem loop220_170 (b : Bool) (m : Md) (l : List Md) (hb : l.length < 4611686018427387904) : ∀ i, i ≤ l.length → (lim T).loop false [.code (.loop b107_0), .inBlock 0, .code (.seq r107_7 .ret)] ⟨107, 19, 0, [(0, .sl b 10 (l.map mdV)), (1, .fn 70 [.pp 10 [mdV m] 0 0]), (7, .int .i64 l.length), (8, .int .i64 i)], [], 0, []⟩ = some (.ret (.int .i64 (idxF (fun a => atB a m) (l.drop i) i)), [], 0, []) := by
  have hc := fun a => c170 a m
  simp only [mdV] at hc ⊢
  refine down_ind l.length ?_ fun i hi ih => ?_
  · rw [loopEq]
    have h1 := idx_out l.length
    simp -implicitDefEqProofs only [go_sem, simprocAttr, h1]
    simp [idxF]
  · obtain ⟨h1, h2, h3, h4, h5⟩ := idx_in hi hb
    rw [loopEq, h5]
    cases h6 : atB l[i] m
    · simp -implicitDefEqProofs only [go_sem, simprocAttr, h1, h2, h3, h4, h6, ih, hc]
      simp [idxF, h6]
    · simp -implicitDefEqProofs only [go_sem, simprocAttr, h1, h2, h3, h4, h6, hc]
      simp [idxF, h6]
theorem c71_170 (b : Bool) (m : Md) (l : List Md) (hb : l.length < 4611686018427387904) : (lim T).call 71 [.sl b 10 (l.map mdV), .fn 70 [.pp 10 [mdV m] 0 0]] [] 0 [] = some (.bool (l.any (fun a => atB a m)), [], 0, []) := by
  have h := loop220_170 b m l hb 0 (by omega)
  rw [show ((0 : Nat) : Int) = 0 from rfl, List.drop_zero] at h
  simp only [mdV] at h
  have h2 : (lim T).call 107 [.sl b 10 (l.map mdV), .fn 70 [.pp 10 [mdV m] 0 0]] [] 0 [] = some (.int .i64 (idxF (fun a => atB a m) l 0), [], 0, []) := by
    rw [ent107]
    simp -implicitDefEqProofs only [go_sem, simprocAttr, h]
  rw [ent71, ← idxF_any _ _ 0]
  simp only [mdV] at h2 ⊢
  simp -implicitDefEqProofs only [go_sem, simprocAttr, h2]
def mdE (l : List Md) (i : Nat) (m : Md) : Int := fnz [ckP m.x m.y, cond ((l.take i).any fun a => serB a.s m.s) 9 0, cond ((l.take i).any fun a => atB a m) 15 0]
theorem mdE_f (l : List Md) (i : Nat) (m : Md) : fnz [ckP m.x m.y, cond ((l.take i).any fun a => serB a.s m.s) 9 0, cond ((l.take i).any fun a => atB a m) 15 0] = mdE l i m := rfl
def mdEs (l : List Md) : Nat → List Md → List Int
  | _, [] => []
  | i, m :: r => mdE l i m :: mdEs l (i + 1) r
def ckMd (l : List Md) : Int := if 64 < l.length then 5 else fnz (mdEs l 0 l)
theorem loop83 (b : Bool) (l : List Md) (hb : l.length < 1000000) : ∀ i, i ≤ l.length → (lim T).loop false [.code (.loop b32_0), .inBlock 0, .code (.seq r32_12 .ret)] ⟨32, 41, 0, [(0, .sl b 10 (l.map mdV)), (11, .sl b 10 (l.map mdV)), (12, .int .i64 l.length), (13, .int .i64 i)], [], 0, []⟩ = some (.ret (.int .i64 (fnz (mdEs l i (l.drop i)))), [], 0, []) := by
  refine down_ind l.length ?_ fun i hi ih => ?_
  · rw [loopEq]
    have h1 := idx_out l.length
    simp -implicitDefEqProofs only [go_sem, simprocAttr, h1]
    simp [fnz, mdEs]
  · obtain ⟨h1, h2, h3, h4, h5⟩ := idx_in hi (by omega)
    rw [loopEq, h5]
    have e1 := c71_169 b l[i] (l.take i) (by simp; omega)
    have e2 := c71_170 b l[i] (l.take i) (by simp; omega)
    simp only [List.map_take] at e1 e2
    simp only [mdV] at e1 e2
    have hle : i ≤ l.length := by omega
    cases h6 : (mdE l i l[i] != 0)
    · have h7 : mdE l i l[i] = 0 := by simpa using h6
      simp -implicitDefEqProofs only [go_sem, simprocAttr, h1, h2, h3, h4, h6, ih, e1, e2, c161, c115, c24_3, mdE_f]
      simp [fnz, mdEs, h7, need, hle]
    · have h7 : mdE l i l[i] ≠ 0 := by simpa using h6
      simp -implicitDefEqProofs only [go_sem, simprocAttr, h1, h2, h3, h4, h6, e1, e2, c161, c115, c24_3, mdE_f]
      simp [fnz, mdEs, h7, need, hle]
theorem c83 (b : Bool) (l : List Md) (hb : l.length < 1000000) : (lim T).call 32 [.sl b 10 (l.map mdV)] [] 0 [] = some (.int .i64 (ckMd l), [], 0, []) := by
  rw [ent32]
  have h := loop83 b l hb 0 (by omega)
  rw [show ((0 : Nat) : Int) = 0 from rfl, List.drop_zero] at h
  cases h1 : decide (64 < (l.length : Int))
  · have h2 : ¬ 64 < l.length := by simp at h1; omega
    simp -implicitDefEqProofs only [go_sem, simprocAttr, h, h1]
    simp [ckMd, h2]
  · have h2 : 64 < l.length := by simp at h1; omega
    simp -implicitDefEqProofs only [go_sem, simprocAttr, h1]
    simp [ckMd, h2]
def fnd (l : List Md) (p : Int × Int) : Option Md := l.find? fun m => m.x == p.1 && m.y == p.2
def outS (l : List Md) (n sx sy : Int) : List (Int × Int × Int) → List Ser
  | [] => []
  | s :: r => match fnd l (cry n sx sy s.1 s.2.1) with
    | some m => m.s :: outS l n sx sy r
    | none => outS l n sx sy r
def nonS (l : List Md) (n sx sy : Int) : Nat → List (Int × Int × Int) → List Int
  | _, [] => []
  | i, s :: r => match fnd l (cry n sx sy s.1 s.2.1) with
    | some m => nonS l n sx sy (i + 1) r
    | none => (i : Int) :: nonS l n sx sy (i + 1) r
def dist (l : List Md) : Prop := ∀ i j (hi : i < j) (hj : j < l.length), atB (l[i]'(by omega)) l[j] = false
def kvM (m : Md) : V × V := (.agg [.int .i64 m.x, .int .i64 m.y], .agg [.int .u8 m.s.a, .int .u8 m.s.b, .int .u8 m.s.c, .int .u8 m.s.d, .int .u8 m.s.e, .int .u8 m.s.f, .int .u8 m.s.g, .int .u8 m.s.h])
theorem eq100 (a b c d : Int) : eqT T 5 31 (.agg [.int .i64 a, .int .i64 b]) (.agg [.int .i64 c, .int .i64 d]) = some (a == c && b == d) := by
  simp -implicitDefEqProofs only [go_sem, simprocAttr]
theorem key100 (a b : Int) : keyOk T 3 31 (.agg [.int .i64 a, .int .i64 b]) = true := by kernel_rfl
theorem mapSet_new {eq : V → V → Option Bool} {x y : V} : ∀ {es : List (V × V)}, (∀ e ∈ es, eq x e.1 = some false) → mapSet eq es x y = some (es ++ [(x, y)])
  | [], _ => rfl
  | (a, b) :: r, h => by
    have h1 := h (a, b) (List.mem_cons_self ..)
    dsimp only at h1
    simp only [mapSet, h1, mapSet_new (es := r) (fun e he => h e (List.mem_cons_of_mem _ he)), List.cons_append]
theorem set_next {l : List Md} (hd : dist l) {i : Nat} (hi : i < l.length) : mapSet (eqT T 5 31) ((l.take i).map kvM) (.agg [.int .i64 l[i].x, .int .i64 l[i].y]) (.agg [.int .u8 l[i].s.a, .int .u8 l[i].s.b, .int .u8 l[i].s.c, .int .u8 l[i].s.d, .int .u8 l[i].s.e, .int .u8 l[i].s.f, .int .u8 l[i].s.g, .int .u8 l[i].s.h]) = some ((l.take (i + 1)).map kvM) := by
  rw [mapSet_new]
  · rw [List.take_succ_eq_append_getElem hi, List.map_append]; rfl
  · intro e he
    obtain ⟨m, hm, rfl⟩ := List.mem_map.1 he
    obtain ⟨j, hj, rfl⟩ := List.mem_iff_getElem.1 hm
    have hj' : j < i := by simp at hj; omega
    simp only [kvM, List.getElem_take]
    rw [eq100]
    have := hd j i hj' hi
    unfold atB at this
    rw [← this, Bool.beq_comm, Bool.beq_comm (a := l[i].y)]
theorem get_find (l : List Md) (a b : Int) : mapGet (eqT T 5 31) (l.map kvM) (.agg [.int .i64 a, .int .i64 b]) = some ((fnd l (a, b)).map fun m => (kvM m).2) := by
  unfold fnd
  induction l with
  | nil => rfl
  | cons m l ih =>
    simp only [List.map_cons, kvM, mapGet, eq100, List.find?_cons]
    have e : (a == m.x && b == m.y) = (m.x == a && m.y == b) := by rw [Bool.beq_comm, Bool.beq_comm (a := b)]
    rw [e]
    cases h : (m.x == a && m.y == b)
    · simpa [kvM] using ih
    · rfl
def L77a (l : List (Int × Int × Int)) (m : List Md) (b c : Bool) (n sx sy : Int) (i : Nat) : Option Out :=
  (lim T).loop false [.code (.loop b9_0), .inBlock 0, .code (.seq r9_10 (.seq r9_11 (.seq (.seq r9_12 (.block 2 (.loop b9_1))) (.seq r9_20 .ret))))]
    ⟨9, 77, 0, [(0, .sl b 3 (l.map spV)), (4, .ptr 0 0 0), (10, .map 1), (36, .sl c 10 (m.map mdV)), (37, .int .i64 m.length), (38, .int .i64 i)], [.cells true true 33 [.agg [.int .i64 n, .int .i64 sx, .int .i64 sy]], .map ((m.take i).map kvM)], 0, []⟩
theorem loop77a (l : List (Int × Int × Int)) (m : List Md) (b c : Bool) (n sx sy : Int) (hm : m.length < 1000000) (hd : dist m) : ∀ i, i ≤ m.length → L77a l m b c n sx sy i = L77a l m b c n sx sy m.length := by
  refine down_ind m.length rfl fun i hi ih => ?_
  obtain ⟨h1, h2, h3, h4, h5⟩ := idx_in hi (by omega)
  rw [← ih]
  conv => lhs; unfold L77a; rw [loopEq]
  have hs := set_next hd hi
  unfold L77a
  simp -implicitDefEqProofs only [go_sem, simprocAttr, h1, h2, h3, h4, hs, key100]
def hasI (l : List Int) (x : Int) : Bool := l.any fun y => x == y
theorem loop108 (b : Bool) (l : List Int) (x : Int) (hb : l.length < 1000000) : ∀ i, i ≤ l.length → ∃ n : Int, (hasI (l.drop i) x = true → 0 ≤ n) ∧ (hasI (l.drop i) x = false → n = -1) ∧
    (lim T).loop false [.code (.loop b108_0), .inBlock 0, .code (.seq r108_7 .ret)] ⟨108, 19, 0, [(0, .sl b 1 (l.map fun n => .int .i64 n)), (1, .int .i64 x), (7, .int .i64 l.length), (8, .int .i64 i)], [], 0, []⟩ = some (.ret (.int .i64 n), [], 0, []) := by
  refine down_ind l.length ?_ fun i hi ih => ?_
  · refine ⟨-1, by simp [hasI], fun _ => rfl, ?_⟩
    rw [loopEq]
    have h1 := idx_out l.length
    simp -implicitDefEqProofs only [go_sem, simprocAttr, h1]
  · obtain ⟨h1, h2, h3, h4, h5⟩ := idx_in hi (by omega)
    obtain ⟨n, n1, n2, n3⟩ := ih
    rw [h5]
    cases h : (x == l[i])
    · refine ⟨n, fun h' => n1 (by simpa only [hasI, List.any_cons, h, Bool.false_or] using h'), fun h' => n2 (by simpa only [hasI, List.any_cons, h, Bool.false_or] using h'), ?_⟩
      rw [loopEq]
      simp -implicitDefEqProofs only [go_sem, simprocAttr, h1, h2, h3, h4, h, n3]
    · refine ⟨i, (fun _ => by omega), (fun h' => by simp only [hasI, List.any_cons, h, Bool.true_or] at h'; cases h'), ?_⟩
      rw [loopEq]
      simp -implicitDefEqProofs only [go_sem, simprocAttr, h1, h2, h3, h4, h]
theorem k72 (b : Bool) (l : List Int) (x : Int) (hb : l.length < 1000000) : (lim T).call 72 [.sl b 1 (l.map fun n => .int .i64 n), .int .i64 x] [] 0 [] = some (.bool (hasI l x), [], 0, []) := by
  obtain ⟨n, n1, n2, n3⟩ := loop108 b l x hb 0 (by omega)
  rw [List.drop_zero] at n1 n2
  have e : (lim T).call 108 [.sl b 1 (l.map fun n => .int .i64 n), .int .i64 x] [] 0 [] = some (.int .i64 n, [], 0, []) := by
    rw [ent108]
    rw [show ((0 : Nat) : Int) = 0 from rfl] at n3
    simp -implicitDefEqProofs only [go_sem, simprocAttr, n3]
  rw [ent72]
  have h : decide (n ≥ 0) = hasI l x := by
    cases h : hasI l x
    · rw [n2 h]; rfl
    · exact decide_eq_true (n1 h)
  simp -implicitDefEqProofs only [go_sem, simprocAttr, e, h]
def kvS (s : Sd) : V × V := (.str s.nm, .bool true)
theorem eqS (a b : List UInt8) : eqT T 5 9 (.str a) (.str b) = some (a == b) := by
  simp -implicitDefEqProofs only [go_sem, simprocAttr]
theorem keyS (a : List UInt8) : keyOk T 3 9 (.str a) = true := by kernel_rfl
structure OkS (l : List Sd) : Prop where
  nm : ∀ s ∈ l, (lim T).call 103 [.str s.nm] [] 0 [] = some (.bool true, [], 0, [])
  dis : ∀ i j (hi : i < j) (hj : j < l.length), (l[j].nm == (l[i]'(by omega)).nm) = false
  p : ∀ s ∈ l, inB s.p
  w : ∀ s ∈ l, 0 ≤ s.w ∧ s.w ≤ 1000000
  t : ∀ s ∈ l, 0 ≤ s.t ∧ s.t ≤ 10000
  len : l.length ≤ 8
theorem noneS {l : List Sd} (h : OkS l) {i : Nat} (hi : i < l.length) : ∀ e ∈ (l.take i).map kvS, eqT T 5 9 (.str l[i].nm) e.1 = some false := by
  intro e he
  obtain ⟨m, hm, rfl⟩ := List.mem_map.1 he
  obtain ⟨j, hj, rfl⟩ := List.mem_iff_getElem.1 hm
  have hj' : j < i := by simp at hj; omega
  simp only [kvS, List.getElem_take]
  rw [eqS, h.dis j i hj' hi]
theorem mapGet_none {eq : V → V → Option Bool} {x : V} : ∀ {es : List (V × V)}, (∀ e ∈ es, eq x e.1 = some false) → mapGet eq es x = some none
  | [], _ => rfl
  | (a, b) :: r, h => by
    have h1 := h (a, b) (List.mem_cons_self ..)
    dsimp only at h1
    simp only [mapGet, h1, mapGet_none (es := r) (fun e he => h e (List.mem_cons_of_mem _ he))]
theorem ckP_0 {p : Int × Int} (h : inB p) : ckP p.1 p.2 = 0 := by
  unfold inB at h
  unfold ckP
  rw [rng_eq, rng_eq, if_neg (by omega), if_neg (by omega)]
  rfl
theorem rng_0 {n a b : Int} (h : a ≤ n ∧ n ≤ b) : rng n a b = 0 := by rw [rng_eq, if_neg (by omega)]
theorem loop56 (b : Bool) (l : List Sd) (h : OkS l) : ∀ i, i ≤ l.length →
    (lim T).loop false [.code (.loop b56_0), .inBlock 0, .code (.seq r56_12 .ret)] ⟨56, 45, 0, [(3, .map 0), (11, .sl b 5 (l.map sdV)), (12, .int .i64 l.length), (13, .int .i64 i)], [.map ((l.take i).map kvS)], 0, []⟩ = some (.ret (.int .i64 0), [], 0, []) := by
  have hlen := h.len
  refine down_ind l.length ?_ fun i hi ih => ?_
  · rw [loopEq]
    have h1 := idx_out l.length
    simp -implicitDefEqProofs only [go_sem, simprocAttr, h1]
  · obtain ⟨h1, h2, h3, h4, h5⟩ := idx_in hi (by omega)
    have hm := List.getElem_mem hi
    have e1 := h.nm _ hm
    have g := mapGet_none (noneS h hi)
    have s : mapSet (eqT T 5 9) ((l.take i).map kvS) (.str l[i].nm) (.bool true) = some ((l.take (i + 1)).map kvS) := by
      rw [mapSet_new (noneS h hi), List.take_succ_eq_append_getElem hi, List.map_append]; rfl
    have r1 := ckP_0 (h.p _ hm)
    have r2 := rng_0 (h.w _ hm)
    have r3 := rng_0 (h.t _ hm)
    have f0 : fnz [0, 0, 0, 0, 0] = 0 := rfl
    rw [loopEq]
    simp -implicitDefEqProofs only [go_sem, simprocAttr, h1, h2, h3, h4, e1, g, s, keyS, k63, k67, k102, k54_5, r1, r2, r3, f0, ih]
theorem k56 (b : Bool) (l : List Sd) (h : OkS l) : (lim T).call 56 [.sl b 5 (l.map sdV)] [] 0 [] = some (.int .i64 0, [], 0, []) := by
  have hlen := h.len
  rw [ent56]
  have e := loop56 b l h 0 (by omega)
  rw [show ((0 : Nat) : Int) = 0 from rfl, List.take_zero] at e
  have h1 : decide ((l.length : Int) > 8) = false := decide_eq_false (by omega)
  simp only [List.map_nil] at e
  simp -implicitDefEqProofs only [go_sem, simprocAttr, e, h1]
structure OkO (set : Bool) (n : Nat) (o : List Int) : Prop where
  ok : okI n o
  dis : set = false → ∀ i (hi : i < o.length), hasI (o.take i) o[i] = false
  asc : set = true → ∀ i (hi : 0 < i) (hi2 : i < o.length), o[i - 1] < o[i]
  len : o.length ≤ 8
theorem OkO.crew {c : Int × Int} {ct cp : Int} (hc : inB c) (ht : 0 ≤ ct ∧ ct ≤ 10000) (hp : 0 ≤ cp ∧ cp ≤ 1000) : ckCrew c.1 c.2 ct cp = 0 := by
  unfold ckCrew
  rw [ckP_0 hc, rng_0 ht, rng_0 hp]; rfl
theorem loop35 (c : Int × Int) (ct cp : Int) (b b' set : Bool) (l : List Sd) (hl : OkS l) (o : List Int) (ho : OkO set l.length o) : ∀ i, i ≤ o.length →
    (lim T).loop false [.code (.loop b35_0), .inBlock 0, .code (.seq r35_14 .ret)] ⟨35, 66, 0, [(1, .sl b 5 (l.map sdV)), (2, .sl b' 1 (o.map intV)), (3, .bool set), (23, .sl b' 1 (o.map intV)), (24, .int .i64 o.length), (25, .int .i64 i)], [], 0, []⟩ = some (.ret (.int .i64 0), [], 0, []) := by
  have hlen := hl.len
  have holen := ho.len
  refine down_ind o.length ?_ fun i hi ih => ?_
  · rw [loopEq]
    have h1 := idx_out o.length
    simp -implicitDefEqProofs only [go_sem, simprocAttr, h1]
  · obtain ⟨h1, h2, h3, h4, h5⟩ := idx_in hi (by omega)
    have hr := ho.ok _ (List.getElem_mem hi)
    have d1 : decide (o[i] < 0) = false := decide_eq_false (by omega)
    have d2 : decide (o[i] ≥ (l.length : Int)) = false := decide_eq_false (by omega)
    have e1 : (lim T).call 72 [.sl b' 1 ((o.map intV).take i), .int .i64 o[i]] [] 0 [] = some (.bool (hasI (o.take i) o[i]), [], 0, []) := by
      rw [← List.map_take]; exact k72 b' (o.take i) o[i] (by simp; omega)
    have t1 : decide (0 ≤ i ∧ i ≤ o.length) = true := decide_eq_true (by omega)
    have f0 : fnz [0, 0] = 0 := rfl
    have t2 : decide (0 ≤ (i : Int)) = true := decide_eq_true (by omega)
    rw [loopEq]
    cases set
    · have hd := ho.dis rfl i hi
      simp -implicitDefEqProofs only [go_sem, simprocAttr, h1, h2, h3, h4, d1, d2, e1, hd, k63, k54_2, t1, t2, f0, ih]
    · by_cases hi0 : i = 0
      · have d3 : decide (0 < (i : Int)) = false := decide_eq_false (by omega)
        simp -implicitDefEqProofs only [go_sem, simprocAttr, h1, h2, h3, h4, d1, d2, d3, e1, k63, k54_2, t1, t2, f0, ih]
      · have ha := ho.asc rfl i (by omega) hi
        have d3 : decide (0 < (i : Int)) = true := decide_eq_true (by omega)
        have w1 : IntKind.i64.wrap (max (i : Int) 1 - 1) = ((i - 1 : Nat) : Int) := by rw [wrapB (by omega)]; omega
        have d4 : decide (0 ≤ ((i - 1 : Nat) : Int) ∧ ((i - 1 : Nat) : Int) < (o.length : Int)) = true := decide_eq_true (by omega)
        have q : o[i - 1]? = some o[i - 1] := List.getElem?_eq_getElem (by omega)
        have d5 : decide (o[i] ≤ o[i - 1]) = false := decide_eq_false (by omega)
        simp -implicitDefEqProofs only [go_sem, simprocAttr, h1, h2, h3, h4, d1, d2, d3, d4, d5, w1, q, e1, k63, k54_2, t1, t2, f0, ih]
structure OkC (c : Int × Int) (ct cp : Int) : Prop where
  c : inB c
  t : 0 ≤ ct ∧ ct ≤ 10000
  p : 0 ≤ cp ∧ cp ≤ 1000
theorem OkC.ck {c : Int × Int} {ct cp : Int} (h : OkC c ct cp) : ckCrew c.1 c.2 ct cp = 0 := OkO.crew h.c h.t h.p
theorem k35 {c : Int × Int} {ct cp : Int} (hc : OkC c ct cp) (b b' set : Bool) (l : List Sd) (hl : OkS l) (o : List Int) (ho : OkO set l.length o) :
    (lim T).call 35 [crV c ct cp, .sl b 5 (l.map sdV), .sl b' 1 (o.map intV), .bool set] [] 0 [] = some (.int .i64 0, [], 0, []) := by
  have e := loop35 c ct cp b b' set l hl o ho 0 (by omega)
  rw [show ((0 : Nat) : Int) = 0 from rfl] at e
  have h0 : fnz [0, 0] = 0 := rfl
  have h1 := k55 c.1 c.2 ct cp
  rw [hc.ck] at h1
  rw [ent35]
  simp -implicitDefEqProofs only [go_sem, simprocAttr, k56 b l hl, h1, k54_2, h0, e]
theorem k12 {c : Int × Int} {ct cp : Int} (hc : OkC c ct cp) (b b' : Bool) (l : List Sd) (hl : OkS l) (o : List Int) (ho : OkO false l.length o) :
    (lim T).call 12 [crV c ct cp, .sl b 5 (l.map sdV), .sl b' 1 (o.map intV)] [] 0 [] = some (.tup [.int .i64 (wayO c l o), .int .i64 0], [], 0, []) := by
  have e1 := k35 hc b b' false l hl o ho
  have e2 := k37 c ct cp hc.c b b' l hl.p (by have := hl.len; omega) o (by have := ho.len; omega) ho.ok
  simp only [crV] at e1 e2
  rw [ent12]
  simp -implicitDefEqProofs only [go_sem, simprocAttr, e1, e2]
theorem k75r (l : List Int) (x : Int) (hl : l.length < 1000000) : (lim T).call 75 [.ref 0] [.cells false true 3 ((x :: l).map intV)] 0 [] = some (.ref 2, [.cells false true 3 ((x :: l).map intV), .dead, .cells false true 3 ((x :: l).map intV)], 0, []) := by
  rw [ent75]
  have h := (row_ok (n := l.length) (by omega)).1
  simp -implicitDefEqProofs only [go_sem, simprocAttr, h]
  done
theorem k75z (l : List Int) (x : Int) (hl : l.length < 1000000) : (lim T).call 75 [.ref 0] [.cells false true 3 ((x :: l).map intV)] 1 [] = some (.ref 2, [.cells false true 3 ((x :: l).map intV), .dead, .cells false true 3 ((x :: l).map intV)], 1, []) := by
  rw [ent75]
  have h := (row_ok (n := l.length) (by omega)).1
  simp -implicitDefEqProofs only [go_sem, simprocAttr, h]
theorem k75p (l : List Int) (x : Int) (hl : l.length < 1000000) : (lim T).call 75 [.sl true 1 ((x :: l).map intV)] [] 0 [] = some (.ref 1, [.dead, .cells false true 3 ((x :: l).map intV)], 0, []) := by
  rw [ent75]
  have h := (row_ok (n := l.length) (by omega)).1
  simp -implicitDefEqProofs only [go_sem, simprocAttr, h]
theorem k75n : (lim T).call 75 [.sl false 0 []] [] 0 [] = some (.sl false 0 [], [], 0, []) := by
  rw [ent75]
  simp -implicitDefEqProofs only [go_sem, simprocAttr]
theorem k75u (l : List Int) (x : Int) (r : List Int) (a : Nat) (hl : a + (l.length + 1) ≤ r.length) (hr : (r.drop a).take (l.length + 1) = x :: l) (hl2 : l.length < 1000000) : (lim T).call 75 [.sub 0 a (l.length + 1)] [.cells false true 3 (r.map intV)] 0 [] = some (.ref 2, [.cells false true 3 (r.map intV), .dead, .cells false true 3 ((x :: l).map intV)], 0, []) := by
  rw [ent75]
  have h := (row_ok (n := l.length) (by omega)).1
  have e : List.take (l.length + 1) (List.drop a (List.map intV r)) = .int .i64 x :: l.map intV := by
    rw [← List.map_drop, ← List.map_take, hr]; rfl
  simp -implicitDefEqProofs only [go_sem, simprocAttr, h, e]
theorem k109 (l : List Int) (k : Nat) (hk : k < l.length) (hl : l.length < 1000000) : (lim T).call 109 [.ref 0, .int .i64 k, .int .i64 ((k : Int) + 1)] [.cells false true 3 (l.map intV)] 0 [] = some (.sub 0 0 (l.length - 1), .cells false true 3 ((l.eraseIdx k ++ [0]).map intV) :: List.replicate 8 .free, 0, []) := by
  rw [ent109]
  have e1 : ((k : Int) + 1).toNat = k + 1 := by omega
  have e2 : ((k : Int) == (k : Int) + 1) = false := by simp; omega
  have e3 : (List.take (l.length - (k + 1)) (List.drop (k + 1) (List.map intV l))) = (l.drop (k + 1)).map intV := by
    rw [← List.map_drop, ← List.map_take, List.take_of_length_le (by simp)]
  have e4 : (l.drop (k + 1)).length = l.length - (k + 1) := by simp
  have e5 : idsL ((l.drop (k + 1)).map intV) = [] := idsL_map _ _ fun _ => rfl
  have e6 : k - 0 + (l.length - (k + 1)) = l.length - 1 := by omega
  simp -implicitDefEqProofs only [go_sem, simprocAttr, e1, e2, e3, e4, e5, e6, List.length_map, List.length_take, List.length_append, List.length_drop, List.isEmpty_nil]
  have hd : List.drop (l.length - 1) (List.map intV l) = (l.drop (l.length - 1)).map intV := by rw [List.map_drop]
  have ht : List.take (k - 0) (List.map intV l) = (l.take k).map intV := by rw [← List.map_take, Nat.sub_zero]
  have hr : List.take (l.length - 1) (List.map intV (l.take k) ++ (List.map intV (List.drop (k + 1) l) ++ List.map intV (l.drop (l.length - 1)))) = (l.eraseIdx k).map intV := by
    rw [← List.append_assoc, List.take_append_of_le_length (by simp; omega), ← List.map_append, ← List.eraseIdx_eq_take_drop_succ, List.take_of_length_le (by rw [List.length_map, List.length_eraseIdx, if_pos hk]; omega)]
  have hx : l.length - (l.length - 1) = 1 := by omega
  have hz : List.drop (l.length - 1 + 1) (List.map intV (l.take k) ++ (List.map intV (List.drop (k + 1) l) ++ List.map intV (l.drop (l.length - 1)))) = [] := List.drop_of_length_le (by simp; omega)
  rw [hd, ht, hx, hr, hz]
  have c1 : (decide (l.length - 1 ≤ l.length ∧ l.length ≤ l.length - 1) || decide (l.length - 1 ≤ l.length ∧ l.length ≤ min (k - 0) l.length + (l.length - (k + 1) + 1))) = true := by
    rw [Bool.or_eq_true]; exact .inr (decide_eq_true (by omega))
  rw [c1]
  repeat rw [needT (by omega)]
  simp only [need, List.map_append, List.replicate]
  rfl
def oC (id : Nat) : Option (List Int) → Row
  | none => .cells true true 39 [.sl false 0 []]
  | some _ => .cells true false 39 [.ref id]
def oR : Option (List Int) → Heap
  | none => []
  | some l => [.cells false true 3 (l.map intV)]
def shr (w n : Int) : Bool := decide (n < 0) || decide (w < n)
def cC (c : Int × Int) (ct cp : Int) : Row := .cells true true 58 [crV c ct cp]
def cL (b : Bool) (l : List Sd) : Row := .cells true true 37 [.sl b 5 (l.map sdV)]
def cN (n : Int) : Row := .cells true true 3 [.int .i64 n]
def cI (l : List Int) : Row := .cells false true 3 (l.map intV)
section
variable {c : Int × Int} {ct cp : Int} (hc : OkC c ct cp) (b : Bool) (l : List Sd) (hl : OkS l)
include hc hl
theorem k74y (x : Int) (r : List Int) (ho : okI l.length (x :: r)) (hol : (x :: r).length ≤ 8) (n : Int) (h : shr (wayO c l (x :: r)) n = true) :
    (lim T).call 74 [.ref 0, .ptr 1 0 0, .ptr 2 0 0, .ptr 3 0 0, .ptr 4 0 0] [cI (x :: r), cC c ct cp, cL b l, cN n, oC 5 none] 0 [] =
      some (.bool true, [cI (x :: r), cC c ct cp, cL b l, cN (wayO c l (x :: r)), oC 5 (some (x :: r)), cI (x :: r)], 1, []) := by
  have e1 := k37 c ct cp hc.c b true l hl.p (by have := hl.len; omega) (x :: r) (by omega) ho
  have e2 := k75z r x (by simp at hol; omega)
  simp only [crV, List.map_cons, intV] at e1 e2
  simp only [cI, cC, cL, cN, oC, crV, List.map_cons, intV]
  generalize wayO c l (x :: r) = w at *
  unfold shr at h
  rw [ent74]
  cases h1 : decide (n < 0)
  · rw [h1, Bool.false_or] at h
    simp -implicitDefEqProofs only [go_sem, simprocAttr, h1, h, e1, e2, callP_r, backId_eq, frzAllP_cons]
    done
  · simp -implicitDefEqProofs only [go_sem, simprocAttr, h1, e1, e2, callP_r, backId_eq, frzAllP_cons]
    done
include hc hl
theorem k74s (x : Int) (r : List Int) (ho : okI l.length (x :: r)) (hol : (x :: r).length ≤ 8) (n : Int) (o : List Int) (h : shr (wayO c l (x :: r)) n = true) :
    (lim T).call 74 [.ref 0, .ptr 1 0 0, .ptr 2 0 0, .ptr 3 0 0, .ptr 4 0 0] [cI (x :: r), cC c ct cp, cL b l, cN n, oC 5 (some o), cI o] 0 [] =
      some (.bool true, [cI (x :: r), cC c ct cp, cL b l, cN (wayO c l (x :: r)), oC 6 (some (x :: r)), cI o, cI (x :: r)], 1, []) := by
  have e1 := k37 c ct cp hc.c b true l hl.p (by have := hl.len; omega) (x :: r) (by omega) ho
  have e2 := k75z r x (by simp at hol; omega)
  simp only [crV, List.map_cons, intV] at e1 e2
  simp only [cI, cC, cL, cN, oC, crV, List.map_cons, intV]
  generalize wayO c l (x :: r) = w at *
  unfold shr at h
  rw [ent74]
  cases h1 : decide (n < 0)
  · rw [h1, Bool.false_or] at h
    simp -implicitDefEqProofs only [go_sem, simprocAttr, h1, h, e1, e2, callP_r, backId_eq, frzAllP_cons]
  · simp -implicitDefEqProofs only [go_sem, simprocAttr, h1, e1, e2, callP_r, backId_eq, frzAllP_cons]
include hc hl
theorem k74n (x : Int) (r : List Int) (ho : okI l.length (x :: r)) (hol : (x :: r).length ≤ 8) (n : Int) (o : List Int) (h : shr (wayO c l (x :: r)) n = false) :
    (lim T).call 74 [.ref 0, .ptr 1 0 0, .ptr 2 0 0, .ptr 3 0 0, .ptr 4 0 0] [cI (x :: r), cC c ct cp, cL b l, cN n, oC 5 (some o), cI o] 0 [] =
      some (.bool true, [cI (x :: r), cC c ct cp, cL b l, cN n, oC 5 (some o), cI o], 1, []) := by
  have e1 := k37 c ct cp hc.c b true l hl.p (by have := hl.len; omega) (x :: r) (by omega) ho
  simp only [crV, List.map_cons, intV] at e1
  simp only [cI, cC, cL, cN, oC, crV, List.map_cons, intV]
  generalize wayO c l (x :: r) = w at *
  unfold shr at h
  rw [Bool.or_eq_false_iff] at h
  rw [ent74]
  simp -implicitDefEqProofs only [go_sem, simprocAttr, h.1, h.2, e1, callP_r, backId_eq, frzAllP_cons]
include hc hl
theorem k37n : (lim T).call 37 [crV c ct cp, .sl b 5 (l.map sdV), .sl false 0 []] [] 0 [] = some (.int .i64 (wayO c l []), [], 0, []) := by
  have e := k76 c c hc.c hc.c
  have e0 : legL c c = wayO c l [] := rfl
  have w1 : IntKind.i64.wrap (wayO c l []) = wayO c l [] := by
    have h1 := legL_nn c c
    have h2 := legL_le c c hc.c hc.c
    rw [← e0]; exact wrapB (by omega)
  rw [e0] at e
  rw [ent37]
  simp -implicitDefEqProofs only [go_sem, simprocAttr, e]
  rw [loopEq]
  simp -implicitDefEqProofs only [go_sem, simprocAttr, e, Int.zero_add, w1]
include hc hl
theorem k74e (n : Int) (h : n < 0) :
    (lim T).call 74 [.sl false 0 [], .ptr 0 0 0, .ptr 1 0 0, .ptr 2 0 0, .ptr 3 0 0] [cC c ct cp, cL b l, cN n, oC 4 none] 0 [] =
      some (.bool true, [cC c ct cp, cL b l, cN (wayO c l []), .cells true true 39 [.sl false 1 []]], 0, []) := by
  have e1 := k37n hc b l hl
  have e2 := k75n
  have h1 : decide (n < 0) = true := decide_eq_true h
  simp only [crV] at e1
  simp only [cC, cL, cN, oC, crV]
  generalize wayO c l [] = w at *
  rw [ent74]
  simp -implicitDefEqProofs only [go_sem, simprocAttr, h1, e1, e2, callP_r, backId_eq, frzAllP_cons]
end
def fY (i : Nat) : V := .fn 74 [.ptr i 0 0, .ptr (i + 1) 0 0, .ptr (i + 2) 0 0, .ptr (i + 3) 0 0]
section
variable {c : Int × Int} {ct cp : Int} (hc : OkC c ct cp) (b : Bool) (l : List Sd) (hl : OkS l)
def hI (c : Int × Int) (ct cp : Int) (b : Bool) (l : List Sd) (bg rs : List Int) (n : Int) (o : Option (List Int)) : Heap := [cI bg, cI (rs ++ [0]), cC c ct cp, cL b l, cN n, oC 6 o] ++ oR o
def hJ (c : Int × Int) (ct cp : Int) (b : Bool) (l : List Sd) (bg rs : List Int) (n : Int) (o o' : List Int) : Heap := [cI bg, cI (rs ++ [0]), cC c ct cp, cL b l, cN n, oC 7 (some o'), cI o, cI o']
def OrdOk (c : Int × Int) (ct cp : Int) (b : Bool) (l : List Sd) (bg rs : List Int) : Prop :=
  (∀ n : Int, n < 0 → ∃ s fz, (fz = 0 ∨ fz = 1) ∧ s = bestL (wayO c l) (ords rs.length bg rs) ([], n) ∧
    (lim T).call 73 [.ref 0, .sub 1 0 rs.length, fY 2] (hI c ct cp b l bg rs n none) 0 [] = some (.bool true, hI c ct cp b l bg rs s.2 (some s.1), fz, [])) ∧
  (∀ (n : Int) (o : List Int), ∃ s fz, (fz = 0 ∨ fz = 1) ∧ s = bestL (wayO c l) (ords rs.length bg rs) (o, n) ∧
    ((s = (o, n) ∧ (lim T).call 73 [.ref 0, .sub 1 0 rs.length, fY 2] (hI c ct cp b l bg rs n (some o)) 0 [] = some (.bool true, hI c ct cp b l bg rs n (some o), fz, [])) ∨
      (lim T).call 73 [.ref 0, .sub 1 0 rs.length, fY 2] (hI c ct cp b l bg rs n (some o)) 0 [] = some (.bool true, hJ c ct cp b l bg rs s.2 o s.1, fz, [])))
theorem best1_shr (w : List Int → Int) (o : List Int) (s : List Int × Int) : best1 w s o = if shr (w o) s.2 = true then (o, w o) else s := by
  unfold best1 shr
  by_cases h : s.2 < 0 ∨ w o < s.2
  · rw [if_pos h, if_pos (by simpa using h)]
  · rw [if_neg h, if_neg (by simpa using h)]
include hc hl
theorem ord0 (x : Int) (r : List Int) (ho : okI l.length (x :: r)) (hol : (x :: r).length ≤ 8) : OrdOk c ct cp b l (x :: r) [] := by
  refine ⟨fun n hn => ⟨_, 1, .inr rfl, rfl, ?_⟩, fun n o => ⟨_, 1, .inr rfl, rfl, ?_⟩⟩
  · have hs : shr (wayO c l (x :: r)) n = true := by unfold shr; rw [decide_eq_true hn]; rfl
    have e := k74y hc b l hl x r ho hol n hs
    have hb : bestL (wayO c l) (ords ([] : List Int).length (x :: r) []) ([], n) = (x :: r, wayO c l (x :: r)) := by
      show best1 _ _ _ = _
      rw [best1_shr, if_pos hs]
    rw [hb, ent73]
    simp only [hI, oR, fY, cI, cC, cL, cN, oC, crV, List.map_cons, intV, List.map_nil, List.nil_append, List.cons_append, List.append_nil] at e ⊢
    simp -implicitDefEqProofs only [go_sem, simprocAttr, e, callP_r, backId_eq, frzAllP_cons]
    done
  · cases hs : shr (wayO c l (x :: r)) n
    · have e := k74n hc b l hl x r ho hol n o hs
      have hb : bestL (wayO c l) (ords ([] : List Int).length (x :: r) []) (o, n) = (o, n) := by
        show best1 _ _ _ = _
        rw [best1_shr, if_neg (by rw [hs]; exact Bool.false_ne_true)]
      refine .inl ⟨hb, ?_⟩
      rw [ent73]
      simp only [hI, oR, fY, cI, cC, cL, cN, oC, crV, List.map_cons, intV, List.map_nil, List.nil_append, List.cons_append, List.append_nil] at e ⊢
      simp -implicitDefEqProofs only [go_sem, simprocAttr, e, callP_r, backId_eq, frzAllP_cons]
      done
    · have e := k74s hc b l hl x r ho hol n o hs
      have hb : bestL (wayO c l) (ords ([] : List Int).length (x :: r) []) (o, n) = (x :: r, wayO c l (x :: r)) := by
        show best1 _ _ _ = _
        rw [best1_shr, if_pos hs]
      refine .inr ?_
      rw [hb, ent73]
      simp only [hI, hJ, oR, fY, cI, cC, cL, cN, oC, crV, List.map_cons, intV, List.map_nil, List.nil_append, List.cons_append, List.append_nil] at e ⊢
      simp -implicitDefEqProofs only [go_sem, simprocAttr, e, callP_r, backId_eq, frzAllP_cons]
      done
end
def Lp (fp : Nat) (H : Heap) (m k : Nat) : Option Out := (lim T).loop false [.code (.loop b73_0), .inBlock 0, .code (.seq r73_10 .ret)]
  ⟨73, 39, fp, [(0, .ref 0), (1, .sub 1 0 (m + 1)), (2, fY 2), (16, .sub 1 0 (m + 1)), (17, .int .i64 ((m + 1 : Nat) : Int)), (18, .int .i64 k)], H, 0, []⟩
structure Stp73 (x : Int) (r : List Int) (y : Int) (ys : List Int) (k : Nat) (v : Int) (B R Q Lf : List V) : Prop where
  e1 : (lim T).call 75 [.sub 0 0 (ys.length + 1)] [.cells false true 3 R] 0 [] = some (.ref 2, [.cells false true 3 R, .dead, .cells false true 3 Q], 0, [])
  e2 : (lim T).call 109 [.ref 0, .int .i64 k, .int .i64 ((k + 1 : Nat) : Int)] [.cells false true 3 Q] 0 [] = some (.sub 0 0 ys.length, .cells false true 3 Lf :: List.replicate 8 .free, 0, [])
  e3 : (lim T).call 75 [.ref 0] [.cells false true 3 B] 0 [] = some (.ref 2, [.cells false true 3 B, .dead, .cells false true 3 B], 0, [])
  t1 : decide ((k : Int) < ((ys.length + 1 : Nat) : Int)) = true
  t2 : decide (0 ≤ (k : Int) ∧ (k : Int) < ((ys.length + 1 : Nat) : Int)) = true
  t3 : R[k]? = some (.int .i64 v)
  t4 : IntKind.i64.wrap ((k : Int) + 1) = ((k + 1 : Nat) : Int)
  hr : decide (B.length + 1 < maxRow) = true
theorem stp73 (x : Int) (r : List Int) (y : Int) (ys : List Int) (k : Nat) (hk : k < (y :: ys).length) (hol : (x :: r).length ≤ 8) (hyl : ys.length ≤ 8) :
    Stp73 x r y ys k (y :: ys)[k] ((x :: r).map intV) (((y :: ys) ++ [0]).map intV) ((y :: ys).map intV) (((y :: ys).eraseIdx k ++ [0]).map intV) := by
  have hk' : k < ys.length + 1 := by simpa using hk
  refine ⟨k75u ys y ((y :: ys) ++ [0]) 0 (by simp) (by simp) (by omega), ?_, k75r r x (by simp at hol; omega), decide_eq_true (by omega), decide_eq_true (by omega), ?_, by rw [wrap64] <;> omega, decide_eq_true ?_⟩
  · have e2 := k109 (y :: ys) k hk (by simp; omega)
    have e4 : (y :: ys).length - 1 = ys.length := by simp
    rw [e4] at e2
    rw [show ((k + 1 : Nat) : Int) = (k : Int) + 1 by omega]
    exact e2
  · rw [List.getElem?_map, List.getElem?_append_left hk, List.getElem?_eq_getElem hk]; rfl
  · have : maxRow = 16777216 := rfl
    simp at hol ⊢; omega
section
variable (c : Int × Int) (ct cp : Int) (b : Bool) (l : List Sd)
theorem step6n (x : Int) (r : List Int) (y : Int) (ys : List Int) (k : Nat) (hk : k < (y :: ys).length) (hol : (x :: r).length ≤ 8) (hyl : ys.length ≤ 8) (n n' : Int) (o' : List Int) (fz : Nat) (hfz : fz = 0 ∨ fz = 1)
    (h : (lim T).call 73 [.ref 0, .sub 1 0 ys.length, fY 2] (hI c ct cp b l ((x :: r) ++ [(y :: ys)[k]]) ((y :: ys).eraseIdx k) n none) 0 [] = some (.bool true, hI c ct cp b l ((x :: r) ++ [(y :: ys)[k]]) ((y :: ys).eraseIdx k) n' (some o'), fz, [])) :
    Lp 6 (hI c ct cp b l (x :: r) (y :: ys) n none) ys.length k = Lp 6 (hI c ct cp b l (x :: r) (y :: ys) n' (some o')) ys.length (k + 1) := by
  obtain ⟨e1, e2, e3, t1, t2, t3, t4, hr⟩ := stp73 x r y ys k hk hol hyl
  unfold Lp
  rw [loopEq]
  simp only [hI, hJ, oR, fY, cI, cC, cL, cN, oC, crV, List.append_nil, List.cons_append, List.nil_append] at h ⊢
  rw [← List.cons_append, List.map_append (l₁ := x :: r)] at h
  rw [← List.cons_append]
  generalize (x :: r).map intV = B at *
  generalize ((y :: ys) ++ [0]).map intV = R at *
  generalize (y :: ys).map intV = Q at *
  generalize ((y :: ys).eraseIdx k ++ [0]).map intV = Lf at *
  generalize (y :: ys)[k] = v at *
  simp only [List.map_cons, List.map_nil, intV] at h
  generalize ys.length = m at *
  rcases hfz with rfl | rfl
  · simp -implicitDefEqProofs only [go_sem, simprocAttr, t1, t2, t3, t4, e1, e2, e3, h, callP_r, backId_eq, frzAllP_cons, hr]
  · simp -implicitDefEqProofs only [go_sem, simprocAttr, t1, t2, t3, t4, e1, e2, e3, h, callP_r, backId_eq, frzAllP_cons, hr]
theorem step6s (x : Int) (r : List Int) (y : Int) (ys : List Int) (k : Nat) (hk : k < (y :: ys).length) (hol : (x :: r).length ≤ 8) (hyl : ys.length ≤ 8) (n : Int) (o : List Int) (fz : Nat) (hfz : fz = 0 ∨ fz = 1)
    (h : (lim T).call 73 [.ref 0, .sub 1 0 ys.length, fY 2] (hI c ct cp b l ((x :: r) ++ [(y :: ys)[k]]) ((y :: ys).eraseIdx k) n (some o)) 0 [] = some (.bool true, hI c ct cp b l ((x :: r) ++ [(y :: ys)[k]]) ((y :: ys).eraseIdx k) n (some o), fz, [])) :
    Lp 6 (hI c ct cp b l (x :: r) (y :: ys) n (some o)) ys.length k = Lp 6 (hI c ct cp b l (x :: r) (y :: ys) n (some o)) ys.length (k + 1) := by
  obtain ⟨e1, e2, e3, t1, t2, t3, t4, hr⟩ := stp73 x r y ys k hk hol hyl
  unfold Lp
  rw [loopEq]
  simp only [hI, hJ, oR, fY, cI, cC, cL, cN, oC, crV, List.append_nil, List.cons_append, List.nil_append] at h ⊢
  rw [← List.cons_append, List.map_append (l₁ := x :: r)] at h
  rw [← List.cons_append]
  generalize (x :: r).map intV = B at *
  generalize ((y :: ys) ++ [0]).map intV = R at *
  generalize (y :: ys).map intV = Q at *
  generalize ((y :: ys).eraseIdx k ++ [0]).map intV = Lf at *
  generalize (y :: ys)[k] = v at *
  simp only [List.map_cons, List.map_nil, intV] at h
  generalize ys.length = m at *
  rcases hfz with rfl | rfl
  · simp -implicitDefEqProofs only [go_sem, simprocAttr, t1, t2, t3, t4, e1, e2, e3, h, callP_r, backId_eq, frzAllP_cons, hr]
  · simp -implicitDefEqProofs only [go_sem, simprocAttr, t1, t2, t3, t4, e1, e2, e3, h, callP_r, backId_eq, frzAllP_cons, hr]
theorem step6c (x : Int) (r : List Int) (y : Int) (ys : List Int) (k : Nat) (hk : k < (y :: ys).length) (hol : (x :: r).length ≤ 8) (hyl : ys.length ≤ 8) (n n' : Int) (o o' : List Int) (fz : Nat) (hfz : fz = 0 ∨ fz = 1)
    (h : (lim T).call 73 [.ref 0, .sub 1 0 ys.length, fY 2] (hI c ct cp b l ((x :: r) ++ [(y :: ys)[k]]) ((y :: ys).eraseIdx k) n (some o)) 0 [] = some (.bool true, hJ c ct cp b l ((x :: r) ++ [(y :: ys)[k]]) ((y :: ys).eraseIdx k) n' o o', fz, [])) :
    Lp 6 (hI c ct cp b l (x :: r) (y :: ys) n (some o)) ys.length k = Lp 6 (hI c ct cp b l (x :: r) (y :: ys) n' (some o')) ys.length (k + 1) := by
  obtain ⟨e1, e2, e3, t1, t2, t3, t4, hr⟩ := stp73 x r y ys k hk hol hyl
  unfold Lp
  rw [loopEq]
  simp only [hI, hJ, oR, fY, cI, cC, cL, cN, oC, crV, List.append_nil, List.cons_append, List.nil_append] at h ⊢
  rw [← List.cons_append, List.map_append (l₁ := x :: r)] at h
  rw [← List.cons_append]
  generalize (x :: r).map intV = B at *
  generalize ((y :: ys) ++ [0]).map intV = R at *
  generalize (y :: ys).map intV = Q at *
  generalize ((y :: ys).eraseIdx k ++ [0]).map intV = Lf at *
  generalize (y :: ys)[k] = v at *
  simp only [List.map_cons, List.map_nil, intV] at h
  generalize ys.length = m at *
  rcases hfz with rfl | rfl
  · simp -implicitDefEqProofs only [go_sem, simprocAttr, t1, t2, t3, t4, e1, e2, e3, h, callP_r, backId_eq, frzAllP_cons, hr]
  · simp -implicitDefEqProofs only [go_sem, simprocAttr, t1, t2, t3, t4, e1, e2, e3, h, callP_r, backId_eq, frzAllP_cons, hr]
theorem step7s (x : Int) (r : List Int) (y : Int) (ys : List Int) (k : Nat) (hk : k < (y :: ys).length) (hol : (x :: r).length ≤ 8) (hyl : ys.length ≤ 8) (n : Int) (o : List Int) (fz : Nat) (hfz : fz = 0 ∨ fz = 1)
    (h : (lim T).call 73 [.ref 0, .sub 1 0 ys.length, fY 2] (hI c ct cp b l ((x :: r) ++ [(y :: ys)[k]]) ((y :: ys).eraseIdx k) n (some o)) 0 [] = some (.bool true, hI c ct cp b l ((x :: r) ++ [(y :: ys)[k]]) ((y :: ys).eraseIdx k) n (some o), fz, [])) :
    Lp 7 (hI c ct cp b l (x :: r) (y :: ys) n (some o)) ys.length k = Lp 7 (hI c ct cp b l (x :: r) (y :: ys) n (some o)) ys.length (k + 1) := by
  obtain ⟨e1, e2, e3, t1, t2, t3, t4, hr⟩ := stp73 x r y ys k hk hol hyl
  unfold Lp
  rw [loopEq]
  simp only [hI, hJ, oR, fY, cI, cC, cL, cN, oC, crV, List.append_nil, List.cons_append, List.nil_append] at h ⊢
  rw [← List.cons_append, List.map_append (l₁ := x :: r)] at h
  rw [← List.cons_append]
  generalize (x :: r).map intV = B at *
  generalize ((y :: ys) ++ [0]).map intV = R at *
  generalize (y :: ys).map intV = Q at *
  generalize ((y :: ys).eraseIdx k ++ [0]).map intV = Lf at *
  generalize (y :: ys)[k] = v at *
  simp only [List.map_cons, List.map_nil, intV] at h
  generalize ys.length = m at *
  rcases hfz with rfl | rfl
  · simp -implicitDefEqProofs only [go_sem, simprocAttr, t1, t2, t3, t4, e1, e2, e3, h, callP_r, backId_eq, frzAllP_cons, hr]
  · simp -implicitDefEqProofs only [go_sem, simprocAttr, t1, t2, t3, t4, e1, e2, e3, h, callP_r, backId_eq, frzAllP_cons, hr]
theorem step7c (x : Int) (r : List Int) (y : Int) (ys : List Int) (k : Nat) (hk : k < (y :: ys).length) (hol : (x :: r).length ≤ 8) (hyl : ys.length ≤ 8) (n n' : Int) (o o' : List Int) (fz : Nat) (hfz : fz = 0 ∨ fz = 1)
    (h : (lim T).call 73 [.ref 0, .sub 1 0 ys.length, fY 2] (hI c ct cp b l ((x :: r) ++ [(y :: ys)[k]]) ((y :: ys).eraseIdx k) n (some o)) 0 [] = some (.bool true, hJ c ct cp b l ((x :: r) ++ [(y :: ys)[k]]) ((y :: ys).eraseIdx k) n' o o', fz, [])) :
    Lp 7 (hI c ct cp b l (x :: r) (y :: ys) n (some o)) ys.length k = Lp 7 (hJ c ct cp b l (x :: r) (y :: ys) n' o o') ys.length (k + 1) := by
  obtain ⟨e1, e2, e3, t1, t2, t3, t4, hr⟩ := stp73 x r y ys k hk hol hyl
  unfold Lp
  rw [loopEq]
  simp only [hI, hJ, oR, fY, cI, cC, cL, cN, oC, crV, List.append_nil, List.cons_append, List.nil_append] at h ⊢
  rw [← List.cons_append, List.map_append (l₁ := x :: r)] at h
  rw [← List.cons_append]
  generalize (x :: r).map intV = B at *
  generalize ((y :: ys) ++ [0]).map intV = R at *
  generalize (y :: ys).map intV = Q at *
  generalize ((y :: ys).eraseIdx k ++ [0]).map intV = Lf at *
  generalize (y :: ys)[k] = v at *
  simp only [List.map_cons, List.map_nil, intV] at h
  generalize ys.length = m at *
  rcases hfz with rfl | rfl
  · simp -implicitDefEqProofs only [go_sem, simprocAttr, t1, t2, t3, t4, e1, e2, e3, h, callP_r, backId_eq, frzAllP_cons, hr]
  · simp -implicitDefEqProofs only [go_sem, simprocAttr, t1, t2, t3, t4, e1, e2, e3, h, callP_r, backId_eq, frzAllP_cons, hr]
theorem step7js (x : Int) (r : List Int) (y : Int) (ys : List Int) (k : Nat) (hk : k < (y :: ys).length) (hol : (x :: r).length ≤ 8) (hyl : ys.length ≤ 8) (n : Int) (o1 o : List Int) (fz : Nat) (hfz : fz = 0 ∨ fz = 1)
    (h : (lim T).call 73 [.ref 0, .sub 1 0 ys.length, fY 2] (hI c ct cp b l ((x :: r) ++ [(y :: ys)[k]]) ((y :: ys).eraseIdx k) n (some o)) 0 [] = some (.bool true, hI c ct cp b l ((x :: r) ++ [(y :: ys)[k]]) ((y :: ys).eraseIdx k) n (some o), fz, [])) :
    Lp 7 (hJ c ct cp b l (x :: r) (y :: ys) n o1 o) ys.length k = Lp 7 (hJ c ct cp b l (x :: r) (y :: ys) n o1 o) ys.length (k + 1) := by
  obtain ⟨e1, e2, e3, t1, t2, t3, t4, hr⟩ := stp73 x r y ys k hk hol hyl
  unfold Lp
  rw [loopEq]
  simp only [hI, hJ, oR, fY, cI, cC, cL, cN, oC, crV, List.append_nil, List.cons_append, List.nil_append] at h ⊢
  rw [← List.cons_append, List.map_append (l₁ := x :: r)] at h
  rw [← List.cons_append]
  generalize (x :: r).map intV = B at *
  generalize ((y :: ys) ++ [0]).map intV = R at *
  generalize (y :: ys).map intV = Q at *
  generalize ((y :: ys).eraseIdx k ++ [0]).map intV = Lf at *
  generalize (y :: ys)[k] = v at *
  simp only [List.map_cons, List.map_nil, intV] at h
  generalize ys.length = m at *
  rcases hfz with rfl | rfl
  · simp -implicitDefEqProofs only [go_sem, simprocAttr, t1, t2, t3, t4, e1, e2, e3, h, callP_r, backId_eq, frzAllP_cons, hr]
  · simp -implicitDefEqProofs only [go_sem, simprocAttr, t1, t2, t3, t4, e1, e2, e3, h, callP_r, backId_eq, frzAllP_cons, hr]
theorem step7jc (x : Int) (r : List Int) (y : Int) (ys : List Int) (k : Nat) (hk : k < (y :: ys).length) (hol : (x :: r).length ≤ 8) (hyl : ys.length ≤ 8) (n n' : Int) (o1 o o' : List Int) (fz : Nat) (hfz : fz = 0 ∨ fz = 1)
    (h : (lim T).call 73 [.ref 0, .sub 1 0 ys.length, fY 2] (hI c ct cp b l ((x :: r) ++ [(y :: ys)[k]]) ((y :: ys).eraseIdx k) n (some o)) 0 [] = some (.bool true, hJ c ct cp b l ((x :: r) ++ [(y :: ys)[k]]) ((y :: ys).eraseIdx k) n' o o', fz, [])) :
    Lp 7 (hJ c ct cp b l (x :: r) (y :: ys) n o1 o) ys.length k = Lp 7 (hJ c ct cp b l (x :: r) (y :: ys) n' o1 o') ys.length (k + 1) := by
  obtain ⟨e1, e2, e3, t1, t2, t3, t4, hr⟩ := stp73 x r y ys k hk hol hyl
  unfold Lp
  rw [loopEq]
  simp only [hI, hJ, oR, fY, cI, cC, cL, cN, oC, crV, List.append_nil, List.cons_append, List.nil_append] at h ⊢
  rw [← List.cons_append, List.map_append (l₁ := x :: r)] at h
  rw [← List.cons_append]
  generalize (x :: r).map intV = B at *
  generalize ((y :: ys) ++ [0]).map intV = R at *
  generalize (y :: ys).map intV = Q at *
  generalize ((y :: ys).eraseIdx k ++ [0]).map intV = Lf at *
  generalize (y :: ys)[k] = v at *
  simp only [List.map_cons, List.map_nil, intV] at h
  generalize ys.length = m at *
  rcases hfz with rfl | rfl
  · simp -implicitDefEqProofs only [go_sem, simprocAttr, t1, t2, t3, t4, e1, e2, e3, h, callP_r, backId_eq, frzAllP_cons, hr]
  · simp -implicitDefEqProofs only [go_sem, simprocAttr, t1, t2, t3, t4, e1, e2, e3, h, callP_r, backId_eq, frzAllP_cons, hr]
end
theorem Lp_end (fp : Nat) (H : Heap) (m : Nat) : Lp fp H m (m + 1) = some (.ret (.bool true), H, 0, []) := by
  unfold Lp
  rw [loopEq]
  have h1 := idx_out (m + 1)
  simp -implicitDefEqProofs only [go_sem, simprocAttr, h1]
section
variable (c : Int × Int) (ct cp : Int) (b : Bool) (l : List Sd)
def ordK (bg rs : List Int) (m k : Nat) : List (List Int) := ((List.range (m + 1)).drop k).flatMap fun k => ords m (bg ++ [rs.getD k 0]) (rs.eraseIdx k)
theorem ordK_end (bg rs : List Int) (m : Nat) : ordK bg rs m (m + 1) = [] := by
  unfold ordK
  rw [List.drop_of_length_le (by simp)]; rfl
theorem ordK_step (bg rs : List Int) (m k : Nat) (hk : k < m + 1) (hr : rs.length = m + 1) : ordK bg rs m k = ords m (bg ++ [rs[k]]) (rs.eraseIdx k) ++ ordK bg rs m (k + 1) := by
  unfold ordK
  rw [List.drop_eq_getElem_cons (by simpa using hk), List.flatMap_cons]
  congr 1
  rw [List.getElem_range]
  have : rs.getD k 0 = rs[k] := by simp [List.getD, hr, hk]
  rw [this]
variable (x : Int) (r : List Int) (y : Int) (ys : List Int) (hol : (x :: r).length ≤ 8) (hyl : ys.length ≤ 8)
  (IH : ∀ k (hk : k < (y :: ys).length), OrdOk c ct cp b l ((x :: r) ++ [(y :: ys)[k]]) ((y :: ys).eraseIdx k))
include hol hyl IH
theorem L6 : ∀ k, k ≤ ys.length + 1 → ∀ (n : Int) (o : List Int), Lp 6 (hI c ct cp b l (x :: r) (y :: ys) n (some o)) ys.length k =
    some (.ret (.bool true), hI c ct cp b l (x :: r) (y :: ys) (bestL (wayO c l) (ordK (x :: r) (y :: ys) ys.length k) (o, n)).2 (some (bestL (wayO c l) (ordK (x :: r) (y :: ys) ys.length k) (o, n)).1), 0, []) := by
  refine down_ind (ys.length + 1) ?_ fun k hk ih => ?_
  · intro n o
    rw [ordK_end, Lp_end]; rfl
  · intro n o
    have hk' : k < (y :: ys).length := by simpa using hk
    have hlen : ((y :: ys).eraseIdx k).length = ys.length := by rw [List.length_eraseIdx, if_pos hk']; simp
    obtain ⟨s, fz, hfz, hs, h⟩ := (IH k hk').2 n o
    rw [hlen] at hs h
    rw [ordK_step _ _ _ _ hk (by simp), bestL_append, ← hs]
    rcases h with ⟨h1, h2⟩ | h2
    · rw [step6s c ct cp b l x r y ys k hk' hol hyl n o fz hfz h2, ih, h1]
    · rw [step6c c ct cp b l x r y ys k hk' hol hyl n s.2 o s.1 fz hfz h2, ih]
theorem L7j : ∀ k, k ≤ ys.length + 1 → ∀ (n : Int) (o1 o : List Int), Lp 7 (hJ c ct cp b l (x :: r) (y :: ys) n o1 o) ys.length k =
    some (.ret (.bool true), hJ c ct cp b l (x :: r) (y :: ys) (bestL (wayO c l) (ordK (x :: r) (y :: ys) ys.length k) (o, n)).2 o1 (bestL (wayO c l) (ordK (x :: r) (y :: ys) ys.length k) (o, n)).1, 0, []) := by
  refine down_ind (ys.length + 1) ?_ fun k hk ih => ?_
  · intro n o1 o
    rw [ordK_end, Lp_end]; rfl
  · intro n o1 o
    have hk' : k < (y :: ys).length := by simpa using hk
    have hlen : ((y :: ys).eraseIdx k).length = ys.length := by rw [List.length_eraseIdx, if_pos hk']; simp
    obtain ⟨s, fz, hfz, hs, h⟩ := (IH k hk').2 n o
    rw [hlen] at hs h
    rw [ordK_step _ _ _ _ hk (by simp), bestL_append, ← hs]
    rcases h with ⟨h1, h2⟩ | h2
    · rw [step7js c ct cp b l x r y ys k hk' hol hyl n o1 o fz hfz h2, ih, h1]
    · rw [step7jc c ct cp b l x r y ys k hk' hol hyl n s.2 o1 o s.1 fz hfz h2, ih]
theorem L7 : ∀ k, k ≤ ys.length + 1 → ∀ (n : Int) (o : List Int),
    (bestL (wayO c l) (ordK (x :: r) (y :: ys) ys.length k) (o, n) = (o, n) ∧ Lp 7 (hI c ct cp b l (x :: r) (y :: ys) n (some o)) ys.length k = some (.ret (.bool true), hI c ct cp b l (x :: r) (y :: ys) n (some o), 0, [])) ∨
    Lp 7 (hI c ct cp b l (x :: r) (y :: ys) n (some o)) ys.length k =
      some (.ret (.bool true), hJ c ct cp b l (x :: r) (y :: ys) (bestL (wayO c l) (ordK (x :: r) (y :: ys) ys.length k) (o, n)).2 o (bestL (wayO c l) (ordK (x :: r) (y :: ys) ys.length k) (o, n)).1, 0, []) := by
  refine down_ind (ys.length + 1) ?_ fun k hk ih => ?_
  · intro n o
    rw [ordK_end, Lp_end]; exact .inl ⟨rfl, rfl⟩
  · intro n o
    have hk' : k < (y :: ys).length := by simpa using hk
    have hlen : ((y :: ys).eraseIdx k).length = ys.length := by rw [List.length_eraseIdx, if_pos hk']; simp
    obtain ⟨s, fz, hfz, hs, h⟩ := (IH k hk').2 n o
    rw [hlen] at hs h
    rw [ordK_step _ _ _ _ hk (by simp), bestL_append, ← hs]
    rcases h with ⟨h1, h2⟩ | h2
    · rw [step7s c ct cp b l x r y ys k hk' hol hyl n o fz hfz h2, h1]
      exact ih n o
    · rw [step7c c ct cp b l x r y ys k hk' hol hyl n s.2 o s.1 fz hfz h2]
      exact .inr (L7j c ct cp b l x r y ys hol hyl IH (k + 1) (by omega) s.2 o s.1)
theorem ordS : OrdOk c ct cp b l (x :: r) (y :: ys) := by
  have hd : ords (y :: ys).length (x :: r) (y :: ys) = ordK (x :: r) (y :: ys) ys.length 0 := by
    rfl
  have hne : (((ys.length + 1 : Nat) : Int) == 0) = false := by simp; omega
  refine ⟨fun n hn => ⟨_, 0, .inl rfl, rfl, ?_⟩, fun n o => ⟨_, 0, .inl rfl, rfl, ?_⟩⟩
  · rw [hd]
    have hk' : 0 < (y :: ys).length := by simp
    have hlen : ((y :: ys).eraseIdx 0).length = ys.length := by simp
    obtain ⟨s, fz, hfz, hs, h⟩ := (IH 0 hk').1 n hn
    rw [hlen] at hs h
    have e := step6n c ct cp b l x r y ys 0 hk' hol hyl n s.2 s.1 fz hfz h
    rw [L6 c ct cp b l x r y ys hol hyl IH 1 (by omega) s.2 s.1] at e
    rw [ordK_step _ _ _ 0 (by omega) (by simp), bestL_append, ← hs]
    rw [ent73]
    unfold Lp at e
    simp only [hI, oR, fY, cI, cC, cL, cN, oC, crV, List.append_nil, List.cons_append, List.nil_append, List.length_cons, List.map_cons, intV, show ((0 : Nat) : Int) = 0 from rfl] at e ⊢
    simp -implicitDefEqProofs only [go_sem, simprocAttr, hne, e]
    done
  · rw [hd]
    rcases L7 c ct cp b l x r y ys hol hyl IH 0 (by omega) n o with ⟨h1, e⟩ | e
    · refine .inl ⟨h1, ?_⟩
      rw [ent73]
      unfold Lp at e
      simp only [hI, oR, fY, cI, cC, cL, cN, oC, crV, List.append_nil, List.cons_append, List.nil_append, List.length_cons, List.map_cons, intV, show ((0 : Nat) : Int) = 0 from rfl] at e ⊢
      simp -implicitDefEqProofs only [go_sem, simprocAttr, hne, e]
    · refine .inr ?_
      rw [ent73]
      unfold Lp at e
      simp only [hI, hJ, oR, fY, cI, cC, cL, cN, oC, crV, List.append_nil, List.cons_append, List.nil_append, List.length_cons, List.map_cons, intV, show ((0 : Nat) : Int) = 0 from rfl] at e ⊢
      simp -implicitDefEqProofs only [go_sem, simprocAttr, hne, e]
end
theorem orders_in {c : Int × Int} {ct cp : Int} (hc : OkC c ct cp) (b : Bool) (l : List Sd) (hl : OkS l) : ∀ (m : Nat) (x : Int) (r rs : List Int), rs.length = m → (x :: r).length + rs.length ≤ 8 → okI l.length (x :: r) → okI l.length rs → OrdOk c ct cp b l (x :: r) rs
  | 0, x, r, rs, h, hol, ho, _ => by
    have : rs = [] := List.length_eq_zero_iff.1 h
    subst this
    exact ord0 hc b l hl x r ho (by simpa using hol)
  | m + 1, x, r, rs, h, hol, ho, hr => by
    match rs, h with
    | y :: ys, h =>
      refine ordS c ct cp b l x r y ys (by simp at hol ⊢; omega) (by simp at hol; omega) fun k hk => ?_
      have hlen : ((y :: ys).eraseIdx k).length = m := by rw [List.length_eraseIdx, if_pos hk]; simp at h ⊢; exact h
      exact orders_in hc b l hl m x (r ++ [(y :: ys)[k]]) ((y :: ys).eraseIdx k) hlen (by rw [hlen]; simp at hol h ⊢; omega)
        (fun i hi => by
          rw [← List.cons_append] at hi
          rcases List.mem_append.1 hi with hi | hi
          · exact ho i hi
          · rw [List.mem_singleton.1 hi]; exact hr _ (List.getElem_mem hk))
        (fun i hi => hr i (List.mem_of_mem_eraseIdx hi))
def hT (c : Int × Int) (ct cp : Int) (b : Bool) (l : List Sd) (n : Int) (o : Option (List Int)) : Heap := [cC c ct cp, cL b l, cN n, oC 4 o] ++ oR o
def Lt (H : Heap) (rs : List Int) (k : Nat) : Option Out := (lim T).loop false [.code (.loop b73_0), .inBlock 0, .code (.seq r73_10 .ret)]
  ⟨73, 39, 4, [(0, .sl false 0 []), (1, .sl true 1 (rs.map intV)), (2, fY 0), (16, .sl true 1 (rs.map intV)), (17, .int .i64 rs.length), (18, .int .i64 k)], H, 0, []⟩
theorem Lt_end (H : Heap) (rs : List Int) : Lt H rs rs.length = some (.ret (.bool true), H, 0, []) := by
  unfold Lt
  rw [loopEq]
  have h1 := idx_out rs.length
  simp -implicitDefEqProofs only [go_sem, simprocAttr, h1]
section
variable (c : Int × Int) (ct cp : Int) (b : Bool) (l : List Sd)
theorem stepTn (y : Int) (ys : List Int) (k : Nat) (hk : k < (y :: ys).length) (hyl : ys.length ≤ 8) (n n' : Int) (o' : List Int) (fz : Nat) (hfz : fz = 0 ∨ fz = 1)
    (h : (lim T).call 73 [.ref 0, .sub 1 0 ((y :: ys).length - 1), fY 2] (hI c ct cp b l [(y :: ys)[k]] ((y :: ys).eraseIdx k) n none) 0 [] = some (.bool true, hI c ct cp b l [(y :: ys)[k]] ((y :: ys).eraseIdx k) n' (some o'), fz, [])) :
    Lt (hT c ct cp b l n none) (y :: ys) k = Lt (hT c ct cp b l n' (some o')) (y :: ys) (k + 1) := by
  obtain ⟨h1, h2, h3, h4, h5⟩ := idx_in hk (by simp; omega)
  have e1 := k75p ys y (by omega)
  have e2 := k109 (y :: ys) k hk (by simp; omega)
  have e3 := k75n
  have hr : decide (1 < maxRow) = true := rfl
  rw [show (k : Int) + 1 = ((k + 1 : Nat) : Int) by omega] at e2
  unfold Lt
  rw [loopEq]
  simp only [hT, hI, hJ, oR, fY, cI, cC, cL, cN, oC, crV, List.append_nil, List.cons_append, List.nil_append] at h ⊢
  have t3 : ((y :: ys).map intV)[k]? = some (.int .i64 (y :: ys)[k]) := by rw [List.getElem?_map, h3]; rfl
  have t5 : ((y :: ys).map intV).length = (y :: ys).length := List.length_map ..
  have t6 : idsL ((y :: ys).map intV) = [] := idsL_map _ _ fun _ => rfl
  generalize (y :: ys).map intV = Q at *
  generalize ((y :: ys).eraseIdx k ++ [0]).map intV = Lf at *
  generalize (y :: ys)[k] = v at *
  simp only [List.map_cons, List.map_nil, intV] at h
  generalize (y :: ys).length = m at *
  rcases hfz with rfl | rfl
  · simp -implicitDefEqProofs only [go_sem, simprocAttr, h1, h2, t3, t5, t6, h4, e1, e2, e3, h, callP_r, backId_eq, frzAllP_cons, hr]
  · simp -implicitDefEqProofs only [go_sem, simprocAttr, h1, h2, t3, t5, t6, h4, e1, e2, e3, h, callP_r, backId_eq, frzAllP_cons, hr]
theorem stepTs (y : Int) (ys : List Int) (k : Nat) (hk : k < (y :: ys).length) (hyl : ys.length ≤ 8) (n : Int) (o : List Int) (fz : Nat) (hfz : fz = 0 ∨ fz = 1)
    (h : (lim T).call 73 [.ref 0, .sub 1 0 ((y :: ys).length - 1), fY 2] (hI c ct cp b l [(y :: ys)[k]] ((y :: ys).eraseIdx k) n (some o)) 0 [] = some (.bool true, hI c ct cp b l [(y :: ys)[k]] ((y :: ys).eraseIdx k) n (some o), fz, [])) :
    Lt (hT c ct cp b l n (some o)) (y :: ys) k = Lt (hT c ct cp b l n (some o)) (y :: ys) (k + 1) := by
  obtain ⟨h1, h2, h3, h4, h5⟩ := idx_in hk (by simp; omega)
  have e1 := k75p ys y (by omega)
  have e2 := k109 (y :: ys) k hk (by simp; omega)
  have e3 := k75n
  have hr : decide (1 < maxRow) = true := rfl
  rw [show (k : Int) + 1 = ((k + 1 : Nat) : Int) by omega] at e2
  unfold Lt
  rw [loopEq]
  simp only [hT, hI, hJ, oR, fY, cI, cC, cL, cN, oC, crV, List.append_nil, List.cons_append, List.nil_append] at h ⊢
  have t3 : ((y :: ys).map intV)[k]? = some (.int .i64 (y :: ys)[k]) := by rw [List.getElem?_map, h3]; rfl
  have t5 : ((y :: ys).map intV).length = (y :: ys).length := List.length_map ..
  have t6 : idsL ((y :: ys).map intV) = [] := idsL_map _ _ fun _ => rfl
  generalize (y :: ys).map intV = Q at *
  generalize ((y :: ys).eraseIdx k ++ [0]).map intV = Lf at *
  generalize (y :: ys)[k] = v at *
  simp only [List.map_cons, List.map_nil, intV] at h
  generalize (y :: ys).length = m at *
  rcases hfz with rfl | rfl
  · simp -implicitDefEqProofs only [go_sem, simprocAttr, h1, h2, t3, t5, t6, h4, e1, e2, e3, h, callP_r, backId_eq, frzAllP_cons, hr]
  · simp -implicitDefEqProofs only [go_sem, simprocAttr, h1, h2, t3, t5, t6, h4, e1, e2, e3, h, callP_r, backId_eq, frzAllP_cons, hr]
theorem stepTc (y : Int) (ys : List Int) (k : Nat) (hk : k < (y :: ys).length) (hyl : ys.length ≤ 8) (n n' : Int) (o o' : List Int) (fz : Nat) (hfz : fz = 0 ∨ fz = 1)
    (h : (lim T).call 73 [.ref 0, .sub 1 0 ((y :: ys).length - 1), fY 2] (hI c ct cp b l [(y :: ys)[k]] ((y :: ys).eraseIdx k) n (some o)) 0 [] = some (.bool true, hJ c ct cp b l [(y :: ys)[k]] ((y :: ys).eraseIdx k) n' o o', fz, [])) :
    Lt (hT c ct cp b l n (some o)) (y :: ys) k = Lt (hT c ct cp b l n' (some o')) (y :: ys) (k + 1) := by
  obtain ⟨h1, h2, h3, h4, h5⟩ := idx_in hk (by simp; omega)
  have e1 := k75p ys y (by omega)
  have e2 := k109 (y :: ys) k hk (by simp; omega)
  have e3 := k75n
  have hr : decide (1 < maxRow) = true := rfl
  rw [show (k : Int) + 1 = ((k + 1 : Nat) : Int) by omega] at e2
  unfold Lt
  rw [loopEq]
  simp only [hT, hI, hJ, oR, fY, cI, cC, cL, cN, oC, crV, List.append_nil, List.cons_append, List.nil_append] at h ⊢
  have t3 : ((y :: ys).map intV)[k]? = some (.int .i64 (y :: ys)[k]) := by rw [List.getElem?_map, h3]; rfl
  have t5 : ((y :: ys).map intV).length = (y :: ys).length := List.length_map ..
  have t6 : idsL ((y :: ys).map intV) = [] := idsL_map _ _ fun _ => rfl
  generalize (y :: ys).map intV = Q at *
  generalize ((y :: ys).eraseIdx k ++ [0]).map intV = Lf at *
  generalize (y :: ys)[k] = v at *
  simp only [List.map_cons, List.map_nil, intV] at h
  generalize (y :: ys).length = m at *
  rcases hfz with rfl | rfl
  · simp -implicitDefEqProofs only [go_sem, simprocAttr, h1, h2, t3, t5, t6, h4, e1, e2, e3, h, callP_r, backId_eq, frzAllP_cons, hr]
  · simp -implicitDefEqProofs only [go_sem, simprocAttr, h1, h2, t3, t5, t6, h4, e1, e2, e3, h, callP_r, backId_eq, frzAllP_cons, hr]
variable (y : Int) (ys : List Int) (hyl : ys.length ≤ 7)
  (IH : ∀ k (hk : k < (y :: ys).length), OrdOk c ct cp b l [(y :: ys)[k]] ((y :: ys).eraseIdx k))
include hyl IH
theorem LT : ∀ k, k ≤ (y :: ys).length → ∀ (n : Int) (o : List Int), Lt (hT c ct cp b l n (some o)) (y :: ys) k =
    some (.ret (.bool true), hT c ct cp b l (bestL (wayO c l) (ordK [] (y :: ys) ys.length k) (o, n)).2 (some (bestL (wayO c l) (ordK [] (y :: ys) ys.length k) (o, n)).1), 0, []) := by
  refine down_ind (y :: ys).length ?_ fun k hk ih => ?_
  · intro n o
    rw [Lt_end]
    rw [show (y :: ys).length = ys.length + 1 from rfl, ordK_end]; rfl
  · intro n o
    have hlen : ((y :: ys).eraseIdx k).length = ys.length := by rw [List.length_eraseIdx, if_pos hk]; simp
    obtain ⟨s, fz, hfz, hs, h⟩ := (IH k hk).2 n o
    rw [hlen] at hs h
    rw [ordK_step _ _ _ _ (by simpa using hk) (by simp), bestL_append, List.nil_append, ← hs]
    rcases h with ⟨h1, h2⟩ | h2
    · rw [stepTs c ct cp b l y ys k hk (by omega) n o fz hfz h2, ih, h1]
    · rw [stepTc c ct cp b l y ys k hk (by omega) n s.2 o s.1 fz hfz h2, ih]
theorem k73 : (lim T).call 73 [.sl false 0 [], .sl true 1 ((y :: ys).map intV), fY 0] (hT c ct cp b l (-1) none) 0 [] =
    some (.bool true, hT c ct cp b l (shortW (wayO c l) (y :: ys)).2 (some (shortW (wayO c l) (y :: ys)).1), 0, []) := by
  have hd : ords (y :: ys).length [] (y :: ys) = ordK [] (y :: ys) ys.length 0 := rfl
  have hne : (((y :: ys).length : Int) == 0) = false := by simp; omega
  have hk' : 0 < (y :: ys).length := by simp
  have hlen : ((y :: ys).eraseIdx 0).length = ys.length := by simp
  obtain ⟨s, fz, hfz, hs, h⟩ := (IH 0 hk').1 (-1) (by decide)
  rw [hlen] at hs h
  have e := stepTn c ct cp b l y ys 0 hk' (by omega) (-1) s.2 s.1 fz hfz h
  rw [LT c ct cp b l y ys hyl IH 1 (by simp) s.2 s.1] at e
  unfold shortW
  rw [hd, ordK_step _ _ _ 0 (by omega) (by simp), bestL_append, List.nil_append, ← hs]
  rw [ent73]
  unfold Lt at e
  simp only [hT, oR, fY, cI, cC, cL, cN, oC, crV, List.append_nil, List.cons_append, List.nil_append, show ((0 : Nat) : Int) = 0 from rfl] at e ⊢
  have t5 : ((y :: ys).map intV).length = (y :: ys).length := List.length_map ..
  clear h hs hd hlen hk' IH
  generalize (y :: ys).map intV = Q at *
  generalize (y :: ys).length = m at *
  simp -implicitDefEqProofs only [go_sem, simprocAttr, hne, t5, e]
end
theorem k36 {c : Int × Int} {ct cp : Int} (hc : OkC c ct cp) (b : Bool) (l : List Sd) (hl : OkS l) (y : Int) (ys : List Int) (hyl : ys.length ≤ 7) (ho : okI l.length (y :: ys)) :
    (lim T).call 36 [crV c ct cp, .sl b 5 (l.map sdV), .sl true 1 ((y :: ys).map intV)] [] 0 [] = some (.tup [.sl true 1 ((shortW (wayO c l) (y :: ys)).1.map intV), .int .i64 (shortW (wayO c l) (y :: ys)).2], [], 0, []) := by
  have e := k73 c ct cp b l y ys hyl fun k hk => orders_in hc b l hl ys.length (y :: ys)[k] [] ((y :: ys).eraseIdx k) (by rw [List.length_eraseIdx, if_pos hk]; simp) (by rw [List.length_eraseIdx, if_pos hk]; simp; omega)
    (fun i hi => by rw [List.mem_singleton.1 hi]; exact ho _ (List.getElem_mem hk)) (fun i hi => ho i (List.mem_of_mem_eraseIdx hi))
  rw [ent36]
  simp only [hT, oR, fY, cI, cC, cL, cN, oC, crV, List.append_nil, List.cons_append, List.nil_append] at e ⊢
  generalize (y :: ys).map intV = Q at *
  simp -implicitDefEqProofs only [go_sem, simprocAttr, e, callP_r, backId_eq, frzAllP_cons]
theorem k36e {c : Int × Int} {ct cp : Int} (hc : OkC c ct cp) (b b' : Bool) (l : List Sd) (hl : OkS l) (z : Nat) :
    (lim T).call 36 [crV c ct cp, .sl b 5 (l.map sdV), .sl b' z []] [] 0 [] = some (.tup [.sl false 1 [], .int .i64 (wayO c l [])], [], 0, []) := by
  have e1 := k74e hc b l hl (-1) (by decide)
  have e : (lim T).call 73 [.sl false 0 [], .sl b' z [], fY 0] [cC c ct cp, cL b l, cN (-1), oC 4 none] 0 [] = some (.bool true, [cC c ct cp, cL b l, cN (wayO c l []), .cells true true 39 [.sl false 1 []]], 0, []) := by
    rw [ent73]
    simp only [fY, cC, cL, cN, oC, crV] at e1 ⊢
    simp -implicitDefEqProofs only [go_sem, simprocAttr, e1, callP_r, backId_eq, frzAllP_cons]
  rw [ent36]
  simp only [fY, cC, cL, cN, oC, crV] at e ⊢
  simp -implicitDefEqProofs only [go_sem, simprocAttr, e, callP_r, backId_eq, frzAllP_cons]
  done
theorem k11 {c : Int × Int} {ct cp : Int} (hc : OkC c ct cp) (b : Bool) (l : List Sd) (hl : OkS l) (y : Int) (ys : List Int) (ho : OkO true l.length (y :: ys)) :
    (lim T).call 11 [crV c ct cp, .sl b 5 (l.map sdV), .sl true 1 ((y :: ys).map intV)] [] 0 [] = some (.tup [.sl true 1 ((shortW (wayO c l) (y :: ys)).1.map intV), .int .i64 (shortW (wayO c l) (y :: ys)).2, .int .i64 0], [], 0, []) := by
  have e1 := k35 hc b true true l hl (y :: ys) ho
  have e2 := k36 hc b l hl y ys (by have := ho.len; simp at this; omega) ho.ok
  simp only [crV] at e1 e2
  generalize (y :: ys).map intV = Q at *
  rw [ent11]
  simp -implicitDefEqProofs only [go_sem, simprocAttr, e1, e2]
  done
theorem k11e {c : Int × Int} {ct cp : Int} (hc : OkC c ct cp) (b b' : Bool) (l : List Sd) (hl : OkS l) (z : Nat) :
    (lim T).call 11 [crV c ct cp, .sl b 5 (l.map sdV), .sl b' z []] [] 0 [] = some (.tup [.sl false 1 [], .int .i64 (wayO c l []), .int .i64 0], [], 0, []) := by
  have e1 : (lim T).call 35 [crV c ct cp, .sl b 5 (l.map sdV), .sl b' z [], .bool true] [] 0 [] = some (.int .i64 0, [], 0, []) := by
    have h0 : fnz [0, 0] = 0 := rfl
    have h1 := k55 c.1 c.2 ct cp
    rw [hc.ck] at h1
    rw [ent35]
    simp -implicitDefEqProofs only [go_sem, simprocAttr, k56 b l hl, h1, k54_2, h0]
    rw [loopEq]
    simp -implicitDefEqProofs only [go_sem, simprocAttr]
  have e2 := k36e hc b b' l hl z
  simp only [crV] at e1 e2
  rw [ent11]
  simp -implicitDefEqProofs only [go_sem, simprocAttr, e1, e2]
  done
def L77b (l : List (Int × Int × Int)) (m : List Md) (b : Bool) (n sx sy : Int) (O : Option (List Ser)) (N : Option (List Int)) (i : Nat) : Option Out :=
  (lim T).loop false [.code (.loop b9_1), .inBlock 2, .code (.seq r9_20 .ret)]
    ⟨9, 77, 0, [(4, .ptr 0 0 0), (10, .map 1), (13, acV O 2), (14, acV N (acI O 2)), (48, .sl b 3 (l.map spV)), (49, .int .i64 l.length), (50, .int .i64 i)],
      .cells true true 33 [.agg [.int .i64 n, .int .i64 sx, .int .i64 sy]] :: .map (m.map kvM) :: (acR serV O 45 ++ acR intV N 3), 0, []⟩
theorem loop77b (l : List (Int × Int × Int)) (m : List Md) (b : Bool) (n sx sy : Int) (hl : l.length < 1000) (hn : 0 ≤ n ∧ n ≤ 3) (hs : bnd 1000000 (sx, sy)) (hp : ∀ s ∈ l, bnd 1000000 (s.1, s.2.1)) : ∀ i, i ≤ l.length → ∀ O N, acL O ≤ i → acL N ≤ i →
    L77b l m b n sx sy O N i = some (.ret (.tup [acO serV 0 8 (acA O (outS m n sx sy (l.drop i))), acO intV 0 1 (acA N (nonS m n sx sy i (l.drop i))), .int .i64 0]), [], 0, []) := by
  refine down_ind l.length ?_ fun i hi ih O N hO hN => ?_
  · intro O N hO hN
    unfold L77b
    rw [loopEq]
    have h1 := idx_out l.length
    have h0 : l.drop l.length = [] := by simp
    rw [h0]
    simp only [outS, nonS, acA_0]
    cases O with
    | none => cases N with
      | none => simp -implicitDefEqProofs only [go_sem, simprocAttr, h1]
      | some c => simp -implicitDefEqProofs only [go_sem, simprocAttr, h1]
    | some a => cases N with
      | none => simp -implicitDefEqProofs only [go_sem, simprocAttr, h1]
      | some c => simp -implicitDefEqProofs only [go_sem, simprocAttr, h1]
  · obtain ⟨h1, h2, h3, h4, h5⟩ := idx_in hi (by omega)
    rw [h5]
    have hpi := hp _ (List.getElem_mem hi)
    have hc := c162' n sx sy l[i].1 l[i].2.1 hn hs hpi
    have hg := get_find m (cry n sx sy l[i].1 l[i].2.1).1 (cry n sx sy l[i].1 l[i].2.1).2
    simp only [outS, nonS]
    generalize cry n sx sy l[i].1 l[i].2.1 = C at hc hg ⊢
    have hC : fnd m (C.1, C.2) = fnd m C := rfl
    rw [hC] at hg
    unfold L77b
    rw [loopEq]
    cases hf : fnd m C with
    | none =>
      rw [hf] at hg
      simp only [Option.map_none] at hg
      have ih' := ih O (acA N [(i : Int)]) (by omega) (by rw [acL_A]; simp; omega)
      rw [acA_acA] at ih'
      unfold L77b at ih'
      cases O with
      | none => cases N with
        | none =>
          have h8 := (row_ok (n := 0) (by omega)).2
          simp only [acA_n, acV_n, acR_n, acI_n, acV_s, acR_s, acI_s, List.nil_append, List.cons_append, List.map_cons, List.map_nil, Nat.reduceAdd, intV] at ih'
          simp -implicitDefEqProofs only [go_sem, simprocAttr, h1, h2, h3, h4, hc, hg, key100, ih', h8]
        | some a =>
          have h9 : a.length ≤ i := hN
          have h8 := (row_ok (n := a.length) (by omega)).1
          simp only [acA_s, acV_n, acR_n, acI_n, acV_s, acR_s, acI_s, List.nil_append, List.cons_append, List.map_append, List.map_cons, List.map_nil, Nat.reduceAdd, intV] at ih'
          simp -implicitDefEqProofs only [go_sem, simprocAttr, h1, h2, h3, h4, hc, hg, key100, ih', h8]
      | some o => cases N with
        | none =>
          have h8 := (row_ok (n := 0) (by omega)).2
          simp only [acA_n, acV_n, acR_n, acI_n, acV_s, acR_s, acI_s, List.nil_append, List.cons_append, List.map_cons, List.map_nil, Nat.reduceAdd, intV] at ih'
          simp -implicitDefEqProofs only [go_sem, simprocAttr, h1, h2, h3, h4, hc, hg, key100, ih', h8]
        | some a =>
          have h9 : a.length ≤ i := hN
          have h8 := (row_ok (n := a.length) (by omega)).1
          simp only [acA_s, acV_n, acR_n, acI_n, acV_s, acR_s, acI_s, List.nil_append, List.cons_append, List.map_append, List.map_cons, List.map_nil, Nat.reduceAdd, intV] at ih'
          simp -implicitDefEqProofs only [go_sem, simprocAttr, h1, h2, h3, h4, hc, hg, key100, ih', h8]
    | some q =>
      rw [hf] at hg
      simp only [Option.map_some, kvM] at hg
      have ih' := ih (acA O [q.s]) N (by rw [acL_A]; simp; omega) (by omega)
      rw [acA_acA] at ih'
      unfold L77b at ih'
      cases O with
      | none =>
        have h8 := (row_ok (n := 0) (by omega)).2
        cases N with
        | none =>
          simp only [acA_n, acV_n, acR_n, acI_n, acV_s, acR_s, acI_s, List.nil_append, List.append_nil, List.cons_append, List.map_cons, List.map_nil, Nat.reduceAdd, serV] at ih'
          simp -implicitDefEqProofs only [go_sem, simprocAttr, h1, h2, h3, h4, hc, hg, key100, ih', h8]
        | some a =>
          simp only [acA_n, acV_n, acR_n, acI_n, acV_s, acR_s, acI_s, List.nil_append, List.append_nil, List.cons_append, List.map_cons, List.map_nil, Nat.reduceAdd, serV] at ih'
          simp -implicitDefEqProofs only [go_sem, simprocAttr, h1, h2, h3, h4, hc, hg, key100, ih', h8]
      | some o =>
        have h9 : o.length ≤ i := hO
        have h8 := (row_ok (n := o.length) (by omega)).1
        cases N with
        | none =>
          simp only [acA_s, acV_n, acR_n, acI_n, acV_s, acR_s, acI_s, List.nil_append, List.append_nil, List.cons_append, List.map_append, List.map_cons, List.map_nil, Nat.reduceAdd, serV] at ih'
          simp -implicitDefEqProofs only [go_sem, simprocAttr, h1, h2, h3, h4, hc, hg, key100, ih', h8]
        | some a =>
          simp only [acA_s, acV_n, acR_n, acI_n, acV_s, acR_s, acI_s, List.nil_append, List.append_nil, List.cons_append, List.map_append, List.map_cons, List.map_nil, Nat.reduceAdd, serV] at ih'
          simp -implicitDefEqProofs only [go_sem, simprocAttr, h1, h2, h3, h4, hc, hg, key100, ih', h8]

structure FrS where
  n : Int
  x : Int
  y : Int
  l : List Int
def candX (n : Int) (p q : Int × Int) : Int := q.1 - (tr n p.1 p.2).1
def candY (n : Int) (p q : Int × Int) : Int := q.2 - (tr n p.1 p.2).2
def stp (n : Int) (l m : List (Int × Int)) (p q : Int × Int) (s : FrS) : FrS :=
  if ckF n (candX n p q) (candY n p q) = 0 then
    if s.l.length < (agr n (candX n p q) (candY n p q) 0 l m).length then ⟨n, candX n p q, candY n p q, agr n (candX n p q) (candY n p q) 0 l m⟩ else s
  else s
def inn (n : Int) (l m : List (Int × Int)) : List (Int × Int) → List (Int × Int) → FrS → FrS
  | p :: ps, q :: qs, s => inn n l m ps qs (stp n l m p q s)
  | _, _, s => s
def frm (l m : List (Int × Int)) : FrS := inn 3 l m l m (inn 2 l m l m (inn 1 l m l m (inn 0 l m l m ⟨0, 0, 0, []⟩)))
theorem ckF_bnd {n x y : Int} (h : ckF n x y = 0) : (0 ≤ n ∧ n ≤ 3) ∧ bnd 1000 (x, y) := by
  simp only [ckF, ckP, fnz, rng_eq] at h
  unfold bnd
  by_cases h1 : n < 0 ∨ 3 < n
  · simp [h1] at h
  · by_cases h2 : x < -1000 ∨ 1000 < x
    · simp [h1, h2] at h
    · by_cases h3 : y < -1000 ∨ 1000 < y
      · simp [h1, h2, h3] at h
      · dsimp only; omega

theorem bnd_mono {a b : Int} (hab : a ≤ b) {p : Int × Int} (h : bnd a p) : bnd b p := by unfold bnd at *; omega


def L68a (b c : Bool) (l m : List (Int × Int)) (s : FrS) (M A : Option (List Int)) (k sx sy : Int) (i j : Nat) : Option Out :=
  (lim T).loop false [.code (.loop b10_2), .inBlock 4, .code (.seq r10_22 (.cond (.tmp 86) r10_23 .skip)), .inBlock 3, .code r10_24, .inLoop b10_1, .inBlock 2, .inBlock 1, .code r10_25, .inLoop b10_0, .inBlock 0, .code (.seq (.seq r10_26 (.cond (.tmp 93) (.seq r10_27 .ret) .skip)) (.seq r10_28 .ret))]
    ⟨10, 97, 0, [(0, .sl b 2 (l.map fun p => .agg [.int .i64 p.1, .int .i64 p.2])), (1, .sl c 2 (m.map fun p => .agg [.int .i64 p.1, .int .i64 p.2])), (4, .ptr 0 0 0), (8, .ptr 1 0 0), (9, acV M 2), (10, .int .i64 k), (13, .ptr (acI M 2) 0 0), (14, acV A (acI M 2 + 1)), (38, .int .i64 k),
      (41, .sl b 2 (l.map fun p => .agg [.int .i64 p.1, .int .i64 p.2])), (42, .int .i64 l.length), (43, .int .i64 i), (62, .sl b 2 (l.map fun p => .agg [.int .i64 p.1, .int .i64 p.2])), (63, .int .i64 l.length), (64, .int .i64 j)],
      .cells true true 33 [.agg [.int .i64 0, .int .i64 0, .int .i64 0]] :: .cells true true 33 [.agg [.int .i64 s.n, .int .i64 s.x, .int .i64 s.y]] :: (acR (fun n => .int .i64 n) M 3 ++ (.cells true true 33 [.agg [.int .i64 k, .int .i64 sx, .int .i64 sy]] :: acR (fun n => .int .i64 n) A 3)), 0, []⟩

theorem loop68a (b c : Bool) (l m : List (Int × Int)) (s : FrS) (M : Option (List Int)) (k sx sy : Int) (i : Nat) (hb : l.length < 1000) (hm : l.length = m.length) (hn : 0 ≤ k ∧ k ≤ 3) (hs : bnd 1000 (sx, sy)) (hl : ∀ p ∈ l, bnd 1000 p) : ∀ j, j ≤ l.length → ∀ A : Option (List Int), acL A ≤ j →
    L68a b c l m s M A k sx sy i j = L68a b c l m s M (acA A (agr k sx sy j (l.drop j) (m.drop j))) k sx sy i l.length := by
  refine down_ind l.length ?_ fun j hj ih A hA => ?_
  · intro A hA
    have h0 : l.drop l.length = [] := by simp
    rw [h0]; rfl
  · obtain ⟨h1, h2, h3, h4, h5⟩ := idx_in hj (by omega)
    obtain ⟨g1, g2, g3, g4, g5⟩ := idx_in (l := m) (i := j) (by omega) (by omega)
    conv => lhs; unfold L68a; rw [loopEq]
    rw [h5, g5]
    have hpi : bnd 1000000 (l[j].1, l[j].2) := bnd_mono (by omega) (hl _ (List.getElem_mem hj))
    have hc := c162' k sx sy l[j].1 l[j].2 hn (bnd_mono (by omega) hs) hpi
    simp only [agr]
    cases h6 : ((cry k sx sy l[j].1 l[j].2).1 == m[j].1 && (cry k sx sy l[j].1 l[j].2).2 == m[j].2)
    · have h7 : ¬ cry k sx sy l[j].1 l[j].2 = m[j] := by
        intro e; rw [e] at h6; simp at h6
      rw [if_neg h7]
      have ih' := ih A (by omega)
      conv at ih' => lhs; unfold L68a
      cases M with
      | none => cases A with
        | none =>
          simp only [acV_n, acR_n, acI_n, List.nil_append] at ih'
          simp -implicitDefEqProofs only [go_sem, simprocAttr, h1, h2, h3, h4, g1, g2, g3, g4, ih', hc, h6]
        | some a =>
          simp only [acV_n, acR_n, acI_n, acV_s, acR_s, acI_s, List.nil_append, Nat.reduceAdd] at ih'
          simp -implicitDefEqProofs only [go_sem, simprocAttr, h1, h2, h3, h4, g1, g2, g3, g4, ih', hc, h6]
      | some mm => cases A with
        | none =>
          simp only [acV_n, acR_n, acI_n, acV_s, acR_s, acI_s, List.nil_append, List.cons_append, Nat.reduceAdd] at ih'
          simp -implicitDefEqProofs only [go_sem, simprocAttr, h1, h2, h3, h4, g1, g2, g3, g4, ih', hc, h6]
        | some a =>
          simp only [acV_n, acR_n, acI_n, acV_s, acR_s, acI_s, List.nil_append, List.cons_append, Nat.reduceAdd] at ih'
          simp -implicitDefEqProofs only [go_sem, simprocAttr, h1, h2, h3, h4, g1, g2, g3, g4, ih', hc, h6]
    · have h7 : cry k sx sy l[j].1 l[j].2 = m[j] := by
        simp at h6; exact Prod.ext h6.1 h6.2
      rw [if_pos h7]
      have ih' := ih (acA A [(j : Int)]) (by rw [acL_A]; simp; omega)
      rw [acA_acA] at ih'
      conv at ih' => lhs; unfold L68a
      cases M with
      | none => cases A with
        | none =>
          have h8 := (row_ok (n := 0) (by omega)).2
          simp only [acA_n, acV_n, acR_n, acI_n, acV_s, acR_s, acI_s, List.nil_append, List.map_cons, List.map_nil, Nat.reduceAdd] at ih'
          simp -implicitDefEqProofs only [go_sem, simprocAttr, h1, h2, h3, h4, g1, g2, g3, g4, ih', hc, h6, h8]
        | some a =>
          have h9 : a.length ≤ j := hA
          have h8 := (row_ok (n := a.length) (by omega)).1
          simp only [acA_s, acV_n, acR_n, acI_n, acV_s, acR_s, acI_s, List.nil_append, List.map_append, List.map_cons, List.map_nil, Nat.reduceAdd] at ih'
          simp -implicitDefEqProofs only [go_sem, simprocAttr, h1, h2, h3, h4, g1, g2, g3, g4, ih', hc, h6, h8]
      | some mm => cases A with
        | none =>
          have h8 := (row_ok (n := 0) (by omega)).2
          simp only [acA_n, acV_n, acR_n, acI_n, acV_s, acR_s, acI_s, List.nil_append, List.cons_append, List.map_cons, List.map_nil, Nat.reduceAdd] at ih'
          simp -implicitDefEqProofs only [go_sem, simprocAttr, h1, h2, h3, h4, g1, g2, g3, g4, ih', hc, h6, h8]
        | some a =>
          have h9 : a.length ≤ j := hA
          have h8 := (row_ok (n := a.length) (by omega)).1
          simp only [acA_s, acV_n, acR_n, acI_n, acV_s, acR_s, acI_s, List.nil_append, List.cons_append, List.map_append, List.map_cons, List.map_nil, Nat.reduceAdd] at ih'
          simp -implicitDefEqProofs only [go_sem, simprocAttr, h1, h2, h3, h4, g1, g2, g3, g4, ih', hc, h6, h8]

def L68b (b c : Bool) (l m : List (Int × Int)) (s : FrS) (M : Option (List Int)) (k : Int) (i : Nat) : Option Out :=
  (lim T).loop false [.code (.loop b10_1), .inBlock 2, .inBlock 1, .code r10_25, .inLoop b10_0, .inBlock 0, .code (.seq (.seq r10_26 (.cond (.tmp 93) (.seq r10_27 .ret) .skip)) (.seq r10_28 .ret))]
    ⟨10, 97, 0, [(0, .sl b 2 (l.map fun p => .agg [.int .i64 p.1, .int .i64 p.2])), (1, .sl c 2 (m.map fun p => .agg [.int .i64 p.1, .int .i64 p.2])), (4, .ptr 0 0 0), (8, .ptr 1 0 0), (9, acV M 2), (10, .int .i64 k), (38, .int .i64 k),
      (41, .sl b 2 (l.map fun p => .agg [.int .i64 p.1, .int .i64 p.2])), (42, .int .i64 l.length), (43, .int .i64 i)],
      .cells true true 33 [.agg [.int .i64 0, .int .i64 0, .int .i64 0]] :: .cells true true 33 [.agg [.int .i64 s.n, .int .i64 s.x, .int .i64 s.y]] :: acR (fun n => .int .i64 n) M 3, 0, []⟩

theorem none_or_some {l : List Int} : (l = [] ∧ acA none l = none) ∨ (l ≠ [] ∧ acA none l = some l) := by
  cases l with
  | nil => exact .inl ⟨rfl, rfl⟩
  | cons x r => exact .inr ⟨by simp, rfl⟩

theorem loop68b (b c : Bool) (k : Int) (l m : List (Int × Int)) (hb : l.length < 1000) (hm : l.length = m.length) (hn : 0 ≤ k ∧ k ≤ 3) (hl : ∀ p ∈ l, bnd 1000 p) (hq : ∀ p ∈ m, bnd 1000 p) : ∀ i, i ≤ l.length → ∀ s : FrS,
    L68b b c l m s (acA none s.l) k i = L68b b c l m (inn k l m (l.drop i) (m.drop i) s) (acA none (inn k l m (l.drop i) (m.drop i) s).l) k l.length := by
  refine down_ind l.length ?_ fun i hi ih s => ?_
  · intro s
    have h0 : l.drop l.length = [] := by simp
    rw [h0]; rfl
  · obtain ⟨h1, h2, h3, h4, h5⟩ := idx_in hi (by omega)
    obtain ⟨g1, g2, g3, g4, g5⟩ := idx_in (l := m) (i := i) (by omega) (by omega)
    conv => lhs; unfold L68b; rw [loopEq]
    rw [h5, g5]
    simp only [inn]
    have hpi : bnd 1000 (l[i].1, l[i].2) := hl _ (List.getElem_mem hi)
    have hqi : bnd 1000 m[i] := hq _ (List.getElem_mem (by omega))
    have ht := tr_bnd k hpi
    have hc := c162' k 0 0 l[i].1 l[i].2 hn (by unfold bnd; omega) (bnd_mono (by omega) hpi)
    have hX : IntKind.i64.wrap (m[i].1 - (cry k 0 0 l[i].1 l[i].2).1) = candX k l[i] m[i] := by
      unfold cry; unfold bnd at ht hqi; dsimp only at ht hqi ⊢; rw [wrap64 (by omega) (by omega)]; unfold candX; omega
    have hY : IntKind.i64.wrap (m[i].2 - (cry k 0 0 l[i].1 l[i].2).2) = candY k l[i] m[i] := by
      unfold cry; unfold bnd at ht hqi; dsimp only at ht hqi ⊢; rw [wrap64 (by omega) (by omega)]; unfold candY; omega
    cases h6 : (ckF k (candX k l[i] m[i]) (candY k l[i] m[i]) != 0)
    · have h7 : ckF k (candX k l[i] m[i]) (candY k l[i] m[i]) = 0 := by simpa using h6
      obtain ⟨_, hs⟩ := ckF_bnd h7
      have hr := loop68a b c l m s (acA none s.l) k _ _ i hb hm hn hs hl 0 (by omega) none (Nat.le_refl _)
      rw [List.drop_zero, List.drop_zero] at hr
      have hend := idx_out l.length
      generalize hag : agr k (candX k l[i] m[i]) (candY k l[i] m[i]) 0 l m = ag at hr
      conv at hr => lhs; unfold L68a
      -- the loop of the marks that agree, then what is done with them
      have fin : L68a b c l m s (acA none s.l) (acA none ag) k (candX k l[i] m[i]) (candY k l[i] m[i]) i l.length = L68b b c l m (stp k l m l[i] m[i] s) (acA none (stp k l m l[i] m[i] s).l) k (i + 1) := by
        conv => lhs; unfold L68a; rw [loopEq]
        cases h8 : decide (((s.l.length : Nat) : Int) < ((ag.length : Nat) : Int))
        · have h9 : ¬ s.l.length < ag.length := by simp at h8; omega
          have e : stp k l m l[i] m[i] s = s := by unfold stp; rw [if_pos h7, hag, if_neg h9]
          rw [e]
          unfold L68b
          rcases none_or_some (l := s.l) with ⟨e1, e2⟩ | ⟨e1, e2⟩
          · rw [e2]
            have : ag = [] := by rw [e1] at h9; simp at h9; exact h9
            rw [this]
            simp -implicitDefEqProofs only [go_sem, simprocAttr, hend, h4, acA_0]
          · rw [e2]
            rcases none_or_some (l := ag) with ⟨a1, a2⟩ | ⟨a1, a2⟩
            · rw [a2]
              rw [a1] at h8
              simp only [List.length_nil, Int.cast_ofNat_Int] at h8
              simp -implicitDefEqProofs only [go_sem, simprocAttr, hend, h4, h8]
            · rw [a2]
              simp -implicitDefEqProofs only [go_sem, simprocAttr, hend, h4, h8]
        · have h9 : s.l.length < ag.length := by simp at h8; omega
          have e : stp k l m l[i] m[i] s = ⟨k, candX k l[i] m[i], candY k l[i] m[i], ag⟩ := by unfold stp; rw [if_pos h7, hag, if_pos h9]
          rw [e]
          unfold L68b
          rcases none_or_some (l := ag) with ⟨a1, a2⟩ | ⟨a1, a2⟩
          · rw [a1] at h9; simp at h9
          · dsimp only
            rw [a2]
            rcases none_or_some (l := s.l) with ⟨e1, e2⟩ | ⟨e1, e2⟩
            · rw [e2]
              rw [e1] at h8
              simp only [List.length_nil, Int.cast_ofNat_Int] at h8
              simp -implicitDefEqProofs only [go_sem, simprocAttr, hend, h4, h8]
            · rw [e2]
              simp -implicitDefEqProofs only [go_sem, simprocAttr, hend, h4, h8]
      have ih' := ih (stp k l m l[i] m[i] s)
      rw [← ih', ← fin]
      rcases none_or_some (l := s.l) with ⟨e1, e2⟩ | ⟨e1, e2⟩
      · rw [e2] at hr ⊢
        simp only [show ((0 : Nat) : Int) = 0 from rfl, acV_n, acR_n, acI_n, List.nil_append, Nat.reduceAdd] at hr
        simp -implicitDefEqProofs only [go_sem, simprocAttr, h1, h2, h3, h4, g1, g2, g3, g4, hc, hX, hY, h6, c160, c163, hr]
      · rw [e2] at hr ⊢
        simp only [show ((0 : Nat) : Int) = 0 from rfl, acV_n, acR_n, acI_n, acV_s, acR_s, acI_s, List.nil_append, List.cons_append, Nat.reduceAdd] at hr
        simp -implicitDefEqProofs only [go_sem, simprocAttr, h1, h2, h3, h4, g1, g2, g3, g4, hc, hX, hY, h6, c160, c163, hr]
    · have h7 : ¬ ckF k (candX k l[i] m[i]) (candY k l[i] m[i]) = 0 := by simpa using h6
      have e : stp k l m l[i] m[i] s = s := by unfold stp; rw [if_neg h7]
      rw [e]
      have ih' := ih s
      conv at ih' => lhs; unfold L68b
      rcases none_or_some (l := s.l) with ⟨e1, e2⟩ | ⟨e1, e2⟩
      · rw [e2] at ih' ⊢
        simp only [acV_n, acR_n] at ih'
        simp -implicitDefEqProofs only [go_sem, simprocAttr, h1, h2, h3, h4, g1, g2, g3, g4, ih', hc, hX, hY, h6, c160, c163]
      · rw [e2] at ih' ⊢
        simp only [acV_s, acR_s] at ih'
        simp -implicitDefEqProofs only [go_sem, simprocAttr, h1, h2, h3, h4, g1, g2, g3, g4, ih', hc, hX, hY, h6, c160, c163]

theorem fnz_zero {l : List Int} : fnz l = 0 ↔ ∀ x ∈ l, x = 0 := by
  induction l with
  | nil => simp [fnz]
  | cons x l ih =>
    simp only [fnz]
    by_cases h : x = 0
    · simp [h, ih]
    · simp [h]
theorem ckP_bnd {x y : Int} (h : ckP x y = 0) : bnd 1000 (x, y) := by
  simp only [ckP, fnz, rng_eq] at h
  unfold bnd
  by_cases h2 : x < -1000 ∨ 1000 < x
  · simp [h2] at h
  · by_cases h3 : y < -1000 ∨ 1000 < y
    · simp [h2, h3] at h
    · dsimp only; omega
theorem stp_nil {n : Int} {l m : List (Int × Int)} {p q : Int × Int} {s : FrS} (h : (stp n l m p q s).l = []) : stp n l m p q s = s := by
  unfold stp at h ⊢
  split
  · rename_i h1
    rw [if_pos h1] at h
    split
    · rename_i h2
      rw [if_pos h2] at h
      dsimp only at h
      rw [h] at h2; simp at h2
    · rfl
  · rfl
theorem inn_nil {n : Int} {l m : List (Int × Int)} : ∀ (ps qs : List (Int × Int)) (s : FrS), (inn n l m ps qs s).l = [] → inn n l m ps qs s = s := by
  intro ps
  induction ps with
  | nil => intro qs s _; rfl
  | cons p ps ih =>
    intro qs s h
    cases qs with
    | nil => rfl
    | cons q qs =>
      simp only [inn] at h ⊢
      have h1 := ih qs _ h
      rw [h1] at h ⊢
      exact stp_nil h
theorem frm_nil {l m : List (Int × Int)} (h : (frm l m).l = []) : frm l m = ⟨0, 0, 0, []⟩ := by
  unfold frm at h ⊢
  have h3 := inn_nil _ _ _ h
  rw [h3] at h ⊢
  have h2 := inn_nil _ _ _ h
  rw [h2] at h ⊢
  have h1 := inn_nil _ _ _ h
  rw [h1] at h ⊢
  exact inn_nil _ _ _ h

def ckM (l m : List (Int × Int)) : Int := fnz [fnz [cond ((l.length : Int) == 0) 12 0, cond (decide (8 < (l.length : Int))) 5 0], fnz (l.map fun p => ckP p.1 p.2), cond ((m.length : Int) != l.length) 2 0, fnz (m.map fun p => ckP p.1 p.2)]
theorem ckM_ok {l m : List (Int × Int)} (h : ckM l m = 0) : l ≠ [] ∧ l.length ≤ 8 ∧ l.length = m.length ∧ (∀ p ∈ l, bnd 1000 p) ∧ (∀ p ∈ m, bnd 1000 p) := by
  unfold ckM at h
  have h := fnz_zero.1 h
  have h1 := fnz_zero.1 (h _ (List.mem_cons_self ..))
  have h2 := fnz_zero.1 (h (fnz (l.map fun p => ckP p.1 p.2)) (by simp))
  have h3 := h (cond ((m.length : Int) != l.length) 2 0) (by simp)
  have h4 := fnz_zero.1 (h (fnz (m.map fun p => ckP p.1 p.2)) (by simp))
  have h5 := h1 (cond ((l.length : Int) == 0) 12 0) (by simp)
  have h6 := h1 (cond (decide (8 < (l.length : Int))) 5 0) (by simp)
  refine ⟨fun e => ?_, ?_, ?_, fun p hp => ckP_bnd (h2 _ (List.mem_map.2 ⟨p, hp, rfl⟩)), fun p hp => ckP_bnd (h4 _ (List.mem_map.2 ⟨p, hp, rfl⟩))⟩
  · rw [e] at h5; simp at h5
  · by_cases hc : 8 < (l.length : Int)
    · simp [hc] at h6
    · omega
  · by_cases hc : (m.length : Int) = l.length
    · omega
    · have : ((m.length : Int) != l.length) = true := by simpa using hc
      rw [this] at h3; simp at h3

theorem c68 (b c : Bool) (l m : List (Int × Int)) (hl0 : l.length < 1000) (hm0 : m.length < 1000) :
    (lim T).call 10 [.sl b 2 (l.map fun p => .agg [.int .i64 p.1, .int .i64 p.2]), .sl c 2 (m.map fun p => .agg [.int .i64 p.1, .int .i64 p.2])] [] 0 [] =
      some (if ckM l m = 0 then .tup [.agg [.int .i64 (frm l m).n, .int .i64 (frm l m).x, .int .i64 (frm l m).y], slV 1 ((frm l m).l.map fun n => .int .i64 n), .int .i64 (cond (((frm l m).l.length : Int) == 0) 7 0)]
        else .tup [.agg [.int .i64 0, .int .i64 0, .int .i64 0], .sl false 0 [], .int .i64 (ckM l m)], [], 0, []) := by
  rw [ent10]
  have e1 := c112 l.length 8
  have e2 := c141 b l (by omega)
  have e3 := c141 c m (by omega)
  have e4 := fun b => c114 b (l.map fun p => ckP p.1 p.2) (by simp; omega)
  have e5 := fun b => c114 b (m.map fun p => ckP p.1 p.2) (by simp; omega)
  have e6 := c24_4 true (fnz [cond ((l.length : Int) == 0) 12 0, cond (decide (8 < (l.length : Int))) 5 0]) (fnz (l.map fun p => ckP p.1 p.2)) (cond ((m.length : Int) != l.length) 2 0) (fnz (m.map fun p => ckP p.1 p.2))
  rw [show fnz [fnz [cond ((l.length : Int) == 0) 12 0, cond (decide (8 < (l.length : Int))) 5 0], fnz (l.map fun p => ckP p.1 p.2), cond ((m.length : Int) != l.length) 2 0, fnz (m.map fun p => ckP p.1 p.2)] = ckM l m from rfl] at e6
  cases h : (ckM l m != 0)
  · have h0 : ckM l m = 0 := by simpa using h
    rw [if_pos h0]
    obtain ⟨hne, h8, hlm, hl, hq⟩ := ckM_ok h0
    have h1 := idx_out l.length
    have k0 := loop68b b c 0 l m (by omega) hlm (by omega) hl hq 0 (by omega) ⟨0, 0, 0, []⟩
    have k1 := loop68b b c 1 l m (by omega) hlm (by omega) hl hq 0 (by omega)
    have k2 := loop68b b c 2 l m (by omega) hlm (by omega) hl hq 0 (by omega)
    have k3 := loop68b b c 3 l m (by omega) hlm (by omega) hl hq 0 (by omega)
    simp only [List.drop_zero] at k0 k1 k2 k3
    have hfn := frm_nil (l := l) (m := m)
    unfold frm at hfn ⊢
    generalize hs0 : inn 0 l m l m ⟨0, 0, 0, []⟩ = s0 at k0 hfn ⊢
    replace k1 := k1 s0
    generalize hs1 : inn 1 l m l m s0 = s1 at k1 hfn ⊢
    replace k2 := k2 s1
    generalize hs2 : inn 2 l m l m s1 = s2 at k2 hfn ⊢
    replace k3 := k3 s2
    generalize hs3 : inn 3 l m l m s2 = s3 at k3 hfn ⊢
    conv at k0 => lhs; unfold L68b
    simp only [acA_0, acV_n, acR_n, show ((0 : Nat) : Int) = 0 from rfl] at k0
    simp -implicitDefEqProofs only [go_sem, simprocAttr, e1, e2, e3, e4, e5, e6, c115, h]
    rw [loopEq]
    simp -implicitDefEqProofs only [go_sem, simprocAttr, k0]
    have step : ∀ (k : Int) (s : FrS), 0 ≤ k → k ≤ 2 → L68b b c l m s (acA none s.l) k l.length = L68b b c l m s (acA none s.l) (k + 1) 0 := by
      intro k s hk hk'
      have hk0 : k = 0 ∨ k = 1 ∨ k = 2 := by omega
      conv => lhs; unfold L68b; rw [loopEq]
      conv => rhs; unfold L68b
      rcases none_or_some (l := s.l) with ⟨a1, a2⟩ | ⟨a1, a2⟩
      · rw [a2]
        rcases hk0 with rfl | rfl | rfl
        · simp -implicitDefEqProofs only [go_sem, simprocAttr, h1, wrap64]
          rw [loopEq]
          simp -implicitDefEqProofs only [go_sem, simprocAttr, wrap64]
        · simp -implicitDefEqProofs only [go_sem, simprocAttr, h1, wrap64]
          rw [loopEq]
          simp -implicitDefEqProofs only [go_sem, simprocAttr, wrap64]
        · simp -implicitDefEqProofs only [go_sem, simprocAttr, h1, wrap64]
          rw [loopEq]
          simp -implicitDefEqProofs only [go_sem, simprocAttr, wrap64]
      · rw [a2]
        rcases hk0 with rfl | rfl | rfl
        · simp -implicitDefEqProofs only [go_sem, simprocAttr, h1, wrap64]
          rw [loopEq]
          simp -implicitDefEqProofs only [go_sem, simprocAttr, wrap64]
        · simp -implicitDefEqProofs only [go_sem, simprocAttr, h1, wrap64]
          rw [loopEq]
          simp -implicitDefEqProofs only [go_sem, simprocAttr, wrap64]
        · simp -implicitDefEqProofs only [go_sem, simprocAttr, h1, wrap64]
          rw [loopEq]
          simp -implicitDefEqProofs only [go_sem, simprocAttr, wrap64]
    rw [step 0 s0 (by omega) (by omega), show (0 : Int) + 1 = 1 from rfl, k1, step 1 s1 (by omega) (by omega), show (1 : Int) + 1 = 2 from rfl, k2, step 2 s2 (by omega) (by omega), show (2 : Int) + 1 = 3 from rfl, k3]
    unfold L68b
    rw [loopEq]
    rcases none_or_some (l := s3.l) with ⟨a1, a2⟩ | ⟨a1, a2⟩
    · have := hfn a1
      rw [a2, this]
      simp -implicitDefEqProofs only [go_sem, simprocAttr, h1, wrap64]
      rw [loopEq]
      simp -implicitDefEqProofs only [go_sem, simprocAttr, h1, wrap64, slV]
    · rw [a2]
      have hz : ((s3.l.length : Int) == 0) = false := by
        have : s3.l.length ≠ 0 := fun e => a1 (List.eq_nil_of_length_eq_zero e)
        simp; omega
      have hne : s3.l.map (fun n => V.int .i64 n) ≠ [] := by simpa using a1
      rw [slV_ne _ _ hne]
      simp -implicitDefEqProofs only [go_sem, simprocAttr, h1, wrap64]
      rw [loopEq]
      simp -implicitDefEqProofs only [go_sem, simprocAttr, h1, wrap64, hz]
  · have h0 : ¬ ckM l m = 0 := by simpa using h
    rw [if_neg h0]
    simp -implicitDefEqProofs only [go_sem, simprocAttr, e1, e2, e3, e4, e5, e6, c115, h]
def ckN (l : List (Int × Int × Int)) (n sx sy : Int) (m : List Md) : Int := fnz [ckSp l, ckF n sx sy, ckMd m]
theorem ckN_eq (l : List (Int × Int × Int)) (n sx sy : Int) (m : List Md) : fnz [cond (decide (64 < (l.length : Int))) 5 0, fnz (l.map fun s => ckS s), ckF n sx sy, ckMd m] = ckN l n sx sy m := by
  unfold ckN ckSp
  by_cases h : 64 < l.length
  · have : (64 : Int) < l.length := by omega
    simp [fnz, h, this]
  · have : ¬ (64 : Int) < l.length := by omega
    simp [fnz, h, this]
theorem mdEs_get (l : List Md) : ∀ (r : List Md) (i k : Nat) (h : k < r.length), mdE l (i + k) r[k] ∈ mdEs l i r
  | [], _, _, h => by cases h
  | m :: r, i, 0, _ => List.mem_cons_self ..
  | m :: r, i, k + 1, h => by
    have := mdEs_get l r (i + 1) k (by simpa using h)
    rw [show i + 1 + k = i + (k + 1) by omega] at this
    exact List.mem_cons_of_mem _ this
theorem ckMd_dist {m : List Md} (h : ckMd m = 0) : m.length ≤ 64 ∧ dist m := by
  unfold ckMd at h
  by_cases hl : 64 < m.length
  · rw [if_pos hl] at h; cases h
  · rw [if_neg hl] at h
    refine ⟨by omega, fun i j hi hj => ?_⟩
    have h1 := fnz_zero.1 h _ (mdEs_get m m 0 j hj)
    rw [Nat.zero_add] at h1
    unfold mdE at h1
    have h2 := fnz_zero.1 h1 (cond ((m.take j).any fun a => atB a m[j]) 15 0) (by simp)
    cases h3 : (m.take j).any fun a => atB a m[j] with
    | true => rw [h3] at h2; cases h2
    | false =>
      rw [List.any_eq_false] at h3
      have h4 := h3 (m[i]'(by omega)) (List.mem_iff_getElem.2 ⟨i, by simp; omega, by simp⟩)
      simpa using h4
theorem ckS_bnd {s : Int × Int × Int} (h : ckS s = 0) : bnd 1000000 (s.1, s.2.1) := by
  unfold ckS at h
  have h1 := fnz_zero.1 h (rng s.1 0 15) (by simp)
  have h2 := fnz_zero.1 h (rng s.2.1 0 15) (by simp)
  rw [rng_eq] at h1 h2
  unfold bnd
  by_cases h3 : s.1 < 0 ∨ 15 < s.1
  · simp [h3] at h1
  · by_cases h4 : s.2.1 < 0 ∨ 15 < s.2.1
    · simp [h4] at h2
    · dsimp only; omega
theorem ckN_ok {l : List (Int × Int × Int)} {n sx sy : Int} {m : List Md} (h : ckN l n sx sy m = 0) : l.length ≤ 64 ∧ (0 ≤ n ∧ n ≤ 3) ∧ bnd 1000000 (sx, sy) ∧ (∀ s ∈ l, bnd 1000000 (s.1, s.2.1)) ∧ m.length ≤ 64 ∧ dist m := by
  unfold ckN at h
  have h1 := fnz_zero.1 h (ckSp l) (by simp)
  have h2 := fnz_zero.1 h (ckF n sx sy) (by simp)
  have h3 := fnz_zero.1 h (ckMd m) (by simp)
  obtain ⟨f1, f2⟩ := ckF_bnd h2
  unfold ckSp at h1
  by_cases hl : 64 < l.length
  · rw [if_pos hl] at h1; cases h1
  · rw [if_neg hl] at h1
    exact ⟨by omega, f1, bnd_mono (by omega) f2, fun s hs => ckS_bnd (fnz_zero.1 h1 _ (List.mem_map.2 ⟨s, hs, rfl⟩)), ckMd_dist h3⟩
theorem c24_4' (b : Bool) (x y z u : Int) : (lim T).call 24 [.sl b 1 [.int .i64 x, .int .i64 y, .int .i64 z, .int .i64 u]] [] 0 [] = some (.int .i64 (fnz [x, y, z, u]), [], 0, []) := c114 b [x, y, z, u] (by simp)
theorem c77 (b c : Bool) (l : List (Int × Int × Int)) (n sx sy : Int) (m : List Md) (hl0 : l.length < 1000) (hm0 : m.length < 1000) :
    (lim T).call 9 [.sl b 3 (l.map spV), .agg [.int .i64 n, .int .i64 sx, .int .i64 sy], .sl c 10 (m.map mdV)] [] 0 [] =
      some (if ckN l n sx sy m = 0 then .tup [slV 8 ((outS m n sx sy l).map serV), slV 1 ((nonS m n sx sy 0 l).map intV), .int .i64 0]
        else .tup [.sl false 0 [], .sl false 0 [], .int .i64 (ckN l n sx sy m)], [], 0, []) := by
  rw [ent9]
  have e1 := c167 b l (by omega)
  have e2 := fun b => c114 b (l.map fun p => ckS p) (by simp; omega)
  have e3 := c83 c m (by omega)
  have e4 := c24_4' true (cond (decide (64 < (l.length : Int))) 5 0) (fnz (l.map fun s => ckS s)) (ckF n sx sy) (ckMd m)
  rw [ckN_eq] at e4
  have e5 : List.map intV (List.map (fun s => ckS s) l) = List.map (fun n => V.int .i64 n) (List.map (fun s => ckS s) l) := rfl
  rw [e5] at e1
  cases h : (ckN l n sx sy m != 0)
  · have h0 : ckN l n sx sy m = 0 := by simpa using h
    rw [if_pos h0]
    obtain ⟨k1, k2, k3, k4, k5, k6⟩ := ckN_ok h0
    have a1 := loop77a l m b c n sx sy (by omega) k6 0 (by omega)
    have a2 : L77a l m b c n sx sy m.length = L77b l m b n sx sy none none 0 := by
      unfold L77a
      rw [loopEq]
      have h1 := idx_out m.length
      unfold L77b
      simp only [acV_n, acR_n, acI_n, List.nil_append, List.append_nil, show ((0 : Nat) : Int) = 0 from rfl]
      rw [List.take_length]
      simp -implicitDefEqProofs only [go_sem, simprocAttr, h1]
    have a3 := loop77b l m b n sx sy (by omega) k2 k3 k4 0 (by omega) none none (Nat.le_refl _) (Nat.le_refl _)
    rw [a2, a3, List.drop_zero, acO_slV, acO_slV] at a1
    unfold L77a at a1
    simp only [List.take_zero, List.map_nil, show ((0 : Nat) : Int) = 0 from rfl] at a1
    simp -implicitDefEqProofs only [go_sem, simprocAttr, e1, e2, e3, e4, c115, c160, h, a1]
  · have h0 : ¬ ckN l n sx sy m = 0 := by simpa using h
    rw [if_neg h0]
    simp -implicitDefEqProofs only [go_sem, simprocAttr, e1, e2, e3, e4, c115, c160, h]
def thr (n sx sy : Int) (l : List (Int × Int)) : List (Int × Int) := l.map fun p => cry n sx sy p.1 p.2
theorem agr_all (n sx sy : Int) : ∀ (l : List (Int × Int)) (j : Nat), (agr n sx sy j l (thr n sx sy l)).length = l.length := by
  intro l
  induction l with
  | nil => intro j; rfl
  | cons p l ih =>
    intro j
    show (agr n sx sy j (p :: l) (cry n sx sy p.1 p.2 :: thr n sx sy l)).length = _
    rw [agr, if_pos rfl, List.length_cons, ih, List.length_cons]
theorem agr_eq (n sx sy : Int) : ∀ (l m : List (Int × Int)) (j : Nat), l.length = m.length → (agr n sx sy j l m).length = l.length → thr n sx sy l = m := by
  intro l
  induction l with
  | nil => intro m j hm _; cases m with | nil => rfl | cons a b => simp at hm
  | cons p l ih =>
    intro m j hm h
    cases m with
    | nil => simp at hm
    | cons q m =>
      rw [agr] at h
      by_cases hc : cry n sx sy p.1 p.2 = q
      · rw [if_pos hc, List.length_cons, List.length_cons] at h
        show cry n sx sy p.1 p.2 :: thr n sx sy l = q :: m
        rw [hc, ih m (j + 1) (by simpa using hm) (by omega)]
      · rw [if_neg hc] at h
        have := agr_len n sx sy (j + 1) l m
        simp at h
        omega
def JF (l m : List (Int × Int)) (n : Int) (s : FrS) : Prop := s.l.length ≤ l.length ∧ (s.l = [] ∨ (s.l = agr s.n s.x s.y 0 l m ∧ ckF s.n s.x s.y = 0 ∧ s.n ≤ n))
theorem stp_J {l m : List (Int × Int)} {n : Int} {p q : Int × Int} {s : FrS} (h : JF l m n s) : JF l m n (stp n l m p q s) := by
  unfold stp
  split
  · rename_i h1
    split
    · exact ⟨agr_len _ _ _ _ _ _, .inr ⟨rfl, h1, Int.le_refl _⟩⟩
    · exact h
  · exact h
theorem inn_J {l m : List (Int × Int)} {n : Int} : ∀ (ps qs : List (Int × Int)) (s : FrS), JF l m n s → JF l m n (inn n l m ps qs s) := by
  intro ps
  induction ps with
  | nil => intro qs s h; exact h
  | cons p ps ih =>
    intro qs s h
    cases qs with
    | nil => exact h
    | cons q qs => exact ih qs _ (stp_J h)
theorem JF.up {l m : List (Int × Int)} {n n' : Int} {s : FrS} (h : JF l m n s) (hn : n ≤ n') : JF l m n' s :=
  ⟨h.1, h.2.imp id fun ⟨a, b, c⟩ => ⟨a, b, by omega⟩⟩
theorem stp_full {l m : List (Int × Int)} {n : Int} {p q : Int × Int} {s : FrS} (h : s.l.length = l.length) : stp n l m p q s = s := by
  unfold stp
  split
  · rw [if_neg (by have := agr_len n (candX n p q) (candY n p q) 0 l m; omega)]
  · rfl
theorem inn_full {l m : List (Int × Int)} {n : Int} : ∀ (ps qs : List (Int × Int)) (s : FrS), s.l.length = l.length → inn n l m ps qs s = s := by
  intro ps
  induction ps with
  | nil => intro qs s _; rfl
  | cons p ps ih =>
    intro qs s h
    cases qs with
    | nil => rfl
    | cons q qs => rw [inn, stp_full h, ih qs s h]
theorem inn_hit {l : List (Int × Int)} {n sx sy : Int} (hl : l ≠ []) (hf : ckF n sx sy = 0) {s : FrS} (hs : s.l.length ≤ l.length) : (inn n l (thr n sx sy l) l (thr n sx sy l) s).l.length = l.length := by
  cases hc : l with
  | nil => exact absurd hc hl
  | cons p ps =>
    rw [← hc]
    have e : inn n l (thr n sx sy l) l (thr n sx sy l) s = inn n l (thr n sx sy l) ps (thr n sx sy ps) (stp n l (thr n sx sy l) p (cry n sx sy p.1 p.2) s) := by
      conv => lhs; rw [show inn n l (thr n sx sy l) l (thr n sx sy l) s = inn n l (thr n sx sy l) (p :: ps) (cry n sx sy p.1 p.2 :: thr n sx sy ps) s by rw [hc]; rfl]
      rw [inn]
    have hst : (stp n l (thr n sx sy l) p (cry n sx sy p.1 p.2) s).l.length = l.length := by
      have hx : candX n p (cry n sx sy p.1 p.2) = sx := by unfold candX cry; simp only; omega
      have hy : candY n p (cry n sx sy p.1 p.2) = sy := by unfold candY cry; simp only; omega
      unfold stp
      rw [hx, hy, if_pos hf, agr_all]
      split
      · exact agr_all n sx sy l 0
      · omega
    rw [e, inn_full _ _ _ hst, hst]
theorem frm_thr {l : List (Int × Int)} {n sx sy : Int} (hl : l ≠ []) (hn : 0 ≤ n ∧ n ≤ 3) (hf : ckF n sx sy = 0) :
    let g := frm l (thr n sx sy l)
    g.l.length = l.length ∧ ckF g.n g.x g.y = 0 ∧ g.n ≤ n ∧ thr g.n g.x g.y l = thr n sx sy l := by
  have j0 : JF l (thr n sx sy l) 0 ⟨0, 0, 0, []⟩ := ⟨by simp, .inl rfl⟩
  have a0 := inn_J (n := 0) l (thr n sx sy l) _ j0
  have a1 := inn_J (n := 1) l (thr n sx sy l) _ (a0.up (by omega : (0 : Int) ≤ 1))
  have a2 := inn_J (n := 2) l (thr n sx sy l) _ (a1.up (by omega : (1 : Int) ≤ 2))
  have a3 := inn_J (n := 3) l (thr n sx sy l) _ (a2.up (by omega : (2 : Int) ≤ 3))
  have key : ∃ s, frm l (thr n sx sy l) = s ∧ s.l.length = l.length ∧ JF l (thr n sx sy l) n s := by
    have hc : n = 0 ∨ n = 1 ∨ n = 2 ∨ n = 3 := by omega
    unfold frm
    rcases hc with rfl | rfl | rfl | rfl
    · have h := inn_hit hl hf j0.1
      exact ⟨_, by rw [inn_full (n := 1) _ _ _ h, inn_full (n := 2) _ _ _ h, inn_full (n := 3) _ _ _ h], h, a0⟩
    · have h := inn_hit hl hf a0.1
      exact ⟨_, by rw [inn_full (n := 2) _ _ _ h, inn_full (n := 3) _ _ _ h], h, a1⟩
    · have h := inn_hit hl hf a1.1
      exact ⟨_, by rw [inn_full (n := 3) _ _ _ h], h, a2⟩
    · have h := inn_hit hl hf a2.1
      exact ⟨_, rfl, h, a3⟩
  obtain ⟨s, e, h1, h2, h3⟩ := key
  rw [e]
  have hlp : 0 < l.length := List.length_pos_iff.2 hl
  rcases h3 with h3 | ⟨h3, h4, h5⟩
  · rw [h3] at h1; simp at h1; omega
  · refine ⟨h1, h4, h5, agr_eq _ _ _ _ _ 0 (by simp [thr]) ?_⟩
    rw [← h3]; exact h1
theorem carr_cry {n sx sy x y : Int} (hs : bnd 1000000 (sx, sy)) (hp : bnd 1000000 (x, y)) : carr n sx sy x y = cry n sx sy x y := by
  unfold bnd at hs hp
  simp only at hs hp
  unfold carr cry trn tr
  split
  · simp only; rw [wrap64, wrap64] <;> first | omega | rfl
  · split
    · simp only; rw [wrap64 (n := 0 - y) (by omega) (by omega), wrap64, wrap64] <;> omega
    · split
      · simp only; rw [wrap64 (n := 0 - y) (by omega) (by omega), wrap64 (n := 0 - x) (by omega) (by omega), wrap64, wrap64] <;> omega
      · simp only; rw [wrap64 (n := 0 - x) (by omega) (by omega), wrap64, wrap64] <;> omega
theorem back_cry {n sx sy x y : Int} (hn : 0 ≤ n ∧ n ≤ 3) (hs : bnd 1000000 (sx, sy)) (hp : bnd 1000000 (x, y)) :
    trn ((4 - n) % 4) (IntKind.i64.wrap ((cry n sx sy x y).1 - sx)) (IntKind.i64.wrap ((cry n sx sy x y).2 - sy)) = (x, y) := by
  unfold bnd at hs hp
  simp only at hs hp
  have hc : n = 0 ∨ n = 1 ∨ n = 2 ∨ n = 3 := by omega
  have a1 : IntKind.i64.wrap ((cry n sx sy x y).1 - sx) = (tr n x y).1 := by
    have : (cry n sx sy x y).1 - sx = (tr n x y).1 := by unfold cry; simp only; omega
    rw [this, wrap64]
    all_goals (unfold tr; repeat' split) <;> simp only <;> omega
  have a2 : IntKind.i64.wrap ((cry n sx sy x y).2 - sy) = (tr n x y).2 := by
    have : (cry n sx sy x y).2 - sy = (tr n x y).2 := by unfold cry; simp only; omega
    rw [this, wrap64]
    all_goals (unfold tr; repeat' split) <;> simp only <;> omega
  rw [a1, a2]
  rcases hc with rfl | rfl | rfl | rfl
  · simp [trn, tr]
  · simp only [trn, tr]; simp; rw [wrap64] <;> omega
  · simp only [trn, tr]; simp; rw [wrap64, wrap64] <;> first | omega | simp
  · simp only [trn, tr]; simp; rw [wrap64] <;> omega
end Go.Den.FaT
end
