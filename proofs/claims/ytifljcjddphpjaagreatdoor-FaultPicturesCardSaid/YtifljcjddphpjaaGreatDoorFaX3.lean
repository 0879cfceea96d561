import Derived.Test.YtifljcjddphpjaaGreatDoorFaX1
import Derived.Test.YtifljcjddphpjaaGreatDoorFaS1
import Derived.Test.YtifljcjddphpjaaGreatDoorFaX0
set_option linter.all false
set_option maxHeartbeats 8000000
set_option maxRecDepth 100000
noncomputable section
namespace Go.Den.FaT
open Go Go.Proofs Go.Den Go.Den.FaF
theorem L2_eq (b : Bool) (l : List (Int × Int)) (hl : l.length < 100000) (hs : ∀ x ∈ l, sm x) (r : Nat) : ∀ i, i ≤ l.length → ∀ F : List Int, F.length = l.length → L2 b l F r i = L2 b l (fF (stI l) l.length i F) r l.length := by
  refine down_ind l.length ?_ fun i hi ih => ?_
  · intro F hF; rw [fF_n]
  · intro F hF
    rw [fF_s _ hi, ← ih _ (by rw [stI_len, hF])]
    obtain ⟨h1, h2, h3, h4, h5⟩ := idx_in hi (by omega)
    have e1 := L3_eq b l hl hs r i hi 0 (by omega) F hF
    have hE := idx_out l.length
    have e2 : L3 b l (stI l F i) r i l.length = L2 b l (stI l F i) r (i + 1) := by
      unfold L3
      rw [loopEq]
      unfold L2
      simp -implicitDefEqProofs only [go_sem, simprocAttr, hE, h4]
    conv => lhs; unfold L2; rw [loopEq]
    have e3 : L3 b l F r i 0 = L2 b l (stI l F i) r (i + 1) := by rw [e1]; exact e2
    unfold L3 at e3
    rw [show ((0 : Nat) : Int) = 0 from rfl] at e3
    simp -implicitDefEqProofs only [go_sem, simprocAttr, h1, e3]
theorem L1_eq (b : Bool) (l : List (Int × Int)) (hl : l.length < 100000) (hs : ∀ x ∈ l, sm x) : ∀ r, r ≤ l.length → ∀ F : List Int, F.length = l.length → L1 b l F r = L1 b l (fF (stR l) l.length r F) l.length := by
  refine down_ind l.length ?_ fun r hr ih => ?_
  · intro F hF; rw [fF_n]
  · intro F hF
    rw [fF_s _ hr, ← ih _ (by rw [stR_len, hF])]
    obtain ⟨h1, h2, h3, h4, h5⟩ := idx_in hr (by omega)
    have e1 := L2_eq b l hl hs r 0 (by omega) F hF
    have hE := idx_out l.length
    have e2 : L2 b l (stR l F r) r l.length = L1 b l (stR l F r) (r + 1) := by
      unfold L2
      rw [loopEq]
      unfold L1
      simp -implicitDefEqProofs only [go_sem, simprocAttr, hE, h4]
    have e3 : L2 b l F r 0 = L1 b l (stR l F r) (r + 1) := by rw [e1]; exact e2
    conv => lhs; unfold L1; rw [loopEq]
    unfold L2 at e3
    rw [show ((0 : Nat) : Int) = 0 from rfl] at e3
    simp -implicitDefEqProofs only [go_sem, simprocAttr, h1, e3]
def L4 (b : Bool) (l : List (Int × Int)) (F : List Int) (o : Option (List ((Int × Int) × Int))) (i : Nat) : Option Out :=
  (lim T).loop false [.code (.loop b62_4), .inBlock 8, .code (.seq r62_30 .ret)] ⟨62, 106, 0, [(5, .sl b 2 (l.map ptV)), (6, .ref 0), (11, acV o 1), (12, .int .i64 i)], .cells false true 3 (F.map intV) :: acR stV o 237, 0, []⟩
def L5 (b : Bool) (l : List (Int × Int)) (F : List Int) (o : Option (List ((Int × Int) × Int))) (i : Nat) (n k : Nat) : Option Out :=
  (lim T).loop false [.code (.loop b62_5), .inBlock 10, .code r62_29, .inBlock 9, .code r62_21, .inLoop b62_4, .inBlock 8, .code (.seq r62_30 .ret)] ⟨62, 106, 0, [(5, .sl b 2 (l.map ptV)), (6, .ref 0), (11, acV o 1), (12, .int .i64 i), (13, .int .i64 n), (14, .int .i64 k)], .cells false true 3 (F.map intV) :: acR stV o 237, 0, []⟩
theorem cntI_cons (x : Int) (l : List Int) (i : Int) : cntI (x :: l) i = (if x = i then 1 else 0) + cntI l i := by
  unfold cntI
  rw [List.countP_cons]
  by_cases h : x = i <;> simp [h]; omega
theorem L5_eq (b : Bool) (l : List (Int × Int)) (hl : l.length < 100000) (F : List Int) (hF : F.length = l.length) (o : Option (List ((Int × Int) × Int))) (i : Nat) : ∀ k, k ≤ l.length → ∀ n, n ≤ k → L5 b l F o i n k = L5 b l F o i (n + cntI (F.drop k) i) l.length := by
  refine down_ind l.length ?_ fun k hk ih => ?_
  · intro n hn
    have : F.drop l.length = [] := by rw [← hF]; simp
    rw [this]; rfl
  · intro n hn
    obtain ⟨h1, h2, h3, h4, h5⟩ := idx_in hk (by omega)
    obtain ⟨f1, f2, f3, f4, f5⟩ := idx_in (l := F) (i := k) (by omega) (by omega)
    rw [f5, cntI_cons, ← Nat.add_assoc]
    have w1 : IntKind.i64.wrap ((n : Int) + 1) = ((n + 1 : Nat) : Int) := by rw [wrap64] <;> omega
    conv => lhs; unfold L5; rw [loopEq]
    cases h6 : (F[k] == (i : Int))
    · have h7 : ¬ F[k] = (i : Int) := by simpa using h6
      rw [if_neg h7, ← ih _ (by omega)]
      unfold L5
      cases o with
      | none => simp -implicitDefEqProofs only [go_sem, simprocAttr, h1, h2, h3, h4, f1, f2, f3, f4, h6, Nat.add_zero]
      | some a => simp -implicitDefEqProofs only [go_sem, simprocAttr, h1, h2, h3, h4, f1, f2, f3, f4, h6, Nat.add_zero]
    · have h7 : F[k] = (i : Int) := by simpa using h6
      rw [if_pos h7, ← ih _ (by omega)]
      unfold L5
      cases o with
      | none => simp -implicitDefEqProofs only [go_sem, simprocAttr, h1, h2, h3, h4, f1, f2, f3, f4, h6, w1, Nat.add_zero]
      | some a => simp -implicitDefEqProofs only [go_sem, simprocAttr, h1, h2, h3, h4, f1, f2, f3, f4, h6, w1, Nat.add_zero]
theorem L4_eq (b : Bool) (l : List (Int × Int)) (hl : l.length < 100000) (F : List Int) (hF : F.length = l.length) : ∀ i, i ≤ l.length → ∀ o : Option (List ((Int × Int) × Int)), acL o ≤ i → L4 b l F o i = some (.ret (acO stV 0 3 (acA o (spR F (l.drop i) i))), [], 0, []) := by
  refine down_ind l.length ?_ fun i hi ih o ho => ?_
  · intro o ho
    unfold L4
    rw [loopEq]
    have h1 := idx_out l.length
    cases o with
    | none =>
      simp -implicitDefEqProofs only [go_sem, simprocAttr, h1]
      simp [acA, acO, spR]
    | some a =>
      simp -implicitDefEqProofs only [go_sem, simprocAttr, h1]
      simp [acA, acO, spR]
  · obtain ⟨h1, h2, h3, h4, h5⟩ := idx_in hi (by omega)
    obtain ⟨f1, f2, f3, f4, f5⟩ := idx_in (l := F) (i := i) (by omega) (by omega)
    rw [h5]
    simp only [spR]
    rw [gD (show i < F.length by omega)]
    have hE := idx_out l.length
    cases h6 : (F[i] != (i : Int))
    · have h7 : F[i] = (i : Int) := by simpa using h6
      rw [if_pos h7]
      have e1 := L5_eq b l hl F hF o i 0 (by omega) 0 (by omega)
      rw [Nat.zero_add, List.drop_zero] at e1
      have ih' := ih (acA o [(l[i], (cntI F i : Int))]) (by rw [acL_A]; simp; omega)
      rw [acA_acA] at ih'
      simp only [List.cons_append, List.nil_append] at ih'
      have e2 : L5 b l F o i (cntI F i) l.length = L4 b l F (acA o [(l[i], (cntI F i : Int))]) (i + 1) := by
        unfold L5
        rw [loopEq]
        unfold L4
        cases o with
        | none =>
          have h8 := row_ok (n := 0) (by omega)
          simp only [acA_n, acV_s, acR_s, List.map_cons, List.map_nil, stV]
          simp -implicitDefEqProofs only [go_sem, simprocAttr, hE, h2, h3, h4, h8.2]
        | some a =>
          have h9 : a.length ≤ i := ho
          have h8 := (row_ok (n := a.length) (by omega)).1
          simp only [acA_s, acV_s, acR_s, List.map_append, List.map_cons, List.map_nil, stV]
          simp -implicitDefEqProofs only [go_sem, simprocAttr, hE, h2, h3, h4, h8]
      rw [e2, ih'] at e1
      unfold L4
      rw [loopEq]
      unfold L5 at e1
      rw [show ((0 : Nat) : Int) = 0 from rfl] at e1
      cases o with
      | none =>
        simp only [acV_n, acR_n] at e1
        simp -implicitDefEqProofs only [go_sem, simprocAttr, h1, h2, h3, h4, f1, f2, f3, f4, h6, e1]
      | some a =>
        simp only [acV_s, acR_s] at e1
        simp -implicitDefEqProofs only [go_sem, simprocAttr, h1, h2, h3, h4, f1, f2, f3, f4, h6, e1]
    · have h7 : ¬ F[i] = (i : Int) := by simpa using h6
      rw [if_neg h7]
      have ih' := ih o (by omega)
      unfold L4 at ih' ⊢
      rw [loopEq]
      cases o with
      | none =>
        simp only [acV_n, acR_n] at ih'
        simp -implicitDefEqProofs only [go_sem, simprocAttr, h1, h2, h3, h4, f1, f2, f3, f4, h6, ih']
      | some a =>
        simp only [acV_s, acR_s] at ih'
        simp -implicitDefEqProofs only [go_sem, simprocAttr, h1, h2, h3, h4, f1, f2, f3, f4, h6, ih']
def stZ (F : List Int) (i : Nat) : List Int := F.set i (i : Int)
theorem stZ_fin (n : Nat) : ∀ i, i ≤ n → ∀ F : List Int, F.length = n → fF stZ n i F = F.take i ++ (List.range' i (n - i)).map fun j : Nat => (j : Int) := by
  refine down_ind n ?_ fun i hi ih => ?_
  · intro F hF; rw [fF_n, Nat.sub_self, List.range'_zero, List.map_nil, List.append_nil, List.take_of_length_le (by omega)]
  · intro F hF
    rw [fF_s _ hi, ih _ (by simp [stZ, hF])]
    rw [show n - i = (n - (i + 1)) + 1 by omega, List.range'_succ, List.map_cons]
    have : (stZ F i).take (i + 1) = F.take i ++ [(i : Int)] := by
      unfold stZ
      rw [List.take_succ_eq_append_getElem (by simp; omega), List.take_set_of_le (by omega)]
      simp
    rw [this, List.append_assoc]; rfl
theorem stZ_ini (n : Nat) : fF stZ n 0 (List.replicate n 0) = (List.range n).map fun j : Nat => (j : Int) := by
  rw [stZ_fin n 0 (by omega) _ (by simp), List.take_zero, List.nil_append, Nat.sub_zero, List.range_eq_range']
def L0 (b : Bool) (l : List (Int × Int)) (F : List Int) (i : Nat) : Option Out :=
  (lim T).loop false [.code (.loop b62_0), .inBlock 0, .code (.seq (.seq r62_7 (.block 2 (.loop b62_1))) (.seq r62_18 (.seq (.seq r62_19 (.block 8 (.loop b62_4))) (.seq r62_30 .ret))))] ⟨62, 106, 0, [(5, .sl b 2 (l.map ptV)), (6, .ref 0), (7, .int .i64 i)], [.cells false true 3 (F.map intV)], 0, []⟩
theorem L0_eq (b : Bool) (l : List (Int × Int)) (hl : l.length < 100000) : ∀ i, i ≤ l.length → ∀ F : List Int, F.length = l.length → L0 b l F i = L0 b l (fF stZ l.length i F) l.length := by
  refine down_ind l.length ?_ fun i hi ih => ?_
  · intro F hF; rw [fF_n]
  · intro F hF
    rw [fF_s _ hi, ← ih _ (by simp [stZ, hF])]
    obtain ⟨h1, h2, h3, h4, h5⟩ := idx_in hi (by omega)
    obtain ⟨f1, f2, f3, f4, f5⟩ := idx_in (l := F) (i := i) (by omega) (by omega)
    have em : List.map intV (stZ F i) = (List.map intV F).set i (.int .i64 i) := by unfold stZ; rw [List.map_set]; rfl
    conv => lhs; unfold L0; rw [loopEq]
    unfold L0
    rw [em]
    simp -implicitDefEqProofs only [go_sem, simprocAttr, h1, h2, h3, h4, f1, f2, f3, f4]
theorem hotE_in (w m : Int) (hw : 1 ≤ w ∧ w ≤ 16) : ∀ (us : List Int) (i : Nat), ∀ x ∈ hotE w m us i, ∃ j : Nat, i ≤ j ∧ j < i + us.length ∧ x = ((j : Int).tmod w, (j : Int).tdiv w) := by
  intro us
  induction us with
  | nil => intro i x hx; simp [hotE] at hx
  | cons u r ih =>
    intro i x hx
    simp only [hotE] at hx
    have rec_ : x ∈ hotE w m r (i + 1) → ∃ j : Nat, i ≤ j ∧ j < i + (u :: r).length ∧ x = ((j : Int).tmod w, (j : Int).tdiv w) := by
      intro h
      obtain ⟨j, h1, h2, h3⟩ := ih (i + 1) x h
      exact ⟨j, by omega, by simp; omega, h3⟩
    split at hx
    · rcases List.mem_cons.1 hx with rfl | h
      · exact ⟨i, by omega, by simp, rfl⟩
      · exact rec_ h
    · exact rec_ hx
theorem hotE_len (w m : Int) : ∀ (us : List Int) (i : Nat), (hotE w m us i).length ≤ us.length := by
  intro us
  induction us with
  | nil => intro i; simp [hotE]
  | cons u r ih =>
    intro i
    simp only [hotE]
    have := ih (i + 1)
    split <;> simp <;> omega
theorem hot_sm (p : Pc) (n : Int) (hp : p.ok) : ∀ x ∈ hotL p n, sm x := by
  intro x hx
  obtain ⟨j, h1, h2, rfl⟩ := hotE_in p.w _ hp.w _ _ x hx
  have hl := hp.len
  have hul : (us p.l).length = p.l.length := by simp [us]
  have h3 := Int.tmod_nonneg (a := (j : Int)) p.w (by omega)
  have h4 := Int.tmod_lt_of_pos (j : Int) (show 0 < p.w by have := hp.w; omega)
  have h5 := Int.tdiv_nonneg (a := (j : Int)) (b := p.w) (by omega) (by have := hp.w; omega)
  have h6 := Int.tdiv_le_self (a := (j : Int)) p.w (by omega)
  have := hp.w
  exact ⟨h3, by simp only; omega, h5, by simp only; omega⟩
theorem hot_len (p : Pc) (n : Int) (hp : p.ok) : (hotL p n).length ≤ 256 := by
  have h1 := hotE_len p.w (med (us p.l) + n) (us p.l) 0
  have hul : (us p.l).length = p.l.length := by simp [us]
  have hl := hp.len
  unfold hotL; omega
theorem c62 (p : Pc) (n : Int) (hp : p.ok) (hn : rng n 1 16384 = 0) : (lim T).call 62 [pcV p, .int .i64 n] [] 0 [] = some (slV 3 ((refS (hotL p n)).map stV), [], 0, []) := by
  have e1 := c61 p n hp hn
  have hs := hot_sm p n hp
  have hl := hot_len p n hp
  generalize hh : hotL p n = l at *
  have hE := idx_out l.length
  have key : ∀ b, L0 b l (List.replicate l.length 0) 0 = some (.ret (slV 3 ((refS l).map stV)), [], 0, []) := by
    intro b
    rw [L0_eq b l (by omega) 0 (by omega) _ (by simp), stZ_ini]
    have e2 := L1_eq b l (by omega) hs 0 (by omega) ((List.range l.length).map fun j : Nat => (j : Int)) (by simp)
    have e3 := L4_eq b l (by omega) (finF l) (finF_len l) 0 (by omega) none (by simp [acL])
    rw [List.drop_zero, acO_slV] at e3
    have e4 : L1 b l (finF l) l.length = some (.ret (slV 3 ((refS l).map stV)), [], 0, []) := by
      unfold L1 K1
      rw [loopEq]
      unfold L4 at e3
      rw [show ((0 : Nat) : Int) = 0 from rfl] at e3
      simp only [acV_n, acR_n] at e3
      simp -implicitDefEqProofs only [go_sem, simprocAttr, hE, e3, refS]
    rw [show fF (stR l) l.length 0 ((List.range l.length).map fun j : Nat => (j : Int)) = finF l from rfl, e4] at e2
    unfold L0
    rw [loopEq]
    unfold L1 K1 at e2
    rw [show ((0 : Nat) : Int) = 0 from rfl] at e2
    simp -implicitDefEqProofs only [go_sem, simprocAttr, hE, e2]
  have d1 : decide (0 ≤ (l.length : Int) ∧ (l.length : Int) ≤ (l.length : Int) ∧ (l.length : Int) < (maxRow : Int)) = true := decide_eq_true ⟨by omega, by omega, by unfold maxRow; omega⟩
  have key2 := key (!(l.map ptV).isEmpty)
  unfold L0 at key2
  rw [show ((0 : Nat) : Int) = 0 from rfl] at key2
  have er : List.map intV (List.replicate l.length 0) = List.replicate l.length (V.int .i64 0) := by simp [intV]
  rw [er] at key2
  simp only [pcV] at e1 ⊢
  rw [ent62]
  simp -implicitDefEqProofs only [go_sem, simprocAttr, e1, d1, key2]
end Go.Den.FaT
namespace Go.Den.FaU
open Go Go.Proofs Go.Den Go.Den.FaT Go.Den.FaF
@[go_sem] theorem callP_d {ih : Ih} {f : Nat} {args : List V} {k : V → Prog} (h : FaU.T.byref f = false) (h' : FaU.T.prim f = some (den2 FaT.T f)) : callP ih FaU.T f args k = stowLP FaU.T args fun args => needP (!yldL args) <| optP (den2 FaT.T f args) fun v => toP (resK FaU.T f v fun v => some (k v)) := by
  unfold callP
  rw [h]
  simp only [h']
@[go_sem] theorem callP_183 {ih : Ih} {args : List V} {k : V → Prog} : callP ih FaU.T 183 args k = stowLP FaU.T args fun args => needP (!yldL args) <| optP (medV args) fun v => toP (resK FaU.T 183 v fun v => some (k v)) := callP_p _ _ _ _ _ fct183.1 medV fct183.2.1
attribute [go_sem] shArgs shD
@[go_sem] theorem e2_16 (vs : List V) : den2 FaT.T 16 vs = shArgs FaT.T [] vs fun r => need (pureL r) (den FaT.T 16 r) := den2_eq (fn := Tryz.f16) (by kernel_rfl) (by kernel_rfl) vs
@[go_sem] theorem e2_30 (vs : List V) : den2 FaT.T 30 vs = shArgs FaT.T [28] vs fun r => need (pureL r) (den FaT.T 30 r) := den2_eq (fn := Tryz.f30) (by kernel_rfl) (by kernel_rfl) vs
@[go_sem] theorem e2_35 (vs : List V) : den2 FaT.T 35 vs = shArgs FaT.T [48, 29, 3, 48] vs fun r => need (pureL r) (den FaT.T 35 r) := den2_eq (fn := Tryz.f35) (by kernel_rfl) (by kernel_rfl) vs
@[go_sem] theorem e2_55 (vs : List V) : den2 FaT.T 55 vs = shArgs FaT.T [82] vs fun r => need (pureL r) (den FaT.T 55 r) := den2_eq (fn := Tryz.f55) (by kernel_rfl) (by kernel_rfl) vs
@[go_sem] theorem e2_57 (vs : List V) : den2 FaT.T 57 vs = shArgs FaT.T [82] vs fun r => need (pureL r) (den FaT.T 57 r) := den2_eq (fn := Tryz.f57) (by kernel_rfl) (by kernel_rfl) vs
@[go_sem] theorem e2_59 (vs : List V) : den2 FaT.T 59 vs = shArgs FaT.T [82] vs fun r => need (pureL r) (den FaT.T 59 r) := den2_eq (fn := Tryz.f59) (by kernel_rfl) (by kernel_rfl) vs
@[go_sem] theorem e2_60 (vs : List V) : den2 FaT.T 60 vs = shArgs FaT.T [3] vs fun r => need (pureL r) (den FaT.T 60 r) := den2_eq (fn := Tryz.f60) (by kernel_rfl) (by kernel_rfl) vs
@[go_sem] theorem e2_61 (vs : List V) : den2 FaT.T 61 vs = shArgs FaT.T [82, 3] vs fun r => need (pureL r) (den FaT.T 61 r) := den2_eq (fn := Tryz.f61) (by kernel_rfl) (by kernel_rfl) vs
@[go_sem] theorem e2_62 (vs : List V) : den2 FaT.T 62 vs = shArgs FaT.T [82, 3] vs fun r => need (pureL r) (den FaT.T 62 r) := den2_eq (fn := Tryz.f62) (by kernel_rfl) (by kernel_rfl) vs
@[go_sem] theorem e2_63 (vs : List V) : den2 FaT.T 63 vs = shArgs FaT.T [85] vs fun r => need (pureL r) (den FaT.T 63 r) := den2_eq (fn := Tryz.f63) (by kernel_rfl) (by kernel_rfl) vs
@[go_sem] theorem e2_64 (vs : List V) : den2 FaT.T 64 vs = shArgs FaT.T [92, 92] vs fun r => need (pureL r) (den FaT.T 64 r) := den2_eq (fn := Tryz.f64) (by kernel_rfl) (by kernel_rfl) vs
@[go_sem] theorem e2_65 (vs : List V) : den2 FaT.T 65 vs = shArgs FaT.T [87] vs fun r => need (pureL r) (den FaT.T 65 r) := den2_eq (fn := Tryz.f65) (by kernel_rfl) (by kernel_rfl) vs
@[go_sem] theorem e2_150 (vs : List V) : den2 FaT.T 150 vs = shArgs FaT.T [85, 3] vs fun r => need (pureL r) (den FaT.T 150 r) := den2_eq (fn := Tryz.f150) (by kernel_rfl) (by kernel_rfl) vs
@[go_sem] theorem e2_152 (vs : List V) : den2 FaT.T 152 vs = shArgs FaT.T [100, 100] vs fun r => need (pureL r) (den FaT.T 152 r) := den2_eq (fn := Tryz.f152) (by kernel_rfl) (by kernel_rfl) vs
@[go_sem] theorem e2_153 (vs : List V) : den2 FaT.T 153 vs = shArgs FaT.T [225, 234] vs fun r => need (pureL r) (den FaT.T 153 r) := den2_eq (fn := Tryz.f153) (by kernel_rfl) (by kernel_rfl) vs
@[go_sem] theorem e2_213 (vs : List V) : den2 FaT.T 213 vs = shArgs FaT.T [80, 235] vs fun r => need (pureL r) (den FaT.T 213 r) := den2_eq (fn := Tryz.f213) (by kernel_rfl) (by kernel_rfl) vs
@[go_sem] theorem e2_327 (vs : List V) : den2 FaT.T 327 vs = shArgs FaT.T [100] vs fun r => need (pureL r) (den FaT.T 327 r) := den2_eq (fn := Tryz.f327) (by kernel_rfl) (by kernel_rfl) vs
@[go_sem] theorem e2_328 (vs : List V) : den2 FaT.T 328 vs = shArgs FaT.T [100] vs fun r => need (pureL r) (den FaT.T 328 r) := den2_eq (fn := Tryz.f328) (by kernel_rfl) (by kernel_rfl) vs
@[go_sem] theorem e2_329 (vs : List V) : den2 FaT.T 329 vs = shArgs FaT.T [100] vs fun r => need (pureL r) (den FaT.T 329 r) := den2_eq (fn := Tryz.f329) (by kernel_rfl) (by kernel_rfl) vs
@[go_sem] theorem e2_330 (vs : List V) : den2 FaT.T 330 vs = shArgs FaT.T [100] vs fun r => need (pureL r) (den FaT.T 330 r) := den2_eq (fn := Tryz.f330) (by kernel_rfl) (by kernel_rfl) vs
@[go_sem] theorem globU : FaU.T.glob 0 = some [.str [110, 111, 110, 101], .fn 327 [], .str [111, 110, 101], .fn 328 [], .str [116, 119, 111], .fn 329 [], .str [116, 104, 114, 101, 101], .fn 330 []] := by kernel_rfl
theorem de {f : Nat} {args : List V} {v : V} {fn : Func} (h1 : FaT.T.byref f = false) (h2 : FaT.T.prim f = none) (h3 : FaT.T.fn f = some fn) (h4 : (lim FaT.T).call f args [] 0 [] = some (v, [], 0, [])) : den FaT.T f args = some v := den_of h1 h2 h3 h4
theorem d327 : den FaT.T 327 [.agg [.int .i64 1, .int .i64 0]] = some (.agg [.int .i64 1, .int .i64 0]) := de (fn := Tryz.f327) (by kernel_rfl) (by kernel_rfl) (by kernel_rfl) (lim_call.2 ⟨200, by kernel_rfl⟩)
theorem d328 : den FaT.T 328 [.agg [.int .i64 1, .int .i64 0]] = some (.agg [.int .i64 0, .int .i64 1]) := de (fn := Tryz.f328) (by kernel_rfl) (by kernel_rfl) (by kernel_rfl) (lim_call.2 ⟨200, by kernel_rfl⟩)
theorem d329 : den FaT.T 329 [.agg [.int .i64 1, .int .i64 0]] = some (.agg [.int .i64 (-1), .int .i64 0]) := de (fn := Tryz.f329) (by kernel_rfl) (by kernel_rfl) (by kernel_rfl) (lim_call.2 ⟨200, by kernel_rfl⟩)
theorem d330 : den FaT.T 330 [.agg [.int .i64 1, .int .i64 0]] = some (.agg [.int .i64 0, .int .i64 (-1)]) := de (fn := Tryz.f330) (by kernel_rfl) (by kernel_rfl) (by kernel_rfl) (lim_call.2 ⟨200, by kernel_rfl⟩)
theorem d152 (a b c d : Int) : den FaT.T 152 [.agg [.int .i64 a, .int .i64 b], .agg [.int .i64 c, .int .i64 d]] = some (.agg [.int .i64 (IntKind.i64.wrap (a + c)), .int .i64 (IntKind.i64.wrap (b + d))]) := de (fn := Tryz.f152) (by kernel_rfl) (by kernel_rfl) (by kernel_rfl) (c152 a b c d)
theorem d150 (p : Pc) (n : Int) (hl : p.l.length < 1000000) : den FaT.T 150 [pcV p, .int .i64 n] = some (.int .i64 (fnz [ckPic p, rng n 1 16384])) := de (fn := Tryz.f150) (by kernel_rfl) (by kernel_rfl) (by kernel_rfl) (c150 p n hl)
theorem d213 (b : Bool) (l : List Nat) (hb : l.length < 1000000) (hu : ∀ x ∈ l, ckX x = 0) : den FaT.T 213 [.sl b 1 (l.map fV), .fn 214 []] = some (slV 1 ((l.map fun x => unX x).map intV)) := de (fn := Tryz.f213) (by kernel_rfl) (by kernel_rfl) (by kernel_rfl) (c213 b l hb hu)
theorem d153 (b : Bool) (l : List ((Int × Int) × List (Int × Int))) (hb : l.length < 1000000) : den FaT.T 153 [.sl b 4 (l.map joV), .fn 154 []] = some (slV 3 ((l.map fun x => (x.1, (x.2.length : Int))).map stV)) := de (fn := Tryz.f153) (by kernel_rfl) (by kernel_rfl) (by kernel_rfl) (c153 b l hb)
theorem loop151 (p : Pc) (n : Int) (hp : p.ok) (b : Bool) (l : List Int) (hl : l.length = p.l.length) (m : Int) (hm : m + n ≤ 1000000 ∧ -1000000 ≤ m + n) : ∀ i, i ≤ l.length → ∀ o : Option (List (Int × Int)), acL o ≤ i →
    (lim T).loop false [.code (.loop b151_0), .inBlock 0, .code (.seq r151_10 .ret)] ⟨151, 41, 0, [(1, .int .i64 n), (2, .ptr 0 0 0), (6, .int .i64 m), (7, acV o 1), (15, .sl b 1 (l.map intV)), (16, .int .i64 l.length), (17, .int .i64 i)], .cells true true 85 [pcV p] :: acR ptV o 100, 0, []⟩ =
      some (.ret (acO ptV 0 2 (acA o (hotE p.w (m + n) (l.drop i) i))), [], 0, []) := by
  have hl2 := hp.len
  have hw := hp.w
  refine down_ind l.length ?_ fun i hi ih o ho => ?_
  · intro o ho
    rw [loopEq]
    have h1 := idx_out l.length
    cases o with
    | none =>
      simp -implicitDefEqProofs only [go_sem, simprocAttr, h1]
      simp [acA, acO, hotE]
    | some a =>
      simp -implicitDefEqProofs only [go_sem, simprocAttr, h1]
      simp [acA, acO, hotE]
  · obtain ⟨h1, h2, h3, h4, h5⟩ := idx_in hi (by omega)
    rw [loopEq, h5]
    have w1 : IntKind.i64.wrap (m + n) = m + n := by rw [wrap64] <;> omega
    have hd0 : 0 ≤ (i : Int).tdiv p.w := Int.tdiv_nonneg (by omega) (by omega)
    have hd1 : (i : Int).tdiv p.w ≤ i := Int.tdiv_le_self _ (by omega)
    have w2 : IntKind.i64.wrap ((i : Int).tdiv p.w) = (i : Int).tdiv p.w := by rw [wrap64] <;> omega
    have hz : (!(p.w == 0)) = true := by simp; omega
    cases h6 : decide (m + n ≤ l[i])
    · have h7 : ¬ m + n ≤ l[i] := by simpa using h6
      have ih' := ih o (by omega)
      simp only [hotE, h7, if_false]
      simp only [pcV] at ih' ⊢
      cases o with
      | none =>
        simp only [acV_n, acR_n] at ih'
        simp -implicitDefEqProofs only [go_sem, simprocAttr, h1, h2, h3, h4, w1, h6, ih']
      | some a =>
        simp only [acV_s, acR_s] at ih'
        simp -implicitDefEqProofs only [go_sem, simprocAttr, h1, h2, h3, h4, w1, h6, ih']
    · have h7 : m + n ≤ l[i] := by simpa using h6
      have ih' := ih (acA o [((i : Int).tmod p.w, (i : Int).tdiv p.w)]) (by rw [acL_A]; simp; omega)
      rw [acA_acA] at ih'
      simp only [hotE, h7, if_true]
      simp only [pcV, List.cons_append, List.nil_append] at ih' ⊢
      cases o with
      | none =>
        have h8 := row_ok (n := 0) (by omega)
        simp only [acA_n, acV_s, acR_s, List.map_cons, List.map_nil, ptV] at ih'
        simp -implicitDefEqProofs only [go_sem, simprocAttr, h1, h2, h3, h4, w1, w2, hz, h6, ih', h8.2]
      | some a =>
        have h9 : a.length ≤ i := ho
        have h8 := (row_ok (n := a.length) (by omega)).1
        simp only [acA_s, acV_s, acR_s, List.map_append, List.map_cons, List.map_nil, ptV] at ih'
        simp -implicitDefEqProofs only [go_sem, simprocAttr, h1, h2, h3, h4, w1, w2, hz, h6, ih', h8]
theorem medV_eq (b : Bool) (l : List Int) (hl : l.length < 1000000) (h0 : 0 < l.length) : medV [.sl b 1 (l.map intV)] = some (.int .i64 (med l)) := by
  have e2 : intsOf (l.map intV) = some l := intsOf_map l
  have e3 : Nat.blt l.length 1000000 = true := by simpa [Nat.blt_eq] using hl
  have e4 : Nat.blt 0 l.length = true := by simpa [Nat.blt_eq] using h0
  simp only [medV, e2, e3, e4, Bool.and_self]
theorem c151 (p : Pc) (n : Int) (hp : p.ok) (hn : rng n 1 16384 = 0) : (lim T).call 151 [pcV p, .int .i64 n] [] 0 [] = some (slV 2 ((hotL p n).map ptV), [], 0, []) := by
  have hl := hp.len
  have hul : (us p.l).length = p.l.length := by simp [us]
  have hne : us p.l ≠ [] := by
    intro h; have := congrArg List.length h; simp [us] at this; rw [this] at hl; simp at hl
  have hb := un_b hp _ (med_mem hne)
  have hr := rng_in hn
  have hh : hotE p.w (med (us p.l) + n) (us p.l) 0 = hotL p n := rfl
  have hie : (List.map intV (us p.l)).isEmpty = false := by
    obtain ⟨x, r, hx⟩ := List.exists_cons_of_ne_nil hne
    rw [hx]; rfl
  have e2 := fun b => loop151 p n hp b (us p.l) (by simp [us]) (med (us p.l)) (by omega) 0 (by omega) none (by simp [acL])
  rw [show ((0 : Nat) : Int) = 0 from rfl, List.drop_zero, acO_slV, hh] at e2
  have e3 := fun b => medV_eq b (us p.l) (by omega) (by omega)
  have e4 := d213 p.b p.l (by omega) hp.x
  rw [show (p.l.map fun x => unX x) = us p.l from rfl] at e4
  simp only [acV_n, acR_n, pcV] at e2 ⊢
  rw [ent151]
  simp -implicitDefEqProofs only [go_sem, simprocAttr, e4, hie, e3, e2]
@[go_sem] theorem fct327 : Fct T 327 false (some (den2 FaT.T 327)) false := ⟨by kernel_rfl, by kernel_rfl, by kernel_rfl⟩
@[go_sem] theorem res327 : Res1 T 327 100 := res1 T (F := Tryz.f327) (by kernel_rfl) (by kernel_rfl)
@[go_sem] theorem fct328 : Fct T 328 false (some (den2 FaT.T 328)) false := ⟨by kernel_rfl, by kernel_rfl, by kernel_rfl⟩
@[go_sem] theorem res328 : Res1 T 328 100 := res1 T (F := Tryz.f328) (by kernel_rfl) (by kernel_rfl)
@[go_sem] theorem fct329 : Fct T 329 false (some (den2 FaT.T 329)) false := ⟨by kernel_rfl, by kernel_rfl, by kernel_rfl⟩
@[go_sem] theorem res329 : Res1 T 329 100 := res1 T (F := Tryz.f329) (by kernel_rfl) (by kernel_rfl)
@[go_sem] theorem fct330 : Fct T 330 false (some (den2 FaT.T 330)) false := ⟨by kernel_rfl, by kernel_rfl, by kernel_rfl⟩
@[go_sem] theorem res330 : Res1 T 330 100 := res1 T (F := Tryz.f330) (by kernel_rfl) (by kernel_rfl)
def kv (p : Int × Int) : V × V := (ptV p, .bool true)
theorem eq100 (a b : Int × Int) : eqT T 5 100 (ptV a) (ptV b) = some (a.1 == b.1 && a.2 == b.2) := by
  simp -implicitDefEqProofs only [go_sem, simprocAttr]
theorem key100 (a : Int × Int) : keyOk T 3 100 (ptV a) = true := by kernel_rfl
theorem pbeq (a b : Int × Int) : (a.1 == b.1 && a.2 == b.2) = decide (a = b) := by
  rw [Bool.eq_iff_iff, decide_eq_true_iff]
  constructor
  · exact pair_eq a b
  · rintro rfl; simp
theorem getKv (L : List (Int × Int)) (x : Int × Int) : mapGet (eqT T 5 100) (L.map kv) (ptV x) = some (cond (decide (x ∈ L)) (some (.bool true)) none) := by
  induction L with
  | nil => rfl
  | cons c L ih =>
    simp only [List.map_cons, kv, mapGet, eq100, pbeq]
    by_cases h : x = c
    · simp [h]
    · simp only [h, decide_false, List.mem_cons, false_or]
      simpa [kv] using ih
theorem delKv (L : List (Int × Int)) (x : Int × Int) : mapDel (eqT T 5 100) (L.map kv) (ptV x) = some ((L.erase x).map kv) := by
  induction L with
  | nil => rfl
  | cons c L ih =>
    simp only [List.map_cons, kv, mapDel, eq100, pbeq]
    by_cases h : x = c
    · subst h; simp [kv]
    · have h' : (c == x) = false := by simpa using fun e => h e.symm
      simp only [h, decide_false, List.erase_cons, h']
      have ih' : mapDel (eqT T 5 100) (List.map kv L) (ptV x) = some ((L.erase x).map kv) := ih
      simp only [ih']
      rfl
section
variable (T' : Tab)
def delP (T : Tab) (d : TD) (m x : V) (k : Prog) : Prog := match d, m with
  | .map kt _, .map id => needP (keyOk T 3 kt x) (.get id (mapRowP fun es => optP (mapDel (eqT T 5 kt) es x) fun es' => .set id (.map es') k))
  | _, _ => .fail
@[go_sem] theorem bi_delete (t : TypeId) (ts : List TypeId) (m x : V) (k : V → Prog) : builtinP T' .delete (t :: ts) [m, x] k = delP T' (T'.td t) m x (k (.tup [])) := by
  cases m with
  | map id =>
    simp only [builtinP, delP]
    cases T'.td t <;> rfl
  | _ => simp only [builtinP, delP] <;> (cases T'.td t <;> rfl)
@[go_sem] theorem delP_m (kt e : TypeId) (id : Nat) (x : V) (k : Prog) : delP T' (.map kt e) (.map id) x k = needP (keyOk T' 3 kt x) (.get id (mapRowP fun es => optP (mapDel (eqT T' 5 kt) es x) fun es' => .set id (.map es') k)) := rfl
end
def stT (q : Int × Int) (s : List (Int × Int) × List (Int × Int)) (t : Int × Int) : List (Int × Int) × List (Int × Int) :=
  if (q.1 + t.1, q.2 + t.2) ∈ s.1 then (s.1.erase (q.1 + t.1, q.2 + t.2), s.2 ++ [(q.1 + t.1, q.2 + t.2)]) else s
def kO (o : Option (List ((Int × Int) × List (Int × Int)))) : Nat := match o with | none => 1 | some _ => 2
def HH (o : Option (List ((Int × Int) × List (Int × Int)))) (L : List (Int × Int)) (x : Int × Int) (P : List (Int × Int)) : Heap := match o with
  | none => [.map (L.map kv), .cells true false 227 [.agg [.int .i64 x.1, .int .i64 x.2, .int .i64 0, .ref 2]], .cells false true 100 (P.map ptV)]
  | some a => [.map (L.map kv), .cells false true 227 (a.map joV), .cells true false 227 [.agg [.int .i64 x.1, .int .i64 x.2, .int .i64 0, .ref 3]], .cells false true 100 (P.map ptV)]
def KS : List Item := [.inBlock 4, .code (.seq r58_29 r58_30), .inBlock 3, .code r58_31, .inLoop b58_1, .inBlock 2, .code (.seq r58_32 .ret)]
def M3 (b : Bool) (l : List (Int × Int)) (m : Nat) (o : Option (List ((Int × Int) × List (Int × Int)))) (L : List (Int × Int)) (x : Int × Int) (P : List (Int × Int)) (i : Nat) (j : Int) : Option Out :=
  (lim T).loop false (.code (.loop b58_3) :: .inBlock 6 :: .inBlock 5 :: .code r58_20 :: .inLoop b58_2 :: KS) ⟨58, 100, 0, [(8, .map 0), (11, acV o 1), (14, .ptr (kO o) 0 0), (15, .int .i64 i), (38, .sl b 2 (l.map ptV)), (39, .int .i64 l.length), (40, .int .i64 m), (62, .agg [.str [110, 111, 110, 101], .fn 327 [], .str [111, 110, 101], .fn 328 [], .str [116, 119, 111], .fn 329 [], .str [116, 104, 114, 101, 101], .fn 330 []]), (63, .int .i64 j)], HH o L x P, 0, []⟩
theorem M3_0 (b : Bool) (l : List (Int × Int)) (m : Nat) (o : Option (List ((Int × Int) × List (Int × Int)))) (L : List (Int × Int)) (x : Int × Int) (P : List (Int × Int)) (i : Nat) (hi : i < P.length) (hP : P.length < 100000) (q : Int × Int) (hq : P[i] = q) (hs : sm q) :
    M3 b l m o L x P i 0 = M3 b l m o (stT q (L, P) (1, 0)).1 x (stT q (L, P) (1, 0)).2 i 1 := by
  obtain ⟨h1, h2, h3, h4, h5⟩ := idx_in hi (by omega)
  rw [hq] at h3
  obtain ⟨a1, a2, a3, a4⟩ := hs
  have w1 : IntKind.i64.wrap (q.1 + 1) = q.1 + 1 := by rw [wrap64] <;> omega
  have w2 : IntKind.i64.wrap (q.2 + 0) = q.2 + 0 := by rw [wrap64] <;> omega
  have h8 := (row_ok (n := P.length) (by omega)).1
  have wj : IntKind.i64.wrap 1 = 1 := by decide
  have g := getKv L (q.1 + 1, q.2 + 0)
  have kk := key100 (q.1 + 1, q.2 + 0)
  have dl := delKv L (q.1 + 1, q.2 + 0)
  conv => lhs; unfold M3; rw [loopEq]
  by_cases hm : (q.1 + 1, q.2 + 0) ∈ L
  · have e0 : stT q (L, P) (1, 0) = (L.erase (q.1 + 1, q.2 + 0), P ++ [(q.1 + 1, q.2 + 0)]) := by unfold stT; rw [if_pos hm]
    rw [e0]
    rw [decide_eq_true hm, cond_true] at g
    simp only [ptV, Int.add_zero] at g kk dl w1 w2 ⊢
    unfold M3
    cases o with
    | none =>
      simp only [HH, kO, acV_n, List.map_append, List.map_cons, List.map_nil, ptV]
      simp -implicitDefEqProofs only [go_sem, simprocAttr, h1, h2, h3, w1, w2, h8, g, kk, wj, Int.add_zero, dl, d327, d152]
    | some a =>
      simp only [HH, kO, acV_s, List.map_append, List.map_cons, List.map_nil, ptV]
      simp -implicitDefEqProofs only [go_sem, simprocAttr, h1, h2, h3, w1, w2, h8, g, kk, wj, Int.add_zero, dl, d327, d152]
  · have e0 : stT q (L, P) (1, 0) = (L, P) := by unfold stT; rw [if_neg hm]
    rw [e0]
    rw [decide_eq_false hm, cond_false] at g
    simp only [ptV, Int.add_zero] at g kk dl w1 w2 ⊢
    unfold M3
    cases o with
    | none =>
      simp only [HH, kO, acV_n]
      simp -implicitDefEqProofs only [go_sem, simprocAttr, h1, h2, h3, w1, w2, h8, g, kk, wj, Int.add_zero, d327, d152]
    | some a =>
      simp only [HH, kO, acV_s]
      simp -implicitDefEqProofs only [go_sem, simprocAttr, h1, h2, h3, w1, w2, h8, g, kk, wj, Int.add_zero, d327, d152]
theorem M3_1 (b : Bool) (l : List (Int × Int)) (m : Nat) (o : Option (List ((Int × Int) × List (Int × Int)))) (L : List (Int × Int)) (x : Int × Int) (P : List (Int × Int)) (i : Nat) (hi : i < P.length) (hP : P.length < 100000) (q : Int × Int) (hq : P[i] = q) (hs : sm q) :
    M3 b l m o L x P i 1 = M3 b l m o (stT q (L, P) (0, 1)).1 x (stT q (L, P) (0, 1)).2 i 2 := by
  obtain ⟨h1, h2, h3, h4, h5⟩ := idx_in hi (by omega)
  rw [hq] at h3
  obtain ⟨a1, a2, a3, a4⟩ := hs
  have w1 : IntKind.i64.wrap (q.1 + 0) = q.1 + 0 := by rw [wrap64] <;> omega
  have w2 : IntKind.i64.wrap (q.2 + 1) = q.2 + 1 := by rw [wrap64] <;> omega
  have h8 := (row_ok (n := P.length) (by omega)).1
  have wj : IntKind.i64.wrap 2 = 2 := by decide
  have g := getKv L (q.1 + 0, q.2 + 1)
  have kk := key100 (q.1 + 0, q.2 + 1)
  have dl := delKv L (q.1 + 0, q.2 + 1)
  conv => lhs; unfold M3; rw [loopEq]
  by_cases hm : (q.1 + 0, q.2 + 1) ∈ L
  · have e0 : stT q (L, P) (0, 1) = (L.erase (q.1 + 0, q.2 + 1), P ++ [(q.1 + 0, q.2 + 1)]) := by unfold stT; rw [if_pos hm]
    rw [e0]
    rw [decide_eq_true hm, cond_true] at g
    simp only [ptV, Int.add_zero] at g kk dl w1 w2 ⊢
    unfold M3
    cases o with
    | none =>
      simp only [HH, kO, acV_n, List.map_append, List.map_cons, List.map_nil, ptV]
      simp -implicitDefEqProofs only [go_sem, simprocAttr, h1, h2, h3, w1, w2, h8, g, kk, wj, Int.add_zero, dl, d328, d152]
    | some a =>
      simp only [HH, kO, acV_s, List.map_append, List.map_cons, List.map_nil, ptV]
      simp -implicitDefEqProofs only [go_sem, simprocAttr, h1, h2, h3, w1, w2, h8, g, kk, wj, Int.add_zero, dl, d328, d152]
  · have e0 : stT q (L, P) (0, 1) = (L, P) := by unfold stT; rw [if_neg hm]
    rw [e0]
    rw [decide_eq_false hm, cond_false] at g
    simp only [ptV, Int.add_zero] at g kk dl w1 w2 ⊢
    unfold M3
    cases o with
    | none =>
      simp only [HH, kO, acV_n]
      simp -implicitDefEqProofs only [go_sem, simprocAttr, h1, h2, h3, w1, w2, h8, g, kk, wj, Int.add_zero, d328, d152]
    | some a =>
      simp only [HH, kO, acV_s]
      simp -implicitDefEqProofs only [go_sem, simprocAttr, h1, h2, h3, w1, w2, h8, g, kk, wj, Int.add_zero, d328, d152]
theorem M3_2 (b : Bool) (l : List (Int × Int)) (m : Nat) (o : Option (List ((Int × Int) × List (Int × Int)))) (L : List (Int × Int)) (x : Int × Int) (P : List (Int × Int)) (i : Nat) (hi : i < P.length) (hP : P.length < 100000) (q : Int × Int) (hq : P[i] = q) (hs : sm q) :
    M3 b l m o L x P i 2 = M3 b l m o (stT q (L, P) (-1, 0)).1 x (stT q (L, P) (-1, 0)).2 i 3 := by
  obtain ⟨h1, h2, h3, h4, h5⟩ := idx_in hi (by omega)
  rw [hq] at h3
  obtain ⟨a1, a2, a3, a4⟩ := hs
  have w1 : IntKind.i64.wrap (q.1 + -1) = q.1 + -1 := by rw [wrap64] <;> omega
  have w2 : IntKind.i64.wrap (q.2 + 0) = q.2 + 0 := by rw [wrap64] <;> omega
  have h8 := (row_ok (n := P.length) (by omega)).1
  have wj : IntKind.i64.wrap 3 = 3 := by decide
  have g := getKv L (q.1 + -1, q.2 + 0)
  have kk := key100 (q.1 + -1, q.2 + 0)
  have dl := delKv L (q.1 + -1, q.2 + 0)
  conv => lhs; unfold M3; rw [loopEq]
  by_cases hm : (q.1 + -1, q.2 + 0) ∈ L
  · have e0 : stT q (L, P) (-1, 0) = (L.erase (q.1 + -1, q.2 + 0), P ++ [(q.1 + -1, q.2 + 0)]) := by unfold stT; rw [if_pos hm]
    rw [e0]
    rw [decide_eq_true hm, cond_true] at g
    simp only [ptV, Int.add_zero] at g kk dl w1 w2 ⊢
    unfold M3
    cases o with
    | none =>
      simp only [HH, kO, acV_n, List.map_append, List.map_cons, List.map_nil, ptV]
      simp -implicitDefEqProofs only [go_sem, simprocAttr, h1, h2, h3, w1, w2, h8, g, kk, wj, Int.add_zero, dl, d329, d152]
    | some a =>
      simp only [HH, kO, acV_s, List.map_append, List.map_cons, List.map_nil, ptV]
      simp -implicitDefEqProofs only [go_sem, simprocAttr, h1, h2, h3, w1, w2, h8, g, kk, wj, Int.add_zero, dl, d329, d152]
  · have e0 : stT q (L, P) (-1, 0) = (L, P) := by unfold stT; rw [if_neg hm]
    rw [e0]
    rw [decide_eq_false hm, cond_false] at g
    simp only [ptV, Int.add_zero] at g kk dl w1 w2 ⊢
    unfold M3
    cases o with
    | none =>
      simp only [HH, kO, acV_n]
      simp -implicitDefEqProofs only [go_sem, simprocAttr, h1, h2, h3, w1, w2, h8, g, kk, wj, Int.add_zero, d329, d152]
    | some a =>
      simp only [HH, kO, acV_s]
      simp -implicitDefEqProofs only [go_sem, simprocAttr, h1, h2, h3, w1, w2, h8, g, kk, wj, Int.add_zero, d329, d152]
theorem M3_3 (b : Bool) (l : List (Int × Int)) (m : Nat) (o : Option (List ((Int × Int) × List (Int × Int)))) (L : List (Int × Int)) (x : Int × Int) (P : List (Int × Int)) (i : Nat) (hi : i < P.length) (hP : P.length < 100000) (q : Int × Int) (hq : P[i] = q) (hs : sm q) :
    M3 b l m o L x P i 3 = M3 b l m o (stT q (L, P) (0, -1)).1 x (stT q (L, P) (0, -1)).2 i 4 := by
  obtain ⟨h1, h2, h3, h4, h5⟩ := idx_in hi (by omega)
  rw [hq] at h3
  obtain ⟨a1, a2, a3, a4⟩ := hs
  have w1 : IntKind.i64.wrap (q.1 + 0) = q.1 + 0 := by rw [wrap64] <;> omega
  have w2 : IntKind.i64.wrap (q.2 + -1) = q.2 + -1 := by rw [wrap64] <;> omega
  have h8 := (row_ok (n := P.length) (by omega)).1
  have wj : IntKind.i64.wrap 4 = 4 := by decide
  have g := getKv L (q.1 + 0, q.2 + -1)
  have kk := key100 (q.1 + 0, q.2 + -1)
  have dl := delKv L (q.1 + 0, q.2 + -1)
  conv => lhs; unfold M3; rw [loopEq]
  by_cases hm : (q.1 + 0, q.2 + -1) ∈ L
  · have e0 : stT q (L, P) (0, -1) = (L.erase (q.1 + 0, q.2 + -1), P ++ [(q.1 + 0, q.2 + -1)]) := by unfold stT; rw [if_pos hm]
    rw [e0]
    rw [decide_eq_true hm, cond_true] at g
    simp only [ptV, Int.add_zero] at g kk dl w1 w2 ⊢
    unfold M3
    cases o with
    | none =>
      simp only [HH, kO, acV_n, List.map_append, List.map_cons, List.map_nil, ptV]
      simp -implicitDefEqProofs only [go_sem, simprocAttr, h1, h2, h3, w1, w2, h8, g, kk, wj, Int.add_zero, dl, d330, d152]
    | some a =>
      simp only [HH, kO, acV_s, List.map_append, List.map_cons, List.map_nil, ptV]
      simp -implicitDefEqProofs only [go_sem, simprocAttr, h1, h2, h3, w1, w2, h8, g, kk, wj, Int.add_zero, dl, d330, d152]
  · have e0 : stT q (L, P) (0, -1) = (L, P) := by unfold stT; rw [if_neg hm]
    rw [e0]
    rw [decide_eq_false hm, cond_false] at g
    simp only [ptV, Int.add_zero] at g kk dl w1 w2 ⊢
    unfold M3
    cases o with
    | none =>
      simp only [HH, kO, acV_n]
      simp -implicitDefEqProofs only [go_sem, simprocAttr, h1, h2, h3, w1, w2, h8, g, kk, wj, Int.add_zero, d330, d152]
    | some a =>
      simp only [HH, kO, acV_s]
      simp -implicitDefEqProofs only [go_sem, simprocAttr, h1, h2, h3, w1, w2, h8, g, kk, wj, Int.add_zero, d330, d152]
abbrev PS := List (Int × Int) × List (Int × Int)
def px1 (s : PS) (q : Int × Int) : PS := stT q (stT q (stT q (stT q s (1, 0)) (0, 1)) (-1, 0)) (0, -1)
def bfs : Nat → Nat → PS → PS
  | 0, _, s => s
  | f + 1, i, s => match s.2[i]? with | some q => bfs f (i + 1) (px1 s q) | none => s
structure Inv (s : PS) : Prop where
  sm : ∀ p ∈ s.1, sm p
  sm2 : ∀ p ∈ s.2, FaT.sm p
  len : s.1.length + s.2.length < 100000
theorem stT_inv {q t : Int × Int} {s : PS} (h : Inv s) : Inv (stT q s t) ∧ (∃ R, (stT q s t).2 = s.2 ++ R) ∧ (stT q s t).1.length + (stT q s t).2.length = s.1.length + s.2.length := by
  unfold stT
  split
  · rename_i hm
    have hl := List.length_erase_of_mem hm
    have hp := List.length_pos_of_mem hm
    refine ⟨⟨fun p hp => h.sm p (List.mem_of_mem_erase hp), fun p hp => ?_, ?_⟩, ⟨_, rfl⟩, ?_⟩
    · rcases List.mem_append.1 hp with hp | hp
      · exact h.sm2 p hp
      · simp only [List.mem_singleton] at hp; subst hp; exact h.sm _ hm
    · have := h.len; simp only [List.length_append, List.length_singleton]; omega
    · simp only [List.length_append, List.length_singleton]; omega
  · exact ⟨h, ⟨[], by simp⟩, rfl⟩
theorem px1_inv {q : Int × Int} {s : PS} (h : Inv s) : Inv (px1 s q) ∧ (∃ R, (px1 s q).2 = s.2 ++ R) ∧ (px1 s q).1.length + (px1 s q).2.length = s.1.length + s.2.length := by
  unfold px1
  obtain ⟨a1, ⟨R1, a2⟩, a3⟩ := stT_inv (q := q) (t := (1, 0)) h
  obtain ⟨b1, ⟨R2, b2⟩, b3⟩ := stT_inv (q := q) (t := (0, 1)) a1
  obtain ⟨c1, ⟨R3, c2⟩, c3⟩ := stT_inv (q := q) (t := (-1, 0)) b1
  obtain ⟨d1, ⟨R4, d2⟩, d3⟩ := stT_inv (q := q) (t := (0, -1)) c1
  exact ⟨d1, ⟨R1 ++ R2 ++ R3 ++ R4, by rw [d2, c2, b2, a2]; simp⟩, by omega⟩
def M2 (b : Bool) (l : List (Int × Int)) (m : Nat) (o : Option (List ((Int × Int) × List (Int × Int)))) (x : Int × Int) (s : PS) (i : Nat) : Option Out :=
  (lim T).loop false (.code (.loop b58_2) :: KS) ⟨58, 100, 0, [(8, .map 0), (11, acV o 1), (14, .ptr (kO o) 0 0), (15, .int .i64 i), (38, .sl b 2 (l.map ptV)), (39, .int .i64 l.length), (40, .int .i64 m)], HH o s.1 x s.2, 0, []⟩
theorem M2_step (b : Bool) (l : List (Int × Int)) (m : Nat) (o : Option (List ((Int × Int) × List (Int × Int)))) (x : Int × Int) (s : PS) (hs : Inv s) (i : Nat) (hi : i < s.2.length) : M2 b l m o x s i = M2 b l m o x (px1 s s.2[i]) (i + 1) := by
  have hsm := hs.sm2 _ (List.getElem_mem hi)
  generalize hq : s.2[i] = q at *
  obtain ⟨a1, ⟨R1, a2⟩, a3⟩ := stT_inv (q := q) (t := (1, 0)) hs
  obtain ⟨b1, ⟨R2, b2⟩, b3⟩ := stT_inv (q := q) (t := (0, 1)) a1
  obtain ⟨c1, ⟨R3, c2⟩, c3⟩ := stT_inv (q := q) (t := (-1, 0)) b1
  obtain ⟨d1, ⟨R4, d2⟩, d3⟩ := stT_inv (q := q) (t := (0, -1)) c1
  have at_ : ∀ {L L' : List (Int × Int)} {R : List (Int × Int)} (h : i < L.length), L[i] = q → L' = L ++ R → ∃ h' : i < L'.length, L'[i] = q := by
    rintro L L' R h hL rfl
    exact ⟨by simp; omega, by rw [List.getElem_append_left h]; exact hL⟩
  obtain ⟨p1, r1⟩ := at_ hi hq a2
  obtain ⟨p2, r2⟩ := at_ p1 r1 b2
  obtain ⟨p3, r3⟩ := at_ p2 r2 c2
  have := hs.len
  have e0 := M3_0 b l m o s.1 x s.2 i hi (by omega) q hq hsm
  have e1 := M3_1 b l m o (stT q s (1, 0)).1 x (stT q s (1, 0)).2 i p1 (by omega) q r1 hsm
  have e2 := M3_2 b l m o (stT q (stT q s (1, 0)) (0, 1)).1 x (stT q (stT q s (1, 0)) (0, 1)).2 i p2 (by omega) q r2 hsm
  have e3 := M3_3 b l m o (stT q (stT q (stT q s (1, 0)) (0, 1)) (-1, 0)).1 x (stT q (stT q (stT q s (1, 0)) (0, 1)) (-1, 0)).2 i p3 (by omega) q r3 hsm
  have e : M3 b l m o s.1 x s.2 i 0 = M3 b l m o (px1 s q).1 x (px1 s q).2 i 4 := Eq.trans e0 (Eq.trans e1 (Eq.trans e2 e3))
  clear e0 e1 e2 e3
  obtain ⟨h1, h2, h3, h4, h5⟩ := idx_in hi (by omega)
  have e4 : M3 b l m o (px1 s q).1 x (px1 s q).2 i 4 = M2 b l m o x (px1 s q) (i + 1) := by
    unfold M3
    rw [loopEq]
    unfold M2
    cases o with
    | none =>
      simp only [HH, kO, acV_n]
      simp -implicitDefEqProofs only [go_sem, simprocAttr, h4]
    | some a =>
      simp only [HH, kO, acV_s]
      simp -implicitDefEqProofs only [go_sem, simprocAttr, h4]
  rw [e4] at e
  conv => lhs; unfold M2; rw [loopEq]
  unfold M3 at e
  cases o with
  | none =>
    simp only [HH, kO, acV_n] at e ⊢
    simp -implicitDefEqProofs only [go_sem, simprocAttr, h1, e]
  | some a =>
    simp only [HH, kO, acV_s] at e ⊢
    simp -implicitDefEqProofs only [go_sem, simprocAttr, h1, e]
theorem M2_eq (b : Bool) (l : List (Int × Int)) (m : Nat) (o : Option (List ((Int × Int) × List (Int × Int)))) (x : Int × Int) : ∀ (f i : Nat) (s : PS), Inv s → i ≤ s.2.length → s.1.length + s.2.length ≤ i + f → M2 b l m o x s i = M2 b l m o x (bfs f i s) (bfs f i s).2.length := by
  intro f
  induction f with
  | zero =>
    intro i s hs hi hf
    have : i = s.2.length := by omega
    subst this; rfl
  | succ f ih =>
    intro i s hs hi hf
    by_cases h : i < s.2.length
    · simp only [bfs, List.getElem?_eq_getElem h]
      obtain ⟨p1, ⟨R, p2⟩, p3⟩ := px1_inv (q := s.2[i]) hs
      have hlen := congrArg List.length p2
      rw [List.length_append] at hlen
      rw [M2_step b l m o x s hs i h, ih (i + 1) _ p1 (by omega) (by omega)]
    · have : i = s.2.length := by omega
      subst this
      simp only [bfs, List.getElem?_eq_none (Nat.le_refl _)]
def slN (z : Nat) (l : List V) : V := .sl (!l.isEmpty) z l
def prS (N : Nat) : List (Int × Int) → List (Int × Int) → List ((Int × Int) × List (Int × Int))
  | [], _ => []
  | x :: r, L => if x ∈ L then (x, (bfs N 0 (L.erase x, [x])).2) :: prS N r (bfs N 0 (L.erase x, [x])).1 else prS N r L
def M1 (b : Bool) (l : List (Int × Int)) (o : Option (List ((Int × Int) × List (Int × Int)))) (L : List (Int × Int)) (m : Nat) : Option Out :=
  (lim T).loop false [.code (.loop b58_1), .inBlock 2, .code (.seq r58_32 .ret)] ⟨58, 100, 0, [(8, .map 0), (11, acV o 1), (38, .sl b 2 (l.map ptV)), (39, .int .i64 l.length), (40, .int .i64 m)], .map (L.map kv) :: acR joV o 227, 0, []⟩
theorem bfs_inv : ∀ (f i : Nat) (s : PS), Inv s → Inv (bfs f i s) ∧ (bfs f i s).1.length + (bfs f i s).2.length = s.1.length + s.2.length := by
  intro f
  induction f with
  | zero => intro i s h; exact ⟨h, rfl⟩
  | succ f ih =>
    intro i s h
    simp only [bfs]
    split
    · obtain ⟨p1, _, p3⟩ := px1_inv (q := ‹_›) h
      obtain ⟨q1, q2⟩ := ih (i + 1) _ p1
      exact ⟨q1, by omega⟩
    · exact ⟨h, rfl⟩
theorem M1_eq (b : Bool) (l : List (Int × Int)) (hl : l.length < 10000) (hs : ∀ x ∈ l, sm x) : ∀ m, m ≤ l.length → ∀ (o : Option (List ((Int × Int) × List (Int × Int)))) (L : List (Int × Int)), acL o ≤ m → (∀ p ∈ L, sm p) → L.length ≤ l.length →
    M1 b l o L m = some (.ret (.tup [slN 3 (((o.getD []) ++ prS l.length (l.drop m) L).map fun x => stV (x.1, (x.2.length : Int))), .int .i64 0]), [], 0, []) := by
  refine down_ind l.length ?_ fun m hm ih => ?_
  · intro o L ho hL hLl
    have h1 := idx_out l.length
    have e0 : l.drop l.length = [] := by simp
    rw [e0]
    simp only [prS, List.append_nil]
    unfold M1
    rw [loopEq]
    cases o with
    | none =>
      have e := d153 false [] (by simp)
      simp only [List.map_nil] at e
      simp -implicitDefEqProofs only [go_sem, simprocAttr, h1, e, Option.getD_none]
      rfl
    | some a =>
      have e := d153 true a (by have : a.length ≤ l.length := ho; omega)
      rw [List.map_map, show (stV ∘ fun x : (Int × Int) × List (Int × Int) => (x.1, (x.2.length : Int))) = fun x => stV (x.1, (x.2.length : Int)) from rfl] at e
      simp only [Option.getD_some]
      generalize (List.map (fun x : (Int × Int) × List (Int × Int) => stV (x.1, (x.2.length : Int))) a) = R at *
      simp -implicitDefEqProofs only [go_sem, simprocAttr, h1, e]
      rfl
  · intro o L ho hL hLl
    obtain ⟨h1, h2, h3, h4, h5⟩ := idx_in hm (by omega)
    rw [h5]
    simp only [prS]
    have g := getKv L l[m]
    have kk := key100 l[m]
    have dl := delKv L l[m]
    by_cases hx : l[m] ∈ L
    · rw [if_pos hx]
      rw [decide_eq_true hx, cond_true] at g
      have hel := List.length_erase_of_mem hx
      have hpos := List.length_pos_of_mem hx
      have hI : Inv (L.erase l[m], [l[m]]) := ⟨fun p hp => hL p (List.mem_of_mem_erase hp), fun p hp => by
        simp only [List.mem_singleton] at hp; subst hp; exact hs _ (List.getElem_mem hm), by simp only [List.length_singleton]; omega⟩
      have e2 := M2_eq b l m o l[m] l.length 0 (L.erase l[m], [l[m]]) hI (by simp) (by simp only [List.length_singleton]; omega)
      obtain ⟨q1, q2⟩ := bfs_inv l.length 0 (L.erase l[m], [l[m]]) hI
      simp only [List.length_singleton] at q2
      generalize hB : bfs l.length 0 (L.erase l[m], [l[m]]) = B at *
      have ih' := ih (acA o [(l[m], B.2)]) B.1 (by rw [acL_A]; simp; omega) q1.sm (by omega)
      have hg : (acA o [(l[m], B.2)]).getD [] ++ prS l.length (l.drop (m + 1)) B.1 = o.getD [] ++ (l[m], B.2) :: prS l.length (l.drop (m + 1)) B.1 := by
        cases o <;> simp [acA]
      rw [hg] at ih'
      have hE := idx_out B.2.length
      have hz : ∀ z : Nat, (z : Int) = (z : Int) := fun _ => rfl
      have e3 : M2 b l m o l[m] B B.2.length = M1 b l (acA o [(l[m], B.2)]) B.1 (m + 1) := by
        unfold M2
        rw [loopEq]
        unfold M1 KS
        cases o with
        | none =>
          have h8 := row_ok (n := 0) (by omega)
          simp only [HH, kO, acV_n, acA_n, acV_s, acR_s, List.map_cons, List.map_nil, joV]
          simp -implicitDefEqProofs only [go_sem, simprocAttr, hE, h4, h8.2]
        | some a =>
          have h9 : a.length ≤ m := ho
          have h8 := (row_ok (n := a.length) (by omega)).1
          simp only [HH, kO, acV_s, acA_s, acR_s, List.map_append, List.map_cons, List.map_nil, joV]
          simp -implicitDefEqProofs only [go_sem, simprocAttr, hE, h4, h8]
      rw [e3, ih'] at e2
      unfold M1
      rw [loopEq]
      unfold M2 KS at e2
      rw [show ((0 : Nat) : Int) = 0 from rfl] at e2
      simp only [ptV] at g kk dl
      cases o with
      | none =>
        simp only [HH, kO, acV_n, List.map_cons, List.map_nil, ptV] at e2
        simp -implicitDefEqProofs only [go_sem, simprocAttr, h1, h2, h3, g, kk, dl, e2]
      | some a =>
        simp only [HH, kO, acV_s, List.map_cons, List.map_nil, ptV] at e2
        simp -implicitDefEqProofs only [go_sem, simprocAttr, h1, h2, h3, g, kk, dl, e2]
    · rw [if_neg hx]
      rw [decide_eq_false hx, cond_false] at g
      have ih' := ih o L (by omega) hL hLl
      simp only [ptV] at g kk dl
      unfold M1 at ih' ⊢
      rw [loopEq]
      cases o with
      | none =>
        simp only [acV_n, acR_n] at ih'
        simp -implicitDefEqProofs only [go_sem, simprocAttr, h1, h2, h3, h4, g, kk, ih']
      | some a =>
        simp only [acV_s, acR_s] at ih'
        simp -implicitDefEqProofs only [go_sem, simprocAttr, h1, h2, h3, h4, g, kk, ih']
end Go.Den.FaU
namespace Go.Den.FaU
open Go.Den.FaT
theorem besB_comm (a b : Int × Int) : besB a b = besB b a := by
  unfold besB
  have e1 : a.1 - b.1 = -(b.1 - a.1) := by omega
  have e2 : a.2 - b.2 = -(b.2 - a.2) := by omega
  rw [e1, e2, Int.neg_mul_neg, Int.neg_mul_neg]
theorem sq_le {x : Int} (h : x * x ≤ 1) : -1 ≤ x ∧ x ≤ 1 := by
  constructor
  · refine Classical.byContradiction fun hn => ?_
    have h1 : 2 ≤ -x := by omega
    have := Int.mul_le_mul h1 h1 (by omega) (by omega)
    rw [Int.neg_mul_neg] at this
    omega
  · refine Classical.byContradiction fun hn => ?_
    have h1 : 2 ≤ x := by omega
    have := Int.mul_le_mul h1 h1 (by omega) (by omega)
    omega
theorem besB_iff (q p : Int × Int) : besB q p = true ↔ p = (q.1 + 1, q.2 + 0) ∨ p = (q.1 + 0, q.2 + 1) ∨ p = (q.1 + -1, q.2 + 0) ∨ p = (q.1 + 0, q.2 + -1) := by
  obtain ⟨a, b⟩ := q
  obtain ⟨c, d⟩ := p
  unfold besB
  simp only [beq_iff_eq, Prod.mk.injEq]
  constructor
  · intro h
    have n1 : 0 ≤ (a - c) * (a - c) := by
      rcases Int.le_total 0 (a - c) with h | h
      · exact Int.mul_nonneg h h
      · rw [← Int.neg_mul_neg]; exact Int.mul_nonneg (by omega) (by omega)
    have n2 : 0 ≤ (b - d) * (b - d) := by
      rcases Int.le_total 0 (b - d) with h | h
      · exact Int.mul_nonneg h h
      · rw [← Int.neg_mul_neg]; exact Int.mul_nonneg (by omega) (by omega)
    obtain ⟨x1, x2⟩ := sq_le (show (a - c) * (a - c) ≤ 1 by omega)
    obtain ⟨y1, y2⟩ := sq_le (show (b - d) * (b - d) ≤ 1 by omega)
    have hx : a - c = -1 ∨ a - c = 0 ∨ a - c = 1 := by omega
    have hy : b - d = -1 ∨ b - d = 0 ∨ b - d = 1 := by omega
    rcases hx with hx | hx | hx <;> rcases hy with hy | hy | hy <;> rw [hx, hy] at h <;> first | (exfalso; revert h; decide) | omega
  · rintro (⟨rfl, rfl⟩ | ⟨rfl, rfl⟩ | ⟨rfl, rfl⟩ | ⟨rfl, rfl⟩)
    · rw [show a - (a + 1) = -1 by omega, show b - (b + 0) = 0 by omega]; rfl
    · rw [show a - (a + 0) = 0 by omega, show b - (b + 1) = -1 by omega]; rfl
    · rw [show a - (a + -1) = 1 by omega, show b - (b + 0) = 0 by omega]; rfl
    · rw [show a - (a + 0) = 0 by omega, show b - (b + -1) = 1 by omega]; rfl
structure StS (q t : Int × Int) (s s' : PS) : Prop where
  a : ∀ p, p ∈ s'.1 ↔ p ∈ s.1 ∧ p ≠ (q.1 + t.1, q.2 + t.2)
  b : ∀ p, p ∈ s'.2 ↔ p ∈ s.2 ∨ (p ∈ s.1 ∧ p = (q.1 + t.1, q.2 + t.2))
  nd : s'.1.Nodup
  pm : (s'.1 ++ s'.2).Perm (s.1 ++ s.2)
theorem stT_spec (q t : Int × Int) (s : PS) (h : s.1.Nodup) : StS q t s (stT q s t) := by
  unfold stT
  split
  · rename_i hm
    refine ⟨fun p => ?_, fun p => ?_, h.erase _, ?_⟩
    · rw [h.mem_erase_iff]; exact And.comm
    · simp only [List.mem_append, List.mem_singleton]
      constructor
      · rintro (h1 | rfl)
        · exact .inl h1
        · exact .inr ⟨hm, rfl⟩
      · rintro (h1 | ⟨_, rfl⟩)
        · exact .inl h1
        · exact .inr rfl
    · have h1 := List.perm_cons_erase hm
      refine List.Perm.trans ?_ (h1.symm.append_right s.2)
      rw [← List.append_assoc]
      exact (List.perm_append_singleton _ _).trans (by simp)
  · rename_i hm
    refine ⟨fun p => ⟨fun h1 => ⟨h1, fun e => hm (e ▸ h1)⟩, fun h1 => h1.1⟩, fun p => ⟨.inl, ?_⟩, h, .refl _⟩
    rintro (h1 | ⟨h1, rfl⟩)
    · exact h1
    · exact absurd h1 hm
structure PxS (q : Int × Int) (s s' : PS) : Prop where
  a : ∀ p, p ∈ s'.1 ↔ p ∈ s.1 ∧ besB q p = false
  b : ∀ p, p ∈ s'.2 ↔ p ∈ s.2 ∨ (p ∈ s.1 ∧ besB q p = true)
  nd : s'.1.Nodup
  pm : (s'.1 ++ s'.2).Perm (s.1 ++ s.2)
theorem px1_spec (q : Int × Int) (s : PS) (h : s.1.Nodup) : PxS q s (px1 s q) := by
  unfold px1
  have h1 := stT_spec q (1, 0) s h
  have h2 := stT_spec q (0, 1) _ h1.nd
  have h3 := stT_spec q (-1, 0) _ h2.nd
  have h4 := stT_spec q (0, -1) _ h3.nd
  refine ⟨fun p => ?_, fun p => ?_, h4.nd, h4.pm.trans (h3.pm.trans (h2.pm.trans h1.pm))⟩
  · rw [h4.a, h3.a, h2.a, h1.a, ← Bool.not_eq_true, besB_iff]
    simp only [not_or, and_assoc, ne_eq]
  · rw [h4.b, h3.b, h3.a, h2.b, h2.a, h1.b, h1.a, besB_iff]
    constructor
    · rintro ((((h | ⟨h, e⟩) | ⟨⟨h, _⟩, e⟩) | ⟨⟨⟨h, _⟩, _⟩, e⟩) | ⟨⟨⟨⟨h, _⟩, _⟩, _⟩, e⟩)
      · exact .inl h
      · exact .inr ⟨h, .inl e⟩
      · exact .inr ⟨h, .inr (.inl e)⟩
      · exact .inr ⟨h, .inr (.inr (.inl e))⟩
      · exact .inr ⟨h, .inr (.inr (.inr e))⟩
    · rintro (h | ⟨h, e⟩)
      · exact .inl (.inl (.inl (.inl h)))
      · by_cases e1 : p = (q.1 + 1, q.2 + 0)
        · exact .inl (.inl (.inl (.inr ⟨h, e1⟩)))
        · by_cases e2 : p = (q.1 + 0, q.2 + 1)
          · exact .inl (.inl (.inr ⟨⟨h, e1⟩, e2⟩))
          · by_cases e3 : p = (q.1 + -1, q.2 + 0)
            · exact .inl (.inr ⟨⟨⟨h, e1⟩, e2⟩, e3⟩)
            · refine .inr ⟨⟨⟨⟨h, e1⟩, e2⟩, e3⟩, ?_⟩
              rcases e with e | e | e | e
              · exact absurd e e1
              · exact absurd e e2
              · exact absurd e e3
              · exact e
structure BfS (s s' : PS) : Prop where
  far : ∀ b ∈ s'.2, ∀ p ∈ s'.1, besB b p = false
  pm : (s'.1 ++ s'.2).Perm (s.1 ++ s.2)
  cl : ∀ Q : Int × Int → Prop, (∀ b ∈ s.2, Q b) → (∀ b p, Q b → p ∈ s.1 → besB b p = true → Q p) → ∀ b ∈ s'.2, Q b
  up : ∀ b ∈ s.2, b ∈ s'.2
  dn : ∀ p ∈ s'.1, p ∈ s.1
  nd : s'.1.Nodup
theorem px1_pre (q : Int × Int) (s : PS) : ∃ R, (px1 s q).2 = s.2 ++ R := by
  have key : ∀ (s : PS) (t : Int × Int), ∃ R, (stT q s t).2 = s.2 ++ R := by
    intro s t
    unfold stT
    split
    · exact ⟨_, rfl⟩
    · exact ⟨[], by simp⟩
  unfold px1
  obtain ⟨R1, a2⟩ := key s (1, 0)
  obtain ⟨R2, b2⟩ := key (stT q s (1, 0)) (0, 1)
  obtain ⟨R3, c2⟩ := key (stT q (stT q s (1, 0)) (0, 1)) (-1, 0)
  obtain ⟨R4, d2⟩ := key (stT q (stT q (stT q s (1, 0)) (0, 1)) (-1, 0)) (0, -1)
  exact ⟨R1 ++ R2 ++ R3 ++ R4, by rw [d2, c2, b2, a2]; simp⟩
theorem bfs_spec : ∀ (f i : Nat) (s : PS), s.1.Nodup → i ≤ s.2.length → s.1.length + s.2.length ≤ i + f → (∀ j, j < i → ∀ b, s.2[j]? = some b → ∀ p ∈ s.1, besB b p = false) → BfS s (bfs f i s) := by
  have fin : ∀ s : PS, s.1.Nodup → (∀ j, j < s.2.length → ∀ b, s.2[j]? = some b → ∀ p ∈ s.1, besB b p = false) → BfS s s := fun s hn hp =>
    ⟨fun b hb p hq => by obtain ⟨j, hj, rfl⟩ := List.mem_iff_getElem.1 hb; exact hp j hj _ (List.getElem?_eq_getElem hj) p hq, .refl _, fun Q h1 h2 => h1, fun _ h => h, fun _ h => h, hn⟩
  intro f
  induction f with
  | zero =>
    intro i s hn hi hf hp
    have : i = s.2.length := by omega
    subst this
    exact fin s hn hp
  | succ f ih =>
    intro i s hn hi hf hp
    by_cases h : i < s.2.length
    · simp only [bfs, List.getElem?_eq_getElem h]
      generalize hq : s.2[i] = q
      have hs := px1_spec q s hn
      obtain ⟨R, hR⟩ := px1_pre q s
      have hlen := hs.pm.length_eq
      rw [List.length_append, List.length_append] at hlen
      have hl2 := congrArg List.length hR
      rw [List.length_append] at hl2
      have h1 := ih (i + 1) (px1 s q) hs.nd (by omega) (by omega) (fun j hj b hb p hpp => by
        rw [hR] at hb
        rw [List.getElem?_append_left (by omega)] at hb
        obtain ⟨p1, p2⟩ := (hs.a p).1 hpp
        by_cases hji : j = i
        · subst hji
          rw [List.getElem?_eq_getElem h, hq] at hb
          cases hb
          exact p2
        · exact hp j (by omega) b hb p p1)
      refine ⟨h1.far, h1.pm.trans hs.pm, fun Q q1 q2 => h1.cl Q (fun b hb => ?_) (fun b p hb hp => q2 b p hb ((hs.a p).1 hp).1), fun b hb => h1.up b ((hs.b b).2 (.inl hb)), fun p hp => ((hs.a p).1 (h1.dn p hp)).1, h1.nd⟩
      rcases (hs.b b).1 hb with hb | ⟨hb, hc⟩
      · exact q1 b hb
      · exact q2 q b (q1 q (hq ▸ List.getElem_mem h)) hb hc
    · have : i = s.2.length := by omega
      subst this
      simp only [bfs, List.getElem?_eq_none (Nat.le_refl _)]
      exact fin s hn hp
end Go.Den.FaU
namespace Go.Den.FaU
open Go Go.Proofs Go.Den Go.Den.FaT Go.Den.FaF
def ltP (a b : Int × Int) : Prop := a.2 < b.2 ∨ (a.2 = b.2 ∧ a.1 < b.1)
theorem ltP_ne {a b : Int × Int} (h : ltP a b) : a ≠ b := by
  rintro rfl
  unfold ltP at h; omega
theorem hotE_pw (w m : Int) (hw : 1 ≤ w ∧ w ≤ 16) : ∀ (us : List Int) (i : Nat), (hotE w m us i).Pairwise ltP := by
  intro us
  induction us with
  | nil => intro i; simp [hotE]
  | cons u r ih =>
    intro i
    simp only [hotE]
    split
    · refine List.pairwise_cons.2 ⟨fun y hy => ?_, ih (i + 1)⟩
      obtain ⟨j, h1, h2, rfl⟩ := hotE_in w m hw r (i + 1) y hy
      have e1 := Int.tmod_add_mul_tdiv (i : Int) w
      have e2 := Int.tmod_add_mul_tdiv (j : Int) w
      have b1 := Int.tmod_lt_of_pos (i : Int) (show 0 < w by omega)
      have b2 := Int.tmod_nonneg (a := (i : Int)) w (by omega)
      have b3 := Int.tmod_lt_of_pos (j : Int) (show 0 < w by omega)
      have b4 := Int.tmod_nonneg (a := (j : Int)) w (by omega)
      unfold ltP
      simp only
      generalize (i : Int).tmod w = x1 at *
      generalize (i : Int).tdiv w = y1 at *
      generalize (j : Int).tmod w = x2 at *
      generalize (j : Int).tdiv w = y2 at *
      by_cases hc : y1 < y2
      · exact .inl hc
      · refine .inr ?_
        by_cases hd : y2 < y1
        · exfalso
          have : w * (y2 + 1) ≤ w * y1 := Int.mul_le_mul_of_nonneg_left (by omega) (by omega)
          rw [Int.mul_add] at this
          omega
        · have : y1 = y2 := by omega
          subst this
          omega
    · exact ih (i + 1)
theorem hot_pw (p : Pc) (n : Int) (hp : p.ok) : (hotL p n).Pairwise ltP := hotE_pw p.w _ hp.w _ _
theorem mapSet_new {eq : V → V → Option Bool} {x y : V} : ∀ {es : List (V × V)}, (∀ e ∈ es, eq x e.1 = some false) → mapSet eq es x y = some (es ++ [(x, y)])
  | [], _ => rfl
  | (a, b) :: r, h => by
    have h1 := h (a, b) (List.mem_cons_self ..)
    dsimp only at h1
    simp only [mapSet, h1, mapSet_new (es := r) (fun e he => h e (List.mem_cons_of_mem _ he)), List.cons_append]
def M0 (b : Bool) (l : List (Int × Int)) (i : Nat) : Option Out :=
  (lim T).loop false [.code (.loop b58_0), .inBlock 0, .code (.seq r58_11 (.seq (.seq r58_12 (.block 2 (.loop b58_1))) (.seq r58_32 .ret)))] ⟨58, 100, 0, [(7, .sl b 2 (l.map ptV)), (8, .map 0), (29, .sl b 2 (l.map ptV)), (30, .int .i64 l.length), (31, .int .i64 i)], [.map ((l.take i).map kv)], 0, []⟩
theorem M0_eq (b : Bool) (l : List (Int × Int)) (hl : l.length < 10000) (hpw : l.Pairwise ltP) : ∀ i, i ≤ l.length → M0 b l i = M0 b l l.length := by
  refine down_ind l.length rfl fun i hi ih => ?_
  rw [← ih]
  obtain ⟨h1, h2, h3, h4, h5⟩ := idx_in hi (by omega)
  have ms : mapSet (eqT T 5 100) ((l.take i).map kv) (ptV l[i]) (.bool true) = some ((l.take (i + 1)).map kv) := by
    rw [mapSet_new]
    · rw [List.take_succ_eq_append_getElem hi, List.map_append]; rfl
    · intro e he
      obtain ⟨y, hy, rfl⟩ := List.mem_map.1 he
      simp only [kv]
      rw [eq100, pbeq]
      have hne : ¬ l[i] = y := by
        intro h
        obtain ⟨j, hj, rfl⟩ := List.mem_iff_getElem.1 hy
        have hj' : j < i := by simp at hj; omega
        rw [List.getElem_take] at h
        exact ltP_ne (List.pairwise_iff_getElem.1 hpw j i (by omega) hi hj') h.symm
      rw [decide_eq_false hne]
  have kk := key100 l[i]
  simp only [ptV] at ms kk
  conv => lhs; unfold M0; rw [loopEq]
  unfold M0
  simp -implicitDefEqProofs only [go_sem, simprocAttr, h1, h2, h3, h4, ms, kk]
theorem c56 (p : Pc) (n : Int) (hl : p.l.length < 1000000) : (lim T).call 56 [pcV p, .int .i64 n] [] 0 [] = some (cond (fnz [ckPic p, rng n 1 16384] != 0) (.tup [.sl false 0 [], .int .i64 (fnz [ckPic p, rng n 1 16384])]) (.tup [slN 2 ((hotL p n).map ptV), .int .i64 0]), [], 0, []) := by
  rw [ent56]
  have e1 := d150 p n hl
  cases h : (fnz [ckPic p, rng n 1 16384] != 0)
  · have h0 : fnz [ckPic p, rng n 1 16384] = 0 := by simpa using h
    have h1 := fnz_zero.1 h0 (ckPic p) (by simp)
    have h2 := fnz_zero.1 h0 (rng n 1 16384) (by simp)
    have e2 := c151 p n (okP h1) h2
    simp only [pcV] at e1 e2 ⊢
    simp -implicitDefEqProofs only [go_sem, simprocAttr, e1, h, e2, cond_false]
    rfl
  · simp only [pcV] at e1 ⊢
    simp -implicitDefEqProofs only [go_sem, simprocAttr, e1, h, cond_true]
def spL (p : Pc) (n : Int) : List ((Int × Int) × Int) := (prS (hotL p n).length (hotL p n) (hotL p n)).map fun x => (x.1, (x.2.length : Int))
theorem c58 (p : Pc) (n : Int) (hl : p.l.length < 1000000) : (lim T).call 58 [pcV p, .int .i64 n] [] 0 [] = some (cond (fnz [ckPic p, rng n 1 16384] != 0) (.tup [.sl false 0 [], .int .i64 (fnz [ckPic p, rng n 1 16384])]) (.tup [slN 3 ((spL p n).map stV), .int .i64 0]), [], 0, []) := by
  rw [ent58]
  have e1 := d150 p n hl
  cases h : (fnz [ckPic p, rng n 1 16384] != 0)
  · have h0 : fnz [ckPic p, rng n 1 16384] = 0 := by simpa using h
    have h1 := fnz_zero.1 h0 (ckPic p) (by simp)
    have h2 := fnz_zero.1 h0 (rng n 1 16384) (by simp)
    have hp := okP h1
    have e2 := c151 p n hp h2
    have hs := hot_sm p n hp
    have hll := hot_len p n hp
    have hpw := hot_pw p n hp
    have hsp : spL p n = (prS (hotL p n).length (hotL p n) (hotL p n)).map fun x => (x.1, (x.2.length : Int)) := rfl
    generalize hotL p n = l at *
    have hE := idx_out l.length
    have key : ∀ b, M0 b l 0 = some (.ret (.tup [slN 3 ((spL p n).map stV), .int .i64 0]), [], 0, []) := by
      intro b
      rw [M0_eq b l (by omega) hpw 0 (by omega)]
      have e3 := M1_eq b l (by omega) hs 0 (by omega) none l (by simp [acL]) hs (by omega)
      simp only [Option.getD_none, List.nil_append, List.drop_zero] at e3
      rw [show (prS l.length l l).map (fun x => stV (x.1, (x.2.length : Int))) = (spL p n).map stV by rw [hsp, List.map_map]; rfl] at e3
      unfold M0
      rw [loopEq]
      unfold M1 at e3
      rw [show ((0 : Nat) : Int) = 0 from rfl] at e3
      simp only [acV_n, acR_n] at e3
      simp -implicitDefEqProofs only [go_sem, simprocAttr, hE, List.take_length, e3]
    have k2 := key (!(l.map ptV).isEmpty)
    unfold M0 at k2
    rw [show ((0 : Nat) : Int) = 0 from rfl, List.take_zero, List.map_nil] at k2
    simp only [pcV] at e1 e2 ⊢
    generalize slN 3 ((spL p n).map stV) = R at *
    simp -implicitDefEqProofs only [go_sem, simprocAttr, e1, h, e2, cond_false, k2]
  · simp only [pcV] at e1 ⊢
    simp -implicitDefEqProofs only [go_sem, simprocAttr, e1, h, cond_true]
end Go.Den.FaU
namespace Go.Den.FaU
open Go.Den.FaT
def adjL (l : List (Int × Int)) (i k : Nat) : Bool := besB (l.getD i (0, 0)) (l.getD k (0, 0))
theorem adjL_comm (l : List (Int × Int)) (i k : Nat) : adjL l i k = adjL l k i := besB_comm _ _
abbrev CC (l : List (Int × Int)) := Ci l.length (adjL l)
def fi (l : List (Int × Int)) (m : Nat) : Prop := ∀ j, CC l m j → m ≤ j
open Classical in
def cI (l : List (Int × Int)) (m : Nat) : Nat := (List.range l.length).countP fun k => decide (CC l m k)
open Classical in
def spec (l : List (Int × Int)) : List (Int × Int) → Nat → List ((Int × Int) × Int)
  | [], _ => []
  | x :: r, m => if fi l m then (x, (cI l m : Int)) :: spec l r (m + 1) else spec l r (m + 1)
theorem fin_least (l : List (Int × Int)) {i : Nat} (hi : i < l.length) : ∃ j : Nat, (finF l).getD i 0 = j ∧ CC l i j ∧ ∀ k, CC l i k → j ≤ k := rounds_fin (adjL_comm l) i hi
theorem fin_fi (l : List (Int × Int)) {m : Nat} (hm : m < l.length) : (finF l).getD m 0 = (m : Int) ↔ fi l m := by
  obtain ⟨j, h1, h2, h3⟩ := fin_least l hm
  rw [h1]
  constructor
  · intro h k hk
    have : j = m := by omega
    subst this; exact h3 k hk
  · intro h
    have a := h j h2
    have b := h3 m (.refl hm)
    omega
theorem countP_getD (F : List Int) (p : Int → Bool) : F.countP p = (List.range F.length).countP fun k => p (F.getD k 0) := by
  have e : F = (List.range F.length).map fun k => F.getD k 0 := by
    apply List.ext_getElem (by simp)
    intro i h1 h2
    simp [List.getD, List.getElem?_eq_getElem h1]
  conv => lhs; rw [e]
  rw [List.countP_map]; rfl
open Classical in
theorem fin_cnt (l : List (Int × Int)) {m : Nat} (hm : m < l.length) (hf : fi l m) : cntI (finF l) (m : Int) = cI l m := by
  unfold cntI cI
  rw [countP_getD, finF_len]
  apply List.countP_congr
  intro k hk
  have hk : k < l.length := by simpa using hk
  obtain ⟨j, h1, h2, h3⟩ := fin_least l hk
  rw [h1]
  simp only [beq_iff_eq, decide_eq_true_eq]
  constructor
  · intro h
    have : j = m := by omega
    subst this
    exact h2.symm (adjL_comm l)
  · intro h
    have a := h3 m (h.symm (adjL_comm l))
    have b := hf j (h.trans h2)
    omega
theorem spR_spec (l : List (Int × Int)) : ∀ m, m ≤ l.length → spR (finF l) (l.drop m) m = spec l (l.drop m) m := by
  refine down_ind l.length ?_ fun m hm ih => ?_
  · have : l.drop l.length = [] := by simp
    rw [this]; rfl
  · rw [List.drop_eq_getElem_cons hm]
    simp only [spR, spec]
    by_cases h : fi l m
    · rw [if_pos ((fin_fi l hm).2 h), if_pos h, ih, fin_cnt l hm h]
    · rw [if_neg (fun e => h ((fin_fi l hm).1 e)), if_neg h, ih]
def RP (l : List (Int × Int)) (a b : Int × Int) : Prop := ∃ i k, l[i]? = some a ∧ l[k]? = some b ∧ CC l i k
theorem gDe {l : List (Int × Int)} {i : Nat} {a : Int × Int} (h : l[i]? = some a) : l.getD i (0, 0) = a := by simp [List.getD, h]
theorem idx_u {l : List (Int × Int)} (hn : l.Nodup) {i k : Nat} {a : Int × Int} (h1 : l[i]? = some a) (h2 : l[k]? = some a) : i = k := by
  obtain ⟨a1, a2⟩ := List.getElem?_eq_some_iff.1 h1
  obtain ⟨b1, b2⟩ := List.getElem?_eq_some_iff.1 h2
  have hp := List.pairwise_iff_getElem.1 hn
  rcases Nat.lt_trichotomy i k with h | h | h
  · exact absurd (a2.trans b2.symm) (hp i k a1 b1 h)
  · exact h
  · exact absurd (b2.trans a2.symm) (hp k i b1 a1 h)
theorem RP.idx {l : List (Int × Int)} (hn : l.Nodup) {i k : Nat} {a b : Int × Int} (h : RP l a b) (h1 : l[i]? = some a) (h2 : l[k]? = some b) : CC l i k := by
  obtain ⟨i', k', a1, a2, a3⟩ := h
  rw [idx_u hn h1 a1, idx_u hn h2 a2]; exact a3
theorem RP.refl {l : List (Int × Int)} {a : Int × Int} (h : a ∈ l) : RP l a a := by
  obtain ⟨i, hi, rfl⟩ := List.mem_iff_getElem.1 h
  exact ⟨i, i, List.getElem?_eq_getElem hi, List.getElem?_eq_getElem hi, .refl hi⟩
theorem RP.symm {l : List (Int × Int)} {a b : Int × Int} (h : RP l a b) : RP l b a := by
  obtain ⟨i, k, h1, h2, h3⟩ := h
  exact ⟨k, i, h2, h1, h3.symm (adjL_comm l)⟩
theorem RP.trans {l : List (Int × Int)} (hn : l.Nodup) {a b c : Int × Int} (h : RP l a b) (h' : RP l b c) : RP l a c := by
  obtain ⟨i, k, h1, h2, h3⟩ := h
  obtain ⟨k', j, a1, a2, a3⟩ := h'
  rw [idx_u hn a1 h2] at a3
  exact ⟨i, j, h1, a2, h3.trans a3⟩
theorem RP.step {l : List (Int × Int)} {a b c : Int × Int} (h : RP l a b) (hc : c ∈ l) (hb : besB b c = true) : RP l a c := by
  obtain ⟨i, k, h1, h2, h3⟩ := h
  obtain ⟨j, hj, rfl⟩ := List.mem_iff_getElem.1 hc
  refine ⟨i, j, h1, List.getElem?_eq_getElem hj, .step h3 hj ?_⟩
  unfold adjL
  rw [gDe h2, gDe (List.getElem?_eq_getElem hj)]; exact hb
theorem RP.ind {l : List (Int × Int)} (hn : l.Nodup) {x : Int × Int} {S : Int × Int → Prop} (h0 : S x) (hs : ∀ b c, S b → b ∈ l → c ∈ l → besB b c = true → S c) {p : Int × Int} (h : RP l x p) : S p := by
  obtain ⟨i, k, h1, h2, h3⟩ := h
  have key : ∀ {i k : Nat}, CC l i k → ∀ a, l[i]? = some a → S a → ∀ b, l[k]? = some b → S b := by
    intro i k h
    induction h with
    | refl hi => intro a ha hS b hb; rw [ha] at hb; cases hb; exact hS
    | step h hk had ih =>
      rename_i j k
      intro a ha hS c hc
      have hj := h.lt.2
      have hjb := List.getElem?_eq_getElem hj
      refine hs _ c (ih a ha hS _ hjb) (List.getElem_mem hj) (List.mem_of_getElem? hc) ?_
      unfold adjL at had
      rw [gDe hjb, gDe hc] at had; exact had
  exact key h3 x h1 h0 p h2
theorem RP.mem {l : List (Int × Int)} {a b : Int × Int} (h : RP l a b) : a ∈ l ∧ b ∈ l := by
  obtain ⟨i, k, h1, h2, _⟩ := h
  exact ⟨List.mem_of_getElem? h1, List.mem_of_getElem? h2⟩
open Classical in
theorem cI_len {l : List (Int × Int)} (hn : l.Nodup) {m : Nat} (hm : m < l.length) {P : List (Int × Int)} (hP : P.Nodup) (hm' : ∀ p, p ∈ P ↔ RP l l[m] p) : P.length = cI l m := by
  have h1 : P.Perm (l.filter fun p => decide (RP l l[m] p)) := by
    rw [List.perm_ext_iff_of_nodup hP (hn.filter _)]
    intro p
    rw [hm', List.mem_filter]
    constructor
    · intro h; exact ⟨h.mem.2, decide_eq_true h⟩
    · intro h; exact of_decide_eq_true h.2
  rw [h1.length_eq, ← List.countP_eq_length_filter]
  unfold cI
  have e : l = (List.range l.length).map fun k => l.getD k (0, 0) := by
    apply List.ext_getElem (by simp)
    intro i h1 h2
    simp [List.getD, List.getElem?_eq_getElem h1]
  have e2 : l.countP (fun p => decide (RP l l[m] p)) = ((List.range l.length).map fun k => l.getD k (0, 0)).countP (fun p => decide (RP l l[m] p)) := by rw [← e]
  rw [e2, List.countP_map]
  apply List.countP_congr
  intro k hk
  have hk : k < l.length := by simpa using hk
  have g1 := List.getElem?_eq_getElem hm
  have g2 := List.getElem?_eq_getElem hk
  simp only [Function.comp, decide_eq_true_eq, gDe g2]
  exact ⟨fun h => h.idx hn g1 g2, fun h => ⟨m, k, g1, g2, h⟩⟩
theorem prS_spec (l : List (Int × Int)) (hn : l.Nodup) : ∀ m, m ≤ l.length → ∀ L : List (Int × Int), L.Nodup → L.length ≤ l.length → (∀ p, p ∈ L ↔ p ∈ l ∧ ∀ j, j < m → ∀ a, l[j]? = some a → ¬ RP l a p) →
    ((prS l.length (l.drop m) L).map fun x => (x.1, (x.2.length : Int))) = spec l (l.drop m) m := by
  refine down_ind l.length ?_ fun m hm ih => ?_
  · intro L _ _ _
    have : l.drop l.length = [] := by simp
    rw [this]; rfl
  · intro L hL hLl hLm
    rw [List.drop_eq_getElem_cons hm]
    simp only [prS, spec]
    have gm := List.getElem?_eq_getElem hm
    have hfi : l[m] ∈ L ↔ fi l m := by
      rw [hLm]
      constructor
      · rintro ⟨_, h⟩ j hj
        refine Classical.byContradiction fun hlt => ?_
        have hjl := hj.lt.2
        exact h j (by omega) _ (List.getElem?_eq_getElem hjl) ⟨j, m, List.getElem?_eq_getElem hjl, gm, hj.symm (adjL_comm l)⟩
      · intro h
        refine ⟨List.getElem_mem hm, fun j hj a ha hr => ?_⟩
        have := h j ((hr.idx hn ha gm).symm (adjL_comm l))
        omega
    by_cases hx : l[m] ∈ L
    · rw [if_pos hx, if_pos (hfi.1 hx), List.map_cons]
      have hLsub : ∀ p ∈ L, p ∈ l := fun p hp => ((hLm p).1 hp).1
      have hel := List.length_erase_of_mem hx
      have hpos := List.length_pos_of_mem hx
      have hB := bfs_spec l.length 0 (L.erase l[m], [l[m]]) (hL.erase _) (by simp) (by simp only [List.length_singleton]; omega) (fun j hj => by omega)
      generalize bfs l.length 0 (L.erase l[m], [l[m]]) = B at *
      have hpm : (B.1 ++ B.2).Perm L := hB.pm.trans ((List.perm_append_singleton _ _).trans (List.perm_cons_erase hx).symm)
      have hBn : (B.1 ++ B.2).Nodup := hpm.nodup_iff.2 hL
      have hmemL : ∀ p, p ∈ L ↔ p ∈ B.1 ∨ p ∈ B.2 := fun p => by rw [← hpm.mem_iff, List.mem_append]
      have hxB : l[m] ∈ B.2 := hB.up _ (by simp)
      -- what is joined to a pixel that is left is left
      have hclL : ∀ b c, b ∈ L → c ∈ l → besB b c = true → c ∈ L := by
        intro b c hb hc hbc
        refine (hLm c).2 ⟨hc, fun j hj a ha hr => ?_⟩
        exact ((hLm b).1 hb).2 j hj a ha (hr.step (hLsub b hb) (by rw [besB_comm]; exact hbc))
      have hPR : ∀ p, p ∈ B.2 ↔ RP l l[m] p := by
        intro p
        constructor
        · exact hB.cl (fun p => RP l l[m] p) (fun b hb => by simp only [List.mem_singleton] at hb; subst hb; exact .refl (List.getElem_mem hm)) (fun b q hb hq hbq => hb.step (hLsub q (List.mem_of_mem_erase hq)) hbq) p
        · intro h
          refine RP.ind hn (S := fun p => p ∈ B.2) hxB (fun b c hb _ hc hbc => ?_) h
          have hcL := hclL b c ((hmemL b).2 (.inr hb)) hc hbc
          rcases (hmemL c).1 hcL with h1 | h1
          · have := hB.far b hb c h1
            rw [hbc] at this; cases this
          · exact h1
      have hcnt := cI_len hn hm (List.nodup_append.1 hBn).2.1 hPR
      rw [hcnt]
      congr 1
      refine ih B.1 (List.nodup_append.1 hBn).1 (by have := hpm.length_eq; rw [List.length_append] at this; omega) fun p => ?_
      constructor
      · intro hp
        have hpL := (hmemL p).2 (.inl hp)
        refine ⟨hLsub p hpL, fun j hj a ha hr => ?_⟩
        by_cases hjm : j = m
        · subst hjm
          rw [gm] at ha; cases ha
          have h2 := (hPR p).2 hr
          exact (List.nodup_append.1 hBn).2.2 p hp p h2 rfl
        · exact ((hLm p).1 hpL).2 j (by omega) a ha hr
      · rintro ⟨hpl, hp⟩
        have hpL : p ∈ L := (hLm p).2 ⟨hpl, fun j hj a ha => hp j (by omega) a ha⟩
        rcases (hmemL p).1 hpL with h1 | h1
        · exact h1
        · exact absurd ((hPR p).1 h1) (hp m (by omega) _ gm)
    · rw [if_neg hx, if_neg (fun h => hx (hfi.2 h))]
      refine ih L hL hLl fun p => ?_
      constructor
      · intro hp
        have hpL := (hLm p).1 hp
        refine ⟨hpL.1, fun j hj a ha hr => ?_⟩
        by_cases hjm : j = m
        · subst hjm
          rw [gm] at ha; cases ha
          -- the pixel is joined to an earlier one
          have hnf : ¬ fi l j := fun h => hx (hfi.2 h)
          obtain ⟨k, hk1, hk2⟩ : ∃ k, CC l j k ∧ k < j := Classical.byContradiction fun hno => hnf fun k hk => Classical.byContradiction fun hlt => hno ⟨k, hk, by omega⟩
          have hkl := hk1.lt.2
          exact hpL.2 k hk2 _ (List.getElem?_eq_getElem hkl) (RP.trans hn ⟨k, j, List.getElem?_eq_getElem hkl, gm, hk1.symm (adjL_comm l)⟩ hr)
        · exact hpL.2 j (by omega) a ha hr
      · rintro ⟨hpl, hp⟩
        exact (hLm p).2 ⟨hpl, fun j hj a ha => hp j (by omega) a ha⟩
theorem pw_nodup {l : List (Int × Int)} (h : l.Pairwise ltP) : l.Nodup := h.imp ltP_ne
theorem spots_eq (l : List (Int × Int)) (h : l.Pairwise ltP) : ((prS l.length l l).map fun x => (x.1, (x.2.length : Int))) = refS l := by
  have hn := pw_nodup h
  have h1 := prS_spec l hn 0 (by omega) l hn (Nat.le_refl _) (fun p => ⟨fun hp => ⟨hp, fun j hj => by omega⟩, fun hp => hp.1⟩)
  have h2 := spR_spec l 0 (by omega)
  rw [List.drop_zero] at h1 h2
  rw [h1, ← h2]; rfl
end Go.Den.FaU
namespace Go.Den.FaU
open Go Go.Proofs Go.Den Go.Den.FaT Go.Den.FaF
theorem c64n (z y : Nat) : (lim FaT.T).call 64 [.sl false z [], .sl false y []] [] 0 [] = some (.bool true, [], 0, []) := by
  rw [FaT.ent64]
  simp -implicitDefEqProofs only [go_sem, simprocAttr]
  rw [loopEq]
  simp -implicitDefEqProofs only [go_sem, simprocAttr]
theorem d16 (aw : (lim FaT.T).call 16 [] [] 0 [] = some (.bool true, [], 0, [])) : den FaT.T 16 [] = some (.bool true) := de (fn := Tryz.f16) (by kernel_rfl) (by kernel_rfl) (by kernel_rfl) aw
theorem d55 (p : Pc) : den FaT.T 55 [pcV p] = some (.bool (decide ((p.l.length : Int) ≤ 64))) := de (fn := Tryz.f55) (by kernel_rfl) (by kernel_rfl) (by kernel_rfl) (c55 p)
theorem d57 (p : Pc) (hl : p.l.length < 1000000) : den FaT.T 57 [pcV p] = some (pcV ⟨p.w, p.h, true, p.l⟩) := de (fn := Tryz.f57) (by kernel_rfl) (by kernel_rfl) (by kernel_rfl) (c57 p hl)
theorem d59 (p : Pc) (hl : p.l.length < 1000000) : den FaT.T 59 [pcV p] = some (.int .i64 (ckPic p)) := de (fn := Tryz.f59) (by kernel_rfl) (by kernel_rfl) (by kernel_rfl) (c59 p hl)
theorem d63 (p : Pc) (hl : p.l.length < 1000000) : den FaT.T 63 [pcV p] = some (.int .i64 (ckPic p)) := de (fn := Tryz.f63) (by kernel_rfl) (by kernel_rfl) (by kernel_rfl) (c63 p hl)
theorem d60 (n : Int) : den FaT.T 60 [.int .i64 n] = some (.int .i64 (rng n 1 16384)) := de (fn := Tryz.f60) (by kernel_rfl) (by kernel_rfl) (by kernel_rfl) (c60 n)
theorem d30 (b : Bool) (x y : Int) : den FaT.T 30 [.sl b 1 [.int .i64 x, .int .i64 y]] = some (.int .i64 (fnz [x, y])) := de (fn := Tryz.f30) (by kernel_rfl) (by kernel_rfl) (by kernel_rfl) (c30_2 b x y)
theorem d61 (p : Pc) (n : Int) (hp : p.ok) (hn : rng n 1 16384 = 0) : den FaT.T 61 [pcV p, .int .i64 n] = some (slV 2 ((hotL p n).map ptV)) := de (fn := Tryz.f61) (by kernel_rfl) (by kernel_rfl) (by kernel_rfl) (c61 p n hp hn)
theorem d62 (p : Pc) (n : Int) (hp : p.ok) (hn : rng n 1 16384 = 0) : den FaT.T 62 [pcV p, .int .i64 n] = some (slV 3 ((refS (hotL p n)).map stV)) := de (fn := Tryz.f62) (by kernel_rfl) (by kernel_rfl) (by kernel_rfl) (c62 p n hp hn)
theorem d35 (b c : Bool) (l : List (Int × Int)) (hl : l.length < 1000000) : den FaT.T 35 [.sl b 2 (l.map ptV), .int .i64 0, .int .i64 0, .sl c 2 (l.map ptV)] = some (.bool true) := de (fn := Tryz.f35) (by kernel_rfl) (by kernel_rfl) (by kernel_rfl) (c35 b c l hl)
theorem d35z (z y : Nat) (E : Int) (h : ¬ E = 0) : den FaT.T 35 [.sl false z [], .int .i64 E, .int .i64 E, .sl false y []] = some (.bool true) := de (fn := Tryz.f35) (by kernel_rfl) (by kernel_rfl) (by kernel_rfl) (c35z z y E h)
theorem d65 (b : Bool) (l : List ((Int × Int) × Int)) (hb : l.length < 1000000) : den FaT.T 65 [.sl b 3 (l.map stV)] = some (slV 3 (l.map stV)) := de (fn := Tryz.f65) (by kernel_rfl) (by kernel_rfl) (by kernel_rfl) (c65 b l hb)
theorem d64 (b c : Bool) (l : List ((Int × Int) × Int)) (hb : l.length < 1000000) : den FaT.T 64 [.sl b 3 (l.map stV), .sl c 3 (l.map stV)] = some (.bool true) := de (fn := Tryz.f64) (by kernel_rfl) (by kernel_rfl) (by kernel_rfl) (by have := c64 b c l l hb; rw [show decide (l = l) = true by simp] at this; exact this)
theorem d64n (z y : Nat) : den FaT.T 64 [.sl false z [], .sl false y []] = some (.bool true) := de (fn := Tryz.f64) (by kernel_rfl) (by kernel_rfl) (by kernel_rfl) (c64n z y)
theorem spL_eq (p : Pc) (n : Int) (hp : p.ok) : spL p n = refS (hotL p n) := spots_eq _ (hot_pw p n hp)
theorem spR_len (F : List Int) : ∀ (l : List (Int × Int)) (m : Nat), (spR F l m).length ≤ l.length := by
  intro l
  induction l with
  | nil => intro m; simp [spR]
  | cons x r ih =>
    intro m
    simp only [spR]
    have := ih (m + 1)
    split <;> simp <;> omega
theorem c8 (aw : (lim FaT.T).call 16 [] [] 0 [] = some (.bool true, [], 0, [])) (p : Pc) (n : Int) : (lim T).call 8 [pcV p, .int .i64 n] [] 0 [] = some (.bool true, [], 0, []) := by
  rw [ent8]
  have a1 := d16 aw
  have a2 := d55 p
  cases h : decide ((p.l.length : Int) ≤ 64)
  · rw [h] at a2
    simp only [pcV] at a2 ⊢
    simp -implicitDefEqProofs only [go_sem, simprocAttr, a2, a1]
  · have hl : p.l.length ≤ 64 := by have := of_decide_eq_true h; omega
    rw [h] at a2
    have a3 := d57 p (by omega)
    have a4 := c56 ⟨p.w, p.h, true, p.l⟩ n (by simp only; omega)
    have a5 := c58 ⟨p.w, p.h, true, p.l⟩ n (by simp only; omega)
    have a6 := d59 p (by omega)
    have a7 := d63 ⟨p.w, p.h, true, p.l⟩ (by simp only; omega)
    have hc : ckPic ⟨p.w, p.h, true, p.l⟩ = ckPic p := rfl
    have hh : hotL ⟨p.w, p.h, true, p.l⟩ n = hotL p n := rfl
    have hsp : spL ⟨p.w, p.h, true, p.l⟩ n = spL p n := rfl
    rw [hc] at a4 a5 a7
    rw [hh] at a4
    rw [hsp] at a5
    have ck : (ckPic p == ckPic p) = true := by simp
    cases he : (fnz [ckPic p, rng n 1 16384] != 0)
    · have h0 : fnz [ckPic p, rng n 1 16384] = 0 := by simpa using he
      have g1 := fnz_zero.1 h0 (ckPic p) (by simp)
      have g2 := fnz_zero.1 h0 (rng n 1 16384) (by simp)
      have hp := okP g1
      have a8 := d61 p n hp g2
      have a9 := d62 p n hp g2
      rw [he] at a4 a5
      simp only [cond_false] at a4 a5
      rw [spL_eq p n hp] at a5
      have hll := hot_len p n hp
      have hsl : (refS (hotL p n)).length < 1000000 := by
        have := spR_len (finF (hotL p n)) (hotL p n) 0
        unfold refS; omega
      have b1 := fun b c => d35 b c (hotL p n) (by omega)
      have b2 := fun b => d65 b (refS (hotL p n)) hsl
      have b3 := fun b c => d64 b c (refS (hotL p n)) hsl
      generalize hotL p n = L at *
      generalize refS L = R at *
      simp only [pcV, slN] at a2 a3 a4 a5 a6 a7 a8 a9 ⊢
      simp -implicitDefEqProofs only [go_sem, simprocAttr, a2, a3, a4, a5, a6, a7, d60, d30, h0, ck, a8, a9, b1, b2, b3, a1]
    · have h0 : ¬ fnz [ckPic p, rng n 1 16384] = 0 := by simpa using he
      have he2 : (fnz [ckPic p, rng n 1 16384] == 0) = false := by simpa using h0
      have he3 : (fnz [ckPic p, rng n 1 16384] == fnz [ckPic p, rng n 1 16384]) = true := by simp
      rw [he] at a4 a5
      simp only [cond_true] at a4 a5
      have b1 := fun z y => d35z z y _ h0
      have b2 : den FaT.T 65 [.sl false 3 []] = some (slV 3 []) := d65 false [] (by simp)
      simp only [pcV] at a2 a3 a4 a5 a6 a7 ⊢
      simp -implicitDefEqProofs only [go_sem, simprocAttr, a2, a3, a4, a5, a6, a7, d60, d30, he, he2, he3, ck, b1, b2, d64n, a1]
end Go.Den.FaU
namespace Go.Proofs.YtifljcjddphpjaaGreatDoor
open Go Go.Proofs Go.Den Go.Den.FaT Go.ChangeShapes Go.WideShapes Go.ChangeAt Go.RowKit
theorem mapOf {α : Type} {f : α → V} {e : TypeId} {n : Nat} (hc : ∀ {us}, Cl Tryz.prog n e us → ∃ a, mk Tryz.prog e us = f a) : ∀ {l : List V}, (∀ u ∈ l, ∃ us, Cl Tryz.prog n e us ∧ u = mk Tryz.prog e us) → ∃ ps : List α, l = ps.map f
  | [], _ => ⟨[], rfl⟩
  | u :: l, h => by
    obtain ⟨ps, rfl⟩ := mapOf hc (l := l) fun v hv => h v (List.mem_cons_of_mem _ hv)
    obtain ⟨us, h1, rfl⟩ := h u (List.mem_cons_self)
    obtain ⟨a, ha⟩ := hc h1
    exact ⟨a :: ps, by rw [ha]; rfl⟩
theorem mk3 (v : V) : mk Tryz.prog 3 [v] = v := by unfold mk; rw [Tryz.underlying3]; rfl
theorem mk150 (v : V) : mk Tryz.prog 150 [v] = v := by unfold mk; rw [Tryz.underlying150]; rfl
theorem mk82 (us : List V) : mk Tryz.prog 82 us = .agg us := by unfold mk; rw [Tryz.underlying82]
theorem cl150 {n : Nat} {us : List V} (h : Cl Tryz.prog n 150 us) : ∃ a, mk Tryz.prog 150 us = fV a := by
  cases n with
  | zero => cases h
  | succ n =>
    unfold Cl at h
    rw [Tryz.underlying150] at h
    obtain ⟨b, rfl⟩ := h
    exact ⟨b, mk150 _⟩
theorem cl80 {n : Nat} {vs : List V} (h : Cl Tryz.prog n 80 vs) : ∃ b, ∃ l : List Nat, vs = [.sl b 1 (l.map fV)] := by
  cases n with
  | zero => cases h
  | succ n =>
    unfold Cl at h
    rw [Tryz.underlying80] at h
    obtain ⟨b, l, rfl, _, _, hl⟩ := h
    obtain ⟨ps, rfl⟩ := mapOf cl150 hl
    have : Tryz.prog.cellsOf 150 = 1 := by kernel_rfl
    exact ⟨b, ps, by rw [this]⟩
theorem cl82 {n : Nat} {us : List V} (h : Cl Tryz.prog n 82 us) : ∃ a : Pc, mk Tryz.prog 82 us = pcV a := by
  cases n with
  | zero => cases h
  | succ n =>
    unfold Cl at h
    rw [Tryz.underlying82] at h
    obtain ⟨ps, rfl, hl, hp⟩ := h
    match ps, hl with
    | [p, q, r], _ =>
      obtain ⟨x, rfl, _⟩ := cl3 (hp 0 _ p rfl rfl)
      obtain ⟨y, rfl, _⟩ := cl3 (hp 1 _ q rfl rfl)
      obtain ⟨b, l, rfl⟩ := cl80 (hp 2 _ r rfl rfl)
      exact ⟨⟨x, y, b, l⟩, by rw [mk82]; rfl⟩
theorem cl3m {n : Nat} {us : List V} (h : Cl Tryz.prog n 3 us) : ∃ a, mk Tryz.prog 3 us = .int .i64 a := by
  obtain ⟨i, rfl, _⟩ := cl3 h
  exact ⟨i, mk3 _⟩
end Go.Proofs.YtifljcjddphpjaaGreatDoor
end
