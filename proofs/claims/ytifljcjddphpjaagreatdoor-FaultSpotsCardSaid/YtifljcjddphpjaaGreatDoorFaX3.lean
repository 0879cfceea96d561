import Derived.Test.YtifljcjddphpjaaGreatDoorFaX1
import Derived.Test.YtifljcjddphpjaaGreatDoorFaS1
import Derived.Test.YtifljcjddphpjaaGreatDoorFaX0
import Derived.Test.YtifljcjddphpjaaGreatDoorFaS0
import Derived.Test.YtifljcjddphpjaaGreatDoorZP
import Derived.Test.YtifljcjddphpjaaGreatDoorFaS2
set_option linter.all false
set_option maxHeartbeats 8000000
set_option maxRecDepth 100000
noncomputable section
namespace Go.Den.FaT
open Go Go.Proofs Go.Den Go.Den.FaF
theorem hotE_in (w m : Int) (hw : 1 ≤ w ∧ w ≤ 16) : ∀ (us : List Int) (i : Nat), ∀ x ∈ hotE w m us i, ∃ j : Nat, i ≤ j ∧ j < i + us.length ∧ x = ((j : Int).tmod w, (j : Int).tdiv w) := by
  intro us
  induction us with
  | nil => intro i x hx; simp [hotE] at hx
  | cons u r ih =>
    intro i x hx
    simp only [hotE] at hx
    have rec_ : x ∈ hotE w m r (i + 1) → ∃ j : Nat, i ≤ j ∧ j < i + (u :: r).length ∧ x = ((j : Int).tmod w, (j : Int).tdiv w) := by
      intro h
      obtain ⟨j, h1, h2, h3⟩ := ih (i + 1) x h
      exact ⟨j, by omega, by simp; omega, h3⟩
    split at hx
    · rcases List.mem_cons.1 hx with rfl | h
      · exact ⟨i, by omega, by simp, rfl⟩
      · exact rec_ h
    · exact rec_ hx
theorem hotE_len (w m : Int) : ∀ (us : List Int) (i : Nat), (hotE w m us i).length ≤ us.length := by
  intro us
  induction us with
  | nil => intro i; simp [hotE]
  | cons u r ih =>
    intro i
    simp only [hotE]
    have := ih (i + 1)
    split <;> simp <;> omega
theorem hot_sm (p : Pc) (n : Int) (hp : p.ok) : ∀ x ∈ hotL p n, sm x := by
  intro x hx
  obtain ⟨j, h1, h2, rfl⟩ := hotE_in p.w _ hp.w _ _ x hx
  have hl := hp.len
  have hul : (us p.l).length = p.l.length := by simp [us]
  have h3 := Int.tmod_nonneg (a := (j : Int)) p.w (by omega)
  have h4 := Int.tmod_lt_of_pos (j : Int) (show 0 < p.w by have := hp.w; omega)
  have h5 := Int.tdiv_nonneg (a := (j : Int)) (b := p.w) (by omega) (by have := hp.w; omega)
  have h6 := Int.tdiv_le_self (a := (j : Int)) p.w (by omega)
  have := hp.w
  exact ⟨h3, by simp only; omega, h5, by simp only; omega⟩
theorem hot_len (p : Pc) (n : Int) (hp : p.ok) : (hotL p n).length ≤ 256 := by
  have h1 := hotE_len p.w (med (us p.l) + n) (us p.l) 0
  have hul : (us p.l).length = p.l.length := by simp [us]
  have hl := hp.len
  unfold hotL; omega
end Go.Den.FaT
namespace Go.Den.FaU
open Go Go.Proofs Go.Den Go.Den.FaT Go.Den.FaF
@[go_sem] theorem callP_d {ih : Ih} {f : Nat} {args : List V} {k : V → Prog} (h : FaU.T.byref f = false) (h' : FaU.T.prim f = some (den2 FaT.T f)) : callP ih FaU.T f args k = stowLP FaU.T args fun args => needP (!yldL args) <| optP (den2 FaT.T f args) fun v => toP (resK FaU.T f v fun v => some (k v)) := by
  unfold callP
  rw [h]
  simp only [h']
@[go_sem] theorem callP_183 {ih : Ih} {args : List V} {k : V → Prog} : callP ih FaU.T 183 args k = stowLP FaU.T args fun args => needP (!yldL args) <| optP (medV args) fun v => toP (resK FaU.T 183 v fun v => some (k v)) := callP_p _ _ _ _ _ fct183.1 medV fct183.2.1
attribute [go_sem] shArgs shD
@[go_sem] theorem e2_16 (vs : List V) : den2 FaT.T 16 vs = shArgs FaT.T [] vs fun r => need (pureL r) (den FaT.T 16 r) := den2_eq (fn := Tryz.f16) (by kernel_rfl) (by kernel_rfl) vs
@[go_sem] theorem e2_55 (vs : List V) : den2 FaT.T 55 vs = shArgs FaT.T [82] vs fun r => need (pureL r) (den FaT.T 55 r) := den2_eq (fn := Tryz.f55) (by kernel_rfl) (by kernel_rfl) vs
@[go_sem] theorem e2_57 (vs : List V) : den2 FaT.T 57 vs = shArgs FaT.T [82] vs fun r => need (pureL r) (den FaT.T 57 r) := den2_eq (fn := Tryz.f57) (by kernel_rfl) (by kernel_rfl) vs
@[go_sem] theorem e2_59 (vs : List V) : den2 FaT.T 59 vs = shArgs FaT.T [82] vs fun r => need (pureL r) (den FaT.T 59 r) := den2_eq (fn := Tryz.f59) (by kernel_rfl) (by kernel_rfl) vs
@[go_sem] theorem e2_150 (vs : List V) : den2 FaT.T 150 vs = shArgs FaT.T [85, 3] vs fun r => need (pureL r) (den FaT.T 150 r) := den2_eq (fn := Tryz.f150) (by kernel_rfl) (by kernel_rfl) vs
@[go_sem] theorem e2_152 (vs : List V) : den2 FaT.T 152 vs = shArgs FaT.T [100, 100] vs fun r => need (pureL r) (den FaT.T 152 r) := den2_eq (fn := Tryz.f152) (by kernel_rfl) (by kernel_rfl) vs
@[go_sem] theorem e2_153 (vs : List V) : den2 FaT.T 153 vs = shArgs FaT.T [225, 234] vs fun r => need (pureL r) (den FaT.T 153 r) := den2_eq (fn := Tryz.f153) (by kernel_rfl) (by kernel_rfl) vs
@[go_sem] theorem e2_213 (vs : List V) : den2 FaT.T 213 vs = shArgs FaT.T [80, 235] vs fun r => need (pureL r) (den FaT.T 213 r) := den2_eq (fn := Tryz.f213) (by kernel_rfl) (by kernel_rfl) vs
@[go_sem] theorem e2_327 (vs : List V) : den2 FaT.T 327 vs = shArgs FaT.T [100] vs fun r => need (pureL r) (den FaT.T 327 r) := den2_eq (fn := Tryz.f327) (by kernel_rfl) (by kernel_rfl) vs
@[go_sem] theorem e2_328 (vs : List V) : den2 FaT.T 328 vs = shArgs FaT.T [100] vs fun r => need (pureL r) (den FaT.T 328 r) := den2_eq (fn := Tryz.f328) (by kernel_rfl) (by kernel_rfl) vs
@[go_sem] theorem e2_329 (vs : List V) : den2 FaT.T 329 vs = shArgs FaT.T [100] vs fun r => need (pureL r) (den FaT.T 329 r) := den2_eq (fn := Tryz.f329) (by kernel_rfl) (by kernel_rfl) vs
@[go_sem] theorem e2_330 (vs : List V) : den2 FaT.T 330 vs = shArgs FaT.T [100] vs fun r => need (pureL r) (den FaT.T 330 r) := den2_eq (fn := Tryz.f330) (by kernel_rfl) (by kernel_rfl) vs
@[go_sem] theorem globU : FaU.T.glob 0 = some [.str [110, 111, 110, 101], .fn 327 [], .str [111, 110, 101], .fn 328 [], .str [116, 119, 111], .fn 329 [], .str [116, 104, 114, 101, 101], .fn 330 []] := by kernel_rfl
theorem de {f : Nat} {args : List V} {v : V} {fn : Func} (h1 : FaT.T.byref f = false) (h2 : FaT.T.prim f = none) (h3 : FaT.T.fn f = some fn) (h4 : (lim FaT.T).call f args [] 0 [] = some (v, [], 0, [])) : den FaT.T f args = some v := den_of h1 h2 h3 h4
theorem d327 : den FaT.T 327 [.agg [.int .i64 1, .int .i64 0]] = some (.agg [.int .i64 1, .int .i64 0]) := de (fn := Tryz.f327) (by kernel_rfl) (by kernel_rfl) (by kernel_rfl) (lim_call.2 ⟨200, by kernel_rfl⟩)
theorem d328 : den FaT.T 328 [.agg [.int .i64 1, .int .i64 0]] = some (.agg [.int .i64 0, .int .i64 1]) := de (fn := Tryz.f328) (by kernel_rfl) (by kernel_rfl) (by kernel_rfl) (lim_call.2 ⟨200, by kernel_rfl⟩)
theorem d329 : den FaT.T 329 [.agg [.int .i64 1, .int .i64 0]] = some (.agg [.int .i64 (-1), .int .i64 0]) := de (fn := Tryz.f329) (by kernel_rfl) (by kernel_rfl) (by kernel_rfl) (lim_call.2 ⟨200, by kernel_rfl⟩)
theorem d330 : den FaT.T 330 [.agg [.int .i64 1, .int .i64 0]] = some (.agg [.int .i64 0, .int .i64 (-1)]) := de (fn := Tryz.f330) (by kernel_rfl) (by kernel_rfl) (by kernel_rfl) (lim_call.2 ⟨200, by kernel_rfl⟩)
theorem d152 (a b c d : Int) : den FaT.T 152 [.agg [.int .i64 a, .int .i64 b], .agg [.int .i64 c, .int .i64 d]] = some (.agg [.int .i64 (IntKind.i64.wrap (a + c)), .int .i64 (IntKind.i64.wrap (b + d))]) := de (fn := Tryz.f152) (by kernel_rfl) (by kernel_rfl) (by kernel_rfl) (c152 a b c d)
theorem d150 (p : Pc) (n : Int) (hl : p.l.length < 1000000) : den FaT.T 150 [pcV p, .int .i64 n] = some (.int .i64 (fnz [ckPic p, rng n 1 16384])) := de (fn := Tryz.f150) (by kernel_rfl) (by kernel_rfl) (by kernel_rfl) (c150 p n hl)
theorem d213 (b : Bool) (l : List Nat) (hb : l.length < 1000000) (hu : ∀ x ∈ l, ckX x = 0) : den FaT.T 213 [.sl b 1 (l.map fV), .fn 214 []] = some (slV 1 ((l.map fun x => unX x).map intV)) := de (fn := Tryz.f213) (by kernel_rfl) (by kernel_rfl) (by kernel_rfl) (c213 b l hb hu)
theorem d153 (b : Bool) (l : List ((Int × Int) × List (Int × Int))) (hb : l.length < 1000000) : den FaT.T 153 [.sl b 4 (l.map joV), .fn 154 []] = some (slV 3 ((l.map fun x => (x.1, (x.2.length : Int))).map stV)) := de (fn := Tryz.f153) (by kernel_rfl) (by kernel_rfl) (by kernel_rfl) (c153 b l hb)
theorem loop151 (p : Pc) (n : Int) (hp : p.ok) (b : Bool) (l : List Int) (hl : l.length = p.l.length) (m : Int) (hm : m + n ≤ 1000000 ∧ -1000000 ≤ m + n) : ∀ i, i ≤ l.length → ∀ o : Option (List (Int × Int)), acL o ≤ i →
    (lim T).loop false [.code (.loop b151_0), .inBlock 0, .code (.seq r151_10 .ret)] ⟨151, 41, 0, [(1, .int .i64 n), (2, .ptr 0 0 0), (6, .int .i64 m), (7, acV o 1), (15, .sl b 1 (l.map intV)), (16, .int .i64 l.length), (17, .int .i64 i)], .cells true true 85 [pcV p] :: acR ptV o 100, 0, []⟩ =
      some (.ret (acO ptV 0 2 (acA o (hotE p.w (m + n) (l.drop i) i))), [], 0, []) := by
  have hl2 := hp.len
  have hw := hp.w
  refine down_ind l.length ?_ fun i hi ih o ho => ?_
  · intro o ho
    rw [loopEq]
    have h1 := idx_out l.length
    cases o with
    | none =>
      simp -implicitDefEqProofs only [go_sem, simprocAttr, h1]
      simp [acA, acO, hotE]
    | some a =>
      simp -implicitDefEqProofs only [go_sem, simprocAttr, h1]
      simp [acA, acO, hotE]
  · obtain ⟨h1, h2, h3, h4, h5⟩ := idx_in hi (by omega)
    rw [loopEq, h5]
    have w1 : IntKind.i64.wrap (m + n) = m + n := by rw [wrap64] <;> omega
    have hd0 : 0 ≤ (i : Int).tdiv p.w := Int.tdiv_nonneg (by omega) (by omega)
    have hd1 : (i : Int).tdiv p.w ≤ i := Int.tdiv_le_self _ (by omega)
    have w2 : IntKind.i64.wrap ((i : Int).tdiv p.w) = (i : Int).tdiv p.w := by rw [wrap64] <;> omega
    have hz : (!(p.w == 0)) = true := by simp; omega
    cases h6 : decide (m + n ≤ l[i])
    · have h7 : ¬ m + n ≤ l[i] := by simpa using h6
      have ih' := ih o (by omega)
      simp only [hotE, h7, if_false]
      simp only [pcV] at ih' ⊢
      cases o with
      | none =>
        simp only [acV_n, acR_n] at ih'
        simp -implicitDefEqProofs only [go_sem, simprocAttr, h1, h2, h3, h4, w1, h6, ih']
      | some a =>
        simp only [acV_s, acR_s] at ih'
        simp -implicitDefEqProofs only [go_sem, simprocAttr, h1, h2, h3, h4, w1, h6, ih']
    · have h7 : m + n ≤ l[i] := by simpa using h6
      have ih' := ih (acA o [((i : Int).tmod p.w, (i : Int).tdiv p.w)]) (by rw [acL_A]; simp; omega)
      rw [acA_acA] at ih'
      simp only [hotE, h7, if_true]
      simp only [pcV, List.cons_append, List.nil_append] at ih' ⊢
      cases o with
      | none =>
        have h8 := row_ok (n := 0) (by omega)
        simp only [acA_n, acV_s, acR_s, List.map_cons, List.map_nil, ptV] at ih'
        simp -implicitDefEqProofs only [go_sem, simprocAttr, h1, h2, h3, h4, w1, w2, hz, h6, ih', h8.2]
      | some a =>
        have h9 : a.length ≤ i := ho
        have h8 := (row_ok (n := a.length) (by omega)).1
        simp only [acA_s, acV_s, acR_s, List.map_append, List.map_cons, List.map_nil, ptV] at ih'
        simp -implicitDefEqProofs only [go_sem, simprocAttr, h1, h2, h3, h4, w1, w2, hz, h6, ih', h8]
theorem medV_eq (b : Bool) (l : List Int) (hl : l.length < 1000000) (h0 : 0 < l.length) : medV [.sl b 1 (l.map intV)] = some (.int .i64 (med l)) := by
  have e2 : intsOf (l.map intV) = some l := intsOf_map l
  have e3 : Nat.blt l.length 1000000 = true := by simpa [Nat.blt_eq] using hl
  have e4 : Nat.blt 0 l.length = true := by simpa [Nat.blt_eq] using h0
  simp only [medV, e2, e3, e4, Bool.and_self]
theorem c151 (p : Pc) (n : Int) (hp : p.ok) (hn : rng n 1 16384 = 0) : (lim T).call 151 [pcV p, .int .i64 n] [] 0 [] = some (slV 2 ((hotL p n).map ptV), [], 0, []) := by
  have hl := hp.len
  have hul : (us p.l).length = p.l.length := by simp [us]
  have hne : us p.l ≠ [] := by
    intro h; have := congrArg List.length h; simp [us] at this; rw [this] at hl; simp at hl
  have hb := un_b hp _ (med_mem hne)
  have hr := rng_in hn
  have hh : hotE p.w (med (us p.l) + n) (us p.l) 0 = hotL p n := rfl
  have hie : (List.map intV (us p.l)).isEmpty = false := by
    obtain ⟨x, r, hx⟩ := List.exists_cons_of_ne_nil hne
    rw [hx]; rfl
  have e2 := fun b => loop151 p n hp b (us p.l) (by simp [us]) (med (us p.l)) (by omega) 0 (by omega) none (by simp [acL])
  rw [show ((0 : Nat) : Int) = 0 from rfl, List.drop_zero, acO_slV, hh] at e2
  have e3 := fun b => medV_eq b (us p.l) (by omega) (by omega)
  have e4 := d213 p.b p.l (by omega) hp.x
  rw [show (p.l.map fun x => unX x) = us p.l from rfl] at e4
  simp only [acV_n, acR_n, pcV] at e2 ⊢
  rw [ent151]
  simp -implicitDefEqProofs only [go_sem, simprocAttr, e4, hie, e3, e2]
@[go_sem] theorem fct327 : Fct T 327 false (some (den2 FaT.T 327)) false := ⟨by kernel_rfl, by kernel_rfl, by kernel_rfl⟩
@[go_sem] theorem res327 : Res1 T 327 100 := res1 T (F := Tryz.f327) (by kernel_rfl) (by kernel_rfl)
@[go_sem] theorem fct328 : Fct T 328 false (some (den2 FaT.T 328)) false := ⟨by kernel_rfl, by kernel_rfl, by kernel_rfl⟩
@[go_sem] theorem res328 : Res1 T 328 100 := res1 T (F := Tryz.f328) (by kernel_rfl) (by kernel_rfl)
@[go_sem] theorem fct329 : Fct T 329 false (some (den2 FaT.T 329)) false := ⟨by kernel_rfl, by kernel_rfl, by kernel_rfl⟩
@[go_sem] theorem res329 : Res1 T 329 100 := res1 T (F := Tryz.f329) (by kernel_rfl) (by kernel_rfl)
@[go_sem] theorem fct330 : Fct T 330 false (some (den2 FaT.T 330)) false := ⟨by kernel_rfl, by kernel_rfl, by kernel_rfl⟩
@[go_sem] theorem res330 : Res1 T 330 100 := res1 T (F := Tryz.f330) (by kernel_rfl) (by kernel_rfl)
def kv (p : Int × Int) : V × V := (ptV p, .bool true)
theorem eq100 (a b : Int × Int) : eqT T 5 100 (ptV a) (ptV b) = some (a.1 == b.1 && a.2 == b.2) := by
  simp -implicitDefEqProofs only [go_sem, simprocAttr]
theorem key100 (a : Int × Int) : keyOk T 3 100 (ptV a) = true := by kernel_rfl
theorem pbeq (a b : Int × Int) : (a.1 == b.1 && a.2 == b.2) = decide (a = b) := by
  rw [Bool.eq_iff_iff, decide_eq_true_iff]
  constructor
  · exact pair_eq a b
  · rintro rfl; simp
theorem getKv (L : List (Int × Int)) (x : Int × Int) : mapGet (eqT T 5 100) (L.map kv) (ptV x) = some (cond (decide (x ∈ L)) (some (.bool true)) none) := by
  induction L with
  | nil => rfl
  | cons c L ih =>
    simp only [List.map_cons, kv, mapGet, eq100, pbeq]
    by_cases h : x = c
    · simp [h]
    · simp only [h, decide_false, List.mem_cons, false_or]
      simpa [kv] using ih
theorem delKv (L : List (Int × Int)) (x : Int × Int) : mapDel (eqT T 5 100) (L.map kv) (ptV x) = some ((L.erase x).map kv) := by
  induction L with
  | nil => rfl
  | cons c L ih =>
    simp only [List.map_cons, kv, mapDel, eq100, pbeq]
    by_cases h : x = c
    · subst h; simp [kv]
    · have h' : (c == x) = false := by simpa using fun e => h e.symm
      simp only [h, decide_false, List.erase_cons, h']
      have ih' : mapDel (eqT T 5 100) (List.map kv L) (ptV x) = some ((L.erase x).map kv) := ih
      simp only [ih']
      rfl
section
variable (T' : Tab)
def delP (T : Tab) (d : TD) (m x : V) (k : Prog) : Prog := match d, m with
  | .map kt _, .map id => needP (keyOk T 3 kt x) (.get id (mapRowP fun es => optP (mapDel (eqT T 5 kt) es x) fun es' => .set id (.map es') k))
  | _, _ => .fail
@[go_sem] theorem bi_delete (t : TypeId) (ts : List TypeId) (m x : V) (k : V → Prog) : builtinP T' .delete (t :: ts) [m, x] k = delP T' (T'.td t) m x (k (.tup [])) := by
  cases m with
  | map id =>
    simp only [builtinP, delP]
    cases T'.td t <;> rfl
  | _ => simp only [builtinP, delP] <;> (cases T'.td t <;> rfl)
@[go_sem] theorem delP_m (kt e : TypeId) (id : Nat) (x : V) (k : Prog) : delP T' (.map kt e) (.map id) x k = needP (keyOk T' 3 kt x) (.get id (mapRowP fun es => optP (mapDel (eqT T' 5 kt) es x) fun es' => .set id (.map es') k)) := rfl
end
def stT (q : Int × Int) (s : List (Int × Int) × List (Int × Int)) (t : Int × Int) : List (Int × Int) × List (Int × Int) :=
  if (q.1 + t.1, q.2 + t.2) ∈ s.1 then (s.1.erase (q.1 + t.1, q.2 + t.2), s.2 ++ [(q.1 + t.1, q.2 + t.2)]) else s
def kO (o : Option (List ((Int × Int) × List (Int × Int)))) : Nat := match o with | none => 1 | some _ => 2
def HH (o : Option (List ((Int × Int) × List (Int × Int)))) (L : List (Int × Int)) (x : Int × Int) (P : List (Int × Int)) : Heap := match o with
  | none => [.map (L.map kv), .cells true false 227 [.agg [.int .i64 x.1, .int .i64 x.2, .int .i64 0, .ref 2]], .cells false true 100 (P.map ptV)]
  | some a => [.map (L.map kv), .cells false true 227 (a.map joV), .cells true false 227 [.agg [.int .i64 x.1, .int .i64 x.2, .int .i64 0, .ref 3]], .cells false true 100 (P.map ptV)]
def KS : List Item := [.inBlock 4, .code (.seq r58_29 r58_30), .inBlock 3, .code r58_31, .inLoop b58_1, .inBlock 2, .code (.seq r58_32 .ret)]
def M3 (b : Bool) (l : List (Int × Int)) (m : Nat) (o : Option (List ((Int × Int) × List (Int × Int)))) (L : List (Int × Int)) (x : Int × Int) (P : List (Int × Int)) (i : Nat) (j : Int) : Option Out :=
  (lim T).loop false (.code (.loop b58_3) :: .inBlock 6 :: .inBlock 5 :: .code r58_20 :: .inLoop b58_2 :: KS) ⟨58, 100, 0, [(8, .map 0), (11, acV o 1), (14, .ptr (kO o) 0 0), (15, .int .i64 i), (38, .sl b 2 (l.map ptV)), (39, .int .i64 l.length), (40, .int .i64 m), (62, .agg [.str [110, 111, 110, 101], .fn 327 [], .str [111, 110, 101], .fn 328 [], .str [116, 119, 111], .fn 329 [], .str [116, 104, 114, 101, 101], .fn 330 []]), (63, .int .i64 j)], HH o L x P, 0, []⟩
theorem M3_0 (b : Bool) (l : List (Int × Int)) (m : Nat) (o : Option (List ((Int × Int) × List (Int × Int)))) (L : List (Int × Int)) (x : Int × Int) (P : List (Int × Int)) (i : Nat) (hi : i < P.length) (hP : P.length < 100000) (q : Int × Int) (hq : P[i] = q) (hs : sm q) :
    M3 b l m o L x P i 0 = M3 b l m o (stT q (L, P) (1, 0)).1 x (stT q (L, P) (1, 0)).2 i 1 := by
  obtain ⟨h1, h2, h3, h4, h5⟩ := idx_in hi (by omega)
  rw [hq] at h3
  obtain ⟨a1, a2, a3, a4⟩ := hs
  have w1 : IntKind.i64.wrap (q.1 + 1) = q.1 + 1 := by rw [wrap64] <;> omega
  have w2 : IntKind.i64.wrap (q.2 + 0) = q.2 + 0 := by rw [wrap64] <;> omega
  have h8 := (row_ok (n := P.length) (by omega)).1
  have wj : IntKind.i64.wrap 1 = 1 := by decide
  have g := getKv L (q.1 + 1, q.2 + 0)
  have kk := key100 (q.1 + 1, q.2 + 0)
  have dl := delKv L (q.1 + 1, q.2 + 0)
  conv => lhs; unfold M3; rw [loopEq]
  by_cases hm : (q.1 + 1, q.2 + 0) ∈ L
  · have e0 : stT q (L, P) (1, 0) = (L.erase (q.1 + 1, q.2 + 0), P ++ [(q.1 + 1, q.2 + 0)]) := by unfold stT; rw [if_pos hm]
    rw [e0]
    rw [decide_eq_true hm, cond_true] at g
    simp only [ptV, Int.add_zero] at g kk dl w1 w2 ⊢
    unfold M3
    cases o with
    | none =>
      simp only [HH, kO, acV_n, List.map_append, List.map_cons, List.map_nil, ptV]
      simp -implicitDefEqProofs only [go_sem, simprocAttr, h1, h2, h3, w1, w2, h8, g, kk, wj, Int.add_zero, dl, d327, d152]
    | some a =>
      simp only [HH, kO, acV_s, List.map_append, List.map_cons, List.map_nil, ptV]
      simp -implicitDefEqProofs only [go_sem, simprocAttr, h1, h2, h3, w1, w2, h8, g, kk, wj, Int.add_zero, dl, d327, d152]
  · have e0 : stT q (L, P) (1, 0) = (L, P) := by unfold stT; rw [if_neg hm]
    rw [e0]
    rw [decide_eq_false hm, cond_false] at g
    simp only [ptV, Int.add_zero] at g kk dl w1 w2 ⊢
    unfold M3
    cases o with
    | none =>
      simp only [HH, kO, acV_n]
      simp -implicitDefEqProofs only [go_sem, simprocAttr, h1, h2, h3, w1, w2, h8, g, kk, wj, Int.add_zero, d327, d152]
    | some a =>
      simp only [HH, kO, acV_s]
      simp -implicitDefEqProofs only [go_sem, simprocAttr, h1, h2, h3, w1, w2, h8, g, kk, wj, Int.add_zero, d327, d152]
theorem M3_1 (b : Bool) (l : List (Int × Int)) (m : Nat) (o : Option (List ((Int × Int) × List (Int × Int)))) (L : List (Int × Int)) (x : Int × Int) (P : List (Int × Int)) (i : Nat) (hi : i < P.length) (hP : P.length < 100000) (q : Int × Int) (hq : P[i] = q) (hs : sm q) :
    M3 b l m o L x P i 1 = M3 b l m o (stT q (L, P) (0, 1)).1 x (stT q (L, P) (0, 1)).2 i 2 := by
  obtain ⟨h1, h2, h3, h4, h5⟩ := idx_in hi (by omega)
  rw [hq] at h3
  obtain ⟨a1, a2, a3, a4⟩ := hs
  have w1 : IntKind.i64.wrap (q.1 + 0) = q.1 + 0 := by rw [wrap64] <;> omega
  have w2 : IntKind.i64.wrap (q.2 + 1) = q.2 + 1 := by rw [wrap64] <;> omega
  have h8 := (row_ok (n := P.length) (by omega)).1
  have wj : IntKind.i64.wrap 2 = 2 := by decide
  have g := getKv L (q.1 + 0, q.2 + 1)
  have kk := key100 (q.1 + 0, q.2 + 1)
  have dl := delKv L (q.1 + 0, q.2 + 1)
  conv => lhs; unfold M3; rw [loopEq]
  by_cases hm : (q.1 + 0, q.2 + 1) ∈ L
  · have e0 : stT q (L, P) (0, 1) = (L.erase (q.1 + 0, q.2 + 1), P ++ [(q.1 + 0, q.2 + 1)]) := by unfold stT; rw [if_pos hm]
    rw [e0]
    rw [decide_eq_true hm, cond_true] at g
    simp only [ptV, Int.add_zero] at g kk dl w1 w2 ⊢
    unfold M3
    cases o with
    | none =>
      simp only [HH, kO, acV_n, List.map_append, List.map_cons, List.map_nil, ptV]
      simp -implicitDefEqProofs only [go_sem, simprocAttr, h1, h2, h3, w1, w2, h8, g, kk, wj, Int.add_zero, dl, d328, d152]
    | some a =>
      simp only [HH, kO, acV_s, List.map_append, List.map_cons, List.map_nil, ptV]
      simp -implicitDefEqProofs only [go_sem, simprocAttr, h1, h2, h3, w1, w2, h8, g, kk, wj, Int.add_zero, dl, d328, d152]
  · have e0 : stT q (L, P) (0, 1) = (L, P) := by unfold stT; rw [if_neg hm]
    rw [e0]
    rw [decide_eq_false hm, cond_false] at g
    simp only [ptV, Int.add_zero] at g kk dl w1 w2 ⊢
    unfold M3
    cases o with
    | none =>
      simp only [HH, kO, acV_n]
      simp -implicitDefEqProofs only [go_sem, simprocAttr, h1, h2, h3, w1, w2, h8, g, kk, wj, Int.add_zero, d328, d152]
    | some a =>
      simp only [HH, kO, acV_s]
      simp -implicitDefEqProofs only [go_sem, simprocAttr, h1, h2, h3, w1, w2, h8, g, kk, wj, Int.add_zero, d328, d152]
theorem M3_2 (b : Bool) (l : List (Int × Int)) (m : Nat) (o : Option (List ((Int × Int) × List (Int × Int)))) (L : List (Int × Int)) (x : Int × Int) (P : List (Int × Int)) (i : Nat) (hi : i < P.length) (hP : P.length < 100000) (q : Int × Int) (hq : P[i] = q) (hs : sm q) :
    M3 b l m o L x P i 2 = M3 b l m o (stT q (L, P) (-1, 0)).1 x (stT q (L, P) (-1, 0)).2 i 3 := by
  obtain ⟨h1, h2, h3, h4, h5⟩ := idx_in hi (by omega)
  rw [hq] at h3
  obtain ⟨a1, a2, a3, a4⟩ := hs
  have w1 : IntKind.i64.wrap (q.1 + -1) = q.1 + -1 := by rw [wrap64] <;> omega
  have w2 : IntKind.i64.wrap (q.2 + 0) = q.2 + 0 := by rw [wrap64] <;> omega
  have h8 := (row_ok (n := P.length) (by omega)).1
  have wj : IntKind.i64.wrap 3 = 3 := by decide
  have g := getKv L (q.1 + -1, q.2 + 0)
  have kk := key100 (q.1 + -1, q.2 + 0)
  have dl := delKv L (q.1 + -1, q.2 + 0)
  conv => lhs; unfold M3; rw [loopEq]
  by_cases hm : (q.1 + -1, q.2 + 0) ∈ L
  · have e0 : stT q (L, P) (-1, 0) = (L.erase (q.1 + -1, q.2 + 0), P ++ [(q.1 + -1, q.2 + 0)]) := by unfold stT; rw [if_pos hm]
    rw [e0]
    rw [decide_eq_true hm, cond_true] at g
    simp only [ptV, Int.add_zero] at g kk dl w1 w2 ⊢
    unfold M3
    cases o with
    | none =>
      simp only [HH, kO, acV_n, List.map_append, List.map_cons, List.map_nil, ptV]
      simp -implicitDefEqProofs only [go_sem, simprocAttr, h1, h2, h3, w1, w2, h8, g, kk, wj, Int.add_zero, dl, d329, d152]
    | some a =>
      simp only [HH, kO, acV_s, List.map_append, List.map_cons, List.map_nil, ptV]
      simp -implicitDefEqProofs only [go_sem, simprocAttr, h1, h2, h3, w1, w2, h8, g, kk, wj, Int.add_zero, dl, d329, d152]
  · have e0 : stT q (L, P) (-1, 0) = (L, P) := by unfold stT; rw [if_neg hm]
    rw [e0]
    rw [decide_eq_false hm, cond_false] at g
    simp only [ptV, Int.add_zero] at g kk dl w1 w2 ⊢
    unfold M3
    cases o with
    | none =>
      simp only [HH, kO, acV_n]
      simp -implicitDefEqProofs only [go_sem, simprocAttr, h1, h2, h3, w1, w2, h8, g, kk, wj, Int.add_zero, d329, d152]
    | some a =>
      simp only [HH, kO, acV_s]
      simp -implicitDefEqProofs only [go_sem, simprocAttr, h1, h2, h3, w1, w2, h8, g, kk, wj, Int.add_zero, d329, d152]
theorem M3_3 (b : Bool) (l : List (Int × Int)) (m : Nat) (o : Option (List ((Int × Int) × List (Int × Int)))) (L : List (Int × Int)) (x : Int × Int) (P : List (Int × Int)) (i : Nat) (hi : i < P.length) (hP : P.length < 100000) (q : Int × Int) (hq : P[i] = q) (hs : sm q) :
    M3 b l m o L x P i 3 = M3 b l m o (stT q (L, P) (0, -1)).1 x (stT q (L, P) (0, -1)).2 i 4 := by
  obtain ⟨h1, h2, h3, h4, h5⟩ := idx_in hi (by omega)
  rw [hq] at h3
  obtain ⟨a1, a2, a3, a4⟩ := hs
  have w1 : IntKind.i64.wrap (q.1 + 0) = q.1 + 0 := by rw [wrap64] <;> omega
  have w2 : IntKind.i64.wrap (q.2 + -1) = q.2 + -1 := by rw [wrap64] <;> omega
  have h8 := (row_ok (n := P.length) (by omega)).1
  have wj : IntKind.i64.wrap 4 = 4 := by decide
  have g := getKv L (q.1 + 0, q.2 + -1)
  have kk := key100 (q.1 + 0, q.2 + -1)
  have dl := delKv L (q.1 + 0, q.2 + -1)
  conv => lhs; unfold M3; rw [loopEq]
  by_cases hm : (q.1 + 0, q.2 + -1) ∈ L
  · have e0 : stT q (L, P) (0, -1) = (L.erase (q.1 + 0, q.2 + -1), P ++ [(q.1 + 0, q.2 + -1)]) := by unfold stT; rw [if_pos hm]
    rw [e0]
    rw [decide_eq_true hm, cond_true] at g
    simp only [ptV, Int.add_zero] at g kk dl w1 w2 ⊢
    unfold M3
    cases o with
    | none =>
      simp only [HH, kO, acV_n, List.map_append, List.map_cons, List.map_nil, ptV]
      simp -implicitDefEqProofs only [go_sem, simprocAttr, h1, h2, h3, w1, w2, h8, g, kk, wj, Int.add_zero, dl, d330, d152]
    | some a =>
      simp only [HH, kO, acV_s, List.map_append, List.map_cons, List.map_nil, ptV]
      simp -implicitDefEqProofs only [go_sem, simprocAttr, h1, h2, h3, w1, w2, h8, g, kk, wj, Int.add_zero, dl, d330, d152]
  · have e0 : stT q (L, P) (0, -1) = (L, P) := by unfold stT; rw [if_neg hm]
    rw [e0]
    rw [decide_eq_false hm, cond_false] at g
    simp only [ptV, Int.add_zero] at g kk dl w1 w2 ⊢
    unfold M3
    cases o with
    | none =>
      simp only [HH, kO, acV_n]
      simp -implicitDefEqProofs only [go_sem, simprocAttr, h1, h2, h3, w1, w2, h8, g, kk, wj, Int.add_zero, d330, d152]
    | some a =>
      simp only [HH, kO, acV_s]
      simp -implicitDefEqProofs only [go_sem, simprocAttr, h1, h2, h3, w1, w2, h8, g, kk, wj, Int.add_zero, d330, d152]
abbrev PS := List (Int × Int) × List (Int × Int)
def px1 (s : PS) (q : Int × Int) : PS := stT q (stT q (stT q (stT q s (1, 0)) (0, 1)) (-1, 0)) (0, -1)
def bfs : Nat → Nat → PS → PS
  | 0, _, s => s
  | f + 1, i, s => match s.2[i]? with | some q => bfs f (i + 1) (px1 s q) | none => s
structure Inv (s : PS) : Prop where
  sm : ∀ p ∈ s.1, sm p
  sm2 : ∀ p ∈ s.2, FaT.sm p
  len : s.1.length + s.2.length < 100000
theorem stT_inv {q t : Int × Int} {s : PS} (h : Inv s) : Inv (stT q s t) ∧ (∃ R, (stT q s t).2 = s.2 ++ R) ∧ (stT q s t).1.length + (stT q s t).2.length = s.1.length + s.2.length := by
  unfold stT
  split
  · rename_i hm
    have hl := List.length_erase_of_mem hm
    have hp := List.length_pos_of_mem hm
    refine ⟨⟨fun p hp => h.sm p (List.mem_of_mem_erase hp), fun p hp => ?_, ?_⟩, ⟨_, rfl⟩, ?_⟩
    · rcases List.mem_append.1 hp with hp | hp
      · exact h.sm2 p hp
      · simp only [List.mem_singleton] at hp; subst hp; exact h.sm _ hm
    · have := h.len; simp only [List.length_append, List.length_singleton]; omega
    · simp only [List.length_append, List.length_singleton]; omega
  · exact ⟨h, ⟨[], by simp⟩, rfl⟩
theorem px1_inv {q : Int × Int} {s : PS} (h : Inv s) : Inv (px1 s q) ∧ (∃ R, (px1 s q).2 = s.2 ++ R) ∧ (px1 s q).1.length + (px1 s q).2.length = s.1.length + s.2.length := by
  unfold px1
  obtain ⟨a1, ⟨R1, a2⟩, a3⟩ := stT_inv (q := q) (t := (1, 0)) h
  obtain ⟨b1, ⟨R2, b2⟩, b3⟩ := stT_inv (q := q) (t := (0, 1)) a1
  obtain ⟨c1, ⟨R3, c2⟩, c3⟩ := stT_inv (q := q) (t := (-1, 0)) b1
  obtain ⟨d1, ⟨R4, d2⟩, d3⟩ := stT_inv (q := q) (t := (0, -1)) c1
  exact ⟨d1, ⟨R1 ++ R2 ++ R3 ++ R4, by rw [d2, c2, b2, a2]; simp⟩, by omega⟩
def M2 (b : Bool) (l : List (Int × Int)) (m : Nat) (o : Option (List ((Int × Int) × List (Int × Int)))) (x : Int × Int) (s : PS) (i : Nat) : Option Out :=
  (lim T).loop false (.code (.loop b58_2) :: KS) ⟨58, 100, 0, [(8, .map 0), (11, acV o 1), (14, .ptr (kO o) 0 0), (15, .int .i64 i), (38, .sl b 2 (l.map ptV)), (39, .int .i64 l.length), (40, .int .i64 m)], HH o s.1 x s.2, 0, []⟩
theorem M2_step (b : Bool) (l : List (Int × Int)) (m : Nat) (o : Option (List ((Int × Int) × List (Int × Int)))) (x : Int × Int) (s : PS) (hs : Inv s) (i : Nat) (hi : i < s.2.length) : M2 b l m o x s i = M2 b l m o x (px1 s s.2[i]) (i + 1) := by
  have hsm := hs.sm2 _ (List.getElem_mem hi)
  generalize hq : s.2[i] = q at *
  obtain ⟨a1, ⟨R1, a2⟩, a3⟩ := stT_inv (q := q) (t := (1, 0)) hs
  obtain ⟨b1, ⟨R2, b2⟩, b3⟩ := stT_inv (q := q) (t := (0, 1)) a1
  obtain ⟨c1, ⟨R3, c2⟩, c3⟩ := stT_inv (q := q) (t := (-1, 0)) b1
  obtain ⟨d1, ⟨R4, d2⟩, d3⟩ := stT_inv (q := q) (t := (0, -1)) c1
  have at_ : ∀ {L L' : List (Int × Int)} {R : List (Int × Int)} (h : i < L.length), L[i] = q → L' = L ++ R → ∃ h' : i < L'.length, L'[i] = q := by
    rintro L L' R h hL rfl
    exact ⟨by simp; omega, by rw [List.getElem_append_left h]; exact hL⟩
  obtain ⟨p1, r1⟩ := at_ hi hq a2
  obtain ⟨p2, r2⟩ := at_ p1 r1 b2
  obtain ⟨p3, r3⟩ := at_ p2 r2 c2
  have := hs.len
  have e0 := M3_0 b l m o s.1 x s.2 i hi (by omega) q hq hsm
  have e1 := M3_1 b l m o (stT q s (1, 0)).1 x (stT q s (1, 0)).2 i p1 (by omega) q r1 hsm
  have e2 := M3_2 b l m o (stT q (stT q s (1, 0)) (0, 1)).1 x (stT q (stT q s (1, 0)) (0, 1)).2 i p2 (by omega) q r2 hsm
  have e3 := M3_3 b l m o (stT q (stT q (stT q s (1, 0)) (0, 1)) (-1, 0)).1 x (stT q (stT q (stT q s (1, 0)) (0, 1)) (-1, 0)).2 i p3 (by omega) q r3 hsm
  have e : M3 b l m o s.1 x s.2 i 0 = M3 b l m o (px1 s q).1 x (px1 s q).2 i 4 := Eq.trans e0 (Eq.trans e1 (Eq.trans e2 e3))
  clear e0 e1 e2 e3
  obtain ⟨h1, h2, h3, h4, h5⟩ := idx_in hi (by omega)
  have e4 : M3 b l m o (px1 s q).1 x (px1 s q).2 i 4 = M2 b l m o x (px1 s q) (i + 1) := by
    unfold M3
    rw [loopEq]
    unfold M2
    cases o with
    | none =>
      simp only [HH, kO, acV_n]
      simp -implicitDefEqProofs only [go_sem, simprocAttr, h4]
    | some a =>
      simp only [HH, kO, acV_s]
      simp -implicitDefEqProofs only [go_sem, simprocAttr, h4]
  rw [e4] at e
  conv => lhs; unfold M2; rw [loopEq]
  unfold M3 at e
  cases o with
  | none =>
    simp only [HH, kO, acV_n] at e ⊢
    simp -implicitDefEqProofs only [go_sem, simprocAttr, h1, e]
  | some a =>
    simp only [HH, kO, acV_s] at e ⊢
    simp -implicitDefEqProofs only [go_sem, simprocAttr, h1, e]
theorem M2_eq (b : Bool) (l : List (Int × Int)) (m : Nat) (o : Option (List ((Int × Int) × List (Int × Int)))) (x : Int × Int) : ∀ (f i : Nat) (s : PS), Inv s → i ≤ s.2.length → s.1.length + s.2.length ≤ i + f → M2 b l m o x s i = M2 b l m o x (bfs f i s) (bfs f i s).2.length := by
  intro f
  induction f with
  | zero =>
    intro i s hs hi hf
    have : i = s.2.length := by omega
    subst this; rfl
  | succ f ih =>
    intro i s hs hi hf
    by_cases h : i < s.2.length
    · simp only [bfs, List.getElem?_eq_getElem h]
      obtain ⟨p1, ⟨R, p2⟩, p3⟩ := px1_inv (q := s.2[i]) hs
      have hlen := congrArg List.length p2
      rw [List.length_append] at hlen
      rw [M2_step b l m o x s hs i h, ih (i + 1) _ p1 (by omega) (by omega)]
    · have : i = s.2.length := by omega
      subst this
      simp only [bfs, List.getElem?_eq_none (Nat.le_refl _)]
def slN (z : Nat) (l : List V) : V := .sl (!l.isEmpty) z l
def prS (N : Nat) : List (Int × Int) → List (Int × Int) → List ((Int × Int) × List (Int × Int))
  | [], _ => []
  | x :: r, L => if x ∈ L then (x, (bfs N 0 (L.erase x, [x])).2) :: prS N r (bfs N 0 (L.erase x, [x])).1 else prS N r L
def M1 (b : Bool) (l : List (Int × Int)) (o : Option (List ((Int × Int) × List (Int × Int)))) (L : List (Int × Int)) (m : Nat) : Option Out :=
  (lim T).loop false [.code (.loop b58_1), .inBlock 2, .code (.seq r58_32 .ret)] ⟨58, 100, 0, [(8, .map 0), (11, acV o 1), (38, .sl b 2 (l.map ptV)), (39, .int .i64 l.length), (40, .int .i64 m)], .map (L.map kv) :: acR joV o 227, 0, []⟩
theorem bfs_inv : ∀ (f i : Nat) (s : PS), Inv s → Inv (bfs f i s) ∧ (bfs f i s).1.length + (bfs f i s).2.length = s.1.length + s.2.length := by
  intro f
  induction f with
  | zero => intro i s h; exact ⟨h, rfl⟩
  | succ f ih =>
    intro i s h
    simp only [bfs]
    split
    · obtain ⟨p1, _, p3⟩ := px1_inv (q := ‹_›) h
      obtain ⟨q1, q2⟩ := ih (i + 1) _ p1
      exact ⟨q1, by omega⟩
    · exact ⟨h, rfl⟩
theorem M1_eq (b : Bool) (l : List (Int × Int)) (hl : l.length < 10000) (hs : ∀ x ∈ l, sm x) : ∀ m, m ≤ l.length → ∀ (o : Option (List ((Int × Int) × List (Int × Int)))) (L : List (Int × Int)), acL o ≤ m → (∀ p ∈ L, sm p) → L.length ≤ l.length →
    M1 b l o L m = some (.ret (.tup [slN 3 (((o.getD []) ++ prS l.length (l.drop m) L).map fun x => stV (x.1, (x.2.length : Int))), .int .i64 0]), [], 0, []) := by
  refine down_ind l.length ?_ fun m hm ih => ?_
  · intro o L ho hL hLl
    have h1 := idx_out l.length
    have e0 : l.drop l.length = [] := by simp
    rw [e0]
    simp only [prS, List.append_nil]
    unfold M1
    rw [loopEq]
    cases o with
    | none =>
      have e := d153 false [] (by simp)
      simp only [List.map_nil] at e
      simp -implicitDefEqProofs only [go_sem, simprocAttr, h1, e, Option.getD_none]
      rfl
    | some a =>
      have e := d153 true a (by have : a.length ≤ l.length := ho; omega)
      rw [List.map_map, show (stV ∘ fun x : (Int × Int) × List (Int × Int) => (x.1, (x.2.length : Int))) = fun x => stV (x.1, (x.2.length : Int)) from rfl] at e
      simp only [Option.getD_some]
      generalize (List.map (fun x : (Int × Int) × List (Int × Int) => stV (x.1, (x.2.length : Int))) a) = R at *
      simp -implicitDefEqProofs only [go_sem, simprocAttr, h1, e]
      rfl
  · intro o L ho hL hLl
    obtain ⟨h1, h2, h3, h4, h5⟩ := idx_in hm (by omega)
    rw [h5]
    simp only [prS]
    have g := getKv L l[m]
    have kk := key100 l[m]
    have dl := delKv L l[m]
    by_cases hx : l[m] ∈ L
    · rw [if_pos hx]
      rw [decide_eq_true hx, cond_true] at g
      have hel := List.length_erase_of_mem hx
      have hpos := List.length_pos_of_mem hx
      have hI : Inv (L.erase l[m], [l[m]]) := ⟨fun p hp => hL p (List.mem_of_mem_erase hp), fun p hp => by
        simp only [List.mem_singleton] at hp; subst hp; exact hs _ (List.getElem_mem hm), by simp only [List.length_singleton]; omega⟩
      have e2 := M2_eq b l m o l[m] l.length 0 (L.erase l[m], [l[m]]) hI (by simp) (by simp only [List.length_singleton]; omega)
      obtain ⟨q1, q2⟩ := bfs_inv l.length 0 (L.erase l[m], [l[m]]) hI
      simp only [List.length_singleton] at q2
      generalize hB : bfs l.length 0 (L.erase l[m], [l[m]]) = B at *
      have ih' := ih (acA o [(l[m], B.2)]) B.1 (by rw [acL_A]; simp; omega) q1.sm (by omega)
      have hg : (acA o [(l[m], B.2)]).getD [] ++ prS l.length (l.drop (m + 1)) B.1 = o.getD [] ++ (l[m], B.2) :: prS l.length (l.drop (m + 1)) B.1 := by
        cases o <;> simp [acA]
      rw [hg] at ih'
      have hE := idx_out B.2.length
      have hz : ∀ z : Nat, (z : Int) = (z : Int) := fun _ => rfl
      have e3 : M2 b l m o l[m] B B.2.length = M1 b l (acA o [(l[m], B.2)]) B.1 (m + 1) := by
        unfold M2
        rw [loopEq]
        unfold M1 KS
        cases o with
        | none =>
          have h8 := row_ok (n := 0) (by omega)
          simp only [HH, kO, acV_n, acA_n, acV_s, acR_s, List.map_cons, List.map_nil, joV]
          simp -implicitDefEqProofs only [go_sem, simprocAttr, hE, h4, h8.2]
        | some a =>
          have h9 : a.length ≤ m := ho
          have h8 := (row_ok (n := a.length) (by omega)).1
          simp only [HH, kO, acV_s, acA_s, acR_s, List.map_append, List.map_cons, List.map_nil, joV]
          simp -implicitDefEqProofs only [go_sem, simprocAttr, hE, h4, h8]
      rw [e3, ih'] at e2
      unfold M1
      rw [loopEq]
      unfold M2 KS at e2
      rw [show ((0 : Nat) : Int) = 0 from rfl] at e2
      simp only [ptV] at g kk dl
      cases o with
      | none =>
        simp only [HH, kO, acV_n, List.map_cons, List.map_nil, ptV] at e2
        simp -implicitDefEqProofs only [go_sem, simprocAttr, h1, h2, h3, g, kk, dl, e2]
      | some a =>
        simp only [HH, kO, acV_s, List.map_cons, List.map_nil, ptV] at e2
        simp -implicitDefEqProofs only [go_sem, simprocAttr, h1, h2, h3, g, kk, dl, e2]
    · rw [if_neg hx]
      rw [decide_eq_false hx, cond_false] at g
      have ih' := ih o L (by omega) hL hLl
      simp only [ptV] at g kk dl
      unfold M1 at ih' ⊢
      rw [loopEq]
      cases o with
      | none =>
        simp only [acV_n, acR_n] at ih'
        simp -implicitDefEqProofs only [go_sem, simprocAttr, h1, h2, h3, h4, g, kk, ih']
      | some a =>
        simp only [acV_s, acR_s] at ih'
        simp -implicitDefEqProofs only [go_sem, simprocAttr, h1, h2, h3, h4, g, kk, ih']
end Go.Den.FaU
namespace Go.Den.FaU
open Go.Den.FaT
theorem besB_comm (a b : Int × Int) : besB a b = besB b a := by
  unfold besB
  have e1 : a.1 - b.1 = -(b.1 - a.1) := by omega
  have e2 : a.2 - b.2 = -(b.2 - a.2) := by omega
  rw [e1, e2, Int.neg_mul_neg, Int.neg_mul_neg]
theorem sq_le {x : Int} (h : x * x ≤ 1) : -1 ≤ x ∧ x ≤ 1 := by
  constructor
  · refine Classical.byContradiction fun hn => ?_
    have h1 : 2 ≤ -x := by omega
    have := Int.mul_le_mul h1 h1 (by omega) (by omega)
    rw [Int.neg_mul_neg] at this
    omega
  · refine Classical.byContradiction fun hn => ?_
    have h1 : 2 ≤ x := by omega
    have := Int.mul_le_mul h1 h1 (by omega) (by omega)
    omega
theorem besB_iff (q p : Int × Int) : besB q p = true ↔ p = (q.1 + 1, q.2 + 0) ∨ p = (q.1 + 0, q.2 + 1) ∨ p = (q.1 + -1, q.2 + 0) ∨ p = (q.1 + 0, q.2 + -1) := by
  obtain ⟨a, b⟩ := q
  obtain ⟨c, d⟩ := p
  unfold besB
  simp only [beq_iff_eq, Prod.mk.injEq]
  constructor
  · intro h
    have n1 : 0 ≤ (a - c) * (a - c) := by
      rcases Int.le_total 0 (a - c) with h | h
      · exact Int.mul_nonneg h h
      · rw [← Int.neg_mul_neg]; exact Int.mul_nonneg (by omega) (by omega)
    have n2 : 0 ≤ (b - d) * (b - d) := by
      rcases Int.le_total 0 (b - d) with h | h
      · exact Int.mul_nonneg h h
      · rw [← Int.neg_mul_neg]; exact Int.mul_nonneg (by omega) (by omega)
    obtain ⟨x1, x2⟩ := sq_le (show (a - c) * (a - c) ≤ 1 by omega)
    obtain ⟨y1, y2⟩ := sq_le (show (b - d) * (b - d) ≤ 1 by omega)
    have hx : a - c = -1 ∨ a - c = 0 ∨ a - c = 1 := by omega
    have hy : b - d = -1 ∨ b - d = 0 ∨ b - d = 1 := by omega
    rcases hx with hx | hx | hx <;> rcases hy with hy | hy | hy <;> rw [hx, hy] at h <;> first | (exfalso; revert h; decide) | omega
  · rintro (⟨rfl, rfl⟩ | ⟨rfl, rfl⟩ | ⟨rfl, rfl⟩ | ⟨rfl, rfl⟩)
    · rw [show a - (a + 1) = -1 by omega, show b - (b + 0) = 0 by omega]; rfl
    · rw [show a - (a + 0) = 0 by omega, show b - (b + 1) = -1 by omega]; rfl
    · rw [show a - (a + -1) = 1 by omega, show b - (b + 0) = 0 by omega]; rfl
    · rw [show a - (a + 0) = 0 by omega, show b - (b + -1) = 1 by omega]; rfl
structure StS (q t : Int × Int) (s s' : PS) : Prop where
  a : ∀ p, p ∈ s'.1 ↔ p ∈ s.1 ∧ p ≠ (q.1 + t.1, q.2 + t.2)
  b : ∀ p, p ∈ s'.2 ↔ p ∈ s.2 ∨ (p ∈ s.1 ∧ p = (q.1 + t.1, q.2 + t.2))
  nd : s'.1.Nodup
  pm : (s'.1 ++ s'.2).Perm (s.1 ++ s.2)
theorem stT_spec (q t : Int × Int) (s : PS) (h : s.1.Nodup) : StS q t s (stT q s t) := by
  unfold stT
  split
  · rename_i hm
    refine ⟨fun p => ?_, fun p => ?_, h.erase _, ?_⟩
    · rw [h.mem_erase_iff]; exact And.comm
    · simp only [List.mem_append, List.mem_singleton]
      constructor
      · rintro (h1 | rfl)
        · exact .inl h1
        · exact .inr ⟨hm, rfl⟩
      · rintro (h1 | ⟨_, rfl⟩)
        · exact .inl h1
        · exact .inr rfl
    · have h1 := List.perm_cons_erase hm
      refine List.Perm.trans ?_ (h1.symm.append_right s.2)
      rw [← List.append_assoc]
      exact (List.perm_append_singleton _ _).trans (by simp)
  · rename_i hm
    refine ⟨fun p => ⟨fun h1 => ⟨h1, fun e => hm (e ▸ h1)⟩, fun h1 => h1.1⟩, fun p => ⟨.inl, ?_⟩, h, .refl _⟩
    rintro (h1 | ⟨h1, rfl⟩)
    · exact h1
    · exact absurd h1 hm
structure PxS (q : Int × Int) (s s' : PS) : Prop where
  a : ∀ p, p ∈ s'.1 ↔ p ∈ s.1 ∧ besB q p = false
  b : ∀ p, p ∈ s'.2 ↔ p ∈ s.2 ∨ (p ∈ s.1 ∧ besB q p = true)
  nd : s'.1.Nodup
  pm : (s'.1 ++ s'.2).Perm (s.1 ++ s.2)
theorem px1_spec (q : Int × Int) (s : PS) (h : s.1.Nodup) : PxS q s (px1 s q) := by
  unfold px1
  have h1 := stT_spec q (1, 0) s h
  have h2 := stT_spec q (0, 1) _ h1.nd
  have h3 := stT_spec q (-1, 0) _ h2.nd
  have h4 := stT_spec q (0, -1) _ h3.nd
  refine ⟨fun p => ?_, fun p => ?_, h4.nd, h4.pm.trans (h3.pm.trans (h2.pm.trans h1.pm))⟩
  · rw [h4.a, h3.a, h2.a, h1.a, ← Bool.not_eq_true, besB_iff]
    simp only [not_or, and_assoc, ne_eq]
  · rw [h4.b, h3.b, h3.a, h2.b, h2.a, h1.b, h1.a, besB_iff]
    constructor
    · rintro ((((h | ⟨h, e⟩) | ⟨⟨h, _⟩, e⟩) | ⟨⟨⟨h, _⟩, _⟩, e⟩) | ⟨⟨⟨⟨h, _⟩, _⟩, _⟩, e⟩)
      · exact .inl h
      · exact .inr ⟨h, .inl e⟩
      · exact .inr ⟨h, .inr (.inl e)⟩
      · exact .inr ⟨h, .inr (.inr (.inl e))⟩
      · exact .inr ⟨h, .inr (.inr (.inr e))⟩
    · rintro (h | ⟨h, e⟩)
      · exact .inl (.inl (.inl (.inl h)))
      · by_cases e1 : p = (q.1 + 1, q.2 + 0)
        · exact .inl (.inl (.inl (.inr ⟨h, e1⟩)))
        · by_cases e2 : p = (q.1 + 0, q.2 + 1)
          · exact .inl (.inl (.inr ⟨⟨h, e1⟩, e2⟩))
          · by_cases e3 : p = (q.1 + -1, q.2 + 0)
            · exact .inl (.inr ⟨⟨⟨h, e1⟩, e2⟩, e3⟩)
            · refine .inr ⟨⟨⟨⟨h, e1⟩, e2⟩, e3⟩, ?_⟩
              rcases e with e | e | e | e
              · exact absurd e e1
              · exact absurd e e2
              · exact absurd e e3
              · exact e
structure BfS (s s' : PS) : Prop where
  far : ∀ b ∈ s'.2, ∀ p ∈ s'.1, besB b p = false
  pm : (s'.1 ++ s'.2).Perm (s.1 ++ s.2)
  cl : ∀ Q : Int × Int → Prop, (∀ b ∈ s.2, Q b) → (∀ b p, Q b → p ∈ s.1 → besB b p = true → Q p) → ∀ b ∈ s'.2, Q b
  up : ∀ b ∈ s.2, b ∈ s'.2
  dn : ∀ p ∈ s'.1, p ∈ s.1
  nd : s'.1.Nodup
theorem px1_pre (q : Int × Int) (s : PS) : ∃ R, (px1 s q).2 = s.2 ++ R := by
  have key : ∀ (s : PS) (t : Int × Int), ∃ R, (stT q s t).2 = s.2 ++ R := by
    intro s t
    unfold stT
    split
    · exact ⟨_, rfl⟩
    · exact ⟨[], by simp⟩
  unfold px1
  obtain ⟨R1, a2⟩ := key s (1, 0)
  obtain ⟨R2, b2⟩ := key (stT q s (1, 0)) (0, 1)
  obtain ⟨R3, c2⟩ := key (stT q (stT q s (1, 0)) (0, 1)) (-1, 0)
  obtain ⟨R4, d2⟩ := key (stT q (stT q (stT q s (1, 0)) (0, 1)) (-1, 0)) (0, -1)
  exact ⟨R1 ++ R2 ++ R3 ++ R4, by rw [d2, c2, b2, a2]; simp⟩
theorem bfs_spec : ∀ (f i : Nat) (s : PS), s.1.Nodup → i ≤ s.2.length → s.1.length + s.2.length ≤ i + f → (∀ j, j < i → ∀ b, s.2[j]? = some b → ∀ p ∈ s.1, besB b p = false) → BfS s (bfs f i s) := by
  have fin : ∀ s : PS, s.1.Nodup → (∀ j, j < s.2.length → ∀ b, s.2[j]? = some b → ∀ p ∈ s.1, besB b p = false) → BfS s s := fun s hn hp =>
    ⟨fun b hb p hq => by obtain ⟨j, hj, rfl⟩ := List.mem_iff_getElem.1 hb; exact hp j hj _ (List.getElem?_eq_getElem hj) p hq, .refl _, fun Q h1 h2 => h1, fun _ h => h, fun _ h => h, hn⟩
  intro f
  induction f with
  | zero =>
    intro i s hn hi hf hp
    have : i = s.2.length := by omega
    subst this
    exact fin s hn hp
  | succ f ih =>
    intro i s hn hi hf hp
    by_cases h : i < s.2.length
    · simp only [bfs, List.getElem?_eq_getElem h]
      generalize hq : s.2[i] = q
      have hs := px1_spec q s hn
      obtain ⟨R, hR⟩ := px1_pre q s
      have hlen := hs.pm.length_eq
      rw [List.length_append, List.length_append] at hlen
      have hl2 := congrArg List.length hR
      rw [List.length_append] at hl2
      have h1 := ih (i + 1) (px1 s q) hs.nd (by omega) (by omega) (fun j hj b hb p hpp => by
        rw [hR] at hb
        rw [List.getElem?_append_left (by omega)] at hb
        obtain ⟨p1, p2⟩ := (hs.a p).1 hpp
        by_cases hji : j = i
        · subst hji
          rw [List.getElem?_eq_getElem h, hq] at hb
          cases hb
          exact p2
        · exact hp j (by omega) b hb p p1)
      refine ⟨h1.far, h1.pm.trans hs.pm, fun Q q1 q2 => h1.cl Q (fun b hb => ?_) (fun b p hb hp => q2 b p hb ((hs.a p).1 hp).1), fun b hb => h1.up b ((hs.b b).2 (.inl hb)), fun p hp => ((hs.a p).1 (h1.dn p hp)).1, h1.nd⟩
      rcases (hs.b b).1 hb with hb | ⟨hb, hc⟩
      · exact q1 b hb
      · exact q2 q b (q1 q (hq ▸ List.getElem_mem h)) hb hc
    · have : i = s.2.length := by omega
      subst this
      simp only [bfs, List.getElem?_eq_none (Nat.le_refl _)]
      exact fin s hn hp
end Go.Den.FaU
namespace Go.Den.FaU
open Go Go.Proofs Go.Den Go.Den.FaT Go.Den.FaF
def ltP (a b : Int × Int) : Prop := a.2 < b.2 ∨ (a.2 = b.2 ∧ a.1 < b.1)
theorem ltP_ne {a b : Int × Int} (h : ltP a b) : a ≠ b := by
  rintro rfl
  unfold ltP at h; omega
theorem hotE_pw (w m : Int) (hw : 1 ≤ w ∧ w ≤ 16) : ∀ (us : List Int) (i : Nat), (hotE w m us i).Pairwise ltP := by
  intro us
  induction us with
  | nil => intro i; simp [hotE]
  | cons u r ih =>
    intro i
    simp only [hotE]
    split
    · refine List.pairwise_cons.2 ⟨fun y hy => ?_, ih (i + 1)⟩
      obtain ⟨j, h1, h2, rfl⟩ := hotE_in w m hw r (i + 1) y hy
      have e1 := Int.tmod_add_mul_tdiv (i : Int) w
      have e2 := Int.tmod_add_mul_tdiv (j : Int) w
      have b1 := Int.tmod_lt_of_pos (i : Int) (show 0 < w by omega)
      have b2 := Int.tmod_nonneg (a := (i : Int)) w (by omega)
      have b3 := Int.tmod_lt_of_pos (j : Int) (show 0 < w by omega)
      have b4 := Int.tmod_nonneg (a := (j : Int)) w (by omega)
      unfold ltP
      simp only
      generalize (i : Int).tmod w = x1 at *
      generalize (i : Int).tdiv w = y1 at *
      generalize (j : Int).tmod w = x2 at *
      generalize (j : Int).tdiv w = y2 at *
      by_cases hc : y1 < y2
      · exact .inl hc
      · refine .inr ?_
        by_cases hd : y2 < y1
        · exfalso
          have : w * (y2 + 1) ≤ w * y1 := Int.mul_le_mul_of_nonneg_left (by omega) (by omega)
          rw [Int.mul_add] at this
          omega
        · have : y1 = y2 := by omega
          subst this
          omega
    · exact ih (i + 1)
theorem hot_pw (p : Pc) (n : Int) (hp : p.ok) : (hotL p n).Pairwise ltP := hotE_pw p.w _ hp.w _ _
theorem mapSet_new {eq : V → V → Option Bool} {x y : V} : ∀ {es : List (V × V)}, (∀ e ∈ es, eq x e.1 = some false) → mapSet eq es x y = some (es ++ [(x, y)])
  | [], _ => rfl
  | (a, b) :: r, h => by
    have h1 := h (a, b) (List.mem_cons_self ..)
    dsimp only at h1
    simp only [mapSet, h1, mapSet_new (es := r) (fun e he => h e (List.mem_cons_of_mem _ he)), List.cons_append]
def M0 (b : Bool) (l : List (Int × Int)) (i : Nat) : Option Out :=
  (lim T).loop false [.code (.loop b58_0), .inBlock 0, .code (.seq r58_11 (.seq (.seq r58_12 (.block 2 (.loop b58_1))) (.seq r58_32 .ret)))] ⟨58, 100, 0, [(7, .sl b 2 (l.map ptV)), (8, .map 0), (29, .sl b 2 (l.map ptV)), (30, .int .i64 l.length), (31, .int .i64 i)], [.map ((l.take i).map kv)], 0, []⟩
theorem M0_eq (b : Bool) (l : List (Int × Int)) (hl : l.length < 10000) (hpw : l.Pairwise ltP) : ∀ i, i ≤ l.length → M0 b l i = M0 b l l.length := by
  refine down_ind l.length rfl fun i hi ih => ?_
  rw [← ih]
  obtain ⟨h1, h2, h3, h4, h5⟩ := idx_in hi (by omega)
  have ms : mapSet (eqT T 5 100) ((l.take i).map kv) (ptV l[i]) (.bool true) = some ((l.take (i + 1)).map kv) := by
    rw [mapSet_new]
    · rw [List.take_succ_eq_append_getElem hi, List.map_append]; rfl
    · intro e he
      obtain ⟨y, hy, rfl⟩ := List.mem_map.1 he
      simp only [kv]
      rw [eq100, pbeq]
      have hne : ¬ l[i] = y := by
        intro h
        obtain ⟨j, hj, rfl⟩ := List.mem_iff_getElem.1 hy
        have hj' : j < i := by simp at hj; omega
        rw [List.getElem_take] at h
        exact ltP_ne (List.pairwise_iff_getElem.1 hpw j i (by omega) hi hj') h.symm
      rw [decide_eq_false hne]
  have kk := key100 l[i]
  simp only [ptV] at ms kk
  conv => lhs; unfold M0; rw [loopEq]
  unfold M0
  simp -implicitDefEqProofs only [go_sem, simprocAttr, h1, h2, h3, h4, ms, kk]
theorem c56 (p : Pc) (n : Int) (hl : p.l.length < 1000000) : (lim T).call 56 [pcV p, .int .i64 n] [] 0 [] = some (cond (fnz [ckPic p, rng n 1 16384] != 0) (.tup [.sl false 0 [], .int .i64 (fnz [ckPic p, rng n 1 16384])]) (.tup [slN 2 ((hotL p n).map ptV), .int .i64 0]), [], 0, []) := by
  rw [ent56]
  have e1 := d150 p n hl
  cases h : (fnz [ckPic p, rng n 1 16384] != 0)
  · have h0 : fnz [ckPic p, rng n 1 16384] = 0 := by simpa using h
    have h1 := fnz_zero.1 h0 (ckPic p) (by simp)
    have h2 := fnz_zero.1 h0 (rng n 1 16384) (by simp)
    have e2 := c151 p n (okP h1) h2
    simp only [pcV] at e1 e2 ⊢
    simp -implicitDefEqProofs only [go_sem, simprocAttr, e1, h, e2, cond_false]
    rfl
  · simp only [pcV] at e1 ⊢
    simp -implicitDefEqProofs only [go_sem, simprocAttr, e1, h, cond_true]
def spL (p : Pc) (n : Int) : List ((Int × Int) × Int) := (prS (hotL p n).length (hotL p n) (hotL p n)).map fun x => (x.1, (x.2.length : Int))
theorem c58 (p : Pc) (n : Int) (hl : p.l.length < 1000000) : (lim T).call 58 [pcV p, .int .i64 n] [] 0 [] = some (cond (fnz [ckPic p, rng n 1 16384] != 0) (.tup [.sl false 0 [], .int .i64 (fnz [ckPic p, rng n 1 16384])]) (.tup [slN 3 ((spL p n).map stV), .int .i64 0]), [], 0, []) := by
  rw [ent58]
  have e1 := d150 p n hl
  cases h : (fnz [ckPic p, rng n 1 16384] != 0)
  · have h0 : fnz [ckPic p, rng n 1 16384] = 0 := by simpa using h
    have h1 := fnz_zero.1 h0 (ckPic p) (by simp)
    have h2 := fnz_zero.1 h0 (rng n 1 16384) (by simp)
    have hp := okP h1
    have e2 := c151 p n hp h2
    have hs := hot_sm p n hp
    have hll := hot_len p n hp
    have hpw := hot_pw p n hp
    have hsp : spL p n = (prS (hotL p n).length (hotL p n) (hotL p n)).map fun x => (x.1, (x.2.length : Int)) := rfl
    generalize hotL p n = l at *
    have hE := idx_out l.length
    have key : ∀ b, M0 b l 0 = some (.ret (.tup [slN 3 ((spL p n).map stV), .int .i64 0]), [], 0, []) := by
      intro b
      rw [M0_eq b l (by omega) hpw 0 (by omega)]
      have e3 := M1_eq b l (by omega) hs 0 (by omega) none l (by simp [acL]) hs (by omega)
      simp only [Option.getD_none, List.nil_append, List.drop_zero] at e3
      rw [show (prS l.length l l).map (fun x => stV (x.1, (x.2.length : Int))) = (spL p n).map stV by rw [hsp, List.map_map]; rfl] at e3
      unfold M0
      rw [loopEq]
      unfold M1 at e3
      rw [show ((0 : Nat) : Int) = 0 from rfl] at e3
      simp only [acV_n, acR_n] at e3
      simp -implicitDefEqProofs only [go_sem, simprocAttr, hE, List.take_length, e3]
    have k2 := key (!(l.map ptV).isEmpty)
    unfold M0 at k2
    rw [show ((0 : Nat) : Int) = 0 from rfl, List.take_zero, List.map_nil] at k2
    simp only [pcV] at e1 e2 ⊢
    generalize slN 3 ((spL p n).map stV) = R at *
    simp -implicitDefEqProofs only [go_sem, simprocAttr, e1, h, e2, cond_false, k2]
  · simp only [pcV] at e1 ⊢
    simp -implicitDefEqProofs only [go_sem, simprocAttr, e1, h, cond_true]
end Go.Den.FaU
namespace Go.Den.FaU
open Go.Den.FaT
def adjL (l : List (Int × Int)) (i k : Nat) : Bool := besB (l.getD i (0, 0)) (l.getD k (0, 0))
theorem adjL_comm (l : List (Int × Int)) (i k : Nat) : adjL l i k = adjL l k i := besB_comm _ _
abbrev CC (l : List (Int × Int)) := Ci l.length (adjL l)
def fi (l : List (Int × Int)) (m : Nat) : Prop := ∀ j, CC l m j → m ≤ j
open Classical in
def cI (l : List (Int × Int)) (m : Nat) : Nat := (List.range l.length).countP fun k => decide (CC l m k)
open Classical in
def spec (l : List (Int × Int)) : List (Int × Int) → Nat → List ((Int × Int) × Int)
  | [], _ => []
  | x :: r, m => if fi l m then (x, (cI l m : Int)) :: spec l r (m + 1) else spec l r (m + 1)
theorem fin_least (l : List (Int × Int)) {i : Nat} (hi : i < l.length) : ∃ j : Nat, (finF l).getD i 0 = j ∧ CC l i j ∧ ∀ k, CC l i k → j ≤ k := rounds_fin (adjL_comm l) i hi
theorem fin_fi (l : List (Int × Int)) {m : Nat} (hm : m < l.length) : (finF l).getD m 0 = (m : Int) ↔ fi l m := by
  obtain ⟨j, h1, h2, h3⟩ := fin_least l hm
  rw [h1]
  constructor
  · intro h k hk
    have : j = m := by omega
    subst this; exact h3 k hk
  · intro h
    have a := h j h2
    have b := h3 m (.refl hm)
    omega
theorem countP_getD (F : List Int) (p : Int → Bool) : F.countP p = (List.range F.length).countP fun k => p (F.getD k 0) := by
  have e : F = (List.range F.length).map fun k => F.getD k 0 := by
    apply List.ext_getElem (by simp)
    intro i h1 h2
    simp [List.getD, List.getElem?_eq_getElem h1]
  conv => lhs; rw [e]
  rw [List.countP_map]; rfl
open Classical in
theorem fin_cnt (l : List (Int × Int)) {m : Nat} (hm : m < l.length) (hf : fi l m) : cntI (finF l) (m : Int) = cI l m := by
  unfold cntI cI
  rw [countP_getD, finF_len]
  apply List.countP_congr
  intro k hk
  have hk : k < l.length := by simpa using hk
  obtain ⟨j, h1, h2, h3⟩ := fin_least l hk
  rw [h1]
  simp only [beq_iff_eq, decide_eq_true_eq]
  constructor
  · intro h
    have : j = m := by omega
    subst this
    exact h2.symm (adjL_comm l)
  · intro h
    have a := h3 m (h.symm (adjL_comm l))
    have b := hf j (h.trans h2)
    omega
theorem spR_spec (l : List (Int × Int)) : ∀ m, m ≤ l.length → spR (finF l) (l.drop m) m = spec l (l.drop m) m := by
  refine down_ind l.length ?_ fun m hm ih => ?_
  · have : l.drop l.length = [] := by simp
    rw [this]; rfl
  · rw [List.drop_eq_getElem_cons hm]
    simp only [spR, spec]
    by_cases h : fi l m
    · rw [if_pos ((fin_fi l hm).2 h), if_pos h, ih, fin_cnt l hm h]
    · rw [if_neg (fun e => h ((fin_fi l hm).1 e)), if_neg h, ih]
def RP (l : List (Int × Int)) (a b : Int × Int) : Prop := ∃ i k, l[i]? = some a ∧ l[k]? = some b ∧ CC l i k
theorem gDe {l : List (Int × Int)} {i : Nat} {a : Int × Int} (h : l[i]? = some a) : l.getD i (0, 0) = a := by simp [List.getD, h]
theorem idx_u {l : List (Int × Int)} (hn : l.Nodup) {i k : Nat} {a : Int × Int} (h1 : l[i]? = some a) (h2 : l[k]? = some a) : i = k := by
  obtain ⟨a1, a2⟩ := List.getElem?_eq_some_iff.1 h1
  obtain ⟨b1, b2⟩ := List.getElem?_eq_some_iff.1 h2
  have hp := List.pairwise_iff_getElem.1 hn
  rcases Nat.lt_trichotomy i k with h | h | h
  · exact absurd (a2.trans b2.symm) (hp i k a1 b1 h)
  · exact h
  · exact absurd (b2.trans a2.symm) (hp k i b1 a1 h)
theorem RP.idx {l : List (Int × Int)} (hn : l.Nodup) {i k : Nat} {a b : Int × Int} (h : RP l a b) (h1 : l[i]? = some a) (h2 : l[k]? = some b) : CC l i k := by
  obtain ⟨i', k', a1, a2, a3⟩ := h
  rw [idx_u hn h1 a1, idx_u hn h2 a2]; exact a3
theorem RP.refl {l : List (Int × Int)} {a : Int × Int} (h : a ∈ l) : RP l a a := by
  obtain ⟨i, hi, rfl⟩ := List.mem_iff_getElem.1 h
  exact ⟨i, i, List.getElem?_eq_getElem hi, List.getElem?_eq_getElem hi, .refl hi⟩
theorem RP.symm {l : List (Int × Int)} {a b : Int × Int} (h : RP l a b) : RP l b a := by
  obtain ⟨i, k, h1, h2, h3⟩ := h
  exact ⟨k, i, h2, h1, h3.symm (adjL_comm l)⟩
theorem RP.trans {l : List (Int × Int)} (hn : l.Nodup) {a b c : Int × Int} (h : RP l a b) (h' : RP l b c) : RP l a c := by
  obtain ⟨i, k, h1, h2, h3⟩ := h
  obtain ⟨k', j, a1, a2, a3⟩ := h'
  rw [idx_u hn a1 h2] at a3
  exact ⟨i, j, h1, a2, h3.trans a3⟩
theorem RP.step {l : List (Int × Int)} {a b c : Int × Int} (h : RP l a b) (hc : c ∈ l) (hb : besB b c = true) : RP l a c := by
  obtain ⟨i, k, h1, h2, h3⟩ := h
  obtain ⟨j, hj, rfl⟩ := List.mem_iff_getElem.1 hc
  refine ⟨i, j, h1, List.getElem?_eq_getElem hj, .step h3 hj ?_⟩
  unfold adjL
  rw [gDe h2, gDe (List.getElem?_eq_getElem hj)]; exact hb
theorem RP.ind {l : List (Int × Int)} (hn : l.Nodup) {x : Int × Int} {S : Int × Int → Prop} (h0 : S x) (hs : ∀ b c, S b → b ∈ l → c ∈ l → besB b c = true → S c) {p : Int × Int} (h : RP l x p) : S p := by
  obtain ⟨i, k, h1, h2, h3⟩ := h
  have key : ∀ {i k : Nat}, CC l i k → ∀ a, l[i]? = some a → S a → ∀ b, l[k]? = some b → S b := by
    intro i k h
    induction h with
    | refl hi => intro a ha hS b hb; rw [ha] at hb; cases hb; exact hS
    | step h hk had ih =>
      rename_i j k
      intro a ha hS c hc
      have hj := h.lt.2
      have hjb := List.getElem?_eq_getElem hj
      refine hs _ c (ih a ha hS _ hjb) (List.getElem_mem hj) (List.mem_of_getElem? hc) ?_
      unfold adjL at had
      rw [gDe hjb, gDe hc] at had; exact had
  exact key h3 x h1 h0 p h2
theorem RP.mem {l : List (Int × Int)} {a b : Int × Int} (h : RP l a b) : a ∈ l ∧ b ∈ l := by
  obtain ⟨i, k, h1, h2, _⟩ := h
  exact ⟨List.mem_of_getElem? h1, List.mem_of_getElem? h2⟩
open Classical in
theorem cI_len {l : List (Int × Int)} (hn : l.Nodup) {m : Nat} (hm : m < l.length) {P : List (Int × Int)} (hP : P.Nodup) (hm' : ∀ p, p ∈ P ↔ RP l l[m] p) : P.length = cI l m := by
  have h1 : P.Perm (l.filter fun p => decide (RP l l[m] p)) := by
    rw [List.perm_ext_iff_of_nodup hP (hn.filter _)]
    intro p
    rw [hm', List.mem_filter]
    constructor
    · intro h; exact ⟨h.mem.2, decide_eq_true h⟩
    · intro h; exact of_decide_eq_true h.2
  rw [h1.length_eq, ← List.countP_eq_length_filter]
  unfold cI
  have e : l = (List.range l.length).map fun k => l.getD k (0, 0) := by
    apply List.ext_getElem (by simp)
    intro i h1 h2
    simp [List.getD, List.getElem?_eq_getElem h1]
  have e2 : l.countP (fun p => decide (RP l l[m] p)) = ((List.range l.length).map fun k => l.getD k (0, 0)).countP (fun p => decide (RP l l[m] p)) := by rw [← e]
  rw [e2, List.countP_map]
  apply List.countP_congr
  intro k hk
  have hk : k < l.length := by simpa using hk
  have g1 := List.getElem?_eq_getElem hm
  have g2 := List.getElem?_eq_getElem hk
  simp only [Function.comp, decide_eq_true_eq, gDe g2]
  exact ⟨fun h => h.idx hn g1 g2, fun h => ⟨m, k, g1, g2, h⟩⟩
theorem prS_spec (l : List (Int × Int)) (hn : l.Nodup) : ∀ m, m ≤ l.length → ∀ L : List (Int × Int), L.Nodup → L.length ≤ l.length → (∀ p, p ∈ L ↔ p ∈ l ∧ ∀ j, j < m → ∀ a, l[j]? = some a → ¬ RP l a p) →
    ((prS l.length (l.drop m) L).map fun x => (x.1, (x.2.length : Int))) = spec l (l.drop m) m := by
  refine down_ind l.length ?_ fun m hm ih => ?_
  · intro L _ _ _
    have : l.drop l.length = [] := by simp
    rw [this]; rfl
  · intro L hL hLl hLm
    rw [List.drop_eq_getElem_cons hm]
    simp only [prS, spec]
    have gm := List.getElem?_eq_getElem hm
    have hfi : l[m] ∈ L ↔ fi l m := by
      rw [hLm]
      constructor
      · rintro ⟨_, h⟩ j hj
        refine Classical.byContradiction fun hlt => ?_
        have hjl := hj.lt.2
        exact h j (by omega) _ (List.getElem?_eq_getElem hjl) ⟨j, m, List.getElem?_eq_getElem hjl, gm, hj.symm (adjL_comm l)⟩
      · intro h
        refine ⟨List.getElem_mem hm, fun j hj a ha hr => ?_⟩
        have := h j ((hr.idx hn ha gm).symm (adjL_comm l))
        omega
    by_cases hx : l[m] ∈ L
    · rw [if_pos hx, if_pos (hfi.1 hx), List.map_cons]
      have hLsub : ∀ p ∈ L, p ∈ l := fun p hp => ((hLm p).1 hp).1
      have hel := List.length_erase_of_mem hx
      have hpos := List.length_pos_of_mem hx
      have hB := bfs_spec l.length 0 (L.erase l[m], [l[m]]) (hL.erase _) (by simp) (by simp only [List.length_singleton]; omega) (fun j hj => by omega)
      generalize bfs l.length 0 (L.erase l[m], [l[m]]) = B at *
      have hpm : (B.1 ++ B.2).Perm L := hB.pm.trans ((List.perm_append_singleton _ _).trans (List.perm_cons_erase hx).symm)
      have hBn : (B.1 ++ B.2).Nodup := hpm.nodup_iff.2 hL
      have hmemL : ∀ p, p ∈ L ↔ p ∈ B.1 ∨ p ∈ B.2 := fun p => by rw [← hpm.mem_iff, List.mem_append]
      have hxB : l[m] ∈ B.2 := hB.up _ (by simp)
      -- what is joined to a pixel that is left is left
      have hclL : ∀ b c, b ∈ L → c ∈ l → besB b c = true → c ∈ L := by
        intro b c hb hc hbc
        refine (hLm c).2 ⟨hc, fun j hj a ha hr => ?_⟩
        exact ((hLm b).1 hb).2 j hj a ha (hr.step (hLsub b hb) (by rw [besB_comm]; exact hbc))
      have hPR : ∀ p, p ∈ B.2 ↔ RP l l[m] p := by
        intro p
        constructor
        · exact hB.cl (fun p => RP l l[m] p) (fun b hb => by simp only [List.mem_singleton] at hb; subst hb; exact .refl (List.getElem_mem hm)) (fun b q hb hq hbq => hb.step (hLsub q (List.mem_of_mem_erase hq)) hbq) p
        · intro h
          refine RP.ind hn (S := fun p => p ∈ B.2) hxB (fun b c hb _ hc hbc => ?_) h
          have hcL := hclL b c ((hmemL b).2 (.inr hb)) hc hbc
          rcases (hmemL c).1 hcL with h1 | h1
          · have := hB.far b hb c h1
            rw [hbc] at this; cases this
          · exact h1
      have hcnt := cI_len hn hm (List.nodup_append.1 hBn).2.1 hPR
      rw [hcnt]
      congr 1
      refine ih B.1 (List.nodup_append.1 hBn).1 (by have := hpm.length_eq; rw [List.length_append] at this; omega) fun p => ?_
      constructor
      · intro hp
        have hpL := (hmemL p).2 (.inl hp)
        refine ⟨hLsub p hpL, fun j hj a ha hr => ?_⟩
        by_cases hjm : j = m
        · subst hjm
          rw [gm] at ha; cases ha
          have h2 := (hPR p).2 hr
          exact (List.nodup_append.1 hBn).2.2 p hp p h2 rfl
        · exact ((hLm p).1 hpL).2 j (by omega) a ha hr
      · rintro ⟨hpl, hp⟩
        have hpL : p ∈ L := (hLm p).2 ⟨hpl, fun j hj a ha => hp j (by omega) a ha⟩
        rcases (hmemL p).1 hpL with h1 | h1
        · exact h1
        · exact absurd ((hPR p).1 h1) (hp m (by omega) _ gm)
    · rw [if_neg hx, if_neg (fun h => hx (hfi.2 h))]
      refine ih L hL hLl fun p => ?_
      constructor
      · intro hp
        have hpL := (hLm p).1 hp
        refine ⟨hpL.1, fun j hj a ha hr => ?_⟩
        by_cases hjm : j = m
        · subst hjm
          rw [gm] at ha; cases ha
          -- the pixel is joined to an earlier one
          have hnf : ¬ fi l j := fun h => hx (hfi.2 h)
          obtain ⟨k, hk1, hk2⟩ : ∃ k, CC l j k ∧ k < j := Classical.byContradiction fun hno => hnf fun k hk => Classical.byContradiction fun hlt => hno ⟨k, hk, by omega⟩
          have hkl := hk1.lt.2
          exact hpL.2 k hk2 _ (List.getElem?_eq_getElem hkl) (RP.trans hn ⟨k, j, List.getElem?_eq_getElem hkl, gm, hk1.symm (adjL_comm l)⟩ hr)
        · exact hpL.2 j (by omega) a ha hr
      · rintro ⟨hpl, hp⟩
        exact (hLm p).2 ⟨hpl, fun j hj a ha => hp j (by omega) a ha⟩
theorem pw_nodup {l : List (Int × Int)} (h : l.Pairwise ltP) : l.Nodup := h.imp ltP_ne
theorem spots_eq (l : List (Int × Int)) (h : l.Pairwise ltP) : ((prS l.length l l).map fun x => (x.1, (x.2.length : Int))) = refS l := by
  have hn := pw_nodup h
  have h1 := prS_spec l hn 0 (by omega) l hn (Nat.le_refl _) (fun p => ⟨fun hp => ⟨hp, fun j hj => by omega⟩, fun hp => hp.1⟩)
  have h2 := spR_spec l 0 (by omega)
  rw [List.drop_zero] at h1 h2
  rw [h1, ← h2]; rfl
end Go.Den.FaU
namespace Go.Den.FaU
open Go Go.Proofs Go.Den Go.Den.FaT Go.Den.FaF
theorem d16 (aw : (lim FaT.T).call 16 [] [] 0 [] = some (.bool true, [], 0, [])) : den FaT.T 16 [] = some (.bool true) := de (fn := Tryz.f16) (by kernel_rfl) (by kernel_rfl) (by kernel_rfl) aw
theorem d55 (p : Pc) : den FaT.T 55 [pcV p] = some (.bool (decide ((p.l.length : Int) ≤ 64))) := de (fn := Tryz.f55) (by kernel_rfl) (by kernel_rfl) (by kernel_rfl) (c55 p)
theorem d57 (p : Pc) (hl : p.l.length < 1000000) : den FaT.T 57 [pcV p] = some (pcV ⟨p.w, p.h, true, p.l⟩) := de (fn := Tryz.f57) (by kernel_rfl) (by kernel_rfl) (by kernel_rfl) (c57 p hl)
theorem d59 (p : Pc) (hl : p.l.length < 1000000) : den FaT.T 59 [pcV p] = some (.int .i64 (ckPic p)) := de (fn := Tryz.f59) (by kernel_rfl) (by kernel_rfl) (by kernel_rfl) (c59 p hl)
theorem spL_eq (p : Pc) (n : Int) (hp : p.ok) : spL p n = refS (hotL p n) := spots_eq _ (hot_pw p n hp)
end Go.Den.FaU
namespace Go.Proofs.YtifljcjddphpjaaGreatDoor
open Go Go.Proofs Go.Den Go.Den.FaT Go.ChangeShapes Go.WideShapes Go.ChangeAt Go.RowKit
theorem mapOf {α : Type} {f : α → V} {e : TypeId} {n : Nat} (hc : ∀ {us}, Cl Tryz.prog n e us → ∃ a, mk Tryz.prog e us = f a) : ∀ {l : List V}, (∀ u ∈ l, ∃ us, Cl Tryz.prog n e us ∧ u = mk Tryz.prog e us) → ∃ ps : List α, l = ps.map f
  | [], _ => ⟨[], rfl⟩
  | u :: l, h => by
    obtain ⟨ps, rfl⟩ := mapOf hc (l := l) fun v hv => h v (List.mem_cons_of_mem _ hv)
    obtain ⟨us, h1, rfl⟩ := h u (List.mem_cons_self)
    obtain ⟨a, ha⟩ := hc h1
    exact ⟨a :: ps, by rw [ha]; rfl⟩
theorem mk3 (v : V) : mk Tryz.prog 3 [v] = v := by unfold mk; rw [Tryz.underlying3]; rfl
theorem mk150 (v : V) : mk Tryz.prog 150 [v] = v := by unfold mk; rw [Tryz.underlying150]; rfl
theorem mk82 (us : List V) : mk Tryz.prog 82 us = .agg us := by unfold mk; rw [Tryz.underlying82]
theorem cl150 {n : Nat} {us : List V} (h : Cl Tryz.prog n 150 us) : ∃ a, mk Tryz.prog 150 us = fV a := by
  cases n with
  | zero => cases h
  | succ n =>
    unfold Cl at h
    rw [Tryz.underlying150] at h
    obtain ⟨b, rfl⟩ := h
    exact ⟨b, mk150 _⟩
theorem cl80 {n : Nat} {vs : List V} (h : Cl Tryz.prog n 80 vs) : ∃ b, ∃ l : List Nat, vs = [.sl b 1 (l.map fV)] := by
  cases n with
  | zero => cases h
  | succ n =>
    unfold Cl at h
    rw [Tryz.underlying80] at h
    obtain ⟨b, l, rfl, _, _, hl⟩ := h
    obtain ⟨ps, rfl⟩ := mapOf cl150 hl
    have : Tryz.prog.cellsOf 150 = 1 := by kernel_rfl
    exact ⟨b, ps, by rw [this]⟩
theorem cl82 {n : Nat} {us : List V} (h : Cl Tryz.prog n 82 us) : ∃ a : Pc, mk Tryz.prog 82 us = pcV a := by
  cases n with
  | zero => cases h
  | succ n =>
    unfold Cl at h
    rw [Tryz.underlying82] at h
    obtain ⟨ps, rfl, hl, hp⟩ := h
    match ps, hl with
    | [p, q, r], _ =>
      obtain ⟨x, rfl, _⟩ := cl3 (hp 0 _ p rfl rfl)
      obtain ⟨y, rfl, _⟩ := cl3 (hp 1 _ q rfl rfl)
      obtain ⟨b, l, rfl⟩ := cl80 (hp 2 _ r rfl rfl)
      exact ⟨⟨x, y, b, l⟩, by rw [mk82]; rfl⟩
theorem mk148 (us : List V) : mk Tryz.prog 148 us = .agg us := by unfold mk; rw [Tryz.underlying148]
theorem mk48 (v : V) : mk Tryz.prog 48 [v] = v := by unfold mk; rw [Tryz.underlying48]; rfl
theorem cl147 {n : Nat} {us : List V} (h : Cl Tryz.prog n 147 us) : ∃ a : Int, us = [.int .i16 a] := by
  cases n with
  | zero => cases h
  | succ n =>
    unfold Cl at h
    rw [Tryz.underlying147] at h
    obtain ⟨i, rfl, _⟩ := h
    exact ⟨i, rfl⟩
theorem cl148 {n : Nat} {us : List V} (h : Cl Tryz.prog n 148 us) : ∃ a b c d : Int, mk Tryz.prog 148 us = .agg [.int .i16 a, .int .i16 b, .int .i16 c, .int .i16 d] := by
  cases n with
  | zero => cases h
  | succ n =>
    unfold Cl at h
    rw [Tryz.underlying148] at h
    obtain ⟨ps, rfl, hl, hp⟩ := h
    match ps, hl with
    | [p, q, r, s], _ =>
      obtain ⟨x, rfl⟩ := cl147 (hp p (by simp))
      obtain ⟨y, rfl⟩ := cl147 (hp q (by simp))
      obtain ⟨z, rfl⟩ := cl147 (hp r (by simp))
      obtain ⟨u, rfl⟩ := cl147 (hp s (by simp))
      exact ⟨x, y, z, u, by rw [mk148]; rfl⟩
theorem cl48m {n : Nat} {us : List V} (h : Cl Tryz.prog n 48 us) : ∃ b, ∃ ps : List (Int × Int), mk Tryz.prog 48 us = .sl b 2 (ps.map ptV) := by
  obtain ⟨b, ps, rfl⟩ := cl48 h
  exact ⟨b, ps, mk48 _⟩
end Go.Proofs.YtifljcjddphpjaaGreatDoor
namespace Go.Den.FaU
open Go.Den.FaT
theorem ltP_tri {a b : Int × Int} (h : ¬ ltP a b) (h' : ¬ ltP b a) : a = b := by
  obtain ⟨a1, a2⟩ := a
  obtain ⟨b1, b2⟩ := b
  unfold ltP at h h'
  simp only at h h'
  rw [Prod.mk.injEq]
  omega
theorem ltP_asymm {a b : Int × Int} (h : ltP a b) : ¬ ltP b a := by
  obtain ⟨a1, a2⟩ := a
  obtain ⟨b1, b2⟩ := b
  unfold ltP at *
  simp only at *
  omega
def Fst (l : List (Int × Int)) (a : Int × Int) : Prop := ∀ b, RP l a b → ¬ ltP b a
open Classical in
def szP (l : List (Int × Int)) (a : Int × Int) : Nat := l.countP fun b => decide (RP l a b)
open Classical in
def reps (l : List (Int × Int)) : List (Int × Int) := l.filter fun a => decide (Fst l a)
theorem pw_idx {l : List (Int × Int)} (h : l.Pairwise ltP) {i j : Nat} (hi : i < l.length) (hj : j < l.length) : ltP l[i] l[j] ↔ i < j := by
  have hp := List.pairwise_iff_getElem.1 h
  constructor
  · intro hl
    rcases Nat.lt_trichotomy i j with h' | h' | h'
    · exact h'
    · subst h'; exact absurd hl (ltP_asymm hl)
    · exact absurd hl (ltP_asymm (hp j i hj hi h'))
  · exact fun h' => hp i j hi hj h'
theorem fi_Fst {l : List (Int × Int)} (h : l.Pairwise ltP) {m : Nat} (hm : m < l.length) : fi l m ↔ Fst l l[m] := by
  have hn := pw_nodup h
  constructor
  · intro hf b hb hlt
    obtain ⟨k, hk, rfl⟩ := List.mem_iff_getElem.1 hb.mem.2
    have hc := hb.idx hn (List.getElem?_eq_getElem hm) (List.getElem?_eq_getElem hk)
    have := hf k hc
    have := (pw_idx h hk hm).1 hlt
    omega
  · intro hf j hj
    have hjl := hj.lt.2
    have := hf l[j] ⟨m, j, List.getElem?_eq_getElem hm, List.getElem?_eq_getElem hjl, hj⟩
    rw [pw_idx h hjl hm] at this
    omega
open Classical in
theorem cI_sz {l : List (Int × Int)} (hn : l.Nodup) {m : Nat} (hm : m < l.length) : cI l m = szP l l[m] := by
  have := cI_len hn hm (P := l.filter fun b => decide (RP l l[m] b)) (hn.filter _) (fun p => by
    rw [List.mem_filter]
    constructor
    · intro h; exact of_decide_eq_true h.2
    · intro h; exact ⟨h.mem.2, decide_eq_true h⟩)
  rw [← this, ← List.countP_eq_length_filter]
  rfl
theorem spec_reps {l : List (Int × Int)} (h : l.Pairwise ltP) : spec l l 0 = (reps l).map fun a => (a, (szP l a : Int)) := by
  classical
  have hn := pw_nodup h
  have key : ∀ m, m ≤ l.length → spec l (l.drop m) m = ((l.drop m).filter fun a => decide (Fst l a)).map fun a => (a, (szP l a : Int)) := by
    intro m hm
    obtain ⟨k, hk⟩ : ∃ k, m + k = l.length := ⟨l.length - m, by omega⟩
    induction k generalizing m with
    | zero =>
      have : l.drop m = [] := by rw [List.drop_eq_nil_iff]; omega
      rw [this]; rfl
    | succ k ih =>
      have hlt : m < l.length := by omega
      rw [List.drop_eq_getElem_cons hlt, spec, ih (m + 1) (by omega) (by omega)]
      by_cases hf : fi l m
      · rw [if_pos hf, List.filter_cons_of_pos (by simpa using (fi_Fst h hlt).1 hf), List.map_cons, cI_sz hn hlt]
      · rw [if_neg hf, List.filter_cons_of_neg (by simpa using fun e => hf ((fi_Fst h hlt).2 e))]
  exact key 0 (by omega)
open Classical in
theorem reps_mem {l : List (Int × Int)} {a : Int × Int} : a ∈ reps l ↔ a ∈ l ∧ Fst l a := by
  unfold reps
  rw [List.mem_filter, decide_eq_true_eq]
theorem reps_pw {l : List (Int × Int)} (h : l.Pairwise ltP) : (reps l).Pairwise ltP := h.sublist List.filter_sublist
theorem first_ex {l : List (Int × Int)} (h : l.Pairwise ltP) {a : Int × Int} (ha : a ∈ l) : ∃ x, x ∈ reps l ∧ RP l a x := by
  have hn := pw_nodup h
  obtain ⟨i, hi, rfl⟩ := List.mem_iff_getElem.1 ha
  obtain ⟨j, _, hj, hmin⟩ := fin_least l hi
  have hjl := hj.lt.2
  refine ⟨l[j], reps_mem.2 ⟨List.getElem_mem hjl, ?_⟩, ⟨i, j, List.getElem?_eq_getElem hi, List.getElem?_eq_getElem hjl, hj⟩⟩
  rw [← fi_Fst h hjl]
  intro k hk
  exact hmin k (hj.trans hk)
theorem first_un {l : List (Int × Int)} (hn : l.Nodup) {x y : Int × Int} (hx : x ∈ reps l) (hy : y ∈ reps l) (h : RP l x y) : x = y :=
  ltP_tri ((reps_mem.1 hy).2 x h.symm) ((reps_mem.1 hx).2 y h)
theorem sz_eq {l : List (Int × Int)} (hn : l.Nodup) {a b : Int × Int} (h : RP l a b) : szP l a = szP l b := by
  classical
  unfold szP
  apply List.countP_congr
  intro c _
  simp only [decide_eq_true_eq]
  exact ⟨fun h' => h.symm.trans hn h', fun h' => h.trans hn h'⟩
section turn
variable {l l' : List (Int × Int)} {s : Int × Int → Int × Int}
theorem RP.turn (hn : l.Nodup) (hp : l'.Perm (l.map s)) (hb : ∀ a b, besB (s a) (s b) = besB a b) {a b : Int × Int} (h : RP l a b) : RP l' (s a) (s b) := by
  have hm : ∀ {c}, c ∈ l → s c ∈ l' := fun hc => hp.mem_iff.2 (List.mem_map.2 ⟨_, hc, rfl⟩)
  refine h.ind hn (S := fun b => RP l' (s a) (s b)) (RP.refl (hm h.mem.1)) fun b c h1 h2 h3 h4 => ?_
  exact h1.step (hm h3) (by rw [hb]; exact h4)
theorem RP.unturn (hn' : l'.Nodup) (hp : l'.Perm (l.map s)) (hb : ∀ a b, besB (s a) (s b) = besB a b) (hs : ∀ a b, s a = s b → a = b) {a b : Int × Int} (ha : a ∈ l) (h : RP l' (s a) (s b)) : RP l a b := by
  have key : ∀ {y}, RP l' (s a) y → ∃ c, y = s c ∧ RP l a c := by
    intro y hy
    refine hy.ind hn' (S := fun y => ∃ c, y = s c ∧ RP l a c) ⟨a, rfl, RP.refl ha⟩ ?_
    rintro x z ⟨c, rfl, hc⟩ _ hz hbz
    obtain ⟨d, hd, rfl⟩ := List.mem_map.1 (hp.mem_iff.1 hz)
    exact ⟨d, rfl, hc.step hd (by rw [← hb]; exact hbz)⟩
  obtain ⟨c, e, hc⟩ := key h
  rw [hs _ _ e]; exact hc
theorem sz_turn (hn : l.Nodup) (hn' : l'.Nodup) (hp : l'.Perm (l.map s)) (hb : ∀ a b, besB (s a) (s b) = besB a b) (hs : ∀ a b, s a = s b → a = b) {a : Int × Int} (ha : a ∈ l) : szP l' (s a) = szP l a := by
  classical
  unfold szP
  rw [hp.countP_eq, List.countP_map]
  apply List.countP_congr
  intro c _
  simp only [Function.comp, decide_eq_true_eq]
  exact ⟨fun h => h.unturn hn' hp hb hs ha, fun h => h.turn hn hp hb⟩
theorem sizes_perm (h : l.Pairwise ltP) (h' : l'.Pairwise ltP) (hp : l'.Perm (l.map s)) (hb : ∀ a b, besB (s a) (s b) = besB a b) (hs : ∀ a b, s a = s b → a = b) :
    ((reps l).map (szP l)).Perm ((reps l').map (szP l')) := by
  classical
  have hn := pw_nodup h
  have hn' := pw_nodup h'
  have hm : ∀ {c}, c ∈ l → s c ∈ l' := fun hc => hp.mem_iff.2 (List.mem_map.2 ⟨_, hc, rfl⟩)
  let g : Int × Int → Int × Int := fun a => if ha : a ∈ l then Classical.choose (first_ex h' (hm ha)) else a
  have hg : ∀ {a}, a ∈ l → g a ∈ reps l' ∧ RP l' (s a) (g a) := fun {a} ha => by
    have := Classical.choose_spec (first_ex h' (hm ha))
    show (if ha : a ∈ l then Classical.choose (first_ex h' (hm ha)) else a) ∈ reps l' ∧ RP l' (s a) (if ha : a ∈ l then Classical.choose (first_ex h' (hm ha)) else a)
    rw [dif_pos ha]
    exact this
  have hrn : (reps l).Nodup := pw_nodup (reps_pw h)
  have hrn' : (reps l').Nodup := pw_nodup (reps_pw h')
  have hgn : ((reps l).map g).Nodup := by
    show List.Pairwise (· ≠ ·) _
    rw [List.pairwise_map]
    refine List.Pairwise.imp_of_mem ?_ hrn
    intro a b ha hb' hab e
    have h1 := hg (reps_mem.1 ha).1
    have h2 := hg (reps_mem.1 hb').1
    rw [e] at h1
    have h3 := (h1.2.trans hn' h2.2.symm).unturn hn' hp hb hs (reps_mem.1 ha).1
    exact hab (first_un hn ha hb' h3)
  have hperm : ((reps l).map g).Perm (reps l') := by
    rw [List.perm_ext_iff_of_nodup hgn hrn']
    intro x
    constructor
    · intro hx
      obtain ⟨a, ha, rfl⟩ := List.mem_map.1 hx
      exact (hg (reps_mem.1 ha).1).1
    · intro hx
      obtain ⟨c, hc, e⟩ := List.mem_map.1 (hp.mem_iff.1 (reps_mem.1 hx).1)
      obtain ⟨a, ha, hca⟩ := first_ex h hc
      refine List.mem_map.2 ⟨a, ha, ?_⟩
      obtain ⟨g1, g2⟩ := hg (reps_mem.1 ha).1
      have h3 : RP l' x (g a) := by rw [← e]; exact (hca.turn hn hp hb).trans hn' g2
      exact (first_un hn' hx g1 h3).symm
  refine List.Perm.trans ?_ (hperm.map (szP l'))
  rw [List.map_map]
  have : (reps l).map (szP l) = (reps l).map (szP l' ∘ g) := by
    apply List.map_congr_left
    intro a ha
    obtain ⟨g1, g2⟩ := hg (reps_mem.1 ha).1
    show szP l a = szP l' (g a)
    rw [← sz_eq hn' g2, sz_turn hn hn' hp hb hs (reps_mem.1 ha).1]
  rw [this]
end turn
theorem sizes_sum {l : List (Int × Int)} (h : l.Pairwise ltP) : ((reps l).map (szP l)).sum = l.length := by
  classical
  have hn := pw_nodup h
  have hp : l.Perm ((reps l).flatMap fun a => l.filter fun b => decide (RP l a b)) := by
    rw [List.perm_ext_iff_of_nodup hn]
    · intro x
      rw [List.mem_flatMap]
      constructor
      · intro hx
        obtain ⟨a, ha, hr⟩ := first_ex h hx
        exact ⟨a, ha, List.mem_filter.2 ⟨hx, decide_eq_true hr.symm⟩⟩
      · rintro ⟨a, _, hx⟩
        exact (List.mem_filter.1 hx).1
    · show List.Pairwise (· ≠ ·) _
      rw [List.pairwise_flatMap]
      refine ⟨fun a _ => (hn.filter _ : List.Nodup _), ?_⟩
      refine List.Pairwise.imp_of_mem ?_ (pw_nodup (reps_pw h) : List.Pairwise (· ≠ ·) _)
      intro a b ha hb hab x hx y hy e
      subst e
      have h1 : RP l a x := of_decide_eq_true (List.mem_filter.1 hx).2
      have h2 : RP l b x := of_decide_eq_true (List.mem_filter.1 hy).2
      exact hab (first_un hn ha hb (h1.trans hn h2.symm))
  have := hp.length_eq
  rw [List.length_flatMap] at this
  rw [this]
  congr 1
  apply List.map_congr_left
  intro a _
  unfold szP
  rw [List.countP_eq_length_filter]
theorem sz_pos {l : List (Int × Int)} {a : Int × Int} (ha : a ∈ l) : 1 ≤ szP l a ∧ szP l a ≤ l.length := by
  classical
  refine ⟨?_, List.countP_le_length⟩
  unfold szP
  exact List.countP_pos_iff.2 ⟨a, ha, decide_eq_true (RP.refl ha)⟩
theorem reps_far {l : List (Int × Int)} (h : l.Pairwise ltP) {a b : Int × Int} (ha : a ∈ reps l) (hb : b ∈ reps l) (hlt : ltP a b) : 2 ≤ (a.1 - b.1) * (a.1 - b.1) + (a.2 - b.2) * (a.2 - b.2) := by
  have hn := pw_nodup h
  have hne : a ≠ b := ltP_ne hlt
  have hnb : besB a b = false := by
    cases hbb : besB a b with
    | false => rfl
    | true =>
      have := RP.step (RP.refl (reps_mem.1 ha).1) (reps_mem.1 hb).1 hbb
      exact absurd (first_un hn ha hb this) hne
  have sq : ∀ x : Int, 0 ≤ x * x := fun x => by
    rcases Int.le_total 0 x with h | h
    · exact Int.mul_nonneg h h
    · exact Int.mul_nonneg_of_nonpos_of_nonpos h h
  have h0 := sq (a.1 - b.1)
  have h1 := sq (a.2 - b.2)
  unfold besB at hnb
  have h2 : (a.1 - b.1) * (a.1 - b.1) + (a.2 - b.2) * (a.2 - b.2) ≠ 1 := by simpa using hnb
  have h3 : (a.1 - b.1) * (a.1 - b.1) + (a.2 - b.2) * (a.2 - b.2) ≠ 0 := by
    intro e
    have e1 : (a.1 - b.1) * (a.1 - b.1) = 0 := by omega
    have e2 : (a.2 - b.2) * (a.2 - b.2) = 0 := by omega
    have e1 := (Int.mul_eq_zero.1 e1)
    have e2 := (Int.mul_eq_zero.1 e2)
    apply hne
    apply Prod.ext <;> omega
  omega
theorem med_perm {l l' : List Int} (hp : l'.Perm l) (h : l ≠ []) : med l' = med l := by
  have h' : l' ≠ [] := fun e => by rw [e] at hp; exact h hp.symm.eq_nil
  have hl := hp.length_eq
  have hs := srt_perm l
  have hsl := hs.length_eq
  have hpos : 0 < l.length := List.length_pos_iff.2 h
  have h1 := med_sorted hs (srt_sorted l) (by omega)
  have h2 := med_sorted (hs.trans hp.symm) (srt_sorted l) (by omega)
  rw [← med_eq h, ← med_eq h', h1, h2]
  congr 1
  omega
def trn (W H j : Nat) : Nat := (j % H) * W + (W - 1 - j / H)
def turnL (W H : Nat) (l : List Nat) : List Nat := (List.range (W * H)).map fun j => l.getD (trn W H j) 0
def sg (W : Int) (a : Int × Int) : Int × Int := (a.2, W - 1 - a.1)
theorem trn_lt {W H j : Nat} (hW : 0 < W) (hH : 0 < H) (hj : j < W * H) : trn W H j < W * H := by
  unfold trn
  have h1 : j % H < H := Nat.mod_lt _ hH
  have h2 : (j % H + 1) * W ≤ H * W := Nat.mul_le_mul_right _ h1
  rw [Nat.add_mul, Nat.one_mul, Nat.mul_comm H W] at h2
  have h3 : W - 1 - j / H < W := Nat.lt_of_le_of_lt (Nat.sub_le _ _) (by omega)
  omega
theorem trn_parts {W H j : Nat} (hW : 0 < W) (hH : 0 < H) (hj : j < W * H) : trn W H j % W = W - 1 - j / H ∧ trn W H j / W = j % H := by
  unfold trn
  have h1 : W - 1 - j / H < W := Nat.lt_of_le_of_lt (Nat.sub_le _ _) (by omega)
  constructor
  · rw [Nat.add_comm, Nat.add_mul_mod_self_right, Nat.mod_eq_of_lt h1]
  · rw [Nat.add_comm, Nat.add_mul_div_right _ _ hW, Nat.div_eq_of_lt h1, Nat.zero_add]
theorem trn_inj {W H j k : Nat} (hW : 0 < W) (hH : 0 < H) (hj : j < W * H) (hk : k < W * H) (h : trn W H j = trn W H k) : j = k := by
  obtain ⟨a1, a2⟩ := trn_parts hW hH hj
  obtain ⟨b1, b2⟩ := trn_parts hW hH hk
  rw [h] at a1 a2
  have c1 : j / H < W := Nat.div_lt_of_lt_mul (by rw [Nat.mul_comm]; exact hj)
  have c2 : k / H < W := Nat.div_lt_of_lt_mul (by rw [Nat.mul_comm]; exact hk)
  have d1 : j / H = k / H := by omega
  have d2 : j % H = k % H := by omega
  rw [← Nat.div_add_mod j H, ← Nat.div_add_mod k H, d1, d2]
theorem trn_perm {W H : Nat} (hW : 0 < W) (hH : 0 < H) : ((List.range (W * H)).map (trn W H)).Perm (List.range (W * H)) := by
  have hn : ((List.range (W * H)).map (trn W H)).Nodup := by
    show List.Pairwise (· ≠ ·) _
    rw [List.pairwise_map]
    refine List.Pairwise.imp_of_mem ?_ (List.nodup_range : List.Pairwise (· ≠ ·) (List.range (W * H)))
    intro a b ha hb hab e
    exact hab (trn_inj hW hH (List.mem_range.1 ha) (List.mem_range.1 hb) e)
  rw [List.perm_ext_iff_of_nodup hn List.nodup_range]
  intro x
  constructor
  · intro hx
    obtain ⟨j, hj, rfl⟩ := List.mem_map.1 hx
    exact List.mem_range.2 (trn_lt hW hH (List.mem_range.1 hj))
  · intro hx
    have hx := List.mem_range.1 hx
    have q1 : x / W < H := Nat.div_lt_of_lt_mul hx
    have q2 : x % W < W := Nat.mod_lt _ hW
    have q3 : x / W * W + x % W = x := by rw [Nat.mul_comm]; exact Nat.div_add_mod x W
    have p1 : ((W - 1 - x % W) * H + x / W) % H = x / W := by rw [Nat.add_comm, Nat.add_mul_mod_self_right, Nat.mod_eq_of_lt q1]
    have p2 : ((W - 1 - x % W) * H + x / W) / H = W - 1 - x % W := by rw [Nat.add_comm, Nat.add_mul_div_right _ _ hH, Nat.div_eq_of_lt q1, Nat.zero_add]
    have p3 : (W - 1 - x % W + 1) * H ≤ W * H := Nat.mul_le_mul_right _ (by omega)
    rw [Nat.add_mul, Nat.one_mul] at p3
    refine List.mem_map.2 ⟨(W - 1 - x % W) * H + x / W, List.mem_range.2 (by omega), ?_⟩
    unfold trn
    rw [p1, p2]
    omega
theorem list_range (l : List Nat) : l = (List.range l.length).map fun i => l.getD i 0 := by
  apply List.ext_getElem (by simp)
  intro i h1 h2
  simp [List.getD, List.getElem?_eq_getElem h1]
theorem turn_perm {W H : Nat} (hW : 0 < W) (hH : 0 < H) (l : List Nat) (hl : l.length = W * H) : (turnL W H l).Perm l := by
  have e : turnL W H l = ((List.range (W * H)).map (trn W H)).map fun i => l.getD i 0 := by unfold turnL; rw [List.map_map]; rfl
  have e2 := list_range l
  rw [hl] at e2
  rw [e]
  conv => rhs; rw [e2]
  exact (trn_perm hW hH).map _
theorem hotE_eq (w m : Int) (f : Nat → Int) : ∀ (n k : Nat), hotE w m ((List.range' k n).map f) k = ((List.range' k n).filter fun i => decide (m ≤ f i)).map fun i : Nat => ((i : Int).tmod w, (i : Int).tdiv w) := by
  intro n
  induction n with
  | zero => intro k; rfl
  | succ n ih =>
    intro k
    rw [List.range'_succ, List.map_cons, hotE, ih]
    by_cases h : m ≤ f k
    · rw [if_pos h, List.filter_cons_of_pos (p := fun i => decide (m ≤ f i)) (decide_eq_true h), List.map_cons]
    · rw [if_neg h, List.filter_cons_of_neg (p := fun i => decide (m ≤ f i)) (by rw [decide_eq_true_iff]; exact h)]
theorem hotE_range (w m : Int) (f : Nat → Int) (n : Nat) : hotE w m ((List.range n).map f) 0 = ((List.range n).filter fun i => decide (m ≤ f i)).map fun i : Nat => ((i : Int).tmod w, (i : Int).tdiv w) := by
  rw [List.range_eq_range']
  exact hotE_eq w m f n 0
theorem hot_turn {W H : Nat} (hW : 0 < W) (hH : 0 < H) (l : List Nat) (hl : l.length = W * H) (m : Int) :
    (hotE H m (us (turnL W H l)) 0).Perm ((hotE W m (us l) 0).map (sg W)) := by
  have e1 : us (turnL W H l) = (List.range (W * H)).map fun j => unX (l.getD (trn W H j) 0) := by unfold us turnL; rw [List.map_map]; rfl
  have e2 : us l = (List.range (W * H)).map fun i => unX (l.getD i 0) := by
    conv => lhs; rw [list_range l]
    unfold us
    rw [hl, List.map_map]; rfl
  rw [e1, e2, hotE_range, hotE_range, List.map_map]
  have hp := ((trn_perm hW hH).filter fun i => decide (m ≤ unX (l.getD i 0))).map (sg W ∘ fun i : Nat => ((i : Int).tmod W, (i : Int).tdiv W))
  refine List.Perm.trans ?_ hp
  rw [List.filter_map, List.map_map]
  have : ((List.range (W * H)).filter fun i => decide (m ≤ unX (l.getD (trn W H i) 0))).map (fun i : Nat => ((i : Int).tmod H, (i : Int).tdiv H)) =
      ((List.range (W * H)).filter ((fun i => decide (m ≤ unX (l.getD i 0))) ∘ trn W H)).map ((sg W ∘ fun i : Nat => ((i : Int).tmod W, (i : Int).tdiv W)) ∘ trn W H) := by
    apply List.map_congr_left
    intro j hj
    have hj := List.mem_range.1 (List.mem_filter.1 hj).1
    obtain ⟨t1, t2⟩ := trn_parts hW hH hj
    have c1 : j / H < W := Nat.div_lt_of_lt_mul (by rw [Nat.mul_comm]; exact hj)
    show ((j : Int).tmod H, (j : Int).tdiv H) = (((trn W H j : Nat) : Int).tdiv W, (W : Int) - 1 - ((trn W H j : Nat) : Int).tmod W)
    rw [← Int.ofNat_tmod, ← Int.ofNat_tdiv, ← Int.ofNat_tmod, ← Int.ofNat_tdiv, t1, t2]
    rw [Prod.mk.injEq]
    omega
  rw [this]
theorem sg_inj (W : Int) (a b : Int × Int) (h : sg W a = sg W b) : a = b := by
  unfold sg at h
  rw [Prod.mk.injEq] at h
  apply Prod.ext <;> omega
theorem sg_bes (W : Int) (a b : Int × Int) : besB (sg W a) (sg W b) = besB a b := by
  unfold besB sg
  simp only
  have : W - 1 - a.1 - (W - 1 - b.1) = -(a.1 - b.1) := by omega
  rw [this, Int.neg_mul_neg, Int.add_comm]
end Go.Den.FaU
namespace Go.Den.FaT
open Go Go.Proofs Go.Den

theorem c115y (b : Bool) (e : Int) : (lim T).call 115 [.bool b, .int .i64 e] [] 0 [] = some (.int .i64 (cond b e 0), [], 0, []) := by
  rw [ent115]
  cases b
  · simp -implicitDefEqProofs only [go_sem, simprocAttr]
  · simp -implicitDefEqProofs only [go_sem, simprocAttr]
theorem c39y (b : Bool) (e : Int) : (lim T).call 39 [.bool b, .int .i64 e] [] 0 [] = some (.int .i64 (cond b e 0), [], 0, []) := by
  rw [ent39]
  cases b
  · simp -implicitDefEqProofs only [go_sem, simprocAttr]
  · simp -implicitDefEqProofs only [go_sem, simprocAttr]
theorem c137y (n a b : Int) : (lim T).call 137 [.int .i64 n, .int .i64 a, .int .i64 b] [] 0 [] = some (.int .i64 (rng n a b), [], 0, []) := by
  rw [ent137]
  cases h : decide (n < a)
  · simp -implicitDefEqProofs only [go_sem, simprocAttr, h, c115y, rng]
  · simp -implicitDefEqProofs only [go_sem, simprocAttr, h, c115y, rng]
theorem c90y (n a b : Int) : (lim T).call 90 [.int .i64 n, .int .i64 a, .int .i64 b] [] 0 [] = some (.int .i64 (rng n a b), [], 0, []) := by
  rw [ent90]
  cases h : decide (n < a)
  · simp -implicitDefEqProofs only [go_sem, simprocAttr, h, c39y, rng]
  · simp -implicitDefEqProofs only [go_sem, simprocAttr, h, c39y, rng]

theorem loop114y (b : Bool) (l : List Int) (hb : l.length < 4611686018427387904) : ∀ i, i ≤ l.length → (lim T).loop false [.code (.loop b114_0), .inBlock 0, .code (.seq r114_7 .ret)] ⟨114, 15, 0, [(5, .sl b 1 (l.map fun n => .int .i64 n)), (6, .int .i64 l.length), (7, .int .i64 i)], [], 0, []⟩ = some (.ret (.int .i64 (fnz (l.drop i))), [], 0, []) := by
  refine down_ind l.length ?_ fun i hi ih => ?_
  · rw [loopEq]
    have h1 := idx_out l.length
    simp -implicitDefEqProofs only [go_sem, simprocAttr, h1]
    simp [fnz]
  · obtain ⟨h1, h2, h3, h4, h5⟩ := idx_in hi hb
    rw [loopEq, h5]
    cases h6 : (l[i] != 0)
    · have h7 : l[i] = 0 := by simpa using h6
      simp -implicitDefEqProofs only [go_sem, simprocAttr, h1, h2, h3, h4, h6, ih]
      simp [fnz, h7]
    · have h7 : l[i] ≠ 0 := by simpa using h6
      simp -implicitDefEqProofs only [go_sem, simprocAttr, h1, h2, h3, h4, h6]
      simp [fnz, h7]
theorem c114y (b : Bool) (l : List Int) (hb : l.length < 4611686018427387904) : (lim T).call 114 [.sl b 1 (l.map fun n => .int .i64 n)] [] 0 [] = some (.int .i64 (fnz l), [], 0, []) := by
  rw [ent114]
  have h := loop114y b l hb 0 (by omega)
  rw [show ((0 : Nat) : Int) = 0 from rfl, List.drop_zero] at h
  simp -implicitDefEqProofs only [go_sem, simprocAttr, h]

theorem loop108y (b : Bool) (l : List Int) (hb : l.length < 4611686018427387904) : ∀ i, i ≤ l.length → (lim T).loop false [.code (.loop b108_0), .inBlock 0, .code (.seq r108_6 .ret)] ⟨108, 19, 0, [(0, .sl b 1 (l.map fun n => .int .i64 n)), (3, .int .i64 i)], [], 0, []⟩ = some (.ret (.int .i64 (fnz (l.drop i))), [], 0, []) := by
  refine down_ind l.length ?_ fun i hi ih => ?_
  · rw [loopEq]
    have h1 := idx_out l.length
    simp -implicitDefEqProofs only [go_sem, simprocAttr, h1]
    simp [fnz]
  · obtain ⟨h1, h2, h3, h4, h5⟩ := idx_in hi hb
    rw [loopEq, h5]
    cases h6 : (l[i] != 0)
    · have h7 : l[i] = 0 := by simpa using h6
      simp -implicitDefEqProofs only [go_sem, simprocAttr, h1, h2, h3, h4, h6, ih]
      simp [fnz, h7]
    · have h7 : l[i] ≠ 0 := by simpa using h6
      simp -implicitDefEqProofs only [go_sem, simprocAttr, h1, h2, h3, h4, h6]
      simp [fnz, h7]
theorem c108y (b : Bool) (l : List Int) (hb : l.length < 4611686018427387904) : (lim T).call 108 [.sl b 1 (l.map fun n => .int .i64 n)] [] 0 [] = some (.int .i64 (fnz l), [], 0, []) := by
  rw [ent108]
  have h := loop108y b l hb 0 (by omega)
  rw [show ((0 : Nat) : Int) = 0 from rfl, List.drop_zero] at h
  simp -implicitDefEqProofs only [go_sem, simprocAttr, h]
theorem c152y (a b c d : Int) : (lim T).call 152 [.agg [.int .i64 a, .int .i64 b], .agg [.int .i64 c, .int .i64 d]] [] 0 [] = some (.agg [.int .i64 (IntKind.i64.wrap (a + c)), .int .i64 (IntKind.i64.wrap (b + d))], [], 0, []) := by
  rw [ent152]
  simp -implicitDefEqProofs only [go_sem, simprocAttr]
theorem c163 (a b c d : Int) : (lim T).call 163 [.agg [.int .i64 a, .int .i64 b], .agg [.int .i64 c, .int .i64 d]] [] 0 [] = some (.agg [.int .i64 (IntKind.i64.wrap (a - c)), .int .i64 (IntKind.i64.wrap (b - d))], [], 0, []) := by
  rw [ent163]
  simp -implicitDefEqProofs only [go_sem, simprocAttr]
theorem c327 (a b : Int) : (lim T).call 327 [.agg [.int .i64 a, .int .i64 b]] [] 0 [] = some (.agg [.int .i64 a, .int .i64 b], [], 0, []) := by
  rw [ent327]
  simp -implicitDefEqProofs only [go_sem, simprocAttr]
theorem c328 (a b : Int) : (lim T).call 328 [.agg [.int .i64 a, .int .i64 b]] [] 0 [] = some (.agg [.int .i64 (IntKind.i64.wrap (0 - b)), .int .i64 a], [], 0, []) := by
  rw [ent328]
  simp -implicitDefEqProofs only [go_sem, simprocAttr]

theorem c329 (a b : Int) : (lim T).call 329 [.agg [.int .i64 a, .int .i64 b]] [] 0 [] = some (.agg [.int .i64 (IntKind.i64.wrap (0 - a)), .int .i64 (IntKind.i64.wrap (0 - b))], [], 0, []) := by
  rw [ent329]
  simp -implicitDefEqProofs only [go_sem, simprocAttr]
theorem c330 (a b : Int) : (lim T).call 330 [.agg [.int .i64 a, .int .i64 b]] [] 0 [] = some (.agg [.int .i64 b, .int .i64 (IntKind.i64.wrap (0 - a))], [], 0, []) := by
  rw [ent330]
  simp -implicitDefEqProofs only [go_sem, simprocAttr]
theorem c114_2y (b : Bool) (x y : Int) : (lim T).call 114 [.sl b 1 [.int .i64 x, .int .i64 y]] [] 0 [] = some (.int .i64 (fnz [x, y]), [], 0, []) := c114y b [x, y] (by simp)
theorem c114_4y (b : Bool) (x y z u : Int) : (lim T).call 114 [.sl b 1 [.int .i64 x, .int .i64 y, .int .i64 z, .int .i64 u]] [] 0 [] = some (.int .i64 (fnz [x, y, z, u]), [], 0, []) := c114y b [x, y, z, u] (by simp)
theorem c108_2y (b : Bool) (x y : Int) : (lim T).call 108 [.sl b 1 [.int .i64 x, .int .i64 y]] [] 0 [] = some (.int .i64 (fnz [x, y]), [], 0, []) := c108y b [x, y] (by simp)
theorem c161 (x y : Int) : (lim T).call 161 [.agg [.int .i64 x, .int .i64 y]] [] 0 [] = some (.int .i64 (ckP x y), [], 0, []) := by
  rw [ent161]
  simp -implicitDefEqProofs only [go_sem, simprocAttr, c137y, c114_2y, ckP]
theorem c70 (x y : Int) : (lim T).call 70 [.agg [.int .i64 x, .int .i64 y]] [] 0 [] = some (.int .i64 (ckP x y), [], 0, []) := by
  rw [ent70]
  simp -implicitDefEqProofs only [go_sem, simprocAttr, c90y, c108_2y, ckP]
theorem c160 (n x y : Int) : (lim T).call 160 [.agg [.int .i64 n, .int .i64 x, .int .i64 y]] [] 0 [] = some (.int .i64 (ckF n x y), [], 0, []) := by
  rw [ent160]
  simp -implicitDefEqProofs only [go_sem, simprocAttr, c137y, c161, c114_2y, ckF]
theorem c69 (n x y : Int) : (lim T).call 69 [.agg [.int .i64 n, .int .i64 x, .int .i64 y]] [] 0 [] = some (.int .i64 (ckF n x y), [], 0, []) := by
  rw [ent69]
  simp -implicitDefEqProofs only [go_sem, simprocAttr, c90y, c70, c108_2y, ckF]

def trn (n x y : Int) : Int × Int := if n = 0 then (x, y) else if n = 1 then (IntKind.i64.wrap (0 - y), x) else if n = 2 then (IntKind.i64.wrap (0 - x), IntKind.i64.wrap (0 - y)) else (y, IntKind.i64.wrap (0 - x))
def carr (n sx sy x y : Int) : Int × Int := (IntKind.i64.wrap ((trn n x y).1 + sx), IntKind.i64.wrap ((trn n x y).2 + sy))
theorem c162 (n sx sy x y : Int) (h : 0 ≤ n ∧ n ≤ 3) : (lim T).call 162 [.agg [.int .i64 n, .int .i64 sx, .int .i64 sy], .agg [.int .i64 x, .int .i64 y]] [] 0 [] = some (.agg [.int .i64 (carr n sx sy x y).1, .int .i64 (carr n sx sy x y).2], [], 0, []) := by
  rw [ent162]
  have h : n = 0 ∨ n = 1 ∨ n = 2 ∨ n = 3 := by omega
  rcases h with rfl | rfl | rfl | rfl
  · simp -implicitDefEqProofs only [go_sem, simprocAttr, c152y, c327]
    simp [carr, trn]
  · simp -implicitDefEqProofs only [go_sem, simprocAttr, c152y, c328]
    simp [carr, trn]
  · simp -implicitDefEqProofs only [go_sem, simprocAttr, c152y, c329]
    simp [carr, trn]
  · simp -implicitDefEqProofs only [go_sem, simprocAttr, c152y, c330]
    simp [carr, trn]

theorem c66 (n sx sy x y : Int) : (lim T).call 66 [.agg [.int .i64 n, .int .i64 sx, .int .i64 sy], .agg [.int .i64 x, .int .i64 y]] [] 0 [] =
    some (if fnz [ckF n sx sy, ckP x y] = 0 then .tup [.agg [.int .i64 (carr n sx sy x y).1, .int .i64 (carr n sx sy x y).2], .int .i64 0] else .tup [.agg [.int .i64 0, .int .i64 0], .int .i64 (fnz [ckF n sx sy, ckP x y])], [], 0, []) := by
  rw [ent66]
  cases h : (fnz [ckF n sx sy, ckP x y] != 0)
  · have h1 : fnz [ckF n sx sy, ckP x y] = 0 := by simpa using h
    have h2 : 0 ≤ n ∧ n ≤ 3 := by
      simp only [ckF, fnz, rng_eq] at h1
      by_cases h3 : n < 0 ∨ 3 < n
      · simp [h3] at h1
      · omega
    simp -implicitDefEqProofs only [go_sem, simprocAttr, c160, c161, c114_2y, h, c162 n sx sy x y h2]
    simp [h1]
  · have h1 : fnz [ckF n sx sy, ckP x y] ≠ 0 := by simpa using h
    simp -implicitDefEqProofs only [go_sem, simprocAttr, c160, c161, c114_2y, h]
    simp [h1]
theorem c67 (n sx sy x y : Int) : (lim T).call 67 [.agg [.int .i64 n, .int .i64 sx, .int .i64 sy], .agg [.int .i64 x, .int .i64 y]] [] 0 [] =
    some (if fnz [ckF n sx sy, ckP x y] = 0 then .tup [.agg [.int .i64 (trn ((4 - n) % 4) (IntKind.i64.wrap (x - sx)) (IntKind.i64.wrap (y - sy))).1, .int .i64 (trn ((4 - n) % 4) (IntKind.i64.wrap (x - sx)) (IntKind.i64.wrap (y - sy))).2], .int .i64 0] else .tup [.agg [.int .i64 0, .int .i64 0], .int .i64 (fnz [ckF n sx sy, ckP x y])], [], 0, []) := by
  rw [ent67]
  cases h : (fnz [ckF n sx sy, ckP x y] != 0)
  · have h1 : fnz [ckF n sx sy, ckP x y] = 0 := by simpa using h
    have h2 : 0 ≤ n ∧ n ≤ 3 := by
      simp only [ckF, fnz, rng_eq] at h1
      by_cases h3 : n < 0 ∨ 3 < n
      · simp [h3] at h1
      · omega
    rw [if_pos h1]
    have h3 : n = 0 ∨ n = 1 ∨ n = 2 ∨ n = 3 := by omega
    rcases h3 with rfl | rfl | rfl | rfl
    · simp -implicitDefEqProofs only [go_sem, simprocAttr, c160, c161, c114_2y, h, wrap64, c163, c327]
      simp [trn]
    · simp -implicitDefEqProofs only [go_sem, simprocAttr, c160, c161, c114_2y, h, wrap64, c163, c330]
      simp [trn]
    · simp -implicitDefEqProofs only [go_sem, simprocAttr, c160, c161, c114_2y, h, wrap64, c163, c329]
      simp [trn]
    · simp -implicitDefEqProofs only [go_sem, simprocAttr, c160, c161, c114_2y, h, wrap64, c163, c328]
      simp [trn]
  · have h1 : fnz [ckF n sx sy, ckP x y] ≠ 0 := by simpa using h
    simp -implicitDefEqProofs only [go_sem, simprocAttr, c160, c161, c114_2y, h]
    simp [h1]

theorem loop141 (b : Bool) (l : List (Int × Int)) (hb : l.length < 1000000) : ∀ i, i ≤ l.length → ∀ o : Option (List Int), acL o = i →
    (lim T).loop false [.code (.loop b141_0), .inBlock 0, .code (.seq r141_7 .ret)] ⟨141, 22, 0, [(1, .fn 161 []), (5, acV o 0), (8, .sl b 2 (l.map fun p => .agg [.int .i64 p.1, .int .i64 p.2])), (9, .int .i64 l.length), (10, .int .i64 i)], acR (fun n => .int .i64 n) o 29, 0, []⟩ =
      some (.ret (acO (fun n => .int .i64 n) 0 1 (acA o ((l.drop i).map fun p => ckP p.1 p.2))), [], 0, []) := by
  refine down_ind l.length ?_ fun i hi ih o ho => ?_
  · intro o ho
    rw [loopEq]
    have h1 := idx_out l.length
    cases o with
    | none =>
      simp -implicitDefEqProofs only [go_sem, simprocAttr, h1]
      simp [acA, acO]
    | some a =>
      simp -implicitDefEqProofs only [go_sem, simprocAttr, h1]
      simp [acA, acO]
  · obtain ⟨h1, h2, h3, h4, h5⟩ := idx_in hi (by omega)
    rw [loopEq, h5]
    have ih' := ih (acA o [ckP l[i].1 l[i].2]) (by rw [acL_A, ho]; rfl)
    rw [acA_acA] at ih'
    cases o with
    | none =>
      have h8 := row_ok (n := 0) (by omega)
      simp only [acA_n, acV_s, acR_s, List.map_cons, List.map_nil] at ih'
      simp -implicitDefEqProofs only [go_sem, simprocAttr, h1, h2, h3, h4, ih', c161, h8.2]
    | some a =>
      have h9 : a.length = i := ho
      have h8 := (row_ok (n := a.length) (by omega)).1
      simp only [acA_s, acV_s, acR_s, List.map_append, List.map_cons, List.map_nil] at ih'
      simp -implicitDefEqProofs only [go_sem, simprocAttr, h1, h2, h3, h4, ih', c161, h8]
theorem c141 (b : Bool) (l : List (Int × Int)) (hb : l.length < 1000000) : (lim T).call 141 [.sl b 2 (l.map fun p => .agg [.int .i64 p.1, .int .i64 p.2]), .fn 161 []] [] 0 [] =
    some (slV 1 ((l.map fun p => ckP p.1 p.2).map fun n => .int .i64 n), [], 0, []) := by
  rw [ent141]
  have h := loop141 b l hb 0 (by omega) none rfl
  rw [show ((0 : Nat) : Int) = 0 from rfl, List.drop_zero, acO_slV] at h
  simp only [acV_n, acR_n] at h
  simp -implicitDefEqProofs only [go_sem, simprocAttr, h]

theorem c112y (n k : Int) : (lim T).call 112 [.int .i64 n, .int .i64 k] [] 0 [] = some (.int .i64 (fnz [cond (n == 0) 12 0, cond (decide (k < n)) 5 0]), [], 0, []) := by
  rw [ent112]
  simp -implicitDefEqProofs only [go_sem, simprocAttr, c115y, c114_2y]
theorem c47 (b : Bool) (l : List (Int × Int)) (hl : l.length < 1000000) : (lim T).call 47 [.sl b 2 (l.map fun p => .agg [.int .i64 p.1, .int .i64 p.2])] [] 0 [] = some (.sl true 2 (l.map fun p => .agg [.int .i64 p.1, .int .i64 p.2]), [], 0, []) := by
  rw [ent47]
  cases l with
  | nil => simp -implicitDefEqProofs only [go_sem, simprocAttr]
  | cons p l =>
    have h8 := (row_ok (n := l.length) (by simp at hl; omega)).1
    simp -implicitDefEqProofs only [go_sem, simprocAttr, h8]

def tr (n x y : Int) : Int × Int := if n = 0 then (x, y) else if n = 1 then (0 - y, x) else if n = 2 then (0 - x, 0 - y) else (y, 0 - x)
def cry (n sx sy x y : Int) : Int × Int := ((tr n x y).1 + sx, (tr n x y).2 + sy)
def bnd (b : Int) (p : Int × Int) : Prop := -b ≤ p.1 ∧ p.1 ≤ b ∧ -b ≤ p.2 ∧ p.2 ≤ b
theorem tr_bnd (n : Int) {b : Int} {p : Int × Int} (h : bnd b p) : bnd b (tr n p.1 p.2) := by
  unfold bnd at *
  unfold tr
  split
  · exact h
  · split
    · dsimp only; omega
    · split <;> (dsimp only; omega)
theorem trn_tr (n : Int) {p : Int × Int} (h : bnd 1000000 p) : trn n p.1 p.2 = tr n p.1 p.2 := by
  unfold bnd at h
  unfold trn tr
  rw [wrap64 (n := 0 - p.1) (by omega) (by omega), wrap64 (n := 0 - p.2) (by omega) (by omega)]
theorem c162' (n sx sy x y : Int) (h : 0 ≤ n ∧ n ≤ 3) (hs : bnd 1000000 (sx, sy)) (hp : bnd 1000000 (x, y)) : (lim T).call 162 [.agg [.int .i64 n, .int .i64 sx, .int .i64 sy], .agg [.int .i64 x, .int .i64 y]] [] 0 [] =
    some (.agg [.int .i64 (cry n sx sy x y).1, .int .i64 (cry n sx sy x y).2], [], 0, []) := by
  rw [c162 n sx sy x y h]
  unfold carr
  rw [trn_tr n hp]
  have := tr_bnd n hp
  unfold bnd at this hs
  dsimp only at this hs ⊢
  rw [wrap64 (by omega) (by omega), wrap64 (by omega) (by omega)]
  rfl

def agr (n sx sy : Int) : Nat → List (Int × Int) → List (Int × Int) → List Int
  | j, p :: ps, q :: qs => if cry n sx sy p.1 p.2 = q then (j : Int) :: agr n sx sy (j + 1) ps qs else agr n sx sy (j + 1) ps qs
  | _, _, _ => []
theorem agr_len (n sx sy : Int) : ∀ (j : Nat) (ps qs : List (Int × Int)), (agr n sx sy j ps qs).length ≤ ps.length := by
  intro j ps
  induction ps generalizing j with
  | nil => intro qs; simp [agr]
  | cons p ps ih =>
    intro qs
    cases qs with
    | nil => simp [agr]
    | cons q qs =>
      simp only [agr]
      split
      · have := ih (j + 1) qs; simp; omega
      · have := ih (j + 1) qs; simp; omega




structure FrS where
  n : Int
  x : Int
  y : Int
  l : List Int
def candX (n : Int) (p q : Int × Int) : Int := q.1 - (tr n p.1 p.2).1
def candY (n : Int) (p q : Int × Int) : Int := q.2 - (tr n p.1 p.2).2
def stp (n : Int) (l m : List (Int × Int)) (p q : Int × Int) (s : FrS) : FrS :=
  if ckF n (candX n p q) (candY n p q) = 0 then
    if s.l.length < (agr n (candX n p q) (candY n p q) 0 l m).length then ⟨n, candX n p q, candY n p q, agr n (candX n p q) (candY n p q) 0 l m⟩ else s
  else s
def inn (n : Int) (l m : List (Int × Int)) : List (Int × Int) → List (Int × Int) → FrS → FrS
  | p :: ps, q :: qs, s => inn n l m ps qs (stp n l m p q s)
  | _, _, s => s
def frm (l m : List (Int × Int)) : FrS := inn 3 l m l m (inn 2 l m l m (inn 1 l m l m (inn 0 l m l m ⟨0, 0, 0, []⟩)))
theorem ckF_bnd {n x y : Int} (h : ckF n x y = 0) : (0 ≤ n ∧ n ≤ 3) ∧ bnd 1000 (x, y) := by
  simp only [ckF, ckP, fnz, rng_eq] at h
  unfold bnd
  by_cases h1 : n < 0 ∨ 3 < n
  · simp [h1] at h
  · by_cases h2 : x < -1000 ∨ 1000 < x
    · simp [h1, h2] at h
    · by_cases h3 : y < -1000 ∨ 1000 < y
      · simp [h1, h2, h3] at h
      · dsimp only; omega

theorem bnd_mono {a b : Int} (hab : a ≤ b) {p : Int × Int} (h : bnd a p) : bnd b p := by unfold bnd at *; omega


def L68a (b c : Bool) (l m : List (Int × Int)) (s : FrS) (M A : Option (List Int)) (k sx sy : Int) (i j : Nat) : Option Out :=
  (lim T).loop false [.code (.loop b68_2), .inBlock 4, .code (.seq r68_22 (.cond (.tmp 86) r68_23 .skip)), .inBlock 3, .code r68_24, .inLoop b68_1, .inBlock 2, .inBlock 1, .code r68_25, .inLoop b68_0, .inBlock 0, .code (.seq (.seq r68_26 (.cond (.tmp 93) (.seq r68_27 .ret) .skip)) (.seq r68_28 .ret))]
    ⟨68, 97, 0, [(0, .sl b 2 (l.map fun p => .agg [.int .i64 p.1, .int .i64 p.2])), (1, .sl c 2 (m.map fun p => .agg [.int .i64 p.1, .int .i64 p.2])), (4, .ptr 0 0 0), (8, .ptr 1 0 0), (9, acV M 2), (10, .int .i64 k), (13, .ptr (acI M 2) 0 0), (14, acV A (acI M 2 + 1)), (38, .int .i64 k),
      (41, .sl b 2 (l.map fun p => .agg [.int .i64 p.1, .int .i64 p.2])), (42, .int .i64 l.length), (43, .int .i64 i), (62, .sl b 2 (l.map fun p => .agg [.int .i64 p.1, .int .i64 p.2])), (63, .int .i64 l.length), (64, .int .i64 j)],
      .cells true true 106 [.agg [.int .i64 0, .int .i64 0, .int .i64 0]] :: .cells true true 106 [.agg [.int .i64 s.n, .int .i64 s.x, .int .i64 s.y]] :: (acR (fun n => .int .i64 n) M 3 ++ (.cells true true 106 [.agg [.int .i64 k, .int .i64 sx, .int .i64 sy]] :: acR (fun n => .int .i64 n) A 3)), 0, []⟩

theorem loop68a (b c : Bool) (l m : List (Int × Int)) (s : FrS) (M : Option (List Int)) (k sx sy : Int) (i : Nat) (hb : l.length < 1000) (hm : l.length = m.length) (hn : 0 ≤ k ∧ k ≤ 3) (hs : bnd 1000 (sx, sy)) (hl : ∀ p ∈ l, bnd 1000 p) : ∀ j, j ≤ l.length → ∀ A : Option (List Int), acL A ≤ j →
    L68a b c l m s M A k sx sy i j = L68a b c l m s M (acA A (agr k sx sy j (l.drop j) (m.drop j))) k sx sy i l.length := by
  refine down_ind l.length ?_ fun j hj ih A hA => ?_
  · intro A hA
    have h0 : l.drop l.length = [] := by simp
    rw [h0]; rfl
  · obtain ⟨h1, h2, h3, h4, h5⟩ := idx_in hj (by omega)
    obtain ⟨g1, g2, g3, g4, g5⟩ := idx_in (l := m) (i := j) (by omega) (by omega)
    conv => lhs; unfold L68a; rw [loopEq]
    rw [h5, g5]
    have hpi : bnd 1000000 (l[j].1, l[j].2) := bnd_mono (by omega) (hl _ (List.getElem_mem hj))
    have hc := c162' k sx sy l[j].1 l[j].2 hn (bnd_mono (by omega) hs) hpi
    simp only [agr]
    cases h6 : ((cry k sx sy l[j].1 l[j].2).1 == m[j].1 && (cry k sx sy l[j].1 l[j].2).2 == m[j].2)
    · have h7 : ¬ cry k sx sy l[j].1 l[j].2 = m[j] := by
        intro e; rw [e] at h6; simp at h6
      rw [if_neg h7]
      have ih' := ih A (by omega)
      conv at ih' => lhs; unfold L68a
      cases M with
      | none => cases A with
        | none =>
          simp only [acV_n, acR_n, acI_n, List.nil_append] at ih'
          simp -implicitDefEqProofs only [go_sem, simprocAttr, h1, h2, h3, h4, g1, g2, g3, g4, ih', hc, h6]
        | some a =>
          simp only [acV_n, acR_n, acI_n, acV_s, acR_s, acI_s, List.nil_append, Nat.reduceAdd] at ih'
          simp -implicitDefEqProofs only [go_sem, simprocAttr, h1, h2, h3, h4, g1, g2, g3, g4, ih', hc, h6]
      | some mm => cases A with
        | none =>
          simp only [acV_n, acR_n, acI_n, acV_s, acR_s, acI_s, List.nil_append, List.cons_append, Nat.reduceAdd] at ih'
          simp -implicitDefEqProofs only [go_sem, simprocAttr, h1, h2, h3, h4, g1, g2, g3, g4, ih', hc, h6]
        | some a =>
          simp only [acV_n, acR_n, acI_n, acV_s, acR_s, acI_s, List.nil_append, List.cons_append, Nat.reduceAdd] at ih'
          simp -implicitDefEqProofs only [go_sem, simprocAttr, h1, h2, h3, h4, g1, g2, g3, g4, ih', hc, h6]
    · have h7 : cry k sx sy l[j].1 l[j].2 = m[j] := by
        simp at h6; exact Prod.ext h6.1 h6.2
      rw [if_pos h7]
      have ih' := ih (acA A [(j : Int)]) (by rw [acL_A]; simp; omega)
      rw [acA_acA] at ih'
      conv at ih' => lhs; unfold L68a
      cases M with
      | none => cases A with
        | none =>
          have h8 := (row_ok (n := 0) (by omega)).2
          simp only [acA_n, acV_n, acR_n, acI_n, acV_s, acR_s, acI_s, List.nil_append, List.map_cons, List.map_nil, Nat.reduceAdd] at ih'
          simp -implicitDefEqProofs only [go_sem, simprocAttr, h1, h2, h3, h4, g1, g2, g3, g4, ih', hc, h6, h8]
        | some a =>
          have h9 : a.length ≤ j := hA
          have h8 := (row_ok (n := a.length) (by omega)).1
          simp only [acA_s, acV_n, acR_n, acI_n, acV_s, acR_s, acI_s, List.nil_append, List.map_append, List.map_cons, List.map_nil, Nat.reduceAdd] at ih'
          simp -implicitDefEqProofs only [go_sem, simprocAttr, h1, h2, h3, h4, g1, g2, g3, g4, ih', hc, h6, h8]
      | some mm => cases A with
        | none =>
          have h8 := (row_ok (n := 0) (by omega)).2
          simp only [acA_n, acV_n, acR_n, acI_n, acV_s, acR_s, acI_s, List.nil_append, List.cons_append, List.map_cons, List.map_nil, Nat.reduceAdd] at ih'
          simp -implicitDefEqProofs only [go_sem, simprocAttr, h1, h2, h3, h4, g1, g2, g3, g4, ih', hc, h6, h8]
        | some a =>
          have h9 : a.length ≤ j := hA
          have h8 := (row_ok (n := a.length) (by omega)).1
          simp only [acA_s, acV_n, acR_n, acI_n, acV_s, acR_s, acI_s, List.nil_append, List.cons_append, List.map_append, List.map_cons, List.map_nil, Nat.reduceAdd] at ih'
          simp -implicitDefEqProofs only [go_sem, simprocAttr, h1, h2, h3, h4, g1, g2, g3, g4, ih', hc, h6, h8]

def L68b (b c : Bool) (l m : List (Int × Int)) (s : FrS) (M : Option (List Int)) (k : Int) (i : Nat) : Option Out :=
  (lim T).loop false [.code (.loop b68_1), .inBlock 2, .inBlock 1, .code r68_25, .inLoop b68_0, .inBlock 0, .code (.seq (.seq r68_26 (.cond (.tmp 93) (.seq r68_27 .ret) .skip)) (.seq r68_28 .ret))]
    ⟨68, 97, 0, [(0, .sl b 2 (l.map fun p => .agg [.int .i64 p.1, .int .i64 p.2])), (1, .sl c 2 (m.map fun p => .agg [.int .i64 p.1, .int .i64 p.2])), (4, .ptr 0 0 0), (8, .ptr 1 0 0), (9, acV M 2), (10, .int .i64 k), (38, .int .i64 k),
      (41, .sl b 2 (l.map fun p => .agg [.int .i64 p.1, .int .i64 p.2])), (42, .int .i64 l.length), (43, .int .i64 i)],
      .cells true true 106 [.agg [.int .i64 0, .int .i64 0, .int .i64 0]] :: .cells true true 106 [.agg [.int .i64 s.n, .int .i64 s.x, .int .i64 s.y]] :: acR (fun n => .int .i64 n) M 3, 0, []⟩

theorem none_or_some {l : List Int} : (l = [] ∧ acA none l = none) ∨ (l ≠ [] ∧ acA none l = some l) := by
  cases l with
  | nil => exact .inl ⟨rfl, rfl⟩
  | cons x r => exact .inr ⟨by simp, rfl⟩

theorem loop68b (b c : Bool) (k : Int) (l m : List (Int × Int)) (hb : l.length < 1000) (hm : l.length = m.length) (hn : 0 ≤ k ∧ k ≤ 3) (hl : ∀ p ∈ l, bnd 1000 p) (hq : ∀ p ∈ m, bnd 1000 p) : ∀ i, i ≤ l.length → ∀ s : FrS,
    L68b b c l m s (acA none s.l) k i = L68b b c l m (inn k l m (l.drop i) (m.drop i) s) (acA none (inn k l m (l.drop i) (m.drop i) s).l) k l.length := by
  refine down_ind l.length ?_ fun i hi ih s => ?_
  · intro s
    have h0 : l.drop l.length = [] := by simp
    rw [h0]; rfl
  · obtain ⟨h1, h2, h3, h4, h5⟩ := idx_in hi (by omega)
    obtain ⟨g1, g2, g3, g4, g5⟩ := idx_in (l := m) (i := i) (by omega) (by omega)
    conv => lhs; unfold L68b; rw [loopEq]
    rw [h5, g5]
    simp only [inn]
    have hpi : bnd 1000 (l[i].1, l[i].2) := hl _ (List.getElem_mem hi)
    have hqi : bnd 1000 m[i] := hq _ (List.getElem_mem (by omega))
    have ht := tr_bnd k hpi
    have hc := c162' k 0 0 l[i].1 l[i].2 hn (by unfold bnd; omega) (bnd_mono (by omega) hpi)
    have hX : IntKind.i64.wrap (m[i].1 - (cry k 0 0 l[i].1 l[i].2).1) = candX k l[i] m[i] := by
      unfold cry; unfold bnd at ht hqi; dsimp only at ht hqi ⊢; rw [wrap64 (by omega) (by omega)]; unfold candX; omega
    have hY : IntKind.i64.wrap (m[i].2 - (cry k 0 0 l[i].1 l[i].2).2) = candY k l[i] m[i] := by
      unfold cry; unfold bnd at ht hqi; dsimp only at ht hqi ⊢; rw [wrap64 (by omega) (by omega)]; unfold candY; omega
    cases h6 : (ckF k (candX k l[i] m[i]) (candY k l[i] m[i]) != 0)
    · have h7 : ckF k (candX k l[i] m[i]) (candY k l[i] m[i]) = 0 := by simpa using h6
      obtain ⟨_, hs⟩ := ckF_bnd h7
      have hr := loop68a b c l m s (acA none s.l) k _ _ i hb hm hn hs hl 0 (by omega) none (Nat.le_refl _)
      rw [List.drop_zero, List.drop_zero] at hr
      have hend := idx_out l.length
      generalize hag : agr k (candX k l[i] m[i]) (candY k l[i] m[i]) 0 l m = ag at hr
      conv at hr => lhs; unfold L68a
      -- the loop of the marks that agree, then what is done with them
      have fin : L68a b c l m s (acA none s.l) (acA none ag) k (candX k l[i] m[i]) (candY k l[i] m[i]) i l.length = L68b b c l m (stp k l m l[i] m[i] s) (acA none (stp k l m l[i] m[i] s).l) k (i + 1) := by
        conv => lhs; unfold L68a; rw [loopEq]
        cases h8 : decide (((s.l.length : Nat) : Int) < ((ag.length : Nat) : Int))
        · have h9 : ¬ s.l.length < ag.length := by simp at h8; omega
          have e : stp k l m l[i] m[i] s = s := by unfold stp; rw [if_pos h7, hag, if_neg h9]
          rw [e]
          unfold L68b
          rcases none_or_some (l := s.l) with ⟨e1, e2⟩ | ⟨e1, e2⟩
          · rw [e2]
            have : ag = [] := by rw [e1] at h9; simp at h9; exact h9
            rw [this]
            simp -implicitDefEqProofs only [go_sem, simprocAttr, hend, h4, acA_0]
          · rw [e2]
            rcases none_or_some (l := ag) with ⟨a1, a2⟩ | ⟨a1, a2⟩
            · rw [a2]
              rw [a1] at h8
              simp only [List.length_nil, Int.cast_ofNat_Int] at h8
              simp -implicitDefEqProofs only [go_sem, simprocAttr, hend, h4, h8]
            · rw [a2]
              simp -implicitDefEqProofs only [go_sem, simprocAttr, hend, h4, h8]
        · have h9 : s.l.length < ag.length := by simp at h8; omega
          have e : stp k l m l[i] m[i] s = ⟨k, candX k l[i] m[i], candY k l[i] m[i], ag⟩ := by unfold stp; rw [if_pos h7, hag, if_pos h9]
          rw [e]
          unfold L68b
          rcases none_or_some (l := ag) with ⟨a1, a2⟩ | ⟨a1, a2⟩
          · rw [a1] at h9; simp at h9
          · dsimp only
            rw [a2]
            rcases none_or_some (l := s.l) with ⟨e1, e2⟩ | ⟨e1, e2⟩
            · rw [e2]
              rw [e1] at h8
              simp only [List.length_nil, Int.cast_ofNat_Int] at h8
              simp -implicitDefEqProofs only [go_sem, simprocAttr, hend, h4, h8]
            · rw [e2]
              simp -implicitDefEqProofs only [go_sem, simprocAttr, hend, h4, h8]
      have ih' := ih (stp k l m l[i] m[i] s)
      rw [← ih', ← fin]
      rcases none_or_some (l := s.l) with ⟨e1, e2⟩ | ⟨e1, e2⟩
      · rw [e2] at hr ⊢
        simp only [show ((0 : Nat) : Int) = 0 from rfl, acV_n, acR_n, acI_n, List.nil_append, Nat.reduceAdd] at hr
        simp -implicitDefEqProofs only [go_sem, simprocAttr, h1, h2, h3, h4, g1, g2, g3, g4, hc, hX, hY, h6, c160, c163, hr]
      · rw [e2] at hr ⊢
        simp only [show ((0 : Nat) : Int) = 0 from rfl, acV_n, acR_n, acI_n, acV_s, acR_s, acI_s, List.nil_append, List.cons_append, Nat.reduceAdd] at hr
        simp -implicitDefEqProofs only [go_sem, simprocAttr, h1, h2, h3, h4, g1, g2, g3, g4, hc, hX, hY, h6, c160, c163, hr]
    · have h7 : ¬ ckF k (candX k l[i] m[i]) (candY k l[i] m[i]) = 0 := by simpa using h6
      have e : stp k l m l[i] m[i] s = s := by unfold stp; rw [if_neg h7]
      rw [e]
      have ih' := ih s
      conv at ih' => lhs; unfold L68b
      rcases none_or_some (l := s.l) with ⟨e1, e2⟩ | ⟨e1, e2⟩
      · rw [e2] at ih' ⊢
        simp only [acV_n, acR_n] at ih'
        simp -implicitDefEqProofs only [go_sem, simprocAttr, h1, h2, h3, h4, g1, g2, g3, g4, ih', hc, hX, hY, h6, c160, c163]
      · rw [e2] at ih' ⊢
        simp only [acV_s, acR_s] at ih'
        simp -implicitDefEqProofs only [go_sem, simprocAttr, h1, h2, h3, h4, g1, g2, g3, g4, ih', hc, hX, hY, h6, c160, c163]

theorem fnz_zeroy {l : List Int} : fnz l = 0 ↔ ∀ x ∈ l, x = 0 := by
  induction l with
  | nil => simp [fnz]
  | cons x l ih =>
    simp only [fnz]
    by_cases h : x = 0
    · simp [h, ih]
    · simp [h]
theorem ckP_bnd {x y : Int} (h : ckP x y = 0) : bnd 1000 (x, y) := by
  simp only [ckP, fnz, rng_eq] at h
  unfold bnd
  by_cases h2 : x < -1000 ∨ 1000 < x
  · simp [h2] at h
  · by_cases h3 : y < -1000 ∨ 1000 < y
    · simp [h2, h3] at h
    · dsimp only; omega
theorem stp_nil {n : Int} {l m : List (Int × Int)} {p q : Int × Int} {s : FrS} (h : (stp n l m p q s).l = []) : stp n l m p q s = s := by
  unfold stp at h ⊢
  split
  · rename_i h1
    rw [if_pos h1] at h
    split
    · rename_i h2
      rw [if_pos h2] at h
      dsimp only at h
      rw [h] at h2; simp at h2
    · rfl
  · rfl
theorem inn_nil {n : Int} {l m : List (Int × Int)} : ∀ (ps qs : List (Int × Int)) (s : FrS), (inn n l m ps qs s).l = [] → inn n l m ps qs s = s := by
  intro ps
  induction ps with
  | nil => intro qs s _; rfl
  | cons p ps ih =>
    intro qs s h
    cases qs with
    | nil => rfl
    | cons q qs =>
      simp only [inn] at h ⊢
      have h1 := ih qs _ h
      rw [h1] at h ⊢
      exact stp_nil h
theorem frm_nil {l m : List (Int × Int)} (h : (frm l m).l = []) : frm l m = ⟨0, 0, 0, []⟩ := by
  unfold frm at h ⊢
  have h3 := inn_nil _ _ _ h
  rw [h3] at h ⊢
  have h2 := inn_nil _ _ _ h
  rw [h2] at h ⊢
  have h1 := inn_nil _ _ _ h
  rw [h1] at h ⊢
  exact inn_nil _ _ _ h

def ckM (l m : List (Int × Int)) : Int := fnz [fnz [cond ((l.length : Int) == 0) 12 0, cond (decide (8 < (l.length : Int))) 5 0], fnz (l.map fun p => ckP p.1 p.2), cond ((m.length : Int) != l.length) 2 0, fnz (m.map fun p => ckP p.1 p.2)]
theorem ckM_ok {l m : List (Int × Int)} (h : ckM l m = 0) : l ≠ [] ∧ l.length ≤ 8 ∧ l.length = m.length ∧ (∀ p ∈ l, bnd 1000 p) ∧ (∀ p ∈ m, bnd 1000 p) := by
  unfold ckM at h
  have h := fnz_zeroy.1 h
  have h1 := fnz_zeroy.1 (h _ (List.mem_cons_self ..))
  have h2 := fnz_zeroy.1 (h (fnz (l.map fun p => ckP p.1 p.2)) (by simp))
  have h3 := h (cond ((m.length : Int) != l.length) 2 0) (by simp)
  have h4 := fnz_zeroy.1 (h (fnz (m.map fun p => ckP p.1 p.2)) (by simp))
  have h5 := h1 (cond ((l.length : Int) == 0) 12 0) (by simp)
  have h6 := h1 (cond (decide (8 < (l.length : Int))) 5 0) (by simp)
  refine ⟨fun e => ?_, ?_, ?_, fun p hp => ckP_bnd (h2 _ (List.mem_map.2 ⟨p, hp, rfl⟩)), fun p hp => ckP_bnd (h4 _ (List.mem_map.2 ⟨p, hp, rfl⟩))⟩
  · rw [e] at h5; simp at h5
  · by_cases hc : 8 < (l.length : Int)
    · simp [hc] at h6
    · omega
  · by_cases hc : (m.length : Int) = l.length
    · omega
    · have : ((m.length : Int) != l.length) = true := by simpa using hc
      rw [this] at h3; simp at h3

theorem c68 (b c : Bool) (l m : List (Int × Int)) (hl0 : l.length < 1000) (hm0 : m.length < 1000) :
    (lim T).call 68 [.sl b 2 (l.map fun p => .agg [.int .i64 p.1, .int .i64 p.2]), .sl c 2 (m.map fun p => .agg [.int .i64 p.1, .int .i64 p.2])] [] 0 [] =
      some (if ckM l m = 0 then .tup [.agg [.int .i64 (frm l m).n, .int .i64 (frm l m).x, .int .i64 (frm l m).y], slV 1 ((frm l m).l.map fun n => .int .i64 n), .int .i64 (cond (((frm l m).l.length : Int) == 0) 7 0)]
        else .tup [.agg [.int .i64 0, .int .i64 0, .int .i64 0], .sl false 0 [], .int .i64 (ckM l m)], [], 0, []) := by
  rw [ent68]
  have e1 := c112y l.length 8
  have e2 := c141 b l (by omega)
  have e3 := c141 c m (by omega)
  have e4 := fun b => c114y b (l.map fun p => ckP p.1 p.2) (by simp; omega)
  have e5 := fun b => c114y b (m.map fun p => ckP p.1 p.2) (by simp; omega)
  have e6 := c114_4y true (fnz [cond ((l.length : Int) == 0) 12 0, cond (decide (8 < (l.length : Int))) 5 0]) (fnz (l.map fun p => ckP p.1 p.2)) (cond ((m.length : Int) != l.length) 2 0) (fnz (m.map fun p => ckP p.1 p.2))
  rw [show fnz [fnz [cond ((l.length : Int) == 0) 12 0, cond (decide (8 < (l.length : Int))) 5 0], fnz (l.map fun p => ckP p.1 p.2), cond ((m.length : Int) != l.length) 2 0, fnz (m.map fun p => ckP p.1 p.2)] = ckM l m from rfl] at e6
  cases h : (ckM l m != 0)
  · have h0 : ckM l m = 0 := by simpa using h
    rw [if_pos h0]
    obtain ⟨hne, h8, hlm, hl, hq⟩ := ckM_ok h0
    have h1 := idx_out l.length
    have k0 := loop68b b c 0 l m (by omega) hlm (by omega) hl hq 0 (by omega) ⟨0, 0, 0, []⟩
    have k1 := loop68b b c 1 l m (by omega) hlm (by omega) hl hq 0 (by omega)
    have k2 := loop68b b c 2 l m (by omega) hlm (by omega) hl hq 0 (by omega)
    have k3 := loop68b b c 3 l m (by omega) hlm (by omega) hl hq 0 (by omega)
    simp only [List.drop_zero] at k0 k1 k2 k3
    have hfn := frm_nil (l := l) (m := m)
    unfold frm at hfn ⊢
    generalize hs0 : inn 0 l m l m ⟨0, 0, 0, []⟩ = s0 at k0 hfn ⊢
    replace k1 := k1 s0
    generalize hs1 : inn 1 l m l m s0 = s1 at k1 hfn ⊢
    replace k2 := k2 s1
    generalize hs2 : inn 2 l m l m s1 = s2 at k2 hfn ⊢
    replace k3 := k3 s2
    generalize hs3 : inn 3 l m l m s2 = s3 at k3 hfn ⊢
    conv at k0 => lhs; unfold L68b
    simp only [acA_0, acV_n, acR_n, show ((0 : Nat) : Int) = 0 from rfl] at k0
    simp -implicitDefEqProofs only [go_sem, simprocAttr, e1, e2, e3, e4, e5, e6, c115y, h]
    rw [loopEq]
    simp -implicitDefEqProofs only [go_sem, simprocAttr, k0]
    have step : ∀ (k : Int) (s : FrS), 0 ≤ k → k ≤ 2 → L68b b c l m s (acA none s.l) k l.length = L68b b c l m s (acA none s.l) (k + 1) 0 := by
      intro k s hk hk'
      have hk0 : k = 0 ∨ k = 1 ∨ k = 2 := by omega
      conv => lhs; unfold L68b; rw [loopEq]
      conv => rhs; unfold L68b
      rcases none_or_some (l := s.l) with ⟨a1, a2⟩ | ⟨a1, a2⟩
      · rw [a2]
        rcases hk0 with rfl | rfl | rfl
        · simp -implicitDefEqProofs only [go_sem, simprocAttr, h1, wrap64]
          rw [loopEq]
          simp -implicitDefEqProofs only [go_sem, simprocAttr, wrap64]
        · simp -implicitDefEqProofs only [go_sem, simprocAttr, h1, wrap64]
          rw [loopEq]
          simp -implicitDefEqProofs only [go_sem, simprocAttr, wrap64]
        · simp -implicitDefEqProofs only [go_sem, simprocAttr, h1, wrap64]
          rw [loopEq]
          simp -implicitDefEqProofs only [go_sem, simprocAttr, wrap64]
      · rw [a2]
        rcases hk0 with rfl | rfl | rfl
        · simp -implicitDefEqProofs only [go_sem, simprocAttr, h1, wrap64]
          rw [loopEq]
          simp -implicitDefEqProofs only [go_sem, simprocAttr, wrap64]
        · simp -implicitDefEqProofs only [go_sem, simprocAttr, h1, wrap64]
          rw [loopEq]
          simp -implicitDefEqProofs only [go_sem, simprocAttr, wrap64]
        · simp -implicitDefEqProofs only [go_sem, simprocAttr, h1, wrap64]
          rw [loopEq]
          simp -implicitDefEqProofs only [go_sem, simprocAttr, wrap64]
    rw [step 0 s0 (by omega) (by omega), show (0 : Int) + 1 = 1 from rfl, k1, step 1 s1 (by omega) (by omega), show (1 : Int) + 1 = 2 from rfl, k2, step 2 s2 (by omega) (by omega), show (2 : Int) + 1 = 3 from rfl, k3]
    unfold L68b
    rw [loopEq]
    rcases none_or_some (l := s3.l) with ⟨a1, a2⟩ | ⟨a1, a2⟩
    · have := hfn a1
      rw [a2, this]
      simp -implicitDefEqProofs only [go_sem, simprocAttr, h1, wrap64]
      rw [loopEq]
      simp -implicitDefEqProofs only [go_sem, simprocAttr, h1, wrap64, slV]
    · rw [a2]
      have hz : ((s3.l.length : Int) == 0) = false := by
        have : s3.l.length ≠ 0 := fun e => a1 (List.eq_nil_of_length_eq_zero e)
        simp; omega
      have hne : s3.l.map (fun n => V.int .i64 n) ≠ [] := by simpa using a1
      rw [slV_ne _ _ hne]
      simp -implicitDefEqProofs only [go_sem, simprocAttr, h1, wrap64]
      rw [loopEq]
      simp -implicitDefEqProofs only [go_sem, simprocAttr, h1, wrap64, hz]
  · have h0 : ¬ ckM l m = 0 := by simpa using h
    rw [if_neg h0]
    simp -implicitDefEqProofs only [go_sem, simprocAttr, e1, e2, e3, e4, e5, e6, c115y, h]
def thr (n sx sy : Int) (l : List (Int × Int)) : List (Int × Int) := l.map fun p => cry n sx sy p.1 p.2
theorem agr_all (n sx sy : Int) : ∀ (l : List (Int × Int)) (j : Nat), (agr n sx sy j l (thr n sx sy l)).length = l.length := by
  intro l
  induction l with
  | nil => intro j; rfl
  | cons p l ih =>
    intro j
    show (agr n sx sy j (p :: l) (cry n sx sy p.1 p.2 :: thr n sx sy l)).length = _
    rw [agr, if_pos rfl, List.length_cons, ih, List.length_cons]
theorem agr_eq (n sx sy : Int) : ∀ (l m : List (Int × Int)) (j : Nat), l.length = m.length → (agr n sx sy j l m).length = l.length → thr n sx sy l = m := by
  intro l
  induction l with
  | nil => intro m j hm _; cases m with | nil => rfl | cons a b => simp at hm
  | cons p l ih =>
    intro m j hm h
    cases m with
    | nil => simp at hm
    | cons q m =>
      rw [agr] at h
      by_cases hc : cry n sx sy p.1 p.2 = q
      · rw [if_pos hc, List.length_cons, List.length_cons] at h
        show cry n sx sy p.1 p.2 :: thr n sx sy l = q :: m
        rw [hc, ih m (j + 1) (by simpa using hm) (by omega)]
      · rw [if_neg hc] at h
        have := agr_len n sx sy (j + 1) l m
        simp at h
        omega
def JF (l m : List (Int × Int)) (n : Int) (s : FrS) : Prop := s.l.length ≤ l.length ∧ (s.l = [] ∨ (s.l = agr s.n s.x s.y 0 l m ∧ ckF s.n s.x s.y = 0 ∧ s.n ≤ n))
theorem stp_J {l m : List (Int × Int)} {n : Int} {p q : Int × Int} {s : FrS} (h : JF l m n s) : JF l m n (stp n l m p q s) := by
  unfold stp
  split
  · rename_i h1
    split
    · exact ⟨agr_len _ _ _ _ _ _, .inr ⟨rfl, h1, Int.le_refl _⟩⟩
    · exact h
  · exact h
theorem inn_J {l m : List (Int × Int)} {n : Int} : ∀ (ps qs : List (Int × Int)) (s : FrS), JF l m n s → JF l m n (inn n l m ps qs s) := by
  intro ps
  induction ps with
  | nil => intro qs s h; exact h
  | cons p ps ih =>
    intro qs s h
    cases qs with
    | nil => exact h
    | cons q qs => exact ih qs _ (stp_J h)
theorem JF.up {l m : List (Int × Int)} {n n' : Int} {s : FrS} (h : JF l m n s) (hn : n ≤ n') : JF l m n' s :=
  ⟨h.1, h.2.imp id fun ⟨a, b, c⟩ => ⟨a, b, by omega⟩⟩
theorem stp_full {l m : List (Int × Int)} {n : Int} {p q : Int × Int} {s : FrS} (h : s.l.length = l.length) : stp n l m p q s = s := by
  unfold stp
  split
  · rw [if_neg (by have := agr_len n (candX n p q) (candY n p q) 0 l m; omega)]
  · rfl
theorem inn_full {l m : List (Int × Int)} {n : Int} : ∀ (ps qs : List (Int × Int)) (s : FrS), s.l.length = l.length → inn n l m ps qs s = s := by
  intro ps
  induction ps with
  | nil => intro qs s _; rfl
  | cons p ps ih =>
    intro qs s h
    cases qs with
    | nil => rfl
    | cons q qs => rw [inn, stp_full h, ih qs s h]
theorem inn_hit {l : List (Int × Int)} {n sx sy : Int} (hl : l ≠ []) (hf : ckF n sx sy = 0) {s : FrS} (hs : s.l.length ≤ l.length) : (inn n l (thr n sx sy l) l (thr n sx sy l) s).l.length = l.length := by
  cases hc : l with
  | nil => exact absurd hc hl
  | cons p ps =>
    rw [← hc]
    have e : inn n l (thr n sx sy l) l (thr n sx sy l) s = inn n l (thr n sx sy l) ps (thr n sx sy ps) (stp n l (thr n sx sy l) p (cry n sx sy p.1 p.2) s) := by
      conv => lhs; rw [show inn n l (thr n sx sy l) l (thr n sx sy l) s = inn n l (thr n sx sy l) (p :: ps) (cry n sx sy p.1 p.2 :: thr n sx sy ps) s by rw [hc]; rfl]
      rw [inn]
    have hst : (stp n l (thr n sx sy l) p (cry n sx sy p.1 p.2) s).l.length = l.length := by
      have hx : candX n p (cry n sx sy p.1 p.2) = sx := by unfold candX cry; simp only; omega
      have hy : candY n p (cry n sx sy p.1 p.2) = sy := by unfold candY cry; simp only; omega
      unfold stp
      rw [hx, hy, if_pos hf, agr_all]
      split
      · exact agr_all n sx sy l 0
      · omega
    rw [e, inn_full _ _ _ hst, hst]
theorem frm_thr {l : List (Int × Int)} {n sx sy : Int} (hl : l ≠ []) (hn : 0 ≤ n ∧ n ≤ 3) (hf : ckF n sx sy = 0) :
    let g := frm l (thr n sx sy l)
    g.l.length = l.length ∧ ckF g.n g.x g.y = 0 ∧ g.n ≤ n ∧ thr g.n g.x g.y l = thr n sx sy l := by
  have j0 : JF l (thr n sx sy l) 0 ⟨0, 0, 0, []⟩ := ⟨by simp, .inl rfl⟩
  have a0 := inn_J (n := 0) l (thr n sx sy l) _ j0
  have a1 := inn_J (n := 1) l (thr n sx sy l) _ (a0.up (by omega : (0 : Int) ≤ 1))
  have a2 := inn_J (n := 2) l (thr n sx sy l) _ (a1.up (by omega : (1 : Int) ≤ 2))
  have a3 := inn_J (n := 3) l (thr n sx sy l) _ (a2.up (by omega : (2 : Int) ≤ 3))
  have key : ∃ s, frm l (thr n sx sy l) = s ∧ s.l.length = l.length ∧ JF l (thr n sx sy l) n s := by
    have hc : n = 0 ∨ n = 1 ∨ n = 2 ∨ n = 3 := by omega
    unfold frm
    rcases hc with rfl | rfl | rfl | rfl
    · have h := inn_hit hl hf j0.1
      exact ⟨_, by rw [inn_full (n := 1) _ _ _ h, inn_full (n := 2) _ _ _ h, inn_full (n := 3) _ _ _ h], h, a0⟩
    · have h := inn_hit hl hf a0.1
      exact ⟨_, by rw [inn_full (n := 2) _ _ _ h, inn_full (n := 3) _ _ _ h], h, a1⟩
    · have h := inn_hit hl hf a1.1
      exact ⟨_, by rw [inn_full (n := 3) _ _ _ h], h, a2⟩
    · have h := inn_hit hl hf a2.1
      exact ⟨_, rfl, h, a3⟩
  obtain ⟨s, e, h1, h2, h3⟩ := key
  rw [e]
  have hlp : 0 < l.length := List.length_pos_iff.2 hl
  rcases h3 with h3 | ⟨h3, h4, h5⟩
  · rw [h3] at h1; simp at h1; omega
  · refine ⟨h1, h4, h5, agr_eq _ _ _ _ _ 0 (by simp [thr]) ?_⟩
    rw [← h3]; exact h1
theorem carr_cry {n sx sy x y : Int} (hs : bnd 1000000 (sx, sy)) (hp : bnd 1000000 (x, y)) : carr n sx sy x y = cry n sx sy x y := by
  unfold bnd at hs hp
  simp only at hs hp
  unfold carr cry trn tr
  split
  · simp only; rw [wrap64, wrap64] <;> first | omega | rfl
  · split
    · simp only; rw [wrap64 (n := 0 - y) (by omega) (by omega), wrap64, wrap64] <;> omega
    · split
      · simp only; rw [wrap64 (n := 0 - y) (by omega) (by omega), wrap64 (n := 0 - x) (by omega) (by omega), wrap64, wrap64] <;> omega
      · simp only; rw [wrap64 (n := 0 - x) (by omega) (by omega), wrap64, wrap64] <;> omega
theorem back_cry {n sx sy x y : Int} (hn : 0 ≤ n ∧ n ≤ 3) (hs : bnd 1000000 (sx, sy)) (hp : bnd 1000000 (x, y)) :
    trn ((4 - n) % 4) (IntKind.i64.wrap ((cry n sx sy x y).1 - sx)) (IntKind.i64.wrap ((cry n sx sy x y).2 - sy)) = (x, y) := by
  unfold bnd at hs hp
  simp only at hs hp
  have hc : n = 0 ∨ n = 1 ∨ n = 2 ∨ n = 3 := by omega
  have a1 : IntKind.i64.wrap ((cry n sx sy x y).1 - sx) = (tr n x y).1 := by
    have : (cry n sx sy x y).1 - sx = (tr n x y).1 := by unfold cry; simp only; omega
    rw [this, wrap64]
    all_goals (unfold tr; repeat' split) <;> simp only <;> omega
  have a2 : IntKind.i64.wrap ((cry n sx sy x y).2 - sy) = (tr n x y).2 := by
    have : (cry n sx sy x y).2 - sy = (tr n x y).2 := by unfold cry; simp only; omega
    rw [this, wrap64]
    all_goals (unfold tr; repeat' split) <;> simp only <;> omega
  rw [a1, a2]
  rcases hc with rfl | rfl | rfl | rfl
  · simp [trn, tr]
  · simp only [trn, tr]; simp; rw [wrap64] <;> omega
  · simp only [trn, tr]; simp; rw [wrap64, wrap64] <;> first | omega | simp
  · simp only [trn, tr]; simp; rw [wrap64] <;> omega
def sameP (a x : Int × Int) : Bool := a.1 == x.1 && a.2 == x.2
def hasP (x : Int × Int) (l : List (Int × Int)) : Bool := l.any fun a => sameP a x
theorem loop91 (x : Int × Int) (b : Bool) (l : List (Int × Int)) (hb : l.length < 1000000) : ∀ i, i ≤ l.length → (lim T).loop false [.code (.loop b91_0), .inBlock 0, .code (.seq r91_6 .ret)] ⟨91, 18, 0, [(0, .sl b 2 (l.map ptV)), (3, .ptr 0 0 0), (5, .int .i64 i)], [.cells true true 100 [ptV x]], 0, []⟩ =
    some (.ret (.bool (hasP x (l.drop i))), [], 0, []) := by
  refine down_ind l.length ?_ fun i hi ih => ?_
  · have h1 := idx_out l.length
    rw [loopEq, List.drop_of_length_le (Nat.le_refl _)]
    simp -implicitDefEqProofs only [go_sem, simprocAttr, h1]
    rfl
  · obtain ⟨h1, h2, h3, h4, h5⟩ := idx_in hi (by omega)
    rw [loopEq, h5]
    simp only [hasP, List.any_cons] at ih ⊢
    cases h6 : sameP l[i] x
    · simp only [Bool.false_or]
      rw [← ih]
      unfold sameP at h6
      simp -implicitDefEqProofs only [go_sem, simprocAttr, h1, h2, h3, h4, h6]
    · simp only [Bool.true_or]
      unfold sameP at h6
      simp -implicitDefEqProofs only [go_sem, simprocAttr, h1, h2, h3, h4, h6]
theorem c91 (x : Int × Int) (b : Bool) (l : List (Int × Int)) (hb : l.length < 1000000) : (lim T).call 91 [.sl b 2 (l.map ptV), .agg [.int .i64 x.1, .int .i64 x.2]] [] 0 [] = some (.bool (hasP x l), [], 0, []) := by
  rw [ent91]
  have h := loop91 x b l hb 0 (by omega)
  rw [show ((0 : Nat) : Int) = 0 from rfl, List.drop_zero] at h
  simp only [ptV] at h
  simp -implicitDefEqProofs only [go_sem, simprocAttr, h]
theorem hasP_mem {x : Int × Int} {l : List (Int × Int)} (h : x ∈ l) : hasP x l = true := by
  unfold hasP
  rw [List.any_eq_true]
  exact ⟨x, h, by unfold sameP; simp⟩
end Go.Den.FaT
namespace Go.Den.FaU
open Go Go.Proofs Go.Den Go.Den.FaT Go.Den.FaF
@[go_sem] theorem e2_47 (vs : List V) : den2 FaT.T 47 vs = shArgs FaT.T [48] vs fun r => need (pureL r) (den FaT.T 47 r) := den2_eq (fn := Tryz.f47) (by kernel_rfl) (by kernel_rfl) vs
@[go_sem] theorem e2_66 (vs : List V) : den2 FaT.T 66 vs = shArgs FaT.T [106, 100] vs fun r => need (pureL r) (den FaT.T 66 r) := den2_eq (fn := Tryz.f66) (by kernel_rfl) (by kernel_rfl) vs
@[go_sem] theorem e2_67 (vs : List V) : den2 FaT.T 67 vs = shArgs FaT.T [106, 100] vs fun r => need (pureL r) (den FaT.T 67 r) := den2_eq (fn := Tryz.f67) (by kernel_rfl) (by kernel_rfl) vs
@[go_sem] theorem e2_68 (vs : List V) : den2 FaT.T 68 vs = shArgs FaT.T [48, 48] vs fun r => need (pureL r) (den FaT.T 68 r) := den2_eq (fn := Tryz.f68) (by kernel_rfl) (by kernel_rfl) vs
@[go_sem] theorem e2_69 (vs : List V) : den2 FaT.T 69 vs = shArgs FaT.T [102] vs fun r => need (pureL r) (den FaT.T 69 r) := den2_eq (fn := Tryz.f69) (by kernel_rfl) (by kernel_rfl) vs
@[go_sem] theorem e2_70 (vs : List V) : den2 FaT.T 70 vs = shArgs FaT.T [100] vs fun r => need (pureL r) (den FaT.T 70 r) := den2_eq (fn := Tryz.f70) (by kernel_rfl) (by kernel_rfl) vs
@[go_sem] theorem e2_90 (vs : List V) : den2 FaT.T 90 vs = shArgs FaT.T [3, 3, 3] vs fun r => need (pureL r) (den FaT.T 90 r) := den2_eq (fn := Tryz.f90) (by kernel_rfl) (by kernel_rfl) vs
@[go_sem] theorem e2_91 (vs : List V) : den2 FaT.T 91 vs = shArgs FaT.T [48, 100] vs fun r => need (pureL r) (den FaT.T 91 r) := den2_eq (fn := Tryz.f91) (by kernel_rfl) (by kernel_rfl) vs
theorem d90 (n a b : Int) : den FaT.T 90 [.int .i64 n, .int .i64 a, .int .i64 b] = some (.int .i64 (rng n a b)) := de (fn := Tryz.f90) (by kernel_rfl) (by kernel_rfl) (by kernel_rfl) (c90 n a b)
theorem d91 (x : Int × Int) (b : Bool) (l : List (Int × Int)) (hb : l.length < 1000000) : den FaT.T 91 [.sl b 2 (l.map ptV), .agg [.int .i64 x.1, .int .i64 x.2]] = some (.bool (hasP x l)) := de (fn := Tryz.f91) (by kernel_rfl) (by kernel_rfl) (by kernel_rfl) (c91 x b l hb)
theorem d69 (n x y : Int) : den FaT.T 69 [.agg [.int .i64 n, .int .i64 x, .int .i64 y]] = some (.int .i64 (ckF n x y)) := de (fn := Tryz.f69) (by kernel_rfl) (by kernel_rfl) (by kernel_rfl) (c69 n x y)
theorem d70 (x y : Int) : den FaT.T 70 [.agg [.int .i64 x, .int .i64 y]] = some (.int .i64 (ckP x y)) := de (fn := Tryz.f70) (by kernel_rfl) (by kernel_rfl) (by kernel_rfl) (c70 x y)
theorem d47 (b : Bool) (l : List (Int × Int)) (hl : l.length < 1000000) : den FaT.T 47 [.sl b 2 (l.map ptV)] = some (.sl true 2 (l.map ptV)) := de (fn := Tryz.f47) (by kernel_rfl) (by kernel_rfl) (by kernel_rfl) (c47 b l hl)
theorem d66 {n sx sy : Int} {p : Int × Int} (hf : ckF n sx sy = 0) (hp : bnd 1000 p) : den FaT.T 66 [.agg [.int .i64 n, .int .i64 sx, .int .i64 sy], .agg [.int .i64 p.1, .int .i64 p.2]] = some (.tup [.agg [.int .i64 (cry n sx sy p.1 p.2).1, .int .i64 (cry n sx sy p.1 p.2).2], .int .i64 0]) := by
  have hs := ckF_bnd hf
  have hk : ckP p.1 p.2 = 0 := by
    unfold bnd at hp
    have r1 : rng p.1 (-1000) 1000 = 0 := by rw [rng_eq, if_neg (by omega)]
    have r2 : rng p.2 (-1000) 1000 = 0 := by rw [rng_eq, if_neg (by omega)]
    simp only [ckP, r1, r2]
    rfl
  have h0 : fnz [ckF n sx sy, ckP p.1 p.2] = 0 := by rw [hf, hk]; rfl
  have h := c66 n sx sy p.1 p.2
  rw [if_pos h0, carr_cry (bnd_mono (by omega) hs.2) (bnd_mono (by omega) (show bnd 1000 (p.1, p.2) from hp))] at h
  exact de (fn := Tryz.f66) (by kernel_rfl) (by kernel_rfl) (by kernel_rfl) h
theorem d67 {n sx sy : Int} {p : Int × Int} (hf : ckF n sx sy = 0) (hp : bnd 1000 p) (hc : ckP (cry n sx sy p.1 p.2).1 (cry n sx sy p.1 p.2).2 = 0) : den FaT.T 67 [.agg [.int .i64 n, .int .i64 sx, .int .i64 sy], .agg [.int .i64 (cry n sx sy p.1 p.2).1, .int .i64 (cry n sx sy p.1 p.2).2]] = some (.tup [.agg [.int .i64 p.1, .int .i64 p.2], .int .i64 0]) := by
  have hs := ckF_bnd hf
  have h0 : fnz [ckF n sx sy, ckP (cry n sx sy p.1 p.2).1 (cry n sx sy p.1 p.2).2] = 0 := by rw [hf, hc]; rfl
  have h := c67 n sx sy (cry n sx sy p.1 p.2).1 (cry n sx sy p.1 p.2).2
  rw [if_pos h0, back_cry hs.1 (bnd_mono (by omega) hs.2) (bnd_mono (by omega) (show bnd 1000 (p.1, p.2) from hp))] at h
  exact de (fn := Tryz.f67) (by kernel_rfl) (by kernel_rfl) (by kernel_rfl) h
theorem d68 (b c : Bool) (l m : List (Int × Int)) (hl0 : l.length < 1000) (hm0 : m.length < 1000) (hk : ckM l m = 0) (hn : ¬ (frm l m).l.length = 0) :
    den FaT.T 68 [.sl b 2 (l.map ptV), .sl c 2 (m.map ptV)] = some (.tup [.agg [.int .i64 (frm l m).n, .int .i64 (frm l m).x, .int .i64 (frm l m).y], slV 1 ((frm l m).l.map intV), .int .i64 0]) := by
  have h := c68 b c l m hl0 hm0
  rw [if_pos hk, show (((frm l m).l.length : Int) == 0) = false by simpa using hn] at h
  exact de (fn := Tryz.f68) (by kernel_rfl) (by kernel_rfl) (by kernel_rfl) h
def k12_7 : Code := r12_76.seq .ret
def k12_6 : Code := ((r12_64.seq (.cond (.tmp 343) (r12_65.seq .ret) .skip)).seq (r12_66.seq ((r12_67.seq (.cond (.tmp 374) (r12_68.seq .ret) .skip)).seq ((r12_69.seq (.block 14 (.loop b12_7))).seq k12_7))))
def k12_5 : Code := ((r12_49.seq (.cond (.tmp 288) (r12_50.seq .ret) .skip)).seq (r12_51.seq (r12_52.seq ((r12_53.seq (.block 12 (.loop b12_6))).seq k12_6))))
def k12_3 : Code := ((r12_44.seq (.block 10 (.loop b12_5))).seq k12_5)
def k12_1 : Code := r12_20.seq (r12_21.seq (r12_22.seq (r12_23.seq ((r12_24.seq (.cond (.tmp 175) (r12_25.seq .ret) .skip)).seq (r12_26.seq (r12_27.seq ((r12_28.seq (.block 6 (.loop b12_3))).seq k12_3)))))))
def k12_0 : Code := r12_9.seq (r12_10.seq ((r12_11.seq (.block 2 (.loop b12_1))).seq k12_1))
def arV (a b c d : Int) : V := .agg [.int .i16 a, .int .i16 b, .int .i16 c, .int .i16 d]
def Y0 (p : Pc) (a b c d : Int) (z : Bool) (ms : List (Int × Int)) (i : Nat) : Option Out :=
  (lim T).loop false [.code (.loop b12_0), .inBlock 0, .code k12_0]
    ⟨12, 400, 0, [(2, .sl z 2 (ms.map ptV)), (3, .ptr 0 0 0), (4, .ptr 1 0 0), (60, .sl z 2 (ms.map ptV)), (61, .int .i64 ms.length), (62, .int .i64 i)], [.cells true true 82 [pcV p], .cells true true 148 [arV a b c d]], 0, []⟩
theorem Y0_eq (aw : (lim FaT.T).call 16 [] [] 0 [] = some (.bool true, [], 0, [])) (p : Pc) (a b c d : Int) (z : Bool) (ms : List (Int × Int)) (hm : ms.length ≤ 6) : ∀ i, i ≤ ms.length →
    Y0 p a b c d z ms i = some (.ret (.bool true), [], 0, []) ∨ ((∀ m ∈ ms.drop i, bnd 100 m) ∧ Y0 p a b c d z ms i = Y0 p a b c d z ms ms.length) := by
  have a1 := d16 aw
  refine down_ind ms.length ?_ fun i hi ih => ?_
  · exact .inr ⟨by simp, rfl⟩
  · obtain ⟨h1, h2, h3, h4, h5⟩ := idx_in hi (by omega)
    rw [h5]
    have b1 := d90 ms[i].1 (-100) 100
    have b2 := d90 ms[i].2 (-100) 100
    cases h6 : (rng ms[i].1 (-100) 100 != 0)
    · cases h7 : (rng ms[i].2 (-100) 100 != 0)
      · have e : Y0 p a b c d z ms i = Y0 p a b c d z ms (i + 1) := by
          conv => lhs; unfold Y0; rw [loopEq]
          unfold Y0
          simp -implicitDefEqProofs only [go_sem, simprocAttr, h1, h2, h3, h4, b1, b2, h6, h7, a1, ptV]
        have g1 := rng_in (show rng ms[i].1 (-100) 100 = 0 by simpa using h6)
        have g2 := rng_in (show rng ms[i].2 (-100) 100 = 0 by simpa using h7)
        rcases ih with ih | ⟨ih1, ih2⟩
        · exact .inl (e.trans ih)
        · refine .inr ⟨?_, e.trans ih2⟩
          intro m hm'
          rcases List.mem_cons.1 hm' with rfl | hm'
          · unfold bnd; omega
          · exact ih1 m hm'
      · refine .inl ?_
        unfold Y0
        rw [loopEq]
        simp -implicitDefEqProofs only [go_sem, simprocAttr, h1, h2, h3, h4, b1, b2, h6, h7, a1, ptV]
    · refine .inl ?_
      unfold Y0
      rw [loopEq]
      simp -implicitDefEqProofs only [go_sem, simprocAttr, h1, h2, h3, h4, b1, b2, h6, a1, ptV]
def mxa (a : Int) : Int := if 0 < IntKind.i64.wrap a then IntKind.i64.wrap a else 0
theorem bi_max0 (t u : Nat) (b : Int) (k : V → Prog) : builtinP T .max [t, u] [.int .i64 0, .int .i64 (IntKind.i64.wrap b)] k = k (.int .i64 (mxa b)) := rfl
def riseA (a : Int) : Int := 1 + (mxa a).tmod 2000
theorem mxa_b (a : Int) : 0 ≤ mxa a := by unfold mxa; split <;> omega
theorem rise_b (a : Int) : 1 ≤ riseA a ∧ riseA a ≤ 2000 := by
  have h1 := Int.tmod_nonneg (a := mxa a) 2000 (mxa_b a)
  have h2 := Int.tmod_lt_of_pos (mxa a) (show (0 : Int) < 2000 by omega)
  unfold riseA; omega
theorem rise_w (a : Int) : IntKind.i64.wrap (1 + (mxa a).tmod 2000) = riseA a := by
  have := rise_b a
  unfold riseA at *
  rw [wrap64] <;> omega
def Y1 (p : Pc) (n a b c d : Int) (z : Bool) (ms : List (Int × Int)) (o : V) (x : Nat) : Option Out :=
  (lim T).loop false [.code (.loop b12_1), .inBlock 2, .code k12_1]
    ⟨12, 400, 0, [(2, .sl z 2 (ms.map ptV)), (3, .ptr 0 0 0), (4, .ptr 1 0 0), (9, .int .i64 n), (10, .ptr 2 0 0), (90, .int .i64 p.w), (91, .int .i64 x)],
      [.cells true true 82 [pcV p], .cells true true 148 [arV a b c d], .cells true true 82 [.agg [.int .i64 p.h, .int .i64 p.w, o]]], 0, []⟩
theorem Y0_end (p : Pc) (a b c d : Int) (z : Bool) (ms : List (Int × Int)) (hm : ms.length ≤ 6) : Y0 p a b c d z ms ms.length = Y1 p (riseA a) a b c d z ms (.sl false 0 []) 0 := by
  have h1 := idx_out ms.length
  unfold Y0
  rw [loopEq]
  unfold Y1
  rw [show ((0 : Nat) : Int) = 0 from rfl]
  simp only [k12_0, pcV, arV]
  simp -implicitDefEqProofs only [go_sem, simprocAttr, h1, bi_max0, rise_w]
def tR (W H : Nat) : Option (List Nat) → List Row
  | none => [.cells true true 82 [.agg [.int .i64 H, .int .i64 W, .sl false 0 []]]]
  | some t => [.cells true false 82 [.agg [.int .i64 H, .int .i64 W, .ref 3]], .cells false true 150 (t.map fV)]
def oT (l : List Nat) : Nat → Option (List Nat)
  | 0 => none
  | k + 1 => some (l.take (k + 1))
theorem oT_s (l : List Nat) {k : Nat} (hk : k < l.length) : oT l (k + 1) = acA (oT l k) [l[k]] := by
  cases k with
  | zero => cases l with | nil => simp at hk | cons a r => rfl
  | succ k =>
    show some (l.take (k + 1 + 1)) = some (l.take (k + 1) ++ [l[k + 1]])
    rw [List.take_succ_eq_append_getElem hk]
def Y2 (W H : Nat) (q : Bool) (l : List Nat) (n a b c d : Int) (z : Bool) (ms : List (Int × Int)) (o : Option (List Nat)) (x y : Nat) : Option Out :=
  (lim T).loop false [.code (.loop b12_2), .inBlock 4, .inBlock 3, .code r12_19, .inLoop b12_1, .inBlock 2, .code k12_1]
    ⟨12, 400, 0, [(2, .sl z 2 (ms.map ptV)), (3, .ptr 0 0 0), (4, .ptr 1 0 0), (9, .int .i64 n), (10, .ptr 2 0 0), (11, .int .i64 x), (90, .int .i64 W), (91, .int .i64 x), (95, .int .i64 H), (96, .int .i64 y)],
      .cells true true 82 [pcV ⟨W, H, q, l⟩] :: .cells true true 148 [arV a b c d] :: tR W H o, 0, []⟩
def Q1 (W H : Nat) (q : Bool) (l : List Nat) (n a b c d : Int) (z : Bool) (ms : List (Int × Int)) (o : Option (List Nat)) (x : Nat) : Option Out :=
  (lim T).loop false [.code (.loop b12_1), .inBlock 2, .code k12_1]
    ⟨12, 400, 0, [(2, .sl z 2 (ms.map ptV)), (3, .ptr 0 0 0), (4, .ptr 1 0 0), (9, .int .i64 n), (10, .ptr 2 0 0), (90, .int .i64 W), (91, .int .i64 x)],
      .cells true true 82 [pcV ⟨W, H, q, l⟩] :: .cells true true 148 [arV a b c d] :: tR W H o, 0, []⟩
theorem turn_len (W H : Nat) (l : List Nat) : (turnL W H l).length = W * H := by simp [turnL]
theorem xy_lt {W H x y : Nat} (hx : x < W) (hy : y < H) : x * H + y < W * H ∧ y * W + (W - 1 - x) < W * H := by
  have h1 : (x + 1) * H ≤ W * H := Nat.mul_le_mul_right _ hx
  have h2 : (y + 1) * W ≤ H * W := Nat.mul_le_mul_right _ hy
  rw [Nat.add_mul] at h1 h2
  rw [Nat.mul_comm H W] at h2
  omega
theorem turn_get {W H : Nat} {l : List Nat} (hl : l.length = W * H) {x y : Nat} (hx : x < W) (hy : y < H) (hk : x * H + y < (turnL W H l).length) (hj : y * W + (W - 1 - x) < l.length) : (turnL W H l)[x * H + y] = l[y * W + (W - 1 - x)] := by
  have e : (turnL W H l)[x * H + y]? = some (l.getD (trn W H (x * H + y)) 0) := by
    unfold turnL
    rw [List.getElem?_map, List.getElem?_range (xy_lt hx hy).1]
    rfl
  rw [List.getElem?_eq_getElem hk] at e
  rw [Option.some.inj e]
  unfold trn
  have e1 : (x * H + y) % H = y := by rw [Nat.add_comm, Nat.add_mul_mod_self_right, Nat.mod_eq_of_lt hy]
  have e2 : (x * H + y) / H = x := by rw [Nat.add_comm, Nat.add_mul_div_right _ _ (by omega), Nat.div_eq_of_lt hy, Nat.zero_add]
  rw [e1, e2, List.getD_eq_getElem?_getD, List.getElem?_eq_getElem hj]
  rfl
theorem Y2_step {W H : Nat} (hW : W ≤ 16) (hH : H ≤ 16) (q : Bool) {l : List Nat} (hl : l.length = W * H) (n a b c d : Int) (z : Bool) (ms : List (Int × Int)) {x y : Nat} (hx : x < W) (hy : y < H) :
    Y2 W H q l n a b c d z ms (oT (turnL W H l) (x * H + y)) x y = Y2 W H q l n a b c d z ms (oT (turnL W H l) (x * H + y + 1)) x (y + 1) := by
  obtain ⟨q1, q2⟩ := xy_lt hx hy
  have hWH : W * H ≤ 16 * 16 := Nat.mul_le_mul hW hH
  have hyW : y * W ≤ 16 * 16 := Nat.mul_le_mul (by omega) hW
  have hk : x * H + y < (turnL W H l).length := by rw [turn_len]; exact q1
  have hj : y * W + (W - 1 - x) < l.length := by rw [hl]; exact q2
  rw [oT_s _ hk, turn_get hl hx hy hk hj]
  have h1 : decide ((y : Int) < (H : Int)) = true := decide_eq_true (by omega)
  have h2 : IntKind.i64.wrap ((y : Int) + 1) = ((y + 1 : Nat) : Int) := by rw [wrap64] <;> omega
  have e0 : (y : Int) * (W : Int) = ((y * W : Nat) : Int) := by simp
  have e1 : IntKind.i64.wrap (IntKind.i64.wrap (IntKind.i64.wrap (IntKind.i64.wrap ((y : Int) * (W : Int)) + W) - 1) - x) = ((y * W + (W - 1 - x) : Nat) : Int) := by
    rw [e0]
    generalize y * W = m at *
    rw [wrap64 (n := (m : Int)) (by omega) (by omega), wrap64 (n := (m : Int) + W) (by omega) (by omega), wrap64 (n := (m : Int) + W - 1) (by omega) (by omega), wrap64] <;> omega
  have h3 : decide (0 ≤ ((y * W + (W - 1 - x) : Nat) : Int) ∧ ((y * W + (W - 1 - x) : Nat) : Int) < (l.length : Int)) = true := decide_eq_true (by omega)
  have h4 : l[y * W + (W - 1 - x)]? = some l[y * W + (W - 1 - x)] := List.getElem?_eq_getElem hj
  have h9 := row_ok (n := 0) (by omega)
  generalize l[y * W + (W - 1 - x)] = v at *
  generalize y * W + (W - 1 - x) = j at *
  have hkl : x * H + y < 1000 := by omega
  generalize x * H + y = k at *
  cases k with
  | zero =>
    unfold Y2
    conv => lhs; rw [loopEq]
    simp only [pcV, arV, oT, tR, acA_n, List.map_cons, List.map_nil]
    simp -implicitDefEqProofs only [go_sem, simprocAttr, h1, h2, e1, h3, h4, fV, h9.2]
  | succ k =>
    have h10 : ((turnL W H l).take (k + 1)).length = k + 1 := by rw [List.length_take]; omega
    have h8 := row_ok (n := ((turnL W H l).take (k + 1)).length) (by omega)
    unfold Y2
    conv => lhs; rw [loopEq]
    simp only [oT, acA_s]
    generalize (turnL W H l).take (k + 1) = t at *
    simp only [pcV, arV, tR, acA_s, List.map_append, List.map_cons, List.map_nil]
    simp -implicitDefEqProofs only [go_sem, simprocAttr, h1, h2, e1, h3, h4, fV, h8.1, h8.2]
theorem Y2_all {W H : Nat} (hW : W ≤ 16) (hH : H ≤ 16) (q : Bool) {l : List Nat} (hl : l.length = W * H) (n a b c d : Int) (z : Bool) (ms : List (Int × Int)) {x : Nat} (hx : x < W) : ∀ y, y ≤ H →
    Y2 W H q l n a b c d z ms (oT (turnL W H l) (x * H + y)) x y = Y2 W H q l n a b c d z ms (oT (turnL W H l) (x * H + H)) x H := by
  refine down_ind H rfl fun y hy ih => ?_
  rw [Y2_step hW hH q hl n a b c d z ms hx hy, ← ih]
  rfl
theorem Q1_step {W H : Nat} (hW : W ≤ 16) (hH : H ≤ 16) (q : Bool) {l : List Nat} (hl : l.length = W * H) (n a b c d : Int) (z : Bool) (ms : List (Int × Int)) {x : Nat} (hx : x < W) :
    Q1 W H q l n a b c d z ms (oT (turnL W H l) (x * H)) x = Q1 W H q l n a b c d z ms (oT (turnL W H l) ((x + 1) * H)) (x + 1) := by
  have h1 : decide ((x : Int) < (W : Int)) = true := decide_eq_true (by omega)
  have h2 : IntKind.i64.wrap ((x : Int) + 1) = ((x + 1 : Nat) : Int) := by rw [wrap64] <;> omega
  have h3 := idx_out H
  have e := Y2_all hW hH q hl n a b c d z ms hx 0 (by omega)
  rw [Nat.add_zero] at e
  have e2 : Q1 W H q l n a b c d z ms (oT (turnL W H l) (x * H)) x = Y2 W H q l n a b c d z ms (oT (turnL W H l) (x * H)) x 0 := by
    generalize oT (turnL W H l) (x * H) = o
    unfold Q1
    rw [loopEq]
    unfold Y2
    rw [show ((0 : Nat) : Int) = 0 from rfl]
    cases o with
    | none =>
      simp only [pcV, arV, tR]
      simp -implicitDefEqProofs only [go_sem, simprocAttr, h1]
    | some t =>
      simp only [pcV, arV, tR]
      simp -implicitDefEqProofs only [go_sem, simprocAttr, h1]
  rw [e2, e, show x * H + H = (x + 1) * H by rw [Nat.add_mul, Nat.one_mul]]
  generalize oT (turnL W H l) ((x + 1) * H) = o
  unfold Y2
  rw [loopEq]
  unfold Q1
  cases o with
  | none =>
    simp only [pcV, arV, tR]
    simp -implicitDefEqProofs only [go_sem, simprocAttr, h3, h2]
  | some t =>
    simp only [pcV, arV, tR]
    simp -implicitDefEqProofs only [go_sem, simprocAttr, h3, h2]
theorem Q1_all {W H : Nat} (hW : W ≤ 16) (hH : H ≤ 16) (q : Bool) {l : List Nat} (hl : l.length = W * H) (n a b c d : Int) (z : Bool) (ms : List (Int × Int)) : ∀ x, x ≤ W →
    Q1 W H q l n a b c d z ms (oT (turnL W H l) (x * H)) x = Q1 W H q l n a b c d z ms (oT (turnL W H l) (W * H)) W := by
  refine down_ind W rfl fun x hx ih => ?_
  rw [Q1_step hW hH q hl n a b c d z ms hx, ← ih]
def kvI (p : Int × Int) : V × V := (.int .i64 p.1, .int .i64 p.2)
theorem eq3 (a b : Int) : eqT T 5 3 (.int .i64 a) (.int .i64 b) = some (a == b) := by
  simp -implicitDefEqProofs only [go_sem, simprocAttr]
theorem key3 (a : Int) : keyOk T 3 3 (.int .i64 a) = true := by kernel_rfl
def gt : List (Int × Int) → Int → Option Int
  | [], _ => none
  | (a, b) :: r, k => if k = a then some b else gt r k
def vl (D : List (Int × Int)) (k : Int) : Int := (gt D k).getD 0
def ins : List (Int × Int) → Int → Int → List (Int × Int)
  | [], k, v => [(k, v)]
  | (a, b) :: r, k, v => if k = a then (k, v) :: r else (a, b) :: ins r k v
theorem mapGet3 (k : Int) : ∀ D : List (Int × Int), mapGet (eqT T 5 3) (D.map kvI) (.int .i64 k) = some ((gt D k).map fun v => .int .i64 v)
  | [] => rfl
  | (a, b) :: r => by
    simp only [List.map_cons, kvI, mapGet, eq3, gt]
    by_cases h : k = a
    · rw [if_pos h, show (k == a) = true by simpa using h]; rfl
    · rw [if_neg h, show (k == a) = false by simpa using h]
      exact mapGet3 k r
theorem mapSet3 (k v : Int) : ∀ D : List (Int × Int), mapSet (eqT T 5 3) (D.map kvI) (.int .i64 k) (.int .i64 v) = some ((ins D k v).map kvI)
  | [] => rfl
  | (a, b) :: r => by
    simp only [List.map_cons, kvI, mapSet, eq3, ins]
    by_cases h : k = a
    · subst h
      rw [if_pos rfl, show (k == k) = true by simp]
      simp only [sameB, sameC, decide_true, Bool.true_and, beq_self_eq_true, List.map_cons, kvI]
    · rw [if_neg h, show (k == a) = false by simpa using h]
      have ih := mapSet3 k v r
      simp only [ih, List.map_cons, kvI]
theorem gt_ins (k v k' : Int) : ∀ D, gt (ins D k v) k' = if k' = k then some v else gt D k'
  | [] => by simp only [ins, gt]
  | (a, b) :: r => by
    simp only [ins]
    by_cases h : k = a
    · rw [if_pos h]
      simp only [gt]
      subst h
      by_cases h2 : k' = k
      · rw [if_pos h2]; simp [h2]
      · simp [h2]
    · rw [if_neg h]
      simp only [gt, gt_ins k v k' r]
      by_cases h2 : k' = a
      · have h3 : ¬ k' = k := fun e => h (e.symm.trans h2)
        simp [h2, show ¬ a = k from fun e => h e.symm]
      · simp [h2]
theorem vl_ins (D : List (Int × Int)) (k v k' : Int) : vl (ins D k v) k' = if k' = k then v else vl D k' := by
  unfold vl
  rw [gt_ins]
  split <;> rfl
theorem ins_keys (k v : Int) : ∀ D : List (Int × Int), ∀ x ∈ (ins D k v).map (·.1), x = k ∨ x ∈ D.map (·.1)
  | [], x, h => by simp [ins] at h; exact .inl h
  | (a, b) :: r, x, h => by
    simp only [ins] at h
    split at h
    · rename_i e
      simp only [List.map_cons, List.mem_cons] at h ⊢
      rcases h with h | h
      · exact .inl h
      · exact .inr (.inr h)
    · simp only [List.map_cons, List.mem_cons] at h ⊢
      rcases h with h | h
      · exact .inr (.inl h)
      · rcases ins_keys k v r x h with h | h
        · exact .inl h
        · exact .inr (.inr h)
def Nk (D : List (Int × Int)) : Prop := (D.map (·.1)).Pairwise (· ≠ ·)
theorem Nk_ins (k v : Int) : ∀ D : List (Int × Int), Nk D → Nk (ins D k v)
  | [], _ => by simp [ins, Nk]
  | (a, b) :: r, h => by
    unfold Nk at h ⊢
    simp only [List.map_cons, List.pairwise_cons] at h
    simp only [ins]
    split
    · rename_i e
      subst e
      simp only [List.map_cons, List.pairwise_cons]
      exact h
    · rename_i e
      simp only [List.map_cons, List.pairwise_cons]
      refine ⟨fun x hx => ?_, Nk_ins k v r h.2⟩
      rcases ins_keys k v r x hx with h' | h'
      · subst h'; exact fun e' => e e'.symm
      · exact h.1 x h'
theorem vl_mem : ∀ {D : List (Int × Int)}, Nk D → ∀ {k v : Int}, (k, v) ∈ D → vl D k = v
  | [], _, _, _, h => by cases h
  | (a, b) :: r, hn, k, v, h => by
    unfold Nk at hn
    simp only [List.map_cons, List.pairwise_cons] at hn
    rcases List.mem_cons.1 h with h | h
    · cases h
      unfold vl gt
      rw [if_pos rfl]; rfl
    · have hne : ¬ k = a := fun e => hn.1 k (List.mem_map.2 ⟨(k, v), h, rfl⟩) e.symm
      have := vl_mem (D := r) hn.2 h
      unfold vl gt
      rw [if_neg hne]
      exact this
theorem allV0 {D : List (Int × Int)} (h : Nk D) (h0 : ∀ k, vl D k = 0) : allV (D.map kvI) = some (.int .i64 0) := by
  have key : ∀ e ∈ D, e.2 = 0 := fun e he => by rw [← vl_mem h (k := e.1) (v := e.2) he]; exact h0 _
  cases D with
  | nil => rfl
  | cons e r =>
    obtain ⟨a, b⟩ := e
    have hb : b = 0 := key (a, b) (List.mem_cons_self ..)
    subst hb
    simp only [List.map_cons, kvI, allV]
    split
    · rfl
    · rename_i hc
      refine absurd (List.all_eq_true.2 fun x hx => ?_) (Bool.eq_false_iff.1 hc)
      obtain ⟨y, hy, rfl⟩ := List.mem_map.1 hx
      have := key y (List.mem_cons_of_mem _ hy)
      simp only [kvI, this]
      rfl
structure SpOk (hot : List (Int × Int)) (S S' : List ((Int × Int) × Int)) : Prop where
  mem : ∀ s ∈ S, s.1 ∈ hot ∧ 1 ≤ s.2 ∧ s.2 ≤ hot.length
  far : S.Pairwise fun t s => ltP t.1 s.1 ∧ 2 ≤ (t.1.1 - s.1.1) * (t.1.1 - s.1.1) + (t.1.2 - s.1.2) * (t.1.2 - s.1.2)
  len : S'.length = S.length
  perm : (S'.map (·.2)).Perm (S.map (·.2))
  sum : (S.map (·.2)).sum = hot.length
theorem ckPic_ok {p : Pc} (h : p.ok) : ckPic p = 0 := by
  have r1 : rng p.w 1 16 = 0 := by rw [rng_eq, if_neg (by have := h.w; omega)]
  have r2 : rng p.h 1 16 = 0 := by rw [rng_eq, if_neg (by have := h.h; omega)]
  unfold ckPic
  simp only [r1, r2]
  rw [if_neg (by decide), if_neg (by have := h.n; omega)]
  refine fnz_zero.2 fun x hx => ?_
  obtain ⟨y, hy, rfl⟩ := List.mem_map.1 hx
  exact h.x y hy
theorem turn_ok {W H : Nat} {q : Bool} {l : List Nat} (h : (⟨W, H, q, l⟩ : Pc).ok) (q' : Bool) : (⟨H, W, q', turnL W H l⟩ : Pc).ok := by
  obtain ⟨hw, hh, hn, hx⟩ := h
  simp only at hw hh hn hx
  have hl : l.length = W * H := by exact_mod_cast hn
  refine ⟨hh, hw, ?_, fun x hx' => hx x ((turn_perm (by omega) (by omega) l hl).mem_iff.1 hx')⟩
  rw [turn_len]
  simp [Int.mul_comm]
theorem hot_turned {W H : Nat} {q : Bool} {l : List Nat} (h : (⟨W, H, q, l⟩ : Pc).ok) (q' : Bool) (n : Int) : (hotL ⟨H, W, q', turnL W H l⟩ n).Perm ((hotL ⟨W, H, q, l⟩ n).map (sg W)) := by
  have hlp := h.len
  obtain ⟨hw, hh, hn, hx⟩ := h
  simp only at hw hh hn hx hlp
  have hl : l.length = W * H := by exact_mod_cast hn
  have hp : (us (turnL W H l)).Perm (us l) := (turn_perm (by omega) (by omega) l hl).map _
  have hm := med_perm hp (by intro e; have := congrArg List.length e; simp [us] at this; rw [this] at hlp; simp at hlp)
  unfold hotL
  simp only [hm]
  exact hot_turn (by omega) (by omega) l hl _
theorem spL_reps {p : Pc} (h : p.ok) (n : Int) : spL p n = (reps (hotL p n)).map fun a => (a, (szP (hotL p n) a : Int)) := by
  rw [spL_eq p n h, ← spec_reps (hot_pw p n h)]
  have := spR_spec (hotL p n) 0 (by omega)
  rw [List.drop_zero] at this
  exact this
theorem spots_turned {W H : Nat} {q : Bool} {l : List Nat} (h : (⟨W, H, q, l⟩ : Pc).ok) (q' : Bool) (n : Int) : SpOk (hotL ⟨W, H, q, l⟩ n) (spL ⟨W, H, q, l⟩ n) (spL ⟨H, W, q', turnL W H l⟩ n) := by
  have hp := hot_turned h q' n
  have h' := turn_ok h q'
  have w1 := hot_pw _ n h
  have w2 := hot_pw _ n h'
  rw [spL_reps h, spL_reps h']
  generalize hotL ⟨W, H, q, l⟩ n = L at *
  generalize hotL ⟨H, W, q', turnL W H l⟩ n = L' at *
  have hs := sizes_perm w1 w2 hp (sg_bes W) (sg_inj W)
  have e1 : ((reps L).map fun a => (a, (szP L a : Int))).map (·.2) = ((reps L).map (szP L)).map fun k : Nat => (k : Int) := by rw [List.map_map, List.map_map]; rfl
  have e2 : ((reps L').map fun a => (a, (szP L' a : Int))).map (·.2) = ((reps L').map (szP L')).map fun k : Nat => (k : Int) := by rw [List.map_map, List.map_map]; rfl
  refine ⟨?_, ?_, ?_, ?_, ?_⟩
  · intro s hs
    obtain ⟨a, ha, rfl⟩ := List.mem_map.1 hs
    have hm := (reps_mem.1 ha).1
    have := sz_pos hm
    exact ⟨hm, by simp only; omega, by simp only; omega⟩
  · rw [List.pairwise_map]
    exact List.Pairwise.imp_of_mem (fun {a b} ha hb hab => ⟨hab, reps_far w1 ha hb hab⟩) (reps_pw w1)
  · have := hs.length_eq
    simp only [List.length_map] at this ⊢
    exact this.symm
  · rw [e1, e2]
    exact (hs.symm).map _
  · rw [e1]
    have := sizes_sum w1
    rw [← this]
    generalize (reps L).map (szP L) = M
    induction M with
    | nil => rfl
    | cons a r ih => simp only [List.map_cons, List.sum_cons, ih]; omega
def Y3 (a b c d : Int) (z : Bool) (ms : List (Int × Int)) (b1 b2 b3 : Bool) (L : List (Int × Int)) (S S' : List ((Int × Int) × Int)) (al : Int) (D : List (Int × Int)) (i : Nat) : Option Out :=
  (lim T).loop false [.code (.loop b12_3), .inBlock 6, .code k12_3]
    ⟨12, 400, 0, [(2, .sl z 2 (ms.map ptV)), (4, .ptr 0 0 0), (13, .sl b1 2 (L.map ptV)), (15, .sl b2 3 (S.map stV)), (19, .sl b3 3 (S'.map stV)), (21, .int .i64 al), (22, .map 1), (177, .sl b2 3 (S.map stV)), (178, .int .i64 S.length), (179, .int .i64 i)],
      [.cells true true 148 [arV a b c d], .map (D.map kvI)], 0, []⟩
theorem Q1_end {W H : Nat} {q : Bool} {l : List Nat} (hp : (⟨W, H, q, l⟩ : Pc).ok) (n a b c d : Int) (hn : rng n 1 16384 = 0) (z : Bool) (ms : List (Int × Int)) :
    Q1 W H q l n a b c d z ms (some (turnL W H l)) W = Y3 a b c d z ms (!((hotL ⟨W, H, true, l⟩ n).map ptV).isEmpty) (!((spL ⟨W, H, true, l⟩ n).map stV).isEmpty) (!((spL ⟨H, W, true, turnL W H l⟩ n).map stV).isEmpty) (hotL ⟨W, H, true, l⟩ n) (spL ⟨W, H, true, l⟩ n) (spL ⟨H, W, true, turnL W H l⟩ n) 0 [] 0 := by
  have h1 := idx_out W
  have hl := hp.len
  simp only at hl
  have hp1 : (⟨W, H, true, l⟩ : Pc).ok := ⟨hp.w, hp.h, hp.n, hp.x⟩
  have hp2 := turn_ok hp true
  have hl2 := hp2.len
  simp only at hl2
  have d1 := d57 ⟨W, H, q, l⟩ (by simp only; omega)
  have d2 := fun b => d57 ⟨H, W, b, turnL W H l⟩ (by simp only; omega)
  have e0 := fnz_zero.2 (show ∀ x ∈ [ckPic ⟨W, H, true, l⟩, rng n 1 16384], x = 0 by simp [ckPic_ok hp1, hn])
  have e0' := fnz_zero.2 (show ∀ x ∈ [ckPic ⟨H, W, true, turnL W H l⟩, rng n 1 16384], x = 0 by simp [ckPic_ok hp2, hn])
  have e1 := c56 ⟨W, H, true, l⟩ n (by simp only; omega)
  have e2 := c58 ⟨W, H, true, l⟩ n (by simp only; omega)
  have e3 := c56 ⟨H, W, true, turnL W H l⟩ n (by simp only; omega)
  have e4 := c58 ⟨H, W, true, turnL W H l⟩ n (by simp only; omega)
  rw [e0] at e1 e2
  rw [e0'] at e3 e4
  have sp := spots_turned hp1 true n
  have hh := (hot_turned hp1 true n).length_eq
  rw [List.length_map] at hh
  have z1 := hot_len _ n hp1
  generalize hotL ⟨W, H, true, l⟩ n = L at *
  generalize hotL ⟨H, W, true, turnL W H l⟩ n = L' at *
  generalize spL ⟨W, H, true, l⟩ n = S at *
  generalize spL ⟨H, W, true, turnL W H l⟩ n = S' at *
  have hs := sp.len
  have f1 : ((L'.length : Int) != (L.length : Int)) = false := by simp [hh]
  have f2 : ((S'.length : Int) != (S.length : Int)) = false := by simp [hs]
  simp only [show ((0 : Int) != 0) = false by decide, cond_false] at e1 e2 e3 e4
  unfold Q1
  rw [loopEq]
  unfold Y3
  rw [show ((0 : Nat) : Int) = 0 from rfl]
  simp only [k12_1, tR, pcV, arV] at *
  simp -implicitDefEqProofs only [go_sem, simprocAttr, h1, d1, d2, e1, e2, e3, e4, f1, f2, slN]
theorem found3 (D : List (Int × Int)) (k : Int) : foundP T 3 false (Option.map (fun v => V.int .i64 v) (gt D k)) = .ret (.int .i64 (vl D k)) := by
  unfold vl
  cases gt D k <;> rfl
def Y4 (a b c d : Int) (z : Bool) (ms : List (Int × Int)) (b1 b2 b3 : Bool) (L : List (Int × Int)) (S S' : List ((Int × Int) × Int)) (al : Int) (D : List (Int × Int)) (i : Nat) (s : (Int × Int) × Int) (j : Nat) : Option Out :=
  (lim T).loop false [.code (.loop b12_4), .inBlock 8, .inBlock 7, .code r12_43, .inLoop b12_3, .inBlock 6, .code k12_3]
    ⟨12, 400, 0, [(2, .sl z 2 (ms.map ptV)), (4, .ptr 0 0 0), (13, .sl b1 2 (L.map ptV)), (15, .sl b2 3 (S.map stV)), (19, .sl b3 3 (S'.map stV)), (21, .int .i64 al), (22, .map 1), (24, .ptr 2 0 0), (177, .sl b2 3 (S.map stV)), (178, .int .i64 S.length), (179, .int .i64 i),
      (220, .sl b2 3 ((S.take i).map stV)), (221, .int .i64 (S.take i).length), (222, .int .i64 j)],
      [.cells true true 148 [arV a b c d], .map (D.map kvI), .cells true true 153 [stV s]], 0, []⟩
def D2 (D : List (Int × Int)) (k k' : Int) : List (Int × Int) := ins (ins D k (vl D k + 1)) k' (vl (ins D k (vl D k + 1)) k' - 1)
theorem Y3_in (a b c d : Int) (z : Bool) (ms : List (Int × Int)) (b1 b2 b3 : Bool) (L : List (Int × Int)) (S S' : List ((Int × Int) × Int)) (al : Int) (hal : -1000000 ≤ al ∧ al ≤ 1000000) (D : List (Int × Int)) (hD : ∀ k, -1000000 ≤ vl D k ∧ vl D k ≤ 1000000) {i : Nat} (hi : i < S.length) (hS : S.length < 1000) (hL : L.length < 1000)
  (h6 : hasP S[i].1 L = true) (h7 : 1 ≤ S[i].2) (h8 : S[i].2 ≤ L.length) (hS' : i < S'.length) : Y3 a b c d z ms b1 b2 b3 L S S' al D i = Y4 a b c d z ms b1 b2 b3 L S S' (al + S[i].2) (D2 D S[i].2 S'[i].2) i S[i] 0 := by
  obtain ⟨h1, h2, h3, h4, h5⟩ := idx_in hi (by omega)
  have g2 : decide (0 ≤ (i : Int) ∧ (i : Int) < (S'.length : Int)) = true := decide_eq_true (by omega)
  have g3 : S'[i]? = some S'[i] := List.getElem?_eq_getElem hS'
  have d1 := d91 S[i].1 b1 L (by omega)
  rw [h6] at d1
  have f7 : decide (S[i].2 < 1) = false := decide_eq_false (by omega)
  have f8 : decide ((L.length : Int) < S[i].2) = false := decide_eq_false (by omega)
  have w0 : IntKind.i64.wrap (al + S[i].2) = al + S[i].2 := by rw [wrap64] <;> omega
  have w1 : IntKind.i64.wrap (vl D S[i].2 + 1) = vl D S[i].2 + 1 := by have := hD S[i].2; rw [wrap64] <;> omega
  have w2 : IntKind.i64.wrap (vl (ins D S[i].2 (vl D S[i].2 + 1)) S'[i].2 - 1) = vl (ins D S[i].2 (vl D S[i].2 + 1)) S'[i].2 - 1 := by
    have h := vl_ins D S[i].2 (vl D S[i].2 + 1) S'[i].2
    have q1 := hD S[i].2
    have q2 := hD S'[i].2
    split at h <;> (rw [wrap64] <;> omega)
  have y1 : decide (0 ≤ (i : Int)) = true := decide_eq_true (by omega)
  have y2 : decide (0 ≤ i ∧ i ≤ S.length) = true := decide_eq_true (by omega)
  have hlen : (List.take i S).length = (List.take i (S.map stV)).length := by simp
  unfold Y3
  rw [loopEq]
  unfold Y4 D2
  rw [show ((0 : Nat) : Int) = 0 from rfl]
  generalize S[i] = s at *
  generalize S'[i] = s' at *
  simp -implicitDefEqProofs only [go_sem, simprocAttr, h1, h2, h3, h4, stV, d1, f7, f8, mapGet3, mapSet3, key3, found3, w0, w1, w2, g2, g3, y1, y2, List.map_take, hlen]
theorem sq_b {x : Int} (h : -1000 ≤ x ∧ x ≤ 1000) : 0 ≤ x * x ∧ x * x ≤ 1000000 := by
  have h1 : x.natAbs ≤ 1000 := by omega
  have h2 : x * x = ((x.natAbs * x.natAbs : Nat) : Int) := (Int.natAbs_mul_self (a := x)).symm
  have h3 : x.natAbs * x.natAbs ≤ 1000 * 1000 := Nat.mul_le_mul h1 h1
  omega
theorem Y4_step (a b c d : Int) (z : Bool) (ms : List (Int × Int)) (b1 b2 b3 : Bool) (L : List (Int × Int)) (S S' : List ((Int × Int) × Int)) (al : Int) (D : List (Int × Int)) {i : Nat} (hS : S.length < 1000) (s : (Int × Int) × Int) (hs : sm s.1) {j : Nat} (hj : j < (S.take i).length)
  (ht : sm ((S.take i)[j]).1) (hf : ltP ((S.take i)[j]).1 s.1 ∧ 2 ≤ (((S.take i)[j]).1.1 - s.1.1) * (((S.take i)[j]).1.1 - s.1.1) + (((S.take i)[j]).1.2 - s.1.2) * (((S.take i)[j]).1.2 - s.1.2)) :
  Y4 a b c d z ms b1 b2 b3 L S S' al D i s j = Y4 a b c d z ms b1 b2 b3 L S S' al D i s (j + 1) := by
  obtain ⟨h1, h2, h3, h4, h5⟩ := idx_in hj (by have := List.length_take (i := i) (l := S); omega)
  unfold Y4
  conv => lhs; rw [loopEq]
  generalize (S.take i)[j] = t at *
  generalize S.take i = R at *
  obtain ⟨⟨x, y⟩, k⟩ := s
  obtain ⟨⟨u, v⟩, k'⟩ := t
  unfold sm ltP at *
  simp only at hs ht hf
  have q1 := sq_b (x := u - x) (by omega)
  have q2 := sq_b (x := v - y) (by omega)
  have w1 : IntKind.i64.wrap (u - x) = u - x := by rw [wrap64] <;> omega
  have w2 : IntKind.i64.wrap (v - y) = v - y := by rw [wrap64] <;> omega
  have w3 : IntKind.i64.wrap ((u - x) * (u - x)) = (u - x) * (u - x) := by rw [wrap64] <;> omega
  have w4 : IntKind.i64.wrap ((v - y) * (v - y)) = (v - y) * (v - y) := by rw [wrap64] <;> omega
  have w5 : IntKind.i64.wrap ((u - x) * (u - x) + (v - y) * (v - y)) = (u - x) * (u - x) + (v - y) * (v - y) := by rw [wrap64] <;> omega
  have c1 : decide ((u - x) * (u - x) + (v - y) * (v - y) < 2) = false := decide_eq_false (by omega)
  have c2 : decide (y < v) = false := decide_eq_false (by omega)
  cases c3 : (v == y)
  · simp -implicitDefEqProofs only [go_sem, simprocAttr, h1, h2, h3, h4, stV, w1, w2, w3, w4, w5, c1, c2, c3]
  · have c4 : decide (x ≤ u) = false := decide_eq_false (by have : v = y := by simpa using c3
                                                            omega)
    simp -implicitDefEqProofs only [go_sem, simprocAttr, h1, h2, h3, h4, stV, w1, w2, w3, w4, w5, c1, c2, c3, c4]
theorem Y4_end (a b c d : Int) (z : Bool) (ms : List (Int × Int)) (b1 b2 b3 : Bool) (L : List (Int × Int)) (S S' : List ((Int × Int) × Int)) (al : Int) (D : List (Int × Int)) {i : Nat} (hi : i < S.length) (hS : S.length < 1000) (s : (Int × Int) × Int) :
  Y4 a b c d z ms b1 b2 b3 L S S' al D i s (S.take i).length = Y3 a b c d z ms b1 b2 b3 L S S' al D (i + 1) := by
  obtain ⟨h1, h2, h3, h4, h5⟩ := idx_in hi (by omega)
  have h6 := idx_out (S.take i).length
  unfold Y4
  rw [loopEq]
  unfold Y3
  generalize S.take i = R at *
  simp -implicitDefEqProofs only [go_sem, simprocAttr, h6, h4, stV]
theorem far_get {L : List (Int × Int)} {S S' : List ((Int × Int) × Int)} (sp : SpOk L S S') {i j : Nat} (hi : i < S.length) (hj : j < (S.take i).length) :
    ltP ((S.take i)[j]).1 S[i].1 ∧ 2 ≤ (((S.take i)[j]).1.1 - S[i].1.1) * (((S.take i)[j]).1.1 - S[i].1.1) + (((S.take i)[j]).1.2 - S[i].1.2) * (((S.take i)[j]).1.2 - S[i].1.2) := by
  have hj' : j < i := by rw [List.length_take] at hj; omega
  rw [List.getElem_take]
  exact List.pairwise_iff_getElem.1 sp.far j i (by omega) hi hj'
theorem Y4_all (a b c d : Int) (z : Bool) (ms : List (Int × Int)) (b1 b2 b3 : Bool) {L : List (Int × Int)} {S S' : List ((Int × Int) × Int)} (sp : SpOk L S S') (sml : ∀ x ∈ L, sm x) (hS : S.length < 1000) (al : Int) (D : List (Int × Int)) {i : Nat} (hi : i < S.length) : ∀ j, j ≤ (S.take i).length →
    Y4 a b c d z ms b1 b2 b3 L S S' al D i S[i] j = Y4 a b c d z ms b1 b2 b3 L S S' al D i S[i] (S.take i).length := by
  refine down_ind (S.take i).length rfl fun j hj ih => ?_
  rw [← ih]
  refine Y4_step a b c d z ms b1 b2 b3 L S S' al D hS S[i] (sml _ (sp.mem _ (List.getElem_mem hi)).1) hj ?_ (far_get sp hi hj)
  rw [List.getElem_take]
  exact sml _ (sp.mem _ (List.getElem_mem _)).1
def cn (S : List ((Int × Int) × Int)) (i : Nat) (k : Int) : Int := (((S.take i).map (·.2)).count k : Nat)
theorem cn_s {S : List ((Int × Int) × Int)} {i : Nat} (hi : i < S.length) (k : Int) : cn S (i + 1) k = cn S i k + (if S[i].2 = k then 1 else 0) := by
  unfold cn
  rw [List.take_succ_eq_append_getElem hi, List.map_append, List.count_append]
  simp only [List.map_cons, List.map_nil, List.count_cons, List.count_nil]
  by_cases h : S[i].2 = k
  · simp [h]
  · simp [h]
theorem cn_b (S : List ((Int × Int) × Int)) (i : Nat) (k : Int) : 0 ≤ cn S i k ∧ cn S i k ≤ S.length := by
  unfold cn
  have h := List.count_le_length (a := k) (l := (S.take i).map (·.2))
  rw [List.length_map, List.length_take] at h
  omega
theorem Y3_all (a b c d : Int) (z : Bool) (ms : List (Int × Int)) (b1 b2 b3 : Bool) {L : List (Int × Int)} {S S' : List ((Int × Int) × Int)} (sp : SpOk L S S') (sml : ∀ x ∈ L, sm x) (hS : S.length < 1000) (hL : L.length ≤ 256) : ∀ i, i ≤ S.length → ∀ (al : Int) (D : List (Int × Int)),
    (0 ≤ al ∧ al ≤ 256 * i) → al = ((S.take i).map (·.2)).sum → Nk D → (∀ k, vl D k = cn S i k - cn S' i k) → ∃ D', Nk D' ∧ (∀ k, vl D' k = 0) ∧ Y3 a b c d z ms b1 b2 b3 L S S' al D i = Y3 a b c d z ms b1 b2 b3 L S S' L.length D' S.length := by
  refine down_ind S.length ?_ fun i hi ih => ?_
  · intro al D h1 h2 h3 h4
    refine ⟨D, h3, fun k => ?_, ?_⟩
    · rw [h4]
      unfold cn
      rw [List.take_length, ← sp.len, List.take_length, sp.perm.count_eq]
      omega
    · rw [List.take_length, sp.sum] at h2
      rw [h2]
  · intro al D h1 h2 h3 h4
    have hi' : i < S'.length := by rw [sp.len]; exact hi
    obtain ⟨m1, m2, m3⟩ := sp.mem _ (List.getElem_mem hi)
    have hD : ∀ k, -1000000 ≤ vl D k ∧ vl D k ≤ 1000000 := fun k => by
      have := cn_b S i k
      have := cn_b S' i k
      rw [h4]
      have := sp.len
      omega
    have e1 := Y3_in a b c d z ms b1 b2 b3 L S S' al (by omega) D hD hi hS (by omega) (hasP_mem m1) m2 m3 hi'
    have e2 := Y4_all a b c d z ms b1 b2 b3 sp sml hS (al + S[i].2) (D2 D S[i].2 S'[i].2) hi 0 (by omega)
    have e3 := Y4_end a b c d z ms b1 b2 b3 L S S' (al + S[i].2) (D2 D S[i].2 S'[i].2) hi hS S[i]
    obtain ⟨D', n1, n2, n3⟩ := ih (al + S[i].2) (D2 D S[i].2 S'[i].2) (by omega) (by
        rw [List.take_succ_eq_append_getElem hi, List.map_append, List.sum_append, ← h2]
        simp) (Nk_ins _ _ _ (Nk_ins _ _ _ h3)) (fun k => by
        rw [cn_s hi, cn_s hi']
        unfold D2
        rw [vl_ins, vl_ins, vl_ins]
        have q := h4 k
        have q1 := h4 S[i].2
        have q2 := h4 S'[i].2
        by_cases c1 : k = S'[i].2
        · by_cases c2 : S'[i].2 = S[i].2
          · have c3 : S[i].2 = k := by omega
            rw [if_pos c1, if_pos c2, if_pos c3, if_pos c1.symm]
            rw [c3]; omega
          · have c3 : ¬ S[i].2 = k := by omega
            rw [if_pos c1, if_neg c2, if_neg c3, if_pos c1.symm]
            rw [← c1]; omega
        · rw [if_neg c1, if_neg (show ¬ S'[i].2 = k from fun e => c1 e.symm)]
          by_cases c2 : k = S[i].2
          · rw [if_pos c2, if_pos c2.symm, ← c2]; omega
          · rw [if_neg c2, if_neg (show ¬ S[i].2 = k from fun e => c2 e.symm)]; omega)
    exact ⟨D', n1, n2, by rw [e1, e2, e3, n3]⟩
def Y5 (a b c d : Int) (z : Bool) (ms : List (Int × Int)) (b1 : Bool) (L : List (Int × Int)) (al : Int) (n : Nat) (q : Bool) : Option Out :=
  (lim T).loop false [.code (.loop b12_5), .inBlock 10, .code k12_5]
    ⟨12, 400, 0, [(2, .sl z 2 (ms.map ptV)), (4, .ptr 0 0 0), (13, .sl b1 2 (L.map ptV)), (21, .int .i64 al), (278, .it 1)],
      [.cells true true 148 [arV a b c d], .miter (.int .i64 0) n q], 0, []⟩
theorem Y3_end (a b c d : Int) (z : Bool) (ms : List (Int × Int)) (b1 b2 b3 : Bool) (L : List (Int × Int)) (S S' : List ((Int × Int) × Int)) (al : Int) (D : List (Int × Int)) (hS : S.length < 1000) (ha : allV (D.map kvI) = some (.int .i64 0)) :
   Y3 a b c d z ms b1 b2 b3 L S S' al D S.length = Y5 a b c d z ms b1 L al D.length false := by
  have h1 := idx_out S.length
  unfold Y3
  rw [loopEq]
  unfold Y5
  simp only [k12_3]
  simp -implicitDefEqProofs only [go_sem, simprocAttr, h1, ha]
theorem Y5_step (a b c d : Int) (z : Bool) (ms : List (Int × Int)) (b1 : Bool) (L : List (Int × Int)) (al : Int) (n : Nat) (q : Bool) :
   Y5 a b c d z ms b1 L al (n + 1) q = Y5 a b c d z ms b1 L al n true := by
  unfold Y5
  conv => lhs; rw [loopEq]
  simp -implicitDefEqProofs only [go_sem, simprocAttr]
theorem Y5_all (a b c d : Int) (z : Bool) (ms : List (Int × Int)) (b1 : Bool) (L : List (Int × Int)) (al : Int) : ∀ (n : Nat) (q : Bool), ∃ q', Y5 a b c d z ms b1 L al n q = Y5 a b c d z ms b1 L al 0 q'
  | 0, q => ⟨q, rfl⟩
  | n + 1, q => by
    rw [Y5_step]
    exact Y5_all a b c d z ms b1 L al n true
def frV (n sx sy : Int) : V := .agg [.int .i64 n, .int .i64 sx, .int .i64 sy]
def Y6 (z : Bool) (ms : List (Int × Int)) (n sx sy : Int) (o : Option (List (Int × Int))) (i : Nat) : Option Out :=
  (lim T).loop false [.code (.loop b12_6), .inBlock 12, .code k12_6]
    ⟨12, 400, 0, [(2, .sl z 2 (ms.map ptV)), (31, .ptr 0 0 0), (32, acV o 1), (304, .sl z 2 (ms.map ptV)), (305, .int .i64 ms.length), (306, .int .i64 i)],
      .cells true true 106 [frV n sx sy] :: acR ptV o 100, 0, []⟩
theorem Y5_end (a b c d : Int) (z : Bool) (ms : List (Int × Int)) (b1 : Bool) (L : List (Int × Int)) (q : Bool) :
   Y5 a b c d z ms b1 L L.length 0 q = Y6 z ms ((mxa b).tmod 4) ((IntKind.i64.wrap c).tmod 500) ((IntKind.i64.wrap d).tmod 500) none 0 := by
  unfold Y5
  rw [loopEq]
  unfold Y6
  rw [show ((0 : Nat) : Int) = 0 from rfl]
  simp only [k12_5, arV, acV_n, acR_n, frV]
  have h : ((L.length : Int) != (L.length : Int)) = false := by simp
  simp -implicitDefEqProofs only [go_sem, simprocAttr, h, bi_max0]
theorem ckF_0 {n sx sy : Int} (hn : 0 ≤ n ∧ n ≤ 3) (hs : bnd 1000 (sx, sy)) : ckF n sx sy = 0 := by
  unfold bnd at hs
  simp only at hs
  have r0 : rng n 0 3 = 0 := by rw [rng_eq, if_neg (by omega)]
  have r1 : rng sx (-1000) 1000 = 0 := by rw [rng_eq, if_neg (by omega)]
  have r2 : rng sy (-1000) 1000 = 0 := by rw [rng_eq, if_neg (by omega)]
  simp only [ckF, ckP, r0, r1, r2]
  rfl
theorem ckP_0 {x y : Int} (hs : bnd 1000 (x, y)) : ckP x y = 0 := by
  unfold bnd at hs
  simp only at hs
  have r1 : rng x (-1000) 1000 = 0 := by rw [rng_eq, if_neg (by omega)]
  have r2 : rng y (-1000) 1000 = 0 := by rw [rng_eq, if_neg (by omega)]
  simp only [ckP, r1, r2]
  rfl
theorem cry_b {n sx sy : Int} {p : Int × Int} {u v : Int} (hs : bnd u (sx, sy)) (hp : bnd v p) : bnd (u + v) (cry n sx sy p.1 p.2) := by
  unfold bnd at *
  simp only at hs hp
  unfold cry tr
  split
  · simp only; omega
  · split
    · simp only; omega
    · split
      · simp only; omega
      · simp only; omega
theorem Y6_all (z : Bool) (ms : List (Int × Int)) (hm : ms.length ≤ 6) (n sx sy : Int) (hn : 0 ≤ n ∧ n ≤ 3) (hs : bnd 500 (sx, sy)) (hb : ∀ m ∈ ms, bnd 100 m) : ∀ i, i ≤ ms.length → ∀ o : Option (List (Int × Int)), acL o = i →
    Y6 z ms n sx sy o i = Y6 z ms n sx sy (acA o (thr n sx sy (ms.drop i))) ms.length := by
  have hf := ckF_0 hn (bnd_mono (by omega) hs)
  refine down_ind ms.length ?_ fun i hi ih => ?_
  · intro o ho
    simp [thr, acA]
  · intro o ho
    obtain ⟨h1, h2, h3, h4, h5⟩ := idx_in hi (by omega)
    rw [h5]
    have hp := hb _ (List.getElem_mem hi)
    generalize ms[i] = m at *
    have hc : ckP (cry n sx sy m.1 m.2).1 (cry n sx sy m.1 m.2).2 = 0 := ckP_0 (bnd_mono (by omega) (cry_b (n := n) hs hp))
    have ih' := ih (acA o [cry n sx sy m.1 m.2]) (by rw [acL_A, ho]; rfl)
    rw [acA_acA] at ih'
    have e2 : thr n sx sy (m :: ms.drop (i + 1)) = [cry n sx sy m.1 m.2] ++ thr n sx sy (ms.drop (i + 1)) := rfl
    rw [e2, ← ih']
    have e3 := d66 hf (bnd_mono (by omega) hp)
    have e4 := d67 hf (bnd_mono (by omega) hp) hc
    have e5 := d70 (cry n sx sy m.1 m.2).1 (cry n sx sy m.1 m.2).2
    rw [hc] at e5
    have q1 : (m.1 == m.1) = true := by simp
    have q2 : (m.2 == m.2) = true := by simp
    generalize cry n sx sy m.1 m.2 = y at *
    unfold Y6
    conv => lhs; rw [loopEq]
    cases o with
    | none =>
      have h8 := row_ok (n := 0) (by omega)
      simp only [acA_n, acV_n, acR_n, acV_s, acR_s, List.map_cons, List.map_nil, ptV, frV]
      simp -implicitDefEqProofs only [go_sem, simprocAttr, h1, h2, h3, h4, h8.2, e3, e4, e5, ptV, q1, q2]
    | some a =>
      have h9 : a.length = i := ho
      have h8 := (row_ok (n := a.length) (by omega)).1
      simp only [acA_s, acV_s, acR_s, List.map_append, List.map_cons, List.map_nil, ptV, frV]
      simp -implicitDefEqProofs only [go_sem, simprocAttr, h1, h2, h3, h4, h8, e3, e4, e5, ptV, q1, q2]
theorem Y6_nil (aw : (lim FaT.T).call 16 [] [] 0 [] = some (.bool true, [], 0, [])) (z : Bool) (n sx sy : Int) : Y6 z [] n sx sy none 0 = some (.ret (.bool true), [], 0, []) := by
  have a1 := d16 aw
  unfold Y6
  rw [loopEq]
  simp only [k12_6, acV_n, acR_n]
  simp -implicitDefEqProofs only [go_sem, simprocAttr, List.length_nil, show decide (((0 : Nat) : Int) < ((0 : Nat) : Int)) = false from rfl, show (((0 : Nat) : Int) == 0) = true from rfl, a1]
theorem ckM_0 {l m : List (Int × Int)} (h0 : l ≠ []) (h8 : l.length ≤ 8) (hlm : m.length = l.length) (hl : ∀ p ∈ l, bnd 1000 p) (hm : ∀ p ∈ m, bnd 1000 p) : ckM l m = 0 := by
  have hp : 0 < l.length := List.length_pos_iff.2 h0
  have a1 : ((l.length : Int) == 0) = false := by simp; omega
  have a2 : decide (8 < (l.length : Int)) = false := decide_eq_false (by omega)
  have a3 : ((m.length : Int) != l.length) = false := by simp [hlm]
  have a4 : fnz (l.map fun p => ckP p.1 p.2) = 0 := fnz_zero.2 fun x hx => by
    obtain ⟨p, hp, rfl⟩ := List.mem_map.1 hx
    exact ckP_0 (hl p hp)
  have a5 : fnz (m.map fun p => ckP p.1 p.2) = 0 := fnz_zero.2 fun x hx => by
    obtain ⟨p, hp, rfl⟩ := List.mem_map.1 hx
    exact ckP_0 (hm p hp)
  unfold ckM
  rw [a1, a2, a3, a4, a5]
  rfl
def Y7 (z : Bool) (ms ys : List (Int × Int)) (n sx sy : Int) (i : Nat) : Option Out :=
  (lim T).loop false [.code (.loop b12_7), .inBlock 14, .code k12_7]
    ⟨12, 400, 0, [(32, .ref 0), (39, .ptr 1 0 0), (375, .sl z 2 (ms.map ptV)), (376, .int .i64 ms.length), (377, .int .i64 i)],
      [.cells false true 100 (ys.map ptV), .cells true true 106 [frV n sx sy]], 1, []⟩
theorem Y7_all (aw : (lim FaT.T).call 16 [] [] 0 [] = some (.bool true, [], 0, [])) (z : Bool) (ms : List (Int × Int)) (hm : ms.length ≤ 6) (n sx sy : Int) (hf : ckF n sx sy = 0) (hb : ∀ m ∈ ms, bnd 100 m) : ∀ i, i ≤ ms.length →
    Y7 z ms (thr n sx sy ms) n sx sy i = some (.ret (.bool true), [], 0, []) := by
  have a1 := d16 aw
  refine down_ind ms.length ?_ fun i hi ih => ?_
  · have h1 := idx_out ms.length
    unfold Y7
    rw [loopEq]
    simp only [k12_7]
    simp -implicitDefEqProofs only [go_sem, simprocAttr, h1, a1]
  · obtain ⟨h1, h2, h3, h4, h5⟩ := idx_in hi (by omega)
    have hl : (thr n sx sy ms).length = ms.length := by simp [thr]
    have g1 : (thr n sx sy ms)[i]? = some (cry n sx sy ms[i].1 ms[i].2) := by
      unfold thr
      rw [List.getElem?_map, h3]; rfl
    have g2 : decide (0 ≤ (i : Int) ∧ (i : Int) < ((thr n sx sy ms).length : Int)) = true := decide_eq_true (by omega)
    have e3 := d66 hf (bnd_mono (by omega) (hb _ (List.getElem_mem hi)))
    rw [← ih]
    generalize ms[i] = m at *
    generalize thr n sx sy ms = ys at *
    have q1 : ((cry n sx sy m.1 m.2).1 == (cry n sx sy m.1 m.2).1) = true := by simp
    have q2 : ((cry n sx sy m.1 m.2).2 == (cry n sx sy m.1 m.2).2) = true := by simp
    generalize cry n sx sy m.1 m.2 = y at *
    unfold Y7
    conv => lhs; rw [loopEq]
    simp only [frV]
    simp -implicitDefEqProofs only [go_sem, simprocAttr, h1, h2, h3, h4, g1, g2, e3, q1, q2, ptV]
theorem Y6_end (z : Bool) (ms : List (Int × Int)) (h0 : ms ≠ []) (hm : ms.length ≤ 6) (n sx sy : Int) (hn : 0 ≤ n ∧ n ≤ 3) (hs : bnd 500 (sx, sy)) (hb : ∀ m ∈ ms, bnd 100 m) :
    Y6 z ms n sx sy (some (thr n sx sy ms)) ms.length = Y7 z ms (thr n sx sy ms) (frm ms (thr n sx sy ms)).n (frm ms (thr n sx sy ms)).x (frm ms (thr n sx sy ms)).y 0 := by
  have hf := ckF_0 hn (bnd_mono (by omega) hs)
  obtain ⟨g1, g2, g3, g4⟩ := frm_thr h0 hn hf
  have hl : (thr n sx sy ms).length = ms.length := by simp [thr]
  have hp : 0 < ms.length := List.length_pos_iff.2 h0
  have e1 := fun z => d47 z ms (by omega)
  have e2 := fun z => d47 z (thr n sx sy ms) (by omega)
  have hk : ckM ms (thr n sx sy ms) = 0 := ckM_0 h0 (by omega) hl (fun p hp => bnd_mono (by omega) (hb p hp)) (fun p hp => by
    obtain ⟨x, hx, rfl⟩ := List.mem_map.1 hp
    exact bnd_mono (by omega) (cry_b hs (hb x hx)))
  have e3 := d68 true true ms (thr n sx sy ms) (by omega) (by omega) hk (by omega)
  have e4 := d69 (frm ms (thr n sx sy ms)).n (frm ms (thr n sx sy ms)).x (frm ms (thr n sx sy ms)).y
  generalize hg : frm ms (thr n sx sy ms) = g at *
  rw [g2] at e4
  have f1 : ((ms.length : Int) == 0) = false := by simp; omega
  have f2 : ((g.l.length : Int) != (ms.length : Int)) = false := by simp [g1]
  have f3 : decide (n < g.n) = false := decide_eq_false (by omega)
  have h1 := idx_out ms.length
  unfold Y6
  rw [loopEq]
  unfold Y7
  rw [show ((0 : Nat) : Int) = 0 from rfl]
  simp only [k12_6, acV_s, acR_s, frV]
  generalize thr n sx sy ms = ys at *
  simp -implicitDefEqProofs only [go_sem, simprocAttr, h1, e1, e2, e3, e4, f1, f2, f3]
theorem Y6_ret (aw : (lim FaT.T).call 16 [] [] 0 [] = some (.bool true, [], 0, [])) (z : Bool) (ms : List (Int × Int)) (hm : ms.length ≤ 6) (n sx sy : Int) (hn : 0 ≤ n ∧ n ≤ 3) (hs : bnd 500 (sx, sy)) (hb : ∀ m ∈ ms, bnd 100 m) :
    Y6 z ms n sx sy none 0 = some (.ret (.bool true), [], 0, []) := by
  by_cases h0 : ms = []
  · subst h0
    exact Y6_nil aw z n sx sy
  · have hf := ckF_0 hn (bnd_mono (by omega) hs)
    obtain ⟨g1, g2, g3, g4⟩ := frm_thr h0 hn hf
    rw [Y6_all z ms hm n sx sy hn hs hb 0 (by omega) none rfl, List.drop_zero]
    have ha : acA none (thr n sx sy ms) = some (thr n sx sy ms) := by
      cases ms with
      | nil => exact absurd rfl h0
      | cons a r => rfl
    rw [ha, Y6_end z ms h0 hm n sx sy hn hs hb]
    conv => lhs; rw [show Y7 z ms (thr n sx sy ms) = Y7 z ms (thr (frm ms (thr n sx sy ms)).n (frm ms (thr n sx sy ms)).x (frm ms (thr n sx sy ms)).y ms) by rw [g4]]
    exact Y7_all aw z ms hm _ _ _ g2 hb 0 (by omega)
theorem Q1_0 (W H : Nat) (q : Bool) (l : List Nat) (n a b c d : Int) (z : Bool) (ms : List (Int × Int)) : Y1 ⟨W, H, q, l⟩ n a b c d z ms (.sl false 0 []) 0 = Q1 W H q l n a b c d z ms none 0 := rfl
theorem tmod_b (x : Int) : -500 ≤ x.tmod 500 ∧ x.tmod 500 ≤ 500 := by
  rcases Int.le_total 0 x with h | h
  · have h1 := Int.tmod_nonneg (a := x) 500 h
    have h2 := Int.tmod_lt_of_pos x (show (0 : Int) < 500 by omega)
    omega
  · have h1 := Int.tmod_nonneg (a := -x) 500 (by omega)
    have h2 := Int.tmod_lt_of_pos (-x) (show (0 : Int) < 500 by omega)
    rw [Int.neg_tmod] at h1 h2
    omega
theorem len_sum : ∀ {l : List Int}, (∀ x ∈ l, 1 ≤ x) → (l.length : Int) ≤ l.sum
  | [], _ => by simp
  | x :: r, h => by
    have h1 := h x (List.mem_cons_self ..)
    have h2 := len_sum (l := r) fun y hy => h y (List.mem_cons_of_mem _ hy)
    simp only [List.length_cons, List.sum_cons]
    omega
theorem SpOk.lenL {L : List (Int × Int)} {S S' : List ((Int × Int) × Int)} (sp : SpOk L S S') : S.length ≤ L.length := by
  have h := len_sum (l := S.map (·.2)) (fun x hx => by
    obtain ⟨s, hs, rfl⟩ := List.mem_map.1 hx
    exact (sp.mem s hs).2.1)
  rw [sp.sum, List.length_map] at h
  omega
theorem walk12 (aw : (lim FaT.T).call 16 [] [] 0 [] = some (.bool true, [], 0, [])) (p : Pc) (hp : p.ok) (h64 : p.l.length ≤ 64) (a b c d : Int) (z : Bool) (ms : List (Int × Int)) (hm : ms.length ≤ 6) : Y0 p a b c d z ms 0 = some (.ret (.bool true), [], 0, []) := by
  rcases Y0_eq aw p a b c d z ms hm 0 (by omega) with h | ⟨h1, h2⟩
  · exact h
  · rw [h2, Y0_end p a b c d z ms hm]
    rw [List.drop_zero] at h1
    have hr := rise_b a
    generalize riseA a = n at *
    have hn : rng n 1 16384 = 0 := by rw [rng_eq, if_neg (by omega)]
    obtain ⟨w, h, q, l⟩ := p
    have hlp := hp.len
    have hw := hp.w
    have hh := hp.h
    simp only at hlp hw hh h64
    obtain ⟨W, rfl⟩ : ∃ W : Nat, w = W := ⟨w.toNat, by omega⟩
    obtain ⟨H, rfl⟩ : ∃ H : Nat, h = H := ⟨h.toNat, by omega⟩
    have hl : l.length = W * H := by have := hp.n; simp only at this; exact_mod_cast this
    rw [Q1_0]
    have e1 := Q1_all (W := W) (H := H) (by omega) (by omega) q hl n a b c d z ms 0 (by omega)
    rw [Nat.zero_mul] at e1
    have e2 : oT (turnL W H l) (W * H) = some (turnL W H l) := by
      have h5 := turn_len W H l
      obtain ⟨k, hk⟩ : ∃ k, W * H = k + 1 := ⟨W * H - 1, by omega⟩
      rw [hk]
      show some ((turnL W H l).take (k + 1)) = _
      rw [List.take_of_length_le (by omega)]
    rw [e2] at e1
    rw [show (none : Option (List Nat)) = oT (turnL W H l) 0 from rfl, e1, Q1_end hp n a b c d hn z ms]
    have hp1 : (⟨W, H, true, l⟩ : Pc).ok := ⟨hp.w, hp.h, hp.n, hp.x⟩
    have sp := spots_turned hp1 true n
    have z1 := hot_len _ n hp1
    have z2 := hot_sm _ n hp1
    have z3 := sp.lenL
    generalize hotL ⟨W, H, true, l⟩ n = L at *
    generalize spL ⟨W, H, true, l⟩ n = S at *
    generalize spL ⟨H, W, true, turnL W H l⟩ n = S' at *
    obtain ⟨D, d1, d2, d3⟩ := Y3_all a b c d z ms (!(L.map ptV).isEmpty) (!(S.map stV).isEmpty) (!(S'.map stV).isEmpty) sp z2 (by omega) z1 0 (by omega) 0 [] (by simp) (by simp) (by simp [Nk]) (fun k => by simp [vl, gt, cn])
    rw [d3, Y3_end a b c d z ms _ _ _ L S S' _ D (by omega) (allV0 d1 d2)]
    obtain ⟨q', d4⟩ := Y5_all a b c d z ms (!(L.map ptV).isEmpty) L L.length D.length false
    rw [d4, Y5_end]
    refine Y6_ret aw z ms hm _ _ _ ?_ ?_ h1
    · have h1 := Int.tmod_nonneg (a := mxa b) 4 (mxa_b b)
      have h2 := Int.tmod_lt_of_pos (mxa b) (show (0 : Int) < 4 by omega)
      omega
    · have h1 := tmod_b (IntKind.i64.wrap c)
      have h2 := tmod_b (IntKind.i64.wrap d)
      unfold bnd
      simp only
      omega
theorem c12 (aw : (lim FaT.T).call 16 [] [] 0 [] = some (.bool true, [], 0, [])) (p : Pc) (a b c d : Int) (z : Bool) (ms : List (Int × Int)) : (lim T).call 12 [pcV p, .agg [.int .i16 a, .int .i16 b, .int .i16 c, .int .i16 d], .sl z 2 (ms.map ptV)] [] 0 [] = some (.bool true, [], 0, []) := by
  rw [ent12]
  have a1 := d16 aw
  have a2 := d55 p
  cases h : decide ((p.l.length : Int) ≤ 64)
  · rw [h] at a2
    simp only [pcV] at a2 ⊢
    simp -implicitDefEqProofs only [go_sem, simprocAttr, a2, a1]
  · have hl : p.l.length ≤ 64 := by have := of_decide_eq_true h; omega
    rw [h] at a2
    have a3 := d59 p (by omega)
    cases hc : (ckPic p != 0)
    · have hc0 : ckPic p = 0 := by simpa using hc
      cases hm : decide (6 < (ms.length : Int))
      · have hm0 : ms.length ≤ 6 := by have := of_decide_eq_false hm; omega
        have e := walk12 aw p (okP hc0) hl a b c d z ms hm0
        unfold Y0 at e
        rw [show ((0 : Nat) : Int) = 0 from rfl] at e
        simp only [pcV, k12_0, k12_1, k12_3, k12_5, k12_6, k12_7, arV] at a2 a3 e ⊢
        simp -implicitDefEqProofs only [go_sem, simprocAttr, a1, a2, a3, hc, hm, e]
      · simp only [pcV] at a2 a3 ⊢
        simp -implicitDefEqProofs only [go_sem, simprocAttr, a1, a2, a3, hc, hm]
    · simp only [pcV] at a2 a3 ⊢
      simp -implicitDefEqProofs only [go_sem, simprocAttr, a1, a2, a3, hc]
end Go.Den.FaU
end
