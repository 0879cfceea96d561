import Derived.Test.YtifljcjddphpjaaGreatDoorZR
import Derived.LaidHandle
import Derived.Lib.LaidTab
import Derived.Test.YtifljcjddphpjaaGreatDoorZP
import Derived.Test.YtifljcjddphpjaaGreatDoorZO
import Derived.KernelRfl
set_option linter.all false
set_option maxHeartbeats 8000000
set_option maxRecDepth 100000
namespace Go.Den
open Go Go.ChangeShapes Go.RowKit
section
variable {H : Type} {enc : TypeId × Value → H} {P : Program} {W W' : World}

theorem LaidVars_get : ∀ {l : List (String × DataW Unit)} {ps : List MemPlace}, DataW.LaidVars P W l ps → ∀ {n d}, (n, d) ∈ l →
    ∃ g t cs fuel p, P.globalNamed n = some g ∧ (P.globals[g]?).map (·.type) = some t ∧ W.var? P n = some cs ∧ DataW.trod (fun _ => ()) P W 0 (fun _ => true) false fuel t cs.toList = some (d, p)
  | [], _, _, _, _, h => by cases h
  | (m, e) :: r, ps, h, n, d, hm => by
    obtain ⟨g, t, cs, fuel, p, q, h1, h2, h3, h4, h5, _⟩ := h
    rcases List.mem_cons.1 hm with e | hm
    · cases e; exact ⟨g, t, cs, fuel, p, h1, h2, h3, h4⟩
    · exact LaidVars_get h5 hm

theorem tabIs_of_mem {l : List (String × DataW Unit)} {name : String} {k : IntKind} {zs : List Int} {g : Nat} {t e : TypeId} {n : Nat}
    (hg : P.globalNamed name = some g) (hty : (P.globals[g]?).map (·.type) = some t) (ht : P.underlying t = some (.array n e)) (he : P.underlying e = some (.int k)) (hce : P.cellsOf e = 1) (hct : P.cellsOf t = n)
    (h : laidMet P l W) (hm : (name, Lib.tabData k zs) ∈ l) : Lib.TabIs P W name k zs := by
  obtain ⟨ps, h, _⟩ := h
  obtain ⟨g', t', cs, fuel, p, hg', ht', hvar, hd⟩ := LaidVars_get h hm
  obtain rfl := Option.some.inj (hg.symm.trans hg')
  obtain rfl := Option.some.inj (hty.symm.trans ht')
  unfold Lib.TabIs
  rw [hvar, ← Lib.cells_of_tab ht he hce hct hd]

theorem G0_var {name : String} {g : Nat} {cs : Array Value} (hn : P.globalNamed name = some g) (h : W.var? P name = some cs) : (G0 W).M g = some (.cells cs) := by
  unfold World.var? at h
  rw [hn, Option.bind_some] at h
  unfold G0
  dsimp only
  split at h
  · rename_i h1; rw [h1]; simp only [Option.some.injEq] at h; rw [h]
  · cases h

theorem arg_rel {n : Nat} {t : TypeId} {v : Value} {d : DataW H} {p : List MemPlace} {base : Nat} {sp : Nat → Bool} {held : Bool} (hk : okT P n t = true) (hv : Value.okWide P W .any base t v) (h : DataW.Trod enc P W 0 sp held t v d p) :
    ∃ vs, Cl P n t vs ∧ Rel (G0 W) (mk P t vs) v ∧ pureV (mk P t vs) = true := by
  obtain ⟨fuel, h⟩ := h
  obtain ⟨vs, ho, hc⟩ := cl_of_trod n fuel t _ _ hk h
  have hmk := mk_cells hc ho.cell
  refine ⟨vs, hc, ?_, hmk.2.2 ho.pure⟩
  cases n with
  | zero => cases hk
  | succ n =>
    unfold Value.okWide at hv
    unfold Cl at hc
    have one : ∀ u, vs = [u] → v.cells = #[v] → Rel (G0 W) (vs.headD .undef) v := by
      rintro u rfl hcv
      have := ho.rel
      rw [hcv] at this
      exact this.2 0 u v rfl rfl
    unfold mk
    split at hc
    · rename_i hu
      simp only [hu] at hv ⊢
      obtain ⟨b, hb⟩ := hc
      refine one _ hb ?_
      cases v <;> first | rfl | (simp [Cell.okWide, Cell.ok, hu] at hv)
    · rename_i hu
      simp only [hu] at hv ⊢
      obtain ⟨b, hb, _⟩ := hc
      refine one _ hb ?_
      cases v <;> first | rfl | (simp [Cell.okWide, Cell.ok, hu] at hv)
    · rename_i hu
      simp only [hu] at hv ⊢
      obtain ⟨b, hb, _⟩ := hc
      refine one _ hb ?_
      cases v <;> first | rfl | (simp [Cell.okWide, Cell.ok, hu] at hv)
    · rename_i hu
      simp only [hu] at hv ⊢
      obtain ⟨b, hb⟩ := hc
      refine one _ hb ?_
      cases v <;> first | rfl | (simp [Cell.okWide, Cell.ok, hu] at hv)
    · rename_i hu
      simp only [hu] at hv ⊢
      obtain ⟨b, l, hb, _⟩ := hc
      refine one _ hb ?_
      cases v <;> first | rfl | (simp [Cell.okWide, Cell.ok, hu] at hv)
    · rename_i hu
      simp only [hu] at hv ⊢
      obtain ⟨cs, rfl, _, _⟩ := hv
      exact .agg _ _ (relL_iff.2 ho.rel).1 (relL_iff.2 ho.rel).2
    · rename_i hu
      simp only [hu] at hv ⊢
      obtain ⟨cs, rfl, _, _⟩ := hv
      exact .agg _ _ (relL_iff.2 ho.rel).1 (relL_iff.2 ho.rel).2
    · cases hc

theorem args_rel {n : Nat} {base : Nat} {sp : Nat → Bool} {held : Bool} : ∀ {ts : List TypeId} {vs : List Value} {ds : List (DataW H)} {ps : List MemPlace}, (ts.all fun t => okT P n t) = true → DataW.TrodAll enc P W 0 sp held ts vs ds ps →
    (∀ (j : Nat) t v, ts[j]? = some t → vs[j]? = some v → Value.okWide P W .any base t v) →
    ∃ as : List V, LRel (G0 W) as vs ∧ as.length = ts.length ∧ ∀ (i : Nat) t a, ts[i]? = some t → as[i]? = some a → ∃ us, Cl P n t us ∧ a = mk P t us
  | [], vs, ds, ps, _, h, _ => by
    obtain ⟨rfl, rfl, rfl⟩ := trodAll_nil h
    exact ⟨[], ⟨rfl, fun i v x h => by simp at h⟩, rfl, fun i t a h => by simp at h⟩
  | t :: ts, vs, ds, ps, hk, h, hv => by
    obtain ⟨v, vs1, d, ds1, a, b, rfl, rfl, rfl, h1, h2⟩ := trodAll_cons h
    simp only [List.all_cons, Bool.and_eq_true] at hk
    obtain ⟨us, c1, c2, _⟩ := arg_rel hk.1 (hv 0 t v rfl rfl) h1
    obtain ⟨as, r1, r2, r3⟩ := args_rel hk.2 h2 (fun j t v hj hj' => hv (j + 1) t v (by simpa using hj) (by simpa using hj'))
    refine ⟨mk P t us :: as, ⟨by simp [r1.1], fun i v x hi hx => ?_⟩, by simp [r2], fun i t' a' hi ha => ?_⟩
    · cases i with
      | zero => simp at hi hx; subst hi hx; exact c2
      | succ i => exact r1.2 i v x (by simpa using hi) (by simpa using hx)
    · cases i with
      | zero => simp at hi ha; subst hi ha; exact ⟨us, c1, rfl⟩
      | succ i => exact r3 i t' a' (by simpa using hi) (by simpa using ha)

theorem calls_true {T : Tab} (hS : CallOk P T (lim T)) {f : FuncId} (hb : T.byref f = false) {as : List V} (hl : (lim T).call f as [] 0 [] = some (.bool true, [], 0, [])) {xs : Array Value} (hx : LRel (G0 W) as xs.toList)
    (hg : ∀ g cs, T.glob g = some cs → ∃ c, (G0 W).M g = some (.cells c) ∧ RelL (G0 W) cs c ∧ pureL cs = true ∧ ∀ u ∈ cs, isCell u = true) :
    Calls P f xs W fun e W' => e = .returned (.bool true) ∧ W.heap.size ≤ W'.heap.size ∧ (∀ b, b < W.heap.size → W'.heap[b]? = W.heap[b]?) ∧ Oo W W' := by
  refine callsIn_wide.1 ((hS f as [] 0 [] _ [] 0 [] hl (G0 W) [] W xs ⟨hx.1, fun i v y hv hy => (hx.2 i v y hv hy).toT⟩ (good0 hg) (fun _ => ⟨rfl, rfl⟩)).mono ?_)
  rintro e w' ⟨y, G', Os', rfl, hr, hs, _, _⟩
  cases hr
  exact ⟨rfl, hs.size, fun b hb => hs.keep b hb (fun ⟨id, g, hid, _⟩ => by cases hid) frn_nil id, hs.oo⟩

theorem trodAll_stays (hl : laidOutB P = true) (hk : ∀ b, b < W.heap.size → W'.heap[b]? = W.heap[b]?) : ∀ {ts : List TypeId} {vs : List Value} {ds : List (DataW H)} {ps : List MemPlace}, (ts.all fun t => P.readableRec t && decide (t < P.types.size)) = true →
    DataW.TrodAll enc P W 0 (fun _ => true) true ts vs ds ps → (∀ x ∈ ps, x.block < W.heap.size) → DataW.TrodAll enc P W' 0 (fun b => decide (b < W.heap.size)) true ts vs ds ps
  | [], vs, ds, ps, _, h, _ => by
    obtain ⟨rfl, rfl, rfl⟩ := trodAll_nil h
    rfl
  | t :: ts, vs, ds, ps, ht, h, hlt => by
    obtain ⟨v, vs1, d, ds1, a, b, rfl, rfl, rfl, h1, h2⟩ := trodAll_cons h
    simp only [List.all_cons, Bool.and_eq_true, decide_eq_true_eq] at ht
    refine ⟨a, b, ?_, trodAll_stays hl hk ht.2 h2 (fun x hx => hlt x (List.mem_append_right _ hx)), rfl⟩
    refine WideElems.Trod_stays hl ht.1.1 ht.1.2 h1 (fun x hx => ?_) (fun x hx => by simpa using hlt x (List.mem_append_left _ hx))
    have := hlt x (List.mem_append_left _ hx)
    cases x with
    | cell b o => exact World.cell?_of_block (w := W) (hk b this)
    | map b => exact hk b this

theorem law_post {f : Func} {s : ChangeSpec} {args : Array Value} {ds gs : List (DataW H)} {before : List MemPlace} {tb : TypeId} (hvars : s.vars = []) (hres : f.resultTypes = #[tb]) (htb : P.underlying tb = some .bool)
    (hfn : s.fn H (ds ++ gs) = { results := [.lit (.bool true)], args := ds }) (hl : laidOutB P = true) (hpar : (f.params.toList.all fun t => P.readableRec t && decide (t < P.types.size)) = true)
    (hW : DataW.Whole enc P f.params.toList s.vars false W args.toList ds gs before) (hs : W.heap.size ≤ W'.heap.size) (hk : ∀ b, b < W.heap.size → W'.heap[b]? = W.heap[b]?) (ho : Oo W W') :
    s.post enc P f false true false false W args (.bool true) W' := by
  have hlt := hW.lt
  have hW0 := hW
  obtain ⟨p, q, hA, hV, rfl, hfz, hnd⟩ := hW0
  rw [hvars] at hV
  obtain ⟨rfl, rfl⟩ := trodVars_none hV
  refine ⟨ds, [], p ++ [], [], p, [], hW, ?_, ?_, ?_, ⟨ho.1, ho.2, fun i hi => ?_⟩, fun h => by cases h⟩
  · rw [hfn, hres]
    exact trodAll_mk1 (shut_bool htb _)
  · rw [hfn]
    exact trodAll_stays hl hk hpar hA (fun x hx => hlt x (List.mem_append_left _ hx))
  · rw [hfn, hvars]; rfl
  · rw [hk i hi]
    split <;> simp_all
end
end Go.Den
namespace Go.Den
open Go
attribute [go_sem] Int.cast_ofNat_Int implies_true forall_const
abbrev oo (d : Nat) (op : Op) : SO := ⟨some d, op, none⟩
abbrev ot (d : Nat) (op : Op) (g : Nat) : SO := ⟨some d, op, some (some g, true)⟩
abbrev of (d : Nat) (op : Op) (g : Nat) : SO := ⟨some d, op, some (some g, false)⟩
abbrev oM (a : Nat) : Op := .move (.tmp a)
abbrev oL (t a : Nat) : Op := .load t (.tmp a)
abbrev oI (t a b : Nat) : Op := .indexAddr t (.tmp a) (.tmp b)
abbrev oF (t a f : Nat) : Op := .fieldAddr t (.tmp a) f
abbrev oB (o : BinOp) (t a b : Nat) : Op := .binOp o t (.tmp a) (.tmp b) t
abbrev oC (o : BinOp) (t a : Nat) (n : Int) : Op := .binOp o t (.tmp a) (.const (.int .i64 n)) t
abbrev oN (a t : Nat) : Op := .call ⟨.builtin .len, #[.tmp a], #[t]⟩
abbrev oA (a b t : Nat) : Op := .call ⟨.builtin .append, #[.tmp a, .tmp b], #[t, t]⟩
abbrev oS (t a : Nat) : Op := .buildSlice t 1 #[(0, .tmp a)]
abbrev oG (a : Nat) : Op := .assign (.tmp a)
abbrev oi (n : Int) : Op := .assign (.const (.int .i64 n))
abbrev on : Op := .assign (.const (.slice none 0 0))
abbrev o1 (f a t : Nat) : Op := .call ⟨.value (.func f), #[.tmp a], #[t]⟩
abbrev o2 (f a b t u : Nat) : Op := .call ⟨.value (.func f), #[.tmp a, .tmp b], #[t, u]⟩
abbrev oX (a i : Nat) : Op := .extract (.tmp a) i
abbrev ow (t a v : Nat) : SO := ⟨none, .store t (.tmp a) (.tmp v), none⟩
def pth : Nat → Nat → List Nat → List Nat
  | 0, _, acc => acc
  | f + 1, n, acc => match Nat.ble n 1 with
    | true => acc
    | false => pth f (n / 2) (n % 2 :: acc)
def nv (n : Nat) (f : Func) : Code := nav (pth 200 n []) (bodyOf f)
theorem reachP_1 (n id : Nat) (k : List Nat → Prog) : reachP (n + 2) [id] [] k = .get id fun r => (match r with
        | .cells _ false _ l => reachP (n + 1) (idsL l ++ []) [id] k
        | _ => k [id]) := by
  rw [reachP]
  simp only [List.any_nil]
  rfl
theorem reach_1 (n : Nat) (b : Bool) (ty : TypeId) (l : List V) : reach (n + 2) [0] [] [.cells b true ty l] = some [0] := by
  rw [reach]
  simp only [List.any_nil]
  show reach (n + 1) [] [0] _ = _
  rw [reach]; rfl
theorem go_ref1 {α : Type} {ih : Ih} {T : Tab} {f : Nat} {args : List V} {id : Nat} (hb : T.byref f = true) (hr : Res0 T f) (hids : idsL args = [id]) (hy : yldL args = false) (k : V → Prog)
    {slot : Option Nat} {H : Heap} {Fz : Nat} {S : Stk} {rd wr fr : Nat} {sk : Bool} {K : V → Heap → Nat → Stk → FP → Option α} {b : Bool} {ty : TypeId} {l l' : List V}
    (hH : H[id]? = some (.cells b true ty l)) (hz : Fz.testBit id = false) (hc : ih.call f (mapHL (idx [id]) args) [.cells b true ty l] 0 [] = some (.tup [], [.cells b true ty l'], 0, [])) :
    (callP ih T f args k).go slot H Fz S ⟨rd, wr, fr, sk⟩ K = (k (.tup [])).go slot (H.set id (.cells b true ty l')) Fz S ⟨rd ||| bit id ||| bit id, wr ||| bit id ||| bit id, fr, sk⟩ K := by
  have hlt : id < H.length := (List.getElem?_eq_some_iff.1 hH).1
  unfold callP
  rw [hb]
  simp only
  rw [hids, show (10000 : Nat) = 9998 + 2 from rfl, reachP_1, go_get, hH]
  simp only [optK, maskP]
  rw [go_isFz, hz]
  simp only [rowsP]
  rw [go_get, hH]
  simp only [optK, List.reverse_cons, List.reverse_nil, List.nil_append, hy, withStk]
  have hm : mapRows (idx [id]) [Row.cells b true ty l] = [.cells b true ty l] := rfl
  rw [hm, go_optP, hc]
  simp only [optK]
  have hrs : List.range [id].length ++ idsV (.tup []) = [0] := rfl
  rw [go_optP, hrs, reach_1]
  simp only [optK]
  have hn : newIds [id].length [0] = [] := rfl
  rw [hn]
  cases slot with
  | none =>
    rw [go_base_n]
    simp only [pick, mapRows, newRowsP, setRowsP, List.length_cons, List.length_nil, List.take_succ_cons, List.take_zero, List.take_nil]
    rw [go_set]
    simp only [decide_eq_true hlt, need, frzAllP, Nat.zero_testBit]
    rw [hr]
    rfl
  | some i =>
    rw [go_base_s]
    simp only [pick, mapRows, newRowsP, setRowsP, List.length_cons, List.length_nil, List.take_succ_cons, List.take_zero, List.take_nil]
    rw [go_set]
    simp only [decide_eq_true hlt, need, frzAllP, Nat.zero_testBit]
    rw [hr]
    rfl
end Go.Den
namespace Go.Den
open Go
section
variable (T : Tab) (k : V → Prog)
def cpRow (id a n : Nat) (e : TypeId) (ys : List V) (k : Prog) : Row → Prog
  | .cells false fl ety l => needP (T.size ety == T.size e) (.set id (.cells false (fl && pureL ys) ety (l.take a ++ (ys.take n ++ l.drop (a + min ys.length n)))) k)
  | _ => .fail
@[go_sem] theorem copyAt_eq (id a n : Nat) (e : TypeId) (ys : List V) (k : Prog) : copyAt T id a n e ys k = .isFz id fun z => needP (!z) (.get id (cpRow T id a n e ys k)) := by
  unfold copyAt
  congr 1
  funext z
  cases z
  · simp only [Bool.not_false, needP]
    congr 1
    funext row
    unfold cpRow
    simp only [beq_nat]
    cases row <;> (try rfl)
    try (rename_i b fl ty l; cases b <;> rfl)
  · rfl
@[go_sem] theorem cpRow_c (id a n : Nat) (e ety : TypeId) (fl : Bool) (l ys : List V) (k : Prog) : cpRow T id a n e ys k (.cells false fl ety l) = needP (T.size ety == T.size e) (.set id (.cells false (fl && pureL ys) ety (l.take a ++ (ys.take n ++ l.drop (a + min ys.length n)))) k) := rfl
def cpP (d : TD) (x y : V) : Prog := match d, x with
    | .slice e, .ref id => listP T (T.size e) y fun ys => .get id (rowL fun _ _ l => copyAt T id 0 l.length e ys (k (.int .i64 (min ys.length l.length : Nat))))
    | .slice e, .sub id a n => listP T (T.size e) y fun ys => copyAt T id a n e ys (k (.int .i64 (min ys.length n : Nat)))
    | .slice e, .sl false _ [] => listP T (T.size e) y fun _ => k (.int .i64 0)
    | _, _ => .fail
@[go_sem] theorem bi_copy (t t' : TypeId) (x y : V) : builtinP T .copy [t, t'] [x, y] k = cpP T k (T.td t) x y := by
  simp only [builtinP, cpP]
  cases T.td t <;> (try rfl) <;> cases x <;> (try rfl)
  all_goals first
    | (simp only; congr 1; funext ys; congr 1; funext row; cases row <;> rfl)
    | (rename_i nn z l; cases nn <;> (try rfl); cases l <;> rfl)
@[go_sem] theorem cp_ref (e : TypeId) (id : Nat) (y : V) : cpP T k (.slice e) (.ref id) y = listP T (T.size e) y fun ys => .get id (rowL fun _ _ l => copyAt T id 0 l.length e ys (k (.int .i64 (min ys.length l.length : Nat)))) := rfl
end
def eqbL (eq : V → V → Bool) : List V → List V → Bool
  | [], [] => true
  | a :: as, b :: bs => (match eq a b with | true => eqbL eq as bs | false => false)
  | _, _ => false
def eqb : Nat → V → V → Bool
  | 0, _, _ => false
  | n + 1, a, b => match a, b with
    | .bool a, .bool b => (match a, b with | true, true => true | false, false => true | _, _ => false)
    | .int .i64 a, .int .i64 b => a == b
    | .flt .f64 a, .flt .f64 b => Nat.beq a b
    | .str a, .str b => a == b
    | .nilp, .nilp => true
    | .nilf, .nilf => true
    | .sl a w l, .sl b w' l' => (match a, b with
      | true, true => (match Nat.beq w w' with | true => eqbL (eqb n) l l' | false => false)
      | false, false => (match Nat.beq w w' with | true => eqbL (eqb n) l l' | false => false)
      | _, _ => false)
    | .agg l, .agg l' => eqbL (eqb n) l l'
    | _, _ => false
theorem eqbL_eq {eq : V → V → Bool} (h : ∀ a b, eq a b = true → a = b) : ∀ a b, eqbL eq a b = true → a = b
  | [], [], _ => rfl
  | a :: as, b :: bs, h' => by
    simp only [eqbL] at h'
    split at h'
    · rename_i h1
      rw [h _ _ h1, eqbL_eq h as bs h']
    · cases h'
  | [], _ :: _, h' => by simp [eqbL] at h'
  | _ :: _, [], h' => by simp [eqbL] at h'
theorem eqb_eq : ∀ n a b, eqb n a b = true → a = b := by
  intro n
  induction n with
  | zero => intro a b h; simp [eqb] at h
  | succ n ih =>
    intro a b h
    unfold eqb at h
    split at h
    · split at h <;> simp_all
    · simpa using h
    · simpa using h
    · simpa using h
    · rfl
    · rfl
    · split at h
      · split at h
        · rename_i h1; rw [eqbL_eq ih _ _ h, Nat.eq_of_beq_eq_true h1]
        · cases h
      · split at h
        · rename_i h1; rw [eqbL_eq ih _ _ h, Nat.eq_of_beq_eq_true h1]
        · cases h
      · cases h
    · rw [eqbL_eq ih _ _ h]
    · cases h
abbrev Memo := List (FuncId × List V × V)
def memoGet : Memo → FuncId → List V → Option V
  | [], _, _ => none
  | (g, as, v) :: m, f, args => match Nat.beq g f with
    | true => (match eqbL (eqb 12) as args with | true => some v | false => memoGet m f args)
    | false => memoGet m f args
def evM (T : Tab) (M : Memo) : Nat → Ih
  | 0 => { loop := fun _ _ _ => none, call := fun _ _ _ _ _ => none, yld := fun _ _ _ => none }
  | n + 1 =>
    { loop := (stepE T (evM T M n)).loop
      yld := (stepE T (evM T M n)).yld
      call := fun f args H Fz S => match H, Fz, S with
        | [], 0, [] => (match memoGet M f args with
          | some v => some (v, [], 0, [])
          | none => (stepE T (evM T M n)).call f args [] 0 [])
        | H, Fz, S => (stepE T (evM T M n)).call f args H Fz S }
def MemoOk (T : Tab) (M : Memo) : Prop := ∀ e ∈ M, (lim T).call e.1 e.2.1 [] 0 [] = some (e.2.2, [], 0, [])
theorem MemoOk.nil (T : Tab) : MemoOk T [] := fun _ h => absurd h (List.not_mem_nil)
theorem MemoOk.cons {T : Tab} {M : Memo} {f args v} (h : MemoOk T M) (h' : (lim T).call f args [] 0 [] = some (v, [], 0, [])) : MemoOk T ((f, args, v) :: M) := by
  intro e he
  rcases List.mem_cons.1 he with rfl | he
  · exact h'
  · exact h e he
theorem memoGet_ok {T : Tab} : ∀ {M : Memo}, MemoOk T M → ∀ {f args v}, memoGet M f args = some v → (lim T).call f args [] 0 [] = some (v, [], 0, [])
  | [], _, f, args, v, h => by simp [memoGet] at h
  | (g, as, u) :: m, hM, f, args, v, h => by
    have hm : MemoOk T m := fun e he => hM e (List.mem_cons_of_mem _ he)
    unfold memoGet at h
    split at h
    · rename_i h1
      split at h
      · rename_i h2
        have h3 := hM (g, as, u) (List.mem_cons_self)
        have := Nat.eq_of_beq_eq_true h1
        have e := eqbL_eq (eqb_eq 12) _ _ h2
        cases h
        subst this e
        exact h3
      · exact memoGet_ok hm h
    · exact memoGet_ok hm h
theorem evM_le {T : Tab} {M : Memo} (hM : MemoOk T M) : ∀ n, (evM T M n).le (lim T) := by
  intro n
  induction n with
  | zero => exact ⟨fun f args H Fz S r h => by simp [evM] at h, fun rnd items st r h => by simp [evM] at h, fun d args S r h => by simp [evM] at h⟩
  | succ n ih =>
    have hs : (stepE T (evM T M n)).le (lim T) := ((stepE_apx T ih.apx).le).trans (step_le_lim T)
    refine ⟨fun f args H Fz S r h => ?_, hs.loop, hs.yld⟩
    simp only [evM] at h
    split at h
    · split at h
      · rename_i h1
        cases h
        exact memoGet_ok hM h1
      · exact hs.call _ _ _ _ _ _ h
    · exact hs.call _ _ _ _ _ _ h
theorem memo_call {T : Tab} {M : Memo} (hM : MemoOk T M) (n : Nat) {f args r} (h : (evM T M n).call f args [] 0 [] = some r) : (lim T).call f args [] 0 [] = some r := (evM_le hM n).call _ _ _ _ _ _ h
section
variable {T : Tab}
end
section
variable {α : Type} {T : Tab}
end
section
variable (T : Tab)
end
section
variable {α : Type} {T : Tab}
end
section
variable {T : Tab} {ih : Ih}
variable (n id : Nat) (w seen : List Nat) (k : List Nat → Prog)
variable (m : Nat) (r : List Nat) (k' : Nat → Prog) (kh : Heap → Prog)
end
def andN (ki : IntKind) (x y : Int) : Nat := (BitVec.ofInt ki.bits x &&& ~~~(BitVec.ofInt ki.bits y)).toNat
def fres (kd : FloatKind) : Option Nat → V
  | some r => .flt kd r
  | none => .flt kd (qn kd)
def ngF (kd : FloatKind) (b : Nat) : Nat := match kd.decode b with
  | .nan _ _ => qn kd
  | _ => Op.negFloat kd b
def cvF (ks kd : FloatKind) (b : Nat) : Option Nat := match decide (ks = kd) with
  | true => some b
  | false => match ks.decode b with
    | .nan _ _ => some (qn kd)
    | .infinity g => some (kd.encode (.infinity g))
    | .number g m e => match (kd.decode (kd.encode (.number g m e))).isInfinity with
      | true => none
      | false => some (kd.encode (.number g m e))
def cvI (ks : FloatKind) (kd : IntKind) (b : Nat) : Option Int := match (ks.decode b).toInt .zero with
  | some n => (match decide (kd.min ≤ n ∧ n ≤ kd.max) with | true => some n | false => none)
  | none => none
section
variable {α : Type} (T : Tab) (t : TypeId) (kd : FloatKind) (a b : Nat) (k : V → Option α)
@[go_sem] theorem fres_s (r : Nat) : fres kd (some r) = .flt kd r := rfl
@[go_sem] theorem fres_n : fres kd none = .flt kd (qn kd) := rfl
@[go_sem] theorem bin_fsub : binK T .sub t (.flt kd a) (.flt kd b) k = k (fres kd (kd.format.sub a b)) := by
  simp only [binK, farith, decide_true]; cases kd.format.sub a b <;> rfl
@[go_sem] theorem bin_fmul : binK T .mul t (.flt kd a) (.flt kd b) k = k (fres kd (kd.format.mul a b)) := by
  simp only [binK, farith, decide_true]; cases kd.format.mul a b <;> rfl
@[go_sem] theorem bin_fneq : binK T .neq t (.flt kd a) (.flt kd b) k = k (.bool (!(kd.format.order a b == some .eq))) := by
  simp only [binK, farith, decide_true, optK]; rfl
@[go_sem] theorem bin_flss : binK T .lss t (.flt kd a) (.flt kd b) k = k (.bool (kd.format.order a b == some .lt)) := by
  simp only [binK, farith, decide_true, optK]
@[go_sem] theorem bin_fgtr : binK T .gtr t (.flt kd a) (.flt kd b) k = k (.bool (kd.format.order a b == some .gt)) := by
  simp only [binK, farith, decide_true, optK]
@[go_sem] theorem un_fneg : unK .neg (.flt kd b) k = k (.flt kd (ngF kd b)) := by
  unfold unK ngF; simp only; cases kd.decode b <;> rfl
@[go_sem] theorem conv_if (s : TD) (ki : IntKind) (n : Int) : convB s (.float kd) (.int ki n) k = k (.flt kd (kd.nearest n)) := by
  cases s <;> rfl
@[go_sem] theorem conv_fi (s : TD) (ki : IntKind) : convB s (.int ki) (.flt kd b) k = optK (cvI kd ki b) fun n => k (.int ki n) := by
  have e : convB s (.int ki) (.flt kd b) k = optK ((kd.decode b).toInt .zero) fun n => need (decide (ki.min ≤ n ∧ n ≤ ki.max)) (k (.int ki n)) := by cases s <;> rfl
  rw [e]; unfold cvI
  cases (kd.decode b).toInt .zero with
  | none => rfl
  | some n =>
    simp only [optK]
    cases h : decide (ki.min ≤ n ∧ n ≤ ki.max) <;> rfl
@[go_sem] theorem conv_ff (s : TD) (ks : FloatKind) : convB s (.float kd) (.flt ks b) k = optK (cvF ks kd b) fun r => k (.flt kd r) := by
  have e : convB s (.float kd) (.flt ks b) k = (match decide (ks = kd) with
    | true => k (.flt kd b)
    | false => (match ks.decode b with
      | .nan _ _ => k (.flt kd (qn kd))
      | .infinity g => k (.flt kd (kd.encode (.infinity g)))
      | .number g m e => need (!(kd.decode (kd.encode (.number g m e))).isInfinity) (k (.flt kd (kd.encode (.number g m e)))))) := by cases s <;> rfl
  rw [e]; unfold cvF
  cases decide (ks = kd) with
  | true => rfl
  | false =>
    simp only
    cases ks.decode b with
    | nan _ _ => rfl
    | infinity g => rfl
    | number g m e =>
      simp only
      cases (kd.decode (kd.encode (.number g m e))).isInfinity <;> rfl
@[go_sem] theorem bin_andNot (ki : IntKind) (x y : Int) : binK T .andNot t (.int ki x) (.int ki y) k = k (.int ki (ki.wrap (andN ki x y))) := by simp [binK, arith, optK, andN]
end
theorem prim_of_call {P : Program} {T0 T : Tab} (hS : CallOk P T0 (lim T0)) (hgl : T.glob = T0.glob) {f : FuncId} {args : List V} {v : V} (hb : T0.byref f = false) (hc : (lim T0).call f args [] 0 [] = some (v, [], 0, []))
    (hen : ∀ (xs : Array Value) (w : World), (callFunc f xs).run P w = .ok (.enter f xs) w) (G : Gh) (w : World) (xs : Array Value) (hx : LRel G args xs.toList) (hp : pureL args = true) (hM : MRel G T w) :
    (callFunc f xs).run P w = .ok (.enter f xs) w ∧ CallsIn Fence.wide 0 P f xs w fun e w' => ∃ y G', e = .returned y ∧ Rel G' v y ∧ pureV v = true ∧ Step G.bare w G' w' ∧ HeapRel G' T w' [] 0 ∧ MRel G' T w' := by
  have hM0 : MRel G T0 w := ⟨hM.mem, by rw [← hgl]; exact hM.glob⟩
  have hxb : RelLT G.bare [] args xs := ⟨hx.1, fun i a b ha hb => ((hx.2 i a b ha hb).bare (pureL_iff.1 hp a (List.mem_of_getElem? ha))).toT⟩
  have hgb : Good T0 G.bare [] w ⟨[], 0, []⟩ := ⟨heap_bare G w, hM0.bare, ⟨rfl, fun d own O hd => by simp at hd, fun d e O O' b hO => by simp at hO⟩, fun b hb => absurd hb bare_owns⟩
  refine ⟨hen xs w, (hS f args [] 0 [] v [] 0 [] hc G.bare [] w xs hxb hgb (fun _ => ⟨rfl, rfl⟩)).mono ?_⟩
  rintro e w' ⟨y, G', Os', rfl, hr, hs, hg, hpv⟩
  refine ⟨y, G', rfl, hr, (hpv hb).2, ⟨hs.le, hs.size, hs.owns, fun b c hbc => ?_, fun b h1 h2 => ?_, hs.oo⟩, ?_, ⟨hg.mem.mem, by rw [hgl]; exact hg.mem.glob⟩⟩
  · rcases hs.mem b c hbc with h | h | h | h
    · exact .inl h
    · exact .inr (.inl h)
    · exact absurd h frn_nil
    · exact .inr (.inr h)
  · exact hs.keep b h1 h2 frn_nil id
  · exact ⟨fun id r h => by simp at h, hg.heap.out, fun id h => by simp at h, hg.heap.inj⟩
noncomputable def den (T0 : Tab) (f : Nat) (args : List V) : Option V :=
  match T0.byref f, T0.prim f, T0.fn f, (lim T0).call f args [] 0 [] with
  | false, none, some _, some (v, [], 0, []) => some v
  | _, _, _, _ => none
theorem den_iff {T0 : Tab} {f : Nat} {args : List V} {v : V} (h : den T0 f args = some v) : T0.byref f = false ∧ T0.prim f = none ∧ (∃ fn, T0.fn f = some fn) ∧ (lim T0).call f args [] 0 [] = some (v, [], 0, []) := by
  unfold den at h
  split at h
  · rename_i h1 h2 h3 h4
    cases h
    exact ⟨h1, h2, ⟨_, h3⟩, h4⟩
  · cases h
theorem den_of {T0 : Tab} {f : Nat} {args : List V} {v : V} {fn : Func} (h1 : T0.byref f = false) (h2 : T0.prim f = none) (h3 : T0.fn f = some fn) (h4 : (lim T0).call f args [] 0 [] = some (v, [], 0, [])) : den T0 f args = some v := by
  unfold den
  simp only [h1, h2, h3, h4]
noncomputable def over (T0 : Tab) (own byref raw : List Nat) : Tab :=
  { T0 with byref := fun f => byref.any (Nat.beq f), raw := fun f => raw.any (Nat.beq f), prim := fun f => match own.any (Nat.beq f) with | true => none | false => some (den T0 f) }
theorem codeOk_congr {T T' : Tab} (h : T.pairs = T'.pairs) (f : Nat) : ∀ c : Code, codeOk T f c = codeOk T' f c := by
  intro c
  induction c using codeOk.induct <;> simp_all [codeOk]
theorem any_mem {l : List Nat} {f : Nat} : l.any (Nat.beq f) = true ↔ f ∈ l := by
  simp only [List.any_eq_true]
  constructor
  · rintro ⟨x, hx, h⟩; rw [Nat.eq_of_beq_eq_true h]; exact hx
  · intro h; exact ⟨f, h, by simp⟩
theorem shParts_same {T : Tab} {α : Type} {n : Nat} : ∀ (ts : List TypeId) (cs acc : List V) (k : List V → Option α) (r : α), shParts (shape T n) ts cs acc k = some r →
    ∃ l, k (acc ++ l) = some r ∧ l.length = ts.length ∧ ∀ G xs, LRel G cs xs → LRel G l (xs.take l.length) := by
  intro ts
  induction ts with
  | nil => intro cs acc k r h; exact ⟨[], by simpa [shParts] using h, rfl, fun G xs _ => by simpa using LRel.nil G⟩
  | cons t ts ihf =>
    intro cs acc k r h
    simp only [shParts] at h
    obtain ⟨c, hc, h⟩ := get_inv h
    obtain ⟨w, hw, hs⟩ := shape_inv _ _ _ _ _ h
    obtain ⟨l, hl, hn, hr⟩ := ihf _ _ _ _ hw
    refine ⟨w :: l, by simpa using hl, by simp [hn], fun G xs hx => ?_⟩
    obtain ⟨x, hx0, hcx⟩ := hx.get hc
    cases xs with
    | nil => simp at hx0
    | cons y ys =>
      simp only [List.getElem?_cons_zero, Option.some.injEq] at hx0
      subst hx0
      have h2 := hr G _ (hx.drop 1)
      simp only [List.drop_succ_cons, List.drop_zero] at h2
      simpa using (LRel.one (hs G _ hcx)).append h2
def shArgs {α : Type} (T : Tab) (ts : List TypeId) (vs : List V) (k : List V → Option α) : Option α := need (Nat.beq vs.length ts.length) (shParts (shape T shD) ts vs [] k)
noncomputable def den2 (T0 : Tab) (f : Nat) (args : List V) : Option V :=
  match T0.fn f with
  | some fn => shArgs T0 fn.params.toList args fun r => need (pureL r) (den T0 f r)
  | none => none
theorem den2_eq {T0 : Tab} {f : Nat} {fn : Func} {ts : List TypeId} (h : T0.fn f = some fn) (ht : fn.params.toList = ts) (args : List V) : den2 T0 f args = shArgs T0 ts args fun r => need (pureL r) (den T0 f r) := by
  unfold den2
  simp only [h, ht]
end Go.Den
