import Derived.Test.YteeikdgoeehhkaaGreatDoorZQ
import Derived.LaidHandle
import Derived.Lib.LaidTab
import Derived.Test.YteeikdgoeehhkaaGreatDoorZP
import Derived.Test.YteeikdgoeehhkaaGreatDoorZO
import Derived.KernelRfl
set_option linter.all false
set_option maxHeartbeats 8000000
set_option maxRecDepth 100000
namespace Go.Den
open Go Go.ChangeShapes Go.RowKit
section
variable {H : Type} {enc : TypeId × Value → H} {P : Program} {W W' : World}

theorem G0_var {name : String} {g : Nat} {cs : Array Value} (hn : P.globalNamed name = some g) (h : W.var? P name = some cs) : (G0 W).M g = some (.cells cs) := by
  unfold World.var? at h
  rw [hn, Option.bind_some] at h
  unfold G0
  dsimp only
  split at h
  · rename_i h1; rw [h1]; simp only [Option.some.injEq] at h; rw [h]
  · cases h

theorem arg_rel {n : Nat} {t : TypeId} {v : Value} {d : DataW H} {p : List MemPlace} {base : Nat} {sp : Nat → Bool} {held : Bool} (hk : okT P n t = true) (hv : Value.okWide P W .any base t v) (h : DataW.Trod enc P W 0 sp held t v d p) :
    ∃ vs, Cl P n t vs ∧ Rel (G0 W) (mk P t vs) v ∧ pureV (mk P t vs) = true := by
  obtain ⟨fuel, h⟩ := h
  obtain ⟨vs, ho, hc⟩ := cl_of_trod n fuel t _ _ hk h
  have hmk := mk_cells hc ho.cell
  refine ⟨vs, hc, ?_, hmk.2.2 ho.pure⟩
  cases n with
  | zero => cases hk
  | succ n =>
    unfold Value.okWide at hv
    unfold Cl at hc
    have one : ∀ u, vs = [u] → v.cells = #[v] → Rel (G0 W) (vs.headD .undef) v := by
      rintro u rfl hcv
      have := ho.rel
      rw [hcv] at this
      exact this.2 0 u v rfl rfl
    unfold mk
    split at hc
    · rename_i hu
      simp only [hu] at hv ⊢
      obtain ⟨b, hb⟩ := hc
      refine one _ hb ?_
      cases v <;> first | rfl | (simp [Cell.okWide, Cell.ok, hu] at hv)
    · rename_i hu
      simp only [hu] at hv ⊢
      obtain ⟨b, hb, _⟩ := hc
      refine one _ hb ?_
      cases v <;> first | rfl | (simp [Cell.okWide, Cell.ok, hu] at hv)
    · rename_i hu
      simp only [hu] at hv ⊢
      obtain ⟨b, hb, _⟩ := hc
      refine one _ hb ?_
      cases v <;> first | rfl | (simp [Cell.okWide, Cell.ok, hu] at hv)
    · rename_i hu
      simp only [hu] at hv ⊢
      obtain ⟨b, hb⟩ := hc
      refine one _ hb ?_
      cases v <;> first | rfl | (simp [Cell.okWide, Cell.ok, hu] at hv)
    · rename_i hu
      simp only [hu] at hv ⊢
      obtain ⟨b, l, hb, _⟩ := hc
      refine one _ hb ?_
      cases v <;> first | rfl | (simp [Cell.okWide, Cell.ok, hu] at hv)
    · rename_i hu
      simp only [hu] at hv ⊢
      obtain ⟨cs, rfl, _, _⟩ := hv
      exact .agg _ _ (relL_iff.2 ho.rel).1 (relL_iff.2 ho.rel).2
    · rename_i hu
      simp only [hu] at hv ⊢
      obtain ⟨cs, rfl, _, _⟩ := hv
      exact .agg _ _ (relL_iff.2 ho.rel).1 (relL_iff.2 ho.rel).2
    · cases hc

theorem args_rel {n : Nat} {base : Nat} {sp : Nat → Bool} {held : Bool} : ∀ {ts : List TypeId} {vs : List Value} {ds : List (DataW H)} {ps : List MemPlace}, (ts.all fun t => okT P n t) = true → DataW.TrodAll enc P W 0 sp held ts vs ds ps →
    (∀ (j : Nat) t v, ts[j]? = some t → vs[j]? = some v → Value.okWide P W .any base t v) →
    ∃ as : List V, LRel (G0 W) as vs ∧ as.length = ts.length ∧ ∀ (i : Nat) t a, ts[i]? = some t → as[i]? = some a → ∃ us, Cl P n t us ∧ a = mk P t us
  | [], vs, ds, ps, _, h, _ => by
    obtain ⟨rfl, rfl, rfl⟩ := trodAll_nil h
    exact ⟨[], ⟨rfl, fun i v x h => by simp at h⟩, rfl, fun i t a h => by simp at h⟩
  | t :: ts, vs, ds, ps, hk, h, hv => by
    obtain ⟨v, vs1, d, ds1, a, b, rfl, rfl, rfl, h1, h2⟩ := trodAll_cons h
    simp only [List.all_cons, Bool.and_eq_true] at hk
    obtain ⟨us, c1, c2, _⟩ := arg_rel hk.1 (hv 0 t v rfl rfl) h1
    obtain ⟨as, r1, r2, r3⟩ := args_rel hk.2 h2 (fun j t v hj hj' => hv (j + 1) t v (by simpa using hj) (by simpa using hj'))
    refine ⟨mk P t us :: as, ⟨by simp [r1.1], fun i v x hi hx => ?_⟩, by simp [r2], fun i t' a' hi ha => ?_⟩
    · cases i with
      | zero => simp at hi hx; subst hi hx; exact c2
      | succ i => exact r1.2 i v x (by simpa using hi) (by simpa using hx)
    · cases i with
      | zero => simp at hi ha; subst hi ha; exact ⟨us, c1, rfl⟩
      | succ i => exact r3 i t' a' (by simpa using hi) (by simpa using ha)

theorem calls_true {T : Tab} (hS : CallOk P T (lim T)) {f : FuncId} (hb : T.byref f = false) {as : List V} (hl : (lim T).call f as [] 0 [] = some (.bool true, [], 0, [])) {xs : Array Value} (hx : LRel (G0 W) as xs.toList)
    (hg : ∀ g cs, T.glob g = some cs → ∃ c, (G0 W).M g = some (.cells c) ∧ RelL (G0 W) cs c ∧ pureL cs = true ∧ ∀ u ∈ cs, isCell u = true) :
    Calls P f xs W fun e W' => e = .returned (.bool true) ∧ W.heap.size ≤ W'.heap.size ∧ (∀ b, b < W.heap.size → W'.heap[b]? = W.heap[b]?) ∧ Oo W W' := by
  refine callsIn_wide.1 ((hS f as [] 0 [] _ [] 0 [] hl (G0 W) [] W xs ⟨hx.1, fun i v y hv hy => (hx.2 i v y hv hy).toT⟩ (good0 hg) (fun _ => ⟨rfl, rfl⟩)).mono ?_)
  rintro e w' ⟨y, G', Os', rfl, hr, hs, _, _⟩
  cases hr
  exact ⟨rfl, hs.size, fun b hb => hs.keep b hb (fun ⟨id, g, hid, _⟩ => by cases hid) frn_nil id, hs.oo⟩

theorem trodAll_stays (hl : laidOutB P = true) (hk : ∀ b, b < W.heap.size → W'.heap[b]? = W.heap[b]?) : ∀ {ts : List TypeId} {vs : List Value} {ds : List (DataW H)} {ps : List MemPlace}, (ts.all fun t => P.readableRec t && decide (t < P.types.size)) = true →
    DataW.TrodAll enc P W 0 (fun _ => true) true ts vs ds ps → (∀ x ∈ ps, x.block < W.heap.size) → DataW.TrodAll enc P W' 0 (fun b => decide (b < W.heap.size)) true ts vs ds ps
  | [], vs, ds, ps, _, h, _ => by
    obtain ⟨rfl, rfl, rfl⟩ := trodAll_nil h
    rfl
  | t :: ts, vs, ds, ps, ht, h, hlt => by
    obtain ⟨v, vs1, d, ds1, a, b, rfl, rfl, rfl, h1, h2⟩ := trodAll_cons h
    simp only [List.all_cons, Bool.and_eq_true, decide_eq_true_eq] at ht
    refine ⟨a, b, ?_, trodAll_stays hl hk ht.2 h2 (fun x hx => hlt x (List.mem_append_right _ hx)), rfl⟩
    refine WideElems.Trod_stays hl ht.1.1 ht.1.2 h1 (fun x hx => ?_) (fun x hx => by simpa using hlt x (List.mem_append_left _ hx))
    have := hlt x (List.mem_append_left _ hx)
    cases x with
    | cell b o => exact World.cell?_of_block (w := W) (hk b this)
    | map b => exact hk b this

theorem law_post {f : Func} {s : ChangeSpec} {args : Array Value} {ds gs : List (DataW H)} {before : List MemPlace} {tb : TypeId} (hvars : s.vars = []) (hres : f.resultTypes = #[tb]) (htb : P.underlying tb = some .bool)
    (hfn : s.fn H (ds ++ gs) = { results := [.lit (.bool true)], args := ds }) (hl : laidOutB P = true) (hpar : (f.params.toList.all fun t => P.readableRec t && decide (t < P.types.size)) = true)
    (hW : DataW.Whole enc P f.params.toList s.vars false W args.toList ds gs before) (hs : W.heap.size ≤ W'.heap.size) (hk : ∀ b, b < W.heap.size → W'.heap[b]? = W.heap[b]?) (ho : Oo W W') :
    s.post enc P f false true false false W args (.bool true) W' := by
  have hlt := hW.lt
  have hW0 := hW
  obtain ⟨p, q, hA, hV, rfl, hfz, hnd⟩ := hW0
  rw [hvars] at hV
  obtain ⟨rfl, rfl⟩ := trodVars_none hV
  refine ⟨ds, [], p ++ [], [], p, [], hW, ?_, ?_, ?_, ⟨ho.1, ho.2, fun i hi => ?_⟩, fun h => by cases h⟩
  · rw [hfn, hres]
    exact trodAll_mk1 (shut_bool htb _)
  · rw [hfn]
    exact trodAll_stays hl hk hpar hA (fun x hx => hlt x (List.mem_append_left _ hx))
  · rw [hfn, hvars]; rfl
  · rw [hk i hi]
    split <;> simp_all
end
end Go.Den
namespace Go.Den
open Go
attribute [go_sem] Int.cast_ofNat_Int implies_true forall_const
abbrev oo (d : Nat) (op : Op) : SO := ⟨some d, op, none⟩
abbrev ot (d : Nat) (op : Op) (g : Nat) : SO := ⟨some d, op, some (some g, true)⟩
abbrev of (d : Nat) (op : Op) (g : Nat) : SO := ⟨some d, op, some (some g, false)⟩
abbrev oM (a : Nat) : Op := .move (.tmp a)
abbrev oL (t a : Nat) : Op := .load t (.tmp a)
abbrev oI (t a b : Nat) : Op := .indexAddr t (.tmp a) (.tmp b)
abbrev oF (t a f : Nat) : Op := .fieldAddr t (.tmp a) f
abbrev oB (o : BinOp) (t a b : Nat) : Op := .binOp o t (.tmp a) (.tmp b) t
abbrev oC (o : BinOp) (t a : Nat) (n : Int) : Op := .binOp o t (.tmp a) (.const (.int .i64 n)) t
abbrev oN (a t : Nat) : Op := .call ⟨.builtin .len, #[.tmp a], #[t]⟩
abbrev oA (a b t : Nat) : Op := .call ⟨.builtin .append, #[.tmp a, .tmp b], #[t, t]⟩
abbrev oS (t a : Nat) : Op := .buildSlice t 1 #[(0, .tmp a)]
abbrev oG (a : Nat) : Op := .assign (.tmp a)
abbrev oi (n : Int) : Op := .assign (.const (.int .i64 n))
abbrev on : Op := .assign (.const (.slice none 0 0))
abbrev o1 (f a t : Nat) : Op := .call ⟨.value (.func f), #[.tmp a], #[t]⟩
abbrev o2 (f a b t u : Nat) : Op := .call ⟨.value (.func f), #[.tmp a, .tmp b], #[t, u]⟩
abbrev oX (a i : Nat) : Op := .extract (.tmp a) i
abbrev ow (t a v : Nat) : SO := ⟨none, .store t (.tmp a) (.tmp v), none⟩
def pth : Nat → Nat → List Nat → List Nat
  | 0, _, acc => acc
  | f + 1, n, acc => match Nat.ble n 1 with
    | true => acc
    | false => pth f (n / 2) (n % 2 :: acc)
def nv (n : Nat) (f : Func) : Code := nav (pth 200 n []) (bodyOf f)
section
variable {T : Tab} {k : V → Prog}
theorem imax_eq (a b : Int) : (if b > a then b else a) = max a b := by
  by_cases h : b > a
  · rw [if_pos h]; omega
  · rw [if_neg h]; omega
@[go_sem] theorem bi_max2 (kd : IntKind) (a b : Int) (ts : List TypeId) : builtinP T .max ts [.int kd a, .int kd b] k = k (.int kd (max a b)) := by
  simp only [builtinP, maxK, asInt, toP, imax_eq]
end
end Go.Den
namespace Go.Den
open Go
section
variable {T : Tab} {α : Type} {k : V → Option α}
def isSl : TD → Bool
  | .slice _ => true
  | _ => false
@[go_sem] theorem isSl_s (e : TypeId) : isSl (.slice e) = true := rfl
theorem isSl_inv {d : TD} (h : isSl d = true) : ∃ e, d = .slice e := by cases d <;> first | exact ⟨_, rfl⟩ | cases h
@[go_sem] theorem bin_ref_eql (t id z : Nat) (l : List V) (h : isSl (T.td t) = true) : binK T .eql t (.ref id) (.sl false z l) k = k (.bool false) := by
  obtain ⟨e, h⟩ := isSl_inv h
  simp only [binK, eqD, eqT, h, optK]
@[go_sem] theorem bin_sub_eql (t id a b z : Nat) (l : List V) (h : isSl (T.td t) = true) : binK T .eql t (.sub id a b) (.sl false z l) k = k (.bool false) := by
  obtain ⟨e, h⟩ := isSl_inv h
  simp only [binK, eqD, eqT, h, optK]
@[go_sem] theorem bin_sl_eql (t z z' : Nat) (a : Bool) (l l' : List V) (h : isSl (T.td t) = true) : binK T .eql t (.sl a z l) (.sl false z' l') k = k (.bool (!a)) := by
  obtain ⟨e, h⟩ := isSl_inv h
  simp only [binK, eqD, eqT, h, optK]
theorem needT {p : Prop} [Decidable p] (h : p) (x : Option α) : need (decide p) x = x := by rw [decide_eq_true h]; rfl
end
end Go.Den
namespace Go.Den
open Go
@[go_sem] theorem gcO_eq (fp : Nat) (vs : List V) (H : Heap) : gcO fp vs H = need (Nat.ble fp H.length) (reach 10000 (rowsIds (H.take fp) ++ idsL vs) (List.range fp).reverse H) := rfl
@[go_sem] theorem rowsIds_nil : rowsIds [] = [] := rfl
@[go_sem] theorem rowsIds_f (b : Bool) (t : TypeId) (l : List V) (r : Heap) : rowsIds (.cells b false t l :: r) = idsL l ++ rowsIds r := rfl
@[go_sem] theorem rowsIds_t (b : Bool) (t : TypeId) (l : List V) (r : Heap) : rowsIds (.cells b true t l :: r) = rowsIds r := rfl
end Go.Den
namespace Go.Den
open Go
theorem appRow_ne {T : Tab} {k : V → Prog} (e id : Nat) (xs : List V) (h : xs.isEmpty = false) (fl : Bool) (ety : TypeId) (l : List V) : appRow T e id xs k (.cells false fl ety l) =
    needP (T.size ety == T.size e) (needP (decide ((l ++ xs).length < maxRow)) (.set id .dead (newP (.cells false (fl && pureL xs) ety (l ++ xs)) fun id' => k (.ref id')))) := by
  cases xs with
  | nil => cases h
  | cons x r => rfl
end Go.Den
namespace Go.Den
open Go
section
variable (T : Tab) (k : V → Prog)
end
@[go_sem] theorem newRowsP_nil (k : Prog) : newRowsP [] k = k := rfl
@[go_sem] theorem newRowsP_c (b f : Bool) (t : TypeId) (l : List V) (rs : Heap) (k : Prog) : newRowsP (.cells b f t l :: rs) k = .new (.cells b f t l) (newRowsP rs k) := rfl
@[go_sem] theorem frzAllP_nil (g : Nat → Nat) (Fz : Nat) (k : Prog) : frzAllP g Fz [] k = k := rfl
section
variable {T : Tab}
end
section
variable {α : Type} {T : Tab}
end
section
variable (T : Tab)
def clrRow (id a n : Nat) (e : TypeId) (k : Prog) : Row → Prog
  | .cells false fl ety l => needP (T.size ety == T.size e && isEl (T.size e) (T.zero e)) (.set id (.cells false (fl && pureV (T.zero e)) ety (l.take a ++ (List.replicate n (T.zero e) ++ l.drop (a + n)))) k)
  | _ => .fail
def clrP (d : TD) (x : V) (k : Prog) : Prog := match d, x with
  | .slice e, .sub id a n => .isFz id fun z => needP (!z) (.get id (clrRow T id a n e k))
  | .slice _, .sl _ _ [] => k
  | _, _ => .fail
@[go_sem] theorem bi_clear (t : TypeId) (ts : List TypeId) (x : V) (k : V → Prog) : builtinP T .clear (t :: ts) [x] k = clrP T (T.td t) x (k (.tup [])) := by
  cases x with
  | sub id a n =>
    simp only [builtinP, clrP]
    cases T.td t <;> (try rfl)
    simp only
    congr 1; funext z
    cases z
    · simp only [Bool.not_false, needP]
      congr 1; funext row
      unfold clrRow
      cases row with
      | cells b fl ety l => cases b <;> simp only [beq_nat, needP]
      | _ => rfl
    · rfl
  | sl b z l => cases l <;> (simp only [builtinP, clrP]; cases T.td t <;> rfl)
  | _ => simp only [builtinP, clrP]; cases T.td t <;> rfl
@[go_sem] theorem clrP_sub (e : TypeId) (id a n : Nat) (k : Prog) : clrP T (.slice e) (.sub id a n) k = .isFz id fun z => needP (!z) (.get id (clrRow T id a n e k)) := rfl
@[go_sem] theorem clrRow_c (id a n : Nat) (e ety : TypeId) (fl : Bool) (l : List V) (k : Prog) : clrRow T id a n e k (.cells false fl ety l) =
    needP (T.size ety == T.size e && isEl (T.size e) (T.zero e)) (.set id (.cells false (fl && pureV (T.zero e)) ety (l.take a ++ (List.replicate n (T.zero e) ++ l.drop (a + n)))) k) := rfl
end
section
variable {α : Type} {T : Tab}
end
section
variable {T : Tab} {ih : Ih}
def afterR (T : Tab) (f : Nat) (ids : List Nat) (k : V → Prog) (q : V × Heap × Nat × Stk) : Prog :=
  optP (reach 10000 (List.range ids.length ++ idsV q.1) [] q.2.1) fun rs => .base fun b =>
    setRowsP ids (mapRows (backId ids (newIds ids.length rs) b) (q.2.1.take ids.length)) (newRowsP (mapRows (backId ids (newIds ids.length rs) b) (pick q.2.1 (newIds ids.length rs)))
      (frzAllP (backId ids (newIds ids.length rs) b) q.2.2.1 rs (match q.2.2.2 with | [] => toP (resK T f (mapH (backId ids (newIds ids.length rs) b) q.1) fun v => some (k v)) | _ => .fail)))
theorem callP_r {f : Nat} {args : List V} {k : V → Prog} (h : T.byref f = true) (hy : yldL args = false) : callP ih T f args k = reachP 10000 (idsL args) [] fun ids => maskP ids 0 0 fun Fz => rowsP ids [] fun rows => optP (ih.call f (mapHL (idx ids) args) (mapRows (idx ids) rows) Fz []) (afterR T f ids k) := by
  unfold callP
  rw [h]
  simp only [hy, withStk]
  rfl
@[go_sem] theorem afterR_eq (f : Nat) (ids : List Nat) (k : V → Prog) (v : V) (H' : Heap) (Fz' : Nat) : afterR T f ids k (v, H', Fz', []) =
  optP (reach 10000 (List.range ids.length ++ idsV v) [] H') fun rs => .base fun b =>
    setRowsP ids (mapRows (backId ids (newIds ids.length rs) b) (H'.take ids.length)) (newRowsP (mapRows (backId ids (newIds ids.length rs) b) (pick H' (newIds ids.length rs)))
      (frzAllP (backId ids (newIds ids.length rs) b) Fz' rs (toP (resK T f (mapH (backId ids (newIds ids.length rs) b) v) fun v => some (k v))))) := rfl
variable (n id : Nat) (w seen : List Nat) (k : List Nat → Prog)
def reachPR : Row → Prog
  | .cells _ false _ l => reachP n (idsL l ++ w) (id :: seen) k
  | _ => reachP n w (id :: seen) k
@[go_sem] theorem reachP_nil : reachP (n + 1) [] seen k = k seen.reverse := rfl
@[go_sem] theorem reachP_cons : reachP (n + 1) (id :: w) seen k = br (seen.any fun x => id == x) (reachP n w seen k) (.get id (reachPR n id w seen k)) := by
  rw [reachP]
  have e : seen.any (Nat.beq id) = seen.any fun x => id == x := by congr 1; funext x; rw [beq_nat]
  rw [e]
  cases seen.any fun x => id == x
  · rfl
  · rfl
@[go_sem] theorem reachPR_t (b : Bool) (t : TypeId) (l : List V) : reachPR n id w seen k (.cells b true t l) = reachP n w (id :: seen) k := rfl
@[go_sem] theorem reachPR_f (b : Bool) (t : TypeId) (l : List V) : reachPR n id w seen k (.cells b false t l) = reachP n (idsL l ++ w) (id :: seen) k := rfl
variable (m : Nat) (r : List Nat) (k' : Nat → Prog) (kh : Heap → Prog)
@[go_sem] theorem maskP_nil : maskP [] n m k' = k' m := rfl
@[go_sem] theorem maskP_cons : maskP (id :: r) n m k' = .isFz id fun z => maskP r (n + 1) (cond z (m ||| bit n) m) k' := by
  rw [maskP]; congr 1
@[go_sem] theorem rowsP_nil (acc : Heap) : rowsP [] acc kh = kh acc.reverse := rfl
@[go_sem] theorem rowsP_cons (acc : Heap) : rowsP (id :: r) acc kh = .get id fun row => rowsP r (row :: acc) kh := rfl
@[go_sem] theorem setRowsP_nil (p : Prog) : setRowsP [] [] p = p := rfl
@[go_sem] theorem setRowsP_cons (row : Row) (rows : Heap) (p : Prog) : setRowsP (id :: r) (row :: rows) p = .set id row (setRowsP r rows p) := rfl
@[go_sem] theorem newIds_nil : newIds n [] = [] := rfl
@[go_sem] theorem newIds_cons (x : Nat) : newIds n (x :: r) = cond (decide (x < n)) (newIds n r) (x :: newIds n r) := by
  rw [newIds]
  have : Nat.blt x n = decide (x < n) := by rw [Bool.eq_iff_iff]; simp [Nat.blt, Nat.succ_le_iff]
  rw [this]; cases decide (x < n) <;> rfl
theorem backId_eq (ids new : List Nat) (at_ x : Nat) : backId ids new at_ x = cond (decide (x < ids.length)) (match ids[x]? with | some id => id | none => 0) (at_ + idx new x) := by
  unfold backId
  have : Nat.blt x ids.length = decide (x < ids.length) := by rw [Bool.eq_iff_iff]; simp [Nat.blt, Nat.succ_le_iff]
  rw [this]; cases decide (x < ids.length) <;> rfl
theorem frzAllP_cons (g : Nat → Nat) (Fz x : Nat) (p : Prog) : frzAllP g Fz (x :: r) p = br (Fz.testBit x) (.frz (g x) (frzAllP g Fz r p)) (frzAllP g Fz r p) := by
  rw [frzAllP]; cases Fz.testBit x <;> rfl
end
def eqbL (eq : V → V → Bool) : List V → List V → Bool
  | [], [] => true
  | a :: as, b :: bs => (match eq a b with | true => eqbL eq as bs | false => false)
  | _, _ => false
def eqb : Nat → V → V → Bool
  | 0, _, _ => false
  | n + 1, a, b => match a, b with
    | .bool a, .bool b => (match a, b with | true, true => true | false, false => true | _, _ => false)
    | .int .i64 a, .int .i64 b => a == b
    | .flt .f64 a, .flt .f64 b => Nat.beq a b
    | .str a, .str b => a == b
    | .nilp, .nilp => true
    | .nilf, .nilf => true
    | .sl a w l, .sl b w' l' => (match a, b with
      | true, true => (match Nat.beq w w' with | true => eqbL (eqb n) l l' | false => false)
      | false, false => (match Nat.beq w w' with | true => eqbL (eqb n) l l' | false => false)
      | _, _ => false)
    | .agg l, .agg l' => eqbL (eqb n) l l'
    | _, _ => false
theorem eqbL_eq {eq : V → V → Bool} (h : ∀ a b, eq a b = true → a = b) : ∀ a b, eqbL eq a b = true → a = b
  | [], [], _ => rfl
  | a :: as, b :: bs, h' => by
    simp only [eqbL] at h'
    split at h'
    · rename_i h1
      rw [h _ _ h1, eqbL_eq h as bs h']
    · cases h'
  | [], _ :: _, h' => by simp [eqbL] at h'
  | _ :: _, [], h' => by simp [eqbL] at h'
theorem eqb_eq : ∀ n a b, eqb n a b = true → a = b := by
  intro n
  induction n with
  | zero => intro a b h; simp [eqb] at h
  | succ n ih =>
    intro a b h
    unfold eqb at h
    split at h
    · split at h <;> simp_all
    · simpa using h
    · simpa using h
    · simpa using h
    · rfl
    · rfl
    · split at h
      · split at h
        · rename_i h1; rw [eqbL_eq ih _ _ h, Nat.eq_of_beq_eq_true h1]
        · cases h
      · split at h
        · rename_i h1; rw [eqbL_eq ih _ _ h, Nat.eq_of_beq_eq_true h1]
        · cases h
      · cases h
    · rw [eqbL_eq ih _ _ h]
    · cases h
abbrev Memo := List (FuncId × List V × V)
def memoGet : Memo → FuncId → List V → Option V
  | [], _, _ => none
  | (g, as, v) :: m, f, args => match Nat.beq g f with
    | true => (match eqbL (eqb 12) as args with | true => some v | false => memoGet m f args)
    | false => memoGet m f args
def evM (T : Tab) (M : Memo) : Nat → Ih
  | 0 => { loop := fun _ _ _ => none, call := fun _ _ _ _ _ => none, yld := fun _ _ _ => none }
  | n + 1 =>
    { loop := (stepE T (evM T M n)).loop
      yld := (stepE T (evM T M n)).yld
      call := fun f args H Fz S => match H, Fz, S with
        | [], 0, [] => (match memoGet M f args with
          | some v => some (v, [], 0, [])
          | none => (stepE T (evM T M n)).call f args [] 0 [])
        | H, Fz, S => (stepE T (evM T M n)).call f args H Fz S }
def MemoOk (T : Tab) (M : Memo) : Prop := ∀ e ∈ M, (lim T).call e.1 e.2.1 [] 0 [] = some (e.2.2, [], 0, [])
theorem MemoOk.nil (T : Tab) : MemoOk T [] := fun _ h => absurd h (List.not_mem_nil)
theorem MemoOk.cons {T : Tab} {M : Memo} {f args v} (h : MemoOk T M) (h' : (lim T).call f args [] 0 [] = some (v, [], 0, [])) : MemoOk T ((f, args, v) :: M) := by
  intro e he
  rcases List.mem_cons.1 he with rfl | he
  · exact h'
  · exact h e he
theorem memoGet_ok {T : Tab} : ∀ {M : Memo}, MemoOk T M → ∀ {f args v}, memoGet M f args = some v → (lim T).call f args [] 0 [] = some (v, [], 0, [])
  | [], _, f, args, v, h => by simp [memoGet] at h
  | (g, as, u) :: m, hM, f, args, v, h => by
    have hm : MemoOk T m := fun e he => hM e (List.mem_cons_of_mem _ he)
    unfold memoGet at h
    split at h
    · rename_i h1
      split at h
      · rename_i h2
        have h3 := hM (g, as, u) (List.mem_cons_self)
        have := Nat.eq_of_beq_eq_true h1
        have e := eqbL_eq (eqb_eq 12) _ _ h2
        cases h
        subst this e
        exact h3
      · exact memoGet_ok hm h
    · exact memoGet_ok hm h
theorem evM_le {T : Tab} {M : Memo} (hM : MemoOk T M) : ∀ n, (evM T M n).le (lim T) := by
  intro n
  induction n with
  | zero => exact ⟨fun f args H Fz S r h => by simp [evM] at h, fun rnd items st r h => by simp [evM] at h, fun d args S r h => by simp [evM] at h⟩
  | succ n ih =>
    have hs : (stepE T (evM T M n)).le (lim T) := ((stepE_apx T ih.apx).le).trans (step_le_lim T)
    refine ⟨fun f args H Fz S r h => ?_, hs.loop, hs.yld⟩
    simp only [evM] at h
    split at h
    · split at h
      · rename_i h1
        cases h
        exact memoGet_ok hM h1
      · exact hs.call _ _ _ _ _ _ h
    · exact hs.call _ _ _ _ _ _ h
theorem memo_call {T : Tab} {M : Memo} (hM : MemoOk T M) (n : Nat) {f args r} (h : (evM T M n).call f args [] 0 [] = some r) : (lim T).call f args [] 0 [] = some r := (evM_le hM n).call _ _ _ _ _ _ h
end Go.Den
