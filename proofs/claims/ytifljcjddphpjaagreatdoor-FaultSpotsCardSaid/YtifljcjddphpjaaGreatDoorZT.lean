import Derived.Test.YtifljcjddphpjaaGreatDoorZS
import Derived.Sort.OwnSortedInts
set_option linter.all false
set_option maxHeartbeats 8000000
set_option maxRecDepth 100000
namespace Go.Den
open Go Go.RowKit Go.Sort
def intsOf : List V → Option (List Int)
  | [] => some []
  | .int .i64 n :: r => (match intsOf r with | some s => some (n :: s) | none => none)
  | _ :: _ => none
theorem intsOf_inv : ∀ {l : List V} {zs : List Int}, intsOf l = some zs → l = zs.map (V.int .i64)
  | [], zs, h => by simp [intsOf] at h; subst h; rfl
  | v :: r, zs, h => by
    unfold intsOf at h
    split at h
    · rename_i h0; cases h0
    · rename_i n r' h0
      cases h0
      split at h
      · rename_i s hs
        cases h
        rw [List.map_cons, intsOf_inv hs]
      · cases h
    · cases h
theorem intsOf_map (zs : List Int) : intsOf (zs.map (V.int .i64)) = some zs := by
  induction zs with
  | nil => rfl
  | cons n r ih => simp only [List.map_cons, intsOf, ih]
def sortZ (zs : List Int) : List Int := zs.mergeSort fun x y => decide (x ≤ y)
def sortV (args : List V) (H : Heap) (Fz : Nat) (S : Stk) : Option (V × Heap × Nat × Stk) :=
  match args, H, Fz, S with
  | [.ref 0], [.cells false fl ty l], 0, [] => (match intsOf l with
    | some zs => (match Nat.blt zs.length 1000000 with
      | true => some (.tup [], [.cells false fl ty ((sortZ zs).map (V.int .i64))], 0, [])
      | false => none)
    | none => none)
  | _, _, _, _ => none
theorem sortV_inv {args : List V} {H : Heap} {Fz : Nat} {S : Stk} {r : V × Heap × Nat × Stk} (h : sortV args H Fz S = some r) : ∃ fl ty zs, args = [.ref 0] ∧ H = [.cells false fl ty (zs.map (V.int .i64))] ∧ Fz = 0 ∧ S = [] ∧ zs.length < 1000000 ∧
    r = (.tup [], [.cells false fl ty ((sortZ zs).map (V.int .i64))], 0, []) := by
  unfold sortV at h
  split at h
  · split at h
    · rename_i zs hz
      split at h
      · rename_i hl
        cases h
        exact ⟨_, _, zs, rfl, by rw [intsOf_inv hz], rfl, rfl, by simpa [Nat.blt_eq] using hl, rfl⟩
      · cases h
    · cases h
  · cases h
section
variable {P : Program} {T : Tab} {G : Gh} {w w' : World}
theorem heap_setg {m : Mem} {id : Nat} {r r0 : Row} {g : RG} (h : HeapRel G T w m.H m.Fz) (hM : MRel G T w) (hr0 : m.H[id]? = some r0) (hg : G.R id = .live g) (hMn : G.M g.blk = none)
    (hw : ∀ b, b < w.heap.size → b ≠ g.blk → w'.heap[b]? = w.heap[b]?) (hs : w.heap.size ≤ w'.heap.size) (hr : RowRel G T w' m.Fz id r) (hO : Oo w w') :
    Step G w G w' ∧ HeapRel G T w' (m.H.set id r) m.Fz ∧ MRel G T w' := by
  have hlt : id < m.H.length := (List.getElem?_eq_some_iff.1 hr0).1
  refine ⟨⟨.refl G, hs, fun b hb => .inl hb, fun b c hc => .inl hc, fun b hb hn => hw b hb fun e => hn ⟨id, g, hg, e.symm⟩, hO⟩, ?_, ⟨fun b c hc => ?_, hM.glob⟩⟩
  · refine h.upd (.refl G) (fun j r' hj => ?_) (fun j hj => ?_) (fun j hj => by simpa using h.fz j hj) h.inj
    · by_cases hji : id = j
      · subst hji
        simp only [List.getElem?_set, if_true, hlt, Option.some.injEq] at hj
        subst hj
        exact .inr hr
      · rw [List.getElem?_set_ne hji] at hj
        exact .inl ⟨hj, rfl, rfl, fun a ha => ⟨hw _ (h.lt ⟨j, a, ha, rfl⟩) fun e => hji (h.inj _ _ _ _ hg ha e.symm), rfl⟩⟩
    · by_cases hji : id = j
      · subst hji; simp [List.getElem?_set, hlt] at hj
      · rw [List.getElem?_set_ne hji] at hj; exact h.out j hj
  · obtain ⟨o', hc', hob⟩ := hM.mem b c hc
    exact ⟨o', (hw b (hM.lt hc) fun e => by rw [e, hMn] at hc; cases hc).trans hc', hob⟩
theorem flat_i64 : ∀ zs : List Int, flat (zs.map (V.int .i64)) = zs.map (V.int .i64)
  | [] => rfl
  | s :: r => by
    have := flat_i64 r
    unfold flat at this ⊢
    rw [List.map_cons, List.flatMap_cons, this]; rfl
theorem pure_ints : ∀ zs : List Int, pureL (zs.map (V.int .i64)) = true := by
  intro zs
  refine pureL_iff.2 fun v hv => ?_
  obtain ⟨z, _, rfl⟩ := List.mem_map.1 hv
  rfl
theorem sort_ok {f : FuncId} (hb : T.byref f = true)
    (hS : ∀ (blk off cap : Nat) (zs : List Int) (w : World), Holds (Value.int .i64) w blk off zs.toArray → blk < w.heap.size → zs.length < 4611686018427387904 →
      Calls P f #[.slice (some ⟨blk, off, none⟩) zs.length cap] w fun e w' => e = .returned (.tuple #[]) ∧ ∃ n os, w' = grow (putRow (Value.int .i64) (Sort.ahead w n) blk off (zs.mergeSort fun x y => decide (x ≤ y)).toArray) os)
    {args : List V} {H : Heap} {Fz : Nat} {S : Stk} {v : V} {H' : Heap} {Fz' : Nat} {S' : Stk} (h : sortV args H Fz S = some (v, H', Fz', S')) (Os : List OG) {xs : Array Value} (hx : RelLT G Os args xs) (hg : Good T G Os w ⟨H, Fz, S⟩) :
    CallsIn Fence.wide 0 P f xs w fun e w' => ∃ y G' Os', e = .returned y ∧ Rel G' v y ∧ Stp (fun _ => False) G Os w G' Os' w' ∧ Good T G' Os' w' ⟨H', Fz', S'⟩ ∧ (T.byref f = false → H' = [] ∧ pureV v = true) := by
  obtain ⟨fl, ty, zs, rfl, rfl, rfl, rfl, hzl, hr⟩ := sortV_inv h
  cases hr
  obtain ⟨x, hxs, hxr⟩ : ∃ x, xs = #[x] ∧ Rel G (.ref 0) x := by
    obtain ⟨hl, h2⟩ := hx
    match hq : xs.toList, hl with
    | [x], _ =>
      refine ⟨x, Array.ext' (by simpa using hq), ?_⟩
      have := h2 0 (.ref 0) x rfl (by rw [hq]; rfl)
      exact this.rel rfl
  subst hxs
  obtain ⟨g, hgl, h1, h2, h3, h4, h5, c, e, hc, hs, hcs, hz1, hz2⟩ := hg.heap.rows 0 _ rfl
  cases hxr with
  | ref _ a n cap hf hh =>
    obtain ⟨rfl, hn, hcap, hroom⟩ := hh g hgl
    have hMn := hz2 (Nat.zero_testBit 0)
    have hlen : n = zs.length := by rw [hn, h1]; simp
    subst hlen
    have hblk : g.blk < w.heap.size := (Array.getElem?_eq_some_iff.1 hc).1
    have hsz : ∀ z ∈ zs, g.sz = 1 := by
      intro z hz
      have := h4 (.int .i64 z) (List.mem_map_of_mem hz)
      simp only [isEl, Bool.and_eq_true] at this
      exact Nat.eq_of_beq_eq_true this.1
    have hroom1 : zs.length ≤ c.size := by
      cases zs with
      | nil => simp
      | cons z r => rw [hs]; rw [hsz z (by simp), Nat.mul_one, h1, List.length_map] at h3; exact h3
    have htake : c.toList.take zs.length = zs.map (Value.int .i64) := by
      apply List.ext_getElem?
      intro j
      by_cases hj : j < zs.length
      · rw [List.getElem?_take_of_lt hj, Array.getElem?_toList]
        obtain ⟨y, hy, hyr⟩ := hcs j (.int .i64 zs[j]) (by rw [flat_i64]; simp [hj])
        rw [hy]
        cases hyr
        simp [hj]
      · rw [List.getElem?_take_eq_none (by omega), List.getElem?_eq_none (by simp; omega)]
    have hH := holds_of_blockI hc htake
    refine (callsIn_wide.2 (hS g.blk 0 cap zs w hH hblk (by omega))).mono ?_
    rintro e' w' ⟨rfl, n, os, rfl⟩
    generalize hts : (zs.mergeSort fun x y => decide (x ≤ y)) = ts
    have htl : ts.length = zs.length := by rw [← hts]; exact (List.mergeSort_perm zs _).length_eq
    have hmem : ∀ z ∈ ts, z ∈ zs := fun z hz => (List.mergeSort_perm zs _).mem_iff.1 (hts ▸ hz)
    obtain ⟨g1, g2, g3, g4, g5⟩ := grownBy_sortedI (w := w) (g := g.blk) (n := n) (os := os) ts.toArray
    have hnew := heap_sortedI (n := n) (os := os) ts.toArray hc
    have htk := take_putCellsI c ts (by omega)
    obtain ⟨s1, s2, s3⟩ := heap_setg (w' := grow (putRow (Value.int .i64) (Sort.ahead w n) g.blk 0 ts.toArray) os) (r := .cells false fl ty (ts.map (V.int .i64))) hg.heap hg.mem (id := 0) rfl hgl hMn
      (fun b hb hne => g5 b hb (fun e => hne (by cases e; rfl))) g4
      ⟨g, hgl, by rw [h1, List.length_map, List.length_map, htl], h2, h3, fun v hv => by
          obtain ⟨z, hz, rfl⟩ := List.mem_map.1 hv
          rw [hsz z (hmem z hz)]; rfl, fun _ => pure_ints ts, _, e, hnew, by simp [putCells, hs], fun k u hu => by
          rw [flat_i64, List.getElem?_map] at hu
          cases hk : ts[k]? with
          | none => rw [hk] at hu; cases hu
          | some z =>
            rw [hk] at hu; cases hu
            have hkl : k < ts.length := (List.getElem?_eq_some_iff.1 hk).1
            refine ⟨.int .i64 z, ?_, .int _ _⟩
            have h6 := congrArg (fun l => l[k]?) htk
            simp only [List.getElem?_take_of_lt hkl, Array.getElem?_toList, List.getElem?_map, hk] at h6
            exact h6, fun hz => absurd hz (by show ¬ Nat.testBit 0 0 = true; simp), fun _ => hMn⟩ ⟨rfl, rfl⟩
    refine ⟨.tuple #[], G, Os, rfl, .tup _ _ rfl (fun i v x hv => by simp at hv), s1.stp Os, ?_, fun hf => (by rw [hb] at hf; cases hf)⟩
    have e1 : sortZ zs = ts := hts
    rw [e1]
    exact hg.local s1 s2 s3 rfl
end
def withSort (f : Nat) (ih : Ih) : Ih := { ih with call := fun g args H Fz S => match Nat.beq g f with | true => sortV args H Fz S | false => ih.call g args H Fz S }
theorem lim_ok {P : Program} {T : Tab} (hT : TabOk P T) (hF : FnsOk P T) : EvOk P T (lim T) := by
  refine ⟨lim_snd hT hF, ?_, ?_⟩
  · intro d args S b S' h
    obtain ⟨n, hn⟩ := lim_yld.1 h
    exact (ev_snd hT hF n).yld d args S b S' hn
  · intro rnd b k st out h
    obtain ⟨n, hn⟩ := lim_loop.1 h
    exact (ev_snd hT hF n).loop rnd b k st out hn
theorem step_ok {P : Program} {T : Tab} (hT : TabOk P T) (hF : FnsOk P T) {ih : Ih} (hI : EvOk P T ih) : EvOk P T (stepE T ih) := by
  have hrun : ∀ rnd items st out, runK ih T rnd segFuel items st = some out → RunGoal P T rnd items st out := fun rnd items st out h =>
    run_snd hT hF (callP_ok hT hF hI.call) hI.yld hI.loop segFuel rnd items st out h
  refine ⟨?_, ?_, ?_⟩
  · intro f args H Fz S v H' Fz' S' h G Os w xs hx hg hb
    exact call_snd hT hF (hrun false) h hx hg hb
  · intro d args S b S' h G Os w H Fz xs hx hpu hyl hg
    exact yld_snd hT (hrun true) h hx hpu hyl hg
  · intro rnd b k st out h
    simp only [stepE] at h
    exact hrun rnd _ _ _ h
end Go.Den
namespace Go.Den
open Go
theorem prim_of_ih {P : Program} {T0 T : Tab} {ih : Ih} (hS : CallOk P T0 ih) (hgl : T.glob = T0.glob) {f : FuncId} {args : List V} {v : V} (hb : T0.byref f = false) (hc : ih.call f args [] 0 [] = some (v, [], 0, []))
    (hen : ∀ (xs : Array Value) (w : World), (callFunc f xs).run P w = .ok (.enter f xs) w) (G : Gh) (w : World) (xs : Array Value) (hx : LRel G args xs.toList) (hp : pureL args = true) (hM : MRel G T w) :
    (callFunc f xs).run P w = .ok (.enter f xs) w ∧ CallsIn Fence.wide 0 P f xs w fun e w' => ∃ y G', e = .returned y ∧ Rel G' v y ∧ pureV v = true ∧ Step G.bare w G' w' ∧ HeapRel G' T w' [] 0 ∧ MRel G' T w' := by
  have hM0 : MRel G T0 w := ⟨hM.mem, by rw [← hgl]; exact hM.glob⟩
  have hxb : RelLT G.bare [] args xs := ⟨hx.1, fun i a b ha hb => ((hx.2 i a b ha hb).bare (pureL_iff.1 hp a (List.mem_of_getElem? ha))).toT⟩
  have hgb : Good T0 G.bare [] w ⟨[], 0, []⟩ := ⟨heap_bare G w, hM0.bare, ⟨rfl, fun d own O hd => by simp at hd, fun d e O O' b hO => by simp at hO⟩, fun b hb => absurd hb bare_owns⟩
  refine ⟨hen xs w, (hS f args [] 0 [] v [] 0 [] hc G.bare [] w xs hxb hgb (fun _ => ⟨rfl, rfl⟩)).mono ?_⟩
  rintro e w' ⟨y, G', Os', rfl, hr, hs, hg, hpv⟩
  refine ⟨y, G', rfl, hr, (hpv hb).2, ⟨hs.le, hs.size, hs.owns, fun b c hbc => ?_, fun b h1 h2 => ?_, hs.oo⟩, ?_, ⟨hg.mem.mem, by rw [hgl]; exact hg.mem.glob⟩⟩
  · rcases hs.mem b c hbc with h | h | h | h
    · exact .inl h
    · exact .inr (.inl h)
    · exact absurd h frn_nil
    · exact .inr (.inr h)
  · exact hs.keep b h1 h2 frn_nil id
  · exact ⟨fun id r h => by simp at h, hg.heap.out, fun id h => by simp at h, hg.heap.inj⟩
noncomputable def over3 (T0 : Tab) (own byref raw : List Nat) (ex : Nat → Option (List V → Option V)) : Tab :=
  { T0 with byref := fun f => byref.any (Nat.beq f), raw := fun f => raw.any (Nat.beq f), prim := fun f => match ex f with | some p => some p | none => match own.any (Nat.beq f) with | true => none | false => some (den2 T0 f) }
theorem over3_tab {P : Program} {T0 : Tab} {own by' rw' : List Nat} {ex : Nat → Option (List V → Option V)} (hT : TabOk P T0) : TabOk P (over3 T0 own by' rw' ex) :=
  ⟨fun t i h => ⟨(hT.ti t i h).sub, (hT.ti t i h).ex, (hT.ti t i h).eq⟩, fun f fn h => hT.fn f fn h⟩
theorem over3_fns {P : Program} {T0 : Tab} {own by' rw' : List Nat} {ex : Nat → Option (List V → Option V)} (hT : TabOk P T0) (hF : FnsOk P T0) (hb : ∀ f ∈ by', f ∈ own) (ho : ∀ f ∈ own, T0.byref f = true ∨ T0.prim f = none)
    (hex : ∀ f p args v, ex f = some p → p args = some v → ∃ ih fn, CallOk P T0 ih ∧ T0.byref f = false ∧ T0.prim f = none ∧ T0.fn f = some fn ∧ ih.call f args [] 0 [] = some (v, [], 0, [])) : FnsOk P (over3 T0 own by' rw' ex) := by
  refine ⟨fun f fn c h hc => ?_, fun f fn h hp => ?_, hF.mixed, ?_⟩
  · rw [codeOk_congr (T := over3 T0 own by' rw' ex) (T' := T0) rfl]; exact hF.code f fn c h hc
  · have hm : f ∈ own := by
      rcases hp with hp | hp
      · exact hb f (any_mem.1 hp)
      · simp only [over3] at hp
        split at hp
        · cases hp
        · split at hp
          · rename_i h1; exact any_mem.1 h1
          · cases hp
    obtain ⟨h1, c, h2, h3⟩ := hF.fn f fn h (ho f hm)
    exact ⟨h1, c, h2, by rw [codeOk_congr (T := over3 T0 own by' rw' ex) (T' := T0) rfl]; exact h3⟩
  · intro f p args v hp hv G w xs hx hpu hM
    simp only [over3] at hp
    split at hp
    · rename_i q hq
      cases hp
      obtain ⟨ih, fn, k1, k2, k3, k4, k5⟩ := hex f _ args v hq hv
      exact .inl (prim_of_ih k1 (T := over3 T0 own by' rw' ex) rfl k2 k5 (fun xs w => run_callFunc hT hF k4 (.inr k3) xs w) G w xs hx hpu hM)
    · split at hp
      · cases hp
      · cases hp
        unfold den2 at hv
        split at hv
        · rename_i fn hfn
          unfold shArgs at hv
          obtain ⟨hlen, hv⟩ := need_inv hv
          obtain ⟨l, hv, hl, hr⟩ := shParts_same _ _ _ _ _ hv
          obtain ⟨hpl, hv⟩ := need_inv hv
          rw [List.nil_append] at hpl hv
          have hx2 := hr G _ hx
          have hll : l.length = xs.toList.length := by rw [hl, hx.1]; exact (Nat.eq_of_beq_eq_true hlen).symm
          rw [List.take_of_length_le (by omega)] at hx2
          obtain ⟨h1, h2, ⟨fn', h3⟩, h4⟩ := den_iff hv
          exact .inl (prim_of_call (lim_snd hT hF) (T := over3 T0 own by' rw' ex) rfl h1 h4 (fun xs w => run_callFunc hT hF h3 (.inr h2) xs w) G w xs hx2 hpl hM)
        · cases hv
theorem over3_snd {P : Program} {T0 : Tab} {own by' rw' : List Nat} {ex : Nat → Option (List V → Option V)} (hT : TabOk P T0) (hF : FnsOk P T0) (hb : ∀ f ∈ by', f ∈ own) (ho : ∀ f ∈ own, T0.byref f = true ∨ T0.prim f = none)
    (hex : ∀ f p args v, ex f = some p → p args = some v → ∃ ih fn, CallOk P T0 ih ∧ T0.byref f = false ∧ T0.prim f = none ∧ T0.fn f = some fn ∧ ih.call f args [] 0 [] = some (v, [], 0, [])) : CallOk P (over3 T0 own by' rw' ex) (lim (over3 T0 own by' rw' ex)) :=
  lim_snd (over3_tab hT) (over3_fns hT hF hb ho hex)
end Go.Den
