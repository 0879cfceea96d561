import Derived.Test.YtifljcjddphpjaaGreatDoorZP
import Derived.Lib.Join
import Derived.Lib.ItoaNum
import Derived.Lib.LaidTab
import Derived.Below
import Derived.Sort.Grow
import Derived.CallsIn
import Derived.Shelf.Strconv.Itoa3
set_option linter.all false
set_option maxHeartbeats 8000000
set_option maxRecDepth 100000
namespace Go.Den
open Go Go.RowKit Go.Sort
theorem prim_end {G : Gh} {T : Tab} {w w' : World} {v : V} {y : Value} (hM : MRel G T w) (hy : ∀ G, Rel G v y) (hv : pureV v = true) (hs : w.heap.size ≤ w'.heap.size) (hk : ∀ b, b < w.heap.size → w'.heap[b]? = w.heap[b]?) (ho : Oo w w') :
    ∃ y' G', Ending.returned y = .returned y' ∧ Rel G' v y' ∧ pureV v = true ∧ Step G.bare w G' w' ∧ HeapRel G' T w' [] 0 ∧ MRel G' T w' := by
  refine ⟨y, G.bare, rfl, hy _, hv, ⟨.refl _, hs, fun b hb => .inl hb, fun b c hc => .inl hc, fun b hb _ => hk b hb, ho⟩, heap_bare G w', ?_⟩
  exact MRel.still (M := G.M) (R := G.bare.R) hM.bare (fun _ => rfl) fun b c hc => hk b (hM.lt hc)

theorem digits_eq : ∀ (f n : Nat), n < 10 ^ f → digits f n = if f = 0 then [] else Lib.decDigits n := by
  intro f
  induction f with
  | zero => intro n _; rfl
  | succ f ih =>
    intro n hn
    rw [if_neg (Nat.succ_ne_zero f)]
    unfold digits
    cases h : Nat.ble 10 n with
    | true =>
      have h10 := Nat.le_of_ble_eq_true h
      simp only
      rw [Lib.decDigits, dif_neg (by omega)]
      have hlt : n / 10 < 10 ^ f := by rw [Nat.pow_succ] at hn; omega
      rw [ih _ hlt]
      have : f ≠ 0 := by rintro rfl; simp at hn; omega
      rw [if_neg this]
    | false =>
      have h10 : n < 10 := by
        rcases Nat.lt_or_ge n 10 with h1 | h1
        · exact h1
        · rw [Nat.ble_eq_true_of_le h1] at h; cases h
      simp only
      rw [Lib.decDigits, dif_pos h10]

theorem joinL_eq (sep : List UInt8) : ∀ ss, joinL sep ss = Lib.join ss sep
  | [] => rfl
  | [s] => (Lib.join_one s sep).symm
  | s :: t :: r => by
    rw [joinL, joinL_eq sep (t :: r), Lib.join_cons, Lib.join_cons]
    simp [Lib.joinTail]
    exact fun h => by cases h
theorem strsOf_inv : ∀ {l : List V} {ss}, strsOf l = some ss → l = ss.map V.str
  | [], ss, h => by simp [strsOf] at h; subst h; rfl
  | .str s :: r, ss, h => by
    simp only [strsOf] at h
    cases hr : strsOf r with
    | none => rw [hr] at h; cases h
    | some l => rw [hr] at h; cases h; rw [List.map_cons, strsOf_inv hr]
  | .undef :: _, _, h | .bool _ :: _, _, h | .int .. :: _, _, h | .flt .. :: _, _, h | .cpl .. :: _, _, h | .nilp :: _, _, h | .nilm :: _, _, h | .nilf :: _, _, h | .nili :: _, _, h | .sl .. :: _, _, h | .pp .. :: _, _, h
  | .ref _ :: _, _, h | .sub .. :: _, _, h | .ptr .. :: _, _, h | .map _ :: _, _, h | .it _ :: _, _, h | .glob .. :: _, _, h | .fn .. :: _, _, h | .yld _ :: _, _, h | .iface .. :: _, _, h | .agg _ :: _, _, h | .tup _ :: _, _, h => by simp [strsOf] at h
theorem flat_strs : ∀ ss : List (List UInt8), flat (ss.map V.str) = ss.map V.str
  | [] => rfl
  | s :: r => by
    have := flat_strs r
    unfold flat at this ⊢
    rw [List.map_cons, List.flatMap_cons, this]; rfl

section
variable {P : Program} {T : Tab} {G : Gh} {w : World}
theorem LRel.two {a b : V} {xs : List Value} (h : LRel G [a, b] xs) : ∃ x y, xs = [x, y] ∧ Rel G a x ∧ Rel G b y := by
  obtain ⟨hl, h⟩ := h
  match xs, hl with
  | [x, y], _ => exact ⟨x, y, rfl, h 0 a x rfl rfl, h 1 b y rfl rfl⟩
theorem LRel.oneV {a : V} {xs : List Value} (h : LRel G [a] xs) : ∃ x, xs = [x] ∧ Rel G a x := by
  obtain ⟨hl, h⟩ := h
  match xs, hl with
  | [x], _ => exact ⟨x, rfl, h 0 a x rfl rfl⟩

theorem join_prim {f : FuncId}
    (hrun : ∀ xs w, (callFunc f xs).run P w = .ok (.enter f xs) w)
    (hnone : ∀ (a : Option Addr) (c : Nat) (sep : ByteArray) (w : World), Calls P f #[.slice a 0 c, .string sep] w fun e w' => e = .returned (.string ⟨#[]⟩) ∧ w' = w)
    (hj : ∀ (bk o c : Nat) (xs : List ByteArray) (sep : ByteArray) (w : World), (∀ (j : Nat) x, xs[j]? = some x → w.cell? ⟨bk, o + j, none⟩ = some (.string x)) → bk < w.heap.size → xs.length ≤ 140737488355328 → xs.length ≤ c →
      (Lib.join (xs.map (·.data.toList)) sep.data.toList).length ≤ 140737488355328 →
      Calls P f #[.slice (some ⟨bk, o, none⟩) xs.length c, .string sep] w fun e w' => e = .returned (.string ⟨(Lib.join (xs.map (·.data.toList)) sep.data.toList).toArray⟩) ∧ Below w.heap.size w w')
    {args : List V} {v : V} {xs : Array Value} (h : joinV args = some v) (hx : LRel G args xs.toList) (hM : MRel G T w) :
    (callFunc f xs).run P w = .ok (.enter f xs) w ∧ CallsIn Fence.wide 0 P f xs w fun e w' => ∃ y G', e = .returned y ∧ Rel G' v y ∧ pureV v = true ∧ Step G.bare w G' w' ∧ HeapRel G' T w' [] 0 ∧ MRel G' T w' := by
  refine ⟨hrun xs w, ?_⟩
  unfold joinV at h
  split at h
  · rename_i nn sz l sep
    cases hss : strsOf l with
    | none => rw [hss] at h; cases h
    | some ss =>
      rw [hss] at h
      simp only at h
      split at h
      · rename_i hle
        simp only [Option.some.injEq] at h
        subst h
        simp only [Bool.and_eq_true] at hle
        have hle1 := Nat.le_of_ble_eq_true hle.1
        have hle2 := Nat.le_of_ble_eq_true hle.2
        have hl := strsOf_inv hss
        subst hl
        obtain ⟨x, y, hxs, r1, r2⟩ := hx.two
        have hxs' : xs = #[x, y] := Array.ext' (by simpa using hxs)
        subst hxs'
        cases r2 with | str s _ hs =>
        have empty : ∀ a c, ss = [] → CallsIn Fence.wide 0 P f #[.slice a 0 c, .string s] w fun e w' => ∃ y G', e = .returned y ∧ Rel G' (.str (joinL sep ss)) y ∧ pureV (.str (joinL sep ss)) = true ∧ Step G.bare w G' w' ∧ HeapRel G' T w' [] 0 ∧ MRel G' T w' := by
          rintro a c rfl
          refine (callsIn_wide.2 (hnone a c s w)).mono ?_
          rintro e w' ⟨rfl, rfl⟩
          exact prim_end hM (fun _ => .str _ _ rfl) rfl (Nat.le_refl _) (fun _ _ => rfl) (.refl _)
        generalize hL : List.map V.str ss = L at r1
        cases r1 with
        | nils _ => exact empty none 0 (by simpa using hL)
        | sle _ a c => exact empty (some a) c (by simpa using hL)
        | sl _ _ b o cap fv hcap hp hE hr hv =>
          subst hL
          cases ss with
          | nil => exact empty _ cap rfl
          | cons s0 r0 =>
            generalize hss' : s0 :: r0 = ss at *
            have hne : ss ≠ [] := by rw [← hss']; simp
            have hget : ∀ (j : Nat) q, ss[j]? = some q → ∃ x : ByteArray, x.data.toList = q ∧ G.rd b (o + j) = some (.string x) := by
              intro j q hq
              have hu : (flat (ss.map V.str))[j]? = some (.str q) := by rw [flat_strs, List.getElem?_map, hq]; rfl
              have h1 := hr j _ hu
              have h2 := hv j _ hu
              cases h3 : fv j <;> rw [h3] at h2 <;> cases h2
              rename_i x hx'
              exact ⟨x, hx', by rw [h1, h3]⟩
            have cell : ∀ k u, G.rd b k = some u → w.cell? ⟨b, k, none⟩ = some u ∧ b < w.heap.size := by
              intro k u hk
              unfold Gh.rd at hk
              cases hb : G.M b with
              | none => rw [hb] at hk; cases hk
              | some c =>
                rw [hb] at hk
                obtain ⟨o', he, hob⟩ := hM.mem b c hb
                simp only [Option.bind_some] at hk
                obtain ⟨c, e, fr, rfl, rfl, hk⟩ := ObjC.cells hob hk
                refine ⟨?_, hM.lt hb⟩
                unfold World.cell?
                simp only [he]
                simpa using hk
            let X : Nat → ByteArray := fun j => match ss[j]? with | some q => ⟨q.toArray⟩ | none => ⟨#[]⟩
            have hX : ∀ (j : Nat) q, ss[j]? = some q → G.rd b (o + j) = some (.string ⟨q.toArray⟩) := by
              intro j q hq
              obtain ⟨x, h1, h2⟩ := hget j q hq
              rw [h2]
              subst h1
              cases x; simp
            have hcall := hj b o cap (ss.map fun q => ⟨q.toArray⟩) s w (fun j x hx => by
                rw [List.getElem?_map] at hx
                cases hq : ss[j]? with
                | none => rw [hq] at hx; cases hx
                | some q =>
                  rw [hq] at hx
                  simp only [Option.map_some, Option.some.injEq] at hx
                  subst hx
                  exact (cell _ _ (hX j q hq)).1)
              (by
                have h0 : ss[0]? = some s0 := by rw [← hss']; rfl
                exact (cell _ _ (hX 0 _ h0)).2)
              (by simpa using hle1) (by simpa using hcap) (by
                have e : (List.map (fun x : ByteArray => x.data.toList) (ss.map fun q => (⟨q.toArray⟩ : ByteArray))) = ss := by
                  rw [List.map_map]; conv => rhs; rw [← List.map_id ss]
                  exact List.map_congr_left fun a _ => by simp
                rw [e, ← joinL_eq, hs]
                exact hle2)
            have e : (List.map (fun x : ByteArray => x.data.toList) (ss.map fun q => (⟨q.toArray⟩ : ByteArray))) = ss := by
              rw [List.map_map]; conv => rhs; rw [← List.map_id ss]
              exact List.map_congr_left fun a _ => by simp
            rw [e, hs, ← joinL_eq] at hcall
            simp only [List.length_map] at hcall ⊢
            refine (callsIn_wide.2 hcall).mono ?_
            rintro e' w' ⟨rfl, hb⟩
            exact prim_end hM (fun _ => .str _ _ (by simp)) rfl hb.size hb.block ⟨hb.os, hb.output⟩
      · cases h
  · cases h

theorem itoa_prim {f : FuncId}
    (hrun : ∀ xs w, (callFunc f xs).run P w = .ok (.enter f xs) w)
    (hi : ∀ (n : Int), -9223372036854775808 ≤ n → n ≤ 9223372036854775807 → Calls P f #[.int .i64 n] w fun e w' => e = .returned (.string ⟨(Lib.itoa n).toArray⟩) ∧ ∃ k os, w' = grow (w.drewN k) os)
    {args : List V} {v : V} {xs : Array Value} (h : itoaV args = some v) (hx : LRel G args xs.toList) (hM : MRel G T w) :
    (callFunc f xs).run P w = .ok (.enter f xs) w ∧ CallsIn Fence.wide 0 P f xs w fun e w' => ∃ y G', e = .returned y ∧ Rel G' v y ∧ pureV v = true ∧ Step G.bare w G' w' ∧ HeapRel G' T w' [] 0 ∧ MRel G' T w' := by
  refine ⟨hrun xs w, ?_⟩
  unfold itoaV at h
  split at h
  · rename_i n
    split at h
    · rename_i hle
      have hle := Nat.le_of_ble_eq_true hle
      simp only [Option.some.injEq] at h
      subst h
      obtain ⟨x, hxs, r1⟩ := hx.oneV
      have hxs' : xs = #[x] := Array.ext' (by simpa using hxs)
      subst hxs'
      cases r1 with | int =>
      refine (callsIn_wide.2 (hi (Int.ofNat n) (by simp only [Int.ofNat_eq_natCast]; omega) (by simp only [Int.ofNat_eq_natCast]; omega))).mono ?_
      rintro e w' ⟨rfl, k, os, rfl⟩
      have hd : ∀ k, (w.drewN k).heap = w.heap ∧ (w.drewN k).os = w.os ∧ (w.drewN k).output = w.output := by
        intro k; exact ⟨rfl, rfl, rfl⟩
      refine prim_end hM (fun _ => .str _ _ ?_) rfl (by simp [grow, (hd k).1]) (fun b hb => ?_) ⟨?_, ?_⟩
      · rw [digits_eq 20 n (by omega), if_neg (by omega)]
        unfold Lib.itoa
        rw [if_neg (by simp only [Int.ofNat_eq_natCast]; omega)]
        simp
      · simp only [grow, (hd k).1]
        rw [Array.getElem?_append_left hb]
      · exact (hd k).2.1
      · exact (hd k).2.2
    · cases h
  · cases h

theorem tab_of_glob {g : Nat} {name : String} {zs : List Int} {k : IntKind} (hn : P.globalNamed name = some g) (hg : T.glob g = some (zs.map fun z => V.int k z)) (hM : MRel G T w) : Lib.TabIs P w name k zs := by
  obtain ⟨c, h1, h2, _, _⟩ := hM.glob g _ hg
  obtain ⟨_, h3, e, fr, rfl⟩ := hM.mem g _ h1
  have hc : c = (zs.map fun z => Value.int k z).toArray := by
    obtain ⟨h4, h5⟩ := h2
    apply Array.ext
    · simpa using h4
    · intro i hi hi'
      have hz : i < zs.length := by simpa using hi'
      have := h5 i (.int k zs[i]) c[i] (by rw [List.getElem?_map, List.getElem?_eq_getElem hz]; rfl) (Array.getElem?_eq_getElem hi)
      simp only [List.getElem_toArray, List.getElem_map]
      generalize c[i] = x at this
      cases this
      rfl
  unfold Lib.TabIs World.var?
  rw [hn, Option.bind_some, h3]
  simp only [hc]
end
end Go.Den
namespace Go.Den
open Go
section
variable {P : Program} {T : Tab} {G : Gh} {w : World}
theorem ix_prim {f : FuncId} (hrun : ∀ xs w, (callFunc f xs).run P w = .ok (.enter f xs) w)
    (hi : ∀ (s : ByteArray) (c : Int) (w : World), Calls P f #[.string s, .int .u8 c] w fun e w' => e = .returned (.int .i64 (Lib.indexByte s.data.toList c.toNat.toUInt8)) ∧ w' = w)
    {args : List V} {v : V} {xs : Array Value} (h : ixV args = some v) (hx : LRel G args xs.toList) (hM : MRel G T w) :
    (callFunc f xs).run P w = .ok (.enter f xs) w ∧ CallsIn Fence.wide 0 P f xs w fun e w' => ∃ y G', e = .returned y ∧ Rel G' v y ∧ pureV v = true ∧ Step G.bare w G' w' ∧ HeapRel G' T w' [] 0 ∧ MRel G' T w' := by
  refine ⟨hrun xs w, ?_⟩
  unfold ixV at h
  split at h
  · rename_i s c
    cases h
    obtain ⟨x, y, hxs, r1, r2⟩ := hx.two
    have hxs' : xs = #[x, y] := Array.ext' (by simpa using hxs)
    subst hxs'
    cases r1 with | str s _ hs =>
    cases r2 with | int =>
    refine (callsIn_wide.2 (hi s c w)).mono ?_
    rintro e w' ⟨rfl, rfl⟩
    rw [hs]
    exact prim_end hM (fun _ => .int _ _) rfl (Nat.le_refl _) (fun _ _ => rfl) (.refl _)
  · cases h
theorem byte_prim {f : FuncId} {p : List V → Option V} {F : List UInt8 → UInt8 → Int} (hp : ∀ args v, p args = some v → ∃ s c, args = [.str s, .str [c]] ∧ v = .int .i64 (F s c)) (hrun : ∀ xs w, (callFunc f xs).run P w = .ok (.enter f xs) w)
    (hi : ∀ (s : ByteArray) (c : UInt8) (w : World), Calls P f #[.string s, .string ⟨#[c]⟩] w fun e w' => e = .returned (.int .i64 (F s.data.toList c)) ∧ w' = w)
    {args : List V} {v : V} {xs : Array Value} (h : p args = some v) (hx : LRel G args xs.toList) (hM : MRel G T w) :
    (callFunc f xs).run P w = .ok (.enter f xs) w ∧ CallsIn Fence.wide 0 P f xs w fun e w' => ∃ y G', e = .returned y ∧ Rel G' v y ∧ pureV v = true ∧ Step G.bare w G' w' ∧ HeapRel G' T w' [] 0 ∧ MRel G' T w' := by
  refine ⟨hrun xs w, ?_⟩
  obtain ⟨s, c, rfl, rfl⟩ := hp args v h
  obtain ⟨x, y, hxs, r1, r2⟩ := hx.two
  have hxs' : xs = #[x, y] := Array.ext' (by simpa using hxs)
  subst hxs'
  cases r1 with | str s _ hs =>
  cases r2 with | str c' _ hc =>
  have hc' : c' = ⟨#[c]⟩ := by
    cases c' with | mk d =>
    congr 1
    exact Array.ext' (by simpa using hc)
  subst hc'
  refine (callsIn_wide.2 (hi s c w)).mono ?_
  rintro e w' ⟨rfl, rfl⟩
  rw [hs]
  exact prim_end hM (fun _ => .int _ _) rfl (Nat.le_refl _) (fun _ _ => rfl) (.refl _)
theorem ix1_inv {args : List V} {v : V} (h : ix1V args = some v) : ∃ s c, args = [.str s, .str [c]] ∧ v = .int .i64 (Lib.indexByte s c) := by
  unfold ix1V at h
  split at h
  · cases h; exact ⟨_, _, rfl, rfl⟩
  · cases h
theorem ct1_inv {args : List V} {v : V} (h : ct1V args = some v) : ∃ s c, args = [.str s, .str [c]] ∧ v = .int .i64 ((Lib.countByte s c : Nat) : Int) := by
  unfold ct1V at h
  split at h
  · cases h; exact ⟨_, _, rfl, rfl⟩
  · cases h
end
end Go.Den
