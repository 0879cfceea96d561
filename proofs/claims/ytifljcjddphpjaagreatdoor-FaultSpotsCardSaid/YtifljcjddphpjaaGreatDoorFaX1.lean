import Derived.Test.YtifljcjddphpjaaGreatDoorFaS0
import Derived.Test.YtifljcjddphpjaaGreatDoorZP
import Derived.Test.YtifljcjddphpjaaGreatDoorZS
import Ieee.Arith
import GoSem.Core.Float
import Derived.Laws.FloatBits
set_option linter.all false
set_option maxHeartbeats 8000000
set_option maxRecDepth 100000
namespace Go.Den.FaT
open Go Go.Proofs Go.Den

theorem c115 (b : Bool) (e : Int) : (lim T).call 115 [.bool b, .int .i64 e] [] 0 [] = some (.int .i64 (cond b e 0), [], 0, []) := by
  rw [ent115]
  cases b
  · simp -implicitDefEqProofs only [go_sem, simprocAttr]
  · simp -implicitDefEqProofs only [go_sem, simprocAttr]
theorem c39 (b : Bool) (e : Int) : (lim T).call 39 [.bool b, .int .i64 e] [] 0 [] = some (.int .i64 (cond b e 0), [], 0, []) := by
  rw [ent39]
  cases b
  · simp -implicitDefEqProofs only [go_sem, simprocAttr]
  · simp -implicitDefEqProofs only [go_sem, simprocAttr]
theorem c137 (n a b : Int) : (lim T).call 137 [.int .i64 n, .int .i64 a, .int .i64 b] [] 0 [] = some (.int .i64 (rng n a b), [], 0, []) := by
  rw [ent137]
  cases h : decide (n < a)
  · simp -implicitDefEqProofs only [go_sem, simprocAttr, h, c115, rng]
  · simp -implicitDefEqProofs only [go_sem, simprocAttr, h, c115, rng]
theorem c90 (n a b : Int) : (lim T).call 90 [.int .i64 n, .int .i64 a, .int .i64 b] [] 0 [] = some (.int .i64 (rng n a b), [], 0, []) := by
  rw [ent90]
  cases h : decide (n < a)
  · simp -implicitDefEqProofs only [go_sem, simprocAttr, h, c39, rng]
  · simp -implicitDefEqProofs only [go_sem, simprocAttr, h, c39, rng]

theorem loop114 (b : Bool) (l : List Int) (hb : l.length < 4611686018427387904) : ∀ i, i ≤ l.length → (lim T).loop false [.code (.loop b114_0), .inBlock 0, .code (.seq r114_7 .ret)] ⟨114, 15, 0, [(5, .sl b 1 (l.map fun n => .int .i64 n)), (6, .int .i64 l.length), (7, .int .i64 i)], [], 0, []⟩ = some (.ret (.int .i64 (fnz (l.drop i))), [], 0, []) := by
  refine down_ind l.length ?_ fun i hi ih => ?_
  · rw [loopEq]
    have h1 := idx_out l.length
    simp -implicitDefEqProofs only [go_sem, simprocAttr, h1]
    simp [fnz]
  · obtain ⟨h1, h2, h3, h4, h5⟩ := idx_in hi hb
    rw [loopEq, h5]
    cases h6 : (l[i] != 0)
    · have h7 : l[i] = 0 := by simpa using h6
      simp -implicitDefEqProofs only [go_sem, simprocAttr, h1, h2, h3, h4, h6, ih]
      simp [fnz, h7]
    · have h7 : l[i] ≠ 0 := by simpa using h6
      simp -implicitDefEqProofs only [go_sem, simprocAttr, h1, h2, h3, h4, h6]
      simp [fnz, h7]
theorem c114 (b : Bool) (l : List Int) (hb : l.length < 4611686018427387904) : (lim T).call 114 [.sl b 1 (l.map fun n => .int .i64 n)] [] 0 [] = some (.int .i64 (fnz l), [], 0, []) := by
  rw [ent114]
  have h := loop114 b l hb 0 (by omega)
  rw [show ((0 : Nat) : Int) = 0 from rfl, List.drop_zero] at h
  simp -implicitDefEqProofs only [go_sem, simprocAttr, h]

theorem loop108 (b : Bool) (l : List Int) (hb : l.length < 4611686018427387904) : ∀ i, i ≤ l.length → (lim T).loop false [.code (.loop b108_0), .inBlock 0, .code (.seq r108_6 .ret)] ⟨108, 19, 0, [(0, .sl b 1 (l.map fun n => .int .i64 n)), (3, .int .i64 i)], [], 0, []⟩ = some (.ret (.int .i64 (fnz (l.drop i))), [], 0, []) := by
  refine down_ind l.length ?_ fun i hi ih => ?_
  · rw [loopEq]
    have h1 := idx_out l.length
    simp -implicitDefEqProofs only [go_sem, simprocAttr, h1]
    simp [fnz]
  · obtain ⟨h1, h2, h3, h4, h5⟩ := idx_in hi hb
    rw [loopEq, h5]
    cases h6 : (l[i] != 0)
    · have h7 : l[i] = 0 := by simpa using h6
      simp -implicitDefEqProofs only [go_sem, simprocAttr, h1, h2, h3, h4, h6, ih]
      simp [fnz, h7]
    · have h7 : l[i] ≠ 0 := by simpa using h6
      simp -implicitDefEqProofs only [go_sem, simprocAttr, h1, h2, h3, h4, h6]
      simp [fnz, h7]
theorem c108 (b : Bool) (l : List Int) (hb : l.length < 4611686018427387904) : (lim T).call 108 [.sl b 1 (l.map fun n => .int .i64 n)] [] 0 [] = some (.int .i64 (fnz l), [], 0, []) := by
  rw [ent108]
  have h := loop108 b l hb 0 (by omega)
  rw [show ((0 : Nat) : Int) = 0 from rfl, List.drop_zero] at h
  simp -implicitDefEqProofs only [go_sem, simprocAttr, h]
theorem c114_2 (b : Bool) (x y : Int) : (lim T).call 114 [.sl b 1 [.int .i64 x, .int .i64 y]] [] 0 [] = some (.int .i64 (fnz [x, y]), [], 0, []) := c114 b [x, y] (by simp)
theorem c108_2 (b : Bool) (x y : Int) : (lim T).call 108 [.sl b 1 [.int .i64 x, .int .i64 y]] [] 0 [] = some (.int .i64 (fnz [x, y]), [], 0, []) := c108 b [x, y] (by simp)
def intV (n : Int) : V := .int .i64 n
attribute [go_sem] intV
theorem fnz_zero {l : List Int} : fnz l = 0 ↔ ∀ x ∈ l, x = 0 := by
  induction l with
  | nil => simp [fnz]
  | cons x l ih =>
    simp only [fnz]
    by_cases h : x = 0
    · simp [h, ih]
    · simp [h]
structure Cz where
  n : List UInt8
  c : Int
  b : Bool
  l : List (Int × Int)
theorem mapSet_new {eq : V → V → Option Bool} {x y : V} : ∀ {es : List (V × V)}, (∀ e ∈ es, eq x e.1 = some false) → mapSet eq es x y = some (es ++ [(x, y)])
  | [], _ => rfl
  | (a, b) :: r, h => by
    have h1 := h (a, b) (List.mem_cons_self ..)
    dsimp only at h1
    simp only [mapSet, h1, mapSet_new (es := r) (fun e he => h e (List.mem_cons_of_mem _ he)), List.cons_append]
structure Pk where
  vb : Bool
  v : List (Bool × List Int)
  n : Int
  cb : Bool
  c : List Cz
def insRev (x : Int) : List Int → List Int
  | [] => [x]
  | p :: r => if x < p then p :: insRev x r else x :: p :: r
def srtR (acc : List Int) : List Int → List Int
  | [] => acc
  | x :: r => srtR (insRev x acc) r
def srt (l : List Int) : List Int := (srtR [] l).reverse
theorem insRev_perm (x : Int) (l : List Int) : (insRev x l).Perm (x :: l) := by
  induction l with
  | nil => exact .refl _
  | cons p r ih =>
    simp only [insRev]
    split
    · exact (ih.cons p).trans (.swap x p r)
    · exact .refl _
theorem insRev_sorted (x : Int) (l : List Int) (h : l.Pairwise (· ≥ ·)) : (insRev x l).Pairwise (· ≥ ·) := by
  induction l with
  | nil => simp [insRev]
  | cons p r ih =>
    rw [List.pairwise_cons] at h
    simp only [insRev]
    split
    · rename_i hx
      rw [List.pairwise_cons]
      refine ⟨fun y hy => ?_, ih h.2⟩
      rcases List.mem_cons.1 ((insRev_perm x r).mem_iff.1 hy) with rfl | hy
      · omega
      · exact h.1 y hy
    · rename_i hx
      rw [List.pairwise_cons, List.pairwise_cons]
      refine ⟨fun y hy => ?_, h⟩
      rcases List.mem_cons.1 hy with rfl | hy
      · omega
      · have := h.1 y hy; omega
theorem srtR_spec : ∀ (l acc : List Int), acc.Pairwise (· ≥ ·) → (srtR acc l).Pairwise (· ≥ ·) ∧ (srtR acc l).Perm (l ++ acc)
  | [], acc, h => ⟨h, .refl _⟩
  | x :: r, acc, h => by
    obtain ⟨h1, h2⟩ := srtR_spec r (insRev x acc) (insRev_sorted x acc h)
    refine ⟨h1, h2.trans ?_⟩
    have := (insRev_perm x acc).append_left r
    exact this.trans List.perm_middle
theorem srt_sorted (l : List Int) : (srt l).Pairwise (· ≤ ·) := by
  unfold srt
  rw [List.pairwise_reverse]
  exact (srtR_spec l [] List.Pairwise.nil).1
theorem srt_perm (l : List Int) : (srt l).Perm l := by
  unfold srt
  have := (srtR_spec l [] List.Pairwise.nil).2
  rw [List.append_nil] at this
  exact (List.reverse_perm _).trans this
def med (l : List Int) : Int := (srt l).getD ((l.length - 1) / 2) 0
end Go.Den.FaT
namespace Go.Den.FaT
def cntLt (l : List Int) (x : Int) : Nat := l.countP fun y => decide (y < x)
def cntEq (l : List Int) (x : Int) : Nat := l.countP fun y => decide (y = x)
def medR (l : List Int) : List Int → Int
  | [] => 0
  | x :: r => if cntLt l x ≤ (l.length - 1) / 2 ∧ (l.length - 1) / 2 < cntLt l x + cntEq l x then x else medR l r
theorem cnt_le (l : List Int) (x : Int) : cntLt l x + cntEq l x ≤ l.length := by
  unfold cntLt cntEq
  induction l with
  | nil => simp
  | cons y l ih =>
    simp only [List.countP_cons, List.length_cons]
    by_cases h : y < x
    · have : ¬ y = x := by omega
      simp [h, this]; omega
    · by_cases h' : y = x <;> simp [h, h'] <;> omega
theorem cnt_all {l : List Int} {x : Int} (h : ∀ y ∈ l, y ≤ x) : cntLt l x + cntEq l x = l.length := by
  unfold cntLt cntEq
  induction l with
  | nil => simp
  | cons y l ih =>
    have ih := ih fun z hz => h z (List.mem_cons_of_mem _ hz)
    have hy := h y (List.mem_cons_self ..)
    simp only [List.countP_cons, List.length_cons]
    by_cases h1 : y < x
    · have : ¬ y = x := by omega
      simp [h1, this]; omega
    · have : y = x := by omega
      simp [this]; omega
theorem cntLt_all {l : List Int} {x : Int} (h : ∀ y ∈ l, y < x) : cntLt l x = l.length := by
  unfold cntLt
  rw [List.countP_eq_length]
  intro y hy
  simpa using h y hy
theorem cntLt_none {l : List Int} {x : Int} (h : ∀ y ∈ l, x ≤ y) : cntLt l x = 0 := by
  unfold cntLt
  rw [List.countP_eq_zero]
  intro y hy
  have := h y hy
  simp; omega
theorem cntEq_none {l : List Int} {x : Int} (h : ∀ y ∈ l, x < y) : cntEq l x = 0 := by
  unfold cntEq
  rw [List.countP_eq_zero]
  intro y hy
  have := h y hy
  simp; omega
theorem med_iff {s : List Int} (hs : s.Pairwise (· ≤ ·)) {m : Nat} (hm : m < s.length) (x : Int) : (cntLt s x ≤ m ∧ m < cntLt s x + cntEq s x) ↔ x = s[m] := by
  have e : s = s.take m ++ s[m] :: s.drop (m + 1) := by rw [← List.drop_eq_getElem_cons hm, List.take_append_drop]
  generalize hy : s[m] = y at e
  generalize hA : s.take m = A at e
  generalize hB : s.drop (m + 1) = B at e
  have hl : A.length = m := by rw [← hA]; simp; omega
  rw [e] at hs
  rw [List.pairwise_append, List.pairwise_cons] at hs
  obtain ⟨_, ⟨h1, _⟩, h2⟩ := hs
  have hle : ∀ z ∈ A, z ≤ y := fun z hz => h2 z hz y (List.mem_cons_self ..)
  have eL : ∀ x, cntLt s x = cntLt A x + cntLt (y :: B) x := fun x => by rw [e]; simp [cntLt, List.countP_append]
  have eE : ∀ x, cntEq s x = cntEq A x + cntEq (y :: B) x := fun x => by rw [e]; simp [cntEq, List.countP_append]
  constructor
  · rintro ⟨c1, c2⟩
    rw [eL] at c1 c2
    rw [eE] at c2
    by_cases hlt : x < y
    · have a1 := cntLt_none (l := y :: B) (x := x) (fun z hz => by
        rcases List.mem_cons.1 hz with rfl | hz
        · omega
        · have := h1 z hz; omega)
      have a2 := cntEq_none (l := y :: B) (x := x) (fun z hz => by
        rcases List.mem_cons.1 hz with rfl | hz
        · omega
        · have := h1 z hz; omega)
      have a3 := cnt_le A x
      omega
    · by_cases hgt : y < x
      · have a1 := cntLt_all (l := A) (x := x) (fun z hz => by have := hle z hz; omega)
        have a2 : 1 ≤ cntLt (y :: B) x := by
          unfold cntLt
          rw [List.countP_cons]
          simp [hgt]
        omega
      · omega
  · rintro rfl
    rw [eL, eE]
    have a1 := cntLt_none (l := x :: B) (x := x) (fun z hz => by
      rcases List.mem_cons.1 hz with rfl | hz
      · omega
      · exact h1 z hz)
    have a2 := cnt_all hle
    have a3 : 1 ≤ cntEq (x :: B) x := by
      unfold cntEq
      rw [List.countP_cons]
      simp
    omega
theorem medR_find {l : List Int} {y : Int} (h : ∀ x, (cntLt l x ≤ (l.length - 1) / 2 ∧ (l.length - 1) / 2 < cntLt l x + cntEq l x) ↔ x = y) : ∀ r : List Int, y ∈ r → medR l r = y := by
  intro r
  induction r with
  | nil => intro h; cases h
  | cons x r ih =>
    intro hm
    simp only [medR]
    by_cases hx : x = y
    · rw [if_pos ((h x).2 hx), hx]
    · rw [if_neg (fun e => hx ((h x).1 e))]
      rcases List.mem_cons.1 hm with e | hm
      · exact absurd e.symm hx
      · exact ih hm
theorem med_sorted {l s : List Int} (hp : s.Perm l) (hs : s.Pairwise (· ≤ ·)) (hm : (l.length - 1) / 2 < s.length) : medR l l = s[(l.length - 1) / 2] := by
  refine medR_find (fun x => ?_) l ?_
  · rw [← med_iff hs hm x]
    simp only [cntLt, cntEq, hp.countP_eq]
  · exact hp.mem_iff.1 (List.getElem_mem hm)
theorem med_eq {l : List Int} (h : l ≠ []) : medR l l = med l := by
  have hp := srt_perm l
  have hl := hp.length_eq
  have h0 : 0 < l.length := List.length_pos_iff.2 h
  have hm : (l.length - 1) / 2 < (srt l).length := by omega
  rw [med_sorted hp (srt_sorted l) hm]
  unfold med
  rw [List.getD_eq_getElem?_getD, List.getElem?_eq_getElem hm]; rfl
end Go.Den.FaT
namespace Go.Den.FaF
open Ieee
@[irreducible] def LL : Nat := 3000
theorem LL_eq : LL = 3000 := by unfold LL; rfl
def sgn (s : Bool) (n : Nat) : Int := if s then -(n : Int) else n
def sv : Datum → Int
  | .number s m e => sgn s (m * 2 ^ (e + LL).toNat)
  | _ => 0
theorem signed_eq (s : Bool) (m u : Nat) : signed s m u = sgn s (m * 2 ^ u) := by
  unfold signed sgn
  rw [Nat.shiftLeft_eq]
theorem sgn_mul (s : Bool) (a k : Nat) : sgn s (a * k) = sgn s a * (k : Int) := by
  unfold sgn
  cases s <;> simp [Int.natCast_mul, Int.neg_mul]
theorem pow_split {e b : Int} (h : b ≤ e) (hb : -(LL : Int) ≤ b) : 2 ^ (e + LL).toNat = 2 ^ (e - b).toNat * 2 ^ (b + LL).toNat := by
  rw [← Nat.pow_add]
  congr 1
  omega
theorem sv_base {s : Bool} {m : Nat} {e b : Int} (h : b ≤ e) (hb : -(LL : Int) ≤ b) : sv (.number s m e) = signed s m (e - b).toNat * ((2 ^ (b + LL).toNat : Nat) : Int) := by
  unfold sv
  rw [signed_eq, ← sgn_mul, Nat.mul_assoc, ← pow_split h hb]
theorem cmp_mul (x y : Int) {k : Int} (hk : 0 < k) : compare (x * k) (y * k) = compare x y := by
  have h1 : x * k < y * k ↔ x < y := Int.mul_lt_mul_right hk
  have h2 : x * k = y * k ↔ x = y := ⟨fun h => Int.eq_of_mul_eq_mul_right (Int.ne_of_gt hk) h, fun h => by rw [h]⟩
  show compareOfLessAndEq _ _ = compareOfLessAndEq _ _
  unfold compareOfLessAndEq
  simp only [h1, h2]
theorem order_sv {s t : Bool} {m n : Nat} {i j : Int} (hi : -(LL : Int) ≤ i) (hj : -(LL : Int) ≤ j) : Datum.order (.number s m i) (.number t n j) = some (compare (sv (.number s m i)) (sv (.number t n j))) := by
  unfold Datum.order
  simp only
  rw [sv_base (e := i) (b := min i j) (by omega) (by omega), sv_base (e := j) (b := min i j) (by omega) (by omega), cmp_mul]
  exact Int.natCast_pos.2 (Nat.two_pow_pos _)
theorem cmp_lt (x y : Int) : (some (compare x y) == some Ordering.lt) = decide (x < y) := by
  show (some (compareOfLessAndEq x y) == _) = _
  unfold compareOfLessAndEq
  by_cases h : x < y
  · rw [if_pos h]; simp [h]
  · rw [if_neg h]; by_cases h2 : x = y
    · rw [if_pos h2]; simp [h2]
    · rw [if_neg h2]; simp [h]
theorem cmp_eq (x y : Int) : (some (compare x y) == some Ordering.eq) = decide (x = y) := by
  show (some (compareOfLessAndEq x y) == _) = _
  unfold compareOfLessAndEq
  by_cases h : x < y
  · rw [if_pos h]; have : ¬ x = y := by omega
    simp [this]
  · rw [if_neg h]; by_cases h2 : x = y
    · rw [if_pos h2]; simp [h2]
    · rw [if_neg h2]; simp [h2]
theorem cmp_gt (x y : Int) : (some (compare x y) == some Ordering.gt) = decide (y < x) := by
  show (some (compareOfLessAndEq x y) == _) = _
  unfold compareOfLessAndEq
  by_cases h : x < y
  · rw [if_pos h]; have : ¬ y < x := by omega
    simp [this]
  · rw [if_neg h]; by_cases h2 : x = y
    · rw [if_pos h2]; simp [h2]
    · rw [if_neg h2]; have : y < x := by omega
      simp [this]
theorem log2_lt (n : Nat) : n < 2 ^ (n.log2 + 1) := Nat.lt_log2_self
theorem gap_div (n drop : Nat) : n / (1 <<< min drop (n.log2 + 2)) = n / 2 ^ drop ∧ ((n % (1 <<< min drop (n.log2 + 2)) != 0) = (n % 2 ^ drop != 0)) := by
  rw [Nat.shiftLeft_eq, Nat.one_mul]
  by_cases h : drop ≤ n.log2 + 2
  · rw [Nat.min_eq_left h]; exact ⟨rfl, rfl⟩
  · rw [Nat.min_eq_right (by omega)]
    have h1 : n < 2 ^ (n.log2 + 2) := Nat.lt_of_lt_of_le (log2_lt n) (Nat.pow_le_pow_right (by omega) (by omega))
    have h2 : n < 2 ^ drop := Nat.lt_of_lt_of_le (log2_lt n) (Nat.pow_le_pow_right (by omega) (by omega))
    rw [Nat.div_eq_of_lt h1, Nat.div_eq_of_lt h2, Nat.mod_eq_of_lt h1, Nat.mod_eq_of_lt h2]; exact ⟨rfl, rfl⟩
theorem cut_zero (neg : Bool) (n drop : Nat) : Toward.cut .zero neg n drop = n / 2 ^ drop := by
  unfold Toward.cut
  simp only [(gap_div n drop).1]; rfl
theorem cut_down (neg : Bool) (n drop : Nat) : Toward.cut .down neg n drop = n / 2 ^ drop + (neg && n % 2 ^ drop != 0).toNat := by
  unfold Toward.cut
  simp only [(gap_div n drop).1, (gap_div n drop).2]
theorem cut_even {neg : Bool} {k drop : Nat} : Toward.cut .even neg (k * 2 ^ drop) drop = k := by
  unfold Toward.cut
  have h1 := (gap_div (k * 2 ^ drop) drop).1
  have h2 := (gap_div (k * 2 ^ drop) drop).2
  simp only [h1]
  have h3 : (k * 2 ^ drop) % (1 <<< min drop ((k * 2 ^ drop).log2 + 2)) = 0 := by
    simpa using h2
  rw [h3]
  have h4 : 0 < 1 <<< min drop ((k * 2 ^ drop).log2 + 2) := by rw [Nat.shiftLeft_eq, Nat.one_mul]; exact Nat.two_pow_pos _
  rw [Nat.mul_div_cancel _ (Nat.two_pow_pos _)]
  generalize 1 <<< min drop ((k * 2 ^ drop).log2 + 2) = g at *
  have a : decide (g < 2 * 0) = false := by simp
  have b : (g == 2 * 0) = false := by simp; omega
  simp [a, b]
theorem log2_mul_pow {n : Nat} (h : n ≠ 0) (a : Nat) : (n * 2 ^ a).log2 = n.log2 + a := by
  have h2 := Nat.two_pow_pos a
  rw [Nat.log2_eq_iff (Nat.mul_ne_zero h (Nat.ne_of_gt h2))]
  constructor
  · rw [Nat.pow_add]; exact Nat.mul_le_mul_right _ (Nat.log2_self_le h)
  · rw [show n.log2 + a + 1 = n.log2 + 1 + a by omega, Nat.pow_add]; exact Nat.mul_lt_mul_of_pos_right Nat.lt_log2_self h2
theorem read_word (f : Format) (s : Bool) (r : Nat) (h : r < f.signWeight) : f.read (f.word s r) =
    if r < f.binade then .number s r f.leastPlace else if r < f.infRung then .number s (f.binade + r % f.binade) (f.leastPlace + (r / f.binade - 1 : Nat)) else if r = f.infRung then .infinity s else .nan s (r - f.infRung) := by
  have h0 : 0 < f.signWeight := by omega
  unfold Format.read Format.word
  cases s with
  | false =>
    simp only [Bool.false_eq_true, if_false]
    rw [Nat.div_eq_of_lt h, Nat.mod_eq_of_lt h]; rfl
  | true =>
    simp only [if_true]
    rw [Nat.add_div_left _ h0, Nat.div_eq_of_lt h, Nat.add_mod_left, Nat.mod_eq_of_lt h]; rfl
theorem rung_lt (f : Format) : f.infRung < f.signWeight := by
  unfold Format.infRung Format.signWeight Format.binade
  rw [Nat.pow_add]
  exact Nat.mul_lt_mul_of_pos_right (by have := Nat.two_pow_pos f.exponentBits; omega) (Nat.two_pow_pos _)
theorem write_exact (f : Format) (s : Bool) (M m : Nat) (E e : Int) (hE : -(LL : Int) ≤ E) (he : -(LL : Int) ≤ e) (hv : M * 2 ^ (E + LL).toNat = m * 2 ^ (e + LL).toNat)
    (hm : m < 2 ^ (f.fractionBits + 1)) (hl : f.leastPlace ≤ e) (hL : -(LL : Int) ≤ f.leastPlace) (hx : e - f.leastPlace + 3 ≤ (2 ^ f.exponentBits : Nat)) :
    ∃ k l, f.read (f.nearest s M E) = .number s k l ∧ f.leastPlace ≤ l ∧ k * 2 ^ (l + LL).toNat = m * 2 ^ (e + LL).toNat := by
  have hB : f.binade = 2 ^ f.fractionBits := rfl
  have hBp : 0 < f.binade := Nat.two_pow_pos _
  have hI : f.infRung = (2 ^ f.exponentBits - 1) * f.binade := rfl
  have h2p := Nat.two_pow_pos f.exponentBits
  unfold Format.nearest
  by_cases h0 : M = 0
  · rw [if_pos h0]
    have hm0 : m = 0 := by
      rw [h0, Nat.zero_mul] at hv
      rcases Nat.mul_eq_zero.1 hv.symm with h | h
      · exact h
      · exact absurd h (Nat.ne_of_gt (Nat.two_pow_pos _))
    refine ⟨0, f.leastPlace, ?_, Int.le_refl _, by rw [hm0]; simp⟩
    rw [read_word _ _ _ (Nat.two_pow_pos _), if_pos hBp]
  · rw [if_neg h0]
    have hm0 : m ≠ 0 := by
      rintro rfl
      rw [Nat.zero_mul] at hv
      rcases Nat.mul_eq_zero.1 hv with h | h
      · exact h0 h
      · exact absurd h (Nat.ne_of_gt (Nat.two_pow_pos _))
    have hlog := congrArg Nat.log2 hv
    rw [log2_mul_pow h0, log2_mul_pow hm0] at hlog
    have hmf : m.log2 ≤ f.fractionBits := by
      have := (Nat.log2_lt hm0).2 hm
      omega
    simp only
    generalize hlast : max (E + M.log2 - f.fractionBits) f.leastPlace = last
    have hle : last ≤ e := by omega
    have hlb : f.leastPlace ≤ last := by omega
    generalize hk : m * 2 ^ (e - last).toNat = k
    have hk0 : k ≠ 0 := by
      rw [← hk]
      have := Nat.two_pow_pos (e - last).toNat
      intro h
      rcases Nat.mul_eq_zero.1 h with h | h
      · exact hm0 h
      · omega
    have hkv : k * 2 ^ (last + LL).toNat = m * 2 ^ (e + LL).toNat := by
      rw [← hk, Nat.mul_assoc, ← Nat.pow_add]; congr 2; omega
    have hshift : M <<< (E - last).toNat = k * 2 ^ (last - E).toNat := by
      rw [Nat.shiftLeft_eq]
      have hc : M * 2 ^ (E - last).toNat * 2 ^ (min E last + LL).toNat = k * 2 ^ (last - E).toNat * 2 ^ (min E last + LL).toNat := by
        rw [Nat.mul_assoc, Nat.mul_assoc, ← Nat.pow_add, ← Nat.pow_add, show (E - last).toNat + (min E last + LL).toNat = (E + LL).toNat by omega, show (last - E).toNat + (min E last + LL).toNat = (last + LL).toNat by omega, hv, hkv]
      exact Nat.eq_of_mul_eq_mul_right (Nat.two_pow_pos _) hc
    rw [hshift, cut_even]
    have hklog := congrArg Nat.log2 hkv
    rw [log2_mul_pow hk0, log2_mul_pow hm0] at hklog
    have hkf : k.log2 ≤ f.fractionBits := by omega
    have hku : k < 2 * f.binade := by
      rw [hB, Nat.mul_comm, ← Nat.pow_succ]
      exact (Nat.log2_lt hk0).1 (by omega)
    have hkl : f.leastPlace < last → f.binade ≤ k := by
      intro h
      have : k.log2 = f.fractionBits := by omega
      rw [hB, ← this]; exact Nat.log2_self_le hk0
    generalize hd : (last - f.leastPlace).toNat = d
    have hd3 : d + 3 ≤ 2 ^ f.exponentBits := by omega
    have hr : d * f.binade + k < f.infRung := by
      rw [hI]
      have h1 : (d + 2) * f.binade ≤ (2 ^ f.exponentBits - 1) * f.binade := Nat.mul_le_mul_right _ (by omega)
      have h2 : (d + 2) * f.binade = d * f.binade + 2 * f.binade := Nat.add_mul ..
      omega
    rw [Nat.min_eq_left (by omega), read_word _ _ _ (Nat.lt_trans hr (rung_lt f))]
    by_cases hc : f.leastPlace < last
    · have hkb := hkl hc
      have hd1 : 1 ≤ d := by omega
      have h1 : f.binade ≤ d * f.binade := Nat.le_mul_of_pos_left _ hd1
      rw [if_neg (by omega), if_pos hr]
      have hmod : (d * f.binade + k) % f.binade = k - f.binade := by
        rw [Nat.mul_add_mod_self_right, Nat.mod_eq_sub_mod hkb, Nat.mod_eq_of_lt (by omega)]
      have hdiv : (d * f.binade + k) / f.binade = d + 1 := by
        rw [Nat.mul_comm, Nat.mul_add_div hBp]
        congr 1
        rw [Nat.div_eq_sub_div hBp hkb, Nat.div_eq_of_lt (by omega)]
      refine ⟨k, last, ?_, hlb, hkv⟩
      rw [hmod, hdiv]
      congr 1 <;> omega
    · have hlast0 : last = f.leastPlace := by omega
      have hd0 : d = 0 := by omega
      subst hd0
      rw [Nat.zero_mul, Nat.zero_add] at hr ⊢
      by_cases hkb : k < f.binade
      · rw [if_pos hkb]
        exact ⟨k, last, by rw [hlast0], hlb, hkv⟩
      · have hkb : f.binade ≤ k := by omega
        rw [if_neg (by omega), if_pos hr]
        have hmod : k % f.binade = k - f.binade := by
          rw [Nat.mod_eq_sub_mod hkb, Nat.mod_eq_of_lt (by omega)]
        have hdiv : k / f.binade = 1 := by
          rw [Nat.div_eq_sub_div hBp hkb, Nat.div_eq_of_lt (by omega)]
        refine ⟨k, last, ?_, hlb, hkv⟩
        rw [hmod, hdiv, hlast0]
        congr 1
        · omega
        · simp
theorem read_bounds {f : Format} {w : Nat} {s : Bool} {m : Nat} {e : Int} (h : f.read w = .number s m e) :
    m < 2 ^ (f.fractionBits + 1) ∧ f.leastPlace ≤ e ∧ e - f.leastPlace + 3 ≤ (2 ^ f.exponentBits : Nat) ∨ f.exponentBits < 2 := by
  by_cases h2 : f.exponentBits < 2
  · exact .inr h2
  left
  have h4 : 4 ≤ 2 ^ f.exponentBits := Nat.pow_le_pow_right (n := 2) (by omega) (show 2 ≤ f.exponentBits by omega)
  have hBp : 0 < f.binade := Nat.two_pow_pos _
  have hB2 : 2 ^ (f.fractionBits + 1) = 2 * f.binade := by rw [Nat.pow_succ, Nat.mul_comm]; rfl
  unfold Format.read at h
  simp only at h
  split at h
  · rename_i h1
    cases h
    omega
  · rename_i h1
    split at h
    · rename_i h3
      cases h
      have hm := Nat.mod_lt (w % f.signWeight) hBp
      have hd : w % f.signWeight / f.binade < 2 ^ f.exponentBits - 1 := by
        rw [Nat.div_lt_iff_lt_mul hBp]; exact h3
      omega
    · split at h <;> cases h
def D : Int := ((2 ^ LL : Nat) : Int)
theorem D_pos : 0 < D := Int.natCast_pos.2 (Nat.two_pow_pos _)
structure FNum (f : Format) (b : Nat) (s : Bool) (V : Int) : Prop where
  ex : ∃ m e, f.read b = .number s m e ∧ sv (.number s m e) = V
structure Fn (f : Format) (b : Nat) (s : Bool) (V : Int) : Prop where
  ex : ∃ m e, f.read b = .number s m e ∧ sv (.number s m e) = V
theorem single_b {w : Nat} {s : Bool} {m : Nat} {e : Int} (h : single.read w = .number s m e) : m < 16777216 ∧ -149 ≤ e ∧ e ≤ 104 := by
  rcases read_bounds h with ⟨h1, h2, h3⟩ | h0
  · have a1 : single.leastPlace = -149 := by decide
    have a2 : single.fractionBits = 23 := rfl
    have a3 : single.exponentBits = 8 := rfl
    rw [a1] at h2 h3; rw [a2] at h1; rw [a3] at h3
    omega
  · exact absurd h0 (by decide)
theorem double_b {w : Nat} {s : Bool} {m : Nat} {e : Int} (h : double.read w = .number s m e) : m < 9007199254740992 ∧ -1074 ≤ e ∧ e ≤ 971 := by
  rcases read_bounds h with ⟨h1, h2, h3⟩ | h0
  · have a1 : double.leastPlace = -1074 := by decide
    have a2 : double.fractionBits = 52 := rfl
    have a3 : double.exponentBits = 11 := rfl
    rw [a1] at h2 h3; rw [a2] at h1; rw [a3] at h3
    omega
  · exact absurd h0 (by decide)
theorem sgn_val (s : Bool) (m : Nat) (e : Int) : sv (.number s m e) = sgn s (m * 2 ^ (e + LL).toNat) := rfl
theorem sv_eq {s : Bool} {k m : Nat} {l e : Int} (h : k * 2 ^ (l + LL).toNat = m * 2 ^ (e + LL).toNat) : sv (.number s k l) = sv (.number s m e) := by
  rw [sgn_val, sgn_val, h]
theorem wr_single (s : Bool) (M m : Nat) (E e : Int) (hE : -3000 ≤ E) (hv : M * 2 ^ (E + LL).toNat = m * 2 ^ (e + LL).toNat) (hm : m < 16777216) (h1 : -149 ≤ e) (h2 : e ≤ 104) :
    FNum single (single.nearest s M E) s (sv (.number s m e)) := by
  have a1 : single.leastPlace = -149 := by decide
  obtain ⟨k, l, h3, h4, h5⟩ := write_exact single s M m E e (by rw [LL_eq]; omega) (by rw [LL_eq]; omega) hv (by exact hm) (by rw [a1]; exact h1) (by rw [a1, LL_eq]; omega) (by rw [a1]; show e - -149 + 3 ≤ ((256 : Nat) : Int); omega)
  exact ⟨k, l, h3, sv_eq h5⟩
theorem wr_double (s : Bool) (M m : Nat) (E e : Int) (hE : -3000 ≤ E) (hv : M * 2 ^ (E + LL).toNat = m * 2 ^ (e + LL).toNat) (hm : m < 9007199254740992) (h1 : -1074 ≤ e) (h2 : e ≤ 971) :
    FNum double (double.nearest s M E) s (sv (.number s m e)) := by
  have a1 : double.leastPlace = -1074 := by decide
  obtain ⟨k, l, h3, h4, h5⟩ := write_exact double s M m E e (by rw [LL_eq]; omega) (by rw [LL_eq]; omega) hv (by exact hm) (by rw [a1]; exact h1) (by rw [a1, LL_eq]; omega) (by rw [a1]; show e - -1074 + 3 ≤ ((2048 : Nat) : Int); omega)
  exact ⟨k, l, h3, sv_eq h5⟩
theorem pow_up {e : Int} (k : Nat) (h : -2000 ≤ e) : 2 ^ (e + (k : Int) + LL).toNat = 2 ^ k * 2 ^ (e + LL).toNat := by
  rw [← Nat.pow_add]; congr 1; rw [LL_eq]; omega
theorem sv_up {s : Bool} {m : Nat} {e : Int} (k : Nat) (h : -2000 ≤ e) : sv (.number s m (e + (k : Int))) = (2 ^ k : Nat) * sv (.number s m e) := by
  rw [sgn_val, sgn_val, pow_up k h, ← Nat.mul_assoc, Nat.mul_comm m, Nat.mul_assoc, Nat.mul_comm, sgn_mul, Int.mul_comm]
theorem ord {f : Format} {a b : Nat} {s t : Bool} {V W : Int} (hf : -(LL : Int) ≤ f.leastPlace) (he : ¬ f.exponentBits < 2) (ha : FNum f a s V) (hb : FNum f b t W) : f.order a b = some (compare V W) := by
  obtain ⟨m, e, h1, rfl⟩ := ha.ex
  obtain ⟨n, j, h2, rfl⟩ := hb.ex
  unfold Format.order
  rw [h1, h2]
  have b1 := (read_bounds h1).resolve_right he
  have b2 := (read_bounds h2).resolve_right he
  exact order_sv (by omega) (by omega)
theorem ords {a b : Nat} {s t : Bool} {V W : Int} (ha : FNum single a s V) (hb : FNum single b t W) : single.order a b = some (compare V W) := ord (by rw [LL_eq, show single.leastPlace = -149 by decide]; omega) (by decide) ha hb
theorem ordd {a b : Nat} {s t : Bool} {V W : Int} (ha : FNum double a s V) (hb : FNum double b t W) : double.order a b = some (compare V W) := ord (by rw [LL_eq, show double.leastPlace = -1074 by decide]; omega) (by decide) ha hb
theorem D_up (k : Nat) : ((2 ^ (LL + k) : Nat) : Int) = (2 ^ k : Nat) * D := by
  unfold D; rw [Nat.pow_add, Nat.mul_comm]; push_cast; rfl
theorem const_sv (s : Bool) (m j k : Nat) (e : Int) (h : m = 2 ^ j) (he : (j : Int) + e = k) (h2 : -2000 ≤ e) : sv (.number s m e) = (if s then -((2 ^ k : Nat) : Int) else ((2 ^ k : Nat) : Int)) * D := by
  rw [sgn_val]
  unfold sgn
  rw [h, ← Nat.pow_add, show j + (e + (LL : Int)).toNat = LL + k by rw [LL_eq]; omega]
  cases s
  · simp only [Bool.false_eq_true, if_false]; exact D_up k
  · simp only [if_true, Int.neg_mul]; rw [← D_up k]
theorem f1024 : FNum single 1149239296 false (1024 * D) := ⟨8388608, -13, by decide, const_sv false _ 23 10 _ (by decide) (by decide) (by decide)⟩
theorem fm1024 : FNum single 3296722944 true (-1024 * D) := ⟨8388608, -13, by decide, const_sv true _ 23 10 _ (by decide) (by decide) (by decide)⟩
theorem d16384 : FNum double 4670232813583204352 false (16384 * D) := ⟨4503599627370496, -38, by decide, const_sv false _ 52 14 _ (by decide) (by decide) (by decide)⟩
theorem dm16384 : FNum double 13893604850437980160 true (-16384 * D) := ⟨4503599627370496, -38, by decide, const_sv true _ 52 14 _ (by decide) (by decide) (by decide)⟩
theorem ngc : single.read 3296722944 = .number true 8388608 (-13) := by decide
end Go.Den.FaF
namespace Go.Den.FaF
open Ieee Go.Den
theorem sgn_inj {s : Bool} {a b : Nat} (h : sgn s a = sgn s b) : a = b := by
  unfold sgn at h; cases s <;> simp at h <;> omega
theorem dec_isInf {f : Format} {b : Nat} {s : Bool} {V : Int} (h : FNum f b s V) : (f.read b).isInfinity = false := by
  obtain ⟨m, e, h, _⟩ := h.ex; rw [h]; rfl
theorem cv_sd {b : Nat} {s : Bool} {V : Int} (h : FNum single b s V) : ∃ B, cvF .f32 .f64 b = some B ∧ FNum double B s V := by
  replace h := h.ex
  obtain ⟨m, e, h, rfl⟩ := h
  obtain ⟨h1, h2, h3⟩ := single_b h
  have hw := wr_double s m m e e (by omega) rfl (by omega) (by omega) (by omega)
  refine ⟨double.nearest s m e, ?_, hw⟩
  unfold cvF
  rw [show decide (FloatKind.f32 = FloatKind.f64) = false by decide]
  simp only
  rw [show FloatKind.decode .f32 b = .number s m e from h]
  simp only
  rw [show (FloatKind.decode .f64 (FloatKind.encode .f64 (.number s m e))).isInfinity = false from dec_isInf hw]
  rfl
theorem small_e {s : Bool} {m : Nat} {e : Int} (h0 : m ≠ 0) (h1 : sv (.number s m e) ≤ 16384 * D) (h2 : -16384 * D ≤ sv (.number s m e)) (he : -2000 ≤ e) : e ≤ 14 := by
  refine Classical.byContradiction fun hn => ?_
  have hp : 2 ^ (LL + 15) ≤ m * 2 ^ (e + LL).toNat := by
    have a : 2 ^ (LL + 15) ≤ 2 ^ (e + LL).toNat := Nat.pow_le_pow_right (by omega) (by rw [LL_eq]; omega)
    exact Nat.le_trans a (Nat.le_mul_of_pos_left _ (Nat.pos_of_ne_zero h0))
  have hD := D_pos
  have hq : ((2 ^ (LL + 15) : Nat) : Int) = 32768 * D := D_up 15
  rw [sgn_val] at h1 h2
  generalize m * 2 ^ (e + LL).toNat = A at *
  have hA : 32768 * D ≤ (A : Int) := by rw [← hq]; exact Int.ofNat_le.2 hp
  unfold sgn at h1 h2
  cases s <;> simp only [Bool.false_eq_true, if_false, if_true] at h1 h2 <;> omega
theorem mul32 {b : Nat} {s : Bool} {V : Int} (h : FNum single b s V) (h1 : -1024 * D ≤ V) (h2 : V ≤ 1024 * D) : ∃ y, single.mul 1098907648 b = some y ∧ FNum single y s (16 * V) := by
  replace h := h.ex
  obtain ⟨m, e, h, rfl⟩ := h
  obtain ⟨b1, b2, b3⟩ := single_b h
  have hD := D_pos
  have hc : single.read 1098907648 = .number false 8388608 (-19) := by decide
  refine ⟨single.nearest s (8388608 * m) (-19 + e), ?_, ?_⟩
  · unfold Format.mul
    rw [hc, h]
    simp only [Datum.product, Option.map_some, Format.write, Bool.false_bne]
  · by_cases h0 : m = 0
    · subst h0
      have hw := wr_single s 0 0 (-19 + e) 0 (by omega) (by simp) (by omega) (by omega) (by omega)
      have e1 : sv (.number s 0 0) = 16 * sv (.number s 0 e) := by rw [sgn_val, sgn_val]; simp [sgn]
      rw [e1] at hw
      exact hw
    · have h14 := small_e (s := s) (e := e) h0 (by omega) (by omega) (by omega)
      have hw := wr_single s (8388608 * m) m (-19 + e) (e + (4 : Nat)) (by omega) (by
        rw [pow_up 4 (by omega)]
        rw [show (8388608 : Nat) = 2 ^ 19 * 2 ^ 4 by decide, show 2 ^ 4 * 2 ^ (e + LL).toNat = 2 ^ 4 * (2 ^ 19 * 2 ^ (-19 + e + LL).toNat) by rw [← Nat.pow_add 2 19]; congr 2; rw [LL_eq]; omega]
        simp only [Nat.mul_assoc, Nat.mul_left_comm, Nat.mul_comm]) b1 (by omega) (by omega)
      rw [sv_up 4 (by omega)] at hw
      exact hw
theorem mul64 {b B : Nat} {s : Bool} {V : Int} (h : FNum single b s V) (hB : FNum double B s V) : ∃ y, double.mul 4625196817309499392 B = some y ∧ FNum double y s (16 * V) := by
  replace h := h.ex
  obtain ⟨m, e, h, rfl⟩ := h
  obtain ⟨k, l, h', hv⟩ := hB.ex
  obtain ⟨b1, b2, b3⟩ := single_b h
  obtain ⟨d1, d2, d3⟩ := double_b h'
  have hk := sgn_inj (show sgn s (k * 2 ^ (l + LL).toNat) = sgn s (m * 2 ^ (e + LL).toNat) from hv)
  have hc : double.read 4625196817309499392 = .number false 4503599627370496 (-48) := by decide
  refine ⟨double.nearest s (4503599627370496 * k) (-48 + l), ?_, ?_⟩
  · unfold Format.mul
    rw [hc, h']
    simp only [Datum.product, Option.map_some, Format.write, Bool.false_bne]
  · have hw := wr_double s (4503599627370496 * k) m (-48 + l) (e + (4 : Nat)) (by omega) (by
        rw [pow_up 4 (by omega)]
        have e1 : 2 ^ 48 * 2 ^ (-48 + l + LL).toNat = 2 ^ (l + LL).toNat := by rw [← Nat.pow_add]; congr 1; rw [LL_eq]; omega
        calc 4503599627370496 * k * 2 ^ (-48 + l + LL).toNat = 2 ^ 4 * (k * (2 ^ 48 * 2 ^ (-48 + l + LL).toNat)) := by
              rw [show (4503599627370496 : Nat) = 2 ^ 4 * 2 ^ 48 by decide]
              simp only [Nat.mul_assoc, Nat.mul_left_comm, Nat.mul_comm]
          _ = m * (2 ^ 4 * 2 ^ (e + LL).toNat) := by rw [e1, hk]; simp only [Nat.mul_assoc, Nat.mul_left_comm, Nat.mul_comm]) (by omega) (by omega) (by omega)
    rw [sv_up 4 (by omega)] at hw
    exact hw
end Go.Den.FaF
namespace Go.Den.FaF
open Ieee Go.Den Go
theorem cut_parts (m : Nat) (e : Int) (h : -(LL : Int) ≤ e) : (m <<< e.toNat) / 2 ^ (-e).toNat = m * 2 ^ (e + LL).toNat / 2 ^ LL ∧ ((m <<< e.toNat) % 2 ^ (-e).toNat != 0) = (m * 2 ^ (e + LL).toNat % 2 ^ LL != 0) := by
  have c : 0 < 2 ^ (LL - (-e).toNat) := Nat.two_pow_pos _
  have e1 : m * 2 ^ (e + LL).toNat = (m <<< e.toNat) * 2 ^ (LL - (-e).toNat) := by
    rw [Nat.shiftLeft_eq, Nat.mul_assoc, ← Nat.pow_add]; congr 2; omega
  have e2 : 2 ^ LL = 2 ^ (-e).toNat * 2 ^ (LL - (-e).toNat) := by rw [← Nat.pow_add]; congr 1; omega
  rw [e1, e2, Nat.mul_div_mul_right _ _ c, Nat.mul_mod_mul_right]
  refine ⟨rfl, ?_⟩
  generalize (m <<< e.toNat) % 2 ^ (-e).toNat = r
  rw [Bool.eq_iff_iff]
  simp only [bne_iff_ne, ne_eq]
  constructor
  · intro h h2
    rcases Nat.mul_eq_zero.1 h2 with h3 | h3
    · exact h h3
    · omega
  · rintro h rfl; exact h (by simp)
theorem sgn_tdiv (s : Bool) (A : Nat) : (sgn s A).tdiv D = sgn s (A / 2 ^ LL) := by
  unfold sgn D
  cases s
  · simp only [Bool.false_eq_true, if_false]; rfl
  · simp only [if_true, Int.neg_tdiv]; rfl
theorem sgn_div (s : Bool) (A : Nat) : sgn s A / D = sgn s (A / 2 ^ LL + (s && A % 2 ^ LL != 0).toNat) := by
  unfold sgn D
  have hd : 0 < 2 ^ LL := Nat.two_pow_pos _
  generalize 2 ^ LL = d at *
  have hA := Nat.div_add_mod A d
  cases s
  · simp only [Bool.false_eq_true, if_false, Bool.false_and, Bool.toNat_false, Nat.add_zero]
    exact (Int.natCast_ediv A d).symm
  · simp only [if_true, Bool.true_and]
    have hr := Nat.mod_lt A hd
    generalize A % d = r at *
    generalize A / d = q at *
    subst hA
    by_cases h0 : r = 0
    · subst h0
      simp only [Nat.add_zero, bne_self_eq_false, Bool.toNat_false]
      rw [Int.ediv_eq_iff_of_pos (by omega)]
      push_cast
      constructor
      · rw [Int.neg_mul, Int.mul_comm]; exact Int.le_refl _
      · rw [Int.neg_mul, Int.mul_comm]; omega
    · have : (r != 0) = true := by simpa using h0
      rw [this]
      simp only [Bool.toNat_true]
      rw [Int.ediv_eq_iff_of_pos (by omega)]
      push_cast
      have e1 : -((q : Int) + 1) * (d : Int) = -((d : Int) * q) - d := by rw [Int.neg_mul, Int.add_mul, Int.one_mul, Int.mul_comm (q : Int)]; omega
      rw [e1]
      omega
theorem toInt_val {f : Format} {b : Nat} {s : Bool} {V : Int} (hf : -(LL : Int) ≤ f.leastPlace) (he : ¬ f.exponentBits < 2) (h : FNum f b s V) : (f.read b).toInt .zero = some (V.tdiv D) := by
  replace h := h.ex
  obtain ⟨m, e, h, rfl⟩ := h
  have b1 := (read_bounds h).resolve_right he
  rw [h]
  unfold Datum.toInt Datum.integral
  simp only [cut_zero]
  rw [signed_eq, (cut_parts m e (by omega)).1, sgn_val, sgn_tdiv]
  simp
theorem cvi_s {b : Nat} {s : Bool} {V : Int} (h : FNum single b s V) (h1 : -1000000 ≤ V.tdiv D) (h2 : V.tdiv D ≤ 1000000) : cvI .f32 .i64 b = some (V.tdiv D) := by
  unfold cvI
  rw [show (FloatKind.f32.decode b).toInt .zero = some (V.tdiv D) from toInt_val (f := single) (by rw [LL_eq, show single.leastPlace = -149 by decide]; omega) (by decide) h]
  simp only
  rw [decide_eq_true]
  constructor
  · show (-9223372036854775808 : Int) ≤ _; omega
  · show _ ≤ (9223372036854775807 : Int); omega
theorem cvi_d {b : Nat} {s : Bool} {V : Int} (h : FNum double b s V) (h1 : -1000000 ≤ V.tdiv D) (h2 : V.tdiv D ≤ 1000000) : cvI .f64 .i64 b = some (V.tdiv D) := by
  unfold cvI
  rw [show (FloatKind.f64.decode b).toInt .zero = some (V.tdiv D) from toInt_val (f := double) (by rw [LL_eq, show double.leastPlace = -1074 by decide]; omega) (by decide) h]
  simp only
  rw [decide_eq_true]
  constructor
  · show (-9223372036854775808 : Int) ≤ _; omega
  · show _ ≤ (9223372036854775807 : Int); omega
theorem sv_int (s : Bool) (q : Nat) : sv (.number s q 0) = sgn s q * D := by
  rw [sgn_val, sgn_mul, Int.zero_add, Int.toNat_natCast]; rfl
theorem floor_d {b : Nat} {s : Bool} {V : Int} (h : FNum double b s V) (h1 : -1000000 ≤ V / D) (h2 : V / D ≤ 1000000) : ∃ Z, floorV [.flt .f64 b] = some (.flt .f64 Z) ∧ FNum double Z s (V / D * D) := by
  replace h := h.ex
  obtain ⟨m, e, h, rfl⟩ := h
  obtain ⟨b1, b2, b3⟩ := double_b h
  have hp := cut_parts m e (by rw [LL_eq]; omega)
  have hs := sgn_div s (m * 2 ^ (e + LL).toNat)
  rw [← sgn_val, ← hp.1, ← hp.2] at hs
  generalize hq : (m <<< e.toNat) / 2 ^ (-e).toNat + (s && (m <<< e.toNat) % 2 ^ (-e).toNat != 0).toNat = q at *
  have hql : q < 9007199254740992 := by
    rw [hs] at h1 h2
    unfold sgn at h1 h2
    cases s <;> simp only [Bool.false_eq_true, if_false, if_true] at h1 h2 <;> omega
  have hw := wr_double s q q 0 0 (by omega) rfl hql (by omega) (by omega)
  rw [sv_int, ← hs] at hw
  refine ⟨double.nearest s q 0, ?_, hw⟩
  unfold floorV
  simp only
  rw [show FloatKind.decode .f64 b = .number s m e from h]
  simp only [Datum.integral, cut_down, hq]
  rfl
theorem cv_ds {b : Nat} {s : Bool} {q : Int} (h : FNum double b s (q * D)) (h1 : -1000000 ≤ q) (h2 : q ≤ 1000000) : ∃ z, cvF .f64 .f32 b = some z ∧ FNum single z s (q * D) := by
  replace h := h.ex
  obtain ⟨m, e, h, hv⟩ := h
  obtain ⟨b1, b2, b3⟩ := double_b h
  have hD := D_pos
  have hA : m * 2 ^ (e + LL).toNat = q.natAbs * 2 ^ ((0 : Int) + LL).toNat := by
    have h3 := congrArg Int.natAbs hv
    rw [sgn_val, Int.natAbs_mul] at h3
    rw [Int.zero_add, Int.toNat_natCast]
    have e1 : (sgn s (m * 2 ^ (e + LL).toNat)).natAbs = m * 2 ^ (e + LL).toNat := by
      generalize m * 2 ^ (e + LL).toNat = A
      unfold sgn; cases s <;> simp
    have e2 : D.natAbs = 2 ^ LL := by unfold D; simp
    rw [← e1, h3, e2]
  have hw := wr_single s m q.natAbs e 0 (by omega) hA (by omega) (by omega) (by omega)
  rw [← sv_eq (s := s) hA, hv] at hw
  refine ⟨single.nearest s m e, ?_, hw⟩
  unfold cvF
  rw [show decide (FloatKind.f64 = FloatKind.f32) = false by decide]
  simp only
  rw [show FloatKind.decode .f64 b = .number s m e from h]
  simp only
  rw [show (FloatKind.decode .f32 (FloatKind.encode .f32 (.number s m e))).isInfinity = false from dec_isInf hw]
  rfl
theorem near_d {t : Int} (h1 : -1000000 ≤ t) (h2 : t ≤ 1000000) : FNum double (FloatKind.f64.nearest t) (decide (t < 0)) (t * D) := by
  have hw := wr_double (decide (t < 0)) t.natAbs t.natAbs 0 0 (by omega) rfl (by omega) (by omega) (by omega)
  rw [sv_int] at hw
  have e : sgn (decide (t < 0)) t.natAbs = t := by
    unfold sgn
    by_cases h : t < 0
    · simp only [h, decide_true, if_true]; omega
    · simp only [h, decide_false, Bool.false_eq_true, if_false]; omega
  rw [e] at hw
  exact hw
theorem and_mask (x : Nat) : (BitVec.ofInt 64 (x : Int) &&& ~~~(BitVec.ofInt 64 9223372036854775808)).toNat = x % 9223372036854775808 := by
  rw [show (~~~(BitVec.ofInt 64 9223372036854775808)) = BitVec.ofNat 64 (2 ^ 63 - 1) by decide, BitVec.toNat_and, BitVec.toNat_ofNat, BitVec.toNat_ofInt]
  rw [show (2 ^ 63 - 1) % 2 ^ 64 = 2 ^ 63 - 1 by decide, Nat.and_two_pow_sub_one_eq_mod]
  rw [show ((x : Int) % ((2 ^ 64 : Nat) : Int)).toNat = x % 2 ^ 64 by rw [← Int.natCast_emod]; rfl, Nat.mod_mod_of_dvd _ (by decide)]
theorem read_abs (b : Nat) : double.read (b % 9223372036854775808) = (match double.read b with | .number _ m e => .number false m e | .infinity _ => .infinity false | .nan _ t => .nan false t) := by
  have a1 : double.signWeight = 9223372036854775808 := by decide
  unfold Format.read
  rw [a1]
  simp only [Nat.mod_mod]
  rw [Nat.div_eq_of_lt (Nat.mod_lt _ (by decide))]
  split
  · rfl
  · split
    · rfl
    · split <;> rfl
theorem abs_d {b : Nat} {s : Bool} {V : Int} (h : FNum double b s V) : (double.order (b % 9223372036854775808) 9218868437227405311 == some .gt) = false := by
  replace h := h.ex
  obtain ⟨m, e, h, rfl⟩ := h
  obtain ⟨b1, b2, b3⟩ := double_b h
  have hc : double.read 9218868437227405311 = .number false 9007199254740991 971 := by decide
  unfold Format.order
  rw [read_abs, h, hc]
  simp only
  rw [order_sv (by rw [LL_eq]; omega) (by rw [LL_eq]; omega), cmp_gt, sgn_val, sgn_val]
  unfold sgn
  simp only [Bool.false_eq_true, if_false, decide_eq_false_iff_not, Int.not_lt, Int.ofNat_le]
  exact Nat.mul_le_mul (by omega) (Nat.pow_le_pow_right (by omega) (by omega))
end Go.Den.FaF
namespace Go.Den.FaT
open Go Go.Proofs Go.Den Go.Den.FaF
theorem c217 (b : Bool) (e : Int) : (lim T).call 217 [.bool b, .int .i64 e] [] 0 [] = some (.int .i64 (cond b e 0), [], 0, []) := by
  rw [ent217]
  cases b
  · simp -implicitDefEqProofs only [go_sem, simprocAttr]
  · simp -implicitDefEqProofs only [go_sem, simprocAttr]
theorem loop216 (b : Bool) (l : List Int) (hb : l.length < 4611686018427387904) : ∀ i, i ≤ l.length → (lim T).loop false [.code (.loop b216_0), .inBlock 0, .code (.seq r216_7 .ret)] ⟨216, 15, 0, [(5, .sl b 1 (l.map fun n => .int .i64 n)), (6, .int .i64 l.length), (7, .int .i64 i)], [], 0, []⟩ = some (.ret (.int .i64 (fnz (l.drop i))), [], 0, []) := by
  refine down_ind l.length ?_ fun i hi ih => ?_
  · rw [loopEq]
    have h1 := idx_out l.length
    simp -implicitDefEqProofs only [go_sem, simprocAttr, h1]
    simp [fnz]
  · obtain ⟨h1, h2, h3, h4, h5⟩ := idx_in hi hb
    rw [loopEq, h5]
    cases h6 : (l[i] != 0)
    · have h7 : l[i] = 0 := by simpa using h6
      simp -implicitDefEqProofs only [go_sem, simprocAttr, h1, h2, h3, h4, h6, ih]
      simp [fnz, h7]
    · have h7 : l[i] ≠ 0 := by simpa using h6
      simp -implicitDefEqProofs only [go_sem, simprocAttr, h1, h2, h3, h4, h6]
      simp [fnz, h7]
theorem c216 (b : Bool) (l : List Int) (hb : l.length < 4611686018427387904) : (lim T).call 216 [.sl b 1 (l.map fun n => .int .i64 n)] [] 0 [] = some (.int .i64 (fnz l), [], 0, []) := by
  rw [ent216]
  have h := loop216 b l hb 0 (by omega)
  rw [show ((0 : Nat) : Int) = 0 from rfl, List.drop_zero] at h
  simp -implicitDefEqProofs only [go_sem, simprocAttr, h]
theorem c216_2 (b : Bool) (x y : Int) : (lim T).call 216 [.sl b 1 [.int .i64 x, .int .i64 y]] [] 0 [] = some (.int .i64 (fnz [x, y]), [], 0, []) := c216 b [x, y] (by simp)
theorem ng1024 : ngF .f32 1149239296 = 3296722944 := by decide
@[go_sem] theorem res259 : Res1 T 259 310 := res1 T (F := Tryz.f259) (by kernel_rfl) (by kernel_rfl)
@[go_sem] theorem res283 : Res1 T 283 310 := res1 T (F := Tryz.f283) (by kernel_rfl) (by kernel_rfl)
@[go_sem] theorem res284 : Res1 T 284 329 := res1 T (F := Tryz.f284) (by kernel_rfl) (by kernel_rfl)
section
variable {ih : Ih} {args : List V} {k : V → Prog}
@[go_sem] theorem callP_259 : callP ih T 259 args k = stowLP T args fun args => needP (!yldL args) <| optP (floorV args) fun v => toP (resK T 259 v fun v => some (k v)) := callP_p _ _ _ _ _ fct259.1 floorV fct259.2.1
@[go_sem] theorem callP_283 : callP ih T 283 args k = stowLP T args fun args => needP (!yldL args) <| optP (frombitsV args) fun v => toP (resK T 283 v fun v => some (k v)) := callP_p _ _ _ _ _ fct283.1 frombitsV fct283.2.1
@[go_sem] theorem callP_284 : callP ih T 284 args k = stowLP T args fun args => needP (!yldL args) <| optP (bitsV args) fun v => toP (resK T 284 v fun v => some (k v)) := callP_p _ _ _ _ _ fct284.1 bitsV fct284.2.1
end
theorem c238 {b : Nat} {r : Nat} (h : floorV [.flt .f64 b] = some (.flt .f64 r)) : (lim T).call 238 [.flt .f64 b] [] 0 [] = some (.flt .f64 r, [], 0, []) := by
  rw [ent238]
  simp -implicitDefEqProofs only [go_sem, simprocAttr, h]
theorem c236 (b : Nat) : (lim T).call 236 [.flt .f64 b] [] 0 [] = some (.bool (!(FloatKind.f64.format.order b b == some .eq)), [], 0, []) := by
  rw [ent236]
  simp -implicitDefEqProofs only [go_sem, simprocAttr]
theorem c258 {b : Nat} (h : (FloatKind.f64.decode b).isNaN = false) : (lim T).call 258 [.flt .f64 b] [] 0 [] = some (.flt .f64 (b % 9223372036854775808), [], 0, []) := by
  rw [ent258]
  have e1 : bitsV [.flt .f64 b] = some (.int .u64 b) := by
    unfold bitsV
    simp only
    cases hd : FloatKind.f64.decode b <;> rw [hd] at h <;> first | rfl | cases h
  have e2 : andN .u64 (b : Int) 9223372036854775808 = b % 9223372036854775808 := and_mask b
  have e3 : IntKind.u64.wrap ((b % 9223372036854775808 : Nat) : Int) = ((b % 9223372036854775808 : Nat) : Int) := by
    have h1 : b % 9223372036854775808 < 9223372036854775808 := Nat.mod_lt _ (by decide)
    generalize b % 9223372036854775808 = x at *
    simp only [IntKind.wrap, IntKind.bits, IntKind.signed]
    have : (2 : Int) ^ 64 = 18446744073709551616 := by decide
    simp
    omega
  have e5 : frombitsV [.int .u64 ((b % 9223372036854775808 : Nat) : Int)] = some (.flt .f64 (b % 9223372036854775808)) := rfl
  simp -implicitDefEqProofs only [go_sem, simprocAttr, e1, e2, e3, e5]
theorem fin_nan {b : Nat} {s : Bool} {V : Int} (h : FNum Ieee.double b s V) : (FloatKind.f64.decode b).isNaN = false := by
  obtain ⟨m, e, h, _⟩ := h.ex
  rw [show FloatKind.f64.decode b = .number s m e from h]; rfl
theorem ord_self {b : Nat} {s : Bool} {V : Int} (h : FNum Ieee.double b s V) : (FloatKind.f64.format.order b b == some .eq) = true := by
  rw [show FloatKind.f64.format.order b b = some (compare V V) from ordd h h, cmp_eq]; simp
theorem c237 {b : Nat} {s : Bool} {V : Int} (h : FNum Ieee.double b s V) : (lim T).call 237 [.flt .f64 b, .int .i64 0] [] 0 [] = some (.bool false, [], 0, []) := by
  rw [ent237]
  have e1 := c258 (fin_nan h)
  have e2 : (FloatKind.f64.format.order (b % 9223372036854775808) 9218868437227405311 == some .gt) = false := abs_d h
  simp -implicitDefEqProofs only [go_sem, simprocAttr, e1, e2]
theorem c218 {b : Nat} {s : Bool} {V : Int} (h : FNum Ieee.single b s V) : (lim T).call 218 [.flt .f32 b] [] 0 [] = some (.bool false, [], 0, []) := by
  obtain ⟨B, h1, h2⟩ := cv_sd h
  rw [ent218]
  have e1 := c236 B
  rw [ord_self h2] at e1
  have e2 := c237 h2
  simp -implicitDefEqProofs only [go_sem, simprocAttr, h1, e1, e2]
theorem c219 {b : Nat} {s : Bool} {V : Int} (h : FNum Ieee.single b s V) : (lim T).call 219 [.flt .f32 b, .flt .f32 1149239296] [] 0 [] = some (.int .i64 (if -1024 * D ≤ V ∧ V ≤ 1024 * D ∧ (16 * V) % D = 0 then 0 else 3), [], 0, []) := by
  have hD := D_pos
  have o1 : (FloatKind.f32.format.order b 3296722944 == some .lt) = decide (V < -1024 * D) := by
    rw [show FloatKind.f32.format.order b 3296722944 = some (compare V (-1024 * D)) from ords h fm1024, cmp_lt]
  have o2 : (FloatKind.f32.format.order b 1149239296 == some .gt) = decide (1024 * D < V) := by
    rw [show FloatKind.f32.format.order b 1149239296 = some (compare V (1024 * D)) from ords h f1024, cmp_gt]
  rw [ent219]
  by_cases h1 : V < -1024 * D
  · rw [if_neg (by omega)]
    rw [decide_eq_true h1] at o1
    simp -implicitDefEqProofs only [go_sem, simprocAttr, ng1024, o1, c217]
  · rw [decide_eq_false h1] at o1
    by_cases h2 : 1024 * D < V
    · rw [if_neg (by omega)]
      rw [decide_eq_true h2] at o2
      simp -implicitDefEqProofs only [go_sem, simprocAttr, ng1024, o1, o2, c217]
    · rw [decide_eq_false h2] at o2
      obtain ⟨y, y1, y2⟩ := mul32 h (by omega) (by omega)
      obtain ⟨Y, z1, z2⟩ := cv_sd y2
      have hq1 : -16384 ≤ 16 * V / D := by rw [Int.le_ediv_iff_mul_le hD]; omega
      have hq2 : 16 * V / D ≤ 16384 := by
        have := Int.ediv_le_ediv hD (show 16 * V ≤ 16384 * D by omega)
        rwa [Int.mul_ediv_cancel _ (by omega)] at this
      obtain ⟨Z, w1, w2⟩ := floor_d z2 (by omega) (by omega)
      obtain ⟨z, v1, v2⟩ := cv_ds w2 (by omega) (by omega)
      have o3 : (FloatKind.f32.format.order z y == some .eq) = decide (16 * V % D = 0) := by
        rw [show FloatKind.f32.format.order z y = some (compare _ _) from ords v2 y2, cmp_eq]
        have := Int.emod_add_mul_ediv (16 * V) D
        rw [Bool.eq_iff_iff, decide_eq_true_iff, decide_eq_true_iff, Int.mul_comm (16 * V / D) D]
        omega
      have y1 : FloatKind.f32.format.mul 1098907648 b = some y := y1
      have e3 := c238 w1
      by_cases h3 : 16 * V % D = 0
      · rw [decide_eq_true h3] at o3
        rw [if_pos ⟨by omega, by omega, h3⟩]
        simp -implicitDefEqProofs only [go_sem, simprocAttr, ng1024, o1, o2, o3, y1, z1, e3, v1, c217]
      · rw [decide_eq_false h3] at o3
        rw [if_neg (fun e => h3 e.2.2)]
        simp -implicitDefEqProofs only [go_sem, simprocAttr, ng1024, o1, o2, o3, y1, z1, e3, v1, c217]
def ckX (b : Nat) : Int := match Ieee.single.read b with
  | .number s m e => if -1024 * D ≤ sv (.number s m e) ∧ sv (.number s m e) ≤ 1024 * D ∧ (16 * sv (.number s m e)) % D = 0 then 0 else 3
  | _ => 1
def unX (b : Nat) : Int := match Ieee.single.read b with
  | .number s m e => (16 * sv (.number s m e)).tdiv D
  | _ => 0
theorem cvinf (b : Nat) (g : Bool) (h : Ieee.single.read b = .infinity g) : cvF .f32 .f64 b = some (cond g 18442240474082181120 9218868437227405312) := by
  unfold cvF
  rw [show decide (FloatKind.f32 = FloatKind.f64) = false by decide]
  simp only
  rw [show FloatKind.decode .f32 b = .infinity g from h]
  cases g <;> decide
theorem cvnan (b : Nat) (g : Bool) (t : Nat) (h : Ieee.single.read b = .nan g t) : cvF .f32 .f64 b = some (qn .f64) := by
  unfold cvF
  rw [show decide (FloatKind.f32 = FloatKind.f64) = false by decide]
  simp only
  rw [show FloatKind.decode .f32 b = .nan g t from h]
theorem cvqn : cvF .f32 .f64 (qn .f32) = some (qn .f64) ∧ cvF .f64 .f32 (qn .f64) = some (qn .f32) ∧ floorV [.flt .f64 (qn .f64)] = some (.flt .f64 (qn .f64)) := ⟨by decide, by decide, rfl⟩
theorem ordqn : (FloatKind.f64.format.order (qn .f64) (qn .f64) == some .eq) = false ∧ (FloatKind.f32.format.order (qn .f32) (qn .f32) == some .eq) = false ∧ (FloatKind.f32.format.order (qn .f32) 0 == some .eq) = false := by decide
theorem nan_o (b c : Nat) (g : Bool) (t : Nat) (h : Ieee.single.read b = .nan g t) : FloatKind.f32.format.order b c = none := order_nan_l c (by rw [show FloatKind.decode .f32 b = .nan g t from h]; rfl)
theorem nan_m (b c : Nat) (g : Bool) (t : Nat) (h : Ieee.single.read b = .nan g t) : FloatKind.f32.format.mul c b = none ∧ FloatKind.f32.format.sub b b = none := by
  show Ieee.single.mul c b = none ∧ Ieee.single.sub b b = none
  unfold Ieee.Format.mul Ieee.Format.sub
  rw [h]
  cases Ieee.single.read c <;> exact ⟨rfl, rfl⟩
theorem inf_o (b c : Nat) (g s : Bool) (m : Nat) (e : Int) (h : Ieee.single.read b = .infinity g) (hc : Ieee.single.read c = .number s m e) : FloatKind.f32.format.order b c = some (if g then .lt else .gt) := by
  show Ieee.single.order b c = _
  unfold Ieee.Format.order
  rw [h, hc]; rfl
theorem c219i (b : Nat) (g : Bool) (h : Ieee.single.read b = .infinity g) : (lim T).call 219 [.flt .f32 b, .flt .f32 1149239296] [] 0 [] = some (.int .i64 3, [], 0, []) := by
  rw [ent219]
  have o1 := inf_o b 3296722944 g _ _ _ h ngc
  have o2 := inf_o b 1149239296 g false 8388608 (-13) h (by decide)
  have k1 : (some Ordering.lt == some Ordering.lt) = true := rfl
  have k2 : (some Ordering.gt == some Ordering.lt) = false := rfl
  have k3 : (some Ordering.gt == some Ordering.gt) = true := rfl
  cases g
  · simp only [Bool.false_eq_true, if_false] at o1 o2
    simp -implicitDefEqProofs only [go_sem, simprocAttr, ng1024, o1, o2, k1, k2, k3, c217]
  · simp only [if_true] at o1 o2
    simp -implicitDefEqProofs only [go_sem, simprocAttr, ng1024, o1, o2, k1, k2, k3, c217]
theorem c219n (b : Nat) (g : Bool) (t : Nat) (h : Ieee.single.read b = .nan g t) : (lim T).call 219 [.flt .f32 b, .flt .f32 1149239296] [] 0 [] = some (.int .i64 3, [], 0, []) := by
  rw [ent219]
  have o1 := nan_o b 3296722944 g t h
  have o2 := nan_o b 1149239296 g t h
  have o3 := (nan_m b 1098907648 g t h).1
  have k1 : ((none : Option Ordering) == some Ordering.lt) = false := rfl
  have k2 : ((none : Option Ordering) == some Ordering.gt) = false := rfl
  obtain ⟨q1, q2, q3⟩ := cvqn
  have e3 := c238 q3
  simp -implicitDefEqProofs only [go_sem, simprocAttr, ng1024, o1, o2, o3, k1, k2, q1, q2, e3, ordqn.2.1, c217]
theorem c218i (b : Nat) (g : Bool) (h : Ieee.single.read b = .infinity g) : (lim T).call 218 [.flt .f32 b] [] 0 [] = some (.bool true, [], 0, []) := by
  have h1 := cvinf b g h
  rw [ent218]
  have key : ∀ B, B = 18442240474082181120 ∨ B = 9218868437227405312 → (FloatKind.f64.format.order B B == some .eq) = true ∧ (lim T).call 237 [.flt .f64 B, .int .i64 0] [] 0 [] = some (.bool true, [], 0, []) := by
    rintro B (rfl | rfl)
    · refine ⟨by decide, ?_⟩
      have e1 := c258 (b := 18442240474082181120) (by decide)
      have e2 : (FloatKind.f64.format.order 9218868437227405312 9218868437227405311 == some .gt) = true := by decide
      rw [show 18442240474082181120 % 9223372036854775808 = 9218868437227405312 by decide] at e1
      rw [ent237]
      simp -implicitDefEqProofs only [go_sem, simprocAttr, e1, e2]
    · refine ⟨by decide, ?_⟩
      have e1 := c258 (b := 9218868437227405312) (by decide)
      have e2 : (FloatKind.f64.format.order 9218868437227405312 9218868437227405311 == some .gt) = true := by decide
      rw [show 9218868437227405312 % 9223372036854775808 = 9218868437227405312 by decide] at e1
      rw [ent237]
      simp -implicitDefEqProofs only [go_sem, simprocAttr, e1, e2]
  obtain ⟨k1, k2⟩ := key (cond g 18442240474082181120 9218868437227405312) (by cases g <;> simp)
  generalize cond g 18442240474082181120 9218868437227405312 = B at *
  have e1 := c236 B
  rw [k1] at e1
  simp -implicitDefEqProofs only [go_sem, simprocAttr, h1, e1, k2]
theorem c218n (b : Nat) (g : Bool) (t : Nat) (h : Ieee.single.read b = .nan g t) : (lim T).call 218 [.flt .f32 b] [] 0 [] = some (.bool true, [], 0, []) := by
  have h1 := cvnan b g t h
  rw [ent218]
  have e1 := c236 (qn .f64)
  rw [ordqn.1] at e1
  simp -implicitDefEqProofs only [go_sem, simprocAttr, h1, e1]
theorem fnz_01 (x : Int) : fnz [0, x] = x := by
  by_cases h : x = 0 <;> simp [fnz, h]
theorem c159 (b : Nat) : (lim T).call 159 [.flt .f32 b] [] 0 [] = some (.int .i64 (ckX b), [], 0, []) := by
  rw [ent159]
  unfold ckX
  cases h : Ieee.single.read b with
  | number s m e =>
    have hF : FNum Ieee.single b s (sv (.number s m e)) := ⟨m, e, h, rfl⟩
    have e1 := c218 hF
    have e2 := c219 hF
    simp -implicitDefEqProofs only [go_sem, simprocAttr, e1, e2, c217, c216_2, fnz_01]
  | infinity g =>
    have e1 := c218i b g h
    have e2 := c219i b g h
    simp -implicitDefEqProofs only [go_sem, simprocAttr, e1, e2, c217, c216_2, fnz]
  | nan g t =>
    have e1 := c218n b g t h
    have e2 := c219n b g t h
    simp -implicitDefEqProofs only [go_sem, simprocAttr, e1, e2, c217, c216_2, fnz]
theorem sub_self {b : Nat} {s : Bool} {m : Nat} {e : Int} (h : Ieee.single.read b = .number s m e) : Ieee.single.sub b b = some 0 := by
  unfold Ieee.Format.sub
  rw [h]
  simp only [Ieee.Datum.opposite, Ieee.Datum.sum, Option.map_some, Int.min_self, Int.sub_self, Int.toNat_zero]
  have e1 : Ieee.signed s m 0 + Ieee.signed (!s) m 0 = 0 := by
    unfold Ieee.signed; cases s <;> simp <;> omega
  rw [e1]
  cases s <;> rfl
theorem c215i (b : Nat) (h : Ieee.single.sub b b = none) : (lim T).call 215 [.flt .f32 b, .int .i64 16384] [] 0 [] = some (.int .i64 1, [], 0, []) := by
  rw [ent215]
  have h1 : FloatKind.f32.format.sub b b = none := h
  simp -implicitDefEqProofs only [go_sem, simprocAttr, h1, ordqn.2.2]
theorem nr : FloatKind.f64.nearest 16384 = 4670232813583204352 ∧ FloatKind.f64.format.sub 0 4670232813583204352 = some 13893604850437980160 ∧ (FloatKind.f32.format.order 0 0 == some .eq) = true := by decide
theorem c215n {b : Nat} {s : Bool} {m : Nat} {e : Int} (h : Ieee.single.read b = .number s m e) : (lim T).call 215 [.flt .f32 b, .int .i64 16384] [] 0 [] = some (.int .i64 (ckX b), [], 0, []) := by
  have hD := D_pos
  have hF : FNum Ieee.single b s (sv (.number s m e)) := ⟨m, e, h, rfl⟩
  unfold ckX
  rw [h]
  simp only
  have s1 : FloatKind.f32.format.sub b b = some 0 := sub_self h
  clear h
  generalize sv (.number s m e) = V at *
  obtain ⟨B, b1, b2⟩ := cv_sd hF
  obtain ⟨y, y1, y2⟩ := mul64 hF b2
  have y1 : FloatKind.f64.format.mul 4625196817309499392 B = some y := y1
  obtain ⟨n1, n2, n3⟩ := nr
  have o1 : (FloatKind.f64.format.order y 13893604850437980160 == some .lt) = decide (16 * V < -16384 * D) := by
    rw [show FloatKind.f64.format.order y 13893604850437980160 = some (compare (16 * V) (-16384 * D)) from ordd y2 dm16384, cmp_lt]
  have o2 : (FloatKind.f64.format.order y 4670232813583204352 == some .gt) = decide (16384 * D < 16 * V) := by
    rw [show FloatKind.f64.format.order y 4670232813583204352 = some (compare (16 * V) (16384 * D)) from ordd y2 d16384, cmp_gt]
  rw [ent215]
  by_cases h1 : 16 * V < -16384 * D
  · rw [if_neg (by omega)]
    rw [decide_eq_true h1] at o1
    simp -implicitDefEqProofs only [go_sem, simprocAttr, s1, n1, n2, n3, b1, y1, o1]
  · rw [decide_eq_false h1] at o1
    by_cases h2 : 16384 * D < 16 * V
    · rw [if_neg (by omega)]
      rw [decide_eq_true h2] at o2
      simp -implicitDefEqProofs only [go_sem, simprocAttr, s1, n1, n2, n3, b1, y1, o1, o2]
    · rw [decide_eq_false h2] at o2
      have hdm := Int.tmod_add_mul_tdiv (16 * V) D
      have ht1 := Int.tmod_lt_of_pos (16 * V) hD
      have ht2 := Int.lt_tmod_of_pos (16 * V) hD
      have hq1 : -16384 ≤ (16 * V).tdiv D := by
        refine Classical.byContradiction fun hn => ?_
        have : D * (16 * V).tdiv D ≤ D * (-16385) := Int.mul_le_mul_of_nonneg_left (by omega) (by omega)
        omega
      have hq2 : (16 * V).tdiv D ≤ 16384 := by
        refine Classical.byContradiction fun hn => ?_
        have : D * 16385 ≤ D * (16 * V).tdiv D := Int.mul_le_mul_of_nonneg_left (by omega) (by omega)
        omega
      have i1 := cvi_d y2 (by omega) (by omega)
      have t1 := near_d (t := (16 * V).tdiv D) (by omega) (by omega)
      generalize ht : (16 * V).tdiv D = t at *
      have o3 : (FloatKind.f64.format.order (FloatKind.f64.nearest t) y == some .eq) = decide (16 * V % D = 0) := by
        rw [show FloatKind.f64.format.order (FloatKind.f64.nearest t) y = some (compare _ _) from ordd t1 y2, cmp_eq]
        have hz : 16 * V % D = 0 ↔ (16 * V).tmod D = 0 := by
          rw [← Int.dvd_iff_emod_eq_zero, ← Int.dvd_iff_tmod_eq_zero]
        rw [Bool.eq_iff_iff, decide_eq_true_iff, decide_eq_true_iff, hz, Int.mul_comm t D]
        omega
      by_cases h3 : 16 * V % D = 0
      · rw [decide_eq_true h3] at o3
        rw [if_pos ⟨by omega, by omega, h3⟩]
        simp -implicitDefEqProofs only [go_sem, simprocAttr, s1, n1, n2, n3, b1, y1, o1, o2, i1, o3]
      · rw [decide_eq_false h3] at o3
        rw [if_neg (fun e => h3 e.2.2)]
        simp -implicitDefEqProofs only [go_sem, simprocAttr, s1, n1, n2, n3, b1, y1, o1, o2, i1, o3]
theorem c155 (b : Nat) : (lim T).call 155 [.flt .f32 b] [] 0 [] = some (.int .i64 (ckX b), [], 0, []) := by
  rw [ent155]
  cases h : Ieee.single.read b with
  | number s m e =>
    have e1 := c215n h
    simp -implicitDefEqProofs only [go_sem, simprocAttr, e1]
  | infinity g =>
    have e1 := c215i b (by unfold Ieee.Format.sub; rw [h]; cases g <;> rfl)
    have e2 : ckX b = 1 := by unfold ckX; rw [h]
    simp -implicitDefEqProofs only [go_sem, simprocAttr, e1, e2]
  | nan g t =>
    have e1 := c215i b (by unfold Ieee.Format.sub; rw [h]; rfl)
    have e2 : ckX b = 1 := by unfold ckX; rw [h]
    simp -implicitDefEqProofs only [go_sem, simprocAttr, e1, e2]
theorem unit_v {b : Nat} (h : ckX b = 0) : ∃ y, FloatKind.f32.format.mul 1098907648 b = some y ∧ cvI .f32 .i64 y = some (unX b) ∧ -16384 ≤ unX b ∧ unX b ≤ 16384 := by
  unfold ckX at h
  have hD := D_pos
  cases hr : Ieee.single.read b with
  | number s m e =>
    rw [hr] at h
    simp only at h
    split at h
    · rename_i h1
      obtain ⟨h1, h2, h3⟩ := h1
      have hF : FNum Ieee.single b s (sv (.number s m e)) := ⟨m, e, hr, rfl⟩
      have hu : unX b = (16 * sv (.number s m e)).tdiv D := by unfold unX; rw [hr]
      obtain ⟨y, y1, y2⟩ := mul32 hF h1 h2
      rw [hu]
      clear hr hu
      generalize sv (.number s m e) = V at *
      have hdm := Int.tmod_add_mul_tdiv (16 * V) D
      have hz : (16 * V).tmod D = 0 := by
        rw [← Int.dvd_iff_tmod_eq_zero, Int.dvd_iff_emod_eq_zero]; exact h3
      have hq1 : -16384 ≤ (16 * V).tdiv D := by
        refine Classical.byContradiction fun hn => ?_
        have : D * (16 * V).tdiv D ≤ D * (-16385) := Int.mul_le_mul_of_nonneg_left (by omega) (by omega)
        omega
      have hq2 : (16 * V).tdiv D ≤ 16384 := by
        refine Classical.byContradiction fun hn => ?_
        have : D * 16385 ≤ D * (16 * V).tdiv D := Int.mul_le_mul_of_nonneg_left (by omega) (by omega)
        omega
      exact ⟨y, y1, cvi_s y2 (by omega) (by omega), hq1, hq2⟩
    · cases h
  | infinity g => rw [hr] at h; cases h
  | nan g t => rw [hr] at h; cases h
theorem c214 {b : Nat} (h : ckX b = 0) : (lim T).call 214 [.flt .f32 b] [] 0 [] = some (.int .i64 (unX b), [], 0, []) := by
  obtain ⟨y, h1, h2, _⟩ := unit_v h
  rw [ent214]
  simp -implicitDefEqProofs only [go_sem, simprocAttr, h1, h2]
def fV (n : Nat) : V := .flt .f32 n
attribute [go_sem] fV
structure Pc where
  w : Int
  h : Int
  b : Bool
  l : List Nat
def pcV (p : Pc) : V := .agg [.int .i64 p.w, .int .i64 p.h, .sl p.b 1 (p.l.map fV)]
theorem c55 (p : Pc) : (lim T).call 55 [pcV p] [] 0 [] = some (.bool (decide ((p.l.length : Int) ≤ 64)), [], 0, []) := by
  rw [ent55]
  simp -implicitDefEqProofs only [go_sem, simprocAttr, pcV]
theorem loop158 (b : Bool) (l : List (Nat)) (hb : l.length < 1000000) : ∀ i, i ≤ l.length → ∀ o : Option (List (Int)), acL o = i →
    (lim T).loop false [.code (.loop b158_0), .inBlock 0, .code (.seq r158_7 .ret)] ⟨158, 22, 0, [(1, .fn 159 []), (5, acV o 0), (8, .sl b 1 (l.map fV)), (9, .int .i64 l.length), (10, .int .i64 i)], acR intV o 29, 0, []⟩ =
      some (.ret (acO intV 0 1 (acA o ((l.drop i).map (fun x => ckX x)))), [], 0, []) := by
  refine down_ind l.length ?_ fun i hi ih o ho => ?_
  · intro o ho
    rw [loopEq]
    have h1 := idx_out l.length
    cases o with
    | none =>
      simp -implicitDefEqProofs only [go_sem, simprocAttr, h1]
      simp [acA, acO]
    | some a =>
      simp -implicitDefEqProofs only [go_sem, simprocAttr, h1]
      simp [acA, acO]
  · obtain ⟨h1, h2, h3, h4, h5⟩ := idx_in hi (by omega)
    rw [loopEq, h5]
    have ih' := ih (acA o [((fun x => ckX x) l[i])]) (by rw [acL_A, ho]; rfl)
    rw [acA_acA] at ih'
    dsimp only at ih'
    cases o with
    | none =>
      have h8 := row_ok (n := 0) (by omega)
      simp only [acA_n, acV_s, acR_s, List.map_cons, List.map_nil, intV] at ih'
      simp -implicitDefEqProofs only [go_sem, simprocAttr, h1, h2, h3, h4, ih', h8.2, c159]
    | some a =>
      have h9 : a.length = i := ho
      have h8 := (row_ok (n := a.length) (by omega)).1
      simp only [acA_s, acV_s, acR_s, List.map_append, List.map_cons, List.map_nil, intV] at ih'
      simp -implicitDefEqProofs only [go_sem, simprocAttr, h1, h2, h3, h4, ih', h8, c159]
theorem c158 (b : Bool) (l : List (Nat)) (hb : l.length < 1000000) : (lim T).call 158 [.sl b 1 (l.map fV), .fn 159 []] [] 0 [] = some (slV 1 (((l).map (fun x => ckX x)).map intV), [], 0, []) := by
  rw [ent158]
  have h := loop158  b l hb  0 (by omega) none rfl
  rw [show ((0 : Nat) : Int) = 0 from rfl, List.drop_zero, acO_slV] at h
  simp only [acV_n, acR_n] at h
  simp -implicitDefEqProofs only [go_sem, simprocAttr, h]
theorem loop213 (b : Bool) (l : List (Nat)) (hb : l.length < 1000000) (hu : ∀ x ∈ l, ckX x = 0) : ∀ i, i ≤ l.length → ∀ o : Option (List (Int)), acL o = i →
    (lim T).loop false [.code (.loop b213_0), .inBlock 0, .code (.seq r213_7 .ret)] ⟨213, 22, 0, [(1, .fn 214 []), (5, acV o 0), (8, .sl b 1 (l.map fV)), (9, .int .i64 l.length), (10, .int .i64 i)], acR intV o 3, 0, []⟩ =
      some (.ret (acO intV 0 1 (acA o ((l.drop i).map (fun x => unX x)))), [], 0, []) := by
  refine down_ind l.length ?_ fun i hi ih o ho => ?_
  · intro o ho
    rw [loopEq]
    have h1 := idx_out l.length
    cases o with
    | none =>
      simp -implicitDefEqProofs only [go_sem, simprocAttr, h1]
      simp [acA, acO]
    | some a =>
      simp -implicitDefEqProofs only [go_sem, simprocAttr, h1]
      simp [acA, acO]
  · obtain ⟨h1, h2, h3, h4, h5⟩ := idx_in hi (by omega)
    rw [loopEq, h5]
    have ih' := ih (acA o [((fun x => unX x) l[i])]) (by rw [acL_A, ho]; rfl)
    rw [acA_acA] at ih'
    dsimp only at ih'
    cases o with
    | none =>
      have h8 := row_ok (n := 0) (by omega)
      simp only [acA_n, acV_s, acR_s, List.map_cons, List.map_nil, intV] at ih'
      simp -implicitDefEqProofs only [go_sem, simprocAttr, h1, h2, h3, h4, ih', h8.2, c214 (hu _ (List.getElem_mem hi))]
    | some a =>
      have h9 : a.length = i := ho
      have h8 := (row_ok (n := a.length) (by omega)).1
      simp only [acA_s, acV_s, acR_s, List.map_append, List.map_cons, List.map_nil, intV] at ih'
      simp -implicitDefEqProofs only [go_sem, simprocAttr, h1, h2, h3, h4, ih', h8, c214 (hu _ (List.getElem_mem hi))]
theorem c213 (b : Bool) (l : List (Nat)) (hb : l.length < 1000000) (hu : ∀ x ∈ l, ckX x = 0) : (lim T).call 213 [.sl b 1 (l.map fV), .fn 214 []] [] 0 [] = some (slV 1 (((l).map (fun x => unX x)).map intV), [], 0, []) := by
  rw [ent213]
  have h := loop213  b l hb hu 0 (by omega) none rfl
  rw [show ((0 : Nat) : Int) = 0 from rfl, List.drop_zero, acO_slV] at h
  simp only [acV_n, acR_n] at h
  simp -implicitDefEqProofs only [go_sem, simprocAttr, h]
theorem c57 (p : Pc) (hl : p.l.length < 1000000) : (lim T).call 57 [pcV p] [] 0 [] = some (pcV ⟨p.w, p.h, true, p.l⟩, [], 0, []) := by
  rw [ent57]
  obtain ⟨w, h, b, l⟩ := p
  cases l with
  | nil => simp -implicitDefEqProofs only [go_sem, simprocAttr, pcV]
  | cons x l =>
    have h8 := (row_ok (n := l.length) (by simp at hl; omega)).1
    simp -implicitDefEqProofs only [go_sem, simprocAttr, pcV, h8]
def ckPic (p : Pc) : Int := let e := fnz [rng p.w 1 16, rng p.h 1 16]
  if e ≠ 0 then e else if (p.l.length : Int) ≠ p.w * p.h then 2 else fnz (p.l.map fun x => ckX x)
theorem rng_in {n a b : Int} (h : rng n a b = 0) : a ≤ n ∧ n ≤ b := by
  rw [rng_eq] at h
  split at h
  · cases h
  · omega
theorem dims {p : Pc} (h : fnz [rng p.w 1 16, rng p.h 1 16] = 0) : 1 ≤ p.w ∧ p.w ≤ 16 ∧ 1 ≤ p.h ∧ p.h ≤ 16 ∧ 1 ≤ p.w * p.h ∧ p.w * p.h ≤ 256 := by
  have h1 := fnz_zero.1 h (rng p.w 1 16) (by simp)
  have h2 := fnz_zero.1 h (rng p.h 1 16) (by simp)
  obtain ⟨a1, a2⟩ := rng_in h1
  obtain ⟨b1, b2⟩ := rng_in h2
  refine ⟨a1, a2, b1, b2, ?_, ?_⟩
  · have := Int.mul_le_mul a1 b1 (by omega) (by omega); omega
  · have := Int.mul_le_mul a2 b2 (by omega) (by omega); omega
theorem c63 (p : Pc) (hl : p.l.length < 1000000) : (lim T).call 63 [pcV p] [] 0 [] = some (.int .i64 (ckPic p), [], 0, []) := by
  rw [ent63]
  cases h : (fnz [rng p.w 1 16, rng p.h 1 16] != 0)
  · have h0 : fnz [rng p.w 1 16, rng p.h 1 16] = 0 := by simpa using h
    obtain ⟨a1, a2, b1, b2, c1, c2⟩ := dims h0
    have w1 : IntKind.i64.wrap (p.w * p.h) = p.w * p.h := by rw [wrap64] <;> omega
    have e1 := c158 p.b p.l (by omega)
    have e2 := fun b => c114 b (p.l.map fun x => ckX x) (by simp; omega)
    have e3 : List.map intV (List.map (fun x => ckX x) p.l) = List.map (fun n => V.int .i64 n) (List.map (fun x => ckX x) p.l) := rfl
    rw [e3] at e1
    cases h2 : ((p.l.length : Int) != p.w * p.h)
    · have h3 : (p.l.length : Int) = p.w * p.h := by simpa using h2
      simp -implicitDefEqProofs only [go_sem, simprocAttr, pcV, h, c137, c114_2, w1, e1, e2, c115, h2, fnz_01]
      simp [ckPic, h0, h3]
    · have h3 : ¬ (p.l.length : Int) = p.w * p.h := by simpa using h2
      have f2 : ∀ x : Int, fnz [2, x] = 2 := fun _ => rfl
      simp -implicitDefEqProofs only [go_sem, simprocAttr, pcV, h, c137, c114_2, w1, e1, e2, c115, h2, f2]
      simp [ckPic, h0, h3]
  · have h0 : fnz [rng p.w 1 16, rng p.h 1 16] ≠ 0 := by simpa using h
    simp -implicitDefEqProofs only [go_sem, simprocAttr, pcV, h, c137, c114_2]
    simp [ckPic, h0]
theorem c150 (p : Pc) (n : Int) (hl : p.l.length < 1000000) : (lim T).call 150 [pcV p, .int .i64 n] [] 0 [] = some (.int .i64 (fnz [ckPic p, rng n 1 16384]), [], 0, []) := by
  rw [ent150]
  have e := c63 p hl
  simp only [pcV] at e ⊢
  simp -implicitDefEqProofs only [go_sem, simprocAttr, e, c137, c114_2]
theorem loop59 (p : Pc) (hl : p.l.length < 1000000) : ∀ i, i ≤ p.l.length → (lim T).loop false [.code (.loop b59_0), .inBlock 0, .code (.seq r59_12 .ret)] ⟨59, 42, 0, [(1, .ptr 0 0 0), (4, .int .i64 i)], [.cells true true 82 [pcV p]], 0, []⟩ = some (.ret (.int .i64 (fnz ((p.l.drop i).map fun x => ckX x))), [], 0, []) := by
  refine down_ind p.l.length ?_ fun i hi ih => ?_
  · rw [loopEq]
    have h1 := idx_out p.l.length
    simp -implicitDefEqProofs only [go_sem, simprocAttr, pcV, h1]
    simp [fnz]
  · obtain ⟨h1, h2, h3, h4, h5⟩ := idx_in hi (by omega)
    rw [loopEq, h5]
    simp only [pcV] at ih ⊢
    cases h6 : (ckX p.l[i] != 0)
    · have h7 : ckX p.l[i] = 0 := by simpa using h6
      simp -implicitDefEqProofs only [go_sem, simprocAttr, h1, h2, h3, h4, h6, ih, c155]
      simp [fnz, h7]
    · have h7 : ckX p.l[i] ≠ 0 := by simpa using h6
      simp -implicitDefEqProofs only [go_sem, simprocAttr, h1, h2, h3, h4, h6, c155]
      simp [fnz, h7]
theorem c59 (p : Pc) (hl : p.l.length < 1000000) : (lim T).call 59 [pcV p] [] 0 [] = some (.int .i64 (ckPic p), [], 0, []) := by
  rw [ent59]
  have e := loop59 p hl 0 (by omega)
  rw [show ((0 : Nat) : Int) = 0 from rfl, List.drop_zero] at e
  simp only [pcV] at e ⊢
  cases h : (fnz [rng p.w 1 16, rng p.h 1 16] != 0)
  · have h0 : fnz [rng p.w 1 16, rng p.h 1 16] = 0 := by simpa using h
    obtain ⟨a1, a2, b1, b2, c1, c2⟩ := dims h0
    have w1 : IntKind.i64.wrap (p.w * p.h) = p.w * p.h := by rw [wrap64] <;> omega
    cases h2 : ((p.l.length : Int) != p.w * p.h)
    · have h3 : (p.l.length : Int) = p.w * p.h := by simpa using h2
      simp -implicitDefEqProofs only [go_sem, simprocAttr, h, c90, c108_2, w1, h2, e]
      simp [ckPic, h0, h3]
    · have h3 : ¬ (p.l.length : Int) = p.w * p.h := by simpa using h2
      simp -implicitDefEqProofs only [go_sem, simprocAttr, h, c90, c108_2, w1, h2]
      simp [ckPic, h0, h3]
  · have h0 : fnz [rng p.w 1 16, rng p.h 1 16] ≠ 0 := by simpa using h
    simp -implicitDefEqProofs only [go_sem, simprocAttr, h, c90, c108_2]
    simp [ckPic, h0]
def ptV (x : Int × Int) : V := .agg [.int .i64 x.1, .int .i64 x.2]
attribute [go_sem] ptV
theorem pair_eq (a b : Int × Int) (h : (a.1 == b.1 && a.2 == b.2) = true) : a = b := by
  simp only [Bool.and_eq_true, beq_iff_eq] at h
  exact Prod.ext h.1 h.2
def stV (x : (Int × Int) × Int) : V := .agg [.int .i64 x.1.1, .int .i64 x.1.2, .int .i64 x.2]
attribute [go_sem] stV
def joV (x : (Int × Int) × List (Int × Int)) : V := .agg [.int .i64 x.1.1, .int .i64 x.1.2, .int .i64 x.2.length, .sl true 2 (x.2.map ptV)]
attribute [go_sem] joV
theorem c154 (x y n : Int) (b : Bool) (l : List V) : (lim T).call 154 [.agg [.int .i64 x, .int .i64 y, .int .i64 n, .sl b 2 l]] [] 0 [] = some (.agg [.int .i64 x, .int .i64 y, .int .i64 n], [], 0, []) := by
  rw [ent154]
  simp -implicitDefEqProofs only [go_sem, simprocAttr]
theorem loop153 (b : Bool) (l : List ((Int × Int) × List (Int × Int))) (hb : l.length < 1000000) : ∀ i, i ≤ l.length → ∀ o : Option (List ((Int × Int) × Int)), acL o = i →
    (lim T).loop false [.code (.loop b153_0), .inBlock 0, .code (.seq r153_7 .ret)] ⟨153, 22, 0, [(1, .fn 154 []), (5, acV o 0), (8, .sl b 4 (l.map joV)), (9, .int .i64 l.length), (10, .int .i64 i)], acR stV o 153, 0, []⟩ =
      some (.ret (acO stV 0 3 (acA o ((l.drop i).map (fun x => (x.1, (x.2.length : Int)))))), [], 0, []) := by
  refine down_ind l.length ?_ fun i hi ih o ho => ?_
  · intro o ho
    rw [loopEq]
    have h1 := idx_out l.length
    cases o with
    | none =>
      simp -implicitDefEqProofs only [go_sem, simprocAttr, h1]
      simp [acA, acO]
    | some a =>
      simp -implicitDefEqProofs only [go_sem, simprocAttr, h1]
      simp [acA, acO]
  · obtain ⟨h1, h2, h3, h4, h5⟩ := idx_in hi (by omega)
    rw [loopEq, h5]
    have ih' := ih (acA o [((fun x => (x.1, (x.2.length : Int))) l[i])]) (by rw [acL_A, ho]; rfl)
    rw [acA_acA] at ih'
    dsimp only at ih'
    cases o with
    | none =>
      have h8 := row_ok (n := 0) (by omega)
      simp only [acA_n, acV_s, acR_s, List.map_cons, List.map_nil, stV] at ih'
      simp -implicitDefEqProofs only [go_sem, simprocAttr, h1, h2, h3, h4, ih', h8.2, c154]
    | some a =>
      have h9 : a.length = i := ho
      have h8 := (row_ok (n := a.length) (by omega)).1
      simp only [acA_s, acV_s, acR_s, List.map_append, List.map_cons, List.map_nil, stV] at ih'
      simp -implicitDefEqProofs only [go_sem, simprocAttr, h1, h2, h3, h4, ih', h8, c154]
theorem c153 (b : Bool) (l : List ((Int × Int) × List (Int × Int))) (hb : l.length < 1000000) : (lim T).call 153 [.sl b 4 (l.map joV), .fn 154 []] [] 0 [] = some (slV 3 (((l).map (fun x => (x.1, (x.2.length : Int)))).map stV), [], 0, []) := by
  rw [ent153]
  have h := loop153  b l hb  0 (by omega) none rfl
  rw [show ((0 : Nat) : Int) = 0 from rfl, List.drop_zero, acO_slV] at h
  simp only [acV_n, acR_n] at h
  simp -implicitDefEqProofs only [go_sem, simprocAttr, h]
theorem c152 (a b c d : Int) : (lim T).call 152 [.agg [.int .i64 a, .int .i64 b], .agg [.int .i64 c, .int .i64 d]] [] 0 [] = some (.agg [.int .i64 (IntKind.i64.wrap (a + c)), .int .i64 (IntKind.i64.wrap (b + d))], [], 0, []) := by
  rw [ent152]
  simp -implicitDefEqProofs only [go_sem, simprocAttr]
def besB (a b : Int × Int) : Bool := (a.1 - b.1) * (a.1 - b.1) + (a.2 - b.2) * (a.2 - b.2) == 1
def sm (a : Int × Int) : Prop := 0 ≤ a.1 ∧ a.1 ≤ 1000 ∧ 0 ≤ a.2 ∧ a.2 ≤ 1000
def hotE (w m : Int) : List Int → Nat → List (Int × Int)
  | [], _ => []
  | x :: r, i => if m ≤ x then ((i : Int).tmod w, (i : Int).tdiv w) :: hotE w m r (i + 1) else hotE w m r (i + 1)
def us (l : List Nat) : List Int := l.map unX
structure Pc.ok (p : Pc) : Prop where
  w : 1 ≤ p.w ∧ p.w ≤ 16
  h : 1 ≤ p.h ∧ p.h ≤ 16
  n : (p.l.length : Int) = p.w * p.h
  x : ∀ x ∈ p.l, ckX x = 0
theorem okP {p : Pc} (h : ckPic p = 0) : p.ok := by
  unfold ckPic at h
  simp only at h
  split at h
  · rename_i h1; exact absurd h h1
  · rename_i h1
    have h1 : fnz [rng p.w 1 16, rng p.h 1 16] = 0 := by simpa using h1
    obtain ⟨a1, a2, b1, b2, _, _⟩ := dims h1
    split at h
    · cases h
    · rename_i h2
      have h2 : (p.l.length : Int) = p.w * p.h := by simpa using h2
      have h3 := fnz_zero.1 h
      exact ⟨⟨a1, a2⟩, ⟨b1, b2⟩, h2, fun x hx => h3 _ (List.mem_map_of_mem hx)⟩
theorem Pc.ok.len {p : Pc} (h : p.ok) : 0 < p.l.length ∧ p.l.length ≤ 256 := by
  have h1 := Int.mul_le_mul h.w.2 h.h.2 (by have := h.h.1; omega) (by omega)
  have h2 := Int.mul_le_mul h.w.1 h.h.1 (by omega) (by have := h.w.1; omega)
  have := h.n
  omega
theorem un_b {p : Pc} (h : p.ok) : ∀ x ∈ us p.l, -16384 ≤ x ∧ x ≤ 16384 := by
  intro x hx
  obtain ⟨b, hb, rfl⟩ := List.mem_map.1 hx
  obtain ⟨_, _, _, h1, h2⟩ := unit_v (h.x b hb)
  exact ⟨h1, h2⟩
theorem med_mem {l : List Int} (h : l ≠ []) : med l ∈ l := by
  have h0 := List.length_pos_iff.2 h
  have hp := (srt_perm l)
  have hl := hp.length_eq
  have hm : (l.length - 1) / 2 < (srt l).length := by omega
  unfold med
  rw [List.getD_eq_getElem?_getD, List.getElem?_eq_getElem hm]
  exact hp.mem_iff.1 (List.getElem_mem hm)
def hotL (p : Pc) (n : Int) : List (Int × Int) := hotE p.w (med (us p.l) + n) (us p.l) 0
def fF {α : Type} (f : α → Nat → α) (n k : Nat) (F : α) : α := (List.range' k (n - k)).foldl f F
theorem fF_n {α : Type} (f : α → Nat → α) (n : Nat) (F : α) : fF f n n F = F := by simp [fF]
theorem fF_s {α : Type} (f : α → Nat → α) {n k : Nat} (h : k < n) (F : α) : fF f n k F = fF f n (k + 1) (f F k) := by
  unfold fF
  rw [show n - k = (n - (k + 1)) + 1 by omega, List.range'_succ, List.foldl_cons]
def mn (a b : Int) : Int := if b < a then b else a
def stK (l : List (Int × Int)) (i : Nat) (F : List Int) (k : Nat) : List Int := if besB (l.getD i (0, 0)) (l.getD k (0, 0)) = true then F.set i (mn (F.getD i 0) (F.getD k 0)) else F
def stI (l : List (Int × Int)) (F : List Int) (i : Nat) : List Int := fF (stK l i) l.length 0 F
def stR (l : List (Int × Int)) (F : List Int) (_ : Nat) : List Int := fF (stI l) l.length 0 F
def finF (l : List (Int × Int)) : List Int := fF (stR l) l.length 0 ((List.range l.length).map fun i : Nat => (i : Int))
theorem stK_len (l : List (Int × Int)) (i : Nat) (F : List Int) (k : Nat) : (stK l i F k).length = F.length := by unfold stK; split <;> simp
theorem fF_len {f : List Int → Nat → List Int} (hf : ∀ F k, (f F k).length = F.length) (n : Nat) : ∀ k, k ≤ n → ∀ F, (fF f n k F).length = F.length := by
  refine down_ind n ?_ fun k hk ih => ?_
  · intro F; rw [fF_n]
  · intro F; rw [fF_s f hk, ih, hf]
theorem stI_len (l : List (Int × Int)) (F : List Int) (i : Nat) : (stI l F i).length = F.length := fF_len (stK_len l i) _ 0 (by omega) F
theorem stR_len (l : List (Int × Int)) (F : List Int) (i : Nat) : (stR l F i).length = F.length := fF_len (stI_len l) _ 0 (by omega) F
theorem finF_len (l : List (Int × Int)) : (finF l).length = l.length := by
  unfold finF; rw [fF_len (stR_len l) _ 0 (by omega)]; simp
def cntI (F : List Int) (i : Int) : Nat := F.countP fun x => x == i
def spR (F : List Int) : List (Int × Int) → Nat → List ((Int × Int) × Int)
  | [], _ => []
  | x :: r, i => if F.getD i 0 = (i : Int) then (x, (cntI F i : Int)) :: spR F r (i + 1) else spR F r (i + 1)
def refS (l : List (Int × Int)) : List ((Int × Int) × Int) := spR (finF l) l 0
end Go.Den.FaT
namespace Go.Den.FaT
theorem fF_split {α : Type} (f : α → Nat → α) {n k : Nat} (h : k < n) (F : α) : fF f n 0 F = fF f n (k + 1) (f (fF f k 0 F) k) := by
  unfold fF
  have e : List.range' 0 (n - 0) = List.range' 0 (k - 0) ++ k :: List.range' (k + 1) (n - (k + 1)) := by
    have h1 : List.range' 0 (n - 0) = List.range' 0 k ++ List.range' (0 + k) (n - k) := by
      rw [show n - 0 = k + (n - k) by omega, ← List.range'_append_1]
    rw [h1, show n - k = (n - (k + 1)) + 1 by omega, List.range'_succ, Nat.zero_add, Nat.sub_zero]
  rw [e, List.foldl_append, List.foldl_cons]
theorem fF_ind {α : Type} {f : α → Nat → α} {n : Nat} {P : α → Prop} (hf : ∀ F k, k < n → P F → P (f F k)) : ∀ k, k ≤ n → ∀ F, P F → P (fF f n k F) := by
  refine down_ind n ?_ fun k hk ih => ?_
  · intro F h; rw [fF_n]; exact h
  · intro F h; rw [fF_s f hk]; exact ih _ (hf F k hk h)
def LeF (F G : List Int) : Prop := F.length = G.length ∧ ∀ i, F.getD i 0 ≤ G.getD i 0
theorem LeF.refl (F : List Int) : LeF F F := ⟨rfl, fun _ => Int.le_refl _⟩
theorem LeF.trans {F G H : List Int} (h : LeF F G) (h' : LeF G H) : LeF F H := ⟨h.1.trans h'.1, fun i => Int.le_trans (h.2 i) (h'.2 i)⟩
theorem fF_le {f : List Int → Nat → List Int} {n : Nat} (hf : ∀ F k, LeF (f F k) F) (k : Nat) (hk : k ≤ n) (F : List Int) : LeF (fF f n k F) F :=
  fF_ind (P := fun G => LeF G F) (fun G j _ h => (hf G j).trans h) k hk F (.refl F)
theorem mn_le (a b : Int) : mn a b ≤ a ∧ mn a b ≤ b ∧ (mn a b = a ∨ (mn a b = b ∧ b < a)) := by
  unfold mn
  split <;> omega
theorem getD_set (F : List Int) (i j : Nat) (v : Int) : (F.set i v).getD j 0 = if i = j ∧ i < F.length then v else F.getD j 0 := by
  simp only [List.getD_eq_getElem?_getD, List.getElem?_set]
  by_cases h : i = j
  · subst h
    by_cases h2 : i < F.length
    · simp [h2]
    · simp [h2]
  · simp [h]
section graph
variable (n : Nat) (adj : Nat → Nat → Bool)
def gK (i : Nat) (F : List Int) (k : Nat) : List Int := if adj i k = true then F.set i (mn (F.getD i 0) (F.getD k 0)) else F
def gI (F : List Int) (i : Nat) : List Int := fF (gK adj i) n 0 F
def gR (F : List Int) (_ : Nat) : List Int := fF (gI n adj) n 0 F
variable {n adj}
theorem gK_le (i : Nat) (F : List Int) (k : Nat) : LeF (gK adj i F k) F := by
  unfold gK
  split
  · refine ⟨by simp, fun j => ?_⟩
    rw [getD_set]
    split
    · rename_i h; rw [← h.1]; exact (mn_le _ _).1
    · exact Int.le_refl _
  · exact .refl F
theorem gI_le (F : List Int) (i : Nat) : LeF (gI n adj F i) F := fF_le (gK_le i) 0 (by omega) F
theorem gR_le (F : List Int) (r : Nat) : LeF (gR n adj F r) F := fF_le gI_le 0 (by omega) F
theorem gI_nb {F : List Int} (hF : F.length = n) {i k : Nat} (hi : i < n) (hk : k < n) (ha : adj i k = true) : (gI n adj F i).getD i 0 ≤ F.getD k 0 := by
  unfold gI
  rw [fF_split _ hk]
  have h1 : LeF (fF (gK adj i) k 0 F) F := fF_le (gK_le i) 0 (by omega) F
  generalize fF (gK adj i) k 0 F = G at *
  have h2 : LeF (fF (gK adj i) n (k + 1) (gK adj i G k)) (gK adj i G k) := fF_le (gK_le i) (k + 1) (by omega) _
  refine Int.le_trans (h2.2 i) (Int.le_trans ?_ (h1.2 k))
  unfold gK
  rw [if_pos ha, getD_set, if_pos ⟨rfl, by rw [h1.1, hF]; exact hi⟩]
  exact (mn_le _ _).2.1
theorem gR_nb {F : List Int} (hF : F.length = n) (r : Nat) {i k : Nat} (hi : i < n) (hk : k < n) (ha : adj i k = true) : (gR n adj F r).getD i 0 ≤ F.getD k 0 := by
  unfold gR
  rw [fF_split _ hi]
  have h1 : LeF (fF (gI n adj) i 0 F) F := fF_le gI_le 0 (by omega) F
  generalize fF (gI n adj) i 0 F = G at *
  have h2 : LeF (fF (gI n adj) n (i + 1) (gI n adj G i)) (gI n adj G i) := fF_le gI_le (i + 1) (by omega) _
  exact Int.le_trans (h2.2 i) (Int.le_trans (gI_nb (h1.1.trans hF) hi hk ha) (h1.2 k))
inductive Ci (n : Nat) (adj : Nat → Nat → Bool) : Nat → Nat → Prop where
  | refl {i : Nat} (h : i < n) : Ci n adj i i
  | step {i j k : Nat} (h : Ci n adj i j) (hk : k < n) (ha : adj j k = true) : Ci n adj i k
theorem Ci.lt {i k : Nat} (h : Ci n adj i k) : i < n ∧ k < n := by
  induction h with
  | refl h => exact ⟨h, h⟩
  | step h hk ha ih => exact ⟨ih.1, hk⟩
theorem Ci.trans {i j k : Nat} (h : Ci n adj i j) (h' : Ci n adj j k) : Ci n adj i k := by
  induction h' with
  | refl _ => exact h
  | step _ hk ha ih => exact .step ih hk ha
theorem Ci.symm (hs : ∀ i k, adj i k = adj k i) {i k : Nat} (h : Ci n adj i k) : Ci n adj k i := by
  induction h with
  | refl h => exact .refl h
  | step h hk ha ih => exact (Ci.step (.refl hk) h.lt.2 (by rw [hs]; exact ha)).trans ih
def V1 (n : Nat) (adj : Nat → Nat → Bool) (F : List Int) : Prop := F.length = n ∧ ∀ i, i < n → ∃ j : Nat, F.getD i 0 = j ∧ j ≤ i ∧ Ci n adj i j
theorem gK_V1 {i : Nat} (hi : i < n) {F : List Int} {k : Nat} (hk : k < n) (h : V1 n adj F) : V1 n adj (gK adj i F k) := by
  unfold gK
  split
  · rename_i ha
    refine ⟨by simp [h.1], fun m hm => ?_⟩
    rw [getD_set]
    split
    · rename_i hc
      obtain ⟨rfl, _⟩ := hc
      obtain ⟨j1, a1, a2, a3⟩ := h.2 i hi
      obtain ⟨j2, b1, b2, b3⟩ := h.2 k hk
      rcases (mn_le (F.getD i 0) (F.getD k 0)).2.2 with e | ⟨e, hlt⟩
      · exact ⟨j1, by rw [e, a1], a2, a3⟩
      · refine ⟨j2, by rw [e, b1], by omega, ?_⟩
        exact (Ci.step (.refl hi) hk ha).trans b3
    · exact h.2 m hm
  · exact h
theorem gI_V1 {F : List Int} {i : Nat} (hi : i < n) (h : V1 n adj F) : V1 n adj (gI n adj F i) := fF_ind (P := V1 n adj) (fun G k hk hG => gK_V1 hi hk hG) 0 (by omega) F h
theorem gR_V1 {F : List Int} (r : Nat) (h : V1 n adj F) : V1 n adj (gR n adj F r) := fF_ind (P := V1 n adj) (fun G k hk hG => gI_V1 hk hG) 0 (by omega) F h
def good (n : Nat) (adj : Nat → Nat → Bool) (F : List Int) (i : Nat) : Prop := ∀ j, Ci n adj i j → F.getD i 0 ≤ (j : Int)
open Classical in
noncomputable def ng (n : Nat) (adj : Nat → Nat → Bool) (F : List Int) : Nat := (List.range n).countP fun i => decide (good n adj F i)
theorem countP_lt {α : Type} {p q : α → Bool} : ∀ {l : List α}, (∀ x ∈ l, p x = true → q x = true) → (∃ x ∈ l, p x = false ∧ q x = true) → l.countP p < l.countP q
  | [], _, ⟨x, hx, _⟩ => by simp at hx
  | a :: l, h, ⟨x, hx, h1, h2⟩ => by
    have hl : l.countP p ≤ l.countP q := List.countP_mono_left fun y hy => h y (List.mem_cons_of_mem _ hy)
    rw [List.countP_cons, List.countP_cons]
    rcases List.mem_cons.1 hx with rfl | hx
    · simp [h1, h2]; omega
    · have := countP_lt (fun y hy => h y (List.mem_cons_of_mem _ hy)) ⟨x, hx, h1, h2⟩
      have ha := h a (List.mem_cons_self ..)
      cases hp : p a with
      | false => simp; omega
      | true => simp [ha hp]; omega
theorem least_ex {i : Nat} (hi : i < n) : ∃ m, Ci n adj i m ∧ ∀ j, Ci n adj i j → m ≤ j := by
  have key : ∀ f m, Ci n adj i m → m ≤ f → ∃ m, Ci n adj i m ∧ ∀ j, Ci n adj i j → m ≤ j := by
    intro f
    induction f with
    | zero => intro m h1 h2; exact ⟨m, h1, fun j _ => by omega⟩
    | succ f ih =>
      intro m h1 h2
      by_cases hx : ∃ j, Ci n adj i j ∧ j < m
      · obtain ⟨j, h3, h4⟩ := hx
        exact ih j h3 (by omega)
      · exact ⟨m, h1, fun j hj => Classical.byContradiction fun hn => hx ⟨j, hj, by omega⟩⟩
  exact key i i (.refl hi) (Nat.le_refl _)
open Classical in
theorem grow_ {F : List Int} (hs : ∀ i k, adj i k = adj k i) (hV : V1 n adj F) (r : Nat) : (∀ i, i < n → good n adj F i) ∨ ng n adj F < ng n adj (gR n adj F r) := by
  by_cases hall : ∀ i, i < n → good n adj F i
  · exact .inl hall
  refine .inr ?_
  obtain ⟨i, hi, hg⟩ : ∃ i, i < n ∧ ¬ good n adj F i := Classical.byContradiction fun hn => hall fun i hi => Classical.byContradiction fun hg => hn ⟨i, hi, hg⟩
  obtain ⟨m, hm, hmin⟩ := least_ex (adj := adj) hi
  have hgm : good n adj F m := by
    intro j hj
    obtain ⟨j1, a1, a2, a3⟩ := hV.2 m hm.lt.2
    have := hmin j (hm.trans hj)
    rw [a1]; omega
  have hpath : ∀ {a b : Nat}, Ci n adj a b → good n adj F a → good n adj F b ∨ ∃ c d, c < n ∧ d < n ∧ adj c d = true ∧ good n adj F c ∧ ¬ good n adj F d := by
    intro a b h ha
    induction h with
    | refl _ => exact .inl ha
    | step h hk had ih =>
      rename_i j k
      rcases ih with h1 | h1
      · by_cases h2 : good n adj F k
        · exact .inl h2
        · exact .inr ⟨j, k, h.lt.2, hk, had, h1, h2⟩
      · exact .inr h1
  rcases hpath (hm.symm hs) hgm with h1 | ⟨c, d, hc, hd, had, hgc, hgd⟩
  · exact absurd h1 hg
  · refine countP_lt (fun x _ hx => ?_) ⟨d, by simpa using hd, by simpa using hgd, ?_⟩
    · have hx := of_decide_eq_true hx
      exact decide_eq_true fun j hj => Int.le_trans ((gR_le F r).2 x) (hx j hj)
    · refine decide_eq_true fun j hj => ?_
      have h2 := gR_nb (adj := adj) hV.1 r hd hc (by rw [hs]; exact had)
      exact Int.le_trans h2 (hgc j ((Ci.step (.refl hc) hd had).trans hj))
theorem good_mono {F : List Int} (r : Nat) (h : ∀ i, i < n → good n adj F i) : ∀ i, i < n → good n adj (gR n adj F r) i := fun i hi j hj => Int.le_trans ((gR_le F r).2 i) (h i hi j hj)
theorem rounds (hs : ∀ i k, adj i k = adj k i) : ∀ r, r ≤ n → ∀ F, V1 n adj F → r ≤ ng n adj F ∨ (∀ i, i < n → good n adj F i) → V1 n adj (fF (gR n adj) n r F) ∧ ∀ i, i < n → good n adj (fF (gR n adj) n r F) i := by
  refine down_ind n ?_ fun r hr ih => ?_
  · intro F hV h
    rw [fF_n]
    refine ⟨hV, ?_⟩
    rcases h with h | h
    · intro i hi
      have hc : (List.range n).countP (fun i => @decide (good n adj F i) (Classical.propDecidable _)) = (List.range n).length := by
        have h1 := List.countP_le_length (p := fun i => @decide (good n adj F i) (Classical.propDecidable _)) (l := List.range n)
        unfold ng at h
        rw [List.length_range] at h1 ⊢
        omega
      have := List.countP_eq_length.1 hc i (by simpa using hi)
      simpa using this
    · exact h
  · intro F hV h
    rw [fF_s _ hr]
    refine ih _ (gR_V1 r hV) ?_
    rcases h with h | h
    · rcases grow_ hs hV r with h1 | h1
      · exact .inr (good_mono r h1)
      · exact .inl (by omega)
    · exact .inr (good_mono r h)
theorem rounds_fin (hs : ∀ i k, adj i k = adj k i) : let F := fF (gR n adj) n 0 ((List.range n).map fun i : Nat => (i : Int))
    ∀ i, i < n → ∃ j : Nat, F.getD i 0 = j ∧ Ci n adj i j ∧ ∀ k, Ci n adj i k → j ≤ k := by
  intro F i hi
  have hV : V1 n adj ((List.range n).map fun i : Nat => (i : Int)) := ⟨by simp, fun m hm => ⟨m, by simp [List.getD, hm], Nat.le_refl _, .refl hm⟩⟩
  obtain ⟨h1, h2⟩ := rounds hs 0 (by omega) _ hV (.inl (Nat.zero_le _))
  obtain ⟨j, a1, a2, a3⟩ := h1.2 i hi
  exact ⟨j, a1, a3, fun k hk => by have := h2 i hi k hk; rw [a1] at this; omega⟩
end graph
end Go.Den.FaT
