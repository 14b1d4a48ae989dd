import PyProof.Rows.All
import Wide.All
import OpenK.AllK
import Wide.FinOn
import HandS.ForMost
import HandS.TupAny
import HandS.TupMul
import HandS.IsInst
import HandS.Codes
import PySem.Challenge.RW_syncedwords_k47_whole_more_words_and_ext
set_option Elab.async false
set_option linter.all false
set_option maxRecDepth 100000
set_option maxHeartbeats 8000000
/-! a tuple times a whole number of any size: none, one and several copies -/
namespace Sw
open PySem PySem.Spec PyProof.Rows L2
theorem tuple_mul1W (l : Addr) (items : Array Value) (n : Nat) (dd : Option Addr) (sl : Array (Option Value)) (u : Tok) :
    Meets (Builtin.«tuple.__mul__» ⟨[.ref l, .int 1 u], []⟩) (fun _ R s => s.heap.get? l = some { cls := .type "tuple", dict := dd, data := .seq items n, slots := sl } ∧
      R (.ok (.ret (Value.ref l))) s) :=
  .of_wp fun prog w A R s h => by
    obtain ⟨hp, g, d, tk, os⟩ := s
    obtain ⟨hl, h⟩ := h
    have f1 := AutoSeq1.idx_int
    wp_walk using wpAny_loadPart' hl
    exact ⟨_, rfl, h⟩
theorem tuple_mul0W (l : Addr) (items : Array Value) (n : Nat) (dd : Option Addr) (sl : Array (Option Value)) (x : Int) (u : Tok) (c0 : (decide (x < -(2 ^ 63)) || decide (x ≥ 2 ^ 63)) = false) (c1 : (items.isEmpty || x == 1) = false) (c2 : (decide (x ≤ 0) || items.isEmpty) = true) :
    Meets (Builtin.«tuple.__mul__» ⟨[.ref l, .int x u], []⟩) (fun _ R s => s.heap.get? l = some { cls := .type "tuple", dict := dd, data := .seq items n, slots := sl } ∧
      R (.ok (.ret (Value.ref s.heap.objs.size))) { s with heap := s.heap.push { cls := Value.type "tuple", data := Data.seq #[] }, toks := s.toks }) :=
  .of_wp fun prog w A R s h => by
    obtain ⟨hp, g, d, tk, os⟩ := s
    obtain ⟨hl, h⟩ := h
    have f1 := AutoSeq1.idx_int
    wp_walk using wpAny_loadPart' hl
    repeat (first
      | (refine wpAny_ite_false (decide_eq_false (by rw [c0]; exact Bool.false_ne_true)) ?_; wp_walk using wpAny_loadPart' hl)
      | (refine wpAny_ite_false (decide_eq_false (by rw [c1]; exact Bool.false_ne_true)) ?_; wp_walk using wpAny_loadPart' hl)
      | (refine wpAny_ite_true (decide_eq_true c2) ?_; wp_walk using wpAny_loadPart' hl))
    exact ⟨_, rfl, h⟩
/-- (x, ..) * k -/
def rRepI (K : PySem.W.Frag) : R2 := fun x y H Q => ∃ l k xs, x = .ref l ∧ y = .int k ∧ SqT K H l xs ∧ xs ≠ [] ∧ -1000 ≤ k ∧ k ≤ 1000 ∧ xs.length ≤ 1000 ∧
  (k = 1 → Q (.ref l) H) ∧ (k ≠ 1 → ∀ p, H p = none → Q (.ref p) (upd H p (.tup (List.replicate k.toNat xs).flatten)))
section
variable {X : Cx}
theorem op_repI : OpR X (binaryOp .Mult) (rRepI X.K) := by
  intro pins s σ H x y v u Q I rx ry h
  obtain ⟨l, k, xs, rfl, rfl, hT, hne, h1, h2, hz, q1, q⟩ := h
  by_cases h2k : 2 ≤ k
  · exact op_repT pins s σ H _ _ v u Q I rx ry ⟨l, k, xs, rfl, rfl, hT, hne, h2k, h2, hz, q (by omega)⟩
  cases rx
  obtain ⟨t, rfl⟩ := ry
  obtain ⟨its, r, ⟨⟨cls, dd, data, sl⟩, ho, hc, n, hd⟩, hs⟩ := I.tuple hT
  simp only at hc hd
  subst hc hd
  have hle : its.length = xs.length := r.length.symm
  have hn : its ≠ [] := fun e => hne (by
    rw [e] at hle
    exact List.eq_nil_of_length_eq_zero hle.symm)
  have hi : its.toArray.isEmpty = false := by
    cases its with
    | nil => exact absurd rfl hn
    | cons a b => rfl
  by_cases hk1 : k = 1
  · subst hk1
    exact wpAny_binaryOp_repeat_ref (T := "tuple") (U := "int") (by decide) ⟨_, ho, rfl⟩ (fun s' => typeIs_int s' 1 t) noFill_tuple_mul F.fills_int_mul F.slot_int_rmul repeat_tuple F.slot_int_index.lookup
      (call_meets F.slot_int_rmul (typeIs_int s 1 t) F.entry_int_rmul (F.args_int_rmul_2 _ _) (int_rmul_tuple 1 t l its.toArray n dd sl)
        ⟨ho, rfl, ⟨_, ho, rfl⟩, call_meets F.slot_tuple_mul ⟨_, ho, rfl⟩ F.entry_tuple_mul (F.args_tuple_mul_2 _ _) (tuple_mul1W l its.toArray n dd sl t) ⟨ho, ⟨.ref l, H, I, rfl, q1 rfl⟩⟩⟩)
  · have c0 : (decide (k < -(2 ^ 63)) || decide (k ≥ 2 ^ 63)) = false := by
      rw [decide_eq_false (by omega), decide_eq_false (by omega)] <;> rfl
    have c1 : (its.toArray.isEmpty || k == 1) = false := by
      rw [hi, Bool.false_or]
      exact beq_eq_false_iff_ne.mpr hk1
    have c2 : (decide (k ≤ 0) || its.toArray.isEmpty) = true := by
      rw [decide_eq_true (by omega), Bool.true_or]
    have e0 : (List.replicate k.toNat xs).flatten = [] := by
      rw [show k.toNat = 0 by omega]
      rfl
    refine wpAny_binaryOp_repeat_ref (T := "tuple") (U := "int") (by decide) ⟨_, ho, rfl⟩ (fun s' => typeIs_int s' k t) noFill_tuple_mul F.fills_int_mul F.slot_int_rmul repeat_tuple F.slot_int_index.lookup
      (call_meets F.slot_int_rmul (typeIs_int s k t) F.entry_int_rmul (F.args_int_rmul_2 _ _) (int_rmul_tuple k t l its.toArray n dd sl)
        ⟨ho, rfl, ⟨_, ho, rfl⟩, call_meets F.slot_tuple_mul ⟨_, ho, rfl⟩ F.entry_tuple_mul (F.args_tuple_mul_2 _ _) (tuple_mul0W l its.toArray n dd sl k t c0 c1 c2) ⟨ho, ?_⟩⟩)
    have qq := q hk1 s.heap.objs.size (I.hok.fresh (Nat.le_refl _))
    rw [e0] at qq
    refine ⟨.ref s.heap.objs.size, _, I.laid (t' := s.toks) (o := .tup []) (fun b ob q => Heap.get?_push_of_some _ q) (Nat.le_refl _) ?_, rfl, qq⟩
    exact ⟨Nat.zero_le _, [], .nil, IsTup.new _ _⟩
end
end Sw
/-! The plain law: what the defs compute, over lists of whole numbers; no program in sight. -/
namespace Sw
/-! ### the mirror -/
/-- moebius' loop: k turns are left, the next prime is p, the number is n, found is f -/
def mobL : Nat → Int → Int → Int → Int
  | 0, _, _, f => f
  | k + 1, p, n, f => if n % p = 0 then (if (n / p) % p = 0 then 0 else mobL k (p + 1) (n / p) (-f)) else mobL k (p + 1) n f
def mob (n : Int) : Int := mobL (n - 1).toNat 2 n 1
/-- 1, 2, .., L -/
def upTo (L : Nat) : List Int := (List.range L).map fun i : Nat => 1 + (i : Int)
def divs (L : Nat) : List Int := (upTo L).filter fun d => decide ((L : Int) % d = 0)
/-- an item, or 0 -/
def at0 (ps : List Int) (i : Nat) : Int := ps.getD i 0
theorem at0_eq (ps : List Int) (i : Nat) : at0 ps i = (ps[i]?).getD 0 := List.getD_eq_getElem?_getD
def term (ps : List Int) (L : Nat) (d : Int) : Int := mob d * at0 ps ((L : Int) / d).toNat
def part (ps : List Int) (L : Nat) : Int := ((divs L).map (term ps L)).sum / (L : Int)
def pw (size : Int) (most : Nat) : List Int := (List.range (most + 1)).map fun j => size ^ j
def nk (size : Int) (L : Nat) : Int := part (pw size L) L
/-- the next of the turns, behind ts, for the length n -/
def turnNext (row ts : List Int) (n : Nat) : Int := (n : Int) * at0 row (n - 1) + ((List.range (n - 1)).map fun j => at0 row j * at0 ts (n - 1 - j)).sum
def turnsL (row : List Int) : Nat → List Int
  | 0 => [0]
  | n + 1 => turnsL row n ++ [turnNext row (turnsL row n) (n + 1)]
def wn (cs : List Int) (L : Nat) : Int := part (turnsL cs L) L
/-- k lengths are left, the next one is L -/
def failF (size : Int) (cs : List Int) : Nat → Nat → Option Nat
  | 0, _ => none
  | k + 1, L => if nk size L < wn cs L then some L else failF size cs k (L + 1)
def failing (size : Int) (cs : List Int) : Option Nat := failF size cs cs.length 1
/-- the counts with noughts behind, up to L of them -/
def padTo (cs : List Int) (L : Nat) : List Int := cs ++ List.replicate (L - cs.length) 0
def withMore (cs : List Int) (L : Nat) (k : Int) : List Int := (padTo cs L).take (L - 1) ++ [at0 (padTo cs L) (L - 1) + k] ++ (padTo cs L).drop L
/-- with k more words of the length L no length fails -/
def Ok (size : Int) (cs : List Int) (L : Nat) (k : Int) : Prop := failing size (withMore cs L k) = none
/-- the counts extended by j lengths -/
def extL (size : Int) (cs : List Int) : Nat → List Int
  | 0 => cs
  | j + 1 => extL size cs j ++ [nk size ((extL size cs j).length + 1) - wn (extL size cs j) ((extL size cs j).length + 1)]
/-! ### failing -/
theorem failF_none {size : Int} {cs : List Int} : ∀ {k L : Nat}, failF size cs k L = none ↔ ∀ n, L ≤ n → n < L + k → wn cs n ≤ nk size n
  | 0, L => by
    constructor
    · intro _ n h1 h2
      omega
    · intro _
      rfl
  | k + 1, L => by
    unfold failF
    by_cases h : nk size L < wn cs L
    · rw [if_pos h]
      constructor
      · intro e
        cases e
      · intro a
        have := a L (Nat.le_refl _) (by omega)
        omega
    · rw [if_neg h, failF_none (k := k) (L := L + 1)]
      constructor
      · intro a n h1 h2
        by_cases e : n = L
        · subst e
          omega
        · exact a n (by omega) (by omega)
      · intro a n h1 h2
        exact a n (by omega) (by omega)
theorem failing_none {size : Int} {cs : List Int} : failing size cs = none ↔ ∀ n, 1 ≤ n → n ≤ cs.length → wn cs n ≤ nk size n := by
  unfold failing
  rw [failF_none]
  constructor
  · intro a n h1 h2
    exact a n h1 (by omega)
  · intro a n h1 h2
    exact a n h1 (by omega)
/-! ### the turns by the row's items -/
theorem turnsL_len (row : List Int) : ∀ n, (turnsL row n).length = n + 1
  | 0 => rfl
  | n + 1 => by
    show (turnsL row n ++ [turnNext row (turnsL row n) (n + 1)]).length = n + 1 + 1
    rw [List.length_append, turnsL_len row n]
    rfl
theorem map_congr {α β : Type} {f g : α → β} : ∀ {l : List α}, (∀ x, x ∈ l → f x = g x) → l.map f = l.map g
  | [], _ => rfl
  | a :: r, h => by
    rw [List.map_cons, List.map_cons, h a List.mem_cons_self, map_congr fun x hx => h x (List.mem_cons_of_mem _ hx)]
theorem turnNext_congr {row row' ts : List Int} {n : Nat} (h : ∀ j, j < n → at0 row j = at0 row' j) (hn : 1 ≤ n) : turnNext row ts n = turnNext row' ts n := by
  unfold turnNext
  rw [h (n - 1) (by omega), map_congr (g := fun j => at0 row' j * at0 ts (n - 1 - j)) fun j hj => by
    have := List.mem_range.mp hj
    rw [h j (by omega)]]
theorem turnsL_congr {row row' : List Int} : ∀ {n : Nat}, (∀ j, j < n → at0 row j = at0 row' j) → turnsL row n = turnsL row' n
  | 0, _ => rfl
  | n + 1, h => by
    show turnsL row n ++ [turnNext row (turnsL row n) (n + 1)] = turnsL row' n ++ [turnNext row' (turnsL row' n) (n + 1)]
    rw [turnsL_congr (n := n) fun j hj => h j (by omega), turnNext_congr h (by omega)]
theorem wn_congr {row row' : List Int} {n : Nat} (h : ∀ j, j < n → at0 row j = at0 row' j) : wn row n = wn row' n := by
  unfold wn
  rw [turnsL_congr h]
/-! ### one length with more words -/
theorem divs_eq (m : Nat) : divs (m + 1) = 1 :: ((List.range m).map fun i : Nat => 2 + (i : Int)).filter fun d => decide (((m + 1 : Nat) : Int) % d = 0) := by
  unfold divs upTo
  rw [List.range_succ_eq_map, List.map_cons, List.map_map]
  have e : (List.map ((fun i : Nat => 1 + (i : Int)) ∘ Nat.succ) (List.range m)) = (List.range m).map fun i : Nat => 2 + (i : Int) := map_congr fun i _ => by
    show 1 + ((i + 1 : Nat) : Int) = 2 + (i : Int)
    omega
  rw [e, show (1 + ((0 : Nat) : Int)) = 1 from rfl, List.filter_cons_of_pos]
  exact decide_eq_true (Int.emod_one _)
theorem at0_append_left {xs ys : List Int} {i : Nat} (h : i < xs.length) : at0 (xs ++ ys) i = at0 xs i := by
  unfold at0
  rw [List.getD_eq_getElem?_getD, List.getD_eq_getElem?_getD, List.getElem?_append_left h]
theorem at0_append_at {xs : List Int} {y : Int} {i : Nat} (h : i = xs.length) : at0 (xs ++ [y]) i = y := by
  subst h
  unfold at0
  rw [List.getD_eq_getElem?_getD, List.getElem?_append_right (Nat.le_refl _), Nat.sub_self]
  rfl
theorem at0_append_right {xs ys : List Int} {i : Nat} (h : xs.length ≤ i) : at0 (xs ++ ys) i = at0 ys (i - xs.length) := by
  unfold at0
  rw [List.getD_eq_getElem?_getD, List.getD_eq_getElem?_getD, List.getElem?_append_right h]
theorem mob_one : mob 1 = 1 := by decide
theorem part_more {ts : List Int} {y z : Int} {m : Nat} (hl : ts.length = m + 1) (h : z = y + ((m + 1 : Nat) : Int) * k) : part (ts ++ [z]) (m + 1) = part (ts ++ [y]) (m + 1) + k := by
  unfold part
  rw [divs_eq, List.map_cons, List.map_cons, List.sum_cons, List.sum_cons]
  have e1 : ∀ w, term (ts ++ [w]) (m + 1) 1 = w := fun w => by
    unfold term
    rw [mob_one, Int.ediv_one, Int.toNat_natCast, at0_append_at hl.symm]
    omega
  rw [e1 y, e1 z]
  have e2 : (((List.range m).map fun i : Nat => 2 + (i : Int)).filter fun d => decide (((m + 1 : Nat) : Int) % d = 0)).map (term (ts ++ [z]) (m + 1)) =
      (((List.range m).map fun i : Nat => 2 + (i : Int)).filter fun d => decide (((m + 1 : Nat) : Int) % d = 0)).map (term (ts ++ [y]) (m + 1)) := map_congr fun d hd => by
    obtain ⟨hm, _⟩ := List.mem_filter.mp hd
    obtain ⟨i, _, rfl⟩ := List.mem_map.mp hm
    unfold term
    have lt : (((m + 1 : Nat) : Int) / (2 + (i : Int))).toNat < ts.length := by
      rw [hl]
      have h1 : ((m + 1 : Nat) : Int) / (2 + (i : Int)) < ((m + 1 : Nat) : Int) := Int.ediv_lt_of_lt_mul (by omega) (by
        have : ((m + 1 : Nat) : Int) * 1 < ((m + 1 : Nat) : Int) * (2 + (i : Int)) := Int.mul_lt_mul_of_pos_left (by omega) (by omega)
        omega)
      have h0 : 0 ≤ ((m + 1 : Nat) : Int) / (2 + (i : Int)) := Int.ediv_nonneg (by omega) (by omega)
      omega
    rw [at0_append_left lt, at0_append_left lt]
  rw [e2, h]
  generalize (List.map (term (ts ++ [y]) (m + 1)) _).sum = r
  rw [show y + ((m + 1 : Nat) : Int) * k + r = (y + r) + ((m + 1 : Nat) : Int) * k by omega, Int.add_mul_ediv_left _ _ (by omega)]
/-- k more words of the length L: k more word necklaces of this length -/
theorem wn_more {row row' : List Int} {L : Nat} {k : Int} (hL : 1 ≤ L) (h : ∀ j, j < L - 1 → at0 row' j = at0 row j) (h' : at0 row' (L - 1) = at0 row (L - 1) + k) : wn row' L = wn row L + k := by
  obtain ⟨m, rfl⟩ : ∃ m, L = m + 1 := ⟨L - 1, by omega⟩
  unfold wn turnsL
  rw [turnsL_congr (row := row') (row' := row) (n := m) h]
  refine part_more (turnsL_len row m) ?_
  unfold turnNext
  rw [show m + 1 - 1 = m by omega] at *
  rw [h', map_congr (g := fun j => at0 row j * at0 (turnsL row m) (m - j)) fun j hj => by
    have := List.mem_range.mp hj
    rw [h j (by omega)], Int.mul_add]
  omega
/-! ### with more -/
theorem at0_pad {cs : List Int} {L j : Nat} : at0 (padTo cs L) j = at0 cs j := by
  unfold padTo
  by_cases h : j < cs.length
  · exact at0_append_left h
  · rw [at0_append_right (by omega)]
    unfold at0
    rw [List.getD_eq_getElem?_getD, List.getD_eq_getElem?_getD, List.getElem?_eq_none (l := cs) (by omega)]
    cases e : (List.replicate (L - cs.length) (0 : Int))[j - cs.length]? with
    | none => rfl
    | some z =>
      have := List.mem_of_getElem? e
      rw [(List.mem_replicate.mp this).2]
      rfl
theorem padTo_len (cs : List Int) (L : Nat) : (padTo cs L).length = max cs.length L := by
  unfold padTo
  rw [List.length_append, List.length_replicate]
  omega
theorem withMore_len {cs : List Int} {L : Nat} {k : Int} (hL : 1 ≤ L) : (withMore cs L k).length = max cs.length L := by
  unfold withMore
  rw [List.length_append, List.length_append, List.length_take, List.length_drop, padTo_len, List.length_singleton]
  omega
theorem at0_withMore {cs : List Int} {L : Nat} {k : Int} (hL : 1 ≤ L) (j : Nat) : at0 (withMore cs L k) j = at0 cs j + if j = L - 1 then k else 0 := by
  have hp := padTo_len cs L
  have ht : ((padTo cs L).take (L - 1)).length = L - 1 := by
    rw [List.length_take]
    omega
  unfold withMore
  rw [List.append_assoc]
  by_cases h1 : j < L - 1
  · rw [at0_append_left (by omega), if_neg (by omega), ← at0_pad (cs := cs) (L := L)]
    rw [at0_eq, at0_eq, List.getElem?_take_of_lt h1]
    omega
  · rw [at0_append_right (by omega), ht]
    by_cases h2 : j = L - 1
    · subst h2
      rw [if_pos rfl, Nat.sub_self, at0_pad]
      rfl
    · rw [if_neg h2, at0_append_right (by simp; omega), ← at0_pad (cs := cs) (L := L)]
      rw [List.length_singleton, at0_eq, at0_eq, List.getElem?_drop, show L + (j - (L - 1) - 1) = j by omega]
      omega
theorem wn_withMore_lt {cs : List Int} {L n : Nat} {k : Int} (hL : 1 ≤ L) (h : n < L) : wn (withMore cs L k) n = wn cs n := wn_congr fun j hj => by
  rw [at0_withMore hL, if_neg (by omega)]
  omega
theorem wn_withMore_at {cs : List Int} {L : Nat} {k : Int} (hL : 1 ≤ L) : wn (withMore cs L k) L = wn cs L + k := wn_more hL (fun j hj => by
  rw [at0_withMore hL, if_neg (by omega)]
  omega) (by rw [at0_withMore hL, if_pos rfl])
theorem wn_withMore_0 {cs : List Int} {L n : Nat} (hL : 1 ≤ L) : wn (withMore cs L 0) n = wn cs n := wn_congr fun j hj => by
  rw [at0_withMore hL]
  split <;> omega
theorem ok_iff {size : Int} {cs : List Int} {L : Nat} {k : Int} (hL : 1 ≤ L) : Ok size cs L k ↔ ∀ n, 1 ≤ n → n ≤ max cs.length L → wn (withMore cs L k) n ≤ nk size n := by
  unfold Ok
  rw [failing_none, withMore_len hL]
theorem ok_zero {size : Int} {cs : List Int} {L : Nat} (hL : 1 ≤ L) (h : ∀ n, 1 ≤ n → n ≤ max cs.length L → wn cs n ≤ nk size n) : Ok size cs L 0 := (ok_iff hL).mpr fun n h1 h2 => by
  rw [wn_withMore_0 hL]
  exact h n h1 h2
theorem not_ok_high {size : Int} {cs : List Int} {L : Nat} (hL : 1 ≤ L) (h : 0 ≤ wn cs L) : ¬ Ok size cs L (nk size L + 1) := fun a => by
  have := (ok_iff hL).mp a L hL (by omega)
  rw [wn_withMore_at hL] at this
  omega
/-- behind the counts, just one number of words has no length fail, and with one more some does -/
theorem more_next {size : Int} {cs : List Int} {r : Int} (hc : failing size cs = none) (h1 : Ok size cs (cs.length + 1) r) (h2 : ¬ Ok size cs (cs.length + 1) (r + 1)) : r = nk size (cs.length + 1) - wn cs (cs.length + 1) := by
  have hL : 1 ≤ cs.length + 1 := by omega
  have a := (ok_iff hL).mp h1 (cs.length + 1) hL (by omega)
  rw [wn_withMore_at hL] at a
  rw [ok_iff hL] at h2
  have b : ¬ wn cs (cs.length + 1) + (r + 1) ≤ nk size (cs.length + 1) := fun z => h2 fun n n1 n2 => by
    by_cases e : n = cs.length + 1
    · subst e
      rw [wn_withMore_at hL]
      exact z
    · rw [wn_withMore_lt hL (by omega)]
      exact failing_none.mp hc n n1 (by omega)
  omega
end Sw
/-! The finite part of the plain law: the drawn counts, one by one. -/
namespace Sw
/-- the counts that the law draws, of n lengths -/
def allC : Nat → List (List Int)
  | 0 => [[]]
  | n + 1 => (allC n).flatMap fun c => (if n = 0 then [0, 1] else [0, 1, 2]).map fun d => c ++ [d]
def chkW (cs : List Int) : Bool := (upTo 8).all fun n => decide (0 ≤ wn cs n.toNat)
def chkN (size : Int) (cs : List Int) : Bool := (upTo 8).all fun n => decide (wn cs n.toNat ≤ nk size n.toNat)
def chkE (size : Int) (c : List Int) : Bool := decide (0 ≤ wn c (c.length + 1) ∧ wn c (c.length + 1) ≤ nk size (c.length + 1))
def chkF (size : Int) (cs : List Int) : Bool := (upTo cs.length).all fun n => decide (wn cs n.toNat ≤ nk size n.toNat)
def chk (size : Int) (cs : List Int) : Bool := !chkF size cs || (chkN size cs && chkE size (extL size cs 0) && chkE size (extL size cs 1) && chkE size (extL size cs 2))
theorem allW : ((List.range 5).all fun n => (allC n).all fun cs => chkW cs) = true := by decide +kernel
theorem all1 : ((List.range 5).all fun n => (allC n).all fun cs => chk 1 cs) = true := by decide +kernel
theorem all2 : ((List.range 5).all fun n => (allC n).all fun cs => chk 2 cs) = true := by decide +kernel
theorem all3 : ((List.range 5).all fun n => (allC n).all fun cs => chk 3 cs) = true := by decide +kernel
theorem allNk : ((upTo 3).all fun size => (upTo 8).all fun n => decide (0 ≤ nk size n.toNat ∧ nk size n.toNat ≤ 900)) = true := by decide +kernel
end Sw
/-! What the finite check says of the drawn counts, and of the rows that extend them. -/
namespace Sw
/-- what the law draws -/
structure Dom (size : Int) (cs : List Int) : Prop where
  lo : 1 ≤ size
  hi : size ≤ 3
  len : cs.length ≤ 4
  nn : ∀ j, j < cs.length → 0 ≤ at0 cs j
  fst : 0 < cs.length → at0 cs 0 ≤ 1
  le2 : ∀ j, j < cs.length → at0 cs j ≤ 2
theorem snoc_of {cs : List Int} {n : Nat} (h : cs.length = n + 1) : ∃ c d, cs = c ++ [d] ∧ c.length = n :=
  ⟨cs.dropLast, cs.getLast (by intro e; rw [e] at h; cases h), (List.dropLast_concat_getLast _).symm, by rw [List.length_dropLast, h]; rfl⟩
theorem mem_allC : ∀ {n : Nat} {cs : List Int}, cs.length = n → (∀ j, j < cs.length → 0 ≤ at0 cs j) → (0 < cs.length → at0 cs 0 ≤ 1) → (∀ j, j < cs.length → at0 cs j ≤ 2) → cs ∈ allC n
  | 0, cs, h, _, _, _ => by
    have := List.eq_nil_of_length_eq_zero h
    subst this
    exact List.mem_cons_self
  | n + 1, cs, h, h0, h1, h2 => by
    obtain ⟨c, d, rfl, hc⟩ := snoc_of h
    have hl : (c ++ [d]).length = n + 1 := h
    have ed : at0 (c ++ [d]) n = d := at0_append_at hc.symm
    have ec : ∀ j, j < c.length → at0 (c ++ [d]) j = at0 c j := fun j hj => at0_append_left hj
    have ih := mem_allC (n := n) (cs := c) hc (fun j hj => by rw [← ec j hj]; exact h0 j (by omega)) (fun h => by rw [← ec 0 h]; exact h1 (by omega)) (fun j hj => by rw [← ec j hj]; exact h2 j (by omega))
    have d0 := h0 n (by omega)
    have d2 := h2 n (by omega)
    rw [ed] at d0 d2
    refine List.mem_flatMap.mpr ⟨c, ih, List.mem_map.mpr ⟨d, ?_, rfl⟩⟩
    by_cases hn : n = 0
    · subst hn
      have d1 := h1 (by omega)
      rw [ed] at d1
      rw [if_pos rfl]
      have : d = 0 ∨ d = 1 := by omega
      rcases this with rfl | rfl <;> simp
    · rw [if_neg hn]
      have : d = 0 ∨ d = 1 ∨ d = 2 := by omega
      rcases this with rfl | rfl | rfl <;> simp
theorem mem_upTo {L n : Nat} (h1 : 1 ≤ n) (h2 : n ≤ L) : (n : Int) ∈ upTo L := List.mem_map.mpr ⟨n - 1, List.mem_range.mpr (by omega), by omega⟩
theorem of_upTo {L : Nat} {d : Int} (h : d ∈ upTo L) : ∃ n : Nat, d = (n : Int) ∧ 1 ≤ n ∧ n ≤ L := by
  obtain ⟨i, hi, rfl⟩ := List.mem_map.mp h
  have := List.mem_range.mp hi
  exact ⟨i + 1, by omega, by omega, by omega⟩
section
variable {size : Int} {cs : List Int}
theorem Dom.mem (D : Dom size cs) : cs ∈ allC cs.length := mem_allC rfl D.nn D.fst D.le2
theorem Dom.w (D : Dom size cs) {n : Nat} (h1 : 1 ≤ n) (h2 : n ≤ 8) : 0 ≤ wn cs n := by
  have a := List.all_eq_true.mp allW cs.length (List.mem_range.mpr (by have := D.len; omega))
  have b := List.all_eq_true.mp (List.all_eq_true.mp a cs D.mem) (n : Int) (mem_upTo h1 h2)
  rw [Int.toNat_natCast] at b
  exact of_decide_eq_true b
theorem Dom.chk (D : Dom size cs) : chk size cs = true := by
  have hr : cs.length ∈ List.range 5 := List.mem_range.mpr (by have := D.len; omega)
  have h1 := D.lo
  have h3 := D.hi
  have : size = 1 ∨ size = 2 ∨ size = 3 := by omega
  rcases this with rfl | rfl | rfl
  · exact List.all_eq_true.mp (List.all_eq_true.mp all1 _ hr) cs D.mem
  · exact List.all_eq_true.mp (List.all_eq_true.mp all2 _ hr) cs D.mem
  · exact List.all_eq_true.mp (List.all_eq_true.mp all3 _ hr) cs D.mem
theorem nk_bd {n : Nat} (s1 : 1 ≤ size) (s3 : size ≤ 3) (h1 : 1 ≤ n) (h2 : n ≤ 8) : 0 ≤ nk size n ∧ nk size n ≤ 900 := by
  obtain ⟨m, rfl⟩ : ∃ m : Nat, size = (m : Int) := ⟨size.toNat, by omega⟩
  have a := List.all_eq_true.mp (List.all_eq_true.mp allNk (m : Int) (mem_upTo (by omega) (by omega))) (n : Int) (mem_upTo h1 h2)
  rw [Int.toNat_natCast] at a
  exact of_decide_eq_true a
theorem Dom.parts (D : Dom size cs) (h : failing size cs = none) : chkN size cs = true ∧ chkE size (extL size cs 0) = true ∧ chkE size (extL size cs 1) = true ∧ chkE size (extL size cs 2) = true := by
  have c := D.chk
  have f : chkF size cs = true := List.all_eq_true.mpr fun d hd => by
    obtain ⟨n, rfl, h1, h2⟩ := of_upTo hd
    rw [Int.toNat_natCast]
    exact decide_eq_true (failing_none.mp h n h1 h2)
  unfold Sw.chk at c
  rw [f] at c
  simp only [Bool.not_true, Bool.false_or, Bool.and_eq_true] at c
  exact ⟨c.1.1.1, c.1.1.2, c.1.2, c.2⟩
theorem Dom.le (D : Dom size cs) (h : failing size cs = none) {n : Nat} (h1 : 1 ≤ n) (h2 : n ≤ 8) : wn cs n ≤ nk size n := by
  have b := List.all_eq_true.mp (D.parts h).1 (n : Int) (mem_upTo h1 h2)
  rw [Int.toNat_natCast] at b
  exact of_decide_eq_true b
theorem Dom.ext (D : Dom size cs) (h : failing size cs = none) {j : Nat} (hj : j < 3) : 0 ≤ wn (extL size cs j) ((extL size cs j).length + 1) ∧ wn (extL size cs j) ((extL size cs j).length + 1) ≤ nk size ((extL size cs j).length + 1) := by
  obtain ⟨_, a, b, c⟩ := D.parts h
  have : j = 0 ∨ j = 1 ∨ j = 2 := by omega
  rcases this with rfl | rfl | rfl
  · exact of_decide_eq_true a
  · exact of_decide_eq_true b
  · exact of_decide_eq_true c
/-! ### the extended rows -/
theorem extL_len (size : Int) (cs : List Int) : ∀ j, (extL size cs j).length = cs.length + j
  | 0 => rfl
  | j + 1 => by
    show (extL size cs j ++ [_]).length = cs.length + (j + 1)
    rw [List.length_append, extL_len size cs j]
    rfl
theorem extL_take (size : Int) (cs : List Int) {j : Nat} : ∀ {n : Nat}, j ≤ n → (extL size cs n).take (cs.length + j) = extL size cs j
  | 0, h => by
    have : j = 0 := by omega
    subst this
    exact List.take_of_length_le (by rw [extL_len]; exact Nat.le_refl _)
  | n + 1, h => by
    by_cases e : j = n + 1
    · subst e
      exact List.take_of_length_le (by rw [extL_len]; exact Nat.le_refl _)
    · show (extL size cs n ++ [_]).take (cs.length + j) = extL size cs j
      rw [List.take_append_of_le_length (by rw [extL_len]; omega)]
      exact extL_take size cs (by omega)
/-- the item that the turn j puts behind -/
def extV (size : Int) (cs : List Int) (j : Nat) : Int := nk size ((extL size cs j).length + 1) - wn (extL size cs j) ((extL size cs j).length + 1)
theorem extL_at (size : Int) (cs : List Int) {j : Nat} : ∀ {n : Nat}, j < n → (extL size cs n)[cs.length + j]? = some (extV size cs j)
  | 0, h => by omega
  | n + 1, h => by
    show (extL size cs n ++ [extV size cs n])[cs.length + j]? = some (extV size cs j)
    by_cases e : j = n
    · subst e
      rw [List.getElem?_append_right (by rw [extL_len]; exact Nat.le_refl _), extL_len, Nat.sub_self]
      rfl
    · rw [List.getElem?_append_left (by rw [extL_len]; omega)]
      exact extL_at size cs (by omega)
theorem extV_bd (D : Dom size cs) (h : failing size cs = none) {j : Nat} (hj : j < 3) : 0 ≤ extV size cs j ∧ extV size cs j ≤ 900 := by
  have a := D.ext h hj
  have l := D.len
  have b := nk_bd (n := (extL size cs j).length + 1) D.lo D.hi (by omega) (by rw [extL_len]; omega)
  unfold extV
  omega
theorem at0_mem {xs : List Int} {x : Int} (h : x ∈ xs) : ∃ j, j < xs.length ∧ x = at0 xs j := by
  obtain ⟨j, hj, e⟩ := List.mem_iff_getElem.mp h
  exact ⟨j, hj, by rw [at0_eq, List.getElem?_eq_getElem hj]; exact e.symm⟩
theorem extL_bd (D : Dom size cs) (h : failing size cs = none) : ∀ {j : Nat}, j ≤ 3 → ∀ x, x ∈ extL size cs j → 0 ≤ x ∧ x ≤ 900
  | 0, _, x, hx => by
    obtain ⟨j, hj, rfl⟩ := at0_mem (show x ∈ cs from hx)
    have a := D.nn j hj
    have b := D.le2 j hj
    omega
  | j + 1, hj, x, hx => by
    rcases List.mem_append.mp (show x ∈ extL size cs j ++ [extV size cs j] from hx) with q | q
    · exact extL_bd D h (by omega) x q
    · rw [List.mem_singleton.mp q]
      exact extV_bd D h (by omega)
theorem wn_snoc_lt {c : List Int} {v : Int} {n : Nat} (h : n ≤ c.length) : wn (c ++ [v]) n = wn c n := wn_congr fun j hj => at0_append_left (by omega)
theorem wn_snoc_at {c : List Int} {v : Int} : wn (c ++ [v]) (c.length + 1) = wn c (c.length + 1) + v := wn_more (by omega) (fun j hj => at0_append_left (by omega)) (by
  rw [show c.length + 1 - 1 = c.length by omega, at0_append_at rfl, at0_eq c, List.getElem?_eq_none (Nat.le_refl _)]
  exact (Int.zero_add v).symm)
theorem ext_none (D : Dom size cs) (h : failing size cs = none) : ∀ {j : Nat}, j ≤ 3 → failing size (extL size cs j) = none
  | 0, _ => h
  | j + 1, hj => failing_none.mpr fun n h1 h2 => by
    have ih := failing_none.mp (ext_none D h (j := j) (by omega))
    show wn (extL size cs j ++ [extV size cs j]) n ≤ nk size n
    have hl : (extL size cs j ++ [extV size cs j]).length = (extL size cs j).length + 1 := by rw [List.length_append]; rfl
    have h2' : n ≤ (extL size cs j).length + 1 := hl ▸ h2
    by_cases e : n = (extL size cs j).length + 1
    · subst e
      rw [wn_snoc_at]
      unfold extV
      omega
    · rw [wn_snoc_lt (by omega)]
      exact ih n h1 (by omega)
theorem ext_wn (size : Int) (cs : List Int) {j n : Nat} (hj : j < n) : wn (extL size cs n) (cs.length + j + 1) = nk size (cs.length + j + 1) := by
  have e : wn (extL size cs n) (cs.length + j + 1) = wn (extL size cs (j + 1)) (cs.length + j + 1) := wn_congr fun i hi => by
    rw [at0_eq, at0_eq, ← extL_take size cs (j := j + 1) (n := n) (by omega), List.getElem?_take_of_lt (by omega)]
  rw [e]
  show wn (extL size cs j ++ [extV size cs j]) (cs.length + j + 1) = _
  have hl := extL_len size cs j
  rw [← hl, wn_snoc_at]
  unfold extV
  omega
/-! ### what more_of wants, of the counts and of each row that extends them -/
theorem Dom.ok0 (D : Dom size cs) (h : failing size cs = none) {L : Nat} (h1 : 1 ≤ L) (h2 : L ≤ 8) : Ok size cs L 0 := ok_zero h1 fun n n1 n2 => D.le h n1 (by have := D.len; omega)
theorem Dom.nok (D : Dom size cs) {L : Nat} (h1 : 1 ≤ L) (h2 : L ≤ 8) : ¬ Ok size cs L (nk size L + 1) := not_ok_high h1 (D.w h1 h2)
theorem ext_ok0 (D : Dom size cs) (h : failing size cs = none) {j : Nat} (hj : j < 3) : Ok size (extL size cs j) ((extL size cs j).length + 1) 0 := ok_zero (by omega) fun n n1 n2 => by
  by_cases e : n = (extL size cs j).length + 1
  · subst e
    exact (D.ext h hj).2
  · exact failing_none.mp (ext_none D h (by omega)) n n1 (by omega)
theorem ext_nok (D : Dom size cs) (h : failing size cs = none) {j : Nat} (hj : j < 3) : ¬ Ok size (extL size cs j) ((extL size cs j).length + 1) (nk size ((extL size cs j).length + 1) + 1) := not_ok_high (by omega) (D.ext h hj).1
theorem ext_more (D : Dom size cs) (h : failing size cs = none) {j : Nat} (hj : j < 3) {r : Int} (h1 : Ok size (extL size cs j) ((extL size cs j).length + 1) r) (h2 : ¬ Ok size (extL size cs j) ((extL size cs j).length + 1) (r + 1)) : r = extV size cs j :=
  more_next (ext_none D h (by omega)) h1 h2
/-! ### numbers -/
theorem mobL_bd : ∀ (k : Nat) (p n f : Int), (f = 1 ∨ f = -1) → -1 ≤ mobL k p n f ∧ mobL k p n f ≤ 1
  | 0, p, n, f, h => by
    show -1 ≤ f ∧ f ≤ 1
    omega
  | k + 1, p, n, f, h => by
    unfold mobL
    split
    · split
      · omega
      · exact mobL_bd k _ _ _ (by omega)
    · exact mobL_bd k _ _ _ h
theorem mob_bd (n : Int) : -1 ≤ mob n ∧ mob n ≤ 1 := mobL_bd _ _ _ _ (.inl rfl)
theorem withMore_set {L : Nat} {k : Int} (hL : 1 ≤ L) : withMore cs L k = (padTo cs L).set (L - 1) (at0 (padTo cs L) (L - 1) + k) := by
  have hp := padTo_len cs L
  unfold withMore
  rw [List.set_eq_take_append_cons_drop, if_pos (by omega), show L - 1 + 1 = L by omega, List.append_assoc]
  rfl
theorem withMore_bd {L : Nat} {k : Int} (hL : 1 ≤ L) (hc : ∀ x, x ∈ cs → 0 ≤ x ∧ x ≤ 50) (h0 : 0 ≤ k) (h1 : k ≤ 950) : ∀ x, x ∈ withMore cs L k → 0 ≤ x ∧ x ≤ 1000 := fun x hx => by
  obtain ⟨j, hj, rfl⟩ := at0_mem hx
  rw [at0_withMore hL]
  have a : 0 ≤ at0 cs j ∧ at0 cs j ≤ 50 := by
    rw [at0_eq]
    cases e : cs[j]? with
    | none => exact ⟨Int.le_refl _, by decide⟩
    | some z => exact hc z (List.mem_of_getElem? e)
  split <;> omega
end
end Sw
/-! The text by places, what is asked of each def as the top left it, small words for heaps. -/
namespace Sw
open PySem PySem.Spec PyProof.Rows L2
def topS (i : Nat) : Stmt := PySem.Challenge.pw_syncedwords_k47_whole_more_words_and_ext.main.body.getD i (.Pass ⟨0, 0, 0, 0⟩)
/-- a def of the top: where it stands, its name, how its arguments come in -/
structure Df (K : PySem.W.Frag) (mg : Str → Option Value) (x : Str) (st : Stmt) (ps : List Str) (f : Addr) (fd : FuncData) : Prop where
  fn : Fun K x x st f fd
  gl : mg x = some (.ref f)
  bn : Binds K fd ps []
/-- the built-in names that the text reads: none of them is bound by the module -/
structure Blt (mg : Str → Option Value) : Prop where
  isi : mg "isinstance" = none
  int : mg "int" = none
  bool : mg "bool" = none
  tup : mg "tuple" = none
  len : mg "len" = none
  all : mg "all" = none
  range : mg "range" = none
  sum : mg "sum" = none
  list : mg "list" = none
  abs : mg "abs" = none
  any : mg "any" = none
/-- the module's constants -/
structure Cst (mg : Str → Option Value) : Prop where
  size : ∃ t, mg "MOST_SIZE" = some (.int 3 t)
  counts : ∃ t, mg "MOST_COUNTS" = some (.int 8 t)
  count : ∃ t, mg "MOST_COUNT" = some (.int 1000 t)
  length : ∃ t, mg "MOST_LENGTH" = some (.int 12 t)
/-! ### heaps -/
theorem same_upd {H : Hp} {p : Addr} {o : HO} (h : H p = none) : Same H (upd H p o) := fun b x e => by
  rw [upd_ne (ne_of_none e h)]
  exact e
theorem same_over {H H1 : Hp} {p : Addr} {o : HO} (s : Same H H1) (h : H p = none) : Same H (upd H1 p o) := fun b x e => by
  rw [upd_ne (ne_of_none e h)]
  exact s _ _ e
abbrev TupI (H : Hp) (a : Addr) (cs : List Int) : Prop := H a = some (.tup (cs.map V.int))
abbrev LstI (H : Hp) (a : Addr) (ns : List Int) : Prop := H a = some (.lst (ns.map V.int))
theorem TupI.t {K : PySem.W.Frag} {H : Hp} {a : Addr} {cs : List Int} (h : TupI H a cs) : SqT K H a (cs.map V.int) := .inl (.inl h)
theorem LstI.l {K : PySem.W.Frag} {H : Hp} {a : Addr} {cs : List Int} (h : LstI H a cs) : SqL K H a (cs.map V.int) := .inl (.inl h)
theorem at_int {cs : List Int} {z : Int} {j : Nat} (e : z = (j : Int)) (h : j < cs.length) : atI (cs.map V.int) z = some (.int (at0 cs j)) := by
  refine at_of e ?_
  rw [List.getElem?_map, at0_eq, List.getElem?_eq_getElem h]
  rfl
/-- whole numbers that a product may have on its left -/
def Bd (cs : List Int) : Prop := ∀ x, x ∈ cs → 0 ≤ x ∧ x ≤ 5000
theorem Bd.at {cs : List Int} (b : Bd cs) (j : Nat) : 0 ≤ at0 cs j ∧ at0 cs j ≤ 5000 := by
  rw [at0_eq]
  cases e : cs[j]? with
  | none => exact ⟨Int.le_refl _, by decide⟩
  | some z => exact b z (List.mem_of_getElem? e)
/-- a number, or None -/
def optV : Option Nat → V
  | none => .non
  | some n => .int n
end Sw
/-! is_number and the checks -/
namespace Sw
open PySem PySem.Spec PyProof.Rows L2
abbrev sNum : Stmt := topS 8
abbrev sCkS : Stmt := topS 9
abbrev sCkC : Stmt := topS 10
abbrev sCkL : Stmt := topS 11
abbrev sCkB : Stmt := topS 23
abbrev pNum : List Str := ["value", "low", "high"]
abbrev pCkS : List Str := ["size"]
abbrev pCkC : List Str := ["counts"]
abbrev pCkL : List Str := ["length"]
abbrev pCkB : List Str := ["size", "counts"]
theorem scNum : FnScope ["value", "low", "high"] pNum (defScope sNum) := ⟨rfl, rfl, rfl, by decide +kernel, rfl, by decide +kernel, by decide +kernel⟩
theorem scCkS : FnScope ["size"] pCkS (defScope sCkS) := ⟨rfl, rfl, rfl, by decide +kernel, rfl, by decide +kernel, by decide +kernel⟩
theorem scCkC : FnScope ["counts", "count"] pCkC (defScope sCkC) := ⟨rfl, rfl, rfl, by decide +kernel, rfl, by decide +kernel, by decide +kernel⟩
theorem scCkL : FnScope ["length"] pCkL (defScope sCkL) := ⟨rfl, rfl, rfl, by decide +kernel, rfl, by decide +kernel, by decide +kernel⟩
theorem scCkB : FnScope ["size", "counts"] pCkB (defScope sCkB) := ⟨rfl, rfl, rfl, by decide +kernel, rfl, by decide +kernel, by decide +kernel⟩
def spNum : Sp := fun vs H Q _ => ∃ v lo hi : Int, vs = [.int v, .int lo, .int hi] ∧ Q (.bl (decide (lo ≤ v ∧ v ≤ hi))) H
def spCkS : Sp := fun vs H Q _ => ∃ v : Int, vs = [.int v] ∧ 1 ≤ v ∧ v ≤ 3 ∧ Q .non H
def spCkL : Sp := fun vs H Q _ => ∃ v : Int, vs = [.int v] ∧ 1 ≤ v ∧ v ≤ 12 ∧ Q .non H
def spCkC : Sp := fun vs H Q _ => ∃ (a : Addr) (cs : List Int), vs = [.ref a] ∧ TupI H a cs ∧ cs.length ≤ 8 ∧ (∀ x, x ∈ cs → 0 ≤ x ∧ x ≤ 1000) ∧ ∀ H', Same H H' → Q .non H'
def spCkB : Sp := fun vs H Q _ => ∃ (v : Int) (a : Addr) (cs : List Int), vs = [.int v, .ref a] ∧ 1 ≤ v ∧ v ≤ 3 ∧ TupI H a cs ∧ cs.length ≤ 8 ∧ (∀ x, x ∈ cs → 0 ≤ x ∧ x ≤ 1000) ∧ ∀ H', Same H H' → Q .non H'
section
variable {P : Program} {w : World} {K : PySem.W.Frag} {mg : Str → Option Value} {base : Heap}
theorem ok_num {f : Addr} {fd : FuncData} (F : Fun K "is_number" "is_number" sNum f fd) (B : Blt mg) : FnOk P w K mg base CX0 1 f fd pNum spNum := by
  refine F.ok scNum (fun vs H Q E h => ?_) (fun cdv A outer s H vs Q E hr h => ?_)
  · obtain ⟨v, lo, hi, rfl, _⟩ := h
    rfl
  · obtain ⟨v, lo, hi, rfl, k⟩ := h
    refine ⟨_, pss_one (ps_ret (pe_and (pe_callB call_isi (by rfl) B.isi (by decide +kernel) (pa_cons (pv 0) (pa_cons (pe_bltn (v := .ty "int") (by rfl) B.int (by decide +kernel) rfl) pa_nil)))
      (pe_and (pe_not (pe_callB call_isi (by rfl) B.isi (by decide +kernel) (pa_cons (pv 0) (pa_cons (pe_bltn (v := .ty "bool") (by rfl) B.bool (by decide +kernel) rfl) pa_nil))))
        (pe_one (pe_chain op_le op_le (pv 1) (pv 0) (pv 2)))))), ?_⟩
    refine ⟨_, rfl, _, _, _, _, true, rfl, .ty _, .base (.int _), kit_ty (by decide +kernel), true, rfl, iteT ?_⟩
    refine ⟨_, rfl, _, _, _, _, false, rfl, .ty _, .base (.int _), kit_ty (by decide +kernel), false, rfl, true, rfl, iteT ?_⟩
    refine ⟨_, rfl, _, rfl, _, _, rfl, rfl, _, rfl, ite2 (fun e => ?_) (fun e => ?_)⟩
    · have e1 : lo ≤ v := of_decide_eq_true e
      refine ⟨_, rfl, _, _, rfl, rfl, ?_⟩
      rw [show decide (lo ≤ v ∧ v ≤ hi) = decide (v ≤ hi) from decide_eq_decide.mpr ⟨fun z => z.2, fun z => ⟨e1, z⟩⟩] at k
      exact k
    · have e1 : ¬ lo ≤ v := fun z => e (decide_eq_true z)
      rw [decide_eq_false (fun z => e1 z.1)] at k
      exact k
theorem ok_ckS {f fN : Addr} {fd fdN : FuncData} (F : Fun K "check_size" "check_size" sCkS f fd) (B : Blt mg) (C : Cst mg) (DN : Df K mg "is_number" sNum pNum fN fdN) : FnOk P w K mg base CX0 2 f fd pCkS spCkS := by
  have GN : FnOk P w K mg base CX0 1 fN fdN pNum spNum := ok_num DN.fn B
  obtain ⟨t, mS⟩ := C.size
  refine F.ok scCkS (fun vs H Q E h => ?_) (fun cdv A outer s H vs Q E hr h => ?_)
  · obtain ⟨v, rfl, _⟩ := h
    rfl
  · obtain ⟨v, rfl, h1, h2, k⟩ := h
    refine ⟨_, pss_one (ps_if (pt_not (pt_val (pe_call GN hr (by rfl) DN.gl DN.fn.kp DN.bn .nil pass0 (pa_cons (pv 0) (pa_cons pe_int (pa_cons (pe_glob (v := .int 3) (by rfl) mS ⟨_, rfl⟩) pa_nil)))))) pss_never pss_nil), ?_⟩
    refine ⟨_, rfl, v, 1, 3, rfl, _, rfl, ?_⟩
    rw [decide_eq_true ⟨h1, h2⟩]
    exact iteF k
theorem ok_ckL {f fN : Addr} {fd fdN : FuncData} (F : Fun K "check_length" "check_length" sCkL f fd) (B : Blt mg) (C : Cst mg) (DN : Df K mg "is_number" sNum pNum fN fdN) : FnOk P w K mg base CX0 2 f fd pCkL spCkL := by
  have GN : FnOk P w K mg base CX0 1 fN fdN pNum spNum := ok_num DN.fn B
  obtain ⟨t, mS⟩ := C.length
  refine F.ok scCkL (fun vs H Q E h => ?_) (fun cdv A outer s H vs Q E hr h => ?_)
  · obtain ⟨v, rfl, _⟩ := h
    rfl
  · obtain ⟨v, rfl, h1, h2, k⟩ := h
    refine ⟨_, pss_one (ps_if (pt_not (pt_val (pe_call GN hr (by rfl) DN.gl DN.fn.kp DN.bn .nil pass0 (pa_cons (pv 0) (pa_cons pe_int (pa_cons (pe_glob (v := .int 12) (by rfl) mS ⟨_, rfl⟩) pa_nil)))))) pss_never pss_nil), ?_⟩
    refine ⟨_, rfl, v, 1, 12, rfl, _, rfl, ?_⟩
    rw [decide_eq_true ⟨h1, h2⟩]
    exact iteF k
theorem all_true {n : Nat} : (List.replicate n true).all id = true := by
  rw [List.all_eq_true]
  intro x hx
  rw [(List.mem_replicate.mp hx).2]
  rfl
theorem ok_ckC {f fN : Addr} {fd fdN : FuncData} (F : Fun K "check_counts" "check_counts" sCkC f fd) (B : Blt mg) (C : Cst mg) (DN : Df K mg "is_number" sNum pNum fN fdN) : FnOk P w K mg base CX0 2 f fd pCkC spCkC := by
  have GN : FnOk P w K mg base CX0 1 fN fdN pNum spNum := ok_num DN.fn B
  obtain ⟨t, mS⟩ := C.counts
  obtain ⟨t2, mC⟩ := C.count
  refine F.ok scCkC (fun vs H Q E h => ?_) (fun cdv A outer s H vs Q E hr h => ?_)
  · obtain ⟨a, cs, rfl, _⟩ := h
    rfl
  · obtain ⟨a, cs, rfl, hT, hl, hb, k⟩ := h
    refine ⟨_, pss_cons (ps_if (PW.pt (pw_or (pt_not (pt_val (pe_callB call_isi (by rfl) B.isi (by decide +kernel) (pa_cons (pv 0) (pa_cons (pe_bltn (v := .ty "tuple") (by rfl) B.tup (by decide +kernel) rfl) pa_nil)))))
        (pw_or1 (pt_cmpR op_gt (pe_callB call_len_seq (by rfl) B.len PySem.boot_len (pa_cons (pv 0) pa_nil)) (pe_glob (v := .int 8) (by rfl) mS ⟨_, rfl⟩) (nomark _))))) pss_never pss_nil)
      (pss_one (ps_if (pt_not (pt_val (pe_callB (cr_all rfl) (by rfl) B.all (by decide +kernel) (pa_cons
        (pe_lc (own := [("count", 1)]) (g := gName 1) (tt := tYes) rfl scCkC.nd (pi_tup (pv 0)) (blkOk_by (N := ["counts", "count"]) (sc := defScope sCkC) (by decide +kernel)) (fun _ _ _ _ _ => pg_name (i := 1) scCkC.nd rfl (Or.inl rfl)) (fun _ _ _ _ _ => pts_nil)
          (fun _ _ _ _ _ => pe_call GN hr (by rfl) DN.gl DN.fn.kp DN.bn .nil pass0 (pa_cons (pv 1) (pa_cons pe_int (pa_cons (pe_glob (v := .int 1000) (by rfl) mC ⟨_, rfl⟩) pa_nil))))) pa_nil)))) pss_never pss_nil)), ?_⟩
    refine ⟨_, rfl, _, _, _, _, true, rfl, .ty _, .base (.tup hT), kit_ty (by decide +kernel), true, rfl, iteF ?_⟩
    refine ⟨_, rfl, a, _, rfl, .inr hT.t, _, _, rfl, rfl, _, rfl, ?_⟩
    rw [decide_eq_false (by rw [List.length_map]; omega)]
    refine iteF ?_
    refine ⟨_, rfl, a, rfl, ⟨_, hT.t⟩, fun D nD => ?_⟩
    refine lc_tup (K := K) (a := a) (xs := cs.map V.int) (fun i H' => Same H H' ∧ H' D = some (.lst ((List.replicate i true).map V.bl))) ⟨same_upd nD, upd_same⟩ (fun i H' _ p => (show TupI H' a cs from p.1 _ _ hT).t) ?_ ?_
    · rintro i x H' hx ⟨sm, eD⟩
      obtain ⟨z, hz, rfl⟩ : ∃ z, z ∈ cs ∧ x = .int z := by
        rw [List.getElem?_map] at hx
        cases e : cs[i]? with
        | none =>
          rw [e] at hx
          cases hx
        | some z =>
          rw [e] at hx
          exact ⟨z, List.mem_of_getElem? e, (Option.some.inj hx).symm⟩
      refine ⟨rfl, ?_⟩
      refine ⟨_, rfl, z, 0, 1000, rfl, _, eD, ?_, same_over sm nD, ?_⟩
      · rw [List.length_map, List.length_replicate]
        have h2 := (List.getElem?_eq_some_iff.mp hx).1
        rw [List.length_map] at h2
        exact small1000 (by omega)
      · rw [upd_same, decide_eq_true (hb z hz), List.replicate_succ', List.map_append]
        rfl
    · rintro H' ⟨sm, eD⟩
      refine ⟨D, _, rfl, .inl (.inl eD), _, rfl, ?_⟩
      rw [all_true]
      exact iteF (k _ sm)
theorem ok_ckB {f fN fS fC : Addr} {fd fdN fdS fdC : FuncData} (F : Fun K "check_both" "check_both" sCkB f fd) (B : Blt mg) (C : Cst mg) (DN : Df K mg "is_number" sNum pNum fN fdN) (DS : Df K mg "check_size" sCkS pCkS fS fdS) (DC : Df K mg "check_counts" sCkC pCkC fC fdC) :
    FnOk P w K mg base CX0 3 f fd pCkB spCkB := by
  have GS : FnOk P w K mg base CX0 2 fS fdS pCkS spCkS := ok_ckS DS.fn B C DN
  have GC : FnOk P w K mg base CX0 2 fC fdC pCkC spCkC := ok_ckC DC.fn B C DN
  refine F.ok scCkB (fun vs H Q E h => ?_) (fun cdv A outer s H vs Q E hr h => ?_)
  · obtain ⟨v, a, cs, rfl, _⟩ := h
    rfl
  · obtain ⟨v, a, cs, rfl, h1, h2, hT, hl, hb, k⟩ := h
    refine ⟨_, pss_cons (ps_expr (pe_call GS hr (by rfl) DS.gl DS.fn.kp DS.bn .nil pass0 (pa_cons (pv 0) pa_nil))) (pss_one (ps_expr (pe_call GC hr (by rfl) DC.gl DC.fn.kp DC.bn .nil pass0 (pa_cons (pv 1) pa_nil)))), ?_⟩
    exact ⟨_, rfl, v, rfl, h1, h2, _, rfl, a, cs, rfl, hT, hl, hb, k⟩
end
end Sw
/-! moebius, primitive_part, powers_of, necklaces_of -/
namespace Sw
open PySem PySem.Spec PyProof.Rows L2
abbrev sMob : Stmt := topS 12
abbrev sPart : Stmt := topS 13
abbrev sPow : Stmt := topS 14
abbrev sNk : Stmt := topS 15
abbrev pMob : List Str := ["number"]
abbrev pPart : List Str := ["powers", "length"]
abbrev pPow : List Str := ["size", "most"]
abbrev pNk : List Str := ["size", "length"]
theorem scMob : FnScope ["number", "found", "prime"] pMob (defScope sMob) := ⟨rfl, rfl, rfl, by decide +kernel, rfl, by decide +kernel, by decide +kernel⟩
theorem scPart : FnScope ["powers", "length", "divisors", "d"] pPart (defScope sPart) := ⟨rfl, rfl, rfl, by decide +kernel, rfl, by decide +kernel, by decide +kernel⟩
theorem scPow : FnScope ["size", "most", "powers", "_"] pPow (defScope sPow) := ⟨rfl, rfl, rfl, by decide +kernel, rfl, by decide +kernel, by decide +kernel⟩
theorem scNk : FnScope ["size", "length"] pNk (defScope sNk) := ⟨rfl, rfl, rfl, by decide +kernel, rfl, by decide +kernel, by decide +kernel⟩
def spMob : Sp := fun vs H Q _ => ∃ n : Int, vs = [.int n] ∧ 1 ≤ n ∧ n ≤ 1000 ∧ Q (.int (mob n)) H
def spPart (K : PySem.W.Frag) : Sp := fun vs H Q _ => ∃ (a : Addr) (ps : List Int) (L : Nat), vs = [.ref a, .int L] ∧ LstI H a ps ∧ ps.length = L + 1 ∧ 1 ≤ L ∧ L ≤ 12 ∧ ∀ H', Same H H' → Q (.int (part ps L)) H'
def spPow : Sp := fun vs H Q _ => ∃ (size : Int) (m : Nat), vs = [.int size, .int m] ∧ 1 ≤ size ∧ size ≤ 3 ∧ m ≤ 12 ∧ ∀ H' p, Same H H' → LstI H' p (pw size m) → Q (.ref p) H'
def spNk : Sp := fun vs H Q _ => ∃ (size : Int) (L : Nat), vs = [.int size, .int L] ∧ 1 ≤ size ∧ size ≤ 3 ∧ 1 ≤ L ∧ L ≤ 12 ∧ ∀ H', Same H H' → Q (.int (nk size L)) H'
theorem mobL_succ (k : Nat) (p n f : Int) : mobL (k + 1) p n f = if n % p = 0 then (if (n / p) % p = 0 then 0 else mobL k (p + 1) (n / p) (-f)) else mobL k (p + 1) n f := rfl
theorem upTo_succ (i : Nat) : upTo (i + 1) = upTo i ++ [1 + (i : Int)] := by
  unfold upTo
  rw [List.range_succ, List.map_append]
  rfl
theorem pw_zero (size : Int) : pw size 0 = [1] := by
  simp [pw]
theorem pw_last (size : Int) (i : Nat) : pw size i = (List.range i).map (fun j => size ^ j) ++ [size ^ i] := by
  unfold pw
  rw [List.range_succ, List.map_append]
  rfl
theorem pw_succ (size : Int) (i : Nat) : pw size (i + 1) = pw size i ++ [size ^ i * size] := by
  rw [pw_last size (i + 1), ← Int.pow_succ]
  rfl
theorem pw_len (size : Int) (i : Nat) : (pw size i).length = i + 1 := by
  unfold pw
  rw [List.length_map, List.length_range]
theorem divs_bd {L : Nat} {d : Int} (h : d ∈ divs L) : ∃ n : Nat, d = (n : Int) ∧ 1 ≤ n ∧ n ≤ L := of_upTo (List.mem_filter.mp h).1
section
variable {P : Program} {w : World} {K : PySem.W.Frag} {mg : Str → Option Value} {base : Heap}
theorem ok_mob {f : Addr} {fd : FuncData} (F : Fun K "moebius" "moebius" sMob f fd) (B : Blt mg) : FnOk P w K mg base CX0 1 f fd pMob spMob := by
  refine F.ok scMob (fun vs H Q E h => ?_) (fun cdv A outer s H vs Q E hr h => ?_)
  · obtain ⟨n, rfl, _⟩ := h
    rfl
  · obtain ⟨n, rfl, h1, h2, k⟩ := h
    refine ⟨_, pss_cons (ps_set (i := 1) scMob.nd rfl (.inl rfl) pe_int)
      (pss_cons (ps_for PassesOwn.never rfl (pi_range2 (by rfl) B.range (pa_cons pe_int (pa_cons (pe_op op_add (pv 0) pe_int) pa_nil))) (pg_name (i := 2) scMob.nd rfl (.inl rfl))
        (pss_one (ps_if (pt_cmpR op_eq (pe_op op_mod (pv 0) (pv 2)) pe_int (nomark _))
          (pss_cons (ps_set (i := 0) scMob.nd rfl (.inl rfl) (pe_op op_fdiv (pv 0) (pv 2)))
          (pss_cons (ps_if (pt_cmpR op_eq (pe_op op_mod (pv 0) (pv 2)) pe_int (nomark _)) (pss_one (ps_ret pe_int)) pss_nil)
          (pss_one (ps_set (i := 1) scMob.nd rfl (.inl rfl) (pe_un un_neg (pv 1)))))) pss_nil)))
      (pss_one (ps_ret (pv 1)))), ?_⟩
    refine ⟨_, rfl, _, _, rfl, rfl, 2, n + 1, rfl, ⟨by decide, by decide, by omega, by omega⟩, ?_⟩
    have ec : (n + 1 - 2).toNat = (n - 1).toNat := by omega
    refine for_range (lo := 2) (n := (n + 1 - 2).toNat) (fun i σ H' => H' = H ∧ ∃ (m g : Int) (pr : Option V), σ = [some (.int m), some (.int g), pr] ∧ mobL ((n + 1 - 2).toNat - i) (2 + (i : Int)) m g = mob n)
      ⟨rfl, n, 1, none, rfl, by rw [ec]; rfl⟩ ?_ ?_
    · rintro i σ H' hi ⟨rfl, m, g, pr, rfl, hm⟩
      rw [show (n + 1 - 2).toNat - i = ((n + 1 - 2).toNat - (i + 1)) + 1 by omega, mobL_succ] at hm
      have hpos : (0 : Int) < 2 + (i : Int) := by omega
      have hsm : (2 + (i : Int)) < 1073741824 := by omega
      have e2 : (2 : Int) + ((i + 1 : Nat) : Int) = 2 + (i : Int) + 1 := by omega
      refine ⟨_, rfl, _, rfl, _, _, rfl, rfl, hpos, rfl, _, rfl, ite2 (fun e => ?_) (fun e => ?_)⟩
      · have e0 : m % (2 + (i : Int)) = 0 := V.int.inj (of_decide_eq_true e)
        rw [if_pos e0] at hm
        refine ⟨_, rfl, _, rfl, _, _, rfl, rfl, ⟨hpos, hsm⟩, _, rfl, _, rfl, _, _, rfl, rfl, hpos, rfl, _, rfl, ite2 (fun e => ?_) (fun e => ?_)⟩
        · have e1 : m / (2 + (i : Int)) % (2 + (i : Int)) = 0 := V.int.inj (of_decide_eq_true e)
          rw [if_pos e1] at hm
          show Q (.int 0) H'
          rw [hm]
          exact k
        · have e1 : ¬ m / (2 + (i : Int)) % (2 + (i : Int)) = 0 := fun z => e (decide_eq_true (congrArg V.int z))
          rw [if_neg e1] at hm
          refine ⟨_, rfl, _, rfl, rfl, m / (2 + (i : Int)), -g, _, rfl, ?_⟩
          rw [e2]
          exact hm
      · have e0 : ¬ m % (2 + (i : Int)) = 0 := fun z => e (decide_eq_true (congrArg V.int z))
        rw [if_neg e0] at hm
        refine ⟨rfl, m, g, _, rfl, ?_⟩
        rw [e2]
        exact hm
    · rintro σ H' ⟨rfl, m, g, pr, rfl, hm⟩
      rw [Nat.sub_self] at hm
      have e : g = mob n := hm
      refine ⟨_, rfl, ?_⟩
      show Q (.int g) H'
      rw [e]
      exact k
theorem ok_pow {f : Addr} {fd : FuncData} (F : Fun K "powers_of" "powers_of" sPow f fd) (B : Blt mg) : FnOk P w K mg base CX0 1 f fd pPow spPow := by
  refine F.ok scPow (fun vs H Q E h => ?_) (fun cdv A outer s H vs Q E hr h => ?_)
  · obtain ⟨n, m, rfl, _⟩ := h
    rfl
  · obtain ⟨size, m, rfl, h1, h2, h3, k⟩ := h
    refine ⟨_, pss_cons (ps_set (i := 2) scPow.nd rfl (.inl rfl) (pe_lst (pa_cons pe_int pa_nil)))
      (pss_cons (ps_for PassesOwn.never rfl (pi_range1 (by rfl) B.range (pa_cons (pv 1) pa_nil)) (pg_name (i := 3) scPow.nd rfl (.inl rfl))
        (pss_one (ps_expr (pe_bm PySem.F.plainAttrs_list PySem.F.slot_list_append PySem.F.type_list_append mt_append (pv 2)
          (pa_cons (pe_op op_mul (pe_ix ix_list (pv 2) (pe_un un_neg pe_int) (fun _ _ => rfl)) (pv 0)) pa_nil)))))
      (pss_one (ps_ret (pv 2)))), ?_⟩
    refine ⟨(by show 1 ≤ sizeLine; decide), fun p np => ?_⟩
    refine ⟨_, rfl, (m : Int), rfl, by omega, by omega, ?_⟩
    refine for_range (lo := 0) (n := ((m : Int)).toNat) (fun i σ H' => Same H H' ∧ LstI H' p (pw size i) ∧ ∃ x, σ = [some (.int size), some (.int m), some (.ref p), x])
      ⟨same_upd np, by rw [pw_zero]; exact upd_same, none, rfl⟩ ?_ ?_
    · rintro i σ H' hi ⟨sm, eP, x, rfl⟩
      refine ⟨_, rfl, .inl ⟨rfl, _, eP.l⟩, _, rfl, 1, rfl, p, _, _, .int (size ^ i), rfl, rfl, eP.l, ?_, _, rfl, _, _, rfl, rfl, .inr ⟨by omega, by omega⟩, p, _, _, rfl, rfl, eP, ?_, same_over sm np, ?_, _, rfl⟩
      · rw [pw_last, List.map_append]
        exact atI_last _ _
      · rw [List.length_map, pw_len]
        exact small1000 (by omega)
      · show upd H' p _ p = _
        rw [upd_same, pw_succ, List.map_append]
        rfl
    · rintro σ H' ⟨sm, eP, x, rfl⟩
      rw [Int.toNat_natCast] at eP
      exact ⟨_, rfl, k _ _ sm eP⟩
theorem ok_part {f fM : Addr} {fd fdM : FuncData} (F : Fun K "primitive_part" "primitive_part" sPart f fd) (B : Blt mg) (DM : Df K mg "moebius" sMob pMob fM fdM) : FnOk P w K mg base CX0 2 f fd pPart (spPart K) := by
  have GM : FnOk P w K mg base CX0 1 fM fdM pMob spMob := ok_mob DM.fn B
  refine F.ok scPart (fun vs H Q E h => ?_) (fun cdv A outer s H vs Q E hr h => ?_)
  · obtain ⟨a, ps, L, rfl, _⟩ := h
    rfl
  · obtain ⟨a, ps, L, rfl, hA, hl, h1, h2, k⟩ := h
    refine ⟨_, pss_cons (ps_setLc (i := 2) (own := [("d", 3)]) (g := gName 3) rfl scPart.nd rfl rfl (sw_true rfl rfl rfl (by decide +kernel)) (pi_range2 (by rfl) B.range (pa_cons pe_int (pa_cons (pe_op op_add (pv 1) pe_int) pa_nil)))
        (blkOk_by (N := ["powers", "length", "divisors", "d"]) (sc := defScope sPart) (by decide +kernel)) (fun _ _ _ _ _ => pg_name (i := 3) scPart.nd rfl (Or.inl rfl))
        (fun _ _ _ _ _ => pts_one (pt_cmpR op_eq (pe_op op_mod (pv 1) (pv 3)) pe_int (nomark _))) (fun _ _ _ _ _ => pv 3))
      (pss_one (ps_ret (pe_op op_fdiv (pe_callB (cr_sum rfl) (by rfl) B.sum (by decide +kernel) (pa_cons
        (pe_lc (own := [("d", 3)]) (g := gName 3) (tt := tYes) rfl scPart.nd (pi_list (pv 2)) (blkOk_by (N := ["powers", "length", "divisors", "d"]) (sc := defScope sPart) (by decide +kernel)) (fun _ _ _ _ _ => pg_name (i := 3) scPart.nd rfl (Or.inl rfl)) (fun _ _ _ _ _ => pts_nil)
          (fun _ _ _ _ _ => pe_op op_mul (pe_call GM hr (by rfl) DM.gl DM.fn.kp DM.bn .nil pass0 (pa_cons (pv 3) pa_nil)) (pe_ix (r := rIxL K) ix_list (pv 0) (pe_op op_fdiv (pv 1) (pv 3)) (fun _ _ => rfl)))) pa_nil)) (pv 1)))), ?_⟩
    refine ⟨_, rfl, _, _, rfl, rfl, 1, (L : Int) + 1, rfl, ⟨by decide, by decide, by omega, by omega⟩, fun D nD => ?_⟩
    have eL : ((L : Int) + 1 - 1).toNat = L := by omega
    refine lc_range (lo := 1) (n := ((L : Int) + 1 - 1).toNat) (fun i H' => Same H H' ∧ LstI H' D ((upTo i).filter fun d => decide ((L : Int) % d = 0))) ⟨same_upd nD, upd_same⟩ ?_ ?_
    · rintro i H' hi ⟨sm, eD⟩
      refine ⟨rfl, _, rfl, _, rfl, _, _, rfl, rfl, by omega, rfl, _, rfl, ite2 (fun e => ?_) (fun e => ?_)⟩
      · have e0 : (L : Int) % (1 + (i : Int)) = 0 := V.int.inj (of_decide_eq_true e)
        refine ⟨_, rfl, _, eD, ?_, same_over sm nD, ?_⟩
        · rw [List.length_map]
          refine small1000 (Nat.le_trans (List.length_filter_le _ _) ?_)
          unfold upTo
          rw [List.length_map, List.length_range]
          omega
        · show upd H' D _ D = _
          rw [upd_same, upTo_succ, List.filter_append, List.map_append, List.filter_cons_of_pos (p := fun d => decide ((L : Int) % d = 0)) (decide_eq_true e0)]
          rfl
      · have e0 : ¬ (L : Int) % (1 + (i : Int)) = 0 := fun z => e (decide_eq_true (congrArg V.int z))
        refine ⟨sm, ?_⟩
        show H' D = _
        rw [upTo_succ, List.filter_append, List.filter_cons_of_neg (p := fun d => decide ((L : Int) % d = 0)) (by rw [decide_eq_false e0]; exact Bool.false_ne_true), List.filter_nil, List.append_nil]
        exact eD
    · rintro H1 ⟨sm, eD⟩
      rw [eL] at eD
      have eD : LstI H1 D (divs L) := eD
      have hA1 : LstI H1 a ps := sm _ _ hA
      refine ⟨_, rfl, D, rfl, ⟨_, eD.l⟩, fun D2 nD2 => ?_⟩
      refine lc_list (K := K) (a := D) (xs := (divs L).map V.int) (fun i H' => Same H1 H' ∧ LstI H' D2 (((divs L).take i).map (term ps L))) ⟨same_upd nD2, upd_same⟩ (fun i H' _ p => (show LstI H' D (divs L) from p.1 _ _ eD).l) ?_ ?_
      · rintro i x H' hx ⟨sm', eD2⟩
        obtain ⟨d, hd, rfl⟩ : ∃ d, (divs L)[i]? = some d ∧ x = .int d := by
          rw [List.getElem?_map] at hx
          cases e : (divs L)[i]? with
          | none =>
            rw [e] at hx
            cases hx
          | some z =>
            rw [e] at hx
            exact ⟨z, rfl, (Option.some.inj hx).symm⟩
        obtain ⟨n, rfl, n1, n2⟩ := divs_bd (List.mem_of_getElem? hd)
        have mb := mob_bd (n : Int)
        have dv : ((L : Int) / (n : Int)) = (((L : Int) / (n : Int)).toNat : Int) := by
          have := Int.ediv_nonneg (show (0 : Int) ≤ L by omega) (show (0 : Int) ≤ n by omega)
          omega
        have dl : ((L : Int) / (n : Int)).toNat < ps.length := by
          have a1 := Int.ediv_le_self (n : Int) (show (0 : Int) ≤ L by omega)
          omega
        refine ⟨rfl, ?_⟩
        refine ⟨_, rfl, (n : Int), rfl, by omega, by omega, _, rfl, _, rfl, _, rfl, _, _, rfl, rfl, ⟨by omega, by omega⟩, a, _, _, _, rfl, rfl, (show LstI H' a ps from sm' _ _ hA1).l, at_int dv dl, _, _, rfl, rfl, .inl ⟨by omega, by omega⟩, ?_⟩
        refine ⟨_, eD2, ?_, same_over sm' nD2, ?_⟩
        · rw [List.length_map, List.length_map, List.length_take]
          have h3 := (List.getElem?_eq_some_iff.mp hd).1
          have h4 : (divs L).length ≤ L := Nat.le_trans (List.length_filter_le _ _) (by unfold upTo; rw [List.length_map, List.length_range]; exact Nat.le_refl _)
          exact small1000 (by omega)
        · show upd H' D2 _ D2 = _
          rw [upd_same, List.take_add_one, hd, List.map_append, List.map_append]
          rfl
      · rintro H2 ⟨sm', eD2⟩
        have e2 : (divs L).take ((divs L).map V.int).length = divs L := List.take_of_length_le (by rw [List.length_map]; exact Nat.le_refl _)
        rw [e2] at eD2
        exact ⟨D2, _, rfl, eD2.l, _, rfl, _, _, rfl, rfl, ⟨by omega, by omega⟩, k _ (sm.trans sm')⟩
theorem ok_nk {f fP fW fM : Addr} {fd fdP fdW fdM : FuncData} (F : Fun K "necklaces_of" "necklaces_of" sNk f fd) (B : Blt mg) (DM : Df K mg "moebius" sMob pMob fM fdM) (DP : Df K mg "primitive_part" sPart pPart fP fdP) (DW : Df K mg "powers_of" sPow pPow fW fdW) : FnOk P w K mg base CX0 3 f fd pNk spNk := by
  have GP : FnOk P w K mg base CX0 2 fP fdP pPart (spPart K) := ok_part DP.fn B DM
  have GW : FnOk P w K mg base CX0 1 fW fdW pPow spPow := ok_pow DW.fn B
  refine F.ok scNk (fun vs H Q E h => ?_) (fun cdv A outer s H vs Q E hr h => ?_)
  · obtain ⟨n, L, rfl, _⟩ := h
    rfl
  · obtain ⟨size, L, rfl, h1, h2, h3, h4, k⟩ := h
    refine ⟨_, pss_one (ps_ret (pe_call GP hr (by rfl) DP.gl DP.fn.kp DP.bn .nil pass0 (pa_cons (pe_call GW (hr.mono (by decide)) (by rfl) DW.gl DW.fn.kp DW.bn .nil pass0 (pa_cons (pv 0) (pa_cons (pv 1) pa_nil))) (pa_cons (pv 1) pa_nil)))), ?_⟩
    refine ⟨_, rfl, _, rfl, size, L, rfl, h1, h2, h4, fun H1 p sm eP => ⟨_, rfl, p, pw size L, L, rfl, eP, pw_len _ _, h3, h4, fun H2 sm2 => k _ (sm.trans sm2)⟩⟩
end
end Sw
/-! turns_of, word_necklaces_of, failing, with_more -/
namespace Sw
open PySem PySem.Spec PyProof.Rows L2
abbrev sTurns : Stmt := topS 16
abbrev sWn : Stmt := topS 17
abbrev sFail : Stmt := topS 18
abbrev sWith : Stmt := topS 19
abbrev pTurns : List Str := ["counts", "length"]
abbrev pWn : List Str := ["counts", "length"]
abbrev pFail : List Str := ["size", "counts"]
abbrev pWith : List Str := ["counts", "length", "many"]
theorem scTurns : FnScope ["counts", "length", "row", "turns", "n", "i"] pTurns (defScope sTurns) := ⟨rfl, rfl, rfl, by decide +kernel, rfl, by decide +kernel, by decide +kernel⟩
theorem scWn : FnScope ["counts", "length"] pWn (defScope sWn) := ⟨rfl, rfl, rfl, by decide +kernel, rfl, by decide +kernel, by decide +kernel⟩
theorem scFail : FnScope ["size", "counts", "length"] pFail (defScope sFail) := ⟨rfl, rfl, rfl, by decide +kernel, rfl, by decide +kernel, by decide +kernel⟩
theorem scWith : FnScope ["counts", "length", "many", "row"] pWith (defScope sWith) := ⟨rfl, rfl, rfl, by decide +kernel, rfl, by decide +kernel, by decide +kernel⟩
def spTurns : Sp := fun vs H Q _ => ∃ (a : Addr) (cs : List Int) (L : Nat), vs = [.ref a, .int L] ∧ TupI H a cs ∧ cs.length ≤ 12 ∧ Bd cs ∧ 1 ≤ L ∧ L ≤ 12 ∧ ∀ H' p, Same H H' → LstI H' p (turnsL cs L) → Q (.ref p) H'
def spWn : Sp := fun vs H Q _ => ∃ (a : Addr) (cs : List Int) (L : Nat), vs = [.ref a, .int L] ∧ TupI H a cs ∧ cs.length ≤ 12 ∧ Bd cs ∧ 1 ≤ L ∧ L ≤ 12 ∧ ∀ H', Same H H' → Q (.int (wn cs L)) H'
def spFail : Sp := fun vs H Q _ => ∃ (size : Int) (a : Addr) (cs : List Int), vs = [.int size, .ref a] ∧ 1 ≤ size ∧ size ≤ 3 ∧ TupI H a cs ∧ cs.length ≤ 12 ∧ Bd cs ∧ ∀ H', Same H H' → Q (optV (failing size cs)) H'
def spWith : Sp := fun vs H Q _ => ∃ (a : Addr) (cs : List Int) (L : Nat) (k : Int), vs = [.ref a, .int L, .int k] ∧ TupI H a cs ∧ cs.length ≤ 12 ∧ 1 ≤ L ∧ L ≤ 12 ∧ ∀ H' p, Same H H' → TupI H' p (withMore cs L k) → Q (.ref p) H'
/-! ### tuples of whole numbers, by value -/
theorem flat_rep (m : Nat) : (List.replicate m [V.int 0]).flatten = (List.replicate m (0 : Int)).map V.int := by
  induction m with
  | zero => rfl
  | succ m ih =>
    rw [List.replicate_succ, List.replicate_succ, List.flatten_cons, ih]
    rfl
theorem repI_of {K : PySem.W.Frag} {H : Hp} {l : Addr} {k : Int} {Q : VK} (h : TupI H l [0]) (h1 : -1000 ≤ k) (h2 : k ≤ 1000) (q : ∀ p H', Same H H' → TupI H' p (List.replicate k.toNat 0) → Q (.ref p) H') : rRepI K (.ref l) (.int k) H Q := by
  refine ⟨l, k, [V.int 0], rfl, rfl, .inl (.inl h), by simp, h1, h2, by decide, fun e => ?_, fun e p np => ?_⟩
  · subst e
    exact q l H (Same.refl H) h
  · refine q p _ (same_upd np) ?_
    show upd H p _ p = _
    rw [upd_same, flat_rep]
theorem catA_of {K : PySem.W.Frag} {H : Hp} {a b : Addr} {xs ys : List Int} {Q : VK} (ha : TupI H a xs) (hb : TupI H b ys) (hl : xs.length + ys.length ≤ 1000) (q : ∀ p H', Same H H' → TupI H' p (xs ++ ys) → Q (.ref p) H') : rCatA K (.ref a) (.ref b) H Q := by
  refine ⟨a, b, _, _, rfl, rfl, ha.t, hb.t, ?_, fun e => ?_, fun _ e => ?_, fun _ _ p np => ?_⟩
  · rw [List.length_map, List.length_map]
    exact Nat.le_of_lt (small1000 hl)
  · have e' : xs = [] := List.map_eq_nil_iff.mp e
    subst e'
    exact q b H (Same.refl H) hb
  · have e' : ys = [] := List.map_eq_nil_iff.mp e
    subst e'
    exact q a H (Same.refl H) (by rw [List.append_nil]; exact ha)
  · refine q p _ (same_upd np) ?_
    show upd H p _ p = _
    rw [upd_same, List.map_append]
theorem slA_of {K : PySem.W.Frag} {H : Hp} {a : Addr} {xs : List Int} {lo hi : Option Int} {ys : List Int} {Q : VK} (ha : TupI H a xs) (e : cutV (xs.map V.int) lo hi = ys.map V.int) (q : ∀ p H', Same H H' → TupI H' p ys → Q (.ref p) H') : rSlA K (.ref a) lo hi H Q := by
  refine ⟨a, _, rfl, ha.t, fun h => ?_, fun _ p np => ?_⟩
  · have e2 : ys.map V.int = xs.map V.int := by
      rw [← e]
      unfold cutV
      rw [h.1, h.2, List.drop_zero, Nat.sub_zero]
      exact List.take_length
    refine q a H (Same.refl H) ?_
    show H a = some (.tup (ys.map V.int))
    rw [e2]
    exact ha
  · refine q p _ (same_upd np) ?_
    show upd H p _ p = _
    rw [upd_same, e]
theorem take_min {α : Type} (xs : List α) (k : Nat) : xs.take (min k xs.length) = xs.take k := by
  by_cases h : k ≤ xs.length
  · rw [Nat.min_eq_left h]
  · rw [Nat.min_eq_right (by omega), List.take_length, List.take_of_length_le (by omega)]
theorem cut_to (xs : List Int) {z : Int} {k : Nat} (e : z = (k : Int)) : cutV (xs.map V.int) none (some z) = (xs.take k).map V.int := by
  subst e
  unfold cutV
  rw [HT.sIx_none, HT.sIx_nat, List.drop_zero, Nat.sub_zero, take_min, List.map_take]
theorem cut_from (xs : List Int) {z : Int} {k : Nat} (e : z = (k : Int)) : cutV (xs.map V.int) (some z) none = (xs.drop k).map V.int := by
  subst e
  unfold cutV
  rw [HT.sIx_none, HT.sIx_nat, List.map_drop]
  by_cases h : k ≤ (xs.map V.int).length
  · rw [Nat.min_eq_left h]
    exact List.take_of_length_le (by rw [List.length_drop]; exact Nat.le_refl _)
  · rw [Nat.min_eq_right (by omega), Nat.sub_self, List.take_zero, List.drop_eq_nil_of_le (by omega)]
theorem at0_rep (cs : List Int) (m j : Nat) : at0 (cs ++ List.replicate m 0) j = at0 cs j := by
  have := at0_pad (cs := cs) (L := cs.length + m) (j := j)
  unfold padTo at this
  rw [Nat.add_sub_cancel_left] at this
  exact this
theorem failF_succ (size : Int) (cs : List Int) (k L : Nat) : failF size cs (k + 1) L = if nk size L < wn cs L then some L else failF size cs k (L + 1) := rfl
section
variable {P : Program} {w : World} {K : PySem.W.Frag} {mg : Str → Option Value} {base : Heap}
theorem ok_turns {f : Addr} {fd : FuncData} (F : Fun K "turns_of" "turns_of" sTurns f fd) (B : Blt mg) : FnOk P w K mg base CX0 1 f fd pTurns spTurns := by
  refine F.ok scTurns (fun vs H Q E h => ?_) (fun cdv A outer s H vs Q E hr h => ?_)
  · obtain ⟨a, cs, L, rfl, _⟩ := h
    rfl
  · obtain ⟨a, cs, L, rfl, hA, hl, hb, h1, h2, k⟩ := h
    refine ⟨_, pss_cons (ps_set (i := 2) scTurns.nd rfl (.inr rfl) (pe_op op_catA (pv 0) (pe_op op_repI (pe_tup (pa_cons pe_int pa_nil)) (pv 1))))
      (pss_cons (ps_set (i := 3) scTurns.nd rfl (.inr rfl) (pe_lst (pa_cons pe_int pa_nil)))
      (pss_cons (ps_for PassesOwn.never rfl (pi_range2 (by rfl) B.range (pa_cons pe_int (pa_cons (pe_op op_add (pv 1) pe_int) pa_nil))) (pg_name (i := 4) scTurns.nd rfl (.inr rfl))
        (pss_one (ps_expr (pe_bm PySem.F.plainAttrs_list PySem.F.slot_list_append PySem.F.type_list_append mt_append (pv 3) (pa_cons
          (pe_op op_add (pe_op op_mul (pv 4) (pe_ix ix_tup (pv 2) (pe_op op_sub (pv 4) pe_int) (fun _ _ => rfl)))
            (pe_callB (cr_sum rfl) (by rfl) B.sum (by decide +kernel) (pa_cons
              (pe_lc (own := [("i", 5)]) (g := gName 5) (tt := tYes) rfl scTurns.nd (pi_range2 (by rfl) B.range (pa_cons pe_int (pa_cons (pv 4) pa_nil))) (blkOk_by (N := ["counts", "length", "row", "turns", "n", "i"]) (sc := defScope sTurns) (by decide +kernel))
                (fun _ _ _ _ _ => pg_name (i := 5) scTurns.nd rfl (Or.inl rfl)) (fun _ _ _ _ _ => pts_nil)
                (fun _ _ _ _ _ => pe_op op_mul (pe_ix (r := rIxT K) ix_tup (pv 2) (pe_op op_sub (pv 5) pe_int) (fun _ _ => rfl)) (pe_ix (r := rIxL K) ix_list (pv 3) (pe_op op_sub (pv 4) (pv 5)) (fun _ _ => rfl)))) pa_nil))) pa_nil)))))
      (pss_one (ps_ret (pv 3))))), ?_⟩
    -- row = counts + (0,) * length
    refine ⟨_, rfl, (by show 1 ≤ sizeLine; decide), fun t nt => ⟨_, rfl, ?_⟩⟩
    refine repI_of (K := K) (show upd H t _ t = _ from upd_same) (by omega) (by omega) fun q H1 s1 eq => ?_
    have s01 : Same H H1 := (same_upd nt).trans s1
    rw [Int.toNat_natCast] at eq
    refine catA_of (K := K) (show TupI H1 a cs from s01 _ _ hA) eq (by rw [List.length_replicate]; omega) fun rw' H2 s2 er => ?_
    have s02 : Same H H2 := s01.trans s2
    -- turns = [0]
    refine ⟨(by show 1 ≤ sizeLine; decide), fun tp ntp => ?_⟩
    have s03 : Same H (upd H2 tp (.lst [.int 0])) := same_over s02 (s02.free ntp)
    have nT : H tp = none := s02.free ntp
    generalize hrow : cs ++ List.replicate L (0 : Int) = row at er
    have rl : row.length = cs.length + L := by rw [← hrow, List.length_append, List.length_replicate]
    have rc : ∀ j, at0 row j = at0 cs j := fun j => by rw [← hrow, at0_rep]
    refine ⟨_, rfl, _, _, rfl, rfl, 1, (L : Int) + 1, rfl, ⟨by decide, by decide, by omega, by omega⟩, ?_⟩
    have eL : ((L : Int) + 1 - 1).toNat = L := by omega
    refine for_range (lo := 1) (n := ((L : Int) + 1 - 1).toNat) (fun i σ H' => Same H H' ∧ TupI H' rw' row ∧ LstI H' tp (turnsL row i) ∧ ∃ x, σ = [some (.ref a), some (.int L), some (.ref rw'), some (.ref tp), x, none])
      ⟨s03, by show upd H2 tp _ rw' = _; rw [upd_ne (ne_of_none er ntp)]; exact er, upd_same, none, rfl⟩ ?_ ?_
    · rintro i σ H' hi ⟨sm, er', et, x, rfl⟩
      have tl := turnsL_len row i
      refine ⟨_, rfl, .inl ⟨rfl, _, et.l⟩, ?_⟩
      refine ⟨_, rfl, _, rfl, _, rfl, _, _, rfl, rfl, rw', _, _, _, rfl, rfl, er'.t, at_int (j := i) (by omega) (by omega), _, _, rfl, rfl, .inl ⟨by omega, by omega⟩, ?_⟩
      refine ⟨_, rfl, 1, 1 + (i : Int), rfl, ⟨by decide, by decide, by omega, by omega⟩, fun D nD => ?_⟩
      have ei : (1 + (i : Int) - 1).toNat = i := by omega
      refine lc_range (lo := 1) (n := (1 + (i : Int) - 1).toNat) (fun j H'' => Same H' H'' ∧ LstI H'' D ((List.range j).map fun j => at0 row j * at0 (turnsL row i) (i - j))) ⟨same_upd nD, upd_same⟩ ?_ ?_
      · rintro j H'' hj ⟨sm', eD⟩
        have bj := hb.at j
        rw [← rc j] at bj
        refine ⟨rfl, ?_⟩
        refine ⟨_, rfl, _, rfl, _, _, rfl, rfl, rw', _, _, _, rfl, rfl, (show TupI H'' rw' row from sm' _ _ er').t, at_int (j := j) (by omega) (by omega), ?_⟩
        refine ⟨_, rfl, _, rfl, _, rfl, _, _, rfl, rfl, tp, _, _, _, rfl, rfl, (show LstI H'' tp _ from sm' _ _ et).l, at_int (j := i - j) (by omega) (by omega), _, _, rfl, rfl, .inl ⟨by omega, by omega⟩, ?_⟩
        refine ⟨_, eD, ?_, same_over sm' nD, ?_⟩
        · rw [List.length_map, List.length_map, List.length_range]
          exact small1000 (by omega)
        · show upd H'' D _ D = _
          rw [upd_same, List.range_succ, List.map_append, List.map_append]
          rfl
      · rintro H'' ⟨sm', eD⟩
        rw [ei] at eD
        refine ⟨D, _, rfl, eD.l, _, _, rfl, rfl, ?_⟩
        have et'' : LstI H'' tp (turnsL row i) := sm' _ _ et
        refine ⟨tp, _, _, rfl, rfl, et'', ?_, same_over (sm.trans sm') nT, ?_, ?_, _, rfl⟩
        · rw [List.length_map, tl]
          exact small1000 (by omega)
        · show upd H'' tp _ rw' = _
          rw [upd_ne (ne_of (sm' _ _ er') et'' (by intro q; cases q))]
          exact sm' _ _ er'
        · show upd H'' tp _ tp = some (.lst ((turnsL row (i + 1)).map V.int))
          rw [upd_same, show turnsL row (i + 1) = turnsL row i ++ [turnNext row (turnsL row i) (i + 1)] from rfl, List.map_append]
          unfold turnNext
          rw [show i + 1 - 1 = i by omega, show ((i + 1 : Nat) : Int) = 1 + (i : Int) by omega]
          rfl
    · rintro σ H' ⟨sm, er', et, x, rfl⟩
      rw [eL, turnsL_congr (row' := cs) fun j _ => rc j] at et
      exact ⟨_, rfl, k _ _ sm et⟩
theorem ok_wn {f fP fT fM : Addr} {fd fdP fdT fdM : FuncData} (F : Fun K "word_necklaces_of" "word_necklaces_of" sWn f fd) (B : Blt mg) (DM : Df K mg "moebius" sMob pMob fM fdM) (DP : Df K mg "primitive_part" sPart pPart fP fdP) (DT : Df K mg "turns_of" sTurns pTurns fT fdT) : FnOk P w K mg base CX0 3 f fd pWn spWn := by
  have GP : FnOk P w K mg base CX0 2 fP fdP pPart (spPart K) := ok_part DP.fn B DM
  have GT : FnOk P w K mg base CX0 1 fT fdT pTurns spTurns := ok_turns DT.fn B
  refine F.ok scWn (fun vs H Q E h => ?_) (fun cdv A outer s H vs Q E hr h => ?_)
  · obtain ⟨a, cs, L, rfl, _⟩ := h
    rfl
  · obtain ⟨a, cs, L, rfl, hA, hl, hb, h1, h2, k⟩ := h
    refine ⟨_, pss_one (ps_ret (pe_call GP hr (by rfl) DP.gl DP.fn.kp DP.bn .nil pass0 (pa_cons (pe_call GT (hr.mono (by decide)) (by rfl) DT.gl DT.fn.kp DT.bn .nil pass0 (pa_cons (pv 0) (pa_cons (pv 1) pa_nil))) (pa_cons (pv 1) pa_nil)))), ?_⟩
    refine ⟨_, rfl, _, rfl, a, cs, L, rfl, hA, hl, hb, h1, h2, fun H1 p sm eP => ⟨_, rfl, p, turnsL cs L, L, rfl, eP, turnsL_len _ _, h1, h2, fun H2 sm2 => k _ (sm.trans sm2)⟩⟩
theorem ok_fail {f fP fT fM fW fN fR : Addr} {fd fdP fdT fdM fdW fdN fdR : FuncData} (F : Fun K "failing" "failing" sFail f fd) (B : Blt mg) (DM : Df K mg "moebius" sMob pMob fM fdM) (DP : Df K mg "primitive_part" sPart pPart fP fdP) (DT : Df K mg "turns_of" sTurns pTurns fT fdT)
    (DW : Df K mg "word_necklaces_of" sWn pWn fW fdW) (DR : Df K mg "powers_of" sPow pPow fR fdR) (DN : Df K mg "necklaces_of" sNk pNk fN fdN) : FnOk P w K mg base CX0 4 f fd pFail spFail := by
  have GW : FnOk P w K mg base CX0 3 fW fdW pWn spWn := ok_wn DW.fn B DM DP DT
  have GN : FnOk P w K mg base CX0 3 fN fdN pNk spNk := ok_nk DN.fn B DM DP DR
  refine F.ok scFail (fun vs H Q E h => ?_) (fun cdv A outer s H vs Q E hr h => ?_)
  · obtain ⟨size, a, cs, rfl, _⟩ := h
    rfl
  · obtain ⟨size, a, cs, rfl, h1, h2, hA, hl, hb, k⟩ := h
    refine ⟨_, pss_cons (ps_for PassesOwn.never rfl (pi_range2 (by rfl) B.range (pa_cons pe_int (pa_cons (pe_op op_add (pe_callB call_len_seq (by rfl) B.len PySem.boot_len (pa_cons (pv 1) pa_nil)) pe_int) pa_nil))) (pg_name (i := 2) scFail.nd rfl (.inl rfl))
        (pss_one (ps_if (pt_cmpR op_gt (pe_call GW hr (by rfl) DW.gl DW.fn.kp DW.bn .nil pass0 (pa_cons (pv 1) (pa_cons (pv 2) pa_nil))) (pe_call GN hr (by rfl) DN.gl DN.fn.kp DN.bn .nil pass0 (pa_cons (pv 0) (pa_cons (pv 2) pa_nil))) (nomark _))
          (pss_one (ps_ret (pv 2))) pss_nil)))
      (pss_one (ps_ret pe_non)), ?_⟩
    refine ⟨_, rfl, a, _, rfl, .inr hA.t, _, _, rfl, rfl, 1, ((cs.map V.int).length : Int) + 1, rfl, ⟨by decide, by decide, by rw [List.length_map]; omega, by rw [List.length_map]; omega⟩, ?_⟩
    rw [List.length_map]
    have eL : ((cs.length : Int) + 1 - 1).toNat = cs.length := by omega
    refine for_range (lo := 1) (n := ((cs.length : Int) + 1 - 1).toNat) (fun i σ H' => Same H H' ∧ (∃ x, σ = [some (.int size), some (.ref a), x]) ∧ failF size cs (cs.length - i) (i + 1) = failing size cs)
      ⟨Same.refl H, ⟨none, rfl⟩, rfl⟩ ?_ ?_
    · rintro i σ H' hi ⟨sm, ⟨x, rfl⟩, ef⟩
      rw [show cs.length - i = (cs.length - (i + 1)) + 1 by omega, failF_succ] at ef
      have ei : (1 : Int) + (i : Int) = ((i + 1 : Nat) : Int) := by omega
      rw [ei]
      refine ⟨_, rfl, _, rfl, a, cs, i + 1, rfl, sm _ _ hA, hl, hb, by omega, by omega, fun H1 s1 => ?_⟩
      refine ⟨_, rfl, _, rfl, size, i + 1, rfl, h1, h2, by omega, by omega, fun H2 s2 => ?_⟩
      have s02 : Same H H2 := (sm.trans s1).trans s2
      refine ⟨_, _, rfl, rfl, _, rfl, ite2 (fun e => ?_) (fun e => ?_)⟩
      · have e1 : nk size (i + 1) < wn cs (i + 1) := of_decide_eq_true e
        rw [if_pos e1] at ef
        have q := k H2 s02
        rw [← ef] at q
        exact ⟨_, rfl, q⟩
      · have e1 : ¬ nk size (i + 1) < wn cs (i + 1) := fun z => e (decide_eq_true z)
        rw [if_neg e1] at ef
        exact ⟨s02, ⟨_, rfl⟩, ef⟩
    · rintro σ H' ⟨sm, ⟨x, rfl⟩, ef⟩
      rw [eL, Nat.sub_self] at ef
      have q := k H' sm
      rw [← ef] at q
      exact q
theorem ok_with {f : Addr} {fd : FuncData} (F : Fun K "with_more" "with_more" sWith f fd) (B : Blt mg) : FnOk P w K mg base CX0 1 f fd pWith spWith := by
  refine F.ok scWith (fun vs H Q E h => ?_) (fun cdv A outer s H vs Q E hr h => ?_)
  · obtain ⟨a, cs, L, k, rfl, _⟩ := h
    rfl
  · obtain ⟨a, cs, L, m, rfl, hA, hl, h1, h2, k⟩ := h
    refine ⟨_, pss_cons (ps_set (i := 3) scWith.nd rfl (.inl rfl) (pe_op op_catA (pv 0) (pe_op op_repI (pe_tup (pa_cons pe_int pa_nil)) (pe_op op_sub (pv 1) (pe_callB call_len_seq (by rfl) B.len PySem.boot_len (pa_cons (pv 0) pa_nil))))))
      (pss_one (ps_ret (pe_op op_catA (pe_op op_catA (pe_slice sl_tupA (pv 3) po_none (po_some (pe_op op_sub (pv 1) pe_int)))
          (pe_tup (pa_cons (pe_op op_add (pe_ix ix_tup (pv 3) (pe_op op_sub (pv 1) pe_int) (fun _ _ => rfl)) (pv 2)) pa_nil)))
        (pe_slice sl_tupA (pv 3) (po_some (pv 1)) po_none)))), ?_⟩
    refine ⟨_, rfl, (by show 1 ≤ sizeLine; decide), fun t nt => ⟨_, rfl, _, rfl, a, cs.map V.int, rfl, .inr (show TupI (upd H t _) a cs from same_upd nt _ _ hA).t, _, _, rfl, rfl, ?_⟩⟩
    rw [List.length_map]
    refine repI_of (K := K) (show upd H t _ t = _ from upd_same) (by omega) (by omega) fun q H1 s1 eq => ?_
    have s01 : Same H H1 := (same_upd nt).trans s1
    rw [show ((L : Int) - (cs.length : Int)).toNat = L - cs.length by omega] at eq
    refine catA_of (K := K) (show TupI H1 a cs from s01 _ _ hA) eq (by rw [List.length_replicate]; omega) fun rw' H2 s2 er => ?_
    have er : TupI H2 rw' (padTo cs L) := er
    have s02 : Same H H2 := s01.trans s2
    have pl := padTo_len cs L
    -- row[:length - 1] + (row[length - 1] + many,) + row[length:]
    refine ⟨_, rfl, _, rfl, _, _, rfl, rfl, _, rfl, ?_⟩
    refine slA_of (K := K) er (cut_to _ (k := L - 1) (by omega)) fun p1 H3 s3 e1 => ?_
    have er3 : TupI H3 rw' (padTo cs L) := s3 _ _ er
    refine ⟨_, rfl, _, rfl, _, _, rfl, rfl, rw', _, _, _, rfl, rfl, er3.t, at_int (j := L - 1) (by omega) (by omega), _, rfl, _, _, rfl, rfl, (by show 1 ≤ sizeLine; decide), fun p2 np2 => ?_⟩
    have s4 : Same H3 (upd H3 p2 (.tup [.int (at0 (padTo cs L) (L - 1) + m)])) := same_upd np2
    refine catA_of (K := K) (xs := (padTo cs L).take (L - 1)) (ys := [at0 (padTo cs L) (L - 1) + m]) (s4 _ _ e1) upd_same (by rw [List.length_take, List.length_singleton]; omega) fun p3 H5 s5 e3 => ?_
    have er5 : TupI H5 rw' (padTo cs L) := s5 _ _ (s4 _ _ er3)
    refine ⟨_, rfl, _, rfl, _, rfl, ?_⟩
    dsimp only [tNoPart]
    refine slA_of (K := K) er5 (cut_from _ (k := L) rfl) fun p6 H6 s6 e6 => ?_
    refine catA_of (K := K) (show TupI H6 p3 _ from s6 _ _ e3) e6 (by rw [List.length_append, List.length_take, List.length_drop, List.length_singleton]; omega) fun p7 H7 s7 e7 => ?_
    exact k _ _ (((((s02.trans s3).trans s4).trans s5).trans s6).trans s7) e7
end
end Sw
/-! more_of, necklaces, word_necklaces, first_failing, more_words, extended -/
namespace Sw
open PySem PySem.Spec PyProof.Rows L2
abbrev sMore : Stmt := topS 20
abbrev sNkC : Stmt := topS 21
abbrev sWnC : Stmt := topS 22
abbrev sFirst : Stmt := topS 24
abbrev sMoreW : Stmt := topS 25
abbrev sExt : Stmt := topS 26
abbrev pMore : List Str := ["size", "counts", "length"]
abbrev pNkC : List Str := ["size", "length"]
abbrev pWnC : List Str := ["counts", "length"]
abbrev pFirst : List Str := ["size", "counts"]
abbrev pMoreW : List Str := ["size", "counts", "length"]
abbrev pExt : List Str := ["size", "counts", "most"]
/-- what the top left of the program -/
structure Txt (K : PySem.W.Frag) (mg : Str → Option Value) : Prop where
  B : Blt mg
  C : Cst mg
  num : ∃ f fd, Df K mg "is_number" sNum pNum f fd
  ckS : ∃ f fd, Df K mg "check_size" sCkS pCkS f fd
  ckC : ∃ f fd, Df K mg "check_counts" sCkC pCkC f fd
  ckL : ∃ f fd, Df K mg "check_length" sCkL pCkL f fd
  mob : ∃ f fd, Df K mg "moebius" sMob pMob f fd
  part : ∃ f fd, Df K mg "primitive_part" sPart pPart f fd
  pow : ∃ f fd, Df K mg "powers_of" sPow pPow f fd
  nk : ∃ f fd, Df K mg "necklaces_of" sNk pNk f fd
  turns : ∃ f fd, Df K mg "turns_of" sTurns pTurns f fd
  wn : ∃ f fd, Df K mg "word_necklaces_of" sWn pWn f fd
  fail : ∃ f fd, Df K mg "failing" sFail pFail f fd
  with_ : ∃ f fd, Df K mg "with_more" sWith pWith f fd
  more : ∃ f fd, Df K mg "more_of" sMore pMore f fd
  nkC : ∃ f fd, Df K mg "necklaces" sNkC pNkC f fd
  wnC : ∃ f fd, Df K mg "word_necklaces" sWnC pWnC f fd
  ckB : ∃ f fd, Df K mg "check_both" sCkB pCkB f fd
  first : ∃ f fd, Df K mg "first_failing" sFirst pFirst f fd
  moreW : ∃ f fd, Df K mg "more_words" sMoreW pMoreW f fd
  ext : ∃ f fd, Df K mg "extended" sExt pExt f fd
/-- a def of the top that keeps its promise -/
def Gd (P : Program) (w : World) (K : PySem.W.Frag) (mg : Str → Option Value) (base : Heap) (k : Nat) (x : Str) (st : Stmt) (ps : List Str) (sp : Sp) : Prop := ∃ f fd, Df K mg x st ps f fd ∧ FnOk P w K mg base CX0 k f fd ps sp
def Cnt (cs : List Int) : Prop := cs.length ≤ 8 ∧ ∀ x, x ∈ cs → 0 ≤ x ∧ x ≤ 1000
theorem Cnt.bd {cs : List Int} (c : Cnt cs) : Bd cs := fun x hx => by
  have := c.2 x hx
  omega
/-- more_of's wish: some number of words with which no length fails, with one more some length does -/
def MoreQ (size : Int) (cs : List Int) (L : Nat) (H : Hp) (Q : VK) : Prop := ∀ H' r, Same H H' → 0 ≤ r → r ≤ nk size L → Ok size cs L r → ¬ Ok size cs L (r + 1) → Q (.int r) H'
/-- where the search begins -/
structure MoreOk (size : Int) (cs : List Int) (L : Nat) : Prop where
  l1 : 1 ≤ L
  l8 : L ≤ 8
  n0 : 0 ≤ nk size L
  n9 : nk size L ≤ 900
  lo : Ok size cs L 0
  hi : ¬ Ok size cs L (nk size L + 1)
def spMore : Sp := fun vs H Q _ => ∃ (size : Int) (a : Addr) (cs : List Int) (L : Nat), vs = [.int size, .ref a, .int L] ∧ 1 ≤ size ∧ size ≤ 3 ∧ TupI H a cs ∧ Cnt cs ∧ MoreOk size cs L ∧ MoreQ size cs L H Q
def spNkC : Sp := spNk
def spWnC : Sp := fun vs H Q _ => ∃ (a : Addr) (cs : List Int) (L : Nat), vs = [.ref a, .int L] ∧ TupI H a cs ∧ Cnt cs ∧ 1 ≤ L ∧ L ≤ 12 ∧ ∀ H', Same H H' → Q (.int (wn cs L)) H'
def spFirst : Sp := fun vs H Q _ => ∃ (size : Int) (a : Addr) (cs : List Int), vs = [.int size, .ref a] ∧ 1 ≤ size ∧ size ≤ 3 ∧ TupI H a cs ∧ Cnt cs ∧ ∀ H', Same H H' → Q (optV (failing size cs)) H'
def spMoreW : Sp := fun vs H Q _ => ∃ (size : Int) (a : Addr) (cs : List Int) (L : Nat), vs = [.int size, .ref a, .int L] ∧ 1 ≤ size ∧ size ≤ 3 ∧ TupI H a cs ∧ Cnt cs ∧ 1 ≤ L ∧ L ≤ 8 ∧
  ((failing size cs ≠ none ∧ ∀ H', Same H H' → Q .non H') ∨ (failing size cs = none ∧ MoreOk size cs L ∧ MoreQ size cs L H Q))
def spExt : Sp := fun vs H Q _ => ∃ (size : Int) (a : Addr) (cs : List Int) (n : Nat), vs = [.int size, .ref a, .int ((cs.length + n : Nat) : Int)] ∧ Dom size cs ∧ n ≤ 3 ∧ TupI H a cs ∧
  (failing size cs ≠ none → ∀ H', Same H H' → Q .non H') ∧ (failing size cs = none → ∀ H' p, Same H H' → TupI H' p (extL size cs n) → Q (.ref p) H')
theorem scMore : FnScope ["size", "counts", "length", "low", "high", "middle"] pMore (defScope sMore) := ⟨rfl, rfl, rfl, by decide +kernel, rfl, by decide +kernel, by decide +kernel⟩
theorem scNkC : FnScope ["size", "length"] pNkC (defScope sNkC) := ⟨rfl, rfl, rfl, by decide +kernel, rfl, by decide +kernel, by decide +kernel⟩
theorem scWnC : FnScope ["counts", "length"] pWnC (defScope sWnC) := ⟨rfl, rfl, rfl, by decide +kernel, rfl, by decide +kernel, by decide +kernel⟩
theorem scFirst : FnScope ["size", "counts"] pFirst (defScope sFirst) := ⟨rfl, rfl, rfl, by decide +kernel, rfl, by decide +kernel, by decide +kernel⟩
theorem scMoreW : FnScope ["size", "counts", "length"] pMoreW (defScope sMoreW) := ⟨rfl, rfl, rfl, by decide +kernel, rfl, by decide +kernel, by decide +kernel⟩
theorem scExt : FnScope ["size", "counts", "most"] pExt (defScope sExt) := ⟨rfl, rfl, rfl, by decide +kernel, rfl, by decide +kernel, by decide +kernel⟩
theorem optV_non {o : Option Nat} : optV o = .non ↔ o = none := by
  cases o with
  | none => exact ⟨fun _ => rfl, fun _ => rfl⟩
  | some n => exact ⟨fun e => (by cases e), fun e => (by cases e)⟩
theorem Dom.cnt {size : Int} {cs : List Int} (D : Dom size cs) : Cnt cs := ⟨by have := D.len; omega, fun x hx => by
  obtain ⟨j, hj, rfl⟩ := at0_mem hx
  have a := D.nn j hj
  have b := D.le2 j hj
  omega⟩
theorem Dom.moreOk {size : Int} {cs : List Int} (D : Dom size cs) (h : failing size cs = none) {L : Nat} (h1 : 1 ≤ L) (h8 : L ≤ 8) : MoreOk size cs L :=
  ⟨h1, h8, (nk_bd D.lo D.hi h1 h8).1, (nk_bd D.lo D.hi h1 h8).2, D.ok0 h h1 h8, D.nok h1 h8⟩
theorem ext_moreOk {size : Int} {cs : List Int} (D : Dom size cs) (h : failing size cs = none) {j : Nat} (hj : j < 3) : MoreOk size (extL size cs j) ((extL size cs j).length + 1) := by
  have l := D.len
  have e := extL_len size cs j
  have b := nk_bd (n := (extL size cs j).length + 1) D.lo D.hi (by omega) (by omega)
  exact ⟨by omega, by omega, b.1, b.2, ext_ok0 D h hj, ext_nok D h hj⟩
theorem ext_cnt {size : Int} {cs : List Int} (D : Dom size cs) (h : failing size cs = none) {j : Nat} (hj : j ≤ 3) : Cnt (extL size cs j) := ⟨by have := D.len; rw [extL_len]; omega, fun x hx => by
  have := extL_bd D h hj x hx
  omega⟩
section
variable {P : Program} {w : World} {K : PySem.W.Frag} {mg : Str → Option Value} {base : Heap}
theorem g_num (T : Txt K mg) : Gd P w K mg base 1 "is_number" sNum pNum spNum := let ⟨f, fd, D⟩ := T.num; ⟨f, fd, D, ok_num D.fn T.B⟩
theorem g_ckB (T : Txt K mg) : Gd P w K mg base 3 "check_both" sCkB pCkB spCkB := by
  obtain ⟨f, fd, D⟩ := T.ckB
  obtain ⟨fN, fdN, DN⟩ := T.num
  obtain ⟨fS, fdS, DS⟩ := T.ckS
  obtain ⟨fC, fdC, DC⟩ := T.ckC
  exact ⟨f, fd, D, ok_ckB D.fn T.B T.C DN DS DC⟩
theorem g_ckS (T : Txt K mg) : Gd P w K mg base 2 "check_size" sCkS pCkS spCkS := by
  obtain ⟨f, fd, D⟩ := T.ckS
  obtain ⟨fN, fdN, DN⟩ := T.num
  exact ⟨f, fd, D, ok_ckS D.fn T.B T.C DN⟩
theorem g_ckC (T : Txt K mg) : Gd P w K mg base 2 "check_counts" sCkC pCkC spCkC := by
  obtain ⟨f, fd, D⟩ := T.ckC
  obtain ⟨fN, fdN, DN⟩ := T.num
  exact ⟨f, fd, D, ok_ckC D.fn T.B T.C DN⟩
theorem g_ckL (T : Txt K mg) : Gd P w K mg base 2 "check_length" sCkL pCkL spCkL := by
  obtain ⟨f, fd, D⟩ := T.ckL
  obtain ⟨fN, fdN, DN⟩ := T.num
  exact ⟨f, fd, D, ok_ckL D.fn T.B T.C DN⟩
theorem g_nk (T : Txt K mg) : Gd P w K mg base 3 "necklaces_of" sNk pNk spNk := by
  obtain ⟨f, fd, D⟩ := T.nk
  obtain ⟨fM, fdM, DM⟩ := T.mob
  obtain ⟨fP, fdP, DP⟩ := T.part
  obtain ⟨fW, fdW, DW⟩ := T.pow
  exact ⟨f, fd, D, ok_nk D.fn T.B DM DP DW⟩
theorem g_wn (T : Txt K mg) : Gd P w K mg base 3 "word_necklaces_of" sWn pWn spWn := by
  obtain ⟨f, fd, D⟩ := T.wn
  obtain ⟨fM, fdM, DM⟩ := T.mob
  obtain ⟨fP, fdP, DP⟩ := T.part
  obtain ⟨fT, fdT, DT⟩ := T.turns
  exact ⟨f, fd, D, ok_wn D.fn T.B DM DP DT⟩
theorem g_fail (T : Txt K mg) : Gd P w K mg base 4 "failing" sFail pFail spFail := by
  obtain ⟨f, fd, D⟩ := T.fail
  obtain ⟨fM, fdM, DM⟩ := T.mob
  obtain ⟨fP, fdP, DP⟩ := T.part
  obtain ⟨fT, fdT, DT⟩ := T.turns
  obtain ⟨fW, fdW, DW⟩ := T.wn
  obtain ⟨fR, fdR, DR⟩ := T.pow
  obtain ⟨fN, fdN, DN⟩ := T.nk
  exact ⟨f, fd, D, ok_fail D.fn T.B DM DP DT DW DR DN⟩
theorem g_with (T : Txt K mg) : Gd P w K mg base 1 "with_more" sWith pWith spWith := let ⟨f, fd, D⟩ := T.with_; ⟨f, fd, D, ok_with D.fn T.B⟩
theorem ok_more {f : Addr} {fd : FuncData} (F : Fun K "more_of" "more_of" sMore f fd) (T : Txt K mg) : FnOk P w K mg base CX0 5 f fd pMore spMore := by
  obtain ⟨fN, fdN, DN, GN⟩ := g_nk (P := P) (w := w) (base := base) T
  obtain ⟨fF, fdF, DF, GF⟩ := g_fail (P := P) (w := w) (base := base) T
  obtain ⟨fW, fdW, DW, GW⟩ := g_with (P := P) (w := w) (base := base) T
  refine F.ok scMore (fun vs H Q E h => ?_) (fun cdv A outer s H vs Q E hr h => ?_)
  · obtain ⟨size, a, cs, L, rfl, _⟩ := h
    rfl
  · obtain ⟨size, a, cs, L, rfl, h1, h2, hA, hc, M, k⟩ := h
    have l1 := M.l1
    have l8 := M.l8
    refine ⟨_, pss_cons (ps_set (i := 3) scMore.nd rfl (.inl rfl) pe_int)
      (pss_cons (ps_set (i := 4) scMore.nd rfl (.inl rfl) (pe_op op_add (pe_call GN (hr.mono (by decide)) (by rfl) DN.gl DN.fn.kp DN.bn .nil pass0 (pa_cons (pv 0) (pa_cons (pv 2) pa_nil))) pe_int))
      (pss_cons (ps_while PassesOwn.never (pt_cmpR op_gt (pe_op op_sub (pv 4) (pv 3)) pe_int (nomark _))
        (pss_cons (ps_set (i := 5) scMore.nd rfl (.inl rfl) (pe_op op_fdiv (pe_op op_add (pv 3) (pv 4)) pe_int))
        (pss_one (ps_if (pt_cmpR op_isN (pe_call GF hr (by rfl) DF.gl DF.fn.kp DF.bn .nil pass0 (pa_cons (pv 0) (pa_cons
            (pe_call GW (hr.mono (by decide)) (by rfl) DW.gl DW.fn.kp DW.bn .nil pass0 (pa_cons (pv 1) (pa_cons (pv 2) (pa_cons (pv 5) pa_nil)))) pa_nil))) pe_non (nomark _))
          (pss_one (ps_set (i := 3) scMore.nd rfl (.inl rfl) (pv 5)))
          (pss_one (ps_set (i := 4) scMore.nd rfl (.inl rfl) (pv 5)))))))
      (pss_one (ps_ret (pv 3))))), ?_⟩
    refine ⟨_, rfl, _, rfl, size, L, rfl, h1, h2, l1, by omega, fun H1 s1 => ?_⟩
    refine ⟨_, _, rfl, rfl, ?_⟩
    have n0 := M.n0
    have n9 := M.n9
    refine ⟨fun m σ H' => ∃ (lo hi : Int) (x : Option V), m = (hi - lo).toNat ∧ σ = [some (.int size), some (.ref a), some (.int L), some (.int lo), some (.int hi), x] ∧ Same H H' ∧ 0 ≤ lo ∧ lo < hi ∧ hi ≤ nk size L + 1 ∧ Ok size cs L lo ∧ ¬ Ok size cs L hi,
      ⟨_, 0, nk size L + 1, none, rfl, rfl, s1, Int.le_refl _, by omega, Int.le_refl _, M.lo, M.hi⟩, ?_⟩
    rintro m σ H' ⟨lo, hi, x, rfl, rfl, sm, b0, b1, b2, o0, o1⟩
    refine ⟨_, rfl, _, rfl, _, _, rfl, rfl, _, _, rfl, rfl, _, rfl, ite2 (fun e => ?_) (fun e => ?_)⟩
    · have e1 : 1 < hi - lo := of_decide_eq_true e
      refine ⟨fun σ' H'' => ∃ m', m' < (hi - lo).toNat ∧ ∃ (lo hi : Int) (x : Option V), m' = (hi - lo).toNat ∧ σ' = [some (.int size), some (.ref a), some (.int L), some (.int lo), some (.int hi), x] ∧ Same H H'' ∧ 0 ≤ lo ∧ lo < hi ∧ hi ≤ nk size L + 1 ∧ Ok size cs L lo ∧ ¬ Ok size cs L hi,
        fun σ' H'' z => z, ?_⟩
      refine ⟨_, rfl, _, rfl, _, _, rfl, rfl, _, _, rfl, rfl, ⟨by decide, by decide⟩, ?_⟩
      have m0 : lo < (lo + hi) / 2 := by omega
      have m1 : (lo + hi) / 2 < hi := by omega
      refine ⟨_, rfl, _, rfl, _, rfl, _, rfl, a, cs, L, ((lo + hi) / 2), rfl, sm _ _ hA, by have := hc.1; omega, l1, by omega, fun H2 p s2 ep => ?_⟩
      have wl := withMore_len (cs := cs) (k := ((lo + hi) / 2)) l1
      refine ⟨size, p, withMore cs L ((lo + hi) / 2), rfl, h1, h2, ep, by have := hc.1; omega, fun y hy => ?_, fun H3 s3 => ?_⟩
      · obtain ⟨j, hj, rfl⟩ := at0_mem hy
        rw [at0_withMore l1]
        have a1 : 0 ≤ at0 cs j ∧ at0 cs j ≤ 1000 := by
          rw [at0_eq]
          cases e : cs[j]? with
          | none => exact ⟨Int.le_refl _, by decide⟩
          | some z => exact hc.2 z (List.mem_of_getElem? e)
        split <;> omega
      · refine ⟨rfl, _, rfl, ite2 (fun e => ?_) (fun e => ?_)⟩
        · have o2 : Ok size cs L ((lo + hi) / 2) := optV_non.mp (of_decide_eq_true e)
          exact ⟨_, rfl, _, (by omega : (hi - ((lo + hi) / 2)).toNat < _), ((lo + hi) / 2), hi, _, rfl, rfl, (sm.trans s2).trans s3, by omega, m1, b2, o2, o1⟩
        · have o2 : ¬ Ok size cs L ((lo + hi) / 2) := fun z => e (decide_eq_true (optV_non.mpr z))
          exact ⟨_, rfl, _, (by omega : (((lo + hi) / 2) - lo).toNat < _), lo, ((lo + hi) / 2), _, rfl, rfl, (sm.trans s2).trans s3, b0, m0, by omega, o0, o2⟩
    · have e1 : ¬ 1 < hi - lo := fun z => e (decide_eq_true z)
      have e2 : hi = lo + 1 := by omega
      subst e2
      exact ⟨_, rfl, k _ lo sm b0 (by omega) o0 o1⟩
theorem g_more (T : Txt K mg) : Gd P w K mg base 5 "more_of" sMore pMore spMore := let ⟨f, fd, D⟩ := T.more; ⟨f, fd, D, ok_more D.fn T⟩
theorem ok_nkC {f : Addr} {fd : FuncData} (F : Fun K "necklaces" "necklaces" sNkC f fd) (T : Txt K mg) : FnOk P w K mg base CX0 4 f fd pNkC spNkC := by
  obtain ⟨fN, fdN, DN, GN⟩ := g_nk (P := P) (w := w) (base := base) T
  obtain ⟨fS, fdS, DS, GS⟩ := g_ckS (P := P) (w := w) (base := base) T
  obtain ⟨fL, fdL, DL, GL⟩ := g_ckL (P := P) (w := w) (base := base) T
  refine F.ok scNkC (fun vs H Q E h => ?_) (fun cdv A outer s H vs Q E hr h => ?_)
  · obtain ⟨n, L, rfl, _⟩ := h
    rfl
  · obtain ⟨size, L, rfl, h1, h2, h3, h4, k⟩ := h
    refine ⟨_, pss_cons (ps_expr (pe_call GS (hr.mono (by decide)) (by rfl) DS.gl DS.fn.kp DS.bn .nil pass0 (pa_cons (pv 0) pa_nil)))
      (pss_cons (ps_expr (pe_call GL (hr.mono (by decide)) (by rfl) DL.gl DL.fn.kp DL.bn .nil pass0 (pa_cons (pv 1) pa_nil)))
      (pss_one (ps_ret (pe_call GN hr (by rfl) DN.gl DN.fn.kp DN.bn .nil pass0 (pa_cons (pv 0) (pa_cons (pv 1) pa_nil)))))), ?_⟩
    exact ⟨_, rfl, size, rfl, h1, h2, _, rfl, (L : Int), rfl, by omega, by omega, _, rfl, _, rfl, size, L, rfl, h1, h2, h3, h4, k⟩
theorem g_nkC (T : Txt K mg) : Gd P w K mg base 4 "necklaces" sNkC pNkC spNkC := let ⟨f, fd, D⟩ := T.nkC; ⟨f, fd, D, ok_nkC D.fn T⟩
theorem ok_wnC {f : Addr} {fd : FuncData} (F : Fun K "word_necklaces" "word_necklaces" sWnC f fd) (T : Txt K mg) : FnOk P w K mg base CX0 4 f fd pWnC spWnC := by
  obtain ⟨fN, fdN, DN, GN⟩ := g_wn (P := P) (w := w) (base := base) T
  obtain ⟨fC, fdC, DC, GC⟩ := g_ckC (P := P) (w := w) (base := base) T
  obtain ⟨fL, fdL, DL, GL⟩ := g_ckL (P := P) (w := w) (base := base) T
  refine F.ok scWnC (fun vs H Q E h => ?_) (fun cdv A outer s H vs Q E hr h => ?_)
  · obtain ⟨a, cs, L, rfl, _⟩ := h
    rfl
  · obtain ⟨a, cs, L, rfl, hA, hc, h3, h4, k⟩ := h
    refine ⟨_, pss_cons (ps_expr (pe_call GC (hr.mono (by decide)) (by rfl) DC.gl DC.fn.kp DC.bn .nil pass0 (pa_cons (pv 0) pa_nil)))
      (pss_cons (ps_expr (pe_call GL (hr.mono (by decide)) (by rfl) DL.gl DL.fn.kp DL.bn .nil pass0 (pa_cons (pv 1) pa_nil)))
      (pss_one (ps_ret (pe_call GN hr (by rfl) DN.gl DN.fn.kp DN.bn .nil pass0 (pa_cons (pv 0) (pa_cons (pv 1) pa_nil)))))), ?_⟩
    exact ⟨_, rfl, a, cs, rfl, hA, hc.1, hc.2, fun H1 s1 => ⟨_, rfl, (L : Int), rfl, by omega, by omega, _, rfl, _, rfl, a, cs, L, rfl, s1 _ _ hA, by have := hc.1; omega, hc.bd, h3, h4, fun H2 s2 => k _ (s1.trans s2)⟩⟩
theorem g_wnC (T : Txt K mg) : Gd P w K mg base 4 "word_necklaces" sWnC pWnC spWnC := let ⟨f, fd, D⟩ := T.wnC; ⟨f, fd, D, ok_wnC D.fn T⟩
theorem ok_first {f : Addr} {fd : FuncData} (F : Fun K "first_failing" "first_failing" sFirst f fd) (T : Txt K mg) : FnOk P w K mg base CX0 5 f fd pFirst spFirst := by
  obtain ⟨fN, fdN, DN, GN⟩ := g_fail (P := P) (w := w) (base := base) T
  obtain ⟨fC, fdC, DC, GC⟩ := g_ckB (P := P) (w := w) (base := base) T
  refine F.ok scFirst (fun vs H Q E h => ?_) (fun cdv A outer s H vs Q E hr h => ?_)
  · obtain ⟨size, a, cs, rfl, _⟩ := h
    rfl
  · obtain ⟨size, a, cs, rfl, h1, h2, hA, hc, k⟩ := h
    refine ⟨_, pss_cons (ps_expr (pe_call GC (hr.mono (by decide)) (by rfl) DC.gl DC.fn.kp DC.bn .nil pass0 (pa_cons (pv 0) (pa_cons (pv 1) pa_nil))))
      (pss_one (ps_ret (pe_call GN hr (by rfl) DN.gl DN.fn.kp DN.bn .nil pass0 (pa_cons (pv 0) (pa_cons (pv 1) pa_nil))))), ?_⟩
    exact ⟨_, rfl, _, rfl, size, a, cs, rfl, h1, h2, hA, hc.1, hc.2, fun H1 s1 => ⟨_, rfl, _, rfl, size, a, cs, rfl, h1, h2, s1 _ _ hA, by have := hc.1; omega, hc.bd, fun H2 s2 => k _ (s1.trans s2)⟩⟩
theorem g_first (T : Txt K mg) : Gd P w K mg base 5 "first_failing" sFirst pFirst spFirst := let ⟨f, fd, D⟩ := T.first; ⟨f, fd, D, ok_first D.fn T⟩
theorem ok_moreW {f : Addr} {fd : FuncData} (F : Fun K "more_words" "more_words" sMoreW f fd) (T : Txt K mg) : FnOk P w K mg base CX0 6 f fd pMoreW spMoreW := by
  obtain ⟨fN, fdN, DN, GN⟩ := g_fail (P := P) (w := w) (base := base) T
  obtain ⟨fC, fdC, DC, GC⟩ := g_ckB (P := P) (w := w) (base := base) T
  obtain ⟨fL, fdL, DL, GL⟩ := g_ckL (P := P) (w := w) (base := base) T
  obtain ⟨fM, fdM, DM, GM⟩ := g_more (P := P) (w := w) (base := base) T
  refine F.ok scMoreW (fun vs H Q E h => ?_) (fun cdv A outer s H vs Q E hr h => ?_)
  · obtain ⟨size, a, cs, L, rfl, _⟩ := h
    rfl
  · obtain ⟨size, a, cs, L, rfl, h1, h2, hA, hc, l1, l8, k⟩ := h
    refine ⟨_, pss_cons (ps_expr (pe_call GC (hr.mono (by decide)) (by rfl) DC.gl DC.fn.kp DC.bn .nil pass0 (pa_cons (pv 0) (pa_cons (pv 1) pa_nil))))
      (pss_cons (ps_expr (pe_call GL (hr.mono (by decide)) (by rfl) DL.gl DL.fn.kp DL.bn .nil pass0 (pa_cons (pv 2) pa_nil)))
      (pss_one (ps_ret (pe_ifExp (pt_cmpR op_notN (pe_call GN (hr.mono (by decide)) (by rfl) DN.gl DN.fn.kp DN.bn .nil pass0 (pa_cons (pv 0) (pa_cons (pv 1) pa_nil))) pe_non (nomark _)) pe_non
        (pe_call GM hr (by rfl) DM.gl DM.fn.kp DM.bn .nil pass0 (pa_cons (pv 0) (pa_cons (pv 1) (pa_cons (pv 2) pa_nil)))))))), ?_⟩
    refine ⟨_, rfl, _, rfl, size, a, cs, rfl, h1, h2, hA, hc.1, hc.2, fun H1 s1 => ⟨_, rfl, (L : Int), rfl, by omega, by omega, ?_⟩⟩
    refine ⟨_, rfl, _, rfl, size, a, cs, rfl, h1, h2, s1 _ _ hA, by have := hc.1; omega, hc.bd, fun H2 s2 => ⟨rfl, _, rfl, ?_⟩⟩
    rcases k with ⟨hf, k⟩ | ⟨hf, M, k⟩
    · rw [decide_eq_false (fun z => hf (optV_non.mp z))]
      exact iteT (k _ (s1.trans s2))
    · rw [decide_eq_true (optV_non.mpr hf)]
      exact iteF ⟨_, rfl, _, rfl, _, rfl, size, a, cs, L, rfl, h1, h2, (s1.trans s2) _ _ hA, hc, M, fun H3 r s3 => k H3 r ((s1.trans s2).trans s3)⟩
theorem g_moreW (T : Txt K mg) : Gd P w K mg base 6 "more_words" sMoreW pMoreW spMoreW := let ⟨f, fd, D⟩ := T.moreW; ⟨f, fd, D, ok_moreW D.fn T⟩
theorem ok_ext {f : Addr} {fd : FuncData} (F : Fun K "extended" "extended" sExt f fd) (T : Txt K mg) : FnOk P w K mg base CX0 6 f fd pExt spExt := by
  obtain ⟨fN, fdN, DN, GN⟩ := g_fail (P := P) (w := w) (base := base) T
  obtain ⟨fC, fdC, DC, GC⟩ := g_ckB (P := P) (w := w) (base := base) T
  obtain ⟨fI, fdI, DI, GI⟩ := g_num (P := P) (w := w) (base := base) T
  obtain ⟨fM, fdM, DM, GM⟩ := g_more (P := P) (w := w) (base := base) T
  obtain ⟨t, mL⟩ := T.C.length
  refine F.ok scExt (fun vs H Q E h => ?_) (fun cdv A outer s H vs Q E hr h => ?_)
  · obtain ⟨size, a, cs, n, rfl, _⟩ := h
    rfl
  · obtain ⟨size, a, cs, n, rfl, D, hn, hA, k0, k1⟩ := h
    have h1 := D.lo
    have h2 := D.hi
    have hl := D.len
    have hc := D.cnt
    refine ⟨_, pss_cons (ps_expr (pe_call GC (hr.mono (by decide)) (by rfl) DC.gl DC.fn.kp DC.bn .nil pass0 (pa_cons (pv 0) (pa_cons (pv 1) pa_nil))))
      (pss_cons (ps_if (pt_not (pt_val (pe_call GI (hr.mono (by decide)) (by rfl) DI.gl DI.fn.kp DI.bn .nil pass0 (pa_cons (pv 2) (pa_cons (pe_callB call_len_seq (by rfl) T.B.len PySem.boot_len (pa_cons (pv 1) pa_nil)) (pa_cons (pe_glob (v := .int 12) (by rfl) mL ⟨_, rfl⟩) pa_nil)))))) pss_never pss_nil)
      (pss_cons (ps_if (pt_cmpR op_notN (pe_call GN (hr.mono (by decide)) (by rfl) DN.gl DN.fn.kp DN.bn .nil pass0 (pa_cons (pv 0) (pa_cons (pv 1) pa_nil))) pe_non (nomark _)) (pss_one (ps_ret pe_non)) pss_nil)
      (pss_cons (ps_while PassesOwn.never (pt_cmpR op_lt (pe_callB call_len_seq (by rfl) T.B.len PySem.boot_len (pa_cons (pv 1) pa_nil)) (pv 2) (nomark _))
        (pss_one (ps_set (i := 1) scExt.nd rfl (.inl rfl) (pe_op op_catA (pv 1) (pe_tup (pa_cons
          (pe_call GM hr (by rfl) DM.gl DM.fn.kp DM.bn .nil pass0 (pa_cons (pv 0) (pa_cons (pv 1) (pa_cons (pe_op op_add (pe_callB call_len_seq (by rfl) T.B.len PySem.boot_len (pa_cons (pv 1) pa_nil)) pe_int) pa_nil)))) pa_nil))))))
      (pss_one (ps_ret (pv 1)))))), ?_⟩
    refine ⟨_, rfl, _, rfl, size, a, cs, rfl, h1, h2, hA, hc.1, hc.2, fun H1 s1 => ?_⟩
    refine ⟨_, rfl, _, rfl, a, _, rfl, .inr (show TupI H1 a cs from s1 _ _ hA).t, _, _, _, rfl, _, rfl, ?_⟩
    rw [List.length_map, decide_eq_true (by omega)]
    refine iteF ?_
    refine ⟨_, rfl, _, rfl, size, a, cs, rfl, h1, h2, s1 _ _ hA, by omega, hc.bd, fun H2 s2 => ⟨rfl, _, rfl, ?_⟩⟩
    have s02 := s1.trans s2
    by_cases hf : failing size cs = none
    · rw [decide_eq_true (optV_non.mpr hf)]
      refine iteF ?_
      refine ⟨fun m σ H' => ∃ (j : Nat) (p : Addr), m = n - j ∧ j ≤ n ∧ σ = [some (.int size), some (.ref p), some (.int ((cs.length + n : Nat) : Int))] ∧ Same H H' ∧ TupI H' p (extL size cs j),
        ⟨_, 0, a, rfl, Nat.zero_le _, rfl, s02, s02 _ _ hA⟩, ?_⟩
      rintro m σ H' ⟨j, p, rfl, hj, rfl, sm, ep⟩
      have el := extL_len size cs j
      refine ⟨_, rfl, p, _, rfl, .inr ep.t, _, rfl, _, _, rfl, rfl, _, rfl, ?_⟩
      rw [List.length_map, el]
      refine ite2 (fun e => ?_) (fun e => ?_)
      · have e1 : ((cs.length + j : Nat) : Int) < ((cs.length + n : Nat) : Int) := of_decide_eq_true e
        have jn : j < n := by omega
        refine ⟨fun σ' H'' => ∃ m', m' < n - j ∧ ∃ (j : Nat) (p : Addr), m' = n - j ∧ j ≤ n ∧ σ' = [some (.int size), some (.ref p), some (.int ((cs.length + n : Nat) : Int))] ∧ Same H H'' ∧ TupI H'' p (extL size cs j), fun σ' H'' z => z, ?_⟩
        refine ⟨_, rfl, _, rfl, _, rfl, _, rfl, p, _, rfl, .inr ep.t, _, _, rfl, rfl, ?_⟩
        have ea : ((((extL size cs j).map V.int).length : Int) + 1) = (((extL size cs j).length + 1 : Nat) : Int) := by rw [List.length_map]; omega
        refine ⟨size, p, extL size cs j, (extL size cs j).length + 1, congrArg (fun z => [V.int size, V.ref p, V.int z]) ea, h1, h2, ep, ext_cnt D hf (by omega), ext_moreOk D hf (by omega), fun H3 r s3 _ _ o0 o1 => ?_⟩
        have er : r = extV size cs j := ext_more D hf (by omega) o0 o1
        subst er
        refine ⟨(by show 1 ≤ sizeLine; decide), fun t nt => ?_⟩
        have s4 := same_upd (o := .tup [.int (extV size cs j)]) nt
        refine catA_of (K := K) (xs := extL size cs j) (ys := [extV size cs j]) (s4 _ _ (s3 _ _ ep)) upd_same (by rw [List.length_singleton]; omega) fun p5 H5 s5 e5 => ?_
        exact ⟨n - (j + 1), by omega, j + 1, p5, rfl, by omega, rfl, ((sm.trans s3).trans s4).trans s5, e5⟩
      · have e1 : ¬ ((cs.length + j : Nat) : Int) < ((cs.length + n : Nat) : Int) := fun z => e (decide_eq_true z)
        have jn : j = n := by omega
        subst jn
        exact ⟨_, rfl, k1 hf _ _ sm ep⟩
    · rw [decide_eq_false (fun z => hf (optV_non.mp z))]
      exact iteT (k0 hf _ s02)
theorem g_ext (T : Txt K mg) : Gd P w K mg base 6 "extended" sExt pExt spExt := let ⟨f, fd, D⟩ := T.ext; ⟨f, fd, D, ok_ext D.fn T⟩
end
end Sw
/-! the law's helpers -/
namespace Sw
open PySem PySem.Spec PyProof.Rows L2
abbrev sStream : Stmt := topS 28
abbrev sNext : Stmt := topS 29
abbrev sIsInt : Stmt := topS 30
abbrev sLMore : Stmt := topS 31
abbrev sLFails : Stmt := topS 32
abbrev pStream : List Str := ["_law_script"]
abbrev pNext : List Str := ["_law_stream_here", "_law_many"]
abbrev pIsInt : List Str := ["_law_actual"]
abbrev pLMore : List Str := ["_law_counts", "_law_length", "_law_many"]
abbrev pLFails : List Str := ["_law_size", "_law_counts"]
theorem scStream : FnScope ["_law_script"] pStream (defScope sStream) := ⟨rfl, rfl, rfl, by decide +kernel, rfl, by decide +kernel, by decide +kernel⟩
theorem scNext : FnScope ["_law_stream_here", "_law_many", "_law_k", "_law_cell", "_law_digit"] pNext (defScope sNext) := ⟨rfl, rfl, rfl, by decide +kernel, rfl, by decide +kernel, by decide +kernel⟩
theorem scIsInt : FnScope ["_law_actual"] pIsInt (defScope sIsInt) := ⟨rfl, rfl, rfl, by decide +kernel, rfl, by decide +kernel, by decide +kernel⟩
theorem scLMore : FnScope ["_law_counts", "_law_length", "_law_many", "_law_row"] pLMore (defScope sLMore) := ⟨rfl, rfl, rfl, by decide +kernel, rfl, by decide +kernel, by decide +kernel⟩
theorem scLFails : FnScope ["_law_size", "_law_counts", "_law_n"] pLFails (defScope sLFails) := ⟨rfl, rfl, rfl, by decide +kernel, rfl, by decide +kernel, by decide +kernel⟩
/-- all but a stands as it stood -/
def SameBut (a : Addr) (H H' : Hp) : Prop := ∀ b o, b ≠ a → H b = some o → H' b = some o
theorem SameBut.trans {a : Addr} {H H1 H2 : Hp} (s : SameBut a H H1) (t : SameBut a H1 H2) : SameBut a H H2 := fun b o h e => t b o h (s b o h e)
/-- the stream at a: the script's numbers at b, what is left of a cell, the next cell's place -/
def Strm (H : Hp) (a b : Addr) (ns : List Int) : Prop := ∃ c k : Int, H a = some (.lst [.ref b, .int c, .int k]) ∧ 0 ≤ k ∧ LstI H b ns
theorem ints_ne {ns : List Int} {b : Addr} {r : List V} : HO.lst (ns.map V.int) ≠ HO.lst (.ref b :: r) := fun q => by
  injection q with q
  cases ns with
  | nil => cases q
  | cons x y =>
    injection q with q _
    cases q
theorem Strm.ne {H : Hp} {a b d : Addr} {ns ms : List Int} (s : Strm H a b ns) (h : LstI H d ms) : d ≠ a := by
  obtain ⟨c, k, e, _, _⟩ := s
  exact ne_of h e ints_ne
theorem Strm.neT {H : Hp} {a b d : Addr} {ns ms : List Int} (s : Strm H a b ns) (h : TupI H d ms) : d ≠ a := by
  obtain ⟨c, k, e, _, _⟩ := s
  exact ne_of h e (by intro q; cases q)
theorem Strm.same {H H' : Hp} {a b : Addr} {ns : List Int} (s : Strm H a b ns) (m : Same H H') : Strm H' a b ns := by
  obtain ⟨c, k, e, h0, l⟩ := s
  exact ⟨c, k, m _ _ e, h0, m _ _ l⟩
/-- an object that is neither of the two -/
theorem Strm.other {H : Hp} {a b d : Addr} {o : HO} {ns : List Int} (s : Strm H a b ns) (h1 : d ≠ a) (h2 : d ≠ b) : Strm (upd H d o) a b ns := by
  obtain ⟨c, k, e, h0, l⟩ := s
  exact ⟨c, k, by rw [upd_ne h1.symm]; exact e, h0, by show upd H d o b = _; rw [upd_ne h2.symm]; exact l⟩
def spStream (K : PySem.W.Frag) : Sp := fun vs H Q _ => ∃ (a : Addr) (ns : List Int), vs = [.ref a] ∧ SqL K H a (ns.map V.int) ∧ ∀ H' p b, Strm H' p b ns → Q (.ref p) H'
def spNext : Sp := fun vs H Q _ => ∃ (a b : Addr) (ns : List Int) (m : Int), vs = [.ref a, .int m] ∧ 1 ≤ m ∧ m ≤ 1000 ∧ Strm H a b ns ∧ ∀ H' d, SameBut a H H' → Strm H' a b ns → 0 ≤ d → d < m → Q (.int d) H'
def spIsInt : Sp := fun vs H Q _ => ∃ i : Int, vs = [.int i] ∧ Q (.bl true) H
def spLMore : Sp := spWith
def spLFails : Sp := fun vs H Q _ => ∃ (size : Int) (a : Addr) (cs : List Int), vs = [.int size, .ref a] ∧ 1 ≤ size ∧ size ≤ 3 ∧ TupI H a cs ∧ Cnt cs ∧ ∀ H', Same H H' → Q (.bl (decide (failing size cs ≠ none))) H'
theorem any_fails (size : Int) (cs : List Int) : ((List.range cs.length).map fun j => decide (nk size (j + 1) < wn cs (j + 1))).any id = decide (failing size cs ≠ none) := by
  by_cases h : failing size cs = none
  · rw [decide_eq_false (fun z => z h)]
    apply Bool.eq_false_iff.mpr
    intro a
    obtain ⟨x, hx, e⟩ := List.any_eq_true.mp a
    obtain ⟨j, hj, rfl⟩ := List.mem_map.mp hx
    have h1 := List.mem_range.mp hj
    have h2 : nk size (j + 1) < wn cs (j + 1) := of_decide_eq_true e
    have h3 := failing_none.mp h (j + 1) (by omega) (by omega)
    omega
  · rw [decide_eq_true h]
    have h' : ¬ ∀ n, 1 ≤ n → n ≤ cs.length → wn cs n ≤ nk size n := fun z => h (failing_none.mpr z)
    apply Classical.byContradiction
    intro a
    refine h' fun n n1 n2 => ?_
    by_cases hw : wn cs n ≤ nk size n
    · exact hw
    · exfalso
      refine a (List.any_eq_true.mpr ⟨true, List.mem_map.mpr ⟨n - 1, List.mem_range.mpr (by omega), ?_⟩, rfl⟩)
      rw [show n - 1 + 1 = n by omega]
      exact decide_eq_true (by omega)
section
variable {P : Program} {w : World} {K : PySem.W.Frag} {mg : Str → Option Value} {base : Heap}
theorem ok_stream {f : Addr} {fd : FuncData} (F : Fun K "_law_stream" "_law_stream" sStream f fd) (B : Blt mg) : FnOk P w K mg base CX0 1 f fd pStream (spStream K) := by
  refine F.ok scStream (fun vs H Q E h => ?_) (fun cdv A outer s H vs Q E hr h => ?_)
  · obtain ⟨a, ns, rfl, _⟩ := h
    rfl
  · obtain ⟨a, ns, rfl, hS, k⟩ := h
    refine ⟨_, pss_one (ps_ret (pe_lst (pa_cons (pe_callTy call_list_of (by rfl) B.list (by decide +kernel) (pa_cons (pv 0) pa_nil)) (pa_cons pe_int (pa_cons pe_int pa_nil))))), ?_⟩
    refine ⟨_, rfl, a, _, rfl, .inl hS, fun b nb => ⟨(by show 3 ≤ sizeLine; decide), fun p np => ?_⟩⟩
    refine k _ p b ⟨0, 0, upd_same, Int.le_refl _, ?_⟩
    show upd (upd H b _) p _ b = _
    rw [upd_ne (ne_of_none upd_same np), upd_same]
theorem ok_next {f : Addr} {fd : FuncData} (F : Fun K "_law_next" "_law_next" sNext f fd) (B : Blt mg) : FnOk P w K mg base CX0 1 f fd pNext spNext := by
  refine F.ok scNext (fun vs H Q E h => ?_) (fun cdv A outer s H vs Q E hr h => ?_)
  · obtain ⟨a, b, ns, m, rfl, _⟩ := h
    rfl
  · obtain ⟨a, b, ns, m, rfl, m1, m2, hS, k⟩ := h
    refine ⟨_, C8.pss_cut (ps_if (pt_cmpR op_eq (pe_ix ix_list (pv 0) pe_int (fun _ _ => rfl)) pe_int (nomark _))
        (pss_cons (ps_set (i := 2) scNext.nd rfl (.inl rfl) (pe_ix ix_list (pv 0) pe_int (fun _ _ => rfl)))
        (pss_cons (ps_set (i := 3) scNext.nd rfl (.inl rfl) (pe_op op_add pe_int (pv 2)))
        (C8.pss_cut (ps_if (pt_cmpR op_lt (pv 2) (pe_callB call_len_seq (by rfl) B.len PySem.boot_len (pa_cons (pe_ix ix_list (pv 0) pe_int (fun _ _ => rfl)) pa_nil)) (nomark _))
          (pss_one (ps_set (i := 3) scNext.nd rfl (.inl rfl) (pe_callB call_abs (by rfl) B.abs (by decide +kernel) (pa_cons (pe_ix ix_list (pe_ix ix_list (pv 0) pe_int (fun _ _ => rfl)) (pv 2) (fun _ _ => rfl)) pa_nil)))) pss_nil)
        (C8.pss_cut (ps_if (pt_cmpR op_lt (pv 3) (pe_op op_pow pe_int pe_int) (nomark _))
          (pss_cons (ps_set (i := 3) scNext.nd rfl (.inl rfl) (pe_op op_mod (pe_callTy call_int1 (by rfl) B.int (by decide +kernel) (pa_cons (pe_op op_add (pe_op op_add (pe_op op_mul (pv 3) pe_int) (pe_op op_mul (pv 2) pe_int)) pe_int) pa_nil)) pe_int))
          (pss_one (ps_set (i := 3) scNext.nd rfl (.inl rfl) (pe_op op_add (pe_op op_mul (pe_op op_mod (pe_callTy call_int1 (by rfl) B.int (by decide +kernel) (pa_cons (pe_op op_add (pe_op op_mul (pv 3) pe_int) pe_int) pa_nil)) pe_int) pe_int) (pv 3))))) pss_nil)
        (pss_cons (ps_asg (pv 3) (pg_sub (pv 0) pe_int set_list))
        (pss_one (ps_asg (pe_op op_add (pv 2) pe_int) (pg_sub (pv 0) pe_int set_list)))))))) pss_nil)
      (pss_cons (ps_set (i := 4) scNext.nd rfl (.inl rfl) (pe_op op_mod (pe_callTy call_int1 (by rfl) B.int (by decide +kernel) (pa_cons (pe_ix ix_list (pv 0) pe_int (fun _ _ => rfl)) pa_nil)) (pv 1)))
      (pss_cons (ps_asg (pe_op op_fdiv (pe_ix ix_list (pv 0) pe_int (fun _ _ => rfl)) (pv 1)) (pg_sub (pv 0) pe_int set_list))
      (pss_one (ps_ret (pv 4))))), ?_⟩
    obtain ⟨c, j, hA, h0, hB⟩ := id hS
    have nba : b ≠ a := hS.ne hB
    have at_0 : ∀ c j : Int, atI [V.ref b, V.int c, V.int j] 0 = some (.ref b) := fun _ _ => rfl
    have at_1 : ∀ c j : Int, atI [V.ref b, V.int c, V.int j] 1 = some (.int c) := fun _ _ => rfl
    have at_2 : ∀ c j : Int, atI [V.ref b, V.int c, V.int j] 2 = some (.int j) := fun _ _ => rfl
    refine ⟨fun σ H' => ∃ y2 y3, σ = [some (.ref a), some (.int m), y2, y3, none] ∧ SameBut a H H' ∧ Strm H' a b ns, ?_, ?_⟩
    · refine ⟨_, rfl, a, _, 1, _, rfl, rfl, .inl (.inl hA), at_1 c j, rfl, _, rfl, ite2 (fun e => ?_) (fun e => ?_)⟩
      · -- a new cell
        refine ⟨_, rfl, a, _, 2, _, rfl, rfl, .inl (.inl hA), at_2 c j, _, rfl, _, _, rfl, rfl, ?_⟩
        refine ⟨fun σ H' => ∃ z : Int, σ = [some (.ref a), some (.int m), some (.int j), some (.int z), none] ∧ H' = H, ?_, ?_⟩
        · refine ⟨_, rfl, _, rfl, a, _, 0, _, rfl, rfl, .inl (.inl hA), at_0 c j, b, _, rfl, .inl hB.l, _, _, rfl, rfl, _, rfl, ite2 (fun e => ?_) (fun e => ?_)⟩
          · have e1 : j < ((ns.map V.int).length : Int) := of_decide_eq_true e
            rw [List.length_map] at e1
            exact ⟨_, rfl, a, _, 0, _, rfl, rfl, .inl (.inl hA), at_0 c j, _, rfl, b, _, _, _, rfl, rfl, hB.l, at_int (j := j.toNat) (by omega) (by omega), _, rfl, _, rfl, rfl⟩
          · exact ⟨_, rfl, rfl⟩
        · rintro σ H' ⟨z, rfl, rfl⟩
          refine ⟨fun σ H'' => ∃ z : Int, σ = [some (.ref a), some (.int m), some (.int j), some (.int z), none] ∧ H'' = H', ?_, ?_⟩
          · refine ⟨_, rfl, _, _, rfl, rfl, ⟨by decide, by decide, by decide⟩, _, _, rfl, rfl, _, rfl, ite2 (fun e => ?_) (fun e => ?_)⟩
            · refine ⟨_, rfl, _, _, rfl, rfl, .inr ⟨by decide, by decide⟩, _, rfl, _, _, rfl, rfl, .inr ⟨by decide, by decide⟩, _, _, rfl, rfl, _, _, rfl, rfl, .inl ⟨_, rfl, _, _, rfl, rfl, (by show (0 : Int) < 2147483647; decide), ?_⟩⟩
              exact ⟨_, rfl, _, _, rfl, rfl, .inr ⟨by decide, by decide⟩, _, _, rfl, rfl, .inl ⟨_, rfl, _, _, rfl, rfl, (by show (0 : Int) < 2147483647; decide), _, _, rfl, rfl, .inr ⟨by decide, by decide⟩, _, rfl, _, _, rfl, rfl, _, rfl, rfl⟩⟩
            · exact ⟨_, rfl, rfl⟩
          · rintro σ H'' ⟨z', rfl, rfl⟩
            refine ⟨_, rfl, _, rfl, a, _, 1, 1, rfl, rfl, hA, rfl, ?_⟩
            refine ⟨_, rfl, _, _, rfl, rfl, _, rfl, a, _, 2, 2, rfl, rfl, upd_same, rfl, ?_⟩
            refine ⟨_, _, rfl, fun b' o hb e => by rw [upd_ne hb, upd_ne hb]; exact e, z', j + 1, upd_same, by omega, ?_⟩
            show upd (upd H'' a _) a _ b = _
            rw [upd_ne nba, upd_ne nba]
            exact hB
      · exact ⟨_, _, rfl, fun _ _ _ e => e, hS⟩
    · rintro σ H' ⟨y2, y3, rfl, sb, hS'⟩
      obtain ⟨c', j', hA', h0', hB'⟩ := id hS'
      refine ⟨_, rfl, a, _, 1, _, rfl, rfl, .inl (.inl hA'), at_1 c' j', .inl ⟨c', rfl, _, rfl, _, _, rfl, rfl, by omega, ?_⟩⟩
      refine ⟨_, rfl, a, _, 1, _, rfl, rfl, .inl (.inl hA'), at_1 c' j', _, rfl, _, _, rfl, rfl, ⟨by omega, by omega⟩, _, rfl, a, _, 1, 1, rfl, rfl, hA', rfl, ?_⟩
      refine ⟨_, rfl, k _ _ (fun b' o hb e => by rw [upd_ne hb]; exact sb b' o hb e) ⟨c' / m, j', upd_same, h0', ?_⟩ (Int.emod_nonneg _ (by omega)) (Int.emod_lt_of_pos _ (by omega))⟩
      show upd H' a _ b = _
      rw [upd_ne nba]
      exact hB'
theorem ok_isInt {f : Addr} {fd : FuncData} (F : Fun K "_law_is_integer" "_law_is_integer" sIsInt f fd) (B : Blt mg) : FnOk P w K mg base CX0 1 f fd pIsInt spIsInt := by
  refine F.ok scIsInt (fun vs H Q E h => ?_) (fun cdv A outer s H vs Q E hr h => ?_)
  · obtain ⟨v, rfl, _⟩ := h
    rfl
  · obtain ⟨v, rfl, k⟩ := h
    refine ⟨_, pss_one (ps_ret (pe_and (pe_callB call_isi (by rfl) B.isi (by decide +kernel) (pa_cons (pv 0) (pa_cons (pe_bltn (v := .ty "int") (by rfl) B.int (by decide +kernel) rfl) pa_nil)))
      (pe_one (pe_not (pe_callB call_isi (by rfl) B.isi (by decide +kernel) (pa_cons (pv 0) (pa_cons (pe_bltn (v := .ty "bool") (by rfl) B.bool (by decide +kernel) rfl) pa_nil))))))), ?_⟩
    refine ⟨_, rfl, _, _, _, _, true, rfl, .ty _, .base (.int _), kit_ty (by decide +kernel), true, rfl, iteT ?_⟩
    exact ⟨_, rfl, _, _, _, _, false, rfl, .ty _, .base (.int _), kit_ty (by decide +kernel), false, rfl, k⟩
theorem ok_lmore {f : Addr} {fd : FuncData} (F : Fun K "_law_more" "_law_more" sLMore f fd) (B : Blt mg) : FnOk P w K mg base CX0 1 f fd pLMore spLMore := by
  refine F.ok scLMore (fun vs H Q E h => ?_) (fun cdv A outer s H vs Q E hr h => ?_)
  · obtain ⟨a, cs, L, m, rfl, _⟩ := h
    rfl
  · obtain ⟨a, cs, L, m, rfl, hA, hl, h1, h2, k⟩ := h
    refine ⟨_, pss_cons (ps_set (i := 3) scLMore.nd rfl (.inl rfl) (pe_op op_cat (pe_callTy call_list_of (by rfl) B.list (by decide +kernel) (pa_cons (pv 0) pa_nil))
        (pe_op op_rep (pe_lst (pa_cons pe_int pa_nil)) (pe_op op_sub (pv 1) (pe_callB call_len_seq (by rfl) B.len PySem.boot_len (pa_cons (pv 0) pa_nil))))))
      (pss_cons (ps_asg (pe_op op_add (pe_ix ix_list (pv 3) (pe_op op_sub (pv 1) pe_int) (fun _ _ => rfl)) (pv 2)) (pg_sub (pv 3) (pe_op op_sub (pv 1) pe_int) set_list))
      (pss_one (ps_ret (pe_callTy call_tuple_of (by rfl) B.tup (by decide +kernel) (pa_cons (pv 3) pa_nil))))), ?_⟩
    refine ⟨_, rfl, a, _, rfl, .inr hA.t, fun l nl => ?_⟩
    have s1 : Same H (upd H l (.lst (cs.map V.int))) := same_upd nl
    refine ⟨(by show 1 ≤ sizeLine; decide), fun z nz => ?_⟩
    have s2 : Same (upd H l (.lst (cs.map V.int))) (upd (upd H l (.lst (cs.map V.int))) z (.lst [.int 0])) := same_upd nz
    refine ⟨_, rfl, _, rfl, a, cs.map V.int, rfl, .inr (show TupI _ a cs from s2 _ _ (s1 _ _ hA)).t, _, _, rfl, rfl, ?_⟩
    rw [List.length_map]
    have ek : ((L : Int) - (cs.length : Int)).toNat = L - cs.length := by omega
    refine ⟨z, _, [.int 0], rfl, rfl, upd_same, by omega, by omega, ?_, fun q nq => ?_⟩
    · rw [ek]
      exact Nat.le_of_lt (small1000 (by rw [List.length_singleton]; omega))
    rw [ek]
    have s3 := same_upd (o := .lst (List.replicate (L - cs.length) [V.int 0]).flatten) nq
    have pl := padTo_len cs L
    refine ⟨l, q, _, _, rfl, rfl, s3 _ _ (s2 _ _ upd_same), upd_same, ?_, fun r nr => ?_⟩
    · rw [flat_rep, List.length_map, List.length_map, List.length_replicate]
      exact Nat.le_of_lt (small1000 (by omega))
    have er : (cs.map V.int ++ (List.replicate (L - cs.length) [V.int 0]).flatten) = (padTo cs L).map V.int := by
      rw [flat_rep, ← List.map_append]
      rfl
    rw [er]
    have nH : H r = none := ((s1.trans s2).trans s3).free nr
    have s4 := same_over (o := .lst ((padTo cs L).map V.int)) ((s1.trans s2).trans s3) nH
    refine ⟨_, rfl, _, rfl, _, _, rfl, rfl, r, _, _, _, rfl, rfl, .inl (.inl upd_same), at_int (j := L - 1) (by omega) (by omega), _, rfl, _, _, rfl, rfl, _, rfl, _, rfl, _, _, rfl, rfl, r, _, _, L - 1, rfl, rfl, upd_same, ?_, ?_⟩
    · rw [List.length_map]
      unfold ixN
      rw [if_pos (by omega), if_pos (by omega), show ((L : Int) - 1).toNat = L - 1 by omega]
    · refine ⟨_, rfl, r, _, rfl, .inl ⟨.inl (.inl upd_same), fun p np => ?_⟩⟩
      refine k _ p (same_over (same_over s4 nH) ?_) ?_
      · have sx := same_over (H1 := upd (upd (upd (upd H l (.lst (cs.map V.int))) z (.lst [.int 0])) q (.lst (List.replicate (L - cs.length) [V.int 0]).flatten)) r (.lst ((padTo cs L).map V.int))) (o := .lst (((padTo cs L).map V.int).set (L - 1) (V.int (at0 (padTo cs L) (L - 1) + m)))) s4 nH
        exact sx.free np
      · show upd _ p _ p = _
        rw [upd_same, withMore_set h1, List.map_set]
theorem ok_lfails {f : Addr} {fd : FuncData} (F : Fun K "_law_fails" "_law_fails" sLFails f fd) (T : Txt K mg) : FnOk P w K mg base CX0 5 f fd pLFails spLFails := by
  obtain ⟨fN, fdN, DN, GN⟩ := g_nkC (P := P) (w := w) (base := base) T
  obtain ⟨fW, fdW, DW, GW⟩ := g_wnC (P := P) (w := w) (base := base) T
  have B := T.B
  refine F.ok scLFails (fun vs H Q E h => ?_) (fun cdv A outer s H vs Q E hr h => ?_)
  · obtain ⟨size, a, cs, rfl, _⟩ := h
    rfl
  · obtain ⟨size, a, cs, rfl, h1, h2, hA, hc, k⟩ := h
    have hl := hc.1
    refine ⟨_, pss_one (ps_ret (pe_callB (cr_any rfl) (by rfl) B.any (by decide +kernel) (pa_cons
      (pe_lc (own := [("_law_n", 2)]) (g := gName 2) (tt := tYes) rfl scLFails.nd (pi_range2 (by rfl) B.range (pa_cons pe_int (pa_cons (pe_op op_add (pe_callB call_len_seq (by rfl) B.len PySem.boot_len (pa_cons (pv 1) pa_nil)) pe_int) pa_nil)))
        (blkOk_by (N := ["_law_size", "_law_counts", "_law_n"]) (sc := defScope sLFails) (by decide +kernel)) (fun _ _ _ _ _ => pg_name (i := 2) scLFails.nd rfl (Or.inl rfl)) (fun _ _ _ _ _ => pts_nil)
        (fun _ _ _ _ _ => pe_cmpR op_gt (pe_call GW hr (by rfl) DW.gl DW.fn.kp DW.bn .nil pass0 (pa_cons (pv 1) (pa_cons (pv 2) pa_nil))) (pe_call GN hr (by rfl) DN.gl DN.fn.kp DN.bn .nil pass0 (pa_cons (pv 0) (pa_cons (pv 2) pa_nil))) (nomark _))) pa_nil))), ?_⟩
    refine ⟨_, rfl, a, _, rfl, .inr hA.t, _, _, rfl, rfl, 1, ((cs.map V.int).length : Int) + 1, rfl, ⟨by decide, by decide, by rw [List.length_map]; omega, by rw [List.length_map]; omega⟩, fun D nD => ?_⟩
    rw [List.length_map]
    have eL : ((cs.length : Int) + 1 - 1).toNat = cs.length := by omega
    refine lc_range (lo := 1) (n := ((cs.length : Int) + 1 - 1).toNat) (fun i H' => Same H H' ∧ H' D = some (.lst (((List.range i).map fun j => decide (nk size (j + 1) < wn cs (j + 1))).map V.bl))) ⟨same_upd nD, upd_same⟩ ?_ ?_
    · rintro i H' hi ⟨sm, eD⟩
      have ei : (1 : Int) + (i : Int) = ((i + 1 : Nat) : Int) := by omega
      rw [ei]
      refine ⟨rfl, ?_⟩
      refine ⟨_, rfl, _, rfl, a, cs, i + 1, rfl, sm _ _ hA, hc, by omega, by omega, fun H1 s1 => ?_⟩
      refine ⟨_, rfl, _, rfl, size, i + 1, rfl, h1, h2, by omega, by omega, fun H2 s2 => ?_⟩
      refine ⟨_, _, rfl, rfl, _, s2 _ _ (s1 _ _ eD), ?_, same_over ((sm.trans s1).trans s2) nD, ?_⟩
      · rw [List.length_map, List.length_map, List.length_range]
        exact small1000 (by omega)
      · show upd H2 D _ D = _
        rw [upd_same, List.range_succ, List.map_append, List.map_append]
        rfl
    · rintro H' ⟨sm, eD⟩
      rw [eL] at eD
      refine ⟨D, _, rfl, .inl (.inl eD), ?_⟩
      rw [any_fails]
      exact k _ sm
end
end Sw
/-! the law -/
namespace Sw
open PySem PySem.Spec PyProof.Rows L2
abbrev sLaw : Stmt := topS 33
abbrev pLaw : List Str := ["_law_script"]
abbrev nLaw : List Str := ["_law_script", "_law_stream_here", "_law_size", "_law_counts", "_law_length", "_law_told", "_law_most", "_law_row", "_law_at", "_law_k"]
theorem scLaw : FnScope nLaw pLaw (defScope sLaw) := ⟨rfl, rfl, rfl, by decide +kernel, rfl, by decide +kernel, by decide +kernel⟩
structure TxtL (K : PySem.W.Frag) (mg : Str → Option Value) : Prop where
  T : Txt K mg
  stream : ∃ f fd, Df K mg "_law_stream" sStream pStream f fd
  next : ∃ f fd, Df K mg "_law_next" sNext pNext f fd
  isInt : ∃ f fd, Df K mg "_law_is_integer" sIsInt pIsInt f fd
  lmore : ∃ f fd, Df K mg "_law_more" sLMore pLMore f fd
  lfails : ∃ f fd, Df K mg "_law_fails" sLFails pLFails f fd
def spLaw (K : PySem.W.Frag) : Sp := fun vs H Q _ => ∃ (a : Addr) (ns : List Int), vs = [.ref a] ∧ SqL K H a (ns.map V.int) ∧ ∀ H', Q (.bl true) H'
theorem dp_ints {K : PySem.W.Frag} {H : Hp} : ∀ cs : List Int, DpAll K H (cs.map V.int) (cs.map PyData.int)
  | [] => .nil
  | c :: r => .cons (.int c) (dp_ints r)
theorem shaped_tup (ns : List Int) : SeqAt.shaped (.tuple (ns.map PyData.int)) = true := by
  have h1 := PySem.W.depthAll_ints ns
  have h2 : PyData.depth (.tuple (ns.map PyData.int)) ≤ 64 := by simp only [PyData.depth]; omega
  show (PyData.canLay0 (.tuple (ns.map PyData.int)) && decide (PyData.depth (.tuple (ns.map PyData.int)) ≤ 64)) = true
  rw [Bool.and_eq_true]
  exact ⟨by simp only [PyData.canLay0]; exact PySem.W.canLayAll0_ints ns, decide_eq_true h2⟩
theorem eqv_tup (ns : List Int) : PyData.eqv (.tuple (ns.map PyData.int)) (.tuple (ns.map PyData.int)) = true := SeqAt.eqv_refl _ (SeqAt.canLay_of_shaped (shaped_tup ns))
/-- a drawn list of counts, so far -/
structure Drawn4 (cs : List Int) : Prop where
  nn : ∀ j, j < cs.length → 0 ≤ at0 cs j
  fst : 0 < cs.length → at0 cs 0 ≤ 1
  le2 : ∀ j, j < cs.length → at0 cs j ≤ 2
theorem Drawn4.snoc {cs : List Int} {d : Int} (h : Drawn4 cs) (h0 : 0 ≤ d) (h1 : d < 2 + if decide ((0 : Int) < (cs.length : Int)) = true then 1 else 0) : Drawn4 (cs ++ [d]) := by
  have hd : d ≤ 2 ∧ (cs.length = 0 → d ≤ 1) := by
    by_cases e : (0 : Int) < (cs.length : Int)
    · rw [decide_eq_true e, if_pos rfl] at h1
      omega
    · rw [decide_eq_false e, if_neg Bool.false_ne_true] at h1
      omega
  have hl : (cs ++ [d]).length = cs.length + 1 := by rw [List.length_append]; rfl
  refine ⟨fun j hj => ?_, fun _ => ?_, fun j hj => ?_⟩
  · by_cases e : j < cs.length
    · rw [at0_append_left e]
      exact h.nn j e
    · rw [at0_append_at (by omega)]
      exact h0
  · by_cases e : 0 < cs.length
    · rw [at0_append_left e]
      exact h.fst e
    · rw [at0_append_at (by omega)]
      exact hd.2 (by omega)
  · by_cases e : j < cs.length
    · rw [at0_append_left e]
      exact h.le2 j e
    · rw [at0_append_at (by omega)]
      exact hd.1
theorem Drawn4.nil : Drawn4 [] := ⟨fun j h => absurd h (Nat.not_lt_zero _), fun h => absurd h (Nat.not_lt_zero _), fun j h => absurd h (Nat.not_lt_zero _)⟩
section
variable {P : Program} {w : World} {K : PySem.W.Frag} {mg : Str → Option Value} {base : Heap}
theorem g_stream (T : TxtL K mg) : Gd P w K mg base 1 "_law_stream" sStream pStream (spStream K) := let ⟨f, fd, D⟩ := T.stream; ⟨f, fd, D, ok_stream D.fn T.T.B⟩
theorem g_next (T : TxtL K mg) : Gd P w K mg base 1 "_law_next" sNext pNext spNext := let ⟨f, fd, D⟩ := T.next; ⟨f, fd, D, ok_next D.fn T.T.B⟩
theorem g_isInt (T : TxtL K mg) : Gd P w K mg base 1 "_law_is_integer" sIsInt pIsInt spIsInt := let ⟨f, fd, D⟩ := T.isInt; ⟨f, fd, D, ok_isInt D.fn T.T.B⟩
theorem g_lmore (T : TxtL K mg) : Gd P w K mg base 1 "_law_more" sLMore pLMore spLMore := let ⟨f, fd, D⟩ := T.lmore; ⟨f, fd, D, ok_lmore D.fn T.T.B⟩
theorem g_lfails (T : TxtL K mg) : Gd P w K mg base 5 "_law_fails" sLFails pLFails spLFails := let ⟨f, fd, D⟩ := T.lfails; ⟨f, fd, D, ok_lfails D.fn T.T⟩
theorem ok_law {f : Addr} {fd : FuncData} (F : Fun K "law" "law" sLaw f fd) (T : TxtL K mg) : FnOk P w K mg base CX0 7 f fd pLaw (spLaw K) := by
  obtain ⟨fS, fdS, DS, GS⟩ := g_stream (P := P) (w := w) (base := base) T
  obtain ⟨fX, fdX, DX, GX⟩ := g_next (P := P) (w := w) (base := base) T
  obtain ⟨fI, fdI, DI, GI⟩ := g_isInt (P := P) (w := w) (base := base) T
  obtain ⟨fR, fdR, DR, GR⟩ := g_lmore (P := P) (w := w) (base := base) T
  obtain ⟨fL, fdL, DL, GL⟩ := g_lfails (P := P) (w := w) (base := base) T
  obtain ⟨fM, fdM, DM, GM⟩ := g_moreW (P := P) (w := w) (base := base) T.T
  obtain ⟨fE, fdE, DE, GE⟩ := g_ext (P := P) (w := w) (base := base) T.T
  obtain ⟨fF, fdF, DF, GF⟩ := g_first (P := P) (w := w) (base := base) T.T
  obtain ⟨fW, fdW, DW, GW⟩ := g_wnC (P := P) (w := w) (base := base) T.T
  obtain ⟨fN, fdN, DN, GN⟩ := g_nkC (P := P) (w := w) (base := base) T.T
  have B := T.T.B
  refine F.ok scLaw (fun vs H Q E h => ?_) (fun cdv A outer s H vs Q E hr h => ?_)
  · obtain ⟨a, ns, rfl, _⟩ := h
    rfl
  · obtain ⟨a, ns, rfl, hS, k⟩ := h
    have hr1 := hr.mono (show 1 ≤ 6 by decide)
    have hr4 := hr.mono (show 4 ≤ 6 by decide)
    have hr5 := hr.mono (show 5 ≤ 6 by decide)
    refine ⟨_, (pss_cons (ps_set (i := 1) scLaw.nd rfl (.inr rfl) (pe_call GS hr1 (by rfl) DS.gl DS.fn.kp DS.bn .nil pass0 (pa_cons (pv 0) pa_nil)))
      (pss_cons (ps_set (i := 2) scLaw.nd rfl (.inl rfl) (pe_op op_add pe_int (pe_call GX hr1 (by rfl) DX.gl DX.fn.kp DX.bn .nil pass0 (pa_cons (pv 1) (pa_cons pe_int pa_nil)))))
      (pss_cons (ps_set (i := 3) scLaw.nd rfl (.inl rfl) (pe_callTy call_tuple_of (by rfl) B.tup (by decide +kernel) (pa_cons (pe_lc (own := [("_law_k", 9)]) (g := gName 9) (tt := tYes) rfl scLaw.nd (pi_range1 (by rfl) B.range (pa_cons (pe_call GX hr1 (by rfl) DX.gl DX.fn.kp DX.bn .nil pass0 (pa_cons (pv 1) (pa_cons pe_int pa_nil))) pa_nil)) (blkOk_by (N := nLaw) (sc := defScope sLaw) (by decide +kernel)) (fun _ _ _ _ _ => pg_name (i := 9) scLaw.nd rfl (Or.inl rfl)) (fun _ _ _ _ _ => pts_nil)
          (fun _ _ _ _ _ => (pe_call GX hr1 (by rfl) DX.gl DX.fn.kp DX.bn .nil pass0 (pa_cons (pv 1) (pa_cons (pe_op op_add pe_int (pe_callTy call_int1 (by rfl) B.int (by decide +kernel) (pa_cons (pe_cmpR op_gt (pv 9) pe_int (nomark _)) pa_nil))) pa_nil))))) pa_nil)))
      (pss_cons (ps_set (i := 4) scLaw.nd rfl (.inl rfl) (pe_op op_add pe_int (pe_call GX hr1 (by rfl) DX.gl DX.fn.kp DX.bn .nil pass0 (pa_cons (pv 1) (pa_cons pe_int pa_nil)))))
      (pss_cons (ps_set (i := 5) scLaw.nd rfl (.inl rfl) (pe_call GM hr (by rfl) DM.gl DM.fn.kp DM.bn .nil pass0 (pa_cons (pv 2) (pa_cons (pv 3) (pa_cons (pv 4) pa_nil)))))
      (pss_cons (ps_set (i := 6) scLaw.nd rfl (.inl rfl) (pe_op op_add (pe_callB call_len_seq (by rfl) B.len PySem.boot_len (pa_cons (pv 3) pa_nil)) (pe_call GX hr1 (by rfl) DX.gl DX.fn.kp DX.bn .nil pass0 (pa_cons (pv 1) (pa_cons pe_int pa_nil)))))
      (pss_cons (ps_set (i := 7) scLaw.nd rfl (.inl rfl) (pe_call GE hr (by rfl) DE.gl DE.fn.kp DE.bn .nil pass0 (pa_cons (pv 2) (pa_cons (pv 3) (pa_cons (pv 6) pa_nil)))))
      (pss_cons (ps_if (pt_cmpR op_notN (pe_call GF hr5 (by rfl) DF.gl DF.fn.kp DF.bn .nil pass0 (pa_cons (pv 2) (pa_cons (pv 3) pa_nil))) pe_non (nomark _)) (pss_one (ps_ret (pe_and (pe_cmpR op_isN (pv 5) pe_non (nomark _)) (pe_one (pe_cmpR op_isN (pv 7) pe_non (nomark _)))))) pss_nil)
      (pss_cons (ps_if (PW.pt (pw_or (pt_not (pt_val (pe_call GI hr1 (by rfl) DI.gl DI.fn.kp DI.bn .nil pass0 (pa_cons (pv 5) pa_nil)))) (pw_or (pt_cmpR op_lt (pv 5) pe_int (nomark _)) (pw_or1 (pt_not (pt_val (pe_callB call_isi (by rfl) B.isi (by decide +kernel) (pa_cons (pv 7) (pa_cons (pe_bltn (v := .ty "tuple") (by rfl) B.tup (by decide +kernel) rfl) pa_nil))))))))) pss_never pss_nil)
      (pss_cons (ps_if (PW.pt (pw_or (pt_val (pe_call GL hr5 (by rfl) DL.gl DL.fn.kp DL.bn .nil pass0 (pa_cons (pv 2) (pa_cons (pe_call GR hr1 (by rfl) DR.gl DR.fn.kp DR.bn .nil pass0 (pa_cons (pv 3) (pa_cons (pv 4) (pa_cons (pv 5) pa_nil)))) pa_nil)))) (pw_or1 (pt_not (pt_val (pe_call GL hr5 (by rfl) DL.gl DL.fn.kp DL.bn .nil pass0 (pa_cons (pv 2) (pa_cons (pe_call GR hr1 (by rfl) DR.gl DR.fn.kp DR.bn .nil pass0 (pa_cons (pv 3) (pa_cons (pv 4) (pa_cons (pe_op op_add (pv 5) pe_int) pa_nil)))) pa_nil)))))))) pss_never pss_nil)
      (pss_cons (ps_if (PW.pt (pw_or (pt_cmpR op_ne (pe_callB call_len_seq (by rfl) B.len PySem.boot_len (pa_cons (pv 7) pa_nil)) (pv 6) (nomark _)) (pw_or1 (pt_cmpR (op_neD hr.units) (pe_slice sl_tupA (pv 7) po_none (po_some (pe_callB call_len_seq (by rfl) B.len PySem.boot_len (pa_cons (pv 3) pa_nil)))) (pv 3) (nomark _))))) pss_never pss_nil)
      (pss_cons (ps_for PassesOwn.never rfl (pi_range2 (by rfl) B.range (pa_cons (pe_callB call_len_seq (by rfl) B.len PySem.boot_len (pa_cons (pv 3) pa_nil)) (pa_cons (pv 6) pa_nil))) (pg_name (i := 8) scLaw.nd rfl (.inl rfl)) (pss_one (ps_if (PW.pt (pw_or (pt_cmpR op_ne (pe_ix ix_tup (pv 7) (pv 8) (fun _ _ => rfl)) (pe_call GM hr (by rfl) DM.gl DM.fn.kp DM.bn .nil pass0 (pa_cons (pv 2) (pa_cons (pe_slice sl_tupA (pv 7) po_none (po_some (pv 8))) (pa_cons (pe_op op_add (pv 8) pe_int) pa_nil)))) (nomark _)) (pw_or1 (pt_cmpR op_ne (pe_call GW hr4 (by rfl) DW.gl DW.fn.kp DW.bn .nil pass0 (pa_cons (pv 7) (pa_cons (pe_op op_add (pv 8) pe_int) pa_nil))) (pe_call GN hr4 (by rfl) DN.gl DN.fn.kp DN.bn .nil pass0 (pa_cons (pv 2) (pa_cons (pe_op op_add (pv 8) pe_int) pa_nil))) (nomark _))))) pss_never pss_nil)))
      (pss_one (ps_ret pe_bl)))))))))))))), ?_⟩
    -- the stream, the number of letters
    refine ⟨_, rfl, a, ns, rfl, hS, fun H1 p b s1 => ?_⟩
    refine ⟨_, rfl, p, b, ns, 3, rfl, by decide, by decide, s1, fun H2 d1 _ s2 d1a d1b => ⟨_, _, rfl, rfl, ?_⟩⟩
    -- the counts
    refine ⟨_, rfl, p, b, ns, 5, rfl, by decide, by decide, s2, fun H3 n _ s3 na nb => ⟨n, rfl, by omega, by omega, fun D nD => ?_⟩⟩
    have nDp : D ≠ p := by
      obtain ⟨_, _, e, _, _⟩ := s3
      exact (ne_of_none e nD).symm
    have nDb : D ≠ b := by
      obtain ⟨_, _, _, _, e⟩ := s3
      exact (ne_of_none (show H3 b = some _ from e) nD).symm
    refine lc_range (lo := 0) (n := n.toNat) (fun i H' => Strm H' p b ns ∧ ∃ cs, LstI H' D cs ∧ cs.length = i ∧ Drawn4 cs) ⟨s3.other nDp nDb, [], upd_same, rfl, Drawn4.nil⟩ ?_ ?_
    · rintro i H' hi ⟨s', cs, eD, hl, hd⟩
      refine ⟨rfl, ?_⟩
      refine ⟨_, rfl, _, rfl, _, _, rfl, rfl, .inr ⟨_, rfl, _, _, rfl, rfl, p, b, ns, 2 + (if decide ((0 : Int) < 0 + (i : Int)) = true then 1 else 0), rfl, by split <;> omega, by split <;> omega, s', fun H'' d sb s'' da db => ?_⟩⟩
      refine ⟨cs.map V.int, sb D _ nDp eD, ?_, s''.other nDp nDb, cs ++ [d], ?_, ?_, hd.snoc da ?_⟩
      · rw [List.length_map]
        exact small1000 (by omega)
      · show upd H'' D _ D = _
        rw [upd_same, List.map_append]
        rfl
      · rw [List.length_append, hl]
        rfl
      · rw [Int.zero_add] at db
        rw [hl]
        exact db
    rintro H' ⟨s', cs, eD, hl, hd⟩
    refine ⟨D, _, rfl, .inl ⟨.inl (.inl eD), fun c nc => ?_⟩⟩
    have s4 := s'.same (same_upd (o := .tup (cs.map V.int)) nc)
    have eC4 : TupI (upd H' c (.tup (cs.map V.int))) c cs := upd_same
    have dom : Dom (1 + d1) cs := ⟨by omega, by omega, by omega, hd.nn, hd.fst, hd.le2⟩
    have z1 := dom.lo
    have z3 := dom.hi
    have zl := dom.len
    have zc := dom.cnt
    -- the length
    refine ⟨_, rfl, p, b, ns, 8, rfl, by decide, by decide, s4, fun H5 d2 sb5 s5 d2a d2b => ⟨_, _, rfl, rfl, ?_⟩⟩
    obtain ⟨l, rfl⟩ : ∃ l : Nat, d2 = (l : Int) := ⟨d2.toNat, by omega⟩
    have eC5 : TupI H5 c cs := sb5 c _ (s4.neT eC4) eC4
    -- what more_words tells
    refine ⟨_, rfl, _, rfl, _, rfl, 1 + d1, c, cs, 1 + l, rfl, z1, z3, eC5, zc, by omega, by omega, ?_⟩
    by_cases hf : failing (1 + d1) cs = none
    · refine .inr ⟨hf, dom.moreOk hf (by omega) (by omega), fun H6 r s6 r0 r1 ro rn => ?_⟩
      have eC6 : TupI H6 c cs := s6 _ _ eC5
      have s5' := s5.same s6
      have r9 : r ≤ 900 := Int.le_trans r1 (dom.moreOk hf (L := 1 + l) (by omega) (by omega)).n9
      refine ⟨_, rfl, c, _, rfl, .inr eC6.t, _, rfl, p, b, ns, 4, rfl, by decide, by decide, s5', fun H7 d3 sb7 s7 d3a d3b => ⟨_, _, rfl, rfl, ?_⟩⟩
      obtain ⟨m, rfl⟩ : ∃ m : Nat, d3 = (m : Int) := ⟨d3.toNat, by omega⟩
      have eC7 : TupI H7 c cs := sb7 c _ (s5'.neT eC6) eC6
      have em : (((cs.map V.int).length : Int) + (m : Int)) = ((cs.length + m : Nat) : Int) := by rw [List.length_map]; omega
      -- the extended row
      refine ⟨_, rfl, _, rfl, _, rfl, 1 + d1, c, cs, m, congrArg (fun z => [V.int (1 + d1), V.ref c, V.int z]) em, dom, by omega, eC7, fun z => absurd hf z, fun _ H8 q s8 eq => ?_⟩
      have xl := extL_len (1 + d1) cs m
      refine ⟨_, rfl, _, rfl, 1 + d1, c, cs, rfl, z1, z3, s8 _ _ eC7, zc, fun H9 s9 => ⟨rfl, _, rfl, ?_⟩⟩
      rw [decide_eq_true (optV_non.mpr hf)]
      refine iteF ?_
      have eC9 : TupI H9 c cs := s9 _ _ (s8 _ _ eC7)
      have eq9 : TupI H9 q (extL (1 + d1) cs m) := s9 _ _ eq
      -- kinds
      refine ⟨_, rfl, r, rfl, _, rfl, iteF ?_⟩
      refine ⟨_, rfl, _, _, rfl, rfl, _, rfl, ?_⟩
      rw [decide_eq_false (by omega)]
      refine iteF ?_
      refine ⟨_, rfl, _, _, _, _, true, rfl, .ty _, .base (.tup eq9), kit_ty (by decide +kernel), true, rfl, iteF ?_⟩
      -- with so many more words no length fails, with one more some does
      refine ⟨_, rfl, _, rfl, _, rfl, _, rfl, c, cs, 1 + l, r, rfl, eC9, by omega, by omega, by omega, fun H10 m1 s10 em1 => ?_⟩
      have b1 := withMore_bd (cs := cs) (L := 1 + l) (k := r) (by omega) (fun x hx => by
        obtain ⟨j, hj, rfl⟩ := at0_mem hx
        have a1 := hd.nn j hj
        have a2 := hd.le2 j hj
        omega) r0 (by omega)
      refine ⟨1 + d1, m1, withMore cs (1 + l) r, rfl, z1, z3, em1, ⟨by rw [withMore_len (by omega)]; omega, b1⟩, fun H11 s11 => ⟨_, rfl, ?_⟩⟩
      rw [decide_eq_false (fun z => z ro)]
      refine iteF ?_
      have eC11 : TupI H11 c cs := s11 _ _ (s10 _ _ eC9)
      have b2 := withMore_bd (cs := cs) (L := 1 + l) (k := r + 1) (by omega) (fun x hx => by
        obtain ⟨j, hj, rfl⟩ := at0_mem hx
        have a1 := hd.nn j hj
        have a2 := hd.le2 j hj
        omega) (by omega) (by omega)
      refine ⟨_, rfl, _, rfl, _, rfl, _, rfl, _, _, rfl, rfl, c, cs, 1 + l, r + 1, rfl, eC11, by omega, by omega, by omega, fun H12 m2 s12 em2 => ?_⟩
      refine ⟨1 + d1, m2, withMore cs (1 + l) (r + 1), rfl, z1, z3, em2, ⟨by rw [withMore_len (by omega)]; omega, b2⟩, fun H13 s13 => ⟨_, rfl, ?_⟩⟩
      rw [decide_eq_true (show failing (1 + d1) (withMore cs (1 + l) (r + 1)) ≠ none from rn)]
      refine iteF ?_
      have eC13 : TupI H13 c cs := s13 _ _ (s12 _ _ eC11)
      have eq13 : TupI H13 q (extL (1 + d1) cs m) := s13 _ _ (s12 _ _ (s11 _ _ (s10 _ _ eq9)))
      -- the row's length, and its beginning
      refine ⟨_, rfl, q, _, rfl, .inr eq13.t, _, rfl, rfl, _, rfl, iteNS ?_ ?_⟩
      · show V.int _ = V.int _
        rw [List.length_map, List.length_map, xl]
        exact congrArg V.int (by omega)
      refine ⟨_, rfl, _, rfl, c, _, rfl, .inr eC13.t, _, rfl, ?_⟩
      refine slA_of (K := K) eq13 (cut_to _ (k := cs.length) (by rw [List.length_map])) fun q2 H14 s14 e14 => ?_
      have tk := extL_take (1 + d1) cs (j := 0) (n := m) (by omega)
      rw [Nat.add_zero] at tk
      rw [tk] at e14
      have e14 : TupI H14 q2 cs := e14
      have eC14 : TupI H14 c cs := s14 _ _ eC13
      refine ⟨_, rfl, _, _, .tup e14.t (dp_ints cs), .tup eC14.t (dp_ints cs), shaped_tup cs, shaped_tup cs, _, rfl, ?_⟩
      rw [eqv_tup]
      refine iteF ?_
      -- each item behind the counts
      refine ⟨_, rfl, c, _, rfl, .inr eC14.t, _, rfl, ((cs.map V.int).length : Int), ((cs.map V.int).length : Int) + (m : Int), rfl, ⟨by omega, by rw [List.length_map]; omega, by omega, by rw [List.length_map]; omega⟩, ?_⟩
      have eq14 : TupI H14 q (extL (1 + d1) cs m) := s14 _ _ eq13
      refine for_range (lo := ((cs.map V.int).length : Int)) (n := (((cs.map V.int).length : Int) + (m : Int) - ((cs.map V.int).length : Int)).toNat)
        (fun i σ H' => TupI H' q (extL (1 + d1) cs m) ∧ ∃ x, σ = [some (.ref a), some (.ref p), some (.int (1 + d1)), some (.ref c), some (.int (1 + (l : Int))), some (.int r), some (.int (((cs.map V.int).length : Int) + (m : Int))), some (.ref q), x, none])
        ⟨eq14, none, rfl⟩ ?_ ?_
      · rintro i σ H' hi ⟨eQ, x, rfl⟩
        have him : i < m := by omega
        have ml : ((cs.map V.int).length : Int) = (cs.length : Int) := by rw [List.length_map]
        have xi := extL_len (1 + d1) cs i
        have ea : (((cs.map V.int).length : Int) + (i : Int) + 1) = (((extL (1 + d1) cs i).length + 1 : Nat) : Int) := by omega
        have eb : (((cs.map V.int).length : Int) + (i : Int) + 1) = ((cs.length + i + 1 : Nat) : Int) := by omega
        refine ⟨_, rfl, _, rfl, q, _, _, _, rfl, rfl, eQ.t, at_int (j := cs.length + i) (by omega) (by omega), ?_⟩
        refine ⟨_, rfl, _, rfl, _, rfl, _, rfl, ?_⟩
        refine slA_of (K := K) eQ (cut_to _ (k := cs.length + i) (by omega)) fun q3 H15 s15 e15 => ?_
        rw [extL_take (1 + d1) cs (j := i) (n := m) (by omega)] at e15
        refine ⟨_, rfl, _, _, rfl, rfl, 1 + d1, q3, extL (1 + d1) cs i, (extL (1 + d1) cs i).length + 1, congrArg (fun z => [V.int (1 + d1), V.ref q3, V.int z]) ea, z1, z3, e15, ext_cnt dom hf (by omega), by omega, by omega,
          .inr ⟨ext_none dom hf (by omega), ext_moreOk dom hf (by omega), fun H16 r' s16 _ _ o0 o1 => ?_⟩⟩
        have er : r' = extV (1 + d1) cs i := ext_more dom hf (by omega) o0 o1
        subst er
        refine ⟨rfl, _, rfl, iteNS ?_ ?_⟩
        · rw [at0_eq, extL_at (1 + d1) cs him]
          rfl
        have eQ16 : TupI H16 q (extL (1 + d1) cs m) := s16 _ _ (s15 _ _ eQ)
        refine ⟨_, rfl, _, rfl, _, _, rfl, rfl, q, extL (1 + d1) cs m, cs.length + i + 1, congrArg (fun z => [V.ref q, V.int z]) eb, eQ16, ext_cnt dom hf (by omega), by omega, by omega, fun H17 s17 => ?_⟩
        refine ⟨_, rfl, _, rfl, _, _, rfl, rfl, 1 + d1, cs.length + i + 1, congrArg (fun z => [V.int (1 + d1), V.int z]) eb, z1, z3, by omega, by omega, fun H18 s18 => ?_⟩
        refine ⟨rfl, _, rfl, iteNS (congrArg V.int (ext_wn (1 + d1) cs him)) ?_⟩
        exact ⟨s18 _ _ (s17 _ _ eQ16), _, rfl⟩
      · rintro σ H' ⟨eQ, x, rfl⟩
        exact k _
    · refine .inl ⟨hf, fun H6 s6 => ?_⟩
      have eC6 : TupI H6 c cs := s6 _ _ eC5
      have s5' := s5.same s6
      refine ⟨_, rfl, c, _, rfl, .inr eC6.t, _, rfl, p, b, ns, 4, rfl, by decide, by decide, s5', fun H7 d3 sb7 s7 d3a d3b => ⟨_, _, rfl, rfl, ?_⟩⟩
      obtain ⟨m, rfl⟩ : ∃ m : Nat, d3 = (m : Int) := ⟨d3.toNat, by omega⟩
      have eC7 : TupI H7 c cs := sb7 c _ (s5'.neT eC6) eC6
      have em : (((cs.map V.int).length : Int) + (m : Int)) = ((cs.length + m : Nat) : Int) := by rw [List.length_map]; omega
      refine ⟨_, rfl, _, rfl, _, rfl, 1 + d1, c, cs, m, congrArg (fun z => [V.int (1 + d1), V.ref c, V.int z]) em, dom, by omega, eC7, fun _ H8 s8 => ?_, fun z => absurd z hf⟩
      refine ⟨_, rfl, _, rfl, 1 + d1, c, cs, rfl, z1, z3, s8 _ _ eC7, zc, fun H9 s9 => ⟨rfl, _, rfl, ?_⟩⟩
      rw [decide_eq_false (fun z => hf (optV_non.mp z))]
      refine iteT ?_
      exact ⟨_, rfl, rfl, true, rfl, iteT ⟨_, rfl, rfl, k _⟩⟩
end
end Sw
/-! what the top has written, and the end -/
namespace Sw
open PySem PySem.Spec PyProof.Rows L2
theorem all_mk {l : PySem.W.OpenLaw} {w : World} {K : PySem.W.Frag} {h : Heap} {mg : Str → Option Value} {fa f1 f2 f3 f4 f5 f6 f7 f8 f9 f10 f11 f12 f13 f14 f15 f16 f17 f18 f19 f20 f21 f22 f23 f24 f25 : Addr} (X : K.In h) (G : h.Ns mainGlobals mg) (hfa : mg "law" = some (.ref fa))
    {od1 an1 od2 an2 od3 an3 od4 an4 od5 an5 od6 an6 od7 an7 od8 an8 od9 an9 od10 an10 od11 an11 od12 an12 od13 an13 od14 an14 od15 an15 od16 an16 od17 an17 od18 an18 od19 an19 od20 an20 od21 an21 od22 an22 od23 an23 od24 an24 od25 an25 : Option Addr} {sl1 sl2 sl3 sl4 sl5 sl6 sl7 sl8 sl9 sl10 sl11 sl12 sl13 sl14 sl15 sl16 sl17 sl18 sl19 sl20 sl21 sl22 sl23 sl24 sl25 : Array (Option Value)} {oc1 kV1 dc1 pm1 cd1 ct1 oc2 kV2 dc2 pm2 cd2 ct2 oc3 kV3 dc3 pm3 cd3 ct3 oc4 kV4 dc4 pm4 cd4 ct4 oc5 kV5 dc5 pm5 cd5 ct5 oc6 kV6 dc6 pm6 cd6 ct6 oc7 kV7 dc7 pm7 cd7 ct7 oc8 kV8 dc8 pm8 cd8 ct8 oc9 kV9 dc9 pm9 cd9 ct9 oc10 kV10 dc10 pm10 cd10 ct10 oc11 kV11 dc11 pm11 cd11 ct11 oc12 kV12 dc12 pm12 cd12 ct12 oc13 kV13 dc13 pm13 cd13 ct13 oc14 kV14 dc14 pm14 cd14 ct14 oc15 kV15 dc15 pm15 cd15 ct15 oc16 kV16 dc16 pm16 cd16 ct16 oc17 kV17 dc17 pm17 cd17 ct17 oc18 kV18 dc18 pm18 cd18 ct18 oc19 kV19 dc19 pm19 cd19 ct19 oc20 kV20 dc20 pm20 cd20 ct20 oc21 kV21 dc21 pm21 cd21 ct21 oc22 kV22 dc22 pm22 cd22 ct22 oc23 kV23 dc23 pm23 cd23 ct23 oc24 kV24 dc24 pm24 cd24 ct24 oc25 kV25 dc25 pm25 cd25 ct25 : Value} {t1 t2 t3 t4 : Tok}
    (a1 : PySem.W.nsIn K mainGlobals "is_number" = some (some (.ref f1))) (l1 : K.lookup f1 = some ⟨oc1, od1, .func (PySem.W.fnOf "is_number" "is_number" (defArgs sNum) (defBody sNum) (defScope sNum) .none kV1 dc1 pm1 an1 cd1 ct1), sl1⟩) (c1 : PySem.W.codeIn K cd1 "is_number" = true) (k1 : PySem.W.keepIn K (.ref f1) = true)
    (a2 : PySem.W.nsIn K mainGlobals "check_size" = some (some (.ref f2))) (l2 : K.lookup f2 = some ⟨oc2, od2, .func (PySem.W.fnOf "check_size" "check_size" (defArgs sCkS) (defBody sCkS) (defScope sCkS) .none kV2 dc2 pm2 an2 cd2 ct2), sl2⟩) (c2 : PySem.W.codeIn K cd2 "check_size" = true) (k2 : PySem.W.keepIn K (.ref f2) = true)
    (a3 : PySem.W.nsIn K mainGlobals "check_counts" = some (some (.ref f3))) (l3 : K.lookup f3 = some ⟨oc3, od3, .func (PySem.W.fnOf "check_counts" "check_counts" (defArgs sCkC) (defBody sCkC) (defScope sCkC) .none kV3 dc3 pm3 an3 cd3 ct3), sl3⟩) (c3 : PySem.W.codeIn K cd3 "check_counts" = true) (k3 : PySem.W.keepIn K (.ref f3) = true)
    (a4 : PySem.W.nsIn K mainGlobals "check_length" = some (some (.ref f4))) (l4 : K.lookup f4 = some ⟨oc4, od4, .func (PySem.W.fnOf "check_length" "check_length" (defArgs sCkL) (defBody sCkL) (defScope sCkL) .none kV4 dc4 pm4 an4 cd4 ct4), sl4⟩) (c4 : PySem.W.codeIn K cd4 "check_length" = true) (k4 : PySem.W.keepIn K (.ref f4) = true)
    (a5 : PySem.W.nsIn K mainGlobals "moebius" = some (some (.ref f5))) (l5 : K.lookup f5 = some ⟨oc5, od5, .func (PySem.W.fnOf "moebius" "moebius" (defArgs sMob) (defBody sMob) (defScope sMob) .none kV5 dc5 pm5 an5 cd5 ct5), sl5⟩) (c5 : PySem.W.codeIn K cd5 "moebius" = true) (k5 : PySem.W.keepIn K (.ref f5) = true)
    (a6 : PySem.W.nsIn K mainGlobals "primitive_part" = some (some (.ref f6))) (l6 : K.lookup f6 = some ⟨oc6, od6, .func (PySem.W.fnOf "primitive_part" "primitive_part" (defArgs sPart) (defBody sPart) (defScope sPart) .none kV6 dc6 pm6 an6 cd6 ct6), sl6⟩) (c6 : PySem.W.codeIn K cd6 "primitive_part" = true) (k6 : PySem.W.keepIn K (.ref f6) = true)
    (a7 : PySem.W.nsIn K mainGlobals "powers_of" = some (some (.ref f7))) (l7 : K.lookup f7 = some ⟨oc7, od7, .func (PySem.W.fnOf "powers_of" "powers_of" (defArgs sPow) (defBody sPow) (defScope sPow) .none kV7 dc7 pm7 an7 cd7 ct7), sl7⟩) (c7 : PySem.W.codeIn K cd7 "powers_of" = true) (k7 : PySem.W.keepIn K (.ref f7) = true)
    (a8 : PySem.W.nsIn K mainGlobals "necklaces_of" = some (some (.ref f8))) (l8 : K.lookup f8 = some ⟨oc8, od8, .func (PySem.W.fnOf "necklaces_of" "necklaces_of" (defArgs sNk) (defBody sNk) (defScope sNk) .none kV8 dc8 pm8 an8 cd8 ct8), sl8⟩) (c8 : PySem.W.codeIn K cd8 "necklaces_of" = true) (k8 : PySem.W.keepIn K (.ref f8) = true)
    (a9 : PySem.W.nsIn K mainGlobals "turns_of" = some (some (.ref f9))) (l9 : K.lookup f9 = some ⟨oc9, od9, .func (PySem.W.fnOf "turns_of" "turns_of" (defArgs sTurns) (defBody sTurns) (defScope sTurns) .none kV9 dc9 pm9 an9 cd9 ct9), sl9⟩) (c9 : PySem.W.codeIn K cd9 "turns_of" = true) (k9 : PySem.W.keepIn K (.ref f9) = true)
    (a10 : PySem.W.nsIn K mainGlobals "word_necklaces_of" = some (some (.ref f10))) (l10 : K.lookup f10 = some ⟨oc10, od10, .func (PySem.W.fnOf "word_necklaces_of" "word_necklaces_of" (defArgs sWn) (defBody sWn) (defScope sWn) .none kV10 dc10 pm10 an10 cd10 ct10), sl10⟩) (c10 : PySem.W.codeIn K cd10 "word_necklaces_of" = true) (k10 : PySem.W.keepIn K (.ref f10) = true)
    (a11 : PySem.W.nsIn K mainGlobals "failing" = some (some (.ref f11))) (l11 : K.lookup f11 = some ⟨oc11, od11, .func (PySem.W.fnOf "failing" "failing" (defArgs sFail) (defBody sFail) (defScope sFail) .none kV11 dc11 pm11 an11 cd11 ct11), sl11⟩) (c11 : PySem.W.codeIn K cd11 "failing" = true) (k11 : PySem.W.keepIn K (.ref f11) = true)
    (a12 : PySem.W.nsIn K mainGlobals "with_more" = some (some (.ref f12))) (l12 : K.lookup f12 = some ⟨oc12, od12, .func (PySem.W.fnOf "with_more" "with_more" (defArgs sWith) (defBody sWith) (defScope sWith) .none kV12 dc12 pm12 an12 cd12 ct12), sl12⟩) (c12 : PySem.W.codeIn K cd12 "with_more" = true) (k12 : PySem.W.keepIn K (.ref f12) = true)
    (a13 : PySem.W.nsIn K mainGlobals "more_of" = some (some (.ref f13))) (l13 : K.lookup f13 = some ⟨oc13, od13, .func (PySem.W.fnOf "more_of" "more_of" (defArgs sMore) (defBody sMore) (defScope sMore) .none kV13 dc13 pm13 an13 cd13 ct13), sl13⟩) (c13 : PySem.W.codeIn K cd13 "more_of" = true) (k13 : PySem.W.keepIn K (.ref f13) = true)
    (a14 : PySem.W.nsIn K mainGlobals "necklaces" = some (some (.ref f14))) (l14 : K.lookup f14 = some ⟨oc14, od14, .func (PySem.W.fnOf "necklaces" "necklaces" (defArgs sNkC) (defBody sNkC) (defScope sNkC) .none kV14 dc14 pm14 an14 cd14 ct14), sl14⟩) (c14 : PySem.W.codeIn K cd14 "necklaces" = true) (k14 : PySem.W.keepIn K (.ref f14) = true)
    (a15 : PySem.W.nsIn K mainGlobals "word_necklaces" = some (some (.ref f15))) (l15 : K.lookup f15 = some ⟨oc15, od15, .func (PySem.W.fnOf "word_necklaces" "word_necklaces" (defArgs sWnC) (defBody sWnC) (defScope sWnC) .none kV15 dc15 pm15 an15 cd15 ct15), sl15⟩) (c15 : PySem.W.codeIn K cd15 "word_necklaces" = true) (k15 : PySem.W.keepIn K (.ref f15) = true)
    (a16 : PySem.W.nsIn K mainGlobals "check_both" = some (some (.ref f16))) (l16 : K.lookup f16 = some ⟨oc16, od16, .func (PySem.W.fnOf "check_both" "check_both" (defArgs sCkB) (defBody sCkB) (defScope sCkB) .none kV16 dc16 pm16 an16 cd16 ct16), sl16⟩) (c16 : PySem.W.codeIn K cd16 "check_both" = true) (k16 : PySem.W.keepIn K (.ref f16) = true)
    (a17 : PySem.W.nsIn K mainGlobals "first_failing" = some (some (.ref f17))) (l17 : K.lookup f17 = some ⟨oc17, od17, .func (PySem.W.fnOf "first_failing" "first_failing" (defArgs sFirst) (defBody sFirst) (defScope sFirst) .none kV17 dc17 pm17 an17 cd17 ct17), sl17⟩) (c17 : PySem.W.codeIn K cd17 "first_failing" = true) (k17 : PySem.W.keepIn K (.ref f17) = true)
    (a18 : PySem.W.nsIn K mainGlobals "more_words" = some (some (.ref f18))) (l18 : K.lookup f18 = some ⟨oc18, od18, .func (PySem.W.fnOf "more_words" "more_words" (defArgs sMoreW) (defBody sMoreW) (defScope sMoreW) .none kV18 dc18 pm18 an18 cd18 ct18), sl18⟩) (c18 : PySem.W.codeIn K cd18 "more_words" = true) (k18 : PySem.W.keepIn K (.ref f18) = true)
    (a19 : PySem.W.nsIn K mainGlobals "extended" = some (some (.ref f19))) (l19 : K.lookup f19 = some ⟨oc19, od19, .func (PySem.W.fnOf "extended" "extended" (defArgs sExt) (defBody sExt) (defScope sExt) .none kV19 dc19 pm19 an19 cd19 ct19), sl19⟩) (c19 : PySem.W.codeIn K cd19 "extended" = true) (k19 : PySem.W.keepIn K (.ref f19) = true)
    (a20 : PySem.W.nsIn K mainGlobals "_law_stream" = some (some (.ref f20))) (l20 : K.lookup f20 = some ⟨oc20, od20, .func (PySem.W.fnOf "_law_stream" "_law_stream" (defArgs sStream) (defBody sStream) (defScope sStream) .none kV20 dc20 pm20 an20 cd20 ct20), sl20⟩) (c20 : PySem.W.codeIn K cd20 "_law_stream" = true) (k20 : PySem.W.keepIn K (.ref f20) = true)
    (a21 : PySem.W.nsIn K mainGlobals "_law_next" = some (some (.ref f21))) (l21 : K.lookup f21 = some ⟨oc21, od21, .func (PySem.W.fnOf "_law_next" "_law_next" (defArgs sNext) (defBody sNext) (defScope sNext) .none kV21 dc21 pm21 an21 cd21 ct21), sl21⟩) (c21 : PySem.W.codeIn K cd21 "_law_next" = true) (k21 : PySem.W.keepIn K (.ref f21) = true)
    (a22 : PySem.W.nsIn K mainGlobals "_law_is_integer" = some (some (.ref f22))) (l22 : K.lookup f22 = some ⟨oc22, od22, .func (PySem.W.fnOf "_law_is_integer" "_law_is_integer" (defArgs sIsInt) (defBody sIsInt) (defScope sIsInt) .none kV22 dc22 pm22 an22 cd22 ct22), sl22⟩) (c22 : PySem.W.codeIn K cd22 "_law_is_integer" = true) (k22 : PySem.W.keepIn K (.ref f22) = true)
    (a23 : PySem.W.nsIn K mainGlobals "_law_more" = some (some (.ref f23))) (l23 : K.lookup f23 = some ⟨oc23, od23, .func (PySem.W.fnOf "_law_more" "_law_more" (defArgs sLMore) (defBody sLMore) (defScope sLMore) .none kV23 dc23 pm23 an23 cd23 ct23), sl23⟩) (c23 : PySem.W.codeIn K cd23 "_law_more" = true) (k23 : PySem.W.keepIn K (.ref f23) = true)
    (a24 : PySem.W.nsIn K mainGlobals "_law_fails" = some (some (.ref f24))) (l24 : K.lookup f24 = some ⟨oc24, od24, .func (PySem.W.fnOf "_law_fails" "_law_fails" (defArgs sLFails) (defBody sLFails) (defScope sLFails) .none kV24 dc24 pm24 an24 cd24 ct24), sl24⟩) (c24 : PySem.W.codeIn K cd24 "_law_fails" = true) (k24 : PySem.W.keepIn K (.ref f24) = true)
    (a25 : PySem.W.nsIn K mainGlobals "law" = some (some (.ref f25))) (l25 : K.lookup f25 = some ⟨oc25, od25, .func (PySem.W.fnOf "law" "law" (defArgs sLaw) (defBody sLaw) (defScope sLaw) .none kV25 dc25 pm25 an25 cd25 ct25), sl25⟩) (c25 : PySem.W.codeIn K cd25 "law" = true) (k25 : PySem.W.keepIn K (.ref f25) = true)
    (m1 : PySem.W.nsIn K mainGlobals "MOST_SIZE" = some (some (.int 3 t1)))
    (m2 : PySem.W.nsIn K mainGlobals "MOST_COUNTS" = some (some (.int 8 t2)))
    (m3 : PySem.W.nsIn K mainGlobals "MOST_COUNT" = some (some (.int 1000 t3)))
    (m4 : PySem.W.nsIn K mainGlobals "MOST_LENGTH" = some (some (.int 12 t4)))
    (z1 : PySem.W.nsIn K mainGlobals "isinstance" = some none)
    (z2 : PySem.W.nsIn K mainGlobals "int" = some none)
    (z3 : PySem.W.nsIn K mainGlobals "bool" = some none)
    (z4 : PySem.W.nsIn K mainGlobals "tuple" = some none)
    (z5 : PySem.W.nsIn K mainGlobals "len" = some none)
    (z6 : PySem.W.nsIn K mainGlobals "all" = some none)
    (z7 : PySem.W.nsIn K mainGlobals "range" = some none)
    (z8 : PySem.W.nsIn K mainGlobals "sum" = some none)
    (z9 : PySem.W.nsIn K mainGlobals "list" = some none)
    (z10 : PySem.W.nsIn K mainGlobals "abs" = some none)
    (z11 : PySem.W.nsIn K mainGlobals "any" = some none)
    : ∃ fd : FuncData, (∀ (s : Shared) (v : Value), BindsTo s fd ⟨[v], []⟩ [("_law_script", v)]) ∧ ∀ base : Heap, K.In base → base.Ns mainGlobals mg → FnOk l.prog w K mg base CX0 7 fa fd ["_law_script"] (spLaw K) := by
  have e := hfa.symm.trans (PySem.W.mg_of X G a25)
  cases e
  have F1 := fun_mk (st := sNum) l1 c1 k1
  have b1 := F1.binds (ps := pNum) fun _ _ _ _ _ _ us hl => match us, hl with | [_, _, _], _ => rfl
  have D1 : ∃ f fd, Df K mg "is_number" sNum pNum f fd := ⟨_, _, F1, PySem.W.mg_of X G a1, b1⟩
  have F2 := fun_mk (st := sCkS) l2 c2 k2
  have b2 := F2.binds (ps := pCkS) fun _ _ _ _ _ _ us hl => match us, hl with | [_], _ => rfl
  have D2 : ∃ f fd, Df K mg "check_size" sCkS pCkS f fd := ⟨_, _, F2, PySem.W.mg_of X G a2, b2⟩
  have F3 := fun_mk (st := sCkC) l3 c3 k3
  have b3 := F3.binds (ps := pCkC) fun _ _ _ _ _ _ us hl => match us, hl with | [_], _ => rfl
  have D3 : ∃ f fd, Df K mg "check_counts" sCkC pCkC f fd := ⟨_, _, F3, PySem.W.mg_of X G a3, b3⟩
  have F4 := fun_mk (st := sCkL) l4 c4 k4
  have b4 := F4.binds (ps := pCkL) fun _ _ _ _ _ _ us hl => match us, hl with | [_], _ => rfl
  have D4 : ∃ f fd, Df K mg "check_length" sCkL pCkL f fd := ⟨_, _, F4, PySem.W.mg_of X G a4, b4⟩
  have F5 := fun_mk (st := sMob) l5 c5 k5
  have b5 := F5.binds (ps := pMob) fun _ _ _ _ _ _ us hl => match us, hl with | [_], _ => rfl
  have D5 : ∃ f fd, Df K mg "moebius" sMob pMob f fd := ⟨_, _, F5, PySem.W.mg_of X G a5, b5⟩
  have F6 := fun_mk (st := sPart) l6 c6 k6
  have b6 := F6.binds (ps := pPart) fun _ _ _ _ _ _ us hl => match us, hl with | [_, _], _ => rfl
  have D6 : ∃ f fd, Df K mg "primitive_part" sPart pPart f fd := ⟨_, _, F6, PySem.W.mg_of X G a6, b6⟩
  have F7 := fun_mk (st := sPow) l7 c7 k7
  have b7 := F7.binds (ps := pPow) fun _ _ _ _ _ _ us hl => match us, hl with | [_, _], _ => rfl
  have D7 : ∃ f fd, Df K mg "powers_of" sPow pPow f fd := ⟨_, _, F7, PySem.W.mg_of X G a7, b7⟩
  have F8 := fun_mk (st := sNk) l8 c8 k8
  have b8 := F8.binds (ps := pNk) fun _ _ _ _ _ _ us hl => match us, hl with | [_, _], _ => rfl
  have D8 : ∃ f fd, Df K mg "necklaces_of" sNk pNk f fd := ⟨_, _, F8, PySem.W.mg_of X G a8, b8⟩
  have F9 := fun_mk (st := sTurns) l9 c9 k9
  have b9 := F9.binds (ps := pTurns) fun _ _ _ _ _ _ us hl => match us, hl with | [_, _], _ => rfl
  have D9 : ∃ f fd, Df K mg "turns_of" sTurns pTurns f fd := ⟨_, _, F9, PySem.W.mg_of X G a9, b9⟩
  have F10 := fun_mk (st := sWn) l10 c10 k10
  have b10 := F10.binds (ps := pWn) fun _ _ _ _ _ _ us hl => match us, hl with | [_, _], _ => rfl
  have D10 : ∃ f fd, Df K mg "word_necklaces_of" sWn pWn f fd := ⟨_, _, F10, PySem.W.mg_of X G a10, b10⟩
  have F11 := fun_mk (st := sFail) l11 c11 k11
  have b11 := F11.binds (ps := pFail) fun _ _ _ _ _ _ us hl => match us, hl with | [_, _], _ => rfl
  have D11 : ∃ f fd, Df K mg "failing" sFail pFail f fd := ⟨_, _, F11, PySem.W.mg_of X G a11, b11⟩
  have F12 := fun_mk (st := sWith) l12 c12 k12
  have b12 := F12.binds (ps := pWith) fun _ _ _ _ _ _ us hl => match us, hl with | [_, _, _], _ => rfl
  have D12 : ∃ f fd, Df K mg "with_more" sWith pWith f fd := ⟨_, _, F12, PySem.W.mg_of X G a12, b12⟩
  have F13 := fun_mk (st := sMore) l13 c13 k13
  have b13 := F13.binds (ps := pMore) fun _ _ _ _ _ _ us hl => match us, hl with | [_, _, _], _ => rfl
  have D13 : ∃ f fd, Df K mg "more_of" sMore pMore f fd := ⟨_, _, F13, PySem.W.mg_of X G a13, b13⟩
  have F14 := fun_mk (st := sNkC) l14 c14 k14
  have b14 := F14.binds (ps := pNkC) fun _ _ _ _ _ _ us hl => match us, hl with | [_, _], _ => rfl
  have D14 : ∃ f fd, Df K mg "necklaces" sNkC pNkC f fd := ⟨_, _, F14, PySem.W.mg_of X G a14, b14⟩
  have F15 := fun_mk (st := sWnC) l15 c15 k15
  have b15 := F15.binds (ps := pWnC) fun _ _ _ _ _ _ us hl => match us, hl with | [_, _], _ => rfl
  have D15 : ∃ f fd, Df K mg "word_necklaces" sWnC pWnC f fd := ⟨_, _, F15, PySem.W.mg_of X G a15, b15⟩
  have F16 := fun_mk (st := sCkB) l16 c16 k16
  have b16 := F16.binds (ps := pCkB) fun _ _ _ _ _ _ us hl => match us, hl with | [_, _], _ => rfl
  have D16 : ∃ f fd, Df K mg "check_both" sCkB pCkB f fd := ⟨_, _, F16, PySem.W.mg_of X G a16, b16⟩
  have F17 := fun_mk (st := sFirst) l17 c17 k17
  have b17 := F17.binds (ps := pFirst) fun _ _ _ _ _ _ us hl => match us, hl with | [_, _], _ => rfl
  have D17 : ∃ f fd, Df K mg "first_failing" sFirst pFirst f fd := ⟨_, _, F17, PySem.W.mg_of X G a17, b17⟩
  have F18 := fun_mk (st := sMoreW) l18 c18 k18
  have b18 := F18.binds (ps := pMoreW) fun _ _ _ _ _ _ us hl => match us, hl with | [_, _, _], _ => rfl
  have D18 : ∃ f fd, Df K mg "more_words" sMoreW pMoreW f fd := ⟨_, _, F18, PySem.W.mg_of X G a18, b18⟩
  have F19 := fun_mk (st := sExt) l19 c19 k19
  have b19 := F19.binds (ps := pExt) fun _ _ _ _ _ _ us hl => match us, hl with | [_, _, _], _ => rfl
  have D19 : ∃ f fd, Df K mg "extended" sExt pExt f fd := ⟨_, _, F19, PySem.W.mg_of X G a19, b19⟩
  have F20 := fun_mk (st := sStream) l20 c20 k20
  have b20 := F20.binds (ps := pStream) fun _ _ _ _ _ _ us hl => match us, hl with | [_], _ => rfl
  have D20 : ∃ f fd, Df K mg "_law_stream" sStream pStream f fd := ⟨_, _, F20, PySem.W.mg_of X G a20, b20⟩
  have F21 := fun_mk (st := sNext) l21 c21 k21
  have b21 := F21.binds (ps := pNext) fun _ _ _ _ _ _ us hl => match us, hl with | [_, _], _ => rfl
  have D21 : ∃ f fd, Df K mg "_law_next" sNext pNext f fd := ⟨_, _, F21, PySem.W.mg_of X G a21, b21⟩
  have F22 := fun_mk (st := sIsInt) l22 c22 k22
  have b22 := F22.binds (ps := pIsInt) fun _ _ _ _ _ _ us hl => match us, hl with | [_], _ => rfl
  have D22 : ∃ f fd, Df K mg "_law_is_integer" sIsInt pIsInt f fd := ⟨_, _, F22, PySem.W.mg_of X G a22, b22⟩
  have F23 := fun_mk (st := sLMore) l23 c23 k23
  have b23 := F23.binds (ps := pLMore) fun _ _ _ _ _ _ us hl => match us, hl with | [_, _, _], _ => rfl
  have D23 : ∃ f fd, Df K mg "_law_more" sLMore pLMore f fd := ⟨_, _, F23, PySem.W.mg_of X G a23, b23⟩
  have F24 := fun_mk (st := sLFails) l24 c24 k24
  have b24 := F24.binds (ps := pLFails) fun _ _ _ _ _ _ us hl => match us, hl with | [_, _], _ => rfl
  have D24 : ∃ f fd, Df K mg "_law_fails" sLFails pLFails f fd := ⟨_, _, F24, PySem.W.mg_of X G a24, b24⟩
  have F25 := fun_mk (st := sLaw) l25 c25 k25
  have B : Blt mg := ⟨PySem.W.mg_none_of X G z1, PySem.W.mg_none_of X G z2, PySem.W.mg_none_of X G z3, PySem.W.mg_none_of X G z4, PySem.W.mg_none_of X G z5, PySem.W.mg_none_of X G z6, PySem.W.mg_none_of X G z7, PySem.W.mg_none_of X G z8, PySem.W.mg_none_of X G z9, PySem.W.mg_none_of X G z10, PySem.W.mg_none_of X G z11⟩
  have C : Cst mg := ⟨⟨_, PySem.W.mg_of X G m1⟩, ⟨_, PySem.W.mg_of X G m2⟩, ⟨_, PySem.W.mg_of X G m3⟩, ⟨_, PySem.W.mg_of X G m4⟩⟩
  have T : Txt K mg := ⟨B, C, D1, D2, D3, D4, D5, D6, D7, D8, D9, D10, D11, D12, D13, D14, D15, D16, D17, D18, D19⟩
  have TL : TxtL K mg := ⟨T, D20, D21, D22, D23, D24⟩
  exact ⟨PySem.W.fnOf "law" "law" (defArgs sLaw) (defBody sLaw) (defScope sLaw) .none kV25 dc25 pm25 an25 cd25 ct25, fun s v => .of_eq rfl, fun base _ _ => ok_law F25 TL⟩
end Sw
open PySem PySem.W PyProof.Rows
set_option maxRecDepth 100000 in
set_option maxHeartbeats 0 in
theorem PySem.Challenge.cw_syncedwords_k47_whole_more_words_and_ext_holds : PySem.Challenge.rw_syncedwords_k47_whole_more_words_and_ext.Holds := by
  w_on; o_law; k_head; (case hw => w_witness2)
  k_fill
  refine L2.walk_of (l := PySem.Challenge.rw_syncedwords_k47_whole_more_words_and_ext) (n := 63) (k := 7) (x := "_law_script") (CX := fun _ => L2.CX0) (sp := fun w => Sw.spLaw _) rfl (by decide) rfl ⟨rfl, by decide, by decide⟩ (fun w h Y => PySem.W.kIn_of Y) ?F (fun _ _ a ns hl _ hS => ⟨a, ns, rfl, hS, fun _ => rfl⟩) (fun _ _ _ _ _ h => h)
  case F =>
    intro w mg fa h KX G hmg
    refine' Sw.all_mk KX G hmg ?a1 ?l1 ?c1 ?k1 ?a2 ?l2 ?c2 ?k2 ?a3 ?l3 ?c3 ?k3 ?a4 ?l4 ?c4 ?k4 ?a5 ?l5 ?c5 ?k5 ?a6 ?l6 ?c6 ?k6 ?a7 ?l7 ?c7 ?k7 ?a8 ?l8 ?c8 ?k8 ?a9 ?l9 ?c9 ?k9 ?a10 ?l10 ?c10 ?k10 ?a11 ?l11 ?c11 ?k11 ?a12 ?l12 ?c12 ?k12 ?a13 ?l13 ?c13 ?k13 ?a14 ?l14 ?c14 ?k14 ?a15 ?l15 ?c15 ?k15 ?a16 ?l16 ?c16 ?k16 ?a17 ?l17 ?c17 ?k17 ?a18 ?l18 ?c18 ?k18 ?a19 ?l19 ?c19 ?k19 ?a20 ?l20 ?c20 ?k20 ?a21 ?l21 ?c21 ?k21 ?a22 ?l22 ?c22 ?k22 ?a23 ?l23 ?c23 ?k23 ?a24 ?l24 ?c24 ?k24 ?a25 ?l25 ?c25 ?k25 ?m1 ?m2 ?m3 ?m4 ?z1 ?z2 ?z3 ?z4 ?z5 ?z6 ?z7 ?z8 ?z9 ?z10 ?z11
    (case a1 => k_is)
    (case l1 => k_is)
    (case c1 => k_is)
    (case k1 => k_is)
    (case a2 => k_is)
    (case l2 => k_is)
    (case c2 => k_is)
    (case k2 => k_is)
    (case a3 => k_is)
    (case l3 => k_is)
    (case c3 => k_is)
    (case k3 => k_is)
    (case a4 => k_is)
    (case l4 => k_is)
    (case c4 => k_is)
    (case k4 => k_is)
    (case a5 => k_is)
    (case l5 => k_is)
    (case c5 => k_is)
    (case k5 => k_is)
    (case a6 => k_is)
    (case l6 => k_is)
    (case c6 => k_is)
    (case k6 => k_is)
    (case a7 => k_is)
    (case l7 => k_is)
    (case c7 => k_is)
    (case k7 => k_is)
    (case a8 => k_is)
    (case l8 => k_is)
    (case c8 => k_is)
    (case k8 => k_is)
    (case a9 => k_is)
    (case l9 => k_is)
    (case c9 => k_is)
    (case k9 => k_is)
    (case a10 => k_is)
    (case l10 => k_is)
    (case c10 => k_is)
    (case k10 => k_is)
    (case a11 => k_is)
    (case l11 => k_is)
    (case c11 => k_is)
    (case k11 => k_is)
    (case a12 => k_is)
    (case l12 => k_is)
    (case c12 => k_is)
    (case k12 => k_is)
    (case a13 => k_is)
    (case l13 => k_is)
    (case c13 => k_is)
    (case k13 => k_is)
    (case a14 => k_is)
    (case l14 => k_is)
    (case c14 => k_is)
    (case k14 => k_is)
    (case a15 => k_is)
    (case l15 => k_is)
    (case c15 => k_is)
    (case k15 => k_is)
    (case a16 => k_is)
    (case l16 => k_is)
    (case c16 => k_is)
    (case k16 => k_is)
    (case a17 => k_is)
    (case l17 => k_is)
    (case c17 => k_is)
    (case k17 => k_is)
    (case a18 => k_is)
    (case l18 => k_is)
    (case c18 => k_is)
    (case k18 => k_is)
    (case a19 => k_is)
    (case l19 => k_is)
    (case c19 => k_is)
    (case k19 => k_is)
    (case a20 => k_is)
    (case l20 => k_is)
    (case c20 => k_is)
    (case k20 => k_is)
    (case a21 => k_is)
    (case l21 => k_is)
    (case c21 => k_is)
    (case k21 => k_is)
    (case a22 => k_is)
    (case l22 => k_is)
    (case c22 => k_is)
    (case k22 => k_is)
    (case a23 => k_is)
    (case l23 => k_is)
    (case c23 => k_is)
    (case k23 => k_is)
    (case a24 => k_is)
    (case l24 => k_is)
    (case c24 => k_is)
    (case k24 => k_is)
    (case a25 => k_is)
    (case l25 => k_is)
    (case c25 => k_is)
    (case k25 => k_is)
    (case m1 => k_is)
    (case m2 => k_is)
    (case m3 => k_is)
    (case m4 => k_is)
    (case z1 => k_is)
    (case z2 => k_is)
    (case z3 => k_is)
    (case z4 => k_is)
    (case z5 => k_is)
    (case z6 => k_is)
    (case z7 => k_is)
    (case z8 => k_is)
    (case z9 => k_is)
    (case z10 => k_is)
    (case z11 => k_is)
