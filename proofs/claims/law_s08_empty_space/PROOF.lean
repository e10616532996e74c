import PyProof.Rows.All
import Wide.All
import OpenK.AllK
import Wide.FinOn
import Open.SpecLaws
import KE.OsGo
import HandS.ForSpec
import HandS.Evl
import PySem.Challenge.RW_boxeskept_s08_empty_space
set_option Elab.async false
set_option linter.all false
set_option maxRecDepth 100000
set_option maxHeartbeats 4000000
/-! The plain law: lists and numbers alone, no program in sight. -/
namespace Bx
open Kbe3 (Size Item)

/-! ### sizes and items as rows of numbers -/
def e3 (s : Size) : List Int := [(s.a : Int), (s.b : Int), (s.c : Int)]
def flatB : List Size → List Int
  | [] => []
  | s :: r => (s.a : Int) :: (s.b : Int) :: (s.c : Int) :: flatB r
def flatI : List Item → List Int
  | [] => []
  | t :: r => (t.size.a : Int) :: (t.size.b : Int) :: (t.size.c : Int) :: (t.quantity : Int) :: flatI r
def edge (x : Int) : Bool := decide (1 ≤ x) && decide (x ≤ 20)
def quan (x : Int) : Bool := decide (1 ≤ x) && decide (x ≤ 99)
def edges (ns : List Int) : Bool := ns.all edge
def okB (ns : List Int) : Bool := decide (ns.length % 3 = 0) && (decide (ns.length ≤ 21) && edges ns)
def okS (ns : List Int) : Bool := decide (ns.length = 3) && edges ns
/-- the item at the place i -/
def okAt (ns : List Int) (i : Nat) : Bool := edges ((ns.drop (4 * i)).take 3) && quan (ns.getD (4 * i + 3) 0)
def okI (ns : List Int) : Bool := decide (ns.length % 4 = 0) && (decide (ns.length ≤ 32) && (List.range (ns.length / 4)).all (okAt ns))
def VS (s : Size) : Prop := (1 ≤ s.a ∧ s.a ≤ 20) ∧ (1 ≤ s.b ∧ s.b ≤ 20) ∧ (1 ≤ s.c ∧ s.c ≤ 20)
def VI (t : Item) : Prop := VS t.size ∧ (1 ≤ t.quantity ∧ t.quantity ≤ 99)

theorem flatB_len : ∀ bs : List Size, (flatB bs).length = 3 * bs.length
  | [] => rfl
  | s :: r => by
    have ih := flatB_len r
    simp only [flatB, List.length_cons, ih]
    omega
theorem flatI_len : ∀ ts : List Item, (flatI ts).length = 4 * ts.length
  | [] => rfl
  | s :: r => by
    have ih := flatI_len r
    simp only [flatI, List.length_cons, ih]
    omega
theorem flatB_at : ∀ (bs : List Size) (i : Nat) (s : Size), bs[i]? = some s → ((flatB bs).drop (3 * i)).take 3 = e3 s
  | [], i, s, h => by simp at h
  | x :: r, 0, s, h => by
    have e : x = s := Option.some.inj h
    subst e
    rfl
  | x :: r, i + 1, s, h => by
    have ih := flatB_at r i s h
    have e : 3 * (i + 1) = 3 * i + 3 := by omega
    rw [e]
    exact ih
theorem flatI_at : ∀ (ts : List Item) (i : Nat) (t : Item), ts[i]? = some t → ((flatI ts).drop (4 * i)).take 3 = e3 t.size
  | [], i, s, h => by simp at h
  | x :: r, 0, s, h => by
    have e : x = s := Option.some.inj h
    subst e
    rfl
  | x :: r, i + 1, s, h => by
    have ih := flatI_at r i s h
    have e : 4 * (i + 1) = 4 * i + 4 := by omega
    rw [e]
    exact ih
theorem flatI_q : ∀ (ts : List Item) (i : Nat) (t : Item), ts[i]? = some t → (flatI ts)[4 * i + 3]? = some (t.quantity : Int)
  | [], i, s, h => by simp at h
  | x :: r, 0, s, h => by
    have e : x = s := Option.some.inj h
    subst e
    rfl
  | x :: r, i + 1, s, h => by
    have ih := flatI_q r i s h
    have e : 4 * (i + 1) + 3 = (4 * i + 3) + 4 := by omega
    rw [e]
    exact ih

/-! ### what is handed in, read -/
abbrev NN (ns : List Int) : Prop := ∀ x ∈ ns, 0 ≤ x
theorem edge_iff {x : Int} : edge x = true ↔ 1 ≤ x ∧ x ≤ 20 := by simp [edge]
theorem quan_iff {x : Int} : quan x = true ↔ 1 ≤ x ∧ x ≤ 99 := by simp [quan]
theorem vs_iff {a b c : Int} (_ha : 0 ≤ a) (_hb : 0 ≤ b) (_hc : 0 ≤ c) : Kbe3.validSize ⟨a.toNat, b.toNat, c.toNat⟩ = (edge a && (edge b && edge c)) := by
  rw [Bool.eq_iff_iff]
  simp only [Kbe3.validSize, edge, Bool.and_eq_true, decide_eq_true_eq]
  omega
theorem edges_cons {x : Int} {r : List Int} : edges (x :: r) = (edge x && edges r) := rfl
theorem validSize_VS {s : Size} (h : Kbe3.validSize s = true) : VS s := by
  simp only [Kbe3.validSize, Bool.and_eq_true, decide_eq_true_eq] at h
  unfold VS
  omega
/-- boxes read, without their number -/
theorem parse_b : ∀ ns : List Int, NN ns →
    (∃ bs, Kbe3.parseSizes (Kbe3Neutral.toNats ns) = some bs ∧ (ns.length % 3 = 0 ∧ edges ns = true) ∧ ns = flatB bs ∧ ∀ s ∈ bs, VS s) ∨
    (Kbe3.parseSizes (Kbe3Neutral.toNats ns) = none ∧ ¬ (ns.length % 3 = 0 ∧ edges ns = true))
  | [], _ => .inl ⟨[], rfl, ⟨rfl, rfl⟩, rfl, fun s h => by simp at h⟩
  | [a], _ => .inr ⟨rfl, by simp⟩
  | [a, b], _ => .inr ⟨rfl, by simp⟩
  | a :: b :: c :: r, h => by
    have ha : 0 ≤ a := h a (by simp)
    have hb : 0 ≤ b := h b (by simp)
    have hc : 0 ≤ c := h c (by simp)
    have hr : NN r := fun x hx => h x (by simp [hx])
    have hl : (a :: b :: c :: r).length % 3 = r.length % 3 := by
      simp only [List.length_cons]
      omega
    have hv := vs_iff ha hb hc
    have step : Kbe3.parseSizes (Kbe3Neutral.toNats (a :: b :: c :: r)) = if Kbe3.validSize ⟨a.toNat, b.toNat, c.toNat⟩ = true then (Kbe3.parseSizes (Kbe3Neutral.toNats r)).map fun parsed => ⟨a.toNat, b.toNat, c.toNat⟩ :: parsed else none := rfl
    have he : edges (a :: b :: c :: r) = ((edge a && (edge b && edge c)) && edges r) := by
      rw [edges_cons, edges_cons, edges_cons, Bool.and_assoc, Bool.and_assoc]
    by_cases v : Kbe3.validSize ⟨a.toNat, b.toNat, c.toNat⟩ = true
    · rw [step, if_pos v, hl, he, ← hv, v, Bool.true_and]
      rcases parse_b r hr with ⟨bs, e, q, z, w⟩ | ⟨e, q⟩
      · refine .inl ⟨⟨a.toNat, b.toNat, c.toNat⟩ :: bs, by rw [e]; rfl, q, ?_, fun s hs => ?_⟩
        · rw [z]
          simp only [flatB, Int.toNat_of_nonneg ha, Int.toNat_of_nonneg hb, Int.toNat_of_nonneg hc]
        · rcases List.mem_cons.mp hs with z2 | z2
          · rw [z2]
            exact validSize_VS v
          · exact w s z2
      · exact .inr ⟨by rw [e]; rfl, q⟩
    · rw [step, if_neg v, hl, he, ← hv]
      refine .inr ⟨rfl, fun z => v ?_⟩
      exact (Bool.and_eq_true_iff.mp z.2).1
theorem okAt_zero (a b c q : Int) (r : List Int) : okAt (a :: b :: c :: q :: r) 0 = ((edge a && (edge b && edge c)) && quan q) := by
  show ((edge a && (edge b && (edge c && true))) && quan q) = _
  rw [Bool.and_true]
theorem okAt_succ (a b c q : Int) (r : List Int) (i : Nat) : okAt (a :: b :: c :: q :: r) (i + 1) = okAt r i := by
  unfold okAt
  have e1 : 4 * (i + 1) = 4 * i + 4 := by omega
  have e2 : 4 * (i + 1) + 3 = (4 * i + 3) + 4 := by omega
  rw [e2, e1]
  rfl
theorem all_range_succ (p : Nat → Bool) (n : Nat) : (List.range (n + 1)).all p = (p 0 && (List.range n).all fun i => p (i + 1)) := by
  rw [List.range_succ_eq_map, List.all_cons, List.all_map]
  rfl
theorem parse_i : ∀ ns : List Int, NN ns →
    (∃ ts, Kbe3.parseItems (Kbe3Neutral.toNats ns) = some ts ∧ (ns.length % 4 = 0 ∧ (List.range (ns.length / 4)).all (okAt ns) = true) ∧ ns = flatI ts ∧ ∀ t ∈ ts, VI t) ∨
    (Kbe3.parseItems (Kbe3Neutral.toNats ns) = none ∧ ¬ (ns.length % 4 = 0 ∧ (List.range (ns.length / 4)).all (okAt ns) = true))
  | [], _ => .inl ⟨[], rfl, ⟨rfl, rfl⟩, rfl, fun s h => by simp at h⟩
  | [a], _ => .inr ⟨rfl, by simp⟩
  | [a, b], _ => .inr ⟨rfl, by simp⟩
  | [a, b, c], _ => .inr ⟨rfl, by simp⟩
  | a :: b :: c :: d :: r, h => by
    have ha : 0 ≤ a := h a (by simp)
    have hb : 0 ≤ b := h b (by simp)
    have hc : 0 ≤ c := h c (by simp)
    have hd : 0 ≤ d := h d (by simp)
    have hr : NN r := fun x hx => h x (by simp [hx])
    have hl : (a :: b :: c :: d :: r).length % 4 = r.length % 4 := by
      simp only [List.length_cons]
      omega
    have hl2 : (a :: b :: c :: d :: r).length / 4 = r.length / 4 + 1 := by
      simp only [List.length_cons]
      omega
    have hv := vs_iff ha hb hc
    have step : Kbe3.parseItems (Kbe3Neutral.toNats (a :: b :: c :: d :: r)) = if Kbe3.validSize ⟨a.toNat, b.toNat, c.toNat⟩ = true ∧ 1 ≤ d.toNat ∧ d.toNat ≤ 99 then (Kbe3.parseItems (Kbe3Neutral.toNats r)).map fun parsed => ⟨⟨a.toNat, b.toNat, c.toNat⟩, d.toNat⟩ :: parsed else none := rfl
    have he : (List.range ((a :: b :: c :: d :: r).length / 4)).all (okAt (a :: b :: c :: d :: r)) = (((edge a && (edge b && edge c)) && quan d) && (List.range (r.length / 4)).all (okAt r)) := by
      rw [hl2, all_range_succ, okAt_zero]
      have e2 : (fun i => okAt (a :: b :: c :: d :: r) (i + 1)) = okAt r := funext fun i => okAt_succ a b c d r i
      rw [e2]
    by_cases v : Kbe3.validSize ⟨a.toNat, b.toNat, c.toNat⟩ = true ∧ 1 ≤ d.toNat ∧ d.toNat ≤ 99
    · have q2 : quan d = true := by
        rw [quan_iff]
        omega
      rw [step, if_pos v, hl, he, ← hv, v.1, q2, Bool.true_and, Bool.true_and]
      rcases parse_i r hr with ⟨bs, e, q, z, w⟩ | ⟨e, q⟩
      · refine .inl ⟨⟨⟨a.toNat, b.toNat, c.toNat⟩, d.toNat⟩ :: bs, by rw [e]; rfl, q, ?_, fun s hs => ?_⟩
        · rw [z]
          simp only [flatI, Int.toNat_of_nonneg ha, Int.toNat_of_nonneg hb, Int.toNat_of_nonneg hc, Int.toNat_of_nonneg hd]
        · rcases List.mem_cons.mp hs with z2 | z2
          · rw [z2]
            exact ⟨validSize_VS v.1, v.2⟩
          · exact w s z2
      · exact .inr ⟨by rw [e]; rfl, q⟩
    · rw [step, if_neg v, hl, he, ← hv]
      refine .inr ⟨rfl, fun z => v ?_⟩
      have z1 := Bool.and_eq_true_iff.mp (Bool.and_eq_true_iff.mp z.2).1
      have z2 := quan_iff.mp z1.2
      exact ⟨z1.1, by omega, by omega⟩

/-- both lists read: refused, or told by sizes and items -/
theorem lists_read {ns ms : List Int} (hn : NN ns) (hm : NN ms) :
    (okB ns = true ∧ okI ms = true ∧ ∃ bs ts, ns = flatB bs ∧ ms = flatI ts ∧ bs.length ≤ 7 ∧ ts.length ≤ 8 ∧ (∀ s ∈ bs, VS s) ∧ (∀ t ∈ ts, VI t) ∧
      ∀ k, Kbe3.withBoxesAndItems (Kbe3Neutral.toNats ns) (Kbe3Neutral.toNats ms) k = k bs ts) ∨
    ((okB ns && okI ms) = false ∧ ∀ k, Kbe3.withBoxesAndItems (Kbe3Neutral.toNats ns) (Kbe3Neutral.toNats ms) k = Kbe3.single Kbe3.invalidArgument) := by
  rcases parse_b ns hn with ⟨bs, e1, ⟨q1, q2⟩, z1, w1⟩ | ⟨e1, q1⟩
  · rcases parse_i ms hm with ⟨ts, e2, ⟨p1, p2⟩, z2, w2⟩ | ⟨e2, p1⟩
    · have l1 : ns.length = 3 * bs.length := by rw [z1, flatB_len]
      have l2 : ms.length = 4 * ts.length := by rw [z2, flatI_len]
      by_cases c : 7 < bs.length ∨ 8 < ts.length
      · refine .inr ⟨?_, fun k => ?_⟩
        · rw [Bool.and_eq_false_iff]
          rcases c with c | c
          · left
            unfold okB
            rw [decide_eq_false (show ¬ ns.length ≤ 21 by omega), Bool.false_and, Bool.and_false]
          · right
            unfold okI
            rw [decide_eq_false (show ¬ ms.length ≤ 32 by omega), Bool.false_and, Bool.and_false]
        · unfold Kbe3.withBoxesAndItems
          rw [e1, e2]
          exact if_pos c
      · refine .inl ⟨?_, ?_, bs, ts, z1, z2, by omega, by omega, w1, w2, fun k => ?_⟩
        · unfold okB
          rw [decide_eq_true q1, decide_eq_true (show ns.length ≤ 21 by omega), q2] <;> rfl
        · unfold okI
          rw [decide_eq_true p1, decide_eq_true (show ms.length ≤ 32 by omega), p2] <;> rfl
        · unfold Kbe3.withBoxesAndItems
          rw [e1, e2]
          exact if_neg c
    · refine .inr ⟨?_, fun k => ?_⟩
      · rw [Bool.and_eq_false_iff]
        right
        cases h : okI ms with
        | false => rfl
        | true =>
          exfalso
          unfold okI at h
          simp only [Bool.and_eq_true, decide_eq_true_eq] at h
          exact p1 ⟨h.1, h.2.2⟩
      · unfold Kbe3.withBoxesAndItems
        rw [e1, e2]
  · refine .inr ⟨?_, fun k => ?_⟩
    · rw [Bool.and_eq_false_iff]
      left
      cases h : okB ns with
      | false => rfl
      | true =>
        exfalso
        unfold okB at h
        simp only [Bool.and_eq_true, decide_eq_true_eq] at h
        exact q1 ⟨h.1, h.2.2⟩
    · unfold Kbe3.withBoxesAndItems
      rw [e1]
/-- boxes alone -/
theorem boxes_read {ns : List Int} (hn : NN ns) :
    (okB ns = true ∧ ∃ bs, ns = flatB bs ∧ bs.length ≤ 7 ∧ (∀ s ∈ bs, VS s) ∧ Kbe3.parseSizes (Kbe3Neutral.toNats ns) = some bs) ∨
    (okB ns = false ∧ (Kbe3.parseSizes (Kbe3Neutral.toNats ns) = none ∨ ∃ bs, Kbe3.parseSizes (Kbe3Neutral.toNats ns) = some bs ∧ 7 < bs.length)) := by
  rcases parse_b ns hn with ⟨bs, e1, ⟨q1, q2⟩, z1, w1⟩ | ⟨e1, q1⟩
  · have l1 : ns.length = 3 * bs.length := by rw [z1, flatB_len]
    by_cases c : 7 < bs.length
    · refine .inr ⟨?_, .inr ⟨bs, e1, c⟩⟩
      unfold okB
      rw [decide_eq_false (show ¬ ns.length ≤ 21 by omega), Bool.false_and, Bool.and_false]
    · refine .inl ⟨?_, bs, z1, by omega, w1, e1⟩
      unfold okB
      rw [decide_eq_true q1, decide_eq_true (show ns.length ≤ 21 by omega), q2] <;> rfl
  · refine .inr ⟨?_, .inl e1⟩
    cases h : okB ns with
    | false => rfl
    | true =>
      exfalso
      unfold okB at h
      simp only [Bool.and_eq_true, decide_eq_true_eq] at h
      exact q1 ⟨h.1, h.2.2⟩
/-- one size -/
theorem size_read {ns : List Int} (hn : NN ns) :
    (okS ns = true ∧ ∃ s, ns = e3 s ∧ VS s ∧ Kbe3.parseSizes (Kbe3Neutral.toNats ns) = some [s]) ∨
    (okS ns = false ∧ ∀ s, Kbe3.parseSizes (Kbe3Neutral.toNats ns) ≠ some [s]) := by
  rcases parse_b ns hn with ⟨bs, e1, ⟨q1, q2⟩, z1, w1⟩ | ⟨e1, q1⟩
  · have l1 : ns.length = 3 * bs.length := by rw [z1, flatB_len]
    match bs, e1, z1, w1, l1 with
    | [], e1, z1, w1, l1 =>
      refine .inr ⟨?_, fun s h => ?_⟩
      · unfold okS
        rw [decide_eq_false (show ¬ ns.length = 3 by rw [l1]; simp), Bool.false_and]
      · rw [e1] at h
        cases h
    | [s], e1, z1, w1, l1 =>
      refine .inl ⟨?_, s, z1, w1 s (by simp), e1⟩
      unfold okS
      rw [decide_eq_true (show ns.length = 3 by rw [l1]; simp), q2] <;> rfl
    | s :: u :: r, e1, z1, w1, l1 =>
      refine .inr ⟨?_, fun x h => ?_⟩
      · unfold okS
        rw [decide_eq_false (show ¬ ns.length = 3 by rw [l1]; simp only [List.length_cons]; omega), Bool.false_and]
      · rw [e1] at h
        cases h
  · refine .inr ⟨?_, fun s h => ?_⟩
    · cases h : okS ns with
      | false => rfl
      | true =>
        exfalso
        unfold okS at h
        simp only [Bool.and_eq_true, decide_eq_true_eq] at h
        exact q1 ⟨by omega, h.2⟩
    · rw [e1] at h
      cases h
end Bx

/-! The plain law, second part: the cheapest box, the best stock, the greedy one. -/
namespace Bx
open Kbe3 (Size Item hasBit fits volume itemCost totalCost cardinality)

/-! ### the box that is used -/
def sz (bs : List Size) (i : Nat) : Size := bs.getD i ⟨0, 0, 0⟩
def usable (bs : List Size) (stock : Nat) (x : Size) (i : Nat) : Bool := hasBit stock i && fits x (sz bs i)
def pick (bs : List Size) (stock : Nat) (x : Size) (best : Option Nat) (i : Nat) : Option Nat :=
  if usable bs stock x i = true then
    match best with
    | none => some i
    | some j => if volume (sz bs i) < volume (sz bs j) then some i else some j
  else best
def used (bs : List Size) (stock : Nat) (x : Size) (n : Nat) : Option Nat := (List.range n).foldl (pick bs stock x) none
theorem used_succ (bs : List Size) (stock : Nat) (x : Size) (n : Nat) : used bs stock x (n + 1) = pick bs stock x (used bs stock x n) n := by
  unfold used
  rw [List.range_succ, List.foldl_append]
  rfl
theorem used_is (bs : List Size) (stock : Nat) (x : Size) : ∀ n : Nat, match used bs stock x n with
    | none => ∀ i < n, usable bs stock x i = false
    | some j => j < n ∧ usable bs stock x j = true ∧ (∀ i < n, usable bs stock x i = true → volume (sz bs j) ≤ volume (sz bs i)) ∧ ∀ i < j, usable bs stock x i = true → volume (sz bs j) < volume (sz bs i)
  | 0 => fun i h => absurd h (Nat.not_lt_zero i)
  | n + 1 => by
    have ih := used_is bs stock x n
    rw [used_succ]
    unfold pick
    by_cases u : usable bs stock x n = true
    · rw [if_pos u]
      cases e : used bs stock x n with
      | none =>
        rw [e] at ih
        refine ⟨Nat.lt_succ_self n, u, fun i hi ui => ?_, fun i hi ui => ?_⟩
        · rcases Nat.lt_succ_iff_lt_or_eq.mp hi with h | h
          · rw [ih i h] at ui
            cases ui
          · rw [h]
            exact Nat.le_refl _
        · rw [ih i hi] at ui
          cases ui
      | some j =>
        rw [e] at ih
        obtain ⟨h1, h2, h3, h4⟩ := ih
        show match (if volume (sz bs n) < volume (sz bs j) then some n else some j) with
          | none => ∀ i < n + 1, usable bs stock x i = false
          | some j => j < n + 1 ∧ usable bs stock x j = true ∧ (∀ i < n + 1, usable bs stock x i = true → volume (sz bs j) ≤ volume (sz bs i)) ∧ ∀ i < j, usable bs stock x i = true → volume (sz bs j) < volume (sz bs i)
        by_cases c : volume (sz bs n) < volume (sz bs j)
        · rw [if_pos c]
          refine ⟨Nat.lt_succ_self n, u, fun i hi ui => ?_, fun i hi ui => ?_⟩
          · rcases Nat.lt_succ_iff_lt_or_eq.mp hi with h | h
            · exact Nat.le_of_lt (Nat.lt_of_lt_of_le c (h3 i h ui))
            · rw [h]
              exact Nat.le_refl _
          · exact Nat.lt_of_lt_of_le c (h3 i hi ui)
        · rw [if_neg c]
          refine ⟨Nat.lt_succ_of_lt h1, h2, fun i hi ui => ?_, h4⟩
          rcases Nat.lt_succ_iff_lt_or_eq.mp hi with h | h
          · exact h3 i h ui
          · rw [h]
            exact Nat.le_of_not_lt c
    · rw [if_neg u]
      cases e : used bs stock x n with
      | none =>
        rw [e] at ih
        intro i hi
        rcases Nat.lt_succ_iff_lt_or_eq.mp hi with h | h
        · exact ih i h
        · rw [h]
          exact Bool.not_eq_true _ ▸ u
      | some j =>
        rw [e] at ih
        obtain ⟨h1, h2, h3, h4⟩ := ih
        refine ⟨Nat.lt_succ_of_lt h1, h2, fun i hi ui => ?_, h4⟩
        rcases Nat.lt_succ_iff_lt_or_eq.mp hi with h | h
        · exact h3 i h ui
        · rw [h] at ui
          exact absurd ui u
theorem used_lt {bs : List Size} {stock : Nat} {x : Size} {n j : Nat} (h : used bs stock x n = some j) : j < n := by
  have z := used_is bs stock x n
  rw [h] at z
  exact z.1

/-! ### the least of a list -/
theorem least_is {α : Type} (g : α → Nat) : ∀ (l : List α) (m : Nat), l.foldl (fun least e => min least (g e)) m ≤ m ∧ (∀ e ∈ l, l.foldl (fun least e => min least (g e)) m ≤ g e) ∧
    (l.foldl (fun least e => min least (g e)) m = m ∨ ∃ e ∈ l, l.foldl (fun least e => min least (g e)) m = g e)
  | [], m => ⟨Nat.le_refl m, fun e h => by simp at h, .inl rfl⟩
  | a :: r, m => by
    obtain ⟨h1, h2, h3⟩ := least_is g r (min m (g a))
    rw [List.foldl_cons]
    refine ⟨Nat.le_trans h1 (Nat.min_le_left ..), fun e he => ?_, ?_⟩
    · rcases List.mem_cons.mp he with z | z
      · rw [z]
        exact Nat.le_trans h1 (Nat.min_le_right ..)
      · exact h2 e z
    · rcases h3 with z | ⟨e, he, z⟩
      · rcases Nat.le_total m (g a) with q | q
        · left
          rw [z]
          exact Nat.min_eq_left q
        · right
          refine ⟨a, by simp, ?_⟩
          rw [z]
          exact Nat.min_eq_right q
      · exact .inr ⟨e, List.mem_cons_of_mem _ he, z⟩
theorem VS.vol {s : Size} (h : VS s) : volume s ≤ 8000 := by
  unfold VS at h
  unfold volume
  have h1 : s.a * s.b ≤ 20 * 20 := Nat.mul_le_mul h.1.2 h.2.1.2
  exact Nat.mul_le_mul h1 h.2.2.2
theorem sz_of {bs : List Size} {i : Nat} {s : Size} (h : bs[i]? = some s) : sz bs i = s := by
  unfold sz
  rw [List.getD_eq_getElem?_getD, h]
  rfl
theorem sz_get {bs : List Size} {i : Nat} (h : i < bs.length) : bs[i]? = some (sz bs i) := by
  rw [List.getElem?_eq_getElem h]
  congr 1
  exact (sz_of (List.getElem?_eq_getElem h)).symm
theorem sz_VS {bs : List Size} (hv : ∀ s ∈ bs, VS s) {i : Nat} (h : i < bs.length) : VS (sz bs i) := hv _ (List.mem_of_getElem? (sz_get h))
/-- who is in the list that itemCost goes through -/
theorem in_cost {bs : List Size} {stock : Nat} {x : Size} {e : Size × Nat} :
    e ∈ (bs.zipIdx.filter fun entry => hasBit stock entry.2 && fits x entry.1) ↔ e.2 < bs.length ∧ e.1 = sz bs e.2 ∧ usable bs stock x e.2 = true := by
  rw [List.mem_filter, List.mem_zipIdx_iff_getElem?]
  constructor
  · rintro ⟨h1, h2⟩
    have hl : e.2 < bs.length := (List.getElem?_eq_some_iff.mp h1).1
    have es := sz_of h1
    refine ⟨hl, es.symm, ?_⟩
    unfold usable
    rw [es]
    exact h2
  · rintro ⟨h1, h2, h3⟩
    refine ⟨?_, ?_⟩
    · rw [h2]
      exact sz_get h1
    · rw [h2]
      exact h3
theorem cost_is (bs : List Size) (stock : Nat) (x : Size) (hv : ∀ s ∈ bs, VS s) : itemCost bs stock x = match used bs stock x bs.length with
    | none => 100000
    | some j => volume (sz bs j) := by
  obtain ⟨h1, h2, h3⟩ := least_is (fun e : Size × Nat => volume e.1) (bs.zipIdx.filter fun entry => hasBit stock entry.2 && fits x entry.1) 100000
  have u := used_is bs stock x bs.length
  show List.foldl (fun least (entry : Size × Nat) => min least (volume entry.1)) 100000 _ = _
  cases e : used bs stock x bs.length with
  | none =>
    rw [e] at u
    rcases h3 with z | ⟨en, he, z⟩
    · exact z
    · have q := in_cost.mp he
      rw [u _ q.1] at q
      cases q.2.2
  | some j =>
    rw [e] at u
    obtain ⟨u1, u2, u3, u4⟩ := u
    have hj : ((sz bs j, j) : Size × Nat) ∈ (bs.zipIdx.filter fun entry => hasBit stock entry.2 && fits x entry.1) := in_cost.mpr ⟨u1, rfl, u2⟩
    refine Nat.le_antisymm (h2 _ hj) ?_
    show volume (sz bs j) ≤ _
    rcases h3 with z | ⟨en, he, z⟩
    · rw [z]
      exact Nat.le_trans (sz_VS hv u1).vol (by decide)
    · rw [z]
      have q := in_cost.mp he
      show volume (sz bs j) ≤ volume en.1
      rw [q.2.1]
      exact u3 _ q.1 q.2.2
theorem boxFor_is (bs : List Size) (stock : Nat) (x : Size) (hv : ∀ s ∈ bs, VS s) : Kbe3.boxFor bs stock x = used bs stock x bs.length := by
  have c := cost_is bs stock x hv
  have u := used_is bs stock x bs.length
  unfold Kbe3.boxFor
  cases e : used bs stock x bs.length with
  | none =>
    rw [e] at c
    rw [if_pos (show itemCost bs stock x = Kbe3.noBoxCost from c)]
  | some j =>
    rw [e] at c u
    obtain ⟨u1, u2, u3, u4⟩ := u
    have c1 : itemCost bs stock x = volume (sz bs j) := c
    have nb : ¬ itemCost bs stock x = Kbe3.noBoxCost := by
      rw [c1]
      have := (sz_VS hv u1).vol
      unfold Kbe3.noBoxCost
      omega
    rw [if_neg nb]
    have f : (bs.zipIdx.find? fun entry => hasBit stock entry.2 && fits x entry.1 && volume entry.1 == itemCost bs stock x) = some (sz bs j, j) := by
      rw [List.find?_eq_some_iff_getElem]
      refine ⟨?_, j, by rw [List.length_zipIdx]; exact u1, ?_, fun i hi => ?_⟩
      · show (usable bs stock x j && volume (sz bs j) == itemCost bs stock x) = true
        rw [u2, c1]
        simp
      · rw [List.getElem_zipIdx]
        have := sz_get u1
        rw [List.getElem?_eq_getElem u1] at this
        rw [Option.some.inj this, Nat.zero_add]
      · have il : i < bs.length := Nat.lt_trans hi u1
        rw [List.getElem_zipIdx]
        have := sz_get il
        rw [List.getElem?_eq_getElem il] at this
        rw [Option.some.inj this, Nat.zero_add]
        show (!(usable bs stock x i && volume (sz bs i) == itemCost bs stock x)) = true
        rw [c1]
        cases ui : usable bs stock x i with
        | false => rfl
        | true =>
          have := u4 i hi ui
          rw [Bool.true_and, Bool.not_eq_true', beq_eq_false_iff_ne]
          omega
    rw [f]
    rfl

/-! ### sums over the items -/
def part (g : Item → Nat) (ts : List Item) (n : Nat) : Nat := (((ts.take n).map g).foldl (· + ·) 0)
theorem foldl_add_last (l : List Nat) (x m : Nat) : (l ++ [x]).foldl (· + ·) m = l.foldl (· + ·) m + x := by
  rw [List.foldl_append]
  rfl
theorem take_more {α : Type} {l : List α} {i : Nat} {x : α} (h : l[i]? = some x) : l.take (i + 1) = l.take i ++ [x] := by
  rw [List.take_add_one, h]
  rfl
theorem part_succ {g : Item → Nat} {ts : List Item} {n : Nat} {t : Item} (h : ts[n]? = some t) : part g ts (n + 1) = part g ts n + g t := by
  unfold part
  rw [take_more h, List.map_append, List.map_singleton, foldl_add_last]
theorem part_all (g : Item → Nat) (ts : List Item) : part g ts ts.length = (ts.map g).foldl (· + ·) 0 := by
  unfold part
  rw [List.take_length]
/-- an item's place in a total cost -/
abbrev costOf (bs : List Size) (stock : Nat) : Item → Nat := fun item => item.quantity * itemCost bs stock item.size
abbrev volOf : Item → Nat := fun item => item.quantity * volume item.size
theorem total_is (bs : List Size) (ts : List Item) (stock : Nat) : part (costOf bs stock) ts ts.length = totalCost bs ts stock := part_all _ _

/-! ### how many boxes -/
theorem card_succ (n s : Nat) : cardinality (n + 1) s = cardinality n s + (if hasBit s n = true then 1 else 0) := by
  unfold cardinality
  rw [List.range_succ, List.filter_append, List.length_append]
  cases h : hasBit s n <;> simp [h]
theorem hasBit_zero (i : Nat) : hasBit 0 i = false := by
  unfold hasBit
  rw [Nat.zero_div]
  rfl
theorem card_zero : ∀ n : Nat, cardinality n 0 = 0
  | 0 => rfl
  | n + 1 => by
    rw [card_succ, card_zero n, hasBit_zero]
    rfl

/-! ### the best stock -/
def better (bs : List Size) (ts : List Item) (best stock : Nat) : Nat :=
  if totalCost bs ts stock < totalCost bs ts best ∨ (totalCost bs ts stock = totalCost bs ts best ∧ cardinality bs.length stock < cardinality bs.length best) then stock else best
def bestN (bs : List Size) (ts : List Item) (limit n : Nat) : Nat :=
  ((List.range n).filter fun stock => decide (cardinality bs.length stock ≤ limit)).foldl (better bs ts) 0
theorem bestN_one (bs : List Size) (ts : List Item) (limit : Nat) : bestN bs ts limit 1 = 0 := by
  unfold bestN
  have e : (List.range 1).filter (fun stock => decide (cardinality bs.length stock ≤ limit)) = [0] := by
    show List.filter _ [0] = [0]
    rw [List.filter_cons_of_pos]
    · rfl
    · rw [card_zero]
      exact decide_eq_true (Nat.zero_le _)
  rw [e]
  show better bs ts 0 0 = 0
  unfold better
  split <;> rfl
theorem bestN_succ (bs : List Size) (ts : List Item) (limit n : Nat) : bestN bs ts limit (n + 1) = if cardinality bs.length n ≤ limit then better bs ts (bestN bs ts limit n) n else bestN bs ts limit n := by
  unfold bestN
  rw [List.range_succ, List.filter_append, List.foldl_append]
  by_cases h : cardinality bs.length n ≤ limit
  · have e : [n].filter (fun stock => decide (cardinality bs.length stock ≤ limit)) = [n] := by simp [h]
    rw [if_pos h, e]
    rfl
  · have e : [n].filter (fun stock => decide (cardinality bs.length stock ≤ limit)) = [] := by simp [h]
    rw [if_neg h, e]
    rfl
theorem bestN_all (bs : List Size) (ts : List Item) (limit : Nat) : bestN bs ts limit (2 ^ bs.length) = Kbe3.bestStock bs ts limit := rfl
/-- the test of is_better -/
def isBetter (c u c0 u0 : Nat) : Bool := if c ≠ c0 then decide (c < c0) else decide (u < u0)
theorem isBetter_iff (c u c0 u0 : Nat) : isBetter c u c0 u0 = true ↔ (c < c0 ∨ (c = c0 ∧ u < u0)) := by
  unfold isBetter
  split
  · rw [decide_eq_true_eq]
    omega
  · rw [decide_eq_true_eq]
    omega
theorem better_of {bs : List Size} {ts : List Item} {best stock : Nat} (h : isBetter (totalCost bs ts stock) (cardinality bs.length stock) (totalCost bs ts best) (cardinality bs.length best) = true) : better bs ts best stock = stock :=
  if_pos ((isBetter_iff ..).mp h)
theorem better_not {bs : List Size} {ts : List Item} {best stock : Nat} (h : isBetter (totalCost bs ts stock) (cardinality bs.length stock) (totalCost bs ts best) (cardinality bs.length best) = false) : better bs ts best stock = best :=
  if_neg fun z => by
    rw [(isBetter_iff ..).mpr z] at h
    cases h

/-! ### bits -/
theorem hasBit_iff {s i : Nat} : hasBit s i = true ↔ s / 2 ^ i % 2 = 1 := by
  unfold hasBit
  rw [beq_iff_eq]
theorem hasBit_not {s i : Nat} : hasBit s i = false ↔ s / 2 ^ i % 2 = 0 := by
  have h := @hasBit_iff s i
  cases e : hasBit s i with
  | false =>
    rw [e] at h
    have : s / 2 ^ i % 2 < 2 := Nat.mod_lt _ (by decide)
    simp only [Bool.false_eq_true, false_iff] at h
    constructor
    · intro _
      omega
    · intro _
      rfl
  | true =>
    rw [e] at h
    have := h.mp rfl
    constructor
    · intro z
      cases z
    · intro z
      omega
theorem bit_add {s i : Nat} (h : hasBit s i = false) (j : Nat) : hasBit (s + 2 ^ i) j = (hasBit s j || decide (j = i)) := by
  have h0 := hasBit_not.mp h
  have p : 0 < 2 ^ i := Nat.two_pow_pos i
  -- s = 2 ^ (i + 1) * q + r
  have es : s = 2 ^ (i + 1) * (s / 2 ^ (i + 1)) + s % 2 ^ (i + 1) := (Nat.div_add_mod _ _).symm
  have e2 : s / 2 ^ (i + 1) = s / 2 ^ i / 2 := by rw [Nat.pow_succ, Nat.div_div_eq_div_mul]
  have e3 : s = 2 ^ i * (s / 2 ^ i) + s % 2 ^ i := (Nat.div_add_mod _ _).symm
  have e4 : (s + 2 ^ i) / 2 ^ i = s / 2 ^ i + 1 := by rw [Nat.add_div_right _ p]
  rcases Nat.lt_trichotomy j i with c | c | c
  · -- below
    rw [decide_eq_false (show ¬ j = i by omega), Bool.or_false]
    obtain ⟨d, rfl⟩ : ∃ d, i = j + 1 + d := ⟨i - (j + 1), by omega⟩
    have e : s + 2 ^ (j + 1 + d) = s + 2 ^ j * (2 * 2 ^ d) := by rw [Nat.pow_add, Nat.pow_succ, Nat.mul_assoc]
    unfold hasBit
    rw [e, Nat.add_mul_div_left _ _ (Nat.two_pow_pos j)]
    congr 1
    omega
  · subst c
    rw [decide_eq_true rfl, Bool.or_true, hasBit_iff, e4]
    omega
  · rw [decide_eq_false (show ¬ j = i by omega), Bool.or_false]
    obtain ⟨d, rfl⟩ : ∃ d, j = i + 1 + d := ⟨j - (i + 1), by omega⟩
    unfold hasBit
    have e : (s + 2 ^ i) / 2 ^ (i + 1 + d) = s / 2 ^ (i + 1 + d) := by
      rw [Nat.pow_add, ← Nat.div_div_eq_div_mul, ← Nat.div_div_eq_div_mul]
      congr 1
      rw [Nat.pow_succ, ← Nat.div_div_eq_div_mul, ← Nat.div_div_eq_div_mul, e4]
      omega
    rw [e]

/-! ### one box more never costs more -/
theorem itemCost_more {bs : List Size} {stock i : Nat} (h : hasBit stock i = false) (x : Size) : itemCost bs (stock + 2 ^ i) x ≤ itemCost bs stock x := by
  obtain ⟨a1, a2, _⟩ := least_is (fun e : Size × Nat => volume e.1) (bs.zipIdx.filter fun entry => hasBit (stock + 2 ^ i) entry.2 && fits x entry.1) 100000
  obtain ⟨_, _, b3⟩ := least_is (fun e : Size × Nat => volume e.1) (bs.zipIdx.filter fun entry => hasBit stock entry.2 && fits x entry.1) 100000
  show List.foldl (fun least (entry : Size × Nat) => min least (volume entry.1)) 100000 _ ≤ List.foldl (fun least (entry : Size × Nat) => min least (volume entry.1)) 100000 _
  rcases b3 with z | ⟨e, he, z⟩
  · rw [z]
    exact a1
  · rw [z]
    have q := in_cost.mp he
    refine a2 e (in_cost.mpr ⟨q.1, q.2.1, ?_⟩)
    have q2 := Bool.and_eq_true_iff.mp q.2.2
    unfold usable
    rw [bit_add h, q2.1, q2.2] <;> rfl
theorem foldl_add_le {g g' : Item → Nat} (h : ∀ t, g t ≤ g' t) : ∀ (ts : List Item) (m m' : Nat) (_ : m ≤ m'), (ts.map g).foldl (· + ·) m ≤ (ts.map g').foldl (· + ·) m'
  | [], m, m', k => k
  | t :: r, m, m', k => foldl_add_le h r (m + g t) (m' + g' t) (Nat.add_le_add k (h t))
theorem total_more {bs : List Size} {ts : List Item} {stock i : Nat} (h : hasBit stock i = false) : totalCost bs ts (stock + 2 ^ i) ≤ totalCost bs ts stock :=
  foldl_add_le (fun t => Nat.mul_le_mul_left t.quantity (itemCost_more h t.size)) ts 0 0 (Nat.le_refl 0)

/-! ### the greedy stock -/
def gain (bs : List Size) (ts : List Item) (stock : Nat) (best : Option Nat) (i : Nat) : Option Nat :=
  if hasBit stock i = true then best
  else match best with
    | none => if totalCost bs ts (stock + 2 ^ i) < totalCost bs ts stock then some i else none
    | some j => if totalCost bs ts (stock + 2 ^ i) < totalCost bs ts (stock + 2 ^ j) then some i else some j
def gains (bs : List Size) (ts : List Item) (stock n : Nat) : Option Nat := (List.range n).foldl (gain bs ts stock) none
theorem gains_succ (bs : List Size) (ts : List Item) (stock n : Nat) : gains bs ts stock (n + 1) = gain bs ts stock (gains bs ts stock n) n := by
  unfold gains
  rw [List.range_succ, List.foldl_append]
  rfl
/-- the cost that greedy_step keeps beside its box -/
def gcost (bs : List Size) (ts : List Item) (stock : Nat) : Option Nat → Nat
  | none => totalCost bs ts stock
  | some j => totalCost bs ts (stock + 2 ^ j)
theorem gain_is (bs : List Size) (ts : List Item) (stock : Nat) (best : Option Nat) (i : Nat) : gain bs ts stock best i =
    if hasBit stock i = true then best else if totalCost bs ts (stock + 2 ^ i) < gcost bs ts stock best then some i else best := by
  unfold gain
  cases best <;> rfl
def sgain (bs : List Size) (ts : List Item) (stock : Nat) (best : Option Nat) (index : Nat) : Option Nat :=
  if hasBit stock index then best
  else match best with
    | none => some index
    | some previous =>
      if totalCost bs ts (stock + 2 ^ index) < totalCost bs ts (stock + 2 ^ previous)
      then some index else best
def sgains (bs : List Size) (ts : List Item) (stock n : Nat) : Option Nat := (List.range n).foldl (sgain bs ts stock) none
theorem sgains_succ (bs : List Size) (ts : List Item) (stock n : Nat) : sgains bs ts stock (n + 1) = sgain bs ts stock (sgains bs ts stock n) n := by
  unfold sgains
  rw [List.range_succ, List.foldl_append]
  rfl
theorem gains_spec (bs : List Size) (ts : List Item) (stock : Nat) : ∀ n : Nat, gains bs ts stock n = match sgains bs ts stock n with
    | none => none
    | some j => if totalCost bs ts (stock + 2 ^ j) < totalCost bs ts stock then some j else none
  | 0 => rfl
  | n + 1 => by
    have ih := gains_spec bs ts stock n
    rw [gains_succ, sgains_succ, ih, gain_is]
    unfold sgain
    by_cases b : hasBit stock n = true
    · rw [if_pos b, if_pos b]
    · rw [if_neg b, if_neg b]
      cases e : sgains bs ts stock n with
      | none => rfl
      | some j =>
        show (if totalCost bs ts (stock + 2 ^ n) < gcost bs ts stock (if totalCost bs ts (stock + 2 ^ j) < totalCost bs ts stock then some j else none) then some n else (if totalCost bs ts (stock + 2 ^ j) < totalCost bs ts stock then some j else none)) =
          match (if totalCost bs ts (stock + 2 ^ n) < totalCost bs ts (stock + 2 ^ j) then some n else some j) with
          | none => none
          | some j => if totalCost bs ts (stock + 2 ^ j) < totalCost bs ts stock then some j else none
        by_cases c1 : totalCost bs ts (stock + 2 ^ j) < totalCost bs ts stock
        · rw [if_pos c1]
          show (if totalCost bs ts (stock + 2 ^ n) < totalCost bs ts (stock + 2 ^ j) then some n else some j) = _
          by_cases c2 : totalCost bs ts (stock + 2 ^ n) < totalCost bs ts (stock + 2 ^ j)
          · rw [if_pos c2]
            exact (if_pos (Nat.lt_trans c2 c1)).symm
          · rw [if_neg c2]
            exact (if_pos c1).symm
        · rw [if_neg c1]
          show (if totalCost bs ts (stock + 2 ^ n) < totalCost bs ts stock then some n else none) = _
          by_cases c2 : totalCost bs ts (stock + 2 ^ n) < totalCost bs ts (stock + 2 ^ j)
          · rw [if_pos c2]
          · rw [if_neg c2]
            have c3 : ¬ totalCost bs ts (stock + 2 ^ n) < totalCost bs ts stock := by omega
            rw [if_neg c3]
            exact (if_neg c1).symm
theorem greedy_step (bs : List Size) (ts : List Item) (limit stock : Nat) : Kbe3.greedyFrom bs ts (limit + 1) stock = match gains bs ts stock bs.length with
    | none => stock
    | some i => Kbe3.greedyFrom bs ts limit (stock + 2 ^ i) := by
  rw [gains_spec]
  show (match sgains bs ts stock bs.length with
    | none => stock
    | some index => if totalCost bs ts (stock + 2 ^ index) < totalCost bs ts stock then Kbe3.greedyFrom bs ts limit (stock + 2 ^ index) else stock) = _
  cases sgains bs ts stock bs.length with
  | none => rfl
  | some j =>
    show (if totalCost bs ts (stock + 2 ^ j) < totalCost bs ts stock then Kbe3.greedyFrom bs ts limit (stock + 2 ^ j) else stock) =
      match (if totalCost bs ts (stock + 2 ^ j) < totalCost bs ts stock then some j else none) with
      | none => stock
      | some i => Kbe3.greedyFrom bs ts limit (stock + 2 ^ i)
    by_cases c : totalCost bs ts (stock + 2 ^ j) < totalCost bs ts stock
    · rw [if_pos c, if_pos c]
    · rw [if_neg c, if_neg c]
/-- the box found is one of the first n and is not stocked -/
theorem gains_of (bs : List Size) (ts : List Item) (stock : Nat) : ∀ (n j : Nat), gains bs ts stock n = some j → j < n ∧ hasBit stock j = false
  | 0, j, h => by cases h
  | n + 1, j, h => by
    rw [gains_succ, gain_is] at h
    by_cases b : hasBit stock n = true
    · rw [if_pos b] at h
      have := gains_of bs ts stock n j h
      exact ⟨by omega, this.2⟩
    · rw [if_neg b] at h
      by_cases c : totalCost bs ts (stock + 2 ^ n) < gcost bs ts stock (gains bs ts stock n)
      · rw [if_pos c] at h
        have := Option.some.inj h
        subst this
        exact ⟨Nat.lt_succ_self _, Bool.not_eq_true _ ▸ b⟩
      · rw [if_neg c] at h
        have := gains_of bs ts stock n j h
        exact ⟨by omega, this.2⟩
/-- the boxes that are not stocked, so many of the first n -/
def room (n s : Nat) : Nat := n - cardinality n s
theorem card_le : ∀ n s : Nat, cardinality n s ≤ n
  | 0, s => Nat.le_refl 0
  | n + 1, s => by
    rw [card_succ]
    have := card_le n s
    split <;> omega
theorem card_lt {s i : Nat} (hb : hasBit s i = false) : ∀ n : Nat, i < n → cardinality n s < n
  | 0, h => absurd h (Nat.not_lt_zero i)
  | n + 1, h => by
    rw [card_succ]
    rcases Nat.lt_succ_iff_lt_or_eq.mp h with q | q
    · have := card_lt hb n q
      split <;> omega
    · subst q
      rw [if_neg (by rw [hb]; decide)]
      have := card_le i s
      omega
theorem card_add {s i : Nat} (hb : hasBit s i = false) : ∀ n : Nat, cardinality n (s + 2 ^ i) = cardinality n s + (if i < n then 1 else 0)
  | 0 => rfl
  | n + 1 => by
    rw [card_succ, card_succ, card_add hb n, bit_add hb]
    by_cases c : n = i
    · subst c
      rw [hb, decide_eq_true rfl, if_neg (Nat.lt_irrefl n), if_pos (Nat.lt_succ_self n)]
      rfl
    · rw [decide_eq_false c, Bool.or_false]
      by_cases d : i < n
      · rw [if_pos d, if_pos (show i < n + 1 by omega)]
        omega
      · rw [if_neg d, if_neg (show ¬ i < n + 1 by omega)]
        omega
/-- once there is room for no more than so many boxes, a higher limit gives nothing new -/
theorem greedy_enough (bs : List Size) (ts : List Item) : ∀ (m k stock : Nat), bs.length - cardinality bs.length stock ≤ m → Kbe3.greedyFrom bs ts (m + k) stock = Kbe3.greedyFrom bs ts m stock
  | 0, 0, stock, _ => rfl
  | 0, k + 1, stock, h => by
    rw [Nat.zero_add, greedy_step]
    cases e : gains bs ts stock bs.length with
    | none => rfl
    | some j =>
      have z := gains_of bs ts stock _ j e
      have := card_lt z.2 _ z.1
      omega
  | m + 1, k, stock, h => by
    rw [show m + 1 + k = (m + k) + 1 by omega, greedy_step, greedy_step]
    cases e : gains bs ts stock bs.length with
    | none => rfl
    | some j =>
      have z := gains_of bs ts stock _ j e
      have l := card_lt z.2 _ z.1
      have a := card_add z.2 bs.length
      rw [if_pos z.1] at a
      exact greedy_enough bs ts m k (stock + 2 ^ j) (by omega)
theorem greedy_limit {bs : List Size} (ts : List Item) (limit : Nat) (h : bs.length ≤ 7) : Kbe3.greedyFrom bs ts (min limit bs.length) 0 = Kbe3.greedyStock bs ts (min limit 7) := by
  unfold Kbe3.greedyStock
  rcases Nat.le_total limit bs.length with c | c
  · rw [Nat.min_eq_left c, Nat.min_eq_left (Nat.le_trans c h)]
  · rw [Nat.min_eq_right c]
    have z := greedy_enough bs ts bs.length (min limit 7 - bs.length) 0 (Nat.sub_le _ _)
    rw [show bs.length + (min limit 7 - bs.length) = min limit 7 by omega] at z
    exact z.symm

/-! ### fitting -/
theorem perm_sum {l m : List Int} (h : List.Perm l m) : l.sum = m.sum := by
  induction h with
  | nil => rfl
  | cons x _ ih => rw [List.sum_cons, List.sum_cons, ih]
  | swap x y l =>
    rw [List.sum_cons, List.sum_cons, List.sum_cons, List.sum_cons]
    omega
  | trans _ _ h1 h2 => exact h1.trans h2
theorem sorted_of {a b c x y z : Int} (hp : List.Perm [x, y, z] [a, b, c]) (h1 : x ≤ y) (h2 : y ≤ z) : x = min a (min b c) ∧ z = max a (max b c) ∧ y = a + b + c - x - z := by
  have s := perm_sum hp
  have mx : x ∈ [a, b, c] := hp.mem_iff.mp (by simp)
  have mz : z ∈ [a, b, c] := hp.mem_iff.mp (by simp)
  have ma : a ∈ [x, y, z] := hp.mem_iff.mpr (by simp)
  have mb : b ∈ [x, y, z] := hp.mem_iff.mpr (by simp)
  have mc : c ∈ [x, y, z] := hp.mem_iff.mpr (by simp)
  simp only [List.mem_cons, List.not_mem_nil, or_false] at mx mz ma mb mc
  simp only [List.sum_cons, List.sum_nil] at s
  omega
end Bx

/-! ### words over the layer: calls, tests, constants -/
namespace Bx
open PySem PySem.Spec PyProof.Rows L2 Evl
/-- a module's whole number by its name -/
abbrev GI (mg : Str → Option Value) (x : Str) (i : Int) : Prop := ∃ t, mg x = some (.int i t)
theorem pe_gi {X : Cx} {x : Str} {i : Int} {pos : Pos} (hg : Gl X x) (h : GI X.mg x i) (hd : (x == ("__debug__" : Str)) = false := by decide) : PE X (.Name x pos) (tC (.int i)) := by
  obtain ⟨t, e⟩ := h
  exact pe_glob hg e ⟨t, rfl⟩ hd
/-- a def that is called by its name -/
def Ca (P : Program) (w : World) (K : PySem.W.Frag) (mg : Str → Option Value) (base : Heap) (k : Nat) (x : Str) (ps : List Str) (sp : Sp) : Prop :=
  ∃ (f : Addr) (fd : FuncData), FnOk P w K mg base CX0 k f fd ps sp ∧ mg x = some (.ref f) ∧ PySem.W.keepIn K (.ref f) = true ∧ Binds K fd ps []
theorem pe_ca {X : Cx} {k : Nat} {x : Str} {ps : List Str} {sp : Sp} {p pos : Pos} {e : Expr} {es : List Expr} {t : TA} (hc : Ca X.prog X.w X.K X.mg X.base k x ps sp) (hr : Room k X.A) (hg : Gl X x) (ha : PA X (e :: es) t)
    (hdb : (x == ("__debug__" : Str)) = false := by decide) (he : starEach (e :: es) X.env = (false, eval e X.env) :: starEach es X.env := by rfl) (hpl : (backTo pos (starEach (e :: es) X.env)).any (·.1) = false := by rfl) :
    PE X (.Call (.Name x p) (e :: es) [] pos) (tCall sp [] E0 t) := by
  obtain ⟨f, fd, G, hm, hk, hb⟩ := hc
  exact pe_call G hr hg hm hk hb .nil pass0 ha hdb he (by
    rw [he] at hpl
    exact hpl)
theorem Ca.mono {P : Program} {w : World} {K : PySem.W.Frag} {mg : Str → Option Value} {base : Heap} {j k : Nat} {x : Str} {ps : List Str} {sp : Sp} (h : Ca P w K mg base j x ps sp) (hk : j ≤ k) : Ca P w K mg base k x ps sp := by
  obtain ⟨f, fd, G, r⟩ := h
  exact ⟨f, fd, G.mono hk, r⟩
section
variable {K : PySem.W.Frag} {σ : L2.St} {H H' : Hp} {ta tb te : TE} {tr : TA} {x z v : V} {xs : List V}
/-- arguments, told by what holds of their values -/
def EvP (ta : TA) (σ : L2.St) (H : Hp) (Pr : List V → Hp → Prop) : Prop := ∀ H1, Ex H H1 → ∀ Q : List V → Hp → Prop, (∀ vs H2, Ex H1 H2 → Pr vs H2 → Q vs H2) → ta σ H1 Q
theorem ep_nil : EvP tNil σ H (fun vs _ => vs = []) := fun H1 _ _ q => q [] H1 (Ex.refl H1) rfl
theorem ep_val {Pr : List V → Hp → Prop} (h : Ev ta σ H x) (hr : EvP tr σ H Pr) : EvP (tCons ta tr) σ H (fun vs H' => ∃ r, vs = x :: r ∧ Pr r H') := fun H1 e _ q =>
  h H1 e _ fun H2 e2 => hr H2 (e.trans e2) _ fun vs H3 e3 p => q _ H3 (e2.trans e3) ⟨vs, rfl, p⟩
theorem ep_lst {Pr : List V → Hp → Prop} (h : EvL ta σ H xs) (hr : EvP tr σ H Pr) : EvP (tCons ta tr) σ H (fun vs H' => ∃ p r, vs = .ref p :: r ∧ H' p = some (.lst xs) ∧ Pr r H') := fun H1 e _ q =>
  h H1 e _ fun p H2 _ e2 hp => hr H2 (e.trans e2) _ fun vs H3 e3 pr => q _ H3 (e2.trans e3) ⟨p, vs, rfl, e3 p _ hp, pr⟩
theorem ev_ca (z : V) {sp : Sp} {Pr : List V → Hp → Prop} {E : XK} (h : EvP tr σ H Pr) (hs : ∀ vs H', Ex H H' → Pr vs H' → SpV sp vs H' z) : Ev (tCall sp [] E tr) σ H z := fun H1 e Q q =>
  h H1 e _ fun vs H2 e2 pr => by
    show sp (vs ++ []) H2 Q E
    rw [List.append_nil]
    exact hs vs H2 (e.trans e2) pr H2 (Ex.refl H2) Q (fun H3 e3 => q H3 (e2.trans e3)) E
theorem el_ca (xs : List V) {sp : Sp} {Pr : List V → Hp → Prop} {E : XK} (h : EvP tr σ H Pr) (hs : ∀ vs H', Ex H H' → Pr vs H' → SpL sp vs H' xs) : EvL (tCall sp [] E tr) σ H xs := fun H1 e Q q =>
  h H1 e _ fun vs H2 e2 pr => by
    show sp (vs ++ []) H2 Q E
    rw [List.append_nil]
    exact hs vs H2 (e.trans e2) pr H2 (Ex.refl H2) Q (fun p H3 hp e3 h3 => q p H3 (fresh_back e2 hp) (e2.trans e3) h3) E
/-- a promise that hands back a new tuple -/
def SpU (sp : Sp) (vs : List V) (H : Hp) (xs : List V) : Prop := ∀ H1, Ex H H1 → ∀ Q : VK, (∀ p H2, H1 p = none → Ex H1 H2 → H2 p = some (.tup xs) → Q (.ref p) H2) → ∀ E : XK, sp vs H1 Q E
def RetU (xs : List V) (H : Hp) (Q : VK) : Prop := ∀ p H2, H p = none → Ex H H2 → H2 p = some (.tup xs) → Q (.ref p) H2
theorem eu_ca (xs : List V) {sp : Sp} {Pr : List V → Hp → Prop} {E : XK} (h : EvP tr σ H Pr) (hs : ∀ vs H', Ex H H' → Pr vs H' → SpU sp vs H' xs) : EvU (tCall sp [] E tr) σ H xs := fun H1 e Q q =>
  h H1 e _ fun vs H2 e2 pr => by
    show sp (vs ++ []) H2 Q E
    rw [List.append_nil]
    exact hs vs H2 (e.trans e2) pr H2 (Ex.refl H2) Q (fun p H3 hp e3 h3 => q p H3 (fresh_back e2 hp) (e2.trans e3) h3) E
theorem ev_cmp {p : Int → Int → Bool} {i j : Int} (ha : Ev ta σ H (.int i)) (hb : Ev tb σ H (.int j)) : Ev (tCmp p ta tb) σ H (.bl (p i j)) := fun H1 e _ q =>
  ha H1 e _ fun H2 e2 => hb H2 (e.trans e2) _ fun H3 e3 => ⟨i, j, rfl, rfl, q H3 (e2.trans e3)⟩
theorem ev_lenI {p : Addr} {ns : List Int} (ha : Ev ta σ H (.ref p)) (h : SqL K H p (ns.map V.int)) : Ev (tCB (rLenS K) (tCons ta tNil)) σ H (.int (ns.length : Int)) := by
  have z := ev_len ha h
  rw [List.length_map] at z
  exact z
theorem ev_bl {a b : Bool} (h : Ev te σ H (.bl a)) (e : a = b) : Ev te σ H (.bl b) := e ▸ h
theorem ev_in {a b : Int} (h : Ev te σ H (.int a)) (e : a = b) : Ev te σ H (.int b) := e ▸ h
theorem ea_one {a b : Int} (h : Ev te σ H (.int a)) (e : a = b) : EvA (tCons te tNil) σ H [.int b] := e ▸ ea_cons h ea_nil
end
/-- an item of a list of whole numbers -/
theorem map_get {ns : List Int} {i : Nat} {y : V} (h : (ns.map V.int)[i]? = some y) : ∃ z, ns[i]? = some z ∧ y = .int z := by
  rw [List.getElem?_map] at h
  cases e : ns[i]? with
  | none =>
    rw [e] at h
    cases h
  | some z =>
    rw [e] at h
    exact ⟨z, rfl, (Option.some.inj h).symm⟩
theorem get_map {ns : List Int} {i : Nat} {z : Int} (h : ns[i]? = some z) : (ns.map V.int)[i]? = some (.int z) := by
  rw [List.getElem?_map, h]
  rfl
/-- a slice of three -/
theorem cut3 {ns : List Int} {k : Nat} (h : k + 3 ≤ ns.length) : cutV (ns.map V.int) (some (k : Int)) (some ((k : Int) + 3)) = ((ns.drop k).take 3).map V.int := by
  have e : ((k : Int) + 3) = ((k + 3 : Nat) : Int) := by omega
  unfold cutV
  rw [e, HT.sIx_nat, HT.sIx_nat, List.length_map, Nat.min_eq_left (show k ≤ ns.length by omega), Nat.min_eq_left h, show k + 3 - k = 3 by omega, List.map_take, List.map_drop]
end Bx

/-! ### the text -/
namespace Bx
open PySem PySem.Spec PyProof.Rows L2 Evl
def topS (i : Nat) : Stmt := PySem.Challenge.pw_boxeskept_s08_empty_space.main.body.getD i (.Pass ⟨0, 0, 0, 0⟩)
abbrev s_power_of_two : Stmt := topS 1
theorem sc_power_of_two : FnScope ["exponent", "product", "turn"] ["exponent"] (defScope s_power_of_two) := ⟨rfl, rfl, rfl, by decide +kernel, rfl, by decide +kernel, by decide +kernel⟩
abbrev s_is_stock : Stmt := topS 2
theorem sc_is_stock : FnScope ["stock", "count"] ["stock", "count"] (defScope s_is_stock) := ⟨rfl, rfl, rfl, by decide +kernel, rfl, by decide +kernel, by decide +kernel⟩
abbrev s_is_stocked : Stmt := topS 3
theorem sc_is_stocked : FnScope ["stock", "box"] ["stock", "box"] (defScope s_is_stocked) := ⟨rfl, rfl, rfl, by decide +kernel, rfl, by decide +kernel, by decide +kernel⟩
abbrev s_is_between : Stmt := topS 15
theorem sc_is_between : FnScope ["number", "least", "most"] ["number", "least", "most"] (defScope s_is_between) := ⟨rfl, rfl, rfl, by decide +kernel, rfl, by decide +kernel, by decide +kernel⟩
abbrev s_are_edges : Stmt := topS 16
theorem sc_are_edges : FnScope ["numbers", "number"] ["numbers"] (defScope s_are_edges) := ⟨rfl, rfl, rfl, by decide +kernel, rfl, by decide +kernel, by decide +kernel⟩
abbrev s_are_boxes : Stmt := topS 17
theorem sc_are_boxes : FnScope ["boxes"] ["boxes"] (defScope s_are_boxes) := ⟨rfl, rfl, rfl, by decide +kernel, rfl, by decide +kernel, by decide +kernel⟩
abbrev s_is_item : Stmt := topS 18
theorem sc_is_item : FnScope ["edges", "quantity"] ["edges", "quantity"] (defScope s_is_item) := ⟨rfl, rfl, rfl, by decide +kernel, rfl, by decide +kernel, by decide +kernel⟩
abbrev s_are_items : Stmt := topS 19
theorem sc_are_items : FnScope ["items", "item", "begin"] ["items"] (defScope s_are_items) := ⟨rfl, rfl, rfl, by decide +kernel, rfl, by decide +kernel, by decide +kernel⟩
abbrev s_volume_of : Stmt := topS 21
theorem sc_volume_of : FnScope ["size"] ["size"] (defScope s_volume_of) := ⟨rfl, rfl, rfl, by decide +kernel, rfl, by decide +kernel, by decide +kernel⟩
abbrev s_is_fitting : Stmt := topS 22
theorem sc_is_fitting : FnScope ["item_size", "box_size", "small", "large"] ["item_size", "box_size"] (defScope s_is_fitting) := ⟨rfl, rfl, rfl, by decide +kernel, rfl, by decide +kernel, by decide +kernel⟩
abbrev s_box_count : Stmt := topS 23
theorem sc_box_count : FnScope ["boxes"] ["boxes"] (defScope s_box_count) := ⟨rfl, rfl, rfl, by decide +kernel, rfl, by decide +kernel, by decide +kernel⟩
abbrev s_box_size_at : Stmt := topS 24
theorem sc_box_size_at : FnScope ["boxes", "box", "begin"] ["boxes", "box"] (defScope s_box_size_at) := ⟨rfl, rfl, rfl, by decide +kernel, rfl, by decide +kernel, by decide +kernel⟩
abbrev s_item_count : Stmt := topS 25
theorem sc_item_count : FnScope ["items"] ["items"] (defScope s_item_count) := ⟨rfl, rfl, rfl, by decide +kernel, rfl, by decide +kernel, by decide +kernel⟩
abbrev s_item_size_at : Stmt := topS 26
theorem sc_item_size_at : FnScope ["items", "item", "begin"] ["items", "item"] (defScope s_item_size_at) := ⟨rfl, rfl, rfl, by decide +kernel, rfl, by decide +kernel, by decide +kernel⟩
abbrev s_quantity_at : Stmt := topS 27
theorem sc_quantity_at : FnScope ["items", "item"] ["items", "item"] (defScope s_quantity_at) := ⟨rfl, rfl, rfl, by decide +kernel, rfl, by decide +kernel, by decide +kernel⟩
abbrev s_is_usable : Stmt := topS 29
theorem sc_is_usable : FnScope ["stock", "boxes", "box", "size"] ["stock", "boxes", "box", "size"] (defScope s_is_usable) := ⟨rfl, rfl, rfl, by decide +kernel, rfl, by decide +kernel, by decide +kernel⟩
abbrev s_box_used : Stmt := topS 30
theorem sc_box_used : FnScope ["stock", "boxes", "size", "best", "box"] ["stock", "boxes", "size"] (defScope s_box_used) := ⟨rfl, rfl, rfl, by decide +kernel, rfl, by decide +kernel, by decide +kernel⟩
abbrev s_item_cost : Stmt := topS 31
theorem sc_item_cost : FnScope ["stock", "boxes", "size", "box"] ["stock", "boxes", "size"] (defScope s_item_cost) := ⟨rfl, rfl, rfl, by decide +kernel, rfl, by decide +kernel, by decide +kernel⟩
abbrev s_stock_cost : Stmt := topS 32
theorem sc_stock_cost : FnScope ["stock", "boxes", "items", "total", "item"] ["stock", "boxes", "items"] (defScope s_stock_cost) := ⟨rfl, rfl, rfl, by decide +kernel, rfl, by decide +kernel, by decide +kernel⟩
abbrev s_items_volume : Stmt := topS 33
theorem sc_items_volume : FnScope ["items", "total", "item"] ["items"] (defScope s_items_volume) := ⟨rfl, rfl, rfl, by decide +kernel, rfl, by decide +kernel, by decide +kernel⟩
abbrev s_are_lists : Stmt := topS 35
theorem sc_are_lists : FnScope ["boxes", "items"] ["boxes", "items"] (defScope s_are_lists) := ⟨rfl, rfl, rfl, by decide +kernel, rfl, by decide +kernel, by decide +kernel⟩
abbrev s_empty_space : Stmt := topS 36
theorem sc_empty_space : FnScope ["stock", "boxes", "items"] ["stock", "boxes", "items"] (defScope s_empty_space) := ⟨rfl, rfl, rfl, by decide +kernel, rfl, by decide +kernel, by decide +kernel⟩
section
variable {P : Program} {w : World} {K : PySem.W.Frag} {mg : Str → Option Value} {base : Heap}
/-! #### power_of_two -/
def sp_power_of_two : Sp := fun vs H Q _ => ∃ n : Nat, vs = [.int (n : Int)] ∧ n ≤ 1000 ∧ RetV (.int ((2 ^ n : Nat) : Int)) H Q
theorem sv_power_of_two {n : Nat} {H : Hp} (h : n ≤ 1000) : SpV sp_power_of_two [.int (n : Int)] H (.int ((2 ^ n : Nat) : Int)) := fun _ _ _ q _ => ⟨n, rfl, h, q⟩
theorem two_more (i : Nat) : ((2 ^ i : Nat) : Int) * 2 = ((2 ^ (i + 1) : Nat) : Int) := by
  rw [Nat.pow_succ]
  exact (Int.natCast_mul _ _).symm
theorem ok_power_of_two {f : Addr} {fd : FuncData} {k : Nat} (F : Fun K "power_of_two" "power_of_two" s_power_of_two f fd) (mrange : mg "range" = none) : FnOk P w K mg base CX0 (k + 1) f fd ["exponent"] sp_power_of_two := by
  refine F.ok sc_power_of_two (fun vs H Q E h => ?_) (fun cdv A outer s H vs Q E hr h => ?_)
  · obtain ⟨n, rfl, _⟩ := h
    rfl
  · obtain ⟨n, rfl, hn, q⟩ := h
    refine ⟨_, pss_cons (ps_set (i := 1) sc_power_of_two.nd rfl (.inl rfl) pe_int)
      (pss_cons (ps_for PassesOwn.never rfl (pi_range1 (by rfl) mrange (pa_cons (pv 0) pa_nil)) (pg_name (i := 2) sc_power_of_two.nd rfl (.inl rfl))
        (pss_one (ps_set (i := 1) sc_power_of_two.nd rfl (.inl rfl) (pe_op op_mul (pv 1) pe_int))))
      (pss_one (ps_ret (pv 1)))), ?_⟩
    refine q_asg ev_c fun H1 e1 => ?_
    refine q_forR1 (n := (n : Int)) (ea_cons (ev_var rfl) ea_nil) ⟨by omega, by omega⟩ (fun i σ' H' => ∃ y, σ' = [some (.int (n : Int)), some (.int ((2 ^ i : Nat) : Int)), y] ∧ Ex H H') (fun H2 e2 => ⟨none, rfl, e1.trans e2⟩) ?_ ?_
    · rintro i σ' H' hi ⟨y, rfl, e2⟩
      refine s_asg (ev_in (ev_op (ev_var rfl) ev_c (rv_I (.inr ⟨by decide, by decide⟩))) (two_more i)) fun H3 e3 => ⟨_, rfl, e2.trans e3⟩
    · rintro σ' H' ⟨y, rfl, e2⟩
      exact s_ret (ev_var rfl) fun H3 e3 => q H3 (e2.trans e3)
/-! #### is_stock -/
def sp_is_stock : Sp := fun vs H Q _ => ∃ st n : Nat, vs = [.int (st : Int), .int (n : Int)] ∧ n ≤ 1000 ∧ RetV (.bl (decide (st < 2 ^ n))) H Q
theorem sv_is_stock {st n : Nat} {H : Hp} (h : n ≤ 1000) : SpV sp_is_stock [.int (st : Int), .int (n : Int)] H (.bl (decide (st < 2 ^ n))) := fun _ _ _ q _ => ⟨st, n, rfl, h, q⟩
theorem ok_is_stock {f : Addr} {fd : FuncData} {k : Nat} (F : Fun K "is_stock" "is_stock" s_is_stock f fd) (c1 : Ca P w K mg base k "power_of_two" ["exponent"] sp_power_of_two) : FnOk P w K mg base CX0 (k + 1) f fd ["stock", "count"] sp_is_stock := by
  refine F.ok sc_is_stock (fun vs H Q E h => ?_) (fun cdv A outer s H vs Q E hr h => ?_)
  · obtain ⟨st, n, rfl, _⟩ := h
    rfl
  · obtain ⟨st, n, rfl, hn, q⟩ := h
    refine ⟨_, pss_one (ps_ret (pe_cmp (pc_lt (pv 0) (pe_ca c1 hr (by rfl) (pa_cons (pv 1) pa_nil))))), ?_⟩
    refine s_ret (ev_bl (ev_cmp (ev_var rfl) (ev_ca (.int ((2 ^ n : Nat) : Int)) (ep_val (ev_var rfl) ep_nil) ?_)) (decide_eq_decide.mpr Int.ofNat_lt)) q
    rintro vs H2 e2 ⟨_, rfl, rfl⟩
    exact sv_power_of_two hn
/-! #### is_stocked -/
def sp_is_stocked : Sp := fun vs H Q _ => ∃ st i : Nat, vs = [.int (st : Int), .int (i : Int)] ∧ i ≤ 7 ∧ RetV (.bl (Kbe3.hasBit st i)) H Q
theorem sv_is_stocked {st i : Nat} {H : Hp} (h : i ≤ 7) : SpV sp_is_stocked [.int (st : Int), .int (i : Int)] H (.bl (Kbe3.hasBit st i)) := fun _ _ _ q _ => ⟨st, i, rfl, h, q⟩
theorem pow7 {i : Nat} (h : i ≤ 7) : 2 ^ i ≤ 128 := Nat.pow_le_pow_right (by decide : 0 < 2) h
theorem bit_int (st i : Nat) : decide ((st : Int) / ((2 ^ i : Nat) : Int) % 2 = 1) = Kbe3.hasBit st i := by
  unfold Kbe3.hasBit
  rw [Bool.eq_iff_iff, decide_eq_true_eq, beq_iff_eq, ← Int.natCast_ediv]
  omega
theorem ok_is_stocked {f : Addr} {fd : FuncData} {k : Nat} (F : Fun K "is_stocked" "is_stocked" s_is_stocked f fd) (c1 : Ca P w K mg base k "power_of_two" ["exponent"] sp_power_of_two) : FnOk P w K mg base CX0 (k + 1) f fd ["stock", "box"] sp_is_stocked := by
  refine F.ok sc_is_stocked (fun vs H Q E h => ?_) (fun cdv A outer s H vs Q E hr h => ?_)
  · obtain ⟨st, i, rfl, _⟩ := h
    rfl
  · obtain ⟨st, i, rfl, hi, q⟩ := h
    refine ⟨_, pss_one (ps_ret (pe_cmp (pc_eqI (pe_op op_mod (pe_op op_fdiv (pv 0) (pe_ca c1 hr (by rfl) (pa_cons (pv 1) pa_nil))) pe_int) pe_int))), ?_⟩
    have p0 : 0 < 2 ^ i := Nat.two_pow_pos i
    have p7 := pow7 hi
    refine s_ret (ev_bl (ev_cmp (ev_op (ev_op (ev_var rfl) (ev_ca (.int ((2 ^ i : Nat) : Int)) (ep_val (ev_var rfl) ep_nil) ?_) (rv_I ⟨by omega, by omega⟩)) ev_c (rv_I (by decide))) ev_c) (bit_int st i)) q
    rintro vs H2 e2 ⟨_, rfl, rfl⟩
    exact sv_power_of_two (by omega)
/-! #### is_between -/
def sp_is_between : Sp := fun vs H Q _ => ∃ n l m : Int, vs = [.int n, .int l, .int m] ∧ RetV (.bl (decide (l ≤ n) && decide (n ≤ m))) H Q
theorem sv_is_between (n l m : Int) (H : Hp) : SpV sp_is_between [.int n, .int l, .int m] H (.bl (decide (l ≤ n) && decide (n ≤ m))) := fun _ _ _ q _ => ⟨n, l, m, rfl, q⟩
theorem ok_is_between {f : Addr} {fd : FuncData} {k : Nat} (F : Fun K "is_between" "is_between" s_is_between f fd) : FnOk P w K mg base CX0 (k + 1) f fd ["number", "least", "most"] sp_is_between := by
  refine F.ok sc_is_between (fun vs H Q E h => ?_) (fun cdv A outer s H vs Q E hr h => ?_)
  · obtain ⟨n, l, m, rfl, _⟩ := h
    rfl
  · obtain ⟨n, l, m, rfl, q⟩ := h
    refine ⟨_, pss_one (ps_ret (pe_and (pe_cmp (pc_le (pv 1) (pv 0))) (pe_one (pe_cmp (pc_le (pv 0) (pv 2)))))), ?_⟩
    exact s_ret (ev_andV (ev_cmp (ev_var rfl) (ev_var rfl)) fun _ => ev_cmp (ev_var rfl) (ev_var rfl)) q
/-! #### are_edges -/
def sp_are_edges (K : PySem.W.Frag) : Sp := fun vs H Q _ => ∃ (a : Addr) (ns : List Int), vs = [.ref a] ∧ SqL K H a (ns.map V.int) ∧ RetV (.bl (edges ns)) H Q
theorem sv_are_edges {a : Addr} {ns : List Int} {H : Hp} (h : SqL K H a (ns.map V.int)) : SpV (sp_are_edges K) [.ref a] H (.bl (edges ns)) := fun _ e _ q _ => ⟨a, ns, rfl, ex_l e h, q⟩
theorem edges_more {ns : List Int} {i : Nat} {z : Int} (h : ns[i]? = some z) : edges (ns.take (i + 1)) = (edges (ns.take i) && edge z) := by
  unfold edges
  rw [take_more h, List.all_append]
  simp
theorem edges_no {ns : List Int} {i : Nat} {z : Int} (h : ns[i]? = some z) (hz : edge z = false) : edges ns = false := by
  cases e : edges ns with
  | false => rfl
  | true =>
    have := List.all_eq_true.mp e z (List.mem_of_getElem? h)
    rw [hz] at this
    cases this
theorem ok_are_edges {f : Addr} {fd : FuncData} {k : Nat} (F : Fun K "are_edges" "are_edges" s_are_edges f fd) (c1 : Ca P w K mg base k "is_between" ["number", "least", "most"] sp_is_between)
    (gL : GI mg "LEAST" 1) (gM : GI mg "MOST_EDGE" 20) : FnOk P w K mg base CX0 (k + 1) f fd ["numbers"] (sp_are_edges K) := by
  refine F.ok sc_are_edges (fun vs H Q E h => ?_) (fun cdv A outer s H vs Q E hr h => ?_)
  · obtain ⟨a, ns, rfl, _⟩ := h
    rfl
  · obtain ⟨a, ns, rfl, hS, q⟩ := h
    refine ⟨_, pss_cons (ps_for PassesOwn.never rfl (pi_list (pv 0)) (pg_name (i := 1) sc_are_edges.nd rfl (.inl rfl))
      (pss_one (ps_if (pt_not (pt_val (pe_ca c1 hr (by rfl) (pa_cons (pv 1) (pa_cons (pe_gi (by rfl) gL) (pa_cons (pe_gi (by rfl) gM) pa_nil)))))) (pss_one (ps_ret pe_bl)) pss_nil)))
      (pss_one (ps_ret pe_bl)), ?_⟩
    refine q_forLn (ev_var rfl) hS (fun i σ' H' => ∃ y, σ' = [some (.ref a), y] ∧ Ex H H' ∧ edges (ns.take i) = true) (fun H1 e1 => ⟨none, rfl, e1, rfl⟩) (fun i σ' H' _ ⟨_, _, e, _⟩ => ex_l e hS) ?_ ?_
    · rintro i x σ' H' hi ⟨y, rfl, e1, ht⟩
      obtain ⟨z, hz, rfl⟩ := map_get hi
      refine s_when (et_not (et_B (ev_ca (.bl (edge z)) (ep_val (ev_var rfl) (ep_val ev_c (ep_val ev_c ep_nil))) ?_))) ?_ ?_
      · rintro vs H2 e2 ⟨_, rfl, _, rfl, _, rfl, rfl⟩
        exact sv_is_between z 1 20 H2
      · intro hb H2 e2
        refine s_ret ev_c fun H3 e3 => ?_
        have hz2 : edge z = false := by simpa using hb
        have := q H3 ((e1.trans e2).trans e3)
        rw [edges_no hz hz2] at this
        exact this
      · intro hb H2 e2
        have hz2 : edge z = true := by simpa using hb
        refine ⟨_, rfl, e1.trans e2, ?_⟩
        rw [edges_more hz, ht, hz2] <;> rfl
    · rintro σ' H' ⟨y, rfl, e1, ht⟩
      rw [List.length_map, List.take_length] at ht
      refine s_ret ev_c fun H3 e3 => ?_
      have := q H3 (e1.trans e3)
      rw [ht] at this
      exact this
/-! #### are_boxes -/
def sp_are_boxes (K : PySem.W.Frag) : Sp := fun vs H Q _ => ∃ (a : Addr) (ns : List Int), vs = [.ref a] ∧ SqL K H a (ns.map V.int) ∧ RetV (.bl (okB ns)) H Q
theorem sv_are_boxes {a : Addr} {ns : List Int} {H : Hp} (h : SqL K H a (ns.map V.int)) : SpV (sp_are_boxes K) [.ref a] H (.bl (okB ns)) := fun _ e _ q _ => ⟨a, ns, rfl, ex_l e h, q⟩
theorem ok_are_boxes {f : Addr} {fd : FuncData} {k : Nat} (F : Fun K "are_boxes" "are_boxes" s_are_boxes f fd) (c1 : Ca P w K mg base k "are_edges" ["numbers"] (sp_are_edges K))
    (gB : GI mg "BOX_LENGTH" 3) (gM : GI mg "MOST_BOXES" 7) (mlen : mg "len" = none) : FnOk P w K mg base CX0 (k + 1) f fd ["boxes"] (sp_are_boxes K) := by
  refine F.ok sc_are_boxes (fun vs H Q E h => ?_) (fun cdv A outer s H vs Q E hr h => ?_)
  · obtain ⟨a, ns, rfl, _⟩ := h
    rfl
  · obtain ⟨a, ns, rfl, hS, q⟩ := h
    refine ⟨_, pss_cons (ps_if (PW.pt (pw_or (pt_cmp (pc_neI (pe_op op_mod (pe_callB call_len_seq (by rfl) mlen PySem.boot_len (pa_cons (pv 0) pa_nil)) (pe_gi (by rfl) gB)) pe_int))
          (pw_or1 (pt_cmp (pc_gt (pe_callB call_len_seq (by rfl) mlen PySem.boot_len (pa_cons (pv 0) pa_nil)) (pe_op op_mul (pe_gi (by rfl) gM) (pe_gi (by rfl) gB)))))))
        (pss_one (ps_ret pe_bl)) pss_nil)
      (pss_one (ps_ret (pe_ca c1 hr (by rfl) (pa_cons (pv 0) pa_nil)))), ?_⟩
    refine q_when (et_or (et_B (ev_cmp (ev_op (ev_lenI (ev_var rfl) hS) ev_c (rv_I (by decide))) ev_c)) fun _ => et_B (ev_cmp (ev_lenI (ev_var rfl) hS) (ev_op ev_c ev_c (rv_I (.inr ⟨by decide, by decide⟩))))) ?_ ?_
    · intro hb H1 e1
      have z : okB ns = false := by
        simp only [Bool.or_eq_true, Bool.not_eq_true', decide_eq_true_eq, decide_eq_false_iff_not] at hb
        unfold okB
        by_cases c : ns.length % 3 = 0
        · rw [decide_eq_false (show ¬ ns.length ≤ 21 by omega), Bool.false_and, Bool.and_false]
        · rw [decide_eq_false c, Bool.false_and]
      rw [z] at q
      exact s_ret ev_c fun H2 e2 => q H2 (e1.trans e2)
    · intro hb H1 e1
      have z : okB ns = edges ns := by
        simp only [Bool.or_eq_false_iff, Bool.not_eq_false', decide_eq_true_eq, decide_eq_false_iff_not] at hb
        unfold okB
        rw [decide_eq_true (show ns.length % 3 = 0 by omega), decide_eq_true (show ns.length ≤ 21 by omega), Bool.true_and, Bool.true_and]
      rw [z] at q
      refine s_ret (ev_ca (.bl (edges ns)) (ep_val (ev_var rfl) ep_nil) ?_) fun H2 e2 => q H2 (e1.trans e2)
      rintro vs H2 e2 ⟨_, rfl, rfl⟩
      exact sv_are_edges (ex_l (e1.trans e2) hS)
/-! #### is_item -/
def sp_is_item (K : PySem.W.Frag) : Sp := fun vs H Q _ => ∃ (a : Addr) (ns : List Int) (z : Int), vs = [.ref a, .int z] ∧ SqL K H a (ns.map V.int) ∧ RetV (.bl (edges ns && quan z)) H Q
theorem sv_is_item {a : Addr} {ns : List Int} {z : Int} {H : Hp} (h : SqL K H a (ns.map V.int)) : SpV (sp_is_item K) [.ref a, .int z] H (.bl (edges ns && quan z)) := fun _ e _ q _ => ⟨a, ns, z, rfl, ex_l e h, q⟩
theorem ok_is_item {f : Addr} {fd : FuncData} {k : Nat} (F : Fun K "is_item" "is_item" s_is_item f fd) (c1 : Ca P w K mg base k "are_edges" ["numbers"] (sp_are_edges K)) (c2 : Ca P w K mg base k "is_between" ["number", "least", "most"] sp_is_between)
    (gL : GI mg "LEAST" 1) (gQ : GI mg "MOST_QUANTITY" 99) : FnOk P w K mg base CX0 (k + 1) f fd ["edges", "quantity"] (sp_is_item K) := by
  refine F.ok sc_is_item (fun vs H Q E h => ?_) (fun cdv A outer s H vs Q E hr h => ?_)
  · obtain ⟨a, ns, z, rfl, _⟩ := h
    rfl
  · obtain ⟨a, ns, z, rfl, hS, q⟩ := h
    refine ⟨_, pss_one (ps_ret (pe_and (pe_ca c1 hr (by rfl) (pa_cons (pv 0) pa_nil)) (pe_one (pe_ca c2 hr (by rfl) (pa_cons (pv 1) (pa_cons (pe_gi (by rfl) gL) (pa_cons (pe_gi (by rfl) gQ) pa_nil))))))), ?_⟩
    refine s_ret (ev_andV (ev_ca (.bl (edges ns)) (ep_val (ev_var rfl) ep_nil) ?_) fun _ => ev_ca (.bl (quan z)) (ep_val (ev_var rfl) (ep_val ev_c (ep_val ev_c ep_nil))) ?_) q
    · rintro vs H2 e2 ⟨_, rfl, rfl⟩
      exact sv_are_edges (ex_l e2 hS)
    · rintro vs H2 e2 ⟨_, rfl, _, rfl, _, rfl, rfl⟩
      exact sv_is_between z 1 99 H2
/-! #### are_items -/
def sp_are_items (K : PySem.W.Frag) : Sp := fun vs H Q _ => ∃ (a : Addr) (ns : List Int), vs = [.ref a] ∧ SqL K H a (ns.map V.int) ∧ RetV (.bl (okI ns)) H Q
theorem sv_are_items {a : Addr} {ns : List Int} {H : Hp} (h : SqL K H a (ns.map V.int)) : SpV (sp_are_items K) [.ref a] H (.bl (okI ns)) := fun _ e _ q _ => ⟨a, ns, rfl, ex_l e h, q⟩
theorem okI_of {ns : List Int} (h1 : ns.length % 4 = 0) (h2 : ns.length ≤ 32) : okI ns = (List.range (ns.length / 4)).all (okAt ns) := by
  unfold okI
  rw [decide_eq_true h1, decide_eq_true h2, Bool.true_and, Bool.true_and]
theorem all_more {p : Nat → Bool} {i : Nat} : (List.range (i + 1)).all p = ((List.range i).all p && p i) := by
  rw [List.range_succ, List.all_append]
  simp
theorem all_no {p : Nat → Bool} {n i : Nat} (hi : i < n) (h : p i = false) : (List.range n).all p = false := by
  cases e : (List.range n).all p with
  | false => rfl
  | true =>
    have := List.all_eq_true.mp e i (List.mem_range.mpr hi)
    rw [h] at this
    cases this
theorem ok_are_items {f : Addr} {fd : FuncData} {k : Nat} (F : Fun K "are_items" "are_items" s_are_items f fd) (c1 : Ca P w K mg base k "is_item" ["edges", "quantity"] (sp_is_item K))
    (gI : GI mg "ITEM_LENGTH" 4) (gM : GI mg "MOST_ITEMS" 8) (mlen : mg "len" = none) (mrange : mg "range" = none) : FnOk P w K mg base CX0 (k + 1) f fd ["items"] (sp_are_items K) := by
  refine F.ok sc_are_items (fun vs H Q E h => ?_) (fun cdv A outer s H vs Q E hr h => ?_)
  · obtain ⟨a, ns, rfl, _⟩ := h
    rfl
  · obtain ⟨a, ns, rfl, hS, q⟩ := h
    refine ⟨_, pss_cons (ps_if (PW.pt (pw_or (pt_cmp (pc_neI (pe_op op_mod (pe_callB call_len_seq (by rfl) mlen PySem.boot_len (pa_cons (pv 0) pa_nil)) (pe_gi (by rfl) gI)) pe_int))
          (pw_or1 (pt_cmp (pc_gt (pe_callB call_len_seq (by rfl) mlen PySem.boot_len (pa_cons (pv 0) pa_nil)) (pe_op op_mul (pe_gi (by rfl) gM) (pe_gi (by rfl) gI)))))))
        (pss_one (ps_ret pe_bl)) pss_nil)
      (pss_cons (ps_for PassesOwn.never rfl (pi_range1 (by rfl) mrange (pa_cons (pe_op op_fdiv (pe_callB call_len_seq (by rfl) mlen PySem.boot_len (pa_cons (pv 0) pa_nil)) (pe_gi (by rfl) gI)) pa_nil)) (pg_name (i := 1) sc_are_items.nd rfl (.inl rfl))
        (pss_cons (ps_set (i := 2) sc_are_items.nd rfl (.inl rfl) (pe_op op_mul (pv 1) (pe_gi (by rfl) gI)))
        (pss_one (ps_if (pt_not (pt_val (pe_ca c1 hr (by rfl) (pa_cons (pe_slice sl_list (pv 0) (po_some (pv 2)) (po_some (pe_op op_add (pv 2) pe_int))) (pa_cons (pe_ix ix_list (pv 0) (pe_op op_add (pv 2) pe_int) (fun _ _ => rfl)) pa_nil)))))
          (pss_one (ps_ret pe_bl)) pss_nil))))
      (pss_one (ps_ret pe_bl))), ?_⟩
    refine q_when (et_or (et_B (ev_cmp (ev_op (ev_lenI (ev_var rfl) hS) ev_c (rv_I (by decide))) ev_c)) fun _ => et_B (ev_cmp (ev_lenI (ev_var rfl) hS) (ev_op ev_c ev_c (rv_I (.inr ⟨by decide, by decide⟩))))) ?_ ?_
    · intro hb H1 e1
      have z : okI ns = false := by
        simp only [Bool.or_eq_true, Bool.not_eq_true', decide_eq_true_eq, decide_eq_false_iff_not] at hb
        unfold okI
        by_cases c : ns.length % 4 = 0
        · rw [decide_eq_false (show ¬ ns.length ≤ 32 by omega), Bool.false_and, Bool.and_false]
        · rw [decide_eq_false c, Bool.false_and]
      rw [z] at q
      exact s_ret ev_c fun H2 e2 => q H2 (e1.trans e2)
    · intro hb H1 e1
      simp only [Bool.or_eq_false_iff, Bool.not_eq_false', decide_eq_true_eq, decide_eq_false_iff_not] at hb
      have l4 : ns.length % 4 = 0 := by omega
      have l32 : ns.length ≤ 32 := by omega
      rw [okI_of l4 l32] at q
      have en : ((ns.length : Int) / 4).toNat = ns.length / 4 := by omega
      refine q_forR1 (n := (ns.length : Int) / 4) (ea_cons (ev_op (ev_lenI (ev_var rfl) (ex_l e1 hS)) ev_c (rv_I ⟨by decide, by decide⟩)) ea_nil) ⟨by omega, by omega⟩
        (fun i σ' H' => ∃ y u, σ' = [some (.ref a), y, u] ∧ Ex H H' ∧ (List.range i).all (okAt ns) = true) (fun H2 e2 => ⟨none, none, rfl, e1.trans e2, rfl⟩) ?_ ?_
      · rintro i σ' H' hi ⟨y, u, rfl, e2, ht⟩
        have hi4 : 4 * i + 3 < ns.length := by omega
        refine q_asg (ev_in (ev_op (ev_var rfl) ev_c (rv_I (.inr ⟨by decide, by decide⟩))) (b := ((4 * i : Nat) : Int)) (by omega)) fun H3 e3 => ?_
        have hS3 := ex_l (e2.trans e3) hS
        have ha : (ns.map V.int)[4 * i + 3]? = some (.int (ns.getD (4 * i + 3) 0)) := get_map (by rw [List.getD_eq_getElem?_getD, List.getElem?_eq_getElem hi4]; rfl)
        refine s_when (et_not (et_B (ev_ca (.bl (okAt ns i)) (ep_lst (el_sl (ev_var rfl) (eo_some (ev_var rfl)) (eo_some (ev_op (ev_var rfl) ev_c rv_I0)) hS3) (ep_val (ev_op (ev_var rfl) (ev_op (ev_var rfl) ev_c rv_I0) (rv_ixL hS3 (at_of (by omega) ha))) ep_nil)) ?_))) ?_ ?_
        · rintro vs H4 e4 ⟨p, _, rfl, hp, _, rfl, rfl⟩
          rw [cut3 (show 4 * i + 3 ≤ ns.length by omega)] at hp
          exact sv_is_item (sq_of hp)
        · intro hb H4 e4
          have hz : okAt ns i = false := by simpa using hb
          rw [all_no (show i < ns.length / 4 by omega) hz] at q
          exact s_ret ev_c fun H5 e5 => q H5 (((e2.trans e3).trans e4).trans e5)
        · intro hb H4 e4
          have hz : okAt ns i = true := by simpa using hb
          refine ⟨_, _, rfl, (e2.trans e3).trans e4, ?_⟩
          rw [all_more, ht, hz] <;> rfl
      · rintro σ' H' ⟨y, u, rfl, e2, ht⟩
        rw [en] at ht
        rw [ht] at q
        exact s_ret ev_c fun H3 e3 => q H3 (e2.trans e3)
/-! #### volume_of -/
def sp_volume_of (K : PySem.W.Frag) : Sp := fun vs H Q _ => ∃ (a : Addr) (x : Kbe3.Size), vs = [.ref a] ∧ SqL K H a ((e3 x).map V.int) ∧ VS x ∧ RetV (.int (Kbe3.volume x : Int)) H Q
theorem sv_volume_of {a : Addr} {x : Kbe3.Size} {H : Hp} (h : SqL K H a ((e3 x).map V.int)) (hv : VS x) : SpV (sp_volume_of K) [.ref a] H (.int (Kbe3.volume x : Int)) := fun _ e _ q _ => ⟨a, x, rfl, ex_l e h, hv, q⟩
theorem ok_volume_of {f : Addr} {fd : FuncData} {k : Nat} (F : Fun K "volume_of" "volume_of" s_volume_of f fd) : FnOk P w K mg base CX0 (k + 1) f fd ["size"] (sp_volume_of K) := by
  refine F.ok sc_volume_of (fun vs H Q E h => ?_) (fun cdv A outer s H vs Q E hr h => ?_)
  · obtain ⟨a, x, rfl, _⟩ := h
    rfl
  · obtain ⟨a, x, rfl, hA, hv, q⟩ := h
    refine ⟨_, pss_one (ps_ret (pe_op op_mul (pe_op op_mul (pe_ix ix_list (pv 0) pe_int (fun _ _ => rfl)) (pe_ix ix_list (pv 0) pe_int (fun _ _ => rfl))) (pe_ix ix_list (pv 0) pe_int (fun _ _ => rfl)))), ?_⟩
    obtain ⟨h1, h2, h3⟩ := hv
    refine s_ret (ev_in (ev_op (ev_op (ev_op (ev_var rfl) ev_c (rv_ixL hA (atI_nat (j := 0) rfl))) (ev_op (ev_var rfl) ev_c (rv_ixL hA (atI_nat (j := 1) rfl))) (rv_I (.inl ⟨by omega, by omega⟩)))
      (ev_op (ev_var rfl) ev_c (rv_ixL hA (atI_nat (j := 2) rfl))) (rv_I (.inr ⟨by omega, by omega⟩))) ?_) q
    unfold Kbe3.volume
    rw [Int.natCast_mul, Int.natCast_mul]
/-! #### is_fitting -/
theorem sorted_e3 {s : Kbe3.Size} {ns : List Int} (hp : ns.Perm (e3 s)) (ho : ns.Pairwise (· ≤ ·)) : ns = e3 (Kbe3.sorted s) := by
  have hl : ns.length = 3 := hp.length_eq
  match ns, hl with
  | [x, y, z], _ =>
    have h1 : x ≤ y := by
      have := List.pairwise_cons.mp ho
      exact this.1 y (by simp)
    have h2 : y ≤ z := by
      have := List.pairwise_cons.mp (List.pairwise_cons.mp ho).2
      exact this.1 z (by simp)
    obtain ⟨r1, r2, r3⟩ := sorted_of hp h1 h2
    unfold e3 Kbe3.sorted
    simp only [List.cons.injEq, and_true]
    omega
theorem rc_sorted {a : Addr} {s : Kbe3.Size} {H : Hp} (h : SqL K H a ((e3 s).map V.int)) : RCL (rSorted K) [.ref a] H ((e3 (Kbe3.sorted s)).map V.int) := fun H1 e Q q =>
  ⟨a, e3 s, rfl, ex_l e h, by show 3 < 64; decide, fun ns p hp ho hn => by
    have e := sorted_e3 hp ho
    subst e
    exact q p _ hn (Ex.new hn) upd_same⟩
def sp_is_fitting (K : PySem.W.Frag) : Sp := fun vs H Q _ => ∃ (a b : Addr) (x y : Kbe3.Size), vs = [.ref a, .ref b] ∧ SqL K H a ((e3 x).map V.int) ∧ SqL K H b ((e3 y).map V.int) ∧ RetV (.bl (Kbe3.fits x y)) H Q
theorem sv_is_fitting {a b : Addr} {x y : Kbe3.Size} {H : Hp} (h : SqL K H a ((e3 x).map V.int)) (h2 : SqL K H b ((e3 y).map V.int)) : SpV (sp_is_fitting K) [.ref a, .ref b] H (.bl (Kbe3.fits x y)) := fun _ e _ q _ => ⟨a, b, x, y, rfl, ex_l e h, ex_l e h2, q⟩
theorem le_nat (i j : Nat) : decide ((i : Int) ≤ (j : Int)) = decide (i ≤ j) := decide_eq_decide.mpr Int.ofNat_le
theorem ok_is_fitting {f : Addr} {fd : FuncData} {k : Nat} (F : Fun K "is_fitting" "is_fitting" s_is_fitting f fd) (msorted : mg "sorted" = none) : FnOk P w K mg base CX0 (k + 1) f fd ["item_size", "box_size"] (sp_is_fitting K) := by
  refine F.ok sc_is_fitting (fun vs H Q E h => ?_) (fun cdv A outer s H vs Q E hr h => ?_)
  · obtain ⟨a, b, x, y, rfl, _⟩ := h
    rfl
  · obtain ⟨a, b, x, y, rfl, hA, hB, q⟩ := h
    refine ⟨_, pss_cons (ps_set (i := 2) sc_is_fitting.nd rfl (.inl rfl) (pe_callB cr_sorted (by rfl) msorted (by decide +kernel) (pa_cons (pv 0) pa_nil)))
      (pss_cons (ps_set (i := 3) sc_is_fitting.nd rfl (.inl rfl) (pe_callB cr_sorted (by rfl) msorted (by decide +kernel) (pa_cons (pv 1) pa_nil)))
      (pss_one (ps_ret (pe_and (pe_cmp (pc_le (pe_ix ix_list (pv 2) pe_int (fun _ _ => rfl)) (pe_ix ix_list (pv 3) pe_int (fun _ _ => rfl))))
        (pe_and (pe_cmp (pc_le (pe_ix ix_list (pv 2) pe_int (fun _ _ => rfl)) (pe_ix ix_list (pv 3) pe_int (fun _ _ => rfl))))
        (pe_one (pe_cmp (pc_le (pe_ix ix_list (pv 2) pe_int (fun _ _ => rfl)) (pe_ix ix_list (pv 3) pe_int (fun _ _ => rfl)))))))))), ?_⟩
    refine q_asgL (el_cb (ea_cons (ev_var rfl) ea_nil) (rc_sorted hA)) fun p1 H1 n1 e1 h1 => ?_
    refine q_asgL (el_cb (ea_cons (ev_var rfl) ea_nil) (rc_sorted (ex_l e1 hB))) fun p2 H2 n2 e2 h2 => ?_
    have g1 : SqL K H2 p1 ((e3 (Kbe3.sorted x)).map V.int) := sq_of (e2 _ _ h1)
    have g2 : SqL K H2 p2 ((e3 (Kbe3.sorted y)).map V.int) := sq_of h2
    refine s_ret (ev_bl (ev_andV (ev_cmp (ev_op (ev_var rfl) ev_c (rv_ixL g1 (atI_nat (j := 0) rfl))) (ev_op (ev_var rfl) ev_c (rv_ixL g2 (atI_nat (j := 0) rfl)))) fun _ =>
      ev_andV (ev_cmp (ev_op (ev_var rfl) ev_c (rv_ixL g1 (atI_nat (j := 1) rfl))) (ev_op (ev_var rfl) ev_c (rv_ixL g2 (atI_nat (j := 1) rfl)))) fun _ =>
      ev_cmp (ev_op (ev_var rfl) ev_c (rv_ixL g1 (atI_nat (j := 2) rfl))) (ev_op (ev_var rfl) ev_c (rv_ixL g2 (atI_nat (j := 2) rfl)))) ?_) fun H3 e3 => q H3 ((e1.trans e2).trans e3)
    rw [le_nat, le_nat, le_nat, ← Bool.and_assoc]
    rfl
/-! #### box_count -/
def sp_box_count (K : PySem.W.Frag) : Sp := fun vs H Q _ => ∃ (a : Addr) (bs : List Kbe3.Size), vs = [.ref a] ∧ SqL K H a ((flatB bs).map V.int) ∧ RetV (.int (bs.length : Int)) H Q
theorem sv_box_count {a : Addr} {bs : List Kbe3.Size} {H : Hp} (h : SqL K H a ((flatB bs).map V.int)) : SpV (sp_box_count K) [.ref a] H (.int (bs.length : Int)) := fun _ e _ q _ => ⟨a, bs, rfl, ex_l e h, q⟩
theorem ok_box_count {f : Addr} {fd : FuncData} {k : Nat} (F : Fun K "box_count" "box_count" s_box_count f fd) (gB : GI mg "BOX_LENGTH" 3) (mlen : mg "len" = none) : FnOk P w K mg base CX0 (k + 1) f fd ["boxes"] (sp_box_count K) := by
  refine F.ok sc_box_count (fun vs H Q E h => ?_) (fun cdv A outer s H vs Q E hr h => ?_)
  · obtain ⟨a, bs, rfl, _⟩ := h
    rfl
  · obtain ⟨a, bs, rfl, hA, q⟩ := h
    refine ⟨_, pss_one (ps_ret (pe_op op_fdiv (pe_callB call_len_seq (by rfl) mlen PySem.boot_len (pa_cons (pv 0) pa_nil)) (pe_gi (by rfl) gB))), ?_⟩
    refine s_ret (ev_in (ev_op (ev_lenI (ev_var rfl) hA) ev_c (rv_I ⟨by decide, by decide⟩)) ?_) q
    rw [flatB_len]
    omega
/-! #### box_size_at -/
def sp_box_size_at (K : PySem.W.Frag) : Sp := fun vs H Q _ => ∃ (a : Addr) (bs : List Kbe3.Size) (i : Nat), vs = [.ref a, .int (i : Int)] ∧ SqL K H a ((flatB bs).map V.int) ∧ i < bs.length ∧ RetL ((e3 (sz bs i)).map V.int) H Q
theorem sl_box_size_at {a : Addr} {bs : List Kbe3.Size} {i : Nat} {H : Hp} (h : SqL K H a ((flatB bs).map V.int)) (hi : i < bs.length) : SpL (sp_box_size_at K) [.ref a, .int (i : Int)] H ((e3 (sz bs i)).map V.int) := fun _ e _ q _ => ⟨a, bs, i, rfl, ex_l e h, hi, q⟩
theorem ok_box_size_at {f : Addr} {fd : FuncData} {k : Nat} (F : Fun K "box_size_at" "box_size_at" s_box_size_at f fd) (gB : GI mg "BOX_LENGTH" 3) : FnOk P w K mg base CX0 (k + 1) f fd ["boxes", "box"] (sp_box_size_at K) := by
  refine F.ok sc_box_size_at (fun vs H Q E h => ?_) (fun cdv A outer s H vs Q E hr h => ?_)
  · obtain ⟨a, bs, i, rfl, _⟩ := h
    rfl
  · obtain ⟨a, bs, i, rfl, hA, hi, q⟩ := h
    refine ⟨_, pss_cons (ps_set (i := 2) sc_box_size_at.nd rfl (.inl rfl) (pe_op op_mul (pv 1) (pe_gi (by rfl) gB)))
      (pss_one (ps_ret (pe_slice sl_list (pv 0) (po_some (pv 2)) (po_some (pe_op op_add (pv 2) pe_int))))), ?_⟩
    refine q_asg (ev_in (ev_op (ev_var rfl) ev_c (rv_I (.inr ⟨by decide, by decide⟩))) (b := ((3 * i : Nat) : Int)) (by omega)) fun H1 e1 => ?_
    refine s_retL (el_sl (ev_var rfl) (eo_some (ev_var rfl)) (eo_some (ev_op (ev_var rfl) ev_c rv_I0)) (ex_l e1 hA)) fun p H2 hp e2 h2 => q p H2 (fresh_back e1 hp) (e1.trans e2) ?_
    rw [cut3 (by rw [flatB_len]; omega), flatB_at bs i _ (sz_get hi)] at h2
    exact h2
/-! #### item_count -/
def sp_item_count (K : PySem.W.Frag) : Sp := fun vs H Q _ => ∃ (a : Addr) (ts : List Kbe3.Item), vs = [.ref a] ∧ SqL K H a ((flatI ts).map V.int) ∧ RetV (.int (ts.length : Int)) H Q
theorem sv_item_count {a : Addr} {ts : List Kbe3.Item} {H : Hp} (h : SqL K H a ((flatI ts).map V.int)) : SpV (sp_item_count K) [.ref a] H (.int (ts.length : Int)) := fun _ e _ q _ => ⟨a, ts, rfl, ex_l e h, q⟩
theorem ok_item_count {f : Addr} {fd : FuncData} {k : Nat} (F : Fun K "item_count" "item_count" s_item_count f fd) (gI : GI mg "ITEM_LENGTH" 4) (mlen : mg "len" = none) : FnOk P w K mg base CX0 (k + 1) f fd ["items"] (sp_item_count K) := by
  refine F.ok sc_item_count (fun vs H Q E h => ?_) (fun cdv A outer s H vs Q E hr h => ?_)
  · obtain ⟨a, bs, rfl, _⟩ := h
    rfl
  · obtain ⟨a, ts, rfl, hA, q⟩ := h
    refine ⟨_, pss_one (ps_ret (pe_op op_fdiv (pe_callB call_len_seq (by rfl) mlen PySem.boot_len (pa_cons (pv 0) pa_nil)) (pe_gi (by rfl) gI))), ?_⟩
    refine s_ret (ev_in (ev_op (ev_lenI (ev_var rfl) hA) ev_c (rv_I ⟨by decide, by decide⟩)) ?_) q
    rw [flatI_len]
    omega
/-! #### item_size_at -/
def sp_item_size_at (K : PySem.W.Frag) : Sp := fun vs H Q _ => ∃ (a : Addr) (ts : List Kbe3.Item) (i : Nat) (t : Kbe3.Item), vs = [.ref a, .int (i : Int)] ∧ SqL K H a ((flatI ts).map V.int) ∧ ts[i]? = some t ∧ RetL ((e3 t.size).map V.int) H Q
theorem sl_item_size_at {a : Addr} {ts : List Kbe3.Item} {i : Nat} {t : Kbe3.Item} {H : Hp} (h : SqL K H a ((flatI ts).map V.int)) (hi : ts[i]? = some t) : SpL (sp_item_size_at K) [.ref a, .int (i : Int)] H ((e3 t.size).map V.int) := fun _ e _ q _ => ⟨a, ts, i, t, rfl, ex_l e h, hi, q⟩
theorem get_lt {α : Type} {l : List α} {i : Nat} {x : α} (h : l[i]? = some x) : i < l.length := (List.getElem?_eq_some_iff.mp h).1
theorem ok_item_size_at {f : Addr} {fd : FuncData} {k : Nat} (F : Fun K "item_size_at" "item_size_at" s_item_size_at f fd) (gI : GI mg "ITEM_LENGTH" 4) : FnOk P w K mg base CX0 (k + 1) f fd ["items", "item"] (sp_item_size_at K) := by
  refine F.ok sc_item_size_at (fun vs H Q E h => ?_) (fun cdv A outer s H vs Q E hr h => ?_)
  · obtain ⟨a, ts, i, t, rfl, _⟩ := h
    rfl
  · obtain ⟨a, ts, i, t, rfl, hA, hi, q⟩ := h
    have hl := get_lt hi
    refine ⟨_, pss_cons (ps_set (i := 2) sc_item_size_at.nd rfl (.inl rfl) (pe_op op_mul (pv 1) (pe_gi (by rfl) gI)))
      (pss_one (ps_ret (pe_slice sl_list (pv 0) (po_some (pv 2)) (po_some (pe_op op_add (pv 2) pe_int))))), ?_⟩
    refine q_asg (ev_in (ev_op (ev_var rfl) ev_c (rv_I (.inr ⟨by decide, by decide⟩))) (b := ((4 * i : Nat) : Int)) (by omega)) fun H1 e1 => ?_
    refine s_retL (el_sl (ev_var rfl) (eo_some (ev_var rfl)) (eo_some (ev_op (ev_var rfl) ev_c rv_I0)) (ex_l e1 hA)) fun p H2 hp e2 h2 => q p H2 (fresh_back e1 hp) (e1.trans e2) ?_
    rw [cut3 (by rw [flatI_len]; omega), flatI_at ts i _ hi] at h2
    exact h2
/-! #### quantity_at -/
def sp_quantity_at (K : PySem.W.Frag) : Sp := fun vs H Q _ => ∃ (a : Addr) (ts : List Kbe3.Item) (i : Nat) (t : Kbe3.Item), vs = [.ref a, .int (i : Int)] ∧ SqL K H a ((flatI ts).map V.int) ∧ ts[i]? = some t ∧ RetV (.int (t.quantity : Int)) H Q
theorem sv_quantity_at {a : Addr} {ts : List Kbe3.Item} {i : Nat} {t : Kbe3.Item} {H : Hp} (h : SqL K H a ((flatI ts).map V.int)) (hi : ts[i]? = some t) : SpV (sp_quantity_at K) [.ref a, .int (i : Int)] H (.int (t.quantity : Int)) := fun _ e _ q _ => ⟨a, ts, i, t, rfl, ex_l e h, hi, q⟩
theorem ok_quantity_at {f : Addr} {fd : FuncData} {k : Nat} (F : Fun K "quantity_at" "quantity_at" s_quantity_at f fd) (gI : GI mg "ITEM_LENGTH" 4) : FnOk P w K mg base CX0 (k + 1) f fd ["items", "item"] (sp_quantity_at K) := by
  refine F.ok sc_quantity_at (fun vs H Q E h => ?_) (fun cdv A outer s H vs Q E hr h => ?_)
  · obtain ⟨a, ts, i, t, rfl, _⟩ := h
    rfl
  · obtain ⟨a, ts, i, t, rfl, hA, hi, q⟩ := h
    refine ⟨_, pss_one (ps_ret (pe_ix ix_list (pv 0) (pe_op op_add (pe_op op_mul (pv 1) (pe_gi (by rfl) gI)) pe_int) (fun _ _ => rfl))), ?_⟩
    exact s_ret (ev_op (ev_var rfl) (ev_op (ev_op (ev_var rfl) ev_c (rv_I (.inr ⟨by decide, by decide⟩))) ev_c rv_I0) (rv_ixL hA (at_of (j := 4 * i + 3) (by omega) (get_map (flatI_q ts i t hi))))) q
/-! #### is_usable -/
def sp_is_usable (K : PySem.W.Frag) : Sp := fun vs H Q _ => ∃ (st : Nat) (a : Addr) (bs : List Kbe3.Size) (i : Nat) (b : Addr) (x : Kbe3.Size), vs = [.int (st : Int), .ref a, .int (i : Int), .ref b] ∧ SqL K H a ((flatB bs).map V.int) ∧ i < bs.length ∧ bs.length ≤ 7 ∧ SqL K H b ((e3 x).map V.int) ∧ RetV (.bl (usable bs st x i)) H Q
theorem sv_is_usable {st : Nat} {a b : Addr} {bs : List Kbe3.Size} {i : Nat} {x : Kbe3.Size} {H : Hp} (h : SqL K H a ((flatB bs).map V.int)) (hi : i < bs.length) (h7 : bs.length ≤ 7) (h2 : SqL K H b ((e3 x).map V.int)) : SpV (sp_is_usable K) [.int (st : Int), .ref a, .int (i : Int), .ref b] H (.bl (usable bs st x i)) :=
  fun _ e _ q _ => ⟨st, a, bs, i, b, x, rfl, ex_l e h, hi, h7, ex_l e h2, q⟩
theorem ok_is_usable {f : Addr} {fd : FuncData} {k : Nat} (F : Fun K "is_usable" "is_usable" s_is_usable f fd) (c1 : Ca P w K mg base k "is_stocked" ["stock", "box"] sp_is_stocked) (c2 : Ca P w K mg base k "is_fitting" ["item_size", "box_size"] (sp_is_fitting K))
    (c3 : Ca P w K mg base k "box_size_at" ["boxes", "box"] (sp_box_size_at K)) : FnOk P w K mg base CX0 (k + 1) f fd ["stock", "boxes", "box", "size"] (sp_is_usable K) := by
  refine F.ok sc_is_usable (fun vs H Q E h => ?_) (fun cdv A outer s H vs Q E hr h => ?_)
  · obtain ⟨st, a, bs, i, b, x, rfl, _⟩ := h
    rfl
  · obtain ⟨st, a, bs, i, b, x, rfl, hA, hi, h7, hB, q⟩ := h
    refine ⟨_, pss_one (ps_ret (pe_and (pe_ca c1 hr (by rfl) (pa_cons (pv 0) (pa_cons (pv 2) pa_nil))) (pe_one (pe_ca c2 hr (by rfl) (pa_cons (pv 3) (pa_cons (pe_ca c3 hr (by rfl) (pa_cons (pv 1) (pa_cons (pv 2) pa_nil))) pa_nil)))))), ?_⟩
    refine s_ret (ev_andV (ev_ca (.bl (Kbe3.hasBit st i)) (ep_val (ev_var rfl) (ep_val (ev_var rfl) ep_nil)) ?_) fun _ =>
      ev_ca (.bl (Kbe3.fits x (sz bs i))) (ep_val (ev_var rfl) (ep_lst (el_ca ((e3 (sz bs i)).map V.int) (ep_val (ev_var rfl) (ep_val (ev_var rfl) ep_nil)) ?_) ep_nil)) ?_) q
    · rintro vs H2 e2 ⟨_, rfl, _, rfl, rfl⟩
      exact sv_is_stocked (by omega)
    · rintro vs H2 e2 ⟨_, rfl, _, rfl, rfl⟩
      exact sl_box_size_at (ex_l e2 hA) hi
    · rintro vs H2 e2 ⟨_, rfl, p, _, rfl, hp, rfl⟩
      exact sv_is_fitting (ex_l e2 hB) (sq_of hp)
/-! #### box_used -/
/-- a place, or -1 -/
def oI : Option Nat → Int
  | none => -1
  | some j => (j : Int)
theorem oI_none {o : Option Nat} : (oI o = -1) ↔ o = none := by
  cases o with
  | none => exact ⟨fun _ => rfl, fun _ => rfl⟩
  | some j =>
    refine ⟨fun z => ?_, fun z => by cases z⟩
    have z2 : (j : Int) = -1 := z
    omega
def sp_box_used (K : PySem.W.Frag) : Sp := fun vs H Q _ => ∃ (st : Nat) (a : Addr) (bs : List Kbe3.Size) (b : Addr) (x : Kbe3.Size), vs = [.int (st : Int), .ref a, .ref b] ∧ SqL K H a ((flatB bs).map V.int) ∧ bs.length ≤ 7 ∧ (∀ s ∈ bs, VS s) ∧ SqL K H b ((e3 x).map V.int) ∧ RetV (.int (oI (used bs st x bs.length))) H Q
theorem sv_box_used {st : Nat} {a b : Addr} {bs : List Kbe3.Size} {x : Kbe3.Size} {H : Hp} (h : SqL K H a ((flatB bs).map V.int)) (h7 : bs.length ≤ 7) (hv : ∀ s ∈ bs, VS s) (h2 : SqL K H b ((e3 x).map V.int)) : SpV (sp_box_used K) [.int (st : Int), .ref a, .ref b] H (.int (oI (used bs st x bs.length))) :=
  fun _ e _ q _ => ⟨st, a, bs, b, x, rfl, ex_l e h, h7, hv, ex_l e h2, q⟩
theorem ok_box_used {f : Addr} {fd : FuncData} {k : Nat} (F : Fun K "box_used" "box_used" s_box_used f fd) (c1 : Ca P w K mg base k "box_count" ["boxes"] (sp_box_count K)) (c2 : Ca P w K mg base k "is_usable" ["stock", "boxes", "box", "size"] (sp_is_usable K))
    (c3 : Ca P w K mg base k "volume_of" ["size"] (sp_volume_of K)) (c4 : Ca P w K mg base k "box_size_at" ["boxes", "box"] (sp_box_size_at K)) (mrange : mg "range" = none) : FnOk P w K mg base CX0 (k + 1) f fd ["stock", "boxes", "size"] (sp_box_used K) := by
  refine F.ok sc_box_used (fun vs H Q E h => ?_) (fun cdv A outer s H vs Q E hr h => ?_)
  · obtain ⟨st, a, bs, b, x, rfl, _⟩ := h
    rfl
  · obtain ⟨st, a, bs, b, x, rfl, hA, h7, hv, hB, q⟩ := h
    refine ⟨_, pss_cons (ps_set (i := 3) sc_box_used.nd rfl (.inl rfl) (pe_un un_neg pe_int))
      (pss_cons (ps_for PassesOwn.never rfl (pi_range1 (by rfl) mrange (pa_cons (pe_ca c1 hr (by rfl) (pa_cons (pv 1) pa_nil)) pa_nil)) (pg_name (i := 4) sc_box_used.nd rfl (.inl rfl))
        (pss_one (ps_if (pt_val (pe_ca c2 hr (by rfl) (pa_cons (pv 0) (pa_cons (pv 1) (pa_cons (pv 4) (pa_cons (pv 2) pa_nil))))))
          (pss_one (ps_if (PW.pt (pw_or (pt_cmp (pc_eqI (pv 3) (pe_un un_neg pe_int)))
              (pw_or1 (pt_cmp (pc_lt (pe_ca c3 hr (by rfl) (pa_cons (pe_ca c4 hr (by rfl) (pa_cons (pv 1) (pa_cons (pv 4) pa_nil))) pa_nil)) (pe_ca c3 hr (by rfl) (pa_cons (pe_ca c4 hr (by rfl) (pa_cons (pv 1) (pa_cons (pv 3) pa_nil))) pa_nil)))))))
            (pss_one (ps_set (i := 3) sc_box_used.nd rfl (.inl rfl) (pv 4))) pss_nil)) pss_nil)))
      (pss_one (ps_ret (pv 3)))), ?_⟩
    refine q_asg (ev_un ev_c ru_neg) fun H1 e1 => ?_
    refine q_forR1 (n := (bs.length : Int)) (ea_cons (ev_ca (.int (bs.length : Int)) (ep_val (ev_var rfl) ep_nil) ?_) ea_nil) ⟨by omega, by omega⟩
      (fun i σ' H' => ∃ y, σ' = [some (.int (st : Int)), some (.ref a), some (.ref b), some (.int (oI (used bs st x i))), y] ∧ Ex H H') (fun H2 e2 => ⟨none, rfl, e1.trans e2⟩) ?_ ?_
    · rintro vs H2 e2 ⟨_, rfl, rfl⟩
      exact sv_box_count (ex_l (e1.trans e2) hA)
    · rintro i σ' H' hi ⟨y, rfl, e2⟩
      have hi2 : i < bs.length := by omega
      refine s_when (et_B (ev_ca (.bl (usable bs st x i)) (ep_val (ev_var rfl) (ep_val (ev_var rfl) (ep_val (ev_var rfl) (ep_val (ev_var rfl) ep_nil)))) ?_)) ?_ ?_
      · rintro vs H3 e3 ⟨_, rfl, _, rfl, _, rfl, _, rfl, rfl⟩
        exact sv_is_usable (ex_l (e2.trans e3) hA) hi2 h7 (ex_l (e2.trans e3) hB)
      · intro hu H3 d3
        have e13 := e2.trans d3
        refine s_when (b := decide (oI (used bs st x i) = -1) || decide (Kbe3.volume (sz bs i) < Kbe3.volume (sz bs ((used bs st x i).getD 0)))) (et_or (et_B (ev_cmp (ev_var rfl) (ev_un ev_c ru_neg))) fun hn => et_B ?_) ?_ ?_
        · have hj : ∃ j, used bs st x i = some j := by
            cases h : used bs st x i with
            | none =>
              rw [h] at hn
              cases hn
            | some j => exact ⟨j, rfl⟩
          obtain ⟨j, hj⟩ := hj
          have hj2 : j < bs.length := Nat.lt_trans (used_lt hj) hi2
          rw [hj]
          refine ev_bl (ev_cmp (ev_ca (.int (Kbe3.volume (sz bs i) : Int)) (ep_lst (el_ca ((e3 (sz bs i)).map V.int) (ep_val (ev_var rfl) (ep_val (ev_var rfl) ep_nil)) ?_) ep_nil) ?_)
            (ev_ca (.int (Kbe3.volume (sz bs j) : Int)) (ep_lst (el_ca ((e3 (sz bs j)).map V.int) (ep_val (ev_var rfl) (ep_val (ev_var rfl) ep_nil)) ?_) ep_nil) ?_)) (decide_eq_decide.mpr Int.ofNat_lt)
          · rintro vs H4 e4 ⟨_, rfl, _, rfl, rfl⟩
            exact sl_box_size_at (ex_l (e13.trans e4) hA) hi2
          · rintro vs H4 e4 ⟨p, _, rfl, hp, rfl⟩
            exact sv_volume_of (sq_of hp) (sz_VS hv hi2)
          · rintro vs H4 e4 ⟨_, rfl, _, rfl, rfl⟩
            exact sl_box_size_at (ex_l (e13.trans e4) hA) hj2
          · rintro vs H4 e4 ⟨p, _, rfl, hp, rfl⟩
            exact sv_volume_of (sq_of hp) (sz_VS hv hj2)
        · intro hb H4 e4
          refine s_asg (ev_var rfl) fun H5 e5 => ⟨some (.int (i : Int)), ?_, (e13.trans e4).trans e5⟩
          have z : used bs st x (i + 1) = some i := by
            rw [used_succ]
            unfold pick
            rw [if_pos hu]
            cases h : used bs st x i with
            | none => rfl
            | some j =>
              rw [h] at hb
              have h1 : decide (oI (some j) = -1) = false := decide_eq_false fun z => by
                have := oI_none.mp z
                cases this
              rw [h1, Bool.false_or] at hb
              exact if_pos (of_decide_eq_true hb)
          rw [z]
          rfl
        · intro hb H4 e4
          refine ⟨some (.int (i : Int)), ?_, e13.trans e4⟩
          have z : used bs st x (i + 1) = used bs st x i := by
            rw [used_succ]
            unfold pick
            rw [if_pos hu]
            cases h : used bs st x i with
            | none =>
              rw [h] at hb
              cases hb
            | some j =>
              rw [h] at hb
              rw [Bool.or_eq_false_iff] at hb
              exact if_neg (of_decide_eq_false hb.2)
          rw [z]
          rfl
      · intro hu H3 e3
        refine ⟨some (.int (i : Int)), ?_, e2.trans e3⟩
        have z : used bs st x (i + 1) = used bs st x i := by
          rw [used_succ]
          unfold pick
          rw [hu, if_neg Bool.false_ne_true]
        rw [z]
        rfl
    · rintro σ' H' ⟨y, rfl, e2⟩
      exact s_ret (ev_var rfl) fun H3 e3 => q H3 (e2.trans e3)
/-! #### item_cost -/
def sp_item_cost (K : PySem.W.Frag) : Sp := fun vs H Q _ => ∃ (st : Nat) (a : Addr) (bs : List Kbe3.Size) (b : Addr) (x : Kbe3.Size), vs = [.int (st : Int), .ref a, .ref b] ∧ SqL K H a ((flatB bs).map V.int) ∧ bs.length ≤ 7 ∧ (∀ s ∈ bs, VS s) ∧ SqL K H b ((e3 x).map V.int) ∧ RetV (.int (Kbe3.itemCost bs st x : Int)) H Q
theorem sv_item_cost {st : Nat} {a b : Addr} {bs : List Kbe3.Size} {x : Kbe3.Size} {H : Hp} (h : SqL K H a ((flatB bs).map V.int)) (h7 : bs.length ≤ 7) (hv : ∀ s ∈ bs, VS s) (h2 : SqL K H b ((e3 x).map V.int)) : SpV (sp_item_cost K) [.int (st : Int), .ref a, .ref b] H (.int (Kbe3.itemCost bs st x : Int)) :=
  fun _ e _ q _ => ⟨st, a, bs, b, x, rfl, ex_l e h, h7, hv, ex_l e h2, q⟩
theorem ok_item_cost {f : Addr} {fd : FuncData} {k : Nat} (F : Fun K "item_cost" "item_cost" s_item_cost f fd) (c1 : Ca P w K mg base k "box_used" ["stock", "boxes", "size"] (sp_box_used K))
    (c3 : Ca P w K mg base k "volume_of" ["size"] (sp_volume_of K)) (c4 : Ca P w K mg base k "box_size_at" ["boxes", "box"] (sp_box_size_at K)) (gN : GI mg "NO_FIT_COST" 100000) : FnOk P w K mg base CX0 (k + 1) f fd ["stock", "boxes", "size"] (sp_item_cost K) := by
  refine F.ok sc_item_cost (fun vs H Q E h => ?_) (fun cdv A outer s H vs Q E hr h => ?_)
  · obtain ⟨st, a, bs, b, x, rfl, _⟩ := h
    rfl
  · obtain ⟨st, a, bs, b, x, rfl, hA, h7, hv, hB, q⟩ := h
    refine ⟨_, pss_cons (ps_set (i := 3) sc_item_cost.nd rfl (.inl rfl) (pe_ca c1 hr (by rfl) (pa_cons (pv 0) (pa_cons (pv 1) (pa_cons (pv 2) pa_nil)))))
      (pss_cons (ps_if (pt_cmp (pc_eqI (pv 3) (pe_un un_neg pe_int))) (pss_one (ps_ret (pe_gi (by rfl) gN))) pss_nil)
      (pss_one (ps_ret (pe_ca c3 hr (by rfl) (pa_cons (pe_ca c4 hr (by rfl) (pa_cons (pv 1) (pa_cons (pv 3) pa_nil))) pa_nil))))), ?_⟩
    rw [cost_is bs st x hv] at q
    refine q_asg (ev_ca (.int (oI (used bs st x bs.length))) (ep_val (ev_var rfl) (ep_val (ev_var rfl) (ep_val (ev_var rfl) ep_nil))) ?_) fun H1 e1 => ?_
    · rintro vs H2 e2 ⟨_, rfl, _, rfl, _, rfl, rfl⟩
      exact sv_box_used (ex_l e2 hA) h7 hv (ex_l e2 hB)
    cases h : used bs st x bs.length with
    | none =>
      rw [h] at q
      refine q_when (et_B (ev_cmp (ev_var rfl) (ev_un ev_c ru_neg))) (fun _ H2 e2 => ?_) fun hb => ?_
      · exact s_ret ev_c fun H3 e3 => q H3 ((e1.trans e2).trans e3)
      · have : decide ((-1 : Int) = -1) = false := hb
        cases this
    | some j =>
      rw [h] at q
      have hj : j < bs.length := used_lt h
      refine q_when (et_B (ev_cmp (ev_var rfl) (ev_un ev_c ru_neg))) (fun hb => ?_) fun _ H2 e2 => ?_
      · have z := oI_none.mp (of_decide_eq_true hb)
        cases z
      · refine s_ret (ev_ca (.int (Kbe3.volume (sz bs j) : Int)) (ep_lst (el_ca ((e3 (sz bs j)).map V.int) (ep_val (ev_var rfl) (ep_val (ev_var rfl) ep_nil)) ?_) ep_nil) ?_) fun H3 e3 => q H3 ((e1.trans e2).trans e3)
        · rintro vs H4 e4 ⟨_, rfl, _, rfl, rfl⟩
          exact sl_box_size_at (ex_l ((e1.trans e2).trans e4) hA) hj
        · rintro vs H4 e4 ⟨p, _, rfl, hp, rfl⟩
          exact sv_volume_of (sq_of hp) (sz_VS hv hj)
/-! #### stock_cost -/
def sp_stock_cost (K : PySem.W.Frag) : Sp := fun vs H Q _ => ∃ (st : Nat) (a : Addr) (bs : List Kbe3.Size) (b : Addr) (ts : List Kbe3.Item), vs = [.int (st : Int), .ref a, .ref b] ∧ SqL K H a ((flatB bs).map V.int) ∧ bs.length ≤ 7 ∧ (∀ s ∈ bs, VS s) ∧ SqL K H b ((flatI ts).map V.int) ∧ ts.length ≤ 8 ∧ (∀ t ∈ ts, VI t) ∧ RetV (.int (Kbe3.totalCost bs ts st : Int)) H Q
/-- both lists, as they lie -/
structure Lay (K : PySem.W.Frag) (H : Hp) (a : Addr) (bs : List Kbe3.Size) (b : Addr) (ts : List Kbe3.Item) : Prop where
  la : SqL K H a ((flatB bs).map V.int)
  l7 : bs.length ≤ 7
  lv : ∀ s ∈ bs, VS s
  lb : SqL K H b ((flatI ts).map V.int)
  l8 : ts.length ≤ 8
  li : ∀ t ∈ ts, VI t
theorem Lay.ex {H H' : Hp} {a b : Addr} {bs : List Kbe3.Size} {ts : List Kbe3.Item} (L : Lay K H a bs b ts) (e : Ex H H') : Lay K H' a bs b ts := ⟨ex_l e L.la, L.l7, L.lv, ex_l e L.lb, L.l8, L.li⟩
theorem sv_stock_cost {st : Nat} {a b : Addr} {bs : List Kbe3.Size} {ts : List Kbe3.Item} {H : Hp} (L : Lay K H a bs b ts) : SpV (sp_stock_cost K) [.int (st : Int), .ref a, .ref b] H (.int (Kbe3.totalCost bs ts st : Int)) :=
  fun _ e _ q _ => ⟨st, a, bs, b, ts, rfl, ex_l e L.la, L.l7, L.lv, ex_l e L.lb, L.l8, L.li, q⟩
theorem ok_stock_cost {f : Addr} {fd : FuncData} {k : Nat} (F : Fun K "stock_cost" "stock_cost" s_stock_cost f fd) (c1 : Ca P w K mg base k "item_count" ["items"] (sp_item_count K)) (c2 : Ca P w K mg base k "quantity_at" ["items", "item"] (sp_quantity_at K))
    (c3 : Ca P w K mg base k "item_cost" ["stock", "boxes", "size"] (sp_item_cost K)) (c4 : Ca P w K mg base k "item_size_at" ["items", "item"] (sp_item_size_at K)) (mrange : mg "range" = none) : FnOk P w K mg base CX0 (k + 1) f fd ["stock", "boxes", "items"] (sp_stock_cost K) := by
  refine F.ok sc_stock_cost (fun vs H Q E h => ?_) (fun cdv A outer s H vs Q E hr h => ?_)
  · obtain ⟨st, a, bs, b, ts, rfl, _⟩ := h
    rfl
  · obtain ⟨st, a, bs, b, ts, rfl, hA, h7, hv, hB, h8, hi8, q⟩ := h
    refine ⟨_, pss_cons (ps_set (i := 3) sc_stock_cost.nd rfl (.inl rfl) pe_int)
      (pss_cons (ps_for PassesOwn.never rfl (pi_range1 (by rfl) mrange (pa_cons (pe_ca c1 hr (by rfl) (pa_cons (pv 2) pa_nil)) pa_nil)) (pg_name (i := 4) sc_stock_cost.nd rfl (.inl rfl))
        (pss_one (ps_set (i := 3) sc_stock_cost.nd rfl (.inl rfl) (pe_op op_add (pv 3) (pe_op op_mul (pe_ca c2 hr (by rfl) (pa_cons (pv 2) (pa_cons (pv 4) pa_nil)))
          (pe_ca c3 hr (by rfl) (pa_cons (pv 0) (pa_cons (pv 1) (pa_cons (pe_ca c4 hr (by rfl) (pa_cons (pv 2) (pa_cons (pv 4) pa_nil))) pa_nil)))))))))
      (pss_one (ps_ret (pv 3)))), ?_⟩
    refine q_asg ev_c fun H1 e1 => ?_
    refine q_forR1 (n := (ts.length : Int)) (ea_cons (ev_ca (.int (ts.length : Int)) (ep_val (ev_var rfl) ep_nil) ?_) ea_nil) ⟨by omega, by omega⟩
      (fun i σ' H' => ∃ y, σ' = [some (.int (st : Int)), some (.ref a), some (.ref b), some (.int (part (costOf bs st) ts i : Int)), y] ∧ Ex H H') (fun H2 e2 => ⟨none, rfl, e1.trans e2⟩) ?_ ?_
    · rintro vs H2 e2 ⟨_, rfl, rfl⟩
      exact sv_item_count (ex_l (e1.trans e2) hB)
    · rintro i σ' H' hi ⟨y, rfl, e2⟩
      have hi2 : i < ts.length := by omega
      obtain ⟨t, ht⟩ : ∃ t, ts[i]? = some t := ⟨_, List.getElem?_eq_getElem hi2⟩
      have vt := hi8 t (List.mem_of_getElem? ht)
      refine s_asg (ev_in (ev_op (ev_var rfl) (ev_op (ev_ca (.int (t.quantity : Int)) (ep_val (ev_var rfl) (ep_val (ev_var rfl) ep_nil)) ?_)
        (ev_ca (.int (Kbe3.itemCost bs st t.size : Int)) (ep_val (ev_var rfl) (ep_val (ev_var rfl) (ep_lst (el_ca ((e3 t.size).map V.int) (ep_val (ev_var rfl) (ep_val (ev_var rfl) ep_nil)) ?_) ep_nil))) ?_)
        (rv_I (.inl ⟨?_, ?_⟩))) rv_I0) (b := (part (costOf bs st) ts (i + 1) : Int)) ?_) fun H3 e3 => ⟨_, rfl, e2.trans e3⟩
      · rintro vs H3 e3 ⟨_, rfl, _, rfl, rfl⟩
        exact sv_quantity_at (ex_l (e2.trans e3) hB) ht
      · rintro vs H3 e3 ⟨_, rfl, _, rfl, rfl⟩
        exact sl_item_size_at (ex_l (e2.trans e3) hB) ht
      · rintro vs H3 e3 ⟨_, rfl, _, rfl, p, _, rfl, hp, rfl⟩
        exact sv_item_cost (ex_l (e2.trans e3) hA) h7 hv (sq_of hp)
      · have := vt.2
        omega
      · have := vt.2
        omega
      · rw [part_succ ht, Int.natCast_add, ← Int.natCast_mul]
    · rintro σ' H' ⟨y, rfl, e2⟩
      have en : ((ts.length : Int)).toNat = ts.length := by omega
      rw [en, total_is] at *
      exact s_ret (ev_var rfl) fun H3 e3 => q H3 (e2.trans e3)
/-! #### items_volume -/
def sp_items_volume (K : PySem.W.Frag) : Sp := fun vs H Q _ => ∃ (b : Addr) (ts : List Kbe3.Item), vs = [.ref b] ∧ SqL K H b ((flatI ts).map V.int) ∧ ts.length ≤ 8 ∧ (∀ t ∈ ts, VI t) ∧ RetV (.int (part volOf ts ts.length : Int)) H Q
theorem sv_items_volume {b : Addr} {ts : List Kbe3.Item} {H : Hp} (h : SqL K H b ((flatI ts).map V.int)) (h8 : ts.length ≤ 8) (hi : ∀ t ∈ ts, VI t) : SpV (sp_items_volume K) [.ref b] H (.int (part volOf ts ts.length : Int)) :=
  fun _ e _ q _ => ⟨b, ts, rfl, ex_l e h, h8, hi, q⟩
theorem ok_items_volume {f : Addr} {fd : FuncData} {k : Nat} (F : Fun K "items_volume" "items_volume" s_items_volume f fd) (c1 : Ca P w K mg base k "item_count" ["items"] (sp_item_count K)) (c2 : Ca P w K mg base k "quantity_at" ["items", "item"] (sp_quantity_at K))
    (c3 : Ca P w K mg base k "volume_of" ["size"] (sp_volume_of K)) (c4 : Ca P w K mg base k "item_size_at" ["items", "item"] (sp_item_size_at K)) (mrange : mg "range" = none) : FnOk P w K mg base CX0 (k + 1) f fd ["items"] (sp_items_volume K) := by
  refine F.ok sc_items_volume (fun vs H Q E h => ?_) (fun cdv A outer s H vs Q E hr h => ?_)
  · obtain ⟨b, ts, rfl, _⟩ := h
    rfl
  · obtain ⟨b, ts, rfl, hB, h8, hi8, q⟩ := h
    refine ⟨_, pss_cons (ps_set (i := 1) sc_items_volume.nd rfl (.inl rfl) pe_int)
      (pss_cons (ps_for PassesOwn.never rfl (pi_range1 (by rfl) mrange (pa_cons (pe_ca c1 hr (by rfl) (pa_cons (pv 0) pa_nil)) pa_nil)) (pg_name (i := 2) sc_items_volume.nd rfl (.inl rfl))
        (pss_one (ps_set (i := 1) sc_items_volume.nd rfl (.inl rfl) (pe_op op_add (pv 1) (pe_op op_mul (pe_ca c2 hr (by rfl) (pa_cons (pv 0) (pa_cons (pv 2) pa_nil)))
          (pe_ca c3 hr (by rfl) (pa_cons (pe_ca c4 hr (by rfl) (pa_cons (pv 0) (pa_cons (pv 2) pa_nil))) pa_nil)))))))
      (pss_one (ps_ret (pv 1)))), ?_⟩
    refine q_asg ev_c fun H1 e1 => ?_
    refine q_forR1 (n := (ts.length : Int)) (ea_cons (ev_ca (.int (ts.length : Int)) (ep_val (ev_var rfl) ep_nil) ?_) ea_nil) ⟨by omega, by omega⟩
      (fun i σ' H' => ∃ y, σ' = [some (.ref b), some (.int (part volOf ts i : Int)), y] ∧ Ex H H') (fun H2 e2 => ⟨none, rfl, e1.trans e2⟩) ?_ ?_
    · rintro vs H2 e2 ⟨_, rfl, rfl⟩
      exact sv_item_count (ex_l (e1.trans e2) hB)
    · rintro i σ' H' hi ⟨y, rfl, e2⟩
      have hi2 : i < ts.length := by omega
      obtain ⟨t, ht⟩ : ∃ t, ts[i]? = some t := ⟨_, List.getElem?_eq_getElem hi2⟩
      have vt := hi8 t (List.mem_of_getElem? ht)
      refine s_asg (ev_in (ev_op (ev_var rfl) (ev_op (ev_ca (.int (t.quantity : Int)) (ep_val (ev_var rfl) (ep_val (ev_var rfl) ep_nil)) ?_)
        (ev_ca (.int (Kbe3.volume t.size : Int)) (ep_lst (el_ca ((e3 t.size).map V.int) (ep_val (ev_var rfl) (ep_val (ev_var rfl) ep_nil)) ?_) ep_nil) ?_)
        (rv_I (.inl ⟨?_, ?_⟩))) rv_I0) (b := (part volOf ts (i + 1) : Int)) ?_) fun H3 d3 => ⟨_, rfl, e2.trans d3⟩
      · rintro vs H3 d3 ⟨_, rfl, _, rfl, rfl⟩
        exact sv_quantity_at (ex_l (e2.trans d3) hB) ht
      · rintro vs H3 d3 ⟨_, rfl, _, rfl, rfl⟩
        exact sl_item_size_at (ex_l (e2.trans d3) hB) ht
      · rintro vs H3 d3 ⟨p, _, rfl, hp, rfl⟩
        exact sv_volume_of (sq_of hp) vt.1
      · have := vt.2
        omega
      · have := vt.2
        omega
      · rw [part_succ ht, Int.natCast_add, ← Int.natCast_mul]
    · rintro σ' H' ⟨y, rfl, e2⟩
      have en : ((ts.length : Int)).toNat = ts.length := by omega
      rw [en] at *
      exact s_ret (ev_var rfl) fun H3 d3 => q H3 (e2.trans d3)
/-! #### are_lists -/
def sp_are_lists (K : PySem.W.Frag) : Sp := fun vs H Q _ => ∃ (a b : Addr) (ns ms : List Int), vs = [.ref a, .ref b] ∧ SqL K H a (ns.map V.int) ∧ SqL K H b (ms.map V.int) ∧ RetV (.bl (okB ns && okI ms)) H Q
theorem sv_are_lists {a b : Addr} {ns ms : List Int} {H : Hp} (h : SqL K H a (ns.map V.int)) (h2 : SqL K H b (ms.map V.int)) : SpV (sp_are_lists K) [.ref a, .ref b] H (.bl (okB ns && okI ms)) := fun _ e _ q _ => ⟨a, b, ns, ms, rfl, ex_l e h, ex_l e h2, q⟩
theorem ok_are_lists {f : Addr} {fd : FuncData} {k : Nat} (F : Fun K "are_lists" "are_lists" s_are_lists f fd) (c1 : Ca P w K mg base k "are_boxes" ["boxes"] (sp_are_boxes K)) (c2 : Ca P w K mg base k "are_items" ["items"] (sp_are_items K)) : FnOk P w K mg base CX0 (k + 1) f fd ["boxes", "items"] (sp_are_lists K) := by
  refine F.ok sc_are_lists (fun vs H Q E h => ?_) (fun cdv A outer s H vs Q E hr h => ?_)
  · obtain ⟨a, b, ns, ms, rfl, _⟩ := h
    rfl
  · obtain ⟨a, b, ns, ms, rfl, hA, hB, q⟩ := h
    refine ⟨_, pss_one (ps_ret (pe_and (pe_ca c1 hr (by rfl) (pa_cons (pv 0) pa_nil)) (pe_one (pe_ca c2 hr (by rfl) (pa_cons (pv 1) pa_nil))))), ?_⟩
    refine s_ret (ev_andV (ev_ca (.bl (okB ns)) (ep_val (ev_var rfl) ep_nil) ?_) fun _ => ev_ca (.bl (okI ms)) (ep_val (ev_var rfl) ep_nil) ?_) q
    · rintro vs H2 e2 ⟨_, rfl, rfl⟩
      exact sv_are_boxes (ex_l e2 hA)
    · rintro vs H2 e2 ⟨_, rfl, rfl⟩
      exact sv_are_items (ex_l e2 hB)
/-! #### empty_space -/
def sp_empty_space (K : PySem.W.Frag) : Sp := fun vs H Q _ => ∃ (a b : Addr) (st : Int) (ns ms : List Int), vs = [.int st, .ref a, .ref b] ∧ SqL K H a (ns.map V.int) ∧ SqL K H b (ms.map V.int) ∧ 0 ≤ st ∧ NN ns ∧ NN ms ∧ RetL ((PyKbe3.empty_space st ns ms).map V.int) H Q
theorem empty_space_is (st : Int) (ns ms : List Int) : PyKbe3.empty_space st ns ms = (let r := Kbe3.withBoxesAndItems (Kbe3Neutral.toNats ns) (Kbe3Neutral.toNats ms) fun bs ts => Kbe3.withStock bs st.toNat ⟨0, [Kbe3.emptySpace bs ts st.toNat]⟩; r.head :: r.tail) := rfl
theorem ok_empty_space {f : Addr} {fd : FuncData} {k : Nat} (F : Fun K "empty_space" "empty_space" s_empty_space f fd) (c1 : Ca P w K mg base k "are_lists" ["boxes", "items"] (sp_are_lists K)) (c2 : Ca P w K mg base k "is_stock" ["stock", "count"] sp_is_stock)
    (c3 : Ca P w K mg base k "box_count" ["boxes"] (sp_box_count K)) (c4 : Ca P w K mg base k "stock_cost" ["stock", "boxes", "items"] (sp_stock_cost K)) (c5 : Ca P w K mg base k "items_volume" ["items"] (sp_items_volume K)) (gN : GI mg "NO_LIST" (-22)) (gB : GI mg "NO_BOX" (-2)) : FnOk P w K mg base CX0 (k + 1) f fd ["stock", "boxes", "items"] (sp_empty_space K) := by
  refine F.ok sc_empty_space (fun vs H Q E h => ?_) (fun cdv A outer s H vs Q E hr h => ?_)
  · obtain ⟨a, b, st, ns, ms, rfl, _⟩ := h
    rfl
  · obtain ⟨a, b, st, ns, ms, rfl, hA, hB, hst, nn, nm, q⟩ := h
    obtain ⟨st, rfl⟩ : ∃ n : Nat, st = (n : Int) := ⟨st.toNat, by omega⟩
    refine ⟨_, pss_cons (ps_if (pt_not (pt_val (pe_ca c1 hr (by rfl) (pa_cons (pv 1) (pa_cons (pv 2) pa_nil))))) (pss_one (ps_ret (pe_lst (pa_cons (pe_gi (by rfl) gN) pa_nil)))) pss_nil)
      (pss_cons (ps_if (pt_not (pt_val (pe_ca c2 hr (by rfl) (pa_cons (pv 0) (pa_cons (pe_ca c3 hr (by rfl) (pa_cons (pv 1) pa_nil)) pa_nil))))) (pss_one (ps_ret (pe_lst (pa_cons (pe_gi (by rfl) gB) pa_nil)))) pss_nil)
      (pss_one (ps_ret (pe_lst (pa_cons pe_int (pa_cons (pe_op op_sub (pe_ca c4 hr (by rfl) (pa_cons (pv 0) (pa_cons (pv 1) (pa_cons (pv 2) pa_nil)))) (pe_ca c5 hr (by rfl) (pa_cons (pv 2) pa_nil))) pa_nil)))))), ?_⟩
    rw [empty_space_is] at q
    refine q_when (et_not (et_B (ev_ca (.bl (okB ns && okI ms)) (ep_val (ev_var rfl) (ep_val (ev_var rfl) ep_nil)) ?_))) ?_ ?_
    · rintro vs H2 e2 ⟨_, rfl, _, rfl, rfl⟩
      exact sv_are_lists (ex_l e2 hA) (ex_l e2 hB)
    · intro hb H1 e1
      rcases lists_read nn nm with ⟨r1, r2, _⟩ | ⟨_, r⟩
      · rw [r1, r2] at hb
        cases hb
      · rw [r] at q
        exact s_retL (el_lst (ea_cons ev_c ea_nil) (by show 1 ≤ 100000; decide)) fun p H2 hp e2 h2 => q p H2 (fresh_back e1 hp) (e1.trans e2) h2
    · intro hb H1 e1
      rcases lists_read nn nm with ⟨r1, r2, bs, ts, rfl, rfl, h7, h8, vb, vi, r⟩ | ⟨r1, _⟩
      · rw [r, Int.toNat_natCast] at q
        refine q_when (et_not (et_B (ev_ca (.bl (decide (st < 2 ^ bs.length))) (ep_val (ev_var rfl) (ep_val (ev_ca (.int (bs.length : Int)) (ep_val (ev_var rfl) ep_nil) ?_) ep_nil)) ?_))) ?_ ?_
        · rintro vs H2 e2 ⟨_, rfl, rfl⟩
          exact sv_box_count (ex_l (e1.trans e2) hA)
        · rintro vs H2 e2 ⟨_, rfl, _, rfl, rfl⟩
          exact sv_is_stock (by omega)
        · intro hs H2 e2
          have z : 2 ^ bs.length ≤ st := by simpa using hs
          unfold Kbe3.withStock at q
          rw [if_pos z] at q
          exact s_retL (el_lst (ea_cons ev_c ea_nil) (by show 1 ≤ 100000; decide)) fun p H3 hp d3 h3 => q p H3 (fresh_back (e1.trans e2) hp) ((e1.trans e2).trans d3) h3
        · intro hs H2 e2
          have z : ¬ 2 ^ bs.length ≤ st := by simpa using hs
          unfold Kbe3.withStock at q
          rw [if_neg z] at q
          refine s_retL (el_lst (ea_cons ev_c (ea_cons (ev_op (ev_ca (.int (Kbe3.totalCost bs ts st : Int)) (ep_val (ev_var rfl) (ep_val (ev_var rfl) (ep_val (ev_var rfl) ep_nil))) ?_) (ev_ca (.int (part volOf ts ts.length : Int)) (ep_val (ev_var rfl) ep_nil) ?_) rv_I0) ea_nil)) (by show 2 ≤ 100000; decide)) fun p H3 hp d3 h3 => q p H3 (fresh_back (e1.trans e2) hp) ((e1.trans e2).trans d3) ?_
          · rintro vs H3 d3 ⟨_, rfl, _, rfl, _, rfl, rfl⟩
            exact sv_stock_cost ⟨ex_l ((e1.trans e2).trans d3) hA, h7, vb, ex_l ((e1.trans e2).trans d3) hB, h8, vi⟩
          · rintro vs H3 d3 ⟨_, rfl, rfl⟩
            exact sv_items_volume (ex_l ((e1.trans e2).trans d3) hB) h8 vi
          · rw [part_all] at h3
            exact h3
      · rw [r1] at hb
        cases hb
theorem all_mk {P : Program} {w : World} {K : PySem.W.Frag} {h : Heap} {mg : Str → Option Value} {fa f1 f2 f3 f4 f5 f6 f7 f8 f9 f10 f11 f12 f13 f14 f15 f16 f17 f18 f19 f20 f21 f22 : Addr} (X : K.In h) (G : h.Ns mainGlobals mg) (hfa : mg "empty_space" = some (.ref fa))
    {od1 an1 od2 an2 od3 an3 od4 an4 od5 an5 od6 an6 od7 an7 od8 an8 od9 an9 od10 an10 od11 an11 od12 an12 od13 an13 od14 an14 od15 an15 od16 an16 od17 an17 od18 an18 od19 an19 od20 an20 od21 an21 od22 an22 : Option Addr} {sl1 sl2 sl3 sl4 sl5 sl6 sl7 sl8 sl9 sl10 sl11 sl12 sl13 sl14 sl15 sl16 sl17 sl18 sl19 sl20 sl21 sl22 : Array (Option Value)}
    {oc1 kV1 dc1 pm1 cd1 ct1 oc2 kV2 dc2 pm2 cd2 ct2 oc3 kV3 dc3 pm3 cd3 ct3 oc4 kV4 dc4 pm4 cd4 ct4 oc5 kV5 dc5 pm5 cd5 ct5 oc6 kV6 dc6 pm6 cd6 ct6 oc7 kV7 dc7 pm7 cd7 ct7 oc8 kV8 dc8 pm8 cd8 ct8 oc9 kV9 dc9 pm9 cd9 ct9 oc10 kV10 dc10 pm10 cd10 ct10 oc11 kV11 dc11 pm11 cd11 ct11 oc12 kV12 dc12 pm12 cd12 ct12 oc13 kV13 dc13 pm13 cd13 ct13 oc14 kV14 dc14 pm14 cd14 ct14 oc15 kV15 dc15 pm15 cd15 ct15 oc16 kV16 dc16 pm16 cd16 ct16 oc17 kV17 dc17 pm17 cd17 ct17 oc18 kV18 dc18 pm18 cd18 ct18 oc19 kV19 dc19 pm19 cd19 ct19 oc20 kV20 dc20 pm20 cd20 ct20 oc21 kV21 dc21 pm21 cd21 ct21 oc22 kV22 dc22 pm22 cd22 ct22 : Value}
    {tLEAST tMOST_EDGE tBOX_LENGTH tMOST_BOXES tMOST_QUANTITY tITEM_LENGTH tMOST_ITEMS tNO_FIT_COST tNO_LIST tNO_BOX : Tok}
    (a1 : PySem.W.nsIn K mainGlobals "power_of_two" = some (some (.ref f1))) (l1 : K.lookup f1 = some ⟨oc1, od1, .func (PySem.W.fnOf "power_of_two" "power_of_two" (defArgs s_power_of_two) (defBody s_power_of_two) (defScope s_power_of_two) .none kV1 dc1 pm1 an1 cd1 ct1), sl1⟩) (c1 : PySem.W.codeIn K cd1 "power_of_two" = true) (k1 : PySem.W.keepIn K (.ref f1) = true)
    (a2 : PySem.W.nsIn K mainGlobals "is_stock" = some (some (.ref f2))) (l2 : K.lookup f2 = some ⟨oc2, od2, .func (PySem.W.fnOf "is_stock" "is_stock" (defArgs s_is_stock) (defBody s_is_stock) (defScope s_is_stock) .none kV2 dc2 pm2 an2 cd2 ct2), sl2⟩) (c2 : PySem.W.codeIn K cd2 "is_stock" = true) (k2 : PySem.W.keepIn K (.ref f2) = true)
    (a3 : PySem.W.nsIn K mainGlobals "is_stocked" = some (some (.ref f3))) (l3 : K.lookup f3 = some ⟨oc3, od3, .func (PySem.W.fnOf "is_stocked" "is_stocked" (defArgs s_is_stocked) (defBody s_is_stocked) (defScope s_is_stocked) .none kV3 dc3 pm3 an3 cd3 ct3), sl3⟩) (c3 : PySem.W.codeIn K cd3 "is_stocked" = true) (k3 : PySem.W.keepIn K (.ref f3) = true)
    (a4 : PySem.W.nsIn K mainGlobals "is_between" = some (some (.ref f4))) (l4 : K.lookup f4 = some ⟨oc4, od4, .func (PySem.W.fnOf "is_between" "is_between" (defArgs s_is_between) (defBody s_is_between) (defScope s_is_between) .none kV4 dc4 pm4 an4 cd4 ct4), sl4⟩) (c4 : PySem.W.codeIn K cd4 "is_between" = true) (k4 : PySem.W.keepIn K (.ref f4) = true)
    (a5 : PySem.W.nsIn K mainGlobals "are_edges" = some (some (.ref f5))) (l5 : K.lookup f5 = some ⟨oc5, od5, .func (PySem.W.fnOf "are_edges" "are_edges" (defArgs s_are_edges) (defBody s_are_edges) (defScope s_are_edges) .none kV5 dc5 pm5 an5 cd5 ct5), sl5⟩) (c5 : PySem.W.codeIn K cd5 "are_edges" = true) (k5 : PySem.W.keepIn K (.ref f5) = true)
    (a6 : PySem.W.nsIn K mainGlobals "are_boxes" = some (some (.ref f6))) (l6 : K.lookup f6 = some ⟨oc6, od6, .func (PySem.W.fnOf "are_boxes" "are_boxes" (defArgs s_are_boxes) (defBody s_are_boxes) (defScope s_are_boxes) .none kV6 dc6 pm6 an6 cd6 ct6), sl6⟩) (c6 : PySem.W.codeIn K cd6 "are_boxes" = true) (k6 : PySem.W.keepIn K (.ref f6) = true)
    (a7 : PySem.W.nsIn K mainGlobals "is_item" = some (some (.ref f7))) (l7 : K.lookup f7 = some ⟨oc7, od7, .func (PySem.W.fnOf "is_item" "is_item" (defArgs s_is_item) (defBody s_is_item) (defScope s_is_item) .none kV7 dc7 pm7 an7 cd7 ct7), sl7⟩) (c7 : PySem.W.codeIn K cd7 "is_item" = true) (k7 : PySem.W.keepIn K (.ref f7) = true)
    (a8 : PySem.W.nsIn K mainGlobals "are_items" = some (some (.ref f8))) (l8 : K.lookup f8 = some ⟨oc8, od8, .func (PySem.W.fnOf "are_items" "are_items" (defArgs s_are_items) (defBody s_are_items) (defScope s_are_items) .none kV8 dc8 pm8 an8 cd8 ct8), sl8⟩) (c8 : PySem.W.codeIn K cd8 "are_items" = true) (k8 : PySem.W.keepIn K (.ref f8) = true)
    (a9 : PySem.W.nsIn K mainGlobals "volume_of" = some (some (.ref f9))) (l9 : K.lookup f9 = some ⟨oc9, od9, .func (PySem.W.fnOf "volume_of" "volume_of" (defArgs s_volume_of) (defBody s_volume_of) (defScope s_volume_of) .none kV9 dc9 pm9 an9 cd9 ct9), sl9⟩) (c9 : PySem.W.codeIn K cd9 "volume_of" = true) (k9 : PySem.W.keepIn K (.ref f9) = true)
    (a10 : PySem.W.nsIn K mainGlobals "is_fitting" = some (some (.ref f10))) (l10 : K.lookup f10 = some ⟨oc10, od10, .func (PySem.W.fnOf "is_fitting" "is_fitting" (defArgs s_is_fitting) (defBody s_is_fitting) (defScope s_is_fitting) .none kV10 dc10 pm10 an10 cd10 ct10), sl10⟩) (c10 : PySem.W.codeIn K cd10 "is_fitting" = true) (k10 : PySem.W.keepIn K (.ref f10) = true)
    (a11 : PySem.W.nsIn K mainGlobals "box_count" = some (some (.ref f11))) (l11 : K.lookup f11 = some ⟨oc11, od11, .func (PySem.W.fnOf "box_count" "box_count" (defArgs s_box_count) (defBody s_box_count) (defScope s_box_count) .none kV11 dc11 pm11 an11 cd11 ct11), sl11⟩) (c11 : PySem.W.codeIn K cd11 "box_count" = true) (k11 : PySem.W.keepIn K (.ref f11) = true)
    (a12 : PySem.W.nsIn K mainGlobals "box_size_at" = some (some (.ref f12))) (l12 : K.lookup f12 = some ⟨oc12, od12, .func (PySem.W.fnOf "box_size_at" "box_size_at" (defArgs s_box_size_at) (defBody s_box_size_at) (defScope s_box_size_at) .none kV12 dc12 pm12 an12 cd12 ct12), sl12⟩) (c12 : PySem.W.codeIn K cd12 "box_size_at" = true) (k12 : PySem.W.keepIn K (.ref f12) = true)
    (a13 : PySem.W.nsIn K mainGlobals "item_count" = some (some (.ref f13))) (l13 : K.lookup f13 = some ⟨oc13, od13, .func (PySem.W.fnOf "item_count" "item_count" (defArgs s_item_count) (defBody s_item_count) (defScope s_item_count) .none kV13 dc13 pm13 an13 cd13 ct13), sl13⟩) (c13 : PySem.W.codeIn K cd13 "item_count" = true) (k13 : PySem.W.keepIn K (.ref f13) = true)
    (a14 : PySem.W.nsIn K mainGlobals "item_size_at" = some (some (.ref f14))) (l14 : K.lookup f14 = some ⟨oc14, od14, .func (PySem.W.fnOf "item_size_at" "item_size_at" (defArgs s_item_size_at) (defBody s_item_size_at) (defScope s_item_size_at) .none kV14 dc14 pm14 an14 cd14 ct14), sl14⟩) (c14 : PySem.W.codeIn K cd14 "item_size_at" = true) (k14 : PySem.W.keepIn K (.ref f14) = true)
    (a15 : PySem.W.nsIn K mainGlobals "quantity_at" = some (some (.ref f15))) (l15 : K.lookup f15 = some ⟨oc15, od15, .func (PySem.W.fnOf "quantity_at" "quantity_at" (defArgs s_quantity_at) (defBody s_quantity_at) (defScope s_quantity_at) .none kV15 dc15 pm15 an15 cd15 ct15), sl15⟩) (c15 : PySem.W.codeIn K cd15 "quantity_at" = true) (k15 : PySem.W.keepIn K (.ref f15) = true)
    (a16 : PySem.W.nsIn K mainGlobals "is_usable" = some (some (.ref f16))) (l16 : K.lookup f16 = some ⟨oc16, od16, .func (PySem.W.fnOf "is_usable" "is_usable" (defArgs s_is_usable) (defBody s_is_usable) (defScope s_is_usable) .none kV16 dc16 pm16 an16 cd16 ct16), sl16⟩) (c16 : PySem.W.codeIn K cd16 "is_usable" = true) (k16 : PySem.W.keepIn K (.ref f16) = true)
    (a17 : PySem.W.nsIn K mainGlobals "box_used" = some (some (.ref f17))) (l17 : K.lookup f17 = some ⟨oc17, od17, .func (PySem.W.fnOf "box_used" "box_used" (defArgs s_box_used) (defBody s_box_used) (defScope s_box_used) .none kV17 dc17 pm17 an17 cd17 ct17), sl17⟩) (c17 : PySem.W.codeIn K cd17 "box_used" = true) (k17 : PySem.W.keepIn K (.ref f17) = true)
    (a18 : PySem.W.nsIn K mainGlobals "item_cost" = some (some (.ref f18))) (l18 : K.lookup f18 = some ⟨oc18, od18, .func (PySem.W.fnOf "item_cost" "item_cost" (defArgs s_item_cost) (defBody s_item_cost) (defScope s_item_cost) .none kV18 dc18 pm18 an18 cd18 ct18), sl18⟩) (c18 : PySem.W.codeIn K cd18 "item_cost" = true) (k18 : PySem.W.keepIn K (.ref f18) = true)
    (a19 : PySem.W.nsIn K mainGlobals "stock_cost" = some (some (.ref f19))) (l19 : K.lookup f19 = some ⟨oc19, od19, .func (PySem.W.fnOf "stock_cost" "stock_cost" (defArgs s_stock_cost) (defBody s_stock_cost) (defScope s_stock_cost) .none kV19 dc19 pm19 an19 cd19 ct19), sl19⟩) (c19 : PySem.W.codeIn K cd19 "stock_cost" = true) (k19 : PySem.W.keepIn K (.ref f19) = true)
    (a20 : PySem.W.nsIn K mainGlobals "items_volume" = some (some (.ref f20))) (l20 : K.lookup f20 = some ⟨oc20, od20, .func (PySem.W.fnOf "items_volume" "items_volume" (defArgs s_items_volume) (defBody s_items_volume) (defScope s_items_volume) .none kV20 dc20 pm20 an20 cd20 ct20), sl20⟩) (c20 : PySem.W.codeIn K cd20 "items_volume" = true) (k20 : PySem.W.keepIn K (.ref f20) = true)
    (a21 : PySem.W.nsIn K mainGlobals "are_lists" = some (some (.ref f21))) (l21 : K.lookup f21 = some ⟨oc21, od21, .func (PySem.W.fnOf "are_lists" "are_lists" (defArgs s_are_lists) (defBody s_are_lists) (defScope s_are_lists) .none kV21 dc21 pm21 an21 cd21 ct21), sl21⟩) (c21 : PySem.W.codeIn K cd21 "are_lists" = true) (k21 : PySem.W.keepIn K (.ref f21) = true)
    (a22 : PySem.W.nsIn K mainGlobals "empty_space" = some (some (.ref f22))) (l22 : K.lookup f22 = some ⟨oc22, od22, .func (PySem.W.fnOf "empty_space" "empty_space" (defArgs s_empty_space) (defBody s_empty_space) (defScope s_empty_space) .none kV22 dc22 pm22 an22 cd22 ct22), sl22⟩) (c22 : PySem.W.codeIn K cd22 "empty_space" = true) (k22 : PySem.W.keepIn K (.ref f22) = true)
    (gLEAST : PySem.W.nsIn K mainGlobals "LEAST" = some (some (.int 1 tLEAST)))
    (gMOST_EDGE : PySem.W.nsIn K mainGlobals "MOST_EDGE" = some (some (.int 20 tMOST_EDGE)))
    (gBOX_LENGTH : PySem.W.nsIn K mainGlobals "BOX_LENGTH" = some (some (.int 3 tBOX_LENGTH)))
    (gMOST_BOXES : PySem.W.nsIn K mainGlobals "MOST_BOXES" = some (some (.int 7 tMOST_BOXES)))
    (gMOST_QUANTITY : PySem.W.nsIn K mainGlobals "MOST_QUANTITY" = some (some (.int 99 tMOST_QUANTITY)))
    (gITEM_LENGTH : PySem.W.nsIn K mainGlobals "ITEM_LENGTH" = some (some (.int 4 tITEM_LENGTH)))
    (gMOST_ITEMS : PySem.W.nsIn K mainGlobals "MOST_ITEMS" = some (some (.int 8 tMOST_ITEMS)))
    (gNO_FIT_COST : PySem.W.nsIn K mainGlobals "NO_FIT_COST" = some (some (.int 100000 tNO_FIT_COST)))
    (gNO_LIST : PySem.W.nsIn K mainGlobals "NO_LIST" = some (some (.int (-22) tNO_LIST)))
    (gNO_BOX : PySem.W.nsIn K mainGlobals "NO_BOX" = some (some (.int (-2) tNO_BOX)))
    (zrange : PySem.W.nsIn K mainGlobals "range" = some none)
    (zlen : PySem.W.nsIn K mainGlobals "len" = some none)
    (zsorted : PySem.W.nsIn K mainGlobals "sorted" = some none)
    : ∃ fd : FuncData, (∀ (s : Shared) (us : List Value), us.length = (["stock", "boxes", "items"] : List Str).length → BindsTo s fd ⟨us, []⟩ ((["stock", "boxes", "items"] : List Str).zip us)) ∧ ∀ base : Heap, K.In base → base.Ns mainGlobals mg → FnOk P w K mg base CX0 7 fa fd ["stock", "boxes", "items"] (sp_empty_space K) := by
  have e := hfa.symm.trans (PySem.W.mg_of X G a22)
  cases e
  have F1 := fun_mk (st := s_power_of_two) l1 c1 k1
  have b1 := F1.binds (ps := ["exponent"]) fun _ _ _ _ _ _ us hl => match us, hl with | [_], _ => rfl
  have F2 := fun_mk (st := s_is_stock) l2 c2 k2
  have b2 := F2.binds (ps := ["stock", "count"]) fun _ _ _ _ _ _ us hl => match us, hl with | [_, _], _ => rfl
  have F3 := fun_mk (st := s_is_stocked) l3 c3 k3
  have b3 := F3.binds (ps := ["stock", "box"]) fun _ _ _ _ _ _ us hl => match us, hl with | [_, _], _ => rfl
  have F4 := fun_mk (st := s_is_between) l4 c4 k4
  have b4 := F4.binds (ps := ["number", "least", "most"]) fun _ _ _ _ _ _ us hl => match us, hl with | [_, _, _], _ => rfl
  have F5 := fun_mk (st := s_are_edges) l5 c5 k5
  have b5 := F5.binds (ps := ["numbers"]) fun _ _ _ _ _ _ us hl => match us, hl with | [_], _ => rfl
  have F6 := fun_mk (st := s_are_boxes) l6 c6 k6
  have b6 := F6.binds (ps := ["boxes"]) fun _ _ _ _ _ _ us hl => match us, hl with | [_], _ => rfl
  have F7 := fun_mk (st := s_is_item) l7 c7 k7
  have b7 := F7.binds (ps := ["edges", "quantity"]) fun _ _ _ _ _ _ us hl => match us, hl with | [_, _], _ => rfl
  have F8 := fun_mk (st := s_are_items) l8 c8 k8
  have b8 := F8.binds (ps := ["items"]) fun _ _ _ _ _ _ us hl => match us, hl with | [_], _ => rfl
  have F9 := fun_mk (st := s_volume_of) l9 c9 k9
  have b9 := F9.binds (ps := ["size"]) fun _ _ _ _ _ _ us hl => match us, hl with | [_], _ => rfl
  have F10 := fun_mk (st := s_is_fitting) l10 c10 k10
  have b10 := F10.binds (ps := ["item_size", "box_size"]) fun _ _ _ _ _ _ us hl => match us, hl with | [_, _], _ => rfl
  have F11 := fun_mk (st := s_box_count) l11 c11 k11
  have b11 := F11.binds (ps := ["boxes"]) fun _ _ _ _ _ _ us hl => match us, hl with | [_], _ => rfl
  have F12 := fun_mk (st := s_box_size_at) l12 c12 k12
  have b12 := F12.binds (ps := ["boxes", "box"]) fun _ _ _ _ _ _ us hl => match us, hl with | [_, _], _ => rfl
  have F13 := fun_mk (st := s_item_count) l13 c13 k13
  have b13 := F13.binds (ps := ["items"]) fun _ _ _ _ _ _ us hl => match us, hl with | [_], _ => rfl
  have F14 := fun_mk (st := s_item_size_at) l14 c14 k14
  have b14 := F14.binds (ps := ["items", "item"]) fun _ _ _ _ _ _ us hl => match us, hl with | [_, _], _ => rfl
  have F15 := fun_mk (st := s_quantity_at) l15 c15 k15
  have b15 := F15.binds (ps := ["items", "item"]) fun _ _ _ _ _ _ us hl => match us, hl with | [_, _], _ => rfl
  have F16 := fun_mk (st := s_is_usable) l16 c16 k16
  have b16 := F16.binds (ps := ["stock", "boxes", "box", "size"]) fun _ _ _ _ _ _ us hl => match us, hl with | [_, _, _, _], _ => rfl
  have F17 := fun_mk (st := s_box_used) l17 c17 k17
  have b17 := F17.binds (ps := ["stock", "boxes", "size"]) fun _ _ _ _ _ _ us hl => match us, hl with | [_, _, _], _ => rfl
  have F18 := fun_mk (st := s_item_cost) l18 c18 k18
  have b18 := F18.binds (ps := ["stock", "boxes", "size"]) fun _ _ _ _ _ _ us hl => match us, hl with | [_, _, _], _ => rfl
  have F19 := fun_mk (st := s_stock_cost) l19 c19 k19
  have b19 := F19.binds (ps := ["stock", "boxes", "items"]) fun _ _ _ _ _ _ us hl => match us, hl with | [_, _, _], _ => rfl
  have F20 := fun_mk (st := s_items_volume) l20 c20 k20
  have b20 := F20.binds (ps := ["items"]) fun _ _ _ _ _ _ us hl => match us, hl with | [_], _ => rfl
  have F21 := fun_mk (st := s_are_lists) l21 c21 k21
  have b21 := F21.binds (ps := ["boxes", "items"]) fun _ _ _ _ _ _ us hl => match us, hl with | [_, _], _ => rfl
  have F22 := fun_mk (st := s_empty_space) l22 c22 k22
  refine ⟨PySem.W.fnOf "empty_space" "empty_space" (defArgs s_empty_space) (defBody s_empty_space) (defScope s_empty_space) .none kV22 dc22 pm22 an22 cd22 ct22, fun s us hu => match us, hu with | [_, _, _], _ => .of_eq rfl, fun base _ _ => ?_⟩
  have C1 : Ca P w K mg base 1 "power_of_two" ["exponent"] sp_power_of_two := ⟨_, _, ok_power_of_two (P := P) (w := w) (base := base) (k := 0) F1 (PySem.W.mg_none_of X G zrange), PySem.W.mg_of X G a1, k1, b1⟩
  have C2 : Ca P w K mg base 2 "is_stock" ["stock", "count"] sp_is_stock := ⟨_, _, ok_is_stock (P := P) (w := w) (base := base) (k := 1) F2 (C1.mono (by decide)), PySem.W.mg_of X G a2, k2, b2⟩
  have C3 : Ca P w K mg base 2 "is_stocked" ["stock", "box"] sp_is_stocked := ⟨_, _, ok_is_stocked (P := P) (w := w) (base := base) (k := 1) F3 (C1.mono (by decide)), PySem.W.mg_of X G a3, k3, b3⟩
  have C4 : Ca P w K mg base 1 "is_between" ["number", "least", "most"] sp_is_between := ⟨_, _, ok_is_between (P := P) (w := w) (base := base) (k := 0) F4 , PySem.W.mg_of X G a4, k4, b4⟩
  have C5 : Ca P w K mg base 2 "are_edges" ["numbers"] (sp_are_edges K) := ⟨_, _, ok_are_edges (P := P) (w := w) (base := base) (k := 1) F5 (C4.mono (by decide)) ⟨_, PySem.W.mg_of X G gLEAST⟩ ⟨_, PySem.W.mg_of X G gMOST_EDGE⟩, PySem.W.mg_of X G a5, k5, b5⟩
  have C6 : Ca P w K mg base 3 "are_boxes" ["boxes"] (sp_are_boxes K) := ⟨_, _, ok_are_boxes (P := P) (w := w) (base := base) (k := 2) F6 (C5.mono (by decide)) ⟨_, PySem.W.mg_of X G gBOX_LENGTH⟩ ⟨_, PySem.W.mg_of X G gMOST_BOXES⟩ (PySem.W.mg_none_of X G zlen), PySem.W.mg_of X G a6, k6, b6⟩
  have C7 : Ca P w K mg base 3 "is_item" ["edges", "quantity"] (sp_is_item K) := ⟨_, _, ok_is_item (P := P) (w := w) (base := base) (k := 2) F7 (C5.mono (by decide)) (C4.mono (by decide)) ⟨_, PySem.W.mg_of X G gLEAST⟩ ⟨_, PySem.W.mg_of X G gMOST_QUANTITY⟩, PySem.W.mg_of X G a7, k7, b7⟩
  have C8 : Ca P w K mg base 4 "are_items" ["items"] (sp_are_items K) := ⟨_, _, ok_are_items (P := P) (w := w) (base := base) (k := 3) F8 (C7.mono (by decide)) ⟨_, PySem.W.mg_of X G gITEM_LENGTH⟩ ⟨_, PySem.W.mg_of X G gMOST_ITEMS⟩ (PySem.W.mg_none_of X G zlen) (PySem.W.mg_none_of X G zrange), PySem.W.mg_of X G a8, k8, b8⟩
  have C9 : Ca P w K mg base 1 "volume_of" ["size"] (sp_volume_of K) := ⟨_, _, ok_volume_of (P := P) (w := w) (base := base) (k := 0) F9 , PySem.W.mg_of X G a9, k9, b9⟩
  have C10 : Ca P w K mg base 1 "is_fitting" ["item_size", "box_size"] (sp_is_fitting K) := ⟨_, _, ok_is_fitting (P := P) (w := w) (base := base) (k := 0) F10 (PySem.W.mg_none_of X G zsorted), PySem.W.mg_of X G a10, k10, b10⟩
  have C11 : Ca P w K mg base 1 "box_count" ["boxes"] (sp_box_count K) := ⟨_, _, ok_box_count (P := P) (w := w) (base := base) (k := 0) F11 ⟨_, PySem.W.mg_of X G gBOX_LENGTH⟩ (PySem.W.mg_none_of X G zlen), PySem.W.mg_of X G a11, k11, b11⟩
  have C12 : Ca P w K mg base 1 "box_size_at" ["boxes", "box"] (sp_box_size_at K) := ⟨_, _, ok_box_size_at (P := P) (w := w) (base := base) (k := 0) F12 ⟨_, PySem.W.mg_of X G gBOX_LENGTH⟩, PySem.W.mg_of X G a12, k12, b12⟩
  have C13 : Ca P w K mg base 1 "item_count" ["items"] (sp_item_count K) := ⟨_, _, ok_item_count (P := P) (w := w) (base := base) (k := 0) F13 ⟨_, PySem.W.mg_of X G gITEM_LENGTH⟩ (PySem.W.mg_none_of X G zlen), PySem.W.mg_of X G a13, k13, b13⟩
  have C14 : Ca P w K mg base 1 "item_size_at" ["items", "item"] (sp_item_size_at K) := ⟨_, _, ok_item_size_at (P := P) (w := w) (base := base) (k := 0) F14 ⟨_, PySem.W.mg_of X G gITEM_LENGTH⟩, PySem.W.mg_of X G a14, k14, b14⟩
  have C15 : Ca P w K mg base 1 "quantity_at" ["items", "item"] (sp_quantity_at K) := ⟨_, _, ok_quantity_at (P := P) (w := w) (base := base) (k := 0) F15 ⟨_, PySem.W.mg_of X G gITEM_LENGTH⟩, PySem.W.mg_of X G a15, k15, b15⟩
  have C16 : Ca P w K mg base 3 "is_usable" ["stock", "boxes", "box", "size"] (sp_is_usable K) := ⟨_, _, ok_is_usable (P := P) (w := w) (base := base) (k := 2) F16 (C3.mono (by decide)) (C10.mono (by decide)) (C12.mono (by decide)), PySem.W.mg_of X G a16, k16, b16⟩
  have C17 : Ca P w K mg base 4 "box_used" ["stock", "boxes", "size"] (sp_box_used K) := ⟨_, _, ok_box_used (P := P) (w := w) (base := base) (k := 3) F17 (C11.mono (by decide)) (C16.mono (by decide)) (C9.mono (by decide)) (C12.mono (by decide)) (PySem.W.mg_none_of X G zrange), PySem.W.mg_of X G a17, k17, b17⟩
  have C18 : Ca P w K mg base 5 "item_cost" ["stock", "boxes", "size"] (sp_item_cost K) := ⟨_, _, ok_item_cost (P := P) (w := w) (base := base) (k := 4) F18 (C17.mono (by decide)) (C9.mono (by decide)) (C12.mono (by decide)) ⟨_, PySem.W.mg_of X G gNO_FIT_COST⟩, PySem.W.mg_of X G a18, k18, b18⟩
  have C19 : Ca P w K mg base 6 "stock_cost" ["stock", "boxes", "items"] (sp_stock_cost K) := ⟨_, _, ok_stock_cost (P := P) (w := w) (base := base) (k := 5) F19 (C13.mono (by decide)) (C15.mono (by decide)) (C18.mono (by decide)) (C14.mono (by decide)) (PySem.W.mg_none_of X G zrange), PySem.W.mg_of X G a19, k19, b19⟩
  have C20 : Ca P w K mg base 2 "items_volume" ["items"] (sp_items_volume K) := ⟨_, _, ok_items_volume (P := P) (w := w) (base := base) (k := 1) F20 (C13.mono (by decide)) (C15.mono (by decide)) (C9.mono (by decide)) (C14.mono (by decide)) (PySem.W.mg_none_of X G zrange), PySem.W.mg_of X G a20, k20, b20⟩
  have C21 : Ca P w K mg base 5 "are_lists" ["boxes", "items"] (sp_are_lists K) := ⟨_, _, ok_are_lists (P := P) (w := w) (base := base) (k := 4) F21 (C6.mono (by decide)) (C8.mono (by decide)), PySem.W.mg_of X G a21, k21, b21⟩
  exact ok_empty_space (P := P) (w := w) (base := base) (k := 6) F22 (C21.mono (by decide)) (C2.mono (by decide)) (C11.mono (by decide)) (C19.mono (by decide)) (C20.mono (by decide)) ⟨_, PySem.W.mg_of X G gNO_LIST⟩ ⟨_, PySem.W.mg_of X G gNO_BOX⟩
end
end Bx
open PySem PySem.W PyProof.Rows
set_option maxRecDepth 100000 in
set_option maxHeartbeats 8000000 in
theorem PySem.Challenge.cw_boxeskept_s08_empty_space_holds : PySem.Challenge.rw_boxeskept_s08_empty_space.Holds := by
  w_on; k_headS; (case hw => exact ⟨[.int 0, .list [], .list []], by decide +kernel, by decide +kernel⟩)
  k_fillS
  refine L2.walk_specK (r := PySem.Challenge.rw_boxeskept_s08_empty_space) (k := 7) (CX := L2.CX0) (ps := ["stock", "boxes", "items"]) (sp := fun K => Bx.sp_empty_space K) (by decide +kernel) rfl rfl ⟨rfl, by decide, by decide⟩ (fun w h Y => PySem.W.kIn_of Y) ?F ?S (fun _ _ _ _ z => z)
  case F =>
    intro w mg fa h Y KX G hmg
    refine' Bx.all_mk KX G hmg ?a1 ?l1 ?c1 ?k1 ?a2 ?l2 ?c2 ?k2 ?a3 ?l3 ?c3 ?k3 ?a4 ?l4 ?c4 ?k4 ?a5 ?l5 ?c5 ?k5 ?a6 ?l6 ?c6 ?k6 ?a7 ?l7 ?c7 ?k7 ?a8 ?l8 ?c8 ?k8 ?a9 ?l9 ?c9 ?k9 ?a10 ?l10 ?c10 ?k10 ?a11 ?l11 ?c11 ?k11 ?a12 ?l12 ?c12 ?k12 ?a13 ?l13 ?c13 ?k13 ?a14 ?l14 ?c14 ?k14 ?a15 ?l15 ?c15 ?k15 ?a16 ?l16 ?c16 ?k16 ?a17 ?l17 ?c17 ?k17 ?a18 ?l18 ?c18 ?k18 ?a19 ?l19 ?c19 ?k19 ?a20 ?l20 ?c20 ?k20 ?a21 ?l21 ?c21 ?k21 ?a22 ?l22 ?c22 ?k22 ?gLEAST ?gMOST_EDGE ?gBOX_LENGTH ?gMOST_BOXES ?gMOST_QUANTITY ?gITEM_LENGTH ?gMOST_ITEMS ?gNO_FIT_COST ?gNO_LIST ?gNO_BOX ?zrange ?zlen ?zsorted
    (case a1 => k_is)
    (case l1 => k_is)
    (case c1 => k_is)
    (case k1 => k_is)
    (case a2 => k_is)
    (case l2 => k_is)
    (case c2 => k_is)
    (case k2 => k_is)
    (case a3 => k_is)
    (case l3 => k_is)
    (case c3 => k_is)
    (case k3 => k_is)
    (case a4 => k_is)
    (case l4 => k_is)
    (case c4 => k_is)
    (case k4 => k_is)
    (case a5 => k_is)
    (case l5 => k_is)
    (case c5 => k_is)
    (case k5 => k_is)
    (case a6 => k_is)
    (case l6 => k_is)
    (case c6 => k_is)
    (case k6 => k_is)
    (case a7 => k_is)
    (case l7 => k_is)
    (case c7 => k_is)
    (case k7 => k_is)
    (case a8 => k_is)
    (case l8 => k_is)
    (case c8 => k_is)
    (case k8 => k_is)
    (case a9 => k_is)
    (case l9 => k_is)
    (case c9 => k_is)
    (case k9 => k_is)
    (case a10 => k_is)
    (case l10 => k_is)
    (case c10 => k_is)
    (case k10 => k_is)
    (case a11 => k_is)
    (case l11 => k_is)
    (case c11 => k_is)
    (case k11 => k_is)
    (case a12 => k_is)
    (case l12 => k_is)
    (case c12 => k_is)
    (case k12 => k_is)
    (case a13 => k_is)
    (case l13 => k_is)
    (case c13 => k_is)
    (case k13 => k_is)
    (case a14 => k_is)
    (case l14 => k_is)
    (case c14 => k_is)
    (case k14 => k_is)
    (case a15 => k_is)
    (case l15 => k_is)
    (case c15 => k_is)
    (case k15 => k_is)
    (case a16 => k_is)
    (case l16 => k_is)
    (case c16 => k_is)
    (case k16 => k_is)
    (case a17 => k_is)
    (case l17 => k_is)
    (case c17 => k_is)
    (case k17 => k_is)
    (case a18 => k_is)
    (case l18 => k_is)
    (case c18 => k_is)
    (case k18 => k_is)
    (case a19 => k_is)
    (case l19 => k_is)
    (case c19 => k_is)
    (case k19 => k_is)
    (case a20 => k_is)
    (case l20 => k_is)
    (case c20 => k_is)
    (case k20 => k_is)
    (case a21 => k_is)
    (case l21 => k_is)
    (case c21 => k_is)
    (case k21 => k_is)
    (case a22 => k_is)
    (case l22 => k_is)
    (case c22 => k_is)
    (case k22 => k_is)
    (case gLEAST => k_is)
    (case gMOST_EDGE => k_is)
    (case gBOX_LENGTH => k_is)
    (case gMOST_BOXES => k_is)
    (case gMOST_QUANTITY => k_is)
    (case gITEM_LENGTH => k_is)
    (case gMOST_ITEMS => k_is)
    (case gNO_FIT_COST => k_is)
    (case gNO_LIST => k_is)
    (case gNO_BOX => k_is)
    (case zrange => k_is)
    (case zlen => k_is)
    (case zsorted => k_is)
  case S =>
    intro K H xs a hO hwi hask hx
    cases hx with
    | cons h0 hx =>
      cases h0
      cases hx with
      | cons h1 hx =>
        cases h1 with
        | lst hs1 ha1 =>
          have e1 := L2.ints_dw a.2.1 _ ha1
          subst e1
          cases hx with
          | cons h2 hx =>
            cases h2 with
            | lst hs2 ha2 =>
              have e2 := L2.ints_dw a.2.2.1 _ ha2
              subst e2
              cases hx
              have q : (Codec.inInt 0 4294967295 a.1 && ((Codec.inLen 0 40 a.2.1 && a.2.1.all (Codec.inInt 0 4294967295)) && ((Codec.inLen 0 40 a.2.2.1 && a.2.2.1.all (Codec.inInt 0 4294967295)) && true))) = true := hwi
              simp only [Bool.and_eq_true, Codec.inInt_iff, List.all_eq_true] at q
              obtain ⟨hn0, ⟨_, hn1⟩, ⟨_, hn2⟩, _⟩ := q
              exact ⟨_, _, a.1, a.2.1, a.2.2.1, rfl, hs1, hs2, hn0.1, (fun x hx => (hn1 x hx).1), (fun x hx => (hn2 x hx).1), fun p H' _ _ hp => .lst (L2.SqL.of hp) (L2.dw_ints _)⟩
#print axioms PySem.Challenge.cw_boxeskept_s08_empty_space_holds

