import PyProof.Rows.All
import Wide.All
import OpenK.AllK
import Wide.FinOn
import Open.SpecLaws
import KE.OsGo
import HandS.ForMost
import HandS.ForSpec
import HandS.Walk
import HandS.TupAny
import HandS.Conv
import PySem.Challenge.RW_pebblemoves_s02_graph_pebbling_number
set_option Elab.async false
set_option linter.all false
set_option maxRecDepth 100000
set_option maxHeartbeats 4000000
namespace PmM
open Ks577 (Graph isAdjacent neighbourhood distance)
/-! ### reading the edges -/
def pairsOf : List Nat → List (Nat × Nat)
  | u :: v :: r => (u, v) :: pairsOf r
  | _ => []
def edgeOk (n : Nat) (p : Nat × Nat) : Bool := decide (p.1 < p.2) && decide (p.2 < n)
def pairLt (p q : Nat × Nat) : Bool := decide (p.1 < q.1 ∨ (p.1 = q.1 ∧ p.2 < q.2))
def incr : List (Nat × Nat) → Bool
  | p :: q :: r => pairLt p q && incr (q :: r)
  | _ => true
def areEdges (n : Nat) (es : List Nat) : Bool := es.length % 2 == 0 && (pairsOf es).all (edgeOk n) && incr (pairsOf es)
def isGraph (n : Nat) (es : List Nat) : Bool := decide (1 ≤ n) && decide (n ≤ 5) && areEdges n es
def addEdge (adj : List (List Nat)) (p : Nat × Nat) : List (List Nat) :=
  (adj.set p.1 (adj.getD p.1 [] ++ [p.2])).set p.2 ((adj.set p.1 (adj.getD p.1 [] ++ [p.2])).getD p.2 [] ++ [p.1])
def nbOf (n : Nat) (es : List Nat) : List (List Nat) := (pairsOf es).foldl addEdge (List.replicate n [])
/-! ### distances -/
def hasNb (adj : List (List Nat)) (found : List Int) (v : Nat) (d : Int) : Bool := (adj.getD v []).any fun o => found.getD o 0 == d
def atStart (n : Nat) (starts : List Nat) : List Int := (List.range n).map fun v => if starts.contains v then 0 else -1
def withNext (adj : List (List Nat)) (found : List Int) (d : Int) : List Int :=
  (List.range adj.length).map fun v => if (found.getD v 0 == -1 && hasNb adj found v (d - 1)) = true then d else found.getD v 0
def distAfter (adj : List (List Nat)) (starts : List Nat) : Nat → List Int
  | 0 => atStart adj.length starts
  | k + 1 => withNext adj (distAfter adj starts k) (1 + (k : Int))
def distFrom (adj : List (List Nat)) (starts : List Nat) : List Int := distAfter adj starts (adj.length - 1)
def isConn (adj : List (List Nat)) : Bool := !(distFrom adj [0]).contains (-1)
def maxI : List Int → Int
  | [] => 0
  | x :: r => r.foldl max x
def gAfter (adj : List (List Nat)) : Nat → Int
  | 0 => 0
  | k + 1 => max (gAfter adj k) (maxI (distFrom adj [k]))
def greatest (adj : List (List Nat)) : Int := gAfter adj adj.length
/-! ### lengths -/
theorem distAfter_len (adj : List (List Nat)) (st : List Nat) : ∀ k, (distAfter adj st k).length = adj.length
  | 0 => by simp [distAfter, atStart]
  | k + 1 => by simp [distAfter, withNext]
theorem distFrom_len (adj : List (List Nat)) (st : List Nat) : (distFrom adj st).length = adj.length := distAfter_len adj st _
/-! ### the greatest number of a list -/
theorem foldl_max_spec : ∀ (l : List Int) (x : Int), (l.foldl max x = x ∨ l.foldl max x ∈ l) ∧ x ≤ l.foldl max x ∧ ∀ y ∈ l, y ≤ l.foldl max x
  | [], x => ⟨.inl rfl, Int.le_refl _, fun _ h => by cases h⟩
  | a :: l, x => by
    obtain ⟨h1, h2, h3⟩ := foldl_max_spec l (max x a)
    rw [List.foldl_cons]
    refine ⟨?_, by omega, fun y hy => ?_⟩
    · rcases h1 with h1 | h1
      · rw [h1]
        by_cases c : x ≤ a
        · exact .inr (by rw [Int.max_eq_right c]; exact List.mem_cons_self)
        · exact .inl (by omega)
      · exact .inr (List.mem_cons_of_mem _ h1)
    · rcases List.mem_cons.mp hy with rfl | hy
      · omega
      · exact h3 y hy
theorem maxI_mem {l : List Int} (h : 0 < l.length) : maxI l ∈ l := by
  cases l with
  | nil => cases h
  | cons x r =>
    rcases (foldl_max_spec r x).1 with e | e
    · show r.foldl max x ∈ x :: r
      rw [e]
      exact List.mem_cons_self
    · exact List.mem_cons_of_mem _ e
theorem maxI_le {l : List Int} {y : Int} (h : y ∈ l) : y ≤ maxI l := by
  cases l with
  | nil => cases h
  | cons x r =>
    rcases List.mem_cons.mp h with rfl | h
    · exact (foldl_max_spec r y).2.1
    · exact (foldl_max_spec r x).2.2 y h
theorem maxI_is {l : List Int} {m : Int} (h : m ∈ l) (hm : ∀ y ∈ l, y ≤ m) : m = maxI l := by
  have h1 := maxI_le h
  have h2 := hm _ (maxI_mem (List.length_pos_of_mem h))
  omega
/-! ### the graph as the specification reads it -/
theorem parse_eq (n : Nat) : ∀ es : List Nat, Ks577.parseEdges n es = if areEdges n es = true then some (pairsOf es) else none
  | [] => rfl
  | [x] => rfl
  | u :: v :: r => by
    have ih := parse_eq n r
    rw [Ks577.parseEdges]
    by_cases h1 : v ≤ u ∨ n ≤ v
    · rw [if_pos h1, if_neg]
      intro q
      simp only [areEdges, pairsOf, List.all_cons, edgeOk, Bool.and_eq_true, decide_eq_true_eq] at q
      omega
    · rw [if_neg h1, ih]
      have e1 : edgeOk n (u, v) = true := by
        simp only [edgeOk, Bool.and_eq_true, decide_eq_true_eq]
        omega
      have e2 : ((u :: v :: r).length % 2 == 0) = (r.length % 2 == 0) := by
        have : (u :: v :: r).length % 2 = r.length % 2 := by simp only [List.length_cons]; omega
        rw [this]
      by_cases h2 : areEdges n r = true
      · rw [if_pos h2]
        have h2' := h2
        simp only [areEdges, Bool.and_eq_true] at h2
        obtain ⟨⟨a1, a2⟩, a3⟩ := h2
        cases e : pairsOf r with
        | nil =>
          have : areEdges n (u :: v :: r) = true := by
            simp only [areEdges, pairsOf, List.all_cons, e2, e1, e, incr, a1, List.all_nil, Bool.and_true]
          rw [if_pos this]
          simp only [pairsOf, e]
        | cons nx rest =>
          have e3 : incr (pairsOf (u :: v :: r)) = (pairLt (u, v) nx && incr (nx :: rest)) := by simp only [pairsOf, e, incr]
          have e4 : areEdges n (u :: v :: r) = pairLt (u, v) nx := by
            rw [e] at a2 a3
            rw [areEdges, e3, e2, a1, a3, Bool.and_true, Bool.true_and]
            simp only [pairsOf, List.all_cons, e1, e, Bool.true_and]
            simp only [List.all_cons] at a2
            rw [a2, Bool.true_and]
          rw [e4]
          simp only [pairLt, decide_eq_true_eq, pairsOf, e]
      · rw [if_neg h2]
        have : ¬ areEdges n (u :: v :: r) = true := by
          intro q
          apply h2
          simp only [areEdges, e2, pairsOf, List.all_cons, Bool.and_eq_true] at q ⊢
          refine ⟨⟨q.1.1, q.1.2.2⟩, ?_⟩
          cases e : pairsOf r with
          | nil => rfl
          | cons nx rest =>
            have := q.2
            rw [e] at this
            simp only [incr, Bool.and_eq_true] at this
            exact this.2
        rw [if_neg this]
theorem parseGraph_eq (n : Nat) (es : List Nat) : Ks577.parseGraph n es = if isGraph n es = true then some ⟨n, pairsOf es⟩ else none := by
  unfold Ks577.parseGraph isGraph
  by_cases h : n < 1 ∨ Ks577.maxVertices < n
  · rw [if_pos h, if_neg]
    simp only [Bool.and_eq_true, decide_eq_true_eq]
    unfold Ks577.maxVertices at h
    omega
  · rw [if_neg h, parse_eq]
    unfold Ks577.maxVertices at h
    have e1 : decide (1 ≤ n) = true := decide_eq_true (by omega)
    have e2 : decide (n ≤ 5) = true := decide_eq_true (by omega)
    rw [e1, e2, Bool.true_and, Bool.true_and]
    split <;> rfl
/-! ### what is adjacent -/
structure AdjOf (g : Graph) (adj : List (List Nat)) : Prop where
  len : adj.length = g.vertexCount
  mem : ∀ v w, w ∈ adj.getD v [] ↔ isAdjacent g v w = true
  lt : ∀ v w, w ∈ adj.getD v [] → v < adj.length ∧ w < adj.length
theorem getD_set {α : Type} {l : List α} {i j : Nat} {x d : α} : (l.set i x).getD j d = if i = j ∧ j < l.length then x else l.getD j d := by
  simp only [List.getD_eq_getElem?_getD, List.getElem?_set]
  by_cases h : i = j
  · subst h
    by_cases h2 : i < l.length
    · simp [h2]
    · simp [h2]
  · simp [h]
theorem addEdge_len (adj : List (List Nat)) (p : Nat × Nat) : (addEdge adj p).length = adj.length := by simp [addEdge]
theorem addEdge_mem {adj : List (List Nat)} {p : Nat × Nat} (h1 : p.1 < p.2) (h2 : p.2 < adj.length) (v w : Nat) :
    w ∈ (addEdge adj p).getD v [] ↔ w ∈ adj.getD v [] ∨ (p.1 = v ∧ p.2 = w) ∨ (p.1 = w ∧ p.2 = v) := by
  unfold addEdge
  rw [getD_set]
  by_cases c : p.2 = v
  · have d : ¬ p.1 = v := by omega
    rw [if_pos ⟨c, by rw [List.length_set]; omega⟩, getD_set, if_neg (by omega), c, List.mem_append, List.mem_singleton]
    simp [d, eq_comm]
  · rw [if_neg (fun z => c z.1), getD_set]
    by_cases d : p.1 = v
    · rw [if_pos ⟨d, by omega⟩, d, List.mem_append, List.mem_singleton]
      simp [c, eq_comm]
    · rw [if_neg (fun z => d z.1)]
      simp [c, d]
theorem foldl_adj {n : Nat} : ∀ (ps pre : List (Nat × Nat)) (adj : List (List Nat)), (∀ p ∈ ps, p.1 < p.2 ∧ p.2 < n) → adj.length = n →
    (∀ v w, w ∈ adj.getD v [] ↔ pre.any (fun e => (e.1 == v && e.2 == w) || (e.1 == w && e.2 == v)) = true) →
    (ps.foldl addEdge adj).length = n ∧ ∀ v w, w ∈ (ps.foldl addEdge adj).getD v [] ↔ (pre ++ ps).any (fun e => (e.1 == v && e.2 == w) || (e.1 == w && e.2 == v)) = true
  | [], pre, adj, _, hl, hm => by
    rw [List.append_nil]
    exact ⟨hl, hm⟩
  | p :: ps, pre, adj, hp, hl, hm => by
    have hp1 := hp p List.mem_cons_self
    have := foldl_adj ps (pre ++ [p]) (addEdge adj p) (fun q hq => hp q (List.mem_cons_of_mem _ hq)) (by rw [addEdge_len]; exact hl) (fun v w => by
      rw [addEdge_mem hp1.1 (by omega), hm, List.any_append]
      simp)
    rw [List.append_assoc] at this
    exact this
theorem isGraph_pairs {n : Nat} {es : List Nat} (h : isGraph n es = true) : ∀ p ∈ pairsOf es, p.1 < p.2 ∧ p.2 < n := by
  intro p hp
  simp only [isGraph, areEdges, Bool.and_eq_true, List.all_eq_true] at h
  have := h.2.1.2 p hp
  simpa [edgeOk] using this
theorem replicate_getD (n v : Nat) : (List.replicate n ([] : List Nat)).getD v [] = [] := by
  rw [List.getD_eq_getElem?_getD, List.getElem?_replicate]
  split <;> rfl
theorem nbOf_adj {n : Nat} {es : List Nat} (h : isGraph n es = true) : AdjOf ⟨n, pairsOf es⟩ (nbOf n es) := by
  have hp := isGraph_pairs h
  have := foldl_adj (n := n) (pairsOf es) [] (List.replicate n []) hp (List.length_replicate ..) (fun v w => by rw [replicate_getD]; simp)
  rw [List.nil_append] at this
  have hlen := this.1
  refine ⟨hlen, fun v w => this.2 v w, fun v w hw => ?_⟩
  have q := (this.2 v w).mp hw
  rw [List.any_eq_true] at q
  obtain ⟨e, he, q⟩ := q
  have := hp e he
  rw [show (nbOf n es).length = n from hlen]
  simp only [Bool.or_eq_true, Bool.and_eq_true, beq_iff_eq] at q
  omega
theorem adj_symm (g : Graph) (u v : Nat) : isAdjacent g u v = isAdjacent g v u := by
  unfold isAdjacent
  congr 1
  funext e
  rw [Bool.or_comm]
/-! ### the program's distances are the specification's -/
def stepN (g : Graph) (V : List Nat) : List Nat := (List.range g.vertexCount).filter fun v => V.contains v || V.any fun u => isAdjacent g u v
theorem nbh_succ (g : Graph) : ∀ (k : Nat) (V : List Nat), neighbourhood g (k + 1) V = stepN g (neighbourhood g k V)
  | 0, V => rfl
  | k + 1, V => nbh_succ g k (stepN g V)
theorem mem_stepN {g : Graph} {V : List Nat} {v : Nat} : v ∈ stepN g V ↔ v < g.vertexCount ∧ (v ∈ V ∨ ∃ u ∈ V, isAdjacent g u v = true) := by
  unfold stepN
  simp [List.mem_filter, List.mem_range]
theorem nbh_mono {g : Graph} {V : List Nat} {v : Nat} (hv : v < g.vertexCount) : ∀ {j k : Nat}, j ≤ k → v ∈ neighbourhood g j V → v ∈ neighbourhood g k V := by
  intro j k hjk h
  induction k with
  | zero =>
    have : j = 0 := by omega
    rw [this] at h
    exact h
  | succ k ih =>
    by_cases c : j = k + 1
    · rw [c] at h
      exact h
    · rw [nbh_succ, mem_stepN]
      exact ⟨hv, .inl (ih (by omega))⟩
def firstIn (g : Graph) (V : List Nat) (m v : Nat) : Option Nat := (List.range m).find? fun k => (neighbourhood g k V).contains v
def asInt : Option Nat → Int
  | some k => (k : Int)
  | none => -1
theorem firstIn_succ (g : Graph) (V : List Nat) (m v : Nat) : firstIn g V (m + 1) v = match firstIn g V m v with
    | some k => some k
    | none => if (neighbourhood g m V).contains v = true then some m else none := by
  unfold firstIn
  rw [List.range_succ, List.find?_append]
  cases (List.range m).find? fun k => (neighbourhood g k V).contains v with
  | some k => rfl
  | none => simp [List.find?_cons]; split <;> simp_all
theorem firstIn_some {g : Graph} {V : List Nat} {m v k : Nat} (h : firstIn g V m v = some k) : k < m ∧ v ∈ neighbourhood g k V ∧ ∀ j, j < k → v ∉ neighbourhood g j V := by
  unfold firstIn at h
  rw [List.find?_range_eq_some] at h
  obtain ⟨h1, h2, h3⟩ := h
  refine ⟨by simpa using h2, by simpa using h1, fun j hj => ?_⟩
  have := h3 j hj
  simpa using this
theorem firstIn_none {g : Graph} {V : List Nat} {m v : Nat} (h : firstIn g V m v = none) : ∀ j, j < m → v ∉ neighbourhood g j V := by
  intro j hj hv
  unfold firstIn at h
  rw [List.find?_eq_none] at h
  exact h j (List.mem_range.mpr hj) (by simpa using hv)
theorem firstIn_of {g : Graph} {V : List Nat} {m v k : Nat} (h1 : k < m) (h2 : v ∈ neighbourhood g k V) (h3 : ∀ j, j < k → v ∉ neighbourhood g j V) : firstIn g V m v = some k := by
  cases e : firstIn g V m v with
  | none => exact absurd h2 (firstIn_none e k h1)
  | some i =>
    obtain ⟨a1, a2, a3⟩ := firstIn_some e
    have b1 : ¬ i < k := fun z => h3 i z a2
    have b2 : ¬ k < i := fun z => a3 k z h2
    have : i = k := by omega
    rw [this]
theorem range_map_getD {α : Type} {n v : Nat} {f : Nat → α} {d : α} (h : v < n) : ((List.range n).map f).getD v d = f v := by
  rw [List.getD_eq_getElem?_getD, List.getElem?_map, List.getElem?_range h]
  rfl
theorem distAfter_is {g : Graph} {adj : List (List Nat)} (A : AdjOf g adj) (V : List Nat) (k : Nat) (hk : 0 < adj.length) : ∀ v, v < adj.length → (distAfter adj V k).getD v 0 = asInt (firstIn g V (k + 1) v) := by
  induction k with
  | zero =>
    intro v hv
    rw [distAfter, atStart, range_map_getD hv]
    by_cases c : V.contains v = true
    · rw [if_pos c]
      have : firstIn g V 1 v = some 0 := firstIn_of (by omega) (by simpa [neighbourhood] using c) (fun j hj => by omega)
      rw [this]
      rfl
    · rw [if_neg c]
      cases e : firstIn g V 1 v with
      | none => rfl
      | some i =>
        obtain ⟨a1, a2, _⟩ := firstIn_some e
        have : i = 0 := by omega
        subst this
        exact absurd (by simpa [neighbourhood] using a2) c
  | succ k ih =>
    intro v hv
    rw [distAfter, withNext, range_map_getD hv, ih v hv, firstIn_succ g V (k + 1) v]
    cases e : firstIn g V (k + 1) v with
    | some i =>
      have : (asInt (some i) == -1) = false := by
        simp only [asInt, beq_eq_false_iff_ne]
        omega
      rw [this, Bool.false_and, if_neg (by decide)]
    | none =>
      have e1 : (asInt none == -1) = true := rfl
      rw [e1, Bool.true_and]
      have no := firstIn_none e
      have key : hasNb adj (distAfter adj V k) v (1 + (k : Int) - 1) = (neighbourhood g (k + 1) V).contains v := by
        rw [Bool.eq_iff_iff]
        unfold hasNb
        rw [List.any_eq_true, List.contains_iff_mem, nbh_succ, mem_stepN]
        constructor
        · rintro ⟨o, ho, q⟩
          obtain ⟨_, l2⟩ := A.lt v o ho
          rw [ih o l2] at q
          refine ⟨by rw [← A.len]; exact hv, .inr ⟨o, ?_, ?_⟩⟩
          · cases eo : firstIn g V (k + 1) o with
            | none =>
              rw [eo] at q
              simp only [asInt, beq_iff_eq] at q
              omega
            | some i =>
              rw [eo] at q
              simp only [asInt, beq_iff_eq] at q
              have : i = k := by omega
              subst this
              exact (firstIn_some eo).2.1
          · rw [adj_symm]
            exact (A.mem v o).mp ho
        · rintro ⟨_, h | ⟨o, ho, q⟩⟩
          · exact absurd h (no k (by omega))
          · have ho' : o ∈ adj.getD v [] := (A.mem v o).mpr (by rw [adj_symm]; exact q)
            obtain ⟨_, l2⟩ := A.lt v o ho'
            refine ⟨o, ho', ?_⟩
            have : firstIn g V (k + 1) o = some k := firstIn_of (by omega) ho fun j hj z => by
              refine no (j + 1) (by omega) ?_
              rw [nbh_succ, mem_stepN]
              exact ⟨by rw [← A.len]; exact hv, .inr ⟨o, z, q⟩⟩
            rw [ih o l2, this]
            simp only [asInt, beq_iff_eq]
            omega
      rw [key]
      cases (neighbourhood g (k + 1) V).contains v
      · simp [asInt]
      · simp [asInt]; omega
theorem distFrom_is {g : Graph} {adj : List (List Nat)} (A : AdjOf g adj) (V : List Nat) {v : Nat} (hv : v < adj.length) : (distFrom adj V).getD v 0 = asInt (firstIn g V g.vertexCount v) := by
  unfold distFrom
  rw [distAfter_is A V _ (by omega) v hv, show adj.length - 1 + 1 = g.vertexCount by rw [A.len] at hv ⊢; omega]
theorem distFrom_one {g : Graph} {adj : List (List Nat)} (A : AdjOf g adj) (u : Nat) {v : Nat} (hv : v < adj.length) : (distFrom adj [u]).getD v 0 = asInt (distance g u v) := distFrom_is A [u] hv
theorem mem_getD {l : List Int} {x : Int} : x ∈ l ↔ ∃ v, v < l.length ∧ l.getD v 0 = x := by
  rw [List.mem_iff_getElem]
  constructor
  · rintro ⟨i, hi, e⟩
    exact ⟨i, hi, by rw [List.getD_eq_getElem?_getD, List.getElem?_eq_getElem hi]; exact e⟩
  · rintro ⟨i, hi, e⟩
    refine ⟨i, hi, ?_⟩
    rw [List.getD_eq_getElem?_getD, List.getElem?_eq_getElem hi] at e
    exact e
theorem isConn_is {g : Graph} {adj : List (List Nat)} (A : AdjOf g adj) : isConn adj = Ks578.isConnected g := by
  unfold isConn Ks578.isConnected
  rw [Bool.eq_iff_iff]
  simp only [Bool.not_eq_true', List.all_eq_true, List.mem_range]
  rw [← Bool.not_eq_true, List.contains_iff_mem, mem_getD]
  constructor
  · intro h v hv
    cases e : distance g 0 v with
    | some k => rfl
    | none =>
      have hv' : v < adj.length := by rw [A.len]; exact hv
      exact absurd ⟨v, by rw [distFrom_len]; exact hv', by rw [distFrom_one A 0 hv', e]; rfl⟩ h
  · rintro h ⟨v, hv, e⟩
    rw [distFrom_len] at hv
    rw [distFrom_one A 0 hv] at e
    have := h v (by rw [← A.len]; exact hv)
    cases d : distance g 0 v with
    | none =>
      rw [d] at this
      cases this
    | some k =>
      rw [d] at e
      simp only [asInt] at e
      omega
theorem foldl_max_nat : ∀ (l : List Nat) (x : Nat), (l.foldl max x = x ∨ l.foldl max x ∈ l) ∧ x ≤ l.foldl max x ∧ ∀ y ∈ l, y ≤ l.foldl max x
  | [], x => ⟨.inl rfl, Nat.le_refl _, fun _ h => by cases h⟩
  | a :: l, x => by
    obtain ⟨h1, h2, h3⟩ := foldl_max_nat l (max x a)
    rw [List.foldl_cons]
    refine ⟨?_, by omega, fun y hy => ?_⟩
    · rcases h1 with h1 | h1
      · rw [h1]
        by_cases c : x ≤ a
        · exact .inr (by rw [Nat.max_eq_right c]; exact List.mem_cons_self)
        · exact .inl (by omega)
      · exact .inr (List.mem_cons_of_mem _ h1)
    · rcases List.mem_cons.mp hy with rfl | hy
      · omega
      · exact h3 y hy
theorem dist_self {g : Graph} {u : Nat} (h : u < g.vertexCount) : distance g u u = some 0 := firstIn_of (V := [u]) (by omega) (by simp [neighbourhood]) (fun j hj => by omega)
/-- the greatest distance from u -/
def ecc (g : Graph) (u : Nat) : Nat := ((List.range g.vertexCount).map fun v => (distance g u v).getD 0).foldl max 0
theorem ecc_is {g : Graph} {adj : List (List Nat)} (A : AdjOf g adj) {u : Nat} (hu : u < adj.length) : maxI (distFrom adj [u]) = (ecc g u : Int) := by
  have hu' : u < g.vertexCount := by rw [← A.len]; exact hu
  refine (maxI_is ?_ ?_).symm
  · rcases (foldl_max_nat ((List.range g.vertexCount).map fun v => (distance g u v).getD 0) 0).1 with e | e
    · rw [mem_getD]
      refine ⟨u, by rw [distFrom_len]; exact hu, ?_⟩
      rw [distFrom_one A u hu, dist_self hu']
      unfold ecc
      rw [e]
      rfl
    · rw [List.mem_map] at e
      obtain ⟨v, hv, e⟩ := e
      have hv' : v < adj.length := by rw [A.len]; simpa using hv
      rw [mem_getD]
      cases d : distance g u v with
      | none =>
        refine ⟨u, by rw [distFrom_len]; exact hu, ?_⟩
        rw [distFrom_one A u hu, dist_self hu']
        unfold ecc
        rw [← e, d]
        rfl
      | some k =>
        refine ⟨v, by rw [distFrom_len]; exact hv', ?_⟩
        rw [distFrom_one A u hv']
        unfold ecc
        rw [← e, d]
        rfl
  · intro y hy
    rw [mem_getD] at hy
    obtain ⟨v, hv, rfl⟩ := hy
    rw [distFrom_len] at hv
    rw [distFrom_one A u hv]
    have := (foldl_max_nat ((List.range g.vertexCount).map fun v => (distance g u v).getD 0) 0).2.2 ((distance g u v).getD 0) (List.mem_map.mpr ⟨v, by rw [List.mem_range, ← A.len]; exact hv, rfl⟩)
    unfold ecc
    cases d : distance g u v with
    | none =>
      simp only [asInt]
      omega
    | some k =>
      rw [d] at this
      simp only [asInt]
      simp only [Option.getD_some] at this
      omega
theorem foldl_flatMap_max (f : Nat → List Nat) : ∀ (l : List Nat) (x : Nat), (l.flatMap f).foldl max x = l.foldl (fun a u => max a ((f u).foldl max 0)) x
  | [], x => rfl
  | u :: l, x => by
    rw [List.flatMap_cons, List.foldl_append, List.foldl_cons, foldl_flatMap_max f l]
    congr 1
    have : ∀ (l : List Nat) (x y : Nat), l.foldl max (max x y) = max x (l.foldl max y) := by
      intro l
      induction l with
      | nil => intro x y; rfl
      | cons a l ih =>
        intro x y
        rw [List.foldl_cons, List.foldl_cons, Nat.max_assoc, ih]
    rw [← this, Nat.max_zero]
theorem gAfter_is {g : Graph} {adj : List (List Nat)} (A : AdjOf g adj) : ∀ k, k ≤ adj.length → gAfter adj k = ((List.range k).foldl (fun a u => max a (ecc g u)) 0 : Nat)
  | 0, _ => rfl
  | k + 1, h => by
    rw [gAfter, gAfter_is A k (by omega), ecc_is A (by omega), List.range_succ, List.foldl_append]
    simp only [List.foldl_cons, List.foldl_nil]
    omega
theorem greatest_is {g : Graph} {adj : List (List Nat)} (A : AdjOf g adj) : greatest adj = (Ks578.diameter g : Int) := by
  unfold greatest Ks578.diameter
  rw [gAfter_is A _ (Nat.le_refl _), foldl_flatMap_max, A.len]
  rfl
end PmM
namespace PmM
/-! ### the edges as pairs, by places -/
theorem pairsOf_len : ∀ es : List Nat, (pairsOf es).length = es.length / 2
  | [] => rfl
  | [_] => by simp [pairsOf]
  | u :: v :: r => by
    simp only [pairsOf, List.length_cons, pairsOf_len r]
    omega
theorem pairsOf_getD : ∀ (es : List Nat) (i : Nat), i < es.length / 2 → (pairsOf es).getD i (0, 0) = (es.getD (2 * i) 0, es.getD (2 * i + 1) 0)
  | [], _, h => by simp at h
  | [_], _, h => by
    simp only [List.length_cons, List.length_nil] at h
    omega
  | u :: v :: r, 0, _ => rfl
  | u :: v :: r, i + 1, h => by
    have ih := pairsOf_getD r i (by simp only [List.length_cons] at h; omega)
    show (pairsOf r).getD i (0, 0) = (r.getD (2 * i) 0, r.getD (2 * i + 1) 0)
    exact ih
theorem incr_is : ∀ ps : List (Nat × Nat), ((List.range (ps.length - 1)).map fun i => pairLt (ps.getD i (0, 0)) (ps.getD (i + 1) (0, 0))).all id = incr ps
  | [] => rfl
  | [_] => rfl
  | p :: q :: r => by
    have ih := incr_is (q :: r)
    have e : (p :: q :: r).length - 1 = ((q :: r).length - 1) + 1 := by simp
    rw [e, List.range_succ_eq_map, List.map_cons, List.map_map, List.all_cons]
    show (pairLt p q && _) = (pairLt p q && incr (q :: r))
    rw [← ih]
    rfl
theorem addEdge_row (adj : List (List Nat)) (p : Nat × Nat) (i : Nat) : ((addEdge adj p).getD i []).length ≤ (adj.getD i []).length + 2 := by
  unfold addEdge
  have h1 : ∀ (l : List (List Nat)) (u x i : Nat), ((l.set u (l.getD u [] ++ [x])).getD i []).length ≤ (l.getD i []).length + 1 := by
    intro l u x i
    rw [getD_set]
    split
    · rename_i h
      rw [h.1, List.length_append]
      exact Nat.le_refl _
    · omega
  have a := h1 (adj.set p.1 (adj.getD p.1 [] ++ [p.2])) p.2 p.1 i
  have b := h1 adj p.1 p.2 i
  omega
theorem foldl_row : ∀ (ps : List (Nat × Nat)) (adj : List (List Nat)) (i : Nat), ((ps.foldl addEdge adj).getD i []).length ≤ (adj.getD i []).length + 2 * ps.length
  | [], _, _ => Nat.le_add_right _ _
  | p :: ps, adj, i => by
    have a := foldl_row ps (addEdge adj p) i
    have b := addEdge_row adj p i
    rw [List.foldl_cons, List.length_cons]
    omega
theorem foldl_alen : ∀ (ps : List (Nat × Nat)) (adj : List (List Nat)), (ps.foldl addEdge adj).length = adj.length
  | [], _ => rfl
  | p :: ps, adj => by rw [List.foldl_cons, foldl_alen ps, addEdge_len]
theorem nbOf_len (n : Nat) (es : List Nat) : (nbOf n es).length = n := by
  unfold nbOf
  rw [foldl_alen, List.length_replicate]
theorem nbOf_row (n : Nat) (es : List Nat) (i : Nat) : ((nbOf n es).getD i []).length ≤ es.length := by
  have a := foldl_row (pairsOf es) (List.replicate n []) i
  rw [replicate_getD, pairsOf_len] at a
  unfold nbOf
  simp only [List.length_nil] at a
  omega
end PmM
namespace PmM
def refConn (n : Nat) (es : List Nat) : Int := if isGraph n es = true then (if isConn (nbOf n es) = true then 0 else -33) else -22
def refGraph (n : Nat) (es : List Nat) : Int := if refConn n es = 0 then (if greatest (nbOf n es) > 3 then -75 else 0) else refConn n es
def refTarget (n t : Nat) (es : List Nat) : Int := if refGraph n es = 0 then (if (t : Int) ≥ n then -2 else 0) else refGraph n es
def refPebbles (n t p : Nat) (es : List Nat) : Int := if refTarget n t es = 0 then (if (p : Int) > 10 then -22 else 0) else refTarget n t es
theorem refConn_graph {n : Nat} {es : List Nat} (h : refConn n es = 0) : isGraph n es = true := by
  unfold refConn at h
  split at h
  · assumption
  · cases h
theorem refConn_conn {n : Nat} {es : List Nat} (h : refConn n es = 0) : isConn (nbOf n es) = true := by
  have g := refConn_graph h
  unfold refConn at h
  rw [if_pos g] at h
  split at h
  · assumption
  · cases h
theorem refGraph_conn {n : Nat} {es : List Nat} (h : refGraph n es = 0) : refConn n es = 0 := by
  unfold refGraph at h
  split at h
  · assumption
  · assumption
theorem refGraph_small {n : Nat} {es : List Nat} (h : refGraph n es = 0) : greatest (nbOf n es) ≤ 3 := by
  have c := refGraph_conn h
  unfold refGraph at h
  rw [if_pos c] at h
  split at h
  · cases h
  · omega
theorem refTarget_graph {n t : Nat} {es : List Nat} (h : refTarget n t es = 0) : refGraph n es = 0 := by
  unfold refTarget at h
  split at h
  · assumption
  · assumption
theorem refTarget_lt {n t : Nat} {es : List Nat} (h : refTarget n t es = 0) : t < n := by
  have c := refTarget_graph h
  unfold refTarget at h
  rw [if_pos c] at h
  split at h
  · cases h
  · omega
theorem refPebbles_target {n t p : Nat} {es : List Nat} (h : refPebbles n t p es = 0) : refTarget n t es = 0 := by
  unfold refPebbles at h
  split at h
  · assumption
  · assumption
theorem refPebbles_le {n t p : Nat} {es : List Nat} (h : refPebbles n t p es = 0) : p ≤ 10 := by
  have c := refPebbles_target h
  unfold refPebbles at h
  rw [if_pos c] at h
  split at h
  · cases h
  · omega
/-! ### the specification's own refusals -/
theorem withGraph_is (n : Nat) (es : List Nat) (F : Ks577.Graph → Ks577.Result) : Ks577.withGraph n es F = if isGraph n es = true then F ⟨n, pairsOf es⟩ else Ks577.number (-22) := by
  unfold Ks577.withGraph
  rw [parseGraph_eq]
  by_cases h : isGraph n es = true
  · rw [if_pos h, if_pos h]
  · rw [if_neg h, if_neg h]
theorem withConn_is (n : Nat) (es : List Nat) (F : Ks577.Graph → Ks577.Result) : (Ks577.withGraph n es fun g => if Ks578.isConnected g = false then Ks578.number (-33) else F g) =
    if refConn n es = 0 then F ⟨n, pairsOf es⟩ else Ks577.number (refConn n es) := by
  rw [withGraph_is]
  unfold refConn
  by_cases h : isGraph n es = true
  · rw [if_pos h, if_pos h, ← isConn_is (nbOf_adj h)]
    cases isConn (nbOf n es) <;> rfl
  · rw [if_neg h, if_neg h]
    rfl
theorem withSmall_is (n : Nat) (es : List Nat) (F : Ks577.Graph → Ks577.Result) : Ks578.withSmallDiameter n es F = if refGraph n es = 0 then F ⟨n, pairsOf es⟩ else Ks577.number (refGraph n es) := by
  unfold Ks578.withSmallDiameter
  rw [withConn_is]
  by_cases h : refConn n es = 0
  · unfold refGraph
    rw [if_pos h, if_pos h, greatest_is (nbOf_adj (refConn_graph h))]
    by_cases d : 4 ≤ Ks578.diameter ⟨n, pairsOf es⟩
    · rw [if_pos d, if_pos (show (Ks578.diameter ⟨n, pairsOf es⟩ : Int) > 3 by omega)]
      rfl
    · rw [if_neg d, if_neg (show ¬ (Ks578.diameter ⟨n, pairsOf es⟩ : Int) > 3 by omega)]
      rfl
  · unfold refGraph
    rw [if_neg h, if_neg h, if_neg h]
theorem withTarget_is (n t : Nat) (es : List Nat) (F : Ks577.Graph → Ks577.Result) : (Ks578.withSmallDiameter n es fun g => if n ≤ t then Ks578.number (-2) else F g) =
    if refTarget n t es = 0 then F ⟨n, pairsOf es⟩ else Ks577.number (refTarget n t es) := by
  rw [withSmall_is]
  by_cases h : refGraph n es = 0
  · unfold refTarget
    rw [if_pos h, if_pos h]
    by_cases d : n ≤ t
    · rw [if_pos d, if_pos (show (t : Int) ≥ n by omega)]
      rfl
    · rw [if_neg d, if_neg (show ¬ (t : Int) ≥ n by omega)]
      rfl
  · unfold refTarget
    rw [if_neg h, if_neg h, if_neg h]
theorem withPebbles_is (n t p : Nat) (es : List Nat) (F : Ks577.Graph → Ks577.Result) : (Ks578.withSmallDiameter n es fun g => if n ≤ t then Ks578.number (-2) else if Ks578.maxSearchedPebbles < p then Ks578.number (-22) else F g) =
    if refPebbles n t p es = 0 then F ⟨n, pairsOf es⟩ else Ks577.number (refPebbles n t p es) := by
  rw [withTarget_is]
  by_cases h : refTarget n t es = 0
  · unfold refPebbles Ks578.maxSearchedPebbles
    rw [if_pos h, if_pos h]
    by_cases d : 10 < p
    · rw [if_pos d, if_pos (show (p : Int) > 10 by omega)]
      rfl
    · rw [if_neg d, if_neg (show ¬ (p : Int) > 10 by omega)]
      rfl
  · unfold refPebbles
    rw [if_neg h, if_neg h, if_neg h]
theorem toNat_map (es : List Nat) : (es.map fun e : Nat => (e : Int)).map Int.toNat = es := by
  rw [List.map_map]
  exact (List.map_congr_left fun e _ => Int.toNat_natCast e).trans (List.map_id _)
end PmM
namespace PmM
/-! ### configurations -/
def longerOne (f : List Nat × Nat) : List (List Nat × Nat) := (List.range (f.2 + 1)).map fun h => (f.1 ++ [h], f.2 - h)
def longerOnes (fs : List (List Nat × Nat)) : List (List Nat × Nat) := fs.flatMap longerOne
def partials : Nat → Nat → List (List Nat × Nat)
  | 0, p => [([], p)]
  | k + 1, p => longerOnes (partials k p)
def configs (n p : Nat) : List (List Nat) := (partials (n - 1) p).map fun f => f.1 ++ [f.2]
def afterMove (c : List Nat) (s g : Nat) : List Nat := (c.set s (c.getD s 0 - 2)).set g ((c.set s (c.getD s 0 - 2)).getD g 0 + 1)
/-! ### lengths and sizes -/
structure PartOk (k p : Nat) (fs : List (List Nat × Nat)) : Prop where
  len : fs.length ≤ (p + 1) ^ k
  one : ∀ f ∈ fs, f.1.length = k ∧ f.2 ≤ p
theorem longerOne_len (f : List Nat × Nat) : (longerOne f).length = f.2 + 1 := by simp [longerOne]
theorem longerOnes_len {p : Nat} : ∀ (fs : List (List Nat × Nat)), (∀ f ∈ fs, f.2 ≤ p) → (longerOnes fs).length ≤ fs.length * (p + 1)
  | [], _ => Nat.zero_le _
  | f :: fs, h => by
    have ih := longerOnes_len fs (fun g hg => h g (List.mem_cons_of_mem _ hg))
    have h1 := h f List.mem_cons_self
    show ((longerOne f) ++ longerOnes fs).length ≤ _
    rw [List.length_append, longerOne_len, List.length_cons, Nat.add_mul]
    omega
theorem PartOk.next {k p : Nat} {fs : List (List Nat × Nat)} (h : PartOk k p fs) : PartOk (k + 1) p (longerOnes fs) := by
  refine ⟨?_, fun f hf => ?_⟩
  · have a := longerOnes_len (p := p) fs (fun f hf => (h.one f hf).2)
    have b := Nat.mul_le_mul_right (p + 1) h.len
    rw [Nat.pow_succ]
    omega
  · unfold longerOnes at hf
    rw [List.mem_flatMap] at hf
    obtain ⟨g, hg, hf⟩ := hf
    unfold longerOne at hf
    rw [List.mem_map] at hf
    obtain ⟨x, hx, rfl⟩ := hf
    obtain ⟨h1, h2⟩ := h.one g hg
    exact ⟨by rw [List.length_append, h1]; rfl, by show g.2 - x ≤ p; omega⟩
theorem partials_ok (p : Nat) : ∀ k, PartOk k p (partials k p)
  | 0 => ⟨Nat.le_refl 1, fun f hf => by rw [List.mem_singleton.mp hf]; exact ⟨rfl, Nat.le_refl _⟩⟩
  | k + 1 => (partials_ok p k).next
theorem pow_small {p k : Nat} (hp : p ≤ 30) (hk : k ≤ 4) : (p + 1) ^ k ≤ 1000000 :=
  Nat.le_trans (Nat.pow_le_pow_left (show p + 1 ≤ 31 by omega) k) (Nat.le_trans (Nat.pow_le_pow_right (show 0 < 31 by omega) hk) (by decide))
theorem longerOnes_take {fs : List (List Nat × Nat)} {i j : Nat} {f : List Nat × Nat} (hf : fs[i]? = some f) (hj : j ≤ f.2 + 1) :
    (longerOnes (fs.take i) ++ (longerOne f).take j).length ≤ (longerOnes fs).length := by
  have e : fs = fs.take i ++ f :: fs.drop (i + 1) := by
    obtain ⟨hi, e⟩ := List.getElem?_eq_some_iff.mp hf
    rw [← e, List.getElem_cons_drop, List.take_append_drop]
  have e2 : (longerOnes fs).length = (longerOnes (fs.take i)).length + ((longerOne f).length + (longerOnes (fs.drop (i + 1))).length) := by
    conv => lhs; rw [e]
    unfold longerOnes
    rw [List.flatMap_append, List.flatMap_cons, List.length_append, List.length_append]
  rw [e2, List.length_append, List.length_take]
  omega
theorem configs_len {n p : Nat} (hn : n ≤ 5) (hp : p ≤ 30) : (configs n p).length ≤ 1000000 := by
  unfold configs
  rw [List.length_map]
  exact Nat.le_trans (partials_ok p (n - 1)).len (pow_small hp (by omega))
theorem configs_row {n p : Nat} (hn : 1 ≤ n) : ∀ c ∈ configs n p, c.length = n := by
  intro c hc
  unfold configs at hc
  rw [List.mem_map] at hc
  obtain ⟨f, hf, rfl⟩ := hc
  have := ((partials_ok p (n - 1)).one f hf).1
  rw [List.length_append, this]
  simp only [List.length_cons, List.length_nil]
  omega
theorem afterMove_len (c : List Nat) (s g : Nat) : (afterMove c s g).length = c.length := by simp [afterMove]
end PmM
namespace PmM
/-! ### unsolvable configurations -/
def stays (adj : List (List Nat)) (fewer : List (List Nat)) (c : List Nat) (s : Nat) : Bool := decide (c.getD s 0 < 2) || (adj.getD s []).all fun g => fewer.contains (afterMove c s g)
def isUns (adj : List (List Nat)) (t : Nat) (fewer : List (List Nat)) (c : List Nat) : Bool := !decide (0 < c.getD t 0) && (List.range adj.length).all fun s => stays adj fewer c s
def nextUns (adj : List (List Nat)) (t p : Nat) (before : List (List Nat)) : List (List Nat) := (configs adj.length p).filter (isUns adj t before)
def uns (adj : List (List Nat)) (t : Nat) : Nat → List (List Nat)
  | 0 => configs adj.length 0
  | p + 1 => nextUns adj t (p + 1) (uns adj t p)
theorem uns_rows {adj : List (List Nat)} {t : Nat} (hn : 1 ≤ adj.length) : ∀ p, ∀ c ∈ uns adj t p, c.length = adj.length
  | 0 => configs_row hn
  | p + 1 => fun c hc => by
    unfold uns nextUns at hc
    exact configs_row hn c (List.mem_filter.mp hc).1
theorem uns_len {adj : List (List Nat)} {t : Nat} (hn : adj.length ≤ 5) : ∀ p, p ≤ 30 → (uns adj t p).length ≤ 1000000
  | 0, h => configs_len hn h
  | p + 1, h => by
    unfold uns nextUns
    exact Nat.le_trans (List.length_filter_le ..) (configs_len hn h)
end PmM
namespace PmM
open Ks577 (Graph isAdjacent)
/-! ### the program's configurations are the specification's -/
def pre (x : Nat) (f : List Nat × Nat) : List Nat × Nat := (x :: f.1, f.2)
theorem longerOnes_pre (x : Nat) (fs : List (List Nat × Nat)) : longerOnes (fs.map (pre x)) = (longerOnes fs).map (pre x) := by
  unfold longerOnes
  rw [List.flatMap_map, List.map_flatMap]
  congr 1
  funext f
  unfold longerOne
  rw [List.map_map]
  rfl
theorem partials_front : ∀ (k p : Nat), partials (k + 1) p = (List.range (p + 1)).flatMap fun x => (partials k (p - x)).map (pre x)
  | 0, p => by
    show longerOnes [([], p)] = _
    unfold longerOnes
    rw [List.flatMap_cons, List.flatMap_nil, List.append_nil]
    unfold longerOne
    rw [List.map_eq_flatMap]
    rfl
  | k + 1, p => by
    show longerOnes (partials (k + 1) p) = _
    rw [partials_front k p]
    unfold longerOnes
    rw [List.flatMap_assoc]
    congr 1
    funext x
    exact longerOnes_pre x _
theorem flatMap_nil_of {α β : Type} {f : α → List β} : ∀ {l : List α}, (∀ x ∈ l, f x = []) → l.flatMap f = []
  | [], _ => rfl
  | x :: r, h => by
    rw [List.flatMap_cons, h x List.mem_cons_self, flatMap_nil_of fun y hy => h y (List.mem_cons_of_mem _ hy)]
    rfl
theorem configs_is : ∀ (k p : Nat), configs (k + 1) p = Ks578.configurations (k + 1) p
  | 0, p => by
    show [[p]] = _
    rw [Ks578.configurations, List.range_succ, List.flatMap_append, flatMap_nil_of]
    · simp [Ks578.configurations]
    · intro x hx
      have := List.mem_range.mp hx
      rw [Ks578.configurations, if_neg (by omega)]
      rfl
  | k + 1, p => by
    show (partials (k + 1) p).map _ = _
    rw [partials_front, List.map_flatMap, Ks578.configurations]
    congr 1
    funext x
    rw [← configs_is k (p - x), List.map_map]
    show _ = ((partials k (p - x)).map _).map _
    rw [List.map_map]
    rfl
/-! ### unsolvable is the specification's -/
theorem isUns_is {g : Graph} {adj : List (List Nat)} (A : AdjOf g adj) (t : Nat) (fewer : List (List Nat)) (c : List Nat) :
    isUns adj t fewer c = (Ks577.pebblesAt c t == 0 && (Ks577.successors g c).all fun d => fewer.contains d) := by
  rw [Bool.eq_iff_iff]
  unfold isUns stays Ks577.successors Ks577.possibleMoves Ks577.canMove Ks577.pebblesAt
  simp only [Bool.and_eq_true, Bool.not_eq_true', decide_eq_false_iff_not, List.all_eq_true, List.mem_range, Bool.or_eq_true, decide_eq_true_eq, beq_iff_eq, List.mem_map, List.mem_flatMap, List.mem_filter]
  constructor
  · rintro ⟨h1, h2⟩
    refine ⟨by omega, ?_⟩
    rintro d ⟨m, ⟨u, hu, v, ⟨hv, ha, h2u⟩, rfl⟩, rfl⟩
    rcases h2 u (by rw [A.len]; exact hu) with z | z
    · omega
    · exact z v ((A.mem u v).mpr ha)
  · rintro ⟨h1, h2⟩
    refine ⟨by omega, fun u hu => ?_⟩
    by_cases z : c.getD u 0 < 2
    · exact .inl z
    · refine .inr fun v hv => ?_
      have l := A.lt u v hv
      exact h2 _ ⟨(u, v), ⟨u, by rw [← A.len]; exact hu, v, ⟨by rw [← A.len]; exact l.2, (A.mem u v).mp hv, by omega⟩, rfl⟩, rfl⟩
theorem uns_is {g : Graph} {adj : List (List Nat)} (A : AdjOf g adj) (hn : 1 ≤ adj.length) (t : Nat) : ∀ p, uns adj t p = Ks578.unsolvable g t p
  | 0 => by
    obtain ⟨k, hk⟩ : ∃ k, adj.length = k + 1 := ⟨adj.length - 1, by omega⟩
    show configs adj.length 0 = Ks578.configurations g.vertexCount 0
    rw [← A.len, hk, configs_is]
  | p + 1 => by
    obtain ⟨k, hk⟩ : ∃ k, adj.length = k + 1 := ⟨adj.length - 1, by omega⟩
    show (configs adj.length (p + 1)).filter (isUns adj t (uns adj t p)) = (Ks578.configurations g.vertexCount (p + 1)).filter _
    rw [← A.len, hk, configs_is, uns_is A hn t p]
    congr 1
    funext c
    exact isUns_is A t _ c
theorem graph_pos {n : Nat} {es : List Nat} (h : isGraph n es = true) : 1 ≤ n ∧ n ≤ 5 := by
  simp only [isGraph, Bool.and_eq_true, decide_eq_true_eq] at h
  exact h.1
theorem uns_spec {n : Nat} {es : List Nat} (h : isGraph n es = true) (t p : Nat) : uns (nbOf n es) t p = Ks578.unsolvable ⟨n, pairsOf es⟩ t p :=
  uns_is (nbOf_adj h) (by rw [nbOf_len]; exact (graph_pos h).1) t p
end PmM
namespace PmM
def leastFrom (adj : List (List Nat)) (t : Nat) : Nat → Nat → Nat
  | i, 0 => i
  | i, f + 1 => if (uns adj t i).isEmpty = true then i else leastFrom adj t (i + 1) f
/-- as many as always are enough -/
def mostOf (adj : List (List Nat)) : Nat := (adj.length - 1) * 7 + 1
def least (adj : List (List Nat)) (t : Nat) : Nat := leastFrom adj t 1 (mostOf adj - 1)
theorem leastFrom_of {adj : List (List Nat)} {t m : Nat} : ∀ (f i : Nat), i ≤ m → m ≤ i + f → (∀ j, i ≤ j → j < m → (uns adj t j).isEmpty = false) → (m < i + f → (uns adj t m).isEmpty = true) → leastFrom adj t i f = m
  | 0, i, h1, h2, _, _ => by
    rw [leastFrom]
    omega
  | f + 1, i, h1, h2, h3, h4 => by
    rw [leastFrom]
    by_cases c : i = m
    · subst c
      rw [if_pos (h4 (by omega))]
    · rw [h3 i (Nat.le_refl _) (by omega), if_neg (by decide)]
      exact leastFrom_of f (i + 1) (by omega) (by omega) (fun j a b => h3 j (by omega) b) (fun a => h4 (by omega))
theorem least_of {adj : List (List Nat)} {t m : Nat} (h1 : 1 ≤ m) (h2 : m ≤ mostOf adj) (h3 : ∀ j, 1 ≤ j → j < m → (uns adj t j).isEmpty = false) (h4 : m < mostOf adj → (uns adj t m).isEmpty = true) : least adj t = m :=
  leastFrom_of _ 1 h1 (by omega) h3 (fun a => h4 (by omega))
end PmM
namespace PmM
open Ks577 (Graph isAdjacent neighbourhood distance)
/-! ### every vertex is reached from every other one, in fewer steps than there are vertices -/
theorem filter_lt {p q : Nat → Bool} : ∀ {l : List Nat} {x : Nat}, (∀ y, p y = true → q y = true) → x ∈ l → q x = true → p x = false → (l.filter p).length < (l.filter q).length
  | [], _, _, h, _, _ => by cases h
  | a :: l, x, h, hx, hq, hp => by
    have le : ∀ l : List Nat, (l.filter p).length ≤ (l.filter q).length := by
      intro l
      induction l with
      | nil => exact Nat.le_refl _
      | cons b l ih =>
        rw [List.filter_cons, List.filter_cons]
        cases e : p b
        · rw [if_neg (by decide)]
          split
          · rw [List.length_cons]
            omega
          · exact ih
        · rw [h b e, if_pos rfl, if_pos rfl, List.length_cons, List.length_cons]
          omega
    rw [List.filter_cons, List.filter_cons]
    rcases List.mem_cons.mp hx with e | e
    · subst e
      rw [hq, hp, if_pos rfl, if_neg (by decide), List.length_cons]
      have := le l
      omega
    · have ih := filter_lt (l := l) h e hq hp
      cases e2 : p a
      · rw [if_neg (by decide)]
        split
        · rw [List.length_cons]
          omega
        · exact ih
      · rw [h a e2, if_pos rfl, if_pos rfl, List.length_cons, List.length_cons]
        omega
def within (g : Graph) (V : List Nat) (k : Nat) : Nat := ((List.range g.vertexCount).filter fun v => (neighbourhood g k V).contains v).length
theorem within_le (g : Graph) (V : List Nat) (k : Nat) : within g V k ≤ g.vertexCount := by
  unfold within
  exact Nat.le_trans (List.length_filter_le ..) (Nat.le_of_eq (List.length_range ..))
/-- the vertex ahead on a shortest way -/
theorem level_down {g : Graph} {V : List Nat} {v k : Nat} (h : v ∈ neighbourhood g (k + 1) V) (no : v ∉ neighbourhood g k V) : v < g.vertexCount ∧ ∃ u, u ∈ neighbourhood g k V ∧ isAdjacent g u v = true ∧ ∀ j, j < k → u ∉ neighbourhood g j V := by
  rw [nbh_succ, mem_stepN] at h
  obtain ⟨hv, h | ⟨u, hu, ha⟩⟩ := h
  · exact absurd h no
  · refine ⟨hv, u, hu, ha, fun j hj z => no ?_⟩
    refine nbh_mono hv (j := j + 1) (by omega) ?_
    rw [nbh_succ, mem_stepN]
    exact ⟨hv, .inr ⟨u, z, ha⟩⟩
theorem nbh_lt {g : Graph} {u : Nat} (hu : u < g.vertexCount) : ∀ {k v : Nat}, v ∈ neighbourhood g k [u] → v < g.vertexCount
  | 0, v, h => by
    have : v = u := List.mem_singleton.mp h
    omega
  | k + 1, v, h => by
    rw [nbh_succ, mem_stepN] at h
    exact h.1
/-- a vertex first met at k: as many vertices are met by then -/
theorem within_ge {g : Graph} {u : Nat} (hu : u < g.vertexCount) : ∀ (k v : Nat), v ∈ neighbourhood g k [u] → (∀ j, j < k → v ∉ neighbourhood g j [u]) → k + 1 ≤ within g [u] k
  | 0, v, h, _ => by
    unfold within
    have : 0 < ((List.range g.vertexCount).filter fun v => (neighbourhood g 0 [u]).contains v).length := by
      refine List.length_pos_of_mem (a := u) ?_
      rw [List.mem_filter]
      exact ⟨List.mem_range.mpr hu, by simp [neighbourhood]⟩
    omega
  | k + 1, v, h, no => by
    obtain ⟨hv, x, hx, ha, hno⟩ := level_down h (no k (by omega))
    have ih := within_ge hu k x hx hno
    have : within g [u] k < within g [u] (k + 1) := by
      unfold within
      refine filter_lt (x := v) (fun y hy => ?_) (List.mem_range.mpr hv) (by simpa using h) (by simpa using no k (by omega))
      have hy' : y ∈ neighbourhood g k [u] := by simpa using hy
      have := nbh_mono (nbh_lt hu hy') (j := k) (k := k + 1) (by omega) hy'
      simpa using this
    omega
theorem first_lt {g : Graph} {u k v : Nat} (hu : u < g.vertexCount) (h : v ∈ neighbourhood g k [u]) : ∃ i, i < g.vertexCount ∧ distance g u v = some i := by
  have ex : ∃ i, v ∈ neighbourhood g i [u] ∧ ∀ j, j < i → v ∉ neighbourhood g j [u] := by
    clear hu
    induction k using Nat.strongRecOn with
    | _ k ih =>
      by_cases c : ∃ j, j < k ∧ v ∈ neighbourhood g j [u]
      · obtain ⟨j, hj, z⟩ := c
        exact ih j hj z
      · exact ⟨k, h, fun j hj z => c ⟨j, hj, z⟩⟩
  obtain ⟨i, h1, h2⟩ := ex
  have a := within_ge hu i v h1 h2
  have b := within_le g [u] i
  exact ⟨i, by omega, firstIn_of (V := [u]) (by omega) h1 h2⟩
theorem nbh_trans {g : Graph} {u v : Nat} : ∀ (k j w : Nat), v ∈ neighbourhood g j [u] → w ∈ neighbourhood g k [v] → w ∈ neighbourhood g (j + k) [u]
  | 0, j, w, h1, h2 => by
    have : w = v := List.mem_singleton.mp h2
    rw [this]
    exact h1
  | k + 1, j, w, h1, h2 => by
    rw [nbh_succ, mem_stepN] at h2
    obtain ⟨hw, h2 | ⟨x, hx, ha⟩⟩ := h2
    · exact nbh_mono hw (by omega) (nbh_trans k j w h1 h2)
    · show w ∈ neighbourhood g (j + k + 1) [u]
      rw [nbh_succ, mem_stepN]
      exact ⟨hw, .inr ⟨x, nbh_trans k j x h1 hx, ha⟩⟩
theorem nbh_symm {g : Graph} {u : Nat} (hu : u < g.vertexCount) : ∀ (k v : Nat), v ∈ neighbourhood g k [u] → u ∈ neighbourhood g k [v]
  | 0, v, h => by
    have : v = u := List.mem_singleton.mp h
    rw [this]
    exact List.mem_singleton.mpr rfl
  | k + 1, v, h => by
    rw [nbh_succ, mem_stepN] at h
    obtain ⟨hv, h | ⟨x, hx, ha⟩⟩ := h
    · exact nbh_mono hu (by omega) (nbh_symm hu k v h)
    · have e : x ∈ neighbourhood g 1 [v] := by
        show x ∈ stepN g [v]
        rw [mem_stepN]
        exact ⟨nbh_lt hu hx, .inr ⟨v, List.mem_singleton.mpr rfl, by rw [adj_symm]; exact ha⟩⟩
      have := nbh_trans k 1 u e (nbh_symm hu k x hx)
      rwa [Nat.add_comm] at this
theorem all_dist {g : Graph} (hc : Ks578.isConnected g = true) {u v : Nat} (hu : u < g.vertexCount) (hv : v < g.vertexCount) : ∃ d, d < g.vertexCount ∧ distance g u v = some d := by
  unfold Ks578.isConnected at hc
  rw [List.all_eq_true] at hc
  have at0 : ∀ w, w < g.vertexCount → ∃ k, w ∈ neighbourhood g k [0] := fun w hw => by
    have := hc w (List.mem_range.mpr hw)
    cases e : distance g 0 w with
    | none =>
      rw [e] at this
      cases this
    | some k => exact ⟨k, (firstIn_some (V := [0]) e).2.1⟩
  obtain ⟨i, hi⟩ := at0 u hu
  obtain ⟨j, hj⟩ := at0 v hv
  exact first_lt hu (nbh_trans j i v (nbh_symm (by omega) i u hi) hj)
theorem ecc_le {g : Graph} {u : Nat} (hu : u < g.vertexCount) : ecc g u ≤ Ks578.diameter g := by
  unfold Ks578.diameter
  rw [foldl_flatMap_max]
  have : ∀ (l : List Nat) (f : Nat → Nat) (x : Nat), u ∈ l → f u ≤ l.foldl (fun a u => max a (f u)) x := by
    intro l f
    have mono : ∀ (l : List Nat) (x : Nat), x ≤ l.foldl (fun a u => max a (f u)) x := by
      intro l
      induction l with
      | nil => intro x; exact Nat.le_refl _
      | cons a l ih =>
        intro x
        rw [List.foldl_cons]
        have := ih (max x (f a))
        omega
    induction l with
    | nil => intro x h; cases h
    | cons a l ih =>
      intro x h
      rw [List.foldl_cons]
      rcases List.mem_cons.mp h with rfl | h
      · have := mono l (max x (f u))
        omega
      · exact ih _ h
  exact this (List.range g.vertexCount) (ecc g) 0 (List.mem_range.mpr hu)
theorem dist_le_ecc {g : Graph} {u v d : Nat} (hv : v < g.vertexCount) (h : distance g u v = some d) : d ≤ ecc g u := by
  have := (foldl_max_nat ((List.range g.vertexCount).map fun v => (distance g u v).getD 0) 0).2.2 ((distance g u v).getD 0) (List.mem_map.mpr ⟨v, List.mem_range.mpr hv, rfl⟩)
  rw [h] at this
  exact this
/-! ### how far from the target: each vertex has a neighbour that is nearer by one -/
structure Lvl (adj : List (List Nat)) (t : Nat) (D : Nat → Nat) : Prop where
  zero : D t = 0
  pos : ∀ v, v < adj.length → v ≠ t → 1 ≤ D v ∧ D v ≤ 3 ∧ ∃ u, u < adj.length ∧ u ∈ adj.getD v [] ∧ D u + 1 = D v
theorem lvl_of {g : Graph} {adj : List (List Nat)} (A : AdjOf g adj) (hc : Ks578.isConnected g = true) (hd : Ks578.diameter g ≤ 3) {t : Nat} (ht : t < adj.length) : ∃ D, Lvl adj t D := by
  have ht' : t < g.vertexCount := by rw [← A.len]; exact ht
  refine ⟨fun v => (distance g t v).getD 0, by show (distance g t t).getD 0 = 0; rw [dist_self ht']; rfl, fun v hv hne => ?_⟩
  have hv' : v < g.vertexCount := by rw [← A.len]; exact hv
  obtain ⟨d, hdlt, e⟩ := all_dist hc ht' hv'
  show 1 ≤ (distance g t v).getD 0 ∧ (distance g t v).getD 0 ≤ 3 ∧ ∃ u, u < adj.length ∧ u ∈ adj.getD v [] ∧ (distance g t u).getD 0 + 1 = (distance g t v).getD 0
  rw [e]
  show 1 ≤ d ∧ d ≤ 3 ∧ ∃ u, u < adj.length ∧ u ∈ adj.getD v [] ∧ (distance g t u).getD 0 + 1 = d
  obtain ⟨_, h1, h2⟩ := firstIn_some (V := [t]) e
  have d1 : d ≠ 0 := fun z => by
    rw [z] at h1
    exact hne (List.mem_singleton.mp h1)
  have d3 := Nat.le_trans (dist_le_ecc hv' e) (Nat.le_trans (ecc_le ht') hd)
  obtain ⟨k, rfl⟩ : ∃ k, d = k + 1 := ⟨d - 1, by omega⟩
  obtain ⟨_, u, hu, ha, hno⟩ := level_down h1 (h2 k (by omega))
  have hul := nbh_lt ht' hu
  have eu : distance g t u = some k := firstIn_of (V := [t]) (by omega) hu hno
  exact ⟨by omega, d3, u, by rw [A.len]; exact hul, (A.mem v u).mpr (by rw [adj_symm]; exact ha), by rw [eu]; rfl⟩
/-! ### pushing pebbles to a neighbour keeps a configuration unsolvable -/
theorem partials_sum : ∀ (k p : Nat), ∀ f ∈ partials k p, f.1.sum + f.2 = p
  | 0, p, f, hf => by
    rw [List.mem_singleton.mp hf]
    exact Nat.zero_add p
  | k + 1, p, f, hf => by
    unfold partials longerOnes at hf
    rw [List.mem_flatMap] at hf
    obtain ⟨q, hq, hf⟩ := hf
    have ih := partials_sum k p q hq
    unfold longerOne at hf
    rw [List.mem_map] at hf
    obtain ⟨x, hx, rfl⟩ := hf
    have := List.mem_range.mp hx
    show (q.1 ++ [x]).sum + (q.2 - x) = p
    rw [List.sum_append_nat]
    simp only [List.sum_cons, List.sum_nil]
    omega
theorem configs_sum {n p : Nat} : ∀ c ∈ configs n p, c.sum = p := by
  intro c hc
  unfold configs at hc
  rw [List.mem_map] at hc
  obtain ⟨f, hf, rfl⟩ := hc
  have := partials_sum (n - 1) p f hf
  rw [List.sum_append_nat]
  simp only [List.sum_cons, List.sum_nil]
  omega
theorem uns_mem {adj : List (List Nat)} {t : Nat} : ∀ {p : Nat} {c : List Nat}, c ∈ uns adj t p → c ∈ configs adj.length p
  | 0, _, h => h
  | _ + 1, _, h => (List.mem_filter.mp h).1
theorem sum_get : ∀ (c : List Nat) (i : Nat), c.getD i 0 ≤ c.sum
  | [], i => by simp
  | x :: c, 0 => by
    rw [List.sum_cons]
    exact Nat.le_add_right _ _
  | x :: c, i + 1 => by
    have := sum_get c i
    rw [List.sum_cons]
    show c.getD i 0 ≤ x + c.sum
    omega
theorem uns_target {adj : List (List Nat)} {t p : Nat} {c : List Nat} (h : c ∈ uns adj t p) : c.getD t 0 = 0 := by
  cases p with
  | zero =>
    have a := configs_sum c (uns_mem h)
    have b := sum_get c t
    omega
  | succ p =>
    have := (List.mem_filter.mp h).2
    unfold isUns at this
    rw [Bool.and_eq_true] at this
    simpa using this.1
theorem uns_move {adj : List (List Nat)} {t p : Nat} {c : List Nat} {u v : Nat} (h : c ∈ uns adj t p) (hu : u < adj.length) (hv : v ∈ adj.getD u []) (h2 : 2 ≤ c.getD u 0) : ∃ q, afterMove c u v ∈ uns adj t q := by
  cases p with
  | zero =>
    have a := configs_sum c (uns_mem h)
    have b := sum_get c u
    omega
  | succ p =>
    have := (List.mem_filter.mp h).2
    unfold isUns at this
    rw [Bool.and_eq_true, List.all_eq_true] at this
    have s := this.2 u (List.mem_range.mpr hu)
    unfold stays at s
    rw [decide_eq_false (by omega), Bool.false_or, List.all_eq_true] at s
    exact ⟨p, by simpa using s v hv⟩
/-- f is the number of pebbles on each vertex, of some unsolvable configuration -/
def UV (adj : List (List Nat)) (t : Nat) (f : Nat → Nat) : Prop := ∃ p c, c ∈ uns adj t p ∧ ∀ w, w < adj.length → c.getD w 0 = f w
def push (f : Nat → Nat) (u v : Nat) : Nat → Nat := fun w => if w = u then f u % 2 else if w = v then f v + f u / 2 else f w
theorem uv_target {adj : List (List Nat)} {t : Nat} {f : Nat → Nat} (ht : t < adj.length) (h : UV adj t f) : f t = 0 := by
  obtain ⟨p, c, h1, h2⟩ := h
  rw [← h2 t ht]
  exact uns_target h1
theorem uv_some {adj : List (List Nat)} {t : Nat} {u v : Nat} (hn : 1 ≤ adj.length) (hu : u < adj.length) (hv : v ∈ adj.getD u []) (hvl : v < adj.length) (ne : u ≠ v) : ∀ (k : Nat) (f : Nat → Nat), UV adj t f → 2 * k ≤ f u →
    UV adj t fun w => if w = u then f u - 2 * k else if w = v then f v + k else f w
  | 0, f, h, _ => by
    obtain ⟨p, c, h1, h2⟩ := h
    refine ⟨p, c, h1, fun w hw => ?_⟩
    rw [h2 w hw]
    dsimp only
    by_cases a : w = u
    · rw [if_pos a, a]
      rfl
    · rw [if_neg a]
      by_cases b : w = v
      · rw [if_pos b, b]
        rfl
      · rw [if_neg b]
  | k + 1, f, h, hk => by
    obtain ⟨p, c, h1, h2⟩ := uv_some hn hu hv hvl ne k f h (by omega)
    dsimp only at h2
    have cu : c.getD u 0 = f u - 2 * k := by rw [h2 u hu, if_pos rfl]
    obtain ⟨q, hq⟩ := uns_move h1 hu hv (by omega)
    have cl := uns_rows hn p c h1
    refine ⟨q, _, hq, fun w hw => ?_⟩
    dsimp only
    unfold afterMove
    rw [getD_set, List.length_set, getD_set, getD_set, cl]
    by_cases a : w = u
    · subst a
      rw [if_neg (fun z => ne z.1.symm), if_pos ⟨rfl, hw⟩, if_pos rfl, cu]
      omega
    · rw [if_neg a]
      by_cases b : w = v
      · subst b
        rw [if_pos ⟨rfl, hw⟩, if_pos rfl, if_neg (fun z => ne z.1), h2 w hw, if_neg a, if_pos rfl]
        omega
      · rw [if_neg (fun z => b z.1.symm), if_neg (fun z => a z.1.symm), if_neg b, h2 w hw, if_neg a, if_neg b]
theorem uv_push {adj : List (List Nat)} {t : Nat} {u v : Nat} {f : Nat → Nat} (hn : 1 ≤ adj.length) (hu : u < adj.length) (hv : v ∈ adj.getD u []) (hvl : v < adj.length) (ne : u ≠ v) (h : UV adj t f) : UV adj t (push f u v) := by
  obtain ⟨p, c, h1, h2⟩ := uv_some hn hu hv hvl ne (f u / 2) f h (by omega)
  refine ⟨p, c, h1, fun w hw => ?_⟩
  rw [h2 w hw]
  unfold push
  dsimp only
  by_cases a : w = u
  · rw [if_pos a, if_pos a]
    omega
  · rw [if_neg a, if_neg a]
end PmM
namespace PmM
open Ks577 (Graph)
/-! ### the vertices by falling distance -/
theorem sum_range (c : List Nat) : ((List.range c.length).map fun i => c.getD i 0).sum = c.sum := by
  congr 1
  refine List.ext_getElem (by simp) fun i h1 h2 => ?_
  rw [List.getElem_map, List.getElem_range, List.getD_eq_getElem?_getD, List.getElem?_eq_getElem h2]
  rfl
/-- the vertices but the target, the farthest first -/
def others (n t : Nat) (D : Nat → Nat) : List Nat := ((List.range n).erase t).mergeSort fun a b => decide (D b ≤ D a)
theorem others_perm {n t : Nat} (D : Nat → Nat) (ht : t < n) : (List.range n).Perm (t :: others n t D) :=
  (List.perm_cons_erase (List.mem_range.mpr ht)).trans (List.Perm.cons t (List.mergeSort_perm _ _).symm)
theorem others_sorted (n t : Nat) (D : Nat → Nat) : (others n t D).Pairwise fun a b => D b ≤ D a := by
  have := List.pairwise_mergeSort (le := fun a b => decide (D b ≤ D a)) (fun a b c h1 h2 => by
    simp only [decide_eq_true_eq] at h1 h2 ⊢
    omega) (fun a b => by
    simp only [Bool.or_eq_true, decide_eq_true_eq]
    omega) ((List.range n).erase t)
  exact this.imp fun h => by simpa using h
theorem push_at {f : Nat → Nat} {u v w : Nat} : push f u v w = if w = u then f u % 2 else if w = v then f v + f u / 2 else f w := rfl
/-- what the facts about a target and its levels are worth for a list of the other vertices -/
structure Shape (adj : List (List Nat)) (t : Nat) (D : Nat → Nat) (L : List Nat) : Prop where
  nd : (t :: L).Nodup
  lt : ∀ v ∈ L, v < adj.length
  sorted : L.Pairwise fun a b => D b ≤ D a
  up : ∀ v ∈ L, 1 ≤ D v ∧ D v ≤ 3 ∧ ∃ u, u < adj.length ∧ u ∈ adj.getD v [] ∧ D u + 1 = D v ∧ (u = t ∨ u ∈ L)
theorem shape_of {adj : List (List Nat)} {t : Nat} {D : Nat → Nat} (ht : t < adj.length) (h : Lvl adj t D) : Shape adj t D (others adj.length t D) := by
  have P := others_perm D ht
  have mem : ∀ v, v < adj.length ↔ v = t ∨ v ∈ others adj.length t D := fun v => by
    rw [← List.mem_range, P.mem_iff, List.mem_cons]
  have nd : (t :: others adj.length t D).Nodup := P.nodup_iff.mp List.nodup_range
  refine ⟨nd, fun v hv => (mem v).mpr (.inr hv), others_sorted _ _ _, fun v hv => ?_⟩
  have ne : v ≠ t := fun z => by
    rw [z] at hv
    exact (List.nodup_cons.mp nd).1 hv
  obtain ⟨a, b, u, c, d, e⟩ := h.pos v ((mem v).mpr (.inr hv)) ne
  exact ⟨a, b, u, c, d, e, (mem u).mp c⟩
section
variable {adj : List (List Nat)} {t : Nat} {D : Nat → Nat} {f : Nat → Nat}
theorem shape1 (hn : 1 ≤ adj.length) (ht : t < adj.length) (h0 : D t = 0) {a : Nat} (S : Shape adj t D [a]) (h : UV adj t f) (hs : f a = 8) : False := by
  have nd := S.nd
  simp only [List.nodup_cons, List.mem_cons, List.not_mem_nil, or_false, not_false_eq_true, true_and, and_true, not_or, List.nodup_nil] at nd
  obtain ⟨a1, a2, p, a3, a4, a5, a6⟩ := S.up a (by simp)
  have e : p = t := by
    rcases a6 with z | z
    · exact z
    · have : p = a := by simpa using z
      subst this
      omega
  subst e
  have h1 := uv_push hn (S.lt a (by simp)) a4 a3 (fun z => nd z.symm) h
  have z := uv_target ht h1
  rw [push_at, if_neg nd, if_pos rfl] at z
  omega
theorem shape2 (hn : 1 ≤ adj.length) (ht : t < adj.length) (h0 : D t = 0) {a b : Nat} (S : Shape adj t D [a, b]) (h : UV adj t f) (hs : f a + f b = 10) : False := by
  have nd := S.nd
  have so := S.sorted
  simp only [List.nodup_cons, List.mem_cons, List.not_mem_nil, or_false, not_false_eq_true, true_and, and_true, not_or, List.nodup_nil] at nd
  simp only [List.pairwise_cons, List.mem_cons, List.not_mem_nil, or_false, forall_eq_or_imp, forall_eq, false_implies, implies_true, List.Pairwise.nil, and_true] at so
  have n_t_a : ¬ t = a := by omega
  have e_t_a : (t = a) = False := eq_false n_t_a
  have e_a_t : (a = t) = False := eq_false (fun z => n_t_a z.symm)
  have n_t_b : ¬ t = b := by omega
  have e_t_b : (t = b) = False := eq_false n_t_b
  have e_b_t : (b = t) = False := eq_false (fun z => n_t_b z.symm)
  have n_a_b : ¬ a = b := by omega
  have e_a_b : (a = b) = False := eq_false n_a_b
  have e_b_a : (b = a) = False := eq_false (fun z => n_a_b z.symm)
  obtain ⟨a1, a2, pa, a3, a4, a5, a6⟩ := S.up a (by simp)
  have la := S.lt a (by simp)
  obtain ⟨b1, b2, pb, b3, b4, b5, b6⟩ := S.up b (by simp)
  have lb := S.lt b (by simp)
  have qa : pa = t ∨ pa = b := by
    rcases a6 with z | z
    · exact .inl z
    · simp only [List.mem_cons, List.not_mem_nil, or_false] at z
      rcases z with z | z
      · rw [z] at a5
        omega
      · exact Or.inr (z)
  have qb : pb = t := by
    rcases b6 with z | z
    · exact z
    · simp only [List.mem_cons, List.not_mem_nil, or_false] at z
      rcases z with z | z
      · rw [z] at b5
        omega
      · rw [z] at b5
        omega
  have h1 := uv_push hn la a4 a3 (fun z => by rw [← z] at a5; omega) h
  have h2 := uv_push hn lb b4 b3 (fun z => by rw [← z] at b5; omega) h1
  have z := uv_target ht h2
  clear h1 h2 a4 a3 a6 b4 b3 b6 h S
  rcases qa with qa | qa
  · rw [qa] at z a5
    rw [qb] at z b5
    simp only [push_at, if_true, if_false, e_t_a, e_a_t, e_t_b, e_b_t, e_a_b, e_b_a] at z
    omega
  · rw [qa] at z a5
    rw [qb] at z b5
    simp only [push_at, if_true, if_false, e_t_a, e_a_t, e_t_b, e_b_t, e_a_b, e_b_a] at z
    omega
theorem shape3 (hn : 1 ≤ adj.length) (ht : t < adj.length) (h0 : D t = 0) {a b c : Nat} (S : Shape adj t D [a, b, c]) (h : UV adj t f) (hs : f a + f b + f c = 10) : False := by
  have nd := S.nd
  have so := S.sorted
  simp only [List.nodup_cons, List.mem_cons, List.not_mem_nil, or_false, not_false_eq_true, true_and, and_true, not_or, List.nodup_nil] at nd
  simp only [List.pairwise_cons, List.mem_cons, List.not_mem_nil, or_false, forall_eq_or_imp, forall_eq, false_implies, implies_true, List.Pairwise.nil, and_true] at so
  have n_t_a : ¬ t = a := by omega
  have e_t_a : (t = a) = False := eq_false n_t_a
  have e_a_t : (a = t) = False := eq_false (fun z => n_t_a z.symm)
  have n_t_b : ¬ t = b := by omega
  have e_t_b : (t = b) = False := eq_false n_t_b
  have e_b_t : (b = t) = False := eq_false (fun z => n_t_b z.symm)
  have n_t_c : ¬ t = c := by omega
  have e_t_c : (t = c) = False := eq_false n_t_c
  have e_c_t : (c = t) = False := eq_false (fun z => n_t_c z.symm)
  have n_a_b : ¬ a = b := by omega
  have e_a_b : (a = b) = False := eq_false n_a_b
  have e_b_a : (b = a) = False := eq_false (fun z => n_a_b z.symm)
  have n_a_c : ¬ a = c := by omega
  have e_a_c : (a = c) = False := eq_false n_a_c
  have e_c_a : (c = a) = False := eq_false (fun z => n_a_c z.symm)
  have n_b_c : ¬ b = c := by omega
  have e_b_c : (b = c) = False := eq_false n_b_c
  have e_c_b : (c = b) = False := eq_false (fun z => n_b_c z.symm)
  obtain ⟨a1, a2, pa, a3, a4, a5, a6⟩ := S.up a (by simp)
  have la := S.lt a (by simp)
  obtain ⟨b1, b2, pb, b3, b4, b5, b6⟩ := S.up b (by simp)
  have lb := S.lt b (by simp)
  obtain ⟨c1, c2, pc, c3, c4, c5, c6⟩ := S.up c (by simp)
  have lc := S.lt c (by simp)
  have qa : pa = t ∨ pa = b ∨ pa = c := by
    rcases a6 with z | z
    · exact .inl z
    · simp only [List.mem_cons, List.not_mem_nil, or_false] at z
      rcases z with z | z | z
      · rw [z] at a5
        omega
      · exact Or.inr (Or.inl z)
      · exact Or.inr (Or.inr (z))
  have qb : pb = t ∨ pb = c := by
    rcases b6 with z | z
    · exact .inl z
    · simp only [List.mem_cons, List.not_mem_nil, or_false] at z
      rcases z with z | z | z
      · rw [z] at b5
        omega
      · rw [z] at b5
        omega
      · exact Or.inr (z)
  have qc : pc = t := by
    rcases c6 with z | z
    · exact z
    · simp only [List.mem_cons, List.not_mem_nil, or_false] at z
      rcases z with z | z | z
      · rw [z] at c5
        omega
      · rw [z] at c5
        omega
      · rw [z] at c5
        omega
  have h1 := uv_push hn la a4 a3 (fun z => by rw [← z] at a5; omega) h
  have h2 := uv_push hn lb b4 b3 (fun z => by rw [← z] at b5; omega) h1
  have h3 := uv_push hn lc c4 c3 (fun z => by rw [← z] at c5; omega) h2
  have z := uv_target ht h3
  clear h1 h2 h3 a4 a3 a6 b4 b3 b6 c4 c3 c6 h S
  rcases qa with qa | qa | qa
  · rw [qa] at z a5
    rcases qb with qb | qb
    · rw [qb] at z b5
      rw [qc] at z c5
      simp only [push_at, if_true, if_false, e_t_a, e_a_t, e_t_b, e_b_t, e_t_c, e_c_t, e_a_b, e_b_a, e_a_c, e_c_a, e_b_c, e_c_b] at z
      omega
    · rw [qb] at z b5
      rw [qc] at z c5
      simp only [push_at, if_true, if_false, e_t_a, e_a_t, e_t_b, e_b_t, e_t_c, e_c_t, e_a_b, e_b_a, e_a_c, e_c_a, e_b_c, e_c_b] at z
      omega
  · rw [qa] at z a5
    rcases qb with qb | qb
    · rw [qb] at z b5
      rw [qc] at z c5
      simp only [push_at, if_true, if_false, e_t_a, e_a_t, e_t_b, e_b_t, e_t_c, e_c_t, e_a_b, e_b_a, e_a_c, e_c_a, e_b_c, e_c_b] at z
      omega
    · rw [qb] at z b5
      rw [qc] at z c5
      simp only [push_at, if_true, if_false, e_t_a, e_a_t, e_t_b, e_b_t, e_t_c, e_c_t, e_a_b, e_b_a, e_a_c, e_c_a, e_b_c, e_c_b] at z
      omega
  · rw [qa] at z a5
    rcases qb with qb | qb
    · rw [qb] at z b5
      rw [qc] at z c5
      simp only [push_at, if_true, if_false, e_t_a, e_a_t, e_t_b, e_b_t, e_t_c, e_c_t, e_a_b, e_b_a, e_a_c, e_c_a, e_b_c, e_c_b] at z
      omega
    · rw [qb] at z b5
      rw [qc] at z c5
      simp only [push_at, if_true, if_false, e_t_a, e_a_t, e_t_b, e_b_t, e_t_c, e_c_t, e_a_b, e_b_a, e_a_c, e_c_a, e_b_c, e_c_b] at z
      omega
theorem shape4 (hn : 1 ≤ adj.length) (ht : t < adj.length) (h0 : D t = 0) {a b c d : Nat} (S : Shape adj t D [a, b, c, d]) (h : UV adj t f) (hs : f a + f b + f c + f d = 10) : False := by
  have nd := S.nd
  have so := S.sorted
  simp only [List.nodup_cons, List.mem_cons, List.not_mem_nil, or_false, not_false_eq_true, true_and, and_true, not_or, List.nodup_nil] at nd
  simp only [List.pairwise_cons, List.mem_cons, List.not_mem_nil, or_false, forall_eq_or_imp, forall_eq, false_implies, implies_true, List.Pairwise.nil, and_true] at so
  have n_t_a : ¬ t = a := by omega
  have e_t_a : (t = a) = False := eq_false n_t_a
  have e_a_t : (a = t) = False := eq_false (fun z => n_t_a z.symm)
  have n_t_b : ¬ t = b := by omega
  have e_t_b : (t = b) = False := eq_false n_t_b
  have e_b_t : (b = t) = False := eq_false (fun z => n_t_b z.symm)
  have n_t_c : ¬ t = c := by omega
  have e_t_c : (t = c) = False := eq_false n_t_c
  have e_c_t : (c = t) = False := eq_false (fun z => n_t_c z.symm)
  have n_t_d : ¬ t = d := by omega
  have e_t_d : (t = d) = False := eq_false n_t_d
  have e_d_t : (d = t) = False := eq_false (fun z => n_t_d z.symm)
  have n_a_b : ¬ a = b := by omega
  have e_a_b : (a = b) = False := eq_false n_a_b
  have e_b_a : (b = a) = False := eq_false (fun z => n_a_b z.symm)
  have n_a_c : ¬ a = c := by omega
  have e_a_c : (a = c) = False := eq_false n_a_c
  have e_c_a : (c = a) = False := eq_false (fun z => n_a_c z.symm)
  have n_a_d : ¬ a = d := by omega
  have e_a_d : (a = d) = False := eq_false n_a_d
  have e_d_a : (d = a) = False := eq_false (fun z => n_a_d z.symm)
  have n_b_c : ¬ b = c := by omega
  have e_b_c : (b = c) = False := eq_false n_b_c
  have e_c_b : (c = b) = False := eq_false (fun z => n_b_c z.symm)
  have n_b_d : ¬ b = d := by omega
  have e_b_d : (b = d) = False := eq_false n_b_d
  have e_d_b : (d = b) = False := eq_false (fun z => n_b_d z.symm)
  have n_c_d : ¬ c = d := by omega
  have e_c_d : (c = d) = False := eq_false n_c_d
  have e_d_c : (d = c) = False := eq_false (fun z => n_c_d z.symm)
  obtain ⟨a1, a2, pa, a3, a4, a5, a6⟩ := S.up a (by simp)
  have la := S.lt a (by simp)
  obtain ⟨b1, b2, pb, b3, b4, b5, b6⟩ := S.up b (by simp)
  have lb := S.lt b (by simp)
  obtain ⟨c1, c2, pc, c3, c4, c5, c6⟩ := S.up c (by simp)
  have lc := S.lt c (by simp)
  obtain ⟨d1, d2, pd, d3, d4, d5, d6⟩ := S.up d (by simp)
  have ld := S.lt d (by simp)
  have qa : pa = t ∨ pa = b ∨ pa = c ∨ pa = d := by
    rcases a6 with z | z
    · exact .inl z
    · simp only [List.mem_cons, List.not_mem_nil, or_false] at z
      rcases z with z | z | z | z
      · rw [z] at a5
        omega
      · exact Or.inr (Or.inl z)
      · exact Or.inr (Or.inr (Or.inl z))
      · exact Or.inr (Or.inr (Or.inr (z)))
  have qb : pb = t ∨ pb = c ∨ pb = d := by
    rcases b6 with z | z
    · exact .inl z
    · simp only [List.mem_cons, List.not_mem_nil, or_false] at z
      rcases z with z | z | z | z
      · rw [z] at b5
        omega
      · rw [z] at b5
        omega
      · exact Or.inr (Or.inl z)
      · exact Or.inr (Or.inr (z))
  have qc : pc = t ∨ pc = d := by
    rcases c6 with z | z
    · exact .inl z
    · simp only [List.mem_cons, List.not_mem_nil, or_false] at z
      rcases z with z | z | z | z
      · rw [z] at c5
        omega
      · rw [z] at c5
        omega
      · rw [z] at c5
        omega
      · exact Or.inr (z)
  have qd : pd = t := by
    rcases d6 with z | z
    · exact z
    · simp only [List.mem_cons, List.not_mem_nil, or_false] at z
      rcases z with z | z | z | z
      · rw [z] at d5
        omega
      · rw [z] at d5
        omega
      · rw [z] at d5
        omega
      · rw [z] at d5
        omega
  have h1 := uv_push hn la a4 a3 (fun z => by rw [← z] at a5; omega) h
  have h2 := uv_push hn lb b4 b3 (fun z => by rw [← z] at b5; omega) h1
  have h3 := uv_push hn lc c4 c3 (fun z => by rw [← z] at c5; omega) h2
  have h4 := uv_push hn ld d4 d3 (fun z => by rw [← z] at d5; omega) h3
  have z := uv_target ht h4
  clear h1 h2 h3 h4 a4 a3 a6 b4 b3 b6 c4 c3 c6 d4 d3 d6 h S
  rcases qa with qa | qa | qa | qa
  · rw [qa] at z a5
    rcases qb with qb | qb | qb
    · rw [qb] at z b5
      rcases qc with qc | qc
      · rw [qc] at z c5
        rw [qd] at z d5
        simp only [push_at, if_true, if_false, e_t_a, e_a_t, e_t_b, e_b_t, e_t_c, e_c_t, e_t_d, e_d_t, e_a_b, e_b_a, e_a_c, e_c_a, e_a_d, e_d_a, e_b_c, e_c_b, e_b_d, e_d_b, e_c_d, e_d_c] at z
        omega
      · rw [qc] at z c5
        rw [qd] at z d5
        simp only [push_at, if_true, if_false, e_t_a, e_a_t, e_t_b, e_b_t, e_t_c, e_c_t, e_t_d, e_d_t, e_a_b, e_b_a, e_a_c, e_c_a, e_a_d, e_d_a, e_b_c, e_c_b, e_b_d, e_d_b, e_c_d, e_d_c] at z
        omega
    · rw [qb] at z b5
      rcases qc with qc | qc
      · rw [qc] at z c5
        rw [qd] at z d5
        simp only [push_at, if_true, if_false, e_t_a, e_a_t, e_t_b, e_b_t, e_t_c, e_c_t, e_t_d, e_d_t, e_a_b, e_b_a, e_a_c, e_c_a, e_a_d, e_d_a, e_b_c, e_c_b, e_b_d, e_d_b, e_c_d, e_d_c] at z
        omega
      · rw [qc] at z c5
        rw [qd] at z d5
        simp only [push_at, if_true, if_false, e_t_a, e_a_t, e_t_b, e_b_t, e_t_c, e_c_t, e_t_d, e_d_t, e_a_b, e_b_a, e_a_c, e_c_a, e_a_d, e_d_a, e_b_c, e_c_b, e_b_d, e_d_b, e_c_d, e_d_c] at z
        omega
    · rw [qb] at z b5
      rcases qc with qc | qc
      · rw [qc] at z c5
        rw [qd] at z d5
        simp only [push_at, if_true, if_false, e_t_a, e_a_t, e_t_b, e_b_t, e_t_c, e_c_t, e_t_d, e_d_t, e_a_b, e_b_a, e_a_c, e_c_a, e_a_d, e_d_a, e_b_c, e_c_b, e_b_d, e_d_b, e_c_d, e_d_c] at z
        omega
      · rw [qc] at z c5
        rw [qd] at z d5
        simp only [push_at, if_true, if_false, e_t_a, e_a_t, e_t_b, e_b_t, e_t_c, e_c_t, e_t_d, e_d_t, e_a_b, e_b_a, e_a_c, e_c_a, e_a_d, e_d_a, e_b_c, e_c_b, e_b_d, e_d_b, e_c_d, e_d_c] at z
        omega
  · rw [qa] at z a5
    rcases qb with qb | qb | qb
    · rw [qb] at z b5
      rcases qc with qc | qc
      · rw [qc] at z c5
        rw [qd] at z d5
        simp only [push_at, if_true, if_false, e_t_a, e_a_t, e_t_b, e_b_t, e_t_c, e_c_t, e_t_d, e_d_t, e_a_b, e_b_a, e_a_c, e_c_a, e_a_d, e_d_a, e_b_c, e_c_b, e_b_d, e_d_b, e_c_d, e_d_c] at z
        omega
      · rw [qc] at z c5
        rw [qd] at z d5
        simp only [push_at, if_true, if_false, e_t_a, e_a_t, e_t_b, e_b_t, e_t_c, e_c_t, e_t_d, e_d_t, e_a_b, e_b_a, e_a_c, e_c_a, e_a_d, e_d_a, e_b_c, e_c_b, e_b_d, e_d_b, e_c_d, e_d_c] at z
        omega
    · rw [qb] at z b5
      rcases qc with qc | qc
      · rw [qc] at z c5
        rw [qd] at z d5
        simp only [push_at, if_true, if_false, e_t_a, e_a_t, e_t_b, e_b_t, e_t_c, e_c_t, e_t_d, e_d_t, e_a_b, e_b_a, e_a_c, e_c_a, e_a_d, e_d_a, e_b_c, e_c_b, e_b_d, e_d_b, e_c_d, e_d_c] at z
        omega
      · rw [qc] at z c5
        rw [qd] at z d5
        simp only [push_at, if_true, if_false, e_t_a, e_a_t, e_t_b, e_b_t, e_t_c, e_c_t, e_t_d, e_d_t, e_a_b, e_b_a, e_a_c, e_c_a, e_a_d, e_d_a, e_b_c, e_c_b, e_b_d, e_d_b, e_c_d, e_d_c] at z
        omega
    · rw [qb] at z b5
      rcases qc with qc | qc
      · rw [qc] at z c5
        rw [qd] at z d5
        simp only [push_at, if_true, if_false, e_t_a, e_a_t, e_t_b, e_b_t, e_t_c, e_c_t, e_t_d, e_d_t, e_a_b, e_b_a, e_a_c, e_c_a, e_a_d, e_d_a, e_b_c, e_c_b, e_b_d, e_d_b, e_c_d, e_d_c] at z
        omega
      · rw [qc] at z c5
        rw [qd] at z d5
        simp only [push_at, if_true, if_false, e_t_a, e_a_t, e_t_b, e_b_t, e_t_c, e_c_t, e_t_d, e_d_t, e_a_b, e_b_a, e_a_c, e_c_a, e_a_d, e_d_a, e_b_c, e_c_b, e_b_d, e_d_b, e_c_d, e_d_c] at z
        omega
  · rw [qa] at z a5
    rcases qb with qb | qb | qb
    · rw [qb] at z b5
      rcases qc with qc | qc
      · rw [qc] at z c5
        rw [qd] at z d5
        simp only [push_at, if_true, if_false, e_t_a, e_a_t, e_t_b, e_b_t, e_t_c, e_c_t, e_t_d, e_d_t, e_a_b, e_b_a, e_a_c, e_c_a, e_a_d, e_d_a, e_b_c, e_c_b, e_b_d, e_d_b, e_c_d, e_d_c] at z
        omega
      · rw [qc] at z c5
        rw [qd] at z d5
        simp only [push_at, if_true, if_false, e_t_a, e_a_t, e_t_b, e_b_t, e_t_c, e_c_t, e_t_d, e_d_t, e_a_b, e_b_a, e_a_c, e_c_a, e_a_d, e_d_a, e_b_c, e_c_b, e_b_d, e_d_b, e_c_d, e_d_c] at z
        omega
    · rw [qb] at z b5
      rcases qc with qc | qc
      · rw [qc] at z c5
        rw [qd] at z d5
        simp only [push_at, if_true, if_false, e_t_a, e_a_t, e_t_b, e_b_t, e_t_c, e_c_t, e_t_d, e_d_t, e_a_b, e_b_a, e_a_c, e_c_a, e_a_d, e_d_a, e_b_c, e_c_b, e_b_d, e_d_b, e_c_d, e_d_c] at z
        omega
      · rw [qc] at z c5
        rw [qd] at z d5
        simp only [push_at, if_true, if_false, e_t_a, e_a_t, e_t_b, e_b_t, e_t_c, e_c_t, e_t_d, e_d_t, e_a_b, e_b_a, e_a_c, e_c_a, e_a_d, e_d_a, e_b_c, e_c_b, e_b_d, e_d_b, e_c_d, e_d_c] at z
        omega
    · rw [qb] at z b5
      rcases qc with qc | qc
      · rw [qc] at z c5
        rw [qd] at z d5
        simp only [push_at, if_true, if_false, e_t_a, e_a_t, e_t_b, e_b_t, e_t_c, e_c_t, e_t_d, e_d_t, e_a_b, e_b_a, e_a_c, e_c_a, e_a_d, e_d_a, e_b_c, e_c_b, e_b_d, e_d_b, e_c_d, e_d_c] at z
        omega
      · rw [qc] at z c5
        rw [qd] at z d5
        simp only [push_at, if_true, if_false, e_t_a, e_a_t, e_t_b, e_b_t, e_t_c, e_c_t, e_t_d, e_d_t, e_a_b, e_b_a, e_a_c, e_c_a, e_a_d, e_d_a, e_b_c, e_c_b, e_b_d, e_d_b, e_c_d, e_d_c] at z
        omega
  · rw [qa] at z a5
    rcases qb with qb | qb | qb
    · rw [qb] at z b5
      rcases qc with qc | qc
      · rw [qc] at z c5
        rw [qd] at z d5
        simp only [push_at, if_true, if_false, e_t_a, e_a_t, e_t_b, e_b_t, e_t_c, e_c_t, e_t_d, e_d_t, e_a_b, e_b_a, e_a_c, e_c_a, e_a_d, e_d_a, e_b_c, e_c_b, e_b_d, e_d_b, e_c_d, e_d_c] at z
        omega
      · rw [qc] at z c5
        rw [qd] at z d5
        simp only [push_at, if_true, if_false, e_t_a, e_a_t, e_t_b, e_b_t, e_t_c, e_c_t, e_t_d, e_d_t, e_a_b, e_b_a, e_a_c, e_c_a, e_a_d, e_d_a, e_b_c, e_c_b, e_b_d, e_d_b, e_c_d, e_d_c] at z
        omega
    · rw [qb] at z b5
      rcases qc with qc | qc
      · rw [qc] at z c5
        rw [qd] at z d5
        simp only [push_at, if_true, if_false, e_t_a, e_a_t, e_t_b, e_b_t, e_t_c, e_c_t, e_t_d, e_d_t, e_a_b, e_b_a, e_a_c, e_c_a, e_a_d, e_d_a, e_b_c, e_c_b, e_b_d, e_d_b, e_c_d, e_d_c] at z
        omega
      · rw [qc] at z c5
        rw [qd] at z d5
        simp only [push_at, if_true, if_false, e_t_a, e_a_t, e_t_b, e_b_t, e_t_c, e_c_t, e_t_d, e_d_t, e_a_b, e_b_a, e_a_c, e_c_a, e_a_d, e_d_a, e_b_c, e_c_b, e_b_d, e_d_b, e_c_d, e_d_c] at z
        omega
    · rw [qb] at z b5
      rcases qc with qc | qc
      · rw [qc] at z c5
        rw [qd] at z d5
        simp only [push_at, if_true, if_false, e_t_a, e_a_t, e_t_b, e_b_t, e_t_c, e_c_t, e_t_d, e_d_t, e_a_b, e_b_a, e_a_c, e_c_a, e_a_d, e_d_a, e_b_c, e_c_b, e_b_d, e_d_b, e_c_d, e_d_c] at z
        omega
      · rw [qc] at z c5
        rw [qd] at z d5
        simp only [push_at, if_true, if_false, e_t_a, e_a_t, e_t_b, e_b_t, e_t_c, e_c_t, e_t_d, e_d_t, e_a_b, e_b_a, e_a_c, e_c_a, e_a_d, e_d_a, e_b_c, e_c_b, e_b_d, e_d_b, e_c_d, e_d_c] at z
        omega
end
end PmM
namespace PmM
open Ks577 (Graph)
theorem uns_empty_of {adj : List (List Nat)} {t p : Nat} (hn : 1 ≤ adj.length) (no : ∀ f : Nat → Nat, UV adj t f → ((List.range adj.length).map f).sum = p → False) : (uns adj t p).isEmpty = true := by
  cases e : uns adj t p with
  | nil => rfl
  | cons c r =>
    have hc : c ∈ uns adj t p := by
      rw [e]
      exact List.mem_cons_self
    refine (no (fun i => c.getD i 0) ⟨p, c, hc, fun w _ => rfl⟩ ?_).elim
    have l := uns_rows hn p c hc
    have := sum_range c
    rw [l] at this
    rw [this]
    exact configs_sum c (uns_mem hc)
theorem sum_others {n t : Nat} (D f : Nat → Nat) (ht : t < n) : ((List.range n).map f).sum = f t + ((others n t D).map f).sum := by
  have P := (others_perm D ht).map f
  rw [P.sum_nat]
  rfl
theorem others_len {n t : Nat} (D : Nat → Nat) (ht : t < n) : (others n t D).length + 1 = n := by
  have := (others_perm D ht).length_eq
  rw [List.length_range, List.length_cons] at this
  omega
theorem bound_lvl {adj : List (List Nat)} {t : Nat} {D : Nat → Nat} (hn : 1 ≤ adj.length) (hn5 : adj.length ≤ 5) (ht : t < adj.length) (h : Lvl adj t D) : ∃ p, 1 ≤ p ∧ p ≤ 10 ∧ p ≤ mostOf adj ∧ (uns adj t p).isEmpty = true := by
  have S := shape_of ht h
  have sl := others_len D ht
  have sm := fun f => sum_others D f ht
  unfold mostOf
  generalize others adj.length t D = L at S sl sm
  match L, S, sl, sm with
  | [], S, sl, sm =>
    simp only [List.length_nil] at sl
    refine ⟨1, by omega, by omega, by omega, uns_empty_of hn fun f hf hs => ?_⟩
    rw [sm f] at hs
    have := uv_target ht hf
    simp only [List.map_nil, List.sum_nil] at hs
    omega
  | [a], S, sl, sm =>
    simp only [List.length_cons, List.length_nil] at sl
    refine ⟨8, by omega, by omega, by omega, uns_empty_of hn fun f hf hs => ?_⟩
    rw [sm f] at hs
    have := uv_target ht hf
    simp only [List.map_cons, List.map_nil, List.sum_cons, List.sum_nil] at hs
    exact shape1 hn ht h.zero S hf (by omega)
  | [a, b], S, sl, sm =>
    simp only [List.length_cons, List.length_nil] at sl
    refine ⟨10, by omega, by omega, by omega, uns_empty_of hn fun f hf hs => ?_⟩
    rw [sm f] at hs
    have := uv_target ht hf
    simp only [List.map_cons, List.map_nil, List.sum_cons, List.sum_nil] at hs
    exact shape2 hn ht h.zero S hf (by omega)
  | [a, b, c], S, sl, sm =>
    simp only [List.length_cons, List.length_nil] at sl
    refine ⟨10, by omega, by omega, by omega, uns_empty_of hn fun f hf hs => ?_⟩
    rw [sm f] at hs
    have := uv_target ht hf
    simp only [List.map_cons, List.map_nil, List.sum_cons, List.sum_nil] at hs
    exact shape3 hn ht h.zero S hf (by omega)
  | [a, b, c, d], S, sl, sm =>
    simp only [List.length_cons, List.length_nil] at sl
    refine ⟨10, by omega, by omega, by omega, uns_empty_of hn fun f hf hs => ?_⟩
    rw [sm f] at hs
    have := uv_target ht hf
    simp only [List.map_cons, List.map_nil, List.sum_cons, List.sum_nil] at hs
    exact shape4 hn ht h.zero S hf (by omega)
  | a :: b :: c :: d :: e :: r, S, sl, sm =>
    simp only [List.length_cons] at sl
    omega
/-- the pebbling number is what the program finds -/
theorem least_spec {n : Nat} {es : List Nat} {t : Nat} (h : refGraph n es = 0) (ht : t < n) : Ks578.pebblingNumber ⟨n, pairsOf es⟩ t = some (least (nbOf n es) t) := by
  have hc := refGraph_conn h
  have g := refConn_graph hc
  have A := nbOf_adj g
  have len := nbOf_len n es
  have cn : Ks578.isConnected ⟨n, pairsOf es⟩ = true := by
    rw [← isConn_is A]
    exact refConn_conn hc
  have dm : Ks578.diameter ⟨n, pairsOf es⟩ ≤ 3 := by
    have := refGraph_small h
    rw [greatest_is A] at this
    omega
  obtain ⟨n1, n5⟩ := graph_pos g
  obtain ⟨D, L⟩ := lvl_of A cn dm (t := t) (by rw [len]; exact ht)
  obtain ⟨p, p1, p10, pm, pe⟩ := bound_lvl (by rw [len]; exact n1) (by rw [len]; exact n5) (by rw [len]; exact ht) L
  unfold Ks578.pebblingNumber
  have e : (fun pebbles => decide (1 ≤ pebbles) && (Ks578.unsolvable ⟨n, pairsOf es⟩ t pebbles).isEmpty) = fun q => decide (1 ≤ q) && (uns (nbOf n es) t q).isEmpty := by
    funext q
    rw [uns_spec g]
  rw [e]
  cases r : (List.range (Ks578.maxSearchedPebbles + 1)).find? fun q => decide (1 ≤ q) && (uns (nbOf n es) t q).isEmpty with
  | none =>
    rw [List.find?_eq_none] at r
    refine absurd ?_ (r p (List.mem_range.mpr (by unfold Ks578.maxSearchedPebbles; omega)))
    rw [decide_eq_true p1, pe]
    rfl
  | some m =>
    rw [List.find?_range_eq_some] at r
    obtain ⟨r1, r2, r3⟩ := r
    rw [Bool.and_eq_true, decide_eq_true_eq] at r1
    have no : ∀ j, 1 ≤ j → j < m → (uns (nbOf n es) t j).isEmpty = false := fun j a b => by
      have := r3 j b
      rw [decide_eq_true a, Bool.true_and] at this
      simpa using this
    have mp : m ≤ p := by
      by_cases z : m ≤ p
      · exact z
      · have := no p p1 (by omega)
        rw [pe] at this
        cases this
    rw [least_of r1.1 (by omega) no (fun _ => r1.2)]
end PmM
namespace PmM
def opGraphNumber (n : Nat) (es : List Nat) : List Int := if refGraph n es = 0 then [maxI ((List.range n).map fun t => (least (nbOf n es) t : Int))] else [refGraph n es]
theorem fold_some (g : Ks577.Graph) (F : Nat → Nat) : ∀ (l : List Nat) (x : Nat), (∀ v ∈ l, Ks578.pebblingNumber g v = some (F v)) →
    l.foldl (fun result v => match result, Ks578.pebblingNumber g v with
      | some a, some b => some (max a b)
      | _, _ => none) (some x) = some ((l.map F).foldl max x)
  | [], _, _ => rfl
  | v :: l, x, h => by
    rw [List.foldl_cons, h v List.mem_cons_self, List.map_cons, List.foldl_cons]
    exact fold_some g F l (max x (F v)) fun w hw => h w (List.mem_cons_of_mem _ hw)
theorem max_cast (l : List Nat) (h : 0 < l.length) : maxI (l.map fun x : Nat => (x : Int)) = ((l.foldl max 0 : Nat) : Int) := by
  refine (maxI_is ?_ ?_).symm
  · obtain ⟨h1, h2, h3⟩ := foldl_max_nat l 0
    rw [List.mem_map]
    rcases h1 with e | e
    · cases l with
      | nil => cases h
      | cons x l =>
        have := h3 x List.mem_cons_self
        refine ⟨x, List.mem_cons_self, ?_⟩
        omega
    · exact ⟨_, e, rfl⟩
  · intro y hy
    rw [List.mem_map] at hy
    obtain ⟨x, hx, rfl⟩ := hy
    have := (foldl_max_nat l 0).2.2 x hx
    omega
theorem opGraphNumber_is (n : Nat) (es : List Nat) : PyKs578.graph_pebbling_number (n : Int) (es.map fun e : Nat => (e : Int)) = opGraphNumber n es := by
  show Ks578Neutral.integers (Ks578.answer (.graphPebblingNumber ((n : Int).toNat) ((es.map fun e : Nat => (e : Int)).map Int.toNat))) = _
  rw [toNat_map, Int.toNat_natCast]
  show Ks578Neutral.integers (Ks578.withSmallDiameter n es fun g => match Ks578.graphPebblingNumber g with
    | none => Ks578.number (-75)
    | some pebbles => Ks578.number pebbles) = _
  rw [withSmall_is]
  unfold opGraphNumber
  by_cases h : refGraph n es = 0
  · have g := refConn_graph (refGraph_conn h)
    rw [if_pos h, if_pos h]
    have e : Ks578.graphPebblingNumber ⟨n, pairsOf es⟩ = some (((List.range n).map fun t => least (nbOf n es) t).foldl max 0) :=
      fold_some ⟨n, pairsOf es⟩ (fun t => least (nbOf n es) t) (List.range n) 0 fun v hv => least_spec h (List.mem_range.mp hv)
    rw [e]
    have c := max_cast ((List.range n).map fun t => least (nbOf n es) t) (by rw [List.length_map, List.length_range]; exact (graph_pos g).1)
    rw [List.map_map] at c
    show [((((List.range n).map fun t => least (nbOf n es) t).foldl max 0 : Nat) : Int)] = _
    rw [← c]
    rfl
  · rw [if_neg h, if_neg h]
    rfl
end PmM
namespace Pm
open PySem PySem.Spec PyProof.Rows L2
/-! ### heaps, numbers, lists of numbers -/
theorem same_upd {H : Hp} {p : Addr} {o : HO} (h : H p = none) : Same H (upd H p o) := fun b x e => by
  rw [upd_ne (ne_of_none e h)]
  exact e
theorem same_put {H0 H : Hp} {p : Addr} {o : HO} (s : Same H0 H) (h : H0 p = none) : Same H0 (upd H p o) := fun b x e => by
  rw [upd_ne (ne_of_none e h)]
  exact s b x e
theorem Same.seqT {K : PySem.W.Frag} {H H' : Hp} {a : Addr} {xs : List V} (e : Same H H') (h : SqT K H a xs) : SqT K H' a xs := by
  rcases h with (h | ⟨o, h⟩) | h
  · exact .inl (.inl (e _ _ h))
  · exact .inl (.inr ⟨o, e _ _ h⟩)
  · exact .inr h
theorem small1000' {n : Nat} (h : n ≤ 1001) : n < sizeLine := Nat.lt_of_le_of_lt h (by decide)
abbrev vN (n : Nat) : V := .int (n : Int)
/-- a list of lists of numbers: what is adjacent to each vertex -/
def NbAt (K : PySem.W.Frag) (H : Hp) (a : Addr) (adj : List (List Nat)) : Prop :=
  ∃ as : List Addr, SqL K H a (as.map V.ref) ∧ as.length = adj.length ∧ ∀ (i : Nat) (b : Addr), as[i]? = some b → SqL K H b ((adj.getD i []).map vN)
theorem NbAt.same {K : PySem.W.Frag} {H H' : Hp} {a : Addr} {adj : List (List Nat)} (e : Same H H') (h : NbAt K H a adj) : NbAt K H' a adj := by
  obtain ⟨as, h1, h2, h3⟩ := h
  exact ⟨as, e.seq h1, h2, fun i b q => e.seq (h3 i b q)⟩
/-- the row of one vertex, as the machine reads it -/
theorem NbAt.row {K : PySem.W.Frag} {H : Hp} {a : Addr} {adj : List (List Nat)} (h : NbAt K H a adj) {v : Nat} (hv : v < adj.length) :
    ∃ (xs : List V) (b : Addr), SqL K H a xs ∧ xs.length = adj.length ∧ atI xs (v : Int) = some (.ref b) ∧ SqL K H b ((adj.getD v []).map vN) := by
  obtain ⟨as, h1, h2, h3⟩ := h
  have hv' : v < as.length := by omega
  refine ⟨as.map V.ref, as[v], h1, by rw [List.length_map, h2], ?_, h3 v as[v] (List.getElem?_eq_getElem hv')⟩
  exact atI_nat (by rw [List.getElem?_map, List.getElem?_eq_getElem hv']; rfl)
theorem map_get {α : Type} {f : α → V} {l : List α} {i : Nat} {y : V} (h : (l.map f)[i]? = some y) : ∃ x, l[i]? = some x ∧ y = f x := by
  rw [List.getElem?_map] at h
  cases e : l[i]? with
  | none =>
    rw [e] at h
    cases h
  | some x =>
    rw [e] at h
    exact ⟨x, rfl, (Option.some.inj h).symm⟩
theorem at_getD {l : List Int} {i : Nat} (h : i < l.length) : atI (l.map V.int) (i : Int) = some (.int (l.getD i 0)) := by
  refine atI_nat ?_
  rw [List.getElem?_map, List.getElem?_eq_getElem h, List.getD_eq_getElem?_getD, List.getElem?_eq_getElem h]
  rfl
theorem take_snoc {α : Type} : ∀ {l : List α} {i : Nat} {x : α}, l[i]? = some x → l.take (i + 1) = l.take i ++ [x]
  | [], i, x, h => by simp at h
  | a :: l, 0, x, h => by
    have e : a = x := Option.some.inj h
    subst e
    rfl
  | a :: l, i + 1, x, h => by
    have ih := take_snoc (l := l) (i := i) (x := x) h
    show a :: l.take (i + 1) = a :: l.take i ++ [x]
    rw [ih]
    rfl
end Pm
namespace Pm
open PySem PySem.Spec PyProof.Rows L2
theorem vint_eq (a b : Int) : decide (V.int a = V.int b) = (a == b) := by
  by_cases h : a = b
  · subst h
    rw [decide_eq_true rfl, beq_self_eq_true]
  · rw [decide_eq_false (fun z => h (V.int.inj z)), beq_eq_false_iff_ne.mpr h]
theorem inV_nat (i : Nat) (S : List Nat) : inV (V.int (i : Int)) (S.map vN) = S.contains i := by
  unfold inV
  rw [List.any_map, Bool.eq_iff_iff, List.any_eq_true, List.contains_iff_mem]
  constructor
  · rintro ⟨x, hx, e⟩
    have e' : ((x : Int) == (i : Int)) = true := e
    have : x = i := by
      have := eq_of_beq e'
      omega
    rw [← this]
    exact hx
  · intro h
    exact ⟨i, h, beq_self_eq_true (i : Int)⟩
end Pm
namespace Pm
open PySem
def top (i : Nat) : Stmt := PySem.Challenge.pw_pebblemoves_s02_graph_pebbling_number.main.body.getD i (.Pass ⟨0, 0, 0, 0⟩)
abbrev sHasNb : Stmt := top 2
abbrev sAtStart : Stmt := top 3
abbrev sWithNext : Stmt := top 4
abbrev sDistFrom : Stmt := top 5
abbrev sIsConn : Stmt := top 6
abbrev sGreatest : Stmt := top 7
abbrev sPairsOf : Stmt := top 10
abbrev sIsEdge : Stmt := top 11
abbrev sIncr : Stmt := top 12
abbrev sAreEdges : Stmt := top 13
abbrev sIsGraph : Stmt := top 14
abbrev sNbOf : Stmt := top 15
abbrev sRefConn : Stmt := top 22
abbrev sRefGraph : Stmt := top 23
abbrev sLonger : Stmt := top 25
abbrev sConfigs : Stmt := top 26
abbrev sAfter : Stmt := top 27
abbrev sStay : Stmt := top 30
abbrev sIsUns : Stmt := top 31
abbrev sNextUns : Stmt := top 32
abbrev sAlways : Stmt := top 33
abbrev sLeast : Stmt := top 34
abbrev sOp : Stmt := top 36
end Pm
namespace Pm
open PySem PySem.Spec PyProof.Rows L2 PmM
section
variable {P : Program} {w : World} {K : PySem.W.Frag} {mg : Str → Option Value} {base : Heap}
theorem scHasNb : FnScope ["neighbours", "found", "vertex", "distance", "other"] ["neighbours", "found", "vertex", "distance"] (defScope sHasNb) := ⟨rfl, rfl, rfl, by decide +kernel, rfl, by decide +kernel, by decide +kernel⟩
def spHasNb (K : PySem.W.Frag) : Sp := fun vs H Q _ => ∃ (a f : Addr) (adj : List (List Nat)) (ds : List Int) (v : Nat) (d : Int),
  vs = [.ref a, .ref f, vN v, .int d] ∧ NbAt K H a adj ∧ SqL K H f (ds.map V.int) ∧ v < adj.length ∧ (∀ o ∈ adj.getD v [], o < ds.length) ∧ (adj.getD v []).length ≤ 1000 ∧
  ∀ H', Same H H' → Q (.bl (hasNb adj ds v d)) H'
theorem ok_hasNb {f : Addr} {fd : FuncData} {k : Nat} (F : Fun K "has_neighbour_at" "has_neighbour_at" sHasNb f fd) (mAny : mg "any" = none) :
    FnOk P w K mg base CX0 (k + 1) f fd ["neighbours", "found", "vertex", "distance"] (spHasNb K) := by
  refine F.ok scHasNb (fun vs H Q E h => ?_) (fun cdv A outer s H vs Q E hr h => ?_)
  · obtain ⟨a, f, adj, ds, v, d, rfl, _⟩ := h
    rfl
  · obtain ⟨a, f, adj, ds, v, d, rfl, hN, hF, hv, ho, hl, q⟩ := h
    refine ⟨_, pss_one (ps_ret (pe_callB (cr_any rfl) (by rfl) mAny (by decide +kernel) (pa_cons (pe_lc (own := [("other", 4)]) (g := gName 4) (tt := tYes) (te := tOp rEq (tOp (rIxL K) (tVar 1) (tVar 4)) (tVar 3)) rfl scHasNb.nd (pi_list (pe_ix ix_list (pv 0) (pv 2) (fun _ _ => rfl)))
      (blkOk_by (N := ["neighbours", "found", "vertex", "distance", "other"]) (sc := defScope sHasNb) (by decide +kernel)) (fun _ _ _ _ _ => pg_name (i := 4) scHasNb.nd rfl (Or.inl rfl)) (fun _ _ _ _ _ => pts_nil)
      (fun _ _ _ _ _ => pe_cmpR op_eq (pe_ix ix_list (pv 1) (pv 4) (fun _ _ => rfl)) (pv 3) (nomark _))) pa_nil))), ?_⟩
    obtain ⟨xs, b, h1, h2, h3, h4⟩ := hN.row hv
    refine ⟨_, rfl, _, rfl, a, xs, _, _, rfl, rfl, h1, h3, b, rfl, ⟨_, h4⟩, fun D nD => ?_⟩
    refine lc_list (K := K) (a := b) (xs := (adj.getD v []).map vN) (fun i H' => Same H H' ∧ H' D = some (.lst (((adj.getD v []).take i).map fun o => V.bl (decide (V.int (ds.getD o 0) = V.int d))))) ⟨same_upd nD, upd_same⟩ (fun i H' _ h => h.1.seq h4) ?_ ?_
    · rintro i y H' hi ⟨s1, hD⟩
      obtain ⟨o, hi', rfl⟩ := map_get hi
      have hod : o < ds.length := ho o (List.mem_of_getElem? hi')
      refine ⟨rfl, _, rfl, _, rfl, f, _, _, _, rfl, rfl, s1.seq hF, at_getD hod, _, rfl, rfl, _, hD, ?_, ?_⟩
      · rw [List.length_map, List.length_take]
        exact Nat.lt_of_le_of_lt (Nat.min_le_right _ _) (small1000 hl)
      · refine ⟨same_put s1 nD, ?_⟩
        rw [upd_same, take_snoc hi', List.map_append]
        rfl
    · rintro H' ⟨s1, hD⟩
      rw [List.length_map, List.take_length] at hD
      refine ⟨D, (adj.getD v []).map fun o => decide (V.int (ds.getD o 0) = V.int d), rfl, SqL.of (by rw [hD, List.map_map]; rfl), ?_⟩
      have e : (((adj.getD v []).map fun o => decide (V.int (ds.getD o 0) = V.int d)).any id) = hasNb adj ds v d := by
        rw [List.any_map]
        unfold hasNb
        congr 1
        funext o
        exact vint_eq _ _
      rw [e]
      exact q H' s1
theorem scAtStart : FnScope ["neighbours", "starts", "found", "vertex"] ["neighbours", "starts"] (defScope sAtStart) := ⟨rfl, rfl, rfl, by decide +kernel, rfl, by decide +kernel, by decide +kernel⟩
def spAtStart (K : PySem.W.Frag) : Sp := fun vs H Q _ => ∃ (a b : Addr) (adj : List (List Nat)) (S : List Nat),
  vs = [.ref a, .ref b] ∧ NbAt K H a adj ∧ SqL K H b (S.map vN) ∧ adj.length ≤ 1000 ∧
  ∀ H' p, Same H H' → H p = none → H' p = some (.lst ((atStart adj.length S).map V.int)) → Q (.ref p) H'
theorem ok_atStart {f : Addr} {fd : FuncData} {k : Nat} {tU : Tok} (F : Fun K "at_start" "at_start" sAtStart f fd) (gU : mg "UNREACHED" = some (.int (-1) tU)) (mLen : mg "len" = none) (mRange : mg "range" = none) :
    FnOk P w K mg base CX0 (k + 1) f fd ["neighbours", "starts"] (spAtStart K) := by
  refine F.ok scAtStart (fun vs H Q E h => ?_) (fun cdv A outer s H vs Q E hr h => ?_)
  · obtain ⟨a, b, adj, S, rfl, _⟩ := h
    rfl
  · obtain ⟨a, b, adj, S, rfl, hN, hS, hl, q⟩ := h
    refine ⟨_, pss_cons (ps_set (i := 2) scAtStart.nd rfl (.inl rfl) (pe_lst pa_nil))
      (pss_cons (ps_for PassesOwn.never rfl (pi_range1 rfl mRange (pa_cons (pe_callB call_len_seq (by rfl) mLen PySem.boot_len (pa_cons (pv 0) pa_nil)) pa_nil)) (pg_name (i := 3) scAtStart.nd rfl (.inl rfl))
        (pss_one (ps_expr (pe_bm PySem.F.plainAttrs_list PySem.F.slot_list_append PySem.F.type_list_append mt_append (pv 2) (pa_cons (pe_ifExp (pt_cmpR op_in_seq (pv 3) (pv 1) rfl) pe_int (pe_glob (v := .int (-1)) rfl gU ⟨_, rfl⟩)) pa_nil)))))
      (pss_one (ps_ret (pv 2)))), ?_⟩
    refine ⟨Nat.zero_le _, fun l nl => ?_⟩
    have s1 : Same H (upd H l (.lst [])) := same_upd nl
    obtain ⟨as, h1, h2, h3⟩ := hN
    refine ⟨_, rfl, a, as.map V.ref, rfl, .inl (s1.seq h1), _, rfl, ?_, ?_, ?_⟩
    · rw [List.length_map, h2]
      omega
    · rw [List.length_map, h2]
      omega
    · rw [List.length_map, h2, Int.toNat_natCast]
      refine for_range (lo := 0) (n := adj.length) (fun i σ H' => ∃ v : Option V, σ = [some (.ref a), some (.ref b), some (.ref l), v] ∧ Same H H' ∧ H' l = some (.lst (((List.range i).map fun v => if S.contains v then (0 : Int) else -1).map V.int))) ⟨none, rfl, s1, upd_same⟩ ?_ ?_
      · rintro i σ H' hi ⟨v, rfl, s2, hD⟩
        refine ⟨_, rfl, .inl ⟨rfl, _, SqL.of hD⟩, ?_⟩
        refine ⟨_, rfl, _, rfl, b, _, rfl, .inl (s2.seq hS), rfl, by simp [flatV], _, rfl, ?_⟩
        have e : inV (V.int (0 + (i : Int))) (S.map vN) = S.contains i := by
          rw [Int.zero_add]
          exact inV_nat i S
        have key : ∀ z : Int, z = (if S.contains i then (0 : Int) else -1) → H' l = some (.lst (((List.range i).map fun v => if S.contains v then (0 : Int) else -1).map V.int)) → ∃ v : Option V, ([some (.ref a), some (.ref b), some (.ref l), some (.int (0 + (i : Int)))] : List (Option V)) = [some (.ref a), some (.ref b), some (.ref l), v] ∧ Same H (upd H' l (.lst ((((List.range i).map fun v => if S.contains v then (0 : Int) else -1).map V.int) ++ [V.int z]))) ∧
            (upd H' l (.lst ((((List.range i).map fun v => if S.contains v then (0 : Int) else -1).map V.int) ++ [V.int z]))) l = some (.lst (((List.range (i + 1)).map fun v => if S.contains v then (0 : Int) else -1).map V.int)) := fun z hz _ =>
          ⟨_, rfl, same_put s2 nl, by rw [upd_same, List.range_succ, List.map_append, List.map_append, hz]; rfl⟩
        have len : (((List.range i).map fun v => if S.contains v then (0 : Int) else -1).map V.int).length < sizeLine := by
          rw [List.length_map, List.length_map, List.length_range]
          exact small1000 (by omega)
        refine ite2 (fun c => ?_) (fun c => ?_)
        · exact ⟨l, _, _, rfl, rfl, hD, len, key 0 (by rw [if_pos (by rw [← e]; exact c)]) hD⟩
        · exact ⟨l, _, _, rfl, rfl, hD, len, key (-1) (by rw [if_neg (by rw [← e]; exact c)]) hD⟩
      · rintro σ H' ⟨v, rfl, s2, hD⟩
        exact ⟨_, rfl, q H' l s2 nl hD⟩
theorem scWithNext : FnScope ["neighbours", "found", "distance", "later", "vertex", "is_new"] ["neighbours", "found", "distance"] (defScope sWithNext) := ⟨rfl, rfl, rfl, by decide +kernel, rfl, by decide +kernel, by decide +kernel⟩
/-- what the distances are asked of: as many rows as there are vertices, each of vertices -/
structure AdjOk (adj : List (List Nat)) : Prop where
  len : adj.length ≤ 1000
  lt : ∀ v, ∀ o ∈ adj.getD v [], o < adj.length
  row : ∀ v, (adj.getD v []).length ≤ 1000
def spWithNext (K : PySem.W.Frag) : Sp := fun vs H Q _ => ∃ (a f : Addr) (adj : List (List Nat)) (ds : List Int) (d : Int),
  vs = [.ref a, .ref f, .int d] ∧ NbAt K H a adj ∧ SqL K H f (ds.map V.int) ∧ AdjOk adj ∧ ds.length = adj.length ∧
  ∀ H' p, Same H H' → H p = none → H' p = some (.lst ((withNext adj ds d).map V.int)) → Q (.ref p) H'
theorem ok_withNext {f fN : Addr} {fd fdN : FuncData} {tU : Tok} (F : Fun K "with_next" "with_next" sWithNext f fd) (FN : Fun K "has_neighbour_at" "has_neighbour_at" sHasNb fN fdN) (bN : Binds K fdN ["neighbours", "found", "vertex", "distance"] [])
    (gN : mg "has_neighbour_at" = some (.ref fN)) (gU : mg "UNREACHED" = some (.int (-1) tU)) (mLen : mg "len" = none) (mRange : mg "range" = none) (mAny : mg "any" = none) :
    FnOk P w K mg base CX0 2 f fd ["neighbours", "found", "distance"] (spWithNext K) := by
  have GN : FnOk P w K mg base CX0 1 fN fdN ["neighbours", "found", "vertex", "distance"] (spHasNb K) := ok_hasNb FN mAny
  refine F.ok scWithNext (fun vs H Q E h => ?_) (fun cdv A outer s H vs Q E hr h => ?_)
  · obtain ⟨a, b, adj, ds, d, rfl, _⟩ := h
    rfl
  · obtain ⟨a, b, adj, ds, d, rfl, hN, hF, hA, hlen, q⟩ := h
    refine ⟨_, pss_cons (ps_set (i := 3) scWithNext.nd rfl (.inl rfl) (pe_lst pa_nil))
      (pss_cons (ps_for PassesOwn.never rfl (pi_range1 rfl mRange (pa_cons (pe_callB call_len_seq (by rfl) mLen PySem.boot_len (pa_cons (pv 0) pa_nil)) pa_nil)) (pg_name (i := 4) scWithNext.nd rfl (.inl rfl))
        (pss_cons (ps_set (i := 5) scWithNext.nd rfl (.inl rfl) (pe_and (pe_cmpR op_eq (pe_ix ix_list (pv 1) (pv 4) (fun _ _ => rfl)) (pe_glob (v := .int (-1)) rfl gU ⟨_, rfl⟩) (nomark _))
            (pe_one (pe_call GN hr (by rfl) gN FN.kp bN .nil pass0 (pa_cons (pv 0) (pa_cons (pv 1) (pa_cons (pv 4) (pa_cons (pe_op op_sub (pv 2) pe_int) pa_nil))))))))
        (pss_one (ps_expr (pe_bm PySem.F.plainAttrs_list PySem.F.slot_list_append PySem.F.type_list_append mt_append (pv 3) (pa_cons (pe_ifExp (pt_val (pv 5)) (pv 2) (pe_ix ix_list (pv 1) (pv 4) (fun _ _ => rfl))) pa_nil))))))
      (pss_one (ps_ret (pv 3)))), ?_⟩
    refine ⟨Nat.zero_le _, fun l nl => ?_⟩
    have s1 : Same H (upd H l (.lst [])) := same_upd nl
    obtain ⟨as, h1, h2, h3⟩ := id hN
    refine ⟨_, rfl, a, as.map V.ref, rfl, .inl (s1.seq h1), _, rfl, ?_, ?_, ?_⟩
    · have := hA.len
      rw [List.length_map, h2]
      omega
    · have := hA.len
      rw [List.length_map, h2]
      omega
    · rw [List.length_map, h2, Int.toNat_natCast]
      refine for_range (lo := 0) (n := adj.length) (fun i σ H' => ∃ v w : Option V, σ = [some (.ref a), some (.ref b), some (.int d), some (.ref l), v, w] ∧ Same H H' ∧
        H' l = some (.lst (((List.range i).map fun v => if (ds.getD v 0 == -1 && hasNb adj ds v (d - 1)) = true then d else ds.getD v 0).map V.int))) ⟨none, none, rfl, s1, upd_same⟩ ?_ ?_
      · rintro i σ H' hi ⟨v, w, rfl, s2, hD⟩
        have hid : i < ds.length := by omega
        have ei : (0 : Int) + (i : Int) = (i : Int) := Int.zero_add _
        have len : (((List.range i).map fun v => if (ds.getD v 0 == -1 && hasNb adj ds v (d - 1)) = true then d else ds.getD v 0).map V.int).length < sizeLine := by
          rw [List.length_map, List.length_map, List.length_range]
          exact small1000 (by have := hA.len; omega)
        have key : ∀ (c : Bool) (z : Int) (H2 : Hp), Same H' H2 → z = (if (ds.getD i 0 == -1 && hasNb adj ds i (d - 1)) = true then d else ds.getD i 0) →
            ∃ v w : Option V, ([some (.ref a), some (.ref b), some (.int d), some (.ref l), some (.int (0 + (i : Int))), some (.bl c)] : List (Option V)) = [some (.ref a), some (.ref b), some (.int d), some (.ref l), v, w] ∧
              Same H (upd H2 l (.lst ((((List.range i).map fun v => if (ds.getD v 0 == -1 && hasNb adj ds v (d - 1)) = true then d else ds.getD v 0).map V.int) ++ [V.int z]))) ∧
              (upd H2 l (.lst ((((List.range i).map fun v => if (ds.getD v 0 == -1 && hasNb adj ds v (d - 1)) = true then d else ds.getD v 0).map V.int) ++ [V.int z]))) l =
                some (.lst (((List.range (i + 1)).map fun v => if (ds.getD v 0 == -1 && hasNb adj ds v (d - 1)) = true then d else ds.getD v 0).map V.int)) := fun c z H2 s3 hz =>
          ⟨_, _, rfl, same_put (s2.trans s3) nl, by rw [upd_same, List.range_succ, List.map_append, List.map_append, hz]; rfl⟩
        have at1 : atI (ds.map V.int) (0 + (i : Int)) = some (.int (ds.getD i 0)) := by
          rw [ei]
          exact at_getD hid
        refine ⟨_, rfl, _, rfl, b, _, _, _, rfl, rfl, s2.seq hF, at1, rfl, _, rfl, ite2 (fun c => ?_) (fun c => ?_)⟩
        · rw [vint_eq] at c
          refine ⟨_, rfl, _, rfl, _, rfl, _, rfl, _, _, rfl, rfl, a, b, adj, ds, i, d - 1, by rw [ei]; rfl, hN.same s2, s2.seq hF, hi, fun o ho => by have := hA.lt i o ho; omega, hA.row i, fun H2 s3 => ?_⟩
          refine ⟨_, rfl, .inl ⟨rfl, _, SqL.of (s3 _ _ hD)⟩, _, rfl, _, rfl, ite2 (fun c2 => ?_) (fun c2 => ?_)⟩
          · exact ⟨_, rfl, l, _, _, rfl, rfl, s3 _ _ hD, len, key _ d H2 s3 (by rw [c, c2, Bool.true_and, if_pos rfl])⟩
          · refine ⟨_, rfl, _, rfl, b, _, _, _, rfl, rfl, s3.seq (s2.seq hF), at1, l, _, _, rfl, rfl, s3 _ _ hD, len, key _ _ H2 s3 ?_⟩
            rw [c, Bool.eq_false_iff.mpr c2, Bool.true_and, if_neg (by decide)]
        · rw [vint_eq] at c
          refine ⟨_, rfl, .inl ⟨rfl, _, SqL.of hD⟩, _, rfl, _, rfl, iteF ?_⟩
          refine ⟨_, rfl, _, rfl, b, _, _, _, rfl, rfl, s2.seq hF, at1, l, _, _, rfl, rfl, hD, len, key _ _ H' (Same.refl _) ?_⟩
          rw [Bool.eq_false_iff.mpr c, Bool.false_and, if_neg (by decide)]
      · rintro σ H' ⟨v, w, rfl, s2, hD⟩
        exact ⟨_, rfl, q H' l s2 nl hD⟩
theorem scDistFrom : FnScope ["neighbours", "starts", "found", "distance"] ["neighbours", "starts"] (defScope sDistFrom) := ⟨rfl, rfl, rfl, by decide +kernel, rfl, by decide +kernel, by decide +kernel⟩
def spDistFrom (K : PySem.W.Frag) : Sp := fun vs H Q _ => ∃ (a b : Addr) (adj : List (List Nat)) (S : List Nat),
  vs = [.ref a, .ref b] ∧ NbAt K H a adj ∧ SqL K H b (S.map vN) ∧ AdjOk adj ∧
  ∀ H' p, Same H H' → H p = none → H' p = some (.lst ((distFrom adj S).map V.int)) → Q (.ref p) H'
/-- what the top has of the distances -/
structure TDist (K : PySem.W.Frag) (mg : Str → Option Value) (fN fA fW fD : Addr) (fdN fdA fdW fdD : FuncData) (tU : Tok) : Prop where
  FN : Fun K "has_neighbour_at" "has_neighbour_at" sHasNb fN fdN
  bN : Binds K fdN ["neighbours", "found", "vertex", "distance"] []
  gN : mg "has_neighbour_at" = some (.ref fN)
  FA : Fun K "at_start" "at_start" sAtStart fA fdA
  bA : Binds K fdA ["neighbours", "starts"] []
  gA : mg "at_start" = some (.ref fA)
  FW : Fun K "with_next" "with_next" sWithNext fW fdW
  bW : Binds K fdW ["neighbours", "found", "distance"] []
  gW : mg "with_next" = some (.ref fW)
  FD : Fun K "distances_from" "distances_from" sDistFrom fD fdD
  bD : Binds K fdD ["neighbours", "starts"] []
  gD : mg "distances_from" = some (.ref fD)
  gU : mg "UNREACHED" = some (.int (-1) tU)
  mLen : mg "len" = none
  mRange : mg "range" = none
  mAny : mg "any" = none
  mMax : mg "max" = none
theorem ok_distFrom {fN fA fW fD : Addr} {fdN fdA fdW fdD : FuncData} {tU : Tok} (T : TDist K mg fN fA fW fD fdN fdA fdW fdD tU) : FnOk P w K mg base CX0 3 fD fdD ["neighbours", "starts"] (spDistFrom K) := by
  have GA : FnOk P w K mg base CX0 1 fA fdA ["neighbours", "starts"] (spAtStart K) := ok_atStart T.FA T.gU T.mLen T.mRange
  have GW : FnOk P w K mg base CX0 2 fW fdW ["neighbours", "found", "distance"] (spWithNext K) := ok_withNext T.FW T.FN T.bN T.gN T.gU T.mLen T.mRange T.mAny
  refine T.FD.ok scDistFrom (fun vs H Q E h => ?_) (fun cdv A outer s H vs Q E hr h => ?_)
  · obtain ⟨a, b, adj, S, rfl, _⟩ := h
    rfl
  · obtain ⟨a, b, adj, S, rfl, hN, hS, hA, q⟩ := h
    have hr1 : Room 1 _ := hr.mono (by decide)
    refine ⟨_, pss_cons (ps_set (i := 2) scDistFrom.nd rfl (.inl rfl) (pe_call GA hr1 (by rfl) T.gA T.FA.kp T.bA .nil pass0 (pa_cons (pv 0) (pa_cons (pv 1) pa_nil))))
      (pss_cons (ps_for PassesOwn.never rfl (pi_range2 (by rfl) T.mRange (pa_cons pe_int (pa_cons (pe_callB call_len_seq (by rfl) T.mLen PySem.boot_len (pa_cons (pv 0) pa_nil)) pa_nil))) (pg_name (i := 3) scDistFrom.nd rfl (.inl rfl))
        (pss_one (ps_set (i := 2) scDistFrom.nd rfl (.inl rfl) (pe_call GW hr (by rfl) T.gW T.FW.kp T.bW .nil pass0 (pa_cons (pv 0) (pa_cons (pv 2) (pa_cons (pv 3) pa_nil)))))))
      (pss_one (ps_ret (pv 2)))), ?_⟩
    refine ⟨_, rfl, _, rfl, a, b, adj, S, rfl, hN, hS, hA.len, fun H1 l s1 nl hl => ?_⟩
    obtain ⟨as, h1, h2, h3⟩ := id hN
    have hlen := hA.len
    refine ⟨_, rfl, a, as.map V.ref, rfl, .inl (s1.seq h1), _, _, rfl, ?_, ?_⟩
    · rw [List.length_map, h2]
      omega
    · rw [List.length_map, h2, show ((adj.length : Int) - 1).toNat = adj.length - 1 by omega]
      refine for_range (lo := 1) (n := adj.length - 1) (fun i σ H' => ∃ (v : Option V) (l : Addr), σ = [some (.ref a), some (.ref b), some (.ref l), v] ∧ Same H H' ∧ H l = none ∧ H' l = some (.lst ((distAfter adj S i).map V.int))) ⟨none, l, rfl, s1, nl, hl⟩ ?_ ?_
      · rintro i σ H' hi ⟨v, l, rfl, s2, nl2, hD⟩
        refine ⟨_, rfl, _, rfl, _, rfl, a, l, adj, distAfter adj S i, 1 + (i : Int), rfl, hN.same s2, SqL.of hD, hA, distAfter_len _ _ _, fun H2 p s3 np hp => ?_⟩
        exact ⟨_, p, rfl, s2.trans s3, s2.free np, hp⟩
      · rintro σ H' ⟨v, l, rfl, s2, nl2, hD⟩
        exact ⟨_, rfl, q H' l s2 nl2 hD⟩
theorem scIsConn : FnScope ["neighbours"] ["neighbours"] (defScope sIsConn) := ⟨rfl, rfl, rfl, by decide +kernel, rfl, by decide +kernel, by decide +kernel⟩
def spIsConn (K : PySem.W.Frag) : Sp := fun vs H Q _ => ∃ (a : Addr) (adj : List (List Nat)),
  vs = [.ref a] ∧ NbAt K H a adj ∧ AdjOk adj ∧ ∀ H', Same H H' → Q (.bl (isConn adj)) H'
theorem inV_int (i : Int) (S : List Int) : inV (V.int i) (S.map V.int) = S.contains i := by
  unfold inV
  rw [List.any_map, Bool.eq_iff_iff, List.any_eq_true, List.contains_iff_mem]
  constructor
  · rintro ⟨x, hx, e⟩
    have e' : (x == i) = true := e
    rw [← eq_of_beq e']
    exact hx
  · intro h
    exact ⟨i, h, beq_self_eq_true i⟩
theorem ok_isConn {f fN fA fW fD : Addr} {fd fdN fdA fdW fdD : FuncData} {tU : Tok} (F : Fun K "is_connected" "is_connected" sIsConn f fd) (T : TDist K mg fN fA fW fD fdN fdA fdW fdD tU) : FnOk P w K mg base CX0 4 f fd ["neighbours"] (spIsConn K) := by
  have GD : FnOk P w K mg base CX0 3 fD fdD ["neighbours", "starts"] (spDistFrom K) := ok_distFrom T
  refine F.ok scIsConn (fun vs H Q E h => ?_) (fun cdv A outer s H vs Q E hr h => ?_)
  · obtain ⟨a, adj, rfl, _⟩ := h
    rfl
  · obtain ⟨a, adj, rfl, hN, hA, q⟩ := h
    refine ⟨_, pss_one (ps_ret (pe_cmpR op_notIn_seq (pe_glob (v := .int (-1)) rfl T.gU ⟨_, rfl⟩) (pe_call GD hr (by rfl) T.gD T.FD.kp T.bD .nil pass0 (pa_cons (pv 0) (pa_cons (pe_lst (pa_cons pe_int pa_nil)) pa_nil))) rfl)), ?_⟩
    refine ⟨_, rfl, by show 1 ≤ sizeLine; decide, fun l nl => ?_⟩
    have s1 : Same H (upd H l (.lst [vN 0])) := same_upd nl
    refine ⟨a, l, adj, [0], rfl, hN.same s1, SqL.of upd_same, hA, fun H2 p s2 np hp => ?_⟩
    refine ⟨p, _, rfl, .inl (SqL.of hp), rfl, by simp [flatV], ?_⟩
    rw [if_pos rfl, inV_int]
    exact q H2 (s1.trans s2)
theorem scGreatest : FnScope ["neighbours", "found", "vertex"] ["neighbours"] (defScope sGreatest) := ⟨rfl, rfl, rfl, by decide +kernel, rfl, by decide +kernel, by decide +kernel⟩
def spGreatest (K : PySem.W.Frag) : Sp := fun vs H Q _ => ∃ (a : Addr) (adj : List (List Nat)),
  vs = [.ref a] ∧ NbAt K H a adj ∧ AdjOk adj ∧ ∀ H', Same H H' → Q (.int (greatest adj)) H'
theorem max2 (i j : Int) : (if j > i then j else i) = max i j := by
  by_cases h : j > i
  · rw [if_pos h]
    omega
  · rw [if_neg h]
    omega
theorem ok_greatest {f fN fA fW fD : Addr} {fd fdN fdA fdW fdD : FuncData} {tU : Tok} (F : Fun K "greatest_distance" "greatest_distance" sGreatest f fd) (T : TDist K mg fN fA fW fD fdN fdA fdW fdD tU) : FnOk P w K mg base CX0 4 f fd ["neighbours"] (spGreatest K) := by
  have GD : FnOk P w K mg base CX0 3 fD fdD ["neighbours", "starts"] (spDistFrom K) := ok_distFrom T
  refine F.ok scGreatest (fun vs H Q E h => ?_) (fun cdv A outer s H vs Q E hr h => ?_)
  · obtain ⟨a, adj, rfl, _⟩ := h
    rfl
  · obtain ⟨a, adj, rfl, hN, hA, q⟩ := h
    refine ⟨_, pss_cons (ps_set (i := 1) scGreatest.nd rfl (.inl rfl) pe_int)
      (pss_cons (ps_for PassesOwn.never rfl (pi_range1 rfl T.mRange (pa_cons (pe_callB call_len_seq (by rfl) T.mLen PySem.boot_len (pa_cons (pv 0) pa_nil)) pa_nil)) (pg_name (i := 2) scGreatest.nd rfl (.inl rfl))
        (pss_one (ps_set (i := 1) scGreatest.nd rfl (.inl rfl) (pe_callB (call_max2 rfl) (by rfl) T.mMax (by decide +kernel) (pa_cons (pv 1) (pa_cons (pe_callB (cr_max rfl) (by rfl) T.mMax (by decide +kernel) (pa_cons
          (pe_call GD hr (by rfl) T.gD T.FD.kp T.bD .nil pass0 (pa_cons (pv 0) (pa_cons (pe_lst (pa_cons (pv 2) pa_nil)) pa_nil))) pa_nil)) pa_nil))))))
      (pss_one (ps_ret (pv 1)))), ?_⟩
    obtain ⟨as, h1, h2, h3⟩ := id hN
    have hlen := hA.len
    refine ⟨_, rfl, a, as.map V.ref, rfl, .inl h1, _, rfl, ?_, ?_, ?_⟩
    · rw [List.length_map, h2]
      omega
    · rw [List.length_map, h2]
      omega
    · rw [List.length_map, h2, Int.toNat_natCast]
      refine for_range (lo := 0) (n := adj.length) (fun i σ H' => ∃ (v : Option V), σ = [some (.ref a), some (.int (gAfter adj i)), v] ∧ Same H H') ⟨none, rfl, Same.refl _⟩ ?_ ?_
      · rintro i σ H' hi ⟨v, rfl, s2⟩
        refine ⟨_, rfl, _, rfl, _, rfl, by show 1 ≤ sizeLine; decide, fun l nl => ?_⟩
        have s1 : Same H' (upd H' l (.lst [.int (0 + (i : Int))])) := same_upd nl
        refine ⟨a, l, adj, [i], rfl, hN.same (s2.trans s1), SqL.of (by rw [upd_same, Int.zero_add]; rfl), hA, fun H2 p s3 np hp => ?_⟩
        refine ⟨p, distFrom adj [i], rfl, SqL.of hp, by rw [distFrom_len]; omega, fun m hm hle => ?_⟩
        refine ⟨_, _, rfl, ?_⟩
        refine ⟨some (.int (0 + (i : Int))), ?_, s2.trans (s1.trans s3)⟩
        rw [max2, maxI_is hm hle]
        rfl
      · rintro σ H' ⟨v, rfl, s2⟩
        exact ⟨_, rfl, q H' s2⟩
end
end Pm
namespace Pm
open PySem PySem.Spec PyProof.Rows L2 PmM
def prV (p : Nat × Nat) : List V := [vN p.1, vN p.2]
/-- a list of pairs of numbers -/
def PairsAt (H : Hp) (a : Addr) (ps : List (Nat × Nat)) : Prop :=
  ∃ as : List Addr, H a = some (.lst (as.map V.ref)) ∧ as.length = ps.length ∧ ∀ (i : Nat) (b : Addr), as[i]? = some b → H b = some (.tup (prV (ps.getD i (0, 0))))
theorem PairsAt.same {H H' : Hp} {a : Addr} {ps : List (Nat × Nat)} (e : Same H H') (h : PairsAt H a ps) : PairsAt H' a ps := by
  obtain ⟨as, h1, h2, h3⟩ := h
  exact ⟨as, e _ _ h1, h2, fun i b q => e _ _ (h3 i b q)⟩
theorem at_nat {l : List Nat} {i : Nat} {z : Int} (e : z = (i : Int)) (h : i < l.length) : atI (l.map vN) z = some (vN (l.getD i 0)) := by
  rw [e]
  refine atI_nat ?_
  rw [List.getElem?_map, List.getElem?_eq_getElem h, List.getD_eq_getElem?_getD, List.getElem?_eq_getElem h]
  rfl
theorem rg2 {m : Nat} (h : m ≤ 1000) (e : m % 2 = 0) : RgC 0 (m : Int) 2 (m / 2) := by
  have s : Builtin.Range.rangeSize 0 (m : Int) 2 = ((m / 2 : Nat) : Int) := by
    unfold Builtin.Range.rangeSize
    simp only [show ((2 : Int) > 0) by decide, if_true]
    split <;> omega
  have fits : ∀ i : Int, 0 ≤ i → i ≤ 2000 → Builtin.Range.rangeFitsLong i = true := fun i h1 h2 => by
    unfold Builtin.Range.rangeFitsLong
    rw [Bool.and_eq_true]
    exact ⟨decide_eq_true (by omega), decide_eq_true (by omega)⟩
  refine ⟨by decide, by decide, ?_, s⟩
  unfold Builtin.Range.small
  rw [s, fits _ (by omega) (by omega), fits _ (by omega) (by omega), fits _ (by omega) (by omega), fits _ (by omega) (by omega)]
  have : Builtin.Range.rangeFitsLong ((m : Int) + (2 - 1)) = true := fits _ (by omega) (by omega)
  simp only [show ((2 : Int) > 0) by decide, if_true, this, Bool.or_true, Bool.and_true]
theorem lexLt_pair (p q : Nat × Nat) : HT.lexLt [(p.1 : Int), (p.2 : Int)] [(q.1 : Int), (q.2 : Int)] = pairLt p q := by
  rw [HT.lexLt_cons, HT.lexLt_cons]
  unfold pairLt
  by_cases h1 : (p.1 : Int) = q.1
  · rw [if_pos h1]
    have h1' : p.1 = q.1 := by omega
    by_cases h2 : (p.2 : Int) = q.2
    · rw [if_pos h2]
      show false = _
      exact (decide_eq_false (by omega)).symm
    · rw [if_neg h2]
      exact decide_eq_decide.mpr (by omega)
  · rw [if_neg h1]
    exact decide_eq_decide.mpr (by omega)
section
variable {P : Program} {w : World} {K : PySem.W.Frag} {mg : Str → Option Value} {base : Heap}
theorem scPairsOf : FnScope ["edges", "at"] ["edges"] (defScope sPairsOf) := ⟨rfl, rfl, rfl, by decide +kernel, rfl, by decide +kernel, by decide +kernel⟩
def spPairsOf (K : PySem.W.Frag) : Sp := fun vs H Q _ => ∃ (a : Addr) (es : List Nat), vs = [.ref a] ∧ SqL K H a (es.map vN) ∧ es.length ≤ 1000 ∧ es.length % 2 = 0 ∧
  ∀ H' p, Same H H' → H p = none → PairsAt H' p (pairsOf es) → Q (.ref p) H'
theorem ok_pairsOf {f : Addr} {fd : FuncData} {k : Nat} (F : Fun K "pairs_of" "pairs_of" sPairsOf f fd) (mLen : mg "len" = none) (mRange : mg "range" = none) : FnOk P w K mg base CX0 (k + 1) f fd ["edges"] (spPairsOf K) := by
  refine F.ok scPairsOf (fun vs H Q E h => ?_) (fun cdv A outer s H vs Q E hr h => ?_)
  · obtain ⟨a, es, rfl, _⟩ := h
    rfl
  · obtain ⟨a, es, rfl, hE, hl, hev, q⟩ := h
    refine ⟨_, pss_one (ps_ret (pe_lc (own := [("at", 1)]) (g := gName 1) (tt := tYes) (te := tTup (tCons (tOp (rIxL K) (tVar 0) (tVar 1)) (tCons (tOp (rIxL K) (tVar 0) (tOp (rI0 fun i j => .int (i + j)) (tVar 1) (tC (.int 1)))) tNil))) rfl scPairsOf.nd
      (pi_range3 rfl mRange (pa_cons pe_int (pa_cons (pe_callB call_len_seq (by rfl) mLen PySem.boot_len (pa_cons (pv 0) pa_nil)) (pa_cons pe_int pa_nil))))
      (blkOk_by (N := ["edges", "at"]) (sc := defScope sPairsOf) (by decide +kernel)) (fun _ _ _ _ _ => pg_name (i := 1) scPairsOf.nd rfl (Or.inl rfl)) (fun _ _ _ _ _ => pts_nil)
      (fun _ _ _ _ _ => pe_tup (pa_cons (pe_ix ix_list (pv 0) (pv 1) (fun _ _ => rfl)) (pa_cons (pe_ix ix_list (pv 0) (pe_op op_add (pv 1) pe_int) (fun _ _ => rfl)) pa_nil))))), ?_⟩
    refine ⟨_, rfl, a, _, rfl, .inl hE, 0, _, 2, es.length / 2, rfl, by rw [List.length_map]; exact rg2 hl hev, fun D nD => ?_⟩
    refine lc_it (walk_rangeC (lo := 0) (c := 2) (n := es.length / 2)) (fun i H' => Same H H' ∧ ∃ as : List Addr, as.length = i ∧ H' D = some (.lst (as.map V.ref)) ∧ ∀ (j : Nat) (b : Addr), as[j]? = some b → H' b = some (.tup (prV ((pairsOf es).getD j (0, 0)))))
      ⟨same_upd nD, [], rfl, upd_same, fun j b e => by simp at e⟩ (fun _ _ _ _ => trivial) ?_ ?_
    · rintro i y H1 H' hi ⟨s1, as, el, hD, hT⟩ ⟨rfl, rfl⟩
      refine ⟨rfl, _, rfl, _, rfl, a, _, _, _, rfl, rfl, s1.seq hE, at_nat (i := 2 * i) (by omega) (by omega), _, rfl, _, rfl, _, _, rfl, rfl, a, _, _, _, rfl, rfl, s1.seq hE, at_nat (i := 2 * i + 1) (by omega) (by omega),
        (by show 2 ≤ sizeLine; decide), fun t nt => ?_⟩
      have nDt : D ≠ t := ne_of_none hD nt
      refine ⟨as.map V.ref, by rw [upd_ne nDt]; exact hD, by rw [List.length_map]; exact small1000 (by omega), same_put (same_put s1 (s1.free nt)) nD, as ++ [t], by rw [List.length_append, el]; rfl, by rw [upd_same, List.map_append]; rfl, fun j b e => ?_⟩
      by_cases c : j < as.length
      · rw [List.getElem?_append_left c] at e
        have hb := hT j b e
        rw [upd_ne (ne_of hb hD (by intro z; cases z)), upd_ne (ne_of_none hb nt)]
        exact hb
      · rw [List.getElem?_append_right (by omega)] at e
        have ej : j = as.length := by
          by_cases c2 : j - as.length = 0
          · omega
          · rw [List.getElem?_eq_none (by simp only [List.length_cons, List.length_nil]; omega)] at e
            cases e
        subst ej
        rw [Nat.sub_self] at e
        have : t = b := Option.some.inj e
        subst this
        rw [upd_ne nDt.symm, upd_same, el, pairsOf_getD es i hi]
        rfl
    · rintro H' ⟨s1, as, el, hD, hT⟩
      exact q H' D s1 nD ⟨as, hD, by rw [el, pairsOf_len], hT⟩
theorem scIsEdge : FnScope ["vertex_count", "one", "other"] ["vertex_count", "one", "other"] (defScope sIsEdge) := ⟨rfl, rfl, rfl, by decide +kernel, rfl, by decide +kernel, by decide +kernel⟩
def spIsEdge : Sp := fun vs H Q _ => ∃ (n : Nat) (p : Nat × Nat), vs = [vN n, vN p.1, vN p.2] ∧ Q (.bl (edgeOk n p)) H
theorem ok_isEdge {f : Addr} {fd : FuncData} {k : Nat} (F : Fun K "is_edge" "is_edge" sIsEdge f fd) : FnOk P w K mg base CX0 (k + 1) f fd ["vertex_count", "one", "other"] spIsEdge := by
  refine F.ok scIsEdge (fun vs H Q E h => ?_) (fun cdv A outer s H vs Q E hr h => ?_)
  · obtain ⟨n, p, rfl, _⟩ := h
    rfl
  · obtain ⟨n, p, rfl, q⟩ := h
    refine ⟨_, pss_one (ps_ret (pe_and (pe_cmpR op_lt (pv 1) (pv 2) (nomark _)) (pe_one (pe_cmpR op_lt (pv 2) (pv 0) (nomark _))))), ?_⟩
    have e1 : decide ((p.1 : Int) < (p.2 : Int)) = decide (p.1 < p.2) := decide_eq_decide.mpr (by omega)
    have e2 : decide ((p.2 : Int) < (n : Int)) = decide (p.2 < n) := decide_eq_decide.mpr (by omega)
    refine ⟨_, rfl, _, rfl, _, _, rfl, rfl, _, rfl, ite2 (fun c => ?_) (fun c => ?_)⟩
    · refine ⟨_, rfl, _, rfl, _, _, rfl, rfl, ?_⟩
      have : decide ((p.2 : Int) < (n : Int)) = edgeOk n p := by
        unfold edgeOk
        rw [← e1, c, Bool.true_and, e2]
      show Q (.bl (decide ((p.2 : Int) < (n : Int)))) H
      rw [this]
      exact q
    · have : false = edgeOk n p := by
        unfold edgeOk
        rw [← e1, Bool.eq_false_iff.mpr c, Bool.false_and]
      show Q (.bl false) H
      rw [this]
      exact q
theorem scIncr : FnScope ["pairs", "at"] ["pairs"] (defScope sIncr) := ⟨rfl, rfl, rfl, by decide +kernel, rfl, by decide +kernel, by decide +kernel⟩
def spIncr (K : PySem.W.Frag) : Sp := fun vs H Q _ => ∃ (a : Addr) (ps : List (Nat × Nat)), vs = [.ref a] ∧ PairsAt H a ps ∧ ps.length ≤ 1000 ∧ ∀ H', Same H H' → Q (.bl (incr ps)) H'
theorem PairsAt.get {K : PySem.W.Frag} {H : Hp} {a : Addr} {ps : List (Nat × Nat)} (h : PairsAt H a ps) {i : Nat} {z : Int} (e : z = (i : Int)) (hi : i < ps.length) :
    ∃ (xs : List V) (b : Addr), SqL K H a xs ∧ atI xs z = some (.ref b) ∧ H b = some (.tup (prV (ps.getD i (0, 0)))) := by
  obtain ⟨as, h1, h2, h3⟩ := h
  have hi' : i < as.length := by omega
  refine ⟨as.map V.ref, as[i], SqL.of h1, ?_, h3 i as[i] (List.getElem?_eq_getElem hi')⟩
  rw [e]
  exact atI_nat (by rw [List.getElem?_map, List.getElem?_eq_getElem hi']; rfl)
theorem ok_incr {f : Addr} {fd : FuncData} {k : Nat} (F : Fun K "are_increasing" "are_increasing" sIncr f fd) (mLen : mg "len" = none) (mRange : mg "range" = none) (mAll : mg "all" = none) : FnOk P w K mg base CX0 (k + 1) f fd ["pairs"] (spIncr K) := by
  refine F.ok scIncr (fun vs H Q E h => ?_) (fun cdv A outer s H vs Q E hr h => ?_)
  · obtain ⟨a, ps, rfl, _⟩ := h
    rfl
  · obtain ⟨a, ps, rfl, hP, hl, q⟩ := h
    refine ⟨_, pss_one (ps_ret (pe_callB (cr_all rfl) (by rfl) mAll (by decide +kernel) (pa_cons (pe_lc (own := [("at", 1)]) (g := gName 1) (tt := tYes)
      (te := tOp (rLtT K) (tOp (rIxL K) (tVar 0) (tVar 1)) (tOp (rIxL K) (tVar 0) (tOp (rI0 fun i j => .int (i + j)) (tVar 1) (tC (.int 1))))) rfl scIncr.nd
      (pi_range1 rfl mRange (pa_cons (pe_op op_sub (pe_callB call_len_seq (by rfl) mLen PySem.boot_len (pa_cons (pv 0) pa_nil)) pe_int) pa_nil))
      (blkOk_by (N := ["pairs", "at"]) (sc := defScope sIncr) (by decide +kernel)) (fun _ _ _ _ _ => pg_name (i := 1) scIncr.nd rfl (Or.inl rfl)) (fun _ _ _ _ _ => pts_nil)
      (fun _ _ _ _ _ => pe_cmpR (op_ltT hr.units0) (pe_ix ix_list (pv 0) (pv 1) (fun _ _ => rfl)) (pe_ix ix_list (pv 0) (pe_op op_add (pv 1) pe_int) (fun _ _ => rfl)) (nomark _))) pa_nil))), ?_⟩
    obtain ⟨as, h1, h2, h3⟩ := id hP
    refine ⟨_, rfl, a, as.map V.ref, rfl, .inl (SqL.of h1), _, _, rfl, rfl, _, rfl, ?_, ?_, fun D nD => ?_⟩
    · rw [List.length_map, h2]
      omega
    · rw [List.length_map, h2]
      omega
    · rw [List.length_map, h2, show ((ps.length : Int) - 1).toNat = ps.length - 1 by omega]
      refine lc_range (lo := 0) (n := ps.length - 1) (fun i H' => Same H H' ∧ H' D = some (.lst (((List.range i).map fun i => pairLt (ps.getD i (0, 0)) (ps.getD (i + 1) (0, 0))).map V.bl))) ⟨same_upd nD, upd_same⟩ ?_ ?_
      · rintro i H' hi ⟨s1, hD⟩
        obtain ⟨xs, b, g1, g2, g3⟩ := (hP.same s1).get (K := K) (i := i) (z := 0 + (i : Int)) (by omega) (by omega)
        obtain ⟨ys, c, g4, g5, g6⟩ := (hP.same s1).get (K := K) (i := i + 1) (z := 0 + (i : Int) + 1) (by omega) (by omega)
        refine ⟨rfl, _, rfl, _, rfl, a, xs, _, _, rfl, rfl, g1, g2, _, rfl, _, rfl, _, _, rfl, rfl, a, ys, _, _, rfl, rfl, g4, g5, b, c, [_, _], [_, _], rfl, rfl, SqT.of g3, SqT.of g6, _, hD, ?_, ?_⟩
        · rw [List.length_map, List.length_map, List.length_range]
          exact small1000 (by omega)
        · refine ⟨same_put s1 nD, ?_⟩
          rw [upd_same, List.range_succ, List.map_append, List.map_append, lexLt_pair]
          rfl
      · rintro H' ⟨s1, hD⟩
        refine ⟨D, _, rfl, SqL.of hD, ?_⟩
        rw [incr_is]
        exact q H' s1
end
end Pm
namespace Pm
open PySem PySem.Spec PyProof.Rows L2 PmM
/-- the rows of a list of lists that is being filled -/
structure RowsAt (H0 H : Hp) (l : Addr) (as : List Addr) (adj : List (List Nat)) : Prop where
  lst : H l = some (.lst (as.map V.ref))
  nd : as.Nodup
  len : as.length = adj.length
  ne : l ∉ as
  new : ∀ b ∈ as, H0 b = none
  at_ : ∀ (i : Nat) (b : Addr), as[i]? = some b → H b = some (.lst ((adj.getD i []).map vN))
theorem RowsAt.push {H0 H : Hp} {l b : Addr} {as : List Addr} {adj : List (List Nat)} {u x : Nat} (R : RowsAt H0 H l as adj) (hb : as[u]? = some b) :
    RowsAt H0 (upd H b (.lst ((adj.getD u []).map vN ++ [vN x]))) l as (adj.set u (adj.getD u [] ++ [x])) := by
  have mb : b ∈ as := List.mem_of_getElem? hb
  have hu : u < as.length := (List.getElem?_eq_some_iff.mp hb).1
  have lb : l ≠ b := fun z => R.ne (by rw [z]; exact mb)
  refine ⟨by rw [upd_ne lb]; exact R.lst, R.nd, by rw [List.length_set]; exact R.len, R.ne, R.new, fun i c hc => ?_⟩
  rw [getD_set]
  by_cases e : u = i
  · subst e
    have : b = c := Option.some.inj (hb.symm.trans hc)
    subst this
    rw [upd_same, if_pos ⟨rfl, by rw [← R.len]; exact hu⟩, List.map_append]
    rfl
  · have cb : c ≠ b := fun z => e (nd_ix R.nd hb (by rw [← z]; exact hc))
    rw [if_neg (fun z => e z.1), upd_ne cb]
    exact R.at_ i c hc
theorem RowsAt.same {H0 H H' : Hp} {l : Addr} {as : List Addr} {adj : List (List Nat)} (R : RowsAt H0 H l as adj) (s : Same H H') : RowsAt H0 H' l as adj :=
  ⟨s _ _ R.lst, R.nd, R.len, R.ne, R.new, fun i b e => s _ _ (R.at_ i b e)⟩
theorem RowsAt.nb {K : PySem.W.Frag} {H0 H : Hp} {l : Addr} {as : List Addr} {adj : List (List Nat)} (R : RowsAt H0 H l as adj) : NbAt K H l adj := ⟨as, SqL.of R.lst, R.len, fun i b e => SqL.of (R.at_ i b e)⟩
theorem RowsAt.ix {H0 H : Hp} {l : Addr} {as : List Addr} {adj : List (List Nat)} (R : RowsAt H0 H l as adj) {u : Nat} (hu : u < adj.length) : ∃ b, as[u]? = some b :=
  ⟨as[u]'(by rw [R.len]; exact hu), List.getElem?_eq_getElem _⟩
theorem pairs_keep {H : Hp} {p : Addr} {ps : List (Nat × Nat)} {b : Addr} {xs : List V} {o : HO} (h : PairsAt H p ps) (hp : p ≠ b) (hb : H b = some (.lst xs)) : PairsAt (upd H b o) p ps := by
  obtain ⟨as, h1, h2, h3⟩ := h
  exact ⟨as, by rw [upd_ne hp]; exact h1, h2, fun i c e => by rw [upd_ne (ne_of (h3 i c e) hb (by intro z; cases z))]; exact h3 i c e⟩
section
variable {P : Program} {w : World} {K : PySem.W.Frag} {mg : Str → Option Value} {base : Heap}
/-- what the top has of the graphs -/
structure TGraph (K : PySem.W.Frag) (mg : Str → Option Value) (fP fE fI fA fG fB : Addr) (fdP fdE fdI fdA fdG fdB : FuncData) (tM : Tok) : Prop where
  FP : Fun K "pairs_of" "pairs_of" sPairsOf fP fdP
  bP : Binds K fdP ["edges"] []
  gP : mg "pairs_of" = some (.ref fP)
  FE : Fun K "is_edge" "is_edge" sIsEdge fE fdE
  bE : Binds K fdE ["vertex_count", "one", "other"] []
  gE : mg "is_edge" = some (.ref fE)
  FI : Fun K "are_increasing" "are_increasing" sIncr fI fdI
  bI : Binds K fdI ["pairs"] []
  gI : mg "are_increasing" = some (.ref fI)
  FA : Fun K "are_edges" "are_edges" sAreEdges fA fdA
  bA : Binds K fdA ["vertex_count", "edges"] []
  gA : mg "are_edges" = some (.ref fA)
  FG : Fun K "is_graph" "is_graph" sIsGraph fG fdG
  bG : Binds K fdG ["vertex_count", "edges"] []
  gG : mg "is_graph" = some (.ref fG)
  FB : Fun K "neighbours_of" "neighbours_of" sNbOf fB fdB
  bB : Binds K fdB ["vertex_count", "edges"] []
  gB : mg "neighbours_of" = some (.ref fB)
  gM : mg "MOST_VERTICES" = some (.int 5 tM)
  mLen : mg "len" = none
  mRange : mg "range" = none
  mAll : mg "all" = none
variable {fP fE fI fA fG fB : Addr} {fdP fdE fdI fdA fdG fdB : FuncData} {tM : Tok}
theorem scAreEdges : FnScope ["vertex_count", "edges", "pairs", "one", "other"] ["vertex_count", "edges"] (defScope sAreEdges) := ⟨rfl, rfl, rfl, by decide +kernel, rfl, by decide +kernel, by decide +kernel⟩
def spAreEdges (K : PySem.W.Frag) : Sp := fun vs H Q _ => ∃ (n : Nat) (a : Addr) (es : List Nat), vs = [vN n, .ref a] ∧ SqL K H a (es.map vN) ∧ es.length ≤ 100 ∧ ∀ H', Same H H' → Q (.bl (areEdges n es)) H'
theorem ok_areEdges (T : TGraph K mg fP fE fI fA fG fB fdP fdE fdI fdA fdG fdB tM) : FnOk P w K mg base CX0 2 fA fdA ["vertex_count", "edges"] (spAreEdges K) := by
  have GP : FnOk P w K mg base CX0 1 fP fdP ["edges"] (spPairsOf K) := ok_pairsOf T.FP T.mLen T.mRange
  have GE : FnOk P w K mg base CX0 1 fE fdE ["vertex_count", "one", "other"] spIsEdge := ok_isEdge T.FE
  have GI : FnOk P w K mg base CX0 1 fI fdI ["pairs"] (spIncr K) := ok_incr T.FI T.mLen T.mRange T.mAll
  refine T.FA.ok scAreEdges (fun vs H Q E h => ?_) (fun cdv A outer s H vs Q E hr h => ?_)
  · obtain ⟨n, a, es, rfl, _⟩ := h
    rfl
  · obtain ⟨n, a, es, rfl, hE, hl, q⟩ := h
    refine ⟨_, pss_cons (ps_if (pt_cmpR op_eq (pe_op op_mod (pe_callB call_len_seq (by rfl) T.mLen PySem.boot_len (pa_cons (pv 1) pa_nil)) pe_int) pe_int (nomark _)) (pss_one (ps_ret pe_bl)) pss_nil)
      (pss_cons (ps_set (i := 2) scAreEdges.nd rfl (.inl rfl) (pe_call GP hr (by rfl) T.gP T.FP.kp T.bP .nil pass0 (pa_cons (pv 1) pa_nil)))
      (pss_cons (ps_for PassesOwn.never rfl (pi_list (pv 2)) (pg_tup rfl (pgs_cons (pg_name (i := 3) scAreEdges.nd rfl (.inl rfl)) (pgs_cons (pg_name (i := 4) scAreEdges.nd rfl (.inl rfl)) pgs_nil)))
        (pss_one (ps_if (pt_not (pt_val (pe_call GE hr (by rfl) T.gE T.FE.kp T.bE .nil pass0 (pa_cons (pv 0) (pa_cons (pv 3) (pa_cons (pv 4) pa_nil)))))) (pss_one (ps_ret pe_bl)) pss_nil)))
      (pss_one (ps_ret (pe_call GI hr (by rfl) T.gI T.FI.kp T.bI .nil pass0 (pa_cons (pv 2) pa_nil)))))), ?_⟩
    refine ⟨_, rfl, a, _, rfl, .inl hE, _, _, rfl, rfl, (by show (0 : Int) < 2; decide), rfl, _, rfl, ite2 (fun c => ?_) (fun c => ?_)⟩
    · have c' : es.length % 2 = 1 := by
        have := V.int.inj (of_decide_eq_true c)
        rw [List.length_map] at this
        omega
      have e : false = areEdges n es := by
        unfold areEdges
        rw [c']
        rfl
      show Q (.bl false) H
      rw [e]
      exact q H (Same.refl H)
    · have hev : es.length % 2 = 0 := by
        by_cases z : es.length % 2 = 0
        · exact z
        · refine absurd (decide_eq_true (congrArg V.int ?_)) c
          rw [List.length_map]
          omega
      have hpl : (pairsOf es).length ≤ 1000 := by
        rw [pairsOf_len]
        omega
      refine ⟨_, rfl, a, es, rfl, hE, by omega, hev, fun H1 p s1 np hP => ?_⟩
      obtain ⟨as, h1, h2, h3⟩ := id hP
      refine ⟨_, rfl, p, rfl, ⟨_, SqL.of h1⟩, for_list (K := K) (a := p) (xs := as.map V.ref) (fun i σ H' => ∃ v w : Option V, σ = [some (vN n), some (.ref a), some (.ref p), v, w] ∧ H' = H1 ∧ ((pairsOf es).take i).all (edgeOk n) = true)
        ⟨none, none, rfl, rfl, rfl⟩ (fun i σ H' _ ⟨_, _, _, e, _⟩ => e ▸ SqL.of h1) ?_ ?_⟩
      · rintro i y σ H' hi ⟨v, w, rfl, rfl, ha⟩
        obtain ⟨b, hb, rfl⟩ := map_get hi
        have hil : i < (pairsOf es).length := by
          rw [← h2]
          exact (List.getElem?_eq_some_iff.mp hb).1
        have hg : (pairsOf es)[i]? = some ((pairsOf es).getD i (0, 0)) := by
          rw [List.getD_eq_getElem?_getD, List.getElem?_eq_getElem hil]
          rfl
        have ht := h3 i b hb
        generalize (pairsOf es).getD i (0, 0) = pr at hg ht
        refine ⟨b, _, rfl, SqT.of ht, rfl, _, _, rfl, _, _, rfl, rfl, ?_⟩
        refine ⟨_, rfl, _, rfl, _, rfl, n, pr, rfl, _, rfl, ?_⟩
        cases c : edgeOk n pr
        · have e : false = areEdges n es := by
            unfold areEdges
            have : (pairsOf es).all (edgeOk n) = false := by
              rw [List.all_eq_false]
              exact ⟨pr, List.mem_of_getElem? hg, by rw [c]; decide⟩
            rw [this, Bool.and_false, Bool.false_and]
          show Q (.bl false) H'
          rw [e]
          exact q H' s1
        · exact ⟨_, _, rfl, rfl, by rw [take_snoc hg, List.all_append, ha]; simp [c]⟩
      · rintro σ H' ⟨v, w, rfl, rfl, ha⟩
        rw [List.length_map, h2, List.take_length] at ha
        refine ⟨_, rfl, p, pairsOf es, rfl, hP, hpl, fun H2 s2 => ?_⟩
        have e : incr (pairsOf es) = areEdges n es := by
          unfold areEdges
          rw [hev, ha]
          rfl
        rw [e]
        exact q H2 (s1.trans s2)
theorem scIsGraph : FnScope ["vertex_count", "edges"] ["vertex_count", "edges"] (defScope sIsGraph) := ⟨rfl, rfl, rfl, by decide +kernel, rfl, by decide +kernel, by decide +kernel⟩
def spIsGraph (K : PySem.W.Frag) : Sp := fun vs H Q _ => ∃ (n : Nat) (a : Addr) (es : List Nat), vs = [vN n, .ref a] ∧ SqL K H a (es.map vN) ∧ es.length ≤ 100 ∧ ∀ H', Same H H' → Q (.bl (isGraph n es)) H'
theorem ok_isGraph (T : TGraph K mg fP fE fI fA fG fB fdP fdE fdI fdA fdG fdB tM) : FnOk P w K mg base CX0 3 fG fdG ["vertex_count", "edges"] (spIsGraph K) := by
  have GA : FnOk P w K mg base CX0 2 fA fdA ["vertex_count", "edges"] (spAreEdges K) := ok_areEdges T
  refine T.FG.ok scIsGraph (fun vs H Q E h => ?_) (fun cdv A outer s H vs Q E hr h => ?_)
  · obtain ⟨n, a, es, rfl, _⟩ := h
    rfl
  · obtain ⟨n, a, es, rfl, hE, hl, q⟩ := h
    refine ⟨_, pss_cons (ps_if (PW.pt (pw_or (pt_cmpR op_lt (pv 0) pe_int (nomark _)) (pw_or1 (pt_cmpR op_gt (pv 0) (pe_glob (v := .int 5) rfl T.gM ⟨_, rfl⟩) (nomark _))))) (pss_one (ps_ret pe_bl)) pss_nil)
      (pss_one (ps_ret (pe_call GA hr (by rfl) T.gA T.FA.kp T.bA .nil pass0 (pa_cons (pv 0) (pa_cons (pv 1) pa_nil))))), ?_⟩
    have no : ¬ (1 ≤ n ∧ n ≤ 5) → Q (.bl false) H := fun z => by
      have e : false = isGraph n es := by
        unfold isGraph
        by_cases z1 : 1 ≤ n
        · rw [decide_eq_false (show ¬ n ≤ 5 from fun z2 => z ⟨z1, z2⟩), Bool.and_false, Bool.false_and]
        · rw [decide_eq_false z1, Bool.false_and, Bool.false_and]
      rw [e]
      exact q H (Same.refl H)
    refine ⟨_, rfl, _, _, rfl, rfl, _, rfl, ite2 (fun c => ?_) (fun c => ?_)⟩
    · exact iteT (no fun z => by have := of_decide_eq_true c; omega)
    · refine ⟨_, rfl, _, _, rfl, rfl, _, rfl, ite2 (fun c2 => ?_) (fun c2 => ?_)⟩
      · exact no fun z => by have := of_decide_eq_true c2; omega
      · refine ⟨_, rfl, _, rfl, n, a, es, rfl, hE, hl, fun H1 s1 => ?_⟩
        have z1 : 1 ≤ n := by
          by_cases z : 1 ≤ n
          · exact z
          · exact absurd (decide_eq_true (by omega)) c
        have z2 : n ≤ 5 := by
          by_cases z : n ≤ 5
          · exact z
          · exact absurd (decide_eq_true (by omega)) c2
        have e : areEdges n es = isGraph n es := by
          unfold isGraph
          rw [decide_eq_true z1, decide_eq_true z2, Bool.true_and, Bool.true_and]
        rw [e]
        exact q H1 s1
theorem scNbOf : FnScope ["vertex_count", "edges", "found", "one", "other", "vertex"] ["vertex_count", "edges"] (defScope sNbOf) := ⟨rfl, rfl, rfl, by decide +kernel, rfl, by decide +kernel, by decide +kernel⟩
def spNbOf (K : PySem.W.Frag) : Sp := fun vs H Q _ => ∃ (n : Nat) (a : Addr) (es : List Nat), vs = [vN n, .ref a] ∧ SqL K H a (es.map vN) ∧ es.length ≤ 100 ∧ isGraph n es = true ∧
  ∀ H' p, Same H H' → H p = none → NbAt K H' p (nbOf n es) → Q (.ref p) H'
theorem ok_nbOf (T : TGraph K mg fP fE fI fA fG fB fdP fdE fdI fdA fdG fdB tM) : FnOk P w K mg base CX0 2 fB fdB ["vertex_count", "edges"] (spNbOf K) := by
  have GP : FnOk P w K mg base CX0 1 fP fdP ["edges"] (spPairsOf K) := ok_pairsOf T.FP T.mLen T.mRange
  refine T.FB.ok scNbOf (fun vs H Q E h => ?_) (fun cdv A outer s H vs Q E hr h => ?_)
  · obtain ⟨n, a, es, rfl, _⟩ := h
    rfl
  · obtain ⟨n, a, es, rfl, hE, hl, hg, q⟩ := h
    refine ⟨_, pss_cons (ps_setLc (i := 2) (own := [("vertex", 5)]) (g := gName 5) (tt := tYes) (te := tLst tNil) rfl scNbOf.nd rfl rfl (sw_true rfl rfl rfl (by decide +kernel)) (pi_range1 rfl T.mRange (pa_cons (pv 0) pa_nil))
        (blkOk_by (N := ["vertex_count", "edges", "found", "one", "other", "vertex"]) (sc := defScope sNbOf) (by decide +kernel)) (fun _ _ _ _ _ => pg_name (i := 5) scNbOf.nd rfl (Or.inl rfl)) (fun _ _ _ _ _ => pts_nil) (fun _ _ _ _ _ => pe_lst pa_nil))
      (pss_cons (ps_for PassesOwn.never rfl (pi_list (pe_call GP hr (by rfl) T.gP T.FP.kp T.bP .nil pass0 (pa_cons (pv 1) pa_nil)))
        (pg_tup rfl (pgs_cons (pg_name (i := 3) scNbOf.nd rfl (.inl rfl)) (pgs_cons (pg_name (i := 4) scNbOf.nd rfl (.inl rfl)) pgs_nil)))
        (pss_cons (ps_expr (pe_bm PySem.F.plainAttrs_list PySem.F.slot_list_append PySem.F.type_list_append mt_append (pe_ix ix_list (pv 2) (pv 3) (fun _ _ => rfl)) (pa_cons (pv 4) pa_nil)))
        (pss_one (ps_expr (pe_bm PySem.F.plainAttrs_list PySem.F.slot_list_append PySem.F.type_list_append mt_append (pe_ix ix_list (pv 2) (pv 4) (fun _ _ => rfl)) (pa_cons (pv 3) pa_nil))))))
      (pss_one (ps_ret (pv 2)))), ?_⟩
    have hn5 : n ≤ 5 := by
      simp only [isGraph, Bool.and_eq_true, decide_eq_true_eq] at hg
      exact hg.1.2
    have hev : es.length % 2 = 0 := by
      simp only [isGraph, areEdges, Bool.and_eq_true, beq_iff_eq] at hg
      exact hg.2.1.1
    have hpr := isGraph_pairs hg
    refine ⟨_, rfl, _, rfl, by omega, by omega, fun D nD => ?_⟩
    rw [Int.toNat_natCast]
    refine lc_range (lo := 0) (n := n) (fun i H' => Same H H' ∧ ∃ as : List Addr, RowsAt H H' D as (List.replicate i [])) ⟨same_upd nD, [], upd_same, List.nodup_nil, rfl, by simp, by simp, fun j b e => by simp at e⟩ ?_ ?_
    · rintro i H' hi ⟨s1, as, R⟩
      refine ⟨rfl, Nat.zero_le _, fun t nt => ?_⟩
      have nDt : D ≠ t := ne_of_none R.lst nt
      have hlen : as.length = i := by
        rw [R.len, List.length_replicate]
      have tn : t ∉ as := fun z => by
        obtain ⟨j, hj, e⟩ := List.mem_iff_getElem.mp z
        have := R.at_ j t (by rw [List.getElem?_eq_getElem hj, e])
        rw [nt] at this
        cases this
      refine ⟨as.map V.ref, by rw [upd_ne nDt]; exact R.lst, by rw [List.length_map]; exact small1000 (by omega), same_put (same_put s1 (s1.free nt)) nD, as ++ [t], ?_⟩
      refine ⟨by rw [upd_same, List.map_append]; rfl, ?_, by rw [List.length_append, hlen, List.length_replicate]; rfl, ?_, ?_, fun j b e => ?_⟩
      · rw [List.nodup_append]
        exact ⟨R.nd, by simp, fun x hx y hy e => tn (by rw [List.mem_singleton.mp hy] at e; exact e ▸ hx)⟩
      · intro z
        rcases List.mem_append.mp z with z | z
        · exact R.ne z
        · exact nDt (List.mem_singleton.mp z)
      · intro b hb
        rcases List.mem_append.mp hb with z | z
        · exact R.new b z
        · rw [List.mem_singleton.mp z]
          exact s1.free nt
      · have rep : ∀ (m j : Nat), (List.replicate m ([] : List Nat)).getD j [] = [] := replicate_getD
        rw [rep]
        by_cases c : j < as.length
        · rw [List.getElem?_append_left c] at e
          have hb := R.at_ j b e
          rw [rep] at hb
          have nbD : b ≠ D := fun z => R.ne (by rw [← z]; exact List.mem_of_getElem? e)
          rw [upd_ne nbD, upd_ne (ne_of_none hb nt)]
          exact hb
        · rw [List.getElem?_append_right (by omega)] at e
          have mt : b ∈ [t] := List.mem_of_getElem? e
          rw [List.mem_singleton.mp mt, upd_ne nDt.symm, upd_same]
          rfl
    · rintro H1 ⟨s1, as, R⟩
      -- for one, other in pairs_of(edges)
      refine ⟨_, rfl, a, es, rfl, s1.seq hE, by omega, hev, fun H2 p s2 np hP => ?_⟩
      obtain ⟨qs, g1, g2, g3⟩ := id hP
      have R2 := R.same s2
      have pn : ∀ b ∈ as, p ≠ b := fun b hb z => by
        obtain ⟨j, hj, e⟩ := List.mem_iff_getElem.mp hb
        have := R.at_ j b (by rw [List.getElem?_eq_getElem hj, e])
        rw [← z, np] at this
        cases this
      refine ⟨p, rfl, ⟨_, SqL.of g1⟩, for_list (K := K) (a := p) (xs := qs.map V.ref) (fun i σ H' => ∃ v w : Option V, σ = [some (vN n), some (.ref a), some (.ref D), v, w, none] ∧ Same H H' ∧ PairsAt H' p (pairsOf es) ∧ H' p = some (.lst (qs.map V.ref)) ∧
          (∀ (i : Nat) (b : Addr), qs[i]? = some b → H' b = some (.tup (prV ((pairsOf es).getD i (0, 0))))) ∧ RowsAt H H' D as (((pairsOf es).take i).foldl addEdge (List.replicate n [])))
        ⟨none, none, rfl, s1.trans s2, hP, g1, g3, R2⟩ (fun i σ H' _ ⟨_, _, _, _, _, e, _⟩ => SqL.of e) ?_ ?_⟩
      · rintro i y σ H' hi ⟨v, w, rfl, s3, hP', e1, e3, R3⟩
        obtain ⟨b, hb, rfl⟩ := map_get hi
        have hil : i < (pairsOf es).length := by
          rw [← g2]
          exact (List.getElem?_eq_some_iff.mp hb).1
        have hgt : (pairsOf es)[i]? = some ((pairsOf es).getD i (0, 0)) := by
          rw [List.getD_eq_getElem?_getD, List.getElem?_eq_getElem hil]
          rfl
        have ht := e3 i b hb
        have hpi := hpr _ (List.mem_of_getElem? hgt)
        generalize (pairsOf es).getD i (0, 0) = pr at hgt ht hpi
        have rowl := fun j => foldl_row ((pairsOf es).take i) (List.replicate n []) j
        have ilen : ((pairsOf es).take i).length ≤ 100 := by
          rw [List.length_take, pairsOf_len]
          omega
        have al : (((pairsOf es).take i).foldl addEdge (List.replicate n [])).length = n := by rw [foldl_alen, List.length_replicate]
        rw [take_snoc hgt, List.foldl_append]
        show _
        generalize ((pairsOf es).take i).foldl addEdge (List.replicate n []) = adj at R3 rowl al
        have small : ∀ j, (adj.getD j []).length ≤ 200 := fun j => by
          have := rowl j
          rw [replicate_getD] at this
          simp only [List.length_nil] at this
          omega
        obtain ⟨b1, hb1⟩ := R3.ix (u := pr.1) (by omega)
        have R4 := R3.push (x := pr.2) hb1
        obtain ⟨b2, hb2⟩ := R4.ix (u := pr.2) (by rw [List.length_set]; omega)
        have R5 := R4.push (x := pr.1) hb2
        have at1 : atI (as.map V.ref) (pr.1 : Int) = some (.ref b1) := atI_nat (by rw [List.getElem?_map, hb1]; rfl)
        have at2 : atI (as.map V.ref) (pr.2 : Int) = some (.ref b2) := atI_nat (by rw [List.getElem?_map, hb2]; rfl)
        have m1 : b1 ∈ as := List.mem_of_getElem? hb1
        have m2 : b2 ∈ as := List.mem_of_getElem? hb2
        have k1 := R3.at_ _ _ hb1
        have k2 := R4.at_ _ _ hb2
        refine ⟨b, _, rfl, SqT.of ht, rfl, _, _, rfl, _, _, rfl, rfl, ?_⟩
        refine ⟨_, rfl, _, rfl, D, _, _, _, rfl, rfl, SqL.of R3.lst, at1, .inl ⟨rfl, _, SqL.of k1⟩, _, rfl, b1, _, _, rfl, rfl, k1, by rw [List.length_map]; exact small1000 (by have := small pr.1; omega), ?_⟩
        refine ⟨_, rfl, _, rfl, D, _, _, _, rfl, rfl, SqL.of R4.lst, at2, .inl ⟨rfl, _, SqL.of k2⟩, _, rfl, b2, _, _, rfl, rfl, k2, ?_, ?_⟩
        · rw [List.length_map, getD_set]
          split
          · rw [List.length_append]
            exact small1000 (by have := small pr.1; simp only [List.length_cons, List.length_nil]; omega)
          · exact small1000 (by have := small pr.2; omega)
        · have t1 : ∀ (j : Nat) (c : Addr), qs[j]? = some c → c ≠ b1 := fun j c e => ne_of (e3 j c e) k1 (by intro z; cases z)
          have t2 : ∀ (j : Nat) (c : Addr), qs[j]? = some c → c ≠ b2 := fun j c e => by
            have : (upd H' b1 (.lst ((adj.getD pr.1 []).map vN ++ [vN pr.2]))) c = some (.tup (prV ((pairsOf es).getD j (0, 0)))) := by
              rw [upd_ne (t1 j c e)]
              exact e3 j c e
            exact ne_of this k2 (by intro z; cases z)
          refine ⟨_, _, rfl, same_put (same_put s3 (R.new b1 m1)) (R.new b2 m2), pairs_keep (pairs_keep hP' (pn b1 m1) k1) (pn b2 m2) k2, ?_, ?_, R5⟩
          · rw [upd_ne (pn b2 m2), upd_ne (pn b1 m1)]
            exact e1
          · intro j c e
            rw [upd_ne (t2 j c e), upd_ne (t1 j c e)]
            exact e3 j c e
      · rintro σ H' ⟨v, w, rfl, s3, hP', e1, e3, R3⟩
        rw [List.length_map, g2, List.take_length] at R3
        exact ⟨_, rfl, q H' D s3 nD R3.nb⟩
end
end Pm
namespace Pm
open PySem PySem.Spec PyProof.Rows L2 PmM
theorem adjOk_nb {n : Nat} {es : List Nat} (h : isGraph n es = true) (hl : es.length ≤ 100) : AdjOk (nbOf n es) := by
  have A := nbOf_adj h
  have hn : n ≤ 5 := by
    simp only [isGraph, Bool.and_eq_true, decide_eq_true_eq] at h
    exact h.1.2
  refine ⟨by rw [nbOf_len]; omega, fun v o ho => (A.lt v o ho).2, fun v => ?_⟩
  have := nbOf_row n es v
  omega
/-- a def of the top: where it stands, how it is called -/
structure Def (K : PySem.W.Frag) (mg : Str → Option Value) (x : Str) (st : Stmt) (ps : List Str) (f : Addr) (fd : FuncData) : Prop where
  F : Fun K x x st f fd
  b : Binds K fd ps []
  g : mg x = some (.ref f)
section
variable {P : Program} {w : World} {K : PySem.W.Frag} {mg : Str → Option Value} {base : Heap}
variable {fP fE fI fA fG fB : Addr} {fdP fdE fdI fdA fdG fdB : FuncData} {tM : Tok}
variable {fN fS fW fD : Addr} {fdN fdS fdW fdD : FuncData} {tU : Tok}
theorem scRefConn : FnScope ["vertex_count", "edges"] ["vertex_count", "edges"] (defScope sRefConn) := ⟨rfl, rfl, rfl, by decide +kernel, rfl, by decide +kernel, by decide +kernel⟩
def spRefConn (K : PySem.W.Frag) : Sp := fun vs H Q _ => ∃ (n : Nat) (a : Addr) (es : List Nat), vs = [vN n, .ref a] ∧ SqL K H a (es.map vN) ∧ es.length ≤ 100 ∧ ∀ H', Same H H' → Q (.int (refConn n es)) H'
theorem ok_refConn {f fC : Addr} {fd fdC : FuncData} {t0 t1 t2 : Tok} (F : Fun K "refusal_of_connection" "refusal_of_connection" sRefConn f fd) (T : TGraph K mg fP fE fI fA fG fB fdP fdE fdI fdA fdG fdB tM) (D : TDist K mg fN fS fW fD fdN fdS fdW fdD tU)
    (C : Def K mg "is_connected" sIsConn ["neighbours"] fC fdC) (gNone : mg "NONE" = some (.int 0 t0)) (gOut : mg "OUTSIDE" = some (.int (-22) t1)) (gAbs : mg "ABSENT" = some (.int (-33) t2)) :
    FnOk P w K mg base CX0 5 f fd ["vertex_count", "edges"] (spRefConn K) := by
  have GG : FnOk P w K mg base CX0 3 fG fdG ["vertex_count", "edges"] (spIsGraph K) := ok_isGraph T
  have GB : FnOk P w K mg base CX0 2 fB fdB ["vertex_count", "edges"] (spNbOf K) := ok_nbOf T
  have GC : FnOk P w K mg base CX0 4 fC fdC ["neighbours"] (spIsConn K) := ok_isConn C.F D
  refine F.ok scRefConn (fun vs H Q E h => ?_) (fun cdv A outer s H vs Q E hr h => ?_)
  · obtain ⟨n, a, es, rfl, _⟩ := h
    rfl
  · obtain ⟨n, a, es, rfl, hE, hl, q⟩ := h
    have hr3 : Room 3 _ := hr.mono (by decide)
    have hr2 : Room 2 _ := hr.mono (by decide)
    refine ⟨_, pss_cons (ps_if (pt_not (pt_val (pe_call GG hr3 (by rfl) T.gG T.FG.kp T.bG .nil pass0 (pa_cons (pv 0) (pa_cons (pv 1) pa_nil))))) (pss_one (ps_ret (pe_glob (v := .int (-22)) rfl gOut ⟨_, rfl⟩))) pss_nil)
      (pss_cons (ps_if (pt_not (pt_val (pe_call GC hr (by rfl) C.g C.F.kp C.b .nil pass0 (pa_cons (pe_call GB hr2 (by rfl) T.gB T.FB.kp T.bB .nil pass0 (pa_cons (pv 0) (pa_cons (pv 1) pa_nil))) pa_nil)))) (pss_one (ps_ret (pe_glob (v := .int (-33)) rfl gAbs ⟨_, rfl⟩))) pss_nil)
      (pss_one (ps_ret (pe_glob (v := .int 0) rfl gNone ⟨_, rfl⟩)))), ?_⟩
    refine ⟨_, rfl, _, rfl, n, a, es, rfl, hE, hl, fun H1 s1 => ⟨_, rfl, ?_⟩⟩
    cases c : isGraph n es
    · have e : (-22 : Int) = refConn n es := by
        unfold refConn
        rw [c, if_neg (by decide)]
      show Q (.int (-22)) H1
      rw [e]
      exact q H1 s1
    · refine ⟨_, rfl, _, rfl, n, a, es, rfl, s1.seq hE, hl, c, fun H2 p s2 np hN => ?_⟩
      refine ⟨p, nbOf n es, rfl, hN, adjOk_nb c hl, fun H3 s3 => ⟨_, rfl, ?_⟩⟩
      have s13 := s1.trans (s2.trans s3)
      cases d : isConn (nbOf n es)
      · have e : (-33 : Int) = refConn n es := by
          unfold refConn
          rw [c, d, if_pos rfl, if_neg (by decide)]
        show Q (.int (-33)) H3
        rw [e]
        exact q H3 s13
      · have e : (0 : Int) = refConn n es := by
          unfold refConn
          rw [c, d, if_pos rfl, if_pos rfl]
        show Q (.int 0) H3
        rw [e]
        exact q H3 s13
end
end Pm
namespace Pm
open PySem PySem.Spec PyProof.Rows L2 PmM
section
variable {P : Program} {w : World} {K : PySem.W.Frag} {mg : Str → Option Value} {base : Heap}
variable {fP fE fI fA fG fB : Addr} {fdP fdE fdI fdA fdG fdB : FuncData} {tM : Tok}
variable {fN fS fW fD : Addr} {fdN fdS fdW fdD : FuncData} {tU : Tok}
/-- what the top has of the checks -/
structure TCheck (K : PySem.W.Frag) (mg : Str → Option Value) (fC fR fL fH : Addr) (fdC fdR fdL fdH : FuncData) (t0 t1 t2 t3 t4 : Tok) : Prop where
  C : Def K mg "is_connected" sIsConn ["neighbours"] fC fdC
  R : Def K mg "refusal_of_connection" sRefConn ["vertex_count", "edges"] fR fdR
  L : Def K mg "greatest_distance" sGreatest ["neighbours"] fL fdL
  H : Def K mg "refusal_of_graph" sRefGraph ["vertex_count", "edges"] fH fdH
  gNone : mg "NONE" = some (.int 0 t0)
  gOut : mg "OUTSIDE" = some (.int (-22) t1)
  gAbs : mg "ABSENT" = some (.int (-33) t2)
  gWide : mg "TOO_WIDE" = some (.int (-75) t3)
  gMost : mg "MOST_DIAMETER" = some (.int 3 t4)
variable {fC fR fL fH : Addr} {fdC fdR fdL fdH : FuncData} {t0 t1 t2 t3 t4 : Tok}
theorem scRefGraph : FnScope ["vertex_count", "edges", "refusal"] ["vertex_count", "edges"] (defScope sRefGraph) := ⟨rfl, rfl, rfl, by decide +kernel, rfl, by decide +kernel, by decide +kernel⟩
def spRefGraph (K : PySem.W.Frag) : Sp := fun vs H Q _ => ∃ (n : Nat) (a : Addr) (es : List Nat), vs = [vN n, .ref a] ∧ SqL K H a (es.map vN) ∧ es.length ≤ 100 ∧ ∀ H', Same H H' → Q (.int (refGraph n es)) H'
theorem ok_refGraph (T : TGraph K mg fP fE fI fA fG fB fdP fdE fdI fdA fdG fdB tM) (D : TDist K mg fN fS fW fD fdN fdS fdW fdD tU) (Z : TCheck K mg fC fR fL fH fdC fdR fdL fdH t0 t1 t2 t3 t4) :
    FnOk P w K mg base CX0 6 fH fdH ["vertex_count", "edges"] (spRefGraph K) := by
  have GR : FnOk P w K mg base CX0 5 fR fdR ["vertex_count", "edges"] (spRefConn K) := ok_refConn Z.R.F T D Z.C Z.gNone Z.gOut Z.gAbs
  have GB : FnOk P w K mg base CX0 2 fB fdB ["vertex_count", "edges"] (spNbOf K) := ok_nbOf T
  have GL : FnOk P w K mg base CX0 4 fL fdL ["neighbours"] (spGreatest K) := ok_greatest Z.L.F D
  refine Z.H.F.ok scRefGraph (fun vs H Q E h => ?_) (fun cdv A outer s H vs Q E hr h => ?_)
  · obtain ⟨n, a, es, rfl, _⟩ := h
    rfl
  · obtain ⟨n, a, es, rfl, hE, hl, q⟩ := h
    have hr4 : Room 4 _ := hr.mono (by decide)
    have hr2 : Room 2 _ := hr.mono (by decide)
    refine ⟨_, pss_cons (ps_set (i := 2) scRefGraph.nd rfl (.inl rfl) (pe_call GR hr (by rfl) Z.R.g Z.R.F.kp Z.R.b .nil pass0 (pa_cons (pv 0) (pa_cons (pv 1) pa_nil))))
      (pss_cons (ps_if (pt_cmpR op_ne (pv 2) (pe_glob (v := .int 0) rfl Z.gNone ⟨_, rfl⟩) (nomark _)) (pss_one (ps_ret (pv 2))) pss_nil)
      (pss_cons (ps_if (pt_cmpR op_gt (pe_call GL hr4 (by rfl) Z.L.g Z.L.F.kp Z.L.b .nil pass0 (pa_cons (pe_call GB hr2 (by rfl) T.gB T.FB.kp T.bB .nil pass0 (pa_cons (pv 0) (pa_cons (pv 1) pa_nil))) pa_nil)) (pe_glob (v := .int 3) rfl Z.gMost ⟨_, rfl⟩) (nomark _))
          (pss_one (ps_ret (pe_glob (v := .int (-75)) rfl Z.gWide ⟨_, rfl⟩))) pss_nil)
      (pss_one (ps_ret (pe_glob (v := .int 0) rfl Z.gNone ⟨_, rfl⟩))))), ?_⟩
    refine ⟨_, rfl, _, rfl, n, a, es, rfl, hE, hl, fun H1 s1 => ?_⟩
    refine ⟨_, rfl, rfl, _, rfl, ?_⟩
    rw [vint_eq]
    by_cases c : refConn n es = 0
    · rw [c]
      have c' := refConn_graph c
      refine ⟨_, rfl, _, rfl, n, a, es, rfl, s1.seq hE, hl, c', fun H2 p s2 np hN => ?_⟩
      refine ⟨p, nbOf n es, rfl, hN, adjOk_nb c' hl, fun H3 s3 => ?_⟩
      have s13 := s1.trans (s2.trans s3)
      refine ⟨_, _, rfl, rfl, _, rfl, ite2 (fun d => ?_) (fun d => ?_)⟩
      · have e : (-75 : Int) = refGraph n es := by
          unfold refGraph
          rw [if_pos c, if_pos (of_decide_eq_true d)]
        show Q (.int (-75)) H3
        rw [e]
        exact q H3 s13
      · have e : (0 : Int) = refGraph n es := by
          unfold refGraph
          rw [if_pos c, if_neg (fun z => d (decide_eq_true z))]
        show Q (.int 0) H3
        rw [e]
        exact q H3 s13
    · rw [beq_eq_false_iff_ne.mpr c]
      refine ⟨_, rfl, ?_⟩
      have e : refConn n es = refGraph n es := by
        unfold refGraph
        rw [if_neg c]
      show Q (.int (refConn n es)) H1
      rw [e]
      exact q H1 s1
end
end Pm
namespace Pm
open PySem PySem.Spec PyProof.Rows L2 PmM
/-! ### lists of objects that stand for data -/
def Ls {α : Type} (R : Hp → Addr → α → Prop) (H : Hp) (a : Addr) (xs : List α) : Prop := ∃ as : List Addr, H a = some (.lst (as.map V.ref)) ∧ Paired (R H) as xs
theorem paired_get {α β : Type} {F : α → β → Prop} : ∀ {as : List α} {xs : List β} {i : Nat} {a : α}, Paired F as xs → as[i]? = some a → ∃ x, xs[i]? = some x ∧ F a x
  | _, _, _, _, .nil, e => by simp at e
  | _, _, 0, _, .cons h _, e => by
    have := Option.some.inj e
    subst this
    exact ⟨_, rfl, h⟩
  | _, _, i + 1, _, .cons _ t, e => paired_get (i := i) t e
theorem paired_get2 {α β : Type} {F : α → β → Prop} : ∀ {as : List α} {xs : List β} {i : Nat} {x : β}, Paired F as xs → xs[i]? = some x → ∃ a, as[i]? = some a ∧ F a x
  | _, _, _, _, .nil, e => by simp at e
  | _, _, 0, _, .cons h _, e => by
    have := Option.some.inj e
    subst this
    exact ⟨_, rfl, h⟩
  | _, _, i + 1, _, .cons _ t, e => paired_get2 (i := i) t e
/-- a configuration -/
def CfgAt (H : Hp) (a : Addr) (c : List Nat) : Prop := H a = some (.tup (c.map vN))
/-- a configuration of the first vertices, and what is left -/
def PartAt (H : Hp) (a : Addr) (f : List Nat × Nat) : Prop := ∃ c, H a = some (.tup [.ref c, vN f.2]) ∧ CfgAt H c f.1
theorem CfgAt.same {H H' : Hp} {a : Addr} {c : List Nat} (s : Same H H') (h : CfgAt H a c) : CfgAt H' a c := s _ _ h
theorem PartAt.same {H H' : Hp} {a : Addr} {f : List Nat × Nat} (s : Same H H') (h : PartAt H a f) : PartAt H' a f := by
  obtain ⟨c, h1, h2⟩ := h
  exact ⟨c, s _ _ h1, h2.same s⟩
theorem cfgs_same {H H' : Hp} {a : Addr} {cs : List (List Nat)} (s : Same H H') (h : Ls CfgAt H a cs) : Ls CfgAt H' a cs := by
  obtain ⟨as, h1, h2⟩ := h
  exact ⟨as, s _ _ h1, Paired.mapP h2 fun _ _ z => z.same s⟩
theorem parts_same {H H' : Hp} {a : Addr} {fs : List (List Nat × Nat)} (s : Same H H') (h : Ls PartAt H a fs) : Ls PartAt H' a fs := by
  obtain ⟨as, h1, h2⟩ := h
  exact ⟨as, s _ _ h1, Paired.mapP h2 fun _ _ z => z.same s⟩
/-- a write to a list leaves the tuples -/
theorem CfgAt.put {H : Hp} {a l : Addr} {c : List Nat} {xs : List V} {o : HO} (hl : H l = some (.lst xs)) (h : CfgAt H a c) : CfgAt (upd H l o) a c := by
  unfold CfgAt at h ⊢
  rw [upd_ne (ne_of h hl (by intro z; cases z))]
  exact h
theorem PartAt.put {H : Hp} {a l : Addr} {f : List Nat × Nat} {xs : List V} {o : HO} (hl : H l = some (.lst xs)) (h : PartAt H a f) : PartAt (upd H l o) a f := by
  obtain ⟨c, h1, h2⟩ := h
  exact ⟨c, by rw [upd_ne (ne_of h1 hl (by intro z; cases z))]; exact h1, h2.put hl⟩
theorem parts_snoc {H : Hp} {l b : Addr} {fs : List (List Nat × Nat)} {f : List Nat × Nat} {as : List Addr} (h1 : H l = some (.lst (as.map V.ref))) (h2 : Paired (PartAt H) as fs) (hb : PartAt H b f) :
    Ls PartAt (upd H l (.lst (as.map V.ref ++ [.ref b]))) l (fs ++ [f]) :=
  ⟨as ++ [b], by rw [upd_same, List.map_append]; rfl, Paired.snoc (Paired.mapP h2 fun _ _ z => z.put h1) (hb.put h1)⟩
theorem cfgs_snoc {H : Hp} {l b : Addr} {cs : List (List Nat)} {c : List Nat} {as : List Addr} (h1 : H l = some (.lst (as.map V.ref))) (h2 : Paired (CfgAt H) as cs) (hb : CfgAt H b c) :
    Ls CfgAt (upd H l (.lst (as.map V.ref ++ [.ref b]))) l (cs ++ [c]) :=
  ⟨as ++ [b], by rw [upd_same, List.map_append]; rfl, Paired.snoc (Paired.mapP h2 fun _ _ z => z.put h1) (hb.put h1)⟩
/-- t + (x,): what both ways of the rule give -/
theorem cat_one {K : PySem.W.Frag} {H : Hp} {Q : VK} {c : Addr} {xs : List Nat} {h : Nat} (hc : CfgAt H c xs) (hl : xs.length ≤ 1000)
    (k : ∀ (H' : Hp) (d : Addr), Same H H' → H' d = some (.tup ((xs ++ [h]).map vN)) → Q (.ref d) H') :
    ∀ t, H t = none → rCatA K (.ref c) (.ref t) (upd H t (.tup [vN h])) Q := fun t nt => by
  have s1 : Same H (upd H t (.tup [vN h])) := same_upd nt
  refine ⟨c, t, xs.map vN, [vN h], rfl, rfl, SqT.of (s1 _ _ hc), SqT.of upd_same, ?_, fun e => ?_, fun _ e => (by cases e), fun _ _ p np => ?_⟩
  · rw [List.length_map]
    exact Nat.le_of_lt (small1000' (by show xs.length + 1 ≤ 1001; omega))
  · refine k _ t s1 ?_
    have e' : xs = [] := List.map_eq_nil_iff.mp e
    rw [upd_same, e']
    rfl
  · refine k _ p (s1.trans (same_upd np)) ?_
    rw [upd_same, List.map_append]
    rfl
section
variable {P : Program} {w : World} {K : PySem.W.Frag} {mg : Str → Option Value} {base : Heap}
theorem scLonger : FnScope ["found", "later", "configuration", "left", "here"] ["found"] (defScope sLonger) := ⟨rfl, rfl, rfl, by decide +kernel, rfl, by decide +kernel, by decide +kernel⟩
def spLonger (K : PySem.W.Frag) : Sp := fun vs H Q _ => ∃ (a : Addr) (fs : List (List Nat × Nat)), vs = [.ref a] ∧ Ls PartAt H a fs ∧ (∀ f ∈ fs, f.1.length ≤ 1000 ∧ f.2 ≤ 1000) ∧ (longerOnes fs).length ≤ 1000000 ∧
  ∀ H' p, Same H H' → H p = none → Ls PartAt H' p (longerOnes fs) → Q (.ref p) H'
theorem ok_longer {f : Addr} {fd : FuncData} {k : Nat} (F : Fun K "longer_ones" "longer_ones" sLonger f fd) (mRange : mg "range" = none) : FnOk P w K mg base CX0 (k + 1) f fd ["found"] (spLonger K) := by
  refine F.ok scLonger (fun vs H Q E h => ?_) (fun cdv A outer s H vs Q E hr h => ?_)
  · obtain ⟨a, fs, rfl, _⟩ := h
    rfl
  · obtain ⟨a, fs, rfl, hF, hb, hl, q⟩ := h
    refine ⟨_, pss_cons (ps_set (i := 1) scLonger.nd rfl (.inl rfl) (pe_lst pa_nil))
      (pss_cons (ps_for PassesOwn.never rfl (pi_list (pv 0)) (pg_tup rfl (pgs_cons (pg_name (i := 2) scLonger.nd rfl (.inl rfl)) (pgs_cons (pg_name (i := 3) scLonger.nd rfl (.inl rfl)) pgs_nil)))
        (pss_one (ps_for PassesOwn.never rfl (pi_range1 rfl mRange (pa_cons (pe_op op_add (pv 3) pe_int) pa_nil)) (pg_name (i := 4) scLonger.nd rfl (.inl rfl))
          (pss_one (ps_expr (pe_bm PySem.F.plainAttrs_list PySem.F.slot_list_append PySem.F.type_list_append mt_append (pv 1)
            (pa_cons (pe_tup (pa_cons (pe_op op_catA (pv 2) (pe_tup (pa_cons (pv 4) pa_nil))) (pa_cons (pe_op op_sub (pv 3) (pv 4)) pa_nil))) pa_nil)))))))
      (pss_one (ps_ret (pv 1)))), ?_⟩
    refine ⟨Nat.zero_le _, fun l nl => ?_⟩
    have s1 : Same H (upd H l (.lst [])) := same_upd nl
    obtain ⟨as, h1, h2⟩ := id hF
    have la : as.length = fs.length := Paired.length h2
    refine ⟨_, rfl, a, rfl, ⟨_, SqL.of (s1 _ _ h1)⟩, for_list (K := K) (a := a) (xs := as.map V.ref) (fun i σ H' => ∃ u v w : Option V, σ = [some (.ref a), some (.ref l), u, v, w] ∧ Same H H' ∧ Ls PartAt H' l (longerOnes (fs.take i)))
      ⟨none, none, none, rfl, s1, [], upd_same, .nil⟩ (fun i σ H' _ ⟨_, _, _, _, s, _⟩ => SqL.of (s _ _ h1)) ?_ ?_⟩
    · rintro i y σ H' hi ⟨u, v, w, rfl, s2, hL⟩
      obtain ⟨b, hb', rfl⟩ := map_get hi
      obtain ⟨⟨c0, left⟩, hf, cc, e1, e2⟩ := paired_get h2 hb'
      obtain ⟨b1, b2⟩ := hb _ (List.mem_of_getElem? hf)
      refine ⟨b, _, rfl, SqT.of (s2 _ _ e1), rfl, _, _, rfl, _, _, rfl, rfl, ?_⟩
      refine ⟨_, rfl, _, _, rfl, rfl, _, rfl, ?_, ?_, ?_⟩
      · have : (left : Int) ≤ 1000 := by exact_mod_cast b2
        show -(2 ^ 62) ≤ (left : Int) + 1
        omega
      · have : (left : Int) ≤ 1000 := by exact_mod_cast b2
        show (left : Int) + 1 < 2 ^ 62
        omega
      · rw [show ((left : Int) + 1).toNat = left + 1 by omega]
        refine for_range (lo := 0) (n := left + 1) (fun j σ H' => ∃ w : Option V, σ = [some (.ref a), some (.ref l), some (.ref cc), some (vN left), w] ∧ Same H H' ∧ Ls PartAt H' l (longerOnes (fs.take i) ++ (longerOne (c0, left)).take j))
          ⟨_, rfl, s2, by rw [List.take_zero, List.append_nil]; exact hL⟩ ?_ ?_
        · rintro j σ H2 hj ⟨w, rfl, s3, as2, g1, g2⟩
          have ej : (0 : Int) + (j : Int) = (j : Int) := Int.zero_add _
          refine ⟨_, rfl, .inl ⟨rfl, _, SqL.of g1⟩, _, rfl, _, rfl, by show 1 ≤ sizeLine; decide, fun t nt => ?_⟩
          rw [ej]
          refine cat_one (K := K) (h := j) (e2.same s3) b1 (fun H3 d s4 hd => ?_) t nt
          refine ⟨_, rfl, _, rfl, _, _, rfl, rfl, by show 2 ≤ sizeLine; decide, fun x nx => ?_⟩
          have s5 := s4.trans (same_upd (o := .tup [.ref d, .int ((left : Int) - (j : Int))]) nx)
          have g1' := s5 _ _ g1
          have g2' := Paired.mapP g2 fun _ _ z => PartAt.same s5 z
          refine ⟨l, as2.map V.ref, .ref x, rfl, rfl, g1', ?_, ?_⟩
          · rw [List.length_map, Paired.length g2]
            exact Nat.lt_of_le_of_lt (Nat.le_trans (longerOnes_take hf (by omega)) hl) (by decide)
          · refine ⟨_, rfl, same_put (s3.trans s5) nl, ?_⟩
            have nx' : d ≠ x := ne_of_none hd nx
            have pt : PartAt (upd H3 x (.tup [.ref d, .int ((left : Int) - (j : Int))])) x (c0 ++ [j], left - j) := by
              refine ⟨d, ?_, ?_⟩
              · rw [upd_same]
                show some (HO.tup [.ref d, .int ((left : Int) - (j : Int))]) = some (.tup [.ref d, .int ((left - j : Nat) : Int)])
                rw [Int.ofNat_sub (by omega)]
              · unfold CfgAt
                rw [upd_ne nx']
                exact hd
            have ex : (longerOne (c0, left))[j]? = some (c0 ++ [j], left - j) := by
              unfold longerOne
              rw [List.getElem?_map, List.getElem?_range hj]
              rfl
            rw [take_snoc ex, ← List.append_assoc]
            exact parts_snoc g1' g2' pt
        · rintro σ H2 ⟨w, rfl, s3, hL2⟩
          rw [List.take_of_length_le (l := longerOne (c0, left)) (by rw [longerOne_len]; exact Nat.le_refl _)] at hL2
          refine ⟨_, _, _, rfl, s3, ?_⟩
          have : longerOnes (fs.take (i + 1)) = longerOnes (fs.take i) ++ longerOne (c0, left) := by
            rw [take_snoc hf]
            unfold longerOnes
            rw [List.flatMap_append]
            simp
          rw [this]
          exact hL2
    · rintro σ H' ⟨u, v, w, rfl, s2, hL⟩
      rw [List.length_map, la, List.take_length] at hL
      exact ⟨_, rfl, q H' l s2 nl hL⟩
end
end Pm
namespace Pm
open PySem PySem.Spec PyProof.Rows L2 PmM
section
variable {X : Cx}
/-- the item of a list, read for an operator's own store -/
def rGetL (K : PySem.W.Frag) : V → V → Hp → VK → Prop := fun o i H Q => ∃ p xs k j v, o = .ref p ∧ i = .int k ∧ SqL K H p xs ∧ k = ((j : Nat) : Int) ∧ xs[j]? = some v ∧ Q v H
theorem get_list : PGet X (rGetL X.K) := by
  intro pins s σ H o i ov iv Q I ro ri h
  obtain ⟨p, xs, k, j, v, rfl, rfl, hq, hk, he, q⟩ := h
  cases ro
  obtain ⟨t, rfl⟩ := ri
  obtain ⟨its, r, pl, hz⟩ := I.list hq
  obtain ⟨w, ew, rw'⟩ := r.get he
  have hl := r.length
  have hn := line63
  have hj : j < xs.length := (List.getElem?_eq_some_iff.mp he).1
  have ek : k.toNat = j := by omega
  exact wpAny_getItem_list pl.isList (by omega) (by omega) (by rw [ek]; simpa using ew) ⟨v, H, I, rw', q⟩
end
theorem set_nat {c : List Nat} {i x : Nat} : (c.map vN).set i (vN x) = (c.set i x).map vN := by rw [List.map_set]
theorem ixN_nat {n i : Nat} (h : i < n) : ixN n (i : Int) = some i := by
  unfold ixN
  rw [if_pos (by omega), if_pos (by omega)]
  simp
theorem get_nat {c : List Nat} {i : Nat} (h : i < c.length) : (c.map vN)[i]? = some (vN (c.getD i 0)) := by
  rw [List.getElem?_map, List.getElem?_eq_getElem h, List.getD_eq_getElem?_getD, List.getElem?_eq_getElem h]
  rfl
section
variable {P : Program} {w : World} {K : PySem.W.Frag} {mg : Str → Option Value} {base : Heap}
theorem scConfigs : FnScope ["vertex_count", "pebbles", "found", "vertex", "configuration", "left"] ["vertex_count", "pebbles"] (defScope sConfigs) := ⟨rfl, rfl, rfl, by decide +kernel, rfl, by decide +kernel, by decide +kernel⟩
def spConfigs (K : PySem.W.Frag) : Sp := fun vs H Q _ => ∃ (n p : Nat), vs = [vN n, vN p] ∧ 1 ≤ n ∧ n ≤ 5 ∧ p ≤ 30 ∧ ∀ H' q, Same H H' → H q = none → Ls CfgAt H' q (configs n p) → Q (.ref q) H'
theorem ok_configs {f fL : Addr} {fd fdL : FuncData} (F : Fun K "configurations" "configurations" sConfigs f fd) (L : Def K mg "longer_ones" sLonger ["found"] fL fdL) (mRange : mg "range" = none) : FnOk P w K mg base CX0 2 f fd ["vertex_count", "pebbles"] (spConfigs K) := by
  have GL : FnOk P w K mg base CX0 1 fL fdL ["found"] (spLonger K) := ok_longer L.F mRange
  refine F.ok scConfigs (fun vs H Q E h => ?_) (fun cdv A outer s H vs Q E hr h => ?_)
  · obtain ⟨n, p, rfl, _⟩ := h
    rfl
  · obtain ⟨n, p, rfl, hn1, hn5, hp, q⟩ := h
    refine ⟨_, pss_cons (ps_set (i := 2) scConfigs.nd rfl (.inl rfl) (pe_lst (pa_cons (pe_tup (pa_cons (pe_tup pa_nil) (pa_cons (pv 1) pa_nil))) pa_nil)))
      (pss_cons (ps_for PassesOwn.never rfl (pi_range1 rfl mRange (pa_cons (pe_op op_sub (pv 0) pe_int) pa_nil)) (pg_name (i := 3) scConfigs.nd rfl (.inl rfl))
        (pss_one (ps_set (i := 2) scConfigs.nd rfl (.inl rfl) (pe_call GL hr (by rfl) L.g L.F.kp L.b .nil pass0 (pa_cons (pv 2) pa_nil)))))
      (pss_one (ps_ret (pe_lc (own := [("configuration", 4), ("left", 5)]) (g := gTup K 2 (gCons (gName 4) (gCons (gName 5) gNil))) (tt := tYes) (te := tOp (rCatA K) (tVar 4) (tTup (tCons (tVar 5) tNil))) rfl scConfigs.nd (pi_list (pv 2))
        (blkOk_by (N := ["vertex_count", "pebbles", "found", "vertex", "configuration", "left"]) (sc := defScope sConfigs) (by decide +kernel))
        (fun _ _ _ _ _ => pg_tup rfl (pgs_cons (pg_name (i := 4) scConfigs.nd rfl (Or.inl rfl)) (pgs_cons (pg_name (i := 5) scConfigs.nd rfl (Or.inl rfl)) pgs_nil))) (fun _ _ _ _ _ => pts_nil)
        (fun _ _ _ _ _ => pe_op op_catA (pv 4) (pe_tup (pa_cons (pv 5) pa_nil))))))), ?_⟩
    refine ⟨Nat.zero_le _, fun c0 nc => ⟨_, rfl, by show 2 ≤ sizeLine; decide, fun t nt => ⟨by show 1 ≤ sizeLine; decide, fun l nl => ?_⟩⟩⟩
    have s1 : Same H (upd (upd (upd H c0 (.tup [])) t (.tup [.ref c0, vN p])) l (.lst [.ref t])) := ((same_upd nc).trans (same_upd nt)).trans (same_upd nl)
    have d1 : c0 ≠ t := ne_of_none (H := upd H c0 (.tup [])) upd_same nt
    have d2 : t ≠ l := ne_of_none (H := upd (upd H c0 (.tup [])) t (.tup [.ref c0, vN p])) upd_same nl
    have d3 : c0 ≠ l := ne_of_none (H := upd (upd H c0 (.tup [])) t (.tup [.ref c0, vN p])) (by rw [upd_ne d1]; exact upd_same) nl
    have n0 : H l = none := ((same_upd nc).trans (same_upd nt)).free nl
    have L0 : Ls PartAt (upd (upd (upd H c0 (.tup [])) t (.tup [.ref c0, vN p])) l (.lst [.ref t])) l (partials 0 p) :=
      ⟨[t], upd_same, .cons ⟨c0, by rw [upd_ne d2, upd_same], by unfold CfgAt; rw [upd_ne d3, upd_ne d1, upd_same]; rfl⟩ .nil⟩
    refine ⟨_, rfl, _, _, rfl, rfl, _, rfl, ?_, ?_, ?_⟩
    · show -(2 ^ 62) ≤ (n : Int) - 1
      omega
    · show (n : Int) - 1 < 2 ^ 62
      omega
    · rw [show ((n : Int) - 1).toNat = n - 1 by omega]
      refine for_range (lo := 0) (n := n - 1) (fun i σ H' => ∃ (v : Option V) (l : Addr), σ = [some (vN n), some (vN p), some (.ref l), v, none, none] ∧ Same H H' ∧ Ls PartAt H' l (partials i p)) ⟨none, l, rfl, s1, L0⟩ ?_ ?_
      · rintro i σ H' hi ⟨v, l, rfl, s2, hL⟩
        have ok := partials_ok p i
        refine ⟨_, rfl, l, partials i p, rfl, hL, fun f hf => ?_, ?_, fun H2 m s3 nm hM => ⟨_, m, rfl, s2.trans s3, hM⟩⟩
        · obtain ⟨h1, h2⟩ := ok.one f hf
          omega
        · exact Nat.le_trans ok.next.len (pow_small hp (by omega))
      · rintro σ H' ⟨v, l, rfl, s2, hL⟩
        obtain ⟨as, h1, h2⟩ := id hL
        have ok := partials_ok p (n - 1)
        refine ⟨_, rfl, l, rfl, ⟨_, SqL.of h1⟩, fun D nD => ?_⟩
        refine lc_list (K := K) (a := l) (xs := as.map V.ref) (fun i H2 => Same H' H2 ∧ Ls CfgAt H2 D (((partials (n - 1) p).take i).map fun f => f.1 ++ [f.2])) ⟨same_upd nD, [], upd_same, .nil⟩ (fun i H2 _ h => SqL.of (h.1 _ _ h1)) ?_ ?_
        · rintro i y H2 hi ⟨s3, bs, g1, g2⟩
          obtain ⟨b, hb, rfl⟩ := map_get hi
          obtain ⟨⟨c, left⟩, hf, cc, e1, e2⟩ := paired_get h2 hb
          obtain ⟨b1, b2⟩ := ok.one _ (List.mem_of_getElem? hf)
          refine ⟨b, _, rfl, SqT.of (s3 _ _ e1), rfl, _, _, rfl, _, _, rfl, rfl, rfl, _, rfl, _, rfl, by show 1 ≤ sizeLine; decide, fun t nt => ?_⟩
          refine cat_one (K := K) (h := left) (e2.same s3) (by show c.length ≤ 1000; rw [b1]; omega) (fun H3 d s4 hd => ?_) t nt
          have g1' := s4 _ _ g1
          refine ⟨bs.map V.ref, g1', ?_, same_put (s3.trans s4) nD, ?_⟩
          · rw [List.length_map, Paired.length g2, List.length_map, List.length_take]
            exact Nat.lt_of_le_of_lt (Nat.le_trans (Nat.min_le_right _ _) (Nat.le_trans ok.len (pow_small hp (by omega)))) (by decide)
          · rw [take_snoc hf, List.map_append]
            exact cfgs_snoc g1' (Paired.mapP g2 fun _ _ z => CfgAt.same s4 z) hd
        · rintro H2 ⟨s3, hC⟩
          rw [List.length_map, Paired.length h2, List.take_length] at hC
          exact q H2 D (s2.trans s3) (s2.free nD) hC
theorem scAfter : FnScope ["configuration", "start", "goal", "found"] ["configuration", "start", "goal"] (defScope sAfter) := ⟨rfl, rfl, rfl, by decide +kernel, rfl, by decide +kernel, by decide +kernel⟩
def spAfter (K : PySem.W.Frag) : Sp := fun vs H Q _ => ∃ (a : Addr) (c : List Nat) (s g : Nat), vs = [.ref a, vN s, vN g] ∧ CfgAt H a c ∧ s < c.length ∧ g < c.length ∧ 2 ≤ c.getD s 0 ∧
  ∀ H' q, Same H H' → H q = none → CfgAt H' q (afterMove c s g) → Q (.ref q) H'
theorem ok_after {f : Addr} {fd : FuncData} {k : Nat} (F : Fun K "after_move" "after_move" sAfter f fd) (mList : mg "list" = none) (mTuple : mg "tuple" = none) : FnOk P w K mg base CX0 (k + 1) f fd ["configuration", "start", "goal"] (spAfter K) := by
  refine F.ok scAfter (fun vs H Q E h => ?_) (fun cdv A outer s H vs Q E hr h => ?_)
  · obtain ⟨a, c, s, g, rfl, _⟩ := h
    rfl
  · obtain ⟨a, c, s, g, rfl, hC, hs, hg, h2, q⟩ := h
    refine ⟨_, pss_cons (ps_set (i := 3) scAfter.nd rfl (.inl rfl) (pe_callTy call_list_of (by rfl) mList (by decide +kernel) (pa_cons (pv 0) pa_nil)))
      (pss_cons (ps_augS (pv 3) (pv 1) get_list pe_int ip_sub set_list)
      (pss_cons (ps_augS (pv 3) (pv 2) get_list pe_int ip_add set_list)
      (pss_one (ps_ret (pe_callTy call_tuple_of (by rfl) mTuple (by decide +kernel) (pa_cons (pv 3) pa_nil)))))), ?_⟩
    refine ⟨_, rfl, a, c.map vN, rfl, .inr (SqT.of hC), fun l nl => ?_⟩
    have e1 : (vN (c.getD s 0 - 2)) = V.int ((c.getD s 0 : Int) - 2) := by
      show V.int ((c.getD s 0 - 2 : Nat) : Int) = _
      rw [Int.ofNat_sub h2]
      rfl
    refine ⟨_, rfl, _, rfl, l, _, _, s, _, rfl, rfl, SqL.of upd_same, rfl, get_nat hs, _, _, rfl, rfl, l, _, _, s, rfl, rfl, upd_same, ixN_nat (by rw [List.length_map]; exact hs), ?_⟩
    rw [upd_upd, ← e1, set_nat]
    have hg' : g < (c.set s (c.getD s 0 - 2)).length := by rw [List.length_set]; exact hg
    refine ⟨_, rfl, _, rfl, l, _, _, g, _, rfl, rfl, SqL.of upd_same, rfl, get_nat hg', _, _, rfl, rfl, l, _, _, g, rfl, rfl, upd_same, ixN_nat (by rw [List.length_map]; exact hg'), ?_⟩
    rw [upd_upd]
    have e2 : ((c.set s (c.getD s 0 - 2)).map vN).set g (V.int (((c.set s (c.getD s 0 - 2)).getD g 0 : Int) + 1)) = (afterMove c s g).map vN := by
      show ((c.set s (c.getD s 0 - 2)).map vN).set g (vN ((c.set s (c.getD s 0 - 2)).getD g 0 + 1)) = _
      rw [set_nat]
      rfl
    refine ⟨_, rfl, l, _, rfl, .inl ⟨SqL.of upd_same, fun t nt => ?_⟩⟩
    refine q _ t ((same_upd nl).trans (same_upd nt)) ((same_upd nl).free nt) ?_
    unfold CfgAt
    rw [upd_same]
    show some (HO.tup (((c.set s (c.getD s 0 - 2)).map vN).set g (V.int (((c.set s (c.getD s 0 - 2)).getD g 0 : Int) + 1)))) = _
    rw [e2]
end
end Pm
namespace Pm
open PySem PySem.Spec PyProof.Rows L2 PmM
/-! ### a dict of configurations -/
abbrev KyC (c : List Nat) : List Key := c.map fun n : Nat => (Sum.inl (n : Int) : Key)
theorem kyc_val (c : List Nat) : (KyC c).map kV = c.map vN := by
  rw [List.map_map]
  rfl
theorem kyc_inj {c d : List Nat} (h : KyC c = KyC d) : c = d := by
  have : ∀ x y : Nat, (Sum.inl (x : Int) : Key) = Sum.inl (y : Int) → x = y := fun x y e => by
    have := Sum.inl.inj e
    omega
  exact (List.map_inj_right this).mp h
/-- the dict at d has just these keys -/
def FewAt (H : Hp) (d : Addr) (cs : List (List Nat)) : Prop := ∃ kvs : List (List Key × V), H d = some (.dT kvs) ∧ ∀ c : List Nat, (valV kvs (KyC c)).isSome = cs.contains c
theorem FewAt.same {H H' : Hp} {d : Addr} {cs : List (List Nat)} (s : Same H H') (h : FewAt H d cs) : FewAt H' d cs := by
  obtain ⟨kvs, h1, h2⟩ := h
  exact ⟨kvs, s _ _ h1, h2⟩
theorem valV_put {kvs : List (List Key × V)} {k k' : List Key} {v : V} : (valV (putK kvs k v) k').isSome = ((valV kvs k').isSome || decide (k = k')) := by
  have hv : ∀ (l : List (List Key × V)) (k : List Key), (valV l k).isSome = l.any fun kv => decide (kv.1 = k) := fun l k => by
    unfold valV
    rw [Option.isSome_map, Bool.eq_iff_iff, List.find?_isSome, List.any_eq_true]
  rw [hv, hv]
  unfold putK
  split
  · rename_i h
    rw [List.any_map]
    have e : ((fun kv : List Key × V => decide (kv.1 = k')) ∘ fun kv => if kv.1 = k then (kv.1, v) else kv) = fun kv : List Key × V => decide (kv.1 = k') := by
      funext kv
      show decide ((if kv.1 = k then (kv.1, v) else kv).1 = k') = decide (kv.1 = k')
      split <;> rfl
    rw [e]
    by_cases c : k = k'
    · subst c
      rw [h]
      rfl
    · rw [decide_eq_false c, Bool.or_false]
  · rw [List.any_append]
    simp
theorem putK_len {kvs : List (List Key × V)} {k : List Key} {v : V} : (putK kvs k v).length ≤ kvs.length + 1 := by
  unfold putK
  split
  · rw [List.length_map]
    omega
  · rw [List.length_append]
    exact Nat.le_refl _
section
variable {P : Program} {w : World} {K : PySem.W.Frag} {mg : Str → Option Value} {base : Heap}
/-- what the top has of the solving -/
structure TSolve (K : PySem.W.Frag) (mg : Str → Option Value) (fL fF fA fS fU fX : Addr) (fdL fdF fdA fdS fdU fdX : FuncData) : Prop where
  L : Def K mg "longer_ones" sLonger ["found"] fL fdL
  F : Def K mg "configurations" sConfigs ["vertex_count", "pebbles"] fF fdF
  A : Def K mg "after_move" sAfter ["configuration", "start", "goal"] fA fdA
  S : Def K mg "do_moves_stay" sStay ["neighbours", "configuration", "start", "fewer"] fS fdS
  U : Def K mg "is_unsolvable" sIsUns ["neighbours", "target", "configuration", "fewer"] fU fdU
  X : Def K mg "next_unsolvable" sNextUns ["neighbours", "target", "pebbles", "before"] fX fdX
  mLen : mg "len" = none
  mRange : mg "range" = none
  mAll : mg "all" = none
  mList : mg "list" = none
  mTuple : mg "tuple" = none
variable {fL fF fA fS fU fX : Addr} {fdL fdF fdA fdS fdU fdX : FuncData}
theorem scStay : FnScope ["neighbours", "configuration", "start", "fewer", "goal"] ["neighbours", "configuration", "start", "fewer"] (defScope sStay) := ⟨rfl, rfl, rfl, by decide +kernel, rfl, by decide +kernel, by decide +kernel⟩
def spStay (K : PySem.W.Frag) : Sp := fun vs H Q _ => ∃ (a b d : Addr) (adj : List (List Nat)) (c : List Nat) (s : Nat) (cs : List (List Nat)), vs = [.ref a, .ref b, vN s, .ref d] ∧ NbAt K H a adj ∧ CfgAt H b c ∧ FewAt H d cs ∧
  AdjOk adj ∧ c.length = adj.length ∧ s < adj.length ∧ ∀ H', Same H H' → Q (.bl (stays adj cs c s)) H'
theorem ok_stay (T : TSolve K mg fL fF fA fS fU fX fdL fdF fdA fdS fdU fdX) : FnOk P w K mg base CX0 2 fS fdS ["neighbours", "configuration", "start", "fewer"] (spStay K) := by
  have GA : FnOk P w K mg base CX0 1 fA fdA ["configuration", "start", "goal"] (spAfter K) := ok_after T.A.F T.mList T.mTuple
  refine T.S.F.ok scStay (fun vs H Q E h => ?_) (fun cdv A outer s0 H vs Q E hr h => ?_)
  · obtain ⟨a, b, d, adj, c, s, cs, rfl, _⟩ := h
    rfl
  · obtain ⟨a, b, d, adj, c, s, cs, rfl, hN, hC, hF, hA, hcl, hs, q⟩ := h
    have hsc : s < c.length := by omega
    refine ⟨_, pss_cons (ps_if (pt_cmpR op_lt (pe_ix ix_tup (pv 1) (pv 2) (fun _ _ => rfl)) pe_int (nomark _)) (pss_one (ps_ret pe_bl)) pss_nil)
      (pss_one (ps_ret (pe_callB (cr_all rfl) (by rfl) T.mAll (by decide +kernel) (pa_cons (pe_lc (own := [("goal", 4)]) (g := gName 4) (tt := tYes)
        (te := tDIn (tCall (spAfter K) [] E0 (tCons (tVar 1) (tCons (tVar 2) (tCons (tVar 4) tNil)))) (tVar 3)) rfl scStay.nd (pi_list (pe_ix ix_list (pv 0) (pv 2) (fun _ _ => rfl)))
        (blkOk_by (N := ["neighbours", "configuration", "start", "fewer", "goal"]) (sc := defScope sStay) (by decide +kernel)) (fun _ _ _ _ _ => pg_name (i := 4) scStay.nd rfl (Or.inl rfl)) (fun _ _ _ _ _ => pts_nil)
        (fun _ _ _ _ _ => pe_cmp (pc_din (hu_of hr) (pe_call GA hr (by rfl) T.A.g T.A.F.kp T.A.b .nil pass0 (pa_cons (pv 1) (pa_cons (pv 2) (pa_cons (pv 4) pa_nil)))) (pv 3)) rfl)) pa_nil)))), ?_⟩
    refine ⟨_, rfl, _, rfl, b, _, _, _, rfl, rfl, SqT.of hC, at_nat rfl hsc, _, _, rfl, rfl, _, rfl, ite2 (fun e => ?_) (fun e => ?_)⟩
    · have e' : c.getD s 0 < 2 := by
        have := of_decide_eq_true e
        omega
      have r : true = stays adj cs c s := by
        unfold stays
        rw [decide_eq_true e', Bool.true_or]
      show Q (.bl true) H
      rw [r]
      exact q H (Same.refl H)
    · have e' : 2 ≤ c.getD s 0 := by
        by_cases z : 2 ≤ c.getD s 0
        · exact z
        · exact absurd (decide_eq_true (by omega)) e
      obtain ⟨xs, r, h1, h2, h3, h4⟩ := hN.row hs
      have hrow := hA.row s
      refine ⟨_, rfl, _, rfl, a, xs, _, _, rfl, rfl, h1, h3, r, rfl, ⟨_, h4⟩, fun D nD => ?_⟩
      refine lc_list (K := K) (a := r) (xs := (adj.getD s []).map vN) (fun i H' => Same H H' ∧ H' D = some (.lst (((adj.getD s []).take i).map fun g => V.bl (cs.contains (afterMove c s g))))) ⟨same_upd nD, upd_same⟩ (fun i H' _ h => h.1.seq h4) ?_ ?_
      · rintro i y H' hi ⟨s1, hD⟩
        obtain ⟨g, hg, rfl⟩ := map_get hi
        have hgl : g < c.length := by
          rw [hcl]
          exact hA.lt s g (List.mem_of_getElem? hg)
        refine ⟨rfl, _, rfl, _, rfl, _, rfl, b, c, s, g, rfl, hC.same s1, hsc, hgl, e', fun H2 p s2 np hp => ?_⟩
        obtain ⟨kvs, k1, k2⟩ := hF.same (s1.trans s2)
        refine ⟨_, rfl, d, _, rfl, DGet.t k1 (by rw [kyc_val]; exact hp), _, s2 _ _ hD, ?_, same_put (s1.trans s2) nD, ?_⟩
        · rw [List.length_map, List.length_take]
          exact Nat.lt_of_le_of_lt (Nat.min_le_right _ _) (small1000 hrow)
        · rw [upd_same, k2, take_snoc hg, List.map_append]
          rfl
      · rintro H' ⟨s1, hD⟩
        rw [List.length_map, List.take_length] at hD
        refine ⟨D, (adj.getD s []).map fun g => cs.contains (afterMove c s g), rfl, SqL.of (by rw [hD, List.map_map]; rfl), ?_⟩
        have r : ((adj.getD s []).map fun g => cs.contains (afterMove c s g)).all id = stays adj cs c s := by
          unfold stays
          rw [decide_eq_false (by omega), Bool.false_or, List.all_map]
          rfl
        rw [r]
        exact q H' s1
theorem scIsUns : FnScope ["neighbours", "target", "configuration", "fewer", "start"] ["neighbours", "target", "configuration", "fewer"] (defScope sIsUns) := ⟨rfl, rfl, rfl, by decide +kernel, rfl, by decide +kernel, by decide +kernel⟩
def spIsUns (K : PySem.W.Frag) : Sp := fun vs H Q _ => ∃ (a b d : Addr) (adj : List (List Nat)) (t : Nat) (c : List Nat) (cs : List (List Nat)), vs = [.ref a, vN t, .ref b, .ref d] ∧ NbAt K H a adj ∧ CfgAt H b c ∧ FewAt H d cs ∧
  AdjOk adj ∧ c.length = adj.length ∧ t < adj.length ∧ ∀ H', Same H H' → Q (.bl (isUns adj t cs c)) H'
theorem ok_isUns (T : TSolve K mg fL fF fA fS fU fX fdL fdF fdA fdS fdU fdX) : FnOk P w K mg base CX0 3 fU fdU ["neighbours", "target", "configuration", "fewer"] (spIsUns K) := by
  have GS : FnOk P w K mg base CX0 2 fS fdS ["neighbours", "configuration", "start", "fewer"] (spStay K) := ok_stay T
  refine T.U.F.ok scIsUns (fun vs H Q E h => ?_) (fun cdv A outer s0 H vs Q E hr h => ?_)
  · obtain ⟨a, b, d, adj, t, c, cs, rfl, _⟩ := h
    rfl
  · obtain ⟨a, b, d, adj, t, c, cs, rfl, hN, hC, hF, hA, hcl, ht, q⟩ := h
    have htc : t < c.length := by omega
    refine ⟨_, pss_cons (ps_if (pt_cmpR op_gt (pe_ix ix_tup (pv 2) (pv 1) (fun _ _ => rfl)) pe_int (nomark _)) (pss_one (ps_ret pe_bl)) pss_nil)
      (pss_one (ps_ret (pe_callB (cr_all rfl) (by rfl) T.mAll (by decide +kernel) (pa_cons (pe_lc (own := [("start", 4)]) (g := gName 4) (tt := tYes)
        (te := tCall (spStay K) [] E0 (tCons (tVar 0) (tCons (tVar 2) (tCons (tVar 4) (tCons (tVar 3) tNil))))) rfl scIsUns.nd (pi_range1 rfl T.mRange (pa_cons (pe_callB call_len_seq (by rfl) T.mLen PySem.boot_len (pa_cons (pv 0) pa_nil)) pa_nil))
        (blkOk_by (N := ["neighbours", "target", "configuration", "fewer", "start"]) (sc := defScope sIsUns) (by decide +kernel)) (fun _ _ _ _ _ => pg_name (i := 4) scIsUns.nd rfl (Or.inl rfl)) (fun _ _ _ _ _ => pts_nil)
        (fun _ _ _ _ _ => pe_call GS hr (by rfl) T.S.g T.S.F.kp T.S.b .nil pass0 (pa_cons (pv 0) (pa_cons (pv 2) (pa_cons (pv 4) (pa_cons (pv 3) pa_nil)))))) pa_nil)))), ?_⟩
    refine ⟨_, rfl, _, rfl, b, _, _, _, rfl, rfl, SqT.of hC, at_nat rfl htc, _, _, rfl, rfl, _, rfl, ite2 (fun e => ?_) (fun e => ?_)⟩
    · have e' : 0 < c.getD t 0 := by
        have := of_decide_eq_true e
        omega
      have r : false = isUns adj t cs c := by
        unfold isUns
        rw [decide_eq_true e']
        rfl
      show Q (.bl false) H
      rw [r]
      exact q H (Same.refl H)
    · have e' : ¬ 0 < c.getD t 0 := fun z => e (decide_eq_true (by omega))
      obtain ⟨as, h1, h2, h3⟩ := id hN
      have hlen := hA.len
      refine ⟨_, rfl, a, as.map V.ref, rfl, .inl h1, _, rfl, ?_, ?_, fun D nD => ?_⟩
      · rw [List.length_map, h2]
        omega
      · rw [List.length_map, h2]
        omega
      · rw [List.length_map, h2, Int.toNat_natCast]
        refine lc_range (lo := 0) (n := adj.length) (fun i H' => Same H H' ∧ H' D = some (.lst ((List.range i).map fun s => V.bl (stays adj cs c s)))) ⟨same_upd nD, upd_same⟩ ?_ ?_
        · rintro i H' hi ⟨s1, hD⟩
          refine ⟨rfl, _, rfl, _, rfl, _, rfl, _, rfl, a, b, d, adj, c, i, cs, by rw [Int.zero_add]; rfl, hN.same s1, hC.same s1, hF.same s1, hA, hcl, hi, fun H2 s2 => ?_⟩
          refine ⟨_, s2 _ _ hD, ?_, same_put (s1.trans s2) nD, ?_⟩
          · rw [List.length_map, List.length_range]
            exact small1000 (by omega)
          · rw [upd_same, List.range_succ, List.map_append]
            rfl
        · rintro H' ⟨s1, hD⟩
          refine ⟨D, (List.range adj.length).map fun s => stays adj cs c s, rfl, SqL.of (by rw [hD, List.map_map]; rfl), ?_⟩
          have r : ((List.range adj.length).map fun s => stays adj cs c s).all id = isUns adj t cs c := by
            unfold isUns
            rw [decide_eq_false e', Bool.not_false, Bool.true_and, List.all_map]
            rfl
          rw [r]
          exact q H' s1
theorem scNextUns : FnScope ["neighbours", "target", "pebbles", "before", "fewer", "configuration", "found"] ["neighbours", "target", "pebbles", "before"] (defScope sNextUns) := ⟨rfl, rfl, rfl, by decide +kernel, rfl, by decide +kernel, by decide +kernel⟩
def spNextUns (K : PySem.W.Frag) : Sp := fun vs H Q _ => ∃ (a b : Addr) (adj : List (List Nat)) (t p : Nat) (cs : List (List Nat)), vs = [.ref a, vN t, vN p, .ref b] ∧ NbAt K H a adj ∧ Ls CfgAt H b cs ∧
  AdjOk adj ∧ 1 ≤ adj.length ∧ adj.length ≤ 5 ∧ t < adj.length ∧ p ≤ 30 ∧ cs.length ≤ 1000000 ∧ ∀ H' q, Same H H' → H q = none → Ls CfgAt H' q (nextUns adj t p cs) → Q (.ref q) H'
theorem ok_nextUns (T : TSolve K mg fL fF fA fS fU fX fdL fdF fdA fdS fdU fdX) : FnOk P w K mg base CX0 4 fX fdX ["neighbours", "target", "pebbles", "before"] (spNextUns K) := by
  have GU : FnOk P w K mg base CX0 3 fU fdU ["neighbours", "target", "configuration", "fewer"] (spIsUns K) := ok_isUns T
  have GF : FnOk P w K mg base CX0 2 fF fdF ["vertex_count", "pebbles"] (spConfigs K) := ok_configs T.F.F T.L T.mRange
  refine T.X.F.ok scNextUns (fun vs H Q E h => ?_) (fun cdv A outer s0 H vs Q E hr h => ?_)
  · obtain ⟨a, b, adj, t, p, cs, rfl, _⟩ := h
    rfl
  · obtain ⟨a, b, adj, t, p, cs, rfl, hN, hB, hA, hn1, hn5, ht, hp, hcl, q⟩ := h
    have hr2 : Room 2 _ := hr.mono (by decide)
    refine ⟨_, pss_cons (ps_set (i := 4) scNextUns.nd rfl (.inl rfl) pe_dnewT)
      (pss_cons (ps_for PassesOwn.never rfl (pi_list (pv 3)) (pg_name (i := 5) scNextUns.nd rfl (.inl rfl)) (pss_one (ps_dput (hu_of hr) (pv 4) (pv 5) pe_bl rfl)))
      (pss_cons (ps_set (i := 6) scNextUns.nd rfl (.inl rfl) (pe_lst pa_nil))
      (pss_cons (ps_for PassesOwn.never rfl (pi_list (pe_call GF hr2 (by rfl) T.F.g T.F.F.kp T.F.b .nil pass0 (pa_cons (pe_callB call_len_seq (by rfl) T.mLen PySem.boot_len (pa_cons (pv 0) pa_nil)) (pa_cons (pv 2) pa_nil)))) (pg_name (i := 5) scNextUns.nd rfl (.inl rfl))
        (pss_one (ps_if (pt_val (pe_call GU hr (by rfl) T.U.g T.U.F.kp T.U.b .nil pass0 (pa_cons (pv 0) (pa_cons (pv 1) (pa_cons (pv 5) (pa_cons (pv 4) pa_nil))))))
          (pss_one (ps_expr (pe_bm PySem.F.plainAttrs_list PySem.F.slot_list_append PySem.F.type_list_append mt_append (pv 6) (pa_cons (pv 5) pa_nil)))) pss_nil)))
      (pss_one (ps_ret (pv 6)))))), ?_⟩
    intro d nd
    have s1 : Same H (upd H d (.dT [])) := same_upd nd
    obtain ⟨as, h1, h2⟩ := id hB
    have hal : as.length = cs.length := Paired.length h2
    refine ⟨_, rfl, b, rfl, ⟨_, SqL.of (s1 _ _ h1)⟩, for_list (K := K) (a := b) (xs := as.map V.ref) (fun i σ H' => ∃ v : Option V, σ = [some (.ref a), some (vN t), some (vN p), some (.ref b), some (.ref d), v, none] ∧ Same H H' ∧
        ∃ kvs : List (List Key × V), H' d = some (.dT kvs) ∧ kvs.length ≤ i ∧ ∀ c : List Nat, (valV kvs (KyC c)).isSome = (cs.take i).contains c)
      ⟨none, rfl, s1, [], upd_same, Nat.le_refl _, fun c => rfl⟩ (fun i σ H' _ ⟨_, _, s, _⟩ => SqL.of (s _ _ h1)) ?_ ?_⟩
    · rintro i y σ H' hi ⟨v, rfl, s2, kvs, k1, k2, k3⟩
      obtain ⟨x, hx, rfl⟩ := map_get hi
      obtain ⟨c, hc, hcx⟩ := paired_get h2 hx
      have hil : i < cs.length := (List.getElem?_eq_some_iff.mp hc).1
      have hcx' : H' x = some (.tup ((KyC c).map kV)) := by
        rw [kyc_val]
        exact s2 _ _ hcx
      refine ⟨_, rfl, _, rfl, d, _, rfl, DPut.t k1 hcx' ?_, ?_⟩
      · exact Nat.lt_of_le_of_lt (Nat.le_trans k2 (Nat.le_trans (Nat.le_of_lt hil) hcl)) (by decide)
      · refine ⟨_, rfl, same_put s2 nd, _, upd_same, Nat.le_trans putK_len (by omega), fun e => ?_⟩
        rw [valV_put, k3, take_snoc hc, Bool.eq_iff_iff, Bool.or_eq_true, List.contains_iff_mem, List.contains_iff_mem, List.mem_append, List.mem_singleton, decide_eq_true_eq]
        constructor
        · rintro (z | z)
          · exact .inl z
          · exact .inr (kyc_inj z).symm
        · rintro (z | z)
          · exact .inl z
          · exact .inr (by rw [z])
    · rintro σ H' ⟨v, rfl, s2, kvs, k1, k2, k3⟩
      rw [List.length_map, hal, List.take_length] at k3
      have FD : FewAt H' d cs := ⟨kvs, k1, k3⟩
      refine ⟨Nat.zero_le _, fun l nl => ?_⟩
      have s3 : Same H' (upd H' l (.lst [])) := same_upd nl
      have nlH : H l = none := s2.free nl
      obtain ⟨as0, g1, g2, g3⟩ := id hN
      refine ⟨_, rfl, a, as0.map V.ref, rfl, .inl (s3.seq (s2.seq g1)), _, rfl, adj.length, p, by rw [List.length_map, g2]; rfl, hn1, hn5, hp, fun H2 m s4 nm hM => ?_⟩
      obtain ⟨ms, m1, m2⟩ := id hM
      have hml : ms.length = (configs adj.length p).length := Paired.length m2
      have FD2 : FewAt H2 d cs := (FD.same s3).same s4
      have s24 : Same H H2 := s2.trans (s3.trans s4)
      have rows := configs_row (n := adj.length) (p := p) hn1
      have clen := configs_len (n := adj.length) (p := p) hn5 hp
      have nml : m ≠ l := fun z => by
        rw [z, upd_same] at nm
        cases nm
      have nmH : ∀ o, H2 m = some o → m ≠ l := fun _ _ => nml
      refine ⟨m, rfl, ⟨_, SqL.of m1⟩, for_list (K := K) (a := m) (xs := ms.map V.ref) (fun i σ H' => ∃ v : Option V, σ = [some (.ref a), some (vN t), some (vN p), some (.ref b), some (.ref d), v, some (.ref l)] ∧ Same H H' ∧ FewAt H' d cs ∧ H' m = some (.lst (ms.map V.ref)) ∧
          Paired (CfgAt H') ms (configs adj.length p) ∧ Ls CfgAt H' l (((configs adj.length p).take i).filter (isUns adj t cs)))
        ⟨v, rfl, s24, FD2, m1, m2, [], s4 _ _ upd_same, .nil⟩ (fun i σ H' _ ⟨_, _, _, _, e, _⟩ => SqL.of e) ?_ ?_⟩
      · rintro i y σ H3 hi ⟨v, rfl, s5, FD3, e1, e2, bs, b1, b2⟩
        obtain ⟨x, hx, rfl⟩ := map_get hi
        obtain ⟨c, hc, hcx⟩ := paired_get e2 hx
        refine ⟨_, rfl, _, rfl, _, rfl, _, rfl, a, x, d, adj, t, c, cs, rfl, hN.same s5, hcx, FD3, hA, rows c (List.mem_of_getElem? hc), ht, fun H4 s6 => ⟨_, rfl, ?_⟩⟩
        have b1' := s6 _ _ b1
        have b2' := Paired.mapP b2 fun _ _ z => CfgAt.same s6 z
        have e2' := Paired.mapP e2 fun _ _ z => CfgAt.same s6 z
        rw [take_snoc hc, List.filter_append, List.filter_cons, List.filter_nil]
        cases u : isUns adj t cs c
        · refine ⟨_, rfl, s5.trans s6, FD3.same s6, s6 _ _ e1, e2', bs, b1', ?_⟩
          rw [if_neg (by decide), List.append_nil]
          exact b2'
        · refine ⟨_, rfl, .inl ⟨rfl, _, SqL.of b1'⟩, _, rfl, l, _, _, rfl, rfl, b1', ?_, ?_⟩
          · rw [List.length_map, Paired.length b2]
            refine Nat.lt_of_le_of_lt (Nat.le_trans (List.length_filter_le ..) (Nat.le_trans ?_ clen)) (by decide)
            rw [List.length_take]
            exact Nat.min_le_right _ _
          · have hdl : d ≠ l := by
              obtain ⟨kv, z, _⟩ := FD3.same s6
              exact ne_of z b1' (by intro z; cases z)
            obtain ⟨kv, z1, z2⟩ := FD3.same s6
            refine ⟨_, rfl, same_put (s5.trans s6) nlH, ⟨kv, by rw [upd_ne hdl]; exact z1, z2⟩, by rw [upd_ne nml]; exact s6 _ _ e1, Paired.mapP e2' fun _ _ z => z.put b1', ?_⟩
            rw [if_pos rfl]
            exact cfgs_snoc b1' b2' (hcx.same s6)
      · rintro σ H3 ⟨v, rfl, s5, FD3, e1, e2, hL⟩
        rw [List.length_map, hml, List.take_length] at hL
        exact ⟨_, rfl, q H3 l s5 nlH hL⟩
end
end Pm
namespace Pm
open PySem PySem.Spec PyProof.Rows L2 PmM
/-! ### a list of configurations as data -/
def cfgD (c : List Nat) : PyData := .tuple (c.map fun n : Nat => .int (n : Int))
theorem dp_ints {K : PySem.W.Frag} {H : Hp} : ∀ c : List Nat, DpAll K H (c.map vN) (c.map fun n : Nat => PyData.int (n : Int))
  | [] => .nil
  | n :: c => .cons (.int _) (dp_ints c)
theorem dp_cfgs {K : PySem.W.Frag} {H : Hp} : ∀ {as : List Addr} {cs : List (List Nat)}, Paired (CfgAt H) as cs → DpAll K H (as.map V.ref) (cs.map cfgD)
  | _, _, .nil => .nil
  | _, _, .cons h t => .cons (.tup (SqT.of h) (dp_ints _)) (dp_cfgs t)
theorem lay_ints : ∀ c : List Nat, PyData.canLayAll0 (c.map fun n : Nat => PyData.int (n : Int)) = true
  | [] => by simp only [List.map_nil, PyData.canLayAll0]
  | n :: c => by simp only [List.map_cons, PyData.canLayAll0, PyData.canLay0, lay_ints c, Bool.and_true]
theorem lay_cfgs : ∀ cs : List (List Nat), PyData.canLayAll0 (cs.map cfgD) = true
  | [] => by simp only [List.map_nil, PyData.canLayAll0]
  | c :: cs => by simp only [List.map_cons, PyData.canLayAll0, PyData.canLay0, cfgD, lay_ints c, lay_cfgs cs, Bool.and_true]
theorem dep_ints : ∀ c : List Nat, PyData.depthAll (c.map fun n : Nat => PyData.int (n : Int)) ≤ 1
  | [] => by simp only [List.map_nil, PyData.depthAll]; omega
  | n :: c => by
    have := dep_ints c
    simp only [List.map_cons, PyData.depthAll, PyData.depth]
    omega
theorem dep_cfgs : ∀ cs : List (List Nat), PyData.depthAll (cs.map cfgD) ≤ 2
  | [] => by simp only [List.map_nil, PyData.depthAll]; omega
  | c :: cs => by
    have h1 := dep_cfgs cs
    have h2 := dep_ints c
    simp only [List.map_cons, PyData.depthAll, cfgD, PyData.depth]
    omega
theorem shaped_cfgs (cs : List (List Nat)) : SeqAt.shaped (.list (cs.map cfgD)) = true := by
  unfold SeqAt.shaped
  rw [Bool.and_eq_true]
  refine ⟨by simp only [PyData.canLay0, lay_cfgs], decide_eq_true ?_⟩
  have := dep_cfgs cs
  simp only [PyData.depth]
  omega
theorem shaped_nil : SeqAt.shaped (.list []) = true := shaped_cfgs []
theorem eqv_nil (cs : List (List Nat)) : PyData.eqv (.list (cs.map cfgD)) (.list []) = cs.isEmpty := by
  cases cs with
  | nil => simp [PyData.eqv, PyData.eqvAll]
  | cons c cs => simp [PyData.eqv, PyData.eqvAll]
section
variable {P : Program} {w : World} {K : PySem.W.Frag} {mg : Str → Option Value} {base : Heap}
variable {fL fF fA fS fU fX : Addr} {fdL fdF fdA fdS fdU fdX : FuncData}
theorem scAlways : FnScope ["neighbours"] ["neighbours"] (defScope sAlways) := ⟨rfl, rfl, rfl, by decide +kernel, rfl, by decide +kernel, by decide +kernel⟩
def spAlways (K : PySem.W.Frag) : Sp := fun vs H Q _ => ∃ (a : Addr) (adj : List (List Nat)), vs = [.ref a] ∧ NbAt K H a adj ∧ 1 ≤ adj.length ∧ adj.length ≤ 5 ∧ Q (vN (mostOf adj)) H
theorem ok_always {f : Addr} {fd : FuncData} {k : Nat} {t8 : Tok} (F : Fun K "pebbles_always_enough" "pebbles_always_enough" sAlways f fd) (mLen : mg "len" = none) (gEn : mg "ENOUGH_ON_ONE" = some (.int 8 t8)) : FnOk P w K mg base CX0 (k + 1) f fd ["neighbours"] (spAlways K) := by
  refine F.ok scAlways (fun vs H Q E h => ?_) (fun cdv A outer s0 H vs Q E hr h => ?_)
  · obtain ⟨a, adj, rfl, _⟩ := h
    rfl
  · obtain ⟨a, adj, rfl, hN, hn1, hn5, q⟩ := h
    refine ⟨_, pss_one (ps_ret (pe_op op_add (pe_op op_mul (pe_op op_sub (pe_callB call_len_seq (by rfl) mLen PySem.boot_len (pa_cons (pv 0) pa_nil)) pe_int) (pe_op op_sub (pe_glob (v := .int 8) rfl gEn ⟨_, rfl⟩) pe_int)) pe_int)), ?_⟩
    obtain ⟨as, h1, h2, h3⟩ := hN
    have el : (as.map V.ref).length = adj.length := by rw [List.length_map, h2]
    refine ⟨_, rfl, a, as.map V.ref, rfl, .inl h1, _, _, rfl, rfl, _, _, rfl, rfl, _, _, rfl, rfl, .inl ?_, _, _, rfl, rfl, ?_⟩
    · rw [el]
      constructor <;> omega
    · have e : (((as.map V.ref).length : Int) - 1) * (8 - 1) + 1 = ((mostOf adj : Nat) : Int) := by
        rw [el]
        unfold mostOf
        omega
      show Q (.int ((((as.map V.ref).length : Int) - 1) * (8 - 1) + 1)) H
      rw [e]
      exact q
theorem scLeast : FnScope ["neighbours", "target", "most", "found", "many"] ["neighbours", "target"] (defScope sLeast) := ⟨rfl, rfl, rfl, by decide +kernel, rfl, by decide +kernel, by decide +kernel⟩
def spLeast (K : PySem.W.Frag) : Sp := fun vs H Q _ => ∃ (a : Addr) (adj : List (List Nat)) (t : Nat), vs = [.ref a, vN t] ∧ NbAt K H a adj ∧ AdjOk adj ∧ 1 ≤ adj.length ∧ adj.length ≤ 5 ∧ t < adj.length ∧
  ∀ H', Same H H' → Q (vN (least adj t)) H'
theorem ok_least {f fW : Addr} {fd fdW : FuncData} {t8 : Tok} (F : Fun K "least_enough" "least_enough" sLeast f fd) (T : TSolve K mg fL fF fA fS fU fX fdL fdF fdA fdS fdU fdX) (W : Def K mg "pebbles_always_enough" sAlways ["neighbours"] fW fdW)
    (gEn : mg "ENOUGH_ON_ONE" = some (.int 8 t8)) : FnOk P w K mg base CX0 5 f fd ["neighbours", "target"] (spLeast K) := by
  have GX : FnOk P w K mg base CX0 4 fX fdX ["neighbours", "target", "pebbles", "before"] (spNextUns K) := ok_nextUns T
  have GF : FnOk P w K mg base CX0 2 fF fdF ["vertex_count", "pebbles"] (spConfigs K) := ok_configs T.F.F T.L T.mRange
  have GW : FnOk P w K mg base CX0 1 fW fdW ["neighbours"] (spAlways K) := ok_always W.F T.mLen gEn
  refine F.ok scLeast (fun vs H Q E h => ?_) (fun cdv A outer s0 H vs Q E hr h => ?_)
  · obtain ⟨a, adj, t, rfl, _⟩ := h
    rfl
  · obtain ⟨a, adj, t, rfl, hN, hA, hn1, hn5, ht, q⟩ := h
    have hr2 : Room 2 _ := hr.mono (by decide)
    have hr1 : Room 1 _ := hr.mono (by decide)
    refine ⟨_, pss_cons (ps_set (i := 2) scLeast.nd rfl (.inl rfl) (pe_call GW hr1 (by rfl) W.g W.F.kp W.b .nil pass0 (pa_cons (pv 0) pa_nil)))
      (pss_cons (ps_set (i := 3) scLeast.nd rfl (.inl rfl) (pe_call GF hr2 (by rfl) T.F.g T.F.F.kp T.F.b .nil pass0 (pa_cons (pe_callB call_len_seq (by rfl) T.mLen PySem.boot_len (pa_cons (pv 0) pa_nil)) (pa_cons pe_int pa_nil))))
      (pss_cons (ps_for PassesOwn.never rfl (pi_range2 (by rfl) T.mRange (pa_cons pe_int (pa_cons (pv 2) pa_nil))) (pg_name (i := 4) scLeast.nd rfl (.inl rfl))
        (pss_cons (ps_set (i := 3) scLeast.nd rfl (.inl rfl) (pe_call GX hr (by rfl) T.X.g T.X.F.kp T.X.b .nil pass0 (pa_cons (pv 0) (pa_cons (pv 1) (pa_cons (pv 4) (pa_cons (pv 3) pa_nil))))))
        (pss_one (ps_if (pt_cmpR (op_eqD hr.units) (pv 3) (pe_lst pa_nil) (nomark _)) (pss_one (ps_ret (pv 4))) pss_nil))))
      (pss_one (ps_ret (pv 2))))), ?_⟩
    obtain ⟨as, h1, h2, h3⟩ := id hN
    have mb : mostOf adj ≤ 29 := by
      unfold mostOf
      omega
    have m1 : 1 ≤ mostOf adj := by
      unfold mostOf
      omega
    refine ⟨_, rfl, a, adj, rfl, hN, hn1, hn5, ?_⟩
    refine ⟨_, rfl, a, as.map V.ref, rfl, .inl h1, adj.length, 0, by rw [List.length_map, h2]; rfl, hn1, hn5, Nat.zero_le _, fun H1 l s1 nl hL => ?_⟩
    refine ⟨_, rfl, _, _, rfl, ⟨?_, ?_, ?_, ?_⟩, ?_⟩
    · decide
    · decide
    · show -(2 ^ 62) ≤ (mostOf adj : Int)
      omega
    · show (mostOf adj : Int) < 2 ^ 62
      omega
    · rw [show ((mostOf adj : Int) - 1).toNat = mostOf adj - 1 by omega]
      refine for_range (lo := 1) (n := mostOf adj - 1) (fun i σ H' => ∃ (v : Option V) (l : Addr), σ = [some (.ref a), some (vN t), some (vN (mostOf adj)), some (.ref l), v] ∧ Same H H' ∧ Ls CfgAt H' l (uns adj t i) ∧ ∀ j, 1 ≤ j → j ≤ i → (uns adj t j).isEmpty = false)
        ⟨none, l, rfl, s1, hL, fun j a b => by omega⟩ ?_ ?_
      · rintro i σ H' hi ⟨v, l, rfl, s2, hD, no⟩
        have ei : (1 : Int) + (i : Int) = ((i + 1 : Nat) : Int) := by omega
        refine ⟨_, rfl, _, rfl, _, rfl, _, rfl, a, l, adj, t, i + 1, uns adj t i, by rw [ei]; rfl, hN.same s2, hD, hA, hn1, hn5, ht, by omega, uns_len hn5 i (by omega), fun H2 m s3 nm hM => ?_⟩
        obtain ⟨ms, g1, g2⟩ := id hM
        refine ⟨_, rfl, Nat.zero_le _, fun e ne => ?_⟩
        have s4 : Same H2 (upd H2 e (.lst [])) := same_upd ne
        refine ⟨.list ((nextUns adj t (i + 1) (uns adj t i)).map cfgD), .list [], .lst (SqL.of (s4 _ _ g1)) (dp_cfgs (Paired.mapP g2 fun _ _ z => CfgAt.same s4 z)), .lst (SqL.of upd_same) .nil, shaped_cfgs _, shaped_nil, _, rfl, ?_⟩
        rw [eqv_nil]
        have s24 := s2.trans (s3.trans s4)
        cases c : (nextUns adj t (i + 1) (uns adj t i)).isEmpty
        · refine ⟨_, m, rfl, s24, cfgs_same s4 hM, fun j a b => ?_⟩
          by_cases z : j = i + 1
          · rw [z]
            exact c
          · exact no j a (by omega)
        · refine ⟨_, rfl, ?_⟩
          have r : least adj t = i + 1 := least_of (by omega) (by omega) (fun j a b => no j a (by omega)) (fun _ => c)
          show Q (.int (1 + (i : Int))) (upd H2 e (.lst []))
          have := q _ s24
          rw [r] at this
          rw [ei]
          exact this
      · rintro σ H' ⟨v, l, rfl, s2, hD, no⟩
        refine ⟨_, rfl, ?_⟩
        have r : least adj t = mostOf adj := least_of m1 (Nat.le_refl _) (fun j a b => no j a (by omega)) (fun z => absurd z (Nat.lt_irrefl _))
        have := q _ s2
        rw [r] at this
        exact this
end
end Pm
namespace Pm
open PySem PySem.Spec PyProof.Rows L2 PmM
section
variable {P : Program} {w : World} {K : PySem.W.Frag} {mg : Str → Option Value} {base : Heap}
variable {fP fE fI fA fG fB : Addr} {fdP fdE fdI fdA fdG fdB : FuncData} {tM : Tok}
variable {fN fS fW fD : Addr} {fdN fdS fdW fdD : FuncData} {tU : Tok}
variable {fC fR fL fH : Addr} {fdC fdR fdL fdH : FuncData} {t0 t1 t2 t3 t4 : Tok}
variable {gL gF gA gS gU gX : Addr} {gdL gdF gdA gdS gdU gdX : FuncData}
theorem scOp : FnScope ["vertex_count", "edges", "refusal", "neighbours", "target"] ["vertex_count", "edges"] (defScope sOp) := ⟨rfl, rfl, rfl, by decide +kernel, rfl, by decide +kernel, by decide +kernel⟩
def spOp (K : PySem.W.Frag) : Sp := fun vs H Q _ => ∃ (n : Nat) (a : Addr) (es : List Nat), vs = [vN n, .ref a] ∧ SqL K H a (es.map vN) ∧ es.length ≤ 100 ∧
  ∀ H' q, H' q = some (.lst ((opGraphNumber n es).map V.int)) → Q (.ref q) H'
theorem ok_op {f fO fV : Addr} {fd fdO fdV : FuncData} {t8 : Tok} (F : Fun K "graph_pebbling_number" "graph_pebbling_number" sOp f fd) (T : TGraph K mg fP fE fI fA fG fB fdP fdE fdI fdA fdG fdB tM) (D : TDist K mg fN fS fW fD fdN fdS fdW fdD tU) (Z : TCheck K mg fC fR fL fH fdC fdR fdL fdH t0 t1 t2 t3 t4)
    (S : TSolve K mg gL gF gA gS gU gX gdL gdF gdA gdS gdU gdX)
    (O : Def K mg "least_enough" sLeast ["neighbours", "target"] fO fdO) (W : Def K mg "pebbles_always_enough" sAlways ["neighbours"] fV fdV) (gEn : mg "ENOUGH_ON_ONE" = some (.int 8 t8)) :
    FnOk P w K mg base CX0 8 f fd ["vertex_count", "edges"] (spOp K) := by
  have GR : FnOk P w K mg base CX0 6 fH fdH ["vertex_count", "edges"] (spRefGraph K) := ok_refGraph T D Z
  have GB : FnOk P w K mg base CX0 2 fB fdB ["vertex_count", "edges"] (spNbOf K) := ok_nbOf T
  have GO : FnOk P w K mg base CX0 5 fO fdO ["neighbours", "target"] (spLeast K) := ok_least O.F S W gEn
  refine F.ok scOp (fun vs H Q E h => ?_) (fun cdv A outer s H vs Q E hr h => ?_)
  · obtain ⟨n, a, es, rfl, _⟩ := h
    rfl
  · obtain ⟨n, a, es, rfl, hE, hl, q⟩ := h
    have hr6 : Room 6 _ := hr.mono (by decide)
    have hr5 : Room 5 _ := hr.mono (by decide)
    have hr2 : Room 2 _ := hr.mono (by decide)
    refine ⟨_, pss_cons (ps_set (i := 2) scOp.nd rfl (.inl rfl) (pe_call GR hr6 (by rfl) Z.H.g Z.H.F.kp Z.H.b .nil pass0 (pa_cons (pv 0) (pa_cons (pv 1) pa_nil))))
      (pss_cons (ps_if (pt_cmpR op_ne (pv 2) (pe_glob (v := .int 0) rfl Z.gNone ⟨_, rfl⟩) (nomark _)) (pss_one (ps_ret (pe_lst (pa_cons (pv 2) pa_nil)))) pss_nil)
      (pss_cons (ps_set (i := 3) scOp.nd rfl (Or.inr rfl) (pe_call GB hr2 (by rfl) T.gB T.FB.kp T.bB .nil pass0 (pa_cons (pv 0) (pa_cons (pv 1) pa_nil))))
      (pss_one (ps_ret (pe_lst (pa_cons (pe_callB (cr_max rfl) (by rfl) D.mMax (by decide +kernel) (pa_cons (pe_lc (own := [("target", 4)]) (g := gName 4) (tt := tYes) (te := tCall (spLeast K) [] E0 (tCons (tVar 3) (tCons (tVar 4) tNil))) rfl scOp.nd
        (pi_range1 rfl T.mRange (pa_cons (pv 0) pa_nil)) (blkOk_by (N := ["vertex_count", "edges", "refusal", "neighbours", "target"]) (sc := defScope sOp) (by decide +kernel)) (fun _ _ _ _ _ => pg_name (i := 4) scOp.nd rfl (Or.inl rfl)) (fun _ _ _ _ _ => pts_nil)
        (fun _ _ _ _ _ => pe_call GO hr5 (by rfl) O.g O.F.kp O.b .nil pass0 (pa_cons (pv 3) (pa_cons (pv 4) pa_nil)))) pa_nil)) pa_nil)))))), ?_⟩
    refine ⟨_, rfl, _, rfl, n, a, es, rfl, hE, hl, fun H1 s1 => ?_⟩
    refine ⟨_, rfl, rfl, _, rfl, ?_⟩
    rw [vint_eq]
    by_cases c : refGraph n es = 0
    · rw [c]
      have c' := refConn_graph (refGraph_conn c)
      obtain ⟨n1, n5⟩ := graph_pos c'
      refine ⟨_, rfl, _, rfl, n, a, es, rfl, s1.seq hE, hl, c', fun H2 m s2 nm hN => ?_⟩
      refine ⟨_, rfl, _, rfl, ?_, ?_, fun L nL => ?_⟩
      · show -(2 ^ 62) ≤ (n : Int)
        omega
      · show (n : Int) < 2 ^ 62
        omega
      · rw [Int.toNat_natCast]
        refine lc_range (lo := 0) (n := n) (fun i H' => Same H2 H' ∧ H' L = some (.lst (((List.range i).map fun t => (least (nbOf n es) t : Int)).map V.int))) ⟨same_upd nL, upd_same⟩ ?_ ?_
        · rintro i H' hi ⟨s3, hD⟩
          refine ⟨rfl, _, rfl, _, rfl, m, nbOf n es, i, by rw [Int.zero_add]; rfl, hN.same s3, adjOk_nb c' hl, by rw [nbOf_len]; exact n1, by rw [nbOf_len]; exact n5, by rw [nbOf_len]; exact hi, fun H4 s4 => ?_⟩
          refine ⟨_, s4 _ _ hD, ?_, same_put (s3.trans s4) nL, ?_⟩
          · rw [List.length_map, List.length_map, List.length_range]
            exact small1000 (by omega)
          · rw [upd_same, List.range_succ, List.map_append, List.map_append]
            rfl
        · rintro H' ⟨s3, hD⟩
          refine ⟨L, _, rfl, SqL.of hD, by rw [List.length_map, List.length_range]; exact n1, fun y hy hle => ?_⟩
          refine ⟨by show 1 ≤ sizeLine; decide, fun l nl => q _ l ?_⟩
          rw [upd_same, maxI_is hy hle]
          unfold opGraphNumber
          rw [if_pos c]
          rfl
    · rw [beq_eq_false_iff_ne.mpr c]
      refine ⟨_, rfl, by show 1 ≤ sizeLine; decide, fun l nl => q _ l ?_⟩
      rw [upd_same]
      unfold opGraphNumber
      rw [if_neg c]
      rfl
end
end Pm
namespace Pm
open PySem PySem.Spec PyProof.Rows L2
open PySem.W (Codec)
theorem nat_of {lo hi : Int} {i : Int} (h : Codec.inInt lo hi i = true) (h0 : 0 ≤ lo := by decide) : ∃ n : Nat, i = (n : Int) := by
  have : lo ≤ i := by
    simp only [Codec.inInt, Bool.and_eq_true, decide_eq_true_eq] at h
    exact h.1
  exact ⟨i.toNat, by omega⟩
theorem nats_of {lo hi : Int} : ∀ {l : List Int}, l.all (Codec.inInt lo hi) = true → (h0 : 0 ≤ lo := by decide) → ∃ es : List Nat, l = es.map fun e : Nat => (e : Int)
  | [], _, _ => ⟨[], rfl⟩
  | x :: r, h, h0 => by
    rw [List.all_cons, Bool.and_eq_true] at h
    obtain ⟨n, hn⟩ := nat_of h.1 h0
    obtain ⟨es, hes⟩ := nats_of h.2 h0
    exact ⟨n :: es, by rw [hn, hes]; rfl⟩
end Pm
namespace Pm
open PySem PySem.Spec PyProof.Rows L2 PmM
theorem all_mk {P : Program} {w : World} {K : PySem.W.Frag} {h : Heap} {mg : Str → Option Value} {fa : Addr} (X : K.In h) (G : h.Ns mainGlobals mg) (hfa : mg "graph_pebbling_number" = some (.ref fa))
    {f2 : Addr} {od2 an2 : Option Addr} {sl2 : Array (Option Value)} {oc2 kV2 dc2 pm2 cd2 ct2 : Value}
    (a2 : PySem.W.nsIn K mainGlobals "has_neighbour_at" = some (some (.ref f2)))
    (l2 : K.lookup f2 = some ⟨oc2, od2, .func (PySem.W.fnOf "has_neighbour_at" "has_neighbour_at" (defArgs sHasNb) (defBody sHasNb) (defScope sHasNb) .none kV2 dc2 pm2 an2 cd2 ct2), sl2⟩)
    (c2 : PySem.W.codeIn K cd2 "has_neighbour_at" = true)
    (k2 : PySem.W.keepIn K (.ref f2) = true)
    {f3 : Addr} {od3 an3 : Option Addr} {sl3 : Array (Option Value)} {oc3 kV3 dc3 pm3 cd3 ct3 : Value}
    (a3 : PySem.W.nsIn K mainGlobals "at_start" = some (some (.ref f3)))
    (l3 : K.lookup f3 = some ⟨oc3, od3, .func (PySem.W.fnOf "at_start" "at_start" (defArgs sAtStart) (defBody sAtStart) (defScope sAtStart) .none kV3 dc3 pm3 an3 cd3 ct3), sl3⟩)
    (c3 : PySem.W.codeIn K cd3 "at_start" = true)
    (k3 : PySem.W.keepIn K (.ref f3) = true)
    {f4 : Addr} {od4 an4 : Option Addr} {sl4 : Array (Option Value)} {oc4 kV4 dc4 pm4 cd4 ct4 : Value}
    (a4 : PySem.W.nsIn K mainGlobals "with_next" = some (some (.ref f4)))
    (l4 : K.lookup f4 = some ⟨oc4, od4, .func (PySem.W.fnOf "with_next" "with_next" (defArgs sWithNext) (defBody sWithNext) (defScope sWithNext) .none kV4 dc4 pm4 an4 cd4 ct4), sl4⟩)
    (c4 : PySem.W.codeIn K cd4 "with_next" = true)
    (k4 : PySem.W.keepIn K (.ref f4) = true)
    {f5 : Addr} {od5 an5 : Option Addr} {sl5 : Array (Option Value)} {oc5 kV5 dc5 pm5 cd5 ct5 : Value}
    (a5 : PySem.W.nsIn K mainGlobals "distances_from" = some (some (.ref f5)))
    (l5 : K.lookup f5 = some ⟨oc5, od5, .func (PySem.W.fnOf "distances_from" "distances_from" (defArgs sDistFrom) (defBody sDistFrom) (defScope sDistFrom) .none kV5 dc5 pm5 an5 cd5 ct5), sl5⟩)
    (c5 : PySem.W.codeIn K cd5 "distances_from" = true)
    (k5 : PySem.W.keepIn K (.ref f5) = true)
    {f6 : Addr} {od6 an6 : Option Addr} {sl6 : Array (Option Value)} {oc6 kV6 dc6 pm6 cd6 ct6 : Value}
    (a6 : PySem.W.nsIn K mainGlobals "is_connected" = some (some (.ref f6)))
    (l6 : K.lookup f6 = some ⟨oc6, od6, .func (PySem.W.fnOf "is_connected" "is_connected" (defArgs sIsConn) (defBody sIsConn) (defScope sIsConn) .none kV6 dc6 pm6 an6 cd6 ct6), sl6⟩)
    (c6 : PySem.W.codeIn K cd6 "is_connected" = true)
    (k6 : PySem.W.keepIn K (.ref f6) = true)
    {f7 : Addr} {od7 an7 : Option Addr} {sl7 : Array (Option Value)} {oc7 kV7 dc7 pm7 cd7 ct7 : Value}
    (a7 : PySem.W.nsIn K mainGlobals "greatest_distance" = some (some (.ref f7)))
    (l7 : K.lookup f7 = some ⟨oc7, od7, .func (PySem.W.fnOf "greatest_distance" "greatest_distance" (defArgs sGreatest) (defBody sGreatest) (defScope sGreatest) .none kV7 dc7 pm7 an7 cd7 ct7), sl7⟩)
    (c7 : PySem.W.codeIn K cd7 "greatest_distance" = true)
    (k7 : PySem.W.keepIn K (.ref f7) = true)
    {f10 : Addr} {od10 an10 : Option Addr} {sl10 : Array (Option Value)} {oc10 kV10 dc10 pm10 cd10 ct10 : Value}
    (a10 : PySem.W.nsIn K mainGlobals "pairs_of" = some (some (.ref f10)))
    (l10 : K.lookup f10 = some ⟨oc10, od10, .func (PySem.W.fnOf "pairs_of" "pairs_of" (defArgs sPairsOf) (defBody sPairsOf) (defScope sPairsOf) .none kV10 dc10 pm10 an10 cd10 ct10), sl10⟩)
    (c10 : PySem.W.codeIn K cd10 "pairs_of" = true)
    (k10 : PySem.W.keepIn K (.ref f10) = true)
    {f11 : Addr} {od11 an11 : Option Addr} {sl11 : Array (Option Value)} {oc11 kV11 dc11 pm11 cd11 ct11 : Value}
    (a11 : PySem.W.nsIn K mainGlobals "is_edge" = some (some (.ref f11)))
    (l11 : K.lookup f11 = some ⟨oc11, od11, .func (PySem.W.fnOf "is_edge" "is_edge" (defArgs sIsEdge) (defBody sIsEdge) (defScope sIsEdge) .none kV11 dc11 pm11 an11 cd11 ct11), sl11⟩)
    (c11 : PySem.W.codeIn K cd11 "is_edge" = true)
    (k11 : PySem.W.keepIn K (.ref f11) = true)
    {f12 : Addr} {od12 an12 : Option Addr} {sl12 : Array (Option Value)} {oc12 kV12 dc12 pm12 cd12 ct12 : Value}
    (a12 : PySem.W.nsIn K mainGlobals "are_increasing" = some (some (.ref f12)))
    (l12 : K.lookup f12 = some ⟨oc12, od12, .func (PySem.W.fnOf "are_increasing" "are_increasing" (defArgs sIncr) (defBody sIncr) (defScope sIncr) .none kV12 dc12 pm12 an12 cd12 ct12), sl12⟩)
    (c12 : PySem.W.codeIn K cd12 "are_increasing" = true)
    (k12 : PySem.W.keepIn K (.ref f12) = true)
    {f13 : Addr} {od13 an13 : Option Addr} {sl13 : Array (Option Value)} {oc13 kV13 dc13 pm13 cd13 ct13 : Value}
    (a13 : PySem.W.nsIn K mainGlobals "are_edges" = some (some (.ref f13)))
    (l13 : K.lookup f13 = some ⟨oc13, od13, .func (PySem.W.fnOf "are_edges" "are_edges" (defArgs sAreEdges) (defBody sAreEdges) (defScope sAreEdges) .none kV13 dc13 pm13 an13 cd13 ct13), sl13⟩)
    (c13 : PySem.W.codeIn K cd13 "are_edges" = true)
    (k13 : PySem.W.keepIn K (.ref f13) = true)
    {f14 : Addr} {od14 an14 : Option Addr} {sl14 : Array (Option Value)} {oc14 kV14 dc14 pm14 cd14 ct14 : Value}
    (a14 : PySem.W.nsIn K mainGlobals "is_graph" = some (some (.ref f14)))
    (l14 : K.lookup f14 = some ⟨oc14, od14, .func (PySem.W.fnOf "is_graph" "is_graph" (defArgs sIsGraph) (defBody sIsGraph) (defScope sIsGraph) .none kV14 dc14 pm14 an14 cd14 ct14), sl14⟩)
    (c14 : PySem.W.codeIn K cd14 "is_graph" = true)
    (k14 : PySem.W.keepIn K (.ref f14) = true)
    {f15 : Addr} {od15 an15 : Option Addr} {sl15 : Array (Option Value)} {oc15 kV15 dc15 pm15 cd15 ct15 : Value}
    (a15 : PySem.W.nsIn K mainGlobals "neighbours_of" = some (some (.ref f15)))
    (l15 : K.lookup f15 = some ⟨oc15, od15, .func (PySem.W.fnOf "neighbours_of" "neighbours_of" (defArgs sNbOf) (defBody sNbOf) (defScope sNbOf) .none kV15 dc15 pm15 an15 cd15 ct15), sl15⟩)
    (c15 : PySem.W.codeIn K cd15 "neighbours_of" = true)
    (k15 : PySem.W.keepIn K (.ref f15) = true)
    {f22 : Addr} {od22 an22 : Option Addr} {sl22 : Array (Option Value)} {oc22 kV22 dc22 pm22 cd22 ct22 : Value}
    (a22 : PySem.W.nsIn K mainGlobals "refusal_of_connection" = some (some (.ref f22)))
    (l22 : K.lookup f22 = some ⟨oc22, od22, .func (PySem.W.fnOf "refusal_of_connection" "refusal_of_connection" (defArgs sRefConn) (defBody sRefConn) (defScope sRefConn) .none kV22 dc22 pm22 an22 cd22 ct22), sl22⟩)
    (c22 : PySem.W.codeIn K cd22 "refusal_of_connection" = true)
    (k22 : PySem.W.keepIn K (.ref f22) = true)
    {f23 : Addr} {od23 an23 : Option Addr} {sl23 : Array (Option Value)} {oc23 kV23 dc23 pm23 cd23 ct23 : Value}
    (a23 : PySem.W.nsIn K mainGlobals "refusal_of_graph" = some (some (.ref f23)))
    (l23 : K.lookup f23 = some ⟨oc23, od23, .func (PySem.W.fnOf "refusal_of_graph" "refusal_of_graph" (defArgs sRefGraph) (defBody sRefGraph) (defScope sRefGraph) .none kV23 dc23 pm23 an23 cd23 ct23), sl23⟩)
    (c23 : PySem.W.codeIn K cd23 "refusal_of_graph" = true)
    (k23 : PySem.W.keepIn K (.ref f23) = true)
    {f25 : Addr} {od25 an25 : Option Addr} {sl25 : Array (Option Value)} {oc25 kV25 dc25 pm25 cd25 ct25 : Value}
    (a25 : PySem.W.nsIn K mainGlobals "longer_ones" = some (some (.ref f25)))
    (l25 : K.lookup f25 = some ⟨oc25, od25, .func (PySem.W.fnOf "longer_ones" "longer_ones" (defArgs sLonger) (defBody sLonger) (defScope sLonger) .none kV25 dc25 pm25 an25 cd25 ct25), sl25⟩)
    (c25 : PySem.W.codeIn K cd25 "longer_ones" = true)
    (k25 : PySem.W.keepIn K (.ref f25) = true)
    {f26 : Addr} {od26 an26 : Option Addr} {sl26 : Array (Option Value)} {oc26 kV26 dc26 pm26 cd26 ct26 : Value}
    (a26 : PySem.W.nsIn K mainGlobals "configurations" = some (some (.ref f26)))
    (l26 : K.lookup f26 = some ⟨oc26, od26, .func (PySem.W.fnOf "configurations" "configurations" (defArgs sConfigs) (defBody sConfigs) (defScope sConfigs) .none kV26 dc26 pm26 an26 cd26 ct26), sl26⟩)
    (c26 : PySem.W.codeIn K cd26 "configurations" = true)
    (k26 : PySem.W.keepIn K (.ref f26) = true)
    {f27 : Addr} {od27 an27 : Option Addr} {sl27 : Array (Option Value)} {oc27 kV27 dc27 pm27 cd27 ct27 : Value}
    (a27 : PySem.W.nsIn K mainGlobals "after_move" = some (some (.ref f27)))
    (l27 : K.lookup f27 = some ⟨oc27, od27, .func (PySem.W.fnOf "after_move" "after_move" (defArgs sAfter) (defBody sAfter) (defScope sAfter) .none kV27 dc27 pm27 an27 cd27 ct27), sl27⟩)
    (c27 : PySem.W.codeIn K cd27 "after_move" = true)
    (k27 : PySem.W.keepIn K (.ref f27) = true)
    {f30 : Addr} {od30 an30 : Option Addr} {sl30 : Array (Option Value)} {oc30 kV30 dc30 pm30 cd30 ct30 : Value}
    (a30 : PySem.W.nsIn K mainGlobals "do_moves_stay" = some (some (.ref f30)))
    (l30 : K.lookup f30 = some ⟨oc30, od30, .func (PySem.W.fnOf "do_moves_stay" "do_moves_stay" (defArgs sStay) (defBody sStay) (defScope sStay) .none kV30 dc30 pm30 an30 cd30 ct30), sl30⟩)
    (c30 : PySem.W.codeIn K cd30 "do_moves_stay" = true)
    (k30 : PySem.W.keepIn K (.ref f30) = true)
    {f31 : Addr} {od31 an31 : Option Addr} {sl31 : Array (Option Value)} {oc31 kV31 dc31 pm31 cd31 ct31 : Value}
    (a31 : PySem.W.nsIn K mainGlobals "is_unsolvable" = some (some (.ref f31)))
    (l31 : K.lookup f31 = some ⟨oc31, od31, .func (PySem.W.fnOf "is_unsolvable" "is_unsolvable" (defArgs sIsUns) (defBody sIsUns) (defScope sIsUns) .none kV31 dc31 pm31 an31 cd31 ct31), sl31⟩)
    (c31 : PySem.W.codeIn K cd31 "is_unsolvable" = true)
    (k31 : PySem.W.keepIn K (.ref f31) = true)
    {f32 : Addr} {od32 an32 : Option Addr} {sl32 : Array (Option Value)} {oc32 kV32 dc32 pm32 cd32 ct32 : Value}
    (a32 : PySem.W.nsIn K mainGlobals "next_unsolvable" = some (some (.ref f32)))
    (l32 : K.lookup f32 = some ⟨oc32, od32, .func (PySem.W.fnOf "next_unsolvable" "next_unsolvable" (defArgs sNextUns) (defBody sNextUns) (defScope sNextUns) .none kV32 dc32 pm32 an32 cd32 ct32), sl32⟩)
    (c32 : PySem.W.codeIn K cd32 "next_unsolvable" = true)
    (k32 : PySem.W.keepIn K (.ref f32) = true)
    {f33 : Addr} {od33 an33 : Option Addr} {sl33 : Array (Option Value)} {oc33 kV33 dc33 pm33 cd33 ct33 : Value}
    (a33 : PySem.W.nsIn K mainGlobals "pebbles_always_enough" = some (some (.ref f33)))
    (l33 : K.lookup f33 = some ⟨oc33, od33, .func (PySem.W.fnOf "pebbles_always_enough" "pebbles_always_enough" (defArgs sAlways) (defBody sAlways) (defScope sAlways) .none kV33 dc33 pm33 an33 cd33 ct33), sl33⟩)
    (c33 : PySem.W.codeIn K cd33 "pebbles_always_enough" = true)
    (k33 : PySem.W.keepIn K (.ref f33) = true)
    {f34 : Addr} {od34 an34 : Option Addr} {sl34 : Array (Option Value)} {oc34 kV34 dc34 pm34 cd34 ct34 : Value}
    (a34 : PySem.W.nsIn K mainGlobals "least_enough" = some (some (.ref f34)))
    (l34 : K.lookup f34 = some ⟨oc34, od34, .func (PySem.W.fnOf "least_enough" "least_enough" (defArgs sLeast) (defBody sLeast) (defScope sLeast) .none kV34 dc34 pm34 an34 cd34 ct34), sl34⟩)
    (c34 : PySem.W.codeIn K cd34 "least_enough" = true)
    (k34 : PySem.W.keepIn K (.ref f34) = true)
    {f36 : Addr} {od36 an36 : Option Addr} {sl36 : Array (Option Value)} {oc36 kV36 dc36 pm36 cd36 ct36 : Value}
    (a36 : PySem.W.nsIn K mainGlobals "graph_pebbling_number" = some (some (.ref f36)))
    (l36 : K.lookup f36 = some ⟨oc36, od36, .func (PySem.W.fnOf "graph_pebbling_number" "graph_pebbling_number" (defArgs sOp) (defBody sOp) (defScope sOp) .none kV36 dc36 pm36 an36 cd36 ct36), sl36⟩)
    (c36 : PySem.W.codeIn K cd36 "graph_pebbling_number" = true)
    (k36 : PySem.W.keepIn K (.ref f36) = true)
    {t_UNREACHED : Tok} (h_UNREACHED : PySem.W.nsIn K mainGlobals "UNREACHED" = some (some (.int (-1) t_UNREACHED)))
    {t_MOST_VERTICES : Tok} (h_MOST_VERTICES : PySem.W.nsIn K mainGlobals "MOST_VERTICES" = some (some (.int 5 t_MOST_VERTICES)))
    {t_NONE : Tok} (h_NONE : PySem.W.nsIn K mainGlobals "NONE" = some (some (.int 0 t_NONE)))
    {t_OUTSIDE : Tok} (h_OUTSIDE : PySem.W.nsIn K mainGlobals "OUTSIDE" = some (some (.int (-22) t_OUTSIDE)))
    {t_ABSENT : Tok} (h_ABSENT : PySem.W.nsIn K mainGlobals "ABSENT" = some (some (.int (-33) t_ABSENT)))
    {t_TOO_WIDE : Tok} (h_TOO_WIDE : PySem.W.nsIn K mainGlobals "TOO_WIDE" = some (some (.int (-75) t_TOO_WIDE)))
    {t_MOST_DIAMETER : Tok} (h_MOST_DIAMETER : PySem.W.nsIn K mainGlobals "MOST_DIAMETER" = some (some (.int 3 t_MOST_DIAMETER)))
    {t_ENOUGH_ON_ONE : Tok} (h_ENOUGH_ON_ONE : PySem.W.nsIn K mainGlobals "ENOUGH_ON_ONE" = some (some (.int 8 t_ENOUGH_ON_ONE)))
    (z_len : PySem.W.nsIn K mainGlobals "len" = some none)
    (z_range : PySem.W.nsIn K mainGlobals "range" = some none)
    (z_any : PySem.W.nsIn K mainGlobals "any" = some none)
    (z_all : PySem.W.nsIn K mainGlobals "all" = some none)
    (z_max : PySem.W.nsIn K mainGlobals "max" = some none)
    (z_list : PySem.W.nsIn K mainGlobals "list" = some none)
    (z_tuple : PySem.W.nsIn K mainGlobals "tuple" = some none)
    : ∃ fd : FuncData, (∀ (s : Shared) (us : List Value), us.length = (["vertex_count", "edges"] : List Str).length → BindsTo s fd ⟨us, []⟩ ((["vertex_count", "edges"] : List Str).zip us)) ∧ ∀ base : Heap, K.In base → base.Ns mainGlobals mg → FnOk P w K mg base CX0 8 fa fd ["vertex_count", "edges"] (spOp K) := by
  have e := hfa.symm.trans (PySem.W.mg_of X G a36)
  cases e
  have F_has_neighbour_at := fun_mk (st := sHasNb) l2 c2 k2
  have b_has_neighbour_at := F_has_neighbour_at.binds (ps := ["neighbours", "found", "vertex", "distance"]) fun _ _ _ _ _ _ us hl => match us, hl with | [_, _, _, _], _ => rfl
  have g_has_neighbour_at := PySem.W.mg_of X G a2
  have D_has_neighbour_at : Def K mg "has_neighbour_at" sHasNb ["neighbours", "found", "vertex", "distance"] _ _ := ⟨F_has_neighbour_at, b_has_neighbour_at, g_has_neighbour_at⟩
  have F_at_start := fun_mk (st := sAtStart) l3 c3 k3
  have b_at_start := F_at_start.binds (ps := ["neighbours", "starts"]) fun _ _ _ _ _ _ us hl => match us, hl with | [_, _], _ => rfl
  have g_at_start := PySem.W.mg_of X G a3
  have D_at_start : Def K mg "at_start" sAtStart ["neighbours", "starts"] _ _ := ⟨F_at_start, b_at_start, g_at_start⟩
  have F_with_next := fun_mk (st := sWithNext) l4 c4 k4
  have b_with_next := F_with_next.binds (ps := ["neighbours", "found", "distance"]) fun _ _ _ _ _ _ us hl => match us, hl with | [_, _, _], _ => rfl
  have g_with_next := PySem.W.mg_of X G a4
  have D_with_next : Def K mg "with_next" sWithNext ["neighbours", "found", "distance"] _ _ := ⟨F_with_next, b_with_next, g_with_next⟩
  have F_distances_from := fun_mk (st := sDistFrom) l5 c5 k5
  have b_distances_from := F_distances_from.binds (ps := ["neighbours", "starts"]) fun _ _ _ _ _ _ us hl => match us, hl with | [_, _], _ => rfl
  have g_distances_from := PySem.W.mg_of X G a5
  have D_distances_from : Def K mg "distances_from" sDistFrom ["neighbours", "starts"] _ _ := ⟨F_distances_from, b_distances_from, g_distances_from⟩
  have F_is_connected := fun_mk (st := sIsConn) l6 c6 k6
  have b_is_connected := F_is_connected.binds (ps := ["neighbours"]) fun _ _ _ _ _ _ us hl => match us, hl with | [_], _ => rfl
  have g_is_connected := PySem.W.mg_of X G a6
  have D_is_connected : Def K mg "is_connected" sIsConn ["neighbours"] _ _ := ⟨F_is_connected, b_is_connected, g_is_connected⟩
  have F_greatest_distance := fun_mk (st := sGreatest) l7 c7 k7
  have b_greatest_distance := F_greatest_distance.binds (ps := ["neighbours"]) fun _ _ _ _ _ _ us hl => match us, hl with | [_], _ => rfl
  have g_greatest_distance := PySem.W.mg_of X G a7
  have D_greatest_distance : Def K mg "greatest_distance" sGreatest ["neighbours"] _ _ := ⟨F_greatest_distance, b_greatest_distance, g_greatest_distance⟩
  have F_pairs_of := fun_mk (st := sPairsOf) l10 c10 k10
  have b_pairs_of := F_pairs_of.binds (ps := ["edges"]) fun _ _ _ _ _ _ us hl => match us, hl with | [_], _ => rfl
  have g_pairs_of := PySem.W.mg_of X G a10
  have D_pairs_of : Def K mg "pairs_of" sPairsOf ["edges"] _ _ := ⟨F_pairs_of, b_pairs_of, g_pairs_of⟩
  have F_is_edge := fun_mk (st := sIsEdge) l11 c11 k11
  have b_is_edge := F_is_edge.binds (ps := ["vertex_count", "one", "other"]) fun _ _ _ _ _ _ us hl => match us, hl with | [_, _, _], _ => rfl
  have g_is_edge := PySem.W.mg_of X G a11
  have D_is_edge : Def K mg "is_edge" sIsEdge ["vertex_count", "one", "other"] _ _ := ⟨F_is_edge, b_is_edge, g_is_edge⟩
  have F_are_increasing := fun_mk (st := sIncr) l12 c12 k12
  have b_are_increasing := F_are_increasing.binds (ps := ["pairs"]) fun _ _ _ _ _ _ us hl => match us, hl with | [_], _ => rfl
  have g_are_increasing := PySem.W.mg_of X G a12
  have D_are_increasing : Def K mg "are_increasing" sIncr ["pairs"] _ _ := ⟨F_are_increasing, b_are_increasing, g_are_increasing⟩
  have F_are_edges := fun_mk (st := sAreEdges) l13 c13 k13
  have b_are_edges := F_are_edges.binds (ps := ["vertex_count", "edges"]) fun _ _ _ _ _ _ us hl => match us, hl with | [_, _], _ => rfl
  have g_are_edges := PySem.W.mg_of X G a13
  have D_are_edges : Def K mg "are_edges" sAreEdges ["vertex_count", "edges"] _ _ := ⟨F_are_edges, b_are_edges, g_are_edges⟩
  have F_is_graph := fun_mk (st := sIsGraph) l14 c14 k14
  have b_is_graph := F_is_graph.binds (ps := ["vertex_count", "edges"]) fun _ _ _ _ _ _ us hl => match us, hl with | [_, _], _ => rfl
  have g_is_graph := PySem.W.mg_of X G a14
  have D_is_graph : Def K mg "is_graph" sIsGraph ["vertex_count", "edges"] _ _ := ⟨F_is_graph, b_is_graph, g_is_graph⟩
  have F_neighbours_of := fun_mk (st := sNbOf) l15 c15 k15
  have b_neighbours_of := F_neighbours_of.binds (ps := ["vertex_count", "edges"]) fun _ _ _ _ _ _ us hl => match us, hl with | [_, _], _ => rfl
  have g_neighbours_of := PySem.W.mg_of X G a15
  have D_neighbours_of : Def K mg "neighbours_of" sNbOf ["vertex_count", "edges"] _ _ := ⟨F_neighbours_of, b_neighbours_of, g_neighbours_of⟩
  have F_refusal_of_connection := fun_mk (st := sRefConn) l22 c22 k22
  have b_refusal_of_connection := F_refusal_of_connection.binds (ps := ["vertex_count", "edges"]) fun _ _ _ _ _ _ us hl => match us, hl with | [_, _], _ => rfl
  have g_refusal_of_connection := PySem.W.mg_of X G a22
  have D_refusal_of_connection : Def K mg "refusal_of_connection" sRefConn ["vertex_count", "edges"] _ _ := ⟨F_refusal_of_connection, b_refusal_of_connection, g_refusal_of_connection⟩
  have F_refusal_of_graph := fun_mk (st := sRefGraph) l23 c23 k23
  have b_refusal_of_graph := F_refusal_of_graph.binds (ps := ["vertex_count", "edges"]) fun _ _ _ _ _ _ us hl => match us, hl with | [_, _], _ => rfl
  have g_refusal_of_graph := PySem.W.mg_of X G a23
  have D_refusal_of_graph : Def K mg "refusal_of_graph" sRefGraph ["vertex_count", "edges"] _ _ := ⟨F_refusal_of_graph, b_refusal_of_graph, g_refusal_of_graph⟩
  have F_longer_ones := fun_mk (st := sLonger) l25 c25 k25
  have b_longer_ones := F_longer_ones.binds (ps := ["found"]) fun _ _ _ _ _ _ us hl => match us, hl with | [_], _ => rfl
  have g_longer_ones := PySem.W.mg_of X G a25
  have D_longer_ones : Def K mg "longer_ones" sLonger ["found"] _ _ := ⟨F_longer_ones, b_longer_ones, g_longer_ones⟩
  have F_configurations := fun_mk (st := sConfigs) l26 c26 k26
  have b_configurations := F_configurations.binds (ps := ["vertex_count", "pebbles"]) fun _ _ _ _ _ _ us hl => match us, hl with | [_, _], _ => rfl
  have g_configurations := PySem.W.mg_of X G a26
  have D_configurations : Def K mg "configurations" sConfigs ["vertex_count", "pebbles"] _ _ := ⟨F_configurations, b_configurations, g_configurations⟩
  have F_after_move := fun_mk (st := sAfter) l27 c27 k27
  have b_after_move := F_after_move.binds (ps := ["configuration", "start", "goal"]) fun _ _ _ _ _ _ us hl => match us, hl with | [_, _, _], _ => rfl
  have g_after_move := PySem.W.mg_of X G a27
  have D_after_move : Def K mg "after_move" sAfter ["configuration", "start", "goal"] _ _ := ⟨F_after_move, b_after_move, g_after_move⟩
  have F_do_moves_stay := fun_mk (st := sStay) l30 c30 k30
  have b_do_moves_stay := F_do_moves_stay.binds (ps := ["neighbours", "configuration", "start", "fewer"]) fun _ _ _ _ _ _ us hl => match us, hl with | [_, _, _, _], _ => rfl
  have g_do_moves_stay := PySem.W.mg_of X G a30
  have D_do_moves_stay : Def K mg "do_moves_stay" sStay ["neighbours", "configuration", "start", "fewer"] _ _ := ⟨F_do_moves_stay, b_do_moves_stay, g_do_moves_stay⟩
  have F_is_unsolvable := fun_mk (st := sIsUns) l31 c31 k31
  have b_is_unsolvable := F_is_unsolvable.binds (ps := ["neighbours", "target", "configuration", "fewer"]) fun _ _ _ _ _ _ us hl => match us, hl with | [_, _, _, _], _ => rfl
  have g_is_unsolvable := PySem.W.mg_of X G a31
  have D_is_unsolvable : Def K mg "is_unsolvable" sIsUns ["neighbours", "target", "configuration", "fewer"] _ _ := ⟨F_is_unsolvable, b_is_unsolvable, g_is_unsolvable⟩
  have F_next_unsolvable := fun_mk (st := sNextUns) l32 c32 k32
  have b_next_unsolvable := F_next_unsolvable.binds (ps := ["neighbours", "target", "pebbles", "before"]) fun _ _ _ _ _ _ us hl => match us, hl with | [_, _, _, _], _ => rfl
  have g_next_unsolvable := PySem.W.mg_of X G a32
  have D_next_unsolvable : Def K mg "next_unsolvable" sNextUns ["neighbours", "target", "pebbles", "before"] _ _ := ⟨F_next_unsolvable, b_next_unsolvable, g_next_unsolvable⟩
  have F_pebbles_always_enough := fun_mk (st := sAlways) l33 c33 k33
  have b_pebbles_always_enough := F_pebbles_always_enough.binds (ps := ["neighbours"]) fun _ _ _ _ _ _ us hl => match us, hl with | [_], _ => rfl
  have g_pebbles_always_enough := PySem.W.mg_of X G a33
  have D_pebbles_always_enough : Def K mg "pebbles_always_enough" sAlways ["neighbours"] _ _ := ⟨F_pebbles_always_enough, b_pebbles_always_enough, g_pebbles_always_enough⟩
  have F_least_enough := fun_mk (st := sLeast) l34 c34 k34
  have b_least_enough := F_least_enough.binds (ps := ["neighbours", "target"]) fun _ _ _ _ _ _ us hl => match us, hl with | [_, _], _ => rfl
  have g_least_enough := PySem.W.mg_of X G a34
  have D_least_enough : Def K mg "least_enough" sLeast ["neighbours", "target"] _ _ := ⟨F_least_enough, b_least_enough, g_least_enough⟩
  have F_graph_pebbling_number := fun_mk (st := sOp) l36 c36 k36
  have b_graph_pebbling_number := F_graph_pebbling_number.binds (ps := ["vertex_count", "edges"]) fun _ _ _ _ _ _ us hl => match us, hl with | [_, _], _ => rfl
  have g_graph_pebbling_number := PySem.W.mg_of X G a36
  have D_graph_pebbling_number : Def K mg "graph_pebbling_number" sOp ["vertex_count", "edges"] _ _ := ⟨F_graph_pebbling_number, b_graph_pebbling_number, g_graph_pebbling_number⟩
  have c_UNREACHED := PySem.W.mg_of X G h_UNREACHED
  have c_MOST_VERTICES := PySem.W.mg_of X G h_MOST_VERTICES
  have c_NONE := PySem.W.mg_of X G h_NONE
  have c_OUTSIDE := PySem.W.mg_of X G h_OUTSIDE
  have c_ABSENT := PySem.W.mg_of X G h_ABSENT
  have c_TOO_WIDE := PySem.W.mg_of X G h_TOO_WIDE
  have c_MOST_DIAMETER := PySem.W.mg_of X G h_MOST_DIAMETER
  have c_ENOUGH_ON_ONE := PySem.W.mg_of X G h_ENOUGH_ON_ONE
  have m_len := PySem.W.mg_none_of X G z_len
  have m_range := PySem.W.mg_none_of X G z_range
  have m_any := PySem.W.mg_none_of X G z_any
  have m_all := PySem.W.mg_none_of X G z_all
  have m_max := PySem.W.mg_none_of X G z_max
  have m_list := PySem.W.mg_none_of X G z_list
  have m_tuple := PySem.W.mg_none_of X G z_tuple
  have TD : TDist K mg _ _ _ _ _ _ _ _ _ := ⟨F_has_neighbour_at, b_has_neighbour_at, g_has_neighbour_at, F_at_start, b_at_start, g_at_start, F_with_next, b_with_next, g_with_next, F_distances_from, b_distances_from, g_distances_from, c_UNREACHED, m_len, m_range, m_any, m_max⟩
  have TG : TGraph K mg _ _ _ _ _ _ _ _ _ _ _ _ _ := ⟨F_pairs_of, b_pairs_of, g_pairs_of, F_is_edge, b_is_edge, g_is_edge, F_are_increasing, b_are_increasing, g_are_increasing, F_are_edges, b_are_edges, g_are_edges, F_is_graph, b_is_graph, g_is_graph, F_neighbours_of, b_neighbours_of, g_neighbours_of, c_MOST_VERTICES, m_len, m_range, m_all⟩
  have TC : TCheck K mg _ _ _ _ _ _ _ _ _ _ _ _ _ := ⟨D_is_connected, D_refusal_of_connection, D_greatest_distance, D_refusal_of_graph, c_NONE, c_OUTSIDE, c_ABSENT, c_TOO_WIDE, c_MOST_DIAMETER⟩
  have TS : TSolve K mg _ _ _ _ _ _ _ _ _ _ _ _ := ⟨D_longer_ones, D_configurations, D_after_move, D_do_moves_stay, D_is_unsolvable, D_next_unsolvable, m_len, m_range, m_all, m_list, m_tuple⟩
  exact ⟨PySem.W.fnOf "graph_pebbling_number" "graph_pebbling_number" (defArgs sOp) (defBody sOp) (defScope sOp) .none kV36 dc36 pm36 an36 cd36 ct36, fun s us hu => match us, hu with | [_, _], _ => .of_eq rfl, fun base _ _ => ok_op F_graph_pebbling_number TG TD TC TS D_least_enough D_pebbles_always_enough c_ENOUGH_ON_ONE⟩
end Pm
open PySem PySem.W PyProof.Rows
set_option maxRecDepth 100000 in
set_option maxHeartbeats 0 in
theorem PySem.Challenge.cw_pebblemoves_s02_graph_pebbling_number_holds : PySem.Challenge.rw_pebblemoves_s02_graph_pebbling_number.Holds := by
  w_on; k_headS; (case hw => exact ⟨[.int 1, .list []], by decide +kernel, by decide +kernel⟩)
  k_fillS
  refine L2.walk_specK (r := PySem.Challenge.rw_pebblemoves_s02_graph_pebbling_number) (k := 8) (CX := L2.CX0) (ps := ["vertex_count", "edges"]) (sp := Pm.spOp) (by decide +kernel) rfl rfl ⟨rfl, by decide, by decide⟩ (fun w h Y => PySem.W.kIn_of Y) ?F ?S (fun _ _ _ _ z => z)
  case F =>
    intro w mg fa h Y KX G hmg
    refine' Pm.all_mk KX G hmg ?a2 ?l2 ?c2 ?k2 ?a3 ?l3 ?c3 ?k3 ?a4 ?l4 ?c4 ?k4 ?a5 ?l5 ?c5 ?k5 ?a6 ?l6 ?c6 ?k6 ?a7 ?l7 ?c7 ?k7 ?a10 ?l10 ?c10 ?k10 ?a11 ?l11 ?c11 ?k11 ?a12 ?l12 ?c12 ?k12 ?a13 ?l13 ?c13 ?k13 ?a14 ?l14 ?c14 ?k14 ?a15 ?l15 ?c15 ?k15 ?a22 ?l22 ?c22 ?k22 ?a23 ?l23 ?c23 ?k23 ?a25 ?l25 ?c25 ?k25 ?a26 ?l26 ?c26 ?k26 ?a27 ?l27 ?c27 ?k27 ?a30 ?l30 ?c30 ?k30 ?a31 ?l31 ?c31 ?k31 ?a32 ?l32 ?c32 ?k32 ?a33 ?l33 ?c33 ?k33 ?a34 ?l34 ?c34 ?k34 ?a36 ?l36 ?c36 ?k36 ?h_UNREACHED ?h_MOST_VERTICES ?h_NONE ?h_OUTSIDE ?h_ABSENT ?h_TOO_WIDE ?h_MOST_DIAMETER ?h_ENOUGH_ON_ONE ?z_len ?z_range ?z_any ?z_all ?z_max ?z_list ?z_tuple
    (case a2 => k_is); (case l2 => k_is); (case c2 => k_is); (case k2 => k_is); (case a3 => k_is); (case l3 => k_is); (case c3 => k_is); (case k3 => k_is)
    (case a4 => k_is); (case l4 => k_is); (case c4 => k_is); (case k4 => k_is); (case a5 => k_is); (case l5 => k_is); (case c5 => k_is); (case k5 => k_is)
    (case a6 => k_is); (case l6 => k_is); (case c6 => k_is); (case k6 => k_is); (case a7 => k_is); (case l7 => k_is); (case c7 => k_is); (case k7 => k_is)
    (case a10 => k_is); (case l10 => k_is); (case c10 => k_is); (case k10 => k_is); (case a11 => k_is); (case l11 => k_is); (case c11 => k_is); (case k11 => k_is)
    (case a12 => k_is); (case l12 => k_is); (case c12 => k_is); (case k12 => k_is); (case a13 => k_is); (case l13 => k_is); (case c13 => k_is); (case k13 => k_is)
    (case a14 => k_is); (case l14 => k_is); (case c14 => k_is); (case k14 => k_is); (case a15 => k_is); (case l15 => k_is); (case c15 => k_is); (case k15 => k_is)
    (case a22 => k_is); (case l22 => k_is); (case c22 => k_is); (case k22 => k_is); (case a23 => k_is); (case l23 => k_is); (case c23 => k_is); (case k23 => k_is)
    (case a25 => k_is); (case l25 => k_is); (case c25 => k_is); (case k25 => k_is); (case a26 => k_is); (case l26 => k_is); (case c26 => k_is); (case k26 => k_is)
    (case a27 => k_is); (case l27 => k_is); (case c27 => k_is); (case k27 => k_is); (case a30 => k_is); (case l30 => k_is); (case c30 => k_is); (case k30 => k_is)
    (case a31 => k_is); (case l31 => k_is); (case c31 => k_is); (case k31 => k_is); (case a32 => k_is); (case l32 => k_is); (case c32 => k_is); (case k32 => k_is)
    (case a33 => k_is); (case l33 => k_is); (case c33 => k_is); (case k33 => k_is); (case a34 => k_is); (case l34 => k_is); (case c34 => k_is); (case k34 => k_is)
    (case a36 => k_is); (case l36 => k_is); (case c36 => k_is); (case k36 => k_is); (case h_UNREACHED => k_is); (case h_MOST_VERTICES => k_is); (case h_NONE => k_is); (case h_OUTSIDE => k_is)
    (case h_ABSENT => k_is); (case h_TOO_WIDE => k_is); (case h_MOST_DIAMETER => k_is); (case h_ENOUGH_ON_ONE => k_is); (case z_len => k_is); (case z_range => k_is); (case z_any => k_is); (case z_all => k_is)
    (case z_max => k_is); (case z_list => k_is); (case z_tuple => k_is)
  case S =>
    intro K H xs a hO hwi hask hx
    cases hx with
    | cons h1 hx =>
      cases h1
      cases hx with
      | cons h2 h3 =>
        cases h3
        cases h2 with
        | lst hs ha =>
          have e := L2.ints_dw a.2.1 _ ha
          subst e
          have q : (Codec.inInt 0 4294967295 a.1 && ((Codec.inLen 0 22 a.2.1 && a.2.1.all (Codec.inInt 0 4294967295)) && true)) = true := hwi
          simp only [Bool.and_eq_true] at q
          obtain ⟨n, h_n⟩ := Pm.nat_of q.1
          obtain ⟨es, hes⟩ := Pm.nats_of q.2.1.2
          have hlen : a.2.1.length ≤ 22 := (Codec.inNat_iff.mp q.2.1.1).2
          have e2 : (a.2.1.map L2.V.int) = es.map Pm.vN := by
            rw [hes, List.map_map]
            rfl
          rw [e2] at hs
          refine ⟨n, _, es, by rw [h_n], hs, by rw [hes, List.length_map] at hlen; omega, fun H' r hp => ?_⟩
          rw [← PmM.opGraphNumber_is] at hp
          show L2.Dw K H' (.ref r) (WData.list ((PyKs578.graph_pebbling_number a.1 a.2.1).map WData.int))
          rw [h_n, hes]
          exact .lst (L2.SqL.of hp) (L2.dw_ints _)
#print axioms PySem.Challenge.cw_pebblemoves_s02_graph_pebbling_number_holds

