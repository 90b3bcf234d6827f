import PyProof.Rows.All
import Wide.All
import OpenK.AllK
import Wide.FinOn
import Open.SpecLaws
import KE.OsGo
import HandS.ForSpec
import HandS.Comp
import HandS.Dict
import HandS.Iter
import HandS.Conv
import HandS.NoneIn
import HandS.TupAny
import HandS.CallLocal
import HandS.Deep
import HandS.Evl
import HandS.Walk
import PySem.Challenge.RW_flowmoves_s01_answers
import KE.KDictCopyH
set_option Elab.async false
set_option linter.all false
set_option maxRecDepth 100000
set_option maxHeartbeats 2000000
namespace FM
open Su203

/-! ### general lists -/
theorem getD_set_self {l : List Nat} {i v d : Nat} (h : i < l.length) : (l.set i v).getD i d = v := by
  simp [List.getD, h]
theorem getD_set_ne {l : List Nat} {i j v d : Nat} (h : i ≠ j) : (l.set i v).getD j d = l.getD j d := by
  simp [List.getD, List.getElem?_set_ne h]
theorem ext_getD {l m : List Nat} (hl : l.length = m.length) (h : ∀ i, i < l.length → l.getD i 0 = m.getD i 0) : l = m := by
  apply List.ext_getElem hl
  intro i h1 h2
  have := h i h1
  simpa [List.getD, h1, h2] using this
theorem getD_of_get {l : List Nat} {i v : Nat} (h : l[i]? = some v) : l.getD i 0 = v := by simp [List.getD, h]
theorem get_of_lt {l : List Nat} {i : Nat} (h : i < l.length) : l[i]? = some (l.getD i 0) := by simp [List.getD, h]

/-- a sum over a range where one place changes -/
theorem sum_range_change (n f : Nat) (hf : f < n) (g h : Nat → Nat) (e : ∀ i, i < n → i ≠ f → g i = h i) :
    ((List.range n).map g).sum + h f = ((List.range n).map h).sum + g f := by
  induction n with
  | zero => omega
  | succ n ih =>
    rw [List.range_succ, List.map_append, List.map_append, List.sum_append, List.sum_append]
    simp only [List.map_cons, List.map_nil, List.sum_cons, List.sum_nil, Nat.add_zero]
    by_cases hn : f = n
    · subst hn
      have : (List.range f).map g = (List.range f).map h := by
        apply List.map_congr_left
        intro i hi
        have := List.mem_range.mp hi
        exact e i (by omega) (by omega)
      rw [this]; omega
    · have h1 := ih (by omega) (fun i hi hne => e i (by omega) hne)
      have h2 := e n (by omega) (fun z => hn z.symm)
      omega
theorem sum_range_congr (n : Nat) (g h : Nat → Nat) (e : ∀ i, i < n → g i = h i) : ((List.range n).map g).sum = ((List.range n).map h).sum := by
  congr 1
  exact List.map_congr_left fun i hi => e i (List.mem_range.mp hi)

/-! ### the network -/
variable {w : Network} {s : List Nat}
/-- what holds of a network that the program has -/
structure WF (w : Network) : Prop where
  nodes : 2 ≤ w.nodes ∧ w.nodes ≤ 6
  nl : w.links.length ≤ 10
  nf : w.flows.length ≤ 5
  pl : ∀ fl ∈ w.flows, fl.pathLinks.length = fl.pathNodes.length ∧ fl.pathLinks.length ≤ 3
  lk : ∀ fl ∈ w.flows, ∀ p ∈ fl.pathLinks, p.length ≤ 8 ∧ ∀ i ∈ p, i < w.links.length
  nd : ∀ fl ∈ w.flows, ∀ p ∈ fl.pathNodes, p.length ≤ 8
  la : w.assignment.length = w.flows.length
  ab : ∀ f, f < w.flows.length → w.assignment.getD f 0 ≤ (w.flow f).pathLinks.length
  fe : w.isFeasible w.assignment = true
/-- an assignment's form -/
structure Shaped (w : Network) (s : List Nat) : Prop where
  len : s.length = w.flows.length
  le : ∀ f, f < w.flows.length → s.getD f 0 ≤ (w.flow f).pathLinks.length
structure Cand (w : Network) (s : List Nat) : Prop where
  sh : Shaped w s
  ze : ∀ f, f < w.flows.length → (s.getD f 0 = 0 ↔ w.assignment.getD f 0 = 0)
  fe : w.isFeasible s = true

theorem WF.shaped (h : WF w) : Shaped w w.assignment := ⟨h.la, h.ab⟩
theorem WF.cand (h : WF w) : Cand w w.assignment := ⟨h.shaped, fun _ _ => Iff.rfl, h.fe⟩

theorem flow_mem {f : Nat} (h : f < w.flows.length) : w.flow f ∈ w.flows := by
  unfold Network.flow
  rw [List.getD_eq_getElem?_getD, List.getElem?_eq_getElem h]
  exact List.getElem_mem h
theorem flow_get {f : Nat} (h : f < w.flows.length) : w.flows[f]? = some (w.flow f) := by
  unfold Network.flow
  (rw [List.getD_eq_getElem?_getD, List.getElem?_eq_getElem h]; rfl)
theorem link_get {i : Nat} (h : i < w.links.length) : w.links[i]? = some (w.link i) := by
  unfold Network.link
  (rw [List.getD_eq_getElem?_getD, List.getElem?_eq_getElem h]; rfl)

/-- a flow's part in a link's load -/
def fpart (w : Network) (f p i : Nat) : Nat := if (w.usedLinks f p).contains i = true then (w.flow f).demand else 0
theorem load_eq (w : Network) (s : List Nat) (i : Nat) : w.load s i = ((List.range w.flows.length).map fun f => fpart w f (s.getD f 0) i).sum := rfl
theorem load_set {f p : Nat} (hf : f < w.flows.length) (hl : s.length = w.flows.length) (i : Nat) :
    w.load (s.set f p) i + fpart w f (s.getD f 0) i = w.load s i + fpart w f p i := by
  rw [load_eq, load_eq]
  have h := sum_range_change w.flows.length f hf (fun g => fpart w g ((s.set f p).getD g 0) i) (fun g => fpart w g (s.getD g 0) i) (fun g _ hg => by
    show fpart w g ((s.set f p).getD g 0) i = fpart w g (s.getD g 0) i
    rw [getD_set_ne (Ne.symm hg)])
  have e : (s.set f p).getD f 0 = p := getD_set_self (by omega)
  simp only [e] at h
  exact h

theorem feasible_iff : w.isFeasible s = true ↔ ∀ i, i < w.links.length → w.load s i ≤ (w.link i).capacity := by
  unfold Network.isFeasible
  rw [List.all_eq_true]
  constructor
  · intro h i hi
    exact of_decide_eq_true (h i (List.mem_range.mpr hi))
  · intro h i hi
    exact decide_eq_true (h i (List.mem_range.mp hi))
theorem usedLinks_lt (h : WF w) {f p : Nat} (hf : f < w.flows.length) : ∀ i ∈ w.usedLinks f p, i < w.links.length := by
  intro i hi
  unfold Network.usedLinks at hi
  split at hi
  · simp at hi
  · rw [List.getD_eq_getElem?_getD] at hi
    cases e : (w.flow f).pathLinks[p - 1]? with
    | none => rw [e] at hi; simp at hi
    | some l =>
      rw [e] at hi
      exact (h.lk _ (flow_mem hf) l (List.mem_of_getElem? e)).2 i hi

/-- what a move asks -/
theorem canMove_iff {f p : Nat} : w.canMove s f p = true ↔ s.getD f 0 ≠ 0 ∧ p ≠ 0 ∧ p ≤ (w.flow f).pathLinks.length ∧ s.getD f 0 ≠ p ∧
    ∀ i ∈ w.usedLinks f p, i ∈ w.usedLinks f (s.getD f 0) ∨ w.load s i + (w.flow f).demand ≤ (w.link i).capacity := by
  unfold Network.canMove
  simp only [Bool.and_eq_true, bne_iff_ne, ne_eq, decide_eq_true_eq, List.all_eq_true, Bool.or_eq_true, List.contains_iff_mem]

theorem fpart_mem {f p i : Nat} (h : i ∈ w.usedLinks f p) : fpart w f p i = (w.flow f).demand := by
  unfold fpart; rw [if_pos (by rw [List.contains_iff_mem]; exact h)]
theorem fpart_not {f p i : Nat} (h : i ∉ w.usedLinks f p) : fpart w f p i = 0 := by
  unfold fpart; rw [if_neg (by rw [List.contains_iff_mem]; exact h)]

theorem move_feasible {f p : Nat} (hf : f < w.flows.length) (hl : s.length = w.flows.length) (hs : w.isFeasible s = true) (hm : w.canMove s f p = true) : w.isFeasible (s.set f p) = true := by
  rw [feasible_iff] at hs ⊢
  intro i hi
  obtain ⟨_, _, _, _, ha⟩ := canMove_iff.mp hm
  have h1 := load_set (w := w) (s := s) (p := p) hf hl i
  have h2 := hs i hi
  by_cases hn : i ∈ w.usedLinks f p
  · rw [fpart_mem hn] at h1
    rcases ha i hn with ho | hc
    · rw [fpart_mem ho] at h1; omega
    · omega
  · rw [fpart_not hn] at h1; omega
theorem move_back {f p : Nat} (hw : WF w) (hf : f < w.flows.length) (hsh : Shaped w s) (hs : w.isFeasible s = true) (hm : w.canMove s f p = true) : w.canMove (s.set f p) f (s.getD f 0) = true := by
  obtain ⟨h0, hp, hle, hne, ha⟩ := canMove_iff.mp hm
  have e : (s.set f p).getD f 0 = p := getD_set_self (by have := hsh.len; omega)
  rw [canMove_iff, e]
  refine ⟨hp, h0, hsh.le f hf, Ne.symm hne, fun i hi => ?_⟩
  by_cases hn : i ∈ w.usedLinks f p
  · exact .inl hn
  · refine .inr ?_
    have h1 := load_set (w := w) (s := s) (p := p) hf hsh.len i
    rw [fpart_not hn, fpart_mem hi] at h1
    have h2 := feasible_iff.mp hs i (usedLinks_lt hw hf i hi)
    omega

/-- placing: the room on each link is what feasible asks -/
theorem place_iff (hw : WF w) {f p : Nat} (hf : f < w.flows.length) (h0 : w.assignment.getD f 0 = 0) :
    w.isFeasible (w.assignment.set f (p + 1)) = true ↔ ∀ i ∈ w.usedLinks f (p + 1), w.load w.assignment i + (w.flow f).demand ≤ (w.link i).capacity := by
  have hu : w.usedLinks f 0 = [] := by unfold Network.usedLinks; rw [if_pos rfl]
  have key : ∀ i, w.load (w.assignment.set f (p + 1)) i = w.load w.assignment i + fpart w f (p + 1) i := fun i => by
    have h1 := load_set (w := w) (s := w.assignment) (p := p + 1) hf hw.la i
    rw [h0, fpart_not (by rw [hu]; simp)] at h1
    omega
  constructor
  · intro h i hi
    have h2 := feasible_iff.mp h i (usedLinks_lt hw hf i hi)
    rw [key, fpart_mem hi] at h2
    exact h2
  · intro h
    rw [feasible_iff]
    intro i hi
    rw [key]
    by_cases hn : i ∈ w.usedLinks f (p + 1)
    · rw [fpart_mem hn]; exact h i hn
    · rw [fpart_not hn]; exact feasible_iff.mp hw.fe i hi

/-! ### moves -/
/-- the program's moves: flow and path -/
def pmoves (w : Network) (s : List Nat) : List (Nat × Nat) := w.flowIndices.flatMap fun f => ((List.range (w.flow f).pathLinks.length).filter fun p => w.canMove s f (p + 1)).map fun p => (f, p)
theorem moves_eq : w.moves s = (pmoves w s).map fun m => (m.1, m.2 + 1) := by
  unfold Network.moves pmoves
  rw [List.map_flatMap]
  congr 1
  funext f
  rw [List.map_map]
  rfl
theorem mem_moves {m : Nat × Nat} : m ∈ w.moves s ↔ m.1 < w.flows.length ∧ w.canMove s m.1 m.2 = true := by
  unfold Network.moves Network.flowIndices
  simp only [List.mem_flatMap, List.mem_range, List.mem_map, List.mem_filter]
  constructor
  · rintro ⟨f, hf, p, ⟨hp, hc⟩, rfl⟩
    exact ⟨hf, hc⟩
  · rintro ⟨hf, hc⟩
    obtain ⟨_, h0, hle, _, _⟩ := canMove_iff.mp hc
    refine ⟨m.1, hf, m.2 - 1, ⟨by omega, ?_⟩, ?_⟩
    · rw [Nat.sub_add_cancel (by omega)]; exact hc
    · rw [Nat.sub_add_cancel (by omega)]
theorem mem_pmoves {m : Nat × Nat} : m ∈ pmoves w s ↔ m.1 < w.flows.length ∧ w.canMove s m.1 (m.2 + 1) = true := by
  have : m ∈ pmoves w s ↔ (m.1, m.2 + 1) ∈ w.moves s := by
    rw [moves_eq, List.mem_map]
    constructor
    · intro h; exact ⟨m, h, rfl⟩
    · rintro ⟨a, ha, e⟩
      have e1 : a.1 = m.1 := (Prod.mk.inj e).1
      have e2 : a.2 + 1 = m.2 + 1 := (Prod.mk.inj e).2
      have : a = m := Prod.ext e1 (by omega)
      rw [← this]; exact ha
  rw [this, mem_moves]
theorem flatMap_le {α β : Type} (b : Nat) (f : α → List β) : ∀ (l : List α), (∀ x ∈ l, (f x).length ≤ b) → (l.flatMap f).length ≤ l.length * b
  | [], _ => by simp
  | x :: r, h => by
    rw [List.flatMap_cons, List.length_append, List.length_cons, Nat.succ_mul]
    have h1 := flatMap_le b f r fun y hy => h y (List.mem_cons_of_mem _ hy)
    have h2 := h x List.mem_cons_self
    omega
theorem pmoves_le (hw : WF w) : (pmoves w s).length ≤ 15 := by
  have h := flatMap_le 3 (fun f => ((List.range (w.flow f).pathLinks.length).filter fun p => w.canMove s f (p + 1)).map fun p => (f, p)) w.flowIndices (fun f hf => by
    have hf' : f < w.flows.length := List.mem_range.mp hf
    rw [List.length_map]
    refine Nat.le_trans (List.length_filter_le _ _) ?_
    rw [List.length_range]
    exact (hw.pl _ (flow_mem hf')).2)
  have h2 : w.flowIndices.length = w.flows.length := by unfold Network.flowIndices; rw [List.length_range]
  have := hw.nf
  unfold pmoves
  omega

/-- the assignments one move away -/
def nb (w : Network) (s : List Nat) : List (List Nat) := (w.moves s).map fun m => applyMove s m
theorem nb_eq : nb w s = (pmoves w s).map fun m => s.set m.1 (m.2 + 1) := by
  unfold nb
  rw [moves_eq, List.map_map]
  rfl
theorem nb_le (hw : WF w) : (nb w s).length ≤ 15 := by rw [nb_eq, List.length_map]; exact pmoves_le hw
theorem mem_nb {t : List Nat} : t ∈ nb w s ↔ ∃ f p, f < w.flows.length ∧ w.canMove s f p = true ∧ t = s.set f p := by
  unfold nb
  rw [List.mem_map]
  constructor
  · rintro ⟨m, hm, rfl⟩
    obtain ⟨h1, h2⟩ := mem_moves.mp hm
    exact ⟨m.1, m.2, h1, h2, rfl⟩
  · rintro ⟨f, p, h1, h2, rfl⟩
    exact ⟨(f, p), mem_moves.mpr ⟨h1, h2⟩, rfl⟩
theorem set_back {f p : Nat} (hf : f < s.length) : (s.set f p).set f (s.getD f 0) = s := by
  apply ext_getD
  · simp
  · intro i hi
    by_cases h : f = i
    · subst h
      rw [getD_set_self (by simpa using hf)]
    · rw [getD_set_ne h, getD_set_ne h]
theorem cand_move {f p : Nat} (hf : f < w.flows.length) (hc : Cand w s) (hm : w.canMove s f p = true) : Cand w (s.set f p) := by
  obtain ⟨h0, hp, hle, hne, _⟩ := canMove_iff.mp hm
  have hl := hc.sh.len
  refine ⟨⟨by rw [List.length_set]; exact hl, fun g hg => ?_⟩, fun g hg => ?_, move_feasible hf hl hc.fe hm⟩
  · by_cases e : f = g
    · subst e; rw [getD_set_self (by omega)]; exact hle
    · rw [getD_set_ne e]; exact hc.sh.le g hg
  · by_cases e : f = g
    · subst e
      rw [getD_set_self (by omega)]
      have := hc.ze f hf
      constructor
      · intro z; exact absurd z hp
      · intro z; exact absurd (this.mpr z) h0
    · rw [getD_set_ne e]; exact hc.ze g hg
theorem cand_nb {t : List Nat} (hc : Cand w s) (ht : t ∈ nb w s) : Cand w t := by
  obtain ⟨f, p, hf, hm, rfl⟩ := mem_nb.mp ht
  exact cand_move hf hc hm
theorem nb_symm {t : List Nat} (hw : WF w) (hc : Cand w s) (ht : t ∈ nb w s) : s ∈ nb w t := by
  obtain ⟨f, p, hf, hm, rfl⟩ := mem_nb.mp ht
  refine mem_nb.mpr ⟨f, s.getD f 0, hf, move_back hw hf hc.sh hc.fe hm, ?_⟩
  rw [set_back (by rw [hc.sh.len]; exact hf)]
end FM
namespace FM
open Su203
/-- room on each link that is new -/
def hasRoom (w : Network) (s : List Nat) (f p : Nat) : Bool := (w.usedLinks f (p + 1)).all fun i => (w.usedLinks f (s.getD f 0)).contains i || decide (w.load s i + (w.flow f).demand ≤ (w.link i).capacity)
theorem canMove_eq {w : Network} {s : List Nat} {f p : Nat} (hp : p < (w.flow f).pathLinks.length) : w.canMove s f (p + 1) = (!(decide (s.getD f 0 = 0) || decide (s.getD f 0 = p + 1)) && hasRoom w s f p) := by
  unfold Network.canMove hasRoom
  have h1 : (p + 1 != 0) = true := by simp
  have h2 : decide (p + 1 ≤ (w.flow f).pathLinks.length) = true := decide_eq_true hp
  rw [h1, h2, Bool.true_and, Bool.true_and, Bool.not_or, Bool.and_assoc]
  have e1 : (s.getD f 0 != 0) = !decide (s.getD f 0 = 0) := by
    by_cases h : s.getD f 0 = 0
    · rw [h]; rfl
    · rw [decide_eq_false h]; simpa using h
  have e2 : (s.getD f 0 != p + 1) = !decide (s.getD f 0 = p + 1) := by
    by_cases h : s.getD f 0 = p + 1
    · rw [h]; simp
    · rw [decide_eq_false h]; simpa using h
  rw [e1, e2]
theorem hasRoom_place {w : Network} (hw : WF w) {f p : Nat} (hf : f < w.flows.length) (h0 : w.assignment.getD f 0 = 0) : hasRoom w w.assignment f p = w.isFeasible (w.assignment.set f (p + 1)) := by
  rw [Bool.eq_iff_iff, place_iff hw hf h0]
  unfold hasRoom
  rw [List.all_eq_true]
  have hu : w.usedLinks f (w.assignment.getD f 0) = [] := by rw [h0]; unfold Network.usedLinks; rw [if_pos rfl]
  rw [hu]
  constructor
  · intro h i hi
    have := h i hi
    simpa using this
  · intro h i hi
    have := h i hi
    simpa using this
/-- a list of moves that grows: flow by flow, path by path -/
def movesOf (w : Network) (s : List Nat) (f j : Nat) : List (Nat × Nat) := ((List.range j).filter fun p => w.canMove s f (p + 1)).map fun p => (f, p)
def movesTo (w : Network) (s : List Nat) (i : Nat) : List (Nat × Nat) := (List.range i).flatMap fun f => movesOf w s f (w.flow f).pathLinks.length
theorem movesTo_succ (w : Network) (s : List Nat) (i : Nat) : movesTo w s (i + 1) = movesTo w s i ++ movesOf w s i (w.flow i).pathLinks.length := by
  unfold movesTo
  rw [List.range_succ, List.flatMap_append, List.flatMap_singleton]
theorem movesOf_succ (w : Network) (s : List Nat) (f j : Nat) : movesOf w s f (j + 1) = movesOf w s f j ++ (if w.canMove s f (j + 1) = true then [(f, j)] else []) := by
  unfold movesOf
  rw [List.range_succ, List.filter_append, List.map_append]
  congr 1
  rw [List.filter_cons]
  split <;> rfl
theorem movesTo_all (w : Network) (s : List Nat) : movesTo w s w.flows.length = pmoves w s := rfl
theorem movesOf_le (w : Network) (s : List Nat) (f j : Nat) : (movesOf w s f j).length ≤ j := by
  unfold movesOf
  rw [List.length_map]
  have := List.length_filter_le (fun p => w.canMove s f (p + 1)) (List.range j)
  rw [List.length_range] at this
  exact this
theorem movesTo_le {w : Network} (hw : WF w) (s : List Nat) {i : Nat} (hi : i ≤ w.flows.length) : (movesTo w s i).length ≤ 15 := by
  have h := flatMap_le 3 (fun f => movesOf w s f (w.flow f).pathLinks.length) (List.range i) (fun f hf => by
    have hf' : f < w.flows.length := by have := List.mem_range.mp hf; omega
    exact Nat.le_trans (movesOf_le _ _ _ _) (hw.pl _ (flow_mem hf')).2)
  rw [List.length_range] at h
  have := hw.nf
  unfold movesTo
  omega
theorem set_cut {s : List Nat} {f n : Nat} (hf : f < s.length) : s.take f ++ [n] ++ s.drop (f + 1) = s.set f n := by
  rw [List.set_eq_take_append_cons_drop, if_pos hf, List.append_assoc, List.singleton_append]
end FM

namespace FM
open Su203
variable {w : Network}
/-! ### links between nodes, paths -/
def linkNo (w : Network) (u v : Nat) : Int := match w.linkBetween u v with
  | some i => (i : Int)
  | none => -1
def joins (l : Link) (u v : Nat) : Bool := (l.endA == u && l.endB == v) || (l.endA == v && l.endB == u)
theorem linkNo_at {u v i : Nat} (hi : i < w.links.length) (h : joins (w.link i) u v = true) (hb : ∀ j, j < i → joins (w.link j) u v = false) : linkNo w u v = (i : Int) := by
  have e : w.linkBetween u v = some i := by
    unfold Network.linkBetween
    rw [List.findIdx?_eq_some_iff_getElem]
    have ge : ∀ j (hj : j < w.links.length), w.links[j] = w.link j := fun j hj => by
      have h := link_get hj
      rw [List.getElem?_eq_getElem hj] at h
      exact Option.some.inj h
    refine ⟨hi, ?_, fun j hj => ?_⟩
    · rw [ge i hi]; exact h
    · rw [ge j (by omega)]
      have := hb j hj
      unfold joins at this
      rw [this]
      exact Bool.false_ne_true
  unfold linkNo
  rw [e]
theorem linkNo_none {u v : Nat} (hb : ∀ j, j < w.links.length → joins (w.link j) u v = false) : linkNo w u v = -1 := by
  have e : w.linkBetween u v = none := by
    unfold Network.linkBetween
    rw [List.findIdx?_eq_none_iff]
    intro l hl
    obtain ⟨j, hj⟩ := List.getElem?_of_mem hl
    have hjl := (List.getElem?_eq_some_iff.mp hj).1
    rw [link_get hjl] at hj
    cases hj
    exact hb j hjl
  unfold linkNo
  rw [e]
theorem linkNo_none_iff {u v : Nat} : linkNo w u v = -1 ↔ w.linkBetween u v = none := by
  unfold linkNo
  cases w.linkBetween u v with
  | none => simp
  | some i => simp
/-- the route of a list of nodes -/
def routeL (w : Network) (l : List Nat) : List Int := (List.range (l.length - 1)).map fun i => linkNo w (l.getD i 0) (l.getD (i + 1) 0)
theorem routeL_cons (u v : Nat) (l : List Nat) : routeL w (u :: v :: l) = linkNo w u v :: routeL w (v :: l) := by
  unfold routeL
  have e : (u :: v :: l).length - 1 = (v :: l).length - 1 + 1 := by simp
  (rw [e, List.range_succ_eq_map, List.map_cons, List.map_map])
  rfl
theorem routeL_along : ∀ l : List Nat, (-1 ∉ routeL w l ↔ (w.linksAlong l).isSome = true) ∧ ∀ k, w.linksAlong l = some k → routeL w l = k.map fun (i : Nat) => (i : Int)
  | [] => by
    refine ⟨by simp [routeL, Network.linksAlong], fun k hk => ?_⟩
    simp [Network.linksAlong] at hk
    subst hk
    rfl
  | [u] => by
    refine ⟨by simp [routeL, Network.linksAlong], fun k hk => ?_⟩
    simp [Network.linksAlong] at hk
    subst hk
    rfl
  | u :: v :: l => by
    obtain ⟨h1, h2⟩ := routeL_along (v :: l)
    rw [routeL_cons]
    unfold Network.linksAlong
    cases e : w.linkBetween u v with
    | none =>
      have : linkNo w u v = -1 := linkNo_none_iff.mpr e
      rw [this]
      refine ⟨by simp, fun k hk => by simp at hk⟩
    | some i =>
      have hi : linkNo w u v = (i : Int) := by unfold linkNo; rw [e]
      rw [hi]
      cases e2 : w.linksAlong (v :: l) with
      | none =>
        rw [e2] at h1
        refine ⟨?_, fun k hk => by simp at hk⟩
        have : ¬ -1 ∉ routeL w (v :: l) := fun z => by have := h1.mp z; simp at this
        constructor
        · intro z
          exact absurd (fun q => z (List.mem_cons_of_mem _ q)) this
        · intro z; simp at z
      | some k =>
        rw [e2] at h1
        have := h1.mpr rfl
        refine ⟨⟨fun _ => rfl, fun _ z => ?_⟩, fun k' hk => ?_⟩
        · (rcases List.mem_cons.mp z with z | z)
          · omega
          · exact this z
        · have hk' : i :: k = k' := by simpa using hk
          rw [← hk', h2 k e2]
          rfl
theorem cont_neg1 (l : List Int) : (!l.contains (-1)) = decide (-1 ∉ l) := by
  by_cases h : -1 ∈ l
  · simp [h]
  · simp [h]
theorem routeL_some (l : List Nat) : (!(routeL w l).contains (-1)) = (w.linksAlong l).isSome := by
  rw [cont_neg1, Bool.eq_iff_iff, decide_eq_true_eq]
  exact (routeL_along l).1
/-- no node twice -/
def allDiff (l : List Nat) : Bool := ((List.range l.length).map fun i => !(l.take i).contains (l.getD i 0)).all id
theorem allDiff_eq (l : List Nat) : allDiff l = decide l.Nodup := by
  (rw [Bool.eq_iff_iff, decide_eq_true_eq])
  unfold allDiff
  rw [List.all_map, List.all_eq_true]
  constructor
  · intro h
    rw [List.nodup_iff_pairwise_ne, List.pairwise_iff_getElem]
    intro i j hi hj hij e
    have := h j (List.mem_range.mpr hj)
    simp only [Function.comp_def, id, Bool.not_eq_true'] at this
    rw [← Bool.not_eq_true, List.contains_iff_mem] at this
    apply this
    rw [List.mem_take_iff_getElem]
    refine ⟨i, by omega, ?_⟩
    rw [e]
    simp [List.getD, hj]
  · intro h i hi
    have hi' := (List.mem_range.mp hi)
    simp only [Function.comp_def, id, Bool.not_eq_true']
    rw [← Bool.not_eq_true, List.contains_iff_mem, List.mem_take_iff_getElem]
    rintro ⟨j, hj, e⟩
    have hjl : j < l.length := by omega
    have e2 : l.getD i 0 = l[i] := by simp [List.getD, hi']
    rw [e2] at e
    rw [List.nodup_iff_pairwise_ne, List.pairwise_iff_getElem] at h
    exact h j i hjl hi' (by omega) e
theorem some_beq (a b : Nat) : (some a == some b) = !decide (a ≠ b) := by
  by_cases h : a = b
  · subst h; simp
  · simp [h]
theorem isPath_eq (f : Nat) (l : List Nat) : w.isPath f l = (!(decide (l.length < 2) || !allDiff l) && (!(decide (l.getD 0 0 ≠ (w.flow f).source) || decide (l.getD (l.length - 1) 0 ≠ (w.flow f).destination)) && !(routeL w l).contains (-1))) := by
  unfold Network.isPath
  rw [routeL_some, allDiff_eq]
  by_cases h2 : l.length < 2
  · rw [decide_eq_true h2, decide_eq_false (show ¬ 2 ≤ l.length by omega)]
    rfl
  · rw [decide_eq_false h2, decide_eq_true (show 2 ≤ l.length by omega), Bool.true_and, Bool.false_or, Bool.not_not]
    congr 1
    have e1 : (l.head? == some (w.flow f).source) = !decide (l.getD 0 0 ≠ (w.flow f).source) := by
      cases l with
      | nil => simp at h2
      | cons a r => exact some_beq _ _
    have e2 : (l.getLast? == some (w.flow f).destination) = !decide (l.getD (l.length - 1) 0 ≠ (w.flow f).destination) := by
      rw [List.getLast?_eq_getElem?]
      have hlt : l.length - 1 < l.length := by omega
      have : l[l.length - 1]? = some (l.getD (l.length - 1) 0) := get_of_lt hlt
      rw [this]
      exact some_beq _ _
    rw [e1, e2, Bool.not_or, Bool.and_assoc]
end FM

namespace FM
open Su203
variable {w : Network} {s t : List Nat}

/-! ### candidates -/
/-- the numbers that a flow may have -/
def opts (w : Network) (a : List Nat) (f : Nat) : List Nat := if a.getD f 0 = 0 then [0] else (List.range (w.flow f).pathLinks.length).map fun p => p + 1
theorem enum_cons (f : Nat) (l a : List Nat) : enumerateAssignments w (f :: l) a = (opts w a f).flatMap fun p => (enumerateAssignments w l a).map fun r => p :: r := rfl
/-- one flow more, at the end -/
def grow (w : Network) (a : List Nat) (f : Nat) (found : List (List Nat)) : List (List Nat) := found.flatMap fun b => (opts w a f).map fun p => b ++ [p]
def growTo (w : Network) (a : List Nat) : Nat → List (List Nat)
  | 0 => [[]]
  | i + 1 => grow w a i (growTo w a i)
theorem grow_all (a : List Nat) : ∀ (fs : List Nat) (found : List (List Nat)), fs.foldl (fun acc f => grow w a f acc) found = found.flatMap fun b => (enumerateAssignments w fs a).map fun r => b ++ r
  | [], found => by
    show found = found.flatMap fun b => [b ++ []]
    simp
  | f :: fs, found => by
    rw [List.foldl_cons, grow_all a fs, enum_cons]
    unfold grow
    rw [List.flatMap_assoc]
    congr 1
    funext b
    rw [List.map_flatMap, List.flatMap_map]
    congr 1
    funext p
    rw [List.map_map]
    congr 1
    funext r
    simp
theorem growTo_eq (a : List Nat) : ∀ n, growTo w a n = (List.range n).foldl (fun acc f => grow w a f acc) [[]]
  | 0 => rfl
  | n + 1 => by
    rw [List.range_succ, List.foldl_append, ← growTo_eq a n]
    rfl
theorem growTo_enum (a : List Nat) (n : Nat) : growTo w a n = enumerateAssignments w (List.range n) a := by
  rw [growTo_eq, grow_all]
  simp
theorem feas_eq : w.feasibleAssignments = (growTo w w.assignment w.flows.length).filter w.isFeasible := by
  rw [growTo_enum]
  rfl
theorem opts_le (hw : WF w) (a : List Nat) {f : Nat} (hf : f < w.flows.length) : (opts w a f).length ≤ 3 := by
  unfold opts
  split
  · simp
  · (rw [List.length_map, List.length_range])
    exact (hw.pl _ (flow_mem hf)).2
theorem growTo_le (hw : WF w) (a : List Nat) : ∀ n, n ≤ w.flows.length → (growTo w a n).length ≤ 3 ^ n
  | 0, _ => by simp [growTo]
  | n + 1, hn => by
    have h1 := growTo_le hw a n (by omega)
    have h2 := flatMap_le 3 (fun b => (opts w a n).map fun p => b ++ [p]) (growTo w a n) (fun b _ => by rw [List.length_map]; exact opts_le hw a (by omega))
    show (grow w a n (growTo w a n)).length ≤ _
    unfold grow
    rw [Nat.pow_succ]
    omega
theorem growTo_243 (hw : WF w) (a : List Nat) {n : Nat} (hn : n ≤ w.flows.length) : (growTo w a n).length ≤ 243 := by
  have h1 := growTo_le hw a n hn
  have h2 : 3 ^ n ≤ 3 ^ 5 := Nat.pow_le_pow_right (by decide) (by have := hw.nf; omega)
  exact Nat.le_trans h1 (Nat.le_trans h2 (by decide))
theorem feas_243 (hw : WF w) : w.feasibleAssignments.length ≤ 243 := by
  rw [feas_eq]
  exact Nat.le_trans (List.length_filter_le _ _) (growTo_243 hw _ (Nat.le_refl _))
theorem mem_growTo (a : List Nat) : ∀ (n : Nat) (s : List Nat), s ∈ growTo w a n ↔ s.length = n ∧ ∀ f, f < n → s.getD f 0 ∈ opts w a f
  | 0, s => by
    show s ∈ [[]] ↔ _
    rw [List.mem_singleton, List.length_eq_zero_iff]
    constructor
    · intro h; exact ⟨h, fun f hf => absurd hf (Nat.not_lt_zero f)⟩
    · intro h; exact h.1
  | n + 1, s => by
    show s ∈ grow w a n (growTo w a n) ↔ _
    unfold grow
    rw [List.mem_flatMap]
    constructor
    · rintro ⟨b, hb, hs⟩
      obtain ⟨hl, hall⟩ := (mem_growTo a n b).mp hb
      obtain ⟨p, hp, rfl⟩ := List.mem_map.mp hs
      refine ⟨by rw [List.length_append, hl]; rfl, fun f hf => ?_⟩
      by_cases h : f = n
      · subst h
        have : (b ++ [p]).getD f 0 = p := by simp [List.getD, ← hl]
        rw [this]; exact hp
      · have : (b ++ [p]).getD f 0 = b.getD f 0 := by simp only [List.getD]; rw [List.getElem?_append_left (by omega)]
        rw [this]; exact hall f (by omega)
    · rintro ⟨hl, hall⟩
      refine ⟨s.take n, (mem_growTo a n _).mpr ⟨by rw [List.length_take]; omega, fun f hf => ?_⟩, List.mem_map.mpr ⟨s.getD n 0, hall n (by omega), ?_⟩⟩
      · have : (s.take n).getD f 0 = s.getD f 0 := by simp only [List.getD]; rw [List.getElem?_take_of_lt hf]
        rw [this]; exact hall f (by omega)
      · have h1 : n < s.length := by omega
        have e : s.getD n 0 = s[n] := by simp [List.getD, h1]
        rw [e, List.take_append_getElem h1, List.take_of_length_le (by omega)]
theorem mem_opts {a : List Nat} {f n : Nat} : n ∈ opts w a f ↔ (a.getD f 0 = 0 ∧ n = 0) ∨ (a.getD f 0 ≠ 0 ∧ n ≠ 0 ∧ n ≤ (w.flow f).pathLinks.length) := by
  unfold opts
  by_cases h : a.getD f 0 = 0
  · rw [if_pos h, List.mem_singleton]
    exact ⟨fun z => .inl ⟨h, z⟩, fun z => z.elim (fun q => q.2) fun q => absurd h q.1⟩
  · rw [if_neg h, List.mem_map]
    constructor
    · rintro ⟨p, hp, rfl⟩
      have := List.mem_range.mp hp
      exact .inr ⟨h, by omega, by omega⟩
    · rintro (⟨h1, _⟩ | ⟨_, h2, h3⟩)
      · exact absurd h1 h
      · exact ⟨n - 1, List.mem_range.mpr (by omega), by omega⟩
theorem mem_feas : s ∈ w.feasibleAssignments ↔ Cand w s := by
  rw [feas_eq, List.mem_filter, mem_growTo]
  constructor
  · rintro ⟨⟨hl, hall⟩, hfe⟩
    refine ⟨⟨hl, fun f hf => ?_⟩, fun f hf => ?_, hfe⟩
    · rcases mem_opts.mp (hall f hf) with ⟨_, h⟩ | ⟨_, _, h⟩ <;> omega
    · rcases mem_opts.mp (hall f hf) with ⟨h1, h⟩ | ⟨h1, h2, h⟩
      · exact ⟨fun _ => h1, fun _ => h⟩
      · exact ⟨fun z => absurd z h2, fun z => absurd z h1⟩
  · intro c
    refine ⟨⟨c.sh.len, fun f hf => mem_opts.mpr ?_⟩, c.fe⟩
    by_cases h : w.assignment.getD f 0 = 0
    · exact .inl ⟨h, (c.ze f hf).mpr h⟩
    · exact .inr ⟨h, fun z => h ((c.ze f hf).mp z), c.sh.le f hf⟩
theorem opts_nodup (a : List Nat) (f : Nat) : (opts w a f).Nodup := by
  unfold opts
  split
  · simp
  · rw [List.nodup_iff_pairwise_ne, List.pairwise_map]
    exact List.Pairwise.imp (fun h z => h (by omega)) (List.nodup_iff_pairwise_ne.mp List.nodup_range)
theorem growTo_nodup (a : List Nat) : ∀ n, (growTo w a n).Nodup
  | 0 => by simp [growTo]
  | n + 1 => by
    have ih := growTo_nodup a n
    show (grow w a n (growTo w a n)).Nodup
    unfold grow
    rw [List.nodup_iff_pairwise_ne, List.pairwise_flatMap]
    refine ⟨fun b _ => ?_, ?_⟩
    · rw [List.pairwise_map]
      refine List.Pairwise.imp (fun {x y} h z => h ?_) (List.nodup_iff_pairwise_ne.mp (opts_nodup a n))
      have := List.append_cancel_left z
      simpa using this
    · refine List.Pairwise.imp (fun {x y} h u hu v hv z => h ?_) (List.nodup_iff_pairwise_ne.mp ih)
      obtain ⟨p, _, rfl⟩ := List.mem_map.mp hu
      obtain ⟨q, _, rfl⟩ := List.mem_map.mp hv
      exact (List.append_inj' z rfl).1
theorem feas_nodup : w.feasibleAssignments.Nodup := by
  rw [feas_eq]
  exact List.Pairwise.filter _ (growTo_nodup _ _)

/-! ### layers -/
/-- what of l is new to ks, each once -/
def fresh (ks l : List (List Nat)) : List (List Nat) := l.eraseDups.filter fun s => !(ks.contains s)
theorem mem_fresh {ks l : List (List Nat)} : s ∈ fresh ks l ↔ s ∈ l ∧ s ∉ ks := by
  unfold fresh
  rw [List.mem_filter, List.mem_eraseDups, Bool.not_eq_true', ← Bool.not_eq_true, List.contains_iff_mem]
theorem eraseDups_snoc (l : List (List Nat)) (x : List Nat) : (l ++ [x]).eraseDups = l.eraseDups ++ (if x ∈ l then [] else [x]) := by
  rw [List.eraseDups_append]
  congr 1
  unfold List.removeAll
  by_cases h : x ∈ l
  · rw [if_pos h, List.filter_cons, if_neg (by simp [h])]
    rfl
  · rw [if_neg h, List.filter_cons, if_pos (by simp [h])]
    rfl
theorem fresh_snoc (ks l : List (List Nat)) (x : List Nat) : fresh ks (l ++ [x]) = fresh ks l ++ (if x ∈ ks ∨ x ∈ l then [] else [x]) := by
  unfold fresh
  rw [eraseDups_snoc, List.filter_append]
  congr 1
  by_cases h : x ∈ l
  · rw [if_pos h, if_pos (.inr h)]
    rfl
  · rw [if_neg h]
    by_cases h2 : x ∈ ks
    · rw [if_pos (.inl h2), List.filter_cons, if_neg (by simp [h2])]
      rfl
    · rw [if_neg (by simp [h, h2]), List.filter_cons, if_pos (by simp [h2])]
      rfl
theorem eraseDups_nodup : ∀ (n : Nat) (l : List (List Nat)), l.length ≤ n → l.eraseDups.Nodup
  | n, [], _ => by simp
  | 0, _ :: _, h => (by simp at h)
  | n + 1, a :: l, h => by
    rw [List.eraseDups_cons, List.nodup_cons]
    refine ⟨fun z => ?_, eraseDups_nodup n _ ?_⟩
    · rw [List.mem_eraseDups, List.mem_filter] at z
      simp at z
    · have := List.length_filter_le (fun b => !b == a) l
      rw [List.length_cons] at h
      omega
theorem eraseDups_self : ∀ (l : List (List Nat)), l.Nodup → l.eraseDups = l
  | [], _ => rfl
  | a :: l, h => by
    rw [List.nodup_cons] at h
    rw [List.eraseDups_cons]
    have e : (l.filter fun b => !b == a) = l := by
      rw [List.filter_eq_self]
      intro b hb
      have : b ≠ a := fun z => h.1 (z ▸ hb)
      simpa using this
    rw [e, eraseDups_self l h.2]
theorem fresh_nil (l : List (List Nat)) (h : l.Nodup) : fresh [] l = l := by
  unfold fresh
  rw [eraseDups_self l h]
  simp
theorem fresh_nodup (ks l : List (List Nat)) : (fresh ks l).Nodup := List.Pairwise.filter _ (eraseDups_nodup _ l (Nat.le_refl _))

/-- the k-th layer with all that was seen -/
def bfs (w : Network) (ts : List (List Nat)) : Nat → List (List Nat) × List (List Nat)
  | 0 => (ts, ts)
  | k + 1 => ((bfs w ts k).1 ++ fresh (bfs w ts k).1 ((bfs w ts k).2.flatMap (nb w)), fresh (bfs w ts k).1 ((bfs w ts k).2.flatMap (nb w)))
def seen (w : Network) (ts : List (List Nat)) (k : Nat) : List (List Nat) := (bfs w ts k).1
def lay (w : Network) (ts : List (List Nat)) (k : Nat) : List (List Nat) := (bfs w ts k).2
/-- the program's layer: with repetitions -/
def pl (w : Network) (ts : List (List Nat)) : Nat → List (List Nat)
  | 0 => ts
  | k + 1 => (lay w ts k).flatMap (nb w)
/-- what the program knows ahead of its k-th turn -/
def kn (w : Network) (ts : List (List Nat)) : Nat → List (List Nat × Nat)
  | 0 => []
  | k + 1 => kn w ts k ++ (lay w ts k).map fun s => (s, k)
def keys (l : List (List Nat × Nat)) : List (List Nat) := l.map (·.1)
variable {ts : List (List Nat)}
theorem lay_succ (k : Nat) : lay w ts (k + 1) = fresh (seen w ts k) (pl w ts (k + 1)) := rfl
theorem seen_succ (k : Nat) : seen w ts (k + 1) = seen w ts k ++ lay w ts (k + 1) := rfl
theorem keys_succ (k : Nat) : keys (kn w ts (k + 1)) = keys (kn w ts k) ++ lay w ts k := by
  unfold keys
  show (kn w ts k ++ (lay w ts k).map fun s => (s, k)).map (·.1) = _
  rw [List.map_append, List.map_map]
  simp [Function.comp_def]
theorem keys_seen : ∀ k, keys (kn w ts (k + 1)) = seen w ts k
  | 0 => by rw [keys_succ]; rfl
  | k + 1 => by rw [keys_succ, keys_seen k, seen_succ]
theorem fresh_lay (hn : ts.Nodup) : ∀ k, fresh (keys (kn w ts k)) (pl w ts k) = lay w ts k
  | 0 => fresh_nil ts hn
  | k + 1 => by rw [keys_seen k]; rfl
theorem lay_nodup (hn : ts.Nodup) : ∀ k, (lay w ts k).Nodup
  | 0 => hn
  | k + 1 => fresh_nodup _ _
theorem seen_nodup (hn : ts.Nodup) : ∀ k, (seen w ts k).Nodup
  | 0 => hn
  | k + 1 => by
    rw [seen_succ, List.nodup_append]
    refine ⟨seen_nodup hn k, lay_nodup hn (k + 1), fun a ha b hb e => ?_⟩
    subst e
    rw [lay_succ] at hb
    exact (mem_fresh.mp hb).2 ha
theorem lay_seen : ∀ k j, j ≤ k → ∀ x ∈ lay w ts j, x ∈ seen w ts k
  | 0, j, h, x, hx => by
    have : j = 0 := by omega
    subst this
    exact hx
  | k + 1, j, h, x, hx => by
    rw [seen_succ, List.mem_append]
    by_cases e : j = k + 1
    · subst e; exact .inr hx
    · exact .inl (lay_seen k j (by omega) x hx)
theorem seen_lay : ∀ k, ∀ x ∈ seen w ts k, ∃ j, j ≤ k ∧ x ∈ lay w ts j
  | 0, x, hx => ⟨0, Nat.le_refl _, hx⟩
  | k + 1, x, hx => by
    rw [seen_succ, List.mem_append] at hx
    rcases hx with h | h
    · obtain ⟨j, hj, hx⟩ := seen_lay k x h
      exact ⟨j, by omega, hx⟩
    · exact ⟨k + 1, Nat.le_refl _, h⟩
theorem lay_apart {j k : Nat} (h : j < k) {x : List Nat} (hx : x ∈ lay w ts k) : x ∉ lay w ts j := by
  obtain ⟨m, rfl⟩ : ∃ m, k = m + 1 := (⟨k - 1, by omega⟩)
  rw [lay_succ] at hx
  exact fun z => (mem_fresh.mp hx).2 (lay_seen m j (by omega) x z)
theorem lay_cand (ht : ∀ x ∈ ts, Cand w x) : ∀ k, ∀ x ∈ lay w ts k, Cand w x
  | 0, x, hx => ht x hx
  | k + 1, x, hx => by
    rw [lay_succ] at hx
    have := (mem_fresh.mp hx).1
    obtain ⟨y, hy, hxy⟩ := List.mem_flatMap.mp this
    exact cand_nb (lay_cand ht k y hy) hxy
theorem seen_cand (ht : ∀ x ∈ ts, Cand w x) (k : Nat) : ∀ x ∈ seen w ts k, Cand w x := fun x hx => by
  obtain ⟨j, _, h⟩ := seen_lay k x hx
  exact lay_cand ht j x h
theorem lay_empty {k : Nat} (h : lay w ts k = []) : ∀ j, k ≤ j → lay w ts j = [] := by
  intro j hj
  induction j with
  | zero =>
    have : k = 0 := by omega
    subst this; exact h
  | succ j ih =>
    by_cases e : k = j + 1
    · subst e; exact h
    · rw [lay_succ]
      show fresh _ ((lay w ts j).flatMap (nb w)) = []
      rw [ih (by omega)]
      rfl
theorem lay_of_pl (hn : ts.Nodup) {k : Nat} (h : pl w ts k = []) : lay w ts k = [] := by
  rw [← fresh_lay hn k, h]
  rfl
theorem seen_long (hn : ts.Nodup) : ∀ k, (∀ j, j ≤ k → lay w ts j ≠ []) → k + 1 ≤ (seen w ts k).length
  | 0, h => by
    have := h 0 (Nat.le_refl _)
    exact List.length_pos_iff.mpr this
  | k + 1, h => by
    have h1 := seen_long hn k fun j hj => h j (by omega)
    have h2 := h (k + 1) (Nat.le_refl _)
    rw [seen_succ, List.length_append]
    have := List.length_pos_iff.mpr h2
    omega
theorem seen_le (hn : ts.Nodup) (ht : ∀ x ∈ ts, Cand w x) (k : Nat) : (seen w ts k).length ≤ w.feasibleAssignments.length :=
  List.Nodup.length_le_of_subset (seen_nodup hn k) fun x hx => mem_feas.mpr (seen_cand ht k x hx)
theorem lay_stop (hn : ts.Nodup) (ht : ∀ x ∈ ts, Cand w x) {k : Nat} (hk : w.feasibleAssignments.length ≤ k) : lay w ts k = [] := by
  cases e : lay w ts k with
  | nil => rfl
  | cons a l =>
    exfalso
    have h : ∀ j, j ≤ k → lay w ts j ≠ [] := fun j hj z => by
      have := lay_empty z k hj
      rw [e] at this
      cases this
    have h1 := seen_long hn k h
    have h2 := seen_le hn ht k
    omega
theorem pl_stop (hn : ts.Nodup) (ht : ∀ x ∈ ts, Cand w x) {k : Nat} (hk : w.feasibleAssignments.length + 1 ≤ k) : pl w ts k = [] := by
  obtain ⟨m, rfl⟩ : ∃ m, k = m + 1 := (⟨k - 1, by omega⟩)
  show (lay w ts m).flatMap (nb w) = []
  rw [lay_stop hn ht (by omega)]
  rfl
theorem kn_le (hn : ts.Nodup) (ht : ∀ x ∈ ts, Cand w x) (hw : WF w) (k : Nat) : (kn w ts k).length ≤ 243 := by
  cases k with
  | zero => simp [kn]
  | succ k =>
    have h1 : (keys (kn w ts (k + 1))).length = (kn w ts (k + 1)).length := List.length_map _
    rw [← h1, keys_seen]
    exact Nat.le_trans (seen_le hn ht k) (feas_243 hw)
theorem lay_le (hn : ts.Nodup) (ht : ∀ x ∈ ts, Cand w x) (hw : WF w) (k : Nat) : (lay w ts k).length ≤ 243 :=
  Nat.le_trans (List.Nodup.length_le_of_subset (lay_nodup hn k) fun x hx => mem_feas.mpr (lay_cand ht k x hx)) (feas_243 hw)
theorem pl_le (hn : ts.Nodup) (ht : ∀ x ∈ ts, Cand w x) (hw : WF w) (k : Nat) (h0 : ts.length ≤ 243) : (pl w ts k).length ≤ 3645 := by
  cases k with
  | zero => exact Nat.le_trans h0 (by decide)
  | succ k =>
    have h1 := flatMap_le 15 (nb w) (lay w ts k) fun x _ => nb_le hw
    have h2 := lay_le hn ht hw k
    show ((lay w ts k).flatMap (nb w)).length ≤ _
    omega
end FM

namespace FM
open Su203
variable {w : Network} {s t : List Nat} {ts : List (List Nat)}

/-! ### what is known of an assignment: its distance -/
def look (l : List (List Nat × Nat)) (s : List Nat) : Option Nat := (l.find? fun p => decide (p.1 = s)).map (·.2)
theorem look_nil : look [] s = none := rfl
theorem look_append (l m : List (List Nat × Nat)) : look (l ++ m) s = (look l s).or (look m s) := by
  unfold look
  rw [List.find?_append]
  cases l.find? fun p => decide (p.1 = s) <;> simp
theorem look_map (l : List (List Nat)) (k : Nat) : look (l.map fun x => (x, k)) s = if s ∈ l then some k else none := by
  induction l with
  | nil => rfl
  | cons a l ih =>
    unfold look at ih ⊢
    rw [List.map_cons, List.find?_cons]
    by_cases h : a = s
    · subst h
      simp
    · rw [decide_eq_false h]
      rw [ih]
      have : s ∈ a :: l ↔ s ∈ l := by
        rw [List.mem_cons]
        exact ⟨fun z => z.elim (fun q => absurd q.symm h) id, .inr⟩
      by_cases h2 : s ∈ l
      · rw [if_pos h2, if_pos (this.mpr h2)]
      · rw [if_neg h2, if_neg fun z => h2 (this.mp z)]
theorem look_none {l : List (List Nat × Nat)} : look l s = none ↔ s ∉ keys l := by
  unfold look keys
  rw [Option.map_eq_none_iff, List.find?_eq_none]
  constructor
  · intro h z
    obtain ⟨p, hp, e⟩ := List.mem_map.mp z
    exact h p hp (decide_eq_true e)
  · intro h p hp z
    exact h (List.mem_map.mpr ⟨p, hp, of_decide_eq_true z⟩)
theorem look_kn : ∀ k, look (kn w ts k) s = (List.range k).find? fun j => (lay w ts j).contains s
  | 0 => rfl
  | k + 1 => by
    show look (kn w ts k ++ (lay w ts k).map fun s => (s, k)) s = _
    rw [look_append, look_kn k, look_map, List.range_succ, List.find?_append]
    congr 1
    by_cases h : s ∈ lay w ts k
    · rw [if_pos h, List.find?_cons]
      have : (lay w ts k).contains s = true := by rw [List.contains_iff_mem]; exact h
      rw [this]
    · rw [if_neg h, List.find?_cons]
      have : (lay w ts k).contains s = false := by rw [← Bool.not_eq_true, List.contains_iff_mem]; exact h
      rw [this]
      rfl
theorem layersFrom_eq : ∀ (n j : Nat), w.layersFrom n (seen w ts j) (lay w ts j) = ((List.range n).map fun i => lay w ts (j + i)).takeWhile fun l => !l.isEmpty
  | 0, j => rfl
  | n + 1, j => by
    rw [Network.layersFrom]
    rw [List.range_succ_eq_map, List.map_cons, List.takeWhile_cons, Nat.add_zero]
    by_cases h : (lay w ts j).isEmpty = true
    · rw [if_pos h, h]
      rfl
    · rw [if_neg h, Bool.not_eq_true _ |>.mp h]
      have ih := layersFrom_eq n (j + 1)
      show lay w ts j :: w.layersFrom n (seen w ts j ++ lay w ts (j + 1)) (lay w ts (j + 1)) = _
      rw [seen_succ] at ih
      rw [ih, List.map_map]
      (simp only [Bool.not_false, if_true])
      congr 3
      funext i
      show lay w ts (j + 1 + i) = lay w ts (j + (i + 1))
      congr 1
      omega
theorem layers_eq : w.layers ts = ((List.range (w.feasibleAssignments.length + 1)).map fun i => lay w ts i).takeWhile fun l => !l.isEmpty := by
  have := layersFrom_eq (w := w) (ts := ts) (w.feasibleAssignments.length + 1) 0
  simp only [Nat.zero_add] at this
  exact this
/-- behind the first empty layer nothing is found -/
theorem find_tail {p : Nat → Bool} {k m : Nat} (hkm : k ≤ m) (h : ∀ j, k ≤ j → p j = false) : (List.range m).find? p = (List.range k).find? p := by
  have e : m = k + (m - k) := by omega
  rw [e, List.range_add, List.find?_append]
  have : ((List.range (m - k)).map fun x => k + x).find? p = none := by
    rw [List.find?_eq_none]
    intro x hx
    obtain ⟨y, _, rfl⟩ := List.mem_map.mp hx
    rw [h _ (by omega)]
    exact Bool.false_ne_true
  rw [this, Option.or_none]
theorem findIdx_takeWhile (f : Nat → List (List Nat)) (s : List Nat) (hmono : ∀ i, f i = [] → ∀ j, i ≤ j → f j = []) : ∀ (n k : Nat),
    (((List.range n).map fun i => f (k + i)).takeWhile fun l => !l.isEmpty).findIdx? (fun l => l.contains s) = (List.range n).find? fun i => (f (k + i)).contains s
  | 0, k => rfl
  | n + 1, k => by
    rw [List.range_succ_eq_map, List.map_cons, List.takeWhile_cons, List.find?_cons, Nat.add_zero]
    by_cases h : (f k).isEmpty = true
    · have h0 : f k = [] := List.isEmpty_iff.mp h
      rw [h]
      (simp only [Bool.not_true, Bool.false_eq_true, if_false])
      rw [h0]
      simp only [List.contains_nil]
      symm
      rw [List.find?_eq_none.mpr]
      · rfl
      · intro x hx
        obtain ⟨y, _, rfl⟩ := List.mem_map.mp hx
        rw [hmono k h0 (k + (y + 1)) (by omega)]
        simp
    · rw [Bool.not_eq_true _ |>.mp h]
      (simp only [Bool.not_false, if_true])
      rw [List.findIdx?_cons]
      cases hc : (f k).contains s with
      | true => rfl
      | false =>
        (simp only [Bool.false_eq_true, if_false])
        have ih := findIdx_takeWhile f s hmono n (k + 1)
        rw [List.map_map]
        have e1 : ((fun i => f (k + i)) ∘ Nat.succ) = fun i => f (k + 1 + i) := by
          funext i
          show f (k + (i + 1)) = f (k + 1 + i)
          congr 1
          omega
        rw [e1, ih, List.find?_map]
        have e2 : ((fun i => (f (k + i)).contains s) ∘ Nat.succ) = fun i => (f (k + 1 + i)).contains s := by
          funext i
          show (f (k + (i + 1))).contains s = (f (k + 1 + i)).contains s
          have : k + (i + 1) = k + 1 + i := by omega
          rw [this]
        rw [e2]
theorem dist_eq (hn : ts.Nodup) (ht : ∀ x ∈ ts, Cand w x) {K : Nat} (hK : lay w ts K = []) : distance (w.layers ts) s = look (kn w ts K) s := by
  unfold distance
  rw [layers_eq, look_kn]
  have h0 := findIdx_takeWhile (lay w ts) s (fun i h j hj => lay_empty h j hj) (w.feasibleAssignments.length + 1) 0
  simp only [Nat.zero_add] at h0
  rw [h0]
  have hz : ∀ k, lay w ts k = [] → ∀ j, k ≤ j → (lay w ts j).contains s = false := fun k h j hj => by
    rw [lay_empty h j hj]
    rfl
  rcases Nat.le_total K (w.feasibleAssignments.length + 1) with h | h
  · exact find_tail h (hz K hK)
  · exact (find_tail h (hz _ (lay_stop hn ht (Nat.le_succ _)))).symm
theorem layers_flat (hn : ts.Nodup) (ht : ∀ x ∈ ts, Cand w x) {K : Nat} (hK : lay w ts K = []) : (w.layers ts).flatten = keys (kn w ts K) := by
  have hk : ∀ k, keys (kn w ts k) = ((List.range k).map (lay w ts)).flatten := fun k => by
    induction k with
    | zero => rfl
    | succ k ih => rw [keys_succ, ih, List.range_succ, List.map_append, List.flatten_append]; simp
  have hd : ∀ n, (((List.range n).map fun i => lay w ts i).takeWhile fun l => !l.isEmpty).flatten = keys (kn w ts n) := fun n => by
    rw [hk]
    induction n with
    | zero => rfl
    | succ n ih =>
      rw [List.range_succ, List.map_append, List.flatten_append, ← ih]
      by_cases h : ∃ j, j < n ∧ lay w ts j = []
      · obtain ⟨j, hj, he⟩ := h
        have h1 : lay w ts n = [] := lay_empty he n (by omega)
        rw [List.takeWhile_append, if_neg]
        · simp [h1]
        · intro z
          have z2 := List.takeWhile_prefix (l := (List.range n).map fun i => lay w ts i) (p := fun l => !l.isEmpty)
          have z3 := List.IsPrefix.eq_of_length z2 z
          have z4 : lay w ts j ∈ ((List.range n).map fun i => lay w ts i).takeWhile fun l => !l.isEmpty := by
            rw [z3]
            exact List.mem_map.mpr ⟨j, List.mem_range.mpr hj, rfl⟩
          have z5 := List.all_eq_true.mp (List.all_takeWhile (l := (List.range n).map fun i => lay w ts i) (p := fun l => !l.isEmpty)) _ z4
          rw [he] at z5
          simp at z5
      · have hall : ∀ x ∈ (List.range n).map (fun i => lay w ts i), (!x.isEmpty) = true := fun x hx => by
          obtain ⟨j, hj, rfl⟩ := List.mem_map.mp hx
          cases e : lay w ts j with
          | nil => exact absurd ⟨j, List.mem_range.mp hj, e⟩ h
          | cons a l => rfl
        rw [List.takeWhile_append_of_pos hall, List.flatten_append]
        congr 1
        · have : ((List.range n).map fun i => lay w ts i).takeWhile (fun l => !l.isEmpty) = (List.range n).map fun i => lay w ts i := by
            have z := List.takeWhile_append_of_pos (l₂ := []) hall
            rw [List.append_nil] at z
            rw [z, List.takeWhile_nil, List.append_nil]
          rw [this]
        · show (List.takeWhile _ [lay w ts n]).flatten = _
          rw [List.takeWhile_cons]
          cases e : lay w ts n with
          | nil => simp [e]
          | cons a l => simp [e]
  rw [layers_eq, hd]
  have hz : ∀ k j, lay w ts k = [] → k ≤ j → keys (kn w ts j) = keys (kn w ts k) := fun k j h hj => by
    induction j with
    | zero =>
      have : k = 0 := by omega
      rw [this]
    | succ j ih =>
      by_cases e : k = j + 1
      · rw [e]
      · rw [keys_succ, lay_empty h j (by omega), List.append_nil, ih (by omega)]
  rcases Nat.le_total K (w.feasibleAssignments.length + 1) with h | h
  · exact hz K _ hK h
  · exact (hz _ K (lay_stop hn ht (Nat.le_succ _)) h).symm

/-! ### plans -/
theorem look_some {K d : Nat} (h : look (kn w ts K) s = some d) : s ∈ lay w ts d ∧ d < K := by
  rw [look_kn] at h
  have h1 := List.find?_some h
  have h2 := List.mem_range.mp (List.mem_of_find?_eq_some h)
  exact ⟨by rw [← List.contains_iff_mem]; exact h1, h2⟩
theorem look_of {K d : Nat} (hs : s ∈ lay w ts d) (hd : d < K) : look (kn w ts K) s = some d := by
  cases h : look (kn w ts K) s with
  | none =>
    exfalso
    rw [look_none] at h
    obtain ⟨m, rfl⟩ : ∃ m, K = m + 1 := ⟨K - 1, by omega⟩
    rw [keys_seen] at h
    exact h (lay_seen m d (by omega) s hs)
  | some e =>
    obtain ⟨h1, _⟩ := look_some h
    rcases Nat.lt_trichotomy d e with q | q | q
    · exact absurd hs (lay_apart q h1)
    · rw [q]
    · exact absurd h1 (lay_apart q hs)
/-- a neighbour of what is known is known -/
theorem look_nb (hn : ts.Nodup) {K d : Nat} (hK : pl w ts K = []) (h : look (kn w ts K) s = some d) (ht : t ∈ nb w s) : ∃ e, look (kn w ts K) t = some e := by
  obtain ⟨h1, h2⟩ := look_some h
  have h3 : t ∈ pl w ts (d + 1) := List.mem_flatMap.mpr ⟨s, h1, ht⟩
  have h4 : t ∈ seen w ts (d + 1) := by
    rw [seen_succ, List.mem_append]
    by_cases z : t ∈ seen w ts d
    · exact .inl z
    · right
      rw [lay_succ]
      exact mem_fresh.mpr ⟨h3, z⟩
  obtain ⟨j, hj, hx⟩ := seen_lay _ t h4
  refine ⟨j, look_of hx ?_⟩
  rcases Nat.lt_or_ge j K with q | q
  · exact q
  · rw [lay_empty (lay_of_pl hn hK) j q] at hx
    cases hx
/-- a step back -/
theorem look_back (hw : WF w) (hn : ts.Nodup) (hc : ∀ x ∈ ts, Cand w x) {K d : Nat} (h : look (kn w ts K) s = some (d + 1)) : ∃ t, t ∈ nb w s ∧ look (kn w ts K) t = some d := by
  obtain ⟨h1, h2⟩ := look_some h
  rw [lay_succ] at h1
  obtain ⟨t, ht, hts⟩ := List.mem_flatMap.mp (mem_fresh.mp h1).1
  exact ⟨t, nb_symm hw (lay_cand hc d t ht) hts, look_of ht (by omega)⟩
/-- the first move that leads closer -/
def closer (w : Network) (l : List (List Nat × Nat)) (s : List Nat) (d : Nat) : Option (Nat × Nat) := (pmoves w s).find? fun m => look l (s.set m.1 (m.2 + 1)) == some d
theorem closer_some (hw : WF w) (hn : ts.Nodup) (hc : ∀ x ∈ ts, Cand w x) {K d : Nat} (h : look (kn w ts K) s = some (d + 1)) : ∃ m, closer w (kn w ts K) s d = some m := by
  obtain ⟨t, ht, hl⟩ := look_back hw hn hc h
  rw [nb_eq] at ht
  obtain ⟨m, hm, rfl⟩ := List.mem_map.mp ht
  unfold closer
  cases e : (pmoves w s).find? fun m => look (kn w ts K) (s.set m.1 (m.2 + 1)) == some d with
  | none =>
    rw [List.find?_eq_none] at e
    have := e m hm
    rw [hl] at this
    simp at this
  | some m => exact ⟨m, rfl⟩
theorem closer_is {l : List (List Nat × Nat)} {d : Nat} {m : Nat × Nat} (h : closer w l s d = some m) : m ∈ pmoves w s ∧ look l (s.set m.1 (m.2 + 1)) = some d := by
  unfold closer at h
  exact ⟨List.mem_of_find?_eq_some h, by simpa using List.find?_some h⟩
/-- the program's plan -/
def pplan (w : Network) (l : List (List Nat × Nat)) : Nat → List Nat → List (Nat × Nat)
  | 0, _ => []
  | k + 1, s => match closer w l s k with
    | some m => m :: pplan w l k (s.set m.1 (m.2 + 1))
    | none => []
theorem planFrom_eq (hn : ts.Nodup) (hc : ∀ x ∈ ts, Cand w x) {K : Nat} (hK : lay w ts K = []) : ∀ (k : Nat) (s : List Nat), w.planFrom (w.layers ts) k s = (pplan w (kn w ts K) k s).map fun m => (m.1, m.2 + 1)
  | 0, _ => rfl
  | k + 1, s => by
    rw [Network.planFrom, pplan]
    have e : (w.moves s).find? (fun m => distance (w.layers ts) (applyMove s m) == some k) = (closer w (kn w ts K) s k).map fun m => (m.1, m.2 + 1) := by
      unfold closer
      rw [moves_eq, List.find?_map]
      congr 2
      funext m
      show (distance (w.layers ts) (s.set m.1 (m.2 + 1)) == some k) = _
      rw [dist_eq hn hc hK]
    rw [e]
    cases closer w (kn w ts K) s k with
    | none => rfl
    | some m =>
      show (m.1, m.2 + 1) :: w.planFrom (w.layers ts) k (s.set m.1 (m.2 + 1)) = (m :: pplan w (kn w ts K) k (s.set m.1 (m.2 + 1))).map fun m => (m.1, m.2 + 1)
      rw [planFrom_eq hn hc hK k, List.map_cons]
theorem pplan_length (hw : WF w) (hn : ts.Nodup) (hc : ∀ x ∈ ts, Cand w x) {K : Nat} : ∀ (k : Nat) (s : List Nat), look (kn w ts K) s = some k → (pplan w (kn w ts K) k s).length = k
  | 0, _, _ => rfl
  | k + 1, s, h => by
    obtain ⟨m, hm⟩ := closer_some hw hn hc h
    rw [pplan, hm]
    show (m :: pplan w (kn w ts K) k (s.set m.1 (m.2 + 1))).length = k + 1
    rw [List.length_cons, pplan_length hw hn hc k _ (closer_is hm).2]
theorem cand_pm (hc : Cand w s) {m : Nat × Nat} (hm : m ∈ pmoves w s) : Cand w (s.set m.1 (m.2 + 1)) := by
  obtain ⟨h1, h2⟩ := mem_pmoves.mp hm
  exact cand_move h1 hc h2

/-! ### components -/
theorem cc_fuel : ∀ (n : Nat) (l : List (List Nat)) (m m' : Nat), l.length ≤ n → l.length < m → l.length < m' → w.componentCount m l = w.componentCount m' l
  | n, [], m, m', _, h1, h2 => by
    obtain ⟨a, rfl⟩ : ∃ a, m = a + 1 := ⟨m - 1, by simp at h1; omega⟩
    obtain ⟨b, rfl⟩ : ∃ b, m' = b + 1 := ⟨m' - 1, by simp at h2; omega⟩
    rfl
  | 0, x :: l, _, _, h, _, _ => by simp at h
  | n + 1, x :: l, m, m', h, h1, h2 => by
    rw [List.length_cons] at h h1 h2
    obtain ⟨a, rfl⟩ : ∃ a, m = a + 1 := ⟨m - 1, by omega⟩
    obtain ⟨b, rfl⟩ : ∃ b, m' = b + 1 := ⟨m' - 1, by omega⟩
    show 1 + w.componentCount a (l.filter fun y => !((w.layers [x]).flatten.contains y)) = 1 + w.componentCount b (l.filter fun y => !((w.layers [x]).flatten.contains y))
    have hl := List.length_filter_le (fun y => !((w.layers [x]).flatten.contains y)) l
    rw [cc_fuel n _ a b (by omega) (by omega) (by omega)]
theorem cc_cons (x : List Nat) (l : List (List Nat)) {N : Nat} (h : (x :: l).length < N) : w.componentCount N (x :: l) = 1 + w.componentCount N (l.filter fun y => !((w.layers [x]).flatten.contains y)) := by
  rw [List.length_cons] at h
  obtain ⟨a, rfl⟩ : ∃ a, N = a + 1 := ⟨N - 1, by omega⟩
  show 1 + w.componentCount a (l.filter fun y => !((w.layers [x]).flatten.contains y)) = _
  have hl := List.length_filter_le (fun y => !((w.layers [x]).flatten.contains y)) l
  rw [cc_fuel l.length _ a (a + 1) hl (by omega) (by omega)]
theorem cc_nil (N : Nat) : w.componentCount N [] = 0 := by
  cases N <;> rfl
end FM

namespace FM
open Su203
variable {w : Network}
/-! ### answers as lists of numbers -/
def nInts (l : List Nat) : List Int := l.map fun (x : Nat) => (x : Int)
def ans (r : Result) : List Int := r.value :: nInts r.fields
theorem ans_error (c : Int) : ans (error c) = [c] := rfl
theorem ans_ok (v : Nat) (l : List Nat) : ans (ok v l) = nInts (v :: l) := rfl
/-- a plan told -/
def toldM (p : List (Nat × Nat)) : List Nat := p.length :: p.flatMap fun m => [m.1, m.2]
def planAns (p : Option (List (Nat × Nat))) : List Int := match p with
  | none => [-33]
  | some l => nInts (toldM l)
theorem planResult_eq (ts : List (List Nat)) : ans (w.planResult ts) = planAns ((w.plan ts).map fun p => p.map fun m => (m.1, m.2 - 1)) := by
  unfold Network.planResult
  cases w.plan ts with
  | none => rfl
  | some p =>
    show nInts (p.length :: p.flatMap fun m => [m.1, m.2 - 1]) = nInts ((p.map fun m => (m.1, m.2 - 1)).length :: (p.map fun m => (m.1, m.2 - 1)).flatMap fun m => [m.1, m.2])
    rw [List.length_map, List.flatMap_map]
theorem toldM_le (p : List (Nat × Nat)) : (toldM p).length = 2 * p.length + 1 := by
  unfold toldM
  rw [List.length_cons]
  congr 1
  induction p with
  | nil => rfl
  | cons m p ih =>
    rw [List.flatMap_cons, List.length_append, ih, List.length_cons]
    simp
    omega
/-- what fits the flows -/
def fits (w : Network) (l : List Nat) : Bool := !(decide (l.length ≠ w.flows.length) || w.flowIndices.any fun f => (l.getD f 0 == 0) != (w.assignment.getD f 0 == 0) || decide ((w.flow f).pathLinks.length < l.getD f 0))
theorem fits_iff {l : List Nat} : fits w l = true ↔ l.length = w.flows.length ∧ ∀ f, f < w.flows.length → l.getD f 0 ≤ (w.flow f).pathLinks.length ∧ (l.getD f 0 = 0 ↔ w.assignment.getD f 0 = 0) := by
  unfold fits
  rw [Bool.not_eq_true', Bool.or_eq_false_iff, decide_eq_false_iff_not, Decidable.not_not, List.any_eq_false]
  constructor
  · rintro ⟨h1, h2⟩
    refine ⟨h1, fun f hf => ?_⟩
    have := h2 f (List.mem_range.mpr hf)
    rw [Bool.not_eq_true, Bool.or_eq_false_iff, decide_eq_false_iff_not, bne_eq_false_iff_eq, Bool.eq_iff_iff, beq_iff_eq, beq_iff_eq] at this
    exact ⟨by omega, this.1⟩
  · rintro ⟨h1, h2⟩
    refine ⟨h1, fun f hf => ?_⟩
    have := h2 f (List.mem_range.mp hf)
    rw [Bool.not_eq_true, Bool.or_eq_false_iff, decide_eq_false_iff_not, bne_eq_false_iff_eq, Bool.eq_iff_iff, beq_iff_eq, beq_iff_eq]
    exact ⟨this.2, by omega⟩
theorem planTo_eq (l : List Nat) : (execute w (.planTo l)).2 = if fits w l = true then (if w.isFeasible l = true then w.planResult [l] else error (-35)) else error (-22) := by
  show (if l.length ≠ w.flows.length ∨ (w.flowIndices.any fun f => (l.getD f 0 == 0) != (w.assignment.getD f 0 == 0) || decide ((w.flow f).pathLinks.length < l.getD f 0)) = true then (w, error (-22)) else if w.isFeasible l = false then (w, error (-35)) else (w, w.planResult [l])).2 = _
  by_cases h : fits w l = true
  · have h1 : ¬ (l.length ≠ w.flows.length ∨ (w.flowIndices.any fun f => (l.getD f 0 == 0) != (w.assignment.getD f 0 == 0) || decide ((w.flow f).pathLinks.length < l.getD f 0)) = true) := by
      unfold fits at h
      rw [Bool.not_eq_true', Bool.or_eq_false_iff, decide_eq_false_iff_not] at h
      rintro (z | z)
      · exact h.1 z
      · rw [h.2] at z; cases z
    rw [if_neg h1, if_pos h]
    cases w.isFeasible l <;> rfl
  · have h1 : (l.length ≠ w.flows.length ∨ (w.flowIndices.any fun f => (l.getD f 0 == 0) != (w.assignment.getD f 0 == 0) || decide ((w.flow f).pathLinks.length < l.getD f 0)) = true) := by
      unfold fits at h
      rw [Bool.not_eq_true, Bool.not_eq_false', Bool.or_eq_true, decide_eq_true_eq] at h
      exact h
    rw [if_pos h1, if_neg h]
theorem fits_cand {l : List Nat} (h : fits w l = true) (hf : w.isFeasible l = true) : Cand w l := by
  obtain ⟨h1, h2⟩ := fits_iff.mp h
  exact ⟨⟨h1, fun f hf => (h2 f hf).1⟩, fun f hf => (h2 f hf).2, hf⟩
end FM

namespace FM
open Su203
variable {w : Network}
/-! ### what the operations leave is well formed -/
theorem wf_asg (hw : WF w) {s : List Nat} (hs : Shaped w s) (hf : w.isFeasible s = true) : WF { w with assignment := s } :=
  ⟨hw.nodes, hw.nl, hw.nf, hw.pl, hw.lk, hw.nd, hs.len, fun f h => hs.le f h, hf⟩
theorem wf_create {k : Nat} (h : 2 ≤ k ∧ k ≤ 6) : WF (create k) :=
  ⟨h, (by show 0 ≤ 10; decide), (by show 0 ≤ 5; decide), (fun _ h => nomatch h), (fun _ h => nomatch h), (fun _ h => nomatch h), rfl, (fun _ h => absurd h (Nat.not_lt_zero _)), rfl⟩
theorem getD_append_left {α : Type} (l m : List α) {i : Nat} (d : α) (h : i < l.length) : (l ++ m).getD i d = l.getD i d := by
  simp only [List.getD_eq_getElem?_getD]
  rw [List.getElem?_append_left h]
theorem getD_append_at {α : Type} (l : List α) (x d : α) : (l ++ [x]).getD l.length d = x := by
  simp [List.getD_eq_getElem?_getD]
theorem load_congr {w' : Network} {s s' : List Nat} {i : Nat} (hl : w'.flows.length = w.flows.length) (h : ∀ f, f < w.flows.length → fpart w' f (s'.getD f 0) i = fpart w f (s.getD f 0) i) : w'.load s' i = w.load s i := by
  rw [load_eq, load_eq, hl]
  exact sum_range_congr _ _ _ h
theorem wf_addLink (hw : WF w) {u v c : Nat} (hl : w.links.length < 10) : WF { w with links := w.links ++ [⟨u, v, c⟩] } := by
  refine ⟨hw.nodes, by show (w.links ++ [_]).length ≤ 10; rw [List.length_append]; exact hl, hw.nf, hw.pl, fun fl h p hp => ⟨(hw.lk fl h p hp).1, fun i hi => ?_⟩, hw.nd, hw.la, hw.ab, ?_⟩
  · show i < (w.links ++ [_]).length
    rw [List.length_append]
    have := (hw.lk fl h p hp).2 i hi
    omega
  · rw [feasible_iff]
    intro i hi
    have hi : i < (w.links ++ [(⟨u, v, c⟩ : Link)]).length := hi
    rw [List.length_append, List.length_singleton] at hi
    show w.load w.assignment i ≤ ((w.links ++ [(⟨u, v, c⟩ : Link)]).getD i ⟨0, 0, 0⟩).capacity
    by_cases h : i < w.links.length
    · rw [getD_append_left _ _ _ h]
      exact feasible_iff.mp hw.fe i h
    · have : i = w.links.length := by omega
      subst this
      have h0 : w.load w.assignment w.links.length = 0 := by
        rw [load_eq]
        have : ∀ f, f < w.flows.length → fpart w f (w.assignment.getD f 0) w.links.length = 0 := fun f hf => fpart_not fun z => Nat.lt_irrefl _ (usedLinks_lt hw hf _ z)
        rw [sum_range_congr _ _ (fun _ => 0) this]
        generalize w.flows.length = n
        induction n with
        | zero => rfl
        | succ n ih => rw [List.range_succ, List.map_append, List.sum_append, ih]; rfl
      rw [h0]
      exact Nat.zero_le _
theorem wf_addFlow (hw : WF w) {a b d : Nat} (hl : w.flows.length < 5) : WF { w with flows := w.flows ++ [⟨a, b, d, [], []⟩], assignment := w.assignment ++ [0] } := by
  have hfl : ∀ f, f < w.flows.length → Network.flow { w with flows := w.flows ++ [⟨a, b, d, [], []⟩], assignment := w.assignment ++ [0] } f = w.flow f := fun f hf => getD_append_left _ _ _ hf
  have hla := hw.la
  refine ⟨hw.nodes, hw.nl, by show (w.flows ++ [_]).length ≤ 5; rw [List.length_append]; exact hl, fun fl h => ?_, fun fl h p hp => ?_, fun fl h p hp => ?_, ?_, fun f hf => ?_, ?_⟩
  · (rcases List.mem_append.mp h with h | h)
    · exact hw.pl fl h
    · rw [List.mem_singleton.mp h]
      exact ⟨rfl, Nat.zero_le _⟩
  · (rcases List.mem_append.mp h with h | h)
    · exact hw.lk fl h p hp
    · rw [List.mem_singleton.mp h] at hp
      cases hp
  · (rcases List.mem_append.mp h with h | h)
    · exact hw.nd fl h p hp
    · rw [List.mem_singleton.mp h] at hp
      cases hp
  · show (w.assignment ++ [0]).length = (w.flows ++ [_]).length
    rw [List.length_append, List.length_append, hla]
    rfl
  · have hf : f < (w.flows ++ [(⟨a, b, d, [], []⟩ : Flow)]).length := hf
    rw [List.length_append, List.length_singleton] at hf
    show (w.assignment ++ [0]).getD f 0 ≤ _
    by_cases h : f < w.flows.length
    · rw [getD_append_left _ _ _ (by omega), hfl f h]
      exact hw.ab f h
    · have : f = w.assignment.length := by omega
      rw [this, getD_append_at]
      exact Nat.zero_le _
  · rw [feasible_iff]
    intro i hi
    show Network.load _ (w.assignment ++ [0]) i ≤ (w.link i).capacity
    have e : Network.load { w with flows := w.flows ++ [⟨a, b, d, [], []⟩], assignment := w.assignment ++ [0] } (w.assignment ++ [0]) i = w.load w.assignment i := by
      rw [load_eq, load_eq]
      show ((List.range (w.flows ++ [(⟨a, b, d, [], []⟩ : Flow)]).length).map _).sum = _
      rw [List.length_append, List.length_singleton, List.range_succ, List.map_append, List.sum_append]
      have h1 : fpart { w with flows := w.flows ++ [⟨a, b, d, [], []⟩], assignment := w.assignment ++ [0] } w.flows.length ((w.assignment ++ [0]).getD w.flows.length 0) i = 0 := by
        rw [← hla, getD_append_at]
        exact fpart_not (by unfold Network.usedLinks; rw [if_pos rfl]; simp)
      simp only [List.map_cons, List.map_nil, List.sum_cons, List.sum_nil, Nat.add_zero]
      rw [h1, Nat.add_zero]
      refine sum_range_congr _ _ _ fun f hf => ?_
      rw [getD_append_left _ _ _ (by omega)]
      unfold fpart Network.usedLinks
      rw [hfl f hf]
    rw [e]
    exact feasible_iff.mp hw.fe i hi
theorem along_lt : ∀ (l k : List Nat), w.linksAlong l = some k → k.length ≤ l.length ∧ ∀ i ∈ k, i < w.links.length
  | [], k, h => by
    simp [Network.linksAlong] at h
    subst h
    exact ⟨Nat.le_refl _, fun _ h => nomatch h⟩
  | [u], k, h => by
    simp [Network.linksAlong] at h
    subst h
    exact ⟨by simp, fun _ h => nomatch h⟩
  | u :: v :: l, k, h => by
    unfold Network.linksAlong at h
    cases e : w.linkBetween u v with
    | none => rw [e] at h; simp at h
    | some i =>
      rw [e] at h
      cases e2 : w.linksAlong (v :: l) with
      | none => rw [e2] at h; simp at h
      | some k' =>
        rw [e2] at h
        have hk : i :: k' = k := by simpa using h
        obtain ⟨h1, h2⟩ := along_lt (v :: l) k' e2
        subst hk
        refine ⟨by rw [List.length_cons, List.length_cons]; omega, fun j hj => ?_⟩
        rcases List.mem_cons.mp hj with rfl | hj
        · unfold Network.linkBetween at e
          rw [List.findIdx?_eq_some_iff_getElem] at e
          exact e.1
        · exact h2 j hj
theorem wf_addPath (hw : WF w) {f : Nat} {l k : List Nat} (hf : f < w.flows.length) (hk : w.linksAlong l = some k) (hl : l.length ≤ 8) (h3 : (w.flow f).pathLinks.length < 3) :
    WF { w with flows := w.flows.set f { w.flow f with pathLinks := (w.flow f).pathLinks ++ [k], pathNodes := (w.flow f).pathNodes ++ [l] } } := by
  obtain ⟨hk1, hk2⟩ := along_lt l k hk
  have hm : ∀ fl, fl ∈ w.flows.set f { w.flow f with pathLinks := (w.flow f).pathLinks ++ [k], pathNodes := (w.flow f).pathNodes ++ [l] } → fl ∈ w.flows ∨ fl = { w.flow f with pathLinks := (w.flow f).pathLinks ++ [k], pathNodes := (w.flow f).pathNodes ++ [l] } := fun fl h => List.mem_or_eq_of_mem_set h
  have hpl := hw.pl _ (flow_mem hf)
  have hself : Network.flow { w with flows := w.flows.set f { w.flow f with pathLinks := (w.flow f).pathLinks ++ [k], pathNodes := (w.flow f).pathNodes ++ [l] } } f = { w.flow f with pathLinks := (w.flow f).pathLinks ++ [k], pathNodes := (w.flow f).pathNodes ++ [l] } := by
    show (w.flows.set f _).getD f _ = _
    rw [List.getD_eq_getElem?_getD, List.getElem?_set_self hf]
    rfl
  have hoth : ∀ g, g ≠ f → Network.flow { w with flows := w.flows.set f { w.flow f with pathLinks := (w.flow f).pathLinks ++ [k], pathNodes := (w.flow f).pathNodes ++ [l] } } g = w.flow g := fun g hg => by
    show (w.flows.set f _).getD g _ = w.flows.getD g _
    rw [List.getD_eq_getElem?_getD, List.getElem?_set_ne (Ne.symm hg), ← List.getD_eq_getElem?_getD]
  have hlen : (w.flows.set f { w.flow f with pathLinks := (w.flow f).pathLinks ++ [k], pathNodes := (w.flow f).pathNodes ++ [l] }).length = w.flows.length := List.length_set
  refine ⟨hw.nodes, hw.nl, by show (w.flows.set f _).length ≤ 5; rw [hlen]; exact hw.nf, fun fl h => ?_, fun fl h p hp => ?_, fun fl h p hp => ?_, by show _ = (w.flows.set f _).length; rw [hlen]; exact hw.la, fun g hg => ?_, ?_⟩
  · rcases hm fl h with h | rfl
    · exact hw.pl fl h
    · show ((w.flow f).pathLinks ++ [k]).length = ((w.flow f).pathNodes ++ [l]).length ∧ ((w.flow f).pathLinks ++ [k]).length ≤ 3
      rw [List.length_append, List.length_append, List.length_singleton, List.length_singleton]
      omega
  · rcases hm fl h with h | rfl
    · exact hw.lk fl h p hp
    · (rcases List.mem_append.mp hp with hp | hp)
      · exact hw.lk _ (flow_mem hf) p hp
      · (rw [List.mem_singleton.mp hp])
        exact ⟨by omega, hk2⟩
  · rcases hm fl h with h | rfl
    · exact hw.nd fl h p hp
    · (rcases List.mem_append.mp hp with hp | hp)
      · exact hw.nd _ (flow_mem hf) p hp
      · (rw [List.mem_singleton.mp hp])
        exact hl
  · have hg : g < (w.flows.set f { w.flow f with pathLinks := (w.flow f).pathLinks ++ [k], pathNodes := (w.flow f).pathNodes ++ [l] }).length := hg
    rw [hlen] at hg
    have h1 := hw.ab g hg
    by_cases h : g = f
    · subst h
      rw [hself]
      show w.assignment.getD g 0 ≤ ((w.flow g).pathLinks ++ [k]).length
      rw [List.length_append]
      omega
    · rw [hoth g h]
      exact h1
  · rw [feasible_iff]
    intro i hi
    have e : Network.load { w with flows := w.flows.set f { w.flow f with pathLinks := (w.flow f).pathLinks ++ [k], pathNodes := (w.flow f).pathNodes ++ [l] } } w.assignment i = w.load w.assignment i := by
      refine load_congr hlen fun g hg => ?_
      by_cases h : g = f
      · subst h
        have h1 := hw.ab g hg
        have hu : Network.usedLinks { w with flows := w.flows.set g { w.flow g with pathLinks := (w.flow g).pathLinks ++ [k], pathNodes := (w.flow g).pathNodes ++ [l] } } g (w.assignment.getD g 0) = w.usedLinks g (w.assignment.getD g 0) := by
          unfold Network.usedLinks
          rw [hself]
          by_cases h0 : w.assignment.getD g 0 = 0
          · rw [if_pos h0, if_pos h0]
          · rw [if_neg h0, if_neg h0]
            exact getD_append_left _ _ _ (by omega)
        unfold fpart
        rw [hu, hself]
      · unfold fpart Network.usedLinks
        rw [hoth g h]
    show Network.load _ w.assignment i ≤ (w.link i).capacity
    rw [e]
    exact feasible_iff.mp hw.fe i hi
theorem wf_setCap (hw : WF w) {i c : Nat} (hi : i < w.links.length) (hc : w.load w.assignment i ≤ c) : WF { w with links := w.links.set i { w.link i with capacity := c } } := by
  have hlen : (w.links.set i { w.link i with capacity := c }).length = w.links.length := List.length_set
  refine ⟨hw.nodes, by show (w.links.set i _).length ≤ 10; rw [hlen]; exact hw.nl, hw.nf, hw.pl, fun fl h p hp => ⟨(hw.lk fl h p hp).1, fun j hj => ?_⟩, hw.nd, hw.la, hw.ab, ?_⟩
  · show j < (w.links.set i _).length
    rw [hlen]
    exact (hw.lk fl h p hp).2 j hj
  · rw [feasible_iff]
    intro j hj
    have hj : j < (w.links.set i { w.link i with capacity := c }).length := hj
    rw [hlen] at hj
    show w.load w.assignment j ≤ ((w.links.set i { w.link i with capacity := c }).getD j ⟨0, 0, 0⟩).capacity
    by_cases h : i = j
    · subst h
      rw [List.getD_eq_getElem?_getD, List.getElem?_set_self hi]
      exact hc
    · rw [List.getD_eq_getElem?_getD, List.getElem?_set_ne h, ← List.getD_eq_getElem?_getD]
      exact feasible_iff.mp hw.fe j hj
theorem stop_feasible (hw : WF w) {f : Nat} (hf : f < w.flows.length) : w.isFeasible (w.assignment.set f 0) = true := by
  rw [feasible_iff]
  intro i hi
  have h1 := load_set (w := w) (s := w.assignment) (p := 0) hf hw.la i
  have h2 := feasible_iff.mp hw.fe i hi
  have h3 : fpart w f 0 i = 0 := fpart_not (by unfold Network.usedLinks; rw [if_pos rfl]; simp)
  omega
theorem shaped_set (hw : WF w) {f p : Nat} (hf : f < w.flows.length) (hp : p ≤ (w.flow f).pathLinks.length) : Shaped w (w.assignment.set f p) := by
  refine ⟨by rw [List.length_set]; exact hw.la, fun g hg => ?_⟩
  by_cases h : f = g
  · subst h
    rw [getD_set_self (by rw [hw.la]; exact hf)]
    exact hp
  · rw [getD_set_ne h]
    exact hw.ab g hg
/-- where a plan leads -/
def appl (s : List Nat) (p : List (Nat × Nat)) : List Nat := p.foldl (fun s m => s.set m.1 (m.2 + 1)) s
theorem pplan_cand {l : List (List Nat × Nat)} : ∀ (k : Nat) (s : List Nat), Cand w s → Cand w (appl s (pplan w l k s)) ∧ ∀ m ∈ pplan w l k s, m.1 < w.flows.length
  | 0, s, h => ⟨h, fun _ q => nomatch q⟩
  | k + 1, s, h => by
    rw [pplan]
    cases e : closer w l s k with
    | none => exact ⟨h, fun _ q => nomatch q⟩
    | some m =>
      have hm := closer_is e
      obtain ⟨h1, h2⟩ := pplan_cand k (s.set m.1 (m.2 + 1)) (cand_pm h hm.1)
      refine ⟨h1, fun m' hm' => ?_⟩
      rcases List.mem_cons.mp hm' with rfl | hm'
      · exact (mem_pmoves.mp hm.1).1
      · exact h2 m' hm'
theorem appl_eq (s : List Nat) (p : List (Nat × Nat)) : (p.map fun m => (m.1, m.2 + 1)).foldl applyMove s = appl s p := by
  unfold appl
  rw [List.foldl_map]
  rfl
end FM

namespace FL
open PySem L2 Evl

/-- data as a proof sees it: a value, a tuple, a list -/
inductive D where
  | val (v : V)
  | tup (l : List D)
  | lst (l : List D)
mutual
def isF (ok : Addr → Prop) (H : Hp) : D → V → Prop
  | .val x, v => v = x
  | .tup ds, v => ∃ p vs, v = .ref p ∧ H p = some (.tup vs) ∧ isFL ok H ds vs
  | .lst ds, v => ∃ p vs, v = .ref p ∧ ok p ∧ H p = some (.lst vs) ∧ isFL ok H ds vs
def isFL (ok : Addr → Prop) (H : Hp) : List D → List V → Prop
  | [], vs => vs = []
  | d :: ds, vs => ∃ v r, vs = v :: r ∧ isF ok H d v ∧ isFL ok H ds r
end
/-- v is the data d in the heap H; its lists stand at addresses of which ok is true -/
structure IsO (ok : Addr → Prop) (H : Hp) (d : D) (v : V) : Prop where
  go : isF ok H d v
structure IsOL (ok : Addr → Prop) (H : Hp) (ds : List D) (vs : List V) : Prop where
  go : isFL ok H ds vs
abbrev All1 : Addr → Prop := fun _ => True
abbrev Non1 : Addr → Prop := fun _ => False
/-- lists and tuples | tuples alone -/
abbrev Is (H : Hp) (d : D) (v : V) : Prop := IsO All1 H d v
abbrev IsL (H : Hp) (ds : List D) (vs : List V) : Prop := IsOL All1 H ds vs
abbrev Is0 (H : Hp) (d : D) (v : V) : Prop := IsO Non1 H d v
abbrev Is0L (H : Hp) (ds : List D) (vs : List V) : Prop := IsOL Non1 H ds vs

mutual
theorem isF_mono {ok ok' : Addr → Prop} {H H' : Hp} (ht : ∀ p xs, H p = some (.tup xs) → H' p = some (.tup xs)) (hl : ∀ p xs, ok p → H p = some (.lst xs) → H' p = some (.lst xs)) (ho : ∀ p xs, ok p → H p = some (.lst xs) → ok' p) : ∀ (d : D) (v : V), isF ok H d v → isF ok' H' d v
  | .val x, v, h => by unfold isF at h ⊢; exact h
  | .tup ds, v, h => by
    unfold isF at h ⊢
    obtain ⟨p, vs, e, hp, hs⟩ := h
    exact ⟨p, vs, e, ht p vs hp, isFL_mono ht hl ho ds vs hs⟩
  | .lst ds, v, h => by
    unfold isF at h ⊢
    obtain ⟨p, vs, e, o, hp, hs⟩ := h
    exact ⟨p, vs, e, ho p vs o hp, hl p vs o hp, isFL_mono ht hl ho ds vs hs⟩
theorem isFL_mono {ok ok' : Addr → Prop} {H H' : Hp} (ht : ∀ p xs, H p = some (.tup xs) → H' p = some (.tup xs)) (hl : ∀ p xs, ok p → H p = some (.lst xs) → H' p = some (.lst xs)) (ho : ∀ p xs, ok p → H p = some (.lst xs) → ok' p) : ∀ (ds : List D) (vs : List V), isFL ok H ds vs → isFL ok' H' ds vs
  | [], vs, h => by unfold isFL at h ⊢; exact h
  | d :: ds, vs, h => by
    unfold isFL at h ⊢
    obtain ⟨v, r, e, h1, h2⟩ := h
    exact ⟨v, r, e, isF_mono ht hl ho d v h1, isFL_mono ht hl ho ds r h2⟩
end
theorem IsO.mono {ok ok' : Addr → Prop} {H H' : Hp} (ht : ∀ p xs, H p = some (.tup xs) → H' p = some (.tup xs)) (hl : ∀ p xs, ok p → H p = some (.lst xs) → H' p = some (.lst xs)) (ho : ∀ p xs, ok p → H p = some (.lst xs) → ok' p) {d : D} {v : V} (h : IsO ok H d v) : IsO ok' H' d v :=
  ⟨isF_mono ht hl ho d v h.go⟩
theorem IsOL.mono {ok ok' : Addr → Prop} {H H' : Hp} (ht : ∀ p xs, H p = some (.tup xs) → H' p = some (.tup xs)) (hl : ∀ p xs, ok p → H p = some (.lst xs) → H' p = some (.lst xs)) (ho : ∀ p xs, ok p → H p = some (.lst xs) → ok' p) {ds : List D} {vs : List V} (h : IsOL ok H ds vs) : IsOL ok' H' ds vs :=
  ⟨isFL_mono ht hl ho ds vs h.go⟩
section
variable {ok : Addr → Prop} {H H' : Hp} {d : D} {ds es : List D} {v : V} {vs us : List V}
theorem IsO.ex (e : Ex H H') (h : IsO ok H d v) : IsO ok H' d v := IsO.mono (fun p xs q => e p _ q) (fun p xs _ q => e p _ q) (fun _ _ o _ => o) h
theorem IsOL.ex (e : Ex H H') (h : IsOL ok H ds vs) : IsOL ok H' ds vs := IsOL.mono (fun p xs q => e p _ q) (fun p xs _ q => e p _ q) (fun _ _ o _ => o) h
theorem IsO.all (h : IsO ok H d v) : Is H d v := IsO.mono (fun p xs q => q) (fun p xs _ q => q) (fun _ _ _ _ => True.intro) h
theorem IsOL.all (h : IsOL ok H ds vs) : IsL H ds vs := IsOL.mono (fun p xs q => q) (fun p xs _ q => q) (fun _ _ _ _ => True.intro) h
/-- tuples stay -/
def Tx (H H' : Hp) : Prop := ∀ p xs, H p = some (.tup xs) → H' p = some (.tup xs)
theorem Tx.of (e : Ex H H') : Tx H H' := fun p xs h => e p _ h
theorem Tx.refl : Tx H H := fun _ _ h => h
theorem Tx.trans {H'' : Hp} (a : Tx H H') (b : Tx H' H'') : Tx H H'' := fun p xs h => b p xs (a p xs h)
theorem Tx.upd {p : Addr} {o : HO} (h : ∀ xs, H p ≠ some (.tup xs)) : Tx H (upd H p o) := fun q xs e => by
  by_cases z : q = p
  · subst z; exact absurd e (h xs)
  · rw [upd_ne z]; exact e
theorem IsO.tx (e : Tx H H') (h : Is0 H d v) : Is0 H' d v := IsO.mono e (fun p xs o _ => o.elim) (fun _ _ o _ => o) h
theorem IsOL.tx (e : Tx H H') (h : Is0L H ds vs) : Is0L H' ds vs := IsOL.mono e (fun p xs o _ => o.elim) (fun _ _ o _ => o) h

theorem isO_val {x : V} : IsO ok H (.val x) v ↔ v = x := by
  constructor
  · rintro ⟨h⟩
    unfold isF at h
    exact h
  · intro h
    exact ⟨by unfold isF; exact h⟩
theorem isO_tup : IsO ok H (.tup ds) v ↔ ∃ p vs, v = .ref p ∧ H p = some (.tup vs) ∧ IsOL ok H ds vs := by
  constructor
  · rintro ⟨h⟩
    unfold isF at h
    obtain ⟨p, vs, a, b, c⟩ := h
    exact ⟨p, vs, a, b, ⟨c⟩⟩
  · rintro ⟨p, vs, a, b, ⟨c⟩⟩
    exact ⟨by unfold isF; exact ⟨p, vs, a, b, c⟩⟩
theorem isO_lst : IsO ok H (.lst ds) v ↔ ∃ p vs, v = .ref p ∧ ok p ∧ H p = some (.lst vs) ∧ IsOL ok H ds vs := by
  constructor
  · rintro ⟨h⟩
    unfold isF at h
    obtain ⟨p, vs, a, o, b, c⟩ := h
    exact ⟨p, vs, a, o, b, ⟨c⟩⟩
  · rintro ⟨p, vs, a, o, b, ⟨c⟩⟩
    exact ⟨by unfold isF; exact ⟨p, vs, a, o, b, c⟩⟩
theorem isOL_nil : IsOL ok H [] vs ↔ vs = [] := by
  constructor
  · rintro ⟨h⟩
    unfold isFL at h
    exact h
  · intro h
    exact ⟨by unfold isFL; exact h⟩
theorem isOL_cons : IsOL ok H (d :: ds) vs ↔ ∃ v r, vs = v :: r ∧ IsO ok H d v ∧ IsOL ok H ds r := by
  constructor
  · rintro ⟨h⟩
    unfold isFL at h
    obtain ⟨v, r, a, b, c⟩ := h
    exact ⟨v, r, a, ⟨b⟩, ⟨c⟩⟩
  · rintro ⟨v, r, a, ⟨b⟩, ⟨c⟩⟩
    exact ⟨by unfold isFL; exact ⟨v, r, a, b, c⟩⟩
theorem IsOL.length : ∀ {ds : List D} {vs : List V}, IsOL ok H ds vs → vs.length = ds.length
  | [], vs, h => by rw [isOL_nil.mp h]; rfl
  | d :: ds, vs, h => by
    obtain ⟨v, r, e, _, h2⟩ := isOL_cons.mp h
    rw [e, List.length_cons, List.length_cons, IsOL.length h2]
theorem IsOL.get : ∀ {ds : List D} {vs : List V} {i : Nat} {d : D}, IsOL ok H ds vs → ds[i]? = some d → ∃ v, vs[i]? = some v ∧ IsO ok H d v
  | [], vs, i, d, h, e => by simp at e
  | d0 :: ds, vs, i, d, h, e => by
    obtain ⟨v, r, rfl, h1, h2⟩ := isOL_cons.mp h
    cases i with
    | zero =>
      simp at e
      subst e
      exact ⟨v, rfl, h1⟩
    | succ i =>
      simp at e
      obtain ⟨u, a, b⟩ := IsOL.get h2 e
      exact ⟨u, by simpa using a, b⟩
theorem IsOL.getV {i : Nat} (h : IsOL ok H ds vs) (e : vs[i]? = some v) : ∃ d, ds[i]? = some d ∧ IsO ok H d v := by
  have hl := h.length
  have hi : i < ds.length := by
    have := (List.getElem?_eq_some_iff.mp e).1
    omega
  obtain ⟨u, a, b⟩ := h.get (List.getElem?_eq_getElem hi)
  rw [e] at a
  cases a
  exact ⟨_, List.getElem?_eq_getElem hi, b⟩
theorem IsOL.append : ∀ {ds es : List D} {vs us : List V}, IsOL ok H ds vs → IsOL ok H es us → IsOL ok H (ds ++ es) (vs ++ us)
  | [], es, vs, us, h, h' => by
    rw [isOL_nil.mp h]
    exact h'
  | d :: ds, es, vs, us, h, h' => by
    obtain ⟨v, r, rfl, h1, h2⟩ := isOL_cons.mp h
    exact isOL_cons.mpr ⟨v, r ++ us, rfl, h1, IsOL.append h2 h'⟩
theorem IsOL.one (h : IsO ok H d v) : IsOL ok H [d] [v] := isOL_cons.mpr ⟨v, [], rfl, h, isOL_nil.mpr rfl⟩
theorem IsOL.nil : IsOL ok H [] [] := isOL_nil.mpr rfl
theorem IsOL.cons (h : IsO ok H d v) (t : IsOL ok H ds vs) : IsOL ok H (d :: ds) (v :: vs) := isOL_cons.mpr ⟨v, vs, rfl, h, t⟩
theorem isO_of_val (v : V) : IsO ok H (.val v) v := isO_val.mpr rfl
theorem isOL_vals : ∀ {xs vs : List V}, IsOL ok H (xs.map D.val) vs ↔ vs = xs
  | [], vs => by rw [List.map_nil, isOL_nil]
  | x :: xs, vs => by
    rw [List.map_cons, isOL_cons]
    constructor
    · rintro ⟨v, r, rfl, h1, h2⟩
      rw [isO_val.mp h1, isOL_vals.mp h2]
    · rintro rfl
      exact ⟨x, xs, rfl, isO_of_val x, isOL_vals.mpr rfl⟩
end
/-- numbers -/
abbrev dN (n : Nat) : D := .val (.int (n : Int))
abbrev dI (n : Int) : D := .val (.int n)
abbrev vN (n : Nat) : V := .int (n : Int)
abbrev dA (s : List Nat) : D := .tup (s.map dN)
abbrev dNs (s : List Nat) : D := .lst (s.map dN)
theorem dNs_map (s : List Nat) : s.map dN = (s.map vN).map D.val := by rw [List.map_map]; rfl
section
variable {ok : Addr → Prop} {H : Hp} {v : V} {vs : List V}
theorem isOL_nats {s : List Nat} : IsOL ok H (s.map dN) vs ↔ vs = s.map vN := by rw [dNs_map, isOL_vals]
theorem isO_dA {s : List Nat} : IsO ok H (dA s) v ↔ ∃ p, v = .ref p ∧ H p = some (.tup (s.map vN)) := by
  rw [isO_tup]
  constructor
  · rintro ⟨p, vs, e, hp, h⟩
    rw [isOL_nats.mp h] at hp
    exact ⟨p, e, hp⟩
  · rintro ⟨p, e, hp⟩
    exact ⟨p, _, e, hp, isOL_nats.mpr rfl⟩
theorem isO_dNs {s : List Nat} : IsO ok H (dNs s) v ↔ ∃ p, v = .ref p ∧ ok p ∧ H p = some (.lst (s.map vN)) := by
  rw [isO_lst]
  constructor
  · rintro ⟨p, vs, e, o, hp, h⟩
    rw [isOL_nats.mp h] at hp
    exact ⟨p, e, o, hp⟩
  · rintro ⟨p, e, o, hp⟩
    exact ⟨p, _, e, o, hp, isOL_nats.mpr rfl⟩
end
end FL

namespace FL
open PySem L2 Evl

/-- te evaluates, from any heap that holds H: R tells of the heap ahead, the value, the heap behind -/
def EvR (te : TE) (σ : L2.St) (H : Hp) (R : Hp → V → Hp → Prop) : Prop := ∀ H1, Ex H H1 → ∀ Q : VK, (∀ v H2, Ex H1 H2 → R H1 v H2 → Q v H2) → te σ H1 Q
def RD (d : D) : Hp → V → Hp → Prop := fun _ v H2 => Is H2 d v
def R0 (d : D) : Hp → V → Hp → Prop := fun _ v H2 => Is0 H2 d v
/-- a new list of tuples and values -/
def RN (ds : List D) : Hp → V → Hp → Prop := fun H1 v H2 => ∃ p vs, v = .ref p ∧ H1 p = none ∧ H2 p = some (.lst vs) ∧ Is0L H2 ds vs
/-- a new dict with tuple keys -/
def RT (kvs : List (List Key × V)) : Hp → V → Hp → Prop := fun H1 v H2 => ∃ p, v = .ref p ∧ H1 p = none ∧ H2 p = some (.dT kvs)
abbrev EvD (te : TE) (σ : L2.St) (H : Hp) (d : D) : Prop := EvR te σ H (RD d)
abbrev Ev0 (te : TE) (σ : L2.St) (H : Hp) (d : D) : Prop := EvR te σ H (R0 d)
abbrev EvN (te : TE) (σ : L2.St) (H : Hp) (ds : List D) : Prop := EvR te σ H (RN ds)
/-- what was new is new from an earlier heap -/
def Back (R : Hp → V → Hp → Prop) : Prop := ∀ H1 H2 v H3, Ex H1 H2 → R H2 v H3 → R H1 v H3
theorem back_D {d : D} : Back (RD d) := fun _ _ _ _ _ h => h
theorem back_0 {d : D} : Back (R0 d) := fun _ _ _ _ _ h => h
theorem back_N {ds : List D} : Back (RN ds) := fun _ _ _ _ e h => by
  obtain ⟨p, vs, h1, h2, h3, h4⟩ := h
  exact ⟨p, vs, h1, fresh_back e h2, h3, h4⟩
theorem back_T {kvs : List (List Key × V)} : Back (RT kvs) := fun _ _ _ _ e h => by
  obtain ⟨p, h1, h2, h3⟩ := h
  exact ⟨p, h1, fresh_back e h2, h3⟩

section
variable {K : PySem.W.Frag} {σ : L2.St} {H H' : Hp} {ta tb te tx : TE} {t u : TT} {x y z v : V} {r : R2} {d : D} {ds es : List D} {R : Hp → V → Hp → Prop}
theorem EvR.mono (e : Ex H H') (h : EvR te σ H R) : EvR te σ H' R := fun H1 a Q q => h H1 (e.trans a) Q q
theorem EvR.imp {R' : Hp → V → Hp → Prop} (h : EvR te σ H R) (i : ∀ H1 v H2, Ex H H1 → Ex H1 H2 → R H1 v H2 → R' H1 v H2) : EvR te σ H R' := fun H1 a Q q => h H1 a Q fun v H2 e r => q v H2 e (i H1 v H2 a e r)
theorem EvR.ofR0 (h : Ev0 te σ H d) : EvD te σ H d := h.imp fun _ _ _ _ _ r => IsO.all r
theorem EvR.ofRN (h : EvN te σ H ds) : EvD te σ H (.lst ds) := h.imp fun _ v H2 _ _ r => by
  obtain ⟨p, vs, h1, _, h3, h4⟩ := r
  exact isO_lst.mpr ⟨p, vs, h1, True.intro, h3, IsOL.all h4⟩
theorem ev_of (h : EvD te σ H (.val v)) : Ev te σ H v := fun H1 a Q q => h H1 a Q fun v' H2 e r => by
  rw [isO_val.mp r]
  exact q H2 e
theorem ed_of (h : Ev te σ H v) : EvD te σ H (.val v) := fun H1 a Q q => h H1 a Q fun H2 e => q v H2 e (isO_of_val v)
/-- a value that stands already -/
theorem ed_at (h : Ev te σ H v) (i : Is H d v) : EvD te σ H d := fun H1 a Q q => h H1 a Q fun H2 e => q v H2 e (IsO.ex (a.trans e) i)
theorem e0_at (h : Ev te σ H v) (i : Is0 H d v) : Ev0 te σ H d := fun H1 a Q q => h H1 a Q fun H2 e => q v H2 e (IsO.ex (a.trans e) i)
theorem ed_var {i : Nat} (h : σ[i]? = some (some v)) (j : Is H d v) : EvD (tVar i) σ H d := ed_at (ev_var h) j
theorem e0_var {i : Nat} (h : σ[i]? = some (some v)) (j : Is0 H d v) : Ev0 (tVar i) σ H d := e0_at (ev_var h) j
theorem ed_c : EvD (tC v) σ H (.val v) := ed_of ev_c
theorem ed_is (h : EvD te σ H d) {d' : D} (e : d = d') : EvD te σ H d' := e ▸ h
/-! ### subscripts -/
theorem isOL_atI {ok : Addr → Prop} {vs : List V} (h : IsOL ok H ds vs) {i : Int} (e : atI ds i = some d) : ∃ v, atI vs i = some v ∧ IsO ok H d v := by
  unfold atI at e ⊢
  rw [h.length]
  cases q : ixN ds.length i with
  | none => (rw [q] at e; simp at e)
  | some j =>
    rw [q] at e
    exact h.get (show ds[j]? = some d from e)
theorem atI_nt {α : Type} {l : List α} {i : Nat} {a : α} (h : l[i]? = some a) : atI l (i : Int) = some a := by
  have hi : i < l.length := (List.getElem?_eq_some_iff.mp h).1
  unfold atI ixN
  (rw [if_pos (by omega), if_pos (by omega)])
  simpa using h
theorem ed_ixLi {i : Int} (ha : EvD ta σ H (.lst ds)) (hb : EvD tb σ H (dI i)) (e : atI ds i = some d) : EvD (tOp (rIxL K) ta tb) σ H d := fun H1 a Q q =>
  ha H1 a _ fun v1 H2 e2 r1 => hb H2 (a.trans e2) _ fun v2 H3 e3 r2 => by
    obtain ⟨p, vs, rfl, _, hp, hs⟩ := isO_lst.mp r1
    have z := isO_val.mp r2
    subst z
    obtain ⟨u, h1, h2⟩ := isOL_atI hs e
    exact ⟨p, vs, i, u, rfl, rfl, sq_of (e3 p _ hp), h1, q u H3 (e2.trans e3) (IsO.ex e3 h2)⟩
theorem ed_ixTi {i : Int} (ha : EvD ta σ H (.tup ds)) (hb : EvD tb σ H (dI i)) (e : atI ds i = some d) : EvD (tOp (rIxT K) ta tb) σ H d := fun H1 a Q q =>
  ha H1 a _ fun v1 H2 e2 r1 => hb H2 (a.trans e2) _ fun v2 H3 e3 r2 => by
    obtain ⟨p, vs, rfl, hp, hs⟩ := isO_tup.mp r1
    have z := isO_val.mp r2
    subst z
    obtain ⟨u, h1, h2⟩ := isOL_atI hs e
    exact ⟨p, vs, i, u, rfl, rfl, st_of (e3 p _ hp), h1, q u H3 (e2.trans e3) (IsO.ex e3 h2)⟩
theorem ed_ixL {i : Nat} (ha : EvD ta σ H (.lst ds)) (hb : EvD tb σ H (dN i)) (e : ds[i]? = some d) : EvD (tOp (rIxL K) ta tb) σ H d := ed_ixLi ha hb (atI_nt e)
theorem ed_ixT {i : Nat} (ha : EvD ta σ H (.tup ds)) (hb : EvD tb σ H (dN i)) (e : ds[i]? = some d) : EvD (tOp (rIxT K) ta tb) σ H d := ed_ixTi ha hb (atI_nt e)
/-! ### numbers -/
theorem ed_add {i j : Int} (ha : EvD ta σ H (dI i)) (hb : EvD tb σ H (dI j)) : EvD (tOp (rI0 fun i j => .int (i + j)) ta tb) σ H (dI (i + j)) := ed_of (ev_op (ev_of ha) (ev_of hb) rv_I0)
theorem ed_sub {i j : Int} (ha : EvD ta σ H (dI i)) (hb : EvD tb σ H (dI j)) : EvD (tOp (rI0 fun i j => .int (i - j)) ta tb) σ H (dI (i - j)) := ed_of (ev_op (ev_of ha) (ev_of hb) rv_I0)
theorem ed_pred {i : Nat} (h0 : i ≠ 0) (ha : EvD ta σ H (dN i)) : EvD (tOp (rI0 fun i j => .int (i - j)) ta (tC (.int 1))) σ H (dN (i - 1)) := ed_is (ed_sub ha ed_c) (by
  have : ((i : Nat) : Int) - 1 = ((i - 1 : Nat) : Int) := by omega
  rw [this])
theorem ed_succ {i : Nat} (ha : EvD ta σ H (dN i)) : EvD (tOp (rI0 fun i j => .int (i + j)) ta (tC (.int 1))) σ H (dN (i + 1)) := ed_is (ed_add ha ed_c) (by
  have : ((i : Nat) : Int) + 1 = ((i + 1 : Nat) : Int) := by omega
  rw [this])
theorem ed_neg {i : Int} (ha : EvD ta σ H (dI i)) : EvD (tUn (rU fun i => .int (-i)) ta) σ H (dI (-i)) := ed_of (ev_un (ev_of ha) ru_neg)
/-- comparisons of numbers, as tests -/
theorem et_eq {i j : Nat} {b : Bool} (ha : EvD ta σ H (dN i)) (hb : EvD tb σ H (dN j)) (e : decide (i = j) = b) : EvT (tTest (tOp rEq ta tb)) σ H b := et_test (ev_is (ev_op (ev_of ha) (ev_of hb) (rv_eq rfl)) (by
  rw [← e]
  by_cases h : i = j
  · subst h; simp
  · have : ¬ (V.int (i : Int) = V.int (j : Int)) := fun z => h (by injection z with z; omega)
    rw [decide_eq_false h, decide_eq_false this]))
theorem et_ne {i j : Nat} {b : Bool} (ha : EvD ta σ H (dN i)) (hb : EvD tb σ H (dN j)) (e : decide (i ≠ j) = b) : EvT (tTest (tOp rNe ta tb)) σ H b := et_test (ev_is (ev_op (ev_of ha) (ev_of hb) (rv_ne rfl)) (by
  rw [← e]
  by_cases h : i = j
  · subst h; simp
  · have : ¬ (V.int (i : Int) = V.int (j : Int)) := fun z => h (by injection z with z; omega)
    rw [decide_eq_false this, decide_eq_true h]; rfl))
theorem et_neI {i j : Int} {b : Bool} (ha : EvD ta σ H (dI i)) (hb : EvD tb σ H (dI j)) (e : decide (i ≠ j) = b) : EvT (tTest (tOp rNe ta tb)) σ H b := et_test (ev_is (ev_op (ev_of ha) (ev_of hb) (rv_ne rfl)) (by
  rw [← e]
  by_cases h : i = j
  · subst h; simp
  · have : ¬ (V.int i = V.int j) := fun z => h (by injection z)
    rw [decide_eq_false this, decide_eq_true h]; rfl))
theorem et_lt {i j : Nat} {b : Bool} (ha : EvD ta σ H (dN i)) (hb : EvD tb σ H (dN j)) (e : decide (i < j) = b) : EvT (tTest (tOp (rI0 fun i j => .bl (decide (i < j))) ta tb)) σ H b := et_test (ev_is (ev_op (ev_of ha) (ev_of hb) rv_I0) (by
  rw [← e]
  have : (((i : Nat) : Int) < ((j : Nat) : Int)) = (i < j) := by simp
  simp only [this]))
theorem et_gt {i j : Nat} {b : Bool} (ha : EvD ta σ H (dN i)) (hb : EvD tb σ H (dN j)) (e : decide (j < i) = b) : EvT (tTest (tOp (rI0 fun i j => .bl (decide (j < i))) ta tb)) σ H b := et_test (ev_is (ev_op (ev_of ha) (ev_of hb) rv_I0) (by
  rw [← e]
  have : (((j : Nat) : Int) < ((i : Nat) : Int)) = (j < i) := by simp
  simp only [this]))
/-! ### x in numbers -/
theorem inV_ints (i : Int) : ∀ ns : List Int, inV (.int i) (ns.map V.int) = ns.contains i
  | [] => rfl
  | n :: r => by
    rw [List.map_cons, List.contains_cons]
    show (eqV (.int n) (.int i) || inV (.int i) (r.map V.int)) = (i == n || r.contains i)
    rw [inV_ints i r]
    congr 1
    show (n == i) = (i == n)
    by_cases h : n = i
    · subst h; rfl
    · have h1 : (n == i) = false := by simpa using h
      have h2 : (i == n) = false := by simpa using fun z => h z.symm
      rw [h1, h2]
theorem flat_ints (ns : List Int) : (ns.map V.int).all flatV = true := by
  rw [List.all_eq_true]
  intro x hx
  obtain ⟨n, _, rfl⟩ := List.mem_map.mp hx
  rfl
theorem dIs_map (s : List Int) : s.map dI = (s.map V.int).map D.val := by rw [List.map_map]; rfl
theorem isOL_ints {ok : Addr → Prop} {vs : List V} {s : List Int} : IsOL ok H (s.map dI) vs ↔ vs = s.map V.int := by rw [dIs_map, isOL_vals]
theorem ev_inI {i : Int} {ns : List Int} (ha : EvD ta σ H (dI i)) (hb : EvD tb σ H (.lst (ns.map dI))) : Ev (tOp (rIn K false) ta tb) σ H (.bl (ns.contains i)) := fun H1 a Q q =>
  ha H1 a _ fun v1 H2 e2 r1 => hb H2 (a.trans e2) _ fun v2 H3 e3 r2 => by
    obtain ⟨p, vs, rfl, _, hp, hs⟩ := isO_lst.mp r2
    have z := isO_val.mp r1
    subst z
    rw [isOL_ints.mp hs] at hp
    refine ⟨p, _, rfl, Or.inl (sq_of hp), rfl, flat_ints ns, ?_⟩
    rw [if_neg Bool.false_ne_true, inV_ints]
    exact q H3 (e2.trans e3)
theorem ev_niI {i : Int} {ns : List Int} (ha : EvD ta σ H (dI i)) (hb : EvD tb σ H (.lst (ns.map dI))) : Ev (tOp (rIn K true) ta tb) σ H (.bl (!ns.contains i)) := fun H1 a Q q =>
  ha H1 a _ fun v1 H2 e2 r1 => hb H2 (a.trans e2) _ fun v2 H3 e3 r2 => by
    obtain ⟨p, vs, rfl, _, hp, hs⟩ := isO_lst.mp r2
    have z := isO_val.mp r1
    subst z
    rw [isOL_ints.mp hs] at hp
    refine ⟨p, _, rfl, Or.inl (sq_of hp), rfl, flat_ints ns, ?_⟩
    rw [if_pos rfl, inV_ints]
    exact q H3 (e2.trans e3)
theorem ev_inIT {i : Int} {ns : List Int} (ha : EvD ta σ H (dI i)) (hb : EvD tb σ H (.tup (ns.map dI))) : Ev (tOp (rIn K false) ta tb) σ H (.bl (ns.contains i)) := fun H1 a Q q =>
  ha H1 a _ fun v1 H2 e2 r1 => hb H2 (a.trans e2) _ fun v2 H3 e3 r2 => by
    obtain ⟨p, vs, rfl, hp, hs⟩ := isO_tup.mp r2
    have z := isO_val.mp r1
    subst z
    rw [isOL_ints.mp hs] at hp
    refine ⟨p, _, rfl, Or.inr (st_of hp), rfl, flat_ints ns, ?_⟩
    rw [if_neg Bool.false_ne_true, inV_ints]
    exact q H3 (e2.trans e3)
theorem cont_nats (i : Nat) : ∀ l : List Nat, (l.map fun (n : Nat) => (n : Int)).contains (i : Int) = l.contains i
  | [] => rfl
  | n :: r => by
    rw [List.map_cons, List.contains_cons, List.contains_cons, cont_nats i r]
    congr 1
    by_cases h : i = n
    · subst h; simp
    · have h1 : (i == n) = false := by simpa using h
      have h2 : (((i : Nat) : Int) == ((n : Nat) : Int)) = false := by simp; omega
      rw [h1, h2]
theorem dN_dI (l : List Nat) : l.map dN = (l.map fun (n : Nat) => (n : Int)).map dI := by rw [List.map_map]; rfl
theorem ev_in {i : Nat} {l : List Nat} (ha : EvD ta σ H (dN i)) (hb : EvD tb σ H (dNs l)) : Ev (tOp (rIn K false) ta tb) σ H (.bl (l.contains i)) := by
  rw [← cont_nats]
  exact ev_inI ha (by rw [← dN_dI]; exact hb)
theorem ev_ni {i : Nat} {l : List Nat} (ha : EvD ta σ H (dN i)) (hb : EvD tb σ H (dNs l)) : Ev (tOp (rIn K true) ta tb) σ H (.bl (!l.contains i)) := by
  rw [← cont_nats]
  exact ev_niI ha (by rw [← dN_dI]; exact hb)
/-! ### arguments -/
def EvDs (ta : TA) (σ : L2.St) (H : Hp) (ds : List D) : Prop := ∀ H1, Ex H H1 → ∀ Q : List V → Hp → Prop, (∀ vs H2, Ex H1 H2 → IsL H2 ds vs → Q vs H2) → ta σ H1 Q
theorem eds_nil : EvDs tNil σ H [] := fun H1 _ _ q => q [] H1 (Ex.refl H1) IsOL.nil
theorem eds_cons {tr : TA} (h : EvD ta σ H d) (hr : EvDs tr σ H ds) : EvDs (tCons ta tr) σ H (d :: ds) := fun H1 a Q q =>
  h H1 a _ fun v H2 e2 r => hr H2 (a.trans e2) _ fun vs H3 e3 rs => q (v :: vs) H3 (e2.trans e3) (IsOL.cons (IsO.ex e3 r) rs)
theorem EvDs.mono {tr : TA} (e : Ex H H') (h : EvDs tr σ H ds) : EvDs tr σ H' ds := fun H1 a Q q => h H1 (e.trans a) Q q
/-! ### displays -/
theorem ed_lst {tr : TA} (h : EvDs tr σ H ds) (hl : ds.length ≤ 100000) : EvD (tLst tr) σ H (.lst ds) := fun H1 a Q q =>
  h H1 a _ fun vs H2 e2 rs => ⟨sz_of (by rw [rs.length]; exact hl), fun p hp => q (.ref p) _ (e2.trans (Ex.new hp)) (isO_lst.mpr ⟨p, vs, rfl, True.intro, upd_same, IsOL.ex (Ex.new hp) rs⟩)⟩
theorem ed_tup {tr : TA} (h : EvDs tr σ H ds) (hl : ds.length ≤ 100000) : EvD (tTup tr) σ H (.tup ds) := fun H1 a Q q =>
  h H1 a _ fun vs H2 e2 rs => ⟨sz_of (by rw [rs.length]; exact hl), fun p hp => q (.ref p) _ (e2.trans (Ex.new hp)) (isO_tup.mpr ⟨p, vs, rfl, upd_same, IsOL.ex (Ex.new hp) rs⟩)⟩
/-- a new list of values -/
theorem en_ints {tr : TA} {vs : List V} (h : EvA tr σ H vs) (hl : vs.length ≤ 100000) : EvN (tLst tr) σ H (vs.map D.val) := fun H1 a Q q =>
  h H1 a _ fun H2 e2 => ⟨sz_of hl, fun p hp => q (.ref p) _ (e2.trans (Ex.new hp)) ⟨p, vs, rfl, fresh_back e2 hp, upd_same, isOL_vals.mpr rfl⟩⟩
/-- a new tuple of values -/
theorem e0_tup {tr : TA} {vs : List V} (h : EvA tr σ H vs) (hl : vs.length ≤ 100000) : Ev0 (tTup tr) σ H (.tup (vs.map D.val)) := fun H1 a Q q =>
  h H1 a _ fun H2 e2 => ⟨sz_of hl, fun p hp => q (.ref p) _ (e2.trans (Ex.new hp)) (isO_tup.mpr ⟨p, vs, rfl, upd_same, isOL_vals.mpr rfl⟩)⟩
/-! ### len, sum, all -/
theorem ed_len (h : EvD ta σ H (.lst ds)) : EvD (tCB (rLenS K) (tCons ta tNil)) σ H (dN ds.length) := fun H1 a Q q =>
  h H1 a _ fun v H2 e2 r => by
    obtain ⟨p, vs, rfl, _, hp, hs⟩ := isO_lst.mp r
    refine ⟨p, vs, rfl, Or.inl (sq_of hp), q _ H2 e2 ?_⟩
    rw [hs.length]
    exact isO_of_val _
theorem ed_sum {ns : List Int} (h : EvD ta σ H (.lst (ns.map dI))) : EvD (tCB (rSum K) (tCons ta tNil)) σ H (dI ns.sum) := fun H1 a Q q =>
  h H1 a _ fun v H2 e2 r => by
    obtain ⟨p, vs, rfl, _, hp, hs⟩ := isO_lst.mp r
    rw [isOL_ints.mp hs] at hp
    exact ⟨p, ns, rfl, sq_of hp, q _ H2 e2 (isO_of_val _)⟩
theorem ev_all {bs : List Bool} (h : EvD ta σ H (.lst (bs.map fun b => D.val (.bl b)))) : Ev (tCB (rAll K) (tCons ta tNil)) σ H (.bl (bs.all id)) := fun H1 a Q q =>
  h H1 a _ fun v H2 e2 r => by
    obtain ⟨p, vs, rfl, _, hp, hs⟩ := isO_lst.mp r
    have e : (bs.map fun b => D.val (.bl b)) = (bs.map V.bl).map D.val := by rw [List.map_map]; rfl
    rw [e] at hs
    rw [isOL_vals.mp hs] at hp
    exact ⟨p, bs, rfl, sq_of hp, q H2 e2⟩
/-! ### calls -/
/-- the promise of a def that changes nothing -/
def SpR {α : Type} (pre : α → Hp → Prop) (args : α → List D) (R : α → Hp → V → Hp → Prop) : Sp := fun vs H Q _ => ∃ x : α, pre x H ∧ IsL H (args x) vs ∧ ∀ v H', Ex H H' → R x H v H' → Q v H'
theorem SpR.len {α : Type} {pre : α → Hp → Prop} {args : α → List D} {R : α → Hp → V → Hp → Prop} {n : Nat} (hn : ∀ x, (args x).length = n) : ∀ (vs : List V) (H : Hp) (Q : VK) (E : XK), SpR pre args R vs H Q E → vs.length = n := fun vs H Q E h => by
  obtain ⟨x, _, h2, _⟩ := h
  rw [h2.length, hn]
theorem er_call {α : Type} {pre : α → Hp → Prop} {args : α → List D} {R : α → Hp → V → Hp → Prop} {E : XK} {tr : TA} (x : α) (h : EvDs tr σ H (args x)) (hp : ∀ H1, Ex H H1 → pre x H1) (hb : Back (R x)) : EvR (tCall (SpR pre args R) [] E tr) σ H (R x) := fun H1 a Q q =>
  h H1 a _ fun vs H2 e2 rs => ⟨x, hp H2 (a.trans e2), by rw [List.append_nil]; exact rs, fun v H3 e3 hr => q v H3 (e2.trans e3) (hb _ _ _ _ e2 hr)⟩
/-! ### statements -/
variable {De : Ends} {tu tw tz : TS} {g : TG}
theorem r_asg {i : Nat} (h : EvR te σ H R) (k : ∀ v H1, Ex H H1 → R H v H1 → De.nx (σ.set i (some v)) H1) : tAsg te (gName i) De σ H := h H (Ex.refl H) _ fun v H1 e r => k v H1 e r
theorem rq_asg {i : Nat} (h : EvR te σ H R) (k : ∀ v H1, Ex H H1 → R H v H1 → tz De (σ.set i (some v)) H1) : tSeq (tAsg te (gName i)) tz De σ H := r_asg (De := { De with nx := tz De }) h k
theorem r_ret (h : EvR te σ H R) (k : ∀ v H1, Ex H H1 → R H v H1 → De.rt v H1) : tRet te De σ H := h H (Ex.refl H) _ k
end
end FL

namespace FL
open PySem L2 Evl

section
variable {K : PySem.W.Frag} {σ : L2.St} {H H' : Hp} {ta tb te tx : TE} {t u : TT} {x y z v : V} {r : R2} {d : D} {ds es : List D} {R : Hp → V → Hp → Prop}
theorem eva_of {tr : TA} {xs : List V} (h : EvDs tr σ H (xs.map D.val)) : EvA tr σ H xs := fun H1 a Q q => h H1 a _ fun vs H2 e rs => by
  rw [isOL_vals.mp rs]
  exact q H2 e
/-- an argument list of one number -/
theorem eva_1 {n : Int} (h : EvD ta σ H (dI n)) : EvA (tCons ta tNil) σ H [.int n] := ea_cons (ev_of h) ea_nil
/-! ### fields -/
theorem ed_fld {C dx a : Addr} {fs : List (Str × V)} {f : Str} {i : Nat} (cl : Cls K C) (hn : NoAttr K C f) (h : σ[i]? = some (some (.ref a))) (ho : H a = some (.ins C dx fs)) (hl : fs.lookup f = some v) (hi : Is H d v) : EvD (tFld K (tVar i) f) σ H d := fun H1 e Q q =>
  ⟨.ref a, h, a, C, dx, fs, v, rfl, e a _ ho, cl, hn, hl, q v H1 (Ex.refl H1) (IsO.ex e hi)⟩
/-! ### targets -/
theorem g_two {i j : Nat} {d1 d2 : D} {Q : L2.St → Hp → Prop} {ok : Addr → Prop} (h : IsO ok H (.tup [d1, d2]) x) (k : ∀ v1 v2, IsO ok H d1 v1 → IsO ok H d2 v2 → Q ((σ.set i (some v1)).set j (some v2)) H) : gTup K 2 (gCons (gName i) (gCons (gName j) gNil)) x σ H Q := by
  obtain ⟨p, vs, rfl, hp, hs⟩ := isO_tup.mp h
  have hl := hs.length
  obtain ⟨v1, r1, rfl, h1, hs⟩ := isOL_cons.mp hs
  obtain ⟨v2, r2, rfl, h2, hs⟩ := isOL_cons.mp hs
  rw [isOL_nil.mp hs] at hl hp
  exact ⟨p, _, rfl, st_of hp, rfl, v1, [v2], rfl, v2, [], rfl, rfl, k v1 v2 h1 h2⟩
theorem g_three {i j l : Nat} {d1 d2 d3 : D} {Q : L2.St → Hp → Prop} {ok : Addr → Prop} (h : IsO ok H (.tup [d1, d2, d3]) x) (k : ∀ v1 v2 v3, IsO ok H d1 v1 → IsO ok H d2 v2 → IsO ok H d3 v3 → Q (((σ.set i (some v1)).set j (some v2)).set l (some v3)) H) :
    gTup K 3 (gCons (gName i) (gCons (gName j) (gCons (gName l) gNil))) x σ H Q := by
  obtain ⟨p, vs, rfl, hp, hs⟩ := isO_tup.mp h
  obtain ⟨v1, r1, rfl, h1, hs⟩ := isOL_cons.mp hs
  obtain ⟨v2, r2, rfl, h2, hs⟩ := isOL_cons.mp hs
  obtain ⟨v3, r3, rfl, h3, hs⟩ := isOL_cons.mp hs
  rw [isOL_nil.mp hs] at hp
  exact ⟨p, _, rfl, st_of hp, rfl, v1, [v2, v3], rfl, v2, [v3], rfl, v3, [], rfl, rfl, k v1 v2 v3 h1 h2 h3⟩
/-! ### loops that change nothing but slots -/
variable {De : Ends} {tu tw tz : TS} {g : TG}
/-- over a range -/
theorem w_range {j n : Nat} (h : EvD ta σ H (dN n)) (hn : n ≤ 100000) (Iv : Nat → L2.St → Prop) (h0 : Iv 0 σ)
    (hs : ∀ (i : Nat) σ' H', i < n → Iv i σ' → Ex H H' → ∀ Nx : L2.St → Hp → Prop, (∀ σ3 H3, Iv (i + 1) σ3 → Ex H' H3 → Nx σ3 H3) → tu { De with nx := Nx, ct := Nx, bk := De.nx } (σ'.set j (some (vN i))) H')
    (hd : ∀ σ' H', Iv n σ' → Ex H H' → De.nx σ' H') : tFor (iRng1 (tCons ta tNil)) (gName j) tu De σ H :=
  s_forR1 (eva_1 h) ⟨by omega, by omega⟩ (fun i σ' H' => Iv i σ' ∧ Ex H H') (fun H1 e => ⟨h0, e⟩) (fun i σ' H' hi p => hs i σ' H' (by omega) p.1 p.2 _ fun σ3 H3 i3 e3 => ⟨i3, p.2.trans e3⟩) (fun σ' H' p => hd σ' H' (by simpa using p.1) p.2)
theorem wq_range {j n : Nat} (h : EvD ta σ H (dN n)) (hn : n ≤ 100000) (Iv : Nat → L2.St → Prop) (h0 : Iv 0 σ)
    (hs : ∀ (i : Nat) σ' H', i < n → Iv i σ' → Ex H H' → ∀ Nx : L2.St → Hp → Prop, (∀ σ3 H3, Iv (i + 1) σ3 → Ex H' H3 → Nx σ3 H3) → tu { De with nx := Nx, ct := Nx, bk := tz De } (σ'.set j (some (vN i))) H')
    (hd : ∀ σ' H', Iv n σ' → Ex H H' → tz De σ' H') : tSeq (tFor (iRng1 (tCons ta tNil)) (gName j) tu) tz De σ H := w_range (De := { De with nx := tz De }) h hn Iv h0 hs hd
/-- over a list -/
theorem w_list {ds : List D} {tl : TE} (h : EvD tl σ H (.lst ds)) (Iv : Nat → L2.St → Prop) (h0 : Iv 0 σ)
    (hs : ∀ (i : Nat) (d : D) (x : V) σ' H', ds[i]? = some d → Iv i σ' → Ex H H' → Is H' d x → ∀ Nx : L2.St → Hp → Prop, (∀ σ3 H3, Iv (i + 1) σ3 → Ex H' H3 → Nx σ3 H3) → g x σ' H' fun σ2 H2 => tu { De with nx := Nx, ct := Nx, bk := De.nx } σ2 H2)
    (hd : ∀ σ' H', Iv ds.length σ' → Ex H H' → De.nx σ' H') : tFor (iList K tl) g tu De σ H := by
  refine h H (Ex.refl H) _ fun v H1 e r => ?_
  obtain ⟨p, vs, rfl, _, hp, hv⟩ := isO_lst.mp r
  refine ⟨p, rfl, ⟨vs, sq_of hp⟩, for_list (xs := vs) (fun i σ' H' => Iv i σ' ∧ Ex H1 H') ⟨h0, Ex.refl H1⟩ (fun i σ' H' _ q => sq_of (q.2 p _ hp)) (fun i x σ' H' hx q => ?_) (fun σ' H' q => hd σ' H' (by rw [← hv.length]; exact q.1) (e.trans q.2))⟩
  obtain ⟨d, hd', hi⟩ := hv.getV hx
  exact hs i d x σ' H' hd' q.1 (e.trans q.2) (IsO.ex q.2 hi) _ fun σ3 H3 i3 e3 => ⟨i3, q.2.trans e3⟩
theorem wq_list {ds : List D} {tl : TE} (h : EvD tl σ H (.lst ds)) (Iv : Nat → L2.St → Prop) (h0 : Iv 0 σ)
    (hs : ∀ (i : Nat) (d : D) (x : V) σ' H', ds[i]? = some d → Iv i σ' → Ex H H' → Is H' d x → ∀ Nx : L2.St → Hp → Prop, (∀ σ3 H3, Iv (i + 1) σ3 → Ex H' H3 → Nx σ3 H3) → g x σ' H' fun σ2 H2 => tu { De with nx := Nx, ct := Nx, bk := tz De } σ2 H2)
    (hd : ∀ σ' H', Iv ds.length σ' → Ex H H' → tz De σ' H') : tSeq (tFor (iList K tl) g tu) tz De σ H := w_list (De := { De with nx := tz De }) h Iv h0 hs hd
/-- over enumerate of a list: i and the i-th -/
theorem w_enum {ds : List D} {tl : TE} {j l : Nat} (h : EvD tl σ H (.lst ds)) (Iv : Nat → L2.St → Prop) (h0 : Iv 0 σ)
    (hs : ∀ (i : Nat) (d : D) (x : V) σ' H', ds[i]? = some d → Iv i σ' → Ex H H' → Is H' d x → ∀ Nx : L2.St → Hp → Prop, (∀ σ3 H3, Iv (i + 1) σ3 → Ex H' H3 → Nx σ3 H3) → tu { De with nx := Nx, ct := Nx, bk := De.nx } ((σ'.set j (some (vN i))).set l (some x)) H')
    (hd : ∀ σ' H', Iv ds.length σ' → Ex H H' → De.nx σ' H') : tFor (iEnum K (tCons tl tNil)) (gTup K 2 (gCons (gName j) (gCons (gName l) gNil))) tu De σ H := by
  refine h H (Ex.refl H) _ fun v H1 e r => ?_
  obtain ⟨p, vs, rfl, _, hp, hv⟩ := isO_lst.mp r
  refine ⟨p, vs, rfl, sq_of hp, for_it (walk_enum (xs := vs)) (fun i σ' H' => Iv i σ' ∧ Ex H1 H') ⟨h0, Ex.refl H1⟩ (fun i σ' H' _ q => sq_of (q.2 p _ hp)) (fun i x σ' H' H'' hi q yy => ?_) (fun σ' H' q => hd σ' H' (by rw [← hv.length]; exact q.1) (e.trans q.2))⟩
  obtain ⟨T, x1, y1, rfl, hT, rfl, e1, e2⟩ := yy
  cases e1
  obtain ⟨d, hd', hi'⟩ := hv.getV e2
  have e3 : Ex H' (upd H' T (.tup [.int (i : Nat), y1])) := Ex.new hT
  refine ⟨T, _, rfl, st_of upd_same, rfl, _, _, rfl, _, _, rfl, rfl, ?_⟩
  exact hs i d y1 σ' _ hd' q.1 ((e.trans q.2).trans e3) (IsO.ex (q.2.trans e3) hi') _ fun σ3 H3 i3 e4 => ⟨i3, (q.2.trans e3).trans e4⟩
theorem wq_enum {ds : List D} {tl : TE} {j l : Nat} (h : EvD tl σ H (.lst ds)) (Iv : Nat → L2.St → Prop) (h0 : Iv 0 σ)
    (hs : ∀ (i : Nat) (d : D) (x : V) σ' H', ds[i]? = some d → Iv i σ' → Ex H H' → Is H' d x → ∀ Nx : L2.St → Hp → Prop, (∀ σ3 H3, Iv (i + 1) σ3 → Ex H' H3 → Nx σ3 H3) → tu { De with nx := Nx, ct := Nx, bk := tz De } ((σ'.set j (some (vN i))).set l (some x)) H')
    (hd : ∀ σ' H', Iv ds.length σ' → Ex H H' → tz De σ' H') : tSeq (tFor (iEnum K (tCons tl tNil)) (gTup K 2 (gCons (gName j) (gCons (gName l) gNil))) tu) tz De σ H := w_enum (De := { De with nx := tz De }) h Iv h0 hs hd
/-! ### comprehensions: a new list grows, of tuples and values -/
def Lw (H : Hp) (ds : List D) (Dl : Addr) (H' : Hp) : Prop := H Dl = none ∧ Ex H H' ∧ ∃ vs, H' Dl = some (.lst vs) ∧ Is0L H' ds vs
theorem lw_turn {Dl : Addr} {b : Bool} {σ2 : L2.St} {H0 H1 : Hp} {k : Nat} {a : Hp → Prop} (p : Lw H0 ds Dl H') (hz : ds.length < 100000) (ht : EvT t σ2 H' b) (he : b = true → Ev0 te σ2 H' d)
    (k1 : b = true → ∀ H3, Lw H0 (ds ++ [d]) Dl H3 → a H3) (k2 : b = false → ∀ H3, Lw H0 ds Dl H3 → a H3) :
    t σ2 H' fun b H3 => if b = true then te σ2 H3 fun y H4 => ∃ acc, H4 Dl = some (.lst acc) ∧ acc.length < sizeLine ∧ a (upd H4 Dl (.lst (acc ++ [y]))) else a H3 := by
  obtain ⟨p1, p2, vs, p3, p4⟩ := p
  refine ht H' (Ex.refl H') _ fun H3 e3 => ?_
  cases b with
  | true =>
    show te σ2 H3 fun y H4 => ∃ acc, H4 Dl = some (.lst acc) ∧ acc.length < sizeLine ∧ a (upd H4 Dl (.lst (acc ++ [y])))
    refine he rfl H3 e3 _ fun y H4 e4 r => ?_
    have e5 := e3.trans e4
    refine ⟨vs, e5 Dl _ p3, sz_lt (by rw [p4.length]; exact hz), k1 rfl _ ⟨p1, Ex.mut (p2.trans e5) p1, vs ++ [y], upd_same, ?_⟩⟩
    have tx : Tx H4 (upd H4 Dl (.lst (vs ++ [y]))) := Tx.upd fun xs z => by rw [e5 Dl _ p3] at z; cases z
    exact IsOL.tx tx (IsOL.append (IsOL.ex e5 p4) (IsOL.one r))
  | false =>
    show a H3
    exact k2 rfl _ ⟨p1, p2.trans e3, vs, e3 Dl _ p3, IsOL.ex e3 p4⟩
theorem filter_take {α : Type} {l : List α} {i : Nat} {a : α} (f : α → Bool) (h : l[i]? = some a) : (l.take (i + 1)).filter f = (l.take i).filter f ++ (if f a = true then [a] else []) := by
  (rw [List.take_add_one, h, List.filter_append])
  show _ ++ List.filter f [a] = _
  rw [List.filter_cons, List.filter_nil]
theorem en_lcR {tr : TA} {n j : Nat} {ws : List Nat} (f : Nat → Bool) (dd : Nat → D) (h : EvA tr σ H [vN n]) (hn : n ≤ 40000) (hw : ∀ x, wipe ((wipe σ ws).set j (some x)) ws = wipe σ ws)
    (ht : ∀ (i : Nat) H1, Ex H H1 → i < n → EvT t ((wipe σ ws).set j (some (vN i))) H1 (f i)) (he : ∀ (i : Nat) H1, Ex H H1 → i < n → f i = true → Ev0 te ((wipe σ ws).set j (some (vN i))) H1 (dd i)) :
    EvN (tLc (iRng1 tr) (gName j) t te ws) σ H (((List.range n).filter f).map dd) := fun H0 e Q q => h H0 e _ fun H1 e1 => ⟨(n : Int), rfl, by omega, by omega, fun Dl hD => by
  have hnn : ((n : Int)).toNat = n := by omega
  rw [hnn]
  refine lc_range (lo := 0) (n := n) (fun i H' => Lw H1 (((List.range i).filter f).map dd) Dl H') ⟨hD, Ex.new hD, [], upd_same, IsOL.nil⟩ (fun i H' hi p => ?_) (fun H' p => ?_)
  · have e0 : (0 : Int) + (i : Int) = (i : Int) := Int.zero_add _
    show wipe ((wipe σ ws).set j (some (.int ((0 : Int) + (i : Int))))) ws = wipe σ ws ∧ t ((wipe σ ws).set j (some (.int ((0 : Int) + (i : Int))))) H' _
    rw [e0]
    have e2 := (e.trans e1).trans p.2.1
    have hl : (((List.range i).filter f).map dd).length ≤ i := by
      rw [List.length_map]
      have := List.length_filter_le f (List.range i)
      rw [List.length_range] at this
      exact this
    refine ⟨hw _, lw_turn (b := f i) (d := dd i) (k := 0) (H1 := H1) p (by omega) (ht i H' e2 hi) (fun hf => he i H' e2 hi hf) (fun hf H3 q3 => ?_) (fun hf H3 q3 => ?_)⟩
    · rw [List.range_succ, List.filter_append, List.map_append, List.filter_cons, if_pos hf]
      exact q3
    · rw [List.range_succ, List.filter_append, List.map_append, List.filter_cons, if_neg (by rw [hf]; exact Bool.false_ne_true)]
      simpa using q3
  · obtain ⟨p1, p2, vs, p3, p4⟩ := p
    exact q _ H' (e1.trans p2) ⟨Dl, vs, rfl, fresh_back e1 p1, p3, p4⟩⟩
theorem et_yes : EvT tYes σ H true := fun H1 _ Q q => q H1 (Ex.refl H1)
theorem en_lcR0 {n j : Nat} {ws : List Nat} (dd : Nat → D) (h : EvD ta σ H (dN n)) (hn : n ≤ 40000) (hw : ∀ x, wipe ((wipe σ ws).set j (some x)) ws = wipe σ ws)
    (he : ∀ (i : Nat) H1, Ex H H1 → i < n → Ev0 te ((wipe σ ws).set j (some (vN i))) H1 (dd i)) : EvN (tLc (iRng1 (tCons ta tNil)) (gName j) tYes te ws) σ H ((List.range n).map dd) := by
  have z := en_lcR (t := tYes) (fun _ => true) dd (eva_1 h) hn hw (fun _ _ _ _ => et_yes) (fun i H1 e hi _ => he i H1 e hi)
  rw [List.filter_eq_self.mpr (fun _ _ => rfl)] at z
  exact z
/-- over a list: told by any walk of targets -/
theorem en_lcG {α : Type} {l : List α} {gd : α → D} {tl : TE} {ws : List Nat} {g : TG} (f : α → Bool) (dd : α → D) (h : EvD tl σ H (.lst (l.map gd))) (hn : l.length ≤ 40000)
    (hs : ∀ a ∈ l, ∀ (x : V) H1, Ex H H1 → Is H1 (gd a) x → ∀ Q : L2.St → Hp → Prop, (∀ σ2, wipe σ2 ws = wipe σ ws → EvT t σ2 H1 (f a) → (f a = true → Ev0 te σ2 H1 (dd a)) → Q σ2 H1) → g x (wipe σ ws) H1 Q) :
    EvN (tLc (iList K tl) g t te ws) σ H ((l.filter f).map dd) := fun H0 e Q q => h H0 e _ fun v H1 e1 r => by
  obtain ⟨p, vs, rfl, _, hp, hv⟩ := isO_lst.mp r
  refine ⟨p, rfl, ⟨vs, sq_of hp⟩, fun Dl hD => ?_⟩
  have hlen : vs.length = l.length := by rw [hv.length, List.length_map]
  refine lc_list (xs := vs) (fun i H' => Lw H1 (((l.take i).filter f).map dd) Dl H') ⟨hD, Ex.new hD, [], upd_same, IsOL.nil⟩ (fun i H' _ q => sq_of (q.2.1 p _ hp)) (fun i x H' hi q' => ?_) (fun H' q' => ?_)
  · obtain ⟨d0, hd0, hi0⟩ := hv.getV hi
    rw [List.getElem?_map] at hd0
    obtain ⟨a, ha, rfl⟩ := Option.map_eq_some_iff.mp hd0
    refine hs a (List.mem_of_getElem? ha) x H' ((e.trans e1).trans q'.2.1) (IsO.ex q'.2.1 hi0) _ fun σ2 hw ht he => ?_
    have hl : (((l.take i).filter f).map dd).length ≤ l.length := by
      rw [List.length_map]
      have h1 := List.length_filter_le f (l.take i)
      have h2 : (l.take i).length ≤ l.length := by rw [List.length_take]; omega
      omega
    refine ⟨hw, lw_turn (b := f a) (d := dd a) (k := 0) (H1 := H1) q' (by omega) ht he (fun hf H3 q3 => ?_) (fun hf H3 q3 => ?_)⟩
    · rw [filter_take f ha, if_pos hf, List.map_append]
      exact q3
    · rw [filter_take f ha, if_neg (by rw [hf]; exact Bool.false_ne_true), List.append_nil]
      exact q3
  · obtain ⟨p1, p2, vs2, p3, p4⟩ := q'
    rw [hlen, List.take_length] at p4
    exact q _ H' (e1.trans p2) ⟨Dl, vs2, rfl, fresh_back e1 p1, p3, p4⟩
/-- the target a name -/
theorem en_lcL {α : Type} {l : List α} {gd : α → D} {tl : TE} {ws : List Nat} {j : Nat} (f : α → Bool) (dd : α → D) (h : EvD tl σ H (.lst (l.map gd))) (hn : l.length ≤ 40000) (hw : ∀ x, wipe ((wipe σ ws).set j (some x)) ws = wipe σ ws)
    (ht : ∀ a ∈ l, ∀ (x : V) H1, Ex H H1 → Is H1 (gd a) x → EvT t ((wipe σ ws).set j (some x)) H1 (f a)) (he : ∀ a ∈ l, ∀ (x : V) H1, Ex H H1 → Is H1 (gd a) x → f a = true → Ev0 te ((wipe σ ws).set j (some x)) H1 (dd a)) :
    EvN (tLc (iList K tl) (gName j) t te ws) σ H ((l.filter f).map dd) := en_lcG f dd h hn fun a ha x H1 e i Q q => q _ (hw x) (ht a ha x H1 e i) (he a ha x H1 e i)
/-- the target two names, no test -/
theorem en_lcP {α : Type} {l : List α} {g1 g2 : α → D} {tl : TE} {ws : List Nat} {j m : Nat} (dd : α → D) (h : EvD tl σ H (.lst (l.map fun a => .tup [g1 a, g2 a]))) (hn : l.length ≤ 40000) (hw : ∀ x y, wipe (((wipe σ ws).set j (some x)).set m (some y)) ws = wipe σ ws)
    (he : ∀ a ∈ l, ∀ (x y : V) H1, Ex H H1 → Is H1 (g1 a) x → Is H1 (g2 a) y → Ev0 te (((wipe σ ws).set j (some x)).set m (some y)) H1 (dd a)) :
    EvN (tLc (iList K tl) (gTup K 2 (gCons (gName j) (gCons (gName m) gNil))) tYes te ws) σ H (l.map dd) := by
  have z := en_lcG (K := K) (t := tYes) (te := te) (σ := σ) (H := H) (ws := ws) (g := gTup K 2 (gCons (gName j) (gCons (gName m) gNil))) (fun _ => true) dd h hn fun a ha x H1 e i Q q => g_two i fun v1 v2 h1 h2 => q _ (hw v1 v2) et_yes (fun _ => he a ha v1 v2 H1 e h1 h2)
  rw [List.filter_eq_self.mpr (fun _ _ => rfl)] at z
  exact z
end
end FL

namespace FL
open PySem PySem.Spec PyProof.Rows L2 Evl FM
open Su203 (Network Link Flow)

/-- the i-th statement of the program -/
def topS (i : Nat) : Stmt := PySem.Challenge.pw_flowmoves_s01_answers.main.body.getD i (.Pass ⟨0, 0, 0, 0⟩)

/-- what the top has written of built-ins, constants and the class -/
structure Txt (K : PySem.W.Frag) (mg : Str → Option Value) (C : Addr) : Prop where
  cl : Cls K C
  n1 : NoAttr K C "node_count"
  n2 : NoAttr K C "ends"
  n3 : NoAttr K C "capacities"
  n4 : NoAttr K C "flows"
  n5 : NoAttr K C "paths"
  n6 : NoAttr K C "routes"
  n7 : NoAttr K C "assignment"
  len : mg "len" = none
  sum : mg "sum" = none
  all : mg "all" = none
  range : mg "range" = none
  enumerate : mg "enumerate" = none
  list : mg "list" = none
  tuple : mg "tuple" = none
  cMOST_LINKS : ∃ t, mg "MOST_LINKS" = some (.int 10 t)
  cMOST_FLOWS : ∃ t, mg "MOST_FLOWS" = some (.int 5 t)
  cMOST_PATHS : ∃ t, mg "MOST_PATHS" = some (.int 3 t)
  cMOST_AMOUNT : ∃ t, mg "MOST_AMOUNT" = some (.int 99 t)
  cCREATE : ∃ t, mg "CREATE" = some (.int 0 t)
  cLEAST_NODES : ∃ t, mg "LEAST_NODES" = some (.int 2 t)
  cMOST_NODES : ∃ t, mg "MOST_NODES" = some (.int 6 t)
/-- a def of the text, found by its name -/
structure Def (K : PySem.W.Frag) (mg : Str → Option Value) (x : Str) (st : Stmt) (ps : List Str) : Prop where
  ex : ∃ f fd, Fun K x x st f fd ∧ mg x = some (.ref f) ∧ Binds K fd ps []
/-- a def that may be called by its name -/
structure Cal (P : Program) (w : World) (K : PySem.W.Frag) (mg : Str → Option Value) (base : Heap) (k : Nat) (x : Str) (sp : Sp) : Prop where
  ex : ∃ f fd ps, FnOk P w K mg base CX0 k f fd ps sp ∧ mg x = some (.ref f) ∧ PySem.W.keepIn K (.ref f) = true ∧ Binds K fd ps []
section
variable {P : Program} {w : World} {K : PySem.W.Frag} {mg : Str → Option Value} {base : Heap}
theorem cal_mk {x : Str} {st : Stmt} {N ps : List Str} {k : Nat} {sp : Sp} (F : Def K mg x st ps) (S : FnScope N ps (defScope st)) (len : ∀ vs H Q E, sp vs H Q E → vs.length = ps.length)
    (hbody : ∀ (f : Addr) (cdv : Value) (A : Around) (outer : List Env) (s : Shared) (H : Hp) (vs : List V) (Q : VK) (E : XK), Room k (A.deeper (envOfC x (defScope st) s.heap.objs.size f cdv)) → sp vs H Q E →
      ∃ t, PSs (cxOf CX0 P w K mg base N x (defScope st) f cdv A outer s H E).nox (defBody st) t ∧ t { nx := fun _ H' => Q .non H', rt := Q } (start N vs) H) : Cal P w K mg base (k + 1) x sp := by
  obtain ⟨f, fd, F1, h, b⟩ := F.ex
  exact ⟨f, fd, ps, F1.ok S len (fun cdv A outer s H vs Q E hr hs => hbody f cdv A outer s H vs Q E hr hs), h, F1.kp, b⟩
end
section
variable {X : Cx} {k j : Nat} {x : Str} {sp : Sp} {p pos : Pos} {e : Expr} {es : List Expr} {t : TA}
theorem pe_cal (c : Cal X.prog X.w X.K X.mg X.base k x sp) (hr : Room j X.A) (hk : k ≤ j) (hg : Gl X x) (ha : PA X (e :: es) t)
    (hd0 : (x == ("__debug__" : Str)) = false := by decide) (he : starEach (e :: es) X.env = (false, eval e X.env) :: starEach es X.env := by rfl) (hp0 : (backTo pos (starEach es X.env)).any (·.1) = false := by rfl) :
    PE X (.Call (.Name x p) (e :: es) [] pos) (tCall sp [] E0 t) := by
  obtain ⟨f, fd, ps, F, hm, kp, b⟩ := c.ex
  exact pe_call F (hr.mono hk) hg hm kp b .nil pass0 ha hd0 he hp0
theorem pe_gi {n : Int} (hg : Gl X x) (h : ∃ t, X.mg x = some (.int n t)) (hd : (x == ("__debug__" : Str)) = false := by decide) : PE X (.Name x pos) (tC (.int n)) := by
  obtain ⟨t, h⟩ := h
  exact pe_glob hg h ⟨t, rfl⟩ hd
theorem hu65 {A : Around} (hr : Room k A) : A.units + 65 < cLine := by have := hr.un; omega
end

/-! ### the network in the heap, as the defs read it -/
abbrev dEnds (w : Network) : D := .lst (w.links.map fun l => .tup [dN l.endA, dN l.endB])
abbrev dCaps (w : Network) : D := .lst (w.links.map fun l => dN l.capacity)
abbrev dFlows (w : Network) : D := .lst (w.flows.map fun f => .tup [dN f.source, dN f.destination, dN f.demand])
abbrev dPaths (w : Network) : D := .lst (w.flows.map fun f => .lst (f.pathNodes.map dNs))
abbrev dRoutes (w : Network) : D := .lst (w.flows.map fun f => .lst (f.pathLinks.map dNs))
def nF (n e c f p r s : V) : List (Str × V) := [("node_count", n), ("ends", e), ("capacities", c), ("flows", f), ("paths", p), ("routes", r), ("assignment", s)]
section
variable {n e c f p r s : V}
theorem lk_here {k : Str} {v : V} {r : List (Str × V)} : List.lookup k ((k, v) :: r) = some v := by
  have e : (k == k) = true := beq_self_eq_true k
  simp only [List.lookup, e]
theorem lk_past {k g : Str} {v : V} {r : List (Str × V)} (h : (k == g) = false) : List.lookup k ((g, v) :: r) = List.lookup k r := by
  simp only [List.lookup, h]
theorem nF_1 : (nF n e c f p r s).lookup ("node_count" : Str) = some n := lk_here
theorem nF_2 : (nF n e c f p r s).lookup ("ends" : Str) = some e := (lk_past (by decide +kernel)).trans lk_here
theorem nF_3 : (nF n e c f p r s).lookup ("capacities" : Str) = some c := (lk_past (by decide +kernel)).trans ((lk_past (by decide +kernel)).trans lk_here)
theorem nF_4 : (nF n e c f p r s).lookup ("flows" : Str) = some f := (lk_past (by decide +kernel)).trans ((lk_past (by decide +kernel)).trans ((lk_past (by decide +kernel)).trans lk_here))
theorem nF_5 : (nF n e c f p r s).lookup ("paths" : Str) = some p := (lk_past (by decide +kernel)).trans ((lk_past (by decide +kernel)).trans ((lk_past (by decide +kernel)).trans ((lk_past (by decide +kernel)).trans lk_here)))
theorem nF_6 : (nF n e c f p r s).lookup ("routes" : Str) = some r := (lk_past (by decide +kernel)).trans ((lk_past (by decide +kernel)).trans ((lk_past (by decide +kernel)).trans ((lk_past (by decide +kernel)).trans ((lk_past (by decide +kernel)).trans lk_here))))
theorem nF_7 : (nF n e c f p r s).lookup ("assignment" : Str) = some s := (lk_past (by decide +kernel)).trans ((lk_past (by decide +kernel)).trans ((lk_past (by decide +kernel)).trans ((lk_past (by decide +kernel)).trans ((lk_past (by decide +kernel)).trans ((lk_past (by decide +kernel)).trans lk_here)))))
end
/-- the network w stands at a; its lists are told, not where they may stand -/
structure Net (C : Addr) (H : Hp) (a : Addr) (w : Network) : Prop where
  ex : ∃ dx e c f p r s, H a = some (.ins C dx (nF (vN w.nodes) e c f p r s)) ∧ Is H (dEnds w) e ∧ Is H (dCaps w) c ∧ Is H (dFlows w) f ∧ Is H (dPaths w) p ∧ Is H (dRoutes w) r ∧ Is H (dA w.assignment) s
theorem Net.mono {C : Addr} {H H' : Hp} {a : Addr} {w : Network} (x : Ex H H') (N : Net C H a w) : Net C H' a w := by
  obtain ⟨dx, e, c, f, p, r, s, h0, h1, h2, h3, h4, h5, h6⟩ := N.ex
  exact ⟨dx, e, c, f, p, r, s, x a _ h0, IsO.ex x h1, IsO.ex x h2, IsO.ex x h3, IsO.ex x h4, IsO.ex x h5, IsO.ex x h6⟩
section
variable {K : PySem.W.Frag} {mg : Str → Option Value} {C : Addr} {σ : L2.St} {H : Hp} {a : Addr} {w : Network} {i : Nat}
theorem ed_node_count (T : Txt K mg C) (N : Net C H a w) (h : σ[i]? = some (some (.ref a))) : EvD (tFld K (tVar i) "node_count") σ H (dN w.nodes) := by
  obtain ⟨dx, e, c, f, p, r, s, h0, h1, h2, h3, h4, h5, h6⟩ := N.ex
  exact ed_fld T.cl T.n1 h h0 nF_1 (isO_of_val _)
theorem ed_ends (T : Txt K mg C) (N : Net C H a w) (h : σ[i]? = some (some (.ref a))) : EvD (tFld K (tVar i) "ends") σ H (dEnds w) := by
  obtain ⟨dx, e, c, f, p, r, s, h0, h1, h2, h3, h4, h5, h6⟩ := N.ex
  exact ed_fld T.cl T.n2 h h0 nF_2 h1
theorem ed_caps (T : Txt K mg C) (N : Net C H a w) (h : σ[i]? = some (some (.ref a))) : EvD (tFld K (tVar i) "capacities") σ H (dCaps w) := by
  obtain ⟨dx, e, c, f, p, r, s, h0, h1, h2, h3, h4, h5, h6⟩ := N.ex
  exact ed_fld T.cl T.n3 h h0 nF_3 h2
theorem ed_flows (T : Txt K mg C) (N : Net C H a w) (h : σ[i]? = some (some (.ref a))) : EvD (tFld K (tVar i) "flows") σ H (dFlows w) := by
  obtain ⟨dx, e, c, f, p, r, s, h0, h1, h2, h3, h4, h5, h6⟩ := N.ex
  exact ed_fld T.cl T.n4 h h0 nF_4 h3
theorem ed_paths (T : Txt K mg C) (N : Net C H a w) (h : σ[i]? = some (some (.ref a))) : EvD (tFld K (tVar i) "paths") σ H (dPaths w) := by
  obtain ⟨dx, e, c, f, p, r, s, h0, h1, h2, h3, h4, h5, h6⟩ := N.ex
  exact ed_fld T.cl T.n5 h h0 nF_5 h4
theorem ed_routes (T : Txt K mg C) (N : Net C H a w) (h : σ[i]? = some (some (.ref a))) : EvD (tFld K (tVar i) "routes") σ H (dRoutes w) := by
  obtain ⟨dx, e, c, f, p, r, s, h0, h1, h2, h3, h4, h5, h6⟩ := N.ex
  exact ed_fld T.cl T.n6 h h0 nF_6 h5
theorem ed_asg (T : Txt K mg C) (N : Net C H a w) (h : σ[i]? = some (some (.ref a))) : EvD (tFld K (tVar i) "assignment") σ H (dA w.assignment) := by
  obtain ⟨dx, e, c, f, p, r, s, h0, h1, h2, h3, h4, h5, h6⟩ := N.ex
  exact ed_fld T.cl T.n7 h h0 nF_7 h6
variable {te ti : TE}
/-- len(network.flows), len(network.ends) -/
theorem ed_nflows (T : Txt K mg C) (N : Net C H a w) (h : σ[i]? = some (some (.ref a))) : EvD (tCB (rLenS K) (tCons (tFld K (tVar i) "flows") tNil)) σ H (dN w.flows.length) := ed_is (ed_len (ed_flows T N h)) (by rw [List.length_map])
theorem ed_nends (T : Txt K mg C) (N : Net C H a w) (h : σ[i]? = some (some (.ref a))) : EvD (tCB (rLenS K) (tCons (tFld K (tVar i) "ends") tNil)) σ H (dN w.links.length) := ed_is (ed_len (ed_ends T N h)) (by rw [List.length_map])
/-- network.flows[flow][2] -/
theorem ed_demand (T : Txt K mg C) (N : Net C H a w) (h : σ[i]? = some (some (.ref a))) {f : Nat} (hi : EvD ti σ H (dN f)) (hf : f < w.flows.length) :
    EvD (tOp (rIxT K) (tOp (rIxL K) (tFld K (tVar i) "flows") ti) (tC (.int 2))) σ H (dN (w.flow f).demand) :=
  ed_ixT (i := 2) (ed_ixL (d := .tup [dN (w.flow f).source, dN (w.flow f).destination, dN (w.flow f).demand]) (ed_flows T N h) hi (by rw [List.getElem?_map, flow_get hf]; rfl)) ed_c rfl
/-- network.routes[flow], network.paths[flow], network.capacities[link] -/
theorem ed_routesOf (T : Txt K mg C) (N : Net C H a w) (h : σ[i]? = some (some (.ref a))) {f : Nat} (hi : EvD ti σ H (dN f)) (hf : f < w.flows.length) :
    EvD (tOp (rIxL K) (tFld K (tVar i) "routes") ti) σ H (.lst ((w.flow f).pathLinks.map dNs)) := ed_ixL (ed_routes T N h) hi (by rw [List.getElem?_map, flow_get hf]; rfl)
theorem ed_pathsOf (T : Txt K mg C) (N : Net C H a w) (h : σ[i]? = some (some (.ref a))) {f : Nat} (hi : EvD ti σ H (dN f)) (hf : f < w.flows.length) :
    EvD (tOp (rIxL K) (tFld K (tVar i) "paths") ti) σ H (.lst ((w.flow f).pathNodes.map dNs)) := ed_ixL (ed_paths T N h) hi (by rw [List.getElem?_map, flow_get hf]; rfl)
theorem ed_cap (T : Txt K mg C) (N : Net C H a w) (h : σ[i]? = some (some (.ref a))) {l : Nat} (hi : EvD ti σ H (dN l)) (hl : l < w.links.length) :
    EvD (tOp (rIxL K) (tFld K (tVar i) "capacities") ti) σ H (dN (w.link l).capacity) := ed_ixL (ed_caps T N h) hi (by rw [List.getElem?_map, link_get hl]; rfl)
/-- assignment[flow] -/
theorem ed_sAt {s : List Nat} {f : Nat} (h : EvD te σ H (dA s)) (hi : EvD ti σ H (dN f)) (hf : f < s.length) : EvD (tOp (rIxT K) te ti) σ H (dN (s.getD f 0)) :=
  ed_ixT h hi (by rw [List.getElem?_map, get_of_lt hf]; rfl)
theorem ed_route {w : Network} {f p : Nat} (h : EvD te σ H (.lst ((w.flow f).pathLinks.map dNs))) (hi : EvD ti σ H (dN p)) (hp : p < (w.flow f).pathLinks.length) : EvD (tOp (rIxL K) te ti) σ H (dNs (w.usedLinks f (p + 1))) :=
  ed_ixL h hi (by
    rw [List.getElem?_map]
    have e : (w.flow f).pathLinks[p]? = some (w.usedLinks f (p + 1)) := by
      unfold Network.usedLinks
      rw [if_neg (Nat.succ_ne_zero p), Nat.add_sub_cancel, List.getD_eq_getElem?_getD, List.getElem?_eq_getElem hp]
      rfl
    rw [e]
    rfl)
end
/-- numbers in slots: an index -/
theorem is_dN {ok : Addr → Prop} {H : Hp} {n : Nat} : IsO ok H (dN n) (vN n) := isO_of_val _
end FL

namespace FL
open PySem PySem.Spec PyProof.Rows L2 Evl FM
open Su203 (Network Link Flow)

section
variable {ok : Addr → Prop} {H : Hp} {d1 d2 d3 d4 : D} {vs : List V}
theorem is1 (h : IsOL ok H [d1] vs) : ∃ v1, vs = [v1] ∧ IsO ok H d1 v1 := by
  obtain ⟨v1, r1, rfl, h1, h⟩ := isOL_cons.mp h
  rw [isOL_nil.mp h]
  exact ⟨v1, rfl, h1⟩
theorem is2 (h : IsOL ok H [d1, d2] vs) : ∃ v1 v2, vs = [v1, v2] ∧ IsO ok H d1 v1 ∧ IsO ok H d2 v2 := by
  obtain ⟨v1, r1, rfl, h1, h⟩ := isOL_cons.mp h
  obtain ⟨v2, rfl, h2⟩ := is1 h
  exact ⟨v1, v2, rfl, h1, h2⟩
theorem is3 (h : IsOL ok H [d1, d2, d3] vs) : ∃ v1 v2 v3, vs = [v1, v2, v3] ∧ IsO ok H d1 v1 ∧ IsO ok H d2 v2 ∧ IsO ok H d3 v3 := by
  obtain ⟨v1, r1, rfl, h1, h⟩ := isOL_cons.mp h
  obtain ⟨v2, v3, rfl, h2, h3⟩ := is2 h
  exact ⟨v1, v2, v3, rfl, h1, h2, h3⟩
theorem is4 (h : IsOL ok H [d1, d2, d3, d4] vs) : ∃ v1 v2 v3 v4, vs = [v1, v2, v3, v4] ∧ IsO ok H d1 v1 ∧ IsO ok H d2 v2 ∧ IsO ok H d3 v3 ∧ IsO ok H d4 v4 := by
  obtain ⟨v1, r1, rfl, h1, h⟩ := isOL_cons.mp h
  obtain ⟨v2, v3, v4, rfl, h2, h3, h4⟩ := is3 h
  exact ⟨v1, v2, v3, v4, rfl, h1, h2, h3, h4⟩
theorem val_eq {x v : V} (h : IsO ok H (.val x) v) : v = x := isO_val.mp h
theorem is_dA0 {s : List Nat} {v : V} (h : IsO ok H (dA s) v) : Is0 H (dA s) v := isO_dA.mpr (isO_dA.mp h)
end
/-- the network with what holds of it -/
structure NW (C : Addr) (H : Hp) (a : Addr) (w : Network) : Prop where
  net : Net C H a w
  wf : WF w
theorem NW.mono {C : Addr} {H H' : Hp} {a : Addr} {w : Network} (N : NW C H a w) (x : Ex H H') : NW C H' a w := ⟨N.net.mono x, N.wf⟩

section
variable {K : PySem.W.Frag} {σ : L2.St} {H H' : Hp} {ta tb te tx : TE} {t u : TT} {x y z v : V} {r : R2} {d : D} {ds es : List D} {R : Hp → V → Hp → Prop}
/-! ### tuples: slices, sums -/
theorem cutV_nats (s : List Nat) (lo hi : Option Int) : cutV (s.map vN) lo hi = ((s.drop (HT.sIx s.length 0 lo)).take (HT.sIx s.length s.length hi - HT.sIx s.length 0 lo)).map vN := by
  unfold cutV
  rw [List.length_map, List.map_take, List.map_drop]
theorem e0_slT {s : List Nat} {tl th : TO} {lo hi : Option Int} (h : EvD te σ H (dA s)) (h1 : EvO tl σ H lo) (h2 : EvO th σ H hi) :
    Ev0 (tSl (rSlA K) te tl th) σ H (dA ((s.drop (HT.sIx s.length 0 lo)).take (HT.sIx s.length s.length hi - HT.sIx s.length 0 lo))) := fun H1 e Q q =>
  h H1 e _ fun v H2 e2 r => h1 H2 (e.trans e2) _ fun H3 e3 => h2 H3 ((e.trans e2).trans e3) _ fun H4 e4 => by
    obtain ⟨p, rfl, hp⟩ := isO_dA.mp r
    have hp4 := e4 p _ (e3 p _ hp)
    refine ⟨p, _, rfl, st_of hp4, fun z => ?_, fun z l hl => ?_⟩
    · refine q _ H4 ((e2.trans e3).trans e4) (isO_dA.mpr ⟨p, rfl, ?_⟩)
      rw [List.length_map] at z
      rw [z.1, z.2, List.drop_zero, Nat.sub_zero, List.take_length]
      exact hp4
    · rw [cutV_nats]
      exact q _ _ (((e2.trans e3).trans e4).trans (Ex.new hl)) (isO_dA.mpr ⟨l, rfl, upd_same⟩)
theorem e0_take {s : List Nat} {k : Nat} (h : EvD te σ H (dA s)) (h2 : EvD tx σ H (dN k)) (hk : k ≤ s.length) : Ev0 (tSl (rSlA K) te tNoPart (tPart tx)) σ H (dA (s.take k)) := by
  have z := e0_slT (K := K) h eo_none (eo_some (ev_of h2))
  rw [HT.sIx_nat, HT.sIx_none, List.drop_zero, Nat.sub_zero, Nat.min_eq_left hk] at z
  exact z
theorem e0_drop {s : List Nat} {k : Nat} (h : EvD te σ H (dA s)) (h2 : EvD tx σ H (dN k)) (hk : k ≤ s.length) : Ev0 (tSl (rSlA K) te (tPart tx) tNoPart) σ H (dA (s.drop k)) := by
  have z := e0_slT (K := K) h (eo_some (ev_of h2)) eo_none
  rw [HT.sIx_nat, HT.sIx_none, Nat.min_eq_left hk] at z
  have e : (s.drop k).take (s.length - k) = s.drop k := List.take_of_length_le (by rw [List.length_drop]; exact Nat.le_refl _)
  rw [e] at z
  exact z
theorem e0_catT {s t : List Nat} (ha : EvD ta σ H (dA s)) (hb : EvD tb σ H (dA t)) (hl : s.length + t.length ≤ 100000) : Ev0 (tOp (rCatA K) ta tb) σ H (dA (s ++ t)) := fun H1 e Q q =>
  ha H1 e _ fun v1 H2 e2 r1 => hb H2 (e.trans e2) _ fun v2 H3 e3 r2 => by
    obtain ⟨p, rfl, hp⟩ := isO_dA.mp r1
    obtain ⟨p2, rfl, hp2⟩ := isO_dA.mp r2
    have hp3 := e3 p _ hp
    refine ⟨p, p2, _, _, rfl, rfl, st_of hp3, st_of hp2, sz_of (by rw [List.length_map, List.length_map]; exact hl), fun z => ?_, fun z1 z2 => ?_, fun z1 z2 l hl => ?_⟩
    · have : s = [] := List.map_eq_nil_iff.mp z
      subst this
      exact q _ H3 (e2.trans e3) (isO_dA.mpr ⟨p2, rfl, hp2⟩)
    · have : t = [] := List.map_eq_nil_iff.mp z2
      subst this
      exact q _ H3 (e2.trans e3) (isO_dA.mpr ⟨p, rfl, by rw [List.append_nil]; exact hp3⟩)
    · exact q _ _ ((e2.trans e3).trans (Ex.new hl)) (isO_dA.mpr ⟨l, rfl, by rw [List.map_append]; exact upd_same⟩)
/-- x in a tuple of numbers -/
theorem ev_inT {i : Nat} {l : List Nat} (ha : EvD ta σ H (dN i)) (hb : EvD tb σ H (dA l)) : Ev (tOp (rIn K false) ta tb) σ H (.bl (l.contains i)) := by
  rw [← cont_nats]
  exact ev_inIT ha (by rw [← dN_dI]; exact hb)
theorem e0_tup1 {n : Nat} (h : EvD ta σ H (dN n)) : Ev0 (tTup (tCons ta tNil)) σ H (dA [n]) := e0_tup (vs := [vN n]) (ea_cons (ev_of h) ea_nil) (by show 1 ≤ 100000; decide)
theorem e0_tup2 {n m : Nat} (h : EvD ta σ H (dN n)) (h2 : EvD tb σ H (dN m)) : Ev0 (tTup (tCons ta (tCons tb tNil))) σ H (dA [n, m]) := e0_tup (vs := [vN n, vN m]) (ea_cons (ev_of h) (ea_cons (ev_of h2) ea_nil)) (by show 2 ≤ 100000; decide)
theorem e0_of (h : Ev te σ H v) : Ev0 te σ H (.val v) := fun H1 a Q q => h H1 a Q fun H2 e => q v H2 e (isO_of_val v)
theorem e0_ofD (h : EvD te σ H (.val v)) : Ev0 te σ H (.val v) := e0_of (ev_of h)
/-- all but what stands at p stays -/
def Xb (p : Addr) (H H' : Hp) : Prop := ∀ q o, q ≠ p → H q = some o → H' q = some o
/-! ### a list that grows by append and extend; H: the heap ahead of its making -/
variable {De : Ends} {tu tw tz : TS} {g : TG} {Dl : Addr} {H0 : Hp}
theorem Lw.ex (p : Lw H0 ds Dl H) : Ex H0 H := p.2.1
theorem Lw.mono (p : Lw H0 ds Dl H) (e : Ex H H') : Lw H0 ds Dl H' := by
  obtain ⟨p1, p2, vs, p3, p4⟩ := p
  exact ⟨p1, p2.trans e, vs, e _ _ p3, IsOL.ex e p4⟩
theorem Lw.back {H00 : Hp} (p : Lw H0 ds Dl H) (e : Ex H00 H0) : Lw H00 ds Dl H := ⟨fresh_back e p.1, e.trans p.2.1, p.2.2⟩
theorem lw_of {v : V} (r : RN ds H0 v H) (e : Ex H0 H) : ∃ Dl, v = .ref Dl ∧ Lw H0 ds Dl H := by
  obtain ⟨p, vs, rfl, h1, h2, h3⟩ := r
  exact ⟨p, rfl, h1, e, vs, h2, h3⟩
/-- the new list starts empty -/
theorem en_nil : EvN (tLst tNil) σ H [] := en_ints (vs := []) ea_nil (by decide)
theorem lw_app (p : Lw H0 ds Dl H) (ha : Ev ta σ H (.ref Dl)) (h : Ev0 te σ H d) (hz : ds.length < 100000) (k : ∀ H1, Tx H H1 ∧ Xb Dl H H1 → Lw H0 (ds ++ [d]) Dl H1 → De.nx σ H1) : tDrop (tBM K "list" rAppend ta (tCons te tNil)) De σ H := by
  obtain ⟨p1, p2, vs, p3, p4⟩ := p
  refine ha H (Ex.refl H) _ fun H1 e1 => ⟨Or.inl ⟨rfl, vs, sq_of (e1 _ _ p3)⟩, h H1 e1 _ fun v H2 e2 r => ⟨Dl, vs, v, rfl, rfl, e2 _ _ (e1 _ _ p3), sz_lt (by rw [p4.length]; exact hz), ?_⟩⟩
  have e := e1.trans e2
  have tx : Tx H2 (upd H2 Dl (.lst (vs ++ [v]))) := Tx.upd fun xs z => by rw [e Dl _ p3] at z; cases z
  exact k _ ⟨(Tx.of e).trans tx, fun q o hq ho => by rw [upd_ne hq]; exact e q o ho⟩ ⟨p1, Ex.mut (p2.trans e) p1, vs ++ [v], upd_same, IsOL.tx tx (IsOL.append (IsOL.ex e p4) (IsOL.one r))⟩
theorem lwq_app (p : Lw H0 ds Dl H) (ha : Ev ta σ H (.ref Dl)) (h : Ev0 te σ H d) (hz : ds.length < 100000) (k : ∀ H1, Tx H H1 ∧ Xb Dl H H1 → Lw H0 (ds ++ [d]) Dl H1 → tz De σ H1) : tSeq (tDrop (tBM K "list" rAppend ta (tCons te tNil))) tz De σ H := lw_app (De := { De with nx := tz De }) p ha h hz k
/-- an argument that is a list of tuples and values -/
def RL0 (ds : List D) : Hp → V → Hp → Prop := fun _ v H2 => ∃ p vs, v = .ref p ∧ H2 p = some (.lst vs) ∧ Is0L H2 ds vs
theorem el0_N (h : EvN te σ H ds) : EvR te σ H (RL0 ds) := h.imp fun _ v H2 _ _ r => by
  obtain ⟨p, vs, h1, _, h3, h4⟩ := r
  exact ⟨p, vs, h1, h3, h4⟩
theorem el0_I {xs : List V} (h : EvD te σ H (.lst (xs.map D.val))) : EvR te σ H (RL0 (xs.map D.val)) := h.imp fun _ v H2 _ _ r => by
  obtain ⟨p, vs, h1, _, h3, h4⟩ := isO_lst.mp r
  exact ⟨p, vs, h1, h3, isOL_vals.mpr (isOL_vals.mp h4)⟩
theorem lw_ext (p : Lw H0 ds Dl H) (ha : Ev ta σ H (.ref Dl)) (h : EvR te σ H (RL0 es)) (hz : ds.length + es.length ≤ 16000000) (k : ∀ H1, Tx H H1 ∧ Xb Dl H H1 → Lw H0 (ds ++ es) Dl H1 → De.nx σ H1) : tDrop (tBM K "list" rExtend ta (tCons te tNil)) De σ H := by
  obtain ⟨p1, p2, vs, p3, p4⟩ := p
  refine ha H (Ex.refl H) _ fun H1 e1 => ⟨Or.inl ⟨rfl, vs, sq_of (e1 _ _ p3)⟩, h H1 e1 _ fun v H2 e2 r => ?_⟩
  obtain ⟨b, us, rfl, hb, hu⟩ := r
  refine ⟨Dl, b, vs, us, rfl, rfl, e2 _ _ (e1 _ _ p3), hb, ?_, ?_⟩
  · rw [p4.length, hu.length, sizeLine_eq]
    omega
  have e := e1.trans e2
  have tx : Tx H2 (upd H2 Dl (.lst (vs ++ us))) := Tx.upd fun xs z => by rw [e Dl _ p3] at z; cases z
  exact k _ ⟨(Tx.of e).trans tx, fun q o hq ho => by rw [upd_ne hq]; exact e q o ho⟩ ⟨p1, Ex.mut (p2.trans e) p1, vs ++ us, upd_same, IsOL.tx tx (IsOL.append (IsOL.ex e p4) hu)⟩
theorem lwq_ext (p : Lw H0 ds Dl H) (ha : Ev ta σ H (.ref Dl)) (h : EvR te σ H (RL0 es)) (hz : ds.length + es.length ≤ 16000000) (k : ∀ H1, Tx H H1 ∧ Xb Dl H H1 → Lw H0 (ds ++ es) Dl H1 → tz De σ H1) : tSeq (tDrop (tBM K "list" rExtend ta (tCons te tNil))) tz De σ H := lw_ext (De := { De with nx := tz De }) p ha h hz k
/-- another object is written -/
theorem lw_upd {q : Addr} {o : HO} (p : Lw H0 ds Dl H) (hq : q ≠ Dl) (h0 : H0 q = none) (ht : ∀ xs, H q ≠ some (.tup xs)) : Lw H0 ds Dl (upd H q o) := by
  obtain ⟨p1, p2, vs, p3, p4⟩ := p
  exact ⟨p1, Ex.mut p2 h0, vs, by rw [upd_ne (Ne.symm hq)]; exact p3, IsOL.tx (Tx.upd ht) p4⟩
theorem el_of {xs : List V} (h : EvN te σ H (xs.map D.val)) : EvL te σ H xs := fun H1 e Q q => h H1 e _ fun v H2 e2 r => by
  obtain ⟨p, vs, rfl, h1, h2, h3⟩ := r
  rw [isOL_vals.mp h3] at h2
  exact q p H2 h1 e2 h2
theorem lw_ret (p : Lw H0 ds Dl H) {Q : VK} (k : ∀ v H', Ex H0 H' → RN ds H0 v H' → Q v H') : Q (.ref Dl) H := by
  obtain ⟨p1, p2, vs, p3, p4⟩ := p
  exact k _ H p2 ⟨Dl, vs, rfl, p1, p3, p4⟩
end
theorem sum_cast {α : Type} (g : α → Nat) : ∀ l : List α, (l.map fun x => ((g x : Nat) : Int)).sum = (((l.map g).sum : Nat) : Int)
  | [] => rfl
  | x :: r => by
    rw [List.map_cons, List.map_cons, List.sum_cons, List.sum_cons, sum_cast g r]
    omega
end FL
namespace FL
open PySem L2 Evl
theorem ed_v {σ : L2.St} {H : Hp} {i : Nat} {v : V} (h : σ[i]? = some (some v)) : EvD (tVar i) σ H (.val v) := ed_of (ev_var h)
end FL
namespace FL
open PySem L2 Evl
section
variable {X : Cx} {K : PySem.W.Frag}
theorem ix_listK (h : X.K = K) : IxR X (rIxL K) := h ▸ ix_list
theorem ix_tupK (h : X.K = K) : IxR X (rIxT K) := h ▸ ix_tup
theorem sl_listK (h : X.K = K) : SlR X (rSlL K) := h ▸ sl_list
theorem op_inK (h : X.K = K) : OpR X (compareOp .In) (rIn K false) := h ▸ op_in_seq
theorem op_niK (h : X.K = K) : OpR X (compareOp .NotIn) (rIn K true) := h ▸ op_notIn_seq
end
end FL

namespace FL
open PySem PySem.Spec PyProof.Rows L2 Evl FM

/-! ### == of tuples and lists of numbers -/
abbrev pN (n : Nat) : PyData := .int (n : Int)
abbrev pT (s : List Nat) : PyData := .tuple (s.map pN)
abbrev pL (s : List Nat) : PyData := .list (s.map pN)
theorem eqvAll_nats : ∀ s t : List Nat, PyData.eqvAll (s.map pN) (t.map pN) = decide (s = t)
  | [], [] => by simp [PyData.eqvAll]
  | [], _ :: _ => by simp [PyData.eqvAll]
  | _ :: _, [] => by simp [PyData.eqvAll]
  | a :: s, b :: t => by
    rw [List.map_cons, List.map_cons, PyData.eqvAll, eqvAll_nats s t, PyData.eqv]
    by_cases h : a = b
    · subst h
      by_cases h2 : s = t
      · subst h2; simp
      · rw [decide_eq_false h2, decide_eq_false (fun z => h2 (List.cons.inj z).2), Bool.and_false]
    · have : (((a : Nat) : Int) == ((b : Nat) : Int)) = false := by simp; omega
      rw [this, decide_eq_false (fun z => h (List.cons.inj z).1), Bool.false_and]
theorem canLay_nats : ∀ s : List Nat, PyData.canLayAll0 (s.map pN) = true
  | [] => (by simp [PyData.canLayAll0])
  | a :: s => by rw [List.map_cons, PyData.canLayAll0, canLay_nats s, PyData.canLay0]; rfl
theorem depth_nats : ∀ s : List Nat, PyData.depthAll (s.map pN) ≤ 1
  | [] => (by simp [PyData.depthAll])
  | a :: s => by
    have := depth_nats s
    (rw [List.map_cons, PyData.depthAll])
    simp [PyData.depth]
    omega
theorem shaped_T (s : List Nat) : SeqAt.shaped (pT s) = true := by
  unfold SeqAt.shaped
  have h1 : (pT s).canLay0 = true := by rw [PyData.canLay0]; exact canLay_nats s
  have h2 : (pT s).depth ≤ 64 := by
    have := depth_nats s
    rw [PyData.depth]
    omega
  rw [h1, decide_eq_true h2]; rfl
theorem shaped_L (s : List Nat) : SeqAt.shaped (pL s) = true := by
  unfold SeqAt.shaped
  have h1 : (pL s).canLay0 = true := by rw [PyData.canLay0]; exact canLay_nats s
  have h2 : (pL s).depth ≤ 64 := by
    have := depth_nats s
    rw [PyData.depth]
    omega
  rw [h1, decide_eq_true h2]; rfl
theorem canLay_Ls (f : List Nat → PyData) (hf : ∀ s, (f s).canLay0 = true) : ∀ ss : List (List Nat), PyData.canLayAll0 (ss.map f) = true
  | [] => (by simp [PyData.canLayAll0])
  | a :: s => by rw [List.map_cons, PyData.canLayAll0, canLay_Ls f hf s, hf]; rfl
theorem depth_Ls (f : List Nat → PyData) (hf : ∀ s, (f s).depth ≤ 3) : ∀ ss : List (List Nat), PyData.depthAll (ss.map f) ≤ 3
  | [] => (by simp [PyData.depthAll])
  | a :: s => by
    have h1 := depth_Ls f hf s
    have h2 := hf a
    (rw [List.map_cons, PyData.depthAll])
    omega
theorem shaped_LL (f : List Nat → PyData) (h0 : ∀ s, (f s).canLay0 = true) (hf : ∀ s, (f s).depth ≤ 3) (ss : List (List Nat)) : SeqAt.shaped (.list (ss.map f)) = true := by
  unfold SeqAt.shaped
  have h1 : (PyData.list (ss.map f)).canLay0 = true := by rw [PyData.canLay0]; exact canLay_Ls f h0 ss
  have h2 : (PyData.list (ss.map f)).depth ≤ 64 := by
    have := depth_Ls f hf ss
    rw [PyData.depth]
    omega
  rw [h1, decide_eq_true h2]; rfl
theorem lay_T (s : List Nat) : (pT s).canLay0 = true := by rw [PyData.canLay0]; exact canLay_nats s
theorem lay_L (s : List Nat) : (pL s).canLay0 = true := by rw [PyData.canLay0]; exact canLay_nats s
theorem dep_T (s : List Nat) : (pT s).depth ≤ 3 := by
  have := depth_nats s
  rw [PyData.depth]
  omega
theorem dep_L (s : List Nat) : (pL s).depth ≤ 3 := by
  have := depth_nats s
  rw [PyData.depth]
  omega
theorem any_pL (s : List Nat) : ∀ ss : List (List Nat), ((ss.map pL).any fun z => PyData.eqv z (pL s)) = ss.contains s
  | [] => rfl
  | a :: b => by
    rw [List.map_cons, List.any_cons, List.contains_cons, any_pL s b, PyData.eqv, eqvAll_nats]
    congr 1
    by_cases h : a = s
    · subst h; simp
    · rw [decide_eq_false h]
      exact (beq_eq_false_iff_ne.mpr fun z => h z.symm).symm
section
variable {K : PySem.W.Frag} {σ : L2.St} {H H' : Hp} {ta tb te tx : TE} {v : V}
theorem dpAll_nats : ∀ s : List Nat, DpAll K H (s.map vN) (s.map pN)
  | [] => .nil
  | a :: s => .cons (.int _) (dpAll_nats s)
theorem dp_A {s : List Nat} (h : Is H (dA s) v) : Dp K H v (pT s) := by
  obtain ⟨p, rfl, hp⟩ := isO_dA.mp h
  exact .tup (SqT.of hp) (dpAll_nats s)
theorem dp_N {s : List Nat} (h : Is H (dNs s) v) : Dp K H v (pL s) := by
  obtain ⟨p, rfl, _, hp⟩ := isO_dNs.mp h
  exact .lst (SqL.of hp) (dpAll_nats s)
theorem dp_Ls {g : List Nat → D} {f : List Nat → PyData} (hg : ∀ s v, Is H (g s) v → Dp K H v (f s)) : ∀ (ss : List (List Nat)) (vs : List V), IsL H (ss.map g) vs → DpAll K H vs (ss.map f)
  | [], vs, h => by
    rw [isOL_nil.mp h]
    exact .nil
  | s :: ss, vs, h => by
    obtain ⟨v, r, rfl, h1, h2⟩ := isOL_cons.mp h
    exact .cons (hg s v h1) (dp_Ls hg ss r h2)
/-- tuples of numbers are equal -/
theorem ev_eqA {s t : List Nat} (ha : EvD ta σ H (dA s)) (hb : EvD tb σ H (dA t)) : Ev (tOp (rEqD K) ta tb) σ H (.bl (decide (s = t))) := fun H1 e Q q =>
  ha H1 e _ fun v1 H2 e2 r1 => hb H2 (e.trans e2) _ fun v2 H3 e3 r2 => ⟨pT s, pT t, dp_A (IsO.ex e3 r1), dp_A r2, shaped_T s, shaped_T t, by
    have z : PyData.eqv (pT s) (pT t) = decide (s = t) := by rw [PyData.eqv, eqvAll_nats]
    rw [z]
    exact q H3 (e2.trans e3)⟩
/-- a list of tuples is not the empty list -/
theorem ev_neNil {ss : List (List Nat)} (ha : EvD ta σ H (.lst (ss.map dA))) : Ev (tOp (rNeD K) ta (tLst tNil)) σ H (.bl (!ss.isEmpty)) := fun H1 e Q q =>
  ha H1 e _ fun v1 H2 e2 r1 => ⟨Nat.zero_le _, fun l hl => by
    obtain ⟨p, vs, rfl, _, hp, hv⟩ := isO_lst.mp r1
    have ex : Ex H2 (upd H2 l (.lst [])) := Ex.new hl
    refine ⟨.list (ss.map pT), .list [], .lst (SqL.of (ex _ _ hp)) (dp_Ls (fun s v h => dp_A h) ss vs (IsOL.ex ex hv)), .lst (SqL.of upd_same) .nil, shaped_LL pT lay_T dep_T ss, shaped_L [], ?_⟩
    have z : PyData.eqv (.list (ss.map pT)) (.list []) = ss.isEmpty := by
      cases ss with
      | nil => simp [PyData.eqv, PyData.eqvAll]
      | cons a b => simp [PyData.eqv, PyData.eqvAll]
    rw [z]
    exact q _ (e2.trans ex)⟩
/-- a list of numbers in a list of such -/
theorem ev_inLs {s : List Nat} {ss : List (List Nat)} (ha : EvD ta σ H (dNs s)) (hb : EvD tb σ H (.lst (ss.map dNs))) : Ev (tOp (rInD K) ta tb) σ H (.bl (ss.contains s)) := fun H1 e Q q =>
  ha H1 e _ fun v1 H2 e2 r1 => hb H2 (e.trans e2) _ fun v2 H3 e3 r2 => by
    obtain ⟨p, vs, rfl, _, hp, hv⟩ := isO_lst.mp r2
    refine ⟨pL s, ss.map pL, dp_N (IsO.ex e3 r1), .lst (SqL.of hp) (dp_Ls (fun s v h => dp_N h) ss vs hv), shaped_L s, shaped_LL pL lay_L dep_L ss, ?_⟩
    have z := any_pL s ss
    rw [z]
    exact q H3 (e2.trans e3)
/-! ### 0 <= x < n, and other chains -/
theorem ev_chain {i j k : Int} {r r' : R2} {b1 b2 : Bool} (ha : EvD ta σ H (dI i)) (hb : EvD tb σ H (dI j)) (hc : b1 = true → EvD tx σ H (dI k)) (h1 : ∀ H1 (Q : VK), Q (.bl b1) H1 → r (.int i) (.int j) H1 Q) (h2 : ∀ H1 (Q : VK), Q (.bl b2) H1 → r' (.int j) (.int k) H1 Q) :
    Ev (tChain r r' ta tb tx) σ H (.bl (b1 && b2)) := fun H1 e Q q =>
  ha H1 e _ fun v1 H2 e2 r1 => hb H2 (e.trans e2) _ fun v2 H3 e3 r2 => by
    cases val_eq r1
    cases val_eq r2
    refine h1 H3 _ ⟨b1, rfl, ?_⟩
    cases b1 with
    | true =>
      show tx σ H3 _
      refine hc rfl H3 ((e.trans e2).trans e3) _ fun v3 H4 e4 r3 => ?_
      cases val_eq r3
      exact h2 H4 _ (q H4 ((e2.trans e3).trans e4))
    | false =>
      show Q (.bl false) H3
      exact q H3 (e2.trans e3)
/-- 0 <= j < k of naturals -/
theorem ev_below {j k : Nat} (hb : EvD tb σ H (dN j)) (hc : EvD tx σ H (dN k)) : Ev (tChain (rI0 fun i j => .bl (decide (i ≤ j))) (rI0 fun i j => .bl (decide (i < j))) (tC (.int 0)) tb tx) σ H (.bl (decide (j < k))) := by
  have z := ev_chain (ta := tC (.int 0)) (σ := σ) (H := H) (i := 0) (j := (j : Int)) (k := (k : Int)) (b1 := true) (b2 := decide (j < k)) (r := rI0 fun i j => .bl (decide (i ≤ j))) (r' := rI0 fun i j => .bl (decide (i < j))) ed_c hb (fun _ => hc)
    (fun H1 Q q => ⟨0, (j : Int), rfl, rfl, by show Q (.bl (decide ((0 : Int) ≤ (j : Int)))) H1; rw [decide_eq_true (by omega)]; exact q⟩) (fun H1 Q q => ⟨(j : Int), (k : Int), rfl, rfl, by
      show Q (.bl (decide (((j : Nat) : Int) < ((k : Nat) : Int)))) H1
      have : (((j : Nat) : Int) < ((k : Nat) : Int)) = (j < k) := by simp
      simp only [this]
      exact q⟩)
  exact z
/-- a slice of a list of numbers -/
theorem en_takeL {s : List Nat} {k : Nat} (h : EvD te σ H (dNs s)) (h2 : EvD tx σ H (dN k)) (hk : k ≤ s.length) : EvN (tSl (rSlL K) te tNoPart (tPart tx)) σ H ((s.take k).map dN) := fun H1 e Q q =>
  h H1 e _ fun v H2 e2 r => h2 H2 (e.trans e2) _ fun v2 H3 e3 r2 => by
    obtain ⟨p, rfl, _, hp⟩ := isO_dNs.mp r
    cases val_eq r2
    refine ⟨k, rfl, p, _, rfl, sq_of (e3 _ _ hp), fun l hl => ?_⟩
    rw [cutV_nats, HT.sIx_nat, HT.sIx_none, List.drop_zero, Nat.sub_zero, Nat.min_eq_left hk]
    exact q _ _ ((e2.trans e3).trans (Ex.new hl)) ⟨l, _, rfl, fresh_back (e2.trans e3) hl, upd_same, isOL_nats.mpr rfl⟩
end
end FL
namespace FL
open PySem L2 Evl
section
variable {σ : L2.St} {H : Hp} {te : TE} {R : Hp → V → Hp → Prop} {De : Ends} {tz : TS} {g : TG}
theorem r_asgG (h : EvR te σ H R) (k : ∀ v H1, Ex H H1 → R H v H1 → g v σ H1 De.nx) : tAsg te g De σ H := h H (Ex.refl H) _ fun v H1 e r => k v H1 e r
theorem rq_asgG (h : EvR te σ H R) (k : ∀ v H1, Ex H H1 → R H v H1 → g v σ H1 (tz De)) : tSeq (tAsg te g) tz De σ H := h H (Ex.refl H) _ fun v H1 e r => k v H1 e r
end
end FL
namespace FL
open PySem L2 Evl
theorem pg_tupK {X : Cx} {K : PySem.W.Frag} {pos : Pos} {es : List Expr} {k : Nat} {t : TGs} {n : Nat} (h : X.K = K) (hc : X.calm = true) (g : PGs X es t)
    (hn : (assignEach es X.env).length = n := by rfl) (hst : (assignEach es X.env).findIdx? (·.1) = none := by rfl) : PG X (.Tuple es k pos) (gTup K n t) := by
  subst h
  exact pg_tup hc g hn hst
end FL

namespace FL
open PySem PySem.Spec PyProof.Rows L2 Evl FM
open Su203 (Network Link Flow)

section
variable {P : Program} {w : World} {K : PySem.W.Frag} {mg : Str → Option Value} {base : Heap} {C : Addr}
abbrev A4 := Addr × Network × List Nat × Nat
abbrev A5 := Addr × Network × List Nat × Nat × Nat
/-! ## links_used -/
abbrev s_links_used : Stmt := topS 1
abbrev N_links_used : List Str := ["network", "assignment", "flow"]
theorem sc_links_used : FnScope N_links_used ["network", "assignment", "flow"] (defScope s_links_used) := ⟨rfl, rfl, rfl, by decide +kernel, rfl, by decide +kernel, by decide +kernel⟩
abbrev sp_links_used (C : Addr) : Sp := SpR (α := A4) (fun x H => NW C H x.1 x.2.1 ∧ Shaped x.2.1 x.2.2.1 ∧ x.2.2.2 < x.2.1.flows.length)
  (fun x => [.val (.ref x.1), dA x.2.2.1, dN x.2.2.2]) (fun x => RD (dNs (x.2.1.usedLinks x.2.2.2 (x.2.2.1.getD x.2.2.2 0))))
theorem cal_links_used (T : Txt K mg C) (F : Def K mg "links_used" s_links_used ["network", "assignment", "flow"]) : Cal P w K mg base 1 "links_used" (sp_links_used C) := by
  refine cal_mk F sc_links_used (SpR.len fun _ => rfl) (fun f cdv A outer s H vs Q E hr h => ⟨_, (pss_cons (ps_if (pt_cmpR op_eq (pe_ix ix_tup (pv 1) (pv 2) (fun _ _ => rfl)) pe_int (nomark _))
      (pss_one (ps_ret (pe_lst pa_nil)))
      pss_nil)
    (pss_one (ps_ret (pe_ix ix_list (pe_ix ix_list (pe_fld (pv 0) rfl) (pv 2) (fun _ _ => rfl)) (pe_op op_sub (pe_ix ix_tup (pv 1) (pv 2) (fun _ _ => rfl)) pe_int) (fun _ _ => rfl))))), ?_⟩)
  obtain ⟨⟨a, n, s, f⟩, ⟨N, S, hf⟩, hv, k⟩ := h
  dsimp only at N S hf hv k
  obtain ⟨v1, v2, v3, rfl, h1, h2, h3⟩ := is3 hv
  cases val_eq h1
  cases val_eq h3
  have hl : f < s.length := by rw [S.len]; exact hf
  refine q_when (et_eq (j := 0) (ed_sAt (ed_var rfl h2) (ed_v rfl) hl) ed_c rfl) (fun hb H1 e1 => ?_) (fun hb H1 e1 => ?_)
  · have h0 := of_decide_eq_true hb
    refine r_ret (ed_lst (ds := []) eds_nil (by decide)) fun v H2 e2 r => k v H2 (e1.trans e2) ?_
    rw [h0]
    exact r
  · have h0 := of_decide_eq_false hb
    have hle := S.le f hf
    refine r_ret (ed_route (ed_routesOf T (N.net.mono e1) rfl (ed_v rfl) hf) (ed_pred h0 (ed_sAt (ed_var rfl (IsO.ex e1 h2)) (ed_v rfl) hl)) (by omega)) fun v H2 e2 r => k v H2 (e1.trans e2) ?_
    rw [Nat.sub_add_cancel (by omega)] at r
    exact r
/-! ## demand_on -/
abbrev s_demand_on : Stmt := topS 2
abbrev N_demand_on : List Str := ["network", "assignment", "flow", "link"]
theorem sc_demand_on : FnScope N_demand_on ["network", "assignment", "flow", "link"] (defScope s_demand_on) := ⟨rfl, rfl, rfl, by decide +kernel, rfl, by decide +kernel, by decide +kernel⟩
abbrev sp_demand_on (C : Addr) : Sp := SpR (α := A5) (fun x H => NW C H x.1 x.2.1 ∧ Shaped x.2.1 x.2.2.1 ∧ x.2.2.2.1 < x.2.1.flows.length)
  (fun x => [.val (.ref x.1), dA x.2.2.1, dN x.2.2.2.1, dN x.2.2.2.2]) (fun x => RD (dN (fpart x.2.1 x.2.2.2.1 (x.2.2.1.getD x.2.2.2.1 0) x.2.2.2.2)))
theorem cal_demand_on (T : Txt K mg C) (F : Def K mg "demand_on" s_demand_on ["network", "assignment", "flow", "link"]) (c_links_used : Cal P w K mg base 1 "links_used" (sp_links_used C)) : Cal P w K mg base 2 "demand_on" (sp_demand_on C) := by
  refine cal_mk F sc_demand_on (SpR.len fun _ => rfl) (fun f cdv A outer s H vs Q E hr h => ⟨_, (pss_cons (ps_if (pt_cmpR op_in_seq (pv 3) (pe_cal c_links_used hr (by decide) (by rfl) (pa_cons (pv 0) (pa_cons (pv 1) (pa_cons (pv 2) pa_nil)))) (by rfl))
      (pss_one (ps_ret (pe_ix ix_tup (pe_ix ix_list (pe_fld (pv 0) rfl) (pv 2) (fun _ _ => rfl)) pe_int (fun _ _ => rfl))))
      pss_nil)
    (pss_one (ps_ret pe_int))), ?_⟩)
  obtain ⟨⟨a, n, s, f, l⟩, ⟨N, S, hf⟩, hv, k⟩ := h
  dsimp only at N S hf hv k
  obtain ⟨v1, v2, v3, v4, rfl, h1, h2, h3, h4⟩ := is4 hv
  cases val_eq h1
  cases val_eq h3
  cases val_eq h4
  refine q_when (et_test (ev_in (l := n.usedLinks f (s.getD f 0)) (ed_v rfl) (er_call (a, n, s, f) (eds_cons (ed_v rfl) (eds_cons (ed_var rfl h2) (eds_cons (ed_v rfl) eds_nil))) (fun _ e => ⟨N.mono e, S, hf⟩) back_D))) (fun hb H1 e1 => ?_) (fun hb H1 e1 => ?_)
  · refine r_ret (ed_demand T (N.net.mono e1) rfl (ed_v rfl) hf) fun v H2 e2 r => k v H2 (e1.trans e2) ?_
    have e : fpart n f (s.getD f 0) l = (n.flow f).demand := by unfold fpart; rw [if_pos hb]
    rw [e]
    exact r
  · refine r_ret ed_c fun v H2 e2 r => k v H2 (e1.trans e2) ?_
    have e : fpart n f (s.getD f 0) l = 0 := by unfold fpart; rw [if_neg (by rw [hb]; exact Bool.false_ne_true)]
    rw [e]
    exact r
/-! ## load_of -/
abbrev s_load_of : Stmt := topS 3
abbrev N_load_of : List Str := ["network", "assignment", "link", "flow"]
theorem sc_load_of : FnScope N_load_of ["network", "assignment", "link"] (defScope s_load_of) := ⟨rfl, rfl, rfl, by decide +kernel, rfl, by decide +kernel, by decide +kernel⟩
abbrev sp_load_of (C : Addr) : Sp := SpR (α := A4) (fun x H => NW C H x.1 x.2.1 ∧ Shaped x.2.1 x.2.2.1)
  (fun x => [.val (.ref x.1), dA x.2.2.1, dN x.2.2.2]) (fun x => RD (dN (x.2.1.load x.2.2.1 x.2.2.2)))
theorem cal_load_of (T : Txt K mg C) (F : Def K mg "load_of" s_load_of ["network", "assignment", "link"]) (c_demand_on : Cal P w K mg base 2 "demand_on" (sp_demand_on C)) : Cal P w K mg base 3 "load_of" (sp_load_of C) := by
  refine cal_mk F sc_load_of (SpR.len fun _ => rfl) (fun f cdv A outer s H vs Q E hr h => ⟨_, (pss_one (ps_ret (pe_callB (cr_sum rfl) (by rfl) T.sum (by decide +kernel) (pa_cons (pe_lc (own := [("flow", 3)]) (g := gName 3) (tt := tYes) rfl sc_load_of.nd (pi_range1 (by rfl) T.range (pa_cons (pe_callB call_len_seq (by rfl) T.len PySem.boot_len (pa_cons (pe_fld (pv 0) rfl) pa_nil)) pa_nil)) (blkOk_by (own := [("flow", 3)]) (N := N_load_of) (sc := defScope s_load_of) (by decide +kernel)) (fun _ _ _ _ _ => pg_name (i := 3) sc_load_of.nd rfl (Or.inl rfl)) (fun _ _ _ _ _ => pts_nil) (fun _ _ _ _ _ => (pe_cal c_demand_on hr (by decide) (by rfl) (pa_cons (pv 0) (pa_cons (pv 1) (pa_cons (pv 3) (pa_cons (pv 2) pa_nil))))))) pa_nil)))), ?_⟩)
  obtain ⟨⟨a, n, s, l⟩, ⟨N, S⟩, hv, k⟩ := h
  dsimp only at N S hv k
  obtain ⟨v1, v2, v3, rfl, h1, h2, h3⟩ := is3 hv
  cases val_eq h1
  cases val_eq h3
  have hnf := N.wf.nf
  refine r_ret (ed_sum (ns := (List.range n.flows.length).map fun f => ((fpart n f (s.getD f 0) l : Nat) : Int)) (ed_is (EvR.ofRN (en_lcR0 (fun f => dN (fpart n f (s.getD f 0) l)) (ed_nflows T N.net rfl) (by omega) (fun _ => rfl)
    (fun i H1 e hi => e0_ofD (er_call (a, n, s, i, l) (eds_cons (ed_v rfl) (eds_cons (ed_var rfl (IsO.ex e h2)) (eds_cons (ed_v rfl) (eds_cons (ed_v rfl) eds_nil)))) (fun _ e' => ⟨(N.mono e).mono e', S, hi⟩) back_D)))) (by rw [List.map_map]; rfl))) fun v H2 e2 r => k v H2 e2 ?_
  rw [sum_cast] at r
  exact r
/-! ## is_feasible -/
abbrev s_is_feasible : Stmt := topS 4
abbrev N_is_feasible : List Str := ["network", "assignment", "link"]
theorem sc_is_feasible : FnScope N_is_feasible ["network", "assignment"] (defScope s_is_feasible) := ⟨rfl, rfl, rfl, by decide +kernel, rfl, by decide +kernel, by decide +kernel⟩
abbrev A3 := Addr × Network × List Nat
abbrev sp_is_feasible (C : Addr) : Sp := SpR (α := A3) (fun x H => NW C H x.1 x.2.1 ∧ Shaped x.2.1 x.2.2)
  (fun x => [.val (.ref x.1), dA x.2.2]) (fun x => RD (.val (.bl (x.2.1.isFeasible x.2.2))))
theorem cal_is_feasible (T : Txt K mg C) (F : Def K mg "is_feasible" s_is_feasible ["network", "assignment"]) (c_load_of : Cal P w K mg base 3 "load_of" (sp_load_of C)) : Cal P w K mg base 4 "is_feasible" (sp_is_feasible C) := by
  refine cal_mk F sc_is_feasible (SpR.len fun _ => rfl) (fun f cdv A outer s H vs Q E hr h => ⟨_, (pss_cons (ps_for PassesOwn.never rfl (pi_range1 (by rfl) T.range (pa_cons (pe_callB call_len_seq (by rfl) T.len PySem.boot_len (pa_cons (pe_fld (pv 0) rfl) pa_nil)) pa_nil)) (pg_name (i := 2) sc_is_feasible.nd rfl (Or.inl rfl))
      (pss_one (ps_if (pt_cmpR op_gt (pe_cal c_load_of hr (by decide) (by rfl) (pa_cons (pv 0) (pa_cons (pv 1) (pa_cons (pv 2) pa_nil)))) (pe_ix ix_list (pe_fld (pv 0) rfl) (pv 2) (fun _ _ => rfl)) (nomark _))
        (pss_one (ps_ret pe_bl))
        pss_nil)))
    (pss_one (ps_ret pe_bl))), ?_⟩)
  obtain ⟨⟨a, n, s⟩, ⟨N, S⟩, hv, k⟩ := h
  dsimp only at N S hv k
  obtain ⟨v1, v2, rfl, h1, h2⟩ := is2 hv
  cases val_eq h1
  have hnl := N.wf.nl
  refine wq_range (ed_nends T N.net rfl) (by omega) (fun i σ' => ∃ x, σ' = [some (.ref a), some v2, x] ∧ ∀ j, j < i → n.load s j ≤ (n.link j).capacity) ⟨_, rfl, fun j hj => absurd hj (Nat.not_lt_zero j)⟩ (fun i σ' H' hi ⟨x, hσ, hall⟩ e1 Nx hN => ?_) (fun σ' H' ⟨x, hσ, hall⟩ e1 => ?_)
  · subst hσ
    refine s_when (et_gt (er_call (a, n, s, i) (eds_cons (ed_v rfl) (eds_cons (ed_var rfl (IsO.ex e1 h2)) (eds_cons (ed_v rfl) eds_nil))) (fun _ e => ⟨(N.mono e1).mono e, S⟩) back_D) (ed_cap T (N.net.mono e1) rfl (ed_v rfl) hi) rfl) (fun hb H2 e2 => ?_) (fun hb H2 e2 => ?_)
    · have h0 := of_decide_eq_true hb
      refine r_ret ed_c fun v H3 e3 r => k v H3 ((e1.trans e2).trans e3) ?_
      have e : n.isFeasible s = false := by
        rw [Bool.eq_false_iff]
        intro z
        have := feasible_iff.mp z i hi
        exact absurd this (Nat.not_le_of_lt h0)
      rw [e]
      exact r
    · have h0 := of_decide_eq_false hb
      refine hN _ _ ⟨_, rfl, fun j hj => ?_⟩ e2
      by_cases hji : j = i
      · subst hji; exact Nat.le_of_not_lt h0
      · exact hall j (by omega)
  · subst hσ
    refine r_ret ed_c fun v H3 e3 r => k v H3 (e1.trans e3) ?_
    have e : n.isFeasible s = true := feasible_iff.mpr hall
    rw [e]
    exact r
end
end FL

namespace FL
open PySem PySem.Spec PyProof.Rows L2 Evl FM
open Su203 (Network Link Flow)

section
variable {P : Program} {w : World} {K : PySem.W.Frag} {mg : Str → Option Value} {base : Heap} {C : Addr}
/-! ## has_room -/
abbrev s_has_room : Stmt := topS 5
abbrev N_has_room : List Str := ["network", "assignment", "flow", "path", "used", "demand", "link"]
theorem sc_has_room : FnScope N_has_room ["network", "assignment", "flow", "path"] (defScope s_has_room) := ⟨rfl, rfl, rfl, by decide +kernel, rfl, by decide +kernel, by decide +kernel⟩
abbrev sp_has_room (C : Addr) : Sp := SpR (α := A5) (fun x H => NW C H x.1 x.2.1 ∧ Shaped x.2.1 x.2.2.1 ∧ x.2.2.2.1 < x.2.1.flows.length ∧ x.2.2.2.2 < (x.2.1.flow x.2.2.2.1).pathLinks.length)
  (fun x => [.val (.ref x.1), dA x.2.2.1, dN x.2.2.2.1, dN x.2.2.2.2]) (fun x => RD (.val (.bl (hasRoom x.2.1 x.2.2.1 x.2.2.2.1 x.2.2.2.2))))
theorem cal_has_room (T : Txt K mg C) (F : Def K mg "has_room" s_has_room ["network", "assignment", "flow", "path"]) (c_links_used : Cal P w K mg base 1 "links_used" (sp_links_used C)) (c_load_of : Cal P w K mg base 3 "load_of" (sp_load_of C)) : Cal P w K mg base 4 "has_room" (sp_has_room C) := by
  refine cal_mk F sc_has_room (SpR.len fun _ => rfl) (fun f cdv A outer s H vs Q E hr h => ⟨_, (pss_cons (ps_set (i := 4) sc_has_room.nd rfl (Or.inl rfl) (pe_cal c_links_used hr (by decide) (by rfl) (pa_cons (pv 0) (pa_cons (pv 1) (pa_cons (pv 2) pa_nil)))))
    (pss_cons (ps_set (i := 5) sc_has_room.nd rfl (Or.inl rfl) (pe_ix ix_tup (pe_ix ix_list (pe_fld (pv 0) rfl) (pv 2) (fun _ _ => rfl)) pe_int (fun _ _ => rfl)))
    (pss_cons (ps_for PassesOwn.never rfl (pi_list (pe_ix ix_list (pe_ix ix_list (pe_fld (pv 0) rfl) (pv 2) (fun _ _ => rfl)) (pv 3) (fun _ _ => rfl))) (pg_name (i := 6) sc_has_room.nd rfl (Or.inl rfl))
      (pss_one (ps_if (PW.pt (pw_and (pt_cmpR op_notIn_seq (pv 6) (pv 4) (by rfl)) (pw_and1 (pt_cmpR op_gt (pe_op op_add (pe_cal c_load_of hr (by decide) (by rfl) (pa_cons (pv 0) (pa_cons (pv 1) (pa_cons (pv 6) pa_nil)))) (pv 5)) (pe_ix ix_list (pe_fld (pv 0) rfl) (pv 6) (fun _ _ => rfl)) (nomark _)))))
        (pss_one (ps_ret pe_bl))
        pss_nil)))
    (pss_one (ps_ret pe_bl))))), ?_⟩)
  obtain ⟨⟨a, n, s, f, p⟩, ⟨N, S, hf, hp⟩, hv, k⟩ := h
  dsimp only at N S hf hp hv k
  obtain ⟨v1, v2, v3, v4, rfl, h1, h2, h3, h4⟩ := is4 hv
  cases val_eq h1
  cases val_eq h3
  cases val_eq h4
  refine rq_asg (er_call (a, n, s, f) (eds_cons (ed_v rfl) (eds_cons (ed_var rfl h2) (eds_cons (ed_v rfl) eds_nil))) (fun _ e => ⟨N.mono e, S, hf⟩) back_D) fun v5 H1 e1 h5 => ?_
  refine rq_asg (ed_demand T (N.net.mono e1) rfl (ed_v rfl) hf) fun v6 H2 e2 h6 => ?_
  cases val_eq h6
  have e12 := e1.trans e2
  have hu : ∀ i ∈ n.usedLinks f (p + 1), i < n.links.length := usedLinks_lt N.wf hf
  refine wq_list (ed_route (ed_routesOf T (N.net.mono e12) rfl (ed_v rfl) hf) (ed_v rfl) hp)
    (fun i σ' => ∃ x, σ' = [some (.ref a), some v2, some (vN f), some (vN p), some v5, some (vN (n.flow f).demand), x] ∧ ∀ j l, j < i → (n.usedLinks f (p + 1))[j]? = some l → ((n.usedLinks f (s.getD f 0)).contains l || decide (n.load s l + (n.flow f).demand ≤ (n.link l).capacity)) = true)
    ⟨_, rfl, fun j l hj => absurd hj (Nat.not_lt_zero j)⟩ (fun i d x σ' H' hi ⟨y, hσ, hall⟩ e3 hx Nx hN => ?_) (fun σ' H' ⟨y, hσ, hall⟩ e3 => ?_)
  · subst hσ
    rw [List.getElem?_map] at hi
    obtain ⟨l, hl, rfl⟩ := Option.map_eq_some_iff.mp hi
    cases val_eq hx
    have e4 := e12.trans e3
    have hll := hu l (List.mem_of_getElem? hl)
    refine s_when (et_and (et_test (ev_ni (l := n.usedLinks f (s.getD f 0)) (ed_v rfl) (ed_var rfl (IsO.ex (e2.trans e3) h5)))) (fun _ => et_gt (j := (n.link l).capacity) (i := n.load s l + (n.flow f).demand) (ed_is (ed_add (er_call (a, n, s, l) (eds_cons (ed_v rfl) (eds_cons (ed_var rfl (IsO.ex e4 h2)) (eds_cons (ed_v rfl) eds_nil))) (fun _ e => ⟨(N.mono e4).mono e, S⟩) back_D) (ed_v rfl)) (by rw [← Int.natCast_add])) (ed_cap T (N.net.mono e4) rfl (ed_v rfl) hll) rfl)) (fun hb H5 e5 => ?_) (fun hb H5 e5 => ?_)
    · refine r_ret ed_c fun v H6 e6 r => k v H6 ((e4.trans e5).trans e6) ?_
      have e : hasRoom n s f p = false := by
        rw [Bool.eq_false_iff]
        intro z
        have z2 := List.all_eq_true.mp z l (List.mem_of_getElem? hl)
        rw [Bool.and_eq_true, Bool.not_eq_true', decide_eq_true_eq] at hb
        rw [hb.1, Bool.false_or, decide_eq_true_eq] at z2
        omega
      rw [e]
      exact r
    · refine hN _ _ ⟨_, rfl, fun j l' hj hl' => ?_⟩ e5
      by_cases hji : j = i
      · subst hji
        rw [hl] at hl'
        cases hl'
        cases hc : (n.usedLinks f (s.getD f 0)).contains l with
        | true => rfl
        | false =>
          rw [hc] at hb
          have := of_decide_eq_false hb
          rw [Bool.false_or]
          exact (decide_eq_true (by omega))
      · exact hall j l' (by omega) hl'
  · subst hσ
    refine r_ret ed_c fun v H6 e6 r => k v H6 ((e12.trans e3).trans e6) ?_
    have e : hasRoom n s f p = true := by
      refine List.all_eq_true.mpr fun l hl => ?_
      obtain ⟨j, hj⟩ := List.getElem?_of_mem hl
      exact hall j l (by rw [List.length_map]; exact (List.getElem?_eq_some_iff.mp hj).1) hj
    rw [e]
    exact r
/-! ## is_allowed -/
abbrev s_is_allowed : Stmt := topS 6
abbrev N_is_allowed : List Str := ["network", "assignment", "flow", "path"]
theorem sc_is_allowed : FnScope N_is_allowed ["network", "assignment", "flow", "path"] (defScope s_is_allowed) := ⟨rfl, rfl, rfl, by decide +kernel, rfl, by decide +kernel, by decide +kernel⟩
abbrev sp_is_allowed (C : Addr) : Sp := SpR (α := A5) (fun x H => NW C H x.1 x.2.1 ∧ Shaped x.2.1 x.2.2.1 ∧ x.2.2.2.1 < x.2.1.flows.length ∧ x.2.2.2.2 < (x.2.1.flow x.2.2.2.1).pathLinks.length)
  (fun x => [.val (.ref x.1), dA x.2.2.1, dN x.2.2.2.1, dN x.2.2.2.2]) (fun x => RD (.val (.bl (x.2.1.canMove x.2.2.1 x.2.2.2.1 (x.2.2.2.2 + 1)))))
theorem cal_is_allowed (T : Txt K mg C) (F : Def K mg "is_allowed" s_is_allowed ["network", "assignment", "flow", "path"]) (c_has_room : Cal P w K mg base 4 "has_room" (sp_has_room C)) : Cal P w K mg base 5 "is_allowed" (sp_is_allowed C) := by
  refine cal_mk F sc_is_allowed (SpR.len fun _ => rfl) (fun f cdv A outer s H vs Q E hr h => ⟨_, (pss_cons (ps_if (PW.pt (pw_or (pt_cmpR op_eq (pe_ix ix_tup (pv 1) (pv 2) (fun _ _ => rfl)) pe_int (nomark _)) (pw_or1 (pt_cmpR op_eq (pe_ix ix_tup (pv 1) (pv 2) (fun _ _ => rfl)) (pe_op op_add (pv 3) pe_int) (nomark _)))))
      (pss_one (ps_ret pe_bl))
      pss_nil)
    (pss_one (ps_ret (pe_cal c_has_room hr (by decide) (by rfl) (pa_cons (pv 0) (pa_cons (pv 1) (pa_cons (pv 2) (pa_cons (pv 3) pa_nil)))))))), ?_⟩)
  obtain ⟨⟨a, n, s, f, p⟩, ⟨N, S, hf, hp⟩, hv, k⟩ := h
  dsimp only at N S hf hp hv k
  obtain ⟨v1, v2, v3, v4, rfl, h1, h2, h3, h4⟩ := is4 hv
  cases val_eq h1
  cases val_eq h3
  cases val_eq h4
  rw [canMove_eq hp] at k
  have hl : f < s.length := by rw [S.len]; exact hf
  refine q_when (et_or (et_eq (j := 0) (ed_sAt (ed_var rfl h2) (ed_v rfl) hl) ed_c rfl) (fun _ => et_eq (ed_sAt (ed_var rfl h2) (ed_v rfl) hl) (ed_succ (ed_v rfl)) rfl)) (fun hb H1 e1 => ?_) (fun hb H1 e1 => ?_)
  · refine r_ret ed_c fun v H2 e2 r => k v H2 (e1.trans e2) ?_
    rw [hb]
    exact r
  · refine r_ret (er_call (a, n, s, f, p) (eds_cons (ed_v rfl) (eds_cons (ed_var rfl (IsO.ex e1 h2)) (eds_cons (ed_v rfl) (eds_cons (ed_v rfl) eds_nil)))) (fun _ e => ⟨(N.mono e1).mono e, S, hf, hp⟩) back_D) fun v H2 e2 r => k v H2 (e1.trans e2) ?_
    rw [hb]
    exact r
/-! ## with_flow -/
abbrev s_with_flow : Stmt := topS 7
abbrev N_with_flow : List Str := ["assignment", "flow", "number"]
theorem sc_with_flow : FnScope N_with_flow ["assignment", "flow", "number"] (defScope s_with_flow) := ⟨rfl, rfl, rfl, by decide +kernel, rfl, by decide +kernel, by decide +kernel⟩
abbrev sp_with_flow : Sp := SpR (α := List Nat × Nat × Nat) (fun x _ => x.2.1 < x.1.length ∧ x.1.length ≤ 1000) (fun x => [dA x.1, dN x.2.1, dN x.2.2]) (fun x => R0 (dA (x.1.set x.2.1 x.2.2)))
theorem cal_with_flow (F : Def K mg "with_flow" s_with_flow ["assignment", "flow", "number"]) : Cal P w K mg base 1 "with_flow" sp_with_flow := by
  refine cal_mk F sc_with_flow (SpR.len fun _ => rfl) (fun f cdv A outer s H vs Q E hr h => ⟨_, (pss_one (ps_ret (pe_op op_catA (pe_op op_catA (pe_slice sl_tupA (pv 0) po_none (po_some (pv 1))) (pe_tup (pa_cons (pv 2) pa_nil))) (pe_slice sl_tupA (pv 0) (po_some (pe_op op_add (pv 1) pe_int)) po_none)))), ?_⟩)
  obtain ⟨⟨s, f, n⟩, ⟨hf, hl⟩, hv, k⟩ := h
  dsimp only at hf hl hv k
  obtain ⟨v1, v2, v3, rfl, h1, h2, h3⟩ := is3 hv
  cases val_eq h2
  cases val_eq h3
  rw [← set_cut hf] at k
  refine r_ret (e0_catT (EvR.ofR0 (e0_catT (EvR.ofR0 (e0_take (ed_var rfl h1) (ed_v rfl) (by omega))) (EvR.ofR0 (e0_tup1 (ed_v rfl))) ?_)) (EvR.ofR0 (e0_drop (ed_var rfl h1) (ed_succ (ed_v rfl)) (by omega))) ?_) k
  · rw [List.length_take, List.length_singleton]; omega
  · rw [List.length_append, List.length_take, List.length_singleton, List.length_drop]; omega
/-! ## moves_from -/
abbrev dM (m : Nat × Nat) : D := dA [m.1, m.2]
abbrev s_moves_from : Stmt := topS 8
abbrev N_moves_from : List Str := ["network", "assignment", "found", "flow", "path"]
theorem sc_moves_from : FnScope N_moves_from ["network", "assignment"] (defScope s_moves_from) := ⟨rfl, rfl, rfl, by decide +kernel, rfl, by decide +kernel, by decide +kernel⟩
abbrev sp_moves_from (C : Addr) : Sp := SpR (α := A3) (fun x H => NW C H x.1 x.2.1 ∧ Shaped x.2.1 x.2.2)
  (fun x => [.val (.ref x.1), dA x.2.2]) (fun x => RN ((pmoves x.2.1 x.2.2).map dM))
theorem cal_moves_from (T : Txt K mg C) (F : Def K mg "moves_from" s_moves_from ["network", "assignment"]) (c_is_allowed : Cal P w K mg base 5 "is_allowed" (sp_is_allowed C)) : Cal P w K mg base 6 "moves_from" (sp_moves_from C) := by
  refine cal_mk F sc_moves_from (SpR.len fun _ => rfl) (fun f cdv A outer s H vs Q E hr h => ⟨_, (pss_cons (ps_set (i := 2) sc_moves_from.nd rfl (Or.inl rfl) (pe_lst pa_nil))
    (pss_cons (ps_for PassesOwn.never rfl (pi_range1 (by rfl) T.range (pa_cons (pe_callB call_len_seq (by rfl) T.len PySem.boot_len (pa_cons (pe_fld (pv 0) rfl) pa_nil)) pa_nil)) (pg_name (i := 3) sc_moves_from.nd rfl (Or.inl rfl))
      (pss_one (ps_for PassesOwn.never rfl (pi_range1 (by rfl) T.range (pa_cons (pe_callB call_len_seq (by rfl) T.len PySem.boot_len (pa_cons (pe_ix ix_list (pe_fld (pv 0) rfl) (pv 3) (fun _ _ => rfl)) pa_nil)) pa_nil)) (pg_name (i := 4) sc_moves_from.nd rfl (Or.inl rfl))
        (pss_one (ps_if (pt_val (pe_cal c_is_allowed hr (by decide) (by rfl) (pa_cons (pv 0) (pa_cons (pv 1) (pa_cons (pv 3) (pa_cons (pv 4) pa_nil))))))
          (pss_one (ps_expr (pe_bm PySem.F.plainAttrs_list PySem.F.slot_list_append PySem.F.type_list_append mt_append (pv 2) (pa_cons (pe_tup (pa_cons (pv 3) (pa_cons (pv 4) pa_nil))) pa_nil))))
          pss_nil)))))
    (pss_one (ps_ret (pv 2))))), ?_⟩)
  obtain ⟨⟨a, n, s⟩, ⟨N, S⟩, hv, k⟩ := h
  dsimp only at N S hv k
  obtain ⟨v1, v2, rfl, h1, h2⟩ := is2 hv
  cases val_eq h1
  refine rq_asg en_nil fun v3 H1 e1 r3 => ?_
  obtain ⟨Dl, rfl, L1⟩ := lw_of r3 e1
  have hnf := N.wf.nf
  refine q_forR1 (n := (n.flows.length : Int)) (eva_1 (ed_nflows T (N.net.mono e1) rfl)) ⟨by omega, by omega⟩ (fun i σ' H' => ∃ x y, σ' = [some (.ref a), some v2, some (.ref Dl), x, y] ∧ Lw H ((movesTo n s i).map dM) Dl H') (fun H2 e2 => ⟨_, _, rfl, L1.mono e2⟩) (fun i σ' H' hi ⟨x, y, hσ, L⟩ => ?_) (fun σ' H' ⟨x, y, hσ, L⟩ => ?_)
  · subst hσ
    have hi' : i < n.flows.length := by omega
    have hpl := N.wf.pl _ (flow_mem hi')
    refine s_forR1 (n := ((n.flow i).pathNodes.length : Int)) (eva_1 (ed_is (ed_len (ed_pathsOf T (N.net.mono L.ex) rfl (ed_v rfl) hi')) (by rw [List.length_map]))) ⟨by omega, by omega⟩ (fun j σ' H' => ∃ y, σ' = [some (.ref a), some v2, some (.ref Dl), some (vN i), y] ∧ Lw H ((movesTo n s i ++ movesOf n s i j).map dM) Dl H')
      (fun H2 e2 => ⟨_, rfl, by rw [show movesOf n s i 0 = [] from rfl, List.append_nil]; exact L.mono e2⟩) (fun j σ' H' hj ⟨y, hσ, L⟩ => ?_) (fun σ' H' ⟨y, hσ, L⟩ => ?_)
    · subst hσ
      have hj' : j < (n.flow i).pathLinks.length := by omega
      have e := L.ex
      have hle : (movesTo n s i ++ movesOf n s i j).length ≤ 18 := by
        have h1 := movesTo_le N.wf s (Nat.le_of_lt hi')
        have h2 := movesOf_le n s i j
        rw [List.length_append]
        omega
      refine s_when (et_B (ev_of (er_call (a, n, s, i, j) (eds_cons (ed_v rfl) (eds_cons (ed_var rfl (IsO.ex e h2)) (eds_cons (ed_v rfl) (eds_cons (ed_v rfl) eds_nil)))) (fun _ e' => ⟨(N.mono e).mono e', S, hi', hj'⟩) back_D))) (fun hb H2 e2 => ?_) (fun hb H2 e2 => ?_)
      · refine lw_app (L.mono e2) (ev_var rfl) (e0_tup2 (ed_v rfl) (ed_v rfl)) (by rw [List.length_map]; omega) fun H3 _ L3 => ⟨_, rfl, ?_⟩
        rw [movesOf_succ, if_pos hb, ← List.append_assoc, List.map_append]
        exact L3
      · refine ⟨_, rfl, ?_⟩
        rw [movesOf_succ, if_neg (by rw [hb]; exact Bool.false_ne_true), List.append_nil]
        exact L.mono e2
    · subst hσ
      refine ⟨_, _, rfl, ?_⟩
      rw [movesTo_succ, hpl.1]
      exact L
  · subst hσ
    refine s_ret (ev_var rfl) fun H2 e2 => lw_ret (L.mono e2) ?_
    intro v H3 e3 r
    refine k v H3 e3 ?_
    rw [← movesTo_all]
    exact r
/-! ## is_drained -/
abbrev s_is_drained : Stmt := topS 9
abbrev N_is_drained : List Str := ["network", "assignment", "link", "flow"]
theorem sc_is_drained : FnScope N_is_drained ["network", "assignment", "link"] (defScope s_is_drained) := ⟨rfl, rfl, rfl, by decide +kernel, rfl, by decide +kernel, by decide +kernel⟩
abbrev sp_is_drained (C : Addr) : Sp := SpR (α := A4) (fun x H => NW C H x.1 x.2.1 ∧ Shaped x.2.1 x.2.2.1)
  (fun x => [.val (.ref x.1), dA x.2.2.1, dN x.2.2.2]) (fun x => RD (.val (.bl (!(x.2.1.isUsed x.2.2.1 x.2.2.2)))))
theorem cal_is_drained (T : Txt K mg C) (F : Def K mg "is_drained" s_is_drained ["network", "assignment", "link"]) (c_links_used : Cal P w K mg base 1 "links_used" (sp_links_used C)) : Cal P w K mg base 2 "is_drained" (sp_is_drained C) := by
  refine cal_mk F sc_is_drained (SpR.len fun _ => rfl) (fun f cdv A outer s H vs Q E hr h => ⟨_, (pss_one (ps_ret (pe_callB (cr_all rfl) (by rfl) T.all (by decide +kernel) (pa_cons (pe_lc (own := [("flow", 3)]) (g := gName 3) (tt := tYes) rfl sc_is_drained.nd (pi_range1 (by rfl) T.range (pa_cons (pe_callB call_len_seq (by rfl) T.len PySem.boot_len (pa_cons (pe_fld (pv 0) rfl) pa_nil)) pa_nil)) (blkOk_by (own := [("flow", 3)]) (N := N_is_drained) (sc := defScope s_is_drained) (by decide +kernel)) (fun _ _ _ _ _ => pg_name (i := 3) sc_is_drained.nd rfl (Or.inl rfl)) (fun _ _ _ _ _ => pts_nil) (fun _ _ _ _ _ => (pe_cmpR (op_niK (K := K) rfl) (pv 2) (pe_cal c_links_used hr (by decide) (by rfl) (pa_cons (pv 0) (pa_cons (pv 1) (pa_cons (pv 3) pa_nil)))) (by rfl)))) pa_nil)))), ?_⟩)
  obtain ⟨⟨a, n, s, l⟩, ⟨N, S⟩, hv, k⟩ := h
  dsimp only at N S hv k
  obtain ⟨v1, v2, v3, rfl, h1, h2, h3⟩ := is3 hv
  cases val_eq h1
  cases val_eq h3
  have hnf := N.wf.nf
  refine r_ret (ed_of (ev_all (bs := (List.range n.flows.length).map fun f => !(n.usedLinks f (s.getD f 0)).contains l) (ed_is (EvR.ofRN (en_lcR0 (fun f => .val (.bl (!(n.usedLinks f (s.getD f 0)).contains l))) (ed_nflows T N.net rfl) (by omega) (fun _ => rfl)
    (fun i H1 e hi => e0_of (ev_ni (l := n.usedLinks i (s.getD i 0)) (ed_v rfl) (er_call (a, n, s, i) (eds_cons (ed_v rfl) (eds_cons (ed_var rfl (IsO.ex e h2)) (eds_cons (ed_v rfl) eds_nil))) (fun _ e' => ⟨(N.mono e).mono e', S, hi⟩) back_D))))) (by rw [List.map_map]; rfl)))) fun v H2 e2 r => k v H2 e2 ?_
  have e : (((List.range n.flows.length).map fun f => !(n.usedLinks f (s.getD f 0)).contains l).all id) = !(n.isUsed s l) := by
    unfold Network.isUsed Network.flowIndices
    rw [List.all_map, List.not_any_eq_all_not]
    rfl
  rw [e] at r
  exact r
/-! ## is_node_drained -/
abbrev s_is_node_drained : Stmt := topS 10
abbrev N_is_node_drained : List Str := ["network", "assignment", "node", "link", "pair"]
theorem sc_is_node_drained : FnScope N_is_node_drained ["network", "assignment", "node"] (defScope s_is_node_drained) := ⟨rfl, rfl, rfl, by decide +kernel, rfl, by decide +kernel, by decide +kernel⟩
abbrev sp_is_node_drained (C : Addr) : Sp := SpR (α := A4) (fun x H => NW C H x.1 x.2.1 ∧ Shaped x.2.1 x.2.2.1)
  (fun x => [.val (.ref x.1), dA x.2.2.1, dN x.2.2.2]) (fun x => RD (.val (.bl ((x.2.1.linksOfNode x.2.2.2).all fun i => !(x.2.1.isUsed x.2.2.1 i)))))
theorem cal_is_node_drained (T : Txt K mg C) (F : Def K mg "is_node_drained" s_is_node_drained ["network", "assignment", "node"]) (c_is_drained : Cal P w K mg base 2 "is_drained" (sp_is_drained C)) : Cal P w K mg base 3 "is_node_drained" (sp_is_node_drained C) := by
  refine cal_mk F sc_is_node_drained (SpR.len fun _ => rfl) (fun f cdv A outer s H vs Q E hr h => ⟨_, (pss_cons (ps_for PassesOwn.never rfl (pi_enum (by rfl) T.enumerate (pa_cons (pe_fld (pv 0) rfl) pa_nil)) (pg_tup (by rfl) (pgs_cons (pg_name (i := 3) sc_is_node_drained.nd rfl (Or.inl rfl)) (pgs_cons (pg_name (i := 4) sc_is_node_drained.nd rfl (Or.inl rfl)) pgs_nil)))
      (pss_one (ps_if (PW.pt (pw_and (pt_cmpR op_in_seq (pv 2) (pv 4) (by rfl)) (pw_and1 (pt_not (pt_val (pe_cal c_is_drained hr (by decide) (by rfl) (pa_cons (pv 0) (pa_cons (pv 1) (pa_cons (pv 3) pa_nil)))))))))
        (pss_one (ps_ret pe_bl))
        pss_nil)))
    (pss_one (ps_ret pe_bl))), ?_⟩)
  obtain ⟨⟨a, n, s, l⟩, ⟨N, S⟩, hv, k⟩ := h
  dsimp only at N S hv k
  obtain ⟨v1, v2, v3, rfl, h1, h2, h3⟩ := is3 hv
  cases val_eq h1
  cases val_eq h3
  refine wq_enum (ed_ends T N.net rfl) (fun i σ' => ∃ x y, σ' = [some (.ref a), some v2, some (vN l), x, y] ∧ ∀ j, j < i → j < n.links.length → ((n.link j).endA == l || (n.link j).endB == l) = true → n.isUsed s j = false)
    ⟨_, _, rfl, fun j hj => absurd hj (Nat.not_lt_zero j)⟩ (fun i d x σ' H' hi ⟨y, z, hσ, hall⟩ e1 hx Nx hN => ?_) (fun σ' H' ⟨y, z, hσ, hall⟩ e1 => ?_)
  · subst hσ
    rw [List.getElem?_map] at hi
    obtain ⟨lk, hl, rfl⟩ := Option.map_eq_some_iff.mp hi
    have hil : i < n.links.length := (List.getElem?_eq_some_iff.mp hl).1
    have hlk : lk = n.link i := by rw [link_get hil] at hl; exact (Option.some.inj hl).symm
    subst hlk
    have hc : ([(n.link i).endA, (n.link i).endB].contains l) = ((n.link i).endA == l || (n.link i).endB == l) := by
      rw [List.contains_cons, List.contains_cons, List.contains_nil, Bool.or_false, Bool.beq_comm (a := l), Bool.beq_comm (a := l)]
    refine s_when (et_and (et_test (ev_inT (l := [(n.link i).endA, (n.link i).endB]) (ed_v rfl) (ed_var rfl hx))) (fun _ => et_not (et_B (ev_of (er_call (a, n, s, i) (eds_cons (ed_v rfl) (eds_cons (ed_var rfl (IsO.ex e1 h2)) (eds_cons (ed_v rfl) eds_nil))) (fun _ e => ⟨(N.mono e1).mono e, S⟩) back_D))))) (fun hb H2 e2 => ?_) (fun hb H2 e2 => ?_)
    · refine r_ret ed_c fun v H3 e3 r => k v H3 ((e1.trans e2).trans e3) ?_
      rw [hc, Bool.and_eq_true, Bool.not_not] at hb
      have e : ((n.linksOfNode l).all fun i => !(n.isUsed s i)) = false := by
        rw [Bool.eq_false_iff]
        intro z
        have z2 := List.all_eq_true.mp z i (List.mem_filter.mpr ⟨List.mem_range.mpr hil, hb.1⟩)
        rw [hb.2] at z2
        cases z2
      rw [e]
      exact r
    · refine hN _ _ ⟨_, _, rfl, fun j hj hjl hj2 => ?_⟩ e2
      by_cases hji : j = i
      · subst hji
        rw [hc, hj2, Bool.true_and, Bool.not_not] at hb
        exact hb
      · exact hall j (by omega) hjl hj2
  · subst hσ
    refine r_ret ed_c fun v H3 e3 r => k v H3 (e1.trans e3) ?_
    have e : ((n.linksOfNode l).all fun i => !(n.isUsed s i)) = true := by
      refine List.all_eq_true.mpr fun i hi => ?_
      obtain ⟨h1, h2⟩ := List.mem_filter.mp hi
      have hil := List.mem_range.mp h1
      rw [hall i (by rw [List.length_map]; exact hil) hil h2]
      rfl
    rw [e]
    exact r
end
end FL

namespace FL
open PySem PySem.Spec PyProof.Rows L2 Evl FM
open Su203 (Network Link Flow)

section
variable {P : Program} {w : World} {K : PySem.W.Frag} {mg : Str → Option Value} {base : Heap} {C : Addr}
abbrev AN := Addr × Network × Nat
abbrev ANN := Addr × Network × Nat × Nat
abbrev s_has_node : Stmt := topS 17
abbrev N_has_node : List Str := ["network", "node"]
theorem sc_has_node : FnScope N_has_node ["network", "node"] (defScope s_has_node) := ⟨rfl, rfl, rfl, by decide +kernel, rfl, by decide +kernel, by decide +kernel⟩
abbrev sp_has_node (C : Addr) : Sp := SpR (α := AN) (fun x H => NW C H x.1 x.2.1) (fun x => [.val (.ref x.1), dN x.2.2]) (fun x => RD (.val (.bl (decide (x.2.2 < x.2.1.nodes)))))
theorem cal_has_node (T : Txt K mg C) (F : Def K mg "has_node" s_has_node ["network", "node"]) : Cal P w K mg base 1 "has_node" (sp_has_node C) := by
  refine cal_mk F sc_has_node (SpR.len fun _ => rfl) (fun f cdv A outer s H vs Q E hr h => ⟨_, (pss_one (ps_ret (pe_chain op_le op_lt pe_int (pv 1) (pe_fld (pv 0) rfl)))), ?_⟩)
  obtain ⟨⟨a, n, x⟩, N, hv, k⟩ := h
  dsimp only at N hv k
  obtain ⟨v1, v2, rfl, h1, h2⟩ := is2 hv
  cases val_eq h1
  cases val_eq h2
  exact r_ret (ed_of (ev_below (ed_v rfl) (ed_node_count T N.net rfl))) k
abbrev s_has_link : Stmt := topS 18
abbrev N_has_link : List Str := ["network", "link"]
theorem sc_has_link : FnScope N_has_link ["network", "link"] (defScope s_has_link) := ⟨rfl, rfl, rfl, by decide +kernel, rfl, by decide +kernel, by decide +kernel⟩
abbrev sp_has_link (C : Addr) : Sp := SpR (α := AN) (fun x H => NW C H x.1 x.2.1) (fun x => [.val (.ref x.1), dN x.2.2]) (fun x => RD (.val (.bl (decide (x.2.2 < x.2.1.links.length)))))
theorem cal_has_link (T : Txt K mg C) (F : Def K mg "has_link" s_has_link ["network", "link"]) : Cal P w K mg base 1 "has_link" (sp_has_link C) := by
  refine cal_mk F sc_has_link (SpR.len fun _ => rfl) (fun f cdv A outer s H vs Q E hr h => ⟨_, (pss_one (ps_ret (pe_chain op_le op_lt pe_int (pv 1) (pe_callB call_len_seq (by rfl) T.len PySem.boot_len (pa_cons (pe_fld (pv 0) rfl) pa_nil))))), ?_⟩)
  obtain ⟨⟨a, n, x⟩, N, hv, k⟩ := h
  dsimp only at N hv k
  obtain ⟨v1, v2, rfl, h1, h2⟩ := is2 hv
  cases val_eq h1
  cases val_eq h2
  exact r_ret (ed_of (ev_below (ed_v rfl) (ed_nends T N.net rfl))) k
abbrev s_has_flow : Stmt := topS 19
abbrev N_has_flow : List Str := ["network", "flow"]
theorem sc_has_flow : FnScope N_has_flow ["network", "flow"] (defScope s_has_flow) := ⟨rfl, rfl, rfl, by decide +kernel, rfl, by decide +kernel, by decide +kernel⟩
abbrev sp_has_flow (C : Addr) : Sp := SpR (α := AN) (fun x H => NW C H x.1 x.2.1) (fun x => [.val (.ref x.1), dN x.2.2]) (fun x => RD (.val (.bl (decide (x.2.2 < x.2.1.flows.length)))))
theorem cal_has_flow (T : Txt K mg C) (F : Def K mg "has_flow" s_has_flow ["network", "flow"]) : Cal P w K mg base 1 "has_flow" (sp_has_flow C) := by
  refine cal_mk F sc_has_flow (SpR.len fun _ => rfl) (fun f cdv A outer s H vs Q E hr h => ⟨_, (pss_one (ps_ret (pe_chain op_le op_lt pe_int (pv 1) (pe_callB call_len_seq (by rfl) T.len PySem.boot_len (pa_cons (pe_fld (pv 0) rfl) pa_nil))))), ?_⟩)
  obtain ⟨⟨a, n, x⟩, N, hv, k⟩ := h
  dsimp only at N hv k
  obtain ⟨v1, v2, rfl, h1, h2⟩ := is2 hv
  cases val_eq h1
  cases val_eq h2
  exact r_ret (ed_of (ev_below (ed_v rfl) (ed_nflows T N.net rfl))) k
abbrev s_has_path : Stmt := topS 20
abbrev N_has_path : List Str := ["network", "flow", "path"]
theorem sc_has_path : FnScope N_has_path ["network", "flow", "path"] (defScope s_has_path) := ⟨rfl, rfl, rfl, by decide +kernel, rfl, by decide +kernel, by decide +kernel⟩
abbrev sp_has_path (C : Addr) : Sp := SpR (α := ANN) (fun x H => NW C H x.1 x.2.1) (fun x => [.val (.ref x.1), dN x.2.2.1, dN x.2.2.2]) (fun x => RD (.val (.bl (decide (x.2.2.1 < x.2.1.flows.length) && decide (x.2.2.2 < (x.2.1.flow x.2.2.1).pathLinks.length)))))
theorem cal_has_path (T : Txt K mg C) (F : Def K mg "has_path" s_has_path ["network", "flow", "path"]) (c_has_flow : Cal P w K mg base 1 "has_flow" (sp_has_flow C)) : Cal P w K mg base 2 "has_path" (sp_has_path C) := by
  refine cal_mk F sc_has_path (SpR.len fun _ => rfl) (fun f cdv A outer s H vs Q E hr h => ⟨_, (pss_one (ps_ret (pe_and (pe_cal c_has_flow hr (by decide) (by rfl) (pa_cons (pv 0) (pa_cons (pv 1) pa_nil))) (pe_one (pe_chain op_le op_lt pe_int (pv 2) (pe_callB call_len_seq (by rfl) T.len PySem.boot_len (pa_cons (pe_ix ix_list (pe_fld (pv 0) rfl) (pv 1) (fun _ _ => rfl)) pa_nil))))))), ?_⟩)
  obtain ⟨⟨a, n, x, y⟩, N, hv, k⟩ := h
  dsimp only at N hv k
  obtain ⟨v1, v2, v3, rfl, h1, h2, h3⟩ := is3 hv
  cases val_eq h1
  cases val_eq h2
  cases val_eq h3
  refine r_ret (ed_of (ev_andV (ev_of (er_call (a, n, x) (eds_cons (ed_v rfl) (eds_cons (ed_v rfl) eds_nil)) (fun _ e => N.mono e) back_D)) (fun hb => ?_))) k
  have hx := of_decide_eq_true hb
  refine ev_below (ed_v rfl) (ed_is (ed_len (ed_pathsOf T N.net rfl (ed_v rfl) hx)) ?_)
  rw [List.length_map, (N.wf.pl _ (flow_mem hx)).1]
abbrev s_link_between : Stmt := topS 21
abbrev N_link_between : List Str := ["network", "one", "other", "index", "pair"]
theorem sc_link_between : FnScope N_link_between ["network", "one", "other"] (defScope s_link_between) := ⟨rfl, rfl, rfl, by decide +kernel, rfl, by decide +kernel, by decide +kernel⟩
/-- of a network only the links are known -/
def NetE (C : Addr) (H : Hp) (a : Addr) (w : Network) : Prop := ∃ dx n e c f p r s, H a = some (.ins C dx (nF n e c f p r s)) ∧ Is H (dEnds w) e
theorem NetE.mono {H H' : Hp} {a : Addr} {w : Network} (x : Ex H H') (N : NetE C H a w) : NetE C H' a w := by
  obtain ⟨dx, n, e, c, f, p, r, s, h1, h2⟩ := N
  exact ⟨dx, n, e, c, f, p, r, s, x _ _ h1, IsO.ex x h2⟩
theorem Net.toE {H : Hp} {a : Addr} {w : Network} (N : Net C H a w) : NetE C H a w := by
  obtain ⟨dx, e, c, f, p, r, s, h1, h2, _⟩ := N
  exact ⟨dx, _, e, c, f, p, r, s, h1, h2⟩
theorem ed_endsE {i : Nat} {σ : L2.St} {H : Hp} {a : Addr} {w : Network} (T : Txt K mg C) (N : NetE C H a w) (h : σ[i]? = some (some (.ref a))) : EvD (tFld K (tVar i) "ends") σ H (dEnds w) := by
  obtain ⟨dx, n, e, c, f, p, r, s, h1, h2⟩ := N
  exact ed_fld T.cl T.n2 h h1 nF_2 h2
abbrev sp_link_between (C : Addr) : Sp := SpR (α := ANN) (fun x H => NetE C H x.1 x.2.1) (fun x => [.val (.ref x.1), dN x.2.2.1, dN x.2.2.2]) (fun x => RD (dI (linkNo x.2.1 x.2.2.1 x.2.2.2)))
theorem pair_eq (l : Link) (u v : Nat) : (decide ([l.endA, l.endB] = [u, v]) || decide ([l.endA, l.endB] = [v, u])) = joins l u v := by
  have e : ∀ u v : Nat, decide ([l.endA, l.endB] = [u, v]) = (l.endA == u && l.endB == v) := fun u v => by
    by_cases h1 : l.endA = u
    · by_cases h2 : l.endB = v
      · simp [h1, h2]
      · simp [h1, h2]
    · simp [h1]
  rw [e, e]
  rfl
theorem cal_link_between (T : Txt K mg C) (F : Def K mg "link_between" s_link_between ["network", "one", "other"]) : Cal P w K mg base 1 "link_between" (sp_link_between C) := by
  refine cal_mk F sc_link_between (SpR.len fun _ => rfl) (fun f cdv A outer s H vs Q E hr h => ⟨_, (pss_cons (ps_for PassesOwn.never rfl (pi_enum (by rfl) T.enumerate (pa_cons (pe_fld (pv 0) rfl) pa_nil)) (pg_tup (by rfl) (pgs_cons (pg_name (i := 3) sc_link_between.nd rfl (Or.inl rfl)) (pgs_cons (pg_name (i := 4) sc_link_between.nd rfl (Or.inl rfl)) pgs_nil)))
      (pss_one (ps_if (PW.pt (pw_or (pt_cmpR (op_eqD hr.units) (pv 4) (pe_tup (pa_cons (pv 1) (pa_cons (pv 2) pa_nil))) (nomark _)) (pw_or1 (pt_cmpR (op_eqD hr.units) (pv 4) (pe_tup (pa_cons (pv 2) (pa_cons (pv 1) pa_nil))) (nomark _)))))
        (pss_one (ps_ret (pv 3)))
        pss_nil)))
    (pss_one (ps_ret (pe_un un_neg pe_int)))), ?_⟩)
  obtain ⟨⟨a, n, x, y⟩, N, hv, k⟩ := h
  dsimp only at N hv k
  obtain ⟨v1, v2, v3, rfl, h1, h2, h3⟩ := is3 hv
  cases val_eq h1
  cases val_eq h2
  cases val_eq h3
  refine wq_enum (ed_endsE T N rfl) (fun i σ' => ∃ p q, σ' = [some (.ref a), some (vN x), some (vN y), p, q] ∧ ∀ j, j < i → joins (n.link j) x y = false)
    ⟨_, _, rfl, fun j hj => absurd hj (Nat.not_lt_zero j)⟩ (fun i d z σ' H' hi ⟨p, q, hσ, hall⟩ e1 hx Nx hN => ?_) (fun σ' H' ⟨p, q, hσ, hall⟩ e1 => ?_)
  · subst hσ
    rw [List.getElem?_map] at hi
    obtain ⟨lk, hl, rfl⟩ := Option.map_eq_some_iff.mp hi
    have hil : i < n.links.length := (List.getElem?_eq_some_iff.mp hl).1
    have hlk : lk = n.link i := by rw [link_get hil] at hl; exact (Option.some.inj hl).symm
    subst hlk
    refine s_when (et_or (et_test (ev_eqA (s := [(n.link i).endA, (n.link i).endB]) (t := [x, y]) (ed_var rfl hx) (EvR.ofR0 (e0_tup2 (ed_v rfl) (ed_v rfl))))) (fun _ => et_test (ev_eqA (s := [(n.link i).endA, (n.link i).endB]) (t := [y, x]) (ed_var rfl hx) (EvR.ofR0 (e0_tup2 (ed_v rfl) (ed_v rfl)))))) (fun hb H2 e2 => ?_) (fun hb H2 e2 => ?_)
    · rw [pair_eq] at hb
      refine r_ret (ed_v rfl) fun v H3 e3 r => k v H3 ((e1.trans e2).trans e3) ?_
      rw [linkNo_at hil hb hall]
      exact r
    · rw [pair_eq] at hb
      refine hN _ _ ⟨_, _, rfl, fun j hj => ?_⟩ e2
      by_cases hji : j = i
      · subst hji; exact hb
      · exact hall j (by omega)
  · subst hσ
    refine r_ret (ed_neg ed_c) fun v H3 e3 r => k v H3 (e1.trans e3) ?_
    rw [linkNo_none fun j hj => hall j (by rw [List.length_map]; exact hj)]
    exact r
abbrev s_route_of : Stmt := topS 22
abbrev N_route_of : List Str := ["network", "nodes", "at"]
theorem sc_route_of : FnScope N_route_of ["network", "nodes"] (defScope s_route_of) := ⟨rfl, rfl, rfl, by decide +kernel, rfl, by decide +kernel, by decide +kernel⟩
abbrev AL := Addr × Network × List Nat
abbrev sp_route_of (C : Addr) : Sp := SpR (α := AL) (fun x H => NetE C H x.1 x.2.1 ∧ 1 ≤ x.2.2.length ∧ x.2.2.length ≤ 1000) (fun x => [.val (.ref x.1), dNs x.2.2]) (fun x => RN ((routeL x.2.1 x.2.2).map dI))
/-- nodes[i] -/
theorem ed_nat {K : PySem.W.Frag} {σ : L2.St} {H : Hp} {te ti : TE} {s : List Nat} {i : Nat} (h : EvD te σ H (dNs s)) (hi : EvD ti σ H (dN i)) (hl : i < s.length) : EvD (tOp (rIxL K) te ti) σ H (dN (s.getD i 0)) :=
  ed_ixL h hi (by rw [List.getElem?_map, get_of_lt hl]; rfl)
theorem cal_route_of (T : Txt K mg C) (F : Def K mg "route_of" s_route_of ["network", "nodes"]) (c_link_between : Cal P w K mg base 1 "link_between" (sp_link_between C)) : Cal P w K mg base 2 "route_of" (sp_route_of C) := by
  refine cal_mk F sc_route_of (SpR.len fun _ => rfl) (fun f cdv A outer s H vs Q E hr h => ⟨_, (pss_one (ps_ret (pe_lc (own := [("at", 2)]) (g := gName 2) (tt := tYes) rfl sc_route_of.nd (pi_range1 (by rfl) T.range (pa_cons (pe_op op_sub (pe_callB call_len_seq (by rfl) T.len PySem.boot_len (pa_cons (pv 1) pa_nil)) pe_int) pa_nil)) (blkOk_by (own := [("at", 2)]) (N := N_route_of) (sc := defScope s_route_of) (by decide +kernel)) (fun _ _ _ _ _ => pg_name (i := 2) sc_route_of.nd rfl (Or.inl rfl)) (fun _ _ _ _ _ => pts_nil) (fun _ _ _ _ _ => (pe_cal c_link_between hr (by decide) (by rfl) (pa_cons (pv 0) (pa_cons (pe_ix (ix_listK (K := K) rfl) (pv 1) (pv 2) (fun _ _ => rfl)) (pa_cons (pe_ix (ix_listK (K := K) rfl) (pv 1) (pe_op op_add (pv 2) pe_int) (fun _ _ => rfl)) pa_nil)))))))), ?_⟩)
  obtain ⟨⟨a, n, l⟩, ⟨N, hl1, hl2⟩, hv, k⟩ := h
  dsimp only at N hl1 hl2 hv k
  obtain ⟨v1, v2, rfl, h1, h2⟩ := is2 hv
  cases val_eq h1
  refine r_ret (R := RN ((routeL n l).map dI)) ?_ k
  have e0 : (routeL n l).map dI = (List.range (l.length - 1)).map fun i => dI (linkNo n (l.getD i 0) (l.getD (i + 1) 0)) := by unfold routeL; rw [List.map_map]; rfl
  rw [e0]
  exact en_lcR0 (n := l.length - 1) (fun i => dI (linkNo n (l.getD i 0) (l.getD (i + 1) 0))) (ed_pred (by omega) (ed_is (ed_len (ed_var rfl h2)) (by rw [List.length_map]))) (by omega) (fun _ => rfl)
    (fun i H1 e hi => e0_ofD (er_call (a, n, l.getD i 0, l.getD (i + 1) 0) (eds_cons (ed_v rfl) (eds_cons (ed_nat (ed_var rfl (IsO.ex e h2)) (ed_v rfl) (by omega)) (eds_cons (ed_nat (ed_var rfl (IsO.ex e h2)) (ed_succ (ed_v rfl)) (by omega)) eds_nil))) (fun _ e' => NetE.mono e' (NetE.mono e N)) back_D))
abbrev s_are_all_different : Stmt := topS 23
abbrev N_are_all_different : List Str := ["nodes", "at"]
theorem sc_are_all_different : FnScope N_are_all_different ["nodes"] (defScope s_are_all_different) := ⟨rfl, rfl, rfl, by decide +kernel, rfl, by decide +kernel, by decide +kernel⟩
abbrev sp_are_all_different : Sp := SpR (α := List Nat) (fun x _ => x.length ≤ 1000) (fun x => [dNs x]) (fun x => RD (.val (.bl (allDiff x))))
theorem cal_are_all_different (T : Txt K mg C) (F : Def K mg "are_all_different" s_are_all_different ["nodes"]) : Cal P w K mg base 1 "are_all_different" sp_are_all_different := by
  refine cal_mk F sc_are_all_different (SpR.len fun _ => rfl) (fun f cdv A outer s H vs Q E hr h => ⟨_, (pss_one (ps_ret (pe_callB (cr_all rfl) (by rfl) T.all (by decide +kernel) (pa_cons (pe_lc (own := [("at", 1)]) (g := gName 1) (tt := tYes) rfl sc_are_all_different.nd (pi_range1 (by rfl) T.range (pa_cons (pe_callB call_len_seq (by rfl) T.len PySem.boot_len (pa_cons (pv 0) pa_nil)) pa_nil)) (blkOk_by (own := [("at", 1)]) (N := N_are_all_different) (sc := defScope s_are_all_different) (by decide +kernel)) (fun _ _ _ _ _ => pg_name (i := 1) sc_are_all_different.nd rfl (Or.inl rfl)) (fun _ _ _ _ _ => pts_nil) (fun _ _ _ _ _ => (pe_cmpR (op_niK (K := K) rfl) (pe_ix (ix_listK (K := K) rfl) (pv 0) (pv 1) (fun _ _ => rfl)) (pe_slice (sl_listK (K := K) rfl) (pv 0) po_none (po_some (pv 1))) (by rfl)))) pa_nil)))), ?_⟩)
  obtain ⟨l, hl, hv, k⟩ := h
  obtain ⟨v1, rfl, h1⟩ := is1 hv
  refine r_ret (ed_of (ev_all (bs := (List.range l.length).map fun i => !(l.take i).contains (l.getD i 0)) (ed_is (EvR.ofRN (en_lcR0 (fun i => .val (.bl (!(l.take i).contains (l.getD i 0)))) (ed_is (ed_len (ed_var rfl h1)) (by rw [List.length_map])) (by omega) (fun _ => rfl)
    (fun i H1 e hi => e0_of (ev_ni (l := l.take i) (ed_nat (ed_var rfl (IsO.ex e h1)) (ed_v rfl) hi) (EvR.ofRN (en_takeL (ed_var rfl (IsO.ex e h1)) (ed_v rfl) (by omega))))))) (by rw [List.map_map]; rfl)))) k
abbrev s_is_path : Stmt := topS 24
abbrev N_is_path : List Str := ["network", "flow", "nodes", "source", "destination", "demand"]
theorem sc_is_path : FnScope N_is_path ["network", "flow", "nodes"] (defScope s_is_path) := ⟨rfl, rfl, rfl, by decide +kernel, rfl, by decide +kernel, by decide +kernel⟩
abbrev ANL := Addr × Network × Nat × List Nat
abbrev sp_is_path (C : Addr) : Sp := SpR (α := ANL) (fun x H => NW C H x.1 x.2.1 ∧ x.2.2.1 < x.2.1.flows.length ∧ x.2.2.2.length ≤ 1000) (fun x => [.val (.ref x.1), dN x.2.2.1, dNs x.2.2.2]) (fun x => RD (.val (.bl (x.2.1.isPath x.2.2.1 x.2.2.2))))
theorem cal_is_path (T : Txt K mg C) (F : Def K mg "is_path" s_is_path ["network", "flow", "nodes"]) (c_are_all_different : Cal P w K mg base 1 "are_all_different" sp_are_all_different) (c_route_of : Cal P w K mg base 2 "route_of" (sp_route_of C)) : Cal P w K mg base 3 "is_path" (sp_is_path C) := by
  refine cal_mk F sc_is_path (SpR.len fun _ => rfl) (fun f cdv A outer s H vs Q E hr h => ⟨_, (pss_cons (ps_if (PW.pt (pw_or (pt_cmpR op_lt (pe_callB call_len_seq (by rfl) T.len PySem.boot_len (pa_cons (pv 2) pa_nil)) pe_int (nomark _)) (pw_or1 (pt_not (pt_val (pe_cal c_are_all_different hr (by decide) (by rfl) (pa_cons (pv 2) pa_nil)))))))
      (pss_one (ps_ret pe_bl))
      pss_nil)
    (pss_cons (ps_asg (pe_ix ix_list (pe_fld (pv 0) rfl) (pv 1) (fun _ _ => rfl)) (pg_tup (by rfl) (pgs_cons (pg_name (i := 3) sc_is_path.nd rfl (Or.inl rfl)) (pgs_cons (pg_name (i := 4) sc_is_path.nd rfl (Or.inl rfl)) (pgs_cons (pg_name (i := 5) sc_is_path.nd rfl (Or.inl rfl)) pgs_nil)))))
    (pss_cons (ps_if (PW.pt (pw_or (pt_cmpR op_ne (pe_ix ix_list (pv 2) pe_int (fun _ _ => rfl)) (pv 3) (nomark _)) (pw_or1 (pt_cmpR op_ne (pe_ix ix_list (pv 2) (pe_op op_sub (pe_callB call_len_seq (by rfl) T.len PySem.boot_len (pa_cons (pv 2) pa_nil)) pe_int) (fun _ _ => rfl)) (pv 4) (nomark _)))))
      (pss_one (ps_ret pe_bl))
      pss_nil)
    (pss_one (ps_ret (pe_cmpR op_notIn_seq (pe_un un_neg pe_int) (pe_cal c_route_of hr (by decide) (by rfl) (pa_cons (pv 0) (pa_cons (pv 2) pa_nil))) (by rfl))))))), ?_⟩)
  obtain ⟨⟨a, n, f, l⟩, ⟨N, hf, hl⟩, hv, k⟩ := h
  dsimp only at N hf hl hv k
  obtain ⟨v1, v2, v3, rfl, h1, h2, h3⟩ := is3 hv
  cases val_eq h1
  cases val_eq h2
  rw [isPath_eq] at k
  refine q_when (et_or (et_lt (j := 2) (ed_is (ed_len (ed_var rfl h3)) (by rw [List.length_map])) ed_c rfl) (fun _ => et_not (et_B (ev_of (er_call l (eds_cons (ed_var rfl h3) eds_nil) (fun _ _ => hl) back_D))))) (fun hb H1 e1 => ?_) (fun hb H1 e1 => ?_)
  · refine r_ret ed_c fun v H2 e2 r => k v H2 (e1.trans e2) ?_
    rw [hb]
    exact r
  · rw [hb] at k
    rw [Bool.or_eq_false_iff] at hb
    have hl2 := of_decide_eq_false hb.1
    refine rq_asgG (ed_ixL (d := .tup [dN (n.flow f).source, dN (n.flow f).destination, dN (n.flow f).demand]) (ed_flows T (N.net.mono e1) rfl) (ed_v rfl) (by rw [List.getElem?_map, flow_get hf]; rfl)) fun v H2 e2 r => g_three r fun u1 u2 u3 r1 r2 r3 => ?_
    cases val_eq r1
    cases val_eq r2
    cases val_eq r3
    have e12 := e1.trans e2
    refine q_when (et_or (et_ne (ed_nat (i := 0) (ed_var rfl (IsO.ex e12 h3)) ed_c (by omega)) (ed_v rfl) rfl) (fun _ => et_ne (ed_nat (i := l.length - 1) (ed_var rfl (IsO.ex e12 h3)) (ed_pred (i := l.length) (by omega) (ed_is (ed_len (ed_var rfl (IsO.ex e12 h3))) (by rw [List.length_map]))) (by omega)) (ed_v rfl) rfl)) (fun hb H3 e3 => ?_) (fun hb H3 e3 => ?_)
    · refine r_ret ed_c fun v H4 e4 r => k v H4 ((e12.trans e3).trans e4) ?_
      rw [hb]
      exact r
    · have e13 := e12.trans e3
      refine r_ret (ed_of (ev_niI (ed_neg ed_c) (EvR.ofRN (er_call (a, n, l) (eds_cons (ed_v rfl) (eds_cons (ed_var rfl (IsO.ex e13 h3)) eds_nil)) (fun _ e => ⟨((N.mono e13).mono e).net.toE, show 1 ≤ l.length by omega, hl⟩) back_N)))) fun v H4 e4 r => k v H4 (e13.trans e4) ?_
      rw [hb]
      exact r
end
end FL

namespace FL
open PySem PySem.Spec PyProof.Rows L2 Evl FM
open Su203 (Network Link Flow)
/-! ### tuples of numbers as keys -/
def encK (s : List Nat) : List Key := s.map fun (n : Nat) => Sum.inl (n : Int)
theorem encK_kV (s : List Nat) : (encK s).map kV = s.map vN := by
  unfold encK
  rw [List.map_map]
  rfl
theorem encK_inj : ∀ {s t : List Nat}, encK s = encK t → s = t
  | [], [], _ => rfl
  | [], _ :: _, h => by simp [encK] at h
  | _ :: _, [], h => by simp [encK] at h
  | a :: s, b :: t, h => by
    unfold encK at h
    (rw [List.map_cons, List.map_cons] at h)
    obtain ⟨h1, h2⟩ := List.cons.inj h
    have e := Sum.inl.inj h1
    have : a = b := by omega
    rw [this, encK_inj (s := s) (t := t) h2]
/-- a table of distances as the dict that bears it -/
def encD (l : List (List Nat × Nat)) : List (List Key × V) := l.map fun p => (encK p.1, vN p.2)
theorem encD_look (s : List Nat) : ∀ l : List (List Nat × Nat), valV (encD l) (encK s) = (look l s).map vN
  | [] => rfl
  | p :: l => by
    have ih := encD_look s l
    unfold encD at ih ⊢
    rw [List.map_cons]
    by_cases h : p.1 = s
    · rw [valV_pos (p := (encK p.1, vN p.2)) (by rw [h])]
      unfold look
      rw [List.find?_cons, decide_eq_true h]
      rfl
    · rw [valV_neg (p := (encK p.1, vN p.2)) (fun z => h (encK_inj z)), ih]
      unfold look
      rw [List.find?_cons, decide_eq_false h]
/-! ### their hashes are apart -/
/-- all lists of so many numbers of 0 to 3 -/
def quads : Nat → List (List Nat)
  | 0 => [[]]
  | n + 1 => (quads n).flatMap fun s => [0 :: s, 1 :: s, 2 :: s, 3 :: s]
def hT (s : List Nat) : Int := reduceHash (Builtin.Tuple.tupleHashOf (s.map fun (n : Nat) => hashInt (n : Int)))
def keyT (s : List Nat) : Nat := (hT s % 44357).toNat
def chk : List (List Nat) → Nat → Bool
  | [], _ => true
  | s :: r, m => !(m.testBit (keyT s)) && chk r (m ||| (1 <<< keyT s))
theorem bit_one (k j : Nat) : (1 <<< k).testBit j = decide (k = j) := by
  rw [Nat.testBit_shiftLeft]
  by_cases h : k = j
  · subst h; simp
  · rw [decide_eq_false h]
    by_cases h2 : j ≥ k
    · rw [decide_eq_true h2, Bool.true_and]
      have : j - k ≠ 0 := by omega
      exact Bool.eq_false_iff.mpr fun z => this (Nat.testBit_one_eq_true_iff_self_eq_zero.mp z)
    · rw [decide_eq_false h2, Bool.false_and]
theorem chk_ok : ∀ (l : List (List Nat)) (m : Nat), chk l m = true → (∀ s ∈ l, m.testBit (keyT s) = false) ∧ (l.map keyT).Nodup
  | [], m, _ => ⟨(fun _ h => nomatch h), List.nodup_nil⟩
  | s :: r, m, h => by
    unfold chk at h
    rw [Bool.and_eq_true, Bool.not_eq_true'] at h
    obtain ⟨h1, h2⟩ := h
    obtain ⟨h3, h4⟩ := chk_ok r _ h2
    have h5 : ∀ t ∈ r, m.testBit (keyT t) = false ∧ keyT s ≠ keyT t := fun t ht => by
      have := h3 t ht
      rw [Nat.testBit_or, bit_one, Bool.or_eq_false_iff] at this
      exact ⟨this.1, of_decide_eq_false this.2⟩
    refine ⟨fun t ht => ?_, ?_⟩
    · rcases List.mem_cons.mp ht with rfl | ht
      · exact h1
      · exact (h5 t ht).1
    · rw [List.map_cons, List.nodup_cons]
      refine ⟨fun z => ?_, h4⟩
      obtain ⟨t, ht, e⟩ := List.mem_map.mp z
      exact (h5 t ht).2 e.symm
theorem chk_all : ∀ n, n ≤ 5 → chk (quads n) 0 = true
  | 0, _ => by decide +kernel
  | 1, _ => by decide +kernel
  | 2, _ => by decide +kernel
  | 3, _ => by decide +kernel
  | 4, _ => by decide +kernel
  | 5, _ => by decide +kernel
  | n + 6, h => by omega
theorem mem_quads : ∀ s : List Nat, (∀ x ∈ s, x ≤ 3) → s ∈ quads s.length
  | [], _ => by simp [quads]
  | a :: s, h => by
    rw [List.length_cons]
    show _ ∈ (quads s.length).flatMap fun s => [0 :: s, 1 :: s, 2 :: s, 3 :: s]
    rw [List.mem_flatMap]
    refine ⟨s, mem_quads s fun x hx => h x (List.mem_cons_of_mem _ hx), ?_⟩
    have : a ≤ 3 := h a List.mem_cons_self
    have : a = 0 ∨ a = 1 ∨ a = 2 ∨ a = 3 := by omega
    rcases this with rfl | rfl | rfl | rfl <;> simp
theorem nodup_inj {α β : Type} {f : α → β} : ∀ {l : List α}, (l.map f).Nodup → ∀ a ∈ l, ∀ b ∈ l, f a = f b → a = b
  | [], _, a, ha, _, _, _ => nomatch ha
  | x :: r, h, a, ha, b, hb, e => by
    (rw [List.map_cons, List.nodup_cons] at h)
    rcases List.mem_cons.mp ha with ha | ha <;> rcases List.mem_cons.mp hb with hb | hb
    · rw [ha, hb]
    · exact absurd (List.mem_map.mpr ⟨b, hb, by rw [← e, ha]⟩) h.1
    · exact absurd (List.mem_map.mpr ⟨a, ha, by rw [e, hb]⟩) h.1
    · exact nodup_inj h.2 a ha b hb e
theorem hT_apart {n : Nat} (hn : n ≤ 5) {s t : List Nat} (hs : s.length = n ∧ ∀ x ∈ s, x ≤ 3) (ht : t.length = n ∧ ∀ x ∈ t, x ≤ 3) (e : hT s = hT t) : s = t := by
  have h := (chk_ok _ _ (chk_all n hn)).2
  refine nodup_inj h s (by rw [← hs.1]; exact mem_quads s hs.2) t (by rw [← ht.1]; exact mem_quads t ht.2) ?_
  unfold keyT
  rw [e]
theorem hT_nodup {n : Nat} (hn : n ≤ 5) : ∀ {l : List (List Nat)}, l.Nodup → (∀ s ∈ l, s.length = n ∧ ∀ x ∈ s, x ≤ 3) → (l.map hT).Nodup
  | [], _, _ => List.nodup_nil
  | s :: r, h, hall => by
    rw [List.nodup_cons] at h
    (rw [List.map_cons, List.nodup_cons])
    refine ⟨fun z => ?_, hT_nodup hn h.2 fun t ht => hall t (List.mem_cons_of_mem _ ht)⟩
    obtain ⟨t, ht, e⟩ := List.mem_map.mp z
    have := hT_apart hn (hall t (List.mem_cons_of_mem _ ht)) (hall s List.mem_cons_self) e
    exact h.1 (this ▸ ht)
theorem hash_encK (P : Program) (w : World) (s : List Nat) : (tupleKind (mixKind P w)).hash (encK s) = hT s := by
  show reduceHash (Builtin.Tuple.tupleHashOf ((encK s).map (mixKind P w).hash)) = _
  unfold encK hT
  rw [List.map_map]
  rfl
/-! ### d.update(e): dicts with tuple keys -/
def mergeT (kvs more : List (List Key × V)) : List (List Key × V) := more.foldl (fun acc kv => putK acc kv.1 kv.2) kvs
theorem mergeT_le : ∀ (more kvs : List (List Key × V)), (mergeT kvs more).length ≤ kvs.length + more.length
  | [], kvs => Nat.le_refl _
  | p :: r, kvs => by
    have h1 := mergeT_le r (putK kvs p.1 p.2)
    have h2 := (length_putK kvs p.1 p.2)
    show (mergeT (putK kvs p.1 p.2) r).length ≤ _
    rw [List.length_cons]
    omega
theorem mergeT_has (j : List Key) : ∀ (more kvs : List (List Key × V)), (valV (mergeT kvs more) j).isSome = ((valV kvs j).isSome || (valV more j).isSome)
  | [], kvs => by
    show (valV kvs j).isSome = _
    rw [show (valV ([] : List (List Key × V)) j) = none from rfl, Option.isSome_none, Bool.or_false]
  | p :: r, kvs => by
    show (valV (mergeT (putK kvs p.1 p.2) r) j).isSome = _
    rw [mergeT_has j r, valV_put]
    by_cases h : j = p.1
    · rw [if_pos h, valV_pos h.symm]
      simp
    · rw [if_neg h, valV_neg (fun z => h z.symm)]
theorem KTmerge {H : Hp} {more : List (List Key × V)} {ys : List (List Key × Addr × Value)} (t : KT H more ys) : ∀ {kvs : List (List Key × V)} {xs : List (List Key × Addr × Value)}, KT H kvs xs → KT H (mergeT kvs more) (storedAllH xs ys) := by
  induction t with
  | nil => exact fun r => r
  | @cons p q ps qs h t ih =>
    intro kvs xs r
    obtain ⟨h1, h2, h3⟩ := h
    refine ih ?_
    show KT H (putK kvs p.1 p.2) (storedH xs q.1 q.2.1 q.2.2)
    rw [← h1]
    exact KT.put r _ h2 h3
def rUpdT : V → List V → Hp → VK → Prop := fun x xs H Q => ∃ a b kvs more, x = .ref a ∧ xs = [.ref b] ∧ a ≠ b ∧ H a = some (.dT kvs) ∧ H b = some (.dT more) ∧
  (kvs ≠ [] ∨ ∃ (n : Nat) (l : List (List Nat)), n ≤ 5 ∧ l.Nodup ∧ (∀ s ∈ l, s.length = n ∧ ∀ x ∈ s, x ≤ 3) ∧ more.map (·.1) = l.map encK) ∧ kvs.length + more.length ≤ 1000000 ∧ Q .non (upd H a (.dT (mergeT kvs more)))
theorem KTkeys {H : Hp} {kvs : List (List Key × V)} {xs : List (List Key × Addr × Value)} (t : KT H kvs xs) : xs.map (·.1) = kvs.map (·.1) := by
  induction t with
  | nil => rfl
  | cons h t ih => (rw [List.map_cons, List.map_cons, ih, h.1])
theorem mt_updT {X : Cx} {k : Nat} (hr : Room k X.A) : MtR X "dict.update" rUpdT := by
  (intro pins s σ H x xs v us Q I rx rxs h)
  obtain ⟨a, b, kvs, more, rfl, rfl, hab, ha, hb, hap, hz, q⟩ := h
  cases rx
  cases rxs with
  | cons ry rt =>
    rename_i uy ut
    cases rt
    cases (show uy = Value.ref b from ry)
    obtain ⟨z1, hda, xs1, rel1, dd1⟩ := dt_of I.hok ha
    obtain ⟨z2, hdb, xs2, rel2, dd2⟩ := dt_of I.hok hb
    have l1 := Paired.length rel1
    have l2 := Paired.length rel2
    have hap2 : xs1 ≠ [] ∨ ((∀ x ∈ xs2, s.TypeIs (.ref x.2.1) "tuple") ∧ (xs2.map fun x => (tupleKind (mixKind X.prog X.w)).hash x.1).Nodup) := by
      rcases hap with h | ⟨n, l, hn, hl1, hl2, hl3⟩
      · left
        intro z
        rw [z] at l1
        exact h (List.length_eq_zero_iff.mp l1)
      · right
        refine ⟨fun x hx => ?_, ?_⟩
        · obtain ⟨_, _, _, _, _, _, _, his, _⟩ := dd2
          have := his x hx
          exact IsTupleKey.typeIs this
        · have e1 : (xs2.map fun x => (tupleKind (mixKind X.prog X.w)).hash x.1) = ((xs2.map (·.1)).map (tupleKind (mixKind X.prog X.w)).hash) := by rw [List.map_map]; rfl
          rw [e1, KTkeys rel2, hl3, List.map_map]
          have e2 : ((tupleKind (mixKind X.prog X.w)).hash ∘ encK) = hT := by
            funext s
            exact hash_encK _ _ s
          rw [e2]
          exact hT_nodup hn hl1 hl2
    refine call_update_dictH (tupleKind_room_in1 (hu_of hr)) hab hdb dd1 dd2 hap2 (by rw [← l1, ← l2, sizeLine_eq]; omega) fun h' dd' _ hs => ?_
    obtain ⟨qo, es, ep, hq, h2, h3, h4, _, h5⟩ := dd'
    refine ⟨.non, _, d_write (t' := s.toks) (ob := .dT (mergeT kvs more)) I (by rw [ha]; exact True.intro) hs ⟨qo, hq⟩ ⟨?_, hda, _, (KTmerge rel2 rel1).keeps fun c ys ec => ?_, qo, es, ep, hq, h2, h3, h4, h5⟩, rfl, q⟩
    · have := mergeT_le more kvs
      rw [sizeLine_eq]
      omega
    · rw [upd_ne (ne_of ec ha (fun z => nomatch z))]
      exact ec
end FL

namespace FL
open PySem PySem.Spec PyProof.Rows L2 Evl FM
open Su203 (Network Link Flow)

section
variable {P : Program} {w : World} {K : PySem.W.Frag} {mg : Str → Option Value} {base : Heap} {C : Addr}
/-! ## numbers_for -/
abbrev s_numbers_for : Stmt := topS 34
abbrev N_numbers_for : List Str := ["network", "flow"]
theorem sc_numbers_for : FnScope N_numbers_for ["network", "flow"] (defScope s_numbers_for) := ⟨rfl, rfl, rfl, by decide +kernel, rfl, by decide +kernel, by decide +kernel⟩
abbrev sp_numbers_for (C : Addr) : Sp := SpR (α := AN) (fun x H => NW C H x.1 x.2.1 ∧ x.2.2 < x.2.1.flows.length) (fun x => [.val (.ref x.1), dN x.2.2]) (fun x => RN ((opts x.2.1 x.2.1.assignment x.2.2).map dN))
theorem en_is {te : TE} {σ : L2.St} {H : Hp} {ds ds' : List D} (h : EvN te σ H ds) (e : ds = ds') : EvN te σ H ds' := e ▸ h
theorem en_rg {σ : L2.St} {H : Hp} {ta tb : TE} {n : Nat} (ha : EvD ta σ H (dI 1)) (hb : EvD tb σ H (dN (n + 1))) (hn : n ≤ 1000) : EvN (tLstRg (tRg2 ta tb)) σ H (((List.range n).map fun p => p + 1).map dN) := fun H1 e Q q =>
  ha H1 e _ fun v1 H2 e2 r1 => hb H2 (e.trans e2) _ fun v2 H3 e3 r2 => by
    cases val_eq r1
    cases val_eq r2
    refine ⟨1, ((n + 1 : Nat) : Int), rfl, rfl, .of_le (by decide) (by omega) (by decide) (by omega), fun l hl => ?_⟩
    refine q _ _ ((e2.trans e3).trans (Ex.new hl)) ⟨l, _, rfl, fresh_back (e2.trans e3) hl, upd_same, ?_⟩
    have z : rgV 1 ((n + 1 : Nat) : Int) = ((List.range n).map fun p => p + 1).map vN := by
      unfold rgV
      have h1 : (((n + 1 : Nat) : Int) - 1).toNat = n := by omega
      rw [h1, List.map_map]
      apply List.map_congr_left
      intro i _
      show V.int (1 + (i : Int)) = V.int (((i + 1 : Nat)) : Int)
      congr 1
      omega
    rw [z]
    exact isOL_nats.mpr rfl
theorem cal_numbers_for (T : Txt K mg C) (F : Def K mg "numbers_for" s_numbers_for ["network", "flow"]) : Cal P w K mg base 1 "numbers_for" (sp_numbers_for C) := by
  refine cal_mk F sc_numbers_for (SpR.len fun _ => rfl) (fun f cdv A outer s H vs Q E hr h => ⟨_, (pss_cons (ps_if (pt_cmpR op_eq (pe_ix ix_tup (pe_fld (pv 0) rfl) (pv 1) (fun _ _ => rfl)) pe_int (nomark _))
      (pss_one (ps_ret (pe_lst (pa_cons pe_int pa_nil))))
      pss_nil)
    (pss_one (ps_ret (pe_listRg rfl (by rfl) T.list (prg_2 (by rfl) T.range pe_int (pe_op op_add (pe_callB call_len_seq (by rfl) T.len PySem.boot_len (pa_cons (pe_ix ix_list (pe_fld (pv 0) rfl) (pv 1) (fun _ _ => rfl)) pa_nil)) pe_int)))))), ?_⟩)
  obtain ⟨⟨a, n, f⟩, ⟨N, hf⟩, hv, k⟩ := h
  dsimp only at N hf hv k
  obtain ⟨v1, v2, rfl, h1, h2⟩ := is2 hv
  cases val_eq h1
  cases val_eq h2
  have hpl := N.wf.pl _ (flow_mem hf)
  refine q_when (et_eq (j := 0) (ed_sAt (ed_asg T N.net rfl) (ed_v rfl) (by rw [N.wf.la]; exact hf)) ed_c rfl) (fun hb H1 e1 => ?_) (fun hb H1 e1 => ?_)
  · have h0 := of_decide_eq_true hb
    refine r_ret (en_ints (vs := [vN 0]) (ea_cons ev_c ea_nil) (by decide)) fun v H2 e2 r => k v H2 (e1.trans e2) (back_N _ _ _ _ e1 ?_)
    unfold opts
    rw [if_pos h0]
    exact r
  · have h0 := of_decide_eq_false hb
    refine r_ret (en_rg (n := (n.flow f).pathLinks.length) ed_c (ed_succ (ed_is (ed_len (ed_pathsOf T (N.net.mono e1) rfl (ed_v rfl) hf)) (by rw [List.length_map, hpl.1]))) (by omega)) fun v H2 e2 r => k v H2 (e1.trans e2) (back_N _ _ _ _ e1 ?_)
    unfold opts
    rw [if_neg h0]
    exact r
/-! ## candidates -/
abbrev s_candidates : Stmt := topS 35
abbrev N_candidates : List Str := ["network", "found", "flow", "longer", "begun", "number", "one"]
theorem sc_candidates : FnScope N_candidates ["network"] (defScope s_candidates) := ⟨rfl, rfl, rfl, by decide +kernel, rfl, by decide +kernel, by decide +kernel⟩
abbrev AW := Addr × Network
abbrev sp_candidates (C : Addr) : Sp := SpR (α := AW) (fun x H => NW C H x.1 x.2) (fun x => [.val (.ref x.1)]) (fun x => RN (x.2.feasibleAssignments.map dA))
theorem take_succ_get {α : Type} {l : List α} {i : Nat} {a : α} (h : l[i]? = some a) : l.take (i + 1) = l.take i ++ [a] := by
  rw [List.take_add_one, h]
  rfl
theorem grow_le {n : Network} (hw : WF n) {i : Nat} (hi : i < n.flows.length) (l : List (List Nat)) (hl : l.length ≤ 243) : (grow n n.assignment i l).length ≤ 729 := by
  have h2 := flatMap_le 3 (fun b => (opts n n.assignment i).map fun p => b ++ [p]) l (fun b _ => by rw [List.length_map]; exact opts_le hw _ hi)
  unfold grow
  omega
theorem grow_take {n : Network} {i : Nat} {l : List (List Nat)} {j : Nat} {b : List Nat} (h : l[j]? = some b) : grow n n.assignment i (l.take (j + 1)) = grow n n.assignment i (l.take j) ++ (opts n n.assignment i).map fun p => b ++ [p] := by
  unfold grow
  rw [take_succ_get h, List.flatMap_append, List.flatMap_singleton]
theorem cal_candidates (T : Txt K mg C) (F : Def K mg "candidates" s_candidates ["network"]) (c_is_feasible : Cal P w K mg base 4 "is_feasible" (sp_is_feasible C)) (c_numbers_for : Cal P w K mg base 1 "numbers_for" (sp_numbers_for C)) : Cal P w K mg base 5 "candidates" (sp_candidates C) := by
  refine cal_mk F sc_candidates (SpR.len fun _ => rfl) (fun f cdv A outer s H vs Q E hr h => ⟨_, (pss_cons (ps_set (i := 1) sc_candidates.nd rfl (Or.inl rfl) (pe_lst (pa_cons (pe_tup pa_nil) pa_nil)))
    (pss_cons (ps_for PassesOwn.never rfl (pi_range1 (by rfl) T.range (pa_cons (pe_callB call_len_seq (by rfl) T.len PySem.boot_len (pa_cons (pe_fld (pv 0) rfl) pa_nil)) pa_nil)) (pg_name (i := 2) sc_candidates.nd rfl (Or.inl rfl))
      (pss_cons (ps_set (i := 3) sc_candidates.nd rfl (Or.inl rfl) (pe_lst pa_nil))
      (pss_cons (ps_for PassesOwn.never rfl (pi_list (pv 1)) (pg_name (i := 4) sc_candidates.nd rfl (Or.inl rfl))
        (pss_one (ps_for PassesOwn.never rfl (pi_list (pe_cal c_numbers_for hr (by decide) (by rfl) (pa_cons (pv 0) (pa_cons (pv 2) pa_nil)))) (pg_name (i := 5) sc_candidates.nd rfl (Or.inl rfl))
          (pss_one (ps_expr (pe_bm PySem.F.plainAttrs_list PySem.F.slot_list_append PySem.F.type_list_append mt_append (pv 3) (pa_cons (pe_op op_catA (pv 4) (pe_tup (pa_cons (pv 5) pa_nil))) pa_nil)))))))
      (pss_one (ps_set (i := 1) sc_candidates.nd rfl (Or.inl rfl) (pv 3))))))
    (pss_one (ps_ret (pe_lc (own := [("one", 6)]) (g := gName 6) (tt := _) rfl sc_candidates.nd (pi_list (pv 1)) (blkOk_by (own := [("one", 6)]) (N := N_candidates) (sc := defScope s_candidates) (by decide +kernel)) (fun _ _ _ _ _ => pg_name (i := 6) sc_candidates.nd rfl (Or.inl rfl)) (fun _ _ _ _ _ => pts_one (pt_val (pe_cal c_is_feasible hr (by decide) (by rfl) (pa_cons (pv 0) (pa_cons (pv 6) pa_nil))))) (fun _ _ _ _ _ => (pv 6))))))), ?_⟩)
  obtain ⟨⟨a, n⟩, N, hv, k⟩ := h
  dsimp only at N hv k
  obtain ⟨v1, rfl, h1⟩ := is1 hv
  cases val_eq h1
  have hnf := N.wf.nf
  refine rq_asg (R := RN [dA []]) ?_ fun v H1 e1 r1 => ?_
  · intro H1 e Q q
    refine ⟨Nat.zero_le _, fun p hp => ⟨by show 1 ≤ sizeLine; decide, fun l hl => ?_⟩⟩
    have hl1 : H1 l = none := by
      cases z : H1 l with
      | none => rfl
      | some o => rw [(Ex.new hp) l o z] at hl; cases hl
    have hpl : l ≠ p := fun z => by rw [z, upd_same] at hl; cases hl
    refine q _ _ ((Ex.new hp).trans (Ex.new hl)) ⟨l, _, rfl, hl1, upd_same, IsOL.one (isO_dA.mpr ⟨p, rfl, ?_⟩)⟩
    rw [upd_ne (Ne.symm hpl)]
    exact upd_same
  obtain ⟨Fl, rfl, L1⟩ := lw_of r1 e1
  refine q_forR1 (n := (n.flows.length : Int)) (eva_1 (ed_nflows T (N.net.mono e1) rfl)) ⟨by omega, by omega⟩ (fun i σ' H' => ∃ Fl x y z u, σ' = [some (.ref a), some (.ref Fl), x, y, z, u, none] ∧ Lw H ((growTo n n.assignment i).map dA) Fl H') (fun H2 e2 => ⟨_, _, _, _, _, rfl, L1.mono e2⟩) (fun i σ' H' hi ⟨Fl, x, y, z, u, hσ, L⟩ => ?_) (fun σ' H' ⟨Fl, x, y, z, u, hσ, L⟩ => ?_)
  · subst hσ
    have hi' : i < n.flows.length := by omega
    have e0 := L.ex
    obtain ⟨Lf, _, vs, hF, hvs⟩ := id L
    have hlen : vs.length = (growTo n n.assignment i).length := by rw [hvs.length, List.length_map]
    have h243 := growTo_243 N.wf n.assignment (Nat.le_of_lt hi')
    refine rq_asg en_nil fun v H2 e2 r2 => ?_
    obtain ⟨Dl, rfl, L2⟩ := lw_of r2 e2
    have hDF : Dl ≠ Fl := fun z => by
      obtain ⟨hD, _⟩ := L2
      rw [z, hF] at hD
      cases hD
    refine q_forL (a := Fl) (xs := vs) (ev_var rfl) (sq_of (e2 _ _ hF)) (fun j σ' H' => ∃ z u, σ' = [some (.ref a), some (.ref Fl), some (vN i), some (.ref Dl), z, u, none] ∧ Lw H ((grow n n.assignment i ((growTo n n.assignment i).take j)).map dA) Dl H' ∧ H' Fl = some (.lst vs) ∧ Is0L H' ((growTo n n.assignment i).map dA) vs)
      (fun H3 e3 => ⟨_, _, rfl, (L2.back e0).mono e3, e3 _ _ (e2 _ _ hF), IsOL.ex (e2.trans e3) hvs⟩) (fun j σ' H' _ ⟨_, _, _, _, q, _⟩ => sq_of q) (fun j x σ' H' hx ⟨z, u, hσ, L3, hF3, hv3⟩ => ?_) (fun σ' H' ⟨z, u, hσ, L3, hF3, hv3⟩ => ?_)
    · subst hσ
      obtain ⟨d, hd, hdx⟩ := hv3.getV hx
      rw [List.getElem?_map] at hd
      obtain ⟨b, hb, rfl⟩ := Option.map_eq_some_iff.mp hd
      have hbl : b.length = i := ((mem_growTo _ _ _).mp (List.mem_of_getElem? hb)).1
      have e3 := L3.ex
      refine s_forNL (el_of (xs := (opts n n.assignment i).map vN) (en_is (er_call (a, n, i) (eds_cons (ed_v rfl) (eds_cons (ed_v rfl) eds_nil)) (fun _ e => ⟨(N.mono e3).mono e, hi'⟩) back_N) (dNs_map _))) (fun p m σ' H' => ∃ u, σ' = [some (.ref a), some (.ref Fl), some (vN i), some (.ref Dl), some x, u, none] ∧ p ≠ Dl ∧ H' p = some (.lst ((opts n n.assignment i).map vN)) ∧ Lw H ((grow n n.assignment i ((growTo n n.assignment i).take j) ++ ((opts n n.assignment i).take m).map fun p => b ++ [p]).map dA) Dl H' ∧ H' Fl = some (.lst vs) ∧ Is0L H' ((growTo n n.assignment i).map dA) vs ∧ Is0 H' (dA b) x)
        (fun p H4 hp e4 hp4 => ⟨_, rfl, (fun z => by rw [z] at hp; obtain ⟨_, _, _, q, _⟩ := L3; rw [q] at hp; cases hp), hp4, by rw [List.take_zero, List.map_nil, List.append_nil]; exact L3.mono e4, e4 _ _ hF3, IsOL.ex e4 hv3, IsO.ex e4 hdx⟩)
        (fun p m σ' H' _ ⟨_, _, _, q, _⟩ => sq_of q) (fun p m y σ' H' hy ⟨u, hσ, hpD, hp, L4, hF4, hv4, hdx4⟩ => ?_) (fun p σ' H' ⟨u, hσ, hpD, hp, L4, hF4, hv4, hdx4⟩ => ?_)
      · subst hσ
        rw [List.getElem?_map] at hy
        obtain ⟨o, ho, rfl⟩ := Option.map_eq_some_iff.mp hy
        have hmo : m < (opts n n.assignment i).length := (List.getElem?_eq_some_iff.mp ho).1
        have h3 := opts_le N.wf n.assignment hi'
        refine lw_app (d := dA (b ++ [o])) L4 (ev_var rfl) (e0_catT (ed_var rfl hdx4.all) (EvR.ofR0 (e0_tup1 (ed_v rfl))) (by rw [hbl, List.length_singleton]; omega)) ?_ fun H5 ⟨tx, xb⟩ L5 => ⟨_, rfl, hpD, xb _ _ hpD hp, ?_, xb _ _ (Ne.symm hDF) hF4, IsOL.tx tx hv4, IsO.tx tx hdx4⟩
        · have g1 := grow_le N.wf hi' ((growTo n n.assignment i).take j) (by rw [List.length_take]; omega)
          rw [List.length_map, List.length_append, List.length_map, List.length_take]
          omega
        · have e5 : grow n n.assignment i ((growTo n n.assignment i).take j) ++ ((opts n n.assignment i).take (m + 1)).map (fun p => b ++ [p]) = (grow n n.assignment i ((growTo n n.assignment i).take j) ++ ((opts n n.assignment i).take m).map fun p => b ++ [p]) ++ [b ++ [o]] := by
            rw [take_succ_get ho, List.map_append, ← List.append_assoc]
            rfl
          rw [e5, List.map_append]
          exact L5
      · subst hσ
        refine ⟨_, _, rfl, ?_, hF4, hv4⟩
        rw [grow_take hb]
        rw [List.length_map, List.take_length] at L4
        exact L4
    · subst hσ
      rw [hlen, List.take_length] at L3
      refine s_asg (ev_var rfl) fun H4 e4 => ⟨Dl, _, _, _, _, rfl, ?_⟩
      exact L3.mono e4
  · subst hσ
    have hT : ((n.flows.length : Int)).toNat = n.flows.length := by omega
    rw [hT] at L
    obtain ⟨Lf, e0, vs, hF, hvs⟩ := id L
    have h243 := growTo_243 N.wf n.assignment (Nat.le_refl n.flows.length)
    refine r_ret (en_lcL (l := growTo n n.assignment n.flows.length) (gd := dA) n.isFeasible dA (ed_var rfl (isO_lst.mpr ⟨Fl, vs, rfl, True.intro, hF, hvs.all⟩)) (by omega) (fun _ => rfl)
      (fun s hs x H1 e hx => et_B (ev_of (er_call (a, n, s) (eds_cons (ed_v rfl) (eds_cons (ed_var rfl hx) eds_nil)) (fun _ e' => ⟨((N.mono e0).mono e).mono e', (show Shaped n s by
        obtain ⟨hl, hall⟩ := (mem_growTo _ _ _).mp hs
        exact ⟨hl, fun f hf => by rcases mem_opts.mp (hall f hf) with ⟨_, h⟩ | ⟨_, _, h⟩ <;> omega⟩)⟩) back_D)))
      (fun s hs x H1 e hx _ => e0_var rfl (is_dA0 hx))) fun v H2 e2 r => k v H2 (e0.trans e2) (back_N _ _ _ _ e0 ?_)
    rw [feas_eq]
    exact r
/-! ## neighbours -/
abbrev s_neighbours : Stmt := topS 36
abbrev N_neighbours : List Str := ["network", "assignment", "flow", "path"]
theorem sc_neighbours : FnScope N_neighbours ["network", "assignment"] (defScope s_neighbours) := ⟨rfl, rfl, rfl, by decide +kernel, rfl, by decide +kernel, by decide +kernel⟩
abbrev sp_neighbours (C : Addr) : Sp := SpR (α := A3) (fun x H => NW C H x.1 x.2.1 ∧ Shaped x.2.1 x.2.2) (fun x => [.val (.ref x.1), dA x.2.2]) (fun x => RN ((nb x.2.1 x.2.2).map dA))
theorem cal_neighbours (T : Txt K mg C) (F : Def K mg "neighbours" s_neighbours ["network", "assignment"]) (c_moves_from : Cal P w K mg base 6 "moves_from" (sp_moves_from C)) (c_with_flow : Cal P w K mg base 1 "with_flow" sp_with_flow) : Cal P w K mg base 7 "neighbours" (sp_neighbours C) := by
  refine cal_mk F sc_neighbours (SpR.len fun _ => rfl) (fun f cdv A outer s H vs Q E hr h => ⟨_, (pss_one (ps_ret (pe_lc (own := [("flow", 2), ("path", 3)]) (g := _) (tt := tYes) rfl sc_neighbours.nd (pi_list (pe_cal c_moves_from hr (by decide) (by rfl) (pa_cons (pv 0) (pa_cons (pv 1) pa_nil)))) (blkOk_by (own := [("flow", 2), ("path", 3)]) (N := N_neighbours) (sc := defScope s_neighbours) (by decide +kernel)) (fun _ _ _ _ _ => pg_tupK (K := K) (n := 2) rfl (by rfl) (pgs_cons (pg_name (i := 2) sc_neighbours.nd rfl (Or.inl rfl)) (pgs_cons (pg_name (i := 3) sc_neighbours.nd rfl (Or.inl rfl)) pgs_nil))) (fun _ _ _ _ _ => pts_nil) (fun _ _ _ _ _ => (pe_cal c_with_flow hr (by decide) (by rfl) (pa_cons (pv 1) (pa_cons (pv 2) (pa_cons (pe_op op_add (pv 3) pe_int) pa_nil)))))))), ?_⟩)
  obtain ⟨⟨a, n, s⟩, ⟨N, S⟩, hv, k⟩ := h
  dsimp only at N S hv k
  obtain ⟨v1, v2, rfl, h1, h2⟩ := is2 hv
  cases val_eq h1
  have h15 := pmoves_le (s := s) N.wf
  have hnf := N.wf.nf
  refine r_ret (en_lcP (l := pmoves n s) (g1 := fun m => dN m.1) (g2 := fun m => dN m.2) (fun m => dA (s.set m.1 (m.2 + 1))) (EvR.ofRN (er_call (a, n, s) (eds_cons (ed_v rfl) (eds_cons (ed_var rfl h2) eds_nil)) (fun _ e => ⟨N.mono e, S⟩) back_N)) (by omega) (fun _ _ => rfl)
    (fun m hm x y H1 e hx hy => ?_)) fun v H2 e2 r => k v H2 e2 ?_
  · cases val_eq hx
    cases val_eq hy
    have hm1 := (mem_pmoves.mp hm).1
    exact er_call (s, m.1, m.2 + 1) (eds_cons (ed_var rfl (IsO.ex e h2)) (eds_cons (ed_v rfl) (eds_cons (ed_succ (ed_v rfl)) eds_nil))) (fun _ _ => ⟨show m.1 < s.length by rw [S.len]; exact hm1, show s.length ≤ 1000 by rw [S.len]; omega⟩) back_0
  · rw [nb_eq, List.map_map]
    exact r
/-! ## after_plan -/
abbrev s_after_plan : Stmt := topS 40
abbrev N_after_plan : List Str := ["assignment", "plan", "flow", "path"]
theorem sc_after_plan : FnScope N_after_plan ["assignment", "plan"] (defScope s_after_plan) := ⟨rfl, rfl, rfl, by decide +kernel, rfl, by decide +kernel, by decide +kernel⟩
def applied (s : List Nat) (p : List (Nat × Nat)) : List Nat := p.foldl (fun s m => s.set m.1 (m.2 + 1)) s
theorem applied_length (s : List Nat) : ∀ p : List (Nat × Nat), (applied s p).length = s.length := by
  intro p
  induction p generalizing s with
  | nil => rfl
  | cons m p ih =>
    show (applied (s.set m.1 (m.2 + 1)) p).length = _
    rw [ih, List.length_set]
abbrev sp_after_plan : Sp := SpR (α := List Nat × List (Nat × Nat)) (fun x _ => x.1.length ≤ 1000 ∧ ∀ m ∈ x.2, m.1 < x.1.length) (fun x => [dA x.1, .lst (x.2.map dM)]) (fun x => R0 (dA (applied x.1 x.2)))
theorem cal_after_plan (T : Txt K mg C) (F : Def K mg "after_plan" s_after_plan ["assignment", "plan"]) (c_with_flow : Cal P w K mg base 1 "with_flow" sp_with_flow) : Cal P w K mg base 2 "after_plan" sp_after_plan := by
  refine cal_mk F sc_after_plan (SpR.len fun _ => rfl) (fun f cdv A outer s H vs Q E hr h => ⟨_, (pss_cons (ps_for PassesOwn.never rfl (pi_list (pv 1)) (pg_tup (by rfl) (pgs_cons (pg_name (i := 2) sc_after_plan.nd rfl (Or.inl rfl)) (pgs_cons (pg_name (i := 3) sc_after_plan.nd rfl (Or.inl rfl)) pgs_nil)))
      (pss_one (ps_set (i := 0) sc_after_plan.nd rfl (Or.inl rfl) (pe_cal c_with_flow hr (by decide) (by rfl) (pa_cons (pv 0) (pa_cons (pv 2) (pa_cons (pe_op op_add (pv 3) pe_int) pa_nil)))))))
    (pss_one (ps_ret (pv 0)))), ?_⟩)
  obtain ⟨⟨s, p⟩, ⟨hl, hm⟩, hv, k⟩ := h
  dsimp only at hl hm hv k
  obtain ⟨v1, v2, rfl, h1, h2⟩ := is2 hv
  obtain ⟨b, us, rfl, _, hb, hus⟩ := isO_lst.mp h2
  have hlen : us.length = p.length := by rw [hus.length, List.length_map]
  refine q_forL (a := b) (xs := us) (ev_var rfl) (sq_of hb) (fun i σ' H' => ∃ v x y, σ' = [some v, some (.ref b), x, y] ∧ Ex H H' ∧ Is0 H' (dA (applied s (p.take i))) v) (fun H1 e1 => ⟨_, _, _, rfl, e1, is_dA0 (IsO.ex e1 h1)⟩) (fun i σ' H' _ ⟨_, _, _, _, e, _⟩ => sq_of (e _ _ hb)) (fun i x σ' H' hx ⟨v, y, z, hσ, e, hv⟩ => ?_) (fun σ' H' ⟨v, y, z, hσ, e, hv⟩ => ?_)
  · subst hσ
    obtain ⟨d, hd, hdx⟩ := hus.getV hx
    rw [List.getElem?_map] at hd
    obtain ⟨m, hmi, rfl⟩ := Option.map_eq_some_iff.mp hd
    refine g_two (IsO.ex e hdx) fun u1 u2 r1 r2 => ?_
    cases val_eq r1
    cases val_eq r2
    have hmm := hm m (List.mem_of_getElem? hmi)
    refine r_asg (er_call (applied s (p.take i), m.1, m.2 + 1) (eds_cons (ed_var rfl hv.all) (eds_cons (ed_v rfl) (eds_cons (ed_succ (ed_v rfl)) eds_nil))) (fun _ _ => ⟨show m.1 < _ by rw [applied_length]; exact hmm, show _ ≤ 1000 by rw [applied_length]; exact hl⟩) back_0) fun v' H1 e1 r => ⟨_, _, _, rfl, e.trans e1, ?_⟩
    have e2 : applied s (p.take (i + 1)) = (applied s (p.take i)).set m.1 (m.2 + 1) := by
      unfold applied
      rw [take_succ_get hmi, List.foldl_append]
      rfl
    rw [e2]
    exact r
  · subst hσ
    rw [hlen, List.take_length] at hv
    exact r_ret (e0_var rfl hv) fun v' H1 e1 r => k v' H1 (e.trans e1) r
end
end FL

namespace FL
open PySem PySem.Spec PyProof.Rows L2 Evl FM
open Su203 (Network Link Flow)

section
variable {K : PySem.W.Frag} {σ : L2.St} {H H' : Hp} {ta tb te tx td ty tv : TE} {v : V} {De : Ends} {tz : TS} {p : Addr} {kvs : List (List Key × V)} {s : List Nat}
/-! ### the dict of distances -/
theorem et_dnotin (hk : EvD ty σ H (dA s)) (hd : Ev td σ H (.ref p)) (hp : H p = some (.dT kvs)) : EvT (tB (tDNotIn ty td)) σ H (!(valV kvs (encK s)).isSome) := fun H1 e Q q =>
  hk H1 e _ fun v1 H2 e2 r1 => hd H2 (e.trans e2) _ fun H3 e3 => by
    obtain ⟨b, rfl, hb⟩ := isO_dA.mp r1
    exact ⟨p, _, rfl, DGet.t (((e.trans e2).trans e3) _ _ hp) (k := encK s) (by rw [encK_kV]; exact e3 _ _ hb), _, rfl, q H3 (e2.trans e3)⟩
theorem ed_dget (hd : Ev td σ H (.ref p)) (hk : EvD ty σ H (dA s)) (hp : H p = some (.dT kvs)) (h : valV kvs (encK s) = some v) : EvD (tDGet td ty) σ H (.val v) := fun H1 e Q q =>
  hd H1 e _ fun H2 e2 => hk H2 (e.trans e2) _ fun v1 H3 e3 r1 => by
    obtain ⟨b, rfl, hb⟩ := isO_dA.mp r1
    refine ⟨p, v, rfl, ?_, q v H3 (e2.trans e3) (isO_of_val v)⟩
    rw [← h]
    exact DGet.t (((e.trans e2).trans e3) _ _ hp) (k := encK s) (by rw [encK_kV]; exact hb)
theorem sq_dput (hv : Ev tv σ H v) (hd : Ev td σ H (.ref p)) (hk : EvD ty σ H (dA s)) (hp : H p = some (.dT kvs)) (hl : kvs.length ≤ 1000000) (k : ∀ H1, Ex H H1 → tz De σ (upd H1 p (.dT (putK kvs (encK s) v)))) : tSeq (sDPut td ty tv) tz De σ H :=
  hv H (Ex.refl H) _ fun H1 e1 => hd H1 e1 _ fun H2 e2 => hk H2 (e1.trans e2) _ fun v1 H3 e3 r1 => by
    obtain ⟨b, rfl, hb⟩ := isO_dA.mp r1
    have e := (e1.trans e2).trans e3
    exact ⟨p, _, rfl, DPut.t (e _ _ hp) (k := encK s) (by rw [encK_kV]; exact hb) (by rw [sizeLine_eq]; omega), k H3 e⟩
end
theorem encD_append (l m : List (List Nat × Nat)) : encD (l ++ m) = encD l ++ encD m := by unfold encD; rw [List.map_append]
theorem encD_snoc (l : List (List Nat × Nat)) (s : List Nat) (k : Nat) : encD l ++ [(encK s, vN k)] = encD (l ++ [(s, k)]) := (encD_append l [(s, k)]).symm
theorem encD_len (l : List (List Nat × Nat)) : (encD l).length = l.length := List.length_map _
theorem fresh_le (ks l : List (List Nat)) : (fresh ks l).length ≤ l.length := List.Nodup.length_le_of_subset (fresh_nodup ks l) fun x hx => (mem_fresh.mp hx).1
/-- the table of distances from some assignments, new -/
def RDist (n : Network) (ts : List (List Nat)) : Hp → V → Hp → Prop := fun H1 v H2 => ∃ K p, pl n ts K = [] ∧ v = .ref p ∧ H1 p = none ∧ H2 p = some (.dT (encD (kn n ts K)))
theorem back_Dist {n : Network} {ts : List (List Nat)} : Back (RDist n ts) := fun _ _ _ _ e h => by
  obtain ⟨K, p, h0, h1, h2, h3⟩ := h
  exact ⟨K, p, h0, h1, fresh_back e h2, h3⟩
structure Tgt (n : Network) (ts : List (List Nat)) : Prop where
  nd : ts.Nodup
  cand : ∀ x ∈ ts, Cand n x
  few : ts.length ≤ 243
section
variable {P : Program} {w : World} {K : PySem.W.Frag} {mg : Str → Option Value} {base : Heap} {C : Addr}
abbrev AT := Addr × Network × List (List Nat)
/-! ## distances -/
abbrev s_distances : Stmt := topS 37
abbrev N_distances : List Str := ["network", "begin", "known", "layer", "steps", "further", "one"]
theorem sc_distances : FnScope N_distances ["network", "begin"] (defScope s_distances) := ⟨rfl, rfl, rfl, by decide +kernel, rfl, by decide +kernel, by decide +kernel⟩
abbrev sp_distances (C : Addr) : Sp := SpR (α := AT) (fun x H => NW C H x.1 x.2.1 ∧ Tgt x.2.1 x.2.2) (fun x => [.val (.ref x.1), .lst (x.2.2.map dA)]) (fun x => RDist x.2.1 x.2.2)
theorem cal_distances (T : Txt K mg C) (F : Def K mg "distances" s_distances ["network", "begin"]) (c_neighbours : Cal P w K mg base 7 "neighbours" (sp_neighbours C)) : Cal P w K mg base 8 "distances" (sp_distances C) := by
  refine cal_mk F sc_distances (SpR.len fun _ => rfl) (fun f cdv A outer s H vs Q E hr h => ⟨_, (pss_cons (ps_set (i := 2) sc_distances.nd rfl (Or.inl rfl) pe_dnewT)
    (pss_cons (ps_set (i := 3) sc_distances.nd rfl (Or.inl rfl) (pe_callTy call_list_of (by rfl) T.list (by decide +kernel) (pa_cons (pv 1) pa_nil)))
    (pss_cons (ps_set (i := 4) sc_distances.nd rfl (Or.inl rfl) pe_int)
    (pss_cons (ps_while PassesOwn.never (pt_cmpR (op_neD hr.units) (pv 3) (pe_lst pa_nil) (nomark _))
      (pss_cons (ps_set (i := 5) sc_distances.nd rfl (Or.inl rfl) (pe_lst pa_nil))
      (pss_cons (ps_for PassesOwn.never rfl (pi_list (pv 3)) (pg_name (i := 6) sc_distances.nd rfl (Or.inl rfl))
        (pss_one (ps_if (pt_cmp (pc_dnotin (hu_of hr) (pv 6) (pv 2)))
          (pss_cons (ps_dput (hu_of hr) (pv 2) (pv 6) (pv 4) rfl)
          (pss_one (ps_expr (pe_bm PySem.F.plainAttrs_list PySem.F.slot_list_extend PySem.F.type_list_extend mt_extend (pv 5) (pa_cons (pe_cal c_neighbours hr (by decide) (by rfl) (pa_cons (pv 0) (pa_cons (pv 6) pa_nil))) pa_nil)))))
          pss_nil)))
      (pss_cons (ps_set (i := 3) sc_distances.nd rfl (Or.inl rfl) (pv 5))
      (pss_one (ps_set (i := 4) sc_distances.nd rfl (Or.inl rfl) (pe_op op_add (pv 4) pe_int)))))))
    (pss_one (ps_ret (pv 2))))))), ?_⟩)
  obtain ⟨⟨a, n, ts⟩, ⟨N, G⟩, hv, kq⟩ := h
  dsimp only at N G hv kq
  obtain ⟨v1, v2, rfl, h1, h2⟩ := is2 hv
  cases val_eq h1
  obtain ⟨bg, us, rfl, _, hbg, hus⟩ := isO_lst.mp h2
  have hus0 : Is0L H (ts.map dA) us := by
    clear hbg h2 hv kq G
    induction ts generalizing us with
    | nil => rw [isOL_nil.mp hus]; exact IsOL.nil
    | cons t ts ih =>
      obtain ⟨v, r, rfl, q1, q2⟩ := isOL_cons.mp hus
      exact IsOL.cons (is_dA0 q1) (ih r q2)
  intro d hd
  have e1 : Ex H (upd H d (.dT [])) := Ex.new hd
  refine q_asgL (el_list (ev_var rfl) (sq_of (e1 _ _ hbg))) fun l H2 hl e2 hl2 => ?_
  refine q_asg ev_c fun H3 e3 => ?_
  have hd3 : H3 d = some (.dT (encD (kn n ts 0))) := e3 _ _ (e2 _ _ upd_same)
  have e13 := (e1.trans e2).trans e3
  have h243 := feas_243 N.wf
  refine q_while (fun m σ' H' => ∃ k l vs x5 x6, m = 300 - k ∧ k ≤ 250 ∧ σ' = [some (.ref a), some (.ref bg), some (.ref d), some (.ref l), some (vN k), x5, x6] ∧ Ex H H' ∧ H' d = some (.dT (encD (kn n ts k))) ∧ H' l = some (.lst vs) ∧ Is0L H' ((pl n ts k).map dA) vs) 300
    ⟨0, l, us, _, _, rfl, by decide, rfl, e13, hd3, e3 _ _ hl2, IsOL.ex e13 hus0⟩ (fun m σ' H' ⟨k, l, vs, x5, x6, hm, hk, hσ, eH, hdk, hlk, hvs⟩ => ⟨_, et_test (ev_neNil (ss := pl n ts k) (by subst hσ; exact ed_var rfl (isO_lst.mpr ⟨l, vs, rfl, True.intro, hlk, hvs.all⟩))), fun hb H4 e4 => ?_, fun hb H4 e4 => ?_⟩)
  · subst hσ
    have hne : pl n ts k ≠ [] := fun z => by rw [z] at hb; cases hb
    have hk3 : k ≤ 243 := by
      rcases Nat.lt_or_ge k (n.feasibleAssignments.length + 1) with z | z
      · omega
      · exact absurd (pl_stop G.nd G.cand z) hne
    refine ⟨fun σ2 H2 => ∃ l vs x5 x6, σ2 = [some (.ref a), some (.ref bg), some (.ref d), some (.ref l), some (vN (k + 1)), x5, x6] ∧ Ex H H2 ∧ H2 d = some (.dT (encD (kn n ts (k + 1)))) ∧ H2 l = some (.lst vs) ∧ Is0L H2 ((pl n ts (k + 1)).map dA) vs,
      fun σ2 H2 ⟨l, vs, x5, x6, q1, q2, q3, q4, q5⟩ => ⟨300 - (k + 1), by omega, k + 1, l, vs, x5, x6, rfl, by omega, q1, q2, q3, q4, q5⟩, ?_⟩
    refine rq_asg en_nil fun v H5 e5 r5 => ?_
    obtain ⟨Fd, rfl, L5⟩ := lw_of r5 e5
    have e45 := e4.trans e5
    have hlen : vs.length = (pl n ts k).length := by rw [hvs.length, List.length_map]
    have hFl : Fd ≠ l := fun z => by
      obtain ⟨q, _⟩ := L5
      rw [z, e4 _ _ hlk] at q
      cases q
    have hpl := pl_le (k := k) G.nd G.cand N.wf G.few
    have hkn := kn_le (k := k) G.nd G.cand N.wf
    refine q_forL (a := l) (xs := vs) (ev_var rfl) (sq_of (e45 _ _ hlk)) (fun j σ' H' => ∃ x6, σ' = [some (.ref a), some (.ref bg), some (.ref d), some (.ref l), some (vN k), some (.ref Fd), x6] ∧ H' d = some (.dT (encD (kn n ts k ++ (fresh (keys (kn n ts k)) ((pl n ts k).take j)).map fun s => (s, k)))) ∧ H' l = some (.lst vs) ∧ Is0L H' ((pl n ts k).map dA) vs ∧ Lw H (((fresh (keys (kn n ts k)) ((pl n ts k).take j)).flatMap (nb n)).map dA) Fd H')
      (fun H6 e6 => ⟨_, rfl, by rw [List.take_zero]; rw [show fresh (keys (kn n ts k)) [] = [] from rfl, List.map_nil, List.append_nil]; exact (e45.trans e6) _ _ hdk, (e45.trans e6) _ _ hlk, IsOL.ex (e45.trans e6) hvs, (L5.back (eH.trans e4)).mono e6⟩)
      (fun j σ' H' _ ⟨_, _, _, q, _⟩ => sq_of q) (fun j x σ' H6 hx ⟨x6, hσ, hdj, hlj, hvj, Lj⟩ => ?_) (fun σ' H6 ⟨x6, hσ, hdj, hlj, hvj, Lj⟩ => ?_)
    · subst hσ
      obtain ⟨dd, hdd, hdx⟩ := hvj.getV hx
      rw [List.getElem?_map] at hdd
      obtain ⟨s, hs, rfl⟩ := Option.map_eq_some_iff.mp hdd
      have hfl := fresh_le (keys (kn n ts k)) ((pl n ts k).take j)
      have htl : ((pl n ts k).take j).length ≤ (pl n ts k).length := by rw [List.length_take]; omega
      have hkeys : ∀ l : List (List Nat × Nat), s ∉ keys l ↔ look l s = none := fun l => look_none.symm
      have hkk : keys (kn n ts k ++ (fresh (keys (kn n ts k)) ((pl n ts k).take j)).map fun s => (s, k)) = keys (kn n ts k) ++ fresh (keys (kn n ts k)) ((pl n ts k).take j) := by
        unfold keys
        rw [List.map_append, List.map_map]
        simp [Function.comp_def]
      have hdF : d ≠ Fd := fun z => by
        obtain ⟨_, _, _, q, _⟩ := Lj
        rw [← z, hdj] at q
        cases q
      refine s_when (et_dnotin (s := s) (ed_var rfl hdx.all) (ev_var rfl) hdj) (fun hb H7 e7 => ?_) (fun hb H7 e7 => ?_)
      · rw [encD_look, Option.isSome_map, Bool.not_eq_true', Option.isSome_eq_false_iff, Option.isNone_iff_eq_none, ← hkeys, hkk, List.mem_append, not_or] at hb
        have hfr : fresh (keys (kn n ts k)) ((pl n ts k).take (j + 1)) = fresh (keys (kn n ts k)) ((pl n ts k).take j) ++ [s] := by
          rw [take_succ_get hs, fresh_snoc, if_neg]
          rintro (z | z)
          · exact hb.1 z
          · exact hb.2 (mem_fresh.mpr ⟨z, hb.1⟩)
        refine sq_dput (s := s) (ev_var rfl) (ev_var rfl) (ed_var rfl (IsO.ex e7 hdx.all)) (e7 _ _ hdj) (by rw [encD_len, List.length_append, List.length_map]; omega) fun H8 e8 => ?_
        have e78 := e7.trans e8
        have tx8 : Tx H8 (upd H8 d (.dT (putK (encD (kn n ts k ++ (fresh (keys (kn n ts k)) ((pl n ts k).take j)).map fun s => (s, k))) (encK s) (vN k)))) := Tx.upd fun xs z => by rw [e78 _ _ hdj] at z; cases z
        have L8 := lw_upd (o := .dT (putK (encD (kn n ts k ++ (fresh (keys (kn n ts k)) ((pl n ts k).take j)).map fun s => (s, k))) (encK s) (vN k))) (Lj.mono e78) hdF hd (fun xs z => by rw [e78 _ _ hdj] at z; cases z)
        have hdx8 := IsO.tx tx8 (IsO.ex e78 hdx)
        have hSh : Shaped n s := by
          rcases Nat.eq_zero_or_pos k with rfl | hk0
          · exact (G.cand s (List.mem_of_getElem? hs)).sh
          · obtain ⟨k', rfl⟩ : ∃ k', k = k' + 1 := ⟨k - 1, by omega⟩
            obtain ⟨y, hy, hys⟩ := List.mem_flatMap.mp (List.mem_of_getElem? hs)
            exact (cand_nb (lay_cand G.cand k' y hy) hys).sh
        have h15 := nb_le (s := s) N.wf
        have hfm := flatMap_le 15 (nb n) (fresh (keys (kn n ts k)) ((pl n ts k).take j)) fun x _ => nb_le N.wf
        refine lw_ext (es := (nb n s).map dA) L8 (ev_var rfl) (el0_N (er_call (a, n, s) (eds_cons (ed_v rfl) (eds_cons (ed_var rfl hdx8.all) eds_nil)) (fun _ e => ⟨(N.mono L8.ex).mono e, hSh⟩) back_N)) (by rw [List.length_map, List.length_map]; omega) fun H9 ⟨tx9, xb9⟩ L9 => ⟨_, rfl, ?_, ?_, IsOL.tx (tx8.trans tx9) (IsOL.ex e78 hvj), ?_⟩
        · rw [xb9 _ _ hdF upd_same, putK_new _ (by rw [encD_look, look_none.mpr (by rw [hkk, List.mem_append, not_or]; exact hb)]; rfl), hfr, List.map_append, ← List.append_assoc]
          exact congrArg (fun z => some (HO.dT z)) (encD_snoc _ s k)
        · exact xb9 _ _ (Ne.symm hFl) (by
            have : l ≠ d := fun z => by rw [z, hdj] at hlj; cases hlj
            rw [upd_ne this]
            exact e78 _ _ hlj)
        · rw [hfr, List.flatMap_append, List.flatMap_singleton, List.map_append]
          exact L9
      · rw [encD_look, Option.isSome_map, Bool.not_eq_false'] at hb
        have hin : s ∈ keys (kn n ts k) ∨ s ∈ (pl n ts k).take j := by
          have z : s ∈ keys (kn n ts k ++ (fresh (keys (kn n ts k)) ((pl n ts k).take j)).map fun s => (s, k)) := by
            refine Classical.byContradiction fun z => ?_
            rw [look_none.mpr z] at hb
            cases hb
          rw [hkk, List.mem_append] at z
          rcases z with z | z
          · exact .inl z
          · exact .inr (mem_fresh.mp z).1
        have hfr : fresh (keys (kn n ts k)) ((pl n ts k).take (j + 1)) = fresh (keys (kn n ts k)) ((pl n ts k).take j) := by
          rw [take_succ_get hs, fresh_snoc, if_pos hin, List.append_nil]
        refine ⟨_, rfl, ?_, e7 _ _ hlj, IsOL.ex e7 hvj, ?_⟩
        · rw [hfr]
          exact e7 _ _ hdj
        · rw [hfr]
          exact Lj.mono e7
    · subst hσ
      rw [hlen, List.take_length, fresh_lay G.nd k] at hdj Lj
      refine q_asg (ev_var rfl) fun H7 e7 => ?_
      refine r_asg (ed_succ (i := k) (ed_v rfl)) fun v H8 e8 r8 => ?_
      cases val_eq r8
      obtain ⟨_, eL, ws, hF, hws⟩ := Lj.mono (e7.trans e8)
      exact ⟨Fd, ws, _, _, rfl, eL, (e7.trans e8) _ _ hdj, hF, hws⟩
  · subst hσ
    have hnil : pl n ts k = [] := by
      cases z : pl n ts k with
      | nil => rfl
      | cons x y => rw [z] at hb; cases hb
    refine s_ret (ev_var rfl) fun H5 e5 => kq _ H5 ((eH.trans e4).trans e5) ⟨_, d, hnil, rfl, hd, e5 _ _ (e4 _ _ hdk)⟩
end
end FL

namespace FL
open PySem PySem.Spec PyProof.Rows L2 Evl FM
open Su203 (Network Link Flow)

section
variable {P : Program} {w : World} {K : PySem.W.Frag} {mg : Str → Option Value} {base : Heap} {C : Addr}
/-! ## first_closer -/
abbrev s_first_closer : Stmt := topS 38
abbrev N_first_closer : List Str := ["network", "assignment", "known", "flow", "path"]
theorem sc_first_closer : FnScope N_first_closer ["network", "assignment", "known"] (defScope s_first_closer) := ⟨rfl, rfl, rfl, by decide +kernel, rfl, by decide +kernel, by decide +kernel⟩
structure AC where
  a : Addr
  n : Network
  s : List Nat
  pd : Addr
  l : List (List Nat × Nat)
  d : Nat
  m : Nat × Nat
structure PreC (C : Addr) (x : AC) (H : Hp) : Prop where
  nw : NW C H x.a x.n
  sh : Shaped x.n x.s
  at_ : H x.pd = some (.dT (encD x.l))
  dist : look x.l x.s = some (x.d + 1)
  known : ∀ t ∈ nb x.n x.s, ∃ e, look x.l t = some e
  is : closer x.n x.l x.s x.d = some x.m
abbrev sp_first_closer (C : Addr) : Sp := SpR (α := AC) (PreC C) (fun x => [.val (.ref x.a), dA x.s, .val (.ref x.pd)]) (fun x => R0 (dM x.m))
theorem cal_first_closer (T : Txt K mg C) (F : Def K mg "first_closer" s_first_closer ["network", "assignment", "known"]) (c_moves_from : Cal P w K mg base 6 "moves_from" (sp_moves_from C)) (c_with_flow : Cal P w K mg base 1 "with_flow" sp_with_flow) : Cal P w K mg base 7 "first_closer" (sp_first_closer C) := by
  refine cal_mk F sc_first_closer (SpR.len fun _ => rfl) (fun f cdv A outer s H vs Q E hr h => ⟨_, (pss_cons (ps_for PassesOwn.never rfl (pi_list (pe_cal c_moves_from hr (by decide) (by rfl) (pa_cons (pv 0) (pa_cons (pv 1) pa_nil)))) (pg_tup (by rfl) (pgs_cons (pg_name (i := 3) sc_first_closer.nd rfl (Or.inl rfl)) (pgs_cons (pg_name (i := 4) sc_first_closer.nd rfl (Or.inl rfl)) pgs_nil)))
      (pss_one (ps_if (pt_cmpR op_eq (pe_dget (hu_of hr) (pv 2) (pe_cal c_with_flow hr (by decide) (by rfl) (pa_cons (pv 1) (pa_cons (pv 3) (pa_cons (pe_op op_add (pv 4) pe_int) pa_nil)))) (fun _ _ => rfl)) (pe_op op_sub (pe_dget (hu_of hr) (pv 2) (pv 1) (fun _ _ => rfl)) pe_int) (nomark _))
        (pss_one (ps_ret (pe_tup (pa_cons (pv 3) (pa_cons (pv 4) pa_nil)))))
        pss_nil)))
    (pss_one (ps_ret pe_non))), ?_⟩)
  obtain ⟨⟨a, n, s, pd, l, d, m⟩, ⟨N, S, hpd, hdist, hkn, hm⟩, hv, k⟩ := h
  dsimp only at N S hpd hdist hkn hm hv k
  obtain ⟨v1, v2, v3, rfl, h1, h2, h3⟩ := is3 hv
  cases val_eq h1
  cases val_eq h3
  have hnf := N.wf.nf
  refine wq_list (EvR.ofRN (er_call (a, n, s) (eds_cons (ed_v rfl) (eds_cons (ed_var rfl h2) eds_nil)) (fun _ e => ⟨N.mono e, S⟩) back_N)) (fun i σ' => ∃ x y, σ' = [some (.ref a), some v2, some (.ref pd), x, y] ∧ ∀ j m', j < i → (pmoves n s)[j]? = some m' → look l (s.set m'.1 (m'.2 + 1)) ≠ some d)
    ⟨_, _, rfl, fun j m' hj => absurd hj (Nat.not_lt_zero j)⟩ (fun i dd x σ' H' hi ⟨y, z, hσ, hall⟩ e1 hx Nx hN => ?_) (fun σ' H' ⟨y, z, hσ, hall⟩ e1 => ?_)
  · subst hσ
    rw [List.getElem?_map] at hi
    obtain ⟨m', hmi, rfl⟩ := Option.map_eq_some_iff.mp hi
    have hmem := List.mem_of_getElem? hmi
    have hm1 := (mem_pmoves.mp hmem).1
    refine g_two hx fun u1 u2 r1 r2 => ?_
    cases val_eq r1
    cases val_eq r2
    obtain ⟨e, he⟩ := hkn (s.set m'.1 (m'.2 + 1)) (by rw [nb_eq]; exact List.mem_map.mpr ⟨m', hmem, rfl⟩)
    refine s_when (et_eq (i := e) (j := d) (ed_dget (s := s.set m'.1 (m'.2 + 1)) (ev_var rfl) (EvR.ofR0 (er_call (s, m'.1, m'.2 + 1) (eds_cons (ed_var rfl (IsO.ex e1 h2)) (eds_cons (ed_v rfl) (eds_cons (ed_succ (ed_v rfl)) eds_nil))) (fun _ _ => ⟨show m'.1 < s.length by rw [S.len]; exact hm1, show s.length ≤ 1000 by rw [S.len]; omega⟩) back_0)) (e1 _ _ hpd) (by rw [encD_look, he]; rfl))
      (ed_pred (i := d + 1) (by omega) (ed_dget (s := s) (ev_var rfl) (ed_var rfl (IsO.ex e1 h2)) (e1 _ _ hpd) (by rw [encD_look, hdist]; rfl))) rfl) (fun hb H2 e2 => ?_) (fun hb H2 e2 => ?_)
    · have hed := of_decide_eq_true hb
      subst hed
      refine r_ret (e0_tup2 (ed_v rfl) (ed_v rfl)) fun v H3 e3 r => k v H3 ((e1.trans e2).trans e3) ?_
      have hmm : m = m' := by
        have : closer n l s e = some m' := by
          unfold closer
          (rw [List.find?_eq_some_iff_getElem])
          obtain ⟨hil, hig⟩ := List.getElem?_eq_some_iff.mp hmi
          refine ⟨by rw [he]; exact beq_self_eq_true _, i, hil, hig, fun j hj => ?_⟩
          have := hall j _ hj (List.getElem?_eq_getElem (Nat.lt_trans hj (show i < (pmoves n s).length from hil)))
          rw [Bool.not_eq_true', beq_eq_false_iff_ne]
          exact this
        rw [this] at hm
        exact (Option.some.inj hm).symm
      rw [hmm]
      exact r
    · have hed := of_decide_eq_false hb
      refine hN _ _ ⟨_, _, rfl, fun j m2 hj hm2 => ?_⟩ e2
      by_cases hji : j = i
      · subst hji
        rw [hmi] at hm2
        cases hm2
        rw [he]
        exact fun z => hed (Option.some.inj z)
      · exact hall j m2 (by omega) hm2
  · exfalso
    obtain ⟨hmem, hl⟩ := closer_is hm
    obtain ⟨j, hj⟩ := List.getElem?_of_mem hmem
    exact hall j m (by rw [List.length_map]; exact (List.getElem?_eq_some_iff.mp hj).1) hj hl
/-! ## shortest_plan -/
abbrev s_shortest_plan : Stmt := topS 39
abbrev N_shortest_plan : List Str := ["network", "targets", "known", "here", "plan", "turn", "flow", "path"]
theorem sc_shortest_plan : FnScope N_shortest_plan ["network", "targets"] (defScope s_shortest_plan) := ⟨rfl, rfl, rfl, by decide +kernel, rfl, by decide +kernel, by decide +kernel⟩
/-- the plan as the program has it: none, or flows and paths -/
def planP (n : Network) (ts : List (List Nat)) : Option (List (Nat × Nat)) := (n.plan ts).map fun p => p.map fun m => (m.1, m.2 - 1)
def RPlan (p : Option (List (Nat × Nat))) : Hp → V → Hp → Prop := fun H1 v H2 => match p with
  | none => v = .non
  | some l => RN (l.map dM) H1 v H2
theorem back_Plan {p : Option (List (Nat × Nat))} : Back (RPlan p) := fun H1 H2 v H3 e h => by
  cases p with
  | none => exact h
  | some l => exact back_N H1 H2 v H3 e h
theorem planP_eq {n : Network} {ts : List (List Nat)} (G : Tgt n ts) {K : Nat} (hK : lay n ts K = []) : planP n ts = (look (kn n ts K) n.assignment).map fun d => pplan n (kn n ts K) d n.assignment := by
  unfold planP Network.plan
  simp only
  rw [dist_eq G.nd G.cand hK, Option.map_map]
  congr 1
  funext d
  show ((n.planFrom (n.layers ts) d n.assignment).map fun m => (m.1, m.2 - 1)) = _
  rw [planFrom_eq G.nd G.cand hK, List.map_map]
  have : ((fun m : Nat × Nat => (m.1, m.2 - 1)) ∘ fun m : Nat × Nat => (m.1, m.2 + 1)) = id := by
    funext m
    rfl
  rw [this, List.map_id]
abbrev sp_shortest_plan (C : Addr) : Sp := SpR (α := AT) (fun x H => NW C H x.1 x.2.1 ∧ Tgt x.2.1 x.2.2) (fun x => [.val (.ref x.1), .lst (x.2.2.map dA)]) (fun x => RPlan (planP x.2.1 x.2.2))
theorem cal_shortest_plan (T : Txt K mg C) (F : Def K mg "shortest_plan" s_shortest_plan ["network", "targets"]) (c_distances : Cal P w K mg base 8 "distances" (sp_distances C)) (c_first_closer : Cal P w K mg base 7 "first_closer" (sp_first_closer C)) (c_with_flow : Cal P w K mg base 1 "with_flow" sp_with_flow) : Cal P w K mg base 9 "shortest_plan" (sp_shortest_plan C) := by
  refine cal_mk F sc_shortest_plan (SpR.len fun _ => rfl) (fun f cdv A outer s H vs Q E hr h => ⟨_, (pss_cons (ps_set (i := 2) sc_shortest_plan.nd rfl (Or.inl rfl) (pe_cal c_distances hr (by decide) (by rfl) (pa_cons (pv 0) (pa_cons (pv 1) pa_nil))))
    (pss_cons (ps_set (i := 3) sc_shortest_plan.nd rfl (Or.inl rfl) (pe_fld (pv 0) rfl))
    (pss_cons (ps_if (pt_cmp (pc_dnotin (hu_of hr) (pv 3) (pv 2)))
      (pss_one (ps_ret pe_non))
      pss_nil)
    (pss_cons (ps_set (i := 4) sc_shortest_plan.nd rfl (Or.inl rfl) (pe_lst pa_nil))
    (pss_cons (ps_for PassesOwn.never rfl (pi_range1 (by rfl) T.range (pa_cons (pe_dget (hu_of hr) (pv 2) (pv 3) (fun _ _ => rfl)) pa_nil)) (pg_name (i := 5) sc_shortest_plan.nd rfl (Or.inl rfl))
      (pss_cons (ps_asg (pe_cal c_first_closer hr (by decide) (by rfl) (pa_cons (pv 0) (pa_cons (pv 3) (pa_cons (pv 2) pa_nil)))) (pg_tup (by rfl) (pgs_cons (pg_name (i := 6) sc_shortest_plan.nd rfl (Or.inl rfl)) (pgs_cons (pg_name (i := 7) sc_shortest_plan.nd rfl (Or.inl rfl)) pgs_nil))))
      (pss_cons (ps_expr (pe_bm PySem.F.plainAttrs_list PySem.F.slot_list_append PySem.F.type_list_append mt_append (pv 4) (pa_cons (pe_tup (pa_cons (pv 6) (pa_cons (pv 7) pa_nil))) pa_nil)))
      (pss_one (ps_set (i := 3) sc_shortest_plan.nd rfl (Or.inl rfl) (pe_cal c_with_flow hr (by decide) (by rfl) (pa_cons (pv 3) (pa_cons (pv 6) (pa_cons (pe_op op_add (pv 7) pe_int) pa_nil)))))))))
    (pss_one (ps_ret (pv 4)))))))), ?_⟩)
  obtain ⟨⟨a, n, ts⟩, ⟨N, G⟩, hv, kq⟩ := h
  dsimp only at N G hv kq
  obtain ⟨v1, v2, rfl, h1, h2⟩ := is2 hv
  cases val_eq h1
  have hnf := N.wf.nf
  refine rq_asg (er_call (a, n, ts) (eds_cons (ed_v rfl) (eds_cons (ed_var rfl h2) eds_nil)) (fun _ e => ⟨N.mono e, G⟩) back_Dist) fun v H1 e1 r1 => ?_
  obtain ⟨Kn, pd, hpl, rfl, hpn, hpd⟩ := r1
  have hK := lay_of_pl G.nd hpl
  rw [planP_eq G hK] at kq
  refine rq_asg (ed_asg T (N.net.mono e1) rfl) fun vh H2 e2 r2 => ?_
  refine q_when (et_dnotin (s := n.assignment) (ed_var rfl r2) (ev_var rfl) (e2 _ _ hpd)) (fun hb H3 e3 => ?_) (fun hb H3 e3 => ?_)
  · rw [encD_look, Option.isSome_map, Bool.not_eq_true', Option.isSome_eq_false_iff, Option.isNone_iff_eq_none] at hb
    refine s_ret ev_c fun H4 e4 => kq _ H4 (((e1.trans e2).trans e3).trans e4) ?_
    rw [hb]
    rfl
  · rw [encD_look, Option.isSome_map, Bool.not_eq_false', Option.isSome_iff_exists] at hb
    obtain ⟨d, hd⟩ := hb
    rw [hd] at kq
    have e13 := (e1.trans e2).trans e3
    have hkn := kn_le (k := Kn) G.nd G.cand N.wf
    have hdK : d < 300 := by
      obtain ⟨h1, h2⟩ := look_some hd
      have h243 := feas_243 N.wf
      rcases Nat.lt_or_ge d (n.feasibleAssignments.length) with z | z
      · omega
      · rw [lay_stop G.nd G.cand z] at h1
        cases h1
    refine rq_asg en_nil fun v H4 e4 r4 => ?_
    obtain ⟨Pl, rfl, L4⟩ := lw_of r4 e4
    have hpd3 : H3 pd = some (.dT (encD (kn n ts Kn))) := (e2.trans e3) _ _ hpd
    have hPp : pd ≠ Pl := fun z => by
      obtain ⟨q, _⟩ := L4
      rw [← z, hpd3] at q
      cases q
    refine q_forR1 (n := (d : Int)) (eva_1 (n := (d : Int)) (ed_dget (s := n.assignment) (ev_var rfl) (ed_var rfl (IsO.ex (e3.trans e4) r2)) (e4 _ _ hpd3) (by rw [encD_look, hd]; rfl))) ⟨by omega, by omega⟩
      (fun i σ' H' => ∃ sh vh x5 x6 x7 done, σ' = [some (.ref a), some v2, some (.ref pd), some vh, some (.ref Pl), x5, x6, x7] ∧ Is0 H' (dA sh) vh ∧ Lw H (done.map dM) Pl H' ∧ H' pd = some (.dT (encD (kn n ts Kn))) ∧ Cand n sh ∧ look (kn n ts Kn) sh = some (d - i) ∧ done.length = i ∧ pplan n (kn n ts Kn) d n.assignment = done ++ pplan n (kn n ts Kn) (d - i) sh)
      (fun H5 e5 => ⟨n.assignment, vh, _, _, _, [], rfl, is_dA0 (IsO.ex ((e3.trans e4).trans e5) r2), (L4.back e13).mono e5, (e4.trans e5) _ _ hpd3, N.wf.cand, hd, rfl, rfl⟩) (fun i σ' H' hi ⟨sh, vh, x5, x6, x7, done, hσ, hvh, L, hp, hc, hl, hdl, hpp⟩ => ?_) (fun σ' H' ⟨sh, vh, x5, x6, x7, done, hσ, hvh, L, hp, hc, hl, hdl, hpp⟩ => ?_)
    · subst hσ
      have hi' : i < d := by omega
      obtain ⟨dd, hdd⟩ : ∃ dd, d - i = dd + 1 := ⟨d - i - 1, by omega⟩
      rw [hdd] at hl hpp
      obtain ⟨m, hm⟩ := closer_some N.wf G.nd G.cand hl
      have hmi := closer_is hm
      have hm1 := (mem_pmoves.mp hmi.1).1
      have e0 := L.ex
      refine rq_asgG (er_call (⟨a, n, sh, pd, kn n ts Kn, dd, m⟩ : AC) (eds_cons (ed_v rfl) (eds_cons (ed_var rfl hvh.all) (eds_cons (ed_v rfl) eds_nil))) (fun _ e => ⟨(N.mono e0).mono e, hc.sh, e _ _ hp, hl, fun t ht => look_nb G.nd hpl hl ht, hm⟩) back_0) fun v5 H5 e5 r5 => ?_
      refine g_two r5 fun u1 u2 q1 q2 => ?_
      cases val_eq q1
      cases val_eq q2
      refine lwq_app (d := dM m) (L.mono e5) (ev_var rfl) (e0_tup2 (ed_v rfl) (ed_v rfl)) (by rw [List.length_map]; omega) fun H6 ⟨tx6, xb6⟩ L6 => ?_
      refine r_asg (er_call (sh, m.1, m.2 + 1) (eds_cons (ed_var rfl (IsO.tx tx6 (IsO.ex e5 hvh)).all) (eds_cons (ed_v rfl) (eds_cons (ed_succ (ed_v rfl)) eds_nil))) (fun _ _ => ⟨show m.1 < sh.length by rw [hc.sh.len]; exact hm1, show sh.length ≤ 1000 by rw [hc.sh.len]; omega⟩) back_0) fun v7 H7 e7 r7 => ?_
      refine ⟨sh.set m.1 (m.2 + 1), v7, _, _, _, done ++ [m], rfl, r7, ?_, e7 _ _ (xb6 _ _ hPp (e5 _ _ hp)), cand_pm hc hmi.1, ?_, by rw [List.length_append, hdl]; rfl, ?_⟩
      · rw [List.map_append]
        exact L6.mono e7
      · have : d - (i + 1) = dd := by omega
        rw [this]
        exact hmi.2
      · have : d - (i + 1) = dd := by omega
        rw [this, hpp, pplan, hm, List.append_assoc]
        rfl
    · subst hσ
      have hT : ((d : Int)).toNat = d := by omega
      rw [hT, Nat.sub_self] at hpp
      rw [pplan, List.append_nil] at hpp
      refine s_ret (ev_var rfl) fun H5 e5 => lw_ret (L.mono e5) fun v H6 e6 r => kq v H6 e6 ?_
      show RN ((pplan n (kn n ts Kn) d n.assignment).map dM) H v H6
      rw [hpp]
      exact r
/-! ## reachable -/
abbrev s_reachable : Stmt := topS 41
abbrev N_reachable : List Str := ["network"]
theorem sc_reachable : FnScope N_reachable ["network"] (defScope s_reachable) := ⟨rfl, rfl, rfl, by decide +kernel, rfl, by decide +kernel, by decide +kernel⟩
theorem tgt_one {n : Network} {s : List Nat} (h : Cand n s) : Tgt n [s] := ⟨by simp, fun x hx => by rw [List.mem_singleton.mp hx]; exact h, (by show 1 ≤ 243; decide)⟩
abbrev sp_reachable (C : Addr) : Sp := SpR (α := AW) (fun x H => NW C H x.1 x.2) (fun x => [.val (.ref x.1)]) (fun x => RN (x.2.reachable.map dA))
theorem isKeys_D {H : Hp} : ∀ (l : List (List Nat × Nat)) (bs : List Addr), IsKeys H (encD l) bs → Is0L H ((keys l).map dA) (bs.map V.ref)
  | [], bs, h => by
    cases h
    exact IsOL.nil
  | p :: l, bs, h => by
    cases h with
    | cons h1 h2 =>
      refine IsOL.cons (isO_dA.mpr ⟨_, rfl, ?_⟩) (isKeys_D l _ h2)
      rw [← encK_kV]
      exact h1
def rListDT : List V → Hp → VK → Prop := fun xs H Q => ∃ d kvs, xs = [V.ref d] ∧ Rd H d (.dT kvs) ∧ ∀ p bs, H p = none → IsKeys H kvs bs → Q (.ref p) (upd H p (.lst (bs.map V.ref)))
theorem en_keys {te : TE} {σ : L2.St} {H : Hp} {n : Network} {ts : List (List Nat)} (h : EvR te σ H (RDist n ts)) (G : Tgt n ts) : EvN (tCB rListDT (tCons te tNil)) σ H (((n.layers ts).flatten).map dA) := fun H0 e Q q => h H0 e _ fun v H1 e1 r1 => by
  obtain ⟨Kn, pd, hpl, rfl, hpn, hpd⟩ := r1
  refine ⟨pd, _, rfl, .inl hpd, fun l bs hl hk => ?_⟩
  have ex : Ex H1 (upd H1 l (.lst (bs.map V.ref))) := Ex.new hl
  refine q _ _ (e1.trans ex) ⟨l, _, rfl, fresh_back e1 hl, upd_same, ?_⟩
  rw [layers_flat G.nd G.cand (lay_of_pl G.nd hpl)]
  exact IsOL.ex ex (isKeys_D _ _ hk)
theorem s_updT {K : PySem.W.Frag} {ta te : TE} {σ : L2.St} {H : Hp} {De : Ends} {p : Addr} {kvs : List (List Key × V)} {R : Hp → V → Hp → Prop} (ha : Ev ta σ H (.ref p)) (hp : H p = some (.dT kvs)) (h : EvR te σ H R) (hb : Back R) (k : ∀ v H1, Ex H H1 → R H v H1 → rUpdT (.ref p) [v] H1 (fun _ H2 => De.nx σ H2)) :
    tDrop (tBM K "dict" rUpdT ta (tCons te tNil)) De σ H := ha H (Ex.refl H) _ fun H1 e1 => ⟨.inr (.inr (.inl ⟨rfl, .inr ⟨kvs, e1 _ _ hp⟩⟩)), h H1 e1 _ fun v H2 e2 r => k v H2 (e1.trans e2) (hb _ _ _ _ e1 r)⟩
theorem cal_reachable (T : Txt K mg C) (F : Def K mg "reachable" s_reachable ["network"]) (c_distances : Cal P w K mg base 8 "distances" (sp_distances C)) : Cal P w K mg base 9 "reachable" (sp_reachable C) := by
  refine cal_mk F sc_reachable (SpR.len fun _ => rfl) (fun f cdv A outer s H vs Q E hr h => ⟨_, (pss_one (ps_ret (pe_callTy (call_list_dT rfl) (by rfl) T.list (by decide +kernel) (pa_cons (pe_cal c_distances hr (by decide) (by rfl) (pa_cons (pv 0) (pa_cons (pe_lst (pa_cons (pe_fld (pv 0) rfl) pa_nil)) pa_nil))) pa_nil)))), ?_⟩)
  obtain ⟨⟨a, n⟩, N, hv, kq⟩ := h
  dsimp only at N hv kq
  obtain ⟨v1, rfl, h1⟩ := is1 hv
  cases val_eq h1
  have G := tgt_one N.wf.cand
  exact r_ret (en_keys (er_call (a, n, [n.assignment]) (eds_cons (ed_v rfl) (eds_cons (ed_lst (ds := [dA n.assignment]) (eds_cons (ed_asg T N.net rfl) eds_nil) (by show 1 ≤ 100000; decide)) eds_nil)) (fun _ e => ⟨N.mono e, G⟩) back_Dist) G) kq
/-! ## count_components -/
abbrev s_count_components : Stmt := topS 42
abbrev N_count_components : List Str := ["network", "some", "seen", "components", "one"]
theorem sc_count_components : FnScope N_count_components ["network", "some"] (defScope s_count_components) := ⟨rfl, rfl, rfl, by decide +kernel, rfl, by decide +kernel, by decide +kernel⟩
abbrev sp_count_components (C : Addr) : Sp := SpR (α := AW) (fun x H => NW C H x.1 x.2) (fun x => [.val (.ref x.1), .lst (x.2.feasibleAssignments.map dA)]) (fun x => RD (dN (x.2.componentCount (x.2.feasibleAssignments.length + 1) x.2.feasibleAssignments)))
theorem look_keys {l : List (List Nat × Nat)} {s : List Nat} : (valV (encD l) (encK s)).isSome = (keys l).contains s := by
  rw [encD_look, Option.isSome_map, Bool.eq_iff_iff, List.contains_iff_mem]
  constructor
  · intro h
    refine Classical.byContradiction fun z => ?_
    rw [look_none.mpr z] at h
    cases h
  · intro h
    cases z : look l s with
    | none => exact absurd h (look_none.mp z)
    | some _ => rfl
theorem cal_count_components (T : Txt K mg C) (F : Def K mg "count_components" s_count_components ["network", "some"]) (c_distances : Cal P w K mg base 8 "distances" (sp_distances C)) : Cal P w K mg base 9 "count_components" (sp_count_components C) := by
  refine cal_mk F sc_count_components (SpR.len fun _ => rfl) (fun f cdv A outer s H vs Q E hr h => ⟨_, (pss_cons (ps_set (i := 2) sc_count_components.nd rfl (Or.inl rfl) pe_dnewT)
    (pss_cons (ps_set (i := 3) sc_count_components.nd rfl (Or.inl rfl) pe_int)
    (pss_cons (ps_for PassesOwn.never rfl (pi_list (pv 1)) (pg_name (i := 4) sc_count_components.nd rfl (Or.inl rfl))
      (pss_one (ps_if (pt_cmp (pc_dnotin (hu_of hr) (pv 4) (pv 2)))
        (pss_cons (ps_set (i := 3) sc_count_components.nd rfl (Or.inl rfl) (pe_op op_add (pv 3) pe_int))
        (pss_one (ps_expr (pe_bm PySem.F.plainAttrs_dict PySem.F.slot_dict_update PySem.F.type_dict_update (mt_updT hr) (pv 2) (pa_cons (pe_cal c_distances hr (by decide) (by rfl) (pa_cons (pv 0) (pa_cons (pe_lst (pa_cons (pv 4) pa_nil)) pa_nil))) pa_nil)))))
        pss_nil)))
    (pss_one (ps_ret (pv 3)))))), ?_⟩)
  obtain ⟨⟨a, n⟩, N, hv, kq⟩ := h
  dsimp only at N hv kq
  obtain ⟨v1, v2, rfl, h1, h2⟩ := is2 hv
  cases val_eq h1
  obtain ⟨bg, us, rfl, _, hbg, hus⟩ := isO_lst.mp h2
  have hlen : us.length = n.feasibleAssignments.length := by rw [hus.length, List.length_map]
  have h243 := feas_243 N.wf
  intro sd hsd
  have e1 : Ex H (upd H sd (.dT [])) := Ex.new hsd
  refine q_asg ev_c fun H2 e2 => ?_
  have e12 := e1.trans e2
  generalize hN : n.feasibleAssignments.length + 1 = NN at kq
  refine q_forL (a := bg) (xs := us) (ev_var rfl) (sq_of (e12 _ _ hbg)) (fun i σ' H' => ∃ c x kvs S, σ' = [some (.ref a), some (.ref bg), some (.ref sd), some (vN c), x] ∧ Ex H H' ∧ H' sd = some (.dT kvs) ∧ (∀ s, (valV kvs (encK s)).isSome = S s) ∧ kvs.length ≤ 243 * i ∧ n.componentCount NN n.feasibleAssignments = c + n.componentCount NN ((n.feasibleAssignments.drop i).filter fun s => !(S s)))
    (fun H3 e3 => ⟨0, _, [], fun _ => false, rfl, e12.trans e3, (e2.trans e3) _ _ upd_same, fun _ => rfl, Nat.le_refl _, by rw [List.drop_zero, Nat.zero_add]; congr 1; exact (List.filter_eq_self.mpr fun _ _ => rfl).symm⟩)
    (fun i σ' H' _ ⟨_, _, _, _, _, e, _⟩ => sq_of (e _ _ hbg)) (fun i x σ' H' hx ⟨c, y, kvs, S, hσ, e0, hsd', hS, hl, hcc⟩ => ?_) (fun σ' H' ⟨c, y, kvs, S, hσ, e0, hsd', hS, hl, hcc⟩ => ?_)
  · subst hσ
    obtain ⟨dd, hdd, hdx⟩ := hus.getV hx
    rw [List.getElem?_map] at hdd
    obtain ⟨s, hs, rfl⟩ := Option.map_eq_some_iff.mp hdd
    have hil : i < n.feasibleAssignments.length := (List.getElem?_eq_some_iff.mp hs).1
    have hc : Cand n s := mem_feas.mp (List.mem_of_getElem? hs)
    have hdrop : n.feasibleAssignments.drop i = s :: n.feasibleAssignments.drop (i + 1) := by
      rw [List.drop_eq_getElem_cons hil]
      obtain ⟨_, q⟩ := List.getElem?_eq_some_iff.mp hs
      rw [q]
    refine s_when (et_dnotin (s := s) (ed_var rfl (IsO.ex e0 hdx)) (ev_var rfl) hsd') (fun hb H3 e3 => ?_) (fun hb H3 e3 => ?_)
    · rw [hS, Bool.not_eq_true'] at hb
      refine rq_asg (ed_succ (i := c) (ed_v rfl)) fun v4 H4 e4 r4 => ?_
      cases val_eq r4
      have e34 := e3.trans e4
      have G := tgt_one hc
      have e04 := e0.trans e34
      refine s_updT (ev_var rfl) (e34 _ _ hsd') (er_call (a, n, [s]) (eds_cons (ed_v rfl) (eds_cons (ed_lst (ds := [dA s]) (eds_cons (ed_var rfl (IsO.ex e04 hdx)) eds_nil) (by show 1 ≤ 100000; decide)) eds_nil)) (fun _ e => ⟨(N.mono e04).mono e, G⟩) back_Dist) back_Dist fun v H6 e6 r6 => ?_
      obtain ⟨Kn, pd, hpl, rfl, hpn, hpd⟩ := r6
      have hsd6 := (e34.trans e6) _ _ hsd'
      have hK := lay_of_pl G.nd hpl
      have hkn := kn_le (k := Kn) G.nd G.cand N.wf
      have hcand : ∀ t ∈ keys (kn n [s] Kn), Cand n t := fun t ht => by
        cases Kn with
        | zero => cases ht
        | succ m => rw [keys_seen] at ht; exact seen_cand G.cand m t ht
      have hnd : (keys (kn n [s] Kn)).Nodup := by
        cases Kn with
        | zero => exact List.nodup_nil
        | succ m => rw [keys_seen]; exact seen_nodup G.nd m
      refine ⟨sd, pd, kvs, _, rfl, rfl, (fun z => by rw [← z, e34 _ _ hsd'] at hpn; cases hpn), hsd6, hpd, .inr ⟨n.flows.length, keys (kn n [s] Kn), N.wf.nf, hnd, fun t ht => ?_, ?_⟩, ?_, ?_⟩
      · have hct := hcand t ht
        refine ⟨hct.sh.len, fun x hx => ?_⟩
        obtain ⟨j, hj, rfl⟩ := (List.getElem_of_mem hx)
        have hj' : j < n.flows.length := by rw [← hct.sh.len]; exact hj
        have h1 := hct.sh.le j hj'
        have h2 := (N.wf.pl _ (flow_mem hj')).2
        have h3 : t.getD j 0 = t[j] := by simp [List.getD, hj]
        omega
      · unfold encD keys
        (rw [List.map_map, List.map_map])
        rfl
      · have hEl : (encD (kn n [s] Kn)).length ≤ 243 := by rw [encD_len]; exact hkn
        show kvs.length + (encD (kn n [s] Kn)).length ≤ 1000000
        omega
      · have hml := mergeT_le (encD (kn n [s] Kn)) kvs
        rw [encD_len] at hml
        refine ⟨c + 1, _, mergeT kvs (encD (kn n [s] Kn)), fun t => S t || (keys (kn n [s] Kn)).contains t, rfl, Ex.mut (e04.trans e6) hsd, upd_same, fun t => ?_, by omega, ?_⟩
        · rw [mergeT_has, hS, look_keys]
        · rw [hcc, hdrop, List.filter_cons, if_pos (by rw [hb]; rfl), cc_cons _ _ (by
            rw [List.length_cons, ← hN]
            have h1 := List.length_filter_le (fun s => !(S s)) (n.feasibleAssignments.drop (i + 1))
            rw [List.length_drop] at h1
            omega), List.filter_filter, layers_flat G.nd G.cand hK]
          rw [Nat.add_assoc]
          congr 2
          congr 1
          apply List.filter_congr
          intro t _
          rw [Bool.not_or, Bool.and_comm]
    · rw [hS, Bool.not_eq_false'] at hb
      refine ⟨c, _, kvs, S, rfl, e0.trans e3, e3 _ _ hsd', hS, by omega, ?_⟩
      rw [hcc, hdrop, List.filter_cons, if_neg (by rw [hb]; exact Bool.false_ne_true)]
  · subst hσ
    rw [hlen, List.drop_length, List.filter_nil, cc_nil, Nat.add_zero] at hcc
    rw [hcc] at kq
    exact r_ret (ed_v rfl) fun v H3 e3 r => kq v H3 (e0.trans e3) r
end
end FL

namespace FL
open PySem PySem.Spec PyProof.Rows L2 Evl FM
open Su203 (Network Link Flow)

section
variable {K : PySem.W.Frag} {σ : L2.St} {H H' : Hp} {ta tb te tx td ty tv : TE} {v : V} {De : Ends} {tz : TS} {p : Addr}
theorem en_err (c : Int) : EvN (tLst (tCons (tUn (rU fun i => .int (-i)) (tC (.int c))) tNil)) σ H ([-c].map dI) := en_ints (vs := [.int (-c)]) (ea_cons (ev_of (ed_neg ed_c)) ea_nil) (by show 1 ≤ 100000; decide)
theorem ints_dI (l : List Nat) : (nInts l).map dI = l.map dN := by unfold nInts; rw [List.map_map]; rfl
theorem eds_ints {tr : TA} {l : List Nat} (h : EvDs tr σ H (l.map dN)) (hl : l.length ≤ 100000) : EvN (tLst tr) σ H (l.map dN) := by
  rw [dNs_map]
  rw [dNs_map] at h
  exact en_ints (eva_of h) (by rw [List.length_map]; exact hl)
theorem en_cat {l m : List Nat} (ha : EvN ta σ H (l.map dN)) (hb : EvN tb σ H (m.map dN)) (hl : l.length + m.length ≤ 100000) : EvN (tOp rCat ta tb) σ H ((l ++ m).map dN) := fun H1 e Q q =>
  ha H1 e _ fun v1 H2 e2 r1 => hb H2 (e.trans e2) _ fun v2 H3 e3 r2 => by
    obtain ⟨p, vs, rfl, h1, h2, h3⟩ := r1
    obtain ⟨p2, us, rfl, g1, g2, g3⟩ := r2
    rw [isOL_nats.mp h3] at h2
    rw [isOL_nats.mp g3] at g2
    refine ⟨p, p2, _, _, rfl, rfl, e3 _ _ h2, g2, by rw [List.length_map, List.length_map, sizeLine_eq]; omega, fun l' hl' => q _ _ ((e2.trans e3).trans (Ex.new hl')) ⟨l', _, rfl, fresh_back (e2.trans e3) hl', upd_same, ?_⟩⟩
    rw [← List.map_append]
    exact isOL_nats.mpr rfl
/-- list(t) of a tuple of numbers -/
theorem en_listT {s : List Nat} (h : EvD te σ H (dA s)) : EvN (tCB (rListS K) (tCons te tNil)) σ H (s.map dN) := fun H1 e Q q => h H1 e _ fun v H2 e2 r => by
  obtain ⟨p, rfl, hp⟩ := isO_dA.mp r
  exact ⟨p, _, rfl, .inr (st_of hp), fun l hl => q _ _ (e2.trans (Ex.new hl)) ⟨l, _, rfl, fresh_back e2 hl, upd_same, isOL_nats.mpr rfl⟩⟩
/-- list(l) of a list of numbers -/
theorem en_listL {s : List Nat} (h : EvD te σ H (dNs s)) : EvN (tCB (rListS K) (tCons te tNil)) σ H (s.map dN) := fun H1 e Q q => h H1 e _ fun v H2 e2 r => by
  obtain ⟨p, rfl, _, hp⟩ := isO_dNs.mp r
  exact ⟨p, _, rfl, .inl (sq_of hp), fun l hl => q _ _ (e2.trans (Ex.new hl)) ⟨l, _, rfl, fresh_back e2 hl, upd_same, isOL_nats.mpr rfl⟩⟩
def rTupleS (K : PySem.W.Frag) : List V → Hp → VK → Prop := fun xs H Q => ∃ p ys, xs = [.ref p] ∧ ((SqL K H p ys ∧ ∀ l, H l = none → Q (.ref l) (upd H l (.tup ys))) ∨ (SqT K H p ys ∧ Q (.ref p) H))
/-- tuple(l) of a list of numbers -/
theorem e0_tupleL {s : List Nat} (h : EvD te σ H (dNs s)) : Ev0 (tCB (rTupleS K) (tCons te tNil)) σ H (dA s) := fun H1 e Q q => h H1 e _ fun v H2 e2 r => by
  obtain ⟨p, rfl, _, hp⟩ := isO_dNs.mp r
  exact ⟨p, _, rfl, .inl ⟨sq_of hp, fun l hl => q _ _ (e2.trans (Ex.new hl)) (isO_dA.mpr ⟨l, rfl, upd_same⟩)⟩⟩
/-- x is None, x is not None -/
theorem et_isN {x : V} (h : Ev te σ H x) : EvT (tTest (tOp (fun x y H Q => y = .non ∧ Q (.bl (decide (x = .non))) H) te (tC .non))) σ H (decide (x = .non)) := et_test (ev_op h ev_c fun H1 _ Q q => ⟨rfl, q H1 (Ex.refl H1)⟩)
theorem et_notN {x : V} (h : Ev te σ H x) : EvT (tTest (tOp (fun x y H Q => y = .non ∧ Q (.bl (!decide (x = .non))) H) te (tC .non))) σ H (!decide (x = .non)) := et_test (ev_op h ev_c fun H1 _ Q q => ⟨rfl, q H1 (Ex.refl H1)⟩)
/-- (a == b) as a value; != of truth values as a test -/
theorem ev_eqN {i j : Nat} (ha : EvD ta σ H (dN i)) (hb : EvD tb σ H (dN j)) : Ev (tOp rEq ta tb) σ H (.bl (decide (i = j))) := ev_is (ev_op (ev_of ha) (ev_of hb) (rv_eq rfl)) (by
  by_cases h : i = j
  · subst h; simp
  · have : ¬ (V.int (i : Int) = V.int (j : Int)) := fun z => h (by injection z with z; omega)
    rw [decide_eq_false h, decide_eq_false this])
theorem et_neB {b c : Bool} (ha : Ev ta σ H (.bl b)) (hb : Ev tb σ H (.bl c)) : EvT (tTest (tOp rNe ta tb)) σ H (b != c) := et_test (ev_is (ev_op ha hb (rv_ne rfl)) (by cases b <;> cases c <;> rfl))
end
section
variable {P : Program} {w : World} {K : PySem.W.Frag} {mg : Str → Option Value} {base : Heap} {C : Addr}
/-! ## moves_told, plan_told -/
abbrev s_moves_told : Stmt := topS 44
abbrev N_moves_told : List Str := ["moves", "told", "flow", "path"]
theorem sc_moves_told : FnScope N_moves_told ["moves"] (defScope s_moves_told) := ⟨rfl, rfl, rfl, by decide +kernel, rfl, by decide +kernel, by decide +kernel⟩
abbrev sp_moves_told : Sp := SpR (α := List (Nat × Nat)) (fun x _ => x.length ≤ 1000) (fun x => [.lst (x.map dM)]) (fun x => RN ((toldM x).map dN))
theorem cal_moves_told (T : Txt K mg C) (F : Def K mg "moves_told" s_moves_told ["moves"]) : Cal P w K mg base 1 "moves_told" sp_moves_told := by
  refine cal_mk F sc_moves_told (SpR.len fun _ => rfl) (fun f cdv A outer s H vs Q E hr h => ⟨_, (pss_cons (ps_set (i := 1) sc_moves_told.nd rfl (Or.inl rfl) (pe_lst (pa_cons (pe_callB call_len_seq (by rfl) T.len PySem.boot_len (pa_cons (pv 0) pa_nil)) pa_nil)))
    (pss_cons (ps_for PassesOwn.never rfl (pi_list (pv 0)) (pg_tup (by rfl) (pgs_cons (pg_name (i := 2) sc_moves_told.nd rfl (Or.inl rfl)) (pgs_cons (pg_name (i := 3) sc_moves_told.nd rfl (Or.inl rfl)) pgs_nil)))
      (pss_one (ps_expr (pe_bm PySem.F.plainAttrs_list PySem.F.slot_list_extend PySem.F.type_list_extend mt_extend (pv 1) (pa_cons (pe_lst (pa_cons (pv 2) (pa_cons (pv 3) pa_nil))) pa_nil)))))
    (pss_one (ps_ret (pv 1))))), ?_⟩)
  obtain ⟨p, hp, hv, kq⟩ := h
  obtain ⟨v1, rfl, h1⟩ := is1 hv
  obtain ⟨bg, us, rfl, _, hbg, hus⟩ := isO_lst.mp h1
  have hlen : us.length = p.length := by rw [hus.length, List.length_map]
  refine rq_asg (eds_ints (l := [p.length]) (eds_cons (ed_is (ed_len (ed_var rfl h1)) (by rw [List.length_map])) eds_nil) (by show 1 ≤ 100000; decide)) fun v H1 e1 r1 => ?_
  obtain ⟨Tl, rfl, L1⟩ := lw_of r1 e1
  refine q_forL (a := bg) (xs := us) (ev_var rfl) (sq_of (e1 _ _ hbg)) (fun i σ' H' => ∃ x y, σ' = [some (.ref bg), some (.ref Tl), x, y] ∧ Lw H ((p.length :: (p.take i).flatMap fun m => [m.1, m.2]).map dN) Tl H') (fun H2 e2 => ⟨_, _, rfl, L1.mono e2⟩) (fun i σ' H' _ ⟨_, _, _, L⟩ => sq_of (L.ex _ _ hbg)) (fun i x σ' H' hx ⟨y, z, hσ, L⟩ => ?_) (fun σ' H' ⟨y, z, hσ, L⟩ => ?_)
  · subst hσ
    obtain ⟨d, hd, hdx⟩ := hus.getV hx
    rw [List.getElem?_map] at hd
    obtain ⟨m, hm, rfl⟩ := Option.map_eq_some_iff.mp hd
    refine g_two (IsO.ex L.ex hdx) fun u1 u2 r1 r2 => ?_
    cases val_eq r1
    cases val_eq r2
    refine lw_ext (es := [m.1, m.2].map dN) L (ev_var rfl) (el0_N (eds_ints (l := [m.1, m.2]) (eds_cons (ed_v rfl) (eds_cons (ed_v rfl) eds_nil)) (by show 2 ≤ 100000; decide))) ?_ fun H2 _ L2 => ⟨_, _, rfl, ?_⟩
    · have h1 := toldM_le (p.take i)
      unfold toldM at h1
      rw [List.length_cons] at h1
      rw [List.length_map, List.length_cons, List.length_map]
      have : (p.take i).length ≤ p.length := by rw [List.length_take]; omega
      show _ + 2 ≤ _
      omega
    · rw [take_succ_get hm, List.flatMap_append, List.flatMap_singleton, ← List.cons_append, List.map_append]
      exact L2
  · subst hσ
    rw [hlen, List.take_length] at L
    exact s_ret (ev_var rfl) fun H2 e2 => lw_ret (L.mono e2) kq
abbrev s_plan_told : Stmt := topS 45
abbrev N_plan_told : List Str := ["plan"]
theorem sc_plan_told : FnScope N_plan_told ["plan"] (defScope s_plan_told) := ⟨rfl, rfl, rfl, by decide +kernel, rfl, by decide +kernel, by decide +kernel⟩
def dPl (p : Option (List (Nat × Nat))) : D := match p with
  | none => .val .non
  | some l => .lst (l.map dM)
theorem erd_plan {te : TE} {σ : L2.St} {H : Hp} {p : Option (List (Nat × Nat))} (h : EvR te σ H (RPlan p)) : EvD te σ H (dPl p) := h.imp fun H1 v H2 _ _ r => by
  cases p with
  | none => exact isO_val.mpr r
  | some l =>
    obtain ⟨q, vs, h1, _, h3, h4⟩ := r
    exact isO_lst.mpr ⟨q, vs, h1, True.intro, h3, IsOL.all h4⟩
abbrev sp_plan_told : Sp := SpR (α := Option (List (Nat × Nat))) (fun x _ => ∀ l, x = some l → l.length ≤ 1000) (fun x => [dPl x]) (fun x => RN ((planAns x).map dI))
theorem cal_plan_told (T : Txt K mg C) (F : Def K mg "plan_told" s_plan_told ["plan"]) (c_moves_told : Cal P w K mg base 1 "moves_told" sp_moves_told) : Cal P w K mg base 2 "plan_told" sp_plan_told := by
  refine cal_mk F sc_plan_told (SpR.len fun _ => rfl) (fun f cdv A outer s H vs Q E hr h => ⟨_, (pss_cons (ps_if (pt_cmpR op_isN (pv 0) pe_non (nomark _))
      (pss_one (ps_ret (pe_lst (pa_cons (pe_un un_neg pe_int) pa_nil))))
      pss_nil)
    (pss_one (ps_ret (pe_cal c_moves_told hr (by decide) (by rfl) (pa_cons (pv 0) pa_nil))))), ?_⟩)
  obtain ⟨p, hp, hv, kq⟩ := h
  obtain ⟨v1, rfl, h1⟩ := is1 hv
  cases p with
  | none =>
    cases val_eq h1
    refine q_when (et_isN (ev_var rfl)) (fun hb H1 e1 => ?_) (fun hb H1 e1 => by cases hb)
    exact r_ret (en_err 33) fun v H2 e2 r => kq v H2 (e1.trans e2) (back_N _ _ _ _ e1 r)
  | some l =>
    obtain ⟨bg, us, rfl, _, hbg, hus⟩ := isO_lst.mp h1
    refine q_when (et_isN (ev_var rfl)) (fun hb H1 e1 => by cases hb) (fun hb H1 e1 => ?_)
    refine r_ret (er_call l (eds_cons (ed_var rfl (IsO.ex e1 h1)) eds_nil) (fun _ _ => hp l rfl) back_N) fun v H2 e2 r => kq v H2 (e1.trans e2) (back_N _ _ _ _ e1 ?_)
    show RN ((nInts (toldM l)).map dI) _ _ _
    rw [ints_dI]
    exact r
/-! ## the promise of a question: the specification's answer, as a new list -/
abbrev AD := Addr × Network × List Nat × List Nat
abbrev sp_q (C : Addr) (m : Nat) (op : List Nat → List Nat → Su203.Operation) : Sp := SpR (α := AD) (fun x H => NW C H x.1 x.2.1 ∧ x.2.2.1.length = m ∧ x.2.2.2.length ≤ 8) (fun x => [.val (.ref x.1), dNs x.2.2.1, dNs x.2.2.2])
  (fun x => RN ((ans (Su203.execute x.2.1 (op x.2.2.1 x.2.2.2)).2).map dI))
theorem rn_ints {l : List Nat} {r : Su203.Result} {H1 H2 : Hp} {v : V} (e : ans r = nInts l) (h : RN (l.map dN) H1 v H2) : RN ((ans r).map dI) H1 v H2 := by
  rw [e, ints_dI]
  exact h
/-! ## link_loads -/
abbrev s_link_loads : Stmt := topS 46
abbrev N_link_loads : List Str := ["network", "plain", "given", "told", "link"]
theorem sc_link_loads : FnScope N_link_loads ["network", "plain", "given"] (defScope s_link_loads) := ⟨rfl, rfl, rfl, by decide +kernel, rfl, by decide +kernel, by decide +kernel⟩
theorem cal_link_loads (T : Txt K mg C) (F : Def K mg "link_loads" s_link_loads ["network", "plain", "given"]) (c_load_of : Cal P w K mg base 3 "load_of" (sp_load_of C)) : Cal P w K mg base 4 "link_loads" (sp_q C 0 fun _ _ => .linkLoads) := by
  refine cal_mk F sc_link_loads (SpR.len fun _ => rfl) (fun f cdv A outer s H vs Q E hr h => ⟨_, (pss_cons (ps_set (i := 3) sc_link_loads.nd rfl (Or.inl rfl) (pe_lst (pa_cons (pe_callB call_len_seq (by rfl) T.len PySem.boot_len (pa_cons (pe_fld (pv 0) rfl) pa_nil)) pa_nil)))
    (pss_cons (ps_for PassesOwn.never rfl (pi_range1 (by rfl) T.range (pa_cons (pe_callB call_len_seq (by rfl) T.len PySem.boot_len (pa_cons (pe_fld (pv 0) rfl) pa_nil)) pa_nil)) (pg_name (i := 4) sc_link_loads.nd rfl (Or.inl rfl))
      (pss_one (ps_expr (pe_bm PySem.F.plainAttrs_list PySem.F.slot_list_extend PySem.F.type_list_extend mt_extend (pv 3) (pa_cons (pe_lst (pa_cons (pe_cal c_load_of hr (by decide) (by rfl) (pa_cons (pv 0) (pa_cons (pe_fld (pv 0) rfl) (pa_cons (pv 4) pa_nil)))) (pa_cons (pe_ix ix_list (pe_fld (pv 0) rfl) (pv 4) (fun _ _ => rfl)) pa_nil))) pa_nil)))))
    (pss_one (ps_ret (pv 3))))), ?_⟩)
  obtain ⟨⟨a, n, pl, gv⟩, ⟨N, hpl, hgv⟩, hv, kq⟩ := h
  dsimp only at N hpl hgv hv kq
  obtain ⟨v1, v2, v3, rfl, h1, h2, h3⟩ := is3 hv
  cases val_eq h1
  have hnl := N.wf.nl
  refine rq_asg (eds_ints (l := [n.links.length]) (eds_cons (ed_nends T N.net rfl) eds_nil) (by show 1 ≤ 100000; decide)) fun v H1 e1 r1 => ?_
  obtain ⟨Tl, rfl, L1⟩ := lw_of r1 e1
  have hfl : ∀ i, ((List.range i).flatMap fun i => [n.load n.assignment i, (n.link i).capacity]).length = 2 * i := fun i => by
    induction i with
    | zero => rfl
    | succ i ih => rw [List.range_succ, List.flatMap_append, List.length_append, ih, List.flatMap_singleton]; rfl
  refine q_forR1 (n := (n.links.length : Int)) (eva_1 (ed_nends T (N.net.mono e1) rfl)) ⟨by omega, by omega⟩ (fun i σ' H' => ∃ x, σ' = [some (.ref a), some v2, some v3, some (.ref Tl), x] ∧ Lw H ((n.links.length :: (List.range i).flatMap fun i => [n.load n.assignment i, (n.link i).capacity]).map dN) Tl H') (fun H2 e2 => ⟨_, rfl, L1.mono e2⟩) (fun i σ' H' hi ⟨x, hσ, L⟩ => ?_) (fun σ' H' ⟨x, hσ, L⟩ => ?_)
  · subst hσ
    have hi' : i < n.links.length := by omega
    have e := L.ex
    refine lw_ext (es := [n.load n.assignment i, (n.link i).capacity].map dN) L (ev_var rfl) (el0_N (eds_ints (l := [n.load n.assignment i, (n.link i).capacity]) (eds_cons (er_call (a, n, n.assignment, i) (eds_cons (ed_v rfl) (eds_cons (ed_asg T (N.net.mono e) rfl) (eds_cons (ed_v rfl) eds_nil))) (fun _ e' => ⟨(N.mono e).mono e', N.wf.shaped⟩) back_D) (eds_cons (ed_cap T (N.net.mono e) rfl (ed_v rfl) hi') eds_nil)) (by show 2 ≤ 100000; decide))) ?_ fun H2 _ L2 => ⟨_, rfl, ?_⟩
    · rw [List.length_map, List.length_cons, hfl]
      show _ + 2 ≤ _
      omega
    · rw [List.range_succ, List.flatMap_append, List.flatMap_singleton, ← List.cons_append, List.map_append]
      exact L2
  · subst hσ
    have hT : ((n.links.length : Int)).toNat = n.links.length := by omega
    rw [hT] at L
    exact s_ret (ev_var rfl) fun H2 e2 => lw_ret (L.mono e2) fun v H3 e3 r => kq v H3 e3 (rn_ints rfl r)
/-! ## current_assignment, allowed_moves -/
abbrev s_current_assignment : Stmt := topS 47
abbrev N_current_assignment : List Str := ["network", "plain", "given"]
theorem sc_current_assignment : FnScope N_current_assignment ["network", "plain", "given"] (defScope s_current_assignment) := ⟨rfl, rfl, rfl, by decide +kernel, rfl, by decide +kernel, by decide +kernel⟩
theorem cal_current_assignment (T : Txt K mg C) (F : Def K mg "current_assignment" s_current_assignment ["network", "plain", "given"]) : Cal P w K mg base 1 "current_assignment" (sp_q C 0 fun _ _ => .assignment) := by
  refine cal_mk F sc_current_assignment (SpR.len fun _ => rfl) (fun f cdv A outer s H vs Q E hr h => ⟨_, (pss_one (ps_ret (pe_op op_cat (pe_lst (pa_cons (pe_callB call_len_seq (by rfl) T.len PySem.boot_len (pa_cons (pe_fld (pv 0) rfl) pa_nil)) pa_nil)) (pe_callTy call_list_of (by rfl) T.list (by decide +kernel) (pa_cons (pe_fld (pv 0) rfl) pa_nil))))), ?_⟩)
  obtain ⟨⟨a, n, pl, gv⟩, ⟨N, hpl, hgv⟩, hv, kq⟩ := h
  dsimp only at N hpl hgv hv kq
  obtain ⟨v1, v2, v3, rfl, h1, h2, h3⟩ := is3 hv
  cases val_eq h1
  have hnf := N.wf.nf
  have hla := N.wf.la
  refine r_ret (en_cat (l := [n.flows.length]) (eds_ints (eds_cons (ed_nflows T N.net rfl) eds_nil) (by show 1 ≤ 100000; decide)) (en_listT (ed_asg T N.net rfl)) (by show 1 + _ ≤ _; omega)) fun v H2 e2 r => kq v H2 e2 (rn_ints ?_ r)
  show nInts (n.assignment.length :: n.assignment) = nInts ([n.flows.length] ++ n.assignment)
  rw [hla]
  rfl
abbrev s_allowed_moves : Stmt := topS 48
abbrev N_allowed_moves : List Str := ["network", "plain", "given"]
theorem sc_allowed_moves : FnScope N_allowed_moves ["network", "plain", "given"] (defScope s_allowed_moves) := ⟨rfl, rfl, rfl, by decide +kernel, rfl, by decide +kernel, by decide +kernel⟩
theorem okMoves_eq (n : Network) (s : List Nat) : ans (Su203.okMoves (n.moves s)) = nInts (toldM (pmoves n s)) := by
  rw [moves_eq]
  show nInts (((pmoves n s).map fun m => (m.1, m.2 + 1)).length :: ((pmoves n s).map fun m => (m.1, m.2 + 1)).flatMap fun m => [m.1, m.2 - 1]) = _
  rw [List.length_map, List.flatMap_map]
  rfl
theorem cal_allowed_moves (T : Txt K mg C) (F : Def K mg "allowed_moves" s_allowed_moves ["network", "plain", "given"]) (c_moves_from : Cal P w K mg base 6 "moves_from" (sp_moves_from C)) (c_moves_told : Cal P w K mg base 1 "moves_told" sp_moves_told) : Cal P w K mg base 7 "allowed_moves" (sp_q C 0 fun _ _ => .allowedMoves) := by
  refine cal_mk F sc_allowed_moves (SpR.len fun _ => rfl) (fun f cdv A outer s H vs Q E hr h => ⟨_, (pss_one (ps_ret (pe_cal c_moves_told hr (by decide) (by rfl) (pa_cons (pe_cal c_moves_from hr (by decide) (by rfl) (pa_cons (pv 0) (pa_cons (pe_fld (pv 0) rfl) pa_nil))) pa_nil)))), ?_⟩)
  obtain ⟨⟨a, n, pl, gv⟩, ⟨N, hpl, hgv⟩, hv, kq⟩ := h
  dsimp only at N hpl hgv hv kq
  obtain ⟨v1, v2, v3, rfl, h1, h2, h3⟩ := is3 hv
  cases val_eq h1
  have h15 := pmoves_le (s := n.assignment) N.wf
  exact r_ret (er_call (pmoves n n.assignment) (eds_cons (EvR.ofRN (er_call (a, n, n.assignment) (eds_cons (ed_v rfl) (eds_cons (ed_asg T N.net rfl) eds_nil)) (fun _ e => ⟨N.mono e, N.wf.shaped⟩) back_N)) eds_nil) (fun _ _ => Nat.le_trans h15 (by decide)) back_N) fun v H2 e2 r => kq v H2 e2 (rn_ints (okMoves_eq n n.assignment) r)
/-! ## fits_flows -/
abbrev s_fits_flows : Stmt := topS 49
abbrev N_fits_flows : List Str := ["network", "wanted", "flow"]
theorem sc_fits_flows : FnScope N_fits_flows ["network", "wanted"] (defScope s_fits_flows) := ⟨rfl, rfl, rfl, by decide +kernel, rfl, by decide +kernel, by decide +kernel⟩
abbrev sp_fits_flows (C : Addr) : Sp := SpR (α := AL) (fun x H => NW C H x.1 x.2.1 ∧ x.2.2.length ≤ 8) (fun x => [.val (.ref x.1), dNs x.2.2]) (fun x => RD (.val (.bl (fits x.2.1 x.2.2))))
theorem cal_fits_flows (T : Txt K mg C) (F : Def K mg "fits_flows" s_fits_flows ["network", "wanted"]) : Cal P w K mg base 1 "fits_flows" (sp_fits_flows C) := by
  refine cal_mk F sc_fits_flows (SpR.len fun _ => rfl) (fun f cdv A outer s H vs Q E hr h => ⟨_, (pss_cons (ps_if (pt_cmpR op_ne (pe_callB call_len_seq (by rfl) T.len PySem.boot_len (pa_cons (pv 1) pa_nil)) (pe_callB call_len_seq (by rfl) T.len PySem.boot_len (pa_cons (pe_fld (pv 0) rfl) pa_nil)) (nomark _))
      (pss_one (ps_ret pe_bl))
      pss_nil)
    (pss_cons (ps_for PassesOwn.never rfl (pi_range1 (by rfl) T.range (pa_cons (pe_callB call_len_seq (by rfl) T.len PySem.boot_len (pa_cons (pv 1) pa_nil)) pa_nil)) (pg_name (i := 2) sc_fits_flows.nd rfl (Or.inl rfl))
      (pss_cons (ps_if (pt_cmpR op_gt (pe_ix ix_list (pv 1) (pv 2) (fun _ _ => rfl)) (pe_callB call_len_seq (by rfl) T.len PySem.boot_len (pa_cons (pe_ix ix_list (pe_fld (pv 0) rfl) (pv 2) (fun _ _ => rfl)) pa_nil)) (nomark _))
        (pss_one (ps_ret pe_bl))
        pss_nil)
      (pss_one (ps_if (pt_cmpR op_ne (pe_cmpR op_eq (pe_ix ix_list (pv 1) (pv 2) (fun _ _ => rfl)) pe_int (nomark _)) (pe_cmpR op_eq (pe_ix ix_tup (pe_fld (pv 0) rfl) (pv 2) (fun _ _ => rfl)) pe_int (nomark _)) (nomark _))
        (pss_one (ps_ret pe_bl))
        pss_nil))))
    (pss_one (ps_ret pe_bl)))), ?_⟩)
  obtain ⟨⟨a, n, l⟩, ⟨N, hl⟩, hv, kq⟩ := h
  dsimp only at N hl hv kq
  obtain ⟨v1, v2, rfl, h1, h2⟩ := is2 hv
  cases val_eq h1
  have hla := N.wf.la
  refine q_when (et_ne (ed_is (ed_len (ed_var rfl h2)) (by rw [List.length_map])) (ed_nflows T N.net rfl) rfl) (fun hb H1 e1 => ?_) (fun hb H1 e1 => ?_)
  · have h0 := of_decide_eq_true hb
    refine r_ret ed_c fun v H2 e2 r => kq v H2 (e1.trans e2) ?_
    have e : fits n l = false := by
      rw [Bool.eq_false_iff]
      intro z
      exact h0 (fits_iff.mp z).1
    rw [e]
    exact r
  · have h0 : l.length = n.flows.length := by
      have := of_decide_eq_false hb
      omega
    refine wq_range (n := l.length) (ed_is (ed_len (ed_var rfl (IsO.ex e1 h2))) (by rw [List.length_map])) (by omega) (fun i σ' => ∃ x, σ' = [some (.ref a), some v2, x] ∧ ∀ f, f < i → l.getD f 0 ≤ (n.flow f).pathLinks.length ∧ (l.getD f 0 = 0 ↔ n.assignment.getD f 0 = 0)) ⟨_, rfl, fun f hf => absurd hf (Nat.not_lt_zero f)⟩ (fun i σ' H' hi ⟨x, hσ, hall⟩ e2 Nx hN => ?_) (fun σ' H' ⟨x, hσ, hall⟩ e2 => ?_)
    · subst hσ
      have hif : i < n.flows.length := by omega
      have e12 := e1.trans e2
      have hpl := N.wf.pl _ (flow_mem hif)
      refine q_when (et_gt (ed_nat (ed_var rfl (IsO.ex e12 h2)) (ed_v rfl) hi) (ed_is (ed_len (ed_pathsOf T (N.net.mono e12) rfl (ed_v rfl) hif)) (by rw [List.length_map])) rfl) (fun hb H3 e3 => ?_) (fun hb H3 e3 => ?_)
      · have h3 := of_decide_eq_true hb
        refine r_ret ed_c fun v H4 e4 r => kq v H4 ((e12.trans e3).trans e4) ?_
        have e : fits n l = false := by
          rw [Bool.eq_false_iff]
          intro z
          have := ((fits_iff.mp z).2 i hif).1
          omega
        rw [e]
        exact r
      · have h3 := of_decide_eq_false hb
        have e13 := e12.trans e3
        refine s_when (et_neB (ev_eqN (j := 0) (ed_nat (ed_var rfl (IsO.ex e13 h2)) (ed_v rfl) hi) ed_c) (ev_eqN (j := 0) (ed_sAt (ed_asg T (N.net.mono e13) rfl) (ed_v rfl) (by omega)) ed_c)) (fun hb H4 e4 => ?_) (fun hb H4 e4 => ?_)
        · rw [bne_iff_ne, ne_eq, decide_eq_decide] at hb
          refine r_ret ed_c fun v H5 e5 r => kq v H5 ((e13.trans e4).trans e5) ?_
          have e : fits n l = false := by
            rw [Bool.eq_false_iff]
            intro z
            exact hb ((fits_iff.mp z).2 i hif).2
          rw [e]
          exact r
        · rw [bne_eq_false_iff_eq, decide_eq_decide] at hb
          refine hN _ _ ⟨_, rfl, fun f hf => ?_⟩ (e3.trans e4)
          by_cases hfi : f = i
          · subst hfi
            exact ⟨by omega, hb⟩
          · exact hall f (by omega)
    · subst hσ
      refine r_ret ed_c fun v H3 e3 r => kq v H3 ((e1.trans e2).trans e3) ?_
      have e : fits n l = true := fits_iff.mpr ⟨h0, fun f hf => hall f (by omega)⟩
      rw [e]
      exact r
end
end FL

namespace FL
open PySem PySem.Spec PyProof.Rows L2 Evl FM
open Su203 (Network Link Flow)

section
variable {P : Program} {w : World} {K : PySem.W.Frag} {mg : Str → Option Value} {base : Heap} {C : Addr}
/-- how long a plan can be -/
theorem plan_le {n : Network} (hw : WF n) {ts : List (List Nat)} (G : Tgt n ts) : ∀ l, planP n ts = some l → l.length ≤ 1000 := fun l h => by
  have hp := pl_stop G.nd G.cand (Nat.le_refl (n.feasibleAssignments.length + 1))
  have hK := lay_of_pl G.nd hp
  rw [planP_eq G hK] at h
  obtain ⟨d, hd, rfl⟩ := Option.map_eq_some_iff.mp h
  rw [pplan_length hw G.nd G.cand d _ hd]
  have := (look_some hd).2
  have := feas_243 hw
  omega
theorem rn_ans {l : List Int} {r : Su203.Result} {H1 H2 : Hp} {v : V} (e : ans r = l) (h : RN (l.map dI) H1 v H2) : RN ((ans r).map dI) H1 v H2 := by
  rw [e]
  exact h
theorem tgt_filter {n : Network} (hw : WF n) (f : List Nat → Bool) : Tgt n (n.feasibleAssignments.filter f) :=
  ⟨List.Pairwise.filter _ feas_nodup, fun x hx => mem_feas.mp (List.mem_filter.mp hx).1, Nat.le_trans (List.length_filter_le _ _) (feas_243 hw)⟩
/-- plain[0] -/
theorem ed_p0 {K : PySem.W.Frag} {σ : L2.St} {H : Hp} {te : TE} {s : List Nat} (h : EvD te σ H (dNs s)) (hl : 0 < s.length) : EvD (tOp (rIxL K) te (tC (.int 0))) σ H (dN (s.getD 0 0)) := ed_nat (i := 0) h ed_c hl
/-! ## plan_to -/
abbrev s_plan_to : Stmt := topS 50
abbrev N_plan_to : List Str := ["network", "plain", "given", "target"]
theorem sc_plan_to : FnScope N_plan_to ["network", "plain", "given"] (defScope s_plan_to) := ⟨rfl, rfl, rfl, by decide +kernel, rfl, by decide +kernel, by decide +kernel⟩
theorem cal_plan_to (T : Txt K mg C) (F : Def K mg "plan_to" s_plan_to ["network", "plain", "given"]) (c_fits_flows : Cal P w K mg base 1 "fits_flows" (sp_fits_flows C)) (c_is_feasible : Cal P w K mg base 4 "is_feasible" (sp_is_feasible C)) (c_plan_told : Cal P w K mg base 2 "plan_told" sp_plan_told) (c_shortest_plan : Cal P w K mg base 9 "shortest_plan" (sp_shortest_plan C)) :
    Cal P w K mg base 10 "plan_to" (sp_q C 0 fun _ g => .planTo g) := by
  refine cal_mk F sc_plan_to (SpR.len fun _ => rfl) (fun f cdv A outer s H vs Q E hr h => ⟨_, (pss_cons (ps_if (pt_not (pt_val (pe_cal c_fits_flows hr (by decide) (by rfl) (pa_cons (pv 0) (pa_cons (pv 2) pa_nil)))))
      (pss_one (ps_ret (pe_lst (pa_cons (pe_un un_neg pe_int) pa_nil))))
      pss_nil)
    (pss_cons (ps_set (i := 3) sc_plan_to.nd rfl (Or.inl rfl) (pe_callTy call_tuple_of (by rfl) T.tuple (by decide +kernel) (pa_cons (pv 2) pa_nil)))
    (pss_cons (ps_if (pt_not (pt_val (pe_cal c_is_feasible hr (by decide) (by rfl) (pa_cons (pv 0) (pa_cons (pv 3) pa_nil)))))
      (pss_one (ps_ret (pe_lst (pa_cons (pe_un un_neg pe_int) pa_nil))))
      pss_nil)
    (pss_one (ps_ret (pe_cal c_plan_told hr (by decide) (by rfl) (pa_cons (pe_cal c_shortest_plan hr (by decide) (by rfl) (pa_cons (pv 0) (pa_cons (pe_lst (pa_cons (pv 3) pa_nil)) pa_nil))) pa_nil))))))), ?_⟩)
  obtain ⟨⟨a, n, pl, gv⟩, ⟨N, hpl, hgv⟩, hv, kq⟩ := h
  dsimp only at N hpl hgv hv kq
  obtain ⟨v1, v2, v3, rfl, h1, h2, h3⟩ := is3 hv
  cases val_eq h1
  rw [planTo_eq] at kq
  refine q_when (et_not (et_B (ev_of (er_call (a, n, gv) (eds_cons (ed_v rfl) (eds_cons (ed_var rfl h3) eds_nil)) (fun _ e => ⟨N.mono e, hgv⟩) back_D)))) (fun hb H1 e1 => ?_) (fun hb H1 e1 => ?_)
  · rw [Bool.not_eq_true'] at hb
    rw [if_neg (by rw [hb]; exact Bool.false_ne_true)] at kq
    exact r_ret (en_err 22) fun v H2 e2 r => kq v H2 (e1.trans e2) (back_N _ _ _ _ e1 r)
  · rw [Bool.not_eq_false'] at hb
    rw [if_pos hb] at kq
    have hsh : Shaped n gv := by
      obtain ⟨q1, q2⟩ := fits_iff.mp hb
      exact ⟨q1, fun f hf => (q2 f hf).1⟩
    refine rq_asg (e0_tupleL (ed_var rfl (IsO.ex e1 h3))) fun v4 H2 e2 r4 => ?_
    have e12 := e1.trans e2
    refine q_when (et_not (et_B (ev_of (er_call (a, n, gv) (eds_cons (ed_v rfl) (eds_cons (ed_var rfl r4.all) eds_nil)) (fun _ e => ⟨(N.mono e12).mono e, hsh⟩) back_D)))) (fun hb2 H3 e3 => ?_) (fun hb2 H3 e3 => ?_)
    · rw [Bool.not_eq_true'] at hb2
      rw [if_neg (by rw [hb2]; exact Bool.false_ne_true)] at kq
      exact r_ret (en_err 35) fun v H4 e4 r => kq v H4 ((e12.trans e3).trans e4) (back_N _ _ _ _ (e12.trans e3) r)
    · rw [Bool.not_eq_false'] at hb2
      rw [if_pos hb2] at kq
      have G := tgt_one (fits_cand hb hb2)
      have e13 := e12.trans e3
      refine r_ret (er_call (planP n [gv]) (eds_cons (erd_plan (er_call (a, n, [gv]) (eds_cons (ed_v rfl) (eds_cons (ed_lst (ds := [dA gv]) (eds_cons (ed_var rfl (IsO.ex e3 r4).all) eds_nil) (by show 1 ≤ 100000; decide)) eds_nil)) (fun _ e => ⟨(N.mono e13).mono e, G⟩) back_Plan)) eds_nil) (fun _ _ => plan_le N.wf G) back_N) fun v H4 e4 r => kq v H4 (e13.trans e4) (back_N _ _ _ _ e13 (rn_ans (planResult_eq [gv]) r))
/-! ## link_drain, plan_link_drain, plan_node_drain -/
abbrev s_link_drain : Stmt := topS 51
abbrev N_link_drain : List Str := ["network", "link", "targets", "one"]
theorem sc_link_drain : FnScope N_link_drain ["network", "link"] (defScope s_link_drain) := ⟨rfl, rfl, rfl, by decide +kernel, rfl, by decide +kernel, by decide +kernel⟩
abbrev sp_link_drain (C : Addr) : Sp := SpR (α := AN) (fun x H => NW C H x.1 x.2.1) (fun x => [.val (.ref x.1), dN x.2.2]) (fun x => RPlan (planP x.2.1 (x.2.1.linkDrained x.2.2)))
theorem cal_link_drain (T : Txt K mg C) (F : Def K mg "link_drain" s_link_drain ["network", "link"]) (c_candidates : Cal P w K mg base 5 "candidates" (sp_candidates C)) (c_is_drained : Cal P w K mg base 2 "is_drained" (sp_is_drained C)) (c_shortest_plan : Cal P w K mg base 9 "shortest_plan" (sp_shortest_plan C)) :
    Cal P w K mg base 10 "link_drain" (sp_link_drain C) := by
  refine cal_mk F sc_link_drain (SpR.len fun _ => rfl) (fun f cdv A outer s H vs Q E hr h => ⟨_, (pss_cons (ps_setLc (i := 2) (own := [("one", 3)]) (g := gName 3) (tt := _) rfl sc_link_drain.nd rfl rfl (sw_true rfl rfl rfl (by decide +kernel)) (pi_list (pe_cal c_candidates hr (by decide) (by rfl) (pa_cons (pv 0) pa_nil))) (blkOk_by (own := [("one", 3)]) (N := N_link_drain) (sc := defScope s_link_drain) (by decide +kernel)) (fun _ _ _ _ _ => pg_name (i := 3) sc_link_drain.nd rfl (Or.inl rfl)) (fun _ _ _ _ _ => pts_one (pt_val (pe_cal c_is_drained hr (by decide) (by rfl) (pa_cons (pv 0) (pa_cons (pv 3) (pa_cons (pv 1) pa_nil)))))) (fun _ _ _ _ _ => (pv 3)))
    (pss_one (ps_ret (pe_cal c_shortest_plan hr (by decide) (by rfl) (pa_cons (pv 0) (pa_cons (pv 2) pa_nil)))))), ?_⟩)
  obtain ⟨⟨a, n, l⟩, N, hv, kq⟩ := h
  dsimp only at N hv kq
  obtain ⟨v1, v2, rfl, h1, h2⟩ := is2 hv
  cases val_eq h1
  cases val_eq h2
  have h243 := feas_243 N.wf
  have G := tgt_filter N.wf (fun s => !(n.isUsed s l))
  refine rq_asg (en_lcL (l := n.feasibleAssignments) (gd := dA) (fun s => !(n.isUsed s l)) dA (EvR.ofRN (er_call (a, n) (eds_cons (ed_v rfl) eds_nil) (fun _ e => N.mono e) back_N)) (by omega) (fun _ => rfl)
    (fun s hs x H1 e hx => et_B (ev_of (er_call (a, n, s, l) (eds_cons (ed_v rfl) (eds_cons (ed_var rfl hx) (eds_cons (ed_v rfl) eds_nil))) (fun _ e' => ⟨(N.mono e).mono e', (mem_feas.mp hs).sh⟩) back_D)))
    (fun s hs x H1 e hx _ => e0_var rfl (is_dA0 hx))) fun v H1 e1 r1 => ?_
  obtain ⟨p, vs, rfl, _, hp, hvs⟩ := r1
  exact r_ret (er_call (a, n, n.linkDrained l) (eds_cons (ed_v rfl) (eds_cons (ed_var rfl (isO_lst.mpr ⟨p, vs, rfl, True.intro, hp, hvs.all⟩)) eds_nil)) (fun _ e => ⟨(N.mono e1).mono e, G⟩) back_Plan) fun v H2 e2 r => kq v H2 (e1.trans e2) (back_Plan _ _ _ _ e1 r)
abbrev s_plan_link_drain : Stmt := topS 52
abbrev N_plan_link_drain : List Str := ["network", "plain", "given"]
theorem sc_plan_link_drain : FnScope N_plan_link_drain ["network", "plain", "given"] (defScope s_plan_link_drain) := ⟨rfl, rfl, rfl, by decide +kernel, rfl, by decide +kernel, by decide +kernel⟩
theorem cal_plan_link_drain (T : Txt K mg C) (F : Def K mg "plan_link_drain" s_plan_link_drain ["network", "plain", "given"]) (c_has_link : Cal P w K mg base 1 "has_link" (sp_has_link C)) (c_link_drain : Cal P w K mg base 10 "link_drain" (sp_link_drain C)) (c_plan_told : Cal P w K mg base 2 "plan_told" sp_plan_told) :
    Cal P w K mg base 11 "plan_link_drain" (sp_q C 1 fun p _ => .planLinkDrain (p.getD 0 0)) := by
  refine cal_mk F sc_plan_link_drain (SpR.len fun _ => rfl) (fun f cdv A outer s H vs Q E hr h => ⟨_, (pss_cons (ps_if (pt_not (pt_val (pe_cal c_has_link hr (by decide) (by rfl) (pa_cons (pv 0) (pa_cons (pe_ix ix_list (pv 1) pe_int (fun _ _ => rfl)) pa_nil)))))
      (pss_one (ps_ret (pe_lst (pa_cons (pe_un un_neg pe_int) pa_nil))))
      pss_nil)
    (pss_one (ps_ret (pe_cal c_plan_told hr (by decide) (by rfl) (pa_cons (pe_cal c_link_drain hr (by decide) (by rfl) (pa_cons (pv 0) (pa_cons (pe_ix ix_list (pv 1) pe_int (fun _ _ => rfl)) pa_nil))) pa_nil))))), ?_⟩)
  obtain ⟨⟨a, n, pl, gv⟩, ⟨N, hpl, hgv⟩, hv, kq⟩ := h
  dsimp only at N hpl hgv hv kq
  obtain ⟨v1, v2, v3, rfl, h1, h2, h3⟩ := is3 hv
  cases val_eq h1
  have kq2 : ∀ v H', Ex H H' → RN ((ans (if n.links.length ≤ pl.getD 0 0 then (n, Su203.error (-2)) else (n, n.planResult (n.linkDrained (pl.getD 0 0)))).2).map dI) H v H' → Q v H' := kq
  refine q_when (et_not (et_B (ev_of (er_call (a, n, pl.getD 0 0) (eds_cons (ed_v rfl) (eds_cons (ed_p0 (ed_var rfl h2) (by omega)) eds_nil)) (fun _ e => N.mono e) back_D)))) (fun hb H1 e1 => ?_) (fun hb H1 e1 => ?_)
  · rw [Bool.not_eq_true'] at hb
    have hb := of_decide_eq_false hb
    rw [if_pos (Nat.le_of_not_lt hb)] at kq2
    exact r_ret (en_err 2) fun v H2 e2 r => kq2 v H2 (e1.trans e2) (back_N _ _ _ _ e1 r)
  · rw [Bool.not_eq_false'] at hb
    have hb := of_decide_eq_true hb
    rw [if_neg (Nat.not_le_of_lt hb)] at kq2
    have G : Tgt n (n.linkDrained (pl.getD 0 0)) := tgt_filter N.wf _
    exact r_ret (er_call (planP n (n.linkDrained (pl.getD 0 0))) (eds_cons (erd_plan (er_call (a, n, pl.getD 0 0) (eds_cons (ed_v rfl) (eds_cons (ed_p0 (ed_var rfl (IsO.ex e1 h2)) (by omega)) eds_nil)) (fun _ e => (N.mono e1).mono e) back_Plan)) eds_nil) (fun _ _ => plan_le N.wf G) back_N) fun v H2 e2 r => kq2 v H2 (e1.trans e2) (back_N _ _ _ _ e1 (rn_ans (planResult_eq _) r))
abbrev s_plan_node_drain : Stmt := topS 53
abbrev N_plan_node_drain : List Str := ["network", "plain", "given", "node", "targets", "one"]
theorem sc_plan_node_drain : FnScope N_plan_node_drain ["network", "plain", "given"] (defScope s_plan_node_drain) := ⟨rfl, rfl, rfl, by decide +kernel, rfl, by decide +kernel, by decide +kernel⟩
theorem cal_plan_node_drain (T : Txt K mg C) (F : Def K mg "plan_node_drain" s_plan_node_drain ["network", "plain", "given"]) (c_candidates : Cal P w K mg base 5 "candidates" (sp_candidates C)) (c_has_node : Cal P w K mg base 1 "has_node" (sp_has_node C)) (c_is_node_drained : Cal P w K mg base 3 "is_node_drained" (sp_is_node_drained C)) (c_plan_told : Cal P w K mg base 2 "plan_told" sp_plan_told) (c_shortest_plan : Cal P w K mg base 9 "shortest_plan" (sp_shortest_plan C)) :
    Cal P w K mg base 10 "plan_node_drain" (sp_q C 1 fun p _ => .planNodeDrain (p.getD 0 0)) := by
  refine cal_mk F sc_plan_node_drain (SpR.len fun _ => rfl) (fun f cdv A outer s H vs Q E hr h => ⟨_, (pss_cons (ps_set (i := 3) sc_plan_node_drain.nd rfl (Or.inr rfl) (pe_ix ix_list (pv 1) pe_int (fun _ _ => rfl)))
    (pss_cons (ps_if (pt_not (pt_val (pe_cal c_has_node hr (by decide) (by rfl) (pa_cons (pv 0) (pa_cons (pv 3) pa_nil)))))
      (pss_one (ps_ret (pe_lst (pa_cons (pe_un un_neg pe_int) pa_nil))))
      pss_nil)
    (pss_cons (ps_setLc (i := 4) (own := [("one", 5)]) (g := gName 5) (tt := _) rfl sc_plan_node_drain.nd rfl rfl (sw_true rfl rfl rfl (by decide +kernel)) (pi_list (pe_cal c_candidates hr (by decide) (by rfl) (pa_cons (pv 0) pa_nil))) (blkOk_by (own := [("one", 5)]) (N := N_plan_node_drain) (sc := defScope s_plan_node_drain) (by decide +kernel)) (fun _ _ _ _ _ => pg_name (i := 5) sc_plan_node_drain.nd rfl (Or.inl rfl)) (fun _ _ _ _ _ => pts_one (pt_val (pe_cal c_is_node_drained hr (by decide) (by rfl) (pa_cons (pv 0) (pa_cons (pv 5) (pa_cons (pv 3) pa_nil)))))) (fun _ _ _ _ _ => (pv 5)))
    (pss_one (ps_ret (pe_cal c_plan_told hr (by decide) (by rfl) (pa_cons (pe_cal c_shortest_plan hr (by decide) (by rfl) (pa_cons (pv 0) (pa_cons (pv 4) pa_nil))) pa_nil))))))), ?_⟩)
  obtain ⟨⟨a, n, pl, gv⟩, ⟨N, hpl, hgv⟩, hv, kq⟩ := h
  dsimp only at N hpl hgv hv kq
  obtain ⟨v1, v2, v3, rfl, h1, h2, h3⟩ := is3 hv
  cases val_eq h1
  have h243 := feas_243 N.wf
  have kq2 : ∀ v H', Ex H H' → RN ((ans (if n.nodes ≤ pl.getD 0 0 then (n, Su203.error (-2)) else (n, n.planResult (n.nodeDrained (pl.getD 0 0)))).2).map dI) H v H' → Q v H' := kq
  refine rq_asg (ed_p0 (ed_var rfl h2) (by omega)) fun v4 H1 e1 r4 => ?_
  cases val_eq r4
  refine q_when (et_not (et_B (ev_of (er_call (a, n, pl.getD 0 0) (eds_cons (ed_v rfl) (eds_cons (ed_v rfl) eds_nil)) (fun _ e => (N.mono e1).mono e) back_D)))) (fun hb H2 e2 => ?_) (fun hb H2 e2 => ?_)
  · rw [Bool.not_eq_true'] at hb
    have hb := of_decide_eq_false hb
    rw [if_pos (Nat.le_of_not_lt hb)] at kq2
    exact r_ret (en_err 2) fun v H3 e3 r => kq2 v H3 ((e1.trans e2).trans e3) (back_N _ _ _ _ (e1.trans e2) r)
  · rw [Bool.not_eq_false'] at hb
    have hb := of_decide_eq_true hb
    rw [if_neg (Nat.not_le_of_lt hb)] at kq2
    have e12 := e1.trans e2
    generalize hx : pl.getD 0 0 = x at kq2 hb
    have G : Tgt n (n.nodeDrained x) := tgt_filter N.wf _
    refine rq_asg (en_lcL (l := n.feasibleAssignments) (gd := dA) (fun s => (n.linksOfNode x).all fun i => !(n.isUsed s i)) dA (EvR.ofRN (er_call (a, n) (eds_cons (ed_v rfl) eds_nil) (fun _ e => (N.mono e12).mono e) back_N)) (by omega) (fun _ => rfl)
      (fun s hs y H3 e hy => et_B (ev_of (er_call (a, n, s, x) (eds_cons (ed_v rfl) (eds_cons (ed_var rfl hy) (eds_cons (ed_v rfl) eds_nil))) (fun _ e' => ⟨((N.mono e12).mono e).mono e', (mem_feas.mp hs).sh⟩) back_D)))
      (fun s hs y H3 e hy _ => e0_var rfl (is_dA0 hy))) fun v H3 e3 r3 => ?_
    obtain ⟨p, vs, rfl, _, hp, hvs⟩ := r3
    have e13 := e12.trans e3
    exact r_ret (er_call (planP n (n.nodeDrained x)) (eds_cons (erd_plan (er_call (a, n, n.nodeDrained x) (eds_cons (ed_v rfl) (eds_cons (ed_var rfl (isO_lst.mpr ⟨p, vs, rfl, True.intro, hp, hvs.all⟩)) eds_nil)) (fun _ e => ⟨(N.mono e13).mono e, G⟩) back_Plan)) eds_nil) (fun _ _ => plan_le N.wf G) back_N) fun v H4 e4 r => kq2 v H4 (e13.trans e4) (back_N _ _ _ _ e13 (rn_ans (planResult_eq _) r))
/-! ## reachable_count, component_count -/
abbrev s_reachable_count : Stmt := topS 55
abbrev N_reachable_count : List Str := ["network", "plain", "given"]
theorem sc_reachable_count : FnScope N_reachable_count ["network", "plain", "given"] (defScope s_reachable_count) := ⟨rfl, rfl, rfl, by decide +kernel, rfl, by decide +kernel, by decide +kernel⟩
theorem cal_reachable_count (T : Txt K mg C) (F : Def K mg "reachable_count" s_reachable_count ["network", "plain", "given"]) (c_candidates : Cal P w K mg base 5 "candidates" (sp_candidates C)) (c_reachable : Cal P w K mg base 9 "reachable" (sp_reachable C)) : Cal P w K mg base 10 "reachable_count" (sp_q C 0 fun _ _ => .reachableCount) := by
  refine cal_mk F sc_reachable_count (SpR.len fun _ => rfl) (fun f cdv A outer s H vs Q E hr h => ⟨_, (pss_one (ps_ret (pe_lst (pa_cons (pe_callB call_len_seq (by rfl) T.len PySem.boot_len (pa_cons (pe_cal c_reachable hr (by decide) (by rfl) (pa_cons (pv 0) pa_nil)) pa_nil)) (pa_cons (pe_callB call_len_seq (by rfl) T.len PySem.boot_len (pa_cons (pe_cal c_candidates hr (by decide) (by rfl) (pa_cons (pv 0) pa_nil)) pa_nil)) pa_nil))))), ?_⟩)
  obtain ⟨⟨a, n, pl, gv⟩, ⟨N, hpl, hgv⟩, hv, kq⟩ := h
  dsimp only at N hpl hgv hv kq
  obtain ⟨v1, v2, v3, rfl, h1, h2, h3⟩ := is3 hv
  cases val_eq h1
  exact r_ret (eds_ints (l := [n.reachable.length, n.feasibleAssignments.length]) (eds_cons (ed_is (ed_len (EvR.ofRN (er_call (a, n) (eds_cons (ed_v rfl) eds_nil) (fun _ e => N.mono e) back_N))) (by rw [List.length_map])) (eds_cons (ed_is (ed_len (EvR.ofRN (er_call (a, n) (eds_cons (ed_v rfl) eds_nil) (fun _ e => N.mono e) back_N))) (by rw [List.length_map])) eds_nil)) (by show 2 ≤ 100000; decide)) fun v H2 e2 r => kq v H2 e2 (rn_ints rfl r)
abbrev s_component_count : Stmt := topS 56
abbrev N_component_count : List Str := ["network", "plain", "given", "some"]
theorem sc_component_count : FnScope N_component_count ["network", "plain", "given"] (defScope s_component_count) := ⟨rfl, rfl, rfl, by decide +kernel, rfl, by decide +kernel, by decide +kernel⟩
theorem cal_component_count (T : Txt K mg C) (F : Def K mg "component_count" s_component_count ["network", "plain", "given"]) (c_candidates : Cal P w K mg base 5 "candidates" (sp_candidates C)) (c_count_components : Cal P w K mg base 9 "count_components" (sp_count_components C)) : Cal P w K mg base 10 "component_count" (sp_q C 0 fun _ _ => .componentCount) := by
  refine cal_mk F sc_component_count (SpR.len fun _ => rfl) (fun f cdv A outer s H vs Q E hr h => ⟨_, (pss_cons (ps_set (i := 3) sc_component_count.nd rfl (Or.inl rfl) (pe_cal c_candidates hr (by decide) (by rfl) (pa_cons (pv 0) pa_nil)))
    (pss_one (ps_ret (pe_lst (pa_cons (pe_cal c_count_components hr (by decide) (by rfl) (pa_cons (pv 0) (pa_cons (pv 3) pa_nil))) (pa_cons (pe_callB call_len_seq (by rfl) T.len PySem.boot_len (pa_cons (pv 3) pa_nil)) pa_nil)))))), ?_⟩)
  obtain ⟨⟨a, n, pl, gv⟩, ⟨N, hpl, hgv⟩, hv, kq⟩ := h
  dsimp only at N hpl hgv hv kq
  obtain ⟨v1, v2, v3, rfl, h1, h2, h3⟩ := is3 hv
  cases val_eq h1
  refine rq_asg (er_call (a, n) (eds_cons (ed_v rfl) eds_nil) (fun _ e => N.mono e) back_N) fun v H1 e1 r1 => ?_
  obtain ⟨p, vs, rfl, _, hp, hvs⟩ := r1
  have hc : Is H1 (.lst (n.feasibleAssignments.map dA)) (.ref p) := isO_lst.mpr ⟨p, vs, rfl, True.intro, hp, hvs.all⟩
  exact r_ret (eds_ints (l := [n.componentCount (n.feasibleAssignments.length + 1) n.feasibleAssignments, n.feasibleAssignments.length]) (eds_cons (er_call (a, n) (eds_cons (ed_v rfl) (eds_cons (ed_var rfl hc) eds_nil)) (fun _ e => (N.mono e1).mono e) back_D) (eds_cons (ed_is (ed_len (ed_var rfl hc)) (by rw [List.length_map])) eds_nil)) (by show 2 ≤ 100000; decide)) fun v H2 e2 r => kq v H2 (e1.trans e2) (back_N _ _ _ _ e1 (rn_ints rfl r))
/-! ## is_stuck, stuck_flows -/
abbrev s_is_stuck : Stmt := topS 57
abbrev N_is_stuck : List Str := ["network", "some", "flow", "link", "one"]
theorem sc_is_stuck : FnScope N_is_stuck ["network", "some", "flow", "link"] (defScope s_is_stuck) := ⟨rfl, rfl, rfl, by decide +kernel, rfl, by decide +kernel, by decide +kernel⟩
abbrev AS := Addr × Network × List (List Nat) × Nat × Nat
abbrev sp_is_stuck (C : Addr) : Sp := SpR (α := AS) (fun x H => NW C H x.1 x.2.1 ∧ (∀ s ∈ x.2.2.1, Shaped x.2.1 s) ∧ x.2.2.1.length ≤ 1000 ∧ x.2.2.2.1 < x.2.1.flows.length) (fun x => [.val (.ref x.1), .lst (x.2.2.1.map dA), dN x.2.2.2.1, dN x.2.2.2.2])
  (fun x => RD (.val (.bl (x.2.2.1.all fun s => (x.2.1.usedLinks x.2.2.2.1 (s.getD x.2.2.2.1 0)).contains x.2.2.2.2))))
theorem cal_is_stuck (T : Txt K mg C) (F : Def K mg "is_stuck" s_is_stuck ["network", "some", "flow", "link"]) (c_links_used : Cal P w K mg base 1 "links_used" (sp_links_used C)) : Cal P w K mg base 2 "is_stuck" (sp_is_stuck C) := by
  refine cal_mk F sc_is_stuck (SpR.len fun _ => rfl) (fun f cdv A outer s H vs Q E hr h => ⟨_, (pss_one (ps_ret (pe_callB (cr_all rfl) (by rfl) T.all (by decide +kernel) (pa_cons (pe_lc (own := [("one", 4)]) (g := gName 4) (tt := tYes) rfl sc_is_stuck.nd (pi_list (pv 1)) (blkOk_by (own := [("one", 4)]) (N := N_is_stuck) (sc := defScope s_is_stuck) (by decide +kernel)) (fun _ _ _ _ _ => pg_name (i := 4) sc_is_stuck.nd rfl (Or.inl rfl)) (fun _ _ _ _ _ => pts_nil) (fun _ _ _ _ _ => (pe_cmpR (op_inK (K := K) rfl) (pv 3) (pe_cal c_links_used hr (by decide) (by rfl) (pa_cons (pv 0) (pa_cons (pv 4) (pa_cons (pv 2) pa_nil)))) (by rfl)))) pa_nil)))), ?_⟩)
  obtain ⟨⟨a, n, ss, f, l⟩, ⟨N, hss, hsl, hf⟩, hv, kq⟩ := h
  dsimp only at N hss hsl hf hv kq
  obtain ⟨v1, v2, v3, v4, rfl, h1, h2, h3, h4⟩ := is4 hv
  cases val_eq h1
  cases val_eq h3
  cases val_eq h4
  have z := en_lcL (K := K) (t := tYes) (σ := [some (.ref a), some v2, some (vN f), some (vN l), none]) (H := H) (tl := tVar 1) (te := tOp (rIn K false) (tVar 3) (tCall (sp_links_used C) [] E0 (tCons (tVar 0) (tCons (tVar 4) (tCons (tVar 2) tNil))))) (ws := [4]) (j := 4) (l := ss) (gd := dA) (fun _ => true) (fun s => .val (.bl ((n.usedLinks f (s.getD f 0)).contains l))) (ed_var rfl h2) (by omega) (fun _ => rfl)
    (fun s hs x H1 e hx => et_yes) (fun s hs x H1 e hx _ => e0_of (ev_in (l := n.usedLinks f (s.getD f 0)) (ed_v rfl) (er_call (a, n, s, f) (eds_cons (ed_v rfl) (eds_cons (ed_var rfl hx) (eds_cons (ed_v rfl) eds_nil))) (fun _ e' => ⟨(N.mono e).mono e', hss s hs, hf⟩) back_D)))
  rw [List.filter_eq_self.mpr (fun _ _ => rfl)] at z
  refine r_ret (ed_of (ev_all (bs := ss.map fun s => (n.usedLinks f (s.getD f 0)).contains l) (ed_is z.ofRN (by rw [List.map_map]; rfl)))) fun v H2 e2 r => kq v H2 e2 ?_
  rw [List.all_map] at r
  exact r
abbrev s_stuck_flows : Stmt := topS 58
abbrev N_stuck_flows : List Str := ["network", "plain", "given", "link", "some", "stuck", "flow"]
theorem sc_stuck_flows : FnScope N_stuck_flows ["network", "plain", "given"] (defScope s_stuck_flows) := ⟨rfl, rfl, rfl, by decide +kernel, rfl, by decide +kernel, by decide +kernel⟩
theorem cal_stuck_flows (T : Txt K mg C) (F : Def K mg "stuck_flows" s_stuck_flows ["network", "plain", "given"]) (c_has_link : Cal P w K mg base 1 "has_link" (sp_has_link C)) (c_is_stuck : Cal P w K mg base 2 "is_stuck" (sp_is_stuck C)) (c_reachable : Cal P w K mg base 9 "reachable" (sp_reachable C)) : Cal P w K mg base 10 "stuck_flows" (sp_q C 1 fun p _ => .stuckFlows (p.getD 0 0)) := by
  refine cal_mk F sc_stuck_flows (SpR.len fun _ => rfl) (fun f cdv A outer s H vs Q E hr h => ⟨_, (pss_cons (ps_set (i := 3) sc_stuck_flows.nd rfl (Or.inr rfl) (pe_ix ix_list (pv 1) pe_int (fun _ _ => rfl)))
    (pss_cons (ps_if (pt_not (pt_val (pe_cal c_has_link hr (by decide) (by rfl) (pa_cons (pv 0) (pa_cons (pv 3) pa_nil)))))
      (pss_one (ps_ret (pe_lst (pa_cons (pe_un un_neg pe_int) pa_nil))))
      pss_nil)
    (pss_cons (ps_set (i := 4) sc_stuck_flows.nd rfl (Or.inr rfl) (pe_cal c_reachable hr (by decide) (by rfl) (pa_cons (pv 0) pa_nil)))
    (pss_cons (ps_setLc (i := 5) (own := [("flow", 6)]) (g := gName 6) (tt := _) rfl sc_stuck_flows.nd rfl rfl (sw_true rfl rfl rfl (by decide +kernel)) (pi_range1 (by rfl) T.range (pa_cons (pe_callB call_len_seq (by rfl) T.len PySem.boot_len (pa_cons (pe_fld (pv 0) rfl) pa_nil)) pa_nil)) (blkOk_by (own := [("flow", 6)]) (N := N_stuck_flows) (sc := defScope s_stuck_flows) (by decide +kernel)) (fun _ _ _ _ _ => pg_name (i := 6) sc_stuck_flows.nd rfl (Or.inl rfl)) (fun _ _ _ _ _ => pts_one (pt_val (pe_cal c_is_stuck hr (by decide) (by rfl) (pa_cons (pv 0) (pa_cons (pv 4) (pa_cons (pv 6) (pa_cons (pv 3) pa_nil))))))) (fun _ _ _ _ _ => (pv 6)))
    (pss_one (ps_ret (pe_op op_cat (pe_lst (pa_cons (pe_callB call_len_seq (by rfl) T.len PySem.boot_len (pa_cons (pv 5) pa_nil)) pa_nil)) (pv 5)))))))), ?_⟩)
  obtain ⟨⟨a, n, pl, gv⟩, ⟨N, hpl, hgv⟩, hv, kq⟩ := h
  dsimp only at N hpl hgv hv kq
  obtain ⟨v1, v2, v3, rfl, h1, h2, h3⟩ := is3 hv
  cases val_eq h1
  have hnf := N.wf.nf
  generalize hx : pl.getD 0 0 = x at kq
  have kq2 : ∀ v H', Ex H H' → RN ((ans (if n.links.length ≤ x then (n, Su203.error (-2)) else (n, Su203.okList (n.stuckFlows x))).2).map dI) H v H' → Q v H' := kq
  refine rq_asg (ed_p0 (ed_var rfl h2) (by omega)) fun v4 H1 e1 r4 => ?_
  rw [hx] at r4
  cases val_eq r4
  refine q_when (et_not (et_B (ev_of (er_call (a, n, x) (eds_cons (ed_v rfl) (eds_cons (ed_v rfl) eds_nil)) (fun _ e => (N.mono e1).mono e) back_D)))) (fun hb H2 e2 => ?_) (fun hb H2 e2 => ?_)
  · rw [Bool.not_eq_true'] at hb
    have hb := of_decide_eq_false hb
    rw [if_pos (Nat.le_of_not_lt hb)] at kq2
    exact r_ret (en_err 2) fun v H3 e3 r => kq2 v H3 ((e1.trans e2).trans e3) (back_N _ _ _ _ (e1.trans e2) r)
  · rw [Bool.not_eq_false'] at hb
    have hb := of_decide_eq_true hb
    rw [if_neg (Nat.not_le_of_lt hb)] at kq2
    have e12 := e1.trans e2
    refine rq_asg (er_call (a, n) (eds_cons (ed_v rfl) eds_nil) (fun _ e => (N.mono e12).mono e) back_N) fun v H3 e3 r3 => ?_
    obtain ⟨p, vs, rfl, _, hp, hvs⟩ := r3
    have hr3 : Is H3 (.lst (n.reachable.map dA)) (.ref p) := isO_lst.mpr ⟨p, vs, rfl, True.intro, hp, hvs.all⟩
    have e13 := e12.trans e3
    have G := tgt_one N.wf.cand
    have hrk : n.reachable = keys (kn n [n.assignment] (n.feasibleAssignments.length + 1)) := layers_flat G.nd G.cand (lay_of_pl G.nd (pl_stop G.nd G.cand (Nat.le_refl _)))
    have hrl : n.reachable.length ≤ 1000 := by
      rw [hrk]
      unfold keys
      rw [List.length_map]
      exact Nat.le_trans (kn_le G.nd G.cand N.wf _) (by decide)
    have hrs : ∀ s ∈ n.reachable, Shaped n s := fun s hs => by
      rw [hrk, keys_seen] at hs
      exact (seen_cand G.cand _ s hs).sh
    refine rq_asg (en_lcR (n := n.flows.length) (fun f => n.reachable.all fun s => (n.usedLinks f (s.getD f 0)).contains x) dN (eva_1 (ed_nflows T (N.net.mono e13) rfl)) (by omega) (fun _ => rfl)
      (fun i H4 e hi => et_B (ev_of (er_call (a, n, n.reachable, i, x) (eds_cons (ed_v rfl) (eds_cons (ed_var rfl (IsO.ex e hr3)) (eds_cons (ed_v rfl) (eds_cons (ed_v rfl) eds_nil)))) (fun _ e' => ⟨((N.mono e13).mono e).mono e', hrs, hrl, hi⟩) back_D)))
      (fun i H4 e hi _ => e0_ofD (ed_v rfl))) fun v H4 e4 r4 => ?_
    obtain ⟨p2, vs2, rfl, hn2, hp2, hvs2⟩ := r4
    have hst : (List.range n.flows.length).filter (fun f => n.reachable.all fun s => (n.usedLinks f (s.getD f 0)).contains x) = n.stuckFlows x := rfl
    rw [hst] at hvs2
    have hlen : (n.stuckFlows x).length ≤ 5 := by
      rw [← hst]
      have := List.length_filter_le (fun f => n.reachable.all fun s => (n.usedLinks f (s.getD f 0)).contains x) (List.range n.flows.length)
      rw [List.length_range] at this
      omega
    have e14 := e13.trans e4
    have hL : Is H4 (.lst ((n.stuckFlows x).map dN)) (.ref p2) := isO_lst.mpr ⟨p2, vs2, rfl, True.intro, hp2, hvs2.all⟩
    refine r_ret (R := RN (((n.stuckFlows x).length :: n.stuckFlows x).map dN)) ?_ fun v H5 e5 r => kq2 v H5 (e14.trans e5) (back_N _ _ _ _ e14 (rn_ints rfl r))
    intro H5 e5 Q' q'
    refine eds_ints (l := [(n.stuckFlows x).length]) (eds_cons (ed_is (ed_len (ed_var rfl hL)) (by rw [List.length_map])) eds_nil) (by show 1 ≤ 100000; decide) H5 e5 _ fun w6 H6 e6 r6 => ?_
    obtain ⟨p3, vs3, rfl, hn3, hp3, hvs3⟩ := r6
    rw [isOL_nats.mp hvs3] at hp3
    rw [isOL_nats.mp hvs2] at hp2
    refine ⟨.ref p2, rfl, p3, p2, _, _, rfl, rfl, hp3, e6 _ _ (e5 _ _ hp2), ?_, fun l' hl' => q' _ _ (e6.trans (Ex.new hl')) ⟨l', _, rfl, fresh_back e6 hl', upd_same, ?_⟩⟩
    · rw [List.length_map, List.length_map, sizeLine_eq]
      show 1 + _ ≤ _
      omega
    · rw [← List.map_append]
      exact isOL_nats.mpr rfl
/-! ## flow_paths -/
abbrev s_flow_paths : Stmt := topS 59
abbrev N_flow_paths : List Str := ["network", "plain", "given", "flow", "told", "nodes"]
theorem sc_flow_paths : FnScope N_flow_paths ["network", "plain", "given"] (defScope s_flow_paths) := ⟨rfl, rfl, rfl, by decide +kernel, rfl, by decide +kernel, by decide +kernel⟩
theorem cal_flow_paths (T : Txt K mg C) (F : Def K mg "flow_paths" s_flow_paths ["network", "plain", "given"]) (c_has_flow : Cal P w K mg base 1 "has_flow" (sp_has_flow C)) : Cal P w K mg base 2 "flow_paths" (sp_q C 1 fun p _ => .flowPaths (p.getD 0 0)) := by
  refine cal_mk F sc_flow_paths (SpR.len fun _ => rfl) (fun f cdv A outer s H vs Q E hr h => ⟨_, (pss_cons (ps_set (i := 3) sc_flow_paths.nd rfl (Or.inl rfl) (pe_ix ix_list (pv 1) pe_int (fun _ _ => rfl)))
    (pss_cons (ps_if (pt_not (pt_val (pe_cal c_has_flow hr (by decide) (by rfl) (pa_cons (pv 0) (pa_cons (pv 3) pa_nil)))))
      (pss_one (ps_ret (pe_lst (pa_cons (pe_un un_neg pe_int) pa_nil))))
      pss_nil)
    (pss_cons (ps_set (i := 4) sc_flow_paths.nd rfl (Or.inl rfl) (pe_lst (pa_cons (pe_callB call_len_seq (by rfl) T.len PySem.boot_len (pa_cons (pe_ix ix_list (pe_fld (pv 0) rfl) (pv 3) (fun _ _ => rfl)) pa_nil)) pa_nil)))
    (pss_cons (ps_for PassesOwn.never rfl (pi_list (pe_ix ix_list (pe_fld (pv 0) rfl) (pv 3) (fun _ _ => rfl))) (pg_name (i := 5) sc_flow_paths.nd rfl (Or.inl rfl))
      (pss_cons (ps_expr (pe_bm PySem.F.plainAttrs_list PySem.F.slot_list_append PySem.F.type_list_append mt_append (pv 4) (pa_cons (pe_callB call_len_seq (by rfl) T.len PySem.boot_len (pa_cons (pv 5) pa_nil)) pa_nil)))
      (pss_one (ps_expr (pe_bm PySem.F.plainAttrs_list PySem.F.slot_list_extend PySem.F.type_list_extend mt_extend (pv 4) (pa_cons (pv 5) pa_nil))))))
    (pss_one (ps_ret (pv 4))))))), ?_⟩)
  obtain ⟨⟨a, n, pl, gv⟩, ⟨N, hpl, hgv⟩, hv, kq⟩ := h
  dsimp only at N hpl hgv hv kq
  obtain ⟨v1, v2, v3, rfl, h1, h2, h3⟩ := is3 hv
  cases val_eq h1
  generalize hx : pl.getD 0 0 = x at kq
  have kq2 : ∀ v H', Ex H H' → RN ((ans (if n.flows.length ≤ x then (n, Su203.error (-2)) else (n, Su203.ok (n.flow x).pathNodes.length ((n.flow x).pathNodes.flatMap fun l => l.length :: l))).2).map dI) H v H' → Q v H' := kq
  refine rq_asg (ed_p0 (ed_var rfl h2) (by omega)) fun v4 H1 e1 r4 => ?_
  rw [hx] at r4
  cases val_eq r4
  refine q_when (et_not (et_B (ev_of (er_call (a, n, x) (eds_cons (ed_v rfl) (eds_cons (ed_v rfl) eds_nil)) (fun _ e => (N.mono e1).mono e) back_D)))) (fun hb H2 e2 => ?_) (fun hb H2 e2 => ?_)
  · rw [Bool.not_eq_true'] at hb
    have hb := of_decide_eq_false hb
    rw [if_pos (Nat.le_of_not_lt hb)] at kq2
    exact r_ret (en_err 2) fun v H3 e3 r => kq2 v H3 ((e1.trans e2).trans e3) (back_N _ _ _ _ (e1.trans e2) r)
  · rw [Bool.not_eq_false'] at hb
    have hb : x < n.flows.length := of_decide_eq_true hb
    rw [if_neg (Nat.not_le_of_lt hb)] at kq2
    have e12 := e1.trans e2
    have hpl := N.wf.pl _ (flow_mem hb)
    have hnd := N.wf.nd _ (flow_mem hb)
    have key : ∀ H3, Ex H2 H3 → ∀ σ : L2.St, σ[0]? = some (some (.ref a)) → σ[3]? = some (some (vN x)) → EvD (tOp (rIxL K) (tFld K (tVar 0) "paths") (tVar 3)) σ H3 (.lst ((n.flow x).pathNodes.map dNs)) := fun H3 e σ q0 q3 => ed_pathsOf T (N.net.mono (e12.trans e)) q0 (ed_v q3) hb
    -- the flow's list of paths, as it stands ahead of told
    obtain ⟨dx, ve, vc, vf, vp, vr, vs', hA, hE, hC, hFl, hPa, hRo, hAs⟩ := (N.net.mono e12).ex
    obtain ⟨pp, vps, rfl, _, hpp, hpps⟩ := isO_lst.mp hPa
    obtain ⟨vx, hvx, hxx⟩ := hpps.get (i := x) (d := .lst ((n.flow x).pathNodes.map dNs)) (by rw [List.getElem?_map, flow_get hb]; rfl)
    obtain ⟨bg, us, rfl, _, hbg, hus⟩ := isO_lst.mp hxx
    have hlen : us.length = (n.flow x).pathNodes.length := by rw [hus.length, List.length_map]
    have evp : ∀ H3, Ex H2 H3 → ∀ σ : L2.St, σ[0]? = some (some (.ref a)) → σ[3]? = some (some (vN x)) → Ev (tOp (rIxL K) (tFld K (tVar 0) "paths") (tVar 3)) σ H3 (.ref bg) := fun H3 e σ q0 q3 => by
      have z : EvD (tFld K (tVar 0) "paths") σ H3 (.val (.ref pp)) := ed_fld T.cl T.n5 q0 (e _ _ hA) nF_5 (isO_of_val _)
      exact ev_op (ev_of z) (ev_var q3) (rv_ixL (sq_of (e _ _ hpp)) (atI_nt hvx))
    refine rq_asg (eds_ints (l := [(n.flow x).pathNodes.length]) (eds_cons (ed_is (ed_len (key H2 (Ex.refl H2) _ rfl rfl)) (by rw [List.length_map])) eds_nil) (by show 1 ≤ 100000; decide)) fun v H3 e3 r3 => ?_
    obtain ⟨Tl, rfl, L3⟩ := lw_of r3 e3
    have hsz : ∀ i, ((((n.flow x).pathNodes.take i).flatMap fun l => l.length :: l)).length ≤ 9 * (n.flow x).pathNodes.length := fun i => by
      have h1 := flatMap_le 9 (fun l : List Nat => l.length :: l) ((n.flow x).pathNodes.take i) (fun l hl => by
        have := hnd l (List.mem_of_mem_take hl)
        rw [List.length_cons]
        omega)
      have h2 : ((n.flow x).pathNodes.take i).length ≤ (n.flow x).pathNodes.length := by rw [List.length_take]; omega
      omega
    refine q_forL (a := bg) (xs := us) (evp H3 e3 _ rfl rfl) (sq_of (e3 _ _ hbg)) (fun i σ' H' => ∃ y, σ' = [some (.ref a), some v2, some v3, some (vN x), some (.ref Tl), y] ∧ Lw H2 (((n.flow x).pathNodes.length :: ((n.flow x).pathNodes.take i).flatMap fun l => l.length :: l).map dN) Tl H') (fun H4 e4 => ⟨_, rfl, L3.mono e4⟩) (fun i σ' H' _ ⟨_, _, L⟩ => sq_of (L.ex _ _ hbg)) (fun i y σ' H' hy ⟨z, hσ, L⟩ => ?_) (fun σ' H' ⟨z, hσ, L⟩ => ?_)
    · subst hσ
      obtain ⟨d, hd, hdx⟩ := hus.getV hy
      rw [List.getElem?_map] at hd
      obtain ⟨l, hl, rfl⟩ := Option.map_eq_some_iff.mp hd
      have hl8 := hnd l (List.mem_of_getElem? hl)
      have hs1 := hsz i
      refine lwq_app (d := dN l.length) L (ev_var rfl) (e0_ofD (ed_is (ed_len (ed_var rfl (IsO.ex L.ex hdx))) (by rw [List.length_map]))) (by rw [List.length_map, List.length_cons]; omega) fun H4 ⟨tx4, xb4⟩ L4 => ?_
      refine lw_ext (es := l.map dN) L4 (ev_var rfl) (by
        have z := el0_I (te := tVar 5) (σ := [some (.ref a), some v2, some v3, some (vN x), some (.ref Tl), some y]) (H := H4) (xs := l.map vN) (by rw [← dNs_map]; exact ed_var rfl (IsO.ex L4.ex hdx))
        rw [← dNs_map] at z
        exact z) (by rw [List.length_append, List.length_map, List.length_cons, List.length_map]; show _ + 1 + _ ≤ _; omega) fun H5 _ L5 => ⟨_, rfl, ?_⟩
      have e5 : ((n.flow x).pathNodes.length :: ((n.flow x).pathNodes.take (i + 1)).flatMap fun l => l.length :: l).map dN = ((((n.flow x).pathNodes.length :: ((n.flow x).pathNodes.take i).flatMap fun l => l.length :: l).map dN) ++ [dN l.length]) ++ l.map dN := by
        rw [take_succ_get hl, List.flatMap_append, List.flatMap_singleton, ← List.cons_append, List.map_append, List.append_assoc]
        rfl
      rw [e5]
      exact L5
    · subst hσ
      rw [hlen, List.take_length] at L
      exact s_ret (ev_var rfl) fun H4 e4 => lw_ret ((L.mono e4).back e12) fun v H5 e5 r => kq2 v H5 e5 (rn_ints rfl r)
/-! ## active_demand, totals -/
abbrev s_active_demand : Stmt := topS 60
abbrev N_active_demand : List Str := ["network", "total", "flow"]
theorem sc_active_demand : FnScope N_active_demand ["network"] (defScope s_active_demand) := ⟨rfl, rfl, rfl, by decide +kernel, rfl, by decide +kernel, by decide +kernel⟩
def activeD (n : Network) (i : Nat) : Nat := ((List.range i).map fun f => if n.assignment.getD f 0 = 0 then 0 else (n.flow f).demand).sum
abbrev sp_active_demand (C : Addr) : Sp := SpR (α := AW) (fun x H => NW C H x.1 x.2) (fun x => [.val (.ref x.1)]) (fun x => RD (dN (activeD x.2 x.2.flows.length)))
theorem activeD_succ (n : Network) (i : Nat) : activeD n (i + 1) = activeD n i + (if n.assignment.getD i 0 = 0 then 0 else (n.flow i).demand) := by
  unfold activeD
  rw [List.range_succ, List.map_append, List.sum_append]
  simp
theorem cal_active_demand (T : Txt K mg C) (F : Def K mg "active_demand" s_active_demand ["network"]) : Cal P w K mg base 1 "active_demand" (sp_active_demand C) := by
  refine cal_mk F sc_active_demand (SpR.len fun _ => rfl) (fun f cdv A outer s H vs Q E hr h => ⟨_, (pss_cons (ps_set (i := 1) sc_active_demand.nd rfl (Or.inl rfl) pe_int)
    (pss_cons (ps_for PassesOwn.never rfl (pi_range1 (by rfl) T.range (pa_cons (pe_callB call_len_seq (by rfl) T.len PySem.boot_len (pa_cons (pe_fld (pv 0) rfl) pa_nil)) pa_nil)) (pg_name (i := 2) sc_active_demand.nd rfl (Or.inl rfl))
      (pss_one (ps_if (pt_cmpR op_ne (pe_ix ix_tup (pe_fld (pv 0) rfl) (pv 2) (fun _ _ => rfl)) pe_int (nomark _))
        (pss_one (ps_set (i := 1) sc_active_demand.nd rfl (Or.inl rfl) (pe_op op_add (pv 1) (pe_ix ix_tup (pe_ix ix_list (pe_fld (pv 0) rfl) (pv 2) (fun _ _ => rfl)) pe_int (fun _ _ => rfl)))))
        pss_nil)))
    (pss_one (ps_ret (pv 1))))), ?_⟩)
  obtain ⟨⟨a, n⟩, N, hv, kq⟩ := h
  dsimp only at N hv kq
  obtain ⟨v1, rfl, h1⟩ := is1 hv
  cases val_eq h1
  have hnf := N.wf.nf
  have hla := N.wf.la
  refine q_asg ev_c fun H1 e1 => ?_
  refine wq_range (ed_nflows T (N.net.mono e1) rfl) (by omega) (fun i σ' => ∃ x, σ' = [some (.ref a), some (vN (activeD n i)), x]) ⟨_, rfl⟩ (fun i σ' H' hi ⟨x, hσ⟩ e2 Nx hN => ?_) (fun σ' H' ⟨x, hσ⟩ e2 => ?_)
  · subst hσ
    have e12 := e1.trans e2
    refine s_when (et_ne (j := 0) (ed_sAt (ed_asg T (N.net.mono e12) rfl) (ed_v rfl) (by omega)) ed_c rfl) (fun hb H3 e3 => ?_) (fun hb H3 e3 => ?_)
    · have h0 := of_decide_eq_true hb
      refine r_asg (ed_add (ed_v rfl) (ed_demand T (N.net.mono (e12.trans e3)) rfl (ed_v rfl) hi)) fun v H4 e4 r4 => ?_
      cases val_eq r4
      exact hN _ _ ⟨some (vN i), by rw [activeD_succ, if_neg h0]; rfl⟩ (e3.trans e4)
    · have h0 : n.assignment.getD i 0 = 0 := by
        have := of_decide_eq_false hb
        omega
      exact hN _ _ ⟨some (vN i), by rw [activeD_succ, if_pos h0]; rfl⟩ e3
  · subst hσ
    exact r_ret (ed_v rfl) fun v H3 e3 r => kq v H3 ((e1.trans e2).trans e3) r
abbrev s_totals : Stmt := topS 61
abbrev N_totals : List Str := ["network", "plain", "given"]
theorem sc_totals : FnScope N_totals ["network", "plain", "given"] (defScope s_totals) := ⟨rfl, rfl, rfl, by decide +kernel, rfl, by decide +kernel, by decide +kernel⟩
theorem cal_totals (T : Txt K mg C) (F : Def K mg "totals" s_totals ["network", "plain", "given"]) (c_active_demand : Cal P w K mg base 1 "active_demand" (sp_active_demand C)) : Cal P w K mg base 2 "totals" (sp_q C 0 fun _ _ => .totals) := by
  refine cal_mk F sc_totals (SpR.len fun _ => rfl) (fun f cdv A outer s H vs Q E hr h => ⟨_, (pss_one (ps_ret (pe_lst (pa_cons (pe_fld (pv 0) rfl) (pa_cons (pe_callB call_len_seq (by rfl) T.len PySem.boot_len (pa_cons (pe_fld (pv 0) rfl) pa_nil)) (pa_cons (pe_callB call_len_seq (by rfl) T.len PySem.boot_len (pa_cons (pe_fld (pv 0) rfl) pa_nil)) (pa_cons (pe_cal c_active_demand hr (by decide) (by rfl) (pa_cons (pv 0) pa_nil)) pa_nil))))))), ?_⟩)
  obtain ⟨⟨a, n, pl, gv⟩, ⟨N, hpl, hgv⟩, hv, kq⟩ := h
  dsimp only at N hpl hgv hv kq
  obtain ⟨v1, v2, v3, rfl, h1, h2, h3⟩ := is3 hv
  cases val_eq h1
  exact r_ret (eds_ints (l := [n.nodes, n.links.length, n.flows.length, activeD n n.flows.length]) (eds_cons (ed_node_count T N.net rfl) (eds_cons (ed_nends T N.net rfl) (eds_cons (ed_nflows T N.net rfl) (eds_cons (er_call (a, n) (eds_cons (ed_v rfl) eds_nil) (fun _ e => N.mono e) back_D) eds_nil)))) (by show 4 ≤ 100000; decide)) fun v H2 e2 r => kq v H2 e2 (rn_ints rfl r)
end
end FL

namespace FL
open PySem PySem.Spec PyProof.Rows L2 Evl FM
open Su203 (Network Link)

/-! ### the network in the heap, with where its lists stand: lab tells the kind of an address -/
def EndsAt (H : Hp) (e : Addr) (ls : List Link) : Prop := ∃ vs, H e = some (.lst vs) ∧ Is0L H (ls.map fun l => .tup [dN l.endA, dN l.endB]) vs
def CapsAt (H : Hp) (c : Addr) (ls : List Link) : Prop := H c = some (.lst (ls.map fun l => vN l.capacity))
def FlowsAt (H : Hp) (f : Addr) (fs : List Su203.Flow) : Prop := ∃ vs, H f = some (.lst vs) ∧ Is0L H (fs.map fun f => .tup [dN f.source, dN f.destination, dN f.demand]) vs
def TabAt (lab : Addr → Nat) (k : Nat) (H : Hp) (p : Addr) (ts : List (List (List Nat))) : Prop := ∃ vs, H p = some (.lst vs) ∧ vs.length = ts.length ∧
  ∀ i t, ts[i]? = some t → ∃ b ws, vs[i]? = some (.ref b) ∧ lab b = k + 2 * i ∧ H b = some (.lst ws) ∧ IsOL (fun q => lab q = 6) H (t.map dNs) ws
structure NetAd where
  dx : Addr
  e : Addr
  c : Addr
  f : Addr
  p : Addr
  r : Addr
  s : V
/-- part by part: the parts may be changed one after another -/
structure NetR (C : Addr) (lab : Addr → Nat) (H : Hp) (a : Addr) (nd : Nat) (le lc : List Link) (fs : List Su203.Flow) (ps rs : List (List (List Nat))) (s : List Nat) (A : NetAd) : Prop where
  obj : H a = some (.ins C A.dx (nF (vN nd) (.ref A.e) (.ref A.c) (.ref A.f) (.ref A.p) (.ref A.r) A.s))
  ka : lab a = 7
  ke : lab A.e = 1
  kc : lab A.c = 2
  kf : lab A.f = 3
  kp : lab A.p = 4
  kr : lab A.r = 5
  ends : EndsAt H A.e le
  caps : CapsAt H A.c lc
  flows : FlowsAt H A.f fs
  paths : TabAt lab 10 H A.p ps
  routes : TabAt lab 11 H A.r rs
  asg : Is0 H (dA s) A.s
abbrev NetAt (C : Addr) (lab : Addr → Nat) (H : Hp) (a : Addr) (n : Network) (A : NetAd) : Prop := NetR C lab H a n.nodes n.links n.links n.flows (n.flows.map (·.pathNodes)) (n.flows.map (·.pathLinks)) n.assignment A
/-- what a step leaves: known kinds, foreign objects, tuples; all that stood stands in some form -/
structure Go (lab lab' : Addr → Nat) (H H' : Hp) : Prop where
  lb : ∀ b o, H b = some o → lab' b = lab b
  fr : ∀ b o, H b = some o → lab b = 0 → H' b = some o
  tx : Tx H H'
  th : ∀ b o, H b = some o → ∃ o', H' b = some o'
theorem Go.ex {lab : Addr → Nat} {H H' : Hp} (e : Ex H H') : Go lab lab H H' := ⟨fun _ _ _ => rfl, fun b o h _ => e b o h, Tx.of e, fun b o h => ⟨o, e b o h⟩⟩
theorem Go.trans {lab lab1 lab2 : Addr → Nat} {H H1 H2 : Hp} (a : Go lab lab1 H H1) (b : Go lab1 lab2 H1 H2) : Go lab lab2 H H2 :=
  ⟨fun q o h => by obtain ⟨o', h'⟩ := a.th q o h; rw [b.lb q o' h', a.lb q o h], fun q o h h0 => b.fr q o (a.fr q o h h0) (by rw [a.lb q o h]; exact h0), a.tx.trans b.tx, fun q o h => by
    obtain ⟨o', h'⟩ := a.th q o h
    exact b.th q o' h'⟩
theorem Go.upd {lab : Addr → Nat} {H : Hp} {x : Addr} {o : HO} (hx : lab x ≠ 0) (ht : ∀ xs, H x ≠ some (.tup xs)) : Go lab lab H (upd H x o) :=
  ⟨fun _ _ _ => rfl, fun b u h h0 => by rw [upd_ne (show b ≠ x from fun z => hx (by rw [← z]; exact h0))]; exact h, Tx.upd ht, fun b u h => by
    by_cases z : b = x
    · subst z; exact ⟨o, upd_same⟩
    · exact ⟨u, by rw [upd_ne z]; exact h⟩⟩
/-- a new address is told its kind -/
def relab (lab : Addr → Nat) (b : Addr) (k : Nat) : Addr → Nat := fun q => if q = b then k else lab q
theorem relab_old {lab : Addr → Nat} {b : Addr} {k : Nat} {H : Hp} (hb : H b = none) : ∀ q o, H q = some o → relab lab b k q = lab q := fun q o h => if_neg fun z => by rw [z, hb] at h; cases h
theorem relab_new {lab : Addr → Nat} {b : Addr} {k : Nat} : relab lab b k b = k := if_pos rfl
theorem Go.lab {lab : Addr → Nat} {H : Hp} {b : Addr} {k : Nat} (hb : H b = none) : Go lab (relab lab b k) H H := ⟨relab_old hb, fun _ _ h _ => h, Tx.refl, fun _ o h => ⟨o, h⟩⟩

section
variable {C : Addr} {lab lab' : Addr → Nat} {H H' : Hp} {a x : Addr} {o : HO} {A : NetAd} {ls : List Link} {ts : List (List (List Nat))} {k : Nat} {p : Addr} {nd : Nat} {le lc : List Link} {fs : List Su203.Flow} {ps rs : List (List (List Nat))} {s : List Nat}
theorem EndsAt.ex (e : Ex H H') (h : EndsAt H p ls) : EndsAt H' p ls := by
  obtain ⟨vs, h1, h2⟩ := h
  exact ⟨vs, e _ _ h1, IsOL.ex e h2⟩
theorem FlowsAt.ex (e : Ex H H') (h : FlowsAt H p fs) : FlowsAt H' p fs := by
  obtain ⟨vs, h1, h2⟩ := h
  exact ⟨vs, e _ _ h1, IsOL.ex e h2⟩
theorem TabAt.ex (e : Ex H H') (h : TabAt lab k H p ts) : TabAt lab k H' p ts := by
  obtain ⟨vs, h1, h2, h3⟩ := h
  refine ⟨vs, e _ _ h1, h2, fun i t ht => ?_⟩
  obtain ⟨b, ws, q1, q2, q3, q4⟩ := h3 i t ht
  exact ⟨b, ws, q1, q2, e _ _ q3, IsOL.ex e q4⟩
theorem NetR.ex (e : Ex H H') (h : NetR C lab H a nd le lc fs ps rs s A) : NetR C lab H' a nd le lc fs ps rs s A :=
  ⟨e _ _ h.obj, h.ka, h.ke, h.kc, h.kf, h.kp, h.kr, h.ends.ex e, e _ _ h.caps, h.flows.ex e, h.paths.ex e, h.routes.ex e, IsO.ex e h.asg⟩
/-- another object is written -/
theorem EndsAt.upd (h : EndsAt H p ls) (hp : p ≠ x) (ht : ∀ xs, H x ≠ some (.tup xs)) : EndsAt (upd H x o) p ls := by
  obtain ⟨vs, h1, h2⟩ := h
  exact ⟨vs, by rw [upd_ne hp]; exact h1, IsOL.tx (Tx.upd ht) h2⟩
theorem CapsAt.upd (h : CapsAt H p ls) (hp : p ≠ x) : CapsAt (upd H x o) p ls := by
  unfold CapsAt at h ⊢
  rw [upd_ne hp]
  exact h
theorem FlowsAt.upd (h : FlowsAt H p fs) (hp : p ≠ x) (ht : ∀ xs, H x ≠ some (.tup xs)) : FlowsAt (upd H x o) p fs := by
  obtain ⟨vs, h1, h2⟩ := h
  exact ⟨vs, by rw [upd_ne hp]; exact h1, IsOL.tx (Tx.upd ht) h2⟩
theorem inner_upd {ds : List D} {vs : List V} (h : IsOL (fun q => lab q = 6) H ds vs) (hx : lab x ≠ 6) (ht : ∀ xs, H x ≠ some (.tup xs)) : IsOL (fun q => lab q = 6) (upd H x o) ds vs :=
  IsOL.mono (Tx.upd ht) (fun q xs hq hl => by rw [upd_ne (show q ≠ x from fun z => hx (by rw [← z]; exact hq))]; exact hl) (fun _ _ q _ => q) h
theorem TabAt.upd (h : TabAt lab k H p ts) (hp : p ≠ x) (h6 : lab x ≠ 6) (hk : ∀ i, lab x ≠ k + 2 * i) (ht : ∀ xs, H x ≠ some (.tup xs)) : TabAt lab k (upd H x o) p ts := by
  obtain ⟨vs, h1, h2, h3⟩ := h
  refine ⟨vs, by rw [upd_ne hp]; exact h1, h2, fun i t ht' => ?_⟩
  obtain ⟨b, ws, q1, q2, q3, q4⟩ := h3 i t ht'
  exact ⟨b, ws, q1, q2, by rw [upd_ne (show b ≠ x from fun z => hk i (by rw [← z]; exact q2))]; exact q3, inner_upd q4 h6 ht⟩
theorem inner_lab {ds : List D} {vs : List V} (h : IsOL (fun q => lab q = 6) H ds vs) (hl : ∀ b o, H b = some o → lab' b = lab b) : IsOL (fun q => lab' q = 6) H ds vs :=
  IsOL.mono (fun _ _ q => q) (fun _ _ _ q => q) (fun q xs hq hh => by rw [hl q _ hh]; exact hq) h
theorem TabAt.relab (h : TabAt lab k H p ts) (hl : ∀ b o, H b = some o → lab' b = lab b) : TabAt lab' k H p ts := by
  obtain ⟨vs, h1, h2, h3⟩ := h
  refine ⟨vs, h1, h2, fun i t ht' => ?_⟩
  obtain ⟨b, ws, q1, q2, q3, q4⟩ := h3 i t ht'
  exact ⟨b, ws, q1, by rw [hl _ _ q3]; exact q2, q3, inner_lab q4 hl⟩
theorem NetR.relab (h : NetR C lab H a nd le lc fs ps rs s A) (hl : ∀ b o, H b = some o → lab' b = lab b) : NetR C lab' H a nd le lc fs ps rs s A := by
  have he : lab' A.e = 1 := by obtain ⟨_, q, _⟩ := h.ends; rw [hl _ _ q]; exact h.ke
  have hf : lab' A.f = 3 := by obtain ⟨_, q, _⟩ := h.flows; rw [hl _ _ q]; exact h.kf
  have hp : lab' A.p = 4 := by obtain ⟨_, q, _⟩ := h.paths; rw [hl _ _ q]; exact h.kp
  have hr : lab' A.r = 5 := by obtain ⟨_, q, _⟩ := h.routes; rw [hl _ _ q]; exact h.kr
  exact ⟨h.obj, by rw [hl _ _ h.obj]; exact h.ka, he, by rw [hl _ _ h.caps]; exact h.kc, hf, hp, hr, h.ends, h.caps, h.flows, h.paths.relab hl, h.routes.relab hl, h.asg⟩
theorem tab_is (h : TabAt lab k H p ts) : Is H (.lst (ts.map fun t => .lst (t.map dNs))) (.ref p) := by
  obtain ⟨vs, h1, h2, h3⟩ := h
  refine isO_lst.mpr ⟨p, vs, rfl, True.intro, h1, ?_⟩
  clear h1
  have gen : ∀ (ts : List (List (List Nat))) (vs : List V) (k : Nat), vs.length = ts.length → (∀ i t, ts[i]? = some t → ∃ b ws, vs[i]? = some (.ref b) ∧ lab b = k + 2 * i ∧ H b = some (.lst ws) ∧ IsOL (fun q => lab q = 6) H (t.map dNs) ws) → IsL H (ts.map fun t => .lst (t.map dNs)) vs := by
    intro ts
    induction ts with
    | nil =>
      intro vs k hl _
      rw [List.length_eq_zero_iff.mp hl]
      exact IsOL.nil
    | cons t ts ih =>
      intro vs k hl hall
      cases vs with
      | nil => simp at hl
      | cons v vs =>
        obtain ⟨b, ws, q1, q2, q3, q4⟩ := hall 0 t rfl
        cases q1
        refine IsOL.cons (isO_lst.mpr ⟨b, ws, rfl, True.intro, q3, q4.all⟩) (ih vs (k + 2) (by simpa using hl) fun i t' ht' => ?_)
        obtain ⟨b', ws', r1, r2, r3, r4⟩ := hall (i + 1) t' (by simpa using ht')
        exact ⟨b', ws', by simpa using r1, by rw [r2]; omega, r3, r4⟩
  exact gen ts vs k h2 h3
theorem netAt_net {n : Network} (h : NetAt C lab H a n A) : Net C H a n := by
  obtain ⟨ve, e1, e2⟩ := h.ends
  obtain ⟨vf, f1, f2⟩ := h.flows
  refine ⟨A.dx, .ref A.e, .ref A.c, .ref A.f, .ref A.p, .ref A.r, A.s, h.obj, isO_lst.mpr ⟨_, ve, rfl, True.intro, e1, e2.all⟩, isO_lst.mpr ⟨_, _, rfl, True.intro, h.caps, ?_⟩, isO_lst.mpr ⟨_, vf, rfl, True.intro, f1, f2.all⟩, ?_, ?_, h.asg.all⟩
  · have : (n.links.map fun l => dN l.capacity) = ((n.links.map fun l => vN l.capacity)).map D.val := by rw [List.map_map]; rfl
    rw [this]
    exact isOL_vals.mpr rfl
  · have := tab_is h.paths
    rw [List.map_map] at this
    exact this
  · have := tab_is h.routes
    rw [List.map_map] at this
    exact this
theorem ne_lab {b c : Addr} {i j : Nat} (h1 : lab b = i) (h2 : lab c = j) (h : i ≠ j) : b ≠ c := fun z => h (by rw [← h1, ← h2, z])
/-- one part is written -/
theorem NetR.setAsg (h : NetR C lab H a nd le lc fs ps rs s A) {s' : List Nat} {v : V} (hv : Is0 H (dA s') v) : NetR C lab (L2.upd H a (.ins C A.dx (nF (vN nd) (.ref A.e) (.ref A.c) (.ref A.f) (.ref A.p) (.ref A.r) v))) a nd le lc fs ps rs s' { A with s := v } := by
  have nt : ∀ xs, H a ≠ some (.tup xs) := fun xs z => by rw [h.obj] at z; cases z
  exact ⟨upd_same, h.ka, h.ke, h.kc, h.kf, h.kp, h.kr, h.ends.upd (ne_lab h.ke h.ka (by decide)) nt, h.caps.upd (ne_lab h.kc h.ka (by decide)), h.flows.upd (ne_lab h.kf h.ka (by decide)) nt,
    h.paths.upd (ne_lab h.kp h.ka (by decide)) (by rw [h.ka]; decide) (fun i => by rw [h.ka]; omega) nt, h.routes.upd (ne_lab h.kr h.ka (by decide)) (by rw [h.ka]; decide) (fun i => by rw [h.ka]; omega) nt, IsO.tx (Tx.upd nt) hv⟩
theorem NetR.setEnds (h : NetR C lab H a nd le lc fs ps rs s A) {vs : List V} {le' : List Link} (hv : Is0L H (le'.map fun l => .tup [dN l.endA, dN l.endB]) vs) : NetR C lab (L2.upd H A.e (.lst vs)) a nd le' lc fs ps rs s A := by
  have nt : ∀ xs, H A.e ≠ some (.tup xs) := fun xs z => by obtain ⟨_, q, _⟩ := h.ends; rw [q] at z; cases z
  exact ⟨by rw [upd_ne (ne_lab h.ka h.ke (by decide))]; exact h.obj, h.ka, h.ke, h.kc, h.kf, h.kp, h.kr, ⟨vs, upd_same, IsOL.tx (Tx.upd nt) hv⟩, h.caps.upd (ne_lab h.kc h.ke (by decide)), h.flows.upd (ne_lab h.kf h.ke (by decide)) nt,
    h.paths.upd (ne_lab h.kp h.ke (by decide)) (by rw [h.ke]; decide) (fun i => by rw [h.ke]; omega) nt, h.routes.upd (ne_lab h.kr h.ke (by decide)) (by rw [h.ke]; decide) (fun i => by rw [h.ke]; omega) nt, IsO.tx (Tx.upd nt) h.asg⟩
theorem NetR.setCaps (h : NetR C lab H a nd le lc fs ps rs s A) {vs : List V} {lc' : List Link} (hv : vs = lc'.map fun l => vN l.capacity) : NetR C lab (L2.upd H A.c (.lst vs)) a nd le lc' fs ps rs s A := by
  have nt : ∀ xs, H A.c ≠ some (.tup xs) := fun xs z => by have q := h.caps; unfold CapsAt at q; rw [q] at z; cases z
  exact ⟨by rw [upd_ne (ne_lab h.ka h.kc (by decide))]; exact h.obj, h.ka, h.ke, h.kc, h.kf, h.kp, h.kr, h.ends.upd (ne_lab h.ke h.kc (by decide)) nt, by unfold CapsAt; rw [upd_same, hv], h.flows.upd (ne_lab h.kf h.kc (by decide)) nt,
    h.paths.upd (ne_lab h.kp h.kc (by decide)) (by rw [h.kc]; decide) (fun i => by rw [h.kc]; omega) nt, h.routes.upd (ne_lab h.kr h.kc (by decide)) (by rw [h.kc]; decide) (fun i => by rw [h.kc]; omega) nt, IsO.tx (Tx.upd nt) h.asg⟩
theorem NetR.setFlows (h : NetR C lab H a nd le lc fs ps rs s A) {vs : List V} {fs' : List Su203.Flow} (hv : Is0L H (fs'.map fun f => .tup [dN f.source, dN f.destination, dN f.demand]) vs) : NetR C lab (L2.upd H A.f (.lst vs)) a nd le lc fs' ps rs s A := by
  have nt : ∀ xs, H A.f ≠ some (.tup xs) := fun xs z => by obtain ⟨_, q, _⟩ := h.flows; rw [q] at z; cases z
  exact ⟨by rw [upd_ne (ne_lab h.ka h.kf (by decide))]; exact h.obj, h.ka, h.ke, h.kc, h.kf, h.kp, h.kr, h.ends.upd (ne_lab h.ke h.kf (by decide)) nt, h.caps.upd (ne_lab h.kc h.kf (by decide)), ⟨vs, upd_same, IsOL.tx (Tx.upd nt) hv⟩,
    h.paths.upd (ne_lab h.kp h.kf (by decide)) (by rw [h.kf]; decide) (fun i => by rw [h.kf]; omega) nt, h.routes.upd (ne_lab h.kr h.kf (by decide)) (by rw [h.kf]; decide) (fun i => by rw [h.kf]; omega) nt, IsO.tx (Tx.upd nt) h.asg⟩
/-- a table of lists: one table more, one list more in one of them -/
theorem TabAt.snoc (h : TabAt lab k H p ts) {b : Addr} (hb : H b = some (.lst [])) (hl : lab b = k + 2 * ts.length) (hp : ∀ vs, H p = some (.lst vs) → b ≠ p) (h6 : lab p ≠ 6) (hpk : ∀ i, lab p ≠ k + 2 * i) : ∃ vs, H p = some (.lst vs) ∧ TabAt lab k (L2.upd H p (.lst (vs ++ [.ref b]))) p (ts ++ [[]]) := by
  obtain ⟨vs, h1, h2, h3⟩ := id h
  have nt : ∀ xs, H p ≠ some (.tup xs) := fun xs z => by rw [h1] at z; cases z
  refine ⟨vs, h1, vs ++ [.ref b], upd_same, by rw [List.length_append, List.length_append, h2]; rfl, fun i t ht => ?_⟩
  by_cases hi : i < ts.length
  · rw [List.getElem?_append_left hi] at ht
    obtain ⟨b', ws, q1, q2, q3, q4⟩ := h3 i t ht
    exact ⟨b', ws, by rw [List.getElem?_append_left (by omega)]; exact q1, q2, by rw [upd_ne (show b' ≠ p from fun z => hpk i (by rw [← z]; exact q2))]; exact q3, inner_upd q4 h6 nt⟩
  · have hi2 : i = ts.length := by
      have := (List.getElem?_eq_some_iff.mp ht).1
      rw [List.length_append, List.length_singleton] at this
      omega
    subst hi2
    rw [List.getElem?_append_right (Nat.le_refl _), Nat.sub_self] at ht
    have : [] = t := by simpa using ht
    subst this
    refine ⟨b, [], by rw [List.getElem?_append_right (by omega), h2, Nat.sub_self]; rfl, hl, by rw [upd_ne (hp vs h1)]; exact hb, IsOL.nil⟩
theorem TabAt.grow (h : TabAt lab k H p ts) {i : Nat} {t : List (List Nat)} (ht : ts[i]? = some t) {b : Addr} {ws : List V} {q : Addr} {l : List Nat} {vs : List V} (hvs : H p = some (.lst vs)) (hb : vs[i]? = some (.ref b)) (hw : H b = some (.lst ws)) (hq : H q = some (.lst (l.map vN))) (hl : lab q = 6) (h4 : ∀ j, lab p ≠ k + 2 * j)
    (hk6 : ∀ j, k + 2 * j ≠ 6) : TabAt lab k (L2.upd H b (.lst (ws ++ [.ref q]))) p (ts.set i (t ++ [l])) := by
  obtain ⟨vs', h1, h2, h3⟩ := id h
  rw [hvs] at h1
  cases h1
  obtain ⟨b0, ws0, q1, q2, q3, q4⟩ := h3 i t ht
  rw [hb] at q1
  cases q1
  rw [hw] at q3
  cases q3
  have nt : ∀ xs, H b ≠ some (.tup xs) := fun xs z => by rw [hw] at z; cases z
  have n6 : lab b ≠ 6 := by rw [q2]; exact hk6 i
  refine ⟨vs, by rw [upd_ne (show p ≠ b from fun z => h4 i (by rw [z]; exact q2))]; exact hvs, by rw [List.length_set]; exact h2, fun j t' ht' => ?_⟩
  by_cases hj : i = j
  · subst hj
    rw [List.getElem?_set_self (List.getElem?_eq_some_iff.mp ht).1] at ht'
    cases ht'
    refine ⟨b, ws ++ [.ref q], hb, q2, upd_same, ?_⟩
    rw [List.map_append]
    refine IsOL.append (inner_upd q4 n6 nt) (IsOL.one (isO_dNs.mpr ⟨q, rfl, hl, ?_⟩))
    rw [upd_ne (show q ≠ b from fun z => n6 (by rw [← z]; exact hl))]
    exact hq
  · rw [List.getElem?_set_ne hj] at ht'
    obtain ⟨b', ws', r1, r2, r3, r4⟩ := h3 j t' ht'
    exact ⟨b', ws', r1, r2, by rw [upd_ne (show b' ≠ b from fun z => hj (by have := q2; rw [← z, r2] at this; omega))]; exact r3, inner_upd r4 n6 nt⟩
end
theorem put_here {f : Str} {v x : V} {r : List (Str × V)} : putF f v ((f, x) :: r) = (f, v) :: r := if_pos rfl
theorem put_past {f g : Str} {v x : V} {r : List (Str × V)} (h : ¬ g = f) : putF f v ((g, x) :: r) = (g, x) :: putF f v r := if_neg h
theorem put_asg {n e c f p r s v : V} : putF "assignment" v (nF n e c f p r s) = nF n e c f p r v := by
  unfold nF
  rw [put_past (by decide +kernel), put_past (by decide +kernel), put_past (by decide +kernel), put_past (by decide +kernel), put_past (by decide +kernel), put_past (by decide +kernel), put_here]

/-! ### the steps that write -/
section
variable {K : PySem.W.Frag} {mg : Str → Option Value} {C : Addr} {σ : L2.St} {H : Hp} {De : Ends} {tz : TS} {lab : Addr → Nat} {a : Addr} {A : NetAd} {nd : Nat} {le lc : List Link} {fs : List Su203.Flow} {ps rs : List (List (List Nat))} {s : List Nat} {te ti : TE}
theorem ev_e (T : Txt K mg C) (N : NetR C lab H a nd le lc fs ps rs s A) (h : σ[0]? = some (some (.ref a))) : Ev (tFld K (tVar 0) "ends") σ H (.ref A.e) := ev_of (ed_fld T.cl T.n2 h N.obj nF_2 (isO_of_val _))
theorem ev_c2 (T : Txt K mg C) (N : NetR C lab H a nd le lc fs ps rs s A) (h : σ[0]? = some (some (.ref a))) : Ev (tFld K (tVar 0) "capacities") σ H (.ref A.c) := ev_of (ed_fld T.cl T.n3 h N.obj nF_3 (isO_of_val _))
theorem ev_f (T : Txt K mg C) (N : NetR C lab H a nd le lc fs ps rs s A) (h : σ[0]? = some (some (.ref a))) : Ev (tFld K (tVar 0) "flows") σ H (.ref A.f) := ev_of (ed_fld T.cl T.n4 h N.obj nF_4 (isO_of_val _))
theorem ev_p (T : Txt K mg C) (N : NetR C lab H a nd le lc fs ps rs s A) (h : σ[0]? = some (some (.ref a))) : Ev (tFld K (tVar 0) "paths") σ H (.ref A.p) := ev_of (ed_fld T.cl T.n5 h N.obj nF_5 (isO_of_val _))
theorem ev_r (T : Txt K mg C) (N : NetR C lab H a nd le lc fs ps rs s A) (h : σ[0]? = some (some (.ref a))) : Ev (tFld K (tVar 0) "routes") σ H (.ref A.r) := ev_of (ed_fld T.cl T.n6 h N.obj nF_6 (isO_of_val _))
theorem q_bm {T : String} {r : V → List V → Hp → VK → Prop} {ta : TE} {t : TA} {v : V} (ha : Ev ta σ H v) (k : ∀ H1, Ex H H1 → tyV K T v H1 ∧ t σ H1 fun xs H2 => r v xs H2 (fun _ H3 => tz De σ H3)) : tSeq (tDrop (tBM K T r ta t)) tz De σ H := ha H (Ex.refl H) _ fun H1 e1 => k H1 e1
/-- network.assignment = e -/
theorem q_setAsg (T : Txt K mg C) (N : NetR C lab H a nd le lc fs ps rs s A) (h : σ[0]? = some (some (.ref a))) {s' : List Nat} (hv : Ev0 te σ H (dA s')) (k : ∀ H2 A2, NetR C lab H2 a nd le lc fs ps rs s' A2 → Go lab lab H H2 → tz De σ H2) : tSeq (sFld K (tVar 0) te "assignment") tz De σ H :=
  hv H (Ex.refl H) _ fun v H1 e r => ⟨.ref a, h, a, C, A.dx, _, rfl, e _ _ N.obj, T.cl, T.n7, (by show 7 < 1000; decide), by
    rw [put_asg]
    have N1 := N.ex e
    exact k _ _ (N1.setAsg r) ((Go.ex e).trans (Go.upd (by rw [N.ka]; decide) fun xs z => by rw [N1.obj] at z; cases z))⟩
theorem s_setAsg (T : Txt K mg C) (N : NetR C lab H a nd le lc fs ps rs s A) (h : σ[0]? = some (some (.ref a))) {s' : List Nat} (hv : Ev0 te σ H (dA s')) (k : ∀ H2 A2, NetR C lab H2 a nd le lc fs ps rs s' A2 → Go lab lab H H2 → De.nx σ H2) : sFld K (tVar 0) te "assignment" De σ H :=
  q_setAsg (De := De) (tz := fun D σ H => D.nx σ H) T N h hv k
/-- network.ends.append((u, v)) -/
theorem q_appEnds (T : Txt K mg C) (N : NetR C lab H a nd le lc fs ps rs s A) (h : σ[0]? = some (some (.ref a))) {u v : Nat} (c : Nat) (hv : Ev0 te σ H (dA [u, v])) (hl : le.length ≤ 1000) (k : ∀ H2, NetR C lab H2 a nd (le ++ [⟨u, v, c⟩]) lc fs ps rs s A → Go lab lab H H2 → tz De σ H2) :
    tSeq (tDrop (tBM K "list" rAppend (tFld K (tVar 0) "ends") (tCons te tNil))) tz De σ H := by
  obtain ⟨vs, h1, h2⟩ := N.ends
  have hz : vs.length = le.length := by rw [h2.length, List.length_map]
  refine q_bm (ev_e T N h) fun H1 e1 => ⟨Or.inl ⟨rfl, vs, sq_of (e1 _ _ h1)⟩, hv H1 e1 _ fun w H2 e2 r => ⟨A.e, vs, w, rfl, rfl, e2 _ _ (e1 _ _ h1), sz_lt (by omega), ?_⟩⟩
  have e := e1.trans e2
  have N2 := N.ex e
  refine k _ (N2.setEnds ?_) ((Go.ex e).trans (Go.upd (by rw [N.ke]; decide) fun xs z => by rw [e _ _ h1] at z; cases z))
  rw [List.map_append]
  exact IsOL.append (IsOL.ex e h2) (IsOL.one r)
/-- network.capacities.append(c) -/
theorem q_appCaps (T : Txt K mg C) (N : NetR C lab H a nd le lc fs ps rs s A) (h : σ[0]? = some (some (.ref a))) (l : Link) (hv : Ev te σ H (vN l.capacity)) (hl : lc.length ≤ 1000) (k : ∀ H2, NetR C lab H2 a nd le (lc ++ [l]) fs ps rs s A → Go lab lab H H2 → tz De σ H2) :
    tSeq (tDrop (tBM K "list" rAppend (tFld K (tVar 0) "capacities") (tCons te tNil))) tz De σ H := by
  have h1 := N.caps
  unfold CapsAt at h1
  refine q_bm (ev_c2 T N h) fun H1 e1 => ⟨Or.inl ⟨rfl, _, sq_of (e1 _ _ h1)⟩, hv H1 e1 _ fun H2 e2 => ⟨A.c, _, _, rfl, rfl, e2 _ _ (e1 _ _ h1), sz_lt (by rw [List.length_map]; omega), ?_⟩⟩
  have e := e1.trans e2
  have N2 := N.ex e
  refine k _ (N2.setCaps ?_) ((Go.ex e).trans (Go.upd (by rw [N.kc]; decide) fun xs z => by rw [e _ _ h1] at z; cases z))
  rw [List.map_append]
  rfl
/-- network.flows.append((u, v, d)) -/
theorem q_appFlows (T : Txt K mg C) (N : NetR C lab H a nd le lc fs ps rs s A) (h : σ[0]? = some (some (.ref a))) (f : Su203.Flow) (hv : Ev0 te σ H (dA [f.source, f.destination, f.demand])) (hl : fs.length ≤ 1000) (k : ∀ H2, NetR C lab H2 a nd le lc (fs ++ [f]) ps rs s A → Go lab lab H H2 → tz De σ H2) :
    tSeq (tDrop (tBM K "list" rAppend (tFld K (tVar 0) "flows") (tCons te tNil))) tz De σ H := by
  obtain ⟨vs, h1, h2⟩ := N.flows
  have hz : vs.length = fs.length := by rw [h2.length, List.length_map]
  refine q_bm (ev_f T N h) fun H1 e1 => ⟨Or.inl ⟨rfl, vs, sq_of (e1 _ _ h1)⟩, hv H1 e1 _ fun w H2 e2 r => ⟨A.f, vs, w, rfl, rfl, e2 _ _ (e1 _ _ h1), sz_lt (by omega), ?_⟩⟩
  have e := e1.trans e2
  have N2 := N.ex e
  refine k _ (N2.setFlows ?_) ((Go.ex e).trans (Go.upd (by rw [N.kf]; decide) fun xs z => by rw [e _ _ h1] at z; cases z))
  rw [List.map_append]
  exact IsOL.append (IsOL.ex e h2) (IsOL.one r)
/-- network.paths.append([]) -/
theorem q_appPaths (T : Txt K mg C) (N : NetR C lab H a nd le lc fs ps rs s A) (h : σ[0]? = some (some (.ref a))) (hl : ps.length ≤ 1000) (k : ∀ H2 lab2, NetR C lab2 H2 a nd le lc fs (ps ++ [[]]) rs s A → Go lab lab2 H H2 → tz De σ H2) :
    tSeq (tDrop (tBM K "list" rAppend (tFld K (tVar 0) "paths") (tCons (tLst tNil) tNil))) tz De σ H := by
  obtain ⟨vs, h1, h2, _⟩ := id N.paths
  refine q_bm (ev_p T N h) fun H1 e1 => ⟨Or.inl ⟨rfl, vs, sq_of (e1 _ _ h1)⟩, Nat.zero_le _, fun b hb => ?_⟩
  have e2 : Ex H1 (upd H1 b (.lst [])) := Ex.new hb
  have e := e1.trans e2
  have hb0 := fresh_back e1 hb
  have hbp : b ≠ A.p := fun z => by rw [z, h1] at hb0; cases hb0
  refine ⟨A.p, vs, .ref b, rfl, rfl, e _ _ h1, sz_lt (by omega), ?_⟩
  have N2 : NetR C (relab lab b (10 + 2 * ps.length)) (upd H1 b (.lst [])) a nd le lc fs ps rs s A := ((N.ex e1).relab (relab_old hb)).ex e2
  obtain ⟨vs', g1, g2⟩ := N2.paths.snoc (b := b) upd_same relab_new (fun _ _ => hbp) (by rw [N2.kp]; decide) (fun i => by rw [N2.kp]; omega)
  have : vs' = vs := by
    rw [e _ _ h1] at g1
    cases g1
    rfl
  subst this
  have nt : ∀ xs, (upd H1 b (.lst [])) A.p ≠ some (.tup xs) := fun xs z => by rw [g1] at z; cases z
  refine k _ (relab lab b (10 + 2 * ps.length)) ⟨by rw [upd_ne (ne_lab N2.ka N2.kp (by decide))]; exact N2.obj, N2.ka, N2.ke, N2.kc, N2.kf, N2.kp, N2.kr, N2.ends.upd (ne_lab N2.ke N2.kp (by decide)) nt, N2.caps.upd (ne_lab N2.kc N2.kp (by decide)), N2.flows.upd (ne_lab N2.kf N2.kp (by decide)) nt, g2,
    N2.routes.upd (ne_lab N2.kr N2.kp (by decide)) (by rw [N2.kp]; decide) (fun i => by rw [N2.kp]; omega) nt, IsO.tx (Tx.upd nt) N2.asg⟩ ?_
  exact (Go.ex e1).trans ((Go.lab hb).trans ((Go.ex e2).trans (Go.upd (by rw [N2.kp]; decide) nt)))
/-- network.routes.append([]) -/
theorem q_appRoutes (T : Txt K mg C) (N : NetR C lab H a nd le lc fs ps rs s A) (h : σ[0]? = some (some (.ref a))) (hl : rs.length ≤ 1000) (k : ∀ H2 lab2, NetR C lab2 H2 a nd le lc fs ps (rs ++ [[]]) s A → Go lab lab2 H H2 → tz De σ H2) :
    tSeq (tDrop (tBM K "list" rAppend (tFld K (tVar 0) "routes") (tCons (tLst tNil) tNil))) tz De σ H := by
  obtain ⟨vs, h1, h2, _⟩ := id N.routes
  refine q_bm (ev_r T N h) fun H1 e1 => ⟨Or.inl ⟨rfl, vs, sq_of (e1 _ _ h1)⟩, Nat.zero_le _, fun b hb => ?_⟩
  have e2 : Ex H1 (upd H1 b (.lst [])) := Ex.new hb
  have e := e1.trans e2
  have hb0 := fresh_back e1 hb
  have hbp : b ≠ A.r := fun z => by rw [z, h1] at hb0; cases hb0
  refine ⟨A.r, vs, .ref b, rfl, rfl, e _ _ h1, sz_lt (by omega), ?_⟩
  have N2 : NetR C (relab lab b (11 + 2 * rs.length)) (upd H1 b (.lst [])) a nd le lc fs ps rs s A := ((N.ex e1).relab (relab_old hb)).ex e2
  obtain ⟨vs', g1, g2⟩ := N2.routes.snoc (b := b) upd_same relab_new (fun _ _ => hbp) (by rw [N2.kr]; decide) (fun i => by rw [N2.kr]; omega)
  have : vs' = vs := by
    rw [e _ _ h1] at g1
    cases g1
    rfl
  subst this
  have nt : ∀ xs, (upd H1 b (.lst [])) A.r ≠ some (.tup xs) := fun xs z => by rw [g1] at z; cases z
  refine k _ (relab lab b (11 + 2 * rs.length)) ⟨by rw [upd_ne (ne_lab N2.ka N2.kr (by decide))]; exact N2.obj, N2.ka, N2.ke, N2.kc, N2.kf, N2.kp, N2.kr, N2.ends.upd (ne_lab N2.ke N2.kr (by decide)) nt, N2.caps.upd (ne_lab N2.kc N2.kr (by decide)), N2.flows.upd (ne_lab N2.kf N2.kr (by decide)) nt,
    N2.paths.upd (ne_lab N2.kp N2.kr (by decide)) (by rw [N2.kr]; decide) (fun i => by rw [N2.kr]; omega) nt, g2, IsO.tx (Tx.upd nt) N2.asg⟩ ?_
  exact (Go.ex e1).trans ((Go.lab hb).trans ((Go.ex e2).trans (Go.upd (by rw [N2.kr]; decide) nt)))
/-- network.paths[i].append(list(l)) -/
theorem q_addPath (T : Txt K mg C) (N : NetR C lab H a nd le lc fs ps rs s A) (h : σ[0]? = some (some (.ref a))) {i : Nat} {t : List (List Nat)} (ht : ps[i]? = some t) (hi : Ev ti σ H (vN i)) {l : List Nat} (hv : EvN te σ H (l.map dN)) (hl : t.length ≤ 1000) (k : ∀ H2 lab2, NetR C lab2 H2 a nd le lc fs (ps.set i (t ++ [l])) rs s A → Go lab lab2 H H2 → tz De σ H2) :
    tSeq (tDrop (tBM K "list" rAppend (tOp (rIxL K) (tFld K (tVar 0) "paths") ti) (tCons te tNil))) tz De σ H := by
  obtain ⟨vs, h1, h2, h3⟩ := id N.paths
  obtain ⟨b, ws, q1, q2, q3, q4⟩ := h3 i t ht
  have hw : ws.length = t.length := by rw [q4.length, List.length_map]
  have evb : Ev (tOp (rIxL K) (tFld K (tVar 0) "paths") ti) σ H (.ref b) := ev_op (ev_p T N h) hi (rv_ixL (sq_of h1) (atI_nt q1))
  refine q_bm evb fun H1 e1 => ⟨Or.inl ⟨rfl, ws, sq_of (e1 _ _ q3)⟩, hv H1 e1 _ fun v H2 e2 r => ?_⟩
  obtain ⟨q, us, rfl, r1, r2, r3⟩ := r
  rw [isOL_nats.mp r3] at r2
  have e := e1.trans e2
  have hq0 := fresh_back e1 r1
  refine ⟨b, ws, .ref q, rfl, rfl, e _ _ q3, sz_lt (by omega), ?_⟩
  have N1 := (N.ex e1).relab (relab_old (k := 6) r1)
  have N2 := N1.ex e2
  have hb6 : relab lab q 6 b = 10 + 2 * i := by rw [relab_old (k := 6) r1 b _ (e1 _ _ q3)]; exact q2
  have nt : ∀ xs, H2 b ≠ some (.tup xs) := fun xs z => by rw [e _ _ q3] at z; cases z
  have g := N2.paths.grow ht (e _ _ h1) q1 (e _ _ q3) r2 relab_new (fun j => by rw [N2.kp]; omega) (fun j => by omega)
  refine k _ (relab lab q 6) ⟨by rw [upd_ne (ne_lab N2.ka hb6 (by omega))]; exact N2.obj, N2.ka, N2.ke, N2.kc, N2.kf, N2.kp, N2.kr, N2.ends.upd (ne_lab N2.ke hb6 (by omega)) nt, N2.caps.upd (ne_lab N2.kc hb6 (by omega)), N2.flows.upd (ne_lab N2.kf hb6 (by omega)) nt, g,
    N2.routes.upd (ne_lab N2.kr hb6 (by omega)) (by rw [hb6]; omega) (fun j => by rw [hb6]; omega) nt, IsO.tx (Tx.upd nt) N2.asg⟩ ?_
  exact (Go.ex e1).trans ((Go.lab r1).trans ((Go.ex e2).trans (Go.upd (by rw [hb6]; omega) nt)))
/-- network.routes[i].append(..) -/
theorem q_addRoute (T : Txt K mg C) (N : NetR C lab H a nd le lc fs ps rs s A) (h : σ[0]? = some (some (.ref a))) {i : Nat} {t : List (List Nat)} (ht : rs[i]? = some t) (hi : Ev ti σ H (vN i)) {l : List Nat} (hv : EvN te σ H (l.map dN)) (hl : t.length ≤ 1000) (k : ∀ H2 lab2, NetR C lab2 H2 a nd le lc fs ps (rs.set i (t ++ [l])) s A → Go lab lab2 H H2 → tz De σ H2) :
    tSeq (tDrop (tBM K "list" rAppend (tOp (rIxL K) (tFld K (tVar 0) "routes") ti) (tCons te tNil))) tz De σ H := by
  obtain ⟨vs, h1, h2, h3⟩ := id N.routes
  obtain ⟨b, ws, q1, q2, q3, q4⟩ := h3 i t ht
  have hw : ws.length = t.length := by rw [q4.length, List.length_map]
  have evb : Ev (tOp (rIxL K) (tFld K (tVar 0) "routes") ti) σ H (.ref b) := ev_op (ev_r T N h) hi (rv_ixL (sq_of h1) (atI_nt q1))
  refine q_bm evb fun H1 e1 => ⟨Or.inl ⟨rfl, ws, sq_of (e1 _ _ q3)⟩, hv H1 e1 _ fun v H2 e2 r => ?_⟩
  obtain ⟨q, us, rfl, r1, r2, r3⟩ := r
  rw [isOL_nats.mp r3] at r2
  have e := e1.trans e2
  refine ⟨b, ws, .ref q, rfl, rfl, e _ _ q3, sz_lt (by omega), ?_⟩
  have N1 := (N.ex e1).relab (relab_old (k := 6) r1)
  have N2 := N1.ex e2
  have hb6 : relab lab q 6 b = 11 + 2 * i := by rw [relab_old (k := 6) r1 b _ (e1 _ _ q3)]; exact q2
  have nt : ∀ xs, H2 b ≠ some (.tup xs) := fun xs z => by rw [e _ _ q3] at z; cases z
  have g := N2.routes.grow ht (e _ _ h1) q1 (e _ _ q3) r2 relab_new (fun j => by rw [N2.kr]; omega) (fun j => by omega)
  refine k _ (relab lab q 6) ⟨by rw [upd_ne (ne_lab N2.ka hb6 (by omega))]; exact N2.obj, N2.ka, N2.ke, N2.kc, N2.kf, N2.kp, N2.kr, N2.ends.upd (ne_lab N2.ke hb6 (by omega)) nt, N2.caps.upd (ne_lab N2.kc hb6 (by omega)), N2.flows.upd (ne_lab N2.kf hb6 (by omega)) nt,
    N2.paths.upd (ne_lab N2.kp hb6 (by omega)) (by rw [hb6]; omega) (fun j => by rw [hb6]; omega) nt, g, IsO.tx (Tx.upd nt) N2.asg⟩ ?_
  exact (Go.ex e1).trans ((Go.lab r1).trans ((Go.ex e2).trans (Go.upd (by rw [hb6]; omega) nt)))
/-- network.capacities[i] = c -/
theorem q_setCap (T : Txt K mg C) (N : NetR C lab H a nd le lc fs ps rs s A) (h : σ[0]? = some (some (.ref a))) {i c : Nat} (hv : Ev te σ H (vN c)) (hi : Ev ti σ H (vN i)) (hil : i < lc.length) (d : Link) (k : ∀ H2, NetR C lab H2 a nd le (lc.set i { lc.getD i d with capacity := c }) fs ps rs s A → Go lab lab H H2 → tz De σ H2) :
    tSeq (tAsg te (gSub (tFld K (tVar 0) "capacities") ti rSetL)) tz De σ H := by
  have h1 := N.caps
  unfold CapsAt at h1
  refine q_setL h1 hv (ev_c2 T N h) hi (by rw [List.length_map]; exact hil) fun H1 e => ?_
  have N2 := N.ex e
  refine k _ (N2.setCaps ?_) ((Go.ex e).trans (Go.upd (by rw [N.kc]; decide) fun xs z => by rw [e _ _ h1] at z; cases z))
  rw [List.map_set]
end
/-! ### the promise of a deed -/
/-- what is to be had behind it -/
def DeedK (C : Addr) (lab : Addr → Nat) (H : Hp) (a : Addr) (Q : VK) (z : Network × Su203.Result) : Prop := ∀ (H' : Hp) (p : Addr) (lab' : Addr → Nat) (A' : NetAd), NetAt C lab' H' a z.1 A' → WF z.1 → Go lab lab' H H' → H p = none → H' p = some (.lst ((ans z.2).map V.int)) → Q (.ref p) H'
def spDeed (C : Addr) (m : Nat) (op : List Nat → List Nat → Su203.Operation) : Sp := fun vs H Q _ => ∃ (a : Addr) (lab : Addr → Nat) (n : Network) (A : NetAd) (pl gv : List Nat) (v2 v3 : V), vs = [.ref a, v2, v3] ∧ NetAt C lab H a n A ∧ WF n ∧ Is H (dNs pl) v2 ∧ IsO (fun q => lab q = 0) H (dNs gv) v3 ∧ pl.length = m ∧ gv.length ≤ 8 ∧
  DeedK C lab H a Q (Su203.execute n (op pl gv))
theorem spDeed_len {C : Addr} {m : Nat} {op : List Nat → List Nat → Su203.Operation} : ∀ (vs : List V) (H : Hp) (Q : VK) (E : XK), spDeed C m op vs H Q E → vs.length = 3 := fun vs H Q E h => by
  obtain ⟨_, _, _, _, _, _, _, _, rfl, _⟩ := h
  rfl
section
variable {P : Program} {w : World} {K : PySem.W.Frag} {mg : Str → Option Value} {base : Heap} {C : Addr} {lab lab' : Addr → Nat} {H H2 : Hp} {a : Addr} {n n' : Network} {A A' : NetAd} {Q : VK} {r : Su203.Result}
/-- the answer is made: the network stands as it is to stand -/
theorem deed_done (k : DeedK C lab H a Q (n', r)) (N : NetAt C lab' H2 a n' A') (W : WF n') (g : Go lab lab' H H2) {l : List Int} (e : ans r = l) : ∀ v H3, Ex H2 H3 → RN (l.map dI) H2 v H3 → Q v H3 := fun v H3 e3 h => by
  obtain ⟨p, vs, rfl, hn, hp, hvs⟩ := h
  rw [isOL_ints.mp hvs, ← e] at hp
  refine k H3 p lab' A' (N.ex e3) W (g.trans (Go.ex e3)) ?_ hp
  cases z : H p with
  | none => rfl
  | some o =>
    obtain ⟨o', h'⟩ := g.th p o z
    rw [h'] at hn
    cases hn
theorem deed_nats (k : DeedK C lab H a Q (n', r)) (N : NetAt C lab' H2 a n' A') (W : WF n') (g : Go lab lab' H H2) {l : List Nat} (e : ans r = nInts l) : ∀ v H3, Ex H2 H3 → RN (l.map dN) H2 v H3 → Q v H3 := by
  rw [← ints_dI]
  exact deed_done k N W g e
/-- nothing is changed -/
theorem deed_same (k : DeedK C lab H a Q (n, r)) (N : NetAt C lab H a n A) (W : WF n) {l : List Int} (e : ans r = l) : ∀ v H3, Ex H H3 → RN (l.map dI) H v H3 → Q v H3 := deed_done k N W (Go.ex (Ex.refl H)) e
/-- a question is a deed -/
theorem deed_of_q {k m : Nat} {x : Str} {op : List Nat → List Nat → Su203.Operation} (h : Cal P w K mg base k x (sp_q C m op)) (hp : ∀ n pl gv, (Su203.execute n (op pl gv)).1 = n) : Cal P w K mg base k x (spDeed C m op) := by
  obtain ⟨f, fd, ps, F, h1, h2, h3⟩ := h.ex
  refine ⟨f, fd, ps, F.imp fun vs H Q E q => ?_, h1, h2, h3⟩
  obtain ⟨a, lab, n, A, pl, gv, v2, v3, rfl, N, W, q2, q3, hm, hg, kq⟩ := q
  refine ⟨(a, n, pl, gv), ⟨⟨netAt_net N, W⟩, hm, hg⟩, IsOL.cons (isO_of_val _) (IsOL.cons q2 (IsOL.cons q3.all IsOL.nil)), ?_⟩
  have e : Su203.execute n (op pl gv) = (n, (Su203.execute n (op pl gv)).2) := Prod.ext (hp n pl gv) rfl
  rw [e] at kq
  exact deed_same kq N W rfl
end
end FL

namespace FL
open PySem PySem.Spec PyProof.Rows L2 Evl FM
open Su203 (Network Link)

section
variable {K : PySem.W.Frag} {mg : Str → Option Value} {C : Addr} {σ : L2.St} {H : Hp} {lab : Addr → Nat} {a : Addr} {A : NetAd} {nd : Nat} {le lc : List Link} {fs : List Su203.Flow} {ps rs : List (List (List Nat))} {s : List Nat} {ta tb tc te ti : TE} {x : V} {ok : Addr → Prop}
theorem len1 {l : List Nat} (h : l.length = 1) : ∃ x, l = [x] := by
  cases l with
  | nil => cases h
  | cons x l =>
    cases l with
    | nil => exact ⟨x, rfl⟩
    | cons y l => simp at h
theorem len2 {l : List Nat} (h : l.length = 2) : ∃ x y, l = [x, y] := by
  cases l with
  | nil => cases h
  | cons x l =>
    obtain ⟨y, rfl⟩ := len1 (l := l) (by simpa using h)
    exact ⟨x, y, rfl⟩
theorem len3 {l : List Nat} (h : l.length = 3) : ∃ x y z, l = [x, y, z] := by
  cases l with
  | nil => cases h
  | cons x l =>
    obtain ⟨y, z, rfl⟩ := len2 (l := l) (by simpa using h)
    exact ⟨x, y, z, rfl⟩
/-- u, v = plain -/
theorem g_unl2 {i j n m : Nat} {Q : L2.St → Hp → Prop} (h : IsO ok H (dNs [n, m]) x) (k : Q ((σ.set i (some (vN n))).set j (some (vN m))) H) : gUnl K 2 (gCons (gName i) (gCons (gName j) gNil)) x σ H Q := by
  obtain ⟨p, rfl, _, hp⟩ := isO_dNs.mp h
  exact ⟨p, _, rfl, sq_of hp, rfl, vN n, [vN m], rfl, vN m, [], rfl, rfl, k⟩
theorem g_unl3 {i j l n m o : Nat} {Q : L2.St → Hp → Prop} (h : IsO ok H (dNs [n, m, o]) x) (k : Q (((σ.set i (some (vN n))).set j (some (vN m))).set l (some (vN o))) H) : gUnl K 3 (gCons (gName i) (gCons (gName j) (gCons (gName l) gNil))) x σ H Q := by
  obtain ⟨p, rfl, _, hp⟩ := isO_dNs.mp h
  exact ⟨p, _, rfl, sq_of hp, rfl, vN n, [vN m, vN o], rfl, vN m, [vN o], rfl, vN o, [], rfl, rfl, k⟩
theorem e0_tup3 {n m o : Nat} (h : EvD ta σ H (dN n)) (h2 : EvD tb σ H (dN m)) (h3 : EvD tc σ H (dN o)) : Ev0 (tTup (tCons ta (tCons tb (tCons tc tNil)))) σ H (dA [n, m, o]) := e0_tup (vs := [vN n, vN m, vN o]) (ea_cons (ev_of h) (ea_cons (ev_of h2) (ea_cons (ev_of h3) ea_nil))) (by show 3 ≤ 100000; decide)
/-- lo <= x <= hi -/
theorem et_within {i j k : Nat} (ha : EvD ta σ H (dN i)) (hb : EvD tb σ H (dN j)) (hc : EvD tc σ H (dN k)) : EvT (tTest (tChain (rI0 fun i j => .bl (decide (i ≤ j))) (rI0 fun i j => .bl (decide (i ≤ j))) ta tb tc)) σ H (decide (i ≤ j) && decide (j ≤ k)) := by
  have e : ∀ (x y : Nat), decide (((x : Nat) : Int) ≤ ((y : Nat) : Int)) = decide (x ≤ y) := fun x y => by
    have : (((x : Nat) : Int) ≤ ((y : Nat) : Int)) = (x ≤ y) := by simp
    simp only [this]
  refine et_test (ev_chain ha hb (fun _ => hc) (fun H1 Q q => ⟨_, _, rfl, rfl, ?_⟩) (fun H1 Q q => ⟨_, _, rfl, rfl, ?_⟩))
  · show Q (.bl (decide (((i : Nat) : Int) ≤ ((j : Nat) : Int)))) H1
    rw [e]
    exact q
  · show Q (.bl (decide (((j : Nat) : Int) ≤ ((k : Nat) : Int)))) H1
    rw [e]
    exact q
theorem NetR.toE {n : Network} (N : NetR C lab H a nd n.links lc fs ps rs s A) : NetE C H a n := by
  obtain ⟨ve, e1, e2⟩ := N.ends
  exact ⟨A.dx, _, _, _, _, _, _, _, N.obj, isO_lst.mpr ⟨_, ve, rfl, True.intro, e1, e2.all⟩⟩
theorem ed_asgR (T : Txt K mg C) (N : NetR C lab H a nd le lc fs ps rs s A) (h : σ[0]? = some (some (.ref a))) : EvD (tFld K (tVar 0) "assignment") σ H (dA s) := ed_fld T.cl T.n7 h N.obj nF_7 N.asg.all
theorem NetR.endsEq {le' : List Link} (h : NetR C lab H a nd le lc fs ps rs s A) (e : (le.map fun l => D.tup [dN l.endA, dN l.endB]) = le'.map fun l => D.tup [dN l.endA, dN l.endB]) : NetR C lab H a nd le' lc fs ps rs s A :=
  ⟨h.obj, h.ka, h.ke, h.kc, h.kf, h.kp, h.kr, (by obtain ⟨vs, h1, h2⟩ := h.ends; exact ⟨vs, h1, by rw [← e]; exact h2⟩), h.caps, h.flows, h.paths, h.routes, h.asg⟩
end
section
variable {P : Program} {w : World} {K : PySem.W.Frag} {mg : Str → Option Value} {base : Heap} {C : Addr}
/-! ## add_link -/
abbrev s_add_link : Stmt := topS 26
abbrev N_add_link : List Str := ["network", "plain", "given", "one", "other", "capacity"]
theorem sc_add_link : FnScope N_add_link ["network", "plain", "given"] (defScope s_add_link) := ⟨rfl, rfl, rfl, by decide +kernel, rfl, by decide +kernel, by decide +kernel⟩
theorem cal_add_link (T : Txt K mg C) (F : Def K mg "add_link" s_add_link ["network", "plain", "given"]) (c_has_node : Cal P w K mg base 1 "has_node" (sp_has_node C)) (c_link_between : Cal P w K mg base 1 "link_between" (sp_link_between C)) : Cal P w K mg base 2 "add_link" (spDeed C 3 fun p _ => .addLink (p.getD 0 0) (p.getD 1 0) (p.getD 2 0)) := by
  refine cal_mk F sc_add_link spDeed_len (fun f cdv A outer s H vs Q E hr h => ⟨_, (pss_cons (ps_asg (pv 1) (pg_unl (by rfl) (pgs_cons (pg_name (i := 3) sc_add_link.nd rfl (Or.inl rfl)) (pgs_cons (pg_name (i := 4) sc_add_link.nd rfl (Or.inl rfl)) (pgs_cons (pg_name (i := 5) sc_add_link.nd rfl (Or.inl rfl)) pgs_nil)))))
    (pss_cons (ps_if (PW.pt (pw_or (pt_not (pt_val (pe_cal c_has_node hr (by decide) (by rfl) (pa_cons (pv 0) (pa_cons (pv 3) pa_nil))))) (pw_or1 (pt_not (pt_val (pe_cal c_has_node hr (by decide) (by rfl) (pa_cons (pv 0) (pa_cons (pv 4) pa_nil))))))))
      (pss_one (ps_ret (pe_lst (pa_cons (pe_un un_neg pe_int) pa_nil))))
      pss_nil)
    (pss_cons (ps_if (PW.pt (pw_or (pt_cmpR op_eq (pv 3) (pv 4) (nomark _)) (pw_or1 (pt_cmpR op_gt (pv 5) (pe_gi (by rfl) T.cMOST_AMOUNT) (nomark _)))))
      (pss_one (ps_ret (pe_lst (pa_cons (pe_un un_neg pe_int) pa_nil))))
      pss_nil)
    (pss_cons (ps_if (pt_cmpR op_ne (pe_cal c_link_between hr (by decide) (by rfl) (pa_cons (pv 0) (pa_cons (pv 3) (pa_cons (pv 4) pa_nil)))) (pe_un un_neg pe_int) (nomark _))
      (pss_one (ps_ret (pe_lst (pa_cons (pe_un un_neg pe_int) pa_nil))))
      pss_nil)
    (pss_cons (ps_if (pt_cmpR op_eq (pe_callB call_len_seq (by rfl) T.len PySem.boot_len (pa_cons (pe_fld (pv 0) rfl) pa_nil)) (pe_gi (by rfl) T.cMOST_LINKS) (nomark _))
      (pss_one (ps_ret (pe_lst (pa_cons (pe_un un_neg pe_int) pa_nil))))
      pss_nil)
    (pss_cons (ps_expr (pe_bm PySem.F.plainAttrs_list PySem.F.slot_list_append PySem.F.type_list_append mt_append (pe_fld (pv 0) rfl) (pa_cons (pe_tup (pa_cons (pv 3) (pa_cons (pv 4) pa_nil))) pa_nil)))
    (pss_cons (ps_expr (pe_bm PySem.F.plainAttrs_list PySem.F.slot_list_append PySem.F.type_list_append mt_append (pe_fld (pv 0) rfl) (pa_cons (pv 5) pa_nil)))
    (pss_one (ps_ret (pe_lst (pa_cons (pe_op op_sub (pe_callB call_len_seq (by rfl) T.len PySem.boot_len (pa_cons (pe_fld (pv 0) rfl) pa_nil)) pe_int) pa_nil))))))))))), ?_⟩)
  obtain ⟨a, lab, n, Ad, pl, gv, v2, v3, rfl, N, W, h2, h3, hpl, hgv, kq⟩ := h
  obtain ⟨x, y, z, rfl⟩ := len3 hpl
  have NN : NW C H a n := ⟨netAt_net N, W⟩
  have hnl := W.nl
  have kq2 : DeedK C lab H a Q (if n.nodes ≤ x ∨ n.nodes ≤ y then (n, Su203.error (-2)) else if x = y ∨ 99 < z then (n, Su203.error (-22)) else if (n.linkBetween x y).isSome = true then (n, Su203.error (-17)) else if 10 ≤ n.links.length then (n, Su203.error (-28)) else ({ n with links := n.links ++ [⟨x, y, z⟩] }, Su203.ok n.links.length [])) := kq
  refine rq_asgG (ed_var rfl h2) fun v H1 e1 r1 => g_unl3 r1 ?_
  refine q_when (et_or (et_not (et_B (ev_of (er_call (a, n, x) (eds_cons (ed_v rfl) (eds_cons (ed_v rfl) eds_nil)) (fun _ e => (NN.mono e1).mono e) back_D)))) (fun _ => et_not (et_B (ev_of (er_call (a, n, y) (eds_cons (ed_v rfl) (eds_cons (ed_v rfl) eds_nil)) (fun _ e => (NN.mono e1).mono e) back_D))))) (fun hb H2 e2 => ?_) (fun hb H2 e2 => ?_)
  · rw [Bool.or_eq_true, Bool.not_eq_true', Bool.not_eq_true', decide_eq_false_iff_not, decide_eq_false_iff_not, Nat.not_lt, Nat.not_lt] at hb
    rw [if_pos hb] at kq2
    exact r_ret (en_err 2) fun v H3 e3 r => deed_same kq2 N W rfl v H3 ((e1.trans e2).trans e3) (back_N _ _ _ _ (e1.trans e2) r)
  rw [Bool.or_eq_false_iff, Bool.not_eq_false', Bool.not_eq_false', decide_eq_true_eq, decide_eq_true_eq] at hb
  rw [if_neg (fun q => q.elim (Nat.not_le_of_lt hb.1) (Nat.not_le_of_lt hb.2))] at kq2
  have e12 := e1.trans e2
  refine q_when (et_or (et_eq (ed_v rfl) (ed_v rfl) rfl) (fun _ => et_gt (j := 99) (ed_v rfl) ed_c rfl)) (fun hb H3 e3 => ?_) (fun hb H3 e3 => ?_)
  · rw [Bool.or_eq_true, decide_eq_true_eq, decide_eq_true_eq] at hb
    rw [if_pos hb] at kq2
    exact r_ret (en_err 22) fun v H4 e4 r => deed_same kq2 N W rfl v H4 ((e12.trans e3).trans e4) (back_N _ _ _ _ (e12.trans e3) r)
  rw [Bool.or_eq_false_iff, decide_eq_false_iff_not, decide_eq_false_iff_not] at hb
  rw [if_neg (fun q => q.elim hb.1 hb.2)] at kq2
  have e13 := e12.trans e3
  refine q_when (et_neI (er_call (a, n, x, y) (eds_cons (ed_v rfl) (eds_cons (ed_v rfl) (eds_cons (ed_v rfl) eds_nil))) (fun _ e => NetE.mono e (Net.toE (NN.net.mono e13))) back_D) (ed_neg ed_c) rfl) (fun hb H4 e4 => ?_) (fun hb H4 e4 => ?_)
  · have hb : linkNo n x y ≠ -1 := of_decide_eq_true hb
    rw [if_pos (Option.isSome_iff_ne_none.mpr fun q => hb (linkNo_none_iff.mpr q))] at kq2
    exact r_ret (en_err 17) fun v H5 e5 r => deed_same kq2 N W rfl v H5 ((e13.trans e4).trans e5) (back_N _ _ _ _ (e13.trans e4) r)
  have hb : linkNo n x y = -1 := Decidable.not_not.mp (of_decide_eq_false hb)
  rw [if_neg (fun q => by rw [linkNo_none_iff.mp hb] at q; cases q)] at kq2
  have e14 := e13.trans e4
  refine q_when (et_eq (j := 10) (ed_nends T (NN.net.mono e14) rfl) ed_c rfl) (fun hb H5 e5 => ?_) (fun hb H5 e5 => ?_)
  · have hb : n.links.length = 10 := of_decide_eq_true hb
    rw [if_pos (show 10 ≤ n.links.length by omega)] at kq2
    exact r_ret (en_err 28) fun v H6 e6 r => deed_same kq2 N W rfl v H6 ((e14.trans e5).trans e6) (back_N _ _ _ _ (e14.trans e5) r)
  have hb : ¬ n.links.length = 10 := of_decide_eq_false hb
  rw [if_neg (show ¬ 10 ≤ n.links.length by omega)] at kq2
  have e15 := e14.trans e5
  refine q_appEnds T (N.ex e15) rfl (u := x) (v := y) z (e0_tup2 (ed_v rfl) (ed_v rfl)) (by omega) fun H6 N6 g6 => ?_
  refine q_appCaps T N6 rfl ⟨x, y, z⟩ (ev_var rfl) (by omega) fun H7 N7 g7 => ?_
  have W7 := wf_addLink W (u := x) (v := y) (c := z) (by omega)
  have N8 : NetAt C lab H7 a { n with links := n.links ++ [⟨x, y, z⟩] } Ad := N7
  exact r_ret (eds_ints (l := [n.links.length]) (eds_cons (ed_is (ed_pred (i := (n.links ++ [(⟨x, y, z⟩ : Link)]).length) (by rw [List.length_append]; simp) (ed_nends T (netAt_net N8) rfl)) (by rw [List.length_append]; rfl)) eds_nil) (by show 1 ≤ 100000; decide)) (deed_nats kq2 N8 W7 ((Go.ex e15).trans (g6.trans g7)) rfl)
/-! ## add_flow -/
abbrev s_add_flow : Stmt := topS 27
abbrev N_add_flow : List Str := ["network", "plain", "given", "source", "destination", "demand"]
theorem sc_add_flow : FnScope N_add_flow ["network", "plain", "given"] (defScope s_add_flow) := ⟨rfl, rfl, rfl, by decide +kernel, rfl, by decide +kernel, by decide +kernel⟩
theorem cal_add_flow (T : Txt K mg C) (F : Def K mg "add_flow" s_add_flow ["network", "plain", "given"]) (c_has_node : Cal P w K mg base 1 "has_node" (sp_has_node C)) : Cal P w K mg base 2 "add_flow" (spDeed C 3 fun p _ => .addFlow (p.getD 0 0) (p.getD 1 0) (p.getD 2 0)) := by
  refine cal_mk F sc_add_flow spDeed_len (fun f cdv A outer s H vs Q E hr h => ⟨_, (pss_cons (ps_asg (pv 1) (pg_unl (by rfl) (pgs_cons (pg_name (i := 3) sc_add_flow.nd rfl (Or.inl rfl)) (pgs_cons (pg_name (i := 4) sc_add_flow.nd rfl (Or.inl rfl)) (pgs_cons (pg_name (i := 5) sc_add_flow.nd rfl (Or.inl rfl)) pgs_nil)))))
    (pss_cons (ps_if (PW.pt (pw_or (pt_not (pt_val (pe_cal c_has_node hr (by decide) (by rfl) (pa_cons (pv 0) (pa_cons (pv 3) pa_nil))))) (pw_or1 (pt_not (pt_val (pe_cal c_has_node hr (by decide) (by rfl) (pa_cons (pv 0) (pa_cons (pv 4) pa_nil))))))))
      (pss_one (ps_ret (pe_lst (pa_cons (pe_un un_neg pe_int) pa_nil))))
      pss_nil)
    (pss_cons (ps_if (PW.pt (pw_or (pt_cmpR op_eq (pv 3) (pv 4) (nomark _)) (pw_or1 (pt_not (pt_chain op_le op_le pe_int (pv 5) (pe_gi (by rfl) T.cMOST_AMOUNT))))))
      (pss_one (ps_ret (pe_lst (pa_cons (pe_un un_neg pe_int) pa_nil))))
      pss_nil)
    (pss_cons (ps_if (pt_cmpR op_eq (pe_callB call_len_seq (by rfl) T.len PySem.boot_len (pa_cons (pe_fld (pv 0) rfl) pa_nil)) (pe_gi (by rfl) T.cMOST_FLOWS) (nomark _))
      (pss_one (ps_ret (pe_lst (pa_cons (pe_un un_neg pe_int) pa_nil))))
      pss_nil)
    (pss_cons (ps_expr (pe_bm PySem.F.plainAttrs_list PySem.F.slot_list_append PySem.F.type_list_append mt_append (pe_fld (pv 0) rfl) (pa_cons (pe_tup (pa_cons (pv 3) (pa_cons (pv 4) (pa_cons (pv 5) pa_nil)))) pa_nil)))
    (pss_cons (ps_expr (pe_bm PySem.F.plainAttrs_list PySem.F.slot_list_append PySem.F.type_list_append mt_append (pe_fld (pv 0) rfl) (pa_cons (pe_lst pa_nil) pa_nil)))
    (pss_cons (ps_expr (pe_bm PySem.F.plainAttrs_list PySem.F.slot_list_append PySem.F.type_list_append mt_append (pe_fld (pv 0) rfl) (pa_cons (pe_lst pa_nil) pa_nil)))
    (pss_cons (ps_fld (pv 0) (pe_op op_catA (pe_fld (pv 0) rfl) (pe_tup (pa_cons pe_int pa_nil))) rfl)
    (pss_one (ps_ret (pe_lst (pa_cons (pe_op op_sub (pe_callB call_len_seq (by rfl) T.len PySem.boot_len (pa_cons (pe_fld (pv 0) rfl) pa_nil)) pe_int) pa_nil)))))))))))), ?_⟩)
  obtain ⟨a, lab, n, Ad, pl, gv, v2, v3, rfl, N, W, h2, h3, hpl, hgv, kq⟩ := h
  obtain ⟨x, y, z, rfl⟩ := len3 hpl
  have NN : NW C H a n := ⟨netAt_net N, W⟩
  have hnf := W.nf
  have hla := W.la
  have kq2 : DeedK C lab H a Q (if n.nodes ≤ x ∨ n.nodes ≤ y then (n, Su203.error (-2)) else if x = y ∨ z = 0 ∨ 99 < z then (n, Su203.error (-22)) else if 5 ≤ n.flows.length then (n, Su203.error (-28)) else ({ n with flows := n.flows ++ [⟨x, y, z, [], []⟩], assignment := n.assignment ++ [0] }, Su203.ok n.flows.length [])) := kq
  refine rq_asgG (ed_var rfl h2) fun v H1 e1 r1 => g_unl3 r1 ?_
  refine q_when (et_or (et_not (et_B (ev_of (er_call (a, n, x) (eds_cons (ed_v rfl) (eds_cons (ed_v rfl) eds_nil)) (fun _ e => (NN.mono e1).mono e) back_D)))) (fun _ => et_not (et_B (ev_of (er_call (a, n, y) (eds_cons (ed_v rfl) (eds_cons (ed_v rfl) eds_nil)) (fun _ e => (NN.mono e1).mono e) back_D))))) (fun hb H2 e2 => ?_) (fun hb H2 e2 => ?_)
  · rw [Bool.or_eq_true, Bool.not_eq_true', Bool.not_eq_true', decide_eq_false_iff_not, decide_eq_false_iff_not, Nat.not_lt, Nat.not_lt] at hb
    rw [if_pos hb] at kq2
    exact r_ret (en_err 2) fun v H3 e3 r => deed_same kq2 N W rfl v H3 ((e1.trans e2).trans e3) (back_N _ _ _ _ (e1.trans e2) r)
  rw [Bool.or_eq_false_iff, Bool.not_eq_false', Bool.not_eq_false', decide_eq_true_eq, decide_eq_true_eq] at hb
  rw [if_neg (fun q => q.elim (Nat.not_le_of_lt hb.1) (Nat.not_le_of_lt hb.2))] at kq2
  have e12 := e1.trans e2
  refine q_when (et_or (et_eq (ed_v rfl) (ed_v rfl) rfl) (fun _ => et_not (et_within (i := 1) (k := 99) ed_c (ed_v rfl) ed_c))) (fun hb H3 e3 => ?_) (fun hb H3 e3 => ?_)
  · rw [Bool.or_eq_true, decide_eq_true_eq, Bool.not_eq_true', Bool.and_eq_false_iff, decide_eq_false_iff_not, decide_eq_false_iff_not] at hb
    rw [if_pos (show x = y ∨ z = 0 ∨ 99 < z by omega)] at kq2
    exact r_ret (en_err 22) fun v H4 e4 r => deed_same kq2 N W rfl v H4 ((e12.trans e3).trans e4) (back_N _ _ _ _ (e12.trans e3) r)
  rw [Bool.or_eq_false_iff, decide_eq_false_iff_not, Bool.not_eq_false', Bool.and_eq_true, decide_eq_true_eq, decide_eq_true_eq] at hb
  rw [if_neg (show ¬ (x = y ∨ z = 0 ∨ 99 < z) by omega)] at kq2
  have e13 := e12.trans e3
  refine q_when (et_eq (j := 5) (ed_nflows T (NN.net.mono e13) rfl) ed_c rfl) (fun hb H4 e4 => ?_) (fun hb H4 e4 => ?_)
  · have hb : n.flows.length = 5 := of_decide_eq_true hb
    rw [if_pos (show 5 ≤ n.flows.length by omega)] at kq2
    exact r_ret (en_err 28) fun v H5 e5 r => deed_same kq2 N W rfl v H5 ((e13.trans e4).trans e5) (back_N _ _ _ _ (e13.trans e4) r)
  have hb : ¬ n.flows.length = 5 := of_decide_eq_false hb
  rw [if_neg (show ¬ 5 ≤ n.flows.length by omega)] at kq2
  have e14 := e13.trans e4
  refine q_appFlows T (N.ex e14) rfl ⟨x, y, z, [], []⟩ (e0_tup3 (ed_v rfl) (ed_v rfl) (ed_v rfl)) (by omega) fun H5 N5 g5 => ?_
  refine q_appPaths T N5 rfl (by rw [List.length_map]; omega) fun H6 lab6 N6 g6 => ?_
  refine q_appRoutes T N6 rfl (by rw [List.length_map]; omega) fun H7 lab7 N7 g7 => ?_
  refine q_setAsg T N7 rfl (s' := n.assignment ++ [0]) (e0_catT (ed_asgR T N7 rfl) (EvR.ofR0 (e0_tup1 ed_c)) (by rw [hla]; show _ + 1 ≤ _; omega)) fun H8 A8 N8 g8 => ?_
  have W8 := wf_addFlow W (a := x) (b := y) (d := z) (by omega)
  have N9 : NetAt C lab7 H8 a { n with flows := n.flows ++ [⟨x, y, z, [], []⟩], assignment := n.assignment ++ [0] } A8 := by
    show NetR C lab7 H8 a n.nodes n.links n.links (n.flows ++ [⟨x, y, z, [], []⟩]) ((n.flows ++ [(⟨x, y, z, [], []⟩ : Su203.Flow)]).map (·.pathNodes)) ((n.flows ++ [(⟨x, y, z, [], []⟩ : Su203.Flow)]).map (·.pathLinks)) (n.assignment ++ [0]) A8
    rw [List.map_append, List.map_append]
    exact N8
  exact r_ret (eds_ints (l := [n.flows.length]) (eds_cons (ed_is (ed_pred (i := (n.flows ++ [(⟨x, y, z, [], []⟩ : Su203.Flow)]).length) (by rw [List.length_append]; simp) (ed_nflows T (netAt_net N9) rfl)) (by rw [List.length_append]; rfl)) eds_nil) (by show 1 ≤ 100000; decide)) (deed_nats kq2 N9 W8 ((Go.ex e14).trans (g5.trans (g6.trans (g7.trans g8)))) rfl)
end
end FL

namespace FL
open PySem PySem.Spec PyProof.Rows L2 Evl FM
open Su203 (Network Link)

section
variable {C : Addr} {H : Hp} {lab : Addr → Nat} {a : Addr} {A : NetAd} {nd : Nat} {le lc : List Link} {fs : List Su203.Flow} {ps rs : List (List (List Nat))} {s : List Nat}
theorem NetR.flowsEq {fs' : List Su203.Flow} (h : NetR C lab H a nd le lc fs ps rs s A) (e : (fs.map fun f => D.tup [dN f.source, dN f.destination, dN f.demand]) = fs'.map fun f => D.tup [dN f.source, dN f.destination, dN f.demand]) : NetR C lab H a nd le lc fs' ps rs s A :=
  ⟨h.obj, h.ka, h.ke, h.kc, h.kf, h.kp, h.kr, h.ends, h.caps, (by obtain ⟨vs, h1, h2⟩ := h.flows; exact ⟨vs, h1, by rw [← e]; exact h2⟩), h.paths, h.routes, h.asg⟩
theorem map_set_same {α β : Type} (g : α → β) : ∀ (l : List α) (i : Nat) (x d : α), g x = g (l.getD i d) → (l.set i x).map g = l.map g
  | [], _, _, _, _ => rfl
  | a :: l, 0, x, d, h => by
    have h : g x = g a := h
    show g x :: l.map g = g a :: l.map g
    rw [h]
  | a :: l, i + 1, x, d, h => by
    show g a :: (l.set i x).map g = g a :: l.map g
    rw [map_set_same g l i x d h]
end
section
variable {P : Program} {w : World} {K : PySem.W.Frag} {mg : Str → Option Value} {base : Heap} {C : Addr}
/-! ## add_path -/
abbrev s_add_path : Stmt := topS 28
abbrev N_add_path : List Str := ["network", "plain", "given", "flow"]
theorem sc_add_path : FnScope N_add_path ["network", "plain", "given"] (defScope s_add_path) := ⟨rfl, rfl, rfl, by decide +kernel, rfl, by decide +kernel, by decide +kernel⟩
theorem cal_add_path (T : Txt K mg C) (F : Def K mg "add_path" s_add_path ["network", "plain", "given"]) (c_has_flow : Cal P w K mg base 1 "has_flow" (sp_has_flow C)) (c_is_path : Cal P w K mg base 3 "is_path" (sp_is_path C)) (c_route_of : Cal P w K mg base 2 "route_of" (sp_route_of C)) : Cal P w K mg base 4 "add_path" (spDeed C 1 fun p g => .addPath (p.getD 0 0) g) := by
  refine cal_mk F sc_add_path spDeed_len (fun f cdv A outer s H vs Q E hr h => ⟨_, (pss_cons (ps_set (i := 3) sc_add_path.nd rfl (Or.inl rfl) (pe_ix ix_list (pv 1) pe_int (fun _ _ => rfl)))
    (pss_cons (ps_if (pt_not (pt_val (pe_cal c_has_flow hr (by decide) (by rfl) (pa_cons (pv 0) (pa_cons (pv 3) pa_nil)))))
      (pss_one (ps_ret (pe_lst (pa_cons (pe_un un_neg pe_int) pa_nil))))
      pss_nil)
    (pss_cons (ps_if (pt_not (pt_val (pe_cal c_is_path hr (by decide) (by rfl) (pa_cons (pv 0) (pa_cons (pv 3) (pa_cons (pv 2) pa_nil))))))
      (pss_one (ps_ret (pe_lst (pa_cons (pe_un un_neg pe_int) pa_nil))))
      pss_nil)
    (pss_cons (ps_if (pt_cmpR (op_inD (hu65 hr)) (pv 2) (pe_ix ix_list (pe_fld (pv 0) rfl) (pv 3) (fun _ _ => rfl)) (by rfl))
      (pss_one (ps_ret (pe_lst (pa_cons (pe_un un_neg pe_int) pa_nil))))
      pss_nil)
    (pss_cons (ps_if (pt_cmpR op_eq (pe_callB call_len_seq (by rfl) T.len PySem.boot_len (pa_cons (pe_ix ix_list (pe_fld (pv 0) rfl) (pv 3) (fun _ _ => rfl)) pa_nil)) (pe_gi (by rfl) T.cMOST_PATHS) (nomark _))
      (pss_one (ps_ret (pe_lst (pa_cons (pe_un un_neg pe_int) pa_nil))))
      pss_nil)
    (pss_cons (ps_expr (pe_bm PySem.F.plainAttrs_list PySem.F.slot_list_append PySem.F.type_list_append mt_append (pe_ix ix_list (pe_fld (pv 0) rfl) (pv 3) (fun _ _ => rfl)) (pa_cons (pe_callTy call_list_of (by rfl) T.list (by decide +kernel) (pa_cons (pv 2) pa_nil)) pa_nil)))
    (pss_cons (ps_expr (pe_bm PySem.F.plainAttrs_list PySem.F.slot_list_append PySem.F.type_list_append mt_append (pe_ix ix_list (pe_fld (pv 0) rfl) (pv 3) (fun _ _ => rfl)) (pa_cons (pe_cal c_route_of hr (by decide) (by rfl) (pa_cons (pv 0) (pa_cons (pv 2) pa_nil))) pa_nil)))
    (pss_one (ps_ret (pe_lst (pa_cons (pe_op op_sub (pe_callB call_len_seq (by rfl) T.len PySem.boot_len (pa_cons (pe_ix ix_list (pe_fld (pv 0) rfl) (pv 3) (fun _ _ => rfl)) pa_nil)) pe_int) pa_nil))))))))))), ?_⟩)
  obtain ⟨a, lab, n, Ad, pl, gv, v2, v3, rfl, N, W, h2, h3, hpl, hgv, kq⟩ := h
  obtain ⟨x, rfl⟩ := len1 hpl
  have NN : NW C H a n := ⟨netAt_net N, W⟩
  have kq2 : DeedK C lab H a Q (if n.flows.length ≤ x then (n, Su203.error (-2)) else if n.isPath x gv = false then (n, Su203.error (-22)) else if (n.flow x).pathNodes.contains gv = true then (n, Su203.error (-17)) else if 3 ≤ (n.flow x).pathLinks.length then (n, Su203.error (-28)) else
    ({ n with flows := n.flows.set x { n.flow x with pathLinks := (n.flow x).pathLinks ++ [(n.linksAlong gv).getD []], pathNodes := (n.flow x).pathNodes ++ [gv] } }, Su203.ok (n.flow x).pathLinks.length [])) := kq
  refine rq_asg (ed_p0 (ed_var rfl h2) (by show 0 < 1; decide)) fun v4 H1 e1 r4 => ?_
  cases (val_eq r4 : v4 = vN x)
  refine q_when (et_not (et_B (ev_of (er_call (a, n, x) (eds_cons (ed_v rfl) (eds_cons (ed_v rfl) eds_nil)) (fun _ e => (NN.mono e1).mono e) back_D)))) (fun hb H2 e2 => ?_) (fun hb H2 e2 => ?_)
  · rw [Bool.not_eq_true'] at hb
    have hb : ¬ x < n.flows.length := of_decide_eq_false hb
    rw [if_pos (Nat.le_of_not_lt hb)] at kq2
    exact r_ret (en_err 2) fun v H3 e3 r => deed_same kq2 N W rfl v H3 ((e1.trans e2).trans e3) (back_N _ _ _ _ (e1.trans e2) r)
  rw [Bool.not_eq_false'] at hb
  have hx : x < n.flows.length := of_decide_eq_true hb
  rw [if_neg (Nat.not_le_of_lt hx)] at kq2
  have e12 := e1.trans e2
  have hpl := W.pl _ (flow_mem hx)
  refine q_when (et_not (et_B (ev_of (er_call (a, n, x, gv) (eds_cons (ed_v rfl) (eds_cons (ed_v rfl) (eds_cons (ed_var rfl (IsO.ex e12 h3.all)) eds_nil))) (fun _ e => ⟨(NN.mono e12).mono e, hx, show gv.length ≤ 1000 by omega⟩) back_D)))) (fun hb H3 e3 => ?_) (fun hb H3 e3 => ?_)
  · rw [Bool.not_eq_true'] at hb
    rw [if_pos hb] at kq2
    exact r_ret (en_err 22) fun v H4 e4 r => deed_same kq2 N W rfl v H4 ((e12.trans e3).trans e4) (back_N _ _ _ _ (e12.trans e3) r)
  rw [Bool.not_eq_false'] at hb
  have hb : n.isPath x gv = true := hb
  rw [if_neg (by rw [hb]; exact Bool.noConfusion)] at kq2
  have e13 := e12.trans e3
  have hb2 := hb
  unfold Network.isPath at hb2
  rw [Bool.and_eq_true, Bool.and_eq_true, Bool.and_eq_true, Bool.and_eq_true, decide_eq_true_eq] at hb2
  obtain ⟨hg2, _, _, _, hso⟩ := hb2
  obtain ⟨k, hk⟩ := Option.isSome_iff_exists.mp hso
  rw [hk] at kq2
  refine q_when (et_test (ev_inLs (ed_var rfl (IsO.ex e13 h3.all)) (ed_pathsOf T (NN.net.mono e13) rfl (ed_v rfl) hx))) (fun hb H4 e4 => ?_) (fun hb H4 e4 => ?_)
  · rw [if_pos hb] at kq2
    exact r_ret (en_err 17) fun v H5 e5 r => deed_same kq2 N W rfl v H5 ((e13.trans e4).trans e5) (back_N _ _ _ _ (e13.trans e4) r)
  rw [if_neg (by rw [hb]; exact Bool.noConfusion)] at kq2
  have e14 := e13.trans e4
  refine q_when (et_eq (j := 3) (ed_is (ed_len (ed_pathsOf T (NN.net.mono e14) rfl (ed_v rfl) hx)) (by rw [List.length_map, ← hpl.1])) ed_c rfl) (fun hb H5 e5 => ?_) (fun hb H5 e5 => ?_)
  · have hb : (n.flow x).pathLinks.length = 3 := of_decide_eq_true hb
    rw [if_pos (show 3 ≤ (n.flow x).pathLinks.length by omega)] at kq2
    exact r_ret (en_err 28) fun v H6 e6 r => deed_same kq2 N W rfl v H6 ((e14.trans e5).trans e6) (back_N _ _ _ _ (e14.trans e5) r)
  have hb : ¬ (n.flow x).pathLinks.length = 3 := of_decide_eq_false hb
  rw [if_neg (show ¬ 3 ≤ (n.flow x).pathLinks.length by omega)] at kq2
  have e15 := e14.trans e5
  have N5 := N.ex e15
  refine q_addPath T N5 rfl (i := x) (t := (n.flow x).pathNodes) (by rw [List.getElem?_map, flow_get hx]; rfl) (ev_var rfl) (en_listL (ed_var rfl (IsO.ex e15 h3.all))) (by omega) fun H6 lab6 N6 g6 => ?_
  have h36 : Is H6 (dNs gv) v3 := by
    obtain ⟨q, rfl, hq0, hq⟩ := isO_dNs.mp h3
    exact isO_dNs.mpr ⟨q, rfl, True.intro, g6.fr _ _ (e15 _ _ hq) hq0⟩
  have e0 : (routeL n gv).map dI = k.map dN := by
    rw [(routeL_along gv).2 k hk, List.map_map]
    rfl
  refine q_addRoute T N6 rfl (i := x) (t := (n.flow x).pathLinks) (by rw [List.getElem?_map, flow_get hx]; rfl) (ev_var rfl) (en_is (er_call (a, n, gv) (eds_cons (ed_v rfl) (eds_cons (ed_var rfl h36) eds_nil)) (fun _ e => ⟨NetE.mono e (NetR.toE N6), show 1 ≤ gv.length by omega, show gv.length ≤ 1000 by omega⟩) back_N) e0) (by omega) fun H7 lab7 N7 g7 => ?_
  have W7 := wf_addPath W (f := x) (l := gv) (k := k) hx hk (by omega) (by omega)
  have N8 : NetAt C lab7 H7 a { n with flows := n.flows.set x { n.flow x with pathLinks := (n.flow x).pathLinks ++ [k], pathNodes := (n.flow x).pathNodes ++ [gv] } } Ad := by
    show NetR C lab7 H7 a n.nodes n.links n.links (n.flows.set x _) ((n.flows.set x _).map (·.pathNodes)) ((n.flows.set x _).map (·.pathLinks)) n.assignment Ad
    rw [List.map_set, List.map_set]
    exact N7.flowsEq (by refine Eq.symm ?_; exact map_set_same _ n.flows x _ (⟨0, 0, 0, [], []⟩ : Su203.Flow) rfl)
  have hself : (n.flows.set x { n.flow x with pathLinks := (n.flow x).pathLinks ++ [k], pathNodes := (n.flow x).pathNodes ++ [gv] }).getD x ⟨0, 0, 0, [], []⟩ = { n.flow x with pathLinks := (n.flow x).pathLinks ++ [k], pathNodes := (n.flow x).pathNodes ++ [gv] } := by
    rw [List.getD_eq_getElem?_getD, List.getElem?_set_self hx]
    rfl
  refine r_ret (eds_ints (l := [(n.flow x).pathLinks.length]) (eds_cons (ed_is (ed_pred (i := ((n.flow x).pathNodes ++ [gv]).length) (by rw [List.length_append]; simp) (ed_is (ed_len (ed_pathsOf T (netAt_net N8) rfl (ed_v rfl) (by show x < (n.flows.set x _).length; rw [List.length_set]; exact hx))) ?_)) (by rw [List.length_append, hpl.1]; rfl)) eds_nil) (by show 1 ≤ 100000; decide)) (deed_nats kq2 N8 W7 ((Go.ex e15).trans (g6.trans g7)) rfl)
  rw [List.length_map]
  show dN ((n.flows.set x _).getD x _).pathNodes.length = _
  rw [hself]
/-! ## place_flow, stop_flow, move_flow -/
abbrev s_place_flow : Stmt := topS 29
abbrev N_place_flow : List Str := ["network", "plain", "given", "flow", "path"]
theorem sc_place_flow : FnScope N_place_flow ["network", "plain", "given"] (defScope s_place_flow) := ⟨rfl, rfl, rfl, by decide +kernel, rfl, by decide +kernel, by decide +kernel⟩
theorem cal_place_flow (T : Txt K mg C) (F : Def K mg "place_flow" s_place_flow ["network", "plain", "given"]) (c_has_path : Cal P w K mg base 2 "has_path" (sp_has_path C)) (c_has_room : Cal P w K mg base 4 "has_room" (sp_has_room C)) (c_with_flow : Cal P w K mg base 1 "with_flow" sp_with_flow) : Cal P w K mg base 5 "place_flow" (spDeed C 2 fun p _ => .placeFlow (p.getD 0 0) (p.getD 1 0)) := by
  refine cal_mk F sc_place_flow spDeed_len (fun f cdv A outer s H vs Q E hr h => ⟨_, (pss_cons (ps_asg (pv 1) (pg_unl (by rfl) (pgs_cons (pg_name (i := 3) sc_place_flow.nd rfl (Or.inl rfl)) (pgs_cons (pg_name (i := 4) sc_place_flow.nd rfl (Or.inl rfl)) pgs_nil))))
    (pss_cons (ps_if (pt_not (pt_val (pe_cal c_has_path hr (by decide) (by rfl) (pa_cons (pv 0) (pa_cons (pv 3) (pa_cons (pv 4) pa_nil))))))
      (pss_one (ps_ret (pe_lst (pa_cons (pe_un un_neg pe_int) pa_nil))))
      pss_nil)
    (pss_cons (ps_if (pt_cmpR op_ne (pe_ix ix_tup (pe_fld (pv 0) rfl) (pv 3) (fun _ _ => rfl)) pe_int (nomark _))
      (pss_one (ps_ret (pe_lst (pa_cons (pe_un un_neg pe_int) pa_nil))))
      pss_nil)
    (pss_cons (ps_if (pt_not (pt_val (pe_cal c_has_room hr (by decide) (by rfl) (pa_cons (pv 0) (pa_cons (pe_fld (pv 0) rfl) (pa_cons (pv 3) (pa_cons (pv 4) pa_nil)))))))
      (pss_one (ps_ret (pe_lst (pa_cons (pe_un un_neg pe_int) pa_nil))))
      pss_nil)
    (pss_cons (ps_fld (pv 0) (pe_cal c_with_flow hr (by decide) (by rfl) (pa_cons (pe_fld (pv 0) rfl) (pa_cons (pv 3) (pa_cons (pe_op op_add (pv 4) pe_int) pa_nil)))) rfl)
    (pss_one (ps_ret (pe_lst (pa_cons (pe_ix ix_tup (pe_ix ix_list (pe_fld (pv 0) rfl) (pv 3) (fun _ _ => rfl)) pe_int (fun _ _ => rfl)) pa_nil))))))))), ?_⟩)
  obtain ⟨a, lab, n, Ad, pl, gv, v2, v3, rfl, N, W, h2, h3, hpl, hgv, kq⟩ := h
  obtain ⟨x, y, rfl⟩ := len2 hpl
  have NN : NW C H a n := ⟨netAt_net N, W⟩
  have hla := W.la
  have hnf := W.nf
  have kq2 : DeedK C lab H a Q (if n.flows.length ≤ x ∨ (n.flow x).pathLinks.length ≤ y then (n, Su203.error (-2)) else if n.assignment.getD x 0 ≠ 0 then (n, Su203.error (-17)) else if n.isFeasible (n.assignment.set x (y + 1)) = false then (n, Su203.error (-33)) else ({ n with assignment := n.assignment.set x (y + 1) }, Su203.ok (n.flow x).demand [])) := kq
  refine rq_asgG (ed_var rfl h2) fun v H1 e1 r1 => g_unl2 r1 ?_
  refine q_when (et_not (et_B (ev_of (er_call (a, n, x, y) (eds_cons (ed_v rfl) (eds_cons (ed_v rfl) (eds_cons (ed_v rfl) eds_nil))) (fun _ e => (NN.mono e1).mono e) back_D)))) (fun hb H2 e2 => ?_) (fun hb H2 e2 => ?_)
  · rw [Bool.not_eq_true', Bool.and_eq_false_iff, decide_eq_false_iff_not, decide_eq_false_iff_not, Nat.not_lt, Nat.not_lt] at hb
    rw [if_pos hb] at kq2
    exact r_ret (en_err 2) fun v H3 e3 r => deed_same kq2 N W rfl v H3 ((e1.trans e2).trans e3) (back_N _ _ _ _ (e1.trans e2) r)
  rw [Bool.not_eq_false', Bool.and_eq_true, decide_eq_true_eq, decide_eq_true_eq] at hb
  obtain ⟨hx, hy⟩ := hb
  have hx : x < n.flows.length := hx
  have hy : y < (n.flow x).pathLinks.length := hy
  rw [if_neg (fun q => q.elim (Nat.not_le_of_lt hx) (Nat.not_le_of_lt hy))] at kq2
  have e12 := e1.trans e2
  refine q_when (et_ne (j := 0) (ed_sAt (ed_asg T (NN.net.mono e12) rfl) (ed_v rfl) (by omega)) ed_c rfl) (fun hb H3 e3 => ?_) (fun hb H3 e3 => ?_)
  · rw [if_pos (of_decide_eq_true hb)] at kq2
    exact r_ret (en_err 17) fun v H4 e4 r => deed_same kq2 N W rfl v H4 ((e12.trans e3).trans e4) (back_N _ _ _ _ (e12.trans e3) r)
  have h0 : n.assignment.getD x 0 = 0 := Decidable.not_not.mp (of_decide_eq_false hb)
  rw [if_neg (fun q => q h0)] at kq2
  have e13 := e12.trans e3
  refine q_when (et_not (et_B (ev_of (er_call (a, n, n.assignment, x, y) (eds_cons (ed_v rfl) (eds_cons (ed_asg T (NN.net.mono e13) rfl) (eds_cons (ed_v rfl) (eds_cons (ed_v rfl) eds_nil)))) (fun _ e => ⟨(NN.mono e13).mono e, W.shaped, hx, hy⟩) back_D)))) (fun hb H4 e4 => ?_) (fun hb H4 e4 => ?_)
  · rw [Bool.not_eq_true'] at hb
    rw [if_pos ((hasRoom_place W hx h0).symm.trans hb)] at kq2
    exact r_ret (en_err 33) fun v H5 e5 r => deed_same kq2 N W rfl v H5 ((e13.trans e4).trans e5) (back_N _ _ _ _ (e13.trans e4) r)
  rw [Bool.not_eq_false'] at hb
  have hfe : n.isFeasible (n.assignment.set x (y + 1)) = true := (hasRoom_place W hx h0).symm.trans hb
  rw [if_neg (by rw [hfe]; exact Bool.noConfusion)] at kq2
  have e14 := e13.trans e4
  refine q_setAsg T (N.ex e14) rfl (s' := n.assignment.set x (y + 1)) (er_call (n.assignment, x, y + 1) (eds_cons (ed_asgR T (N.ex e14) rfl) (eds_cons (ed_v rfl) (eds_cons (ed_succ (ed_v rfl)) eds_nil))) (fun _ _ => ⟨show x < n.assignment.length by omega, show n.assignment.length ≤ 1000 by omega⟩) back_0) fun H5 A5 N5 g5 => ?_
  have W5 := wf_asg W (shaped_set W hx (show y + 1 ≤ _ by omega)) hfe
  have N6 : NetAt C lab H5 a { n with assignment := n.assignment.set x (y + 1) } A5 := N5
  exact r_ret (eds_ints (l := [(n.flow x).demand]) (eds_cons (ed_demand T (netAt_net N6) rfl (ed_v rfl) hx) eds_nil) (by show 1 ≤ 100000; decide)) (deed_nats kq2 N6 W5 ((Go.ex e14).trans g5) rfl)
abbrev s_stop_flow : Stmt := topS 30
abbrev N_stop_flow : List Str := ["network", "plain", "given", "flow", "previous"]
theorem sc_stop_flow : FnScope N_stop_flow ["network", "plain", "given"] (defScope s_stop_flow) := ⟨rfl, rfl, rfl, by decide +kernel, rfl, by decide +kernel, by decide +kernel⟩
theorem cal_stop_flow (T : Txt K mg C) (F : Def K mg "stop_flow" s_stop_flow ["network", "plain", "given"]) (c_has_flow : Cal P w K mg base 1 "has_flow" (sp_has_flow C)) (c_with_flow : Cal P w K mg base 1 "with_flow" sp_with_flow) : Cal P w K mg base 2 "stop_flow" (spDeed C 1 fun p _ => .stopFlow (p.getD 0 0)) := by
  refine cal_mk F sc_stop_flow spDeed_len (fun f cdv A outer s H vs Q E hr h => ⟨_, (pss_cons (ps_set (i := 3) sc_stop_flow.nd rfl (Or.inl rfl) (pe_ix ix_list (pv 1) pe_int (fun _ _ => rfl)))
    (pss_cons (ps_if (pt_not (pt_val (pe_cal c_has_flow hr (by decide) (by rfl) (pa_cons (pv 0) (pa_cons (pv 3) pa_nil)))))
      (pss_one (ps_ret (pe_lst (pa_cons (pe_un un_neg pe_int) pa_nil))))
      pss_nil)
    (pss_cons (ps_if (pt_cmpR op_eq (pe_ix ix_tup (pe_fld (pv 0) rfl) (pv 3) (fun _ _ => rfl)) pe_int (nomark _))
      (pss_one (ps_ret (pe_lst (pa_cons (pe_un un_neg pe_int) pa_nil))))
      pss_nil)
    (pss_cons (ps_set (i := 4) sc_stop_flow.nd rfl (Or.inl rfl) (pe_op op_sub (pe_ix ix_tup (pe_fld (pv 0) rfl) (pv 3) (fun _ _ => rfl)) pe_int))
    (pss_cons (ps_fld (pv 0) (pe_cal c_with_flow hr (by decide) (by rfl) (pa_cons (pe_fld (pv 0) rfl) (pa_cons (pv 3) (pa_cons pe_int pa_nil)))) rfl)
    (pss_one (ps_ret (pe_lst (pa_cons (pv 4) pa_nil))))))))), ?_⟩)
  obtain ⟨a, lab, n, Ad, pl, gv, v2, v3, rfl, N, W, h2, h3, hpl, hgv, kq⟩ := h
  obtain ⟨x, rfl⟩ := len1 hpl
  have NN : NW C H a n := ⟨netAt_net N, W⟩
  have hla := W.la
  have hnf := W.nf
  have kq2 : DeedK C lab H a Q (if n.flows.length ≤ x then (n, Su203.error (-2)) else if n.assignment.getD x 0 = 0 then (n, Su203.error (-6)) else ({ n with assignment := n.assignment.set x 0 }, Su203.ok (n.assignment.getD x 0 - 1) [])) := kq
  refine rq_asg (ed_p0 (ed_var rfl h2) (by show 0 < 1; decide)) fun v4 H1 e1 r4 => ?_
  cases (val_eq r4 : v4 = vN x)
  refine q_when (et_not (et_B (ev_of (er_call (a, n, x) (eds_cons (ed_v rfl) (eds_cons (ed_v rfl) eds_nil)) (fun _ e => (NN.mono e1).mono e) back_D)))) (fun hb H2 e2 => ?_) (fun hb H2 e2 => ?_)
  · rw [Bool.not_eq_true'] at hb
    have hb : ¬ x < n.flows.length := of_decide_eq_false hb
    rw [if_pos (Nat.le_of_not_lt hb)] at kq2
    exact r_ret (en_err 2) fun v H3 e3 r => deed_same kq2 N W rfl v H3 ((e1.trans e2).trans e3) (back_N _ _ _ _ (e1.trans e2) r)
  rw [Bool.not_eq_false'] at hb
  have hx : x < n.flows.length := of_decide_eq_true hb
  rw [if_neg (Nat.not_le_of_lt hx)] at kq2
  have e12 := e1.trans e2
  refine q_when (et_eq (j := 0) (ed_sAt (ed_asg T (NN.net.mono e12) rfl) (ed_v rfl) (by omega)) ed_c rfl) (fun hb H3 e3 => ?_) (fun hb H3 e3 => ?_)
  · rw [if_pos (of_decide_eq_true hb)] at kq2
    exact r_ret (en_err 6) fun v H4 e4 r => deed_same kq2 N W rfl v H4 ((e12.trans e3).trans e4) (back_N _ _ _ _ (e12.trans e3) r)
  have h0 : ¬ n.assignment.getD x 0 = 0 := of_decide_eq_false hb
  rw [if_neg h0] at kq2
  have e13 := e12.trans e3
  refine rq_asg (ed_pred h0 (ed_sAt (ed_asg T (NN.net.mono e13) rfl) (ed_v rfl) (by omega))) fun v5 H4 e4 r5 => ?_
  cases val_eq r5
  have e14 := e13.trans e4
  refine q_setAsg T (N.ex e14) rfl (s' := n.assignment.set x 0) (er_call (n.assignment, x, 0) (eds_cons (ed_asgR T (N.ex e14) rfl) (eds_cons (ed_v rfl) (eds_cons ed_c eds_nil))) (fun _ _ => ⟨show x < n.assignment.length by omega, show n.assignment.length ≤ 1000 by omega⟩) back_0) fun H5 A5 N5 g5 => ?_
  have W5 := wf_asg W (shaped_set W hx (Nat.zero_le _)) (stop_feasible W hx)
  have N6 : NetAt C lab H5 a { n with assignment := n.assignment.set x 0 } A5 := N5
  exact r_ret (eds_ints (l := [n.assignment.getD x 0 - 1]) (eds_cons (ed_v rfl) eds_nil) (by show 1 ≤ 100000; decide)) (deed_nats kq2 N6 W5 ((Go.ex e14).trans g5) rfl)
abbrev s_move_flow : Stmt := topS 31
abbrev N_move_flow : List Str := ["network", "plain", "given", "flow", "path", "previous"]
theorem sc_move_flow : FnScope N_move_flow ["network", "plain", "given"] (defScope s_move_flow) := ⟨rfl, rfl, rfl, by decide +kernel, rfl, by decide +kernel, by decide +kernel⟩
theorem cal_move_flow (T : Txt K mg C) (F : Def K mg "move_flow" s_move_flow ["network", "plain", "given"]) (c_has_path : Cal P w K mg base 2 "has_path" (sp_has_path C)) (c_is_allowed : Cal P w K mg base 5 "is_allowed" (sp_is_allowed C)) (c_with_flow : Cal P w K mg base 1 "with_flow" sp_with_flow) : Cal P w K mg base 6 "move_flow" (spDeed C 2 fun p _ => .moveFlow (p.getD 0 0) (p.getD 1 0)) := by
  refine cal_mk F sc_move_flow spDeed_len (fun f cdv A outer s H vs Q E hr h => ⟨_, (pss_cons (ps_asg (pv 1) (pg_unl (by rfl) (pgs_cons (pg_name (i := 3) sc_move_flow.nd rfl (Or.inl rfl)) (pgs_cons (pg_name (i := 4) sc_move_flow.nd rfl (Or.inl rfl)) pgs_nil))))
    (pss_cons (ps_if (pt_not (pt_val (pe_cal c_has_path hr (by decide) (by rfl) (pa_cons (pv 0) (pa_cons (pv 3) (pa_cons (pv 4) pa_nil))))))
      (pss_one (ps_ret (pe_lst (pa_cons (pe_un un_neg pe_int) pa_nil))))
      pss_nil)
    (pss_cons (ps_if (pt_cmpR op_eq (pe_ix ix_tup (pe_fld (pv 0) rfl) (pv 3) (fun _ _ => rfl)) pe_int (nomark _))
      (pss_one (ps_ret (pe_lst (pa_cons (pe_un un_neg pe_int) pa_nil))))
      pss_nil)
    (pss_cons (ps_if (pt_cmpR op_eq (pe_ix ix_tup (pe_fld (pv 0) rfl) (pv 3) (fun _ _ => rfl)) (pe_op op_add (pv 4) pe_int) (nomark _))
      (pss_one (ps_ret (pe_lst (pa_cons (pe_un un_neg pe_int) pa_nil))))
      pss_nil)
    (pss_cons (ps_if (pt_not (pt_val (pe_cal c_is_allowed hr (by decide) (by rfl) (pa_cons (pv 0) (pa_cons (pe_fld (pv 0) rfl) (pa_cons (pv 3) (pa_cons (pv 4) pa_nil)))))))
      (pss_one (ps_ret (pe_lst (pa_cons (pe_un un_neg pe_int) pa_nil))))
      pss_nil)
    (pss_cons (ps_set (i := 5) sc_move_flow.nd rfl (Or.inl rfl) (pe_op op_sub (pe_ix ix_tup (pe_fld (pv 0) rfl) (pv 3) (fun _ _ => rfl)) pe_int))
    (pss_cons (ps_fld (pv 0) (pe_cal c_with_flow hr (by decide) (by rfl) (pa_cons (pe_fld (pv 0) rfl) (pa_cons (pv 3) (pa_cons (pe_op op_add (pv 4) pe_int) pa_nil)))) rfl)
    (pss_one (ps_ret (pe_lst (pa_cons (pv 5) pa_nil))))))))))), ?_⟩)
  obtain ⟨a, lab, n, Ad, pl, gv, v2, v3, rfl, N, W, h2, h3, hpl, hgv, kq⟩ := h
  obtain ⟨x, y, rfl⟩ := len2 hpl
  have NN : NW C H a n := ⟨netAt_net N, W⟩
  have hla := W.la
  have hnf := W.nf
  have kq2 : DeedK C lab H a Q (if n.flows.length ≤ x ∨ (n.flow x).pathLinks.length ≤ y then (n, Su203.error (-2)) else if n.assignment.getD x 0 = 0 then (n, Su203.error (-6)) else if n.assignment.getD x 0 = y + 1 then (n, Su203.error (-17)) else if n.canMove n.assignment x (y + 1) = false then (n, Su203.error (-33)) else ({ n with assignment := n.assignment.set x (y + 1) }, Su203.ok (n.assignment.getD x 0 - 1) [])) := kq
  refine rq_asgG (ed_var rfl h2) fun v H1 e1 r1 => g_unl2 r1 ?_
  refine q_when (et_not (et_B (ev_of (er_call (a, n, x, y) (eds_cons (ed_v rfl) (eds_cons (ed_v rfl) (eds_cons (ed_v rfl) eds_nil))) (fun _ e => (NN.mono e1).mono e) back_D)))) (fun hb H2 e2 => ?_) (fun hb H2 e2 => ?_)
  · rw [Bool.not_eq_true', Bool.and_eq_false_iff, decide_eq_false_iff_not, decide_eq_false_iff_not, Nat.not_lt, Nat.not_lt] at hb
    rw [if_pos hb] at kq2
    exact r_ret (en_err 2) fun v H3 e3 r => deed_same kq2 N W rfl v H3 ((e1.trans e2).trans e3) (back_N _ _ _ _ (e1.trans e2) r)
  rw [Bool.not_eq_false', Bool.and_eq_true, decide_eq_true_eq, decide_eq_true_eq] at hb
  obtain ⟨hx, hy⟩ := hb
  have hx : x < n.flows.length := hx
  have hy : y < (n.flow x).pathLinks.length := hy
  rw [if_neg (fun q => q.elim (Nat.not_le_of_lt hx) (Nat.not_le_of_lt hy))] at kq2
  have e12 := e1.trans e2
  refine q_when (et_eq (j := 0) (ed_sAt (ed_asg T (NN.net.mono e12) rfl) (ed_v rfl) (by omega)) ed_c rfl) (fun hb H3 e3 => ?_) (fun hb H3 e3 => ?_)
  · rw [if_pos (of_decide_eq_true hb)] at kq2
    exact r_ret (en_err 6) fun v H4 e4 r => deed_same kq2 N W rfl v H4 ((e12.trans e3).trans e4) (back_N _ _ _ _ (e12.trans e3) r)
  have h0 : ¬ n.assignment.getD x 0 = 0 := of_decide_eq_false hb
  rw [if_neg h0] at kq2
  have e13 := e12.trans e3
  refine q_when (et_eq (ed_sAt (ed_asg T (NN.net.mono e13) rfl) (ed_v rfl) (by omega)) (ed_succ (ed_v rfl)) rfl) (fun hb H4 e4 => ?_) (fun hb H4 e4 => ?_)
  · rw [if_pos (of_decide_eq_true hb)] at kq2
    exact r_ret (en_err 17) fun v H5 e5 r => deed_same kq2 N W rfl v H5 ((e13.trans e4).trans e5) (back_N _ _ _ _ (e13.trans e4) r)
  rw [if_neg (of_decide_eq_false hb)] at kq2
  have e14 := e13.trans e4
  refine q_when (et_not (et_B (ev_of (er_call (a, n, n.assignment, x, y) (eds_cons (ed_v rfl) (eds_cons (ed_asg T (NN.net.mono e14) rfl) (eds_cons (ed_v rfl) (eds_cons (ed_v rfl) eds_nil)))) (fun _ e => ⟨(NN.mono e14).mono e, W.shaped, hx, hy⟩) back_D)))) (fun hb H5 e5 => ?_) (fun hb H5 e5 => ?_)
  · rw [Bool.not_eq_true'] at hb
    have hb : n.canMove n.assignment x (y + 1) = false := hb
    rw [if_pos hb] at kq2
    exact r_ret (en_err 33) fun v H6 e6 r => deed_same kq2 N W rfl v H6 ((e14.trans e5).trans e6) (back_N _ _ _ _ (e14.trans e5) r)
  rw [Bool.not_eq_false'] at hb
  have hm : n.canMove n.assignment x (y + 1) = true := hb
  rw [if_neg (by rw [hm]; exact Bool.noConfusion)] at kq2
  have e15 := e14.trans e5
  refine rq_asg (ed_pred h0 (ed_sAt (ed_asg T (NN.net.mono e15) rfl) (ed_v rfl) (by omega))) fun v5 H6 e6 r5 => ?_
  cases val_eq r5
  have e16 := e15.trans e6
  refine q_setAsg T (N.ex e16) rfl (s' := n.assignment.set x (y + 1)) (er_call (n.assignment, x, y + 1) (eds_cons (ed_asgR T (N.ex e16) rfl) (eds_cons (ed_v rfl) (eds_cons (ed_succ (ed_v rfl)) eds_nil))) (fun _ _ => ⟨show x < n.assignment.length by omega, show n.assignment.length ≤ 1000 by omega⟩) back_0) fun H7 A7 N7 g7 => ?_
  have W7 := wf_asg W (shaped_set W hx (show y + 1 ≤ _ by omega)) (move_feasible hx W.la W.fe hm)
  have N8 : NetAt C lab H7 a { n with assignment := n.assignment.set x (y + 1) } A7 := N7
  exact r_ret (eds_ints (l := [n.assignment.getD x 0 - 1]) (eds_cons (ed_v rfl) eds_nil) (by show 1 ≤ 100000; decide)) (deed_nats kq2 N8 W7 ((Go.ex e16).trans g7) rfl)
/-! ## set_capacity -/
abbrev s_set_capacity : Stmt := topS 32
abbrev N_set_capacity : List Str := ["network", "plain", "given", "link", "capacity", "previous"]
theorem sc_set_capacity : FnScope N_set_capacity ["network", "plain", "given"] (defScope s_set_capacity) := ⟨rfl, rfl, rfl, by decide +kernel, rfl, by decide +kernel, by decide +kernel⟩
theorem cal_set_capacity (T : Txt K mg C) (F : Def K mg "set_capacity" s_set_capacity ["network", "plain", "given"]) (c_has_link : Cal P w K mg base 1 "has_link" (sp_has_link C)) (c_load_of : Cal P w K mg base 3 "load_of" (sp_load_of C)) : Cal P w K mg base 4 "set_capacity" (spDeed C 2 fun p _ => .setCapacity (p.getD 0 0) (p.getD 1 0)) := by
  refine cal_mk F sc_set_capacity spDeed_len (fun f cdv A outer s H vs Q E hr h => ⟨_, (pss_cons (ps_asg (pv 1) (pg_unl (by rfl) (pgs_cons (pg_name (i := 3) sc_set_capacity.nd rfl (Or.inl rfl)) (pgs_cons (pg_name (i := 4) sc_set_capacity.nd rfl (Or.inl rfl)) pgs_nil))))
    (pss_cons (ps_if (pt_not (pt_val (pe_cal c_has_link hr (by decide) (by rfl) (pa_cons (pv 0) (pa_cons (pv 3) pa_nil)))))
      (pss_one (ps_ret (pe_lst (pa_cons (pe_un un_neg pe_int) pa_nil))))
      pss_nil)
    (pss_cons (ps_if (pt_cmpR op_gt (pv 4) (pe_gi (by rfl) T.cMOST_AMOUNT) (nomark _))
      (pss_one (ps_ret (pe_lst (pa_cons (pe_un un_neg pe_int) pa_nil))))
      pss_nil)
    (pss_cons (ps_if (pt_cmpR op_lt (pv 4) (pe_cal c_load_of hr (by decide) (by rfl) (pa_cons (pv 0) (pa_cons (pe_fld (pv 0) rfl) (pa_cons (pv 3) pa_nil)))) (nomark _))
      (pss_one (ps_ret (pe_lst (pa_cons (pe_un un_neg pe_int) pa_nil))))
      pss_nil)
    (pss_cons (ps_set (i := 5) sc_set_capacity.nd rfl (Or.inl rfl) (pe_ix ix_list (pe_fld (pv 0) rfl) (pv 3) (fun _ _ => rfl)))
    (pss_cons (ps_asg (pv 4) (pg_sub (pe_fld (pv 0) rfl) (pv 3) set_list))
    (pss_one (ps_ret (pe_lst (pa_cons (pv 5) pa_nil)))))))))), ?_⟩)
  obtain ⟨a, lab, n, Ad, pl, gv, v2, v3, rfl, N, W, h2, h3, hpl, hgv, kq⟩ := h
  obtain ⟨x, y, rfl⟩ := len2 hpl
  have NN : NW C H a n := ⟨netAt_net N, W⟩
  have kq2 : DeedK C lab H a Q (if n.links.length ≤ x then (n, Su203.error (-2)) else if 99 < y then (n, Su203.error (-22)) else if y < n.load n.assignment x then (n, Su203.error (-33)) else ({ n with links := n.links.set x { n.link x with capacity := y } }, Su203.ok (n.link x).capacity [])) := kq
  refine rq_asgG (ed_var rfl h2) fun v H1 e1 r1 => g_unl2 r1 ?_
  refine q_when (et_not (et_B (ev_of (er_call (a, n, x) (eds_cons (ed_v rfl) (eds_cons (ed_v rfl) eds_nil)) (fun _ e => (NN.mono e1).mono e) back_D)))) (fun hb H2 e2 => ?_) (fun hb H2 e2 => ?_)
  · rw [Bool.not_eq_true'] at hb
    have hb : ¬ x < n.links.length := of_decide_eq_false hb
    rw [if_pos (Nat.le_of_not_lt hb)] at kq2
    exact r_ret (en_err 2) fun v H3 e3 r => deed_same kq2 N W rfl v H3 ((e1.trans e2).trans e3) (back_N _ _ _ _ (e1.trans e2) r)
  rw [Bool.not_eq_false'] at hb
  have hx : x < n.links.length := of_decide_eq_true hb
  rw [if_neg (Nat.not_le_of_lt hx)] at kq2
  have e12 := e1.trans e2
  refine q_when (et_gt (j := 99) (ed_v rfl) ed_c rfl) (fun hb H3 e3 => ?_) (fun hb H3 e3 => ?_)
  · rw [if_pos (of_decide_eq_true hb)] at kq2
    exact r_ret (en_err 22) fun v H4 e4 r => deed_same kq2 N W rfl v H4 ((e12.trans e3).trans e4) (back_N _ _ _ _ (e12.trans e3) r)
  rw [if_neg (of_decide_eq_false hb)] at kq2
  have e13 := e12.trans e3
  refine q_when (et_lt (ed_v rfl) (er_call (a, n, n.assignment, x) (eds_cons (ed_v rfl) (eds_cons (ed_asg T (NN.net.mono e13) rfl) (eds_cons (ed_v rfl) eds_nil))) (fun _ e => ⟨(NN.mono e13).mono e, W.shaped⟩) back_D) rfl) (fun hb H4 e4 => ?_) (fun hb H4 e4 => ?_)
  · have hb : y < n.load n.assignment x := of_decide_eq_true hb
    rw [if_pos hb] at kq2
    exact r_ret (en_err 33) fun v H5 e5 r => deed_same kq2 N W rfl v H5 ((e13.trans e4).trans e5) (back_N _ _ _ _ (e13.trans e4) r)
  have hb : ¬ y < n.load n.assignment x := of_decide_eq_false hb
  rw [if_neg hb] at kq2
  have e14 := e13.trans e4
  refine rq_asg (ed_cap T (NN.net.mono e14) rfl (ed_v rfl) hx) fun v5 H5 e5 r5 => ?_
  cases val_eq r5
  have e15 := e14.trans e5
  refine q_setCap T (N.ex e15) rfl (i := x) (c := y) (ev_var rfl) (ev_var rfl) hx ⟨0, 0, 0⟩ fun H6 N6 g6 => ?_
  have W6 := wf_setCap W (c := y) hx (Nat.le_of_not_lt hb)
  have N7 : NetAt C lab H6 a { n with links := n.links.set x { n.link x with capacity := y } } Ad := N6.endsEq (by refine Eq.symm ?_; exact map_set_same _ n.links x _ (⟨0, 0, 0⟩ : Link) rfl)
  exact r_ret (eds_ints (l := [(n.link x).capacity]) (eds_cons (ed_v rfl) eds_nil) (by show 1 ≤ 100000; decide)) (deed_nats kq2 N7 W6 ((Go.ex e15).trans g6) rfl)
/-! ## drain_link -/
theorem et_notNone {H : Hp} {σ : L2.St} {te : TE} {x : V} {b : Bool} (h : Ev te σ H x) (e : (!decide (x = .non)) = b) : EvT (tTest (tOp (fun x y H Q => y = .non ∧ Q (.bl (!decide (x = .non))) H) te (tC .non))) σ H b := et_is (et_notN h) e
theorem plan_is {n : Network} (hw : WF n) {ts : List (List Nat)} (G : Tgt n ts) {p : List (Nat × Nat)} (h : n.plan ts = some p) : ∃ l, p = l.map (fun m => (m.1, m.2 + 1)) ∧ planP n ts = some l ∧ Cand n (appl n.assignment l) ∧ ∀ m ∈ l, m.1 < n.flows.length := by
  have hp := pl_stop G.nd G.cand (Nat.le_refl (n.feasibleAssignments.length + 1))
  have hK := lay_of_pl G.nd hp
  unfold Network.plan at h
  simp only at h
  rw [dist_eq G.nd G.cand hK] at h
  obtain ⟨d, hd, h2⟩ := Option.map_eq_some_iff.mp h
  rw [planFrom_eq G.nd G.cand hK] at h2
  obtain ⟨hc, hm⟩ := pplan_cand (l := kn n ts (n.feasibleAssignments.length + 1)) d n.assignment hw.cand
  refine ⟨_, h2.symm, ?_, hc, hm⟩
  rw [planP_eq G hK, hd]
  rfl
abbrev s_drain_link : Stmt := topS 54
abbrev N_drain_link : List Str := ["network", "plain", "given", "plan"]
theorem sc_drain_link : FnScope N_drain_link ["network", "plain", "given"] (defScope s_drain_link) := ⟨rfl, rfl, rfl, by decide +kernel, rfl, by decide +kernel, by decide +kernel⟩
theorem cal_drain_link (T : Txt K mg C) (F : Def K mg "drain_link" s_drain_link ["network", "plain", "given"]) (c_has_link : Cal P w K mg base 1 "has_link" (sp_has_link C)) (c_link_drain : Cal P w K mg base 10 "link_drain" (sp_link_drain C)) (c_after_plan : Cal P w K mg base 2 "after_plan" sp_after_plan) (c_plan_told : Cal P w K mg base 2 "plan_told" sp_plan_told) :
    Cal P w K mg base 11 "drain_link" (spDeed C 1 fun p _ => .drainLink (p.getD 0 0)) := by
  refine cal_mk F sc_drain_link spDeed_len (fun f cdv A outer s H vs Q E hr h => ⟨_, (pss_cons (ps_if (pt_not (pt_val (pe_cal c_has_link hr (by decide) (by rfl) (pa_cons (pv 0) (pa_cons (pe_ix ix_list (pv 1) pe_int (fun _ _ => rfl)) pa_nil)))))
      (pss_one (ps_ret (pe_lst (pa_cons (pe_un un_neg pe_int) pa_nil))))
      pss_nil)
    (pss_cons (ps_set (i := 3) sc_drain_link.nd rfl (Or.inl rfl) (pe_cal c_link_drain hr (by decide) (by rfl) (pa_cons (pv 0) (pa_cons (pe_ix ix_list (pv 1) pe_int (fun _ _ => rfl)) pa_nil))))
    (pss_cons (ps_if (pt_cmpR op_notN (pv 3) pe_non (nomark _))
      (pss_one (ps_fld (pv 0) (pe_cal c_after_plan hr (by decide) (by rfl) (pa_cons (pe_fld (pv 0) rfl) (pa_cons (pv 3) pa_nil))) rfl))
      pss_nil)
    (pss_one (ps_ret (pe_cal c_plan_told hr (by decide) (by rfl) (pa_cons (pv 3) pa_nil))))))), ?_⟩)
  obtain ⟨a, lab, n, Ad, pl, gv, v2, v3, rfl, N, W, h2, h3, hpl, hgv, kq⟩ := h
  obtain ⟨x, rfl⟩ := len1 hpl
  have NN : NW C H a n := ⟨netAt_net N, W⟩
  have hla := W.la
  have hnf := W.nf
  have kq2 : DeedK C lab H a Q (if n.links.length ≤ x then (n, Su203.error (-2)) else (match n.plan (n.linkDrained x) with
    | some p => ({ n with assignment := p.foldl Su203.applyMove n.assignment }, Su203.okMoves p)
    | none => (n, Su203.error (-33)))) := kq
  refine q_when (et_not (et_B (ev_of (er_call (a, n, x) (eds_cons (ed_v rfl) (eds_cons (ed_p0 (ed_var rfl h2) (by show 0 < 1; decide)) eds_nil)) (fun _ e => NN.mono e) back_D)))) (fun hb H1 e1 => ?_) (fun hb H1 e1 => ?_)
  · rw [Bool.not_eq_true'] at hb
    have hb : ¬ x < n.links.length := of_decide_eq_false hb
    rw [if_pos (Nat.le_of_not_lt hb)] at kq2
    exact r_ret (en_err 2) fun v H2 e2 r => deed_same kq2 N W rfl v H2 (e1.trans e2) (back_N _ _ _ _ e1 r)
  rw [Bool.not_eq_false'] at hb
  have hx : x < n.links.length := of_decide_eq_true hb
  rw [if_neg (Nat.not_le_of_lt hx)] at kq2
  have G : Tgt n (n.linkDrained x) := tgt_filter W _
  refine rq_asg (er_call (a, n, x) (eds_cons (ed_v rfl) (eds_cons (ed_p0 (ed_var rfl (IsO.ex e1 h2)) (by show 0 < 1; decide)) eds_nil)) (fun _ e => (NN.mono e1).mono e) back_Plan) fun v4 H2 e2 r4 => ?_
  have e12 := e1.trans e2
  have r4 : RPlan (planP n (n.linkDrained x)) H1 v4 H2 := r4
  have hle := plan_le W G
  cases hp : n.plan (n.linkDrained x) with
  | none =>
    have hz : planP n (n.linkDrained x) = none := by
      unfold planP
      rw [hp]
      rfl
    rw [hz] at r4
    rw [hp] at kq2
    have r4 : v4 = .non := r4
    subst r4
    refine q_when (et_notNone (b := false) (ev_var rfl) rfl) (fun hb H3 e3 => by cases hb) (fun hb H3 e3 => ?_)
    have e13 := e12.trans e3
    exact r_ret (er_call none (eds_cons (ed_v rfl) eds_nil) (fun _ _ l q => by cases q) back_N) fun v H4 e4 r => deed_same kq2 N W rfl v H4 (e13.trans e4) (back_N _ _ _ _ e13 r)
  | some p =>
    obtain ⟨l, rfl, hz, hc, hm⟩ := plan_is W G hp
    rw [hz] at r4 hle
    rw [hp] at kq2
    have r4 : RN (l.map dM) H1 v4 H2 := r4
    obtain ⟨q, vs, rfl, hq0, hq, hvs⟩ := r4
    have h2' : Is H2 (.lst (l.map dM)) (.ref q) := isO_lst.mpr ⟨q, vs, rfl, True.intro, hq, hvs.all⟩
    refine q_when (et_notNone (b := true) (ev_var rfl) rfl) (fun hb H3 e3 => ?_) (fun hb H3 e3 => by cases hb)
    have e23 := e2.trans e3
    have N3 := ((N.ex e1).relab (relab_old (k := 0) hq0)).ex e23
    refine s_setAsg T N3 rfl (s' := appl n.assignment l) (er_call (n.assignment, l) (eds_cons (ed_asgR T N3 rfl) (eds_cons (ed_var rfl (IsO.ex e3 h2')) eds_nil)) (fun _ _ => ⟨show n.assignment.length ≤ 1000 by omega, fun m q' => by rw [hla]; exact hm m q'⟩) back_0) fun H4 A4 N4 g4 => ?_
    have W4 := wf_asg W hc.sh hc.fe
    have N5 : NetAt C (relab lab q 0) H4 a { n with assignment := appl n.assignment l } A4 := N4
    have kq2 : DeedK C lab H a Q ({ n with assignment := (l.map fun m => (m.1, m.2 + 1)).foldl Su203.applyMove n.assignment }, Su203.okMoves (l.map fun m => (m.1, m.2 + 1))) := kq2
    rw [appl_eq] at kq2
    have h4' : Is H4 (dPl (some l)) (.ref q) := isO_lst.mpr ⟨q, vs, rfl, True.intro, g4.fr _ _ (e3 _ _ hq) relab_new, (IsOL.tx g4.tx (IsOL.ex e3 hvs)).all⟩
    have ea : ans (Su203.okMoves (l.map fun m => (m.1, m.2 + 1))) = planAns (some l) := by
      show nInts ((l.map fun m => (m.1, m.2 + 1)).length :: (l.map fun m => (m.1, m.2 + 1)).flatMap fun m => [m.1, m.2 - 1]) = nInts (l.length :: l.flatMap fun m => [m.1, m.2])
      rw [List.length_map, List.flatMap_map]
      rfl
    dsimp only
    exact r_ret (er_call (some l) (eds_cons (ed_var rfl h4') eds_nil) (fun _ _ => hle) back_N) fun v H5 e5 r => deed_done kq2 N5 W4 ((Go.ex e1).trans ((Go.lab hq0).trans ((Go.ex e23).trans g4))) ea v H5 e5 r
end
end FL

namespace FL
open PySem PySem.Spec PyProof.Rows L2 Evl FM
open Su203 (Network Link)

/-! ### Network(node_count) -/
structure Mk5 (C dx p : Addr) (H0 : Hp) (lab : Addr → Nat) (H : Hp) (fs : List (Str × V)) (ms : List (Addr × Nat × HO)) : Prop where
  obj : H p = some (.ins C dx fs)
  lp : lab p = 7
  old : ∀ q o, H0 q = some o → q ≠ p → lab q = 0 ∧ H q = some o
  mem : ∀ m ∈ ms, lab m.1 = m.2.1 ∧ H m.1 = some m.2.2
theorem Mk5.step {C dx p : Addr} {H0 H : Hp} {lab : Addr → Nat} {fs : List (Str × V)} {ms : List (Addr × Nat × HO)} (M : Mk5 C dx p H0 lab H fs ms) (hm : ∀ m ∈ ms, m.1 ≠ p) {b : Addr} (hb : H b = none) (j : Nat) (o : HO) (fs' : List (Str × V)) :
    Mk5 C dx p H0 (relab lab b j) (upd (upd H b o) p (.ins C dx fs')) fs' ((b, j, o) :: ms) ∧ ∀ m ∈ (b, j, o) :: ms, m.1 ≠ p := by
  have hbp : b ≠ p := fun z => by rw [z, M.obj] at hb; cases hb
  refine ⟨⟨upd_same, ?_, fun q o' h hq => ?_, fun m h => ?_⟩, fun m h => ?_⟩
  · unfold relab
    rw [if_neg (Ne.symm hbp)]
    exact M.lp
  · obtain ⟨h1, h2⟩ := M.old q o' h hq
    have hqb : q ≠ b := fun z => by rw [z, hb] at h2; cases h2
    unfold relab
    rw [if_neg hqb, upd_ne hq, upd_ne hqb]
    exact ⟨h1, h2⟩
  · (rcases List.mem_cons.mp h with rfl | h)
    · exact ⟨relab_new, by rw [upd_ne hbp]; exact upd_same⟩
    · obtain ⟨h1, h2⟩ := M.mem m h
      have hqb : m.1 ≠ b := fun z => by rw [z, hb] at h2; cases h2
      unfold relab
      rw [if_neg hqb, upd_ne (hm m h), upd_ne hqb]
      exact ⟨h1, h2⟩
  · (rcases List.mem_cons.mp h with rfl | h)
    · exact hbp
    · exact hm m h
theorem nF_new {n e c f p r s : V} : putF "assignment" s (putF "routes" r (putF "paths" p (putF "flows" f (putF "capacities" c (putF "ends" e (putF "node_count" n [])))))) = nF n e c f p r s := by
  have h1 : putF "node_count" n [] = ([("node_count", n)] : List (Str × V)) := rfl
  have h2 : putF "ends" e ([("node_count", n)] : List (Str × V)) = ([("node_count", n), ("ends", e)] : List (Str × V)) := by
    rw [put_past (by decide +kernel)]
    rfl
  have h3 : putF "capacities" c ([("node_count", n), ("ends", e)] : List (Str × V)) = ([("node_count", n), ("ends", e), ("capacities", c)] : List (Str × V)) := by
    rw [put_past (by decide +kernel), put_past (by decide +kernel)]
    rfl
  have h4 : putF "flows" f ([("node_count", n), ("ends", e), ("capacities", c)] : List (Str × V)) = ([("node_count", n), ("ends", e), ("capacities", c), ("flows", f)] : List (Str × V)) := by
    rw [put_past (by decide +kernel), put_past (by decide +kernel), put_past (by decide +kernel)]
    rfl
  have h5 : putF "paths" p ([("node_count", n), ("ends", e), ("capacities", c), ("flows", f)] : List (Str × V)) = ([("node_count", n), ("ends", e), ("capacities", c), ("flows", f), ("paths", p)] : List (Str × V)) := by
    rw [put_past (by decide +kernel), put_past (by decide +kernel), put_past (by decide +kernel), put_past (by decide +kernel)]
    rfl
  have h6 : putF "routes" r ([("node_count", n), ("ends", e), ("capacities", c), ("flows", f), ("paths", p)] : List (Str × V)) = ([("node_count", n), ("ends", e), ("capacities", c), ("flows", f), ("paths", p), ("routes", r)] : List (Str × V)) := by
    rw [put_past (by decide +kernel), put_past (by decide +kernel), put_past (by decide +kernel), put_past (by decide +kernel), put_past (by decide +kernel)]
    rfl
  rw [h1, h2, h3, h4, h5, h6, put_past (by decide +kernel), put_past (by decide +kernel), put_past (by decide +kernel), put_past (by decide +kernel), put_past (by decide +kernel), put_past (by decide +kernel)]
  rfl
theorem putF_len (f : Str) (v : V) : ∀ fs : List (Str × V), (putF f v fs).length ≤ fs.length + 1
  | [] => Nat.le_refl _
  | (g, x) :: r => by
    by_cases h : g = f
    · subst h
      rw [put_here]
      exact Nat.le_succ _
    · rw [put_past h]
      have := putF_len f v r
      (rw [List.length_cons, List.length_cons])
      omega
def spInit (C : Addr) : Sp := fun vs H Q _ => ∃ (p dx : Addr) (k : Nat), vs = [.ref p, vN k] ∧ H p = some (.ins C dx []) ∧
  ∀ (H' : Hp) (lab : Addr → Nat) (A : NetAd), NetAt C lab H' p (Su203.create k) A → (∀ q o, H q = some o → q ≠ p → lab q = 0 ∧ H' q = some o) → Q .non H'
/-- a class that may be made by its name -/
structure CalN (P : Program) (w : World) (K : PySem.W.Frag) (mg : Str → Option Value) (base : Heap) (k : Nat) (x : Str) (C : Addr) (sp : Sp) : Prop where
  ex : ∃ f fd ps, FnOk P w K mg base CX0 k f fd ps sp ∧ mg x = some (.ref C) ∧ Mk K C f ∧ Binds K fd ps []
section
variable {X : Cx} {k j : Nat} {x : Str} {C : Addr} {sp : Sp} {p pos : Pos} {e : Expr} {es : List Expr} {t : TA}
theorem pe_mkN (c : CalN X.prog X.w X.K X.mg X.base k x C sp) (hr : Room j X.A) (hk : k + 1 ≤ j) (hg : Gl X x) (ha : PA X (e :: es) t)
    (hd0 : (x == ("__debug__" : Str)) = false := by decide) (he : starEach (e :: es) X.env = (false, eval e X.env) :: starEach es X.env := by rfl) (hp0 : (backTo pos (starEach es X.env)).any (·.1) = false := by rfl) :
    PE X (.Call (.Name x p) (e :: es) [] pos) (tMake C sp [] E0 t) := by
  obtain ⟨f, fd, ps, F, hm, M, b⟩ := c.ex
  exact pe_make M F (hr.mono hk) hg hm b .nil pass0 ha hd0 he hp0
end
section
variable {P : Program} {w : World} {K : PySem.W.Frag} {mg : Str → Option Value} {base : Heap} {C : Addr}
/-- self.f = [] -/
theorem q_newL {De : Ends} {tz : TS} {σ : L2.St} {dx p : Addr} {H0 H : Hp} {lab : Addr → Nat} {fs : List (Str × V)} {ms : List (Addr × Nat × HO)} {f : Str} (cl : Cls K C) (na : NoAttr K C f) (M : Mk5 C dx p H0 lab H fs ms) (hm : ∀ m ∈ ms, m.1 ≠ p) (hl : fs.length < 1000) (hσ : σ[0]? = some (some (.ref p))) (j : Nat)
    (k : ∀ b H' lab', H b = none → Mk5 C dx p H0 lab' H' (putF f (.ref b) fs) ((b, j, .lst []) :: ms) → (∀ m ∈ (b, j, HO.lst []) :: ms, m.1 ≠ p) → tz De σ H') : tSeq (sFld K (tVar 0) (tLst tNil) f) tz De σ H := by
  refine ⟨Nat.zero_le _, fun b hb => ⟨.ref p, hσ, p, C, dx, fs, rfl, ?_, cl, na, hl, ?_⟩⟩
  · rw [upd_ne (show p ≠ b from fun z => by rw [← z, M.obj] at hb; cases hb)]
    exact M.obj
  · obtain ⟨M2, h2⟩ := M.step hm hb j (.lst []) (putF f (.ref b) fs)
    exact k b _ _ hb M2 h2
abbrev s_init : Stmt := inClass (topS 16) 0
abbrev N_init : List Str := ["self", "node_count"]
theorem sc_init : FnScope N_init ["self", "node_count"] (defScope s_init) := ⟨rfl, rfl, rfl, by decide +kernel, rfl, by decide +kernel, by decide +kernel⟩
theorem fn_init (T : Txt K mg C) {f : Addr} {fd : FuncData} (F : Fun K "__init__" "Network.__init__" s_init f fd) : FnOk P w K mg base CX0 1 f fd ["self", "node_count"] (spInit C) := by
  refine F.ok sc_init (fun vs H Q E h => ?_) (fun cdv A outer s H vs Q E hr h => ⟨_, (pss_cons (ps_fld (pv 0) (pv 1) rfl)
    (pss_cons (ps_fld (pv 0) (pe_lst pa_nil) rfl)
    (pss_cons (ps_fld (pv 0) (pe_lst pa_nil) rfl)
    (pss_cons (ps_fld (pv 0) (pe_lst pa_nil) rfl)
    (pss_cons (ps_fld (pv 0) (pe_lst pa_nil) rfl)
    (pss_cons (ps_fld (pv 0) (pe_lst pa_nil) rfl)
    (pss_one (ps_fld (pv 0) (pe_tup pa_nil) rfl)))))))), ?_⟩)
  · obtain ⟨_, _, _, rfl, _⟩ := h
    rfl
  obtain ⟨p, dx, k, rfl, hp, kq⟩ := h
  refine ⟨_, rfl, _, rfl, p, C, dx, [], rfl, hp, T.cl, T.n1, (by show 0 < 1000; decide), ?_⟩
  have M1 : Mk5 C dx p H (fun q => if q = p then 7 else 0) (upd H p (.ins C dx (putF "node_count" (vN k) []))) (putF "node_count" (vN k) []) [] := ⟨upd_same, if_pos rfl, fun q o h hq => ⟨if_neg hq, by rw [upd_ne hq]; exact h⟩, fun m h => by cases h⟩
  have l0 : ([] : List (Str × V)).length = 0 := rfl
  have l1 := putF_len "node_count" (vN k) []
  refine q_newL T.cl T.n2 M1 (fun m h => by cases h) (by omega) rfl 1 fun e H2 lab2 _ M2 h2 => ?_
  have l2 := putF_len "ends" (.ref e) (putF "node_count" (vN k) [])
  refine q_newL T.cl T.n3 M2 h2 (by omega) rfl 2 fun c H3 lab3 _ M3 h3 => ?_
  have l3 := putF_len "capacities" (.ref c) (putF "ends" (.ref e) (putF "node_count" (vN k) []))
  refine q_newL T.cl T.n4 M3 h3 (by omega) rfl 3 fun f' H4 lab4 _ M4 h4 => ?_
  have l4 := putF_len "flows" (.ref f') (putF "capacities" (.ref c) (putF "ends" (.ref e) (putF "node_count" (vN k) [])))
  refine q_newL T.cl T.n5 M4 h4 (by omega) rfl 4 fun pp H5 lab5 _ M5 h5 => ?_
  have l5 := putF_len "paths" (.ref pp) (putF "flows" (.ref f') (putF "capacities" (.ref c) (putF "ends" (.ref e) (putF "node_count" (vN k) []))))
  refine q_newL T.cl T.n6 M5 h5 (by omega) rfl 5 fun r H6 lab6 _ M6 h6 => ?_
  have l6 := putF_len "routes" (.ref r) (putF "paths" (.ref pp) (putF "flows" (.ref f') (putF "capacities" (.ref c) (putF "ends" (.ref e) (putF "node_count" (vN k) [])))))
  refine ⟨Nat.zero_le _, fun b hb => ?_⟩
  have o6 := (upd_ne (o := HO.tup []) (show p ≠ b from fun z => by rw [← z, M6.obj] at hb; cases hb)).trans M6.obj
  refine ⟨.ref p, rfl, p, C, dx, _, rfl, o6, T.cl, T.n7, (by omega), ?_⟩
  obtain ⟨M7, h7⟩ := M6.step h6 hb 0 (.tup []) (putF "assignment" (.ref b) (putF "routes" (.ref r) (putF "paths" (.ref pp) (putF "flows" (.ref f') (putF "capacities" (.ref c) (putF "ends" (.ref e) (putF "node_count" (vN k) [])))))))
  have g : ∀ m, m ∈ [(b, 0, HO.tup []), (r, 5, .lst []), (pp, 4, .lst []), (f', 3, .lst []), (c, 2, .lst []), (e, 1, .lst [])] → _ := M7.mem
  have ge := g (e, 1, .lst []) (by simp)
  have gc := g (c, 2, .lst []) (by simp)
  have gf := g (f', 3, .lst []) (by simp)
  have gp := g (pp, 4, .lst []) (by simp)
  have gr := g (r, 5, .lst []) (by simp)
  have gb := g (b, 0, .tup []) (by simp)
  refine kq _ _ ⟨dx, e, c, f', pp, r, .ref b⟩ ⟨?_, M7.lp, ge.1, gc.1, gf.1, gp.1, gr.1, ⟨[], ge.2, IsOL.nil⟩, gc.2, ⟨[], gf.2, IsOL.nil⟩, ⟨[], gp.2, rfl, fun i t h => by cases h⟩, ⟨[], gr.2, rfl, fun i t h => by cases h⟩, isO_dA.mpr ⟨b, rfl, gb.2⟩⟩ M7.old
  rw [M7.obj, nF_new]
  rfl
/-! ### created -/
abbrev s_created : Stmt := topS 71
abbrev N_created : List Str := ["network", "node_count"]
theorem sc_created : FnScope N_created ["network", "node_count"] (defScope s_created) := ⟨rfl, rfl, rfl, by decide +kernel, rfl, by decide +kernel, by decide +kernel⟩
/-- what is to be had behind created: where the network is another one, what its parts are -/
def spCreated (C : Addr) : Sp := fun vs H Q _ => ∃ (v1 : V) (k : Nat), vs = [v1, vN k] ∧
  (¬ (2 ≤ k ∧ k ≤ 6) → ∀ (H' : Hp) (p q : Addr), Ex H H' → H q = none → H' p = some (.tup [v1, .ref q]) → H' q = some (.lst [.int (-22)]) → Q (.ref p) H') ∧
  (2 ≤ k ∧ k ≤ 6 → ∀ (H' : Hp) (lab : Addr → Nat) (A : NetAd) (a p q : Addr), Ex H H' → NetAt C lab H' a (Su203.create k) A → (∀ b o, H b = some o → lab b = 0) → lab q = 0 → H q = none → H' p = some (.tup [.ref a, .ref q]) → H' q = some (.lst [.int 0]) → Q (.ref p) H')
theorem cal_created (T : Txt K mg C) (F : Def K mg "created" s_created ["network", "node_count"]) (c_Network : CalN P w K mg base 1 "Network" C (spInit C)) : Cal P w K mg base 3 "created" (spCreated C) := by
  refine cal_mk F sc_created (fun vs H Q E h => by obtain ⟨_, _, rfl, _⟩ := h; rfl) (fun f cdv A outer s H vs Q E hr h => ⟨_, (pss_cons (ps_if (pt_not (pt_chain op_le op_le (pe_gi (by rfl) T.cLEAST_NODES) (pv 1) (pe_gi (by rfl) T.cMOST_NODES)))
      (pss_one (ps_ret (pe_tup (pa_cons (pv 0) (pa_cons (pe_lst (pa_cons (pe_un un_neg pe_int) pa_nil)) pa_nil)))))
      pss_nil)
    (pss_one (ps_ret (pe_tup (pa_cons (pe_mkN c_Network hr (by decide) (by rfl) (pa_cons (pv 1) pa_nil)) (pa_cons (pe_lst (pa_cons pe_int pa_nil)) pa_nil)))))), ?_⟩)
  obtain ⟨v1, k, rfl, k1, k2⟩ := h
  refine q_when (et_not (et_within (i := 2) (k := 6) ed_c (ed_v rfl) ed_c)) (fun hb H1 e1 => ?_) (fun hb H1 e1 => ?_)
  · rw [Bool.not_eq_true', Bool.and_eq_false_iff, decide_eq_false_iff_not, decide_eq_false_iff_not] at hb
    refine ⟨v1, rfl, ?_⟩
    refine en_err 22 H1 (Ex.refl H1) _ fun v H2 e2 r => ?_
    obtain ⟨q, vs, rfl, hq0, hq, hvs⟩ := r
    rw [isOL_ints.mp hvs] at hq
    refine ⟨(by show 2 ≤ sizeLine; decide), fun p hp => ?_⟩
    exact k1 (by omega) _ p q ((e1.trans e2).trans (Ex.new hp)) (fresh_back e1 hq0) upd_same ((Ex.new hp) _ _ hq)
  · rw [Bool.not_eq_false', Bool.and_eq_true, decide_eq_true_eq, decide_eq_true_eq] at hb
    refine ⟨_, rfl, ?_⟩
    intro x dx nx nd ne
    refine ⟨x, dx, k, rfl, upd_same, fun H2 lab Ad N old => ⟨rfl, ?_⟩⟩
    have e2 : Ex H1 H2 := fun b o h => by
      have hbx : b ≠ x := fun z => by rw [z, nx] at h; cases h
      have hbd : b ≠ dx := fun z => by rw [z, nd] at h; cases h
      exact (old b o (by rw [upd_ne hbx, upd_ne hbd]; exact h) hbx).2
    have lz : ∀ b o, H1 b = some o → lab b = 0 := fun b o h => by
      have hbx : b ≠ x := fun z => by rw [z, nx] at h; cases h
      have hbd : b ≠ dx := fun z => by rw [z, nd] at h; cases h
      exact (old b o (by rw [upd_ne hbx, upd_ne hbd]; exact h) hbx).1
    refine ⟨Nat.succ_le_of_lt (by decide), fun q hq => ?_⟩
    have e3 : Ex H2 (upd H2 q (.lst [.int 0])) := Ex.new hq
    refine ⟨(by show 2 ≤ sizeLine; decide), fun p hp => ?_⟩
    have e4 := Ex.new (o := HO.tup [.ref x, .ref q]) hp
    have hpq : q ≠ p := fun z => by rw [← z, upd_same] at hp; cases hp
    have hq1 := fresh_back e2 hq
    have hp2 := fresh_back e3 hp
    -- the kinds: the answer and the tuple are foreign
    refine k2 hb _ (relab (relab lab q 0) p 0) Ad x p q (((e1.trans e2).trans e3).trans e4) ?_ (fun b o h => ?_) ?_ (fresh_back e1 hq1) upd_same (e4 _ _ upd_same)
    · exact (((N.relab (relab_old (k := 0) hq)).ex e3).relab (relab_old (k := 0) hp)).ex e4
    · have h1 := e1 _ _ h
      have h2 := e2 _ _ h1
      rw [relab_old (k := 0) hp b _ (e3 _ _ h2), relab_old (k := 0) hq b _ h2]
      exact lz b o h1
    · rw [relab_old (k := 0) hp q _ upd_same]
      exact relab_new
end
end FL

namespace FM
open Su203
/-! ### the calls as they stand in the list of numbers -/
def plains : List Nat := [1, 3, 3, 1, 2, 1, 2, 2, 0, 0, 0, 0, 1, 1, 1, 0, 0, 1, 1, 0]
def plainN (p : Nat) : Nat := plains.getD p 0
def listed (p : Nat) : Bool := [3, 11].contains p
def opOf : Nat → List Nat → List Nat → Operation
  | 0, p, _ => .createNetwork (p.getD 0 0)
  | 1, p, _ => .addLink (p.getD 0 0) (p.getD 1 0) (p.getD 2 0)
  | 2, p, _ => .addFlow (p.getD 0 0) (p.getD 1 0) (p.getD 2 0)
  | 3, p, g => .addPath (p.getD 0 0) g
  | 4, p, _ => .placeFlow (p.getD 0 0) (p.getD 1 0)
  | 5, p, _ => .stopFlow (p.getD 0 0)
  | 6, p, _ => .moveFlow (p.getD 0 0) (p.getD 1 0)
  | 7, p, _ => .setCapacity (p.getD 0 0) (p.getD 1 0)
  | 8, _, _ => .linkLoads
  | 9, _, _ => .assignment
  | 10, _, _ => .allowedMoves
  | 11, _, g => .planTo g
  | 12, p, _ => .planLinkDrain (p.getD 0 0)
  | 13, p, _ => .planNodeDrain (p.getD 0 0)
  | 14, p, _ => .drainLink (p.getD 0 0)
  | 15, _, _ => .reachableCount
  | 16, _, _ => .componentCount
  | 17, p, _ => .stuckFlows (p.getD 0 0)
  | 18, p, _ => .flowPaths (p.getD 0 0)
  | _, _, _ => .totals
def opn (m : List Nat) (k : Nat) : Nat := m.getD k 0
def endOf (m : List Nat) (k : Nat) : Nat := k + 1 + plainN (opn m k)
def plOf (m : List Nat) (k : Nat) : List Nat := (m.drop (k + 1)).take (plainN (opn m k))
def many (m : List Nat) (k : Nat) : Nat := m.getD (endOf m k) 0
def gvOf (m : List Nat) (k : Nat) : List Nat := if listed (opn m k) = true then (m.drop (endOf m k + 1)).take (many m k) else []
def nxOf (m : List Nat) (k : Nat) : Nat := if listed (opn m k) = true then endOf m k + 1 + many m k else endOf m k
structure Fits (m : List Nat) (k : Nat) : Prop where
  lt : k < m.length
  op : opn m k ≤ 19
  pl : endOf m k ≤ m.length
  gv : listed (opn m k) = true → endOf m k < m.length ∧ endOf m k + 1 + many m k ≤ m.length ∧ many m k ≤ 8
def stepA (s : Option Network) (op : Operation) : Option Network × List Int := ((Su203.step s op).1, ans (Su203.step s op).2)
theorem shape_some {p : Nat} (h : p ≤ 19) : PySu203.shape (p : Int) = some (plainN p, if listed p = true then 1 else 0) := by
  match p, h with
  | 0, _ => rfl
  | 1, _ => rfl
  | 2, _ => rfl
  | 3, _ => rfl
  | 4, _ => rfl
  | 5, _ => rfl
  | 6, _ => rfl
  | 7, _ => rfl
  | 8, _ => rfl
  | 9, _ => rfl
  | 10, _ => rfl
  | 11, _ => rfl
  | 12, _ => rfl
  | 13, _ => rfl
  | 14, _ => rfl
  | 15, _ => rfl
  | 16, _ => rfl
  | 17, _ => rfl
  | 18, _ => rfl
  | 19, _ => rfl
  | p + 20, h => exact absurd h (by omega)
theorem shape_none {p : Nat} (h : 19 < p) : PySu203.shape (p : Int) = none := by
  unfold PySu203.shape
  repeat (rw [if_neg (by omega)])
theorem toNat_ints (l : List Nat) : (nInts l).map Int.toNat = l := by
  unfold nInts
  rw [List.map_map]
  conv => (rhs; rw [← List.map_id l])
  exact List.map_congr_left fun x _ => rfl
theorem ints_take (l : List Nat) (n : Nat) : (nInts l).take n = nInts (l.take n) := by
  unfold nInts
  rw [List.map_take]
theorem ints_drop (l : List Nat) (n : Nat) : (nInts l).drop n = nInts (l.drop n) := by
  unfold nInts
  rw [List.map_drop]
theorem ints_len (l : List Nat) : (nInts l).length = l.length := by
  unfold nInts
  rw [List.length_map]
/-- one call, of numbers -/
theorem call_some {p : Nat} {r : List Nat} {c : List (List Int)} {t : List Int} (h : PyFlat.call PySu203.shape (nInts (p :: r)) = some (c, t)) :
    p ≤ 19 ∧ plainN p ≤ r.length ∧ ((listed p = false ∧ c = [(p : Int) :: nInts (r.take (plainN p))] ∧ t = nInts (r.drop (plainN p))) ∨
      (listed p = true ∧ ∃ q r', r.drop (plainN p) = q :: r' ∧ q ≤ r'.length ∧ c = [(p : Int) :: nInts (r.take (plainN p)), nInts (r'.take q)] ∧ t = nInts (r'.drop q))) := by
  have e0 : nInts (p :: r) = (p : Int) :: nInts r := rfl
  rw [e0, PyFlat.call] at h
  by_cases hp : p ≤ 19
  · rw [shape_some hp] at h
    dsimp only at h
    by_cases hl : (nInts r).length < plainN p
    · (rw [if_pos hl] at h; cases h)
    · rw [if_neg hl, ints_drop, ints_take] at h
      rw [ints_len] at hl
      refine ⟨hp, by omega, ?_⟩
      cases hb : listed p with
      | false =>
        rw [hb, if_neg Bool.false_ne_true] at h
        simp only [PyFlat.rows, Option.some.injEq, Prod.mk.injEq] at h
        exact .inl ⟨rfl, h.1.symm, h.2.symm⟩
      | true =>
        rw [hb, if_pos rfl] at h
        cases hd : r.drop (plainN p) with
        | nil =>
          rw [hd] at h
          simp [PyFlat.rows, PyFlat.row, nInts] at h
        | cons q r' =>
          rw [hd, show nInts (q :: r') = (q : Int) :: nInts r' from rfl] at h
          simp only [PyFlat.rows, PyFlat.row] at h
          by_cases hq : 0 ≤ (q : Int) ∧ ((q : Int)).toNat ≤ (nInts r').length
          · rw [if_pos hq] at h
            simp only [Option.some.injEq, Prod.mk.injEq] at h
            have e1 : ((q : Int)).toNat = q := rfl
            rw [e1, ints_take, ints_drop] at h
            rw [e1, ints_len] at hq
            exact .inr ⟨rfl, q, r', rfl, hq.2, h.1.symm, h.2.symm⟩
          · rw [if_neg hq] at h
            cases h
  · rw [shape_none (by omega)] at h
    cases h
theorem len1' {l : List Nat} (h : l.length = 1) : ∃ x, l = [x] := by
  cases l with
  | nil => cases h
  | cons x l =>
    cases l with
    | nil => exact ⟨x, rfl⟩
    | cons y l => simp at h
theorem len2' {l : List Nat} (h : l.length = 2) : ∃ x y, l = [x, y] := by
  cases l with
  | nil => cases h
  | cons x l =>
    obtain ⟨y, rfl⟩ := len1' (l := l) (by simpa using h)
    exact ⟨x, y, rfl⟩
theorem len3' {l : List Nat} (h : l.length = 3) : ∃ x y z, l = [x, y, z] := by
  cases l with
  | nil => cases h
  | cons x l =>
    obtain ⟨y, z, rfl⟩ := len2' (l := l) (by simpa using h)
    exact ⟨x, y, z, rfl⟩
theorem len0' {l : List Nat} (h : l.length = 0) : l = [] := List.length_eq_zero_iff.mp h
/-- the operation without a list -/
theorem callOf_plain {p : Nat} {pl : List Nat} (hp : p ≤ 19) (hl : listed p = false) (hn : pl.length = plainN p) : Su203Neutral.callOf ((PySu203.whole [(p : Int) :: nInts pl]).headD []) = some (opOf p pl []) := by
  match p, hp, hl, hn with
  | 0, _, _, hn => obtain ⟨x, rfl⟩ := len1' hn; rfl
  | 1, _, _, hn => obtain ⟨x, y, z, rfl⟩ := len3' hn; rfl
  | 2, _, _, hn => obtain ⟨x, y, z, rfl⟩ := len3' hn; rfl
  | 3, _, hl, _ => cases hl
  | 4, _, _, hn => obtain ⟨x, y, rfl⟩ := len2' hn; rfl
  | 5, _, _, hn => obtain ⟨x, rfl⟩ := len1' hn; rfl
  | 6, _, _, hn => obtain ⟨x, y, rfl⟩ := len2' hn; rfl
  | 7, _, _, hn => obtain ⟨x, y, rfl⟩ := len2' hn; rfl
  | 8, _, _, hn => cases len0' hn; rfl
  | 9, _, _, hn => cases len0' hn; rfl
  | 10, _, _, hn => cases len0' hn; rfl
  | 11, _, hl, _ => cases hl
  | 12, _, _, hn => obtain ⟨x, rfl⟩ := len1' hn; rfl
  | 13, _, _, hn => obtain ⟨x, rfl⟩ := len1' hn; rfl
  | 14, _, _, hn => obtain ⟨x, rfl⟩ := len1' hn; rfl
  | 15, _, _, hn => cases len0' hn; rfl
  | 16, _, _, hn => cases len0' hn; rfl
  | 17, _, _, hn => obtain ⟨x, rfl⟩ := len1' hn; rfl
  | 18, _, _, hn => obtain ⟨x, rfl⟩ := len1' hn; rfl
  | 19, _, _, hn => cases len0' hn; rfl
  | p + 20, h, _, _ => exact absurd h (by omega)
/-- the operation with a list -/
theorem callOf_list {p : Nat} {pl gv : List Nat} (hl : listed p = true) (hn : pl.length = plainN p) : Su203Neutral.callOf ((PySu203.whole [(p : Int) :: nInts pl, nInts gv]).headD []) = some (opOf p pl gv) := by
  have : p = 3 ∨ p = 11 := by
    unfold listed at hl
    simpa using hl
  rcases this with rfl | rfl
  · obtain ⟨x, rfl⟩ := len1' hn
    have e : opOf 3 [x] gv = .addPath x gv := rfl
    rw [e]
    conv => rhs; rw [← toNat_ints gv]
    rfl
  · cases len0' hn
    have e : opOf 11 [] gv = .planTo gv := rfl
    rw [e]
    conv => rhs; rw [← toNat_ints gv]
    rfl
theorem bound_list {p : Nat} {pl gv : List Nat} (hl : listed p = true) (h : PyInside.call PySu203.bound [(p : Int) :: nInts pl, nInts gv] = true) : gv.length ≤ 8 := by
  have : p = 3 ∨ p = 11 := by
    unfold listed at hl
    simpa using hl
  have g : PyInside.lists [(0, 4294967295, 0, 8)] [nInts gv] = true → gv.length ≤ 8 := fun q => by
    simp only [PyInside.lists, Bool.and_eq_true, decide_eq_true_eq, ints_len] at q
    omega
  rcases this with rfl | rfl
  · have h : (PyInside.each (PySu203.bound ((3 : Nat) : Int)).1 (nInts pl) && PyInside.lists (PySu203.bound ((3 : Nat) : Int)).2 [nInts gv]) = true := h
    rw [Bool.and_eq_true] at h
    exact g h.2
  · have h : (PyInside.each (PySu203.bound ((11 : Nat) : Int)).1 (nInts pl) && PyInside.lists (PySu203.bound ((11 : Nat) : Int)).2 [nInts gv]) = true := h
    rw [Bool.and_eq_true] at h
    exact g h.2
/-- what is still to be told -/
def At (m : List Nat) (k : Nat) (s : Option Network) (tail : List Int) : Prop := ∃ cs f, PyFlat.calls PySu203.shape f (nInts (m.drop k)) = some cs ∧ PyInside.calls PySu203.bound cs = true ∧
  tail = PyFlat.told (PyFlat.played (fun s c => Su203Neutral.step s (c.headD [])) s (cs.map PySu203.whole))
theorem at_start {m : List Nat} (h : PySu203.answers_asked (nInts m) = true) : At m 0 none (PySu203.answers (nInts m)) ∧ (PySu203.answers (nInts m)).length ≤ 10000000 := by
  unfold PySu203.answers_asked at h
  cases hc : PyFlat.calls PySu203.shape (nInts m).length (nInts m) with
  | none => (rw [hc] at h; cases h)
  | some raw =>
    rw [hc] at h
    (simp only [Bool.and_eq_true] at h)
    refine ⟨⟨raw, _, hc, h.1.1.2, ?_⟩, of_decide_eq_true h.2⟩
    unfold PySu203.answers PySu203.calls
    rw [hc]
    rfl
theorem at_end {m : List Nat} {k : Nat} {s : Option Network} {tail : List Int} (h : At m k s tail) (hk : m.length ≤ k) : tail = [] := by
  obtain ⟨cs, f, h1, _, h2⟩ := h
  rw [List.drop_eq_nil_of_le hk] at h1
  have : cs = [] := by
    cases f with
    | zero => simpa [PyFlat.calls, nInts] using h1.symm
    | succ f => simpa [PyFlat.calls, nInts] using h1.symm
  subst this
  exact h2
theorem drop_cons {m : List Nat} {k : Nat} (h : k < m.length) : m.drop k = m.getD k 0 :: m.drop (k + 1) := by
  rw [List.drop_eq_getElem_cons h, List.getD_eq_getElem?_getD, List.getElem?_eq_getElem h]
  rfl
theorem at_step {m : List Nat} {k : Nat} {s : Option Network} {tail : List Int} (h : At m k s tail) (hk : k < m.length) :
    Fits m k ∧ (plOf m k).length = plainN (opn m k) ∧ (gvOf m k).length ≤ 8 ∧ ∃ tail', At m (nxOf m k) (stepA s (opOf (opn m k) (plOf m k) (gvOf m k))).1 tail' ∧
      tail = ((stepA s (opOf (opn m k) (plOf m k) (gvOf m k))).2.length : Int) :: ((stepA s (opOf (opn m k) (plOf m k) (gvOf m k))).2 ++ tail') := by
  obtain ⟨cs, f, h1, hb, h2⟩ := h
  rw [drop_cons hk] at h1
  cases f with
  | zero => simp [PyFlat.calls, nInts] at h1
  | succ f =>
    have e0 : nInts (m.getD k 0 :: m.drop (k + 1)) = ((m.getD k 0 : Nat) : Int) :: nInts (m.drop (k + 1)) := rfl
    rw [e0, PyFlat.calls, ← e0] at h1
    cases hc : PyFlat.call PySu203.shape (nInts (m.getD k 0 :: m.drop (k + 1))) with
    | none => rw [hc] at h1; cases h1
    | some ct =>
      obtain ⟨c, t⟩ := ct
      rw [hc] at h1
      dsimp only at h1
      cases hcs : PyFlat.calls PySu203.shape f t with
      | none => rw [hcs] at h1; cases h1
      | some cs' =>
        rw [hcs] at h1
        have h1 : c :: cs' = cs := Option.some.inj h1
        subst h1
        unfold PyInside.calls at hb
        rw [List.all_cons, Bool.and_eq_true] at hb
        obtain ⟨hp, hn, hcase⟩ := call_some hc
        have hlen : (m.drop (k + 1)).length = m.length - (k + 1) := List.length_drop
        have hpl : (plOf m k).length = plainN (opn m k) := by
          unfold plOf
          rw [List.length_take]
          exact Nat.min_eq_left hn
        have hend : endOf m k ≤ m.length := by
          unfold endOf opn
          omega
        -- what the call answers
        have key : ∀ op, Su203Neutral.callOf ((PySu203.whole c).headD []) = some op → tail = ((stepA s op).2.length : Int) :: ((stepA s op).2 ++ PyFlat.told (PyFlat.played (fun s c => Su203Neutral.step s (c.headD [])) (stepA s op).1 (cs'.map PySu203.whole))) := fun op ho => by
          rw [h2]
          have es : Su203Neutral.step s ((PySu203.whole c).headD []) = stepA s op := by
            unfold Su203Neutral.step
            rw [ho]
            rfl
          rw [List.map_cons, PyFlat.played, es]
          rfl
        rcases hcase with ⟨hl, hcc, ht⟩ | ⟨hl, q, r', hd, hq, hcc, ht⟩
        · have hg : gvOf m k = [] := if_neg (by unfold opn; rw [hl]; exact Bool.false_ne_true)
          have hx : nxOf m k = endOf m k := if_neg (by unfold opn; rw [hl]; exact Bool.false_ne_true)
          have ho : Su203Neutral.callOf ((PySu203.whole c).headD []) = some (opOf (opn m k) (plOf m k) (gvOf m k)) := by
            rw [hcc, hg]
            exact callOf_plain hp hl hpl
          refine ⟨⟨hk, hp, hend, fun z => by unfold opn at z; rw [hl] at z; cases z⟩, hpl, by rw [hg]; exact Nat.zero_le _, _, ⟨cs', f, ?_, hb.2, rfl⟩, key _ ho⟩
          rw [hx]
          rw [ht, List.drop_drop] at hcs
          exact hcs
        · have hlt : endOf m k < m.length := by
            have := congrArg List.length hd
            rw [List.length_drop, hlen, List.length_cons] at this
            unfold endOf opn
            omega
          have hd2 : m.drop (endOf m k) = q :: r' := by
            rw [← hd, List.drop_drop]
            rfl
          have hmq : many m k = q := by
            have := drop_cons hlt
            rw [hd2] at this
            exact (List.cons.inj this).1.symm
          have hr' : r' = m.drop (endOf m k + 1) := by
            have := drop_cons hlt
            rw [hd2] at this
            exact (List.cons.inj this).2
          have hg : gvOf m k = r'.take q := by
            unfold gvOf
            rw [if_pos (show listed (opn m k) = true from hl), hmq, hr']
          have hx : nxOf m k = endOf m k + 1 + q := by
            unfold nxOf
            rw [if_pos (show listed (opn m k) = true from hl), hmq]
          have hg8 : (gvOf m k).length ≤ 8 := by
            have := hb.1
            rw [hcc] at this
            rw [hg]
            exact bound_list hl this
          have hgl : (gvOf m k).length = q := by
            rw [hg, List.length_take]
            exact Nat.min_eq_left hq
          have ho : Su203Neutral.callOf ((PySu203.whole c).headD []) = some (opOf (opn m k) (plOf m k) (gvOf m k)) := by
            rw [hcc, hg]
            exact callOf_list hl hpl
          have hrl : r'.length = m.length - (endOf m k + 1) := by rw [hr', List.length_drop]
          refine ⟨⟨hk, hp, hend, fun _ => ⟨hlt, by rw [hmq]; omega, by rw [hmq]; omega⟩⟩, hpl, hg8, _, ⟨cs', f, ?_, hb.2, rfl⟩, key _ ho⟩
          rw [hx]
          rw [ht, hr', List.drop_drop] at hcs
          exact hcs
end FM

namespace FL
open PySem PySem.Spec PyProof.Rows L2 Evl FM
open Su203 (Network Link)

/-! ### a written dict with int keys that names defs -/
def IDct (K : PySem.W.Frag) (a : Addr) (i : Int) (f : Addr) : Prop := ∃ es n, K.lookup a = some ⟨.type "dict", none, .dict es n, #[]⟩ ∧ (∀ e ∈ es, ∃ i t, e.key = .int i t ∧ e.hash = hashInt i) ∧ findBy Value.isInt es i = some (.ref f)
def rIxI (K : PySem.W.Frag) : R2 := fun x y H Q => ∃ p z f, x = .ref p ∧ y = .int z ∧ IDct K p z f ∧ Q (.ref f) H
theorem ix_idct {X : Cx} : IxR X (rIxI X.K) := by
  (intro value slice pins s σ H x y v u Q I rx ry h hs)
  obtain ⟨p, z, f, rfl, rfl, ⟨es, n, hl, hk, e⟩, q⟩ := h
  obtain rfl : v = Value.ref p := (rx)
  obtain ⟨t, rfl⟩ := ry
  have hm : s.heap.MapOf (PySem.intKind X.prog X.w) p (fun k => findBy Value.isInt es k) := ⟨_, es, n, I.kIn _ _ hl, ⟨rfl, rfl, rfl⟩, rfl, fun e he => by
    obtain ⟨i, t, e1, e2⟩ := hk e he
    exact ⟨i, by rw [e1]; exact intKind_is X.prog X.w i t, e2⟩, fun _ => rfl⟩
  exact tail_any hm.typeIs slot_dict_getitem.lookup (wpAny_getItem_of (intKind_is X.prog X.w z t) hm e ⟨.ref f, H, I.tok _, rfl, q⟩) hs
section
variable {K : PySem.W.Frag} {σ : L2.St} {H H' : Hp} {ta tb te ti tj : TE} {v : V}
theorem ed_addN {i j : Nat} (ha : EvD ta σ H (dN i)) (hb : EvD tb σ H (dN j)) : EvD (tOp (rI0 fun i j => .int (i + j)) ta tb) σ H (dN (i + j)) := ed_is (ed_add ha hb) (by
  have : ((i : Nat) : Int) + ((j : Nat) : Int) = ((i + j : Nat) : Int) := by omega
  rw [this])
theorem en_sliceL {s : List Nat} {i j : Nat} (h : EvD te σ H (dNs s)) (h1 : EvD ti σ H (dN i)) (h2 : EvD tj σ H (dN j)) (hi : i ≤ s.length) (hj : j ≤ s.length) : EvN (tSl (rSlL K) te (tPart ti) (tPart tj)) σ H (((s.drop i).take (j - i)).map dN) := fun H1 e Q q =>
  h H1 e _ fun v H2 e2 r => h1 H2 (e.trans e2) _ fun v1 H3 e3 r1 => ⟨(i : Int), val_eq r1, h2 H3 ((e.trans e2).trans e3) _ fun v2 H4 e4 r2 => ⟨(j : Int), val_eq r2, by
    obtain ⟨p, rfl, _, hp⟩ := isO_dNs.mp r
    refine ⟨p, _, rfl, sq_of (e4 _ _ (e3 _ _ hp)), fun l hl => ?_⟩
    rw [cutV_nats, HT.sIx_nat, HT.sIx_nat, Nat.min_eq_left hi, Nat.min_eq_left hj]
    exact q _ _ (((e2.trans e3).trans e4).trans (Ex.new hl)) ⟨l, _, rfl, fresh_back ((e2.trans e3).trans e4) hl, upd_same, isOL_nats.mpr rfl⟩⟩⟩
end
/-! ### call_at -/
structure Txt2 (K : PySem.W.Frag) (mg : Str → Option Value) : Prop where
  plain : ∃ a, mg "PLAIN" = some (.ref a) ∧ ∀ H, SqT K H a (plains.map vN)
  listed : ∃ a, mg "WITH_LIST" = some (.ref a) ∧ ∀ H, SqT K H a ([3, 11].map vN)
def Rcall (m : List Nat) (k : Nat) : Hp → V → Hp → Prop := fun H v H' => ∃ p a1 a2, v = .ref p ∧ H a1 = none ∧ H a2 = none ∧ H' p = some (.tup [vN (opn m k), .ref a1, .ref a2, vN (nxOf m k)]) ∧ H' a1 = some (.lst ((plOf m k).map vN)) ∧ H' a2 = some (.lst ((gvOf m k).map vN))
theorem back_call {m : List Nat} {k : Nat} : Back (Rcall m k) := fun _ _ _ _ e h => by
  obtain ⟨p, a1, a2, h0, h1, h2, h3⟩ := h
  exact ⟨p, a1, a2, h0, fresh_back e h1, fresh_back e h2, h3⟩
section
variable {P : Program} {w : World} {K : PySem.W.Frag} {mg : Str → Option Value} {base : Heap} {C : Addr}
abbrev s_call_at : Stmt := topS 65
abbrev N_call_at : List Str := ["numbers", "place", "operation", "end", "plain", "many"]
theorem sc_call_at : FnScope N_call_at ["numbers", "place"] (defScope s_call_at) := ⟨rfl, rfl, rfl, by decide +kernel, rfl, by decide +kernel, by decide +kernel⟩
abbrev sp_call_at : Sp := SpR (α := List Nat × Nat) (fun x _ => Fits x.1 x.2) (fun x => [dNs x.1, dN x.2]) (fun x => Rcall x.1 x.2)
theorem cal_call_at (T : Txt K mg C) (T2 : Txt2 K mg) (F : Def K mg "call_at" s_call_at ["numbers", "place"]) : Cal P w K mg base 1 "call_at" sp_call_at := by
  obtain ⟨xPLAIN, gPLAIN, sP⟩ := T2.plain
  obtain ⟨xWITH_LIST, gWITH_LIST, sW⟩ := T2.listed
  refine cal_mk F sc_call_at (SpR.len fun _ => rfl) (fun f cdv A outer s H vs Q E hr h => ⟨_, (pss_cons (ps_set (i := 2) sc_call_at.nd rfl (Or.inl rfl) (pe_ix ix_list (pv 0) (pv 1) (fun _ _ => rfl)))
    (pss_cons (ps_set (i := 3) sc_call_at.nd rfl (Or.inl rfl) (pe_op op_add (pe_op op_add (pv 1) pe_int) (pe_ix ix_tup (pe_glob (v := .ref xPLAIN) (by rfl) gPLAIN rfl) (pv 2) (fun _ _ => rfl))))
    (pss_cons (ps_set (i := 4) sc_call_at.nd rfl (Or.inl rfl) (pe_slice sl_list (pv 0) (po_some (pe_op op_add (pv 1) pe_int)) (po_some (pv 3))))
    (pss_cons (ps_if (pt_cmpR op_notIn_seq (pv 2) (pe_glob (v := .ref xWITH_LIST) (by rfl) gWITH_LIST rfl) (by rfl))
      (pss_one (ps_ret (pe_tup (pa_cons (pv 2) (pa_cons (pv 4) (pa_cons (pe_lst pa_nil) (pa_cons (pv 3) pa_nil)))))))
      pss_nil)
    (pss_cons (ps_set (i := 5) sc_call_at.nd rfl (Or.inl rfl) (pe_ix ix_list (pv 0) (pv 3) (fun _ _ => rfl)))
    (pss_one (ps_ret (pe_tup (pa_cons (pv 2) (pa_cons (pv 4) (pa_cons (pe_slice sl_list (pv 0) (po_some (pe_op op_add (pv 3) pe_int)) (po_some (pe_op op_add (pe_op op_add (pv 3) pe_int) (pv 5)))) (pa_cons (pe_op op_add (pe_op op_add (pv 3) pe_int) (pv 5)) pa_nil)))))))))))), ?_⟩)
  obtain ⟨⟨m, k⟩, hF, hv, kq⟩ := h
  dsimp only at hF hv kq
  obtain ⟨v1, v2, rfl, h1, h2⟩ := is2 hv
  cases val_eq h2
  have hop := hF.op
  refine rq_asg (ed_nat (ed_var rfl h1) (ed_v rfl) hF.lt) fun v3 H1 e1 r3 => ?_
  cases (val_eq r3 : v3 = vN (opn m k))
  refine rq_asg (ed_addN (j := plainN (opn m k)) (ed_succ (ed_v rfl)) (ed_of (ev_op ev_c (ev_var rfl) (rv_ixT (sP H1) (atI_nt (by rw [List.getElem?_map, get_of_lt (show opn m k < 20 by omega)]; rfl)))))) fun v4 H2 e2 r4 => ?_
  cases (val_eq r4 : v4 = vN (endOf m k))
  have e12 := e1.trans e2
  have hend := hF.pl
  have hn : endOf m k - (k + 1) = plainN (opn m k) := by unfold endOf; omega
  refine rq_asg (en_sliceL (ed_var rfl (IsO.ex e12 h1)) (ed_succ (ed_v rfl)) (ed_v rfl) (by unfold endOf at hend; omega) hend) fun v5 H3 e3 r5 => ?_
  rw [hn] at r5
  obtain ⟨a1, us, rfl, ha0, ha, hus⟩ := r5
  rw [isOL_nats.mp hus] at ha
  have e13 := e12.trans e3
  have hf1 := fresh_back e12 ha0
  refine q_when (b := !listed (opn m k)) (et_test (ev_op (ev_var rfl) ev_c fun H4 _ Q' q' => ⟨xWITH_LIST, _, rfl, Or.inr (sW H4), rfl, flat_ints [3, 11], ?_⟩)) (fun hb H4 e4 => ?_) (fun hb H4 e4 => ?_)
  · rw [if_pos rfl, show ([3, 11].map vN) = ([(3 : Int), 11].map V.int) from rfl, inV_ints, show [(3 : Int), 11] = [3, 11].map (fun (n : Nat) => (n : Int)) from rfl, cont_nats]
    exact q' H4 (Ex.refl H4)
  · rw [Bool.not_eq_true'] at hb
    have hg : gvOf m k = [] := if_neg (by rw [hb]; exact Bool.false_ne_true)
    have hx : nxOf m k = endOf m k := if_neg (by rw [hb]; exact Bool.false_ne_true)
    refine ⟨_, rfl, _, rfl, Nat.zero_le _, fun b hb' => ⟨_, rfl, (by show 4 ≤ sizeLine; decide), fun p hp => ?_⟩⟩
    have e5 : Ex H4 (upd H4 b (.lst [])) := Ex.new hb'
    have e6 := Ex.new (o := HO.tup [vN (opn m k), .ref a1, .ref b, vN (endOf m k)]) hp
    refine kq _ _ (((e13.trans e4).trans e5).trans e6) ⟨p, a1, b, rfl, hf1, fresh_back (e13.trans e4) hb', ?_, e6 _ _ (e5 _ _ (e4 _ _ ha)), ?_⟩
    · rw [hx]
      exact upd_same
    · rw [hg]
      exact e6 _ _ upd_same
  · rw [Bool.not_eq_false'] at hb
    obtain ⟨g1, g2, g3⟩ := hF.gv hb
    have hg : gvOf m k = (m.drop (endOf m k + 1)).take (many m k) := if_pos hb
    have hx : nxOf m k = endOf m k + 1 + many m k := if_pos hb
    have e14 := e13.trans e4
    refine rq_asg (ed_nat (ed_var rfl (IsO.ex e14 h1)) (ed_v rfl) g1) fun v6 H5 e5 r6 => ?_
    cases (val_eq r6 : v6 = vN (many m k))
    have e15 := e14.trans e5
    refine ⟨_, rfl, _, rfl, ?_⟩
    refine en_sliceL (ed_var rfl (IsO.ex e15 h1)) (ed_succ (ed_v rfl)) (ed_addN (ed_succ (ed_v rfl)) (ed_v rfl)) (i := endOf m k + 1) (j := endOf m k + 1 + many m k) (by omega) (by omega) H5 (Ex.refl H5) _ fun v7 H6 e6 r7 => ?_
    rw [Nat.add_sub_cancel_left, ← hg] at r7
    obtain ⟨a2, us2, rfl, hb0, hb2, hus2⟩ := r7
    rw [isOL_nats.mp hus2] at hb2
    refine ed_addN (i := endOf m k + 1) (j := many m k) (ed_succ (ed_v rfl)) (ed_v rfl) H6 (Ex.refl H6) _ fun v8 H7 e7 r8 => ⟨(by show 4 ≤ sizeLine; decide), fun p hp => ?_⟩
    cases (val_eq r8 : v8 = vN (endOf m k + 1 + many m k))
    have e8 := Ex.new (o := HO.tup [vN (opn m k), .ref a1, .ref a2, vN (endOf m k + 1 + many m k)]) hp
    refine kq _ _ (((e15.trans e6).trans e7).trans e8) ⟨p, a1, a2, rfl, hf1, fresh_back e15 hb0, ?_, e8 _ _ (e7 _ _ (e6 _ _ (e5 _ _ (e4 _ _ ha)))), e8 _ _ (e7 _ _ hb2)⟩
    rw [hx]
    exact upd_same
/-! ### answer_of -/
structure Deeds (P : Program) (w : World) (K : PySem.W.Frag) (mg : Str → Option Value) (base : Heap) (C : Addr) : Prop where
  ex : ∃ dd, mg "DEEDS" = some (.ref dd) ∧ ∀ j, 1 ≤ j → j ≤ 19 → ∃ f k, k ≤ 11 ∧ Held P w K mg base k f (spDeed C (plainN j) (opOf j)) ∧ IDct K dd j f
theorem held_of {k : Nat} {x : Str} {sp : Sp} {f : Addr} (c : Cal P w K mg base k x sp) (h : mg x = some (.ref f)) : Held P w K mg base k f sp := by
  obtain ⟨f', fd, ps, F, h1, h2, h3⟩ := c.ex
  rw [h] at h1
  cases h1
  exact ⟨fd, ps, F, h2, h3⟩
abbrev s_answer_of : Stmt := topS 72
abbrev N_answer_of : List Str := ["network", "operation", "plain", "given", "deed"]
theorem sc_answer_of : FnScope N_answer_of ["network", "operation", "plain", "given"] (defScope s_answer_of) := ⟨rfl, rfl, rfl, by decide +kernel, rfl, by decide +kernel, by decide +kernel⟩
def spAnswerOf (C : Addr) : Sp := fun vs H Q _ => ∃ (v1 : V) (op : Nat) (v2 v3 : V), vs = [v1, vN op, v2, v3] ∧ ((v1 = .non ∧ ∀ v H', Ex H H' → RN ([-11].map dI) H v H' → Q v H') ∨
  (1 ≤ op ∧ op ≤ 19 ∧ spDeed C (plainN op) (opOf op) [v1, v2, v3] H Q E0))
theorem cal_answer_of (T : Txt K mg C) (TD : Deeds P w K mg base C) (F : Def K mg "answer_of" s_answer_of ["network", "operation", "plain", "given"]) : Cal P w K mg base 12 "answer_of" (spAnswerOf C) := by
  obtain ⟨xDEEDS, gDEEDS, hD⟩ := TD.ex
  refine cal_mk F sc_answer_of (fun vs H Q E h => by obtain ⟨_, _, _, _, rfl, _⟩ := h; rfl) (fun f cdv A outer s H vs Q E hr h => ?_)
  obtain ⟨v1, op, v2, v3, rfl, h⟩ := h
  rcases h with ⟨rfl, kq⟩ | ⟨h1, h2, hd⟩
  · have A_deeds : ∀ f sp, (fun (_ : Addr) => (none : Option Sp)) f = some sp → Held P w K mg base 11 f sp := fun f sp h => by cases h
    refine ⟨_, (pss_cons (ps_if (pt_cmpR op_isN (pv 0) pe_non (nomark _))
      (pss_one (ps_ret (pe_lst (pa_cons (pe_un un_neg pe_int) pa_nil))))
      pss_nil)
    (pss_cons (ps_set (i := 4) sc_answer_of.nd rfl (Or.inl rfl) (pe_ix ix_idct (pe_glob (v := .ref xDEEDS) (by rfl) gDEEDS rfl) (pv 1) (fun _ _ => rfl)))
    (pss_one (ps_ret (pe_callA A_deeds (hr.mono (by decide)) (i := 4) (by rfl) (Or.inl rfl) (pa_cons (pv 0) (pa_cons (pv 2) (pa_cons (pv 3) pa_nil)))))))), ?_⟩
    refine q_when (et_isN (ev_var rfl)) (fun hb H1 e1 => ?_) (fun hb H1 e1 => by simp at hb)
    exact r_ret (en_err 11) fun v H2 e2 r => kq v H2 (e1.trans e2) (back_N _ _ _ _ e1 r)
  · obtain ⟨f1, k, hk, hh, hi⟩ := hD op h1 h2
    have A_deeds : ∀ f sp, (fun (q : Addr) => if q = f1 then some (spDeed C (plainN op) (opOf op)) else none) f = some sp → Held P w K mg base 11 f sp := fun f sp h => by
      dsimp only at h
      by_cases z : f = f1
      · subst z
        rw [if_pos rfl] at h
        cases h
        obtain ⟨fd, ps, F, q1, q2⟩ := hh.ex
        exact ⟨fd, ps, F.mono hk, q1, q2⟩
      · rw [if_neg z] at h
        cases h
    refine ⟨_, (pss_cons (ps_if (pt_cmpR op_isN (pv 0) pe_non (nomark _))
      (pss_one (ps_ret (pe_lst (pa_cons (pe_un un_neg pe_int) pa_nil))))
      pss_nil)
    (pss_cons (ps_set (i := 4) sc_answer_of.nd rfl (Or.inl rfl) (pe_ix ix_idct (pe_glob (v := .ref xDEEDS) (by rfl) gDEEDS rfl) (pv 1) (fun _ _ => rfl)))
    (pss_one (ps_ret (pe_callA A_deeds (hr.mono (by decide)) (i := 4) (by rfl) (Or.inl rfl) (pa_cons (pv 0) (pa_cons (pv 2) (pa_cons (pv 3) pa_nil)))))))), ?_⟩
    have hd0 := hd
    obtain ⟨a, lab, n, Ad, pl, gv, w2, w3, e0, N, W, q2, q3, hm, hg, kq⟩ := hd0
    obtain ⟨rfl, rfl, rfl⟩ : v1 = .ref a ∧ v2 = w2 ∧ v3 = w3 := by
      injection e0 with z1 z2
      injection z2 with z2 z3
      injection z3 with z3 _
      exact ⟨z1, z2, z3⟩
    refine q_when (b := false) (et_is (et_isN (ev_var rfl)) (by simp)) (fun hb H1 e1 => by cases hb) (fun hb H1 e1 => ?_)
    have hix : Ev (tOp (rIxI K) (tC (.ref xDEEDS)) (tVar 1)) [some (.ref a), some (vN op), some v2, some v3, none] H1 (.ref f1) := ev_op ev_c (ev_var rfl) (fun H2 _ Q' q' => ⟨xDEEDS, (op : Int), f1, rfl, rfl, hi, q' H2 (Ex.refl H2)⟩)
    refine rq_asg (ed_of hix) fun v4 H2 e2 r4 => ?_
    cases (val_eq r4 : v4 = .ref f1)
    have e12 := e1.trans e2
    refine ⟨f1, _, rfl, if_pos rfl, _, rfl, _, rfl, _, rfl, ?_⟩
    refine ⟨a, lab, n, Ad, pl, gv, v2, v3, rfl, N.ex e12, W, IsO.ex e12 q2, IsO.ex e12 q3, hm, hg, fun H' p lab' A' n1 w1 g1 hn hp => kq H' p lab' A' n1 w1 ((Go.ex e12).trans g1) (fresh_back e12 hn) hp⟩
end
end FL

namespace FM
open Su203
theorem stepA_none {p : Nat} {pl gv : List Nat} (h1 : 1 ≤ p) (h2 : p ≤ 19) : stepA none (opOf p pl gv) = (none, [-11]) := by
  match p, h1, h2 with
  | 1, _, _ => rfl
  | 2, _, _ => rfl
  | 3, _, _ => rfl
  | 4, _, _ => rfl
  | 5, _, _ => rfl
  | 6, _, _ => rfl
  | 7, _, _ => rfl
  | 8, _, _ => rfl
  | 9, _, _ => rfl
  | 10, _, _ => rfl
  | 11, _, _ => rfl
  | 12, _, _ => rfl
  | 13, _, _ => rfl
  | 14, _, _ => rfl
  | 15, _, _ => rfl
  | 16, _, _ => rfl
  | 17, _, _ => rfl
  | 18, _, _ => rfl
  | 19, _, _ => rfl
  | p + 20, _, h => exact absurd h (by omega)
theorem stepA_some (n : Network) (op : Operation) : stepA (some n) op = (some (execute n op).1, ans (execute n op).2) := rfl
theorem exec_bad (n : Network) {k : Nat} (h : ¬ (2 ≤ k ∧ k ≤ 6)) : execute n (.createNetwork k) = (n, error (-22)) := by
  show (if k < 2 ∨ 6 < k then (n, error (-22)) else (create k, ok 0 [])) = _
  rw [if_pos (by omega)]
theorem exec_good (n : Network) {k : Nat} (h : 2 ≤ k ∧ k ≤ 6) : execute n (.createNetwork k) = (create k, ok 0 []) := by
  show (if k < 2 ∨ 6 < k then (n, error (-22)) else (create k, ok 0 [])) = _
  rw [if_neg (by omega)]
theorem stepA_bad (s : Option Network) {k : Nat} (h : ¬ (2 ≤ k ∧ k ≤ 6)) : stepA s (.createNetwork k) = (s, [-22]) := by
  cases s with
  | none =>
    unfold stepA Su203.step
    dsimp only
    rw [exec_bad _ h]
    rfl
  | some n =>
    rw [stepA_some, exec_bad _ h]
    rfl
theorem stepA_good (s : Option Network) {k : Nat} (h : 2 ≤ k ∧ k ≤ 6) : stepA s (.createNetwork k) = (some (create k), [0]) := by
  cases s with
  | none =>
    unfold stepA Su203.step
    dsimp only
    rw [exec_good _ h]
    rfl
  | some n =>
    rw [stepA_some, exec_good _ h]
    rfl
end FM
namespace FL
open PySem PySem.Spec PyProof.Rows L2 Evl FM
open Su203 (Network Link)

section
variable {C : Addr} {lab : Addr → Nat} {H H' : Hp} {a x : Addr} {o : HO} {A : NetAd} {nd : Nat} {le lc : List Link} {fs : List Su203.Flow} {ps rs : List (List (List Nat))} {s : List Nat}
/-- a foreign object is written -/
theorem NetR.foreign (h : NetR C lab H a nd le lc fs ps rs s A) (hx : lab x = 0) (nt : ∀ xs, H x ≠ some (.tup xs)) : NetR C lab (upd H x o) a nd le lc fs ps rs s A :=
  ⟨by rw [upd_ne (ne_lab h.ka hx (by decide))]; exact h.obj, h.ka, h.ke, h.kc, h.kf, h.kp, h.kr, h.ends.upd (ne_lab h.ke hx (by decide)) nt, h.caps.upd (ne_lab h.kc hx (by decide)), h.flows.upd (ne_lab h.kf hx (by decide)) nt,
    h.paths.upd (ne_lab h.kp hx (by decide)) (by rw [hx]; decide) (fun i => by rw [hx]; omega) nt, h.routes.upd (ne_lab h.kr hx (by decide)) (by rw [hx]; decide) (fun i => by rw [hx]; omega) nt, IsO.tx (Tx.upd nt) h.asg⟩
/-- the state as the loop holds it: N, F: its two lists -/
def StAt (C : Addr) (H : Hp) (Nl Fl : Addr) : Option Network → V → Prop
  | none, v => v = .non
  | some n, v => ∃ a lab A, v = .ref a ∧ NetAt C lab H a n A ∧ WF n ∧ lab Nl = 0 ∧ lab Fl = 0
theorem StAt.ex {Nl Fl : Addr} {s : Option Network} {v : V} (e : Ex H H') (h : StAt C H Nl Fl s v) : StAt C H' Nl Fl s v := by
  cases s with
  | none => exact h
  | some n =>
    obtain ⟨a, lab, A, h1, h2, h3⟩ := h
    exact ⟨a, lab, A, h1, h2.ex e, h3⟩
theorem StAt.upd {Nl Fl : Addr} {s : Option Network} {v : V} {xs : List V} (h : StAt C H Nl Fl s v) (hF : H Fl = some (.lst xs)) : StAt C (L2.upd H Fl o) Nl Fl s v := by
  cases s with
  | none => exact h
  | some n =>
    obtain ⟨a, lab, A, h1, h2, h3, h4, h5⟩ := h
    exact ⟨a, lab, A, h1, h2.foreign h5 (fun ys z => by rw [hF] at z; cases z), h3, h4, h5⟩
end
section
variable {σ : L2.St} {H : Hp} {De : Ends} {tu tw tz : TS} {t : TT} {b : Bool}
/-- an if whose two ways meet -/
theorem q_ifM (M : L2.St → Hp → Prop) (h : EvT t σ H b) (h1 : b = true → ∀ H1, Ex H H1 → ∀ nx : L2.St → Hp → Prop, (∀ σ' H', M σ' H' → nx σ' H') → tu { De with nx := nx } σ H1) (h2 : b = false → ∀ H1, Ex H H1 → ∀ nx : L2.St → Hp → Prop, (∀ σ' H', M σ' H' → nx σ' H') → tw { De with nx := nx } σ H1)
    (k : ∀ σ' H', M σ' H' → tz De σ' H') : tSeq (tIfS t tu tw) tz De σ H := q_if h (fun hb H1 e1 => h1 hb H1 e1 _ k) (fun hb H1 e1 => h2 hb H1 e1 _ k)
end
section
variable {P : Program} {w : World} {K : PySem.W.Frag} {mg : Str → Option Value} {base : Heap} {C : Addr}
abbrev s_answers : Stmt := topS 73
abbrev N_answers : List Str := ["calls", "numbers", "network", "found", "place", "operation", "plain", "given", "answer"]
theorem sc_answers : FnScope N_answers ["calls"] (defScope s_answers) := ⟨rfl, rfl, rfl, by decide +kernel, rfl, by decide +kernel, by decide +kernel⟩
def spAns (K : PySem.W.Frag) : Sp := fun vs H Q _ => ∃ (a : Addr) (m : List Nat), vs = [.ref a] ∧ SqL K H a (m.map vN) ∧ PySu203.answers_asked (nInts m) = true ∧ m.length ≤ 4400 ∧
  ∀ (H' : Hp) (p : Addr), H' p = some (.lst ((PySu203.answers (nInts m)).map V.int)) → Q (.ref p) H'
theorem fn_answers {fa : Addr} {fd : FuncData} (T : Txt K mg C) (F : Fun K "answers" "answers" s_answers fa fd) (c_call_at : Cal P w K mg base 1 "call_at" sp_call_at) (c_created : Cal P w K mg base 3 "created" (spCreated C)) (c_answer_of : Cal P w K mg base 12 "answer_of" (spAnswerOf C)) :
    FnOk P w K mg base CX0 13 fa fd ["calls"] (spAns K) := by
  refine F.ok sc_answers (fun vs H Q E h => by obtain ⟨_, _, rfl, _⟩ := h; rfl) (fun cdv A outer s H vs Q E hr h => ⟨_, (pss_cons (ps_set (i := 1) sc_answers.nd rfl (Or.inl rfl) (pe_callTy call_list_of (by rfl) T.list (by decide +kernel) (pa_cons (pv 0) pa_nil)))
    (pss_cons (ps_set (i := 2) sc_answers.nd rfl (Or.inl rfl) pe_non)
    (pss_cons (ps_set (i := 3) sc_answers.nd rfl (Or.inl rfl) (pe_lst pa_nil))
    (pss_cons (ps_set (i := 4) sc_answers.nd rfl (Or.inl rfl) pe_int)
    (pss_cons (ps_while PassesOwn.never (pt_cmpR op_lt (pv 4) (pe_callB call_len_seq (by rfl) T.len PySem.boot_len (pa_cons (pv 1) pa_nil)) (nomark _))
      (pss_cons (ps_asg (pe_cal c_call_at hr (by decide) (by rfl) (pa_cons (pv 1) (pa_cons (pv 4) pa_nil))) (pg_tup (by rfl) (pgs_cons (pg_name (i := 5) sc_answers.nd rfl (Or.inl rfl)) (pgs_cons (pg_name (i := 6) sc_answers.nd rfl (Or.inl rfl)) (pgs_cons (pg_name (i := 7) sc_answers.nd rfl (Or.inl rfl)) (pgs_cons (pg_name (i := 4) sc_answers.nd rfl (Or.inl rfl)) pgs_nil))))))
      (pss_cons (ps_if (pt_cmpR op_eq (pv 5) (pe_gi (by rfl) T.cCREATE) (nomark _))
        (pss_one (ps_asg (pe_cal c_created hr (by decide) (by rfl) (pa_cons (pv 2) (pa_cons (pe_ix ix_list (pv 6) pe_int (fun _ _ => rfl)) pa_nil))) (pg_tup (by rfl) (pgs_cons (pg_name (i := 2) sc_answers.nd rfl (Or.inl rfl)) (pgs_cons (pg_name (i := 8) sc_answers.nd rfl (Or.inl rfl)) pgs_nil)))))
        (pss_one (ps_set (i := 8) sc_answers.nd rfl (Or.inl rfl) (pe_cal c_answer_of hr (by decide) (by rfl) (pa_cons (pv 2) (pa_cons (pv 5) (pa_cons (pv 6) (pa_cons (pv 7) pa_nil))))))))
      (pss_cons (ps_expr (pe_bm PySem.F.plainAttrs_list PySem.F.slot_list_append PySem.F.type_list_append mt_append (pv 3) (pa_cons (pe_callB call_len_seq (by rfl) T.len PySem.boot_len (pa_cons (pv 8) pa_nil)) pa_nil)))
      (pss_one (ps_expr (pe_bm PySem.F.plainAttrs_list PySem.F.slot_list_extend PySem.F.type_list_extend mt_extend (pv 3) (pa_cons (pv 8) pa_nil))))))))
    (pss_one (ps_ret (pv 3)))))))), ?_⟩)
  obtain ⟨ca, m, rfl, hS, hask, hml, kq⟩ := h
  obtain ⟨hat, hbig⟩ := at_start hask
  refine ⟨_, rfl, ca, _, rfl, .inl hS, fun Nl hN0 => ?_⟩
  refine q_asg ev_c fun H1 e1 => ?_
  refine ⟨Nat.zero_le _, fun Fl hF0 => ?_⟩
  have eF : Ex H1 (upd H1 Fl (.lst [])) := Ex.new hF0
  have hN1 : H1 Nl = some (.lst (m.map vN)) := e1 _ _ upd_same
  have hNF : Nl ≠ Fl := fun z => by
    rw [z, hF0] at hN1
    cases hN1
  refine q_asg ev_c fun H2 e2 => ?_
  refine q_while (fun j σ' H' => ∃ (k : Nat) (st : Option Network) (tail fd : List Int) (v1 : V) (x5 x6 x7 x8 : Option V), j = m.length - k ∧ σ' = [some (.ref ca), some (.ref Nl), some v1, some (.ref Fl), some (vN k), x5, x6, x7, x8] ∧
    H' Nl = some (.lst (m.map vN)) ∧ H' Fl = some (.lst (fd.map V.int)) ∧ At m k st tail ∧ PySu203.answers (nInts m) = fd ++ tail ∧ StAt C H' Nl Fl st v1) (m.length - 0)
    ⟨0, none, _, [], .non, none, none, none, none, rfl, rfl, e2 _ _ (eF _ _ hN1), e2 _ _ upd_same, hat, rfl, rfl⟩ (fun j σ' H' hw => ?_)
  obtain ⟨k, st, tail, fd, v1, x5, x6, x7, x8, rfl, rfl, hN, hFl, hA, hE, hst⟩ := hw
  have hNis : Is H' (dNs m) (.ref Nl) := isO_dNs.mpr ⟨Nl, rfl, True.intro, hN⟩
  refine ⟨decide (k < m.length), et_lt (ed_v rfl) (ed_is (ed_len (ed_var rfl hNis)) (by rw [List.length_map])) rfl, fun hb H3 e3 => ?_, fun hb H3 e3 => ?_⟩
  · -- one call more
    have hk := of_decide_eq_true hb
    obtain ⟨hF, hpl, hg8, tail', hA', hT⟩ := at_step hA hk
    have hop := hF.op
    have hkx : k < nxOf m k := by
      unfold nxOf endOf
      by_cases z : listed (opn m k) = true
      · rw [if_pos z]; omega
      · rw [if_neg z]; omega
    refine ⟨fun σ2 H2 => ∃ m', m' < m.length - k ∧ _, fun σ2 H2 q => q, ?_⟩
    refine rq_asgG (er_call (m, k) (eds_cons (ed_var rfl (IsO.ex e3 hNis)) (eds_cons (ed_v rfl) eds_nil)) (fun _ _ => hF) back_call) fun v H4 e4 r4 => ?_
    obtain ⟨p, a1, a2, rfl, f1, f2, hp, h1, h2⟩ := r4
    refine ⟨p, _, rfl, st_of hp, rfl, _, _, rfl, _, _, rfl, _, _, rfl, _, _, rfl, rfl, ?_⟩
    have e34 := e3.trans e4
    have hst4 := hst.ex e34
    have hF4 := e34 _ _ hFl
    have hN4 := e34 _ _ hN
    generalize hop' : opOf (opn m k) (plOf m k) (gvOf m k) = op at hA' hT
    refine q_ifM (fun σ' H' => ∃ (v1' : V) (q : Addr) (y5 y6 y7 : Option V), σ' = [some (.ref ca), some (.ref Nl), some v1', some (.ref Fl), some (vN (nxOf m k)), y5, y6, y7, some (.ref q)] ∧ StAt C H' Nl Fl (stepA st op).1 v1' ∧ H' Nl = some (.lst (m.map vN)) ∧ H' Fl = some (.lst (fd.map V.int)) ∧ H' q = some (.lst ((stepA st op).2.map V.int)) ∧ q ≠ Fl)
      (et_eq (j := 0) (ed_v rfl) ed_c rfl) (fun hb H5 e5 nx kM => ?_) (fun hb H5 e5 nx kM => ?_) (fun σ5 H5 hM => ?_)
    · -- create_network
      have h0 : opn m k = 0 := of_decide_eq_true hb
      have hpl1 : (plOf m k).length = 1 := by rw [hpl, h0]; rfl
      obtain ⟨x, hx⟩ := len1 hpl1
      have hop0 : op = .createNetwork x := by
        rw [← hop', h0, hx]
        rfl
      have e45 := e34.trans e5
      have h1' : Is H5 (dNs [x]) (.ref a1) := isO_dNs.mpr ⟨a1, rfl, True.intro, by rw [← hx]; exact e5 _ _ h1⟩
      refine ⟨v1, rfl, ?_⟩
      refine ed_p0 (ed_var rfl h1') (by show 0 < 1; decide) H5 (Ex.refl H5) _ fun v6 H6 e6 r6 => ?_
      cases (val_eq r6 : v6 = vN x)
      have e56 := e5.trans e6
      refine ⟨v1, x, rfl, fun hbad H7 p' q' e7 hq0 hp' hq' => ?_, fun hgood H7 lab7 A7 a7 p' q' e7 N7 l7 lq7 hq0 hp' hq' => ?_⟩
      · refine ⟨p', _, rfl, st_of hp', rfl, _, _, rfl, _, _, rfl, rfl, kM _ _ ?_⟩
        have e := e56.trans e7
        rw [hop0, stepA_bad _ hbad]
        refine ⟨v1, q', _, _, _, rfl, hst4.ex e, e _ _ hN4, e _ _ hF4, hq', fun z => ?_⟩
        rw [z, e56 _ _ hF4] at hq0
        cases hq0
      · refine ⟨p', _, rfl, st_of hp', rfl, _, _, rfl, _, _, rfl, rfl, kM _ _ ?_⟩
        have e := e56.trans e7
        rw [hop0, stepA_good _ hgood]
        refine ⟨.ref a7, q', _, _, _, rfl, ⟨a7, lab7, A7, rfl, N7, wf_create hgood, l7 _ _ (e56 _ _ hN4), l7 _ _ (e56 _ _ hF4)⟩, e _ _ hN4, e _ _ hF4, hq', fun z => ?_⟩
        rw [z, e56 _ _ hF4] at hq0
        cases hq0
    · -- another operation
      have h0 : ¬ opn m k = 0 := of_decide_eq_false hb
      refine ⟨v1, rfl, _, rfl, _, rfl, _, rfl, ?_⟩
      refine ⟨v1, opn m k, .ref a1, .ref a2, rfl, ?_⟩
      cases st with
      | none =>
        have hv1 : v1 = .non := hst
        subst hv1
        refine .inl ⟨rfl, fun v H6 e6 r6 => kM _ _ ?_⟩
        obtain ⟨q, us, rfl, hq0, hq, hus⟩ := r6
        rw [isOL_ints.mp hus] at hq
        have e := e5.trans e6
        rw [← hop', stepA_none (by omega) hop]
        refine ⟨.non, q, _, _, _, rfl, rfl, e _ _ hN4, e _ _ hF4, hq, fun z => ?_⟩
        rw [z, e5 _ _ hF4] at hq0
        cases hq0
      | some n =>
        obtain ⟨a, lab, Ad, rfl, N, W, lN, lF⟩ := hst
        refine .inr ⟨by omega, hop, ?_⟩
        have f2' := fresh_back e3 f2
        have N5 := ((N.ex e3).relab (relab_old (k := 0) f2)).ex (e4.trans e5)
        have z0 : ∀ b, lab b = 0 → relab lab a2 0 b = 0 := fun b hb' => by
          unfold relab
          by_cases z : b = a2
          · rw [if_pos z]
          · rw [if_neg z]; exact hb'
        refine ⟨a, relab lab a2 0, n, Ad, plOf m k, gvOf m k, .ref a1, .ref a2, rfl, N5, W, isO_dNs.mpr ⟨a1, rfl, True.intro, e5 _ _ h1⟩, isO_dNs.mpr ⟨a2, rfl, relab_new, e5 _ _ h2⟩, hpl, hg8, fun H6 q lab6 A6 N6 W6 g6 hq0 hq => kM _ _ ?_⟩
        have hN5 := e5 _ _ hN4
        have hF5 := e5 _ _ hF4
        rw [hop'] at hq N6 W6
        rw [stepA_some]
        refine ⟨.ref a, q, _, _, _, rfl, ⟨a, lab6, A6, rfl, N6, W6, by rw [g6.lb _ _ hN5]; exact z0 _ lN, by rw [g6.lb _ _ hF5]; exact z0 _ lF⟩, g6.fr _ _ hN5 (z0 _ lN), g6.fr _ _ hF5 (z0 _ lF), hq, fun z => ?_⟩
        rw [z, hF5] at hq0
        cases hq0
    · -- found.append(len(answer)); found.extend(answer)
      obtain ⟨v1', q, y5, y6, y7, rfl, hst5, hN5, hF5, hq5, hqF⟩ := hM
      have hlen : (fd ++ tail).length ≤ 10000000 := by rw [← hE]; exact hbig
      rw [hT, List.length_append, List.length_cons, List.length_append] at hlen
      have hq5i : Is H5 (.lst ((stepA st op).2.map dI)) (.ref q) := isO_lst.mpr ⟨q, _, rfl, True.intro, hq5, isOL_ints.mpr rfl⟩
      refine q_bm (ev_var rfl) fun H6 e6 => ⟨Or.inl ⟨rfl, _, sq_of (e6 _ _ hF5)⟩, ev_of (ed_is (ed_len (ed_var rfl (IsO.ex e6 hq5i))) (by rw [List.length_map])) H6 (Ex.refl H6) _ fun H7 e7 => ⟨Fl, _, _, rfl, rfl, e7 _ _ (e6 _ _ hF5), by rw [List.length_map, sizeLine_eq]; omega, ?_⟩⟩
      have e57 := e6.trans e7
      have hF7 := e57 _ _ hF5
      have hN7 := e57 _ _ hN5
      have hq8 : (upd H7 Fl (.lst (fd.map V.int ++ [vN (stepA st op).2.length]))) q = some (.lst ((stepA st op).2.map V.int)) := by
        rw [upd_ne hqF]
        exact e57 _ _ hq5
      refine ⟨_, rfl, Or.inl ⟨rfl, _, sq_of upd_same⟩, _, rfl, Fl, q, _, _, rfl, rfl, upd_same, hq8, ?_, ?_⟩
      · rw [List.length_append, List.length_map, List.length_map, List.length_singleton, sizeLine_eq]
        omega
      refine ⟨m.length - nxOf m k, by omega, nxOf m k, (stepA st op).1, tail', fd ++ (((stepA st op).2.length : Int) :: (stepA st op).2), v1', y5, y6, y7, _, rfl, rfl, ?_, ?_, hA', ?_, ((hst5.ex e57).upd hF7).upd upd_same⟩
      · rw [upd_ne hNF, upd_ne hNF]
        exact hN7
      · rw [upd_same, List.map_append, List.map_cons, List.append_assoc]
        rfl
      · rw [hE, hT, List.append_assoc]
        rfl
  · have hk := of_decide_eq_false hb
    rw [at_end hA (Nat.le_of_not_lt hk), List.append_nil] at hE
    exact s_ret (ev_var rfl) fun H4 e4 => kq H4 Fl (by rw [hE]; exact e4 _ _ (e3 _ _ hFl))
end
end FL

namespace FL
open PySem PySem.Spec PyProof.Rows L2 Evl FM
open Su203 (Network Link)
/-! ## what the top has written -/
theorem ite1 {c : Prop} [Decidable c] {a b : Network × Su203.Result} {n : Network} (ha : a.1 = n) (hb : b.1 = n) : (if c then a else b).1 = n := by
  by_cases h : c
  · rw [if_pos h]
    exact ha
  · rw [if_neg h]
    exact hb
def KeysI : List DictEntry → Prop
  | [] => True
  | d :: r => (∃ i t, d.key = .int i t ∧ d.hash = hashInt i) ∧ KeysI r
theorem KeysI.all : ∀ {l : List DictEntry}, KeysI l → ∀ d ∈ l, ∃ i t, d.key = .int i t ∧ d.hash = hashInt i
  | _ :: _, ⟨q, _⟩, _, .head _ => q
  | _ :: _, ⟨_, q⟩, _, .tail _ z => q.all _ z
theorem idct_mk {K : PySem.W.Frag} {dd : Addr} {es : Array DictEntry} {n : Nat} {L : List DictEntry} {j : Int} {f : Addr} (l : K.lookup dd = some ⟨.type "dict", none, .dict es n, #[]⟩) (e : es.toList = L) (k : KeysI L) (h : (L.find? fun d => Value.isInt j d.key).map (·.val) = some (.ref f)) : IDct K dd j f := by
  refine ⟨es, n, l, fun d hd => k.all d (by rw [← e]; exact Array.mem_toList_iff.mpr hd), ?_⟩
  obtain ⟨es⟩ := es
  have e : es = L := e
  subst e
  unfold findBy
  rw [List.find?_toArray]
  exact h
theorem tup_mk {K : PySem.W.Frag} {a : Addr} {od : Option Addr} {its : Array Value} {n : Nat} {sl : Array (Option Value)} {vs : List V} {us : List Value} (l : K.lookup a = some ⟨.type "tuple", od, .seq its n, sl⟩) (e : its.toList = us) (hl : us.length ≤ 100) (h : Vals vs us) : ∀ H, SqT K H a vs := fun H => .inr ⟨_, its, n, l, rfl, rfl, by
  rw [← Array.length_toList, e]
  exact Nat.le_trans hl (by decide), by
  rw [e]
  exact h⟩
theorem all_mk {P : Program} {w : World} {K : PySem.W.Frag} {h : Heap} {mg : Str → Option Value} {fa : Addr} (X : K.In h) (G : h.Ns mainGlobals mg) (hfa : mg "answers" = some (.ref fa))
    {C fI xP xW dd f1 f2 f3 f4 f5 f6 f7 f8 f9 f10 f11 f12 f13 f14 f15 f16 f17 f18 f19 f20 f21 f22 f23 f24 f25 f26 f27 f28 f29 f30 f31 f32 f33 f34 f35 f36 f37 f38 f39 f40 f41 f42 f43 f44 f45 f46 f47 f48 f49 f50 f51 f52 f53 f54 f55 f56 : Addr} {odI anI od1 an1 od2 an2 od3 an3 od4 an4 od5 an5 od6 an6 od7 an7 od8 an8 od9 an9 od10 an10 od11 an11 od12 an12 od13 an13 od14 an14 od15 an15 od16 an16 od17 an17 od18 an18 od19 an19 od20 an20 od21 an21 od22 an22 od23 an23 od24 an24 od25 an25 od26 an26 od27 an27 od28 an28 od29 an29 od30 an30 od31 an31 od32 an32 od33 an33 od34 an34 od35 an35 od36 an36 od37 an37 od38 an38 od39 an39 od40 an40 od41 an41 od42 an42 od43 an43 od44 an44 od45 an45 od46 an46 od47 an47 od48 an48 od49 an49 od50 an50 od51 an51 od52 an52 od53 an53 od54 an54 od55 an55 od56 an56 odTP odTW : Option Addr} {slI sl1 sl2 sl3 sl4 sl5 sl6 sl7 sl8 sl9 sl10 sl11 sl12 sl13 sl14 sl15 sl16 sl17 sl18 sl19 sl20 sl21 sl22 sl23 sl24 sl25 sl26 sl27 sl28 sl29 sl30 sl31 sl32 sl33 sl34 sl35 sl36 sl37 sl38 sl39 sl40 sl41 sl42 sl43 sl44 sl45 sl46 sl47 sl48 sl49 sl50 sl51 sl52 sl53 sl54 sl55 sl56 slTP slTW : Array (Option Value)} {ocI kVI dcI pmI cdI ctI oc1 kV1 dc1 pm1 cd1 ct1 oc2 kV2 dc2 pm2 cd2 ct2 oc3 kV3 dc3 pm3 cd3 ct3 oc4 kV4 dc4 pm4 cd4 ct4 oc5 kV5 dc5 pm5 cd5 ct5 oc6 kV6 dc6 pm6 cd6 ct6 oc7 kV7 dc7 pm7 cd7 ct7 oc8 kV8 dc8 pm8 cd8 ct8 oc9 kV9 dc9 pm9 cd9 ct9 oc10 kV10 dc10 pm10 cd10 ct10 oc11 kV11 dc11 pm11 cd11 ct11 oc12 kV12 dc12 pm12 cd12 ct12 oc13 kV13 dc13 pm13 cd13 ct13 oc14 kV14 dc14 pm14 cd14 ct14 oc15 kV15 dc15 pm15 cd15 ct15 oc16 kV16 dc16 pm16 cd16 ct16 oc17 kV17 dc17 pm17 cd17 ct17 oc18 kV18 dc18 pm18 cd18 ct18 oc19 kV19 dc19 pm19 cd19 ct19 oc20 kV20 dc20 pm20 cd20 ct20 oc21 kV21 dc21 pm21 cd21 ct21 oc22 kV22 dc22 pm22 cd22 ct22 oc23 kV23 dc23 pm23 cd23 ct23 oc24 kV24 dc24 pm24 cd24 ct24 oc25 kV25 dc25 pm25 cd25 ct25 oc26 kV26 dc26 pm26 cd26 ct26 oc27 kV27 dc27 pm27 cd27 ct27 oc28 kV28 dc28 pm28 cd28 ct28 oc29 kV29 dc29 pm29 cd29 ct29 oc30 kV30 dc30 pm30 cd30 ct30 oc31 kV31 dc31 pm31 cd31 ct31 oc32 kV32 dc32 pm32 cd32 ct32 oc33 kV33 dc33 pm33 cd33 ct33 oc34 kV34 dc34 pm34 cd34 ct34 oc35 kV35 dc35 pm35 cd35 ct35 oc36 kV36 dc36 pm36 cd36 ct36 oc37 kV37 dc37 pm37 cd37 ct37 oc38 kV38 dc38 pm38 cd38 ct38 oc39 kV39 dc39 pm39 cd39 ct39 oc40 kV40 dc40 pm40 cd40 ct40 oc41 kV41 dc41 pm41 cd41 ct41 oc42 kV42 dc42 pm42 cd42 ct42 oc43 kV43 dc43 pm43 cd43 ct43 oc44 kV44 dc44 pm44 cd44 ct44 oc45 kV45 dc45 pm45 cd45 ct45 oc46 kV46 dc46 pm46 cd46 ct46 oc47 kV47 dc47 pm47 cd47 ct47 oc48 kV48 dc48 pm48 cd48 ct48 oc49 kV49 dc49 pm49 cd49 ct49 oc50 kV50 dc50 pm50 cd50 ct50 oc51 kV51 dc51 pm51 cd51 ct51 oc52 kV52 dc52 pm52 cd52 ct52 oc53 kV53 dc53 pm53 cd53 ct53 oc54 kV54 dc54 pm54 cd54 ct54 oc55 kV55 dc55 pm55 cd55 ct55 oc56 kV56 dc56 pm56 cd56 ct56 : Value} {t_MOST_LINKS t_MOST_FLOWS t_MOST_PATHS t_MOST_AMOUNT t_CREATE t_LEAST_NODES t_MOST_NODES uP0 uP1 uP2 uP3 uP4 uP5 uP6 uP7 uP8 uP9 uP10 uP11 uP12 uP13 uP14 uP15 uP16 uP17 uP18 uP19 uW0 uW1 v1 v2 v3 v4 v5 v6 v7 v8 v9 v10 v11 v12 v13 v14 v15 v16 v17 v18 v19 : Tok} {nnP nnW nnD : Nat} {itsP itsW : Array Value} {es : Array DictEntry} {h1 h2 h3 h4 h5 h6 h7 h8 h9 h10 h11 h12 h13 h14 h15 h16 h17 h18 h19 : Int}
    (aC : PySem.W.nsIn K mainGlobals "Network" = some (some (.ref C)))
    (aI : PySem.W.findIn K (.ref C) "__init__" = some (some (.ref fI)))
    (iI : PySem.W.isFn K (.ref fI) = true)
    (lI : K.lookup fI = some ⟨ocI, odI, .func (PySem.W.fnOf "__init__" "Network.__init__" (defArgs s_init) (defBody s_init) (defScope s_init) .none kVI dcI pmI anI cdI ctI), slI⟩)
    (cI : PySem.W.codeIn K cdI "Network.__init__" = true)
    (kI : PySem.W.keepIn K (.ref fI) = true)
    (a1 : PySem.W.nsIn K mainGlobals "links_used" = some (some (.ref f1)))
    (l1 : K.lookup f1 = some ⟨oc1, od1, .func (PySem.W.fnOf "links_used" "links_used" (defArgs s_links_used) (defBody s_links_used) (defScope s_links_used) .none kV1 dc1 pm1 an1 cd1 ct1), sl1⟩)
    (c1 : PySem.W.codeIn K cd1 "links_used" = true)
    (k1 : PySem.W.keepIn K (.ref f1) = true)
    (a2 : PySem.W.nsIn K mainGlobals "demand_on" = some (some (.ref f2)))
    (l2 : K.lookup f2 = some ⟨oc2, od2, .func (PySem.W.fnOf "demand_on" "demand_on" (defArgs s_demand_on) (defBody s_demand_on) (defScope s_demand_on) .none kV2 dc2 pm2 an2 cd2 ct2), sl2⟩)
    (c2 : PySem.W.codeIn K cd2 "demand_on" = true)
    (k2 : PySem.W.keepIn K (.ref f2) = true)
    (a3 : PySem.W.nsIn K mainGlobals "load_of" = some (some (.ref f3)))
    (l3 : K.lookup f3 = some ⟨oc3, od3, .func (PySem.W.fnOf "load_of" "load_of" (defArgs s_load_of) (defBody s_load_of) (defScope s_load_of) .none kV3 dc3 pm3 an3 cd3 ct3), sl3⟩)
    (c3 : PySem.W.codeIn K cd3 "load_of" = true)
    (k3 : PySem.W.keepIn K (.ref f3) = true)
    (a4 : PySem.W.nsIn K mainGlobals "is_feasible" = some (some (.ref f4)))
    (l4 : K.lookup f4 = some ⟨oc4, od4, .func (PySem.W.fnOf "is_feasible" "is_feasible" (defArgs s_is_feasible) (defBody s_is_feasible) (defScope s_is_feasible) .none kV4 dc4 pm4 an4 cd4 ct4), sl4⟩)
    (c4 : PySem.W.codeIn K cd4 "is_feasible" = true)
    (k4 : PySem.W.keepIn K (.ref f4) = true)
    (a5 : PySem.W.nsIn K mainGlobals "has_room" = some (some (.ref f5)))
    (l5 : K.lookup f5 = some ⟨oc5, od5, .func (PySem.W.fnOf "has_room" "has_room" (defArgs s_has_room) (defBody s_has_room) (defScope s_has_room) .none kV5 dc5 pm5 an5 cd5 ct5), sl5⟩)
    (c5 : PySem.W.codeIn K cd5 "has_room" = true)
    (k5 : PySem.W.keepIn K (.ref f5) = true)
    (a6 : PySem.W.nsIn K mainGlobals "is_allowed" = some (some (.ref f6)))
    (l6 : K.lookup f6 = some ⟨oc6, od6, .func (PySem.W.fnOf "is_allowed" "is_allowed" (defArgs s_is_allowed) (defBody s_is_allowed) (defScope s_is_allowed) .none kV6 dc6 pm6 an6 cd6 ct6), sl6⟩)
    (c6 : PySem.W.codeIn K cd6 "is_allowed" = true)
    (k6 : PySem.W.keepIn K (.ref f6) = true)
    (a7 : PySem.W.nsIn K mainGlobals "with_flow" = some (some (.ref f7)))
    (l7 : K.lookup f7 = some ⟨oc7, od7, .func (PySem.W.fnOf "with_flow" "with_flow" (defArgs s_with_flow) (defBody s_with_flow) (defScope s_with_flow) .none kV7 dc7 pm7 an7 cd7 ct7), sl7⟩)
    (c7 : PySem.W.codeIn K cd7 "with_flow" = true)
    (k7 : PySem.W.keepIn K (.ref f7) = true)
    (a8 : PySem.W.nsIn K mainGlobals "moves_from" = some (some (.ref f8)))
    (l8 : K.lookup f8 = some ⟨oc8, od8, .func (PySem.W.fnOf "moves_from" "moves_from" (defArgs s_moves_from) (defBody s_moves_from) (defScope s_moves_from) .none kV8 dc8 pm8 an8 cd8 ct8), sl8⟩)
    (c8 : PySem.W.codeIn K cd8 "moves_from" = true)
    (k8 : PySem.W.keepIn K (.ref f8) = true)
    (a9 : PySem.W.nsIn K mainGlobals "is_drained" = some (some (.ref f9)))
    (l9 : K.lookup f9 = some ⟨oc9, od9, .func (PySem.W.fnOf "is_drained" "is_drained" (defArgs s_is_drained) (defBody s_is_drained) (defScope s_is_drained) .none kV9 dc9 pm9 an9 cd9 ct9), sl9⟩)
    (c9 : PySem.W.codeIn K cd9 "is_drained" = true)
    (k9 : PySem.W.keepIn K (.ref f9) = true)
    (a10 : PySem.W.nsIn K mainGlobals "is_node_drained" = some (some (.ref f10)))
    (l10 : K.lookup f10 = some ⟨oc10, od10, .func (PySem.W.fnOf "is_node_drained" "is_node_drained" (defArgs s_is_node_drained) (defBody s_is_node_drained) (defScope s_is_node_drained) .none kV10 dc10 pm10 an10 cd10 ct10), sl10⟩)
    (c10 : PySem.W.codeIn K cd10 "is_node_drained" = true)
    (k10 : PySem.W.keepIn K (.ref f10) = true)
    (a11 : PySem.W.nsIn K mainGlobals "has_node" = some (some (.ref f11)))
    (l11 : K.lookup f11 = some ⟨oc11, od11, .func (PySem.W.fnOf "has_node" "has_node" (defArgs s_has_node) (defBody s_has_node) (defScope s_has_node) .none kV11 dc11 pm11 an11 cd11 ct11), sl11⟩)
    (c11 : PySem.W.codeIn K cd11 "has_node" = true)
    (k11 : PySem.W.keepIn K (.ref f11) = true)
    (a12 : PySem.W.nsIn K mainGlobals "has_link" = some (some (.ref f12)))
    (l12 : K.lookup f12 = some ⟨oc12, od12, .func (PySem.W.fnOf "has_link" "has_link" (defArgs s_has_link) (defBody s_has_link) (defScope s_has_link) .none kV12 dc12 pm12 an12 cd12 ct12), sl12⟩)
    (c12 : PySem.W.codeIn K cd12 "has_link" = true)
    (k12 : PySem.W.keepIn K (.ref f12) = true)
    (a13 : PySem.W.nsIn K mainGlobals "has_flow" = some (some (.ref f13)))
    (l13 : K.lookup f13 = some ⟨oc13, od13, .func (PySem.W.fnOf "has_flow" "has_flow" (defArgs s_has_flow) (defBody s_has_flow) (defScope s_has_flow) .none kV13 dc13 pm13 an13 cd13 ct13), sl13⟩)
    (c13 : PySem.W.codeIn K cd13 "has_flow" = true)
    (k13 : PySem.W.keepIn K (.ref f13) = true)
    (a14 : PySem.W.nsIn K mainGlobals "has_path" = some (some (.ref f14)))
    (l14 : K.lookup f14 = some ⟨oc14, od14, .func (PySem.W.fnOf "has_path" "has_path" (defArgs s_has_path) (defBody s_has_path) (defScope s_has_path) .none kV14 dc14 pm14 an14 cd14 ct14), sl14⟩)
    (c14 : PySem.W.codeIn K cd14 "has_path" = true)
    (k14 : PySem.W.keepIn K (.ref f14) = true)
    (a15 : PySem.W.nsIn K mainGlobals "link_between" = some (some (.ref f15)))
    (l15 : K.lookup f15 = some ⟨oc15, od15, .func (PySem.W.fnOf "link_between" "link_between" (defArgs s_link_between) (defBody s_link_between) (defScope s_link_between) .none kV15 dc15 pm15 an15 cd15 ct15), sl15⟩)
    (c15 : PySem.W.codeIn K cd15 "link_between" = true)
    (k15 : PySem.W.keepIn K (.ref f15) = true)
    (a16 : PySem.W.nsIn K mainGlobals "route_of" = some (some (.ref f16)))
    (l16 : K.lookup f16 = some ⟨oc16, od16, .func (PySem.W.fnOf "route_of" "route_of" (defArgs s_route_of) (defBody s_route_of) (defScope s_route_of) .none kV16 dc16 pm16 an16 cd16 ct16), sl16⟩)
    (c16 : PySem.W.codeIn K cd16 "route_of" = true)
    (k16 : PySem.W.keepIn K (.ref f16) = true)
    (a17 : PySem.W.nsIn K mainGlobals "are_all_different" = some (some (.ref f17)))
    (l17 : K.lookup f17 = some ⟨oc17, od17, .func (PySem.W.fnOf "are_all_different" "are_all_different" (defArgs s_are_all_different) (defBody s_are_all_different) (defScope s_are_all_different) .none kV17 dc17 pm17 an17 cd17 ct17), sl17⟩)
    (c17 : PySem.W.codeIn K cd17 "are_all_different" = true)
    (k17 : PySem.W.keepIn K (.ref f17) = true)
    (a18 : PySem.W.nsIn K mainGlobals "is_path" = some (some (.ref f18)))
    (l18 : K.lookup f18 = some ⟨oc18, od18, .func (PySem.W.fnOf "is_path" "is_path" (defArgs s_is_path) (defBody s_is_path) (defScope s_is_path) .none kV18 dc18 pm18 an18 cd18 ct18), sl18⟩)
    (c18 : PySem.W.codeIn K cd18 "is_path" = true)
    (k18 : PySem.W.keepIn K (.ref f18) = true)
    (a19 : PySem.W.nsIn K mainGlobals "add_link" = some (some (.ref f19)))
    (l19 : K.lookup f19 = some ⟨oc19, od19, .func (PySem.W.fnOf "add_link" "add_link" (defArgs s_add_link) (defBody s_add_link) (defScope s_add_link) .none kV19 dc19 pm19 an19 cd19 ct19), sl19⟩)
    (c19 : PySem.W.codeIn K cd19 "add_link" = true)
    (k19 : PySem.W.keepIn K (.ref f19) = true)
    (a20 : PySem.W.nsIn K mainGlobals "add_flow" = some (some (.ref f20)))
    (l20 : K.lookup f20 = some ⟨oc20, od20, .func (PySem.W.fnOf "add_flow" "add_flow" (defArgs s_add_flow) (defBody s_add_flow) (defScope s_add_flow) .none kV20 dc20 pm20 an20 cd20 ct20), sl20⟩)
    (c20 : PySem.W.codeIn K cd20 "add_flow" = true)
    (k20 : PySem.W.keepIn K (.ref f20) = true)
    (a21 : PySem.W.nsIn K mainGlobals "add_path" = some (some (.ref f21)))
    (l21 : K.lookup f21 = some ⟨oc21, od21, .func (PySem.W.fnOf "add_path" "add_path" (defArgs s_add_path) (defBody s_add_path) (defScope s_add_path) .none kV21 dc21 pm21 an21 cd21 ct21), sl21⟩)
    (c21 : PySem.W.codeIn K cd21 "add_path" = true)
    (k21 : PySem.W.keepIn K (.ref f21) = true)
    (a22 : PySem.W.nsIn K mainGlobals "place_flow" = some (some (.ref f22)))
    (l22 : K.lookup f22 = some ⟨oc22, od22, .func (PySem.W.fnOf "place_flow" "place_flow" (defArgs s_place_flow) (defBody s_place_flow) (defScope s_place_flow) .none kV22 dc22 pm22 an22 cd22 ct22), sl22⟩)
    (c22 : PySem.W.codeIn K cd22 "place_flow" = true)
    (k22 : PySem.W.keepIn K (.ref f22) = true)
    (a23 : PySem.W.nsIn K mainGlobals "stop_flow" = some (some (.ref f23)))
    (l23 : K.lookup f23 = some ⟨oc23, od23, .func (PySem.W.fnOf "stop_flow" "stop_flow" (defArgs s_stop_flow) (defBody s_stop_flow) (defScope s_stop_flow) .none kV23 dc23 pm23 an23 cd23 ct23), sl23⟩)
    (c23 : PySem.W.codeIn K cd23 "stop_flow" = true)
    (k23 : PySem.W.keepIn K (.ref f23) = true)
    (a24 : PySem.W.nsIn K mainGlobals "move_flow" = some (some (.ref f24)))
    (l24 : K.lookup f24 = some ⟨oc24, od24, .func (PySem.W.fnOf "move_flow" "move_flow" (defArgs s_move_flow) (defBody s_move_flow) (defScope s_move_flow) .none kV24 dc24 pm24 an24 cd24 ct24), sl24⟩)
    (c24 : PySem.W.codeIn K cd24 "move_flow" = true)
    (k24 : PySem.W.keepIn K (.ref f24) = true)
    (a25 : PySem.W.nsIn K mainGlobals "set_capacity" = some (some (.ref f25)))
    (l25 : K.lookup f25 = some ⟨oc25, od25, .func (PySem.W.fnOf "set_capacity" "set_capacity" (defArgs s_set_capacity) (defBody s_set_capacity) (defScope s_set_capacity) .none kV25 dc25 pm25 an25 cd25 ct25), sl25⟩)
    (c25 : PySem.W.codeIn K cd25 "set_capacity" = true)
    (k25 : PySem.W.keepIn K (.ref f25) = true)
    (a26 : PySem.W.nsIn K mainGlobals "numbers_for" = some (some (.ref f26)))
    (l26 : K.lookup f26 = some ⟨oc26, od26, .func (PySem.W.fnOf "numbers_for" "numbers_for" (defArgs s_numbers_for) (defBody s_numbers_for) (defScope s_numbers_for) .none kV26 dc26 pm26 an26 cd26 ct26), sl26⟩)
    (c26 : PySem.W.codeIn K cd26 "numbers_for" = true)
    (k26 : PySem.W.keepIn K (.ref f26) = true)
    (a27 : PySem.W.nsIn K mainGlobals "candidates" = some (some (.ref f27)))
    (l27 : K.lookup f27 = some ⟨oc27, od27, .func (PySem.W.fnOf "candidates" "candidates" (defArgs s_candidates) (defBody s_candidates) (defScope s_candidates) .none kV27 dc27 pm27 an27 cd27 ct27), sl27⟩)
    (c27 : PySem.W.codeIn K cd27 "candidates" = true)
    (k27 : PySem.W.keepIn K (.ref f27) = true)
    (a28 : PySem.W.nsIn K mainGlobals "neighbours" = some (some (.ref f28)))
    (l28 : K.lookup f28 = some ⟨oc28, od28, .func (PySem.W.fnOf "neighbours" "neighbours" (defArgs s_neighbours) (defBody s_neighbours) (defScope s_neighbours) .none kV28 dc28 pm28 an28 cd28 ct28), sl28⟩)
    (c28 : PySem.W.codeIn K cd28 "neighbours" = true)
    (k28 : PySem.W.keepIn K (.ref f28) = true)
    (a29 : PySem.W.nsIn K mainGlobals "distances" = some (some (.ref f29)))
    (l29 : K.lookup f29 = some ⟨oc29, od29, .func (PySem.W.fnOf "distances" "distances" (defArgs s_distances) (defBody s_distances) (defScope s_distances) .none kV29 dc29 pm29 an29 cd29 ct29), sl29⟩)
    (c29 : PySem.W.codeIn K cd29 "distances" = true)
    (k29 : PySem.W.keepIn K (.ref f29) = true)
    (a30 : PySem.W.nsIn K mainGlobals "first_closer" = some (some (.ref f30)))
    (l30 : K.lookup f30 = some ⟨oc30, od30, .func (PySem.W.fnOf "first_closer" "first_closer" (defArgs s_first_closer) (defBody s_first_closer) (defScope s_first_closer) .none kV30 dc30 pm30 an30 cd30 ct30), sl30⟩)
    (c30 : PySem.W.codeIn K cd30 "first_closer" = true)
    (k30 : PySem.W.keepIn K (.ref f30) = true)
    (a31 : PySem.W.nsIn K mainGlobals "shortest_plan" = some (some (.ref f31)))
    (l31 : K.lookup f31 = some ⟨oc31, od31, .func (PySem.W.fnOf "shortest_plan" "shortest_plan" (defArgs s_shortest_plan) (defBody s_shortest_plan) (defScope s_shortest_plan) .none kV31 dc31 pm31 an31 cd31 ct31), sl31⟩)
    (c31 : PySem.W.codeIn K cd31 "shortest_plan" = true)
    (k31 : PySem.W.keepIn K (.ref f31) = true)
    (a32 : PySem.W.nsIn K mainGlobals "after_plan" = some (some (.ref f32)))
    (l32 : K.lookup f32 = some ⟨oc32, od32, .func (PySem.W.fnOf "after_plan" "after_plan" (defArgs s_after_plan) (defBody s_after_plan) (defScope s_after_plan) .none kV32 dc32 pm32 an32 cd32 ct32), sl32⟩)
    (c32 : PySem.W.codeIn K cd32 "after_plan" = true)
    (k32 : PySem.W.keepIn K (.ref f32) = true)
    (a33 : PySem.W.nsIn K mainGlobals "reachable" = some (some (.ref f33)))
    (l33 : K.lookup f33 = some ⟨oc33, od33, .func (PySem.W.fnOf "reachable" "reachable" (defArgs s_reachable) (defBody s_reachable) (defScope s_reachable) .none kV33 dc33 pm33 an33 cd33 ct33), sl33⟩)
    (c33 : PySem.W.codeIn K cd33 "reachable" = true)
    (k33 : PySem.W.keepIn K (.ref f33) = true)
    (a34 : PySem.W.nsIn K mainGlobals "count_components" = some (some (.ref f34)))
    (l34 : K.lookup f34 = some ⟨oc34, od34, .func (PySem.W.fnOf "count_components" "count_components" (defArgs s_count_components) (defBody s_count_components) (defScope s_count_components) .none kV34 dc34 pm34 an34 cd34 ct34), sl34⟩)
    (c34 : PySem.W.codeIn K cd34 "count_components" = true)
    (k34 : PySem.W.keepIn K (.ref f34) = true)
    (a35 : PySem.W.nsIn K mainGlobals "moves_told" = some (some (.ref f35)))
    (l35 : K.lookup f35 = some ⟨oc35, od35, .func (PySem.W.fnOf "moves_told" "moves_told" (defArgs s_moves_told) (defBody s_moves_told) (defScope s_moves_told) .none kV35 dc35 pm35 an35 cd35 ct35), sl35⟩)
    (c35 : PySem.W.codeIn K cd35 "moves_told" = true)
    (k35 : PySem.W.keepIn K (.ref f35) = true)
    (a36 : PySem.W.nsIn K mainGlobals "plan_told" = some (some (.ref f36)))
    (l36 : K.lookup f36 = some ⟨oc36, od36, .func (PySem.W.fnOf "plan_told" "plan_told" (defArgs s_plan_told) (defBody s_plan_told) (defScope s_plan_told) .none kV36 dc36 pm36 an36 cd36 ct36), sl36⟩)
    (c36 : PySem.W.codeIn K cd36 "plan_told" = true)
    (k36 : PySem.W.keepIn K (.ref f36) = true)
    (a37 : PySem.W.nsIn K mainGlobals "link_loads" = some (some (.ref f37)))
    (l37 : K.lookup f37 = some ⟨oc37, od37, .func (PySem.W.fnOf "link_loads" "link_loads" (defArgs s_link_loads) (defBody s_link_loads) (defScope s_link_loads) .none kV37 dc37 pm37 an37 cd37 ct37), sl37⟩)
    (c37 : PySem.W.codeIn K cd37 "link_loads" = true)
    (k37 : PySem.W.keepIn K (.ref f37) = true)
    (a38 : PySem.W.nsIn K mainGlobals "current_assignment" = some (some (.ref f38)))
    (l38 : K.lookup f38 = some ⟨oc38, od38, .func (PySem.W.fnOf "current_assignment" "current_assignment" (defArgs s_current_assignment) (defBody s_current_assignment) (defScope s_current_assignment) .none kV38 dc38 pm38 an38 cd38 ct38), sl38⟩)
    (c38 : PySem.W.codeIn K cd38 "current_assignment" = true)
    (k38 : PySem.W.keepIn K (.ref f38) = true)
    (a39 : PySem.W.nsIn K mainGlobals "allowed_moves" = some (some (.ref f39)))
    (l39 : K.lookup f39 = some ⟨oc39, od39, .func (PySem.W.fnOf "allowed_moves" "allowed_moves" (defArgs s_allowed_moves) (defBody s_allowed_moves) (defScope s_allowed_moves) .none kV39 dc39 pm39 an39 cd39 ct39), sl39⟩)
    (c39 : PySem.W.codeIn K cd39 "allowed_moves" = true)
    (k39 : PySem.W.keepIn K (.ref f39) = true)
    (a40 : PySem.W.nsIn K mainGlobals "fits_flows" = some (some (.ref f40)))
    (l40 : K.lookup f40 = some ⟨oc40, od40, .func (PySem.W.fnOf "fits_flows" "fits_flows" (defArgs s_fits_flows) (defBody s_fits_flows) (defScope s_fits_flows) .none kV40 dc40 pm40 an40 cd40 ct40), sl40⟩)
    (c40 : PySem.W.codeIn K cd40 "fits_flows" = true)
    (k40 : PySem.W.keepIn K (.ref f40) = true)
    (a41 : PySem.W.nsIn K mainGlobals "plan_to" = some (some (.ref f41)))
    (l41 : K.lookup f41 = some ⟨oc41, od41, .func (PySem.W.fnOf "plan_to" "plan_to" (defArgs s_plan_to) (defBody s_plan_to) (defScope s_plan_to) .none kV41 dc41 pm41 an41 cd41 ct41), sl41⟩)
    (c41 : PySem.W.codeIn K cd41 "plan_to" = true)
    (k41 : PySem.W.keepIn K (.ref f41) = true)
    (a42 : PySem.W.nsIn K mainGlobals "link_drain" = some (some (.ref f42)))
    (l42 : K.lookup f42 = some ⟨oc42, od42, .func (PySem.W.fnOf "link_drain" "link_drain" (defArgs s_link_drain) (defBody s_link_drain) (defScope s_link_drain) .none kV42 dc42 pm42 an42 cd42 ct42), sl42⟩)
    (c42 : PySem.W.codeIn K cd42 "link_drain" = true)
    (k42 : PySem.W.keepIn K (.ref f42) = true)
    (a43 : PySem.W.nsIn K mainGlobals "plan_link_drain" = some (some (.ref f43)))
    (l43 : K.lookup f43 = some ⟨oc43, od43, .func (PySem.W.fnOf "plan_link_drain" "plan_link_drain" (defArgs s_plan_link_drain) (defBody s_plan_link_drain) (defScope s_plan_link_drain) .none kV43 dc43 pm43 an43 cd43 ct43), sl43⟩)
    (c43 : PySem.W.codeIn K cd43 "plan_link_drain" = true)
    (k43 : PySem.W.keepIn K (.ref f43) = true)
    (a44 : PySem.W.nsIn K mainGlobals "plan_node_drain" = some (some (.ref f44)))
    (l44 : K.lookup f44 = some ⟨oc44, od44, .func (PySem.W.fnOf "plan_node_drain" "plan_node_drain" (defArgs s_plan_node_drain) (defBody s_plan_node_drain) (defScope s_plan_node_drain) .none kV44 dc44 pm44 an44 cd44 ct44), sl44⟩)
    (c44 : PySem.W.codeIn K cd44 "plan_node_drain" = true)
    (k44 : PySem.W.keepIn K (.ref f44) = true)
    (a45 : PySem.W.nsIn K mainGlobals "drain_link" = some (some (.ref f45)))
    (l45 : K.lookup f45 = some ⟨oc45, od45, .func (PySem.W.fnOf "drain_link" "drain_link" (defArgs s_drain_link) (defBody s_drain_link) (defScope s_drain_link) .none kV45 dc45 pm45 an45 cd45 ct45), sl45⟩)
    (c45 : PySem.W.codeIn K cd45 "drain_link" = true)
    (k45 : PySem.W.keepIn K (.ref f45) = true)
    (a46 : PySem.W.nsIn K mainGlobals "reachable_count" = some (some (.ref f46)))
    (l46 : K.lookup f46 = some ⟨oc46, od46, .func (PySem.W.fnOf "reachable_count" "reachable_count" (defArgs s_reachable_count) (defBody s_reachable_count) (defScope s_reachable_count) .none kV46 dc46 pm46 an46 cd46 ct46), sl46⟩)
    (c46 : PySem.W.codeIn K cd46 "reachable_count" = true)
    (k46 : PySem.W.keepIn K (.ref f46) = true)
    (a47 : PySem.W.nsIn K mainGlobals "component_count" = some (some (.ref f47)))
    (l47 : K.lookup f47 = some ⟨oc47, od47, .func (PySem.W.fnOf "component_count" "component_count" (defArgs s_component_count) (defBody s_component_count) (defScope s_component_count) .none kV47 dc47 pm47 an47 cd47 ct47), sl47⟩)
    (c47 : PySem.W.codeIn K cd47 "component_count" = true)
    (k47 : PySem.W.keepIn K (.ref f47) = true)
    (a48 : PySem.W.nsIn K mainGlobals "is_stuck" = some (some (.ref f48)))
    (l48 : K.lookup f48 = some ⟨oc48, od48, .func (PySem.W.fnOf "is_stuck" "is_stuck" (defArgs s_is_stuck) (defBody s_is_stuck) (defScope s_is_stuck) .none kV48 dc48 pm48 an48 cd48 ct48), sl48⟩)
    (c48 : PySem.W.codeIn K cd48 "is_stuck" = true)
    (k48 : PySem.W.keepIn K (.ref f48) = true)
    (a49 : PySem.W.nsIn K mainGlobals "stuck_flows" = some (some (.ref f49)))
    (l49 : K.lookup f49 = some ⟨oc49, od49, .func (PySem.W.fnOf "stuck_flows" "stuck_flows" (defArgs s_stuck_flows) (defBody s_stuck_flows) (defScope s_stuck_flows) .none kV49 dc49 pm49 an49 cd49 ct49), sl49⟩)
    (c49 : PySem.W.codeIn K cd49 "stuck_flows" = true)
    (k49 : PySem.W.keepIn K (.ref f49) = true)
    (a50 : PySem.W.nsIn K mainGlobals "flow_paths" = some (some (.ref f50)))
    (l50 : K.lookup f50 = some ⟨oc50, od50, .func (PySem.W.fnOf "flow_paths" "flow_paths" (defArgs s_flow_paths) (defBody s_flow_paths) (defScope s_flow_paths) .none kV50 dc50 pm50 an50 cd50 ct50), sl50⟩)
    (c50 : PySem.W.codeIn K cd50 "flow_paths" = true)
    (k50 : PySem.W.keepIn K (.ref f50) = true)
    (a51 : PySem.W.nsIn K mainGlobals "active_demand" = some (some (.ref f51)))
    (l51 : K.lookup f51 = some ⟨oc51, od51, .func (PySem.W.fnOf "active_demand" "active_demand" (defArgs s_active_demand) (defBody s_active_demand) (defScope s_active_demand) .none kV51 dc51 pm51 an51 cd51 ct51), sl51⟩)
    (c51 : PySem.W.codeIn K cd51 "active_demand" = true)
    (k51 : PySem.W.keepIn K (.ref f51) = true)
    (a52 : PySem.W.nsIn K mainGlobals "totals" = some (some (.ref f52)))
    (l52 : K.lookup f52 = some ⟨oc52, od52, .func (PySem.W.fnOf "totals" "totals" (defArgs s_totals) (defBody s_totals) (defScope s_totals) .none kV52 dc52 pm52 an52 cd52 ct52), sl52⟩)
    (c52 : PySem.W.codeIn K cd52 "totals" = true)
    (k52 : PySem.W.keepIn K (.ref f52) = true)
    (a53 : PySem.W.nsIn K mainGlobals "call_at" = some (some (.ref f53)))
    (l53 : K.lookup f53 = some ⟨oc53, od53, .func (PySem.W.fnOf "call_at" "call_at" (defArgs s_call_at) (defBody s_call_at) (defScope s_call_at) .none kV53 dc53 pm53 an53 cd53 ct53), sl53⟩)
    (c53 : PySem.W.codeIn K cd53 "call_at" = true)
    (k53 : PySem.W.keepIn K (.ref f53) = true)
    (a54 : PySem.W.nsIn K mainGlobals "created" = some (some (.ref f54)))
    (l54 : K.lookup f54 = some ⟨oc54, od54, .func (PySem.W.fnOf "created" "created" (defArgs s_created) (defBody s_created) (defScope s_created) .none kV54 dc54 pm54 an54 cd54 ct54), sl54⟩)
    (c54 : PySem.W.codeIn K cd54 "created" = true)
    (k54 : PySem.W.keepIn K (.ref f54) = true)
    (a55 : PySem.W.nsIn K mainGlobals "answer_of" = some (some (.ref f55)))
    (l55 : K.lookup f55 = some ⟨oc55, od55, .func (PySem.W.fnOf "answer_of" "answer_of" (defArgs s_answer_of) (defBody s_answer_of) (defScope s_answer_of) .none kV55 dc55 pm55 an55 cd55 ct55), sl55⟩)
    (c55 : PySem.W.codeIn K cd55 "answer_of" = true)
    (k55 : PySem.W.keepIn K (.ref f55) = true)
    (a56 : PySem.W.nsIn K mainGlobals "answers" = some (some (.ref f56)))
    (l56 : K.lookup f56 = some ⟨oc56, od56, .func (PySem.W.fnOf "answers" "answers" (defArgs s_answers) (defBody s_answers) (defScope s_answers) .none kV56 dc56 pm56 an56 cd56 ct56), sl56⟩)
    (c56 : PySem.W.codeIn K cd56 "answers" = true)
    (k56 : PySem.W.keepIn K (.ref f56) = true)
    (pg : PySem.W.plainGet K C Str.empty = true)
    (hd : PySem.W.hasDictIn K C = true)
    (po : PySem.W.plainOver K C = true)
    (sa : PySem.W.findIn K (.ref C) "__setattr__" = some (some (.builtin "object.__setattr__")))
    (mk : PySem.W.makesIn K C = true)
    (kc : PySem.W.keepIn K (.ref C) = true)
    (n1 : PySem.W.findIn K (.ref C) "node_count" = some none)
    (n2 : PySem.W.findIn K (.ref C) "ends" = some none)
    (n3 : PySem.W.findIn K (.ref C) "capacities" = some none)
    (n4 : PySem.W.findIn K (.ref C) "flows" = some none)
    (n5 : PySem.W.findIn K (.ref C) "paths" = some none)
    (n6 : PySem.W.findIn K (.ref C) "routes" = some none)
    (n7 : PySem.W.findIn K (.ref C) "assignment" = some none)
    (b_len : PySem.W.nsIn K mainGlobals "len" = some none)
    (b_sum : PySem.W.nsIn K mainGlobals "sum" = some none)
    (b_all : PySem.W.nsIn K mainGlobals "all" = some none)
    (b_range : PySem.W.nsIn K mainGlobals "range" = some none)
    (b_enumerate : PySem.W.nsIn K mainGlobals "enumerate" = some none)
    (b_list : PySem.W.nsIn K mainGlobals "list" = some none)
    (b_tuple : PySem.W.nsIn K mainGlobals "tuple" = some none)
    (g_MOST_LINKS : PySem.W.nsIn K mainGlobals "MOST_LINKS" = some (some (.int 10 t_MOST_LINKS)))
    (g_MOST_FLOWS : PySem.W.nsIn K mainGlobals "MOST_FLOWS" = some (some (.int 5 t_MOST_FLOWS)))
    (g_MOST_PATHS : PySem.W.nsIn K mainGlobals "MOST_PATHS" = some (some (.int 3 t_MOST_PATHS)))
    (g_MOST_AMOUNT : PySem.W.nsIn K mainGlobals "MOST_AMOUNT" = some (some (.int 99 t_MOST_AMOUNT)))
    (g_CREATE : PySem.W.nsIn K mainGlobals "CREATE" = some (some (.int 0 t_CREATE)))
    (g_LEAST_NODES : PySem.W.nsIn K mainGlobals "LEAST_NODES" = some (some (.int 2 t_LEAST_NODES)))
    (g_MOST_NODES : PySem.W.nsIn K mainGlobals "MOST_NODES" = some (some (.int 6 t_MOST_NODES)))
    (aP : PySem.W.nsIn K mainGlobals "PLAIN" = some (some (.ref xP)))
    (lP : K.lookup xP = some ⟨.type "tuple", odTP, .seq itsP nnP, slTP⟩)
    (eP : itsP.toList = [.int 1 uP0, .int 3 uP1, .int 3 uP2, .int 1 uP3, .int 2 uP4, .int 1 uP5, .int 2 uP6, .int 2 uP7, .int 0 uP8, .int 0 uP9, .int 0 uP10, .int 0 uP11, .int 1 uP12, .int 1 uP13, .int 1 uP14, .int 0 uP15, .int 0 uP16, .int 1 uP17, .int 1 uP18, .int 0 uP19])
    (aW : PySem.W.nsIn K mainGlobals "WITH_LIST" = some (some (.ref xW)))
    (lW : K.lookup xW = some ⟨.type "tuple", odTW, .seq itsW nnW, slTW⟩)
    (eW : itsW.toList = [.int 3 uW0, .int 11 uW1])
    (aD : PySem.W.nsIn K mainGlobals "DEEDS" = some (some (.ref dd)))
    (lD : K.lookup dd = some ⟨.type "dict", none, .dict es nnD, #[]⟩)
    (eD : es.toList = [⟨h1, .int 1 v1, .ref f19⟩, ⟨h2, .int 2 v2, .ref f20⟩, ⟨h3, .int 3 v3, .ref f21⟩, ⟨h4, .int 4 v4, .ref f22⟩, ⟨h5, .int 5 v5, .ref f23⟩, ⟨h6, .int 6 v6, .ref f24⟩, ⟨h7, .int 7 v7, .ref f25⟩, ⟨h8, .int 8 v8, .ref f37⟩, ⟨h9, .int 9 v9, .ref f38⟩, ⟨h10, .int 10 v10, .ref f39⟩, ⟨h11, .int 11 v11, .ref f41⟩, ⟨h12, .int 12 v12, .ref f43⟩, ⟨h13, .int 13 v13, .ref f44⟩, ⟨h14, .int 14 v14, .ref f45⟩, ⟨h15, .int 15 v15, .ref f46⟩, ⟨h16, .int 16 v16, .ref f47⟩, ⟨h17, .int 17 v17, .ref f49⟩, ⟨h18, .int 18 v18, .ref f50⟩, ⟨h19, .int 19 v19, .ref f52⟩])
    (hD1 : h1 = hashInt 1)
    (hD2 : h2 = hashInt 2)
    (hD3 : h3 = hashInt 3)
    (hD4 : h4 = hashInt 4)
    (hD5 : h5 = hashInt 5)
    (hD6 : h6 = hashInt 6)
    (hD7 : h7 = hashInt 7)
    (hD8 : h8 = hashInt 8)
    (hD9 : h9 = hashInt 9)
    (hD10 : h10 = hashInt 10)
    (hD11 : h11 = hashInt 11)
    (hD12 : h12 = hashInt 12)
    (hD13 : h13 = hashInt 13)
    (hD14 : h14 = hashInt 14)
    (hD15 : h15 = hashInt 15)
    (hD16 : h16 = hashInt 16)
    (hD17 : h17 = hashInt 17)
    (hD18 : h18 = hashInt 18)
    (hD19 : h19 = hashInt 19) :
    ∃ fd : FuncData, (∀ (s : Shared) (us : List Value), us.length = (["calls"] : List Str).length → BindsTo s fd ⟨us, []⟩ ((["calls"] : List Str).zip us)) ∧ ∀ base : Heap, K.In base → base.Ns mainGlobals mg → FnOk P w K mg base CX0 13 fa fd ["calls"] (spAns K) := by
  have ef := hfa.symm.trans (PySem.W.mg_of X G a56)
  cases ef
  have T : Txt K mg C := ⟨⟨pg, hd, po, sa⟩, n1, n2, n3, n4, n5, n6, n7, PySem.W.mg_none_of X G b_len, PySem.W.mg_none_of X G b_sum, PySem.W.mg_none_of X G b_all, PySem.W.mg_none_of X G b_range, PySem.W.mg_none_of X G b_enumerate, PySem.W.mg_none_of X G b_list, PySem.W.mg_none_of X G b_tuple, ⟨_, PySem.W.mg_of X G g_MOST_LINKS⟩, ⟨_, PySem.W.mg_of X G g_MOST_FLOWS⟩, ⟨_, PySem.W.mg_of X G g_MOST_PATHS⟩, ⟨_, PySem.W.mg_of X G g_MOST_AMOUNT⟩, ⟨_, PySem.W.mg_of X G g_CREATE⟩, ⟨_, PySem.W.mg_of X G g_LEAST_NODES⟩, ⟨_, PySem.W.mg_of X G g_MOST_NODES⟩⟩
  have T2 : Txt2 K mg := ⟨⟨xP, PySem.W.mg_of X G aP, tup_mk (vs := plains.map vN) lP eP (by show 20 ≤ 100; decide) (.cons ⟨_, rfl⟩ (.cons ⟨_, rfl⟩ (.cons ⟨_, rfl⟩ (.cons ⟨_, rfl⟩ (.cons ⟨_, rfl⟩ (.cons ⟨_, rfl⟩ (.cons ⟨_, rfl⟩ (.cons ⟨_, rfl⟩ (.cons ⟨_, rfl⟩ (.cons ⟨_, rfl⟩ (.cons ⟨_, rfl⟩ (.cons ⟨_, rfl⟩ (.cons ⟨_, rfl⟩ (.cons ⟨_, rfl⟩ (.cons ⟨_, rfl⟩ (.cons ⟨_, rfl⟩ (.cons ⟨_, rfl⟩ (.cons ⟨_, rfl⟩ (.cons ⟨_, rfl⟩ (.cons ⟨_, rfl⟩ .nil))))))))))))))))))))⟩, ⟨xW, PySem.W.mg_of X G aW, tup_mk (vs := [3, 11].map vN) lW eW (by show 2 ≤ 100; decide) (.cons ⟨_, rfl⟩ (.cons ⟨_, rfl⟩ .nil))⟩⟩
  have G_links_used := fun_mk (st := s_links_used) l1 c1 k1
  have F_links_used : Def K mg "links_used" s_links_used ["network", "assignment", "flow"] := ⟨_, _, G_links_used, PySem.W.mg_of X G a1, (G_links_used.binds (ps := ["network", "assignment", "flow"]) fun _ _ _ _ _ _ us hl => match us, hl with | [_, _, _], _ => rfl)⟩
  have G_demand_on := fun_mk (st := s_demand_on) l2 c2 k2
  have F_demand_on : Def K mg "demand_on" s_demand_on ["network", "assignment", "flow", "link"] := ⟨_, _, G_demand_on, PySem.W.mg_of X G a2, (G_demand_on.binds (ps := ["network", "assignment", "flow", "link"]) fun _ _ _ _ _ _ us hl => match us, hl with | [_, _, _, _], _ => rfl)⟩
  have G_load_of := fun_mk (st := s_load_of) l3 c3 k3
  have F_load_of : Def K mg "load_of" s_load_of ["network", "assignment", "link"] := ⟨_, _, G_load_of, PySem.W.mg_of X G a3, (G_load_of.binds (ps := ["network", "assignment", "link"]) fun _ _ _ _ _ _ us hl => match us, hl with | [_, _, _], _ => rfl)⟩
  have G_is_feasible := fun_mk (st := s_is_feasible) l4 c4 k4
  have F_is_feasible : Def K mg "is_feasible" s_is_feasible ["network", "assignment"] := ⟨_, _, G_is_feasible, PySem.W.mg_of X G a4, (G_is_feasible.binds (ps := ["network", "assignment"]) fun _ _ _ _ _ _ us hl => match us, hl with | [_, _], _ => rfl)⟩
  have G_has_room := fun_mk (st := s_has_room) l5 c5 k5
  have F_has_room : Def K mg "has_room" s_has_room ["network", "assignment", "flow", "path"] := ⟨_, _, G_has_room, PySem.W.mg_of X G a5, (G_has_room.binds (ps := ["network", "assignment", "flow", "path"]) fun _ _ _ _ _ _ us hl => match us, hl with | [_, _, _, _], _ => rfl)⟩
  have G_is_allowed := fun_mk (st := s_is_allowed) l6 c6 k6
  have F_is_allowed : Def K mg "is_allowed" s_is_allowed ["network", "assignment", "flow", "path"] := ⟨_, _, G_is_allowed, PySem.W.mg_of X G a6, (G_is_allowed.binds (ps := ["network", "assignment", "flow", "path"]) fun _ _ _ _ _ _ us hl => match us, hl with | [_, _, _, _], _ => rfl)⟩
  have G_with_flow := fun_mk (st := s_with_flow) l7 c7 k7
  have F_with_flow : Def K mg "with_flow" s_with_flow ["assignment", "flow", "number"] := ⟨_, _, G_with_flow, PySem.W.mg_of X G a7, (G_with_flow.binds (ps := ["assignment", "flow", "number"]) fun _ _ _ _ _ _ us hl => match us, hl with | [_, _, _], _ => rfl)⟩
  have G_moves_from := fun_mk (st := s_moves_from) l8 c8 k8
  have F_moves_from : Def K mg "moves_from" s_moves_from ["network", "assignment"] := ⟨_, _, G_moves_from, PySem.W.mg_of X G a8, (G_moves_from.binds (ps := ["network", "assignment"]) fun _ _ _ _ _ _ us hl => match us, hl with | [_, _], _ => rfl)⟩
  have G_is_drained := fun_mk (st := s_is_drained) l9 c9 k9
  have F_is_drained : Def K mg "is_drained" s_is_drained ["network", "assignment", "link"] := ⟨_, _, G_is_drained, PySem.W.mg_of X G a9, (G_is_drained.binds (ps := ["network", "assignment", "link"]) fun _ _ _ _ _ _ us hl => match us, hl with | [_, _, _], _ => rfl)⟩
  have G_is_node_drained := fun_mk (st := s_is_node_drained) l10 c10 k10
  have F_is_node_drained : Def K mg "is_node_drained" s_is_node_drained ["network", "assignment", "node"] := ⟨_, _, G_is_node_drained, PySem.W.mg_of X G a10, (G_is_node_drained.binds (ps := ["network", "assignment", "node"]) fun _ _ _ _ _ _ us hl => match us, hl with | [_, _, _], _ => rfl)⟩
  have G_has_node := fun_mk (st := s_has_node) l11 c11 k11
  have F_has_node : Def K mg "has_node" s_has_node ["network", "node"] := ⟨_, _, G_has_node, PySem.W.mg_of X G a11, (G_has_node.binds (ps := ["network", "node"]) fun _ _ _ _ _ _ us hl => match us, hl with | [_, _], _ => rfl)⟩
  have G_has_link := fun_mk (st := s_has_link) l12 c12 k12
  have F_has_link : Def K mg "has_link" s_has_link ["network", "link"] := ⟨_, _, G_has_link, PySem.W.mg_of X G a12, (G_has_link.binds (ps := ["network", "link"]) fun _ _ _ _ _ _ us hl => match us, hl with | [_, _], _ => rfl)⟩
  have G_has_flow := fun_mk (st := s_has_flow) l13 c13 k13
  have F_has_flow : Def K mg "has_flow" s_has_flow ["network", "flow"] := ⟨_, _, G_has_flow, PySem.W.mg_of X G a13, (G_has_flow.binds (ps := ["network", "flow"]) fun _ _ _ _ _ _ us hl => match us, hl with | [_, _], _ => rfl)⟩
  have G_has_path := fun_mk (st := s_has_path) l14 c14 k14
  have F_has_path : Def K mg "has_path" s_has_path ["network", "flow", "path"] := ⟨_, _, G_has_path, PySem.W.mg_of X G a14, (G_has_path.binds (ps := ["network", "flow", "path"]) fun _ _ _ _ _ _ us hl => match us, hl with | [_, _, _], _ => rfl)⟩
  have G_link_between := fun_mk (st := s_link_between) l15 c15 k15
  have F_link_between : Def K mg "link_between" s_link_between ["network", "one", "other"] := ⟨_, _, G_link_between, PySem.W.mg_of X G a15, (G_link_between.binds (ps := ["network", "one", "other"]) fun _ _ _ _ _ _ us hl => match us, hl with | [_, _, _], _ => rfl)⟩
  have G_route_of := fun_mk (st := s_route_of) l16 c16 k16
  have F_route_of : Def K mg "route_of" s_route_of ["network", "nodes"] := ⟨_, _, G_route_of, PySem.W.mg_of X G a16, (G_route_of.binds (ps := ["network", "nodes"]) fun _ _ _ _ _ _ us hl => match us, hl with | [_, _], _ => rfl)⟩
  have G_are_all_different := fun_mk (st := s_are_all_different) l17 c17 k17
  have F_are_all_different : Def K mg "are_all_different" s_are_all_different ["nodes"] := ⟨_, _, G_are_all_different, PySem.W.mg_of X G a17, (G_are_all_different.binds (ps := ["nodes"]) fun _ _ _ _ _ _ us hl => match us, hl with | [_], _ => rfl)⟩
  have G_is_path := fun_mk (st := s_is_path) l18 c18 k18
  have F_is_path : Def K mg "is_path" s_is_path ["network", "flow", "nodes"] := ⟨_, _, G_is_path, PySem.W.mg_of X G a18, (G_is_path.binds (ps := ["network", "flow", "nodes"]) fun _ _ _ _ _ _ us hl => match us, hl with | [_, _, _], _ => rfl)⟩
  have G_add_link := fun_mk (st := s_add_link) l19 c19 k19
  have F_add_link : Def K mg "add_link" s_add_link ["network", "plain", "given"] := ⟨_, _, G_add_link, PySem.W.mg_of X G a19, (G_add_link.binds (ps := ["network", "plain", "given"]) fun _ _ _ _ _ _ us hl => match us, hl with | [_, _, _], _ => rfl)⟩
  have G_add_flow := fun_mk (st := s_add_flow) l20 c20 k20
  have F_add_flow : Def K mg "add_flow" s_add_flow ["network", "plain", "given"] := ⟨_, _, G_add_flow, PySem.W.mg_of X G a20, (G_add_flow.binds (ps := ["network", "plain", "given"]) fun _ _ _ _ _ _ us hl => match us, hl with | [_, _, _], _ => rfl)⟩
  have G_add_path := fun_mk (st := s_add_path) l21 c21 k21
  have F_add_path : Def K mg "add_path" s_add_path ["network", "plain", "given"] := ⟨_, _, G_add_path, PySem.W.mg_of X G a21, (G_add_path.binds (ps := ["network", "plain", "given"]) fun _ _ _ _ _ _ us hl => match us, hl with | [_, _, _], _ => rfl)⟩
  have G_place_flow := fun_mk (st := s_place_flow) l22 c22 k22
  have F_place_flow : Def K mg "place_flow" s_place_flow ["network", "plain", "given"] := ⟨_, _, G_place_flow, PySem.W.mg_of X G a22, (G_place_flow.binds (ps := ["network", "plain", "given"]) fun _ _ _ _ _ _ us hl => match us, hl with | [_, _, _], _ => rfl)⟩
  have G_stop_flow := fun_mk (st := s_stop_flow) l23 c23 k23
  have F_stop_flow : Def K mg "stop_flow" s_stop_flow ["network", "plain", "given"] := ⟨_, _, G_stop_flow, PySem.W.mg_of X G a23, (G_stop_flow.binds (ps := ["network", "plain", "given"]) fun _ _ _ _ _ _ us hl => match us, hl with | [_, _, _], _ => rfl)⟩
  have G_move_flow := fun_mk (st := s_move_flow) l24 c24 k24
  have F_move_flow : Def K mg "move_flow" s_move_flow ["network", "plain", "given"] := ⟨_, _, G_move_flow, PySem.W.mg_of X G a24, (G_move_flow.binds (ps := ["network", "plain", "given"]) fun _ _ _ _ _ _ us hl => match us, hl with | [_, _, _], _ => rfl)⟩
  have G_set_capacity := fun_mk (st := s_set_capacity) l25 c25 k25
  have F_set_capacity : Def K mg "set_capacity" s_set_capacity ["network", "plain", "given"] := ⟨_, _, G_set_capacity, PySem.W.mg_of X G a25, (G_set_capacity.binds (ps := ["network", "plain", "given"]) fun _ _ _ _ _ _ us hl => match us, hl with | [_, _, _], _ => rfl)⟩
  have G_numbers_for := fun_mk (st := s_numbers_for) l26 c26 k26
  have F_numbers_for : Def K mg "numbers_for" s_numbers_for ["network", "flow"] := ⟨_, _, G_numbers_for, PySem.W.mg_of X G a26, (G_numbers_for.binds (ps := ["network", "flow"]) fun _ _ _ _ _ _ us hl => match us, hl with | [_, _], _ => rfl)⟩
  have G_candidates := fun_mk (st := s_candidates) l27 c27 k27
  have F_candidates : Def K mg "candidates" s_candidates ["network"] := ⟨_, _, G_candidates, PySem.W.mg_of X G a27, (G_candidates.binds (ps := ["network"]) fun _ _ _ _ _ _ us hl => match us, hl with | [_], _ => rfl)⟩
  have G_neighbours := fun_mk (st := s_neighbours) l28 c28 k28
  have F_neighbours : Def K mg "neighbours" s_neighbours ["network", "assignment"] := ⟨_, _, G_neighbours, PySem.W.mg_of X G a28, (G_neighbours.binds (ps := ["network", "assignment"]) fun _ _ _ _ _ _ us hl => match us, hl with | [_, _], _ => rfl)⟩
  have G_distances := fun_mk (st := s_distances) l29 c29 k29
  have F_distances : Def K mg "distances" s_distances ["network", "begin"] := ⟨_, _, G_distances, PySem.W.mg_of X G a29, (G_distances.binds (ps := ["network", "begin"]) fun _ _ _ _ _ _ us hl => match us, hl with | [_, _], _ => rfl)⟩
  have G_first_closer := fun_mk (st := s_first_closer) l30 c30 k30
  have F_first_closer : Def K mg "first_closer" s_first_closer ["network", "assignment", "known"] := ⟨_, _, G_first_closer, PySem.W.mg_of X G a30, (G_first_closer.binds (ps := ["network", "assignment", "known"]) fun _ _ _ _ _ _ us hl => match us, hl with | [_, _, _], _ => rfl)⟩
  have G_shortest_plan := fun_mk (st := s_shortest_plan) l31 c31 k31
  have F_shortest_plan : Def K mg "shortest_plan" s_shortest_plan ["network", "targets"] := ⟨_, _, G_shortest_plan, PySem.W.mg_of X G a31, (G_shortest_plan.binds (ps := ["network", "targets"]) fun _ _ _ _ _ _ us hl => match us, hl with | [_, _], _ => rfl)⟩
  have G_after_plan := fun_mk (st := s_after_plan) l32 c32 k32
  have F_after_plan : Def K mg "after_plan" s_after_plan ["assignment", "plan"] := ⟨_, _, G_after_plan, PySem.W.mg_of X G a32, (G_after_plan.binds (ps := ["assignment", "plan"]) fun _ _ _ _ _ _ us hl => match us, hl with | [_, _], _ => rfl)⟩
  have G_reachable := fun_mk (st := s_reachable) l33 c33 k33
  have F_reachable : Def K mg "reachable" s_reachable ["network"] := ⟨_, _, G_reachable, PySem.W.mg_of X G a33, (G_reachable.binds (ps := ["network"]) fun _ _ _ _ _ _ us hl => match us, hl with | [_], _ => rfl)⟩
  have G_count_components := fun_mk (st := s_count_components) l34 c34 k34
  have F_count_components : Def K mg "count_components" s_count_components ["network", "some"] := ⟨_, _, G_count_components, PySem.W.mg_of X G a34, (G_count_components.binds (ps := ["network", "some"]) fun _ _ _ _ _ _ us hl => match us, hl with | [_, _], _ => rfl)⟩
  have G_moves_told := fun_mk (st := s_moves_told) l35 c35 k35
  have F_moves_told : Def K mg "moves_told" s_moves_told ["moves"] := ⟨_, _, G_moves_told, PySem.W.mg_of X G a35, (G_moves_told.binds (ps := ["moves"]) fun _ _ _ _ _ _ us hl => match us, hl with | [_], _ => rfl)⟩
  have G_plan_told := fun_mk (st := s_plan_told) l36 c36 k36
  have F_plan_told : Def K mg "plan_told" s_plan_told ["plan"] := ⟨_, _, G_plan_told, PySem.W.mg_of X G a36, (G_plan_told.binds (ps := ["plan"]) fun _ _ _ _ _ _ us hl => match us, hl with | [_], _ => rfl)⟩
  have G_link_loads := fun_mk (st := s_link_loads) l37 c37 k37
  have F_link_loads : Def K mg "link_loads" s_link_loads ["network", "plain", "given"] := ⟨_, _, G_link_loads, PySem.W.mg_of X G a37, (G_link_loads.binds (ps := ["network", "plain", "given"]) fun _ _ _ _ _ _ us hl => match us, hl with | [_, _, _], _ => rfl)⟩
  have G_current_assignment := fun_mk (st := s_current_assignment) l38 c38 k38
  have F_current_assignment : Def K mg "current_assignment" s_current_assignment ["network", "plain", "given"] := ⟨_, _, G_current_assignment, PySem.W.mg_of X G a38, (G_current_assignment.binds (ps := ["network", "plain", "given"]) fun _ _ _ _ _ _ us hl => match us, hl with | [_, _, _], _ => rfl)⟩
  have G_allowed_moves := fun_mk (st := s_allowed_moves) l39 c39 k39
  have F_allowed_moves : Def K mg "allowed_moves" s_allowed_moves ["network", "plain", "given"] := ⟨_, _, G_allowed_moves, PySem.W.mg_of X G a39, (G_allowed_moves.binds (ps := ["network", "plain", "given"]) fun _ _ _ _ _ _ us hl => match us, hl with | [_, _, _], _ => rfl)⟩
  have G_fits_flows := fun_mk (st := s_fits_flows) l40 c40 k40
  have F_fits_flows : Def K mg "fits_flows" s_fits_flows ["network", "wanted"] := ⟨_, _, G_fits_flows, PySem.W.mg_of X G a40, (G_fits_flows.binds (ps := ["network", "wanted"]) fun _ _ _ _ _ _ us hl => match us, hl with | [_, _], _ => rfl)⟩
  have G_plan_to := fun_mk (st := s_plan_to) l41 c41 k41
  have F_plan_to : Def K mg "plan_to" s_plan_to ["network", "plain", "given"] := ⟨_, _, G_plan_to, PySem.W.mg_of X G a41, (G_plan_to.binds (ps := ["network", "plain", "given"]) fun _ _ _ _ _ _ us hl => match us, hl with | [_, _, _], _ => rfl)⟩
  have G_link_drain := fun_mk (st := s_link_drain) l42 c42 k42
  have F_link_drain : Def K mg "link_drain" s_link_drain ["network", "link"] := ⟨_, _, G_link_drain, PySem.W.mg_of X G a42, (G_link_drain.binds (ps := ["network", "link"]) fun _ _ _ _ _ _ us hl => match us, hl with | [_, _], _ => rfl)⟩
  have G_plan_link_drain := fun_mk (st := s_plan_link_drain) l43 c43 k43
  have F_plan_link_drain : Def K mg "plan_link_drain" s_plan_link_drain ["network", "plain", "given"] := ⟨_, _, G_plan_link_drain, PySem.W.mg_of X G a43, (G_plan_link_drain.binds (ps := ["network", "plain", "given"]) fun _ _ _ _ _ _ us hl => match us, hl with | [_, _, _], _ => rfl)⟩
  have G_plan_node_drain := fun_mk (st := s_plan_node_drain) l44 c44 k44
  have F_plan_node_drain : Def K mg "plan_node_drain" s_plan_node_drain ["network", "plain", "given"] := ⟨_, _, G_plan_node_drain, PySem.W.mg_of X G a44, (G_plan_node_drain.binds (ps := ["network", "plain", "given"]) fun _ _ _ _ _ _ us hl => match us, hl with | [_, _, _], _ => rfl)⟩
  have G_drain_link := fun_mk (st := s_drain_link) l45 c45 k45
  have F_drain_link : Def K mg "drain_link" s_drain_link ["network", "plain", "given"] := ⟨_, _, G_drain_link, PySem.W.mg_of X G a45, (G_drain_link.binds (ps := ["network", "plain", "given"]) fun _ _ _ _ _ _ us hl => match us, hl with | [_, _, _], _ => rfl)⟩
  have G_reachable_count := fun_mk (st := s_reachable_count) l46 c46 k46
  have F_reachable_count : Def K mg "reachable_count" s_reachable_count ["network", "plain", "given"] := ⟨_, _, G_reachable_count, PySem.W.mg_of X G a46, (G_reachable_count.binds (ps := ["network", "plain", "given"]) fun _ _ _ _ _ _ us hl => match us, hl with | [_, _, _], _ => rfl)⟩
  have G_component_count := fun_mk (st := s_component_count) l47 c47 k47
  have F_component_count : Def K mg "component_count" s_component_count ["network", "plain", "given"] := ⟨_, _, G_component_count, PySem.W.mg_of X G a47, (G_component_count.binds (ps := ["network", "plain", "given"]) fun _ _ _ _ _ _ us hl => match us, hl with | [_, _, _], _ => rfl)⟩
  have G_is_stuck := fun_mk (st := s_is_stuck) l48 c48 k48
  have F_is_stuck : Def K mg "is_stuck" s_is_stuck ["network", "some", "flow", "link"] := ⟨_, _, G_is_stuck, PySem.W.mg_of X G a48, (G_is_stuck.binds (ps := ["network", "some", "flow", "link"]) fun _ _ _ _ _ _ us hl => match us, hl with | [_, _, _, _], _ => rfl)⟩
  have G_stuck_flows := fun_mk (st := s_stuck_flows) l49 c49 k49
  have F_stuck_flows : Def K mg "stuck_flows" s_stuck_flows ["network", "plain", "given"] := ⟨_, _, G_stuck_flows, PySem.W.mg_of X G a49, (G_stuck_flows.binds (ps := ["network", "plain", "given"]) fun _ _ _ _ _ _ us hl => match us, hl with | [_, _, _], _ => rfl)⟩
  have G_flow_paths := fun_mk (st := s_flow_paths) l50 c50 k50
  have F_flow_paths : Def K mg "flow_paths" s_flow_paths ["network", "plain", "given"] := ⟨_, _, G_flow_paths, PySem.W.mg_of X G a50, (G_flow_paths.binds (ps := ["network", "plain", "given"]) fun _ _ _ _ _ _ us hl => match us, hl with | [_, _, _], _ => rfl)⟩
  have G_active_demand := fun_mk (st := s_active_demand) l51 c51 k51
  have F_active_demand : Def K mg "active_demand" s_active_demand ["network"] := ⟨_, _, G_active_demand, PySem.W.mg_of X G a51, (G_active_demand.binds (ps := ["network"]) fun _ _ _ _ _ _ us hl => match us, hl with | [_], _ => rfl)⟩
  have G_totals := fun_mk (st := s_totals) l52 c52 k52
  have F_totals : Def K mg "totals" s_totals ["network", "plain", "given"] := ⟨_, _, G_totals, PySem.W.mg_of X G a52, (G_totals.binds (ps := ["network", "plain", "given"]) fun _ _ _ _ _ _ us hl => match us, hl with | [_, _, _], _ => rfl)⟩
  have G_call_at := fun_mk (st := s_call_at) l53 c53 k53
  have F_call_at : Def K mg "call_at" s_call_at ["numbers", "place"] := ⟨_, _, G_call_at, PySem.W.mg_of X G a53, (G_call_at.binds (ps := ["numbers", "place"]) fun _ _ _ _ _ _ us hl => match us, hl with | [_, _], _ => rfl)⟩
  have G_created := fun_mk (st := s_created) l54 c54 k54
  have F_created : Def K mg "created" s_created ["network", "node_count"] := ⟨_, _, G_created, PySem.W.mg_of X G a54, (G_created.binds (ps := ["network", "node_count"]) fun _ _ _ _ _ _ us hl => match us, hl with | [_, _], _ => rfl)⟩
  have G_answer_of := fun_mk (st := s_answer_of) l55 c55 k55
  have F_answer_of : Def K mg "answer_of" s_answer_of ["network", "operation", "plain", "given"] := ⟨_, _, G_answer_of, PySem.W.mg_of X G a55, (G_answer_of.binds (ps := ["network", "operation", "plain", "given"]) fun _ _ _ _ _ _ us hl => match us, hl with | [_, _, _, _], _ => rfl)⟩
  have G_answers := fun_mk (st := s_answers) l56 c56 k56
  have FI := fun_mk (st := s_init) lI cI kI
  have kD : KeysI [⟨h1, .int 1 v1, .ref f19⟩, ⟨h2, .int 2 v2, .ref f20⟩, ⟨h3, .int 3 v3, .ref f21⟩, ⟨h4, .int 4 v4, .ref f22⟩, ⟨h5, .int 5 v5, .ref f23⟩, ⟨h6, .int 6 v6, .ref f24⟩, ⟨h7, .int 7 v7, .ref f25⟩, ⟨h8, .int 8 v8, .ref f37⟩, ⟨h9, .int 9 v9, .ref f38⟩, ⟨h10, .int 10 v10, .ref f39⟩, ⟨h11, .int 11 v11, .ref f41⟩, ⟨h12, .int 12 v12, .ref f43⟩, ⟨h13, .int 13 v13, .ref f44⟩, ⟨h14, .int 14 v14, .ref f45⟩, ⟨h15, .int 15 v15, .ref f46⟩, ⟨h16, .int 16 v16, .ref f47⟩, ⟨h17, .int 17 v17, .ref f49⟩, ⟨h18, .int 18 v18, .ref f50⟩, ⟨h19, .int 19 v19, .ref f52⟩] := ⟨⟨1, v1, rfl, hD1⟩, ⟨2, v2, rfl, hD2⟩, ⟨3, v3, rfl, hD3⟩, ⟨4, v4, rfl, hD4⟩, ⟨5, v5, rfl, hD5⟩, ⟨6, v6, rfl, hD6⟩, ⟨7, v7, rfl, hD7⟩, ⟨8, v8, rfl, hD8⟩, ⟨9, v9, rfl, hD9⟩, ⟨10, v10, rfl, hD10⟩, ⟨11, v11, rfl, hD11⟩, ⟨12, v12, rfl, hD12⟩, ⟨13, v13, rfl, hD13⟩, ⟨14, v14, rfl, hD14⟩, ⟨15, v15, rfl, hD15⟩, ⟨16, v16, rfl, hD16⟩, ⟨17, v17, rfl, hD17⟩, ⟨18, v18, rfl, hD18⟩, ⟨19, v19, rfl, hD19⟩, True.intro⟩
  refine ⟨PySem.W.fnOf "answers" "answers" (defArgs s_answers) (defBody s_answers) (defScope s_answers) .none kV56 dc56 pm56 an56 cd56 ct56, fun s us hu => match us, hu with | [_], _ => .of_eq rfl, fun base _ _ => ?_⟩
  have c_Network : CalN P w K mg base 1 "Network" C (spInit C) := ⟨fI, _, ["self", "node_count"], fn_init T FI, PySem.W.mg_of X G aC, ⟨mk, aI, iI, kc⟩, (FI.binds (ps := ["self", "node_count"]) fun _ _ _ _ _ _ us hl => match us, hl with | [_, _], _ => rfl)⟩
  have c_links_used := cal_links_used (P := P) (w := w) (base := base) T F_links_used
  have c_demand_on := cal_demand_on (P := P) (w := w) (base := base) T F_demand_on c_links_used
  have c_load_of := cal_load_of (P := P) (w := w) (base := base) T F_load_of c_demand_on
  have c_is_feasible := cal_is_feasible (P := P) (w := w) (base := base) T F_is_feasible c_load_of
  have c_has_room := cal_has_room (P := P) (w := w) (base := base) T F_has_room c_links_used c_load_of
  have c_is_allowed := cal_is_allowed (P := P) (w := w) (base := base) T F_is_allowed c_has_room
  have c_with_flow := cal_with_flow (P := P) (w := w) (base := base) F_with_flow
  have c_moves_from := cal_moves_from (P := P) (w := w) (base := base) T F_moves_from c_is_allowed
  have c_is_drained := cal_is_drained (P := P) (w := w) (base := base) T F_is_drained c_links_used
  have c_is_node_drained := cal_is_node_drained (P := P) (w := w) (base := base) T F_is_node_drained c_is_drained
  have c_has_node := cal_has_node (P := P) (w := w) (base := base) T F_has_node
  have c_has_link := cal_has_link (P := P) (w := w) (base := base) T F_has_link
  have c_has_flow := cal_has_flow (P := P) (w := w) (base := base) T F_has_flow
  have c_has_path := cal_has_path (P := P) (w := w) (base := base) T F_has_path c_has_flow
  have c_link_between := cal_link_between (P := P) (w := w) (base := base) T F_link_between
  have c_route_of := cal_route_of (P := P) (w := w) (base := base) T F_route_of c_link_between
  have c_are_all_different := cal_are_all_different (P := P) (w := w) (base := base) T F_are_all_different
  have c_is_path := cal_is_path (P := P) (w := w) (base := base) T F_is_path c_are_all_different c_route_of
  have c_add_link := cal_add_link (P := P) (w := w) (base := base) T F_add_link c_has_node c_link_between
  have c_add_flow := cal_add_flow (P := P) (w := w) (base := base) T F_add_flow c_has_node
  have c_add_path := cal_add_path (P := P) (w := w) (base := base) T F_add_path c_has_flow c_is_path c_route_of
  have c_place_flow := cal_place_flow (P := P) (w := w) (base := base) T F_place_flow c_has_path c_has_room c_with_flow
  have c_stop_flow := cal_stop_flow (P := P) (w := w) (base := base) T F_stop_flow c_has_flow c_with_flow
  have c_move_flow := cal_move_flow (P := P) (w := w) (base := base) T F_move_flow c_has_path c_is_allowed c_with_flow
  have c_set_capacity := cal_set_capacity (P := P) (w := w) (base := base) T F_set_capacity c_has_link c_load_of
  have c_numbers_for := cal_numbers_for (P := P) (w := w) (base := base) T F_numbers_for
  have c_candidates := cal_candidates (P := P) (w := w) (base := base) T F_candidates c_is_feasible c_numbers_for
  have c_neighbours := cal_neighbours (P := P) (w := w) (base := base) T F_neighbours c_moves_from c_with_flow
  have c_distances := cal_distances (P := P) (w := w) (base := base) T F_distances c_neighbours
  have c_first_closer := cal_first_closer (P := P) (w := w) (base := base) T F_first_closer c_moves_from c_with_flow
  have c_shortest_plan := cal_shortest_plan (P := P) (w := w) (base := base) T F_shortest_plan c_distances c_first_closer c_with_flow
  have c_after_plan := cal_after_plan (P := P) (w := w) (base := base) T F_after_plan c_with_flow
  have c_reachable := cal_reachable (P := P) (w := w) (base := base) T F_reachable c_distances
  have c_count_components := cal_count_components (P := P) (w := w) (base := base) T F_count_components c_distances
  have c_moves_told := cal_moves_told (P := P) (w := w) (base := base) T F_moves_told
  have c_plan_told := cal_plan_told (P := P) (w := w) (base := base) T F_plan_told c_moves_told
  have c_link_loads := cal_link_loads (P := P) (w := w) (base := base) T F_link_loads c_load_of
  have c_current_assignment := cal_current_assignment (P := P) (w := w) (base := base) T F_current_assignment
  have c_allowed_moves := cal_allowed_moves (P := P) (w := w) (base := base) T F_allowed_moves c_moves_from c_moves_told
  have c_fits_flows := cal_fits_flows (P := P) (w := w) (base := base) T F_fits_flows
  have c_plan_to := cal_plan_to (P := P) (w := w) (base := base) T F_plan_to c_fits_flows c_is_feasible c_plan_told c_shortest_plan
  have c_link_drain := cal_link_drain (P := P) (w := w) (base := base) T F_link_drain c_candidates c_is_drained c_shortest_plan
  have c_plan_link_drain := cal_plan_link_drain (P := P) (w := w) (base := base) T F_plan_link_drain c_has_link c_link_drain c_plan_told
  have c_plan_node_drain := cal_plan_node_drain (P := P) (w := w) (base := base) T F_plan_node_drain c_candidates c_has_node c_is_node_drained c_plan_told c_shortest_plan
  have c_drain_link := cal_drain_link (P := P) (w := w) (base := base) T F_drain_link c_has_link c_link_drain c_after_plan c_plan_told
  have c_reachable_count := cal_reachable_count (P := P) (w := w) (base := base) T F_reachable_count c_candidates c_reachable
  have c_component_count := cal_component_count (P := P) (w := w) (base := base) T F_component_count c_candidates c_count_components
  have c_is_stuck := cal_is_stuck (P := P) (w := w) (base := base) T F_is_stuck c_links_used
  have c_stuck_flows := cal_stuck_flows (P := P) (w := w) (base := base) T F_stuck_flows c_has_link c_is_stuck c_reachable
  have c_flow_paths := cal_flow_paths (P := P) (w := w) (base := base) T F_flow_paths c_has_flow
  have c_active_demand := cal_active_demand (P := P) (w := w) (base := base) T F_active_demand
  have c_totals := cal_totals (P := P) (w := w) (base := base) T F_totals c_active_demand
  have c_call_at := cal_call_at (P := P) (w := w) (base := base) T T2 F_call_at
  have c_created := cal_created (P := P) (w := w) (base := base) T F_created c_Network
  have exq : ∀ {k m : Nat} {x : Str} {op : List Nat → List Nat → Su203.Operation}, (∀ n pl gv, (Su203.execute n (op pl gv)).1 = n) → Cal P w K mg base k x (sp_q C m op) → Cal P w K mg base k x (spDeed C m op) := fun hp c => deed_of_q c hp
  have d1 : Held P w K mg base 2 f19 (spDeed C (plainN 1) (opOf 1)) := held_of c_add_link (PySem.W.mg_of X G a19)
  have d2 : Held P w K mg base 2 f20 (spDeed C (plainN 2) (opOf 2)) := held_of c_add_flow (PySem.W.mg_of X G a20)
  have d3 : Held P w K mg base 4 f21 (spDeed C (plainN 3) (opOf 3)) := held_of c_add_path (PySem.W.mg_of X G a21)
  have d4 : Held P w K mg base 5 f22 (spDeed C (plainN 4) (opOf 4)) := held_of c_place_flow (PySem.W.mg_of X G a22)
  have d5 : Held P w K mg base 2 f23 (spDeed C (plainN 5) (opOf 5)) := held_of c_stop_flow (PySem.W.mg_of X G a23)
  have d6 : Held P w K mg base 6 f24 (spDeed C (plainN 6) (opOf 6)) := held_of c_move_flow (PySem.W.mg_of X G a24)
  have d7 : Held P w K mg base 4 f25 (spDeed C (plainN 7) (opOf 7)) := held_of c_set_capacity (PySem.W.mg_of X G a25)
  have d8 : Held P w K mg base 4 f37 (spDeed C (plainN 8) (opOf 8)) := held_of (exq (fun n pl gv => rfl) c_link_loads) (PySem.W.mg_of X G a37)
  have d9 : Held P w K mg base 1 f38 (spDeed C (plainN 9) (opOf 9)) := held_of (exq (fun n pl gv => rfl) c_current_assignment) (PySem.W.mg_of X G a38)
  have d10 : Held P w K mg base 7 f39 (spDeed C (plainN 10) (opOf 10)) := held_of (exq (fun n pl gv => rfl) c_allowed_moves) (PySem.W.mg_of X G a39)
  have d11 : Held P w K mg base 10 f41 (spDeed C (plainN 11) (opOf 11)) := held_of (exq (fun n pl gv => ite1 rfl (ite1 rfl rfl)) c_plan_to) (PySem.W.mg_of X G a41)
  have d12 : Held P w K mg base 11 f43 (spDeed C (plainN 12) (opOf 12)) := held_of (exq (fun n pl gv => ite1 rfl rfl) c_plan_link_drain) (PySem.W.mg_of X G a43)
  have d13 : Held P w K mg base 10 f44 (spDeed C (plainN 13) (opOf 13)) := held_of (exq (fun n pl gv => ite1 rfl rfl) c_plan_node_drain) (PySem.W.mg_of X G a44)
  have d14 : Held P w K mg base 11 f45 (spDeed C (plainN 14) (opOf 14)) := held_of c_drain_link (PySem.W.mg_of X G a45)
  have d15 : Held P w K mg base 10 f46 (spDeed C (plainN 15) (opOf 15)) := held_of (exq (fun n pl gv => rfl) c_reachable_count) (PySem.W.mg_of X G a46)
  have d16 : Held P w K mg base 10 f47 (spDeed C (plainN 16) (opOf 16)) := held_of (exq (fun n pl gv => rfl) c_component_count) (PySem.W.mg_of X G a47)
  have d17 : Held P w K mg base 10 f49 (spDeed C (plainN 17) (opOf 17)) := held_of (exq (fun n pl gv => ite1 rfl rfl) c_stuck_flows) (PySem.W.mg_of X G a49)
  have d18 : Held P w K mg base 2 f50 (spDeed C (plainN 18) (opOf 18)) := held_of (exq (fun n pl gv => ite1 rfl rfl) c_flow_paths) (PySem.W.mg_of X G a50)
  have d19 : Held P w K mg base 2 f52 (spDeed C (plainN 19) (opOf 19)) := held_of (exq (fun n pl gv => rfl) c_totals) (PySem.W.mg_of X G a52)
  have TD : Deeds P w K mg base C := ⟨dd, PySem.W.mg_of X G aD, fun j h1 h2 => match j, h1, h2 with
    | 1, _, _ => ⟨f19, 2, by decide, d1, idct_mk lD eD kD rfl⟩
    | 2, _, _ => ⟨f20, 2, by decide, d2, idct_mk lD eD kD rfl⟩
    | 3, _, _ => ⟨f21, 4, by decide, d3, idct_mk lD eD kD rfl⟩
    | 4, _, _ => ⟨f22, 5, by decide, d4, idct_mk lD eD kD rfl⟩
    | 5, _, _ => ⟨f23, 2, by decide, d5, idct_mk lD eD kD rfl⟩
    | 6, _, _ => ⟨f24, 6, by decide, d6, idct_mk lD eD kD rfl⟩
    | 7, _, _ => ⟨f25, 4, by decide, d7, idct_mk lD eD kD rfl⟩
    | 8, _, _ => ⟨f37, 4, by decide, d8, idct_mk lD eD kD rfl⟩
    | 9, _, _ => ⟨f38, 1, by decide, d9, idct_mk lD eD kD rfl⟩
    | 10, _, _ => ⟨f39, 7, by decide, d10, idct_mk lD eD kD rfl⟩
    | 11, _, _ => ⟨f41, 10, by decide, d11, idct_mk lD eD kD rfl⟩
    | 12, _, _ => ⟨f43, 11, by decide, d12, idct_mk lD eD kD rfl⟩
    | 13, _, _ => ⟨f44, 10, by decide, d13, idct_mk lD eD kD rfl⟩
    | 14, _, _ => ⟨f45, 11, by decide, d14, idct_mk lD eD kD rfl⟩
    | 15, _, _ => ⟨f46, 10, by decide, d15, idct_mk lD eD kD rfl⟩
    | 16, _, _ => ⟨f47, 10, by decide, d16, idct_mk lD eD kD rfl⟩
    | 17, _, _ => ⟨f49, 10, by decide, d17, idct_mk lD eD kD rfl⟩
    | 18, _, _ => ⟨f50, 2, by decide, d18, idct_mk lD eD kD rfl⟩
    | 19, _, _ => ⟨f52, 2, by decide, d19, idct_mk lD eD kD rfl⟩
    | j + 20, _, h => absurd h (by omega)⟩
  have c_answer_of := cal_answer_of (P := P) (w := w) (base := base) T TD F_answer_of
  exact fn_answers T G_answers c_call_at c_created c_answer_of
theorem nn_of {l : List Int} (h : ∀ i ∈ l, 0 ≤ i) : nInts (l.map Int.toNat) = l := by
  unfold nInts
  rw [List.map_map]
  conv => (rhs; rw [← List.map_id l])
  exact List.map_congr_left fun i hi => Int.toNat_of_nonneg (h i hi)
theorem vn_of {l : List Int} (h : ∀ i ∈ l, 0 ≤ i) : (l.map Int.toNat).map vN = l.map V.int := by
  rw [List.map_map]
  refine List.map_congr_left fun i hi => ?_
  show V.int ((i.toNat : Nat) : Int) = V.int i
  rw [Int.toNat_of_nonneg (h i hi)]
end FL

open PySem PySem.W PyProof.Rows
set_option maxRecDepth 100000 in
set_option maxHeartbeats 8000000 in
theorem PySem.Challenge.cw_flowmoves_s01_answers_holds : PySem.Challenge.rw_flowmoves_s01_answers.Holds := by
  w_on; k_headS; (case hw => exact ⟨[.list [.int 8]], by decide +kernel, by decide +kernel⟩)
  k_fillS
  refine L2.walk_specK (r := PySem.Challenge.rw_flowmoves_s01_answers) (k := 13) (CX := L2.CX0) (ps := ["calls"]) (sp := FL.spAns) (by decide +kernel) rfl rfl ⟨rfl, by decide, by decide⟩ (fun w h Y => PySem.W.kIn_of Y) ?F ?S (fun _ _ _ _ z => z)
  case F =>
    intro w mg fa h Y KX G hmg
    refine' FL.all_mk KX G hmg ?aC ?aI ?iI ?lI ?cI ?kI ?a1 ?l1 ?c1 ?k1 ?a2 ?l2 ?c2 ?k2 ?a3 ?l3 ?c3 ?k3 ?a4 ?l4 ?c4 ?k4 ?a5 ?l5 ?c5 ?k5 ?a6 ?l6 ?c6 ?k6 ?a7 ?l7 ?c7 ?k7 ?a8 ?l8 ?c8 ?k8 ?a9 ?l9 ?c9 ?k9 ?a10 ?l10 ?c10 ?k10 ?a11 ?l11 ?c11 ?k11 ?a12 ?l12 ?c12 ?k12 ?a13 ?l13 ?c13 ?k13 ?a14 ?l14 ?c14 ?k14 ?a15 ?l15 ?c15 ?k15 ?a16 ?l16 ?c16 ?k16 ?a17 ?l17 ?c17 ?k17 ?a18 ?l18 ?c18 ?k18 ?a19 ?l19 ?c19 ?k19 ?a20 ?l20 ?c20 ?k20 ?a21 ?l21 ?c21 ?k21 ?a22 ?l22 ?c22 ?k22 ?a23 ?l23 ?c23 ?k23 ?a24 ?l24 ?c24 ?k24 ?a25 ?l25 ?c25 ?k25 ?a26 ?l26 ?c26 ?k26 ?a27 ?l27 ?c27 ?k27 ?a28 ?l28 ?c28 ?k28 ?a29 ?l29 ?c29 ?k29 ?a30 ?l30 ?c30 ?k30 ?a31 ?l31 ?c31 ?k31 ?a32 ?l32 ?c32 ?k32 ?a33 ?l33 ?c33 ?k33 ?a34 ?l34 ?c34 ?k34 ?a35 ?l35 ?c35 ?k35 ?a36 ?l36 ?c36 ?k36 ?a37 ?l37 ?c37 ?k37 ?a38 ?l38 ?c38 ?k38 ?a39 ?l39 ?c39 ?k39 ?a40 ?l40 ?c40 ?k40 ?a41 ?l41 ?c41 ?k41 ?a42 ?l42 ?c42 ?k42 ?a43 ?l43 ?c43 ?k43 ?a44 ?l44 ?c44 ?k44 ?a45 ?l45 ?c45 ?k45 ?a46 ?l46 ?c46 ?k46 ?a47 ?l47 ?c47 ?k47 ?a48 ?l48 ?c48 ?k48 ?a49 ?l49 ?c49 ?k49 ?a50 ?l50 ?c50 ?k50 ?a51 ?l51 ?c51 ?k51 ?a52 ?l52 ?c52 ?k52 ?a53 ?l53 ?c53 ?k53 ?a54 ?l54 ?c54 ?k54 ?a55 ?l55 ?c55 ?k55 ?a56 ?l56 ?c56 ?k56 ?pg ?hd ?po ?sa ?mk ?kc ?n1 ?n2 ?n3 ?n4 ?n5 ?n6 ?n7 ?b_len ?b_sum ?b_all ?b_range ?b_enumerate ?b_list ?b_tuple ?g_MOST_LINKS ?g_MOST_FLOWS ?g_MOST_PATHS ?g_MOST_AMOUNT ?g_CREATE ?g_LEAST_NODES ?g_MOST_NODES ?aP ?lP ?eP ?aW ?lW ?eW ?aD ?lD ?eD ?hD1 ?hD2 ?hD3 ?hD4 ?hD5 ?hD6 ?hD7 ?hD8 ?hD9 ?hD10 ?hD11 ?hD12 ?hD13 ?hD14 ?hD15 ?hD16 ?hD17 ?hD18 ?hD19
    (case aC => k_is)
    (case aI => k_is)
    (case iI => k_is)
    (case lI => k_is)
    (case cI => k_is)
    (case kI => k_is)
    (case a1 => k_is)
    (case l1 => k_is)
    (case c1 => k_is)
    (case k1 => k_is)
    (case a2 => k_is)
    (case l2 => k_is)
    (case c2 => k_is)
    (case k2 => k_is)
    (case a3 => k_is)
    (case l3 => k_is)
    (case c3 => k_is)
    (case k3 => k_is)
    (case a4 => k_is)
    (case l4 => k_is)
    (case c4 => k_is)
    (case k4 => k_is)
    (case a5 => k_is)
    (case l5 => k_is)
    (case c5 => k_is)
    (case k5 => k_is)
    (case a6 => k_is)
    (case l6 => k_is)
    (case c6 => k_is)
    (case k6 => k_is)
    (case a7 => k_is)
    (case l7 => k_is)
    (case c7 => k_is)
    (case k7 => k_is)
    (case a8 => k_is)
    (case l8 => k_is)
    (case c8 => k_is)
    (case k8 => k_is)
    (case a9 => k_is)
    (case l9 => k_is)
    (case c9 => k_is)
    (case k9 => k_is)
    (case a10 => k_is)
    (case l10 => k_is)
    (case c10 => k_is)
    (case k10 => k_is)
    (case a11 => k_is)
    (case l11 => k_is)
    (case c11 => k_is)
    (case k11 => k_is)
    (case a12 => k_is)
    (case l12 => k_is)
    (case c12 => k_is)
    (case k12 => k_is)
    (case a13 => k_is)
    (case l13 => k_is)
    (case c13 => k_is)
    (case k13 => k_is)
    (case a14 => k_is)
    (case l14 => k_is)
    (case c14 => k_is)
    (case k14 => k_is)
    (case a15 => k_is)
    (case l15 => k_is)
    (case c15 => k_is)
    (case k15 => k_is)
    (case a16 => k_is)
    (case l16 => k_is)
    (case c16 => k_is)
    (case k16 => k_is)
    (case a17 => k_is)
    (case l17 => k_is)
    (case c17 => k_is)
    (case k17 => k_is)
    (case a18 => k_is)
    (case l18 => k_is)
    (case c18 => k_is)
    (case k18 => k_is)
    (case a19 => k_is)
    (case l19 => k_is)
    (case c19 => k_is)
    (case k19 => k_is)
    (case a20 => k_is)
    (case l20 => k_is)
    (case c20 => k_is)
    (case k20 => k_is)
    (case a21 => k_is)
    (case l21 => k_is)
    (case c21 => k_is)
    (case k21 => k_is)
    (case a22 => k_is)
    (case l22 => k_is)
    (case c22 => k_is)
    (case k22 => k_is)
    (case a23 => k_is)
    (case l23 => k_is)
    (case c23 => k_is)
    (case k23 => k_is)
    (case a24 => k_is)
    (case l24 => k_is)
    (case c24 => k_is)
    (case k24 => k_is)
    (case a25 => k_is)
    (case l25 => k_is)
    (case c25 => k_is)
    (case k25 => k_is)
    (case a26 => k_is)
    (case l26 => k_is)
    (case c26 => k_is)
    (case k26 => k_is)
    (case a27 => k_is)
    (case l27 => k_is)
    (case c27 => k_is)
    (case k27 => k_is)
    (case a28 => k_is)
    (case l28 => k_is)
    (case c28 => k_is)
    (case k28 => k_is)
    (case a29 => k_is)
    (case l29 => k_is)
    (case c29 => k_is)
    (case k29 => k_is)
    (case a30 => k_is)
    (case l30 => k_is)
    (case c30 => k_is)
    (case k30 => k_is)
    (case a31 => k_is)
    (case l31 => k_is)
    (case c31 => k_is)
    (case k31 => k_is)
    (case a32 => k_is)
    (case l32 => k_is)
    (case c32 => k_is)
    (case k32 => k_is)
    (case a33 => k_is)
    (case l33 => k_is)
    (case c33 => k_is)
    (case k33 => k_is)
    (case a34 => k_is)
    (case l34 => k_is)
    (case c34 => k_is)
    (case k34 => k_is)
    (case a35 => k_is)
    (case l35 => k_is)
    (case c35 => k_is)
    (case k35 => k_is)
    (case a36 => k_is)
    (case l36 => k_is)
    (case c36 => k_is)
    (case k36 => k_is)
    (case a37 => k_is)
    (case l37 => k_is)
    (case c37 => k_is)
    (case k37 => k_is)
    (case a38 => k_is)
    (case l38 => k_is)
    (case c38 => k_is)
    (case k38 => k_is)
    (case a39 => k_is)
    (case l39 => k_is)
    (case c39 => k_is)
    (case k39 => k_is)
    (case a40 => k_is)
    (case l40 => k_is)
    (case c40 => k_is)
    (case k40 => k_is)
    (case a41 => k_is)
    (case l41 => k_is)
    (case c41 => k_is)
    (case k41 => k_is)
    (case a42 => k_is)
    (case l42 => k_is)
    (case c42 => k_is)
    (case k42 => k_is)
    (case a43 => k_is)
    (case l43 => k_is)
    (case c43 => k_is)
    (case k43 => k_is)
    (case a44 => k_is)
    (case l44 => k_is)
    (case c44 => k_is)
    (case k44 => k_is)
    (case a45 => k_is)
    (case l45 => k_is)
    (case c45 => k_is)
    (case k45 => k_is)
    (case a46 => k_is)
    (case l46 => k_is)
    (case c46 => k_is)
    (case k46 => k_is)
    (case a47 => k_is)
    (case l47 => k_is)
    (case c47 => k_is)
    (case k47 => k_is)
    (case a48 => k_is)
    (case l48 => k_is)
    (case c48 => k_is)
    (case k48 => k_is)
    (case a49 => k_is)
    (case l49 => k_is)
    (case c49 => k_is)
    (case k49 => k_is)
    (case a50 => k_is)
    (case l50 => k_is)
    (case c50 => k_is)
    (case k50 => k_is)
    (case a51 => k_is)
    (case l51 => k_is)
    (case c51 => k_is)
    (case k51 => k_is)
    (case a52 => k_is)
    (case l52 => k_is)
    (case c52 => k_is)
    (case k52 => k_is)
    (case a53 => k_is)
    (case l53 => k_is)
    (case c53 => k_is)
    (case k53 => k_is)
    (case a54 => k_is)
    (case l54 => k_is)
    (case c54 => k_is)
    (case k54 => k_is)
    (case a55 => k_is)
    (case l55 => k_is)
    (case c55 => k_is)
    (case k55 => k_is)
    (case a56 => k_is)
    (case l56 => k_is)
    (case c56 => k_is)
    (case k56 => k_is)
    (case pg => k_is)
    (case hd => k_is)
    (case po => k_is)
    (case sa => k_is)
    (case mk => k_is)
    (case kc => k_is)
    (case n1 => k_is)
    (case n2 => k_is)
    (case n3 => k_is)
    (case n4 => k_is)
    (case n5 => k_is)
    (case n6 => k_is)
    (case n7 => k_is)
    (case b_len => k_is)
    (case b_sum => k_is)
    (case b_all => k_is)
    (case b_range => k_is)
    (case b_enumerate => k_is)
    (case b_list => k_is)
    (case b_tuple => k_is)
    (case g_MOST_LINKS => k_is)
    (case g_MOST_FLOWS => k_is)
    (case g_MOST_PATHS => k_is)
    (case g_MOST_AMOUNT => k_is)
    (case g_CREATE => k_is)
    (case g_LEAST_NODES => k_is)
    (case g_MOST_NODES => k_is)
    (case aP => k_is)
    (case lP => k_is)
    (case eP => rfl)
    (case aW => k_is)
    (case lW => k_is)
    (case eW => rfl)
    (case aD => k_is)
    (case lD => k_is)
    (case eD => rfl)
    (case hD1 => first | rfl | decide +kernel)
    (case hD2 => first | rfl | decide +kernel)
    (case hD3 => first | rfl | decide +kernel)
    (case hD4 => first | rfl | decide +kernel)
    (case hD5 => first | rfl | decide +kernel)
    (case hD6 => first | rfl | decide +kernel)
    (case hD7 => first | rfl | decide +kernel)
    (case hD8 => first | rfl | decide +kernel)
    (case hD9 => first | rfl | decide +kernel)
    (case hD10 => first | rfl | decide +kernel)
    (case hD11 => first | rfl | decide +kernel)
    (case hD12 => first | rfl | decide +kernel)
    (case hD13 => first | rfl | decide +kernel)
    (case hD14 => first | rfl | decide +kernel)
    (case hD15 => first | rfl | decide +kernel)
    (case hD16 => first | rfl | decide +kernel)
    (case hD17 => first | rfl | decide +kernel)
    (case hD18 => first | rfl | decide +kernel)
    (case hD19 => first | rfl | decide +kernel)
  case S =>
    intro K H xs a hO hwi hask hx
    cases hx with
    | cons h1 h2 =>
      cases h2
      cases h1 with
      | lst hs ha =>
        have el := L2.ints_dw a.1 _ ha
        subst el
        have q : ((Codec.inLen 0 4400 a.1 && a.1.all (Codec.inInt 0 4294967295)) && true) = true := hwi
        rw [Bool.and_eq_true, Bool.and_eq_true] at q
        have h0 : ∀ i ∈ a.1, 0 ≤ i := fun i hi => (Codec.inInt_iff.mp (List.all_eq_true.mp q.1.2 i hi)).1
        have nn := FL.nn_of h0
        have mp := FL.vn_of h0
        refine ⟨_, a.1.map Int.toNat, rfl, by rw [mp]; exact hs, by rw [nn]; exact hask, by rw [List.length_map]; exact (Codec.inNat_iff.mp q.1.1).2, fun H' p hp => ?_⟩
        rw [nn] at hp
        exact .lst (L2.SqL.of hp) (L2.dw_ints _)
