import PyProof.Rows.All
import Wide.All
import OpenK.AllK
import Wide.FinOn
import PyProof.EqAt
import PyProof.EqKinds
import PyProof.TupleCall
import Open.SpecLaws
import KE.OsGo
import HandS.ForSpec
import HandS.ForMost
import HandS.TupMul
import HandS.TupAny
import HandS.Deep
import HandS.Zip
import HandS.SortRule
import HandS.Evl
import HandS.Walk
import KE.KDictKeyed
import KE.KDictDisplayH
import KE.GoesMore
import KE.GoesEnum
import PySem.Challenge.RW_pebbleboard_s01_answers
set_option Elab.async false
set_option linter.all false
set_option maxRecDepth 100000
set_option maxHeartbeats 2000000
namespace PB
open Ks577 (pebblesAt)
abbrev Cfg := List Nat
/-- exactly k moves -/
def RN (succ : Cfg → List Cfg) (c : Cfg) : Nat → Cfg → Prop
  | 0, d => d = c
  | k + 1, d => ∃ e, RN succ c k e ∧ d ∈ succ e
/-- each move leaves one pebble less -/
def Dec (succ : Cfg → List Cfg) : Prop := ∀ c d, d ∈ succ c → d.sum + 1 = c.sum
def levG (succ : Cfg → List Cfg) : List Cfg → Nat → List (List Cfg)
  | _, 0 => []
  | level, fuel + 1 => if level.isEmpty then [] else level :: levG succ ((level.flatMap succ).eraseDups) fuel
theorem lev577 (g : Ks577.Graph) : ∀ (fuel : Nat) (level : List Cfg), Ks577.levelsFrom g level fuel = levG (Ks577.successors g) level fuel
  | 0, _ => rfl
  | fuel + 1, level => by
    rw [Ks577.levelsFrom, levG, lev577 g fuel]
theorem lev581 (g : Ks577.Graph) : ∀ (fuel : Nat) (level : List Cfg), Ks581.levelsFrom g level fuel = levG (Ks581.successors g) level fuel
  | 0, _ => rfl
  | fuel + 1, level => by
    rw [Ks581.levelsFrom, levG, lev581 g fuel]
/-- k moves from somewhere in a level -/
def RL (succ : Cfg → List Cfg) (l : List Cfg) (k : Nat) (d : Cfg) : Prop := ∃ c ∈ l, RN succ c k d
theorem RN_left {succ : Cfg → List Cfg} : ∀ {k : Nat} {c d : Cfg}, RN succ c (k + 1) d ↔ ∃ e ∈ succ c, RN succ e k d
  | 0, c, d => by
    constructor
    · rintro ⟨e, rfl, h⟩
      exact ⟨d, h, rfl⟩
    · rintro ⟨e, h, rfl⟩
      exact ⟨c, rfl, h⟩
  | k + 1, c, d => by
    constructor
    · rintro ⟨e, h, hd⟩
      obtain ⟨f, hf, hr⟩ := (RN_left (k := k)).mp h
      exact ⟨f, hf, e, hr, hd⟩
    · rintro ⟨f, hf, e, hr, hd⟩
      exact ⟨e, (RN_left (k := k)).mpr ⟨f, hf, hr⟩, hd⟩
theorem RL_next {succ : Cfg → List Cfg} {l : List Cfg} {k : Nat} {d : Cfg} : RL succ ((l.flatMap succ).eraseDups) k d ↔ RL succ l (k + 1) d := by
  constructor
  · rintro ⟨e, he, hr⟩
    rw [List.mem_eraseDups, List.mem_flatMap] at he
    obtain ⟨c, hc, hce⟩ := he
    exact ⟨c, hc, RN_left.mpr ⟨e, hce, hr⟩⟩
  · rintro ⟨c, hc, hr⟩
    obtain ⟨e, he, hr⟩ := RN_left.mp hr
    exact ⟨e, by rw [List.mem_eraseDups, List.mem_flatMap]; exact ⟨c, hc, he⟩, hr⟩
theorem levG_get {succ : Cfg → List Cfg} : ∀ (fuel : Nat) (l : List Cfg) (i : Nat) (d : Cfg), i < fuel → ((∃ L, (levG succ l fuel)[i]? = some L ∧ d ∈ L) ↔ RL succ l i d)
  | 0, _, _, _, h => absurd h (Nat.not_lt_zero _)
  | fuel + 1, l, i, d, h => by
    unfold levG
    cases l with
    | nil =>
      constructor
      · rintro ⟨L, e, _⟩
        simp at e
      · rintro ⟨c, hc, _⟩
        cases hc
    | cons a r =>
      rw [if_neg (by simp)]
      cases i with
      | zero =>
        constructor
        · rintro ⟨L, e, hd⟩
          cases e
          exact ⟨d, hd, rfl⟩
        · rintro ⟨c, hc, e⟩
          have e : d = c := e
          subst e
          exact ⟨_, rfl, hc⟩
      | succ i =>
        have ih := levG_get (succ := succ) fuel (((a :: r).flatMap succ).eraseDups) i d (Nat.lt_of_succ_lt_succ h)
        rw [List.getElem?_cons_succ, ih, RL_next]
theorem RN_sum {succ : Cfg → List Cfg} (hd : Dec succ) : ∀ {k : Nat} {c d : Cfg}, RN succ c k d → d.sum + k = c.sum
  | 0, c, d, h => by
    have h : d = c := h
    rw [h, Nat.add_zero]
  | k + 1, c, d, h => by
    obtain ⟨e, he, hm⟩ := h
    have h1 := RN_sum hd he
    have h2 := hd e d hm
    omega
def levels (succ : Cfg → List Cfg) (c : Cfg) : List (List Cfg) := levG succ [c] (c.sum + 1)
theorem levels_get {succ : Cfg → List Cfg} (hd : Dec succ) {c d : Cfg} {k : Nat} : (∃ L, (levels succ c)[k]? = some L ∧ d ∈ L) ↔ RN succ c k d := by
  have one : RL succ [c] k d ↔ RN succ c k d := by
    constructor
    · rintro ⟨e, he, h⟩
      rw [List.mem_singleton.mp he] at h
      exact h
    · intro h
      exact ⟨c, List.mem_singleton.mpr rfl, h⟩
  by_cases hk : k < c.sum + 1
  · rw [← one]
    exact levG_get _ _ _ _ hk
  · constructor
    · rintro ⟨L, e, _⟩
      exfalso
      have hlen : ∀ (fuel : Nat) (l : List Cfg), (levG succ l fuel).length ≤ fuel := by
        intro fuel
        induction fuel with
        | zero => intro l; exact Nat.le_refl _
        | succ f ih =>
          intro l
          unfold levG
          split
          · exact Nat.zero_le _
          · rw [List.length_cons]
            exact Nat.succ_le_succ (ih _)
      have h1 := (List.getElem?_eq_some_iff.mp e).1
      have h2 := hlen (c.sum + 1) [c]
      unfold levels at h1
      omega
    · intro h
      have := RN_sum hd h
      omega
/-- reachable, in any number of moves -/
def Rch (succ : Cfg → List Cfg) (c d : Cfg) : Prop := ∃ k, RN succ c k d
theorem Rch.refl {succ : Cfg → List Cfg} {c : Cfg} : Rch succ c c := ⟨0, rfl⟩
theorem Rch.snoc {succ : Cfg → List Cfg} {c d e : Cfg} (h : Rch succ c d) (he : e ∈ succ d) : Rch succ c e := let ⟨k, hk⟩ := h; ⟨k + 1, d, hk, he⟩
theorem Rch.cons {succ : Cfg → List Cfg} {c d e : Cfg} (hd : d ∈ succ c) (h : Rch succ d e) : Rch succ c e := let ⟨k, hk⟩ := h; ⟨k + 1, RN_left.mpr ⟨d, hd, hk⟩⟩
theorem Rch.cases {succ : Cfg → List Cfg} {c e : Cfg} (h : Rch succ c e) : e = c ∨ ∃ d ∈ succ c, Rch succ d e := by
  obtain ⟨k, hk⟩ := h
  cases k with
  | zero => exact .inl hk
  | succ k =>
    obtain ⟨d, h1, h2⟩ := RN_left.mp hk
    exact .inr ⟨d, h1, k, h2⟩
theorem Rch.sum_le {succ : Cfg → List Cfg} (hd : Dec succ) {c d : Cfg} (h : Rch succ c d) : d.sum ≤ c.sum := by
  obtain ⟨k, hk⟩ := h
  have := RN_sum hd hk
  omega
/-- the least number of moves -/
def minG (succ : Cfg → List Cfg) (c : Cfg) (t cnt : Nat) : Option Nat := (levels succ c).findIdx? fun level => level.any fun d => decide (cnt ≤ pebblesAt d t)
theorem min577 (g : Ks577.Graph) (c : Cfg) (t cnt : Nat) : Ks577.minMoves g c t cnt = minG (Ks577.successors g) c t cnt := by
  unfold Ks577.minMoves minG Ks577.levels levels
  rw [lev577]
theorem min581 (g : Ks577.Graph) (c : Cfg) (t cnt : Nat) : Ks581.minMoves g c t cnt = minG (Ks581.successors g) c t cnt := by
  unfold Ks581.minMoves minG Ks581.levels levels
  rw [lev581]
theorem minG_some {succ : Cfg → List Cfg} (hd : Dec succ) {c : Cfg} {t cnt k : Nat} :
    minG succ c t cnt = some k ↔ (∃ d, Rch succ c d ∧ cnt ≤ pebblesAt d t ∧ d.sum + k = c.sum) ∧ ∀ d, Rch succ c d → cnt ≤ pebblesAt d t → d.sum + k ≤ c.sum := by
  unfold minG
  rw [List.findIdx?_eq_some_iff_getElem]
  constructor
  · rintro ⟨h, h1, h2⟩
    rw [List.any_eq_true] at h1
    obtain ⟨d, hd1, hd2⟩ := h1
    have hr : RN succ c k d := (levels_get hd).mp ⟨_, List.getElem?_eq_getElem h, hd1⟩
    refine ⟨⟨d, ⟨k, hr⟩, of_decide_eq_true hd2, RN_sum hd hr⟩, fun e ⟨j, hj⟩ he => ?_⟩
    have hs := RN_sum hd hj
    by_cases hjk : j < k
    · exfalso
      obtain ⟨L, hL, heL⟩ := (levels_get hd).mpr hj
      obtain ⟨hjl, hL'⟩ := List.getElem?_eq_some_iff.mp hL
      refine h2 j hjk ?_
      rw [List.any_eq_true]
      exact ⟨e, by rw [hL']; exact heL, decide_eq_true he⟩
    · omega
  · rintro ⟨⟨d, ⟨j, hj⟩, hp, hs⟩, hmin⟩
    have hjk : j = k := by
      have := RN_sum hd hj
      omega
    subst hjk
    obtain ⟨L, hL, hdL⟩ := (levels_get hd).mpr hj
    obtain ⟨hjl, hL'⟩ := List.getElem?_eq_some_iff.mp hL
    refine ⟨hjl, ?_, fun i hi hany => ?_⟩
    · rw [List.any_eq_true]
      exact ⟨d, by rw [hL']; exact hdL, decide_eq_true hp⟩
    · rw [List.any_eq_true] at hany
      obtain ⟨e, he1, he2⟩ := hany
      have hr : RN succ c i e := (levels_get hd).mp ⟨_, List.getElem?_eq_getElem (Nat.lt_trans hi hjl), he1⟩
      have h1 := hmin e ⟨i, hr⟩ (of_decide_eq_true he2)
      have h2 := RN_sum hd hr
      omega
theorem minG_none {succ : Cfg → List Cfg} (hd : Dec succ) {c : Cfg} {t cnt : Nat} : minG succ c t cnt = none ↔ ∀ d, Rch succ c d → ¬ cnt ≤ pebblesAt d t := by
  unfold minG
  rw [List.findIdx?_eq_none_iff]
  constructor
  · rintro h d ⟨k, hk⟩ hp
    obtain ⟨L, hL, hdL⟩ := (levels_get hd).mpr hk
    have h1 := h L (List.mem_of_getElem? hL)
    rw [List.any_eq_false] at h1
    exact h1 d hdL (decide_eq_true hp)
  · intro h L hL
    rw [List.any_eq_false]
    intro d hdL hp
    obtain ⟨k, hk⟩ := List.mem_iff_getElem?.mp hL
    exact h d ⟨k, (levels_get hd).mp ⟨L, hk, hdL⟩⟩ (of_decide_eq_true hp)
theorem minG_isSome {succ : Cfg → List Cfg} (hd : Dec succ) {c : Cfg} {t cnt : Nat} : (minG succ c t cnt).isSome = true ↔ ∃ d, Rch succ c d ∧ cnt ≤ pebblesAt d t := by
  constructor
  · intro h
    obtain ⟨k, hk⟩ := Option.isSome_iff_exists.mp h
    obtain ⟨⟨d, h1, h2, _⟩, _⟩ := (minG_some hd).mp hk
    exact ⟨d, h1, h2⟩
  · rintro ⟨d, h1, h2⟩
    cases e : minG succ c t cnt with
    | some k => rfl
    | none => exact absurd h2 ((minG_none hd).mp e d h1)
/-- the most pebbles -/
def maxG (succ : Cfg → List Cfg) (c : Cfg) (t : Nat) : Nat := ((levels succ c).flatMap fun level => level.map fun d => pebblesAt d t).foldl max 0
theorem max577 (g : Ks577.Graph) (c : Cfg) (t : Nat) : Ks577.maxPebblesAt g c t = maxG (Ks577.successors g) c t := by
  unfold Ks577.maxPebblesAt maxG Ks577.levels levels
  rw [lev577]
theorem max581 (g : Ks577.Graph) (c : Cfg) (t : Nat) : Ks581.maxPebblesAt g c t = maxG (Ks581.successors g) c t := by
  unfold Ks581.maxPebblesAt maxG Ks581.levels levels
  rw [lev581]
theorem foldl_max_ge : ∀ (l : List Nat) (a : Nat), a ≤ l.foldl max a ∧ (∀ x ∈ l, x ≤ l.foldl max a) ∧ (l.foldl max a = a ∨ l.foldl max a ∈ l)
  | [], a => ⟨Nat.le_refl _, fun _ h => (nomatch h), .inl rfl⟩
  | b :: r, a => by
    obtain ⟨h1, h2, h3⟩ := foldl_max_ge r (max a b)
    rw [List.foldl_cons]
    refine ⟨Nat.le_trans (Nat.le_max_left a b) h1, fun x hx => ?_, ?_⟩
    · rcases List.mem_cons.mp hx with rfl | hx
      · exact Nat.le_trans (Nat.le_max_right a x) h1
      · exact h2 x hx
    · rcases h3 with h3 | h3
      · rw [h3]
        by_cases h : a ≤ b
        · rw [Nat.max_eq_right h]; exact .inr List.mem_cons_self
        · rw [Nat.max_eq_left (by omega)]; exact .inl rfl
      · exact .inr (List.mem_cons_of_mem _ h3)
theorem foldl_max_eq {l : List Nat} {m : Nat} (h1 : m ∈ l) (h2 : ∀ x ∈ l, x ≤ m) : l.foldl max 0 = m := by
  obtain ⟨_, b, c⟩ := foldl_max_ge l 0
  have := b m h1
  rcases c with c | c
  · omega
  · have := h2 _ c
    omega
theorem maxG_eq {succ : Cfg → List Cfg} (hd : Dec succ) {c : Cfg} {t m : Nat} (h1 : ∃ d, Rch succ c d ∧ pebblesAt d t = m) (h2 : ∀ d, Rch succ c d → pebblesAt d t ≤ m) : maxG succ c t = m := by
  unfold maxG
  obtain ⟨d, ⟨k, hk⟩, e⟩ := h1
  refine foldl_max_eq ?_ fun x hx => ?_
  · obtain ⟨L, hL, hdL⟩ := (levels_get hd).mpr hk
    rw [List.mem_flatMap]
    exact ⟨L, List.mem_of_getElem? hL, List.mem_map.mpr ⟨d, hdL, e⟩⟩
  · rw [List.mem_flatMap] at hx
    obtain ⟨L, hL, hx⟩ := hx
    obtain ⟨d', hd', rfl⟩ := List.mem_map.mp hx
    obtain ⟨j, hj⟩ := List.mem_iff_getElem?.mp hL
    exact h2 d' ⟨j, (levels_get hd).mp ⟨L, hj, hd'⟩⟩
/-- covering -/
theorem cover_iff {g : Ks577.Graph} (hd : Dec (Ks577.successors g)) {c : Cfg} : Ks579.canCover g c = true ↔ ∃ d, Rch (Ks577.successors g) c d ∧ ∀ x ∈ d, 1 ≤ x := by
  have e : Ks577.levels g c = levels (Ks577.successors g) c := by
    unfold Ks577.levels levels
    rw [lev577]
  unfold Ks579.canCover
  rw [e, List.any_eq_true]
  constructor
  · rintro ⟨L, hL, h⟩
    rw [List.any_eq_true] at h
    obtain ⟨d, hdL, hp⟩ := h
    rw [List.all_eq_true] at hp
    obtain ⟨k, hk⟩ := List.mem_iff_getElem?.mp hL
    exact ⟨d, ⟨k, (levels_get hd).mp ⟨L, hk, hdL⟩⟩, fun x hx => of_decide_eq_true (hp x hx)⟩
  · rintro ⟨d, ⟨k, hk⟩, hp⟩
    obtain ⟨L, hL, hdL⟩ := (levels_get hd).mpr hk
    refine ⟨L, List.mem_of_getElem? hL, ?_⟩
    rw [List.any_eq_true]
    exact ⟨d, hdL, by rw [List.all_eq_true]; exact fun x hx => decide_eq_true (hp x hx)⟩
end PB

namespace PB
open Ks577 (pebblesAt isAdjacent Graph)
/-- a well-formed graph -/
structure WG (g : Graph) : Prop where
  pos : 1 ≤ g.vertexCount
  few : g.vertexCount ≤ 5
  lt : ∀ e ∈ g.edges, e.1 < e.2 ∧ e.2 < g.vertexCount
  srt : g.edges.Pairwise fun a b => a.1 < b.1 ∨ (a.1 = b.1 ∧ a.2 < b.2)
theorem adj_iff {g : Graph} {u v : Nat} : isAdjacent g u v = true ↔ (u, v) ∈ g.edges ∨ (v, u) ∈ g.edges := by
  unfold isAdjacent
  rw [List.any_eq_true]
  constructor
  · rintro ⟨e, he, h⟩
    simp only [Bool.or_eq_true, Bool.and_eq_true, beq_iff_eq] at h
    rcases h with ⟨rfl, rfl⟩ | ⟨rfl, rfl⟩
    · exact .inl he
    · exact .inr he
  · rintro (h | h)
    · exact ⟨_, h, by simp⟩
    · exact ⟨_, h, by simp⟩
theorem adj_symm (g : Graph) (u v : Nat) : isAdjacent g u v = isAdjacent g v u := by
  have h : isAdjacent g u v = true ↔ isAdjacent g v u = true := by rw [adj_iff, adj_iff, or_comm]
  cases e : isAdjacent g u v with
  | true => exact (h.mp e).symm
  | false =>
    cases e2 : isAdjacent g v u with
    | true => rw [h.mpr e2] at e; cases e
    | false => rfl
theorem adj_lt {g : Graph} (W : WG g) {u v : Nat} (h : isAdjacent g u v = true) : u < g.vertexCount ∧ v < g.vertexCount ∧ u ≠ v := by
  rcases adj_iff.mp h with h | h
  · have := W.lt _ h
    simp only at this
    omega
  · have := W.lt _ h
    simp only at this
    omega
def nbrs (g : Graph) (v : Nat) : List Nat := (List.range g.vertexCount).filter fun u => isAdjacent g v u
theorem mem_nbrs {g : Graph} (W : WG g) {u v : Nat} : u ∈ nbrs g v ↔ isAdjacent g v u = true := by
  unfold nbrs
  rw [List.mem_filter, List.mem_range]
  exact ⟨fun h => h.2, fun h => ⟨(adj_lt W h).2.1, h⟩⟩
theorem nbrs_sorted (g : Graph) (v : Nat) : (nbrs g v).Pairwise (· < ·) := List.pairwise_lt_range.filter _
theorem nbrs_length (g : Graph) (v : Nat) : (nbrs g v).length ≤ g.vertexCount := by
  have := List.length_filter_le (fun u => isAdjacent g v u) (List.range g.vertexCount)
  rw [List.length_range] at this
  exact this
def rowsG (g : Graph) : List (List Nat) := (List.range g.vertexCount).map (nbrs g)
theorem rowsG_length (g : Graph) : (rowsG g).length = g.vertexCount := by unfold rowsG; rw [List.length_map, List.length_range]
theorem rowsG_get {g : Graph} {v : Nat} (h : v < g.vertexCount) : (rowsG g)[v]? = some (nbrs g v) := by
  unfold rowsG
  rw [List.getElem?_map, List.getElem?_range h]
  rfl
/-! ### configurations -/
theorem sum_set : ∀ {l : List Nat} {j : Nat} (y : Nat), j < l.length → (l.set j y).sum + l.getD j 0 = l.sum + y
  | [], j, y, h => by simp at h
  | a :: r, 0, y, h => by simp; omega
  | a :: r, j + 1, y, h => by
    have ih := sum_set (l := r) (j := j) y (by simpa using h)
    simp only [List.set_cons_succ, List.sum_cons, List.getD_cons_succ]
    omega
theorem getD_le_sum : ∀ (l : List Nat) (j : Nat), l.getD j 0 ≤ l.sum
  | [], j => by simp
  | a :: r, 0 => by simp
  | a :: r, j + 1 => by
    have := getD_le_sum r j
    simp only [List.getD_cons_succ, List.sum_cons]
    omega
theorem getD_set_ne {l : List Nat} {i j : Nat} (y : Nat) (h : i ≠ j) : (l.set i y).getD j 0 = l.getD j 0 := by
  simp [List.getD_eq_getElem?_getD, List.getElem?_set_ne h]
theorem getD_set_self {l : List Nat} {i : Nat} (y : Nat) (h : i < l.length) : (l.set i y).getD i 0 = y := by
  simp [List.getD_eq_getElem?_getD, h]
/-- the pebbles can be taken -/
def canTk (c : Cfg) (f s : Nat) : Bool := if f = s then decide (2 ≤ pebblesAt c f) else decide (1 ≤ pebblesAt c f) && decide (1 ≤ pebblesAt c s)
theorem canMove581 (g : Graph) (c : Cfg) (f s t : Nat) : Ks581.canMove g c f s t = (isAdjacent g f t && isAdjacent g s t && canTk c f s) := by
  unfold Ks581.canMove canTk
  by_cases h : f = s
  · simp [h]
  · simp [h]
theorem move_length (c : Cfg) (f s t : Nat) : (Ks581.move c f s t).length = c.length := by
  unfold Ks581.move Ks581.removeOne
  simp
theorem removeOne2_sum {c : Cfg} {f s : Nat} (hf : f < c.length) (hs : s < c.length) (h : canTk c f s = true) : (Ks581.removeOne (Ks581.removeOne c f) s).sum + 2 = c.sum := by
  unfold Ks581.removeOne
  have a1 := sum_set (l := c) (pebblesAt c f - 1) hf
  have a2 := sum_set (l := c.set f (pebblesAt c f - 1)) (pebblesAt (c.set f (pebblesAt c f - 1)) s - 1) (by simpa using hs)
  unfold canTk at h
  unfold pebblesAt at *
  by_cases e : f = s
  · subst e
    rw [if_pos rfl] at h
    have h := of_decide_eq_true h
    rw [getD_set_self _ hf] at a2 ⊢
    omega
  · rw [if_neg e, Bool.and_eq_true] at h
    have h1 := of_decide_eq_true h.1
    have h2 := of_decide_eq_true h.2
    rw [getD_set_ne _ e] at a2 ⊢
    omega
theorem move_sum {c : Cfg} {f s t : Nat} (hf : f < c.length) (hs : s < c.length) (ht : t < c.length) (h : canTk c f s = true) : (Ks581.move c f s t).sum + 1 = c.sum := by
  have h1 := removeOne2_sum hf hs h
  have h2 := sum_set (l := Ks581.removeOne (Ks581.removeOne c f) s) (pebblesAt (Ks581.removeOne (Ks581.removeOne c f) s) t + 1) (by unfold Ks581.removeOne; simpa using ht)
  show ((Ks581.removeOne (Ks581.removeOne c f) s).set t (pebblesAt (Ks581.removeOne (Ks581.removeOne c f) s) t + 1)).sum + 1 = c.sum
  unfold pebblesAt at *
  omega
theorem move577 {c : Cfg} {s t : Nat} (hs : s < c.length) : Ks577.move c s t = Ks581.move c s s t := by
  unfold Ks577.move Ks581.move Ks581.removeOne
  unfold pebblesAt
  rw [getD_set_self _ hs, List.set_set]
  rfl
theorem canMove577 (g : Graph) (c : Cfg) (s t : Nat) : Ks577.canMove g c s t = (isAdjacent g s t && canTk c s s) := by
  unfold Ks577.canMove canTk
  rw [if_pos rfl]
theorem possible_eq (g : Graph) (c : Cfg) : Ks577.possibleMoves g c = (List.range g.vertexCount).flatMap fun u => if 2 ≤ pebblesAt c u then (nbrs g u).map fun v => (u, v) else [] := by
  unfold Ks577.possibleMoves
  congr 1
  funext u
  unfold Ks577.canMove nbrs
  by_cases h : 2 ≤ pebblesAt c u
  · simp [h]
  · simp [h]
theorem mem_possible {g : Graph} (W : WG g) {c : Cfg} {m : Nat × Nat} : m ∈ Ks577.possibleMoves g c ↔ isAdjacent g m.1 m.2 = true ∧ 2 ≤ pebblesAt c m.1 := by
  rw [possible_eq, List.mem_flatMap]
  constructor
  · rintro ⟨u, hu, hm⟩
    by_cases h : 2 ≤ pebblesAt c u
    · rw [if_pos h, List.mem_map] at hm
      obtain ⟨v, hv, rfl⟩ := hm
      exact ⟨(mem_nbrs W).mp hv, h⟩
    · rw [if_neg h] at hm
      cases hm
  · rintro ⟨h1, h2⟩
    refine ⟨m.1, List.mem_range.mpr (adj_lt W h1).1, ?_⟩
    rw [if_pos h2, List.mem_map]
    exact ⟨m.2, (mem_nbrs W).mpr h1, rfl⟩
/-- what lies behind one move of a kind -/
def sucB (g : Graph) (rub : Bool) : Cfg → List Cfg := if rub then Ks581.successors g else Ks577.successors g
theorem mem_suc577 {g : Graph} (W : WG g) {c d : Cfg} (hl : c.length = g.vertexCount) : d ∈ Ks577.successors g c ↔ ∃ s t, isAdjacent g s t = true ∧ canTk c s s = true ∧ d = Ks581.move c s s t := by
  unfold Ks577.successors
  rw [List.mem_map]
  constructor
  · rintro ⟨m, hm, rfl⟩
    obtain ⟨h1, h2⟩ := (mem_possible W).mp hm
    exact ⟨m.1, m.2, h1, by unfold canTk; rw [if_pos rfl]; exact decide_eq_true h2, move577 (by rw [hl]; exact (adj_lt W h1).1)⟩
  · rintro ⟨s, t, h1, h2, rfl⟩
    refine ⟨(s, t), (mem_possible W).mpr ⟨h1, ?_⟩, move577 (by rw [hl]; exact (adj_lt W h1).1)⟩
    unfold canTk at h2
    rw [if_pos rfl] at h2
    exact of_decide_eq_true h2
theorem mem_suc581 {g : Graph} (W : WG g) {c d : Cfg} : d ∈ Ks581.successors g c ↔ ∃ f s t, f ≤ s ∧ isAdjacent g f t = true ∧ isAdjacent g s t = true ∧ canTk c f s = true ∧ d = Ks581.move c f s t := by
  unfold Ks581.successors Ks581.possibleMoves
  simp only [List.mem_map, List.mem_flatMap, List.mem_filter, List.mem_range, Bool.and_eq_true, decide_eq_true_eq, canMove581]
  constructor
  · rintro ⟨m, ⟨u, hu, v, hv, t, ⟨ht, h1, ⟨h2, h3⟩, h4⟩, rfl⟩, rfl⟩
    exact ⟨u, v, t, h1, h2, h3, h4, rfl⟩
  · rintro ⟨f, s, t, h0, h1, h2, h3, rfl⟩
    exact ⟨(f, s, t), ⟨f, (adj_lt W h1).1, s, (adj_lt W h2).1, t, ⟨(adj_lt W h1).2.1, h0, ⟨h1, h2⟩, h3⟩, rfl⟩, rfl⟩
theorem canTk_symm (c : Cfg) (f s : Nat) : canTk c f s = canTk c s f := by
  unfold canTk
  by_cases h : f = s
  · rw [h]
  · rw [if_neg h, if_neg (Ne.symm h), Bool.and_comm]
/-- a move of either kind: one form -/
theorem suc_form {g : Graph} (W : WG g) {rub : Bool} {c d : Cfg} (hl : c.length = g.vertexCount) (h : d ∈ sucB g rub c) : ∃ f s t, f < c.length ∧ s < c.length ∧ t < c.length ∧ canTk c f s = true ∧ d = Ks581.move c f s t := by
  cases rub with
  | true =>
    obtain ⟨f, s, t, _, h1, h2, h3, h4⟩ := (mem_suc581 W).mp h
    have a := adj_lt W h1
    have b := adj_lt W h2
    exact ⟨f, s, t, by omega, by omega, by omega, h3, h4⟩
  | false =>
    obtain ⟨s, t, h1, h3, h4⟩ := (mem_suc577 W hl).mp h
    have a := adj_lt W h1
    exact ⟨s, s, t, by omega, by omega, by omega, h3, h4⟩
theorem suc_length {g : Graph} (W : WG g) {rub : Bool} {c d : Cfg} (hl : c.length = g.vertexCount) (h : d ∈ sucB g rub c) : d.length = g.vertexCount := by
  obtain ⟨f, s, t, _, _, _, _, rfl⟩ := suc_form W hl h
  rw [move_length, hl]
theorem suc_sum {g : Graph} (W : WG g) {rub : Bool} {c d : Cfg} (hl : c.length = g.vertexCount) (h : d ∈ sucB g rub c) : d.sum + 1 = c.sum := by
  obtain ⟨f, s, t, hf, hs, ht, h3, rfl⟩ := suc_form W hl h
  exact move_sum hf hs ht h3
/-- the moves, told of configurations of the right length alone -/
def sucL (g : Graph) (rub : Bool) (c : Cfg) : List Cfg := if c.length = g.vertexCount then sucB g rub c else []
theorem sucL_eq {g : Graph} {rub : Bool} {c : Cfg} (hl : c.length = g.vertexCount) : sucL g rub c = sucB g rub c := if_pos hl
theorem sucL_dec {g : Graph} (W : WG g) (rub : Bool) : Dec (sucL g rub) := fun c d h => by
  unfold sucL at h
  by_cases hl : c.length = g.vertexCount
  · rw [if_pos hl] at h
    exact suc_sum W hl h
  · rw [if_neg hl] at h
    cases h
theorem RN_len {g : Graph} (W : WG g) {rub : Bool} : ∀ {k : Nat} {c d : Cfg}, c.length = g.vertexCount → RN (sucB g rub) c k d → d.length = g.vertexCount
  | 0, c, d, hl, h => by
    have h : d = c := h
    rw [h]; exact hl
  | k + 1, c, d, hl, h => by
    obtain ⟨e, he, hd⟩ := h
    exact suc_length W (RN_len W hl he) hd
theorem Rch_len {g : Graph} (W : WG g) {rub : Bool} {c d : Cfg} (hl : c.length = g.vertexCount) (h : Rch (sucB g rub) c d) : d.length = g.vertexCount := let ⟨_, h⟩ := h; RN_len W hl h
theorem RN_L {g : Graph} (W : WG g) {rub : Bool} : ∀ {k : Nat} {c d : Cfg}, c.length = g.vertexCount → (RN (sucL g rub) c k d ↔ RN (sucB g rub) c k d)
  | 0, _, _, _ => Iff.rfl
  | k + 1, c, d, hl => by
    constructor
    · rintro ⟨e, he, hd⟩
      have he := (RN_L W hl).mp he
      exact ⟨e, he, by rw [sucL_eq (RN_len W hl he)] at hd; exact hd⟩
    · rintro ⟨e, he, hd⟩
      exact ⟨e, (RN_L W hl).mpr he, by rw [sucL_eq (RN_len W hl he)]; exact hd⟩
theorem levG_L {g : Graph} (W : WG g) {rub : Bool} : ∀ (fuel : Nat) (l : List Cfg), (∀ c ∈ l, c.length = g.vertexCount) → levG (sucL g rub) l fuel = levG (sucB g rub) l fuel
  | 0, _, _ => rfl
  | fuel + 1, l, h => by
    have e : l.flatMap (sucL g rub) = l.flatMap (sucB g rub) := by
      have : ∀ (l : List Cfg), (∀ c ∈ l, c.length = g.vertexCount) → l.flatMap (sucL g rub) = l.flatMap (sucB g rub) := by
        intro l
        induction l with
        | nil => intro _; rfl
        | cons a r ih =>
          intro h
          rw [List.flatMap_cons, List.flatMap_cons, sucL_eq (h a List.mem_cons_self), ih fun c hc => h c (List.mem_cons_of_mem _ hc)]
      exact this l h
    unfold levG
    rw [e, levG_L W fuel]
    intro c hc
    rw [List.mem_eraseDups, List.mem_flatMap] at hc
    obtain ⟨d, hd, hcd⟩ := hc
    exact suc_length W (h d hd) hcd
theorem levels_L {g : Graph} (W : WG g) {rub : Bool} {c : Cfg} (hl : c.length = g.vertexCount) : levels (sucL g rub) c = levels (sucB g rub) c := levG_L W _ _ fun d hd => by rw [List.mem_singleton.mp hd]; exact hl
theorem min_L {g : Graph} (W : WG g) {rub : Bool} {c : Cfg} (hl : c.length = g.vertexCount) (t cnt : Nat) : minG (sucL g rub) c t cnt = minG (sucB g rub) c t cnt := by
  unfold minG
  rw [levels_L W hl]
theorem max_L {g : Graph} (W : WG g) {rub : Bool} {c : Cfg} (hl : c.length = g.vertexCount) (t : Nat) : maxG (sucL g rub) c t = maxG (sucB g rub) c t := by
  unfold maxG
  rw [levels_L W hl]
theorem Rch_L {g : Graph} (W : WG g) {rub : Bool} {c d : Cfg} (hl : c.length = g.vertexCount) : Rch (sucL g rub) c d ↔ Rch (sucB g rub) c d := by
  constructor
  · rintro ⟨k, h⟩; exact ⟨k, (RN_L W hl).mp h⟩
  · rintro ⟨k, h⟩; exact ⟨k, (RN_L W hl).mpr h⟩
end PB

namespace PB
open Ks577 (pebblesAt isAdjacent Graph)
section
variable {g : Graph} {rub : Bool} {c d : Cfg} {t cnt k : Nat}
theorem minB_some (W : WG g) (hl : c.length = g.vertexCount) :
    minG (sucB g rub) c t cnt = some k ↔ (∃ d, Rch (sucB g rub) c d ∧ cnt ≤ pebblesAt d t ∧ d.sum + k = c.sum) ∧ ∀ d, Rch (sucB g rub) c d → cnt ≤ pebblesAt d t → d.sum + k ≤ c.sum := by
  rw [← min_L W hl, minG_some (sucL_dec W rub)]
  simp only [Rch_L W hl]
theorem minB_none (W : WG g) (hl : c.length = g.vertexCount) : minG (sucB g rub) c t cnt = none ↔ ∀ d, Rch (sucB g rub) c d → ¬ cnt ≤ pebblesAt d t := by
  rw [← min_L W hl, minG_none (sucL_dec W rub)]
  simp only [Rch_L W hl]
theorem minB_isSome (W : WG g) (hl : c.length = g.vertexCount) : (minG (sucB g rub) c t cnt).isSome = true ↔ ∃ d, Rch (sucB g rub) c d ∧ cnt ≤ pebblesAt d t := by
  rw [← min_L W hl, minG_isSome (sucL_dec W rub)]
  simp only [Rch_L W hl]
theorem maxB_eq (W : WG g) (hl : c.length = g.vertexCount) {m : Nat} (h1 : ∃ d, Rch (sucB g rub) c d ∧ pebblesAt d t = m) (h2 : ∀ d, Rch (sucB g rub) c d → pebblesAt d t ≤ m) : maxG (sucB g rub) c t = m := by
  rw [← max_L W hl]
  refine maxG_eq (sucL_dec W rub) ?_ fun d h => h2 d ((Rch_L W hl).mp h)
  obtain ⟨d, h, e⟩ := h1
  exact ⟨d, (Rch_L W hl).mpr h, e⟩
theorem Rch_sum (W : WG g) (hl : c.length = g.vertexCount) (h : Rch (sucB g rub) c d) : d.sum ≤ c.sum := ((Rch_L W hl).mpr h).sum_le (sucL_dec W rub)
theorem canCover_iff (W : WG g) (hl : c.length = g.vertexCount) : Ks579.canCover g c = true ↔ ∃ d, Rch (sucB g false) c d ∧ ∀ x ∈ d, 1 ≤ x := by
  have e : Ks577.levels g c = levels (sucL g false) c := by
    rw [levels_L W hl]
    show Ks577.levelsFrom g [c] (c.sum + 1) = levG (Ks577.successors g) [c] (c.sum + 1)
    rw [lev577]
  unfold Ks579.canCover
  rw [e, List.any_eq_true]
  constructor
  · rintro ⟨L, hL, h⟩
    rw [List.any_eq_true] at h
    obtain ⟨d, hdL, hp⟩ := h
    rw [List.all_eq_true] at hp
    obtain ⟨k, hk⟩ := List.mem_iff_getElem?.mp hL
    exact ⟨d, (Rch_L W hl).mp ⟨k, (levels_get (sucL_dec W false)).mp ⟨L, hk, hdL⟩⟩, fun x hx => of_decide_eq_true (hp x hx)⟩
  · rintro ⟨d, h, hp⟩
    obtain ⟨k, hk⟩ := (Rch_L W hl).mpr h
    obtain ⟨L, hL, hdL⟩ := (levels_get (sucL_dec W false)).mpr hk
    refine ⟨L, List.mem_of_getElem? hL, ?_⟩
    rw [List.any_eq_true]
    exact ⟨d, hdL, by rw [List.all_eq_true]; exact fun x hx => decide_eq_true (hp x hx)⟩
end
/-- the least number of moves, as the program tells it -/
def optI : Option Nat → Int
  | none => -1
  | some k => k
/-- the steps that are known: the configurations that are reached, each once -/
structure StepsOk (g : Graph) (rub : Bool) (c : Cfg) (L : List Cfg) : Prop where
  nd : L.Nodup
  mem : ∀ d, d ∈ L ↔ Rch (sucB g rub) c d
/-- the program's way: the least of the values -/
theorem least_of {g : Graph} (W : WG g) {rub : Bool} {c : Cfg} {L : List Cfg} (hl : c.length = g.vertexCount) (S : StepsOk g rub c L) {t cnt : Nat} :
    ((L.filter fun d => decide (cnt ≤ pebblesAt d t)) = [] → optI (minG (sucB g rub) c t cnt) = -1) ∧
    ∀ m : Int, m ∈ (L.filter fun d => decide (cnt ≤ pebblesAt d t)).map (fun d => ((c.sum : Int) - (d.sum : Int))) → (∀ y ∈ (L.filter fun d => decide (cnt ≤ pebblesAt d t)).map (fun d => ((c.sum : Int) - (d.sum : Int))), m ≤ y) → optI (minG (sucB g rub) c t cnt) = m := by
  constructor
  · intro h
    have e : minG (sucB g rub) c t cnt = none := (minB_none W hl).mpr fun d hd hp => by
      have : d ∈ L.filter fun d => decide (cnt ≤ pebblesAt d t) := List.mem_filter.mpr ⟨(S.mem d).mpr hd, decide_eq_true hp⟩
      rw [h] at this
      cases this
    rw [e]
    rfl
  · intro m hm hmin
    obtain ⟨d, hd, rfl⟩ := List.mem_map.mp hm
    obtain ⟨hdL, hp⟩ := List.mem_filter.mp hd
    have hr := (S.mem d).mp hdL
    have hs := Rch_sum W hl hr
    have e : minG (sucB g rub) c t cnt = some (c.sum - d.sum) := (minB_some W hl).mpr ⟨⟨d, hr, of_decide_eq_true hp, by omega⟩, fun e he hpe => by
      have h1 := hmin _ (List.mem_map.mpr ⟨e, List.mem_filter.mpr ⟨(S.mem e).mpr he, decide_eq_true hpe⟩, rfl⟩)
      have h2 := Rch_sum W hl he
      omega⟩
    rw [e]
    show ((c.sum - d.sum : Nat) : Int) = _
    omega
/-! ### the first sequence -/
theorem min_step {g : Graph} (W : WG g) {c : Cfg} (hl : c.length = g.vertexCount) {t cnt k : Nat} (h : minG (sucB g false) c t cnt = some (k + 1)) : ∃ m ∈ Ks577.possibleMoves g c, minG (sucB g false) (Ks577.move c m.1 m.2) t cnt = some k := by
  obtain ⟨⟨d, hd, hp, hs⟩, hmin⟩ := (minB_some W hl).mp h
  rcases hd.cases with rfl | ⟨e, he, hde⟩
  · omega
  · have he' : e ∈ Ks577.successors g c := he
    unfold Ks577.successors at he'
    obtain ⟨m, hm, rfl⟩ := List.mem_map.mp he'
    have hle := suc_length W hl he
    have hse := suc_sum W hl he
    refine ⟨m, hm, (minB_some W hle).mpr ⟨⟨d, hde, hp, by omega⟩, fun f hf hpf => ?_⟩⟩
    have := hmin f (hf.cons he) hpf
    omega
theorem min_zero {g : Graph} (W : WG g) {rub : Bool} {c : Cfg} (hl : c.length = g.vertexCount) (t : Nat) : minG (sucB g rub) c t 0 = some 0 :=
  (minB_some W hl).mpr ⟨⟨c, Rch.refl, Nat.zero_le _, by omega⟩, fun d hd _ => by have := Rch_sum W hl hd; omega⟩
theorem seq_some {g : Graph} (W : WG g) {t cnt : Nat} : ∀ (k : Nat) {c : Cfg}, c.length = g.vertexCount → minG (sucB g false) c t cnt = some k → ∃ s, Ks577.shortestSequence g t cnt k c = some s ∧ s.length = k
  | 0, c, _, _ => ⟨[], rfl, rfl⟩
  | k + 1, c, hl, h => by
    obtain ⟨m, hm, he⟩ := min_step W hl h
    unfold Ks577.shortestSequence
    have hf : ((Ks577.possibleMoves g c).find? fun m => Ks577.minMoves g (Ks577.move c m.1 m.2) t cnt == some k).isSome = true := by
      rw [List.find?_isSome]
      exact ⟨m, hm, by rw [min577]; exact beq_iff_eq.mpr he⟩
    obtain ⟨m', hm'⟩ := Option.isSome_iff_exists.mp hf
    rw [hm']
    have h1 := List.mem_of_find?_eq_some hm'
    have h2 := List.find?_some hm'
    rw [min577, beq_iff_eq] at h2
    have hl' : (Ks577.move c m'.1 m'.2).length = g.vertexCount := suc_length W (rub := false) hl (List.mem_map.mpr ⟨m', h1, rfl⟩)
    obtain ⟨s, hs, hlen⟩ := seq_some W k hl' h2
    refine ⟨m' :: s, ?_, by rw [List.length_cons, hlen]⟩
    show (Ks577.shortestSequence g t cnt k (Ks577.move c m'.1 m'.2)).map _ = _
    rw [hs]
    rfl
/-! ### which configurations let a target be reached -/
def solvK (g : Graph) (rub : Bool) (t : Nat) : Nat → Cfg → Bool
  | 0, c => decide (0 < pebblesAt c t)
  | k + 1, c => decide (0 < pebblesAt c t) || (sucB g rub c).any (solvK g rub t k)
def solv (g : Graph) (rub : Bool) (t : Nat) (c : Cfg) : Bool := solvK g rub t c.sum c
theorem solvK_iff {g : Graph} (W : WG g) {rub : Bool} {t : Nat} : ∀ (k : Nat) {c : Cfg}, c.length = g.vertexCount → c.sum ≤ k → (solvK g rub t k c = true ↔ ∃ d, Rch (sucB g rub) c d ∧ 1 ≤ pebblesAt d t)
  | 0, c, hl, hs => by
    unfold solvK
    rw [decide_eq_true_eq]
    constructor
    · intro h; exact ⟨c, Rch.refl, h⟩
    · rintro ⟨d, hd, hp⟩
      have h1 := Rch_sum W hl hd
      have h2 := getD_le_sum d t
      unfold pebblesAt at hp
      omega
  | k + 1, c, hl, hs => by
    unfold solvK
    rw [Bool.or_eq_true, decide_eq_true_eq, List.any_eq_true]
    constructor
    · rintro (h | ⟨d, hd, h⟩)
      · exact ⟨c, Rch.refl, h⟩
      · have h1 := suc_sum W hl hd
        obtain ⟨e, he, hp⟩ := (solvK_iff W k (suc_length W hl hd) (by omega)).mp h
        exact ⟨e, he.cons hd, hp⟩
    · rintro ⟨e, he, hp⟩
      rcases he.cases with rfl | ⟨d, hd, hde⟩
      · exact .inl hp
      · have h1 := suc_sum W hl hd
        exact .inr ⟨d, hd, (solvK_iff W k (suc_length W hl hd) (by omega)).mpr ⟨e, hde, hp⟩⟩
theorem solv_iff {g : Graph} (W : WG g) {rub : Bool} {t : Nat} {c : Cfg} (hl : c.length = g.vertexCount) : solv g rub t c = true ↔ ∃ d, Rch (sucB g rub) c d ∧ 1 ≤ pebblesAt d t := solvK_iff W _ hl (Nat.le_refl _)
/-- the program's own recursion -/
theorem solv_eq {g : Graph} (W : WG g) {rub : Bool} {t : Nat} {c : Cfg} (hl : c.length = g.vertexCount) : solv g rub t c = (decide (0 < pebblesAt c t) || (sucB g rub c).any (solv g rub t)) := by
  have h : solv g rub t c = true ↔ (decide (0 < pebblesAt c t) || (sucB g rub c).any (solv g rub t)) = true := by
    rw [solv_iff W hl, Bool.or_eq_true, decide_eq_true_eq, List.any_eq_true]
    constructor
    · rintro ⟨e, he, hp⟩
      rcases he.cases with rfl | ⟨d, hd, hde⟩
      · exact .inl hp
      · exact .inr ⟨d, hd, (solv_iff W (suc_length W hl hd)).mpr ⟨e, hde, hp⟩⟩
    · rintro (h | ⟨d, hd, h⟩)
      · exact ⟨c, Rch.refl, h⟩
      · obtain ⟨e, he, hp⟩ := (solv_iff W (suc_length W hl hd)).mp h
        exact ⟨e, he.cons hd, hp⟩
  cases e : solv g rub t c with
  | true => exact (h.mp e).symm
  | false =>
    cases e2 : (decide (0 < pebblesAt c t) || (sucB g rub c).any (solv g rub t)) with
    | true => rw [h.mpr e2] at e; cases e
    | false => rfl
theorem canReach_eq {g : Graph} (W : WG g) {t : Nat} {c : Cfg} (hl : c.length = g.vertexCount) : Ks577.canReach g c t 1 = solv g false t c := by
  have h : Ks577.canReach g c t 1 = true ↔ solv g false t c = true := by
    unfold Ks577.canReach
    rw [min577]
    show (minG (sucB g false) c t 1).isSome = true ↔ _
    rw [minB_isSome W hl, solv_iff W hl]
  cases e : Ks577.canReach g c t 1 with
  | true => exact (h.mp e).symm
  | false =>
    cases e2 : solv g false t c with
    | true => rw [h.mpr e2] at e; cases e
    | false => rfl
/-! ### all configurations -/
theorem conf_mem : ∀ {n p : Nat} {c : Cfg}, c ∈ Ks578.configurations n p ↔ c.length = n ∧ c.sum = p
  | 0, p, c => by
    unfold Ks578.configurations
    by_cases h : p = 0
    · rw [if_pos h]
      cases c with
      | nil => simp [h]
      | cons a r => simp
    · rw [if_neg h]
      cases c with
      | nil => simp; omega
      | cons a r => simp
  | n + 1, p, c => by
    unfold Ks578.configurations
    rw [List.mem_flatMap]
    constructor
    · rintro ⟨f, hf, hc⟩
      obtain ⟨r, hr, rfl⟩ := List.mem_map.mp hc
      obtain ⟨h1, h2⟩ := conf_mem.mp hr
      have := List.mem_range.mp hf
      rw [List.length_cons, List.sum_cons]
      omega
    · rintro ⟨h1, h2⟩
      cases c with
      | nil => cases h1
      | cons a r =>
        rw [List.length_cons] at h1
        rw [List.sum_cons] at h2
        exact ⟨a, List.mem_range.mpr (by omega), List.mem_map.mpr ⟨r, conf_mem.mpr ⟨by omega, by omega⟩, rfl⟩⟩
/-- the rows' beginnings -/
def preC (total : Nat) : Nat → List Cfg
  | 0 => [[]]
  | i + 1 => (preC total i).flatMap fun row => (List.range (total - row.sum + 1)).map fun one => row ++ [one]
theorem preC_mem {total : Nat} : ∀ {i : Nat} {r : Cfg}, r ∈ preC total i → r.length = i ∧ r.sum ≤ total
  | 0, r, h => by
    unfold preC at h
    rw [List.mem_singleton.mp h]
    simp
  | i + 1, r, h => by
    unfold preC at h
    rw [List.mem_flatMap] at h
    obtain ⟨s, hs, hr⟩ := h
    obtain ⟨one, ho, rfl⟩ := List.mem_map.mp hr
    obtain ⟨h1, h2⟩ := preC_mem hs
    have := List.mem_range.mp ho
    simp
    omega
theorem conf_pre (total m : Nat) : ∀ i : Nat, Ks578.configurations (i + m) total = (preC total i).flatMap fun row => (Ks578.configurations m (total - row.sum)).map fun rest => row ++ rest := by
  intro i
  induction i generalizing m with
  | zero =>
    rw [Nat.zero_add]
    show _ = [[]].flatMap _
    simp
  | succ i ih =>
    have e : i + 1 + m = i + (m + 1) := by omega
    rw [e, ih (m + 1)]
    show _ = ((preC total i).flatMap fun row => (List.range (total - row.sum + 1)).map fun one => row ++ [one]).flatMap _
    rw [List.flatMap_assoc]
    congr 1
    funext row
    rw [show Ks578.configurations (m + 1) (total - row.sum) = (List.range (total - row.sum + 1)).flatMap (fun first => (Ks578.configurations m (total - row.sum - first)).map fun rest => first :: rest) from rfl]
    rw [List.map_flatMap, List.flatMap_map]
    congr 1
    funext one
    rw [List.map_map]
    have e2 : total - (row ++ [one]).sum = total - row.sum - one := by
      rw [List.sum_append]
      simp
      omega
    rw [e2]
    congr 1
    funext rest
    simp
theorem conf_one (p : Nat) : Ks578.configurations 1 p = [[p]] := by
  have h : ∀ n : Nat, n ≤ p + 1 → (List.range n).flatMap (fun first => (Ks578.configurations 0 (p - first)).map fun rest => first :: rest) = if n = p + 1 then [[p]] else [] := by
    intro n
    induction n with
    | zero => intro _; rw [if_neg (by omega)]; rfl
    | succ k ih =>
      intro hk
      rw [List.range_succ, List.flatMap_append, ih (by omega), if_neg (by omega), List.nil_append]
      show (Ks578.configurations 0 (p - k)).map (fun rest => k :: rest) ++ [] = _
      rw [List.append_nil]
      unfold Ks578.configurations
      by_cases e : k = p
      · subst e
        rw [if_pos (by omega), if_pos rfl]
        rfl
      · rw [if_neg (by omega), if_neg (by omega)]
        rfl
  have := h (p + 1) (Nat.le_refl _)
  rw [if_pos rfl] at this
  exact this
theorem conf_last (total i : Nat) : Ks578.configurations (i + 1) total = (preC total i).map fun row => row ++ [total - row.sum] := by
  rw [conf_pre total 1 i]
  have : ∀ l : List Cfg, l.flatMap (fun row => (Ks578.configurations 1 (total - row.sum)).map fun rest => row ++ rest) = l.map fun row => row ++ [total - row.sum] := by
    intro l
    induction l with
    | nil => rfl
    | cons a r ih =>
      rw [List.flatMap_cons, ih, conf_one]
      rfl
  exact this _
/-! ### unsolvable configurations -/
theorem all_congr' {α : Type} {p q : α → Bool} : ∀ {l : List α}, (∀ d ∈ l, p d = q d) → l.all p = l.all q
  | [], _ => rfl
  | a :: r, h => by rw [List.all_cons, List.all_cons, h a List.mem_cons_self, all_congr' fun d hd => h d (List.mem_cons_of_mem _ hd)]
theorem zero_test (n : Nat) : (n == 0) = !decide (0 < n) := by cases n <;> rfl
theorem unsolv577 {g : Graph} (W : WG g) (t : Nat) : ∀ p : Nat, Ks578.unsolvable g t p = (Ks578.configurations g.vertexCount p).filter fun c => !solv g false t c
  | 0 => by
    unfold Ks578.unsolvable
    symm
    rw [List.filter_eq_self]
    intro c hc
    obtain ⟨hl, hs⟩ := conf_mem.mp hc
    have : ¬ solv g false t c = true := by
      unfold solv
      rw [hs]
      unfold solvK
      rw [decide_eq_true_eq]
      have := getD_le_sum c t
      unfold pebblesAt
      omega
    simpa using this
  | p + 1 => by
    unfold Ks578.unsolvable
    simp only
    refine List.filter_congr fun c hc => ?_
    obtain ⟨hl, hs⟩ := conf_mem.mp hc
    rw [solv_eq W hl, unsolv577 W t p, Bool.not_or]
    congr 1
    · exact zero_test _
    · show (sucB g false c).all _ = _
      rw [List.not_any_eq_all_not]
      refine all_congr' fun d hd => ?_
      have hdl := suc_length W hl hd
      have hds := suc_sum W hl hd
      have hdc : d ∈ Ks578.configurations g.vertexCount p := conf_mem.mpr ⟨hdl, by omega⟩
      cases e : solv g false t d with
      | true => simp [e]
      | false => simp [e, hdc]
theorem unsolv581 {g : Graph} (W : WG g) (t : Nat) : ∀ p : Nat, Ks581.unsolvable g t p = (Ks578.configurations g.vertexCount p).filter fun c => !solv g true t c
  | 0 => by
    unfold Ks581.unsolvable
    symm
    rw [List.filter_eq_self]
    intro c hc
    obtain ⟨hl, hs⟩ := conf_mem.mp hc
    have : ¬ solv g true t c = true := by
      unfold solv
      rw [hs]
      unfold solvK
      rw [decide_eq_true_eq]
      have := getD_le_sum c t
      unfold pebblesAt
      omega
    simpa using this
  | p + 1 => by
    unfold Ks581.unsolvable
    simp only
    refine List.filter_congr fun c hc => ?_
    obtain ⟨hl, hs⟩ := conf_mem.mp hc
    rw [solv_eq W hl, unsolv581 W t p, Bool.not_or]
    congr 1
    · exact zero_test _
    · show (sucB g true c).all _ = _
      rw [List.not_any_eq_all_not]
      refine all_congr' fun d hd => ?_
      have hdl := suc_length W hl hd
      have hds := suc_sum W hl hd
      have hdc : d ∈ Ks578.configurations g.vertexCount p := conf_mem.mpr ⟨hdl, by omega⟩
      cases e : solv g true t d with
      | true => simp [e]
      | false => simp [e, hdc]
/-- unsolvable, of a kind -/
def unsB (g : Graph) (rub : Bool) (t p : Nat) : List Cfg := (Ks578.configurations g.vertexCount p).filter fun c => !solv g rub t c
def numB (g : Graph) (rub : Bool) (t : Nat) : Option Nat := if rub then Ks581.rubblingNumber g t else Ks578.pebblingNumber g t
theorem numB_eq {g : Graph} (W : WG g) (rub : Bool) (t : Nat) : numB g rub t = (List.range 11).find? fun p => decide (1 ≤ p) && (unsB g rub t p).isEmpty := by
  cases rub with
  | true =>
    show Ks581.rubblingNumber g t = _
    unfold Ks581.rubblingNumber unsB
    congr 1
    funext p
    rw [unsolv581 W]
  | false =>
    show Ks578.pebblingNumber g t = _
    unfold Ks578.pebblingNumber unsB
    congr 1
    funext p
    rw [unsolv577 W]
theorem isSolvable_eq {g : Graph} (W : WG g) {c : Cfg} (hl : c.length = g.vertexCount) : Ks579.isSolvable g c = (List.range g.vertexCount).all fun v => solv g false v c := by
  unfold Ks579.isSolvable
  congr 1
  funext v
  exact canReach_eq W hl
end PB

namespace PB
open Ks577 (pebblesAt isAdjacent Graph)
/-- within k edges of u -/
def DW (g : Graph) (u : Nat) : Nat → Nat → Prop
  | 0, v => v = u
  | k + 1, v => DW g u k v ∨ ∃ x, DW g u k x ∧ isAdjacent g x v = true
theorem DW.mono {g : Graph} {u v : Nat} {k : Nat} (h : DW g u k v) : ∀ j, DW g u (k + j) v
  | 0 => h
  | j + 1 => .inl (DW.mono h j)
theorem DW.le {g : Graph} {u v : Nat} {k j : Nat} (h : DW g u k v) (hj : k ≤ j) : DW g u j v := by
  obtain ⟨i, rfl⟩ : ∃ i, j = k + i := ⟨j - k, by omega⟩
  exact h.mono i
theorem DW_left {g : Graph} {u v : Nat} : ∀ {k : Nat}, DW g u (k + 1) v ↔ DW g u k v ∨ ∃ x, isAdjacent g u x = true ∧ DW g x k v
  | 0 => by
    constructor
    · rintro (h | ⟨x, h, hx⟩)
      · exact .inl h
      · have h : x = u := h
        subst h
        exact .inr ⟨v, hx, rfl⟩
    · rintro (h | ⟨x, hx, h⟩)
      · exact .inl h
      · have h : v = x := h
        subst h
        exact .inr ⟨u, rfl, hx⟩
  | k + 1 => by
    constructor
    · rintro (h | ⟨y, h, hy⟩)
      · exact .inl h
      · rcases (DW_left (k := k)).mp h with h | ⟨x, hx, h⟩
        · exact .inl (.inr ⟨y, h, hy⟩)
        · exact .inr ⟨x, hx, .inr ⟨y, h, hy⟩⟩
    · rintro (h | ⟨x, hx, h⟩)
      · exact .inl h
      · rcases h with h | ⟨y, h, hy⟩
        · exact .inl ((DW_left (k := k)).mpr (.inr ⟨x, hx, h⟩))
        · exact .inr ⟨y, (DW_left (k := k)).mpr (.inr ⟨x, hx, h⟩), hy⟩
theorem DW_symm {g : Graph} {u v : Nat} : ∀ {k : Nat}, DW g u k v → DW g v k u
  | 0, h => by
    have h : v = u := h
    exact h.symm
  | k + 1, h => by
    rcases h with h | ⟨x, h, hx⟩
    · exact .inl (DW_symm h)
    · exact DW_left.mpr (.inr ⟨x, by rw [adj_symm]; exact hx, DW_symm h⟩)
theorem DW_trans {g : Graph} {u v x : Nat} {j : Nat} (h : DW g u j v) : ∀ {k : Nat}, DW g v k x → DW g u (j + k) x
  | 0, e => by
    have e : x = v := e
    subst e
    exact h
  | k + 1, e => by
    rcases e with e | ⟨y, e, hy⟩
    · exact .inl (DW_trans h e)
    · exact .inr ⟨y, DW_trans h e, hy⟩
theorem nbh_iff {g : Graph} (W : WG g) : ∀ (k : Nat) {S : List Nat} {v : Nat}, (∀ u ∈ S, u < g.vertexCount) → (v ∈ Ks577.neighbourhood g k S ↔ ∃ u ∈ S, DW g u k v)
  | 0, S, v, _ => by
    unfold Ks577.neighbourhood
    constructor
    · intro h; exact ⟨v, h, rfl⟩
    · rintro ⟨u, hu, h⟩
      have h : v = u := h
      rw [h]; exact hu
  | k + 1, S, v, hS => by
    unfold Ks577.neighbourhood
    rw [nbh_iff W k (fun u hu => List.mem_range.mp (List.mem_filter.mp hu).1)]
    constructor
    · rintro ⟨x, hx, h⟩
      obtain ⟨_, hx2⟩ := List.mem_filter.mp hx
      rw [Bool.or_eq_true, List.any_eq_true] at hx2
      rcases hx2 with hx2 | ⟨u, hu, ha⟩
      · exact ⟨x, by simpa using hx2, .inl h⟩
      · exact ⟨u, hu, DW_left.mpr (.inr ⟨x, ha, h⟩)⟩
    · rintro ⟨u, hu, h⟩
      rcases DW_left.mp h with h | ⟨x, hx, h⟩
      · refine ⟨u, List.mem_filter.mpr ⟨List.mem_range.mpr (hS u hu), ?_⟩, h⟩
        rw [Bool.or_eq_true]
        exact .inl (by simpa using hu)
      · refine ⟨x, List.mem_filter.mpr ⟨List.mem_range.mpr (adj_lt W hx).2.1, ?_⟩, h⟩
        rw [Bool.or_eq_true, List.any_eq_true]
        exact .inr ⟨u, hu, hx⟩
theorem dist_some {g : Graph} (W : WG g) {u v k : Nat} (hu : u < g.vertexCount) : Ks577.distance g u v = some k ↔ k < g.vertexCount ∧ DW g u k v ∧ ∀ j < k, ¬ DW g u j v := by
  unfold Ks577.distance
  rw [List.find?_eq_some_iff_getElem]
  have hS : ∀ x ∈ [u], x < g.vertexCount := fun x hx => by rw [List.mem_singleton.mp hx]; exact hu
  have key : ∀ j, ((Ks577.neighbourhood g j [u]).contains v = true ↔ DW g u j v) := fun j => by
    rw [List.contains_iff_mem, nbh_iff W j hS]
    constructor
    · rintro ⟨x, hx, h⟩
      rw [List.mem_singleton.mp hx] at h
      exact h
    · intro h; exact ⟨u, List.mem_singleton.mpr rfl, h⟩
  constructor
  · rintro ⟨h1, i, hi, e, h2⟩
    rw [List.getElem_range] at e
    subst e
    rw [List.length_range] at hi
    refine ⟨hi, (key i).mp h1, fun j hj h => ?_⟩
    have := h2 j hj
    rw [List.getElem_range] at this
    rw [(key j).mpr h] at this
    cases this
  · rintro ⟨h1, h2, h3⟩
    refine ⟨(key k).mpr h2, k, by rw [List.length_range]; exact h1, by rw [List.getElem_range], fun j hj => ?_⟩
    rw [List.getElem_range]
    have : ¬ (Ks577.neighbourhood g j [u]).contains v = true := fun h => h3 j hj ((key j).mp h)
    simpa using this
theorem dist_none {g : Graph} (W : WG g) {u v : Nat} (hu : u < g.vertexCount) : Ks577.distance g u v = none ↔ ∀ k < g.vertexCount, ¬ DW g u k v := by
  constructor
  · intro h k hk hd
    -- the least such k
    have : ∃ j, j ≤ k ∧ DW g u j v ∧ ∀ i < j, ¬ DW g u i v := by
      clear h
      induction k with
      | zero => exact ⟨0, Nat.le_refl _, hd, fun i hi => absurd hi (Nat.not_lt_zero _)⟩
      | succ k ih =>
        by_cases e : DW g u k v
        · obtain ⟨j, h1, h2⟩ := ih (by omega) e
          exact ⟨j, by omega, h2⟩
        · exact ⟨k + 1, Nat.le_refl _, hd, fun i hi hdi => e (hdi.le (by omega))⟩
    obtain ⟨j, h1, h2, h3⟩ := this
    have := (dist_some W hu).mpr ⟨by omega, h2, h3⟩
    rw [h] at this
    cases this
  · intro h
    cases e : Ks577.distance g u v with
    | none => rfl
    | some k =>
      obtain ⟨h1, h2, _⟩ := (dist_some W hu).mp e
      exact absurd h2 (h k h1)
theorem nodup_le {α : Type} [DecidableEq α] : ∀ {l L : List α}, l.Nodup → (∀ x ∈ l, x ∈ L) → l.length ≤ L.length
  | [], _, _, _ => Nat.zero_le _
  | a :: r, L, hn, h => by
    have ha := h a List.mem_cons_self
    obtain ⟨h1, h2⟩ := List.nodup_cons.mp hn
    have ih := nodup_le (l := r) (L := L.erase a) h2 fun x hx => (List.mem_erase_of_ne (fun e : x = a => h1 (by rw [← e]; exact hx))).mpr (h x (List.mem_cons_of_mem _ hx))
    have hp := List.length_pos_of_mem ha
    rw [List.length_erase_of_mem ha] at ih
    rw [List.length_cons]
    omega
/-- a table of distances that is right edge by edge is right -/
structure Loc (g : Graph) (b : Nat) (f : Nat → Int) : Prop where
  beg : f b = 0
  low : ∀ v < g.vertexCount, -1 ≤ f v
  edge : ∀ u v, isAdjacent g u v = true → f u ≠ -1 → f v ≠ -1 ∧ f v ≤ f u + 1
  back : ∀ v < g.vertexCount, f v ≠ -1 → v = b ∨ ∃ u, isAdjacent g u v = true ∧ f u ≠ -1 ∧ f v = f u + 1
section
variable {g : Graph} {b : Nat} {f : Nat → Int}
theorem Loc.nn (L : Loc g b f) {v : Nat} (hv : v < g.vertexCount) (h : f v ≠ -1) : 0 ≤ f v := by
  have := L.low v hv
  omega
theorem Loc.up (W : WG g) (L : Loc g b f) (hb : b < g.vertexCount) : ∀ {k v : Nat}, DW g b k v → f v ≠ -1 ∧ f v ≤ k
  | 0, v, h => by
    have h : v = b := h
    rw [h, L.beg]
    exact ⟨by decide, Int.le_refl _⟩
  | k + 1, v, h => by
    rcases h with h | ⟨x, h, hx⟩
    · have := L.up W hb h
      omega
    · have h1 := L.up W hb h
      have h2 := L.edge x v hx h1.1
      omega
theorem Loc.down (W : WG g) (L : Loc g b f) (hb : b < g.vertexCount) : ∀ (k : Nat) {v : Nat}, v < g.vertexCount → f v = k → DW g b k v ∧ ∃ l : List Nat, l.Nodup ∧ l.length = k + 1 ∧ (∀ x ∈ l, x < g.vertexCount ∧ f x ≤ k)
  | 0, v, hv, h => by
    have hne : f v ≠ -1 := by omega
    rcases L.back v hv hne with rfl | ⟨u, hu, hu1, hu2⟩
    · exact ⟨rfl, [v], by simp, rfl, fun x hx => by rw [List.mem_singleton.mp hx]; omega⟩
    · have := L.nn (adj_lt W hu).1 hu1
      omega
  | k + 1, v, hv, h => by
    have hne : f v ≠ -1 := by omega
    rcases L.back v hv hne with rfl | ⟨u, hu, hu1, hu2⟩
    · rw [L.beg] at h
      omega
    · obtain ⟨h1, l, h2, h3, h4⟩ := L.down W hb k (adj_lt W hu).1 (by omega)
      refine ⟨.inr ⟨u, h1, hu⟩, v :: l, List.nodup_cons.mpr ⟨fun hm => ?_, h2⟩, by rw [List.length_cons, h3], fun x hx => ?_⟩
      · have := (h4 v hm).2
        omega
      · rcases List.mem_cons.mp hx with rfl | hx
        · exact ⟨hv, by omega⟩
        · have := h4 x hx
          exact ⟨this.1, by omega⟩
theorem Loc.dist (W : WG g) (L : Loc g b f) (hb : b < g.vertexCount) {v : Nat} (hv : v < g.vertexCount) : optI (Ks577.distance g b v) = f v := by
  by_cases h : f v = -1
  · have e : Ks577.distance g b v = none := (dist_none W hb).mpr fun k _ hd => (L.up W hb hd).1 h
    rw [e, h]
    rfl
  · have h0 := L.nn hv h
    obtain ⟨k, hk⟩ : ∃ k : Nat, f v = k := ⟨(f v).toNat, by omega⟩
    obtain ⟨h1, l, h2, h3, h4⟩ := L.down W hb k hv hk
    have hlen := nodup_le (L := List.range g.vertexCount) h2 fun x hx => List.mem_range.mpr (h4 x hx).1
    rw [List.length_range, h3] at hlen
    have e : Ks577.distance g b v = some k := (dist_some W hb).mpr ⟨by omega, h1, fun j hj hd => by
      have := (L.up W hb hd).2
      omega⟩
    rw [e, hk]
    rfl
end
def distI (g : Graph) (b v : Nat) : Int := optI (Ks577.distance g b v)
theorem optI_inj {a b : Option Nat} (h : optI a = optI b) : a = b := by
  cases a with
  | none => cases b with
    | none => rfl
    | some j => have h : (-1 : Int) = (j : Int) := h; omega
  | some i => cases b with
    | none => have h : (i : Int) = -1 := h; omega
    | some j => have h : (i : Int) = (j : Int) := h; congr 1; omega
/-- distances are symmetric -/
theorem dist_symm {g : Graph} (W : WG g) {u v : Nat} (hu : u < g.vertexCount) (hv : v < g.vertexCount) : Ks577.distance g u v = Ks577.distance g v u := by
  cases e : Ks577.distance g v u with
  | none =>
    rw [dist_none W hv] at e
    exact (dist_none W hu).mpr fun k hk h => e k hk (DW_symm h)
  | some k =>
    obtain ⟨h1, h2, h3⟩ := (dist_some W hv).mp e
    exact (dist_some W hu).mpr ⟨h1, DW_symm h2, fun j hj h => h3 j hj (DW_symm h)⟩
/-! ### the breadth-first search -/
def fdI (found : List Int) (v : Nat) : Int := found.getD v (-1)
structure Bf (g : Graph) (b : Nat) (found : List Int) (wait : List Nat) : Prop where
  len : found.length = g.vertexCount
  nd : wait.Nodup
  mem : ∀ v, v ∈ wait ↔ fdI found v ≠ -1
  lt : ∀ v ∈ wait, v < g.vertexCount
  low : ∀ v, -1 ≤ fdI found v
  beg : fdI found b = 0
  back : ∀ v ∈ wait, v = b ∨ ∃ u ∈ wait, isAdjacent g u v = true ∧ fdI found v = fdI found u + 1
  mono : wait.Pairwise fun u v => fdI found u ≤ fdI found v
/-- ahead of the vertex at i -/
structure BfAt (g : Graph) (b : Nat) (found : List Int) (wait : List Nat) (i : Nat) : Prop extends Bf g b found wait where
  le : i ≤ wait.length
  near : ∀ u, wait[i]? = some u → ∀ v ∈ wait, fdI found v ≤ fdI found u + 1
  done : ∀ j < i, ∀ u, wait[j]? = some u → ∀ v, isAdjacent g u v = true → fdI found v ≠ -1 ∧ fdI found v ≤ fdI found u + 1
/-- within the vertex at i (it is u): the neighbours in ds are looked at -/
structure BfIn (g : Graph) (b : Nat) (found : List Int) (wait : List Nat) (i u : Nat) (ds : List Nat) : Prop extends Bf g b found wait where
  at_ : wait[i]? = some u
  near : ∀ v ∈ wait, fdI found v ≤ fdI found u + 1
  done : ∀ j < i, ∀ u, wait[j]? = some u → ∀ v, isAdjacent g u v = true → fdI found v ≠ -1 ∧ fdI found v ≤ fdI found u + 1
  seen : ∀ v ∈ ds, fdI found v ≠ -1 ∧ fdI found v ≤ fdI found u + 1
section
variable {g : Graph} {b : Nat} {found : List Int} {wait : List Nat} {i u x : Nat} {ds : List Nat}
theorem fdI_rep {n : Nat} (v : Nat) : fdI (List.replicate n (-1)) v = -1 := by
  unfold fdI
  rw [List.getD_eq_getElem?_getD]
  by_cases h : v < n
  · simp [h]
  · simp [h]
theorem fdI_set {v : Nat} {y : Int} (h : x < found.length) : fdI (found.set x y) v = if v = x then y else fdI found v := by
  unfold fdI
  by_cases e : v = x
  · rw [if_pos e, e]
    simp [h]
  · rw [if_neg e]
    simp [List.getElem?_set_ne (Ne.symm e)]
theorem Bf.start (hb : b < g.vertexCount) : BfAt g b ((List.replicate g.vertexCount (-1)).set b 0) [b] 0 := by
  have hl : b < (List.replicate g.vertexCount (-1 : Int)).length := by simpa using hb
  have fd : ∀ v, fdI ((List.replicate g.vertexCount (-1)).set b 0) v = if v = b then 0 else -1 := fun v => by rw [fdI_set hl, fdI_rep]
  refine ⟨⟨by simp, by simp, fun v => ?_, fun v hv => ?_, fun v => ?_, ?_, fun v hv => .inl (List.mem_singleton.mp hv), by simp⟩, Nat.zero_le _, fun u hu v hv => ?_, fun j hj => absurd hj (Nat.not_lt_zero _)⟩
  · rw [fd, List.mem_singleton]
    by_cases e : v = b
    · rw [if_pos e]; simp [e]
    · rw [if_neg e]; simp [e]
  · rw [List.mem_singleton.mp hv]; exact hb
  · rw [fd]; split <;> decide
  · rw [fd, if_pos rfl]
  · have e : u = b := by simpa using hu.symm
    rw [List.mem_singleton.mp hv, e, fd, if_pos rfl]
    decide
theorem BfAt.enter (B : BfAt g b found wait i) (h : wait[i]? = some u) : BfIn g b found wait i u [] :=
  { B.toBf with at_ := h, near := B.near u h, done := B.done, seen := fun _ hv => nomatch hv }
theorem BfIn.old (B : BfIn g b found wait i u ds) (hx : fdI found x ≠ -1) : BfIn g b found wait i u (ds ++ [x]) :=
  { B.toBf with
    at_ := B.at_, near := B.near, done := B.done
    seen := fun v hv => by
      rcases List.mem_append.mp hv with hv | hv
      · exact B.seen v hv
      · rw [List.mem_singleton.mp hv]
        exact ⟨hx, B.near x ((B.mem x).mpr hx)⟩ }
theorem BfIn.new (W : WG g) (B : BfIn g b found wait i u ds) (ha : isAdjacent g u x = true) (hx : fdI found x = -1) : BfIn g b (found.set x (fdI found u + 1)) (wait ++ [x]) i u (ds ++ [x]) := by
  have hxl : x < found.length := by rw [B.len]; exact (adj_lt W ha).2.1
  have hu : u ∈ wait := List.mem_of_getElem? B.at_
  have hu1 : fdI found u ≠ -1 := (B.mem u).mp hu
  have hu0 : 0 ≤ fdI found u := by
    have := B.low u
    omega
  have hxw : x ∉ wait := fun h => (B.mem x).mp h hx
  have hux : u ≠ x := fun e => hxw (e ▸ hu)
  have fd : ∀ v, fdI (found.set x (fdI found u + 1)) v = if v = x then fdI found u + 1 else fdI found v := fun v => fdI_set hxl
  have fo : ∀ v ∈ wait, fdI (found.set x (fdI found u + 1)) v = fdI found v := fun v hv => by rw [fd, if_neg (fun e : v = x => hxw (by rw [← e]; exact hv))]
  have fx : fdI (found.set x (fdI found u + 1)) x = fdI found u + 1 := by rw [fd, if_pos rfl]
  have hil : i < wait.length := (List.getElem?_eq_some_iff.mp B.at_).1
  refine ⟨⟨by rw [List.length_set]; exact B.len, ?_, fun v => ?_, fun v hv => ?_, fun v => ?_, ?_, fun v hv => ?_, ?_⟩, ?_, fun v hv => ?_, fun j hj y hy v hv => ?_, fun v hv => ?_⟩
  · rw [List.nodup_append]
    exact ⟨B.nd, by simp, fun a ha c hc e => hxw (by rw [← List.mem_singleton.mp hc, ← e]; exact ha)⟩
  · rw [fd, List.mem_append, List.mem_singleton]
    by_cases e : v = x
    · rw [if_pos e]
      exact ⟨fun _ => by omega, fun _ => .inr e⟩
    · rw [if_neg e, ← B.mem v]
      exact ⟨fun h => h.resolve_right e, .inl⟩
  · rcases List.mem_append.mp hv with hv | hv
    · exact B.lt v hv
    · rw [List.mem_singleton.mp hv]; exact (adj_lt W ha).2.1
  · rw [fd]
    split
    · omega
    · exact B.low v
  · rw [fd]
    have := B.beg
    rw [if_neg (fun e => by rw [← e] at hx; omega)]
    exact this
  · rcases List.mem_append.mp hv with hv | hv
    · rcases B.back v hv with e | ⟨y, hy, h1, h2⟩
      · exact .inl e
      · exact .inr ⟨y, List.mem_append_left _ hy, h1, by rw [fo v hv, fo y hy]; exact h2⟩
    · rw [List.mem_singleton.mp hv]
      exact .inr ⟨u, List.mem_append_left _ hu, ha, by rw [fx, fo u hu]⟩
  · rw [List.pairwise_append]
    refine ⟨?_, by simp, fun a ha c hc => ?_⟩
    · refine B.mono.imp_of_mem fun {a c} ha hc h => ?_
      rw [fo a ha, fo c hc]
      exact h
    · rw [List.mem_singleton.mp hc, fo a ha, fx]
      exact B.near a ha
  · rw [List.getElem?_append_left hil]
    exact B.at_
  · rw [fo u hu]
    rcases List.mem_append.mp hv with hv | hv
    · rw [fo v hv]; exact B.near v hv
    · rw [List.mem_singleton.mp hv, fx]
      omega
  · have hjl : j < wait.length := by omega
    rw [List.getElem?_append_left hjl] at hy
    have hyw : y ∈ wait := List.mem_of_getElem? hy
    have := B.done j hj y hy v hv
    have hvw : v ∈ wait := (B.mem v).mpr this.1
    rw [fo y hyw, fo v hvw]
    exact this
  · rw [fo u hu]
    rcases List.mem_append.mp hv with hv | hv
    · have := B.seen v hv
      rw [fo v ((B.mem v).mpr this.1)]
      exact this
    · rw [List.mem_singleton.mp hv, fx]
      omega
theorem BfIn.leave (W : WG g) (B : BfIn g b found wait i u (nbrs g u)) : BfAt g b found wait (i + 1) := by
  have hil : i < wait.length := (List.getElem?_eq_some_iff.mp B.at_).1
  refine { B.toBf with le := hil, near := fun y hy v hv => ?_, done := fun j hj y hy v hv => ?_ }
  · have h1 := B.near v hv
    have h2 : fdI found u ≤ fdI found y := by
      obtain ⟨h3, h4⟩ := List.getElem?_eq_some_iff.mp B.at_
      obtain ⟨h5, h6⟩ := List.getElem?_eq_some_iff.mp hy
      have := List.pairwise_iff_getElem.mp B.mono i (i + 1) h3 h5 (Nat.lt_succ_self _)
      rw [h4, h6] at this
      exact this
    omega
  · by_cases e : j = i
    · subst e
      have e2 : y = u := by
        have := B.at_
        rw [hy] at this
        exact Option.some.inj this
      subst e2
      exact B.seen v ((mem_nbrs W).mpr hv)
    · exact B.done j (by omega) y hy v hv
theorem Bf.wait_le (B : Bf g b found wait) : wait.length ≤ g.vertexCount := by
  have := nodup_le (L := List.range g.vertexCount) B.nd fun x hx => List.mem_range.mpr (B.lt x hx)
  rw [List.length_range] at this
  exact this
theorem BfAt.loc (B : BfAt g b found wait wait.length) : Loc g b (fdI found) := by
  refine ⟨B.beg, fun v _ => B.low v, fun u v ha hu => ?_, fun v _ hv => ?_⟩
  · obtain ⟨j, hj⟩ := List.mem_iff_getElem?.mp ((B.mem u).mpr hu)
    exact B.done j (List.getElem?_eq_some_iff.mp hj).1 u hj v ha
  · rcases B.back v ((B.mem v).mpr hv) with e | ⟨u, hu, h1, h2⟩
    · exact .inl e
    · exact .inr ⟨u, h1, (B.mem u).mp hu, h2⟩
theorem BfAt.result (W : WG g) (hb : b < g.vertexCount) (B : BfAt g b found wait wait.length) : found = (List.range g.vertexCount).map (distI g b) := by
  refine List.ext_getElem (by rw [B.len, List.length_map, List.length_range]) fun v h1 h2 => ?_
  have hv : v < g.vertexCount := by rw [← B.len]; exact h1
  rw [List.getElem_map, List.getElem_range]
  have e := B.loc.dist W hb hv
  unfold distI
  rw [e]
  unfold fdI
  rw [List.getD_eq_getElem?_getD, List.getElem?_eq_getElem h1]
  rfl
end
end PB

namespace PB
open Ks577 (pebblesAt isAdjacent Graph)
/-! ### distances have a table, so any way is as good as a short one -/
theorem least_ex {p : Nat → Prop} {k : Nat} (h : p k) : ∃ j, j ≤ k ∧ p j ∧ ∀ i < j, ¬ p i := by
  induction k with
  | zero => exact ⟨0, Nat.le_refl _, h, fun i hi => absurd hi (Nat.not_lt_zero _)⟩
  | succ k ih =>
    by_cases e : p k
    · obtain ⟨j, h1, h2⟩ := ih e
      exact ⟨j, by omega, h2⟩
    · by_cases e2 : ∃ i, i < k + 1 ∧ p i
      · obtain ⟨i, hi, hp⟩ := e2
        have : ∀ m, (∀ i, i < m → p i → ∃ j, j ≤ i ∧ p j ∧ ∀ i < j, ¬ p i) := by
          intro m
          induction m with
          | zero => intro i hi; exact absurd hi (Nat.not_lt_zero _)
          | succ m ihm =>
            intro i hi hp
            by_cases e3 : ∃ j, j < i ∧ p j
            · obtain ⟨j, hj, hpj⟩ := e3
              obtain ⟨j', h1, h2⟩ := ihm j (by omega) hpj
              exact ⟨j', by omega, h2⟩
            · exact ⟨i, Nat.le_refl _, hp, fun j hj hpj => e3 ⟨j, hj, hpj⟩⟩
        obtain ⟨j, h1, h2⟩ := this (k + 1) i hi hp
        exact ⟨j, by omega, h2⟩
      · exact ⟨k + 1, Nat.le_refl _, h, fun i hi hp => e2 ⟨i, hi, hp⟩⟩
open Classical in
noncomputable def fT (g : Graph) (b v : Nat) : Int := if h : ∃ j, DW g b j v ∧ ∀ i < j, ¬ DW g b i v then (Classical.choose h : Nat) else -1
theorem fT_of {g : Graph} {b v k : Nat} (h : DW g b k v) (hm : ∀ i < k, ¬ DW g b i v) : fT g b v = k := by
  have e : ∃ j, DW g b j v ∧ ∀ i < j, ¬ DW g b i v := ⟨k, h, hm⟩
  unfold fT
  rw [dif_pos e]
  obtain ⟨h1, h2⟩ := Classical.choose_spec e
  congr 1
  by_cases l : Classical.choose e < k
  · exact absurd h1 (hm _ l)
  · by_cases l2 : k < Classical.choose e
    · exact absurd h (h2 _ l2)
    · omega
theorem fT_ne {g : Graph} {b v : Nat} (h : fT g b v ≠ -1) : ∃ k : Nat, fT g b v = k ∧ DW g b k v ∧ ∀ i < k, ¬ DW g b i v := by
  by_cases e : ∃ j, DW g b j v ∧ ∀ i < j, ¬ DW g b i v
  · obtain ⟨j, h1, h2⟩ := e
    exact ⟨j, fT_of h1 h2, h1, h2⟩
  · exact absurd (by unfold fT; rw [dif_neg e]) h
theorem fT_loc (g : Graph) (b : Nat) : Loc g b (fT g b) := by
  refine ⟨fT_of rfl fun i hi => absurd hi (Nat.not_lt_zero _), fun v _ => ?_, fun u v ha hu => ?_, fun v _ hv => ?_⟩
  · by_cases h : fT g b v = -1
    · omega
    · obtain ⟨k, hk, _⟩ := fT_ne h
      omega
  · obtain ⟨k, hk, h1, _⟩ := fT_ne hu
    have h2 : DW g b (k + 1) v := .inr ⟨u, h1, ha⟩
    obtain ⟨j, hj, h3, h4⟩ := least_ex (p := fun j => DW g b j v) h2
    rw [fT_of h3 h4, hk]
    omega
  · obtain ⟨k, hk, h1, h2⟩ := fT_ne hv
    cases k with
    | zero => exact .inl h1
    | succ k =>
      rcases h1 with h1 | ⟨x, h1, hx⟩
      · exact absurd h1 (h2 k (Nat.lt_succ_self _))
      · have hm : ∀ i < k, ¬ DW g b i x := fun i hi hd => h2 (i + 1) (by omega) (.inr ⟨x, hd, hx⟩)
        have := fT_of h1 hm
        exact .inr ⟨x, hx, by omega, by omega⟩
theorem dist_isSome {g : Graph} (W : WG g) {u v : Nat} (hu : u < g.vertexCount) (hv : v < g.vertexCount) : (Ks577.distance g u v).isSome = true ↔ ∃ k, DW g u k v := by
  constructor
  · intro h
    obtain ⟨k, hk⟩ := Option.isSome_iff_exists.mp h
    exact ⟨k, ((dist_some W hu).mp hk).2.1⟩
  · rintro ⟨k, h⟩
    obtain ⟨j, _, h1, h2⟩ := least_ex (p := fun j => DW g u j v) h
    have e := (fT_loc g u).dist W hu hv
    rw [fT_of h1 h2] at e
    cases q : Ks577.distance g u v with
    | some k => rfl
    | none => rw [q] at e; have e : (-1 : Int) = (j : Int) := e; omega
/-- the table of the distances is right edge by edge -/
theorem distI_loc {g : Graph} (W : WG g) {b : Nat} (hb : b < g.vertexCount) : Loc g b (distI g b) := by
  have e : ∀ v, v < g.vertexCount → distI g b v = fT g b v := fun v hv => (fT_loc g b).dist W hb hv
  have L := fT_loc g b
  refine ⟨by rw [e b hb]; exact L.beg, fun v hv => by rw [e v hv]; exact L.low v hv, fun u v ha => ?_, fun v hv => ?_⟩
  · have := adj_lt W ha
    rw [e u this.1, e v this.2.1]
    exact L.edge u v ha
  · rw [e v hv]
    intro h
    rcases L.back v hv h with h | ⟨u, ha, h1, h2⟩
    · exact .inl h
    · have := adj_lt W ha
      exact .inr ⟨u, ha, by rw [e u this.1]; exact h1, by rw [e u this.1]; exact h2⟩
theorem distI_self {g : Graph} (W : WG g) {b : Nat} (hb : b < g.vertexCount) : distI g b b = 0 := (distI_loc W hb).beg
theorem distI_ne {g : Graph} {u v : Nat} : distI g u v ≠ -1 ↔ (Ks577.distance g u v).isSome = true := by
  unfold distI
  cases Ks577.distance g u v with
  | none => exact ⟨fun h => absurd rfl h, fun h => nomatch h⟩
  | some k => exact ⟨fun _ => rfl, fun _ h => by have h : (k : Int) = -1 := h; omega⟩
theorem distI_getD {g : Graph} {u v : Nat} (h : distI g u v ≠ -1) : distI g u v = ((Ks577.distance g u v).getD 0 : Nat) := by
  rw [distI_ne] at h
  obtain ⟨k, hk⟩ := Option.isSome_iff_exists.mp h
  unfold distI
  rw [hk]
  rfl
theorem distI_lt {g : Graph} (W : WG g) {u v : Nat} (hu : u < g.vertexCount) : distI g u v < g.vertexCount := by
  unfold distI
  cases e : Ks577.distance g u v with
  | none => have := W.pos; show (-1 : Int) < _; omega
  | some k =>
    have := ((dist_some W hu).mp e).1
    show (k : Int) < _
    omega
theorem distI_ge {g : Graph} (u v : Nat) : -1 ≤ distI g u v := by
  unfold distI
  cases Ks577.distance g u v with
  | none => exact Int.le_refl _
  | some k => show (-1 : Int) ≤ (k : Int); omega
theorem distI_symm {g : Graph} (W : WG g) {u v : Nat} (hu : u < g.vertexCount) (hv : v < g.vertexCount) : distI g u v = distI g v u := by
  unfold distI
  rw [dist_symm W hu hv]
/-- connected from one vertex: between all -/
theorem conn_iff {g : Graph} (W : WG g) : Ks578.isConnected g = true ↔ ∀ u < g.vertexCount, ∀ v < g.vertexCount, distI g u v ≠ -1 := by
  unfold Ks578.isConnected
  rw [List.all_eq_true]
  have h0 : 0 < g.vertexCount := W.pos
  constructor
  · intro h u hu v hv
    rw [distI_ne, dist_isSome W hu hv]
    have h1 := h u (List.mem_range.mpr hu)
    have h2 := h v (List.mem_range.mpr hv)
    rw [dist_isSome W h0 hu] at h1
    rw [dist_isSome W h0 hv] at h2
    obtain ⟨j, h1⟩ := h1
    obtain ⟨k, h2⟩ := h2
    exact ⟨_, DW_trans (DW_symm h1) h2⟩
  · intro h v hv
    exact distI_ne.mp (h 0 h0 v (List.mem_range.mp hv))
theorem conn_false {g : Graph} (W : WG g) {u v : Nat} (hu : u < g.vertexCount) (hv : v < g.vertexCount) (h : distI g u v = -1) : Ks578.isConnected g = false := by
  cases e : Ks578.isConnected g with
  | false => rfl
  | true => exact absurd h ((conn_iff W).mp e u hu v hv)
/-! ### the diameter -/
theorem foldl_max_app (l m : List Nat) (a : Nat) : (l ++ m).foldl max a = max (l.foldl max a) (m.foldl max 0) := by
  rw [List.foldl_append]
  have : ∀ (m : List Nat) (a : Nat), m.foldl max a = max a (m.foldl max 0) := by
    intro m
    induction m with
    | nil => intro a; simp
    | cons b r ih =>
      intro a
      rw [List.foldl_cons, List.foldl_cons, ih, ih (max 0 b)]
      omega
  exact this m _
/-- the greatest distance from the first i vertices -/
def diaTo (g : Graph) (i : Nat) : Nat := ((List.range i).flatMap fun u => (List.range g.vertexCount).map fun v => (Ks577.distance g u v).getD 0).foldl max 0
theorem diaTo_step {g : Graph} {i : Nat} {m : Int} (hm : m ∈ (List.range g.vertexCount).map (distI g i)) (hall : ∀ y ∈ (List.range g.vertexCount).map (distI g i), y ≤ m) (hc : ∀ y ∈ (List.range g.vertexCount).map (distI g i), y ≠ -1) :
    ((diaTo g (i + 1) : Nat) : Int) = if m > (diaTo g i : Int) then m else (diaTo g i : Int) := by
  unfold diaTo
  rw [List.range_succ, List.flatMap_append, foldl_max_app]
  have e : (List.flatMap (fun u => (List.range g.vertexCount).map fun v => (Ks577.distance g u v).getD 0) [i]).foldl max 0 = m.toNat := by
    refine foldl_max_eq ?_ fun x hx => ?_
    · obtain ⟨v, hv, rfl⟩ := List.mem_map.mp hm
      rw [List.mem_flatMap]
      refine ⟨i, List.mem_singleton.mpr rfl, List.mem_map.mpr ⟨v, hv, ?_⟩⟩
      rw [distI_getD (hc _ hm)]
      rfl
    · rw [List.mem_flatMap] at hx
      obtain ⟨u, hu, hx⟩ := hx
      rw [List.mem_singleton.mp hu] at hx
      obtain ⟨v, hv, rfl⟩ := List.mem_map.mp hx
      have h1 : distI g i v ∈ (List.range g.vertexCount).map (distI g i) := List.mem_map.mpr ⟨v, hv, rfl⟩
      have h2 := hall _ h1
      rw [distI_getD (hc _ h1)] at h2
      omega
  rw [e]
  have h0 : 0 ≤ m := by
    obtain ⟨v, hv, rfl⟩ := List.mem_map.mp hm
    have := distI_ge (g := g) i v
    have := hc _ hm
    omega
  generalize (List.foldl max 0 (List.flatMap (fun u => (List.range g.vertexCount).map fun v => (Ks577.distance g u v).getD 0) (List.range i))) = q
  split
  · omega
  · omega
/-! ### the cover number -/
theorem coverFrom_eq {g : Graph} (W : WG g) {v : Nat} (hv : v < g.vertexCount) : Ks579.coverFrom g v = ((List.range g.vertexCount).map fun u => 2 ^ (Ks577.distance g v u).getD 0).sum := by
  unfold Ks579.coverFrom
  congr 1
  refine List.map_congr_left fun u hu => ?_
  rw [dist_symm W (List.mem_range.mp hu) hv]
/-! ### fractions -/
open Ks577 (Rational)
def mkR (p q : Nat) : Rational := Rational.make (p : Int) q
theorem mkR_pos {p q : Nat} (h : 0 < q) : mkR p q = ⟨((p / Nat.gcd p q : Nat) : Int), q / Nat.gcd p q⟩ := by
  unfold mkR Rational.make
  rw [if_neg (by omega), Int.natAbs_natCast]
  rfl
theorem mkR_mul {k p q : Nat} (hk : 0 < k) (hq : 0 < q) : mkR (k * p) (k * q) = mkR p q := by
  rw [mkR_pos (Nat.mul_pos hk hq), mkR_pos hq, Nat.gcd_mul_left, Nat.mul_div_mul_left _ _ hk, Nat.mul_div_mul_left _ _ hk]
theorem mkR_zero {q : Nat} (h : 0 < q) : Rational.zero = mkR 0 q := by
  rw [mkR_pos h]
  unfold Rational.zero
  rw [Nat.gcd_zero_left, Nat.zero_div, Nat.div_self h]
  rfl
theorem mkR_add {S N c D : Nat} (hN : 0 < N) (hD : 0 < D) (hd : D ∣ N) : mkR S N + mkR c D = mkR (S + c * (N / D)) N := by
  show Rational.add (mkR S N) (mkR c D) = _
  unfold Rational.add
  have g1 : 0 < Nat.gcd S N := Nat.gcd_pos_of_pos_right _ hN
  have g2 : 0 < Nat.gcd c D := Nat.gcd_pos_of_pos_right _ hD
  obtain ⟨s, hs⟩ := Nat.gcd_dvd_left S N
  obtain ⟨n, hn⟩ := Nat.gcd_dvd_right S N
  obtain ⟨x, hx⟩ := Nat.gcd_dvd_left c D
  obtain ⟨d, hd'⟩ := Nat.gcd_dvd_right c D
  rw [mkR_pos hN, mkR_pos hD]
  have e1 : S / Nat.gcd S N = s := by rw [Nat.div_eq_of_eq_mul_right g1 hs]
  have e2 : N / Nat.gcd S N = n := by rw [Nat.div_eq_of_eq_mul_right g1 hn]
  have e3 : c / Nat.gcd c D = x := by rw [Nat.div_eq_of_eq_mul_right g2 hx]
  have e4 : D / Nat.gcd c D = d := by rw [Nat.div_eq_of_eq_mul_right g2 hd']
  simp only [e1, e2, e3, e4]
  have hn0 : 0 < n := by
    rcases Nat.eq_zero_or_pos n with h | h
    · rw [h, Nat.mul_zero] at hn; omega
    · exact h
  have hd0 : 0 < d := by
    rcases Nat.eq_zero_or_pos d with h | h
    · rw [h, Nat.mul_zero] at hd'; omega
    · exact h
  have e5 : ((s : Int) * ((d : Nat) : Int) + (x : Int) * ((n : Nat) : Int)) = ((s * d + x * n : Nat) : Int) := by simp
  rw [e5]
  show mkR (s * d + x * n) (n * d) = _
  rw [← mkR_mul (k := Nat.gcd S N * Nat.gcd c D) (Nat.mul_pos g1 g2) (Nat.mul_pos hn0 hd0)]
  obtain ⟨z, hz⟩ := hd
  have e6 : N / D = z := Nat.div_eq_of_eq_mul_right hD hz
  rw [e6]
  have e7 : Nat.gcd S N * Nat.gcd c D * (n * d) = D * N := by
    calc Nat.gcd S N * Nat.gcd c D * (n * d) = (Nat.gcd S N * n) * (Nat.gcd c D * d) := by
          rw [Nat.mul_assoc, Nat.mul_assoc, Nat.mul_left_comm (Nat.gcd c D)]
      _ = N * D := by rw [← hn, ← hd']
      _ = D * N := Nat.mul_comm _ _
  have e8 : Nat.gcd S N * Nat.gcd c D * (s * d + x * n) = D * (S + c * z) := by
    rw [Nat.mul_add, Nat.mul_add]
    congr 1
    · calc Nat.gcd S N * Nat.gcd c D * (s * d) = (Nat.gcd S N * s) * (Nat.gcd c D * d) := by
            rw [Nat.mul_assoc, Nat.mul_assoc, Nat.mul_left_comm (Nat.gcd c D)]
        _ = S * D := by rw [← hs, ← hd']
        _ = D * S := Nat.mul_comm _ _
    · calc Nat.gcd S N * Nat.gcd c D * (x * n) = (Nat.gcd S N * n) * (Nat.gcd c D * x) := by
            ac_rfl
        _ = N * c := by rw [← hn, ← hx]
        _ = D * (c * z) := by rw [hz, Nat.mul_assoc, Nat.mul_comm z c]
  rw [e7, e8, mkR_mul hD hN]
/-- the weight of the first i vertices' pebbles, in parts of 2 ^ n -/
def wTo (g : Graph) (c : Cfg) (t : Nat) : Nat → Nat
  | 0 => 0
  | i + 1 => wTo g c t i + (match Ks577.distance g i t with
    | none => 0
    | some d => pebblesAt c i * (2 ^ g.vertexCount / 2 ^ d))
theorem weight_eq {g : Graph} (W : WG g) (c : Cfg) (t : Nat) : Ks577.weightAt g c t = mkR (wTo g c t g.vertexCount) (2 ^ g.vertexCount) := by
  have hN : 0 < 2 ^ g.vertexCount := Nat.pow_pos (by decide)
  have key : ∀ i, i ≤ g.vertexCount → (List.range i).foldl (fun total u => match Ks577.distance g u t with
      | none => total
      | some d => total + Rational.make (pebblesAt c u : Int) (2 ^ d)) Rational.zero = mkR (wTo g c t i) (2 ^ g.vertexCount) := by
    intro i
    induction i with
    | zero => intro _; exact mkR_zero hN
    | succ i ih =>
      intro hi
      rw [List.range_succ, List.foldl_append, ih (by omega)]
      show (match Ks577.distance g i t with
        | none => mkR (wTo g c t i) (2 ^ g.vertexCount)
        | some d => mkR (wTo g c t i) (2 ^ g.vertexCount) + Rational.make (pebblesAt c i : Int) (2 ^ d)) = mkR (wTo g c t i + _) _
      cases e : Ks577.distance g i t with
      | none => rfl
      | some d =>
        have hd := ((dist_some W (by omega)).mp e).1
        exact mkR_add hN (Nat.pow_pos (by decide)) (Nat.pow_dvd_pow 2 (by omega))
  exact key _ (Nat.le_refl _)
end PB

namespace PB
open Ks577 (pebblesAt isAdjacent Graph)
/-! ### a certificate lets a target be reached -/
def sumF (n : Nat) (f : Nat → Nat) : Nat := ((List.range n).map f).sum
theorem sumF_succ (n : Nat) (f : Nat → Nat) : sumF (n + 1) f = sumF n f + f n := by
  unfold sumF
  rw [List.range_succ, List.map_append, List.sum_append]
  simp
theorem sumF_congr {f h : Nat → Nat} : ∀ {n : Nat}, (∀ i < n, f i = h i) → sumF n f = sumF n h
  | 0, _ => rfl
  | n + 1, e => by rw [sumF_succ, sumF_succ, sumF_congr fun i hi => e i (by omega), e n (by omega)]
theorem sumF_le {f h : Nat → Nat} : ∀ {n : Nat}, (∀ i < n, f i ≤ h i) → sumF n f ≤ sumF n h
  | 0, _ => Nat.le_refl _
  | n + 1, e => by
    rw [sumF_succ, sumF_succ]
    have h1 := sumF_le (f := f) (h := h) (n := n) fun i hi => e i (by omega)
    have h2 := e n (by omega)
    omega
theorem sumF_at {f h : Nat → Nat} {j : Nat} : ∀ {n : Nat}, j < n → (∀ i, i ≠ j → f i = h i) → sumF n f + h j = sumF n h + f j
  | n + 1, hj, e => by
    rw [sumF_succ, sumF_succ]
    by_cases q : j = n
    · subst q
      rw [sumF_congr (f := f) (h := h) fun i hi => e i (by omega)]
      omega
    · have ih := sumF_at (f := f) (h := h) (j := j) (n := n) (by omega) e
      have := e n (fun z => q z.symm)
      omega
theorem sum_eq_sumF : ∀ (c : Cfg), c.sum = sumF c.length fun v => pebblesAt c v
  | [] => rfl
  | a :: r => by
    rw [List.sum_cons, sum_eq_sumF r, List.length_cons]
    unfold sumF
    rw [List.range_succ_eq_map, List.map_cons, List.sum_cons, List.map_map]
    rfl
/-- the weight of a configuration -/
def wOn (w : Nat → Nat) (c : Cfg) : Nat := sumF c.length fun v => w v * pebblesAt c v
theorem wOn_set {w : Nat → Nat} {c : Cfg} {j y : Nat} (hj : j < c.length) : wOn w (c.set j y) + w j * pebblesAt c j = wOn w c + w j * y := by
  unfold wOn
  rw [List.length_set]
  have h := sumF_at (f := fun v => w v * pebblesAt (c.set j y) v) (h := fun v => w v * pebblesAt c v) (j := j) hj fun i hi => by
    show w i * (c.set j y).getD i 0 = w i * c.getD i 0
    rw [getD_set_ne y (Ne.symm hi)]
  have e : pebblesAt (c.set j y) j = y := getD_set_self y hj
  have h : sumF c.length (fun v => w v * pebblesAt (c.set j y) v) + w j * pebblesAt c j = sumF c.length (fun v => w v * pebblesAt c v) + w j * pebblesAt (c.set j y) j := h
  rw [e] at h
  exact h
theorem wOn_move {w : Nat → Nat} {c : Cfg} {v x : Nat} (hv : v < c.length) (hx : x < c.length) (hne : v ≠ x) (h2 : 2 ≤ pebblesAt c v) : wOn w (Ks581.move c v v x) + 2 * w v = wOn w c + w x := by
  rw [← move577 hv]
  show wOn w ((c.set v (pebblesAt c v - 2)).set x (pebblesAt (c.set v (pebblesAt c v - 2)) x + 1)) + 2 * w v = wOn w c + w x
  have e1 : pebblesAt (c.set v (pebblesAt c v - 2)) x = pebblesAt c x := getD_set_ne _ hne
  have a1 := wOn_set (w := w) (c := c) (y := pebblesAt c v - 2) hv
  have a2 := wOn_set (w := w) (c := c.set v (pebblesAt c v - 2)) (j := x) (y := pebblesAt (c.set v (pebblesAt c v - 2)) x + 1) (by simpa using hx)
  rw [e1] at a2 ⊢
  rw [Nat.mul_add, Nat.mul_one] at a2
  obtain ⟨q, hq⟩ : ∃ q, pebblesAt c v = q + 2 := ⟨pebblesAt c v - 2, by omega⟩
  rw [hq] at a1
  rw [Nat.add_sub_cancel, Nat.mul_add, Nat.mul_comm (w v) 2] at a1
  rw [hq, Nat.add_sub_cancel] at a2 ⊢
  omega
structure Cert (g : Graph) (t : Nat) (p w : Nat → Nat) : Prop where
  zero : w t = 0
  adj : ∀ v < g.vertexCount, v ≠ t → isAdjacent g v (p v) = true
  twice : ∀ v < g.vertexCount, v ≠ t → p v = t ∨ 2 * w v ≤ w (p v)
theorem cert_solv {g : Graph} (W : WG g) {rub : Bool} {t : Nat} (ht : t < g.vertexCount) {p w : Nat → Nat} (C : Cert g t p w) : ∀ (k : Nat) {c : Cfg}, c.length = g.vertexCount → c.sum ≤ k → sumF g.vertexCount w < wOn w c → solv g rub t c = true := by
  intro k
  induction k with
  | zero =>
    intro c hl hs h
    exfalso
    have : wOn w c = 0 := by
      unfold wOn
      rw [sumF_congr (h := fun _ => 0) fun i hi => by
        have := getD_le_sum c i
        unfold pebblesAt
        have e : c.getD i 0 = 0 := by omega
        rw [e, Nat.mul_zero]]
      unfold sumF
      induction c.length with
      | zero => rfl
      | succ n ih => rw [List.range_succ, List.map_append, List.sum_append, ih]; rfl
    omega
  | succ k ih =>
    intro c hl hs h
    by_cases h0 : 0 < pebblesAt c t
    · exact (solv_iff W hl).mpr ⟨c, Rch.refl, h0⟩
    · -- a vertex with two pebbles
      have : ∃ v < g.vertexCount, w v < w v * pebblesAt c v := by
        by_cases e : ∃ v < g.vertexCount, w v < w v * pebblesAt c v
        · exact e
        · exfalso
          have : wOn w c ≤ sumF g.vertexCount w := by
            unfold wOn
            rw [hl]
            refine sumF_le fun i hi => ?_
            by_cases q : w i < w i * pebblesAt c i
            · exact absurd ⟨i, hi, q⟩ e
            · omega
          omega
      obtain ⟨v, hv, hw⟩ := this
      have hvt : v ≠ t := fun e => by rw [e, C.zero] at hw; omega
      have h2 : 2 ≤ pebblesAt c v := by
        by_cases q : 2 ≤ pebblesAt c v
        · exact q
        · exfalso
          have : pebblesAt c v = 0 ∨ pebblesAt c v = 1 := by omega
          rcases this with z | z <;> rw [z] at hw <;> omega
      have ha := C.adj v hv hvt
      obtain ⟨a1, a2, a3⟩ := adj_lt W ha
      have hct : canTk c v v = true := by unfold canTk; rw [if_pos rfl]; exact decide_eq_true h2
      have hd : Ks581.move c v v (p v) ∈ sucB g rub c := by
        cases rub with
        | true => exact (mem_suc581 W).mpr ⟨v, v, p v, Nat.le_refl _, ha, ha, hct, rfl⟩
        | false => exact (mem_suc577 W hl).mpr ⟨v, p v, ha, hct, rfl⟩
      have hdl := suc_length W hl hd
      have hds := suc_sum W hl hd
      have goal : solv g rub t (Ks581.move c v v (p v)) = true := by
        rcases C.twice v hv hvt with e | e
        · refine (solv_iff W hdl).mpr ⟨_, Rch.refl, ?_⟩
          rw [e]
          unfold Ks581.move
          unfold pebblesAt
          rw [getD_set_self _ (by unfold Ks581.removeOne; simp; omega)]
          omega
        · refine ih hdl (by omega) ?_
          have := wOn_move (w := w) (c := c) (v := v) (x := p v) (by omega) (by omega) a3 h2
          omega
      rw [solv_eq W hl, Bool.or_eq_true, List.any_eq_true]
      exact .inr ⟨_, hd, goal⟩
/-! ### trees of parents: weights that double, nine in all at most -/
def listsK (n : Nat) : Nat → List (List Nat)
  | 0 => [[]]
  | k + 1 => (List.range n).flatMap fun a => (listsK n k).map (a :: ·)
theorem mem_listsK {n : Nat} : ∀ {k : Nat} {l : List Nat}, l.length = k → (∀ x ∈ l, x < n) → l ∈ listsK n k
  | 0, l, h, _ => by
    rw [List.eq_nil_of_length_eq_zero h]
    exact List.mem_singleton.mpr rfl
  | k + 1, l, h, hx => by
    cases l with
    | nil => cases h
    | cons a r =>
      unfold listsK
      rw [List.mem_flatMap]
      exact ⟨a, List.mem_range.mpr (hx a List.mem_cons_self), List.mem_map.mpr ⟨r, mem_listsK (by simpa using h) (fun x h' => hx x (List.mem_cons_of_mem _ h')), rfl⟩⟩
def wP (pl : List Nat) (t v : Nat) : Nat := if v = t then 0 else if (pl.any fun u => pl.getD u 0 == v) then 4 else if (pl.any fun u => u == v) then 2 else 1
def okP (n t : Nat) (pl : List Nat) : Bool :=
  !(pl.getD t 0 == t && (List.range n).all fun v => pl.getD (pl.getD (pl.getD v 0) 0) 0 == t) ||
    ((List.range n).all (fun v => v == t || (decide (1 ≤ wP pl t v) && (pl.getD v 0 == t || decide (2 * wP pl t v ≤ wP pl t (pl.getD v 0))))) && decide (((List.range n).map (wP pl t)).sum ≤ 9))
def okAll (n : Nat) : Bool := (List.range n).all fun t => (listsK n n).all fun pl => okP n t pl
theorem okAll1 : okAll 1 = true := by decide +kernel
theorem okAll2 : okAll 2 = true := by decide +kernel
theorem okAll3 : okAll 3 = true := by decide +kernel
theorem okAll4 : okAll 4 = true := by decide +kernel
theorem okAll5 : okAll 5 = true := by decide +kernel
end PB

namespace PB
open Ks577 (pebblesAt isAdjacent Graph)
theorem okAll_of {g : Graph} (W : WG g) : okAll g.vertexCount = true := by
  have h1 := W.pos
  have h2 := W.few
  generalize g.vertexCount = n at h1 h2 ⊢
  match n, h1, h2 with
  | 1, _, _ => exact okAll1
  | 2, _, _ => exact okAll2
  | 3, _, _ => exact okAll3
  | 4, _, _ => exact okAll4
  | 5, _, _ => exact okAll5
/-- the program's test: connected, the diameter three at most -/
def Small (g : Graph) : Prop := Ks578.isConnected g = true ∧ Ks578.diameter g ≤ 3
theorem small_dist {g : Graph} (W : WG g) (S : Small g) {u v : Nat} (hu : u < g.vertexCount) (hv : v < g.vertexCount) : 0 ≤ distI g u v ∧ distI g u v ≤ 3 := by
  have h1 := (conn_iff W).mp S.1 u hu v hv
  have h0 := distI_ge (g := g) u v
  refine ⟨by omega, ?_⟩
  have h2 : (Ks577.distance g u v).getD 0 ≤ Ks578.diameter g := by
    unfold Ks578.diameter
    refine (foldl_max_ge _ _).2.1 _ ?_
    rw [List.mem_flatMap]
    exact ⟨u, List.mem_range.mpr hu, List.mem_map.mpr ⟨v, List.mem_range.mpr hv, rfl⟩⟩
  have h3 := S.2
  rw [distI_getD h1]
  omega
open Classical in
noncomputable def parF (g : Graph) (t v : Nat) : Nat := if h : ∃ u, isAdjacent g u v = true ∧ distI g t v = distI g t u + 1 then Classical.choose h else t
theorem parF_spec {g : Graph} (W : WG g) (S : Small g) {t v : Nat} (ht : t < g.vertexCount) (hv : v < g.vertexCount) (hne : v ≠ t) : isAdjacent g v (parF g t v) = true ∧ distI g t v = distI g t (parF g t v) + 1 := by
  have hn := (conn_iff W).mp S.1 t ht v hv
  rcases (distI_loc W ht).back v hv hn with e | ⟨u, ha, _, h2⟩
  · exact absurd e hne
  · have e : ∃ u, isAdjacent g u v = true ∧ distI g t v = distI g t u + 1 := ⟨u, ha, h2⟩
    unfold parF
    rw [dif_pos e]
    obtain ⟨h3, h4⟩ := Classical.choose_spec e
    exact ⟨by rw [adj_symm]; exact h3, h4⟩
theorem parF_self {g : Graph} (W : WG g) {t : Nat} (ht : t < g.vertexCount) : parF g t t = t := by
  unfold parF
  split
  · rename_i h
    exfalso
    obtain ⟨u, ha, h⟩ := h
    have h1 := distI_self W ht
    have h2 := distI_ge (g := g) t u
    have h4 := adj_lt W ha
    -- u is at -1, yet it is a neighbour of t
    have h3 := ((distI_loc W ht).edge t u (by rw [adj_symm]; exact ha) (by omega)).1
    omega
  · rfl
theorem parF_lt {g : Graph} (W : WG g) (S : Small g) {t v : Nat} (ht : t < g.vertexCount) (hv : v < g.vertexCount) : parF g t v < g.vertexCount := by
  by_cases e : v = t
  · rw [e, parF_self W ht]; exact ht
  · exact (adj_lt W (parF_spec W S ht hv e).1).2.1
theorem dist_zero {g : Graph} (W : WG g) {t v : Nat} (ht : t < g.vertexCount) (hv : v < g.vertexCount) (h : distI g t v = 0) : v = t := by
  have L := distI_loc W ht
  rcases L.back v hv (by omega) with e | ⟨u, ha, h1, h2⟩
  · exact e
  · have := L.nn (adj_lt W ha).1 h1
    omega
theorem parF_three {g : Graph} (W : WG g) (S : Small g) {t v : Nat} (ht : t < g.vertexCount) (hv : v < g.vertexCount) : parF g t (parF g t (parF g t v)) = t := by
  have step : ∀ {x : Nat}, x < g.vertexCount → x = t ∨ distI g t (parF g t x) = distI g t x - 1 := fun {x} hx => by
    by_cases e : x = t
    · exact .inl e
    · have := (parF_spec W S ht hx e).2
      exact .inr (by omega)
  have h1 := parF_lt W S ht hv
  have h2 := parF_lt W S ht h1
  have h3 := parF_lt W S ht h2
  have d0 := small_dist W S ht hv
  have d3 := small_dist W S ht h3
  have back : ∀ x, x = t → parF g t x = t := fun x e => by rw [e]; exact parF_self W ht
  rcases step hv with e | e1
  · rw [back _ (back _ (back _ e))]
  · rcases step h1 with e | e2
    · rw [back _ (back _ e)]
    · rcases step h2 with e | e3
      · exact back _ e
      · exact dist_zero W ht h3 (by omega)
theorem small_cert {g : Graph} (W : WG g) (S : Small g) {t : Nat} (ht : t < g.vertexCount) : ∃ p w, Cert g t p w ∧ sumF g.vertexCount w ≤ 9 ∧ ∀ v < g.vertexCount, v ≠ t → 1 ≤ w v := by
  have hmem : (List.range g.vertexCount).map (parF g t) ∈ listsK g.vertexCount g.vertexCount := mem_listsK (by simp) fun x hx => by
    obtain ⟨v, hv, rfl⟩ := List.mem_map.mp hx
    exact parF_lt W S ht (List.mem_range.mp hv)
  have hok := okAll_of W
  unfold okAll at hok
  rw [List.all_eq_true] at hok
  have hok := hok t (List.mem_range.mpr ht)
  rw [List.all_eq_true] at hok
  have hok := hok _ hmem
  generalize hpl : (List.range g.vertexCount).map (parF g t) = pl at hok
  have hg : ∀ v, v < g.vertexCount → pl.getD v 0 = parF g t v := fun v hv => by
    rw [← hpl, List.getD_eq_getElem?_getD, List.getElem?_map, List.getElem?_range hv]
    rfl
  unfold okP at hok
  rw [Bool.or_eq_true] at hok
  have h1 : (pl.getD t 0 == t && (List.range g.vertexCount).all fun v => pl.getD (pl.getD (pl.getD v 0) 0) 0 == t) = true := by
    rw [Bool.and_eq_true, List.all_eq_true]
    refine ⟨by rw [hg t ht, parF_self W ht]; exact beq_self_eq_true _, fun v hv => ?_⟩
    have hv := List.mem_range.mp hv
    rw [hg v hv, hg _ (parF_lt W S ht hv), hg _ (parF_lt W S ht (parF_lt W S ht hv)), parF_three W S ht hv]
    exact beq_self_eq_true _
  rw [h1] at hok
  rcases hok with hok | hok
  · exact nomatch hok
  · rw [Bool.and_eq_true, List.all_eq_true, decide_eq_true_eq] at hok
    obtain ⟨h2, h3⟩ := hok
    have h4 : ∀ v, v < g.vertexCount → v ≠ t → 1 ≤ wP pl t v ∧ (parF g t v = t ∨ 2 * wP pl t v ≤ wP pl t (parF g t v)) := fun v hv hne => by
      have := h2 v (List.mem_range.mpr hv)
      rw [hg v hv] at this
      simp only [Bool.or_eq_true, Bool.and_eq_true, beq_iff_eq, decide_eq_true_eq] at this
      exact this.resolve_left hne
    exact ⟨parF g t, wP pl t, ⟨if_pos rfl, fun v hv hne => (parF_spec W S ht hv hne).1, fun v hv hne => (h4 v hv hne).2⟩, h3, fun v hv hne => (h4 v hv hne).1⟩
/-- ten pebbles are always enough -/
theorem ten_enough {g : Graph} (W : WG g) (S : Small g) {rub : Bool} {t : Nat} (ht : t < g.vertexCount) : unsB g rub t 10 = [] := by
  obtain ⟨p, w, C, h9, h1⟩ := small_cert W S ht
  unfold unsB
  rw [List.filter_eq_nil_iff]
  intro c hc hn
  obtain ⟨hl, hs⟩ := conf_mem.mp hc
  have hf : ¬ solv g rub t c = true := by simpa using hn
  by_cases h0 : 0 < pebblesAt c t
  · exact hf ((solv_iff W hl).mpr ⟨c, Rch.refl, h0⟩)
  · refine hf (cert_solv W ht C _ hl (Nat.le_refl _) ?_)
    have : c.sum ≤ wOn w c := by
      rw [sum_eq_sumF]
      unfold wOn
      refine sumF_le fun i hi => ?_
      by_cases e : i = t
      · rw [e]; omega
      · have := Nat.mul_le_mul_right (pebblesAt c i) (h1 i (by omega) e)
        omega
    omega
theorem num_some {g : Graph} (W : WG g) (S : Small g) {rub : Bool} {t : Nat} (ht : t < g.vertexCount) : ∃ m, numB g rub t = some m ∧ 1 ≤ m ∧ m ≤ 10 ∧ unsB g rub t m = [] ∧ ∀ j, 1 ≤ j → j < m → unsB g rub t j ≠ [] := by
  rw [numB_eq W]
  have hf : ((List.range 11).find? fun p => decide (1 ≤ p) && (unsB g rub t p).isEmpty).isSome = true := by
    rw [List.find?_isSome]
    exact ⟨10, by decide, by rw [ten_enough W S ht]; rfl⟩
  obtain ⟨m, hm⟩ := Option.isSome_iff_exists.mp hf
  refine ⟨m, hm, ?_⟩
  rw [List.find?_eq_some_iff_getElem] at hm
  obtain ⟨h1, i, hi, e, h2⟩ := hm
  rw [List.getElem_range] at e
  subst e
  rw [List.length_range] at hi
  rw [Bool.and_eq_true, decide_eq_true_eq, List.isEmpty_iff] at h1
  refine ⟨h1.1, by omega, h1.2, fun j hj hji he => ?_⟩
  have := h2 j hji
  rw [List.getElem_range, he, decide_eq_true hj] at this
  cases this
/-- the graph's own number -/
theorem graphNum {g : Graph} (W : WG g) (S : Small g) : ∃ m, Ks578.graphPebblingNumber g = some m ∧ ∀ i, i ≤ g.vertexCount → ((List.range i).foldl (fun result v => match result, Ks578.pebblingNumber g v with
    | some a, some b => some (max a b)
    | _, _ => none) (some 0)) = some (((List.range i).map fun v => (numB g false v).getD 0).foldl max 0) := by
  have key : ∀ i, i ≤ g.vertexCount → ((List.range i).foldl (fun result v => match result, Ks578.pebblingNumber g v with
    | some a, some b => some (max a b)
    | _, _ => none) (some 0)) = some (((List.range i).map fun v => (numB g false v).getD 0).foldl max 0) := by
    intro i
    induction i with
    | zero => intro _; rfl
    | succ i ih =>
      intro hi
      rw [List.range_succ, List.foldl_append, ih (by omega), List.map_append, List.foldl_append]
      obtain ⟨m, hm, _⟩ := num_some W S (rub := false) (t := i) (by omega)
      have hm' : Ks578.pebblingNumber g i = some m := hm
      show (match some (((List.range i).map fun v => (numB g false v).getD 0).foldl max 0), Ks578.pebblingNumber g i with
        | some a, some b => some (max a b)
        | _, _ => none) = _
      rw [hm']
      show _ = some (max _ ((numB g false i).getD 0))
      rw [hm]
      rfl
  exact ⟨_, key _ (Nat.le_refl _), key⟩
end PB

namespace PB
open Ks577 (pebblesAt isAdjacent Graph)
/-! ### a graph's edges are some of all pairs -/
def pairsN (n : Nat) : List (Nat × Nat) := (List.range n).flatMap fun a => ((List.range n).filter fun b => decide (a < b)).map fun b => (a, b)
def subs {α : Type} : List α → List (List α)
  | [] => [[]]
  | a :: r => subs r ++ (subs r).map (a :: ·)
theorem filter_mem_subs {α : Type} (p : α → Bool) : ∀ l : List α, l.filter p ∈ subs l
  | [] => List.mem_singleton.mpr rfl
  | a :: r => by
    rw [List.filter_cons]
    unfold subs
    by_cases h : p a = true
    · rw [if_pos h]
      exact List.mem_append_right _ (List.mem_map.mpr ⟨_, filter_mem_subs p r, rfl⟩)
    · rw [if_neg h]
      exact List.mem_append_left _ (filter_mem_subs p r)
theorem mem_pairsN {n : Nat} {e : Nat × Nat} : e ∈ pairsN n ↔ e.1 < e.2 ∧ e.2 < n := by
  unfold pairsN
  simp only [List.mem_flatMap, List.mem_map, List.mem_filter, List.mem_range, decide_eq_true_eq]
  constructor
  · rintro ⟨a, ha, b, ⟨hb, hab⟩, rfl⟩
    exact ⟨hab, hb⟩
  · rintro ⟨h1, h2⟩
    exact ⟨e.1, by omega, e.2, ⟨h2, h1⟩, rfl⟩
abbrev ltE (a b : Nat × Nat) : Prop := a.1 < b.1 ∨ (a.1 = b.1 ∧ a.2 < b.2)
theorem pairsN_sorted (n : Nat) : (pairsN n).Pairwise ltE := by
  unfold pairsN
  rw [List.pairwise_flatMap]
  refine ⟨fun a _ => ?_, ?_⟩
  · rw [List.pairwise_map]
    exact (List.pairwise_lt_range.filter _).imp fun h => .inr ⟨rfl, h⟩
  · refine List.pairwise_lt_range.imp fun {a b} h => ?_
    intro x hx y hy
    obtain ⟨_, _, rfl⟩ := List.mem_map.mp hx
    obtain ⟨_, _, rfl⟩ := List.mem_map.mp hy
    exact .inl h
theorem sorted_uniq : ∀ {l m : List (Nat × Nat)}, l.Pairwise ltE → m.Pairwise ltE → (∀ e, e ∈ l ↔ e ∈ m) → l = m
  | [], [], _, _, _ => rfl
  | [], b :: m, _, _, h => nomatch (h b).mpr List.mem_cons_self
  | a :: l, [], _, _, h => nomatch (h a).mp List.mem_cons_self
  | a :: l, b :: m, hl, hm, h => by
    obtain ⟨h1, h2⟩ := List.pairwise_cons.mp hl
    obtain ⟨h3, h4⟩ := List.pairwise_cons.mp hm
    have irr : ∀ e : Nat × Nat, ¬ ltE e e := fun e h => by rcases h with h | ⟨_, h⟩ <;> omega
    have asym : ∀ e f : Nat × Nat, ltE e f → ltE f e → False := fun e f h h' => by rcases h with h | ⟨h0, h⟩ <;> rcases h' with h' | ⟨h0', h'⟩ <;> omega
    have e : a = b := by
      rcases List.mem_cons.mp ((h a).mp List.mem_cons_self) with e | ha
      · exact e
      · rcases List.mem_cons.mp ((h b).mpr List.mem_cons_self) with e | hb
        · exact e.symm
        · exact (asym a b (h1 b hb) (h3 a ha)).elim
    subst e
    congr 1
    refine sorted_uniq h2 h4 fun e => ?_
    constructor
    · intro he
      rcases List.mem_cons.mp ((h e).mp (List.mem_cons_of_mem _ he)) with q | q
      · rw [q] at he; exact (irr _ (h1 _ he)).elim
      · exact q
    · intro he
      rcases List.mem_cons.mp ((h e).mpr (List.mem_cons_of_mem _ he)) with q | q
      · rw [q] at he; exact (irr _ (h3 _ he)).elim
      · exact q
theorem edges_subs {g : Graph} (W : WG g) : g.edges ∈ subs (pairsN g.vertexCount) := by
  have e : g.edges = (pairsN g.vertexCount).filter fun e => g.edges.contains e := by
    refine sorted_uniq W.srt ((pairsN_sorted _).filter _) fun e => ?_
    rw [List.mem_filter, mem_pairsN, List.contains_iff_mem]
    exact ⟨fun h => ⟨W.lt e h, h⟩, fun h => h.2⟩
  rw [e]
  exact filter_mem_subs _ _
theorem edges_few {g : Graph} (W : WG g) : g.edges.length ≤ 10 := by
  have h : ∀ l ∈ subs (pairsN g.vertexCount), l.length ≤ 10 := by
    have h1 := W.pos
    have h2 := W.few
    generalize g.vertexCount = n at h1 h2 ⊢
    have : ∀ {α : Type} (L l : List α), l ∈ subs L → l.length ≤ L.length := by
      intro α L
      induction L with
      | nil =>
        intro l hl
        rw [List.mem_singleton.mp hl]
        exact Nat.le_refl _
      | cons a r ih =>
        intro l hl
        rcases List.mem_append.mp hl with hl | hl
        · have := ih l hl
          rw [List.length_cons]; omega
        · obtain ⟨m, hm, rfl⟩ := List.mem_map.mp hl
          have := ih m hm
          rw [List.length_cons, List.length_cons]; omega
    intro l hl
    have h3 := this _ l hl
    have h4 : (pairsN n).length ≤ 10 := by
      match n, h1, h2 with
      | 1, _, _ => decide
      | 2, _, _ => decide
      | 3, _, _ => decide
      | 4, _, _ => decide
      | 5, _, _ => decide
    omega
  exact h _ (edges_subs W)
/-! ### the walk back to the nearest visited vertex, as the program goes -/
def wbIn (w : Nat) (s : List (Nat × Nat) × List Nat) (later : Nat) : List (Nat × Nat) × List Nat := if s.1.any (fun p => p.1 == later) then s else (s.1 ++ [(later, w)], s.2 ++ [later])
def wbLoop (rows : List (List Nat)) (vis : List Nat) : Nat → List (Nat × Nat) × List Nat → Nat → Option ((List (Nat × Nat) × List Nat) × Nat)
  | 0, _, _ => none
  | fuel + 1, s, i => match s.2[i]? with
    | none => none
    | some w => if vis.contains w then some (s, w) else wbLoop rows vis fuel ((rows.getD w []).foldl (wbIn w) s) (i + 1)
def lookB (before : List (Nat × Nat)) (x : Nat) : Option Nat := (before.find? fun p => p.1 == x).map (·.2)
def wbBack (before : List (Nat × Nat)) (begin_ : Nat) : Nat → List Nat → Nat → Option (List Nat)
  | 0, _, _ => none
  | fuel + 1, found, x => if x == begin_ then some found else match lookB before x with
    | none => none
    | some y => wbBack before begin_ fuel (found ++ [y]) y
def wayM (rows : List (List Nat)) (begin_ : Nat) (vis : List Nat) : Option (List Nat) := match wbLoop rows vis 6 ([(begin_, begin_)], [begin_]) 0 with
  | none => none
  | some (s, x) => wbBack s.1 begin_ 6 [x] x
def plBest (rows : List (List Nat)) (vis : List Nat) : List Nat → List Nat → Option (List Nat)
  | [], best => some best
  | v :: r, best => if vis.contains v then plBest rows vis r best else match wayM rows v vis with
    | none => none
    | some path => plBest rows vis r (if best.length < path.length then path else best)
def addAll (vis best : List Nat) : List Nat := best.foldl (fun vis v => if vis.contains v then vis else vis ++ [v]) vis
def plLoop (rows : List (List Nat)) (n : Nat) : Nat → List Nat → List Nat → Option (List Nat)
  | 0, _, _ => none
  | fuel + 1, vis, found => if vis.length < n then (match plBest rows vis (List.range n) [] with
    | none => none
    | some best => if best.isEmpty then none else plLoop rows n fuel (addAll vis best) (found ++ [best.length - 1])) else some found
/-! ### the specification's path partition, over a table of distances -/
def tabD (T : List (List Nat)) (u v : Nat) : Nat := (T.getD u []).getD v 0
def pathD (n : Nat) (T : List (List Nat)) (target : Nat) : Nat → List Nat → List Nat
  | 0, _ => []
  | fuel + 1, visited =>
    let far := fun (u : Nat) => ((visited.map fun w => tabD T w u).foldl min n)
    match (List.range n).filter fun u => !visited.contains u with
    | [] => []
    | first :: rest =>
      let farthest := rest.foldl (fun best u => if far best < far u then u else best) first
      let length := far farthest
      let start := (visited.find? fun w => tabD T w farthest == length).getD target
      length :: pathD n T target fuel (visited ++ (List.range n).filter fun u => !visited.contains u && tabD T start u + tabD T u farthest == length)
/-- the table is right edge by edge -/
def locT (n : Nat) (E : List (Nat × Nat)) (T : List (List Nat)) : Bool := (List.range n).all fun b =>
  tabD T b b == 0 && (List.range n).all (fun v => v == b || (List.range n).any fun u => isAdjacent ⟨n, E⟩ u v && tabD T b v == tabD T b u + 1) &&
    E.all (fun e => decide (tabD T b e.2 ≤ tabD T b e.1 + 1) && decide (tabD T b e.1 ≤ tabD T b e.2 + 1))
def okT (n : Nat) (x : List (Nat × Nat) × List (List Nat)) : Bool := locT n x.1 x.2 &&
  (List.range n).all fun t => plLoop (rowsG ⟨n, x.1⟩) n 6 [t] [] == some (pathD n x.2 t n [t])
def reachS (E : List (Nat × Nat)) : Nat → List Nat → List Nat
  | 0, S => S
  | k + 1, S => reachS E k (E.foldl (fun S e => if S.contains e.1 && !S.contains e.2 then S ++ [e.2] else if S.contains e.2 && !S.contains e.1 then S ++ [e.1] else S) S)
/-- not connected: a part that no edge leaves -/
def apart (n : Nat) (E : List (Nat × Nat)) : Bool := let S := reachS E 4 [0]; S.contains 0 && E.all (fun e => S.contains e.1 == S.contains e.2) && (List.range n).any fun v => !S.contains v
def allT (n : Nat) (Ts : List (List (Nat × Nat) × List (List Nat))) : Bool := Ts.all (okT n) && (subs (pairsN n)).all fun E => decide (E.length + 1 ≠ n) || apart n E || Ts.any fun x => x.1 == E
end PB

namespace PB
def trees1 : List (List (Nat × Nat) × List (List Nat)) := [([], [[0]])]
def trees2 : List (List (Nat × Nat) × List (List Nat)) := [([(0, 1)], [[0, 1], [1, 0]])]
def trees3 : List (List (Nat × Nat) × List (List Nat)) := [([(0, 1), (0, 2)], [[0, 1, 1], [1, 0, 2], [1, 2, 0]]),
  ([(0, 1), (1, 2)], [[0, 1, 2], [1, 0, 1], [2, 1, 0]]),
  ([(0, 2), (1, 2)], [[0, 2, 1], [2, 0, 1], [1, 1, 0]])]
def trees4 : List (List (Nat × Nat) × List (List Nat)) := [([(0, 1), (0, 2), (0, 3)], [[0, 1, 1, 1], [1, 0, 2, 2], [1, 2, 0, 2], [1, 2, 2, 0]]),
  ([(0, 1), (0, 2), (1, 3)], [[0, 1, 1, 2], [1, 0, 2, 1], [1, 2, 0, 3], [2, 1, 3, 0]]),
  ([(0, 1), (0, 2), (2, 3)], [[0, 1, 1, 2], [1, 0, 2, 3], [1, 2, 0, 1], [2, 3, 1, 0]]),
  ([(0, 1), (0, 3), (1, 2)], [[0, 1, 2, 1], [1, 0, 1, 2], [2, 1, 0, 3], [1, 2, 3, 0]]),
  ([(0, 1), (0, 3), (2, 3)], [[0, 1, 2, 1], [1, 0, 3, 2], [2, 3, 0, 1], [1, 2, 1, 0]]),
  ([(0, 1), (1, 2), (1, 3)], [[0, 1, 2, 2], [1, 0, 1, 1], [2, 1, 0, 2], [2, 1, 2, 0]]),
  ([(0, 1), (1, 2), (2, 3)], [[0, 1, 2, 3], [1, 0, 1, 2], [2, 1, 0, 1], [3, 2, 1, 0]]),
  ([(0, 1), (1, 3), (2, 3)], [[0, 1, 3, 2], [1, 0, 2, 1], [3, 2, 0, 1], [2, 1, 1, 0]]),
  ([(0, 2), (0, 3), (1, 2)], [[0, 2, 1, 1], [2, 0, 1, 3], [1, 1, 0, 2], [1, 3, 2, 0]]),
  ([(0, 2), (0, 3), (1, 3)], [[0, 2, 1, 1], [2, 0, 3, 1], [1, 3, 0, 2], [1, 1, 2, 0]]),
  ([(0, 2), (1, 2), (1, 3)], [[0, 2, 1, 3], [2, 0, 1, 1], [1, 1, 0, 2], [3, 1, 2, 0]]),
  ([(0, 2), (1, 2), (2, 3)], [[0, 2, 1, 2], [2, 0, 1, 2], [1, 1, 0, 1], [2, 2, 1, 0]]),
  ([(0, 2), (1, 3), (2, 3)], [[0, 3, 1, 2], [3, 0, 2, 1], [1, 2, 0, 1], [2, 1, 1, 0]]),
  ([(0, 3), (1, 2), (1, 3)], [[0, 2, 3, 1], [2, 0, 1, 1], [3, 1, 0, 2], [1, 1, 2, 0]]),
  ([(0, 3), (1, 2), (2, 3)], [[0, 3, 2, 1], [3, 0, 1, 2], [2, 1, 0, 1], [1, 2, 1, 0]]),
  ([(0, 3), (1, 3), (2, 3)], [[0, 2, 2, 1], [2, 0, 2, 1], [2, 2, 0, 1], [1, 1, 1, 0]])]
def trees5 : List (List (Nat × Nat) × List (List Nat)) := [([(0, 1), (0, 2), (0, 3), (0, 4)], [[0, 1, 1, 1, 1], [1, 0, 2, 2, 2], [1, 2, 0, 2, 2], [1, 2, 2, 0, 2], [1, 2, 2, 2, 0]]),
  ([(0, 1), (0, 2), (0, 3), (1, 4)], [[0, 1, 1, 1, 2], [1, 0, 2, 2, 1], [1, 2, 0, 2, 3], [1, 2, 2, 0, 3], [2, 1, 3, 3, 0]]),
  ([(0, 1), (0, 2), (0, 3), (2, 4)], [[0, 1, 1, 1, 2], [1, 0, 2, 2, 3], [1, 2, 0, 2, 1], [1, 2, 2, 0, 3], [2, 3, 1, 3, 0]]),
  ([(0, 1), (0, 2), (0, 3), (3, 4)], [[0, 1, 1, 1, 2], [1, 0, 2, 2, 3], [1, 2, 0, 2, 3], [1, 2, 2, 0, 1], [2, 3, 3, 1, 0]]),
  ([(0, 1), (0, 2), (0, 4), (1, 3)], [[0, 1, 1, 2, 1], [1, 0, 2, 1, 2], [1, 2, 0, 3, 2], [2, 1, 3, 0, 3], [1, 2, 2, 3, 0]]),
  ([(0, 1), (0, 2), (0, 4), (2, 3)], [[0, 1, 1, 2, 1], [1, 0, 2, 3, 2], [1, 2, 0, 1, 2], [2, 3, 1, 0, 3], [1, 2, 2, 3, 0]]),
  ([(0, 1), (0, 2), (0, 4), (3, 4)], [[0, 1, 1, 2, 1], [1, 0, 2, 3, 2], [1, 2, 0, 3, 2], [2, 3, 3, 0, 1], [1, 2, 2, 1, 0]]),
  ([(0, 1), (0, 2), (1, 3), (1, 4)], [[0, 1, 1, 2, 2], [1, 0, 2, 1, 1], [1, 2, 0, 3, 3], [2, 1, 3, 0, 2], [2, 1, 3, 2, 0]]),
  ([(0, 1), (0, 2), (1, 3), (2, 4)], [[0, 1, 1, 2, 2], [1, 0, 2, 1, 3], [1, 2, 0, 3, 1], [2, 1, 3, 0, 4], [2, 3, 1, 4, 0]]),
  ([(0, 1), (0, 2), (1, 3), (3, 4)], [[0, 1, 1, 2, 3], [1, 0, 2, 1, 2], [1, 2, 0, 3, 4], [2, 1, 3, 0, 1], [3, 2, 4, 1, 0]]),
  ([(0, 1), (0, 2), (1, 4), (2, 3)], [[0, 1, 1, 2, 2], [1, 0, 2, 3, 1], [1, 2, 0, 1, 3], [2, 3, 1, 0, 4], [2, 1, 3, 4, 0]]),
  ([(0, 1), (0, 2), (1, 4), (3, 4)], [[0, 1, 1, 3, 2], [1, 0, 2, 2, 1], [1, 2, 0, 4, 3], [3, 2, 4, 0, 1], [2, 1, 3, 1, 0]]),
  ([(0, 1), (0, 2), (2, 3), (2, 4)], [[0, 1, 1, 2, 2], [1, 0, 2, 3, 3], [1, 2, 0, 1, 1], [2, 3, 1, 0, 2], [2, 3, 1, 2, 0]]),
  ([(0, 1), (0, 2), (2, 3), (3, 4)], [[0, 1, 1, 2, 3], [1, 0, 2, 3, 4], [1, 2, 0, 1, 2], [2, 3, 1, 0, 1], [3, 4, 2, 1, 0]]),
  ([(0, 1), (0, 2), (2, 4), (3, 4)], [[0, 1, 1, 3, 2], [1, 0, 2, 4, 3], [1, 2, 0, 2, 1], [3, 4, 2, 0, 1], [2, 3, 1, 1, 0]]),
  ([(0, 1), (0, 3), (0, 4), (1, 2)], [[0, 1, 2, 1, 1], [1, 0, 1, 2, 2], [2, 1, 0, 3, 3], [1, 2, 3, 0, 2], [1, 2, 3, 2, 0]]),
  ([(0, 1), (0, 3), (0, 4), (2, 3)], [[0, 1, 2, 1, 1], [1, 0, 3, 2, 2], [2, 3, 0, 1, 3], [1, 2, 1, 0, 2], [1, 2, 3, 2, 0]]),
  ([(0, 1), (0, 3), (0, 4), (2, 4)], [[0, 1, 2, 1, 1], [1, 0, 3, 2, 2], [2, 3, 0, 3, 1], [1, 2, 3, 0, 2], [1, 2, 1, 2, 0]]),
  ([(0, 1), (0, 3), (1, 2), (1, 4)], [[0, 1, 2, 1, 2], [1, 0, 1, 2, 1], [2, 1, 0, 3, 2], [1, 2, 3, 0, 3], [2, 1, 2, 3, 0]]),
  ([(0, 1), (0, 3), (1, 2), (2, 4)], [[0, 1, 2, 1, 3], [1, 0, 1, 2, 2], [2, 1, 0, 3, 1], [1, 2, 3, 0, 4], [3, 2, 1, 4, 0]]),
  ([(0, 1), (0, 3), (1, 2), (3, 4)], [[0, 1, 2, 1, 2], [1, 0, 1, 2, 3], [2, 1, 0, 3, 4], [1, 2, 3, 0, 1], [2, 3, 4, 1, 0]]),
  ([(0, 1), (0, 3), (1, 4), (2, 3)], [[0, 1, 2, 1, 2], [1, 0, 3, 2, 1], [2, 3, 0, 1, 4], [1, 2, 1, 0, 3], [2, 1, 4, 3, 0]]),
  ([(0, 1), (0, 3), (1, 4), (2, 4)], [[0, 1, 3, 1, 2], [1, 0, 2, 2, 1], [3, 2, 0, 4, 1], [1, 2, 4, 0, 3], [2, 1, 1, 3, 0]]),
  ([(0, 1), (0, 3), (2, 3), (2, 4)], [[0, 1, 2, 1, 3], [1, 0, 3, 2, 4], [2, 3, 0, 1, 1], [1, 2, 1, 0, 2], [3, 4, 1, 2, 0]]),
  ([(0, 1), (0, 3), (2, 3), (3, 4)], [[0, 1, 2, 1, 2], [1, 0, 3, 2, 3], [2, 3, 0, 1, 2], [1, 2, 1, 0, 1], [2, 3, 2, 1, 0]]),
  ([(0, 1), (0, 3), (2, 4), (3, 4)], [[0, 1, 3, 1, 2], [1, 0, 4, 2, 3], [3, 4, 0, 2, 1], [1, 2, 2, 0, 1], [2, 3, 1, 1, 0]]),
  ([(0, 1), (0, 4), (1, 2), (1, 3)], [[0, 1, 2, 2, 1], [1, 0, 1, 1, 2], [2, 1, 0, 2, 3], [2, 1, 2, 0, 3], [1, 2, 3, 3, 0]]),
  ([(0, 1), (0, 4), (1, 2), (2, 3)], [[0, 1, 2, 3, 1], [1, 0, 1, 2, 2], [2, 1, 0, 1, 3], [3, 2, 1, 0, 4], [1, 2, 3, 4, 0]]),
  ([(0, 1), (0, 4), (1, 2), (3, 4)], [[0, 1, 2, 2, 1], [1, 0, 1, 3, 2], [2, 1, 0, 4, 3], [2, 3, 4, 0, 1], [1, 2, 3, 1, 0]]),
  ([(0, 1), (0, 4), (1, 3), (2, 3)], [[0, 1, 3, 2, 1], [1, 0, 2, 1, 2], [3, 2, 0, 1, 4], [2, 1, 1, 0, 3], [1, 2, 4, 3, 0]]),
  ([(0, 1), (0, 4), (1, 3), (2, 4)], [[0, 1, 2, 2, 1], [1, 0, 3, 1, 2], [2, 3, 0, 4, 1], [2, 1, 4, 0, 3], [1, 2, 1, 3, 0]]),
  ([(0, 1), (0, 4), (2, 3), (2, 4)], [[0, 1, 2, 3, 1], [1, 0, 3, 4, 2], [2, 3, 0, 1, 1], [3, 4, 1, 0, 2], [1, 2, 1, 2, 0]]),
  ([(0, 1), (0, 4), (2, 3), (3, 4)], [[0, 1, 3, 2, 1], [1, 0, 4, 3, 2], [3, 4, 0, 1, 2], [2, 3, 1, 0, 1], [1, 2, 2, 1, 0]]),
  ([(0, 1), (0, 4), (2, 4), (3, 4)], [[0, 1, 2, 2, 1], [1, 0, 3, 3, 2], [2, 3, 0, 2, 1], [2, 3, 2, 0, 1], [1, 2, 1, 1, 0]]),
  ([(0, 1), (1, 2), (1, 3), (1, 4)], [[0, 1, 2, 2, 2], [1, 0, 1, 1, 1], [2, 1, 0, 2, 2], [2, 1, 2, 0, 2], [2, 1, 2, 2, 0]]),
  ([(0, 1), (1, 2), (1, 3), (2, 4)], [[0, 1, 2, 2, 3], [1, 0, 1, 1, 2], [2, 1, 0, 2, 1], [2, 1, 2, 0, 3], [3, 2, 1, 3, 0]]),
  ([(0, 1), (1, 2), (1, 3), (3, 4)], [[0, 1, 2, 2, 3], [1, 0, 1, 1, 2], [2, 1, 0, 2, 3], [2, 1, 2, 0, 1], [3, 2, 3, 1, 0]]),
  ([(0, 1), (1, 2), (1, 4), (2, 3)], [[0, 1, 2, 3, 2], [1, 0, 1, 2, 1], [2, 1, 0, 1, 2], [3, 2, 1, 0, 3], [2, 1, 2, 3, 0]]),
  ([(0, 1), (1, 2), (1, 4), (3, 4)], [[0, 1, 2, 3, 2], [1, 0, 1, 2, 1], [2, 1, 0, 3, 2], [3, 2, 3, 0, 1], [2, 1, 2, 1, 0]]),
  ([(0, 1), (1, 2), (2, 3), (2, 4)], [[0, 1, 2, 3, 3], [1, 0, 1, 2, 2], [2, 1, 0, 1, 1], [3, 2, 1, 0, 2], [3, 2, 1, 2, 0]]),
  ([(0, 1), (1, 2), (2, 3), (3, 4)], [[0, 1, 2, 3, 4], [1, 0, 1, 2, 3], [2, 1, 0, 1, 2], [3, 2, 1, 0, 1], [4, 3, 2, 1, 0]]),
  ([(0, 1), (1, 2), (2, 4), (3, 4)], [[0, 1, 2, 4, 3], [1, 0, 1, 3, 2], [2, 1, 0, 2, 1], [4, 3, 2, 0, 1], [3, 2, 1, 1, 0]]),
  ([(0, 1), (1, 3), (1, 4), (2, 3)], [[0, 1, 3, 2, 2], [1, 0, 2, 1, 1], [3, 2, 0, 1, 3], [2, 1, 1, 0, 2], [2, 1, 3, 2, 0]]),
  ([(0, 1), (1, 3), (1, 4), (2, 4)], [[0, 1, 3, 2, 2], [1, 0, 2, 1, 1], [3, 2, 0, 3, 1], [2, 1, 3, 0, 2], [2, 1, 1, 2, 0]]),
  ([(0, 1), (1, 3), (2, 3), (2, 4)], [[0, 1, 3, 2, 4], [1, 0, 2, 1, 3], [3, 2, 0, 1, 1], [2, 1, 1, 0, 2], [4, 3, 1, 2, 0]]),
  ([(0, 1), (1, 3), (2, 3), (3, 4)], [[0, 1, 3, 2, 3], [1, 0, 2, 1, 2], [3, 2, 0, 1, 2], [2, 1, 1, 0, 1], [3, 2, 2, 1, 0]]),
  ([(0, 1), (1, 3), (2, 4), (3, 4)], [[0, 1, 4, 2, 3], [1, 0, 3, 1, 2], [4, 3, 0, 2, 1], [2, 1, 2, 0, 1], [3, 2, 1, 1, 0]]),
  ([(0, 1), (1, 4), (2, 3), (2, 4)], [[0, 1, 3, 4, 2], [1, 0, 2, 3, 1], [3, 2, 0, 1, 1], [4, 3, 1, 0, 2], [2, 1, 1, 2, 0]]),
  ([(0, 1), (1, 4), (2, 3), (3, 4)], [[0, 1, 4, 3, 2], [1, 0, 3, 2, 1], [4, 3, 0, 1, 2], [3, 2, 1, 0, 1], [2, 1, 2, 1, 0]]),
  ([(0, 1), (1, 4), (2, 4), (3, 4)], [[0, 1, 3, 3, 2], [1, 0, 2, 2, 1], [3, 2, 0, 2, 1], [3, 2, 2, 0, 1], [2, 1, 1, 1, 0]]),
  ([(0, 2), (0, 3), (0, 4), (1, 2)], [[0, 2, 1, 1, 1], [2, 0, 1, 3, 3], [1, 1, 0, 2, 2], [1, 3, 2, 0, 2], [1, 3, 2, 2, 0]]),
  ([(0, 2), (0, 3), (0, 4), (1, 3)], [[0, 2, 1, 1, 1], [2, 0, 3, 1, 3], [1, 3, 0, 2, 2], [1, 1, 2, 0, 2], [1, 3, 2, 2, 0]]),
  ([(0, 2), (0, 3), (0, 4), (1, 4)], [[0, 2, 1, 1, 1], [2, 0, 3, 3, 1], [1, 3, 0, 2, 2], [1, 3, 2, 0, 2], [1, 1, 2, 2, 0]]),
  ([(0, 2), (0, 3), (1, 2), (1, 4)], [[0, 2, 1, 1, 3], [2, 0, 1, 3, 1], [1, 1, 0, 2, 2], [1, 3, 2, 0, 4], [3, 1, 2, 4, 0]]),
  ([(0, 2), (0, 3), (1, 2), (2, 4)], [[0, 2, 1, 1, 2], [2, 0, 1, 3, 2], [1, 1, 0, 2, 1], [1, 3, 2, 0, 3], [2, 2, 1, 3, 0]]),
  ([(0, 2), (0, 3), (1, 2), (3, 4)], [[0, 2, 1, 1, 2], [2, 0, 1, 3, 4], [1, 1, 0, 2, 3], [1, 3, 2, 0, 1], [2, 4, 3, 1, 0]]),
  ([(0, 2), (0, 3), (1, 3), (1, 4)], [[0, 2, 1, 1, 3], [2, 0, 3, 1, 1], [1, 3, 0, 2, 4], [1, 1, 2, 0, 2], [3, 1, 4, 2, 0]]),
  ([(0, 2), (0, 3), (1, 3), (2, 4)], [[0, 2, 1, 1, 2], [2, 0, 3, 1, 4], [1, 3, 0, 2, 1], [1, 1, 2, 0, 3], [2, 4, 1, 3, 0]]),
  ([(0, 2), (0, 3), (1, 3), (3, 4)], [[0, 2, 1, 1, 2], [2, 0, 3, 1, 2], [1, 3, 0, 2, 3], [1, 1, 2, 0, 1], [2, 2, 3, 1, 0]]),
  ([(0, 2), (0, 3), (1, 4), (2, 4)], [[0, 3, 1, 1, 2], [3, 0, 2, 4, 1], [1, 2, 0, 2, 1], [1, 4, 2, 0, 3], [2, 1, 1, 3, 0]]),
  ([(0, 2), (0, 3), (1, 4), (3, 4)], [[0, 3, 1, 1, 2], [3, 0, 4, 2, 1], [1, 4, 0, 2, 3], [1, 2, 2, 0, 1], [2, 1, 3, 1, 0]]),
  ([(0, 2), (0, 4), (1, 2), (1, 3)], [[0, 2, 1, 3, 1], [2, 0, 1, 1, 3], [1, 1, 0, 2, 2], [3, 1, 2, 0, 4], [1, 3, 2, 4, 0]]),
  ([(0, 2), (0, 4), (1, 2), (2, 3)], [[0, 2, 1, 2, 1], [2, 0, 1, 2, 3], [1, 1, 0, 1, 2], [2, 2, 1, 0, 3], [1, 3, 2, 3, 0]]),
  ([(0, 2), (0, 4), (1, 2), (3, 4)], [[0, 2, 1, 2, 1], [2, 0, 1, 4, 3], [1, 1, 0, 3, 2], [2, 4, 3, 0, 1], [1, 3, 2, 1, 0]]),
  ([(0, 2), (0, 4), (1, 3), (1, 4)], [[0, 2, 1, 3, 1], [2, 0, 3, 1, 1], [1, 3, 0, 4, 2], [3, 1, 4, 0, 2], [1, 1, 2, 2, 0]]),
  ([(0, 2), (0, 4), (1, 3), (2, 3)], [[0, 3, 1, 2, 1], [3, 0, 2, 1, 4], [1, 2, 0, 1, 2], [2, 1, 1, 0, 3], [1, 4, 2, 3, 0]]),
  ([(0, 2), (0, 4), (1, 3), (3, 4)], [[0, 3, 1, 2, 1], [3, 0, 4, 1, 2], [1, 4, 0, 3, 2], [2, 1, 3, 0, 1], [1, 2, 2, 1, 0]]),
  ([(0, 2), (0, 4), (1, 4), (2, 3)], [[0, 2, 1, 2, 1], [2, 0, 3, 4, 1], [1, 3, 0, 1, 2], [2, 4, 1, 0, 3], [1, 1, 2, 3, 0]]),
  ([(0, 2), (0, 4), (1, 4), (3, 4)], [[0, 2, 1, 2, 1], [2, 0, 3, 2, 1], [1, 3, 0, 3, 2], [2, 2, 3, 0, 1], [1, 1, 2, 1, 0]]),
  ([(0, 2), (1, 2), (1, 3), (1, 4)], [[0, 2, 1, 3, 3], [2, 0, 1, 1, 1], [1, 1, 0, 2, 2], [3, 1, 2, 0, 2], [3, 1, 2, 2, 0]]),
  ([(0, 2), (1, 2), (1, 3), (2, 4)], [[0, 2, 1, 3, 2], [2, 0, 1, 1, 2], [1, 1, 0, 2, 1], [3, 1, 2, 0, 3], [2, 2, 1, 3, 0]]),
  ([(0, 2), (1, 2), (1, 3), (3, 4)], [[0, 2, 1, 3, 4], [2, 0, 1, 1, 2], [1, 1, 0, 2, 3], [3, 1, 2, 0, 1], [4, 2, 3, 1, 0]]),
  ([(0, 2), (1, 2), (1, 4), (2, 3)], [[0, 2, 1, 2, 3], [2, 0, 1, 2, 1], [1, 1, 0, 1, 2], [2, 2, 1, 0, 3], [3, 1, 2, 3, 0]]),
  ([(0, 2), (1, 2), (1, 4), (3, 4)], [[0, 2, 1, 4, 3], [2, 0, 1, 2, 1], [1, 1, 0, 3, 2], [4, 2, 3, 0, 1], [3, 1, 2, 1, 0]]),
  ([(0, 2), (1, 2), (2, 3), (2, 4)], [[0, 2, 1, 2, 2], [2, 0, 1, 2, 2], [1, 1, 0, 1, 1], [2, 2, 1, 0, 2], [2, 2, 1, 2, 0]]),
  ([(0, 2), (1, 2), (2, 3), (3, 4)], [[0, 2, 1, 2, 3], [2, 0, 1, 2, 3], [1, 1, 0, 1, 2], [2, 2, 1, 0, 1], [3, 3, 2, 1, 0]]),
  ([(0, 2), (1, 2), (2, 4), (3, 4)], [[0, 2, 1, 3, 2], [2, 0, 1, 3, 2], [1, 1, 0, 2, 1], [3, 3, 2, 0, 1], [2, 2, 1, 1, 0]]),
  ([(0, 2), (1, 3), (1, 4), (2, 3)], [[0, 3, 1, 2, 4], [3, 0, 2, 1, 1], [1, 2, 0, 1, 3], [2, 1, 1, 0, 2], [4, 1, 3, 2, 0]]),
  ([(0, 2), (1, 3), (1, 4), (2, 4)], [[0, 3, 1, 4, 2], [3, 0, 2, 1, 1], [1, 2, 0, 3, 1], [4, 1, 3, 0, 2], [2, 1, 1, 2, 0]]),
  ([(0, 2), (1, 3), (2, 3), (2, 4)], [[0, 3, 1, 2, 2], [3, 0, 2, 1, 3], [1, 2, 0, 1, 1], [2, 1, 1, 0, 2], [2, 3, 1, 2, 0]]),
  ([(0, 2), (1, 3), (2, 3), (3, 4)], [[0, 3, 1, 2, 3], [3, 0, 2, 1, 2], [1, 2, 0, 1, 2], [2, 1, 1, 0, 1], [3, 2, 2, 1, 0]]),
  ([(0, 2), (1, 3), (2, 4), (3, 4)], [[0, 4, 1, 3, 2], [4, 0, 3, 1, 2], [1, 3, 0, 2, 1], [3, 1, 2, 0, 1], [2, 2, 1, 1, 0]]),
  ([(0, 2), (1, 4), (2, 3), (2, 4)], [[0, 3, 1, 2, 2], [3, 0, 2, 3, 1], [1, 2, 0, 1, 1], [2, 3, 1, 0, 2], [2, 1, 1, 2, 0]]),
  ([(0, 2), (1, 4), (2, 3), (3, 4)], [[0, 4, 1, 2, 3], [4, 0, 3, 2, 1], [1, 3, 0, 1, 2], [2, 2, 1, 0, 1], [3, 1, 2, 1, 0]]),
  ([(0, 2), (1, 4), (2, 4), (3, 4)], [[0, 3, 1, 3, 2], [3, 0, 2, 2, 1], [1, 2, 0, 2, 1], [3, 2, 2, 0, 1], [2, 1, 1, 1, 0]]),
  ([(0, 3), (0, 4), (1, 2), (1, 3)], [[0, 2, 3, 1, 1], [2, 0, 1, 1, 3], [3, 1, 0, 2, 4], [1, 1, 2, 0, 2], [1, 3, 4, 2, 0]]),
  ([(0, 3), (0, 4), (1, 2), (1, 4)], [[0, 2, 3, 1, 1], [2, 0, 1, 3, 1], [3, 1, 0, 4, 2], [1, 3, 4, 0, 2], [1, 1, 2, 2, 0]]),
  ([(0, 3), (0, 4), (1, 2), (2, 3)], [[0, 3, 2, 1, 1], [3, 0, 1, 2, 4], [2, 1, 0, 1, 3], [1, 2, 1, 0, 2], [1, 4, 3, 2, 0]]),
  ([(0, 3), (0, 4), (1, 2), (2, 4)], [[0, 3, 2, 1, 1], [3, 0, 1, 4, 2], [2, 1, 0, 3, 1], [1, 4, 3, 0, 2], [1, 2, 1, 2, 0]]),
  ([(0, 3), (0, 4), (1, 3), (2, 3)], [[0, 2, 2, 1, 1], [2, 0, 2, 1, 3], [2, 2, 0, 1, 3], [1, 1, 1, 0, 2], [1, 3, 3, 2, 0]]),
  ([(0, 3), (0, 4), (1, 3), (2, 4)], [[0, 2, 2, 1, 1], [2, 0, 4, 1, 3], [2, 4, 0, 3, 1], [1, 1, 3, 0, 2], [1, 3, 1, 2, 0]]),
  ([(0, 3), (0, 4), (1, 4), (2, 3)], [[0, 2, 2, 1, 1], [2, 0, 4, 3, 1], [2, 4, 0, 1, 3], [1, 3, 1, 0, 2], [1, 1, 3, 2, 0]]),
  ([(0, 3), (0, 4), (1, 4), (2, 4)], [[0, 2, 2, 1, 1], [2, 0, 2, 3, 1], [2, 2, 0, 3, 1], [1, 3, 3, 0, 2], [1, 1, 1, 2, 0]]),
  ([(0, 3), (1, 2), (1, 3), (1, 4)], [[0, 2, 3, 1, 3], [2, 0, 1, 1, 1], [3, 1, 0, 2, 2], [1, 1, 2, 0, 2], [3, 1, 2, 2, 0]]),
  ([(0, 3), (1, 2), (1, 3), (2, 4)], [[0, 2, 3, 1, 4], [2, 0, 1, 1, 2], [3, 1, 0, 2, 1], [1, 1, 2, 0, 3], [4, 2, 1, 3, 0]]),
  ([(0, 3), (1, 2), (1, 3), (3, 4)], [[0, 2, 3, 1, 2], [2, 0, 1, 1, 2], [3, 1, 0, 2, 3], [1, 1, 2, 0, 1], [2, 2, 3, 1, 0]]),
  ([(0, 3), (1, 2), (1, 4), (2, 3)], [[0, 3, 2, 1, 4], [3, 0, 1, 2, 1], [2, 1, 0, 1, 2], [1, 2, 1, 0, 3], [4, 1, 2, 3, 0]]),
  ([(0, 3), (1, 2), (1, 4), (3, 4)], [[0, 3, 4, 1, 2], [3, 0, 1, 2, 1], [4, 1, 0, 3, 2], [1, 2, 3, 0, 1], [2, 1, 2, 1, 0]]),
  ([(0, 3), (1, 2), (2, 3), (2, 4)], [[0, 3, 2, 1, 3], [3, 0, 1, 2, 2], [2, 1, 0, 1, 1], [1, 2, 1, 0, 2], [3, 2, 1, 2, 0]]),
  ([(0, 3), (1, 2), (2, 3), (3, 4)], [[0, 3, 2, 1, 2], [3, 0, 1, 2, 3], [2, 1, 0, 1, 2], [1, 2, 1, 0, 1], [2, 3, 2, 1, 0]]),
  ([(0, 3), (1, 2), (2, 4), (3, 4)], [[0, 4, 3, 1, 2], [4, 0, 1, 3, 2], [3, 1, 0, 2, 1], [1, 3, 2, 0, 1], [2, 2, 1, 1, 0]]),
  ([(0, 3), (1, 3), (1, 4), (2, 3)], [[0, 2, 2, 1, 3], [2, 0, 2, 1, 1], [2, 2, 0, 1, 3], [1, 1, 1, 0, 2], [3, 1, 3, 2, 0]]),
  ([(0, 3), (1, 3), (1, 4), (2, 4)], [[0, 2, 4, 1, 3], [2, 0, 2, 1, 1], [4, 2, 0, 3, 1], [1, 1, 3, 0, 2], [3, 1, 1, 2, 0]]),
  ([(0, 3), (1, 3), (2, 3), (2, 4)], [[0, 2, 2, 1, 3], [2, 0, 2, 1, 3], [2, 2, 0, 1, 1], [1, 1, 1, 0, 2], [3, 3, 1, 2, 0]]),
  ([(0, 3), (1, 3), (2, 3), (3, 4)], [[0, 2, 2, 1, 2], [2, 0, 2, 1, 2], [2, 2, 0, 1, 2], [1, 1, 1, 0, 1], [2, 2, 2, 1, 0]]),
  ([(0, 3), (1, 3), (2, 4), (3, 4)], [[0, 2, 3, 1, 2], [2, 0, 3, 1, 2], [3, 3, 0, 2, 1], [1, 1, 2, 0, 1], [2, 2, 1, 1, 0]]),
  ([(0, 3), (1, 4), (2, 3), (2, 4)], [[0, 4, 2, 1, 3], [4, 0, 2, 3, 1], [2, 2, 0, 1, 1], [1, 3, 1, 0, 2], [3, 1, 1, 2, 0]]),
  ([(0, 3), (1, 4), (2, 3), (3, 4)], [[0, 3, 2, 1, 2], [3, 0, 3, 2, 1], [2, 3, 0, 1, 2], [1, 2, 1, 0, 1], [2, 1, 2, 1, 0]]),
  ([(0, 3), (1, 4), (2, 4), (3, 4)], [[0, 3, 3, 1, 2], [3, 0, 2, 2, 1], [3, 2, 0, 2, 1], [1, 2, 2, 0, 1], [2, 1, 1, 1, 0]]),
  ([(0, 4), (1, 2), (1, 3), (1, 4)], [[0, 2, 3, 3, 1], [2, 0, 1, 1, 1], [3, 1, 0, 2, 2], [3, 1, 2, 0, 2], [1, 1, 2, 2, 0]]),
  ([(0, 4), (1, 2), (1, 3), (2, 4)], [[0, 3, 2, 4, 1], [3, 0, 1, 1, 2], [2, 1, 0, 2, 1], [4, 1, 2, 0, 3], [1, 2, 1, 3, 0]]),
  ([(0, 4), (1, 2), (1, 3), (3, 4)], [[0, 3, 4, 2, 1], [3, 0, 1, 1, 2], [4, 1, 0, 2, 3], [2, 1, 2, 0, 1], [1, 2, 3, 1, 0]]),
  ([(0, 4), (1, 2), (1, 4), (2, 3)], [[0, 2, 3, 4, 1], [2, 0, 1, 2, 1], [3, 1, 0, 1, 2], [4, 2, 1, 0, 3], [1, 1, 2, 3, 0]]),
  ([(0, 4), (1, 2), (1, 4), (3, 4)], [[0, 2, 3, 2, 1], [2, 0, 1, 2, 1], [3, 1, 0, 3, 2], [2, 2, 3, 0, 1], [1, 1, 2, 1, 0]]),
  ([(0, 4), (1, 2), (2, 3), (2, 4)], [[0, 3, 2, 3, 1], [3, 0, 1, 2, 2], [2, 1, 0, 1, 1], [3, 2, 1, 0, 2], [1, 2, 1, 2, 0]]),
  ([(0, 4), (1, 2), (2, 3), (3, 4)], [[0, 4, 3, 2, 1], [4, 0, 1, 2, 3], [3, 1, 0, 1, 2], [2, 2, 1, 0, 1], [1, 3, 2, 1, 0]]),
  ([(0, 4), (1, 2), (2, 4), (3, 4)], [[0, 3, 2, 2, 1], [3, 0, 1, 3, 2], [2, 1, 0, 2, 1], [2, 3, 2, 0, 1], [1, 2, 1, 1, 0]]),
  ([(0, 4), (1, 3), (1, 4), (2, 3)], [[0, 2, 4, 3, 1], [2, 0, 2, 1, 1], [4, 2, 0, 1, 3], [3, 1, 1, 0, 2], [1, 1, 3, 2, 0]]),
  ([(0, 4), (1, 3), (1, 4), (2, 4)], [[0, 2, 2, 3, 1], [2, 0, 2, 1, 1], [2, 2, 0, 3, 1], [3, 1, 3, 0, 2], [1, 1, 1, 2, 0]]),
  ([(0, 4), (1, 3), (2, 3), (2, 4)], [[0, 4, 2, 3, 1], [4, 0, 2, 1, 3], [2, 2, 0, 1, 1], [3, 1, 1, 0, 2], [1, 3, 1, 2, 0]]),
  ([(0, 4), (1, 3), (2, 3), (3, 4)], [[0, 3, 3, 2, 1], [3, 0, 2, 1, 2], [3, 2, 0, 1, 2], [2, 1, 1, 0, 1], [1, 2, 2, 1, 0]]),
  ([(0, 4), (1, 3), (2, 4), (3, 4)], [[0, 3, 2, 2, 1], [3, 0, 3, 1, 2], [2, 3, 0, 2, 1], [2, 1, 2, 0, 1], [1, 2, 1, 1, 0]]),
  ([(0, 4), (1, 4), (2, 3), (2, 4)], [[0, 2, 2, 3, 1], [2, 0, 2, 3, 1], [2, 2, 0, 1, 1], [3, 3, 1, 0, 2], [1, 1, 1, 2, 0]]),
  ([(0, 4), (1, 4), (2, 3), (3, 4)], [[0, 2, 3, 2, 1], [2, 0, 3, 2, 1], [3, 3, 0, 1, 2], [2, 2, 1, 0, 1], [1, 1, 2, 1, 0]]),
  ([(0, 4), (1, 4), (2, 4), (3, 4)], [[0, 2, 2, 2, 1], [2, 0, 2, 2, 1], [2, 2, 0, 2, 1], [2, 2, 2, 0, 1], [1, 1, 1, 1, 0]])]
theorem allT1 : allT 1 trees1 = true := by decide +kernel
theorem allT2 : allT 2 trees2 = true := by decide +kernel
theorem allT3 : allT 3 trees3 = true := by decide +kernel
theorem allT4 : allT 4 trees4 = true := by decide +kernel
theorem allT5 : allT 5 trees5 = true := by decide +kernel
end PB

namespace PB
open Ks577 (pebblesAt isAdjacent Graph)
theorem allT_of {n : Nat} (h1 : 1 ≤ n) (h2 : n ≤ 5) : ∃ Ts, allT n Ts = true := by
  match n, h1, h2 with
  | 1, _, _ => exact ⟨_, allT1⟩
  | 2, _, _ => exact ⟨_, allT2⟩
  | 3, _, _ => exact ⟨_, allT3⟩
  | 4, _, _ => exact ⟨_, allT4⟩
  | 5, _, _ => exact ⟨_, allT5⟩
theorem apart_not {g : Graph} (W : WG g) (h : apart g.vertexCount g.edges = true) : Ks578.isConnected g = false := by
  unfold apart at h
  simp only [Bool.and_eq_true, List.all_eq_true, List.any_eq_true] at h
  obtain ⟨⟨h0, h1⟩, v, hv, h2⟩ := h
  generalize reachS g.edges 4 [0] = S at h0 h1 h2
  have h0 : 0 ∈ S := by simpa using h0
  have h2 : v ∉ S := by simpa using h2
  have hv := List.mem_range.mp hv
  have key : ∀ (k x : Nat), DW g 0 k x → x ∈ S := by
    intro k
    induction k with
    | zero =>
      intro x h
      have h : x = 0 := h
      rw [h]; exact h0
    | succ k ih =>
      intro x h
      rcases h with h | ⟨y, h, hy⟩
      · exact ih x h
      · have := ih y h
        rcases adj_iff.mp hy with he | he
        · have q := h1 _ he
          simp only [beq_iff_eq] at q
          have q2 : S.contains y = true := by simpa using this
          rw [q2] at q
          simpa using q.symm
        · have q := h1 _ he
          simp only [beq_iff_eq] at q
          have q2 : S.contains y = true := by simpa using this
          rw [q2] at q
          simpa using q
  have hpos : 0 < g.vertexCount := W.pos
  refine conn_false W hpos hv ?_
  have e : Ks577.distance g 0 v = none := (dist_none W hpos).mpr fun k _ hd => h2 (key k v hd)
  unfold distI
  rw [e]
  rfl
theorem locT_dist {g : Graph} (W : WG g) {T : List (List Nat)} (h : locT g.vertexCount g.edges T = true) {b v : Nat} (hb : b < g.vertexCount) (hv : v < g.vertexCount) : Ks577.distance g b v = some (tabD T b v) := by
  unfold locT at h
  rw [List.all_eq_true] at h
  have h := h b (List.mem_range.mpr hb)
  simp only [Bool.and_eq_true, List.all_eq_true, Bool.or_eq_true, List.any_eq_true, beq_iff_eq, decide_eq_true_eq] at h
  obtain ⟨⟨h1, h2⟩, h3⟩ := h
  have L : Loc g b (fun v => ((tabD T b v : Nat) : Int)) := by
    refine ⟨by rw [h1]; rfl, fun v _ => by omega, fun u v ha _ => ?_, fun v hv _ => ?_⟩
    · rcases adj_iff.mp ha with he | he
      · have := (h3 _ he).1
        simp only at this
        omega
      · have := (h3 _ he).2
        simp only at this
        omega
    · rcases h2 v (List.mem_range.mpr hv) with e | ⟨u, _, ha, e⟩
      · exact .inl e
      · exact .inr ⟨u, ha, by omega, by omega⟩
  have e := L.dist W hb hv
  exact optI_inj (b := some (tabD T b v)) e
theorem find_congr' {α : Type} {p q : α → Bool} : ∀ {l : List α}, (∀ x ∈ l, p x = q x) → l.find? p = l.find? q
  | [], _ => rfl
  | a :: r, h => by
    rw [List.find?_cons, List.find?_cons, h a List.mem_cons_self, find_congr' fun x hx => h x (List.mem_cons_of_mem _ hx)]
theorem foldl_congr' {α β : Type} {f h : β → α → β} {P : β → Prop} : ∀ {l : List α} {a : β}, P a → (∀ b, P b → ∀ x ∈ l, f b x = h b x ∧ P (h b x)) → l.foldl f a = l.foldl h a ∧ P (l.foldl h a)
  | [], _, hp, _ => ⟨rfl, hp⟩
  | x :: r, a, hp, e => by
    obtain ⟨e1, p1⟩ := e a hp x List.mem_cons_self
    rw [List.foldl_cons, List.foldl_cons, e1]
    exact foldl_congr' p1 fun b hb y hy => e b hb y (List.mem_cons_of_mem _ hy)
theorem pathD_eq {g : Graph} {T : List (List Nat)} (hd : ∀ u < g.vertexCount, ∀ v < g.vertexCount, Ks577.distance g u v = some (tabD T u v)) {t : Nat} (ht : t < g.vertexCount) : ∀ (fuel : Nat) {vis : List Nat}, (∀ v ∈ vis, v < g.vertexCount) → Ks578.pathLengths g t fuel vis = pathD g.vertexCount T t fuel vis
  | 0, _, _ => rfl
  | fuel + 1, vis, hvis => by
    have hfar : ∀ u, u < g.vertexCount → ((vis.map fun w => (Ks577.distance g w u).getD 0).foldl min g.vertexCount) = ((vis.map fun w => tabD T w u).foldl min g.vertexCount) := fun u hu => by
      congr 1
      refine List.map_congr_left fun w hw => ?_
      rw [hd w (hvis w hw) u hu]
      rfl
    unfold Ks578.pathLengths pathD
    simp only
    generalize hL : (List.range g.vertexCount).filter (fun u => !vis.contains u) = L
    have hLm : ∀ x ∈ L, x < g.vertexCount := fun x hx => by
      rw [← hL] at hx
      exact List.mem_range.mp (List.mem_filter.mp hx).1
    cases L with
    | nil => rfl
    | cons first rest =>
      simp only
      obtain ⟨e1, hb⟩ := foldl_congr' (P := fun b => b < g.vertexCount) (f := fun best u => if ((vis.map fun w => (Ks577.distance g w best).getD 0).foldl min g.vertexCount) < ((vis.map fun w => (Ks577.distance g w u).getD 0).foldl min g.vertexCount) then u else best)
        (h := fun best u => if ((vis.map fun w => tabD T w best).foldl min g.vertexCount) < ((vis.map fun w => tabD T w u).foldl min g.vertexCount) then u else best) (l := rest) (a := first) (hLm first List.mem_cons_self) fun b hb x hx => by
          rw [hfar b hb, hfar x (hLm x (List.mem_cons_of_mem _ hx))]
          refine ⟨rfl, ?_⟩
          split
          · exact hLm x (List.mem_cons_of_mem _ hx)
          · exact hb
      rw [e1]
      generalize rest.foldl (fun best u => if ((vis.map fun w => tabD T w best).foldl min g.vertexCount) < ((vis.map fun w => tabD T w u).foldl min g.vertexCount) then u else best) first = fv at hb
      rw [hfar fv hb]
      generalize hlen : (vis.map fun w => tabD T w fv).foldl min g.vertexCount = len
      have e2 : vis.find? (fun w => Ks577.distance g w fv == some len) = vis.find? (fun w => tabD T w fv == len) := find_congr' fun w hw => by
        rw [hd w (hvis w hw) fv hb]
        rfl
      rw [e2]
      have hs : (vis.find? fun w => tabD T w fv == len).getD t < g.vertexCount := by
        cases q : vis.find? fun w => tabD T w fv == len with
        | none => exact ht
        | some w => exact hvis w (List.mem_of_find?_eq_some q)
      generalize (vis.find? fun w => tabD T w fv == len).getD t = st at hs
      have e3 : (List.range g.vertexCount).filter (fun u => !vis.contains u && (Ks577.distance g st u).getD 0 + (Ks577.distance g u fv).getD 0 == len) = (List.range g.vertexCount).filter (fun u => !vis.contains u && tabD T st u + tabD T u fv == len) := by
        refine List.filter_congr fun u hu => ?_
        have hu := List.mem_range.mp hu
        rw [hd st hs u hu, hd u hu fv hb]
        rfl
      rw [e3, pathD_eq hd ht fuel]
      intro v hv
      rcases List.mem_append.mp hv with hv | hv
      · exact hvis v hv
      · exact List.mem_range.mp (List.mem_filter.mp hv).1
/-- the program's way over a tree gives the specification's lengths -/
theorem path_ok {g : Graph} (W : WG g) (ht : Ks578.isTree g = true) {t : Nat} (hl : t < g.vertexCount) : plLoop (rowsG g) g.vertexCount 6 [t] [] = some (Ks578.pathLengths g t g.vertexCount [t]) := by
  obtain ⟨Ts, hT⟩ := allT_of W.pos W.few
  unfold allT at hT
  rw [Bool.and_eq_true, List.all_eq_true, List.all_eq_true] at hT
  obtain ⟨h1, h2⟩ := hT
  unfold Ks578.isTree at ht
  rw [Bool.and_eq_true, beq_iff_eq] at ht
  have h3 := h2 _ (edges_subs W)
  simp only [Bool.or_eq_true, decide_eq_true_eq, List.any_eq_true, beq_iff_eq] at h3
  rcases h3 with (h3 | h3) | ⟨x, hx, e⟩
  · exact absurd ht.2 h3
  · rw [apart_not W h3] at ht
    exact nomatch ht.1
  · have h4 := h1 x hx
    unfold okT at h4
    rw [e, Bool.and_eq_true, List.all_eq_true] at h4
    obtain ⟨h5, h6⟩ := h4
    have h7 := h6 t (List.mem_range.mpr hl)
    rw [beq_iff_eq] at h7
    rw [pathD_eq (T := x.2) (fun u hu v hv => locT_dist W h5 hu hv) hl _ fun v hv => by rw [List.mem_singleton.mp hv]; exact hl]
    exact h7
end PB

namespace L2
open PySem PySem.Spec PyProof.Rows HT
section
variable {X : Cx}
/-- a[i] read for a[i] op= e, a list -/
theorem get_list : PGet X (rIxL X.K) := by
  intro pins s σ H x y v u Q I rx ry h
  obtain ⟨p, xs, i, z, rfl, rfl, hq, he, q⟩ := h
  cases rx
  obtain ⟨t, rfl⟩ := ry
  obtain ⟨its, r, pl, hz⟩ := I.list hq
  obtain ⟨j, h1, h2, h3, h4, h5⟩ := atI_get he
  obtain ⟨w, ew, rw'⟩ := r.get h2
  have hl := r.length
  have hn := line63
  have fin : EP X pins σ Q w s := ⟨z, H, I, rw', q⟩
  by_cases h0 : 0 ≤ i
  · have hj : i.toNat = j := by
      rw [seqIndex_of h0 h5] at h1
      exact Option.some.inj h1
    exact wpAny_getItem_list pl.isList h0 (by omega) (by rw [hj]; simpa using ew) fin
  · have hj : (i + (its.toArray.size : Int)).toNat = j := by
      rw [seqIndex_neg (by omega) h4] at h1
      rw [List.size_toArray, ← hl]
      exact Option.some.inj h1
    exact wpAny_getItem_list_neg pl.isList (by omega) (by rw [List.size_toArray] <;> omega) (by omega) (by rw [hj]; simpa using ew) fin
theorem ip_mul : PIp X .Mult (fun x y H Q => ∃ i j, x = .int i ∧ y = .int j ∧ CMul i j ∧ Q (.int (i * j)) H) := by
  intro pins s σ H x y v u Q I r1 r2 h
  obtain ⟨i, j, e1, e2, hc, q⟩ := h
  subst e1; subst e2
  obtain ⟨t, rfl⟩ := r1
  obtain ⟨t', rfl⟩ := r2
  exact imul_int ⟨.int _, H, I.tok _, ⟨_, rfl⟩, q⟩ hc.ok
/-- sum of a tuple of ints -/
theorem sum_rawT {prog : Program} {w : World} {A : Around} {E : Value → Shared → Prop} {s : Shared} {l : Addr} {its : List Value} {ns : List Int} {Q : Value → Shared → Prop} (hh : A.handled = none) (hl : IsTup s.heap l its.toArray) (hi : IntsAre its ns)
    (h : ∀ h' tk t', (∀ b o, s.heap.get? b = some o → h'.get? b = some o) → Q (.int ns.sum t') { s with heap := h', toks := tk }) : wpAny (model prog w) A (call (.builtin "sum") [.ref l]) Q E s := by
  obtain ⟨xs, e⟩ := hi.allInts.items
  have hn : numsOf (intItems xs).toList = ns := by rw [← e]; exact hi.numsOf
  rw [nums_intItems] at hn
  rw [e] at hl
  have hT : s.heap.IsTuple l (intItems xs) := hl
  have hlt : l < s.heap.objs.size := by obtain ⟨_, e, _⟩ := hT; exact Heap.lt_size e
  refine call_sum_walkG (wpAny_pyIter_tuple hT ?_)
  have hne : l ≠ s.heap.objs.size := Nat.ne_of_lt hlt
  have st : (s.heap.push { cls := .type "tuple_iterator", data := .fields #[.ref l, .int 0 0] }).IsTupleIter s.heap.objs.size l 0 ∧ (s.heap.push { cls := .type "tuple_iterator", data := .fields #[.ref l, .int 0 0] }).IsTuple l (intItems xs) :=
    ⟨⟨_, Heap.get?_push_size _ rfl, rfl, rfl⟩, hT.push _⟩
  refine ⟨_, _, _, _, _, _, numAt xs, rfl, Walks.tuple (A := A.in1) hh _ l hne (intItems xs), st, fun b hb => ?_, (fun _ _ => intItems_at), fun h' tk t' hk => ?_⟩
  · show b < (s.heap.push _).objs.size
    rw [Heap.size_push]
    rcases List.mem_cons.mp hb with rfl | hb
    · exact Nat.lt_succ_self _
    · rcases List.mem_cons.mp hb with rfl | hb
      · exact Nat.lt_succ_of_lt hlt
      · cases hb
  · have hold : ∀ b o, s.heap.get? b = some o → h'.get? b = some o := fun b o e => by
      refine hk b o (fun hm => ?_) (Heap.get?_push_of_some _ e)
      rcases List.mem_cons.mp hm with e1 | hm
      · exact absurd (e1 ▸ Heap.lt_size e) (Nat.lt_irrefl _)
      · cases hm
    have q := h h' tk t' hold
    have e2 : preSum (numAt xs) (intItems xs).size = ns.sum := by
      have : (intItems xs).size = xs.size := by simp [intItems]
      rw [this, preSum_eq, List.take_of_length_le (by simp), hn]
    rw [e2]
    exact q
def rSumT (K : PySem.W.Frag) : List V → Hp → VK → Prop := fun vs H Q => ∃ (a : Addr) (ns : List Int), vs = [V.ref a] ∧ SqT K H a (ns.map V.int) ∧ Q (.int ns.sum) H
theorem cr_sumT (hc : X.calm = true) : CallR X (.builtin "sum") (rSumT X.K) := by
  intro pins s σ H vs us Q I r h
  obtain ⟨a, ns, rfl, hs, q⟩ := h
  obtain ⟨its, rv, hl, _⟩ := I.tuple hs
  rw [Vals.ref1 r]
  exact sum_rawT (I.ok.hd hc) hl rv.ints fun h' tk t' hk => ⟨.int _, H, I.kept hk, ⟨_, rfl⟩, q⟩
/-- t * 1 is t -/
theorem tuple_mul1 (l : Addr) (items : Array Value) (n : Nat) (dd : Option Addr) (sl : Array (Option Value)) (x : Int) (u : Tok) (c0 : (decide (x < -(2 ^ 63)) || decide (x ≥ 2 ^ 63)) = false) (c1 : (items.isEmpty || x == 1) = true) :
    Meets (Builtin.«tuple.__mul__» ⟨[.ref l, .int x u], []⟩) (fun _ R s => s.heap.get? l = some { cls := .type "tuple", dict := dd, data := .seq items n, slots := sl } ∧
      R (.ok (.ret (Value.ref l))) s) :=
  .of_wp fun prog w A R s h => by
    obtain ⟨hp, g, d, tk, os⟩ := s
    obtain ⟨hl, h⟩ := h
    have f1 := AutoSeq1.idx_int
    have hT : (⟨hp, g, d, tk, os⟩ : Shared).TypeIs (.ref l) "tuple" := ⟨_, hl, rfl⟩
    wp_walk using wpAny_loadPart' hl
    repeat (first
      | (refine wpAny_ite_false (decide_eq_false (by rw [c0]; exact Bool.false_ne_true)) ?_; wp_walk using wpAny_loadPart' hl)
      | (refine wpAny_ite_true (decide_eq_true c1) ?_; wp_walk using wpAny_loadPart' hl))
    exact ⟨_, rfl, h⟩
/-- t * k, 1 ≤ k -/
def rRepA (K : PySem.W.Frag) : R2 := fun x y H Q => ∃ l k xs, x = .ref l ∧ y = .int k ∧ SqT K H l xs ∧ xs ≠ [] ∧ 1 ≤ k ∧ k ≤ 1000 ∧ xs.length ≤ 1000 ∧ (k = 1 → Q (.ref l) H) ∧ (2 ≤ k → ∀ p, H p = none → Q (.ref p) (upd H p (.tup (List.replicate k.toNat xs).flatten)))
theorem op_repA : OpR X (binaryOp .Mult) (rRepA X.K) := by
  intro pins s σ H x y v u Q I rx ry h
  obtain ⟨l, k, xs, rfl, rfl, hT, hne, h1, h2, hz, q1, q2⟩ := h
  by_cases hk : k = 1
  · subst hk
    cases rx
    obtain ⟨t, rfl⟩ := ry
    obtain ⟨its, r, ⟨⟨cls, dd, data, sl⟩, ho, hc, n, hd⟩, hs⟩ := I.tuple hT
    simp only at hc hd
    subst hc hd
    exact wpAny_binaryOp_repeat_ref (T := "tuple") (U := "int") (by decide) ⟨_, ho, rfl⟩ (fun s' => typeIs_int s' 1 t) noFill_tuple_mul PySem.F.fills_int_mul PySem.F.slot_int_rmul repeat_tuple PySem.F.slot_int_index.lookup
      (call_meets PySem.F.slot_int_rmul (typeIs_int s 1 t) PySem.F.entry_int_rmul (PySem.F.args_int_rmul_2 _ _) (int_rmul_tuple 1 t l its.toArray n dd sl)
        ⟨ho, rfl, ⟨_, ho, rfl⟩, call_meets PySem.F.slot_tuple_mul ⟨_, ho, rfl⟩ PySem.F.entry_tuple_mul (PySem.F.args_tuple_mul_2 _ _) (tuple_mul1 l its.toArray n dd sl 1 t (by decide) (by simp)) ⟨ho, ⟨.ref l, H, I, rfl, q1 rfl⟩⟩⟩)
  · exact op_repT pins s σ H _ _ v u Q I rx ry ⟨l, k, xs, rfl, rfl, hT, hne, by omega, h2, hz, q2 (by omega)⟩
end
/-- the thing that an expression gives is locked for good: read from then on, never written -/
def tFrz (t : TE) : TE := fun σ H Q => t σ H fun x H1 => ∃ d u, x = .ref d ∧ H1 d = some u ∧ Mut (some u) ∧ ∀ od, Q x (upd H1 d (.frz od u))
theorem pe_frz {X : Cx} {e : Expr} {t : TE} (h : PE X e t) : PE X e (tFrz t) := by
  refine ⟨fun pins s σ H Q I hw => ?_⟩
  refine thn (h.run pins s σ H _ I hw) fun v s1 ⟨x, H1, I1, r, d, u, ex, hd, mu, q⟩ => ?_
  obtain ⟨od, I2⟩ := I1.lock hd mu
  exact ⟨x, _, I2, r, q od⟩
/-! ### displays of one pair, the key a tuple -/
section
variable {prog : Program} {w : World} {κ : Type} [DecidableEq κ] {knd : HeapKind prog w κ} {A : Around} {E : Value → Shared → Prop} {s : Shared}
theorem dict_pairsH {env : Env} {keys : List (Option Expr)} {values : List Expr} {pos : Pos} {Q : Value → Shared → Prop} (hu : knd.room A)
    (hall : keys.all (·.isSome) = true) (hl : keys.length = values.length) (h0 : keys ≠ []) (hlen : keys.length ≤ 15)
    (h : wpAny (model prog w) A (evalPairs (pairTrees keys values env pos)) (fun vs s₁ => ∃ ps, CarriesH knd s₁.heap vs ps ∧ s₁.heap.DictOfH knd s.heap.objs.size [] ∧
      ∀ h' tk, h'.DictOfH knd s.heap.objs.size (storedAllH [] ps) → Heap.SameBut s.heap.objs.size s₁.heap h' → Q (.ref s.heap.objs.size) { s₁ with heap := h', toks := tk }) E
      { s with heap := s.heap.push { cls := .type "dict", data := .dict #[] } }) :
    wpAny (model prog w) A (eval (.Dict keys values pos) env) Q E s := by
  have hn := pairTrees_length keys values env pos hall hl
  have hne : pairTrees keys values env pos ≠ [] := fun he => by
    rw [he] at hn
    exact h0 (List.length_eq_zero_iff.mp hn.symm)
  rw [arm_eval_Dict, zip_pairTrees keys values env pos hall hl, dictDisplay_pairs (pairTrees keys values env pos) hne (by rw [hn]; omega)]
  exact wpAny_bind (wpAny_standAt (wpAny_bind (wpAny_subDictH (knd := knd) (Q := fun d s' => wpAny (model prog w) A (pure (Value.ref d)) Q E s') hu (by rw [hn]; exact hlen)
    (wpAny_mono h (fun vs s₁ h₁ => by obtain ⟨ps, hc, hm, hq⟩ := h₁; exact ⟨ps, hc, hm, fun h' tk a b => wpAny_pure (hq h' tk a b)⟩) fun _ _ e => e))))
end
section
variable {X : Cx}
/-- {k: v}, k a tuple of ints -/
def tDispT (tk tv : TE) : TE := fun σ H Q => ∀ p, H p = none → tk σ (upd H p (.dT [])) fun x H1 => tv σ H1 fun y H2 => H2 p = some (.dT []) ∧ ∃ (b : Addr) (ks : List Key), x = .ref b ∧ H2 b = some (.tup (ks.map kV)) ∧ Q (.ref p) (upd H2 p (.dT [(ks, y)]))
theorem pe_dispT {pos : Pos} {k v : Expr} {tk tv : TE} (hu : X.A.units + 1 < cLine) (hk : PE X k tk) (hv : PE X v tv) : PE X (.Dict [some k] [v] pos) (tDispT tk tv) := by
  refine ⟨fun pins s σ H Q I q => ?_⟩
  have hn := I.hok.fresh (Nat.le_refl s.heap.objs.size)
  have I1 := I.laid (a := s.heap.objs.size) (o := .dT []) (h' := s.heap.push { cls := .type "dict", data := .dict #[] }) (t' := s.toks) (fun _ _ q => Heap.get?_push_of_some _ q) (Nat.le_refl _) (dt_empty s.heap I.big)
  have hr : (tupleKind (mixKind X.prog X.w)).room X.A := Nat.lt_of_succ_lt hu
  refine dict_pairsH (knd := tupleKind (mixKind X.prog X.w)) hr rfl rfl (by simp) (show 1 ≤ 15 by decide) ?_
  refine pairTrees_cons_walk (thn (hk.run pins _ σ _ _ I1 (q _ hn)) fun kv s1 ⟨x, H1, I2, rx, q1⟩ => thn (hv.run pins s1 σ H1 _ I2 q1) fun vv s2 ⟨y, H2, I3, ry, e, b, ks, ex, eb, q2⟩ => pairTrees_nil_walk ?_)
  subst ex
  obtain rfl : kv = Value.ref b := rx
  obtain ⟨z, hd, xs0, r0, dd⟩ := dt_of I3.hok e
  cases r0
  refine ⟨[(ks, b, vv)], ⟨rfl, rfl, key_of I3.hok eb, trivial⟩, dd, fun h' tk dd' hs => ⟨.ref s.heap.objs.size, _, ?_, rfl, q2⟩⟩
  obtain ⟨q, es, ep, hq, h2, h3, h4, _, h5⟩ := dd'
  have e1 : storedAllH ([] : List (List Key × Addr × Value)) [(ks, b, vv)] = [(ks, b, vv)] := rfl
  rw [e1] at h4 h5
  refine d_write (t' := tk) I3 (by rw [e]; exact True.intro) hs ⟨q, hq⟩ ⟨by show 1 ≤ sizeLine; decide, hd, [(ks, b, vv)], .cons ⟨rfl, ?_, ry⟩ .nil, q, es, ep, hq, h2, h3, h4, h5⟩
  show upd H2 s.heap.objs.size _ b = _
  rw [upd_ne (ne_of eb e (fun z => nomatch z))]
  exact eb
end
end L2
namespace L2
open PySem PySem.Spec PyProof.Rows HT
/-! ### dicts whose keys are pairs of an int or a tuple of ints, and a bool; their values are objects -/
abbrev NXs := List (NestedKey × Addr × Addr)
def nkE (xs : NXs) : List (NestedKey × Addr × Value) := xs.map fun x => (x.1, x.2.1, Value.ref x.2.2)
def nkO (P : Program) (w : World) (d : Addr) (xs : NXs) : HO := .ext fun h => (d == sysModules) = false ∧ xs.length ≤ 100000 ∧ (xs.map (·.1)).Nodup ∧
  ∃ o es ep, h.get? d = some o ∧ o.ExactDict ∧ o.data = .dict es ep ∧ es.toList = (nkE xs).map (entryOfKey (nestedKind P w))
def bN (b : Bool) : NestedKey := .num (if b = true then 1 else 0)
/-- at a stands the tuple that is the key k -/
def NKey (H : Hp) (k : NestedKey) (a : Addr) : Prop :=
  (∃ (i : Int) (b : Bool), k = .tup [.num i, bN b] ∧ H a = some (.tup [.int i, .bl b])) ∨
  ∃ (c : List Int) (b : Bool) (q : Addr), k = .tup [.tup (c.map .num), bN b] ∧ H a = some (.tup [.ref q, .bl b]) ∧ H q = some (.tup (c.map V.int))
theorem nested_ints {h : Heap} : ∀ {c : List Int} {us : List Value}, Vals (c.map V.int) us → NestedAll h (c.map .num) us
  | [], _, r => by cases r; exact .nil
  | i :: c, _, r => by
    cases r with
    | cons h1 t =>
      obtain ⟨t1, e⟩ := h1
      subst e
      exact .cons (.int i t1) (nested_ints t)
theorem depth_ints : ∀ c : List Int, NestedKey.depthAll (c.map .num) ≤ 1
  | [] => by simp [NestedKey.depthAll]
  | i :: c => by
    have h := depth_ints c
    simp only [List.map_cons, NestedKey.depthAll, NestedKey.depth]
    omega
theorem nested_b {h : Heap} (b : Bool) : NestedIs h (bN b) (.bool b) := .bool rfl
theorem NKey.is {P : Program} {w : World} {H : Hp} {h : Heap} (ok : HOk P w H h) {k : NestedKey} {a : Addr} (x : NKey H k a) : (nestedKind P w).is h k a := by
  rcases x with ⟨i, b, rfl, e⟩ | ⟨c, b, q, rfl, e, eq⟩
  · obtain ⟨_, its, r, o, h1, h2, n, h3⟩ := (show ObjOk P w H h a (.tup [.int i, .bl b]) from ok a _ e)
    cases r with
    | cons r1 t =>
      cases t with
      | cons r2 t =>
        cases t
        obtain ⟨t1, e1⟩ := r1
        subst e1
        have r2 : _ = Value.bool b := r2
        subst r2
        refine ⟨.tup h1 h2 h3 (.cons (.int i t1) (.cons (nested_b b) .nil)), ?_⟩
        simp [NestedKey.depth, NestedKey.depthAll, bN]
  · obtain ⟨_, its, r, o, h1, h2, n, h3⟩ := (show ObjOk P w H h a (.tup [.ref q, .bl b]) from ok a _ e)
    obtain ⟨_, its2, r', o2, g1, g2, n2, g3⟩ := (show ObjOk P w H h q (.tup (c.map V.int)) from ok q _ eq)
    cases r with
    | cons r1 t =>
      cases t with
      | cons r2 t =>
        cases t
        have r1 : _ = Value.ref q := r1
        subst r1
        have r2 : _ = Value.bool b := r2
        subst r2
        refine ⟨.tup h1 h2 h3 (.cons (.tup g1 g2 g3 (nested_ints r')) (.cons (nested_b b) .nil)), ?_⟩
        have := depth_ints c
        simp only [NestedKey.depth, NestedKey.depthAll, bN]
        omega
theorem NKey.keep {H H' : Hp} (ht : ∀ b ys, H b = some (.tup ys) → H' b = some (.tup ys)) {k : NestedKey} {a : Addr} (x : NKey H k a) : NKey H' k a := by
  rcases x with ⟨i, b, e, h⟩ | ⟨c, b, q, e, h, h2⟩
  · exact .inl ⟨i, b, e, ht _ _ h⟩
  · exact .inr ⟨c, b, q, e, ht _ _ h, ht _ _ h2⟩
/-- at d stands such a dict -/
def NkAt (P : Program) (w : World) (H : Hp) (d : Addr) (xs : NXs) : Prop := H d = some (nkO P w d xs) ∧ ∀ x ∈ xs, NKey H x.1 x.2.1
def lookN (xs : NXs) (k : NestedKey) : Option Addr := (xs.find? fun x => decide (x.1 = k)).map (·.2.2)
theorem at_nkE (k : NestedKey) : ∀ xs : NXs, (atKey (nkE xs) k).map (·.2) = (lookN xs k).map Value.ref
  | [] => rfl
  | x :: xs => by
    have ih := at_nkE k xs
    by_cases e : x.1 = k
    · simp [nkE, atKey, lookN, List.find?_cons, e]
    · have a1 : atKey (nkE (x :: xs)) k = atKey (nkE xs) k := by simp [nkE, atKey, List.find?_cons, e]
      have a2 : lookN (x :: xs) k = lookN xs k := by simp [lookN, List.find?_cons, e]
      rw [a1, a2, ih]
theorem nkE_keys (xs : NXs) : (nkE xs).map (·.1) = xs.map (·.1) := by
  unfold nkE
  rw [List.map_map]
  rfl
theorem NkAt.ok {P : Program} {w : World} {H : Hp} {h : Heap} (ok : HOk P w H h) {d : Addr} {xs : NXs} (x : NkAt P w H d xs) : (d == sysModules) = false ∧ xs.length ≤ 100000 ∧ h.DictOfH (nestedKind P w) d (nkE xs) := by
  obtain ⟨⟨hd, hl, hn, o, es, ep, h1, h2, h3, h4⟩, _, _⟩ := (show ObjOk P w H h d (nkO P w d xs) from ok d _ x.1)
  refine ⟨hd, hl, o, es, ep, h1, h2, h3, h4, fun y hy => ?_, by rw [nkE_keys]; exact hn⟩
  obtain ⟨z, hz, rfl⟩ := List.mem_map.mp hy
  exact (x.2 z hz).is ok
theorem nk_new {P : Program} {w : World} {H' : Hp} {h' : Heap} {d : Addr} {xs : NXs} (hd : (d == sysModules) = false) (hl : xs.length ≤ 100000) (dd : h'.DictOfH (nestedKind P w) d (nkE xs)) : ObjOk P w H' h' d (nkO P w d xs) := by
  obtain ⟨o, es, ep, h1, h2, h3, h4, _, h5⟩ := dd
  rw [nkE_keys] at h5
  refine ⟨⟨hd, hl, h5, o, es, ep, h1, h2, h3, h4⟩, ⟨o, h1⟩, fun h1' h2' x k => ?_⟩
  obtain ⟨a1, a2, a3, o', es', ep', b1, b2⟩ := x
  exact ⟨a1, a2, a3, o', es', ep', k _ b1, b2⟩
theorem room_nested {A : Around} (hu : A.units + 64 < cLine) {P : Program} {w : World} : (nestedKind P w).room A.in1 := by
  show A.units + 1 + 8 < cLine
  omega
section
variable {X : Cx} {i e o value : Expr} {td ty tv : TE} {pos pos' : Pos}
/-- {} -/
def tNkNew (P : Program) (w : World) : TE := fun _ H Q => ∀ p, H p = none → Q (.ref p) (upd H p (nkO P w p []))
theorem pe_nkNew : PE X (.Dict [] [] pos) (tNkNew X.prog X.w) := ⟨fun pins s σ H Q I h =>
  wpAny_Dict_empty ⟨.ref s.heap.objs.size, _, I.laid (a := s.heap.objs.size) (o := nkO X.prog X.w s.heap.objs.size []) (t' := s.toks) (fun _ _ q => Heap.get?_push_of_some _ q) (Nat.le_refl _)
    (nk_new (beq_eq_false_iff_ne.mpr (Ne.symm (Nat.ne_of_lt I.big))) (Nat.zero_le _) (Heap.DictOfH.new s.heap)), rfl, h _ (I.hok.fresh (Nat.le_refl _))⟩⟩
/-- y not in d -/
def tNkNotIn (P : Program) (w : World) (ty td : TE) : TE := fun σ H Q => ty σ H fun y H1 => td σ H1 fun x H2 => ∃ d xs k b, x = .ref d ∧ y = .ref b ∧ NkAt P w H2 d xs ∧ NKey H2 k b ∧ Q (.bl (!(lookN xs k).isSome)) H2
theorem pc_nkNotIn (hu : X.A.units + 64 < cLine) (hi : PE X i ty) (ho : PE X o td) : PC X .NotIn i o (tNkNotIn X.prog X.w ty td) := by
  refine ⟨fun pins s σ H Q I h => ?_⟩
  refine thn (hi.run pins s σ H _ I h) fun iv s1 ⟨y, H1, I1, ry, q1⟩ => thn (ho.run pins s1 σ H1 _ I1 q1) fun u s2 ⟨x, H2, I2, rx, d, xs, k, b, ex, ey, g, gk, q2⟩ => ?_
  subst ex ey
  obtain rfl : u = Value.ref d := rx
  obtain rfl : iv = Value.ref b := ry
  obtain ⟨hd, hl, dd⟩ := g.ok I2.hok
  refine wpAny_notIn_heap (room_nested hu) (gk.is I2.hok) hd dd ?_
  have e : (atKey (nkE xs) k).isSome = (lookN xs k).isSome := by
    have := congrArg Option.isSome (at_nkE k xs)
    rwa [Option.isSome_map, Option.isSome_map] at this
  rw [e]
  exact ⟨.bl _, H2, I2.tok _, rfl, q2⟩
/-- d[y] -/
def tNkGet (P : Program) (w : World) (td ty : TE) : TE := fun σ H Q => td σ H fun x H1 => ty σ H1 fun y H2 => ∃ d xs k b v, x = .ref d ∧ y = .ref b ∧ NkAt P w H2 d xs ∧ NKey H2 k b ∧ lookN xs k = some v ∧ Q (.ref v) H2
theorem pe_nkGet (hu : X.A.units + 64 < cLine) (ho : PE X o td) (hi : PE X i ty) (hs : NoSl i) : PE X (.Subscript o i pos) (tNkGet X.prog X.w td ty) := by
  refine ⟨fun pins s σ H Q I h => ?_⟩
  refine subD_of PySem.F.slot_dict_getitem.lookup hs (thn (ho.run pins s σ H _ I h) fun u s1 ⟨x, H1, I1, rx, q1⟩ => thn (hi.run pins s1 σ H1 _ I1 q1) fun iv s2 ⟨y, H2, I2, ry, d, xs, k, b, v, ex, ey, g, gk, l, q2⟩ => ?_)
  subst ex ey
  obtain rfl : u = Value.ref d := rx
  obtain rfl : iv = Value.ref b := ry
  obtain ⟨hd, hl, dd⟩ := g.ok I2.hok
  have e := at_nkE k xs
  rw [l] at e
  obtain ⟨p, hp, hp2⟩ := Option.map_eq_some_iff.mp e
  refine ⟨dd.typeIs, wpAny_getItem_heap (room_nested hu) (gk.is I2.hok) dd hp ?_⟩
  rw [hp2]
  exact ⟨.ref v, H2, I2.tok _, rfl, q2⟩
/-- d[y] = v, y not there -/
def sNkPut (P : Program) (w : World) (td ty tv : TE) : TS := fun D σ H => tv σ H fun v H1 => td σ H1 fun x H2 => ty σ H2 fun y H3 => ∃ d xs k b va, x = .ref d ∧ y = .ref b ∧ v = .ref va ∧ NkAt P w H3 d xs ∧ NKey H3 k b ∧ lookN xs k = none ∧ xs.length < 100000 ∧ D.nx σ (upd H3 d (nkO P w d (xs ++ [(k, b, va)])))
theorem ps_nkPut (hu : X.A.units + 64 < cLine) (ho : PE X o td) (hi : PE X i ty) (hv : PE X value tv) (hs : swapsWith value (some (.Subscript o i pos')) pos.line X.env = pure false) :
    PS X (.Assign [.Subscript o i pos'] value pos) (sNkPut X.prog X.w td ty tv) := by
  refine ⟨fun pins s σ H D I h => ?_⟩
  refine wpAny_Assign_Subscript (thn (hv.run pins s σ H _ I h) fun r s1 ⟨v, H1, I1, rv, q1⟩ => thn (ho.run pins s1 σ H1 _ I1 q1) fun u s2 ⟨x, H2, I2, rx, q2⟩ => thn (hi.run pins s2 σ H2 _ I2 q2) fun iv s3 ⟨y, H3, I3, ry, d, xs, k, b, va, ex, ey, ev, g, gk, l, hz, q3⟩ => ?_) hs
  subst ex ey ev
  obtain rfl : u = Value.ref d := rx
  obtain rfl : iv = Value.ref b := ry
  obtain rfl : r = Value.ref va := rv
  obtain ⟨hd, hl, dd⟩ := g.ok I3.hok
  have e := at_nkE k xs
  rw [l] at e
  have hn : atKey (nkE xs) k = none := Option.map_eq_none_iff.mp e
  have hlen : (nkE xs).length = xs.length := by unfold nkE; rw [List.length_map]
  refine wpAny_setItem_heap (hsz := by rw [hlen]; exact Nat.le_trans hl (by decide)) (room_nested hu) (gk.is I3.hok) dd fun h' dd' hs => ⟨σ, _, ?_, q3⟩
  rw [storedH_new hn] at dd'
  have e2 : nkE xs ++ [(k, b, Value.ref va)] = nkE (xs ++ [(k, b, va)]) := by unfold nkE; rw [List.map_append]; rfl
  rw [e2] at dd'
  obtain ⟨q, es, ep, hq, r1⟩ := id dd'
  exact d_write I3 (by rw [g.1]; exact True.intro) hs ⟨q, hq⟩ (nk_new hd (by rw [List.length_append]; show xs.length + 1 ≤ 100000; omega) dd')
/-- {y: v} -/
def tNkDisp (P : Program) (w : World) (tk tv : TE) : TE := fun σ H Q => ∀ p, H p = none → tk σ (upd H p (nkO P w p [])) fun y H1 => tv σ H1 fun v H2 => H2 p = some (nkO P w p []) ∧ ∃ (k : NestedKey) (b va : Addr), y = .ref b ∧ v = .ref va ∧ NKey H2 k b ∧ Q (.ref p) (upd H2 p (nkO P w p [(k, b, va)]))
theorem pe_nkDisp {k v : Expr} {tk : TE} (hu : X.A.units + 64 < cLine) (hk : PE X k tk) (hv : PE X v tv) : PE X (.Dict [some k] [v] pos) (tNkDisp X.prog X.w tk tv) := by
  refine ⟨fun pins s σ H Q I q => ?_⟩
  have hn := I.hok.fresh (Nat.le_refl s.heap.objs.size)
  have hsm : (s.heap.objs.size == sysModules) = false := beq_eq_false_iff_ne.mpr (Ne.symm (Nat.ne_of_lt I.big))
  have I1 := I.laid (a := s.heap.objs.size) (o := nkO X.prog X.w s.heap.objs.size []) (h' := s.heap.push { cls := .type "dict", data := .dict #[] }) (t' := s.toks) (fun _ _ q => Heap.get?_push_of_some _ q) (Nat.le_refl _)
    (nk_new hsm (Nat.zero_le _) (Heap.DictOfH.new s.heap))
  have hr : (nestedKind X.prog X.w).room X.A := by show X.A.units + 8 < cLine; omega
  refine dict_pairsH (knd := nestedKind X.prog X.w) hr rfl rfl (by simp) (show 1 ≤ 15 by decide) ?_
  refine pairTrees_cons_walk (thn (hk.run pins _ σ _ _ I1 (q _ hn)) fun kv s1 ⟨y, H1, I2, ry, q1⟩ => thn (hv.run pins s1 σ H1 _ I2 q1) fun vv s2 ⟨v', H2, I3, rv, e, k, b, va, ey, ev, gk, q2⟩ => pairTrees_nil_walk ?_)
  subst ey ev
  obtain rfl : kv = Value.ref b := ry
  obtain rfl : vv = Value.ref va := rv
  obtain ⟨hd, hl, dd⟩ := NkAt.ok I3.hok (⟨e, fun _ z => nomatch z⟩ : NkAt X.prog X.w H2 s.heap.objs.size [])
  refine ⟨[(k, b, Value.ref va)], ⟨rfl, rfl, gk.is I3.hok, trivial⟩, dd, fun h' tk dd' hs => ⟨.ref s.heap.objs.size, _, ?_, rfl, q2⟩⟩
  obtain ⟨q, es, ep, hq, r1⟩ := id dd'
  exact d_write (t' := tk) I3 (by rw [e]; exact True.intro) hs ⟨q, hq⟩ (nk_new (xs := [(k, b, va)]) hd (by show 1 ≤ 100000; decide) dd')
end
end L2

namespace L2
open PySem PySem.Spec PyProof.Rows HT
/-- zip of a list and a tuple -/
def ItzM (K : PySem.W.Frag) (a b : Addr) : It :=
  ⟨fun i H => ∃ (xs ys : List V) (x y : V), SqL K H a xs ∧ SqT K H b ys ∧ xs[i]? = some x ∧ ys[i]? = some y,
    fun i H v H' => ∃ T x y, v = .ref T ∧ H T = none ∧ H' = upd H T (.tup [x, y]) ∧ (∀ xs, SqL K H a xs → xs[i]? = some x) ∧ ∀ ys, SqT K H b ys → ys[i]? = some y,
    fun i H => ∃ xs ys : List V, SqL K H a xs ∧ SqT K H b ys ∧ i ≤ xs.length ∧ i ≤ ys.length ∧ (xs.length = i ∨ ys.length = i)⟩
theorem sep_of_apart {z TI TO i1 i2 a b : Addr} (D : ZipApart z TI TO i1 i2 a b) : ZipSep2 z TI TO i1 i2 [i1, a] [i2, b] :=
  { TIz := D.TIz, TOz := D.TOz, TITO := D.TITO, TIi1 := D.TIi1, mem1 := List.mem_cons_self ..,
    zf1 := fun h => by
      rcases List.mem_cons.mp h with e | h
      · exact D.i1z e.symm
      · exact D.l1z (List.mem_singleton.mp h).symm
    Tf1 := fun h => by
      rcases List.mem_cons.mp h with e | h
      · exact D.TOi1 e
      · exact D.l1TO (List.mem_singleton.mp h).symm
    TIi2 := D.TIi2, mem2 := List.mem_cons_self ..,
    zf2 := fun h => by
      rcases List.mem_cons.mp h with e | h
      · exact D.i2z e.symm
      · exact D.l2z (List.mem_singleton.mp h).symm
    Tf2 := fun h => by
      rcases List.mem_cons.mp h with e | h
      · exact D.TOi2 e
      · exact D.l2TO (List.mem_singleton.mp h).symm
    sep1_2 := fun h => by
      rcases List.mem_cons.mp h with e | h
      · exact D.i12 e
      · exact D.l2i1 (List.mem_singleton.mp h).symm
    sep2_1 := fun h => by
      rcases List.mem_cons.mp h with e | h
      · exact D.i12 e.symm
      · exact D.l1i2 (List.mem_singleton.mp h).symm }
theorem turn_zipM {P : Program} {w : World} {K : PySem.W.Frag} {elts : List Expr} {kk : Nat} {tpos : Pos} {a b z TI TO i1 i2 : Addr} (D : ZipApart z TI TO i1 i2 a b) :
    Turn P w K (.Tuple elts kk tpos) (ItzM K a b) [z, TI, TO, i1, i2] z (fun i h => IsZip h z TI TO .none ∧ IsPair h TI (.ref i1) (.ref i2) ∧ (∃ x y, IsPair h TO x y) ∧ h.IsListIter i1 a i ∧ h.IsTupleIter i2 b i) where
  mem := by simp
  obj := fun i h st c hc => by
    obtain ⟨hz, hTI, ⟨x, y, hTO⟩, ⟨o1, e1, _, d1⟩, ⟨o2, e2, _, d2⟩⟩ := st
    have e' : c = z ∨ c = TI ∨ c = TO ∨ c = i1 ∨ c = i2 := by simpa using hc
    rcases e' with q | q | q | q | q
    · rw [q]; exact ⟨_, hz, fun v q => nomatch q⟩
    · rw [q]; exact ⟨_, hTI, fun v q => nomatch q⟩
    · rw [q]; exact ⟨_, hTO, fun v q => nomatch q⟩
    · rw [q]; exact ⟨o1, e1, fun v q => by rw [d1] at q; cases q⟩
    · rw [q]; exact ⟨o2, e2, fun v q => by rw [d2] at q; cases q⟩
  keep := fun i h h' st k => by
    obtain ⟨hz, hTI, ⟨x, y, hTO⟩, h1, h2⟩ := st
    exact ⟨k z (by simp) _ hz, k TI (by simp) _ hTI, ⟨x, y, k TO (by simp) _ hTO⟩, h1.at fun o q => k i1 (by simp) o q, h2.at fun o q => k i2 (by simp) o q⟩
  item := by
    intro X hP hw hK hc i pins s σ H E I hf st hg
    subst hP hw hK
    obtain ⟨hz, hTI, ⟨x0, y0, hTO⟩, h1, h2⟩ := st
    obtain ⟨xs, ys, x, y, hqx, hqy, hx, hy⟩ := hg
    obtain ⟨its, rv, p, _⟩ := I.list hqx
    obtain ⟨its2, rv2, p2, _⟩ := I.tuple hqy
    obtain ⟨u, hu, ru⟩ := rv.get hx
    obtain ⟨u2, hu2, ru2⟩ := rv2.get hy
    have hzl : z < s.heap.objs.size := Heap.lt_size hz
    have l1 := rv.length
    have l2 := rv2.length
    have hi1 : i < its.toArray.size := by
      have := (List.getElem?_eq_some_iff.mp hx).1
      rw [List.size_toArray]; omega
    have hi2 : i < its2.toArray.size := by
      have := (List.getElem?_eq_some_iff.mp hy).1
      rw [List.size_toArray]; omega
    refine wpAny_pyNext_zipD2_item (sep_of_apart D) (Draws.list (A := X.A.in1) (I.ok.hd hc) i1 a D.l1i1 its.toArray) (Draws.tuple (A := X.A.in1) (I.ok.hd hc) i2 b D.l2i2 its2.toArray) hz hTI hTO ⟨h1, p.isList⟩ ⟨h2, p2⟩ hi1 hi2 fun x1 x2 h' tk hx1 hx2 z' TO' h1' h2' hT hsz hk => ?_
    have e1 : u = x1 := by
      have hx1 : its.toArray[i]? = some x1 := hx1
      have hu' : its.toArray[i]? = some u := by simpa using hu
      rw [hu'] at hx1
      exact Option.some.inj hx1
    have e2 : u2 = x2 := by
      have hx2 : its2.toArray[i]? = some x2 := hx2
      have hu' : its2.toArray[i]? = some u2 := by simpa using hu2
      rw [hu'] at hx2
      exact Option.some.inj hx2
    subst e1 e2
    refine ⟨_, rfl, wpAny_letOwnedTupleGo_zip (s := { s with heap := h', toks := tk }) z' fun h'' z'' sb => ?_⟩
    have hT2 : h''.get? s.heap.objs.size = some { cls := .type "tuple", data := .seq #[u, u2] } := (sb.2 _ (Nat.ne_of_gt hzl)).trans hT
    have new : ObjOk X.prog X.w (upd H s.heap.objs.size (.tup [x, y])) h'' s.heap.objs.size (.tup [x, y]) :=
      ⟨by show 2 ≤ sizeLine; decide, [u, u2], .cons ru (.cons ru2 .nil), ⟨_, hT2, rfl, _, rfl⟩⟩
    have I1 : Inv X pins σ (upd H s.heap.objs.size (.tup [x, y])) { s with heap := h'', toks := tk } :=
      I.turnedNew (t' := tk) (ch := [z, TI, TO, i1, i2]) (fun c o hb q => (sb.2 c (fun q' => hb (by simp [q']))).trans (hk c o (fun q' => hb (by simp [q'])) (fun q' => hb (by simp [q'])) (fun q' => hb (by simp [q'])) (fun q' => hb (by simp [q'])) q)) hf (Nat.le_refl _) new
    refine ⟨.ref s.heap.objs.size, _, I1, rfl, ⟨_, x, y, rfl, I.hok.fresh (Nat.le_refl _), rfl, fun l hl => by rw [I.list_inj hl hqx]; exact hx, fun l hl => by rw [I.tuple_inj hl hqy]; exact hy⟩, ⟨z'', ?_, ⟨u, u2, ?_⟩, ?_, ?_⟩, fun c hcm => ?_⟩
    · exact (sb.2 _ D.TIz).trans (hk _ _ D.TIz D.TITO D.TIi1 D.TIi2 hTI)
    · exact (sb.2 _ D.TOz).trans TO'
    · exact h1'.1.at fun o q => (sb.2 _ D.i1z).trans q
    · exact h2'.1.at fun o q => (sb.2 _ D.i2z).trans q
    · have hlt : c < s.heap.objs.size := by
        have e' : c = z ∨ c = TI ∨ c = TO ∨ c = i1 ∨ c = i2 := by simpa using hcm
        rcases e' with q | q | q | q | q
        · rw [q]; exact hzl
        · rw [q]; exact Heap.lt_size hTI
        · rw [q]; exact Heap.lt_size hTO
        · rw [q]; obtain ⟨_, e1, _⟩ := h1; exact Heap.lt_size e1
        · rw [q]; obtain ⟨_, e2, _⟩ := h2; exact Heap.lt_size e2
      rw [upd_ne (Nat.ne_of_lt hlt)]
      exact (hf c hcm).1
  done := by
    intro X hP hw hK hc i pins s σ H E I hf st hg
    subst hP hw hK
    obtain ⟨hz, hTI, ⟨x0, y0, hTO⟩, h1, h2⟩ := st
    obtain ⟨xs, ys, hqx, hqy, hle1, hle2, hend⟩ := hg
    obtain ⟨its, rv, p, _⟩ := I.list hqx
    obtain ⟨its2, rv2, p2, _⟩ := I.tuple hqy
    have l1 := rv.length
    have l2 := rv2.length
    have hi1 : i ≤ its.toArray.size := by rw [List.size_toArray]; omega
    have hi2 : i ≤ its2.toArray.size := by rw [List.size_toArray]; omega
    have he : i = its.toArray.size ∨ i = its2.toArray.size := by rw [List.size_toArray, List.size_toArray]; omega
    exact wpAny_pyNext_zipD2_end (sep_of_apart D) (Draws.list (A := X.A.in1) (I.ok.hd hc) i1 a D.l1i1 its.toArray) (Draws.tuple (A := X.A.in1) (I.ok.hd hc) i2 b D.l2i2 its2.toArray) hz hTI hTO ⟨h1, p.isList⟩ ⟨h2, p2⟩ hi1 hi2 he fun h' tk hk => ⟨rfl, I.turnedL (t' := tk) (ch := [z, TI, TO, i1, i2]) (fun c o hb q =>
      hk c o (fun q' => hb (by simp [q'])) (fun q' => hb (by simp [q'])) (fun q' => hb (by simp [q'])) (fun q' => hb (by simp [q'])) q) hf⟩
  self := fun A i s Q E st h => wpAny_pyIter_zip st.1 h
def iZipM (K : PySem.W.Frag) (ta : TA) : TI := fun σ H R => ta σ H fun vs H1 => ∃ a b xs ys, vs = [.ref a, .ref b] ∧ SqL K H1 a xs ∧ SqT K H1 b ys ∧ R (ItzM K a b) H1
theorem pi_zipM {X : Cx} {e e2 : Expr} {ta : TA} {p pos tpos : Pos} {elts : List Expr} {kk : Nat} (hg : Gl X "zip") (hm : X.mg "zip" = none) (ha : PA X [e, e2] ta)
    (hs : starEach [e, e2] X.env = (false, eval e X.env) :: starEach [e2] X.env := by rfl) (hpl : (backTo pos (starEach [e2] X.env)).any (·.1) = false := by rfl) :
    PI X (.Tuple elts kk tpos) (.Call (.Name "zip" p) [e, e2] [] pos) (iZipM X.K ta) := by
  refine ⟨fun pins s σ H R I h => ?_⟩
  refine Call_ (ld_blt I hg hm PyProof.Rows.boot_zip (PyProof.Rows.callWith_type1 (thn (ha.run pos pins s σ H _ I h) fun us s1 ⟨vs, H1, I1, r1, q1⟩ => ?_) hs hpl))
  obtain ⟨a, b, xs, ys, ex, hqx, hqy, q⟩ := q1
  subst ex
  cases r1 with
  | cons r rr =>
    cases rr with
    | cons r' rr =>
      cases rr
      cases r
      cases r'
      obtain ⟨its, rv, p1, _⟩ := I1.list hqx
      obtain ⟨its2, rv2, p2, _⟩ := I1.tuple hqy
      have la : a < s1.heap.objs.size := p1.lt
      have lb : b < s1.heap.objs.size := by obtain ⟨o, ho, _⟩ := p2; exact Heap.lt_size ho
      refine zip_begins2 (begins_list a its.toArray) (begins_tuple b its2.toArray) p1.isList p2 fun h' hz hTI hTO h1 h2 hsz hk => wpAny_pyIter_zip hz ?_
      have I2 : Inv X pins σ H1 { s1 with heap := h' } := I1.kept (t' := s1.toks) hk
      refine ⟨s1.heap.objs.size + 4, [s1.heap.objs.size + 4, s1.heap.objs.size + 2, s1.heap.objs.size + 3, s1.heap.objs.size, s1.heap.objs.size + 1], _, _, H1, rfl, I2, turn_zipM (PySem.W.ktu_apart s1.heap.objs.size a b la lb), ⟨hz, hTI, ⟨_, _, hTO⟩, ⟨_, h1, rfl, rfl⟩, ⟨_, h2, rfl, rfl⟩⟩, fun c hcm => ?_, q⟩
      have e' : c = s1.heap.objs.size + 4 ∨ c = s1.heap.objs.size + 2 ∨ c = s1.heap.objs.size + 3 ∨ c = s1.heap.objs.size ∨ c = s1.heap.objs.size + 1 := by simpa using hcm
      have hle : s1.heap.objs.size ≤ c := by
        rcases e' with z | z | z | z | z
        · rw [z]; exact Nat.le_add_right _ _
        · rw [z]; exact Nat.le_add_right _ _
        · rw [z]; exact Nat.le_add_right _ _
        · rw [z]; exact Nat.le_refl _
        · rw [z]; exact Nat.le_add_right _ _
      exact I1.fpOk hle (I1.hok.fresh hle)
theorem walk_zipM {K : PySem.W.Frag} {a b : Addr} {xs ys : List V} {n : Nat} (h1 : xs.length = n) (h2 : ys.length = n) : Walk (ItzM K a b) n (fun H => SqL K H a xs ∧ SqT K H b ys) (YPair (fun i => xs[i]?) (fun i => ys[i]?)) := by
  refine ⟨fun i _ hi q => ?_, fun _ q => ⟨xs, ys, q.1, q.2, by omega, by omega, .inl h1⟩, fun i H v H' _ q y => ?_⟩
  · have h1 : i < xs.length := by omega
    have h2 : i < ys.length := by omega
    exact ⟨xs, ys, xs[i], ys[i], q.1, q.2, by simp [h1], by simp [h2]⟩
  · obtain ⟨T, x, z, h1, h2, h3, h4, h5⟩ := y
    exact ⟨T, x, z, h1, h2, h3, h4 xs q.1, h5 ys q.2⟩
end L2

namespace PySem
namespace RefX
open PySem.W PySem.Calls PyProof.Rows PySem.HandSPX
/-! ### the text of __init__ -/
def iA (p1 p2 : Pos) : Arguments := { posonlyargs := [], args := [{ arg := "self", annotation := none, pos := p1 }, { arg := "code", annotation := none, pos := p2 }], vararg := none, kwonlyargs := [], kw_defaults := [], kwarg := none, defaults := [] }
def iB (q1 q2 q3 q4 : Pos) : List Stmt := [.Assign [.Attribute (.Name "self" q1) "code" q2] (.Name "code" q3) q4]
def iS : Scope := { kind := .function, names := [(PySem.Str.ofString "self", .local), (PySem.Str.ofString "code", .local)], isGenerator := false, isCoroutine := false, more := [] }
/-- what the written part says of Low, at C, and of its __init__, at fI -/
structure RefTxt (K : Frag) (mg : Str → Option Value) (C fI : Addr) : Prop where
  gC : mg "Refused" = some (.ref C)
  cls : ∃ nm q N bs bm sn sub ab col dd k0 k1 k2 k3 k5, K.lookup C = some (excClassObj nm q C N bs bm true sn sub ab col dd k0 k1 k2 k3 k5 "ValueError.__new__") ∧ refsVE bm = true
  sa : findIn K (.ref C) "__setattr__" = some (some (.builtin "object.__setattr__"))
  ga : findIn K (.ref C) "__getattribute__" = some (some (.builtin "BaseException.__getattribute__"))
  gg : findIn K (.ref C) "__getattr__" = some none
  noN : findIn K (.ref C) "code" = some none
  iC : findIn K (.ref C) "__init__" = some (some (.ref fI))
  tC : typeIn K (.ref fI) = some (.type "function")
  kC : keepIn K (.ref C) = true
  exC : subIn K (.ref C) (.type "BaseException") = some true
  tyC : typeIn K (.ref C) = some (.type "type")
  hdC : hasDictIn K C = true
  te : exmOne K (.ref C) (.ref C) = some true
  fn : ∃ (oc : Value) (od : Option Addr) (doc pm : Value) (an : Option Addr) (cdv ct : Value) (osl : Array (Option Value)) (p1 p2 q1 q2 q3 q4 : Pos),
    K.lookup fI = some ⟨oc, od, .func (fnOf "__init__" "Refused.__init__" (iA p1 p2) (iB q1 q2 q3 q4) iS .none .none doc pm an cdv ct), osl⟩ ∧ codeIn K cdv "Refused.__init__" = true
theorem one_size (v : Value) : [v].length ≤ sizeLine := by
  rw [sizeLine_eq]
  exact (by decide : 1 ≤ 16777216)
theorem kept_but {K : Frag} {h h' : Heap} {x : Addr} (X : K.In h) (hx : K.lookup x = none) (k : ∀ b o, b ≠ x → h.get? b = some o → h'.get? b = some o) : K.In h' := fun a o e =>
  k a o (fun z => by rw [z, hx] at e; cases e) (X a o e)
theorem ldC {M : Model} {s : Shared} {name : Str} {scope : Scope} {L a : Addr} {cd : Value} {m : Str → Option Value} {x : Str} {pos : Pos} {v : Value} {Q : Value → Shared → Prop} {A : Around} {E : Value → Shared → Prop} (hn : s.heap.Ns L m) (hv : m x = some v) (h : Q v s)
    (hk : scope.kind = .function := by rfl) (hl : (envOfC name scope L a cd).kindOf x = some .local := by rfl) (hd : (x == ("__debug__" : Str)) = false := by decide) :
    wpAny M A (eval (.Name x pos) (envOfC name scope L a cd)) Q E s := wpAny_Name (wpAny_loadName_local hk hl hn hv h) hd
/-- what __init__ leaves of a fresh exception at x -/
structure InitEnd (h h' : Heap) (x C dx t1 : Addr) (v : Value) : Prop where
  keep : ∀ b o, b ≠ x → h.get? b = some o → h'.get? b = some o
  obj : h'.get? x = some { cls := .ref C, dict := some dx, data := .fields #[.ref t1, .none, .none, .none, .bool false, .none] }
  dbig : h.objs.size ≤ dx
  dne : dx ≠ x
  ns : h'.Ns1 dx (fun y => if y = "code" then some v else none)
/-- a made Low -/
structure OwnMade (h h' : Heap) (e C d : Addr) (v : Value) : Prop where
  keep : ∀ b o, h.get? b = some o → h'.get? b = some o
  new : h.objs.size ≤ e
  obj : ∃ oe vs, h'.get? e = some oe ∧ oe.cls = .ref C ∧ oe.dict = some d ∧ oe.data = .fields vs ∧ vs[1]? = some .none
  dbig : h.objs.size ≤ d
  dne : d ≠ e
  ns : h'.Ns1 d (fun y => if y = "code" then some v else none)
section
variable {prog : Program} {w : World} {A : Around} {E : Value → Shared → Prop} {R : Result → Shared → Prop} {s : Shared} {K : Frag} {mg : Str → Option Value} {C fI : Addr}
theorem ref_init (T : RefTxt K mg C fI) {x t0 : Addr} {v : Value} (X : K.In s.heap) (hlim : s.heap.NoLimit) (hx : s.heap.get? x = some (excO C t0)) (hnx : K.lookup x = none) (hroom : A.depth < recursionLimit)
    (hq : ∀ h' tk dx, InitEnd s.heap h' x C dx t0 v → R (.ok (.ret .none)) { s with heap := h', toks := tk }) :
    codeAny (model prog w) A (.call (.ref fI) ⟨[.ref x, v], []⟩) R s := by
  obtain ⟨oc, od, doc, pm, an, cdv, ct, osl, p1, p2, q1, q2, q3, q4, ho, hcd⟩ := T.fn
  obtain ⟨nm, q, N, bs, bm, sn, sub, ab, col, dd, k0, k1, k2, k3, k5, hC, hbm⟩ := T.cls
  have hcl : clsIn K C = some { name := nm, bases := bs, mro := .ref C :: bm, ns := N, qualname := q, hasDict := true, slotNames := sn, subclasses := sub, abstract := ab, collection := col, hasDel := false } := by unfold clsIn; rw [hC] <;> rfl
  refine Att.call_fn (binds := [("self", .ref x), ("code", v)]) X hlim ho hcd hroom (BindsTo.of_eq (by first | rfl | with_unfolding_all rfl)) (by first | rfl | decide | with_unfolding_all rfl) (fun s₁ IC => ?_) rfl rfl rfl
  obtain ⟨h₁, tk₁, rfl⟩ := IC.toInCall.same
  have k : ∀ b o, s.heap.get? b = some o → h₁.get? b = some o := IC.toInCall.keep
  have hn := IC.toInCall.ns
  have hxL : s.heap.objs.size ≠ x := Nat.ne_of_gt (Heap.lt_size hx)
  have X₁ : K.In h₁ := X.keeps k
  have hx₁ := k _ _ hx
  -- self.by = by
  show wpAny _ _ (execs _ _) _ _ _
  refine wpAny_execs_cons (plainObj_wpAny_Assign_Attribute ?_)
  refine ldC (v := v) hn (by first | rfl | with_unfolding_all rfl | kernel_rfl) (ldC (v := .ref x) hn (by first | rfl | with_unfolding_all rfl | kernel_rfl) ?_)
  refine set_plain X₁ (ox := excO C t0) (od := none) ⟨hx₁, rfl, rfl, trivial⟩ T.sa ?_
  refine exc_osa X₁ hx₁ hcl (show refsVE (.ref C :: bm) = true from hbm) rfl T.noN (fun h₃ tk₃ dx k₃ dn dne hx₃ hn₃ => ?_)
  show wpAny _ _ (execs _ _) _ _ _
  have z : s.heap.objs.size < h₁.objs.size := hn.lt
  exact wpAny_execs_nil (hq h₃ tk₃ dx ⟨fun b o hb e => k₃ b o hb (k b o e), hx₃, Nat.le_of_lt (Nat.lt_of_lt_of_le z dn), dne, hn₃⟩)
theorem ref_made (T : RefTxt K mg C fI) {v : Value} (X : K.In s.heap) (hlim : s.heap.NoLimit) (hroom : A.depth + 1 < recursionLimit)
    (hq : ∀ h' tk e d, OwnMade s.heap h' e C d v → R (.ok (.ret (.ref e))) { s with heap := h', toks := tk }) :
    codeAny (model prog w) A (.call (.ref C) ⟨[v], []⟩) R s := by
  obtain ⟨nm, q, N, bs, bm, sn, sub, ab, col, dd, k0, k1, k2, k3, k5, hC, hbm⟩ := T.cls
  obtain ⟨hp, g, dr, tk, os⟩ := s
  have k : ∀ b o, hp.get? b = some o → ((hp.push (kdv_tup [v])).push (excO C hp.objs.size)).get? b = some o := fun b o e => Heap.get?_push_of_some _ (Heap.get?_push_of_some _ e)
  have hget : ((hp.push (kdv_tup [v])).push (excO C hp.objs.size)).get? (hp.objs.size + 1) = some (excO C hp.objs.size) := by heap_get
  have hnx : K.lookup (hp.objs.size + 1) = none := by
    cases e : K.lookup (hp.objs.size + 1) with
    | none => rfl
    | some o =>
      have z : hp.get? (hp.objs.size + 1) = some o := X _ _ e
      exact absurd (Nat.lt_of_succ_lt (Heap.lt_size z)) (Nat.lt_irrefl _)
  refine call_own F.excBase_ValueError (fun X => refsVE_contains X bm hbm) (X _ _ hC) (looks_findIn X T.iC) (fun self => bind_fn X self T.tC) (one_size v) ?_
  refine ref_init (s := ⟨(hp.push (kdv_tup [v])).push (excO C hp.objs.size), g, dr, tk, os⟩) T (X.keeps k) (hlim.keeps k) hget hnx ?_ fun h' tk' dx ⟨k', hx, dn, dne, hns⟩ => ?_
  · show A.depth + 1 < recursionLimit
    exact hroom
  · have old : ∀ b o, hp.get? b = some o → h'.get? b = some o := fun b o e => k' b o (Nat.ne_of_lt (Nat.lt_succ_of_lt (Heap.lt_size e))) (k b o e)
    have z : hp.objs.size + 1 + 1 ≤ dx := by
      first
        | (simpa only [Heap.size_push] using dn)
        | exact dn
        | (have q := dn; rw [Heap.size_push, Heap.size_push] at q; exact q)
    exact ⟨rfl, hq h' tk' (hp.objs.size + 1) dx ⟨old, Nat.le_succ _, ⟨_, _, hx, rfl, rfl, rfl, rfl⟩, Nat.le_trans (Nat.le_trans (Nat.le_succ _) (Nat.le_succ _)) z, dne, hns⟩⟩
end
end RefX
end PySem
namespace L2
open PySem PySem.Spec PyProof.Rows
theorem relO_ref {v : V} {v' : Value} (r : RelV v v') (f : Str) : RelO (List.lookup f [(("code" : Str), v)]) (if f = "code" then some v' else none) := by
  by_cases hw : f = "code"
  · subst hw
    rw [if_pos rfl]
    have q : List.lookup ("code" : Str) [(("code" : Str), v)] = some v := by simp [List.lookup]
    rw [q]
    exact r
  · rw [if_neg hw]
    have qw : (f == ("code" : Str)) = false := by simpa using hw
    have q2 : List.lookup f [(("code" : Str), v)] = none := by simp [List.lookup, qw]
    rw [q2]
    trivial
section
variable {X : Cx} {C fI : Addr}
/-- Low(e) -/
def tMkRef (C : Addr) (ta : TA) : St → Hp → XK → Prop := fun σ H Q => ta σ H fun vs H1 => ∃ v, vs = [v] ∧ ∀ d, H1 d = none → Q (.ref C) (some d) (upd H1 d (.xd [(("code" : Str), v)]))
theorem pmk_ref {a : Expr} {ta : TA} {p pos : Pos} {k : Nat} (T : PySem.RefX.RefTxt X.K X.mg C fI) (hr : Room k X.A) (ha : PA X [a] ta) (hg : Gl X "Refused" := by rfl)
    (he : starEach (a :: []) X.env = (false, eval a X.env) :: starEach [] X.env := by rfl) (hpl : (backTo pos (starEach [] X.env)).any (·.1) = false := by rfl) :
    PMk X (.Call (.Name "Refused" p) [a] [] pos) (tMkRef C ta) := by
  intro pins s σ H Q I h
  refine wpAny_Call_Name_kw (ld_glob I hg T.gC ?_)
  refine PySem.W.callWith_K (h₀ := X.base) I.ok.mod.kin T.kC (thn (ha.run pos pins s σ H _ I h) fun us s1 hh => ?_) he hpl
  obtain ⟨vs, H1, I1, r1, v, ev, q1⟩ := hh
  subst ev
  refine ⟨I1.kIn, ?_⟩
  cases r1 with
  | cons rv rn =>
    rename_i v' us'
    cases rn
    show wpAny _ _ (call (.ref C) [v']) _ _ _
    have hlim := I1.nolimit
    obtain ⟨hp, g, dr, tk, os⟩ := s1
    refine wpAny_call (PySem.RefX.ref_made T I1.kIn hlim (by have := hr.dp; omega) fun h' tk' e d M => ?_)
    show MkP X pins σ Q (.ref e) ⟨h', g, dr, tk', os⟩
    obtain ⟨oe, fv, hoe, hc, hd, hdat, h1⟩ := M.obj
    have hns := M.ns
    obtain ⟨G', g1, g2⟩ := restrict h' fun b => decide (b ≠ e)
    have gk : ∀ b, b ≠ e → G'.get? b = h'.get? b := fun b hb => g1 b (decide_eq_true hb)
    have ge : G'.get? e = none := g2 e (by simp)
    have old : ∀ b o, hp.get? b = some o → G'.get? b = some o := fun b o q => (gk b (Nat.ne_of_lt (Nat.lt_of_lt_of_le (Heap.lt_size q) M.new))).trans (M.keep b o q)
    have ob : ObjOk X.prog X.w (upd H1 d (.xd [(("code" : Str), v)])) G' d (.xd [(("code" : Str), v)]) :=
      ⟨_, hns.at (fun o q => (gk d M.dne).trans q), fun f => relO_ref rv f⟩
    have J : Inv X pins σ (upd H1 d (.xd [(("code" : Str), v)])) ⟨G', g, dr, tk', os⟩ := I1.laid (t' := tk') old M.dbig ob
    refine ⟨e, oe, fv, ⟨G', g, dr, tk', os⟩, _, .ref C, some d, rfl, J, fun b o q => ?_, ge, hoe, ⟨hc, hd⟩, hdat, h1, ?_, rfl, I1.bare, raises_own T.exC T.tyC, q1 d (I1.hok.fresh M.dbig)⟩
    · by_cases hb : b = e
      · have q' : G'.get? b = some o := q
        rw [hb, ge] at q'; cases q'
      · exact (gk b hb).symm.trans q
    · rw [upd_ne (Ne.symm M.dne)]
      exact I1.hok.fresh M.new
/-- raise Low(e) -/
def tRaiseRef (C : Addr) (W : WX) (ta : TA) : TS := fun _ σ H => tMkRef C ta σ H fun cls d H' => W cls d σ H'
theorem ps_raiseRef {a : Expr} {ta : TA} {W : WX} {p pos pos2 : Pos} {k : Nat} (hc : X.calm = true) (T : PySem.RefX.RefTxt X.K X.mg C fI) (hr : Room k X.A) (tk : Takes X W) (ha : PA X [a] ta) (hg : Gl X "Refused" := by rfl)
    (he : starEach (a :: []) X.env = (false, eval a X.env) :: starEach [] X.env := by rfl) (hpl : (backTo pos (starEach [] X.env)).any (·.1) = false := by rfl) :
    PS X (.Raise (some (.Call (.Name "Refused" p) [a] [] pos)) none pos2) (tRaiseRef C W ta) := ps_raise hc tk (pmk_ref T hr ha hg he hpl)
/-- low.by, low the exception that the suite holds (at a; its class cls, its dict d) -/
def tByRef (C : Addr) (a : Addr) (cls : Value) (d : Option Addr) (te : TE) : TE := fun σ H Q => te σ H fun x H1 => x = .ref a ∧ cls = .ref C ∧ ∃ (dd : Addr) (v : V), d = some dd ∧ H1 dd = some (.xd [(("code" : Str), v)]) ∧ Q v H1
theorem pe_byRef {a : Addr} {oe : Obj} {cls : Value} {d : Option Addr} {pn : List (Addr × Obj)} {e : Expr} {te : TE} {pos : Pos} (T : PySem.RefX.RefTxt X.K X.mg C fI) (hz : Zc cls d oe) (hf : ∃ vs, oe.data = .fields vs) (he : PE (X.suite a ((a, oe) :: pn)) e te)
    (hb : attributeBase e "code" X.env (eval e X.env) = eval e X.env := by rfl) :
    PE (X.suite a ((a, oe) :: pn)) (.Attribute e "code" pos) (tByRef C a cls d te) := by
  refine ⟨fun pins s σ H Q I h => ?_⟩
  refine attr_of hb (thn (he.run pins s σ H _ I h) fun u s1 hh => ?_)
  obtain ⟨x, H1, I1, rx, ex, ec, dd, v, ed, ea, q⟩ := hh
  subst ex
  obtain rfl : u = Value.ref a := rx
  subst ec
  subst ed
  obtain ⟨ha, _⟩ := I1.pin (a, oe) (List.mem_append_left _ List.mem_cons_self)
  obtain ⟨vs, hd⟩ := hf
  have hx : ObjOk X.prog X.w H1 s1.heap dd (.xd [(("code" : Str), v)]) := I1.hok dd _ ea
  obtain ⟨mA, hns, hr⟩ := hx
  obtain ⟨od, ho, hl⟩ := lookIn_ns hns
  have l : List.lookup ("code" : Str) [(("code" : Str), v)] = some v := by simp [List.lookup]
  obtain ⟨u, hu, ru⟩ := RelO.some_of (v := v) (o := mA "code") (by rw [← l]; exact hr "code")
  have J : PySem.W.InstAt s1.heap a oe C (some od) := ⟨ha, hz.1, by unfold PySem.W.notCls; rw [hd] <;> rfl, by rw [hz.2]; exact ho⟩
  exact HandSPX.exc_get I1.kIn J T.ga T.gg T.exC (PySem.W.findObj_own T.hdC T.noN rfl (by rw [hl, hu])) (handed_of ru) ⟨v, H1, I1.tok _, ru, q⟩
end
end L2

namespace L2
open PySem PySem.Spec PyProof.Rows
/-- an if whose test is known -/
theorem if_true_of {c : Bool} {A B : Prop} (hc : c = true) (h : A) : if c = true then A else B := by
  rw [if_pos hc]
  exact h
theorem if_false_of {c : Bool} {A B : Prop} (hc : c = false) (h : B) : if c = true then A else B := by
  rw [hc, if_neg Bool.false_ne_true]
  exact h
end L2

namespace L2
open PySem PySem.Spec PyProof.Rows
/-! ### d.get(k, x) of a written dict of ints -/
def KIntD (K : PySem.W.Frag) (L : Addr) (kvs : List (Int × Int)) : Prop := (L == sysModules) = false ∧ (kvs.map (·.1)).Nodup ∧
  ∃ es n, K.lookup L = some ⟨.type "dict", none, .dict es n, #[]⟩ ∧ Paired (fun (e : DictEntry) (kv : Int × Int) => ∃ t u, e.key = .int kv.1 t ∧ e.val = .int kv.2 u ∧ e.hash = hashInt kv.1) es.toList kvs
def kiV (kvs : List (Int × Int)) : List (Key × V) := kvs.map fun p => (.inl p.1, .int p.2)
theorem KIntD.dict {P : Program} {w : World} {K : PySem.W.Frag} {L : Addr} {kvs : List (Int × Int)} {h : Heap} (d : KIntD K L kvs) (X : K.In h) : ∃ vs, KV (kiV kvs) vs ∧ h.DictOf (mixKind P w) L vs := by
  obtain ⟨_, nd, es, n, hl, hp⟩ := d
  have key : ∀ {l : List DictEntry} {m : List (Int × Int)}, Paired (fun (e : DictEntry) (kv : Int × Int) => ∃ t u, e.key = .int kv.1 t ∧ e.val = .int kv.2 u ∧ e.hash = hashInt kv.1) l m →
      ∃ vs : List (Key × Value), KV (kiV m) vs ∧ Pairs (mixKind P w) l vs ∧ vs.map (·.1) = m.map fun p => Sum.inl p.1 := by
    intro l m q
    induction q with
    | nil => exact ⟨[], .nil, .nil, rfl⟩
    | @cons e kv l m r t ih =>
      obtain ⟨vs, h1, h2, h3⟩ := ih
      obtain ⟨tk, u, e1, e2, e3⟩ := r
      refine ⟨(.inl kv.1, e.val) :: vs, .cons ⟨rfl, ?_⟩ h1, .cons ?_ rfl h2, by rw [List.map_cons, List.map_cons, h3]⟩
      · rw [e2]; exact ⟨u, rfl⟩
      · show (mixKind P w).is (.inl kv.1) e.key = true
        rw [e1]
        exact mixKind_int P w kv.1 tk
  obtain ⟨vs, h1, h2, h3⟩ := key hp
  refine ⟨vs, h1, _, es, n, X _ _ hl, ⟨rfl, rfl, rfl⟩, rfl, fun e he => ?_, h2, ?_⟩
  · obtain ⟨j, hj⟩ := List.getElem?_of_mem (Array.mem_toList_iff.mpr he)
    have : ∀ {l : List DictEntry} {m : List (Int × Int)} {j : Nat}, Paired (fun (e : DictEntry) (kv : Int × Int) => ∃ t u, e.key = .int kv.1 t ∧ e.val = .int kv.2 u ∧ e.hash = hashInt kv.1) l m → l[j]? = some e → ∃ i t, e.key = .int i t ∧ e.hash = hashInt i := by
      intro l m j q
      induction q generalizing j with
      | nil => intro h; simp at h
      | @cons e' kv l m r t ih =>
        intro h
        cases j with
        | zero =>
          simp at h
          subst h
          obtain ⟨tk, u, e1, _, e3⟩ := r
          exact ⟨_, _, e1, e3⟩
        | succ j => exact ih (j := j) (by simpa using h)
    obtain ⟨i, t, e1, e2⟩ := this hp hj
    exact ⟨.inl i, by rw [e1]; exact mixKind_int P w i t, e2⟩
  · rw [h3]
    have : (kvs.map fun p => (Sum.inl p.1 : Key)) = (kvs.map (·.1)).map Sum.inl := by rw [List.map_map]; rfl
    rw [this]
    unfold List.Nodup
    rw [List.pairwise_map]
    exact nd.imp fun h z => h (by injection z)
def tKGet2 (K : PySem.W.Frag) (td ty tx : TE) : TE := fun σ H Q => td σ H fun x H1 => ∃ L kvs, x = .ref L ∧ KIntD K L kvs ∧ ty σ H1 fun y H2 => tx σ H2 fun z H3 => ∃ i, y = .int i ∧ Q ((valV (kiV kvs) (.inl i)).getD z) H3
theorem pe_kget2 {X : Cx} {o e f : Expr} {apos cpos : Pos} {td ty tx : TE} (ho : PE X o td) (he : PE X e ty) (hf : PE X f tx) (m : M2 X o "get" apos e f cpos) : PE X (.Call (.Attribute o "get" apos) [e, f] [] cpos) (tKGet2 X.K td ty tx) := by
  refine ⟨fun pins s σ H Q I h => ?_⟩
  refine wpAny_Call_method m.base m.few m.line PySem.F.plainAttrs_dict PySem.F.slot_dict_get PySem.F.type_dict_get (thn (ho.run pins s σ H _ I h) fun u s1 ⟨x, H1, I1, rx, L, kvs, ex, d, q1⟩ => ?_)
  subst ex
  obtain rfl : u = Value.ref L := rx
  obtain ⟨vs1, _, dd1⟩ := d.dict (P := X.prog) (w := X.w) I1.kIn
  refine ⟨dd1.typeIs, fun b q => ?_, ?_⟩
  · cases q
    obtain ⟨ob, _, _, h1, h2, _⟩ := dd1
    exact ⟨ob, h1, h2.2.1⟩
  rw [m.trees]
  refine Calls.callWith_builtin rfl (Calls.evalArgs_plain (Calls.spliced_cons (thn (he.run pins s1 σ H1 _ I1 q1) fun iv s2 ⟨y, H2, I2, ry, q2⟩ =>
    Calls.spliced_cons (thn (hf.run pins s2 σ H2 _ I2 q2) fun fv s3 ⟨z, H3, I3, rz, i, ey, q3⟩ => Calls.spliced_nil ?_))))
  subst ey
  obtain ⟨vs, rel, dd⟩ := d.dict (P := X.prog) (w := X.w) I3.kIn
  have ry : RelV (kV (.inl i)) iv := ry
  exact call_meetsIn PySem.F.slot_dict_get dd.typeIs PySem.F.entry_dict_get (PySem.F.args_dict_get_3 _ _ _) (meets_dict_get_default (mixKind X.prog X.w) L (kV_is ry) d.1 fv) ⟨_, dd.mapOf, ⟨_, H3, I3.tok _, (rel.val (.inl i)).getD rz, q3⟩⟩
end L2

namespace PBW
open PySem PySem.Spec PyProof.Rows L2
def top (i : Nat) : Stmt := PySem.Challenge.pw_pebbleboard_s01_answers.main.body.getD i (.Pass ⟨0, 0, 0, 0⟩)
abbrev s_neighbours : Stmt := top 2
abbrev s_distances : Stmt := top 3
abbrev s_diameter : Stmt := top 4
abbrev s_is_tree : Stmt := top 5
abbrev s_two_to : Stmt := top 6
abbrev s_cover_number : Stmt := top 7
abbrev s_way_back : Stmt := top 8
abbrev s_path_lengths : Stmt := top 9
abbrev s_taken : Stmt := top 11
abbrev s_can_take : Stmt := top 12
abbrev s_pebbling_moves : Stmt := top 13
abbrev s_behind_pebbling : Stmt := top 14
abbrev s_behind_rubbling : Stmt := top 15
abbrev s_behind : Stmt := top 16
abbrev s_steps_from : Stmt := top 17
abbrev s_least_moves : Stmt := top 18
abbrev s_most_pebbles : Stmt := top 19
abbrev s_first_sequence : Stmt := top 20
abbrev s_configurations : Stmt := top 21
abbrev s_Solved_init : Stmt := inClass (top 22) 0
abbrev s_Solved_is_solved : Stmt := inClass (top 22) 1
abbrev s_Solved_unsolvable : Stmt := inClass (top 22) 2
abbrev s_Solved_number : Stmt := inClass (top 22) 3
abbrev s_Refused_init : Stmt := inClass (top 30) 0
abbrev s_refuse_if : Stmt := top 31
abbrev s_lowest : Stmt := top 32
abbrev s_Board_init : Stmt := inClass (top 33) 0
abbrev s_Board_push : Stmt := inClass (top 33) 1
abbrev s_Board_put_edges : Stmt := inClass (top 33) 2
abbrev s_Board_check : Stmt := inClass (top 33) 3
abbrev s_Board_near_all : Stmt := inClass (top 33) 4
abbrev s_Board_steps : Stmt := inClass (top 33) 5
abbrev s_Board_solver : Stmt := inClass (top 33) 6
abbrev s_Board_edge : Stmt := inClass (top 33) 7
abbrev s_Board_put_edge : Stmt := inClass (top 33) 8
abbrev s_Board_take_edge : Stmt := inClass (top 33) 9
abbrev s_Board_set_pebbles : Stmt := inClass (top 33) 10
abbrev s_Board_put_pebbles : Stmt := inClass (top 33) 11
abbrev s_Board_rub : Stmt := inClass (top 33) 12
abbrev s_Board_bring : Stmt := inClass (top 33) 13
abbrev s_Board_undo : Stmt := inClass (top 33) 14
abbrev s_Board_list_edges : Stmt := inClass (top 33) 15
abbrev s_Board_list_pebbles : Stmt := inClass (top 33) 16
abbrev s_Board_distance : Stmt := inClass (top 33) 17
abbrev s_Board_least : Stmt := inClass (top 33) 18
abbrev s_Board_most : Stmt := inClass (top 33) 19
abbrev s_Board_sequence : Stmt := inClass (top 33) 20
abbrev s_Board_shortest_sequence : Stmt := inClass (top 33) 21
abbrev s_Board_reachable : Stmt := inClass (top 33) 22
abbrev s_Board_weight_at : Stmt := inClass (top 33) 23
abbrev s_Board_can_cover : Stmt := inClass (top 33) 24
abbrev s_Board_connected_diameter : Stmt := inClass (top 33) 25
abbrev s_Board_check_small : Stmt := inClass (top 33) 26
abbrev s_Board_number : Stmt := inClass (top 33) 27
abbrev s_Board_graph_number : Stmt := inClass (top 33) 28
abbrev s_Board_unsolvable : Stmt := inClass (top 33) 29
abbrev s_Board_unsolvable_at : Stmt := inClass (top 33) 30
abbrev s_Board_path_partition : Stmt := inClass (top 33) 31
abbrev s_Board_is_solvable : Stmt := inClass (top 33) 32
abbrev s_Board_optimal : Stmt := inClass (top 33) 33
abbrev s_Board_cover : Stmt := inClass (top 33) 34
abbrev s_Board_certificate : Stmt := inClass (top 33) 35
abbrev s_Board_check_certificate : Stmt := inClass (top 33) 36
abbrev s_Board_is_valid : Stmt := inClass (top 33) 37
abbrev s_Board_proves : Stmt := inClass (top 33) 38
abbrev s_Board_status : Stmt := inClass (top 33) 39
abbrev s_changed : Stmt := top 37
abbrev s_asked : Stmt := top 38
abbrev s_asked_more : Stmt := top 39
abbrev s_done : Stmt := top 40
abbrev s_answers : Stmt := top 41
abbrev N_neighbours : List Str := ["many", "edges", "found", "vertex", "one", "other", "row"]
theorem sc_neighbours : FnScope N_neighbours ["many", "edges"] (defScope s_neighbours) := ⟨rfl, rfl, rfl, by decide +kernel, rfl, by decide +kernel, by decide +kernel⟩
abbrev N_distances : List Str := ["many", "edges", "begin", "rows", "found", "waiting", "at", "later"]
theorem sc_distances : FnScope N_distances ["many", "edges", "begin"] (defScope s_distances) := ⟨rfl, rfl, rfl, by decide +kernel, rfl, by decide +kernel, by decide +kernel⟩
abbrev N_diameter : List Str := ["many", "edges", "most", "vertex", "row"]
theorem sc_diameter : FnScope N_diameter ["many", "edges"] (defScope s_diameter) := ⟨rfl, rfl, rfl, by decide +kernel, rfl, by decide +kernel, by decide +kernel⟩
abbrev N_is_tree : List Str := ["many", "edges"]
theorem sc_is_tree : FnScope N_is_tree ["many", "edges"] (defScope s_is_tree) := ⟨rfl, rfl, rfl, by decide +kernel, rfl, by decide +kernel, by decide +kernel⟩
abbrev N_two_to : List Str := ["number", "found", "turn"]
theorem sc_two_to : FnScope N_two_to ["number"] (defScope s_two_to) := ⟨rfl, rfl, rfl, by decide +kernel, rfl, by decide +kernel, by decide +kernel⟩
abbrev N_cover_number : List Str := ["many", "edges", "one", "vertex"]
theorem sc_cover_number : FnScope N_cover_number ["many", "edges"] (defScope s_cover_number) := ⟨rfl, rfl, rfl, by decide +kernel, rfl, by decide +kernel, by decide +kernel⟩
abbrev N_way_back : List Str := ["many", "edges", "begin", "visited", "rows", "before", "waiting", "at", "later", "found"]
theorem sc_way_back : FnScope N_way_back ["many", "edges", "begin", "visited"] (defScope s_way_back) := ⟨rfl, rfl, rfl, by decide +kernel, rfl, by decide +kernel, by decide +kernel⟩
abbrev N_path_lengths : List Str := ["many", "edges", "target", "visited", "found", "best", "vertex", "path"]
theorem sc_path_lengths : FnScope N_path_lengths ["many", "edges", "target"] (defScope s_path_lengths) := ⟨rfl, rfl, rfl, by decide +kernel, rfl, by decide +kernel, by decide +kernel⟩
abbrev N_taken : List Str := ["pebbles", "first", "second", "target", "found"]
theorem sc_taken : FnScope N_taken ["pebbles", "first", "second", "target"] (defScope s_taken) := ⟨rfl, rfl, rfl, by decide +kernel, rfl, by decide +kernel, by decide +kernel⟩
abbrev N_can_take : List Str := ["pebbles", "first", "second"]
theorem sc_can_take : FnScope N_can_take ["pebbles", "first", "second"] (defScope s_can_take) := ⟨rfl, rfl, rfl, by decide +kernel, rfl, by decide +kernel, by decide +kernel⟩
abbrev N_pebbling_moves : List Str := ["rows", "pebbles", "found", "source", "target"]
theorem sc_pebbling_moves : FnScope N_pebbling_moves ["rows", "pebbles"] (defScope s_pebbling_moves) := ⟨rfl, rfl, rfl, by decide +kernel, rfl, by decide +kernel, by decide +kernel⟩
abbrev N_behind_pebbling : List Str := ["rows", "pebbles", "source", "target"]
theorem sc_behind_pebbling : FnScope N_behind_pebbling ["rows", "pebbles"] (defScope s_behind_pebbling) := ⟨rfl, rfl, rfl, by decide +kernel, rfl, by decide +kernel, by decide +kernel⟩
abbrev N_behind_rubbling : List Str := ["rows", "pebbles", "found", "target", "near", "at", "second"]
theorem sc_behind_rubbling : FnScope N_behind_rubbling ["rows", "pebbles"] (defScope s_behind_rubbling) := ⟨rfl, rfl, rfl, by decide +kernel, rfl, by decide +kernel, by decide +kernel⟩
abbrev N_behind : List Str := ["rows", "pebbles", "rubbling"]
theorem sc_behind : FnScope N_behind ["rows", "pebbles", "rubbling"] (defScope s_behind) := ⟨rfl, rfl, rfl, by decide +kernel, rfl, by decide +kernel, by decide +kernel⟩
abbrev N_steps_from : List Str := ["rows", "pebbles", "rubbling", "found", "waiting", "at", "here", "later"]
theorem sc_steps_from : FnScope N_steps_from ["rows", "pebbles", "rubbling"] (defScope s_steps_from) := ⟨rfl, rfl, rfl, by decide +kernel, rfl, by decide +kernel, by decide +kernel⟩
abbrev N_least_moves : List Str := ["steps", "target", "count", "rows", "pebbles"]
theorem sc_least_moves : FnScope N_least_moves ["steps", "target", "count"] (defScope s_least_moves) := ⟨rfl, rfl, rfl, by decide +kernel, rfl, by decide +kernel, by decide +kernel⟩
abbrev N_most_pebbles : List Str := ["steps", "target", "pebbles"]
theorem sc_most_pebbles : FnScope N_most_pebbles ["steps", "target"] (defScope s_most_pebbles) := ⟨rfl, rfl, rfl, by decide +kernel, rfl, by decide +kernel, by decide +kernel⟩
abbrev N_first_sequence : List Str := ["rows", "pebbles", "target", "count", "many", "found", "here", "left", "source", "later", "there"]
theorem sc_first_sequence : FnScope N_first_sequence ["rows", "pebbles", "target", "count", "many"] (defScope s_first_sequence) := ⟨rfl, rfl, rfl, by decide +kernel, rfl, by decide +kernel, by decide +kernel⟩
abbrev N_configurations : List Str := ["many", "total", "found", "vertex", "longer", "row", "one"]
theorem sc_configurations : FnScope N_configurations ["many", "total"] (defScope s_configurations) := ⟨rfl, rfl, rfl, by decide +kernel, rfl, by decide +kernel, by decide +kernel⟩
abbrev N_Solved_init : List Str := ["self", "rows", "target", "rubbling"]
theorem sc_Solved_init : FnScope N_Solved_init ["self", "rows", "target", "rubbling"] (defScope s_Solved_init) := ⟨rfl, rfl, rfl, by decide +kernel, rfl, by decide +kernel, by decide +kernel⟩
abbrev N_Solved_is_solved : List Str := ["self", "pebbles", "found", "later"]
theorem sc_Solved_is_solved : FnScope N_Solved_is_solved ["self", "pebbles"] (defScope s_Solved_is_solved) := ⟨rfl, rfl, rfl, by decide +kernel, rfl, by decide +kernel, by decide +kernel⟩
abbrev N_Solved_unsolvable : List Str := ["self", "total", "one"]
theorem sc_Solved_unsolvable : FnScope N_Solved_unsolvable ["self", "total"] (defScope s_Solved_unsolvable) := ⟨rfl, rfl, rfl, by decide +kernel, rfl, by decide +kernel, by decide +kernel⟩
abbrev N_Solved_number : List Str := ["self", "total"]
theorem sc_Solved_number : FnScope N_Solved_number ["self"] (defScope s_Solved_number) := ⟨rfl, rfl, rfl, by decide +kernel, rfl, by decide +kernel, by decide +kernel⟩
abbrev N_refuse_if : List Str := ["wrong", "code"]
theorem sc_refuse_if : FnScope N_refuse_if ["wrong", "code"] (defScope s_refuse_if) := ⟨rfl, rfl, rfl, by decide +kernel, rfl, by decide +kernel, by decide +kernel⟩
abbrev N_lowest : List Str := ["above", "below", "one", "other"]
theorem sc_lowest : FnScope N_lowest ["above", "below"] (defScope s_lowest) := ⟨rfl, rfl, rfl, by decide +kernel, rfl, by decide +kernel, by decide +kernel⟩
abbrev N_Board_init : List Str := ["self", "many"]
theorem sc_Board_init : FnScope N_Board_init ["self", "many"] (defScope s_Board_init) := ⟨rfl, rfl, rfl, by decide +kernel, rfl, by decide +kernel, by decide +kernel⟩
abbrev N_Board_push : List Str := ["self"]
theorem sc_Board_push : FnScope N_Board_push ["self"] (defScope s_Board_push) := ⟨rfl, rfl, rfl, by decide +kernel, rfl, by decide +kernel, by decide +kernel⟩
abbrev N_Board_put_edges : List Str := ["self", "edges"]
theorem sc_Board_put_edges : FnScope N_Board_put_edges ["self", "edges"] (defScope s_Board_put_edges) := ⟨rfl, rfl, rfl, by decide +kernel, rfl, by decide +kernel, by decide +kernel⟩
abbrev N_Board_check : List Str := ["self", "vertices", "vertex"]
theorem sc_Board_check : FnScope N_Board_check ["self", "vertices"] (defScope s_Board_check) := ⟨rfl, rfl, rfl, by decide +kernel, rfl, by decide +kernel, by decide +kernel⟩
abbrev N_Board_near_all : List Str := ["self"]
theorem sc_Board_near_all : FnScope N_Board_near_all ["self"] (defScope s_Board_near_all) := ⟨rfl, rfl, rfl, by decide +kernel, rfl, by decide +kernel, by decide +kernel⟩
abbrev N_Board_steps : List Str := ["self", "rubbling", "key"]
theorem sc_Board_steps : FnScope N_Board_steps ["self", "rubbling"] (defScope s_Board_steps) := ⟨rfl, rfl, rfl, by decide +kernel, rfl, by decide +kernel, by decide +kernel⟩
abbrev N_Board_solver : List Str := ["self", "target", "rubbling", "key"]
theorem sc_Board_solver : FnScope N_Board_solver ["self", "target", "rubbling"] (defScope s_Board_solver) := ⟨rfl, rfl, rfl, by decide +kernel, rfl, by decide +kernel, by decide +kernel⟩
abbrev N_Board_edge : List Str := ["self", "one", "other"]
theorem sc_Board_edge : FnScope N_Board_edge ["self", "one", "other"] (defScope s_Board_edge) := ⟨rfl, rfl, rfl, by decide +kernel, rfl, by decide +kernel, by decide +kernel⟩
abbrev N_Board_put_edge : List Str := ["self", "one", "other"]
theorem sc_Board_put_edge : FnScope N_Board_put_edge ["self", "one", "other"] (defScope s_Board_put_edge) := ⟨rfl, rfl, rfl, by decide +kernel, rfl, by decide +kernel, by decide +kernel⟩
abbrev N_Board_take_edge : List Str := ["self", "one", "other", "edge", "here"]
theorem sc_Board_take_edge : FnScope N_Board_take_edge ["self", "one", "other"] (defScope s_Board_take_edge) := ⟨rfl, rfl, rfl, by decide +kernel, rfl, by decide +kernel, by decide +kernel⟩
abbrev N_Board_set_pebbles : List Str := ["self", "row"]
theorem sc_Board_set_pebbles : FnScope N_Board_set_pebbles ["self", "row"] (defScope s_Board_set_pebbles) := ⟨rfl, rfl, rfl, by decide +kernel, rfl, by decide +kernel, by decide +kernel⟩
abbrev N_Board_put_pebbles : List Str := ["self", "vertex", "count", "row"]
theorem sc_Board_put_pebbles : FnScope N_Board_put_pebbles ["self", "vertex", "count"] (defScope s_Board_put_pebbles) := ⟨rfl, rfl, rfl, by decide +kernel, rfl, by decide +kernel, by decide +kernel⟩
abbrev N_Board_rub : List Str := ["self", "first", "second", "target", "near", "right"]
theorem sc_Board_rub : FnScope N_Board_rub ["self", "first", "second", "target"] (defScope s_Board_rub) := ⟨rfl, rfl, rfl, by decide +kernel, rfl, by decide +kernel, by decide +kernel⟩
abbrev N_Board_bring : List Str := ["self", "target", "count", "moves", "source", "later"]
theorem sc_Board_bring : FnScope N_Board_bring ["self", "target", "count"] (defScope s_Board_bring) := ⟨rfl, rfl, rfl, by decide +kernel, rfl, by decide +kernel, by decide +kernel⟩
abbrev N_Board_undo : List Str := ["self", "edges", "pebbles", "moved"]
theorem sc_Board_undo : FnScope N_Board_undo ["self"] (defScope s_Board_undo) := ⟨rfl, rfl, rfl, by decide +kernel, rfl, by decide +kernel, by decide +kernel⟩
abbrev N_Board_list_edges : List Str := ["self", "answer", "one", "other"]
theorem sc_Board_list_edges : FnScope N_Board_list_edges ["self"] (defScope s_Board_list_edges) := ⟨rfl, rfl, rfl, by decide +kernel, rfl, by decide +kernel, by decide +kernel⟩
abbrev N_Board_list_pebbles : List Str := ["self"]
theorem sc_Board_list_pebbles : FnScope N_Board_list_pebbles ["self"] (defScope s_Board_list_pebbles) := ⟨rfl, rfl, rfl, by decide +kernel, rfl, by decide +kernel, by decide +kernel⟩
abbrev N_Board_distance : List Str := ["self", "one", "other", "found"]
theorem sc_Board_distance : FnScope N_Board_distance ["self", "one", "other"] (defScope s_Board_distance) := ⟨rfl, rfl, rfl, by decide +kernel, rfl, by decide +kernel, by decide +kernel⟩
abbrev N_Board_least : List Str := ["self", "target", "count", "rubbling", "found"]
theorem sc_Board_least : FnScope N_Board_least ["self", "target", "count", "rubbling"] (defScope s_Board_least) := ⟨rfl, rfl, rfl, by decide +kernel, rfl, by decide +kernel, by decide +kernel⟩
abbrev N_Board_most : List Str := ["self", "target", "rubbling"]
theorem sc_Board_most : FnScope N_Board_most ["self", "target", "rubbling"] (defScope s_Board_most) := ⟨rfl, rfl, rfl, by decide +kernel, rfl, by decide +kernel, by decide +kernel⟩
abbrev N_Board_sequence : List Str := ["self", "target", "count", "many"]
theorem sc_Board_sequence : FnScope N_Board_sequence ["self", "target", "count"] (defScope s_Board_sequence) := ⟨rfl, rfl, rfl, by decide +kernel, rfl, by decide +kernel, by decide +kernel⟩
abbrev N_Board_shortest_sequence : List Str := ["self", "target", "count", "moves", "answer", "source", "later"]
theorem sc_Board_shortest_sequence : FnScope N_Board_shortest_sequence ["self", "target", "count"] (defScope s_Board_shortest_sequence) := ⟨rfl, rfl, rfl, by decide +kernel, rfl, by decide +kernel, by decide +kernel⟩
abbrev N_Board_reachable : List Str := ["self", "steps", "found", "vertex"]
theorem sc_Board_reachable : FnScope N_Board_reachable ["self"] (defScope s_Board_reachable) := ⟨rfl, rfl, rfl, by decide +kernel, rfl, by decide +kernel, by decide +kernel⟩
abbrev N_Board_weight_at : List Str := ["self", "target", "row", "whole", "found", "vertex"]
theorem sc_Board_weight_at : FnScope N_Board_weight_at ["self", "target"] (defScope s_Board_weight_at) := ⟨rfl, rfl, rfl, by decide +kernel, rfl, by decide +kernel, by decide +kernel⟩
abbrev N_Board_can_cover : List Str := ["self", "pebbles"]
theorem sc_Board_can_cover : FnScope N_Board_can_cover ["self"] (defScope s_Board_can_cover) := ⟨rfl, rfl, rfl, by decide +kernel, rfl, by decide +kernel, by decide +kernel⟩
abbrev N_Board_connected_diameter : List Str := ["self", "found"]
theorem sc_Board_connected_diameter : FnScope N_Board_connected_diameter ["self"] (defScope s_Board_connected_diameter) := ⟨rfl, rfl, rfl, by decide +kernel, rfl, by decide +kernel, by decide +kernel⟩
abbrev N_Board_check_small : List Str := ["self"]
theorem sc_Board_check_small : FnScope N_Board_check_small ["self"] (defScope s_Board_check_small) := ⟨rfl, rfl, rfl, by decide +kernel, rfl, by decide +kernel, by decide +kernel⟩
abbrev N_Board_number : List Str := ["self", "target", "rubbling"]
theorem sc_Board_number : FnScope N_Board_number ["self", "target", "rubbling"] (defScope s_Board_number) := ⟨rfl, rfl, rfl, by decide +kernel, rfl, by decide +kernel, by decide +kernel⟩
abbrev N_Board_graph_number : List Str := ["self", "vertex"]
theorem sc_Board_graph_number : FnScope N_Board_graph_number ["self"] (defScope s_Board_graph_number) := ⟨rfl, rfl, rfl, by decide +kernel, rfl, by decide +kernel, by decide +kernel⟩
abbrev N_Board_unsolvable : List Str := ["self", "target", "pebbles"]
theorem sc_Board_unsolvable : FnScope N_Board_unsolvable ["self", "target", "pebbles"] (defScope s_Board_unsolvable) := ⟨rfl, rfl, rfl, by decide +kernel, rfl, by decide +kernel, by decide +kernel⟩
abbrev N_Board_unsolvable_at : List Str := ["self", "target", "pebbles", "index", "rows"]
theorem sc_Board_unsolvable_at : FnScope N_Board_unsolvable_at ["self", "target", "pebbles", "index"] (defScope s_Board_unsolvable_at) := ⟨rfl, rfl, rfl, by decide +kernel, rfl, by decide +kernel, by decide +kernel⟩
abbrev N_Board_path_partition : List Str := ["self", "target", "lengths", "length"]
theorem sc_Board_path_partition : FnScope N_Board_path_partition ["self", "target"] (defScope s_Board_path_partition) := ⟨rfl, rfl, rfl, by decide +kernel, rfl, by decide +kernel, by decide +kernel⟩
abbrev N_Board_is_solvable : List Str := ["self", "pebbles", "vertex"]
theorem sc_Board_is_solvable : FnScope N_Board_is_solvable ["self", "pebbles"] (defScope s_Board_is_solvable) := ⟨rfl, rfl, rfl, by decide +kernel, rfl, by decide +kernel, by decide +kernel⟩
abbrev N_Board_optimal : List Str := ["self", "total", "pebbles"]
theorem sc_Board_optimal : FnScope N_Board_optimal ["self"] (defScope s_Board_optimal) := ⟨rfl, rfl, rfl, by decide +kernel, rfl, by decide +kernel, by decide +kernel⟩
abbrev N_Board_cover : List Str := ["self"]
theorem sc_Board_cover : FnScope N_Board_cover ["self"] (defScope s_Board_cover) := ⟨rfl, rfl, rfl, by decide +kernel, rfl, by decide +kernel, by decide +kernel⟩
abbrev N_Board_certificate : List Str := ["self", "target", "row", "near", "most", "parents", "weights", "vertex", "one"]
theorem sc_Board_certificate : FnScope N_Board_certificate ["self", "target"] (defScope s_Board_certificate) := ⟨rfl, rfl, rfl, by decide +kernel, rfl, by decide +kernel, by decide +kernel⟩
abbrev N_Board_check_certificate : List Str := ["self", "target", "parents", "weights", "right", "weight"]
theorem sc_Board_check_certificate : FnScope N_Board_check_certificate ["self", "target", "parents", "weights"] (defScope s_Board_check_certificate) := ⟨rfl, rfl, rfl, by decide +kernel, rfl, by decide +kernel, by decide +kernel⟩
abbrev N_Board_is_valid : List Str := ["self", "target", "parents", "weights", "near", "vertex", "parent"]
theorem sc_Board_is_valid : FnScope N_Board_is_valid ["self", "target", "parents", "weights"] (defScope s_Board_is_valid) := ⟨rfl, rfl, rfl, by decide +kernel, rfl, by decide +kernel, by decide +kernel⟩
abbrev N_Board_proves : List Str := ["self", "target", "parents", "weights", "weight", "one", "many"]
theorem sc_Board_proves : FnScope N_Board_proves ["self", "target", "parents", "weights"] (defScope s_Board_proves) := ⟨rfl, rfl, rfl, by decide +kernel, rfl, by decide +kernel, by decide +kernel⟩
abbrev N_Board_status : List Str := ["self"]
theorem sc_Board_status : FnScope N_Board_status ["self"] (defScope s_Board_status) := ⟨rfl, rfl, rfl, by decide +kernel, rfl, by decide +kernel, by decide +kernel⟩
abbrev N_changed : List Str := ["board", "number", "given"]
theorem sc_changed : FnScope N_changed ["board", "number", "given"] (defScope s_changed) := ⟨rfl, rfl, rfl, by decide +kernel, rfl, by decide +kernel, by decide +kernel⟩
abbrev N_asked : List Str := ["board", "number", "given"]
theorem sc_asked : FnScope N_asked ["board", "number", "given"] (defScope s_asked) := ⟨rfl, rfl, rfl, by decide +kernel, rfl, by decide +kernel, by decide +kernel⟩
abbrev N_asked_more : List Str := ["board", "number", "given"]
theorem sc_asked_more : FnScope N_asked_more ["board", "number", "given"] (defScope s_asked_more) := ⟨rfl, rfl, rfl, by decide +kernel, rfl, by decide +kernel, by decide +kernel⟩
abbrev N_done : List Str := ["board", "number", "given"]
theorem sc_done : FnScope N_done ["board", "number", "given"] (defScope s_done) := ⟨rfl, rfl, rfl, by decide +kernel, rfl, by decide +kernel, by decide +kernel⟩
abbrev N_answers : List Str := ["calls", "board", "found", "at", "number", "given", "turn", "many", "right", "answer", "e"]
theorem sc_answers : FnScope N_answers ["calls"] (defScope s_answers) := ⟨rfl, rfl, rfl, by decide +kernel, rfl, by decide +kernel, by decide +kernel⟩

/-- where the defs, classes and constants stand -/
structure Adr where
  f_neighbours : Addr
  f_distances : Addr
  f_diameter : Addr
  f_is_tree : Addr
  f_two_to : Addr
  f_cover_number : Addr
  f_way_back : Addr
  f_path_lengths : Addr
  f_taken : Addr
  f_can_take : Addr
  f_pebbling_moves : Addr
  f_behind_pebbling : Addr
  f_behind_rubbling : Addr
  f_behind : Addr
  f_steps_from : Addr
  f_least_moves : Addr
  f_most_pebbles : Addr
  f_first_sequence : Addr
  f_configurations : Addr
  f_Solved_init : Addr
  f_Solved_is_solved : Addr
  f_Solved_unsolvable : Addr
  f_Solved_number : Addr
  f_Refused_init : Addr
  f_refuse_if : Addr
  f_lowest : Addr
  f_Board_init : Addr
  f_Board_push : Addr
  f_Board_put_edges : Addr
  f_Board_check : Addr
  f_Board_near_all : Addr
  f_Board_steps : Addr
  f_Board_solver : Addr
  f_Board_edge : Addr
  f_Board_put_edge : Addr
  f_Board_take_edge : Addr
  f_Board_set_pebbles : Addr
  f_Board_put_pebbles : Addr
  f_Board_rub : Addr
  f_Board_bring : Addr
  f_Board_undo : Addr
  f_Board_list_edges : Addr
  f_Board_list_pebbles : Addr
  f_Board_distance : Addr
  f_Board_least : Addr
  f_Board_most : Addr
  f_Board_sequence : Addr
  f_Board_shortest_sequence : Addr
  f_Board_reachable : Addr
  f_Board_weight_at : Addr
  f_Board_can_cover : Addr
  f_Board_connected_diameter : Addr
  f_Board_check_small : Addr
  f_Board_number : Addr
  f_Board_graph_number : Addr
  f_Board_unsolvable : Addr
  f_Board_unsolvable_at : Addr
  f_Board_path_partition : Addr
  f_Board_is_solvable : Addr
  f_Board_optimal : Addr
  f_Board_cover : Addr
  f_Board_certificate : Addr
  f_Board_check_certificate : Addr
  f_Board_is_valid : Addr
  f_Board_proves : Addr
  f_Board_status : Addr
  f_changed : Addr
  f_asked : Addr
  f_asked_more : Addr
  f_done : Addr
  f_answers : Addr
  C_Solved : Addr
  C_Refused : Addr
  C_Board : Addr
  t_FAR : Tok
  t_MOST_VERTICES : Tok
  t_MOST_PEBBLES : Tok
  t_MOST_ASKED : Tok
  t_MOST_UNDONE : Tok
  t_MOST_DIAMETER : Tok
  t_MOST_WEIGHT : Tok
  a_SINGLES : Addr
  a_LISTS : Addr
/-- what the top has written -/
structure Txt (K : PySem.W.Frag) (mg : Str → Option Value) (A : Adr) : Prop where
  n_all : mg "all" = none
  n_any : mg "any" = none
  n_len : mg "len" = none
  n_list : mg "list" = none
  n_max : mg "max" = none
  n_min : mg "min" = none
  n_range : mg "range" = none
  n_sorted : mg "sorted" = none
  n_sum : mg "sum" = none
  n_tuple : mg "tuple" = none
  n_zip : mg "zip" = none
  c_FAR : mg "FAR" = some (.int (-1) A.t_FAR)
  c_MOST_VERTICES : mg "MOST_VERTICES" = some (.int 5 A.t_MOST_VERTICES)
  c_MOST_PEBBLES : mg "MOST_PEBBLES" = some (.int 12 A.t_MOST_PEBBLES)
  c_MOST_ASKED : mg "MOST_ASKED" = some (.int 10 A.t_MOST_ASKED)
  c_MOST_UNDONE : mg "MOST_UNDONE" = some (.int 10 A.t_MOST_UNDONE)
  c_MOST_DIAMETER : mg "MOST_DIAMETER" = some (.int 3 A.t_MOST_DIAMETER)
  c_MOST_WEIGHT : mg "MOST_WEIGHT" = some (.int 1000 A.t_MOST_WEIGHT)
  F_neighbours : ∃ fd, Fun K "neighbours" "neighbours" s_neighbours A.f_neighbours fd
  g_neighbours : mg "neighbours" = some (.ref A.f_neighbours)
  F_distances : ∃ fd, Fun K "distances" "distances" s_distances A.f_distances fd
  g_distances : mg "distances" = some (.ref A.f_distances)
  F_diameter : ∃ fd, Fun K "diameter" "diameter" s_diameter A.f_diameter fd
  g_diameter : mg "diameter" = some (.ref A.f_diameter)
  F_is_tree : ∃ fd, Fun K "is_tree" "is_tree" s_is_tree A.f_is_tree fd
  g_is_tree : mg "is_tree" = some (.ref A.f_is_tree)
  F_two_to : ∃ fd, Fun K "two_to" "two_to" s_two_to A.f_two_to fd
  g_two_to : mg "two_to" = some (.ref A.f_two_to)
  F_cover_number : ∃ fd, Fun K "cover_number" "cover_number" s_cover_number A.f_cover_number fd
  g_cover_number : mg "cover_number" = some (.ref A.f_cover_number)
  F_way_back : ∃ fd, Fun K "way_back" "way_back" s_way_back A.f_way_back fd
  g_way_back : mg "way_back" = some (.ref A.f_way_back)
  F_path_lengths : ∃ fd, Fun K "path_lengths" "path_lengths" s_path_lengths A.f_path_lengths fd
  g_path_lengths : mg "path_lengths" = some (.ref A.f_path_lengths)
  F_taken : ∃ fd, Fun K "taken" "taken" s_taken A.f_taken fd
  g_taken : mg "taken" = some (.ref A.f_taken)
  F_can_take : ∃ fd, Fun K "can_take" "can_take" s_can_take A.f_can_take fd
  g_can_take : mg "can_take" = some (.ref A.f_can_take)
  F_pebbling_moves : ∃ fd, Fun K "pebbling_moves" "pebbling_moves" s_pebbling_moves A.f_pebbling_moves fd
  g_pebbling_moves : mg "pebbling_moves" = some (.ref A.f_pebbling_moves)
  F_behind_pebbling : ∃ fd, Fun K "behind_pebbling" "behind_pebbling" s_behind_pebbling A.f_behind_pebbling fd
  g_behind_pebbling : mg "behind_pebbling" = some (.ref A.f_behind_pebbling)
  F_behind_rubbling : ∃ fd, Fun K "behind_rubbling" "behind_rubbling" s_behind_rubbling A.f_behind_rubbling fd
  g_behind_rubbling : mg "behind_rubbling" = some (.ref A.f_behind_rubbling)
  F_behind : ∃ fd, Fun K "behind" "behind" s_behind A.f_behind fd
  g_behind : mg "behind" = some (.ref A.f_behind)
  F_steps_from : ∃ fd, Fun K "steps_from" "steps_from" s_steps_from A.f_steps_from fd
  g_steps_from : mg "steps_from" = some (.ref A.f_steps_from)
  F_least_moves : ∃ fd, Fun K "least_moves" "least_moves" s_least_moves A.f_least_moves fd
  g_least_moves : mg "least_moves" = some (.ref A.f_least_moves)
  F_most_pebbles : ∃ fd, Fun K "most_pebbles" "most_pebbles" s_most_pebbles A.f_most_pebbles fd
  g_most_pebbles : mg "most_pebbles" = some (.ref A.f_most_pebbles)
  F_first_sequence : ∃ fd, Fun K "first_sequence" "first_sequence" s_first_sequence A.f_first_sequence fd
  g_first_sequence : mg "first_sequence" = some (.ref A.f_first_sequence)
  F_configurations : ∃ fd, Fun K "configurations" "configurations" s_configurations A.f_configurations fd
  g_configurations : mg "configurations" = some (.ref A.f_configurations)
  F_Solved_init : ∃ fd, Fun K "__init__" "Solved.__init__" s_Solved_init A.f_Solved_init fd
  F_Solved_is_solved : ∃ fd, Fun K "is_solved" "Solved.is_solved" s_Solved_is_solved A.f_Solved_is_solved fd
  m_Solved_is_solved : Meth K A.C_Solved "is_solved" A.f_Solved_is_solved
  F_Solved_unsolvable : ∃ fd, Fun K "unsolvable" "Solved.unsolvable" s_Solved_unsolvable A.f_Solved_unsolvable fd
  m_Solved_unsolvable : Meth K A.C_Solved "unsolvable" A.f_Solved_unsolvable
  F_Solved_number : ∃ fd, Fun K "number" "Solved.number" s_Solved_number A.f_Solved_number fd
  m_Solved_number : Meth K A.C_Solved "number" A.f_Solved_number
  F_refuse_if : ∃ fd, Fun K "refuse_if" "refuse_if" s_refuse_if A.f_refuse_if fd
  g_refuse_if : mg "refuse_if" = some (.ref A.f_refuse_if)
  F_lowest : ∃ fd, Fun K "lowest" "lowest" s_lowest A.f_lowest fd
  g_lowest : mg "lowest" = some (.ref A.f_lowest)
  F_Board_init : ∃ fd, Fun K "__init__" "Board.__init__" s_Board_init A.f_Board_init fd
  F_Board_push : ∃ fd, Fun K "push" "Board.push" s_Board_push A.f_Board_push fd
  m_Board_push : Meth K A.C_Board "push" A.f_Board_push
  F_Board_put_edges : ∃ fd, Fun K "put_edges" "Board.put_edges" s_Board_put_edges A.f_Board_put_edges fd
  m_Board_put_edges : Meth K A.C_Board "put_edges" A.f_Board_put_edges
  F_Board_check : ∃ fd, Fun K "check" "Board.check" s_Board_check A.f_Board_check fd
  m_Board_check : Meth K A.C_Board "check" A.f_Board_check
  F_Board_near_all : ∃ fd, Fun K "near_all" "Board.near_all" s_Board_near_all A.f_Board_near_all fd
  m_Board_near_all : Meth K A.C_Board "near_all" A.f_Board_near_all
  F_Board_steps : ∃ fd, Fun K "steps" "Board.steps" s_Board_steps A.f_Board_steps fd
  m_Board_steps : Meth K A.C_Board "steps" A.f_Board_steps
  F_Board_solver : ∃ fd, Fun K "solver" "Board.solver" s_Board_solver A.f_Board_solver fd
  m_Board_solver : Meth K A.C_Board "solver" A.f_Board_solver
  F_Board_edge : ∃ fd, Fun K "edge" "Board.edge" s_Board_edge A.f_Board_edge fd
  m_Board_edge : Meth K A.C_Board "edge" A.f_Board_edge
  F_Board_put_edge : ∃ fd, Fun K "put_edge" "Board.put_edge" s_Board_put_edge A.f_Board_put_edge fd
  m_Board_put_edge : Meth K A.C_Board "put_edge" A.f_Board_put_edge
  F_Board_take_edge : ∃ fd, Fun K "take_edge" "Board.take_edge" s_Board_take_edge A.f_Board_take_edge fd
  m_Board_take_edge : Meth K A.C_Board "take_edge" A.f_Board_take_edge
  F_Board_set_pebbles : ∃ fd, Fun K "set_pebbles" "Board.set_pebbles" s_Board_set_pebbles A.f_Board_set_pebbles fd
  m_Board_set_pebbles : Meth K A.C_Board "set_pebbles" A.f_Board_set_pebbles
  F_Board_put_pebbles : ∃ fd, Fun K "put_pebbles" "Board.put_pebbles" s_Board_put_pebbles A.f_Board_put_pebbles fd
  m_Board_put_pebbles : Meth K A.C_Board "put_pebbles" A.f_Board_put_pebbles
  F_Board_rub : ∃ fd, Fun K "rub" "Board.rub" s_Board_rub A.f_Board_rub fd
  m_Board_rub : Meth K A.C_Board "rub" A.f_Board_rub
  F_Board_bring : ∃ fd, Fun K "bring" "Board.bring" s_Board_bring A.f_Board_bring fd
  m_Board_bring : Meth K A.C_Board "bring" A.f_Board_bring
  F_Board_undo : ∃ fd, Fun K "undo" "Board.undo" s_Board_undo A.f_Board_undo fd
  m_Board_undo : Meth K A.C_Board "undo" A.f_Board_undo
  F_Board_list_edges : ∃ fd, Fun K "list_edges" "Board.list_edges" s_Board_list_edges A.f_Board_list_edges fd
  m_Board_list_edges : Meth K A.C_Board "list_edges" A.f_Board_list_edges
  F_Board_list_pebbles : ∃ fd, Fun K "list_pebbles" "Board.list_pebbles" s_Board_list_pebbles A.f_Board_list_pebbles fd
  m_Board_list_pebbles : Meth K A.C_Board "list_pebbles" A.f_Board_list_pebbles
  F_Board_distance : ∃ fd, Fun K "distance" "Board.distance" s_Board_distance A.f_Board_distance fd
  m_Board_distance : Meth K A.C_Board "distance" A.f_Board_distance
  F_Board_least : ∃ fd, Fun K "least" "Board.least" s_Board_least A.f_Board_least fd
  m_Board_least : Meth K A.C_Board "least" A.f_Board_least
  F_Board_most : ∃ fd, Fun K "most" "Board.most" s_Board_most A.f_Board_most fd
  m_Board_most : Meth K A.C_Board "most" A.f_Board_most
  F_Board_sequence : ∃ fd, Fun K "sequence" "Board.sequence" s_Board_sequence A.f_Board_sequence fd
  m_Board_sequence : Meth K A.C_Board "sequence" A.f_Board_sequence
  F_Board_shortest_sequence : ∃ fd, Fun K "shortest_sequence" "Board.shortest_sequence" s_Board_shortest_sequence A.f_Board_shortest_sequence fd
  m_Board_shortest_sequence : Meth K A.C_Board "shortest_sequence" A.f_Board_shortest_sequence
  F_Board_reachable : ∃ fd, Fun K "reachable" "Board.reachable" s_Board_reachable A.f_Board_reachable fd
  m_Board_reachable : Meth K A.C_Board "reachable" A.f_Board_reachable
  F_Board_weight_at : ∃ fd, Fun K "weight_at" "Board.weight_at" s_Board_weight_at A.f_Board_weight_at fd
  m_Board_weight_at : Meth K A.C_Board "weight_at" A.f_Board_weight_at
  F_Board_can_cover : ∃ fd, Fun K "can_cover" "Board.can_cover" s_Board_can_cover A.f_Board_can_cover fd
  m_Board_can_cover : Meth K A.C_Board "can_cover" A.f_Board_can_cover
  F_Board_connected_diameter : ∃ fd, Fun K "connected_diameter" "Board.connected_diameter" s_Board_connected_diameter A.f_Board_connected_diameter fd
  m_Board_connected_diameter : Meth K A.C_Board "connected_diameter" A.f_Board_connected_diameter
  F_Board_check_small : ∃ fd, Fun K "check_small" "Board.check_small" s_Board_check_small A.f_Board_check_small fd
  m_Board_check_small : Meth K A.C_Board "check_small" A.f_Board_check_small
  F_Board_number : ∃ fd, Fun K "number" "Board.number" s_Board_number A.f_Board_number fd
  m_Board_number : Meth K A.C_Board "number" A.f_Board_number
  F_Board_graph_number : ∃ fd, Fun K "graph_number" "Board.graph_number" s_Board_graph_number A.f_Board_graph_number fd
  m_Board_graph_number : Meth K A.C_Board "graph_number" A.f_Board_graph_number
  F_Board_unsolvable : ∃ fd, Fun K "unsolvable" "Board.unsolvable" s_Board_unsolvable A.f_Board_unsolvable fd
  m_Board_unsolvable : Meth K A.C_Board "unsolvable" A.f_Board_unsolvable
  F_Board_unsolvable_at : ∃ fd, Fun K "unsolvable_at" "Board.unsolvable_at" s_Board_unsolvable_at A.f_Board_unsolvable_at fd
  m_Board_unsolvable_at : Meth K A.C_Board "unsolvable_at" A.f_Board_unsolvable_at
  F_Board_path_partition : ∃ fd, Fun K "path_partition" "Board.path_partition" s_Board_path_partition A.f_Board_path_partition fd
  m_Board_path_partition : Meth K A.C_Board "path_partition" A.f_Board_path_partition
  F_Board_is_solvable : ∃ fd, Fun K "is_solvable" "Board.is_solvable" s_Board_is_solvable A.f_Board_is_solvable fd
  m_Board_is_solvable : Meth K A.C_Board "is_solvable" A.f_Board_is_solvable
  F_Board_optimal : ∃ fd, Fun K "optimal" "Board.optimal" s_Board_optimal A.f_Board_optimal fd
  m_Board_optimal : Meth K A.C_Board "optimal" A.f_Board_optimal
  F_Board_cover : ∃ fd, Fun K "cover" "Board.cover" s_Board_cover A.f_Board_cover fd
  m_Board_cover : Meth K A.C_Board "cover" A.f_Board_cover
  F_Board_certificate : ∃ fd, Fun K "certificate" "Board.certificate" s_Board_certificate A.f_Board_certificate fd
  m_Board_certificate : Meth K A.C_Board "certificate" A.f_Board_certificate
  F_Board_check_certificate : ∃ fd, Fun K "check_certificate" "Board.check_certificate" s_Board_check_certificate A.f_Board_check_certificate fd
  m_Board_check_certificate : Meth K A.C_Board "check_certificate" A.f_Board_check_certificate
  F_Board_is_valid : ∃ fd, Fun K "is_valid" "Board.is_valid" s_Board_is_valid A.f_Board_is_valid fd
  m_Board_is_valid : Meth K A.C_Board "is_valid" A.f_Board_is_valid
  F_Board_proves : ∃ fd, Fun K "proves" "Board.proves" s_Board_proves A.f_Board_proves fd
  m_Board_proves : Meth K A.C_Board "proves" A.f_Board_proves
  F_Board_status : ∃ fd, Fun K "status" "Board.status" s_Board_status A.f_Board_status fd
  m_Board_status : Meth K A.C_Board "status" A.f_Board_status
  F_changed : ∃ fd, Fun K "changed" "changed" s_changed A.f_changed fd
  g_changed : mg "changed" = some (.ref A.f_changed)
  F_asked : ∃ fd, Fun K "asked" "asked" s_asked A.f_asked fd
  g_asked : mg "asked" = some (.ref A.f_asked)
  F_asked_more : ∃ fd, Fun K "asked_more" "asked_more" s_asked_more A.f_asked_more fd
  g_asked_more : mg "asked_more" = some (.ref A.f_asked_more)
  F_done : ∃ fd, Fun K "done" "done" s_done A.f_done fd
  g_done : mg "done" = some (.ref A.f_done)
  F_answers : ∃ fd, Fun K "answers" "answers" s_answers A.f_answers fd
  g_answers : mg "answers" = some (.ref A.f_answers)
  g_Solved : mg "Solved" = some (.ref A.C_Solved)
  cl_Solved : Cls K A.C_Solved
  mk_Solved : Mk K A.C_Solved A.f_Solved_init
  na_Solved_rows : NoAttr K A.C_Solved "rows"
  na_Solved_target : NoAttr K A.C_Solved "target"
  na_Solved_rubbling : NoAttr K A.C_Solved "rubbling"
  na_Solved_known : NoAttr K A.C_Solved "known"
  g_Board : mg "Board" = some (.ref A.C_Board)
  cl_Board : Cls K A.C_Board
  mk_Board : Mk K A.C_Board A.f_Board_init
  na_Board_many : NoAttr K A.C_Board "many"
  na_Board_edges : NoAttr K A.C_Board "edges"
  na_Board_pebbles : NoAttr K A.C_Board "pebbles"
  na_Board_moved : NoAttr K A.C_Board "moved"
  na_Board_earlier : NoAttr K A.C_Board "earlier"
  na_Board_solved : NoAttr K A.C_Board "solved"
  na_Board_came : NoAttr K A.C_Board "came"
  low : PySem.RefX.RefTxt K mg A.C_Refused A.f_Refused_init
  c_SINGLES : mg "SINGLES" = some (.ref A.a_SINGLES)
  w_SINGLES : ∀ H, SqT K H A.a_SINGLES ([.int 1, .int 2, .int 2, .int 0, .int 2, .int 2, .int 3, .int 2, .int 0, .int 0, .int 0, .int 2, .int 2, .int 1, .int 2, .int 0, .int 1, .int 2, .int 1, .int 0, .int 0, .int 1, .int 1, .int 0, .int 2, .int 3, .int 1, .int 0, .int 0, .int 1, .int 1, .int 1, .int 0])
  c_LISTS : mg "LISTS" = some (.ref A.a_LISTS)
  w_LISTS : KIntD K A.a_LISTS [(3, 1), (30, 2), (31, 2)]
theorem Txt.k_neighbours {K : PySem.W.Frag} {mg : Str → Option Value} {A : Adr} (T : Txt K mg A) : PySem.W.keepIn K (.ref A.f_neighbours) = true := let ⟨_, F⟩ := T.F_neighbours; F.kp
theorem Txt.k_distances {K : PySem.W.Frag} {mg : Str → Option Value} {A : Adr} (T : Txt K mg A) : PySem.W.keepIn K (.ref A.f_distances) = true := let ⟨_, F⟩ := T.F_distances; F.kp
theorem Txt.k_diameter {K : PySem.W.Frag} {mg : Str → Option Value} {A : Adr} (T : Txt K mg A) : PySem.W.keepIn K (.ref A.f_diameter) = true := let ⟨_, F⟩ := T.F_diameter; F.kp
theorem Txt.k_is_tree {K : PySem.W.Frag} {mg : Str → Option Value} {A : Adr} (T : Txt K mg A) : PySem.W.keepIn K (.ref A.f_is_tree) = true := let ⟨_, F⟩ := T.F_is_tree; F.kp
theorem Txt.k_two_to {K : PySem.W.Frag} {mg : Str → Option Value} {A : Adr} (T : Txt K mg A) : PySem.W.keepIn K (.ref A.f_two_to) = true := let ⟨_, F⟩ := T.F_two_to; F.kp
theorem Txt.k_cover_number {K : PySem.W.Frag} {mg : Str → Option Value} {A : Adr} (T : Txt K mg A) : PySem.W.keepIn K (.ref A.f_cover_number) = true := let ⟨_, F⟩ := T.F_cover_number; F.kp
theorem Txt.k_way_back {K : PySem.W.Frag} {mg : Str → Option Value} {A : Adr} (T : Txt K mg A) : PySem.W.keepIn K (.ref A.f_way_back) = true := let ⟨_, F⟩ := T.F_way_back; F.kp
theorem Txt.k_path_lengths {K : PySem.W.Frag} {mg : Str → Option Value} {A : Adr} (T : Txt K mg A) : PySem.W.keepIn K (.ref A.f_path_lengths) = true := let ⟨_, F⟩ := T.F_path_lengths; F.kp
theorem Txt.k_taken {K : PySem.W.Frag} {mg : Str → Option Value} {A : Adr} (T : Txt K mg A) : PySem.W.keepIn K (.ref A.f_taken) = true := let ⟨_, F⟩ := T.F_taken; F.kp
theorem Txt.k_can_take {K : PySem.W.Frag} {mg : Str → Option Value} {A : Adr} (T : Txt K mg A) : PySem.W.keepIn K (.ref A.f_can_take) = true := let ⟨_, F⟩ := T.F_can_take; F.kp
theorem Txt.k_pebbling_moves {K : PySem.W.Frag} {mg : Str → Option Value} {A : Adr} (T : Txt K mg A) : PySem.W.keepIn K (.ref A.f_pebbling_moves) = true := let ⟨_, F⟩ := T.F_pebbling_moves; F.kp
theorem Txt.k_behind_pebbling {K : PySem.W.Frag} {mg : Str → Option Value} {A : Adr} (T : Txt K mg A) : PySem.W.keepIn K (.ref A.f_behind_pebbling) = true := let ⟨_, F⟩ := T.F_behind_pebbling; F.kp
theorem Txt.k_behind_rubbling {K : PySem.W.Frag} {mg : Str → Option Value} {A : Adr} (T : Txt K mg A) : PySem.W.keepIn K (.ref A.f_behind_rubbling) = true := let ⟨_, F⟩ := T.F_behind_rubbling; F.kp
theorem Txt.k_behind {K : PySem.W.Frag} {mg : Str → Option Value} {A : Adr} (T : Txt K mg A) : PySem.W.keepIn K (.ref A.f_behind) = true := let ⟨_, F⟩ := T.F_behind; F.kp
theorem Txt.k_steps_from {K : PySem.W.Frag} {mg : Str → Option Value} {A : Adr} (T : Txt K mg A) : PySem.W.keepIn K (.ref A.f_steps_from) = true := let ⟨_, F⟩ := T.F_steps_from; F.kp
theorem Txt.k_least_moves {K : PySem.W.Frag} {mg : Str → Option Value} {A : Adr} (T : Txt K mg A) : PySem.W.keepIn K (.ref A.f_least_moves) = true := let ⟨_, F⟩ := T.F_least_moves; F.kp
theorem Txt.k_most_pebbles {K : PySem.W.Frag} {mg : Str → Option Value} {A : Adr} (T : Txt K mg A) : PySem.W.keepIn K (.ref A.f_most_pebbles) = true := let ⟨_, F⟩ := T.F_most_pebbles; F.kp
theorem Txt.k_first_sequence {K : PySem.W.Frag} {mg : Str → Option Value} {A : Adr} (T : Txt K mg A) : PySem.W.keepIn K (.ref A.f_first_sequence) = true := let ⟨_, F⟩ := T.F_first_sequence; F.kp
theorem Txt.k_configurations {K : PySem.W.Frag} {mg : Str → Option Value} {A : Adr} (T : Txt K mg A) : PySem.W.keepIn K (.ref A.f_configurations) = true := let ⟨_, F⟩ := T.F_configurations; F.kp
theorem Txt.k_refuse_if {K : PySem.W.Frag} {mg : Str → Option Value} {A : Adr} (T : Txt K mg A) : PySem.W.keepIn K (.ref A.f_refuse_if) = true := let ⟨_, F⟩ := T.F_refuse_if; F.kp
theorem Txt.k_lowest {K : PySem.W.Frag} {mg : Str → Option Value} {A : Adr} (T : Txt K mg A) : PySem.W.keepIn K (.ref A.f_lowest) = true := let ⟨_, F⟩ := T.F_lowest; F.kp
theorem Txt.k_changed {K : PySem.W.Frag} {mg : Str → Option Value} {A : Adr} (T : Txt K mg A) : PySem.W.keepIn K (.ref A.f_changed) = true := let ⟨_, F⟩ := T.F_changed; F.kp
theorem Txt.k_asked {K : PySem.W.Frag} {mg : Str → Option Value} {A : Adr} (T : Txt K mg A) : PySem.W.keepIn K (.ref A.f_asked) = true := let ⟨_, F⟩ := T.F_asked; F.kp
theorem Txt.k_asked_more {K : PySem.W.Frag} {mg : Str → Option Value} {A : Adr} (T : Txt K mg A) : PySem.W.keepIn K (.ref A.f_asked_more) = true := let ⟨_, F⟩ := T.F_asked_more; F.kp
theorem Txt.k_done {K : PySem.W.Frag} {mg : Str → Option Value} {A : Adr} (T : Txt K mg A) : PySem.W.keepIn K (.ref A.f_done) = true := let ⟨_, F⟩ := T.F_done; F.kp
theorem Txt.k_answers {K : PySem.W.Frag} {mg : Str → Option Value} {A : Adr} (T : Txt K mg A) : PySem.W.keepIn K (.ref A.f_answers) = true := let ⟨_, F⟩ := T.F_answers; F.kp

/-- a def's promise, with how its arguments bind -/
def Ok (P : Program) (w : World) (K : PySem.W.Frag) (mg : Str → Option Value) (base : Heap) (CX : CXT) (k : Nat) (f : Addr) (ps : List Str) (sp : Sp) : Prop := ∃ fd, FnOk P w K mg base CX k f fd ps sp ∧ Binds K fd ps []
end PBW

namespace PBW
open PySem PySem.Spec PyProof.Rows L2 Evl PB
open Ks577 (Graph pebblesAt isAdjacent)
abbrev nV (n : Nat) : V := .int (n : Int)
def nVs (l : List Nat) : List V := l.map nV
def zI (l : List Nat) : List Int := l.map fun n : Nat => (n : Int)
theorem nVs_len (l : List Nat) : (nVs l).length = l.length := by unfold nVs; rw [List.length_map]
theorem nVs_get {l : List Nat} {i x : Nat} (h : l[i]? = some x) : (nVs l)[i]? = some (nV x) := by unfold nVs; rw [List.getElem?_map, h]; rfl
theorem nVs_of {l : List Nat} {i : Nat} {y : V} (h : (nVs l)[i]? = some y) : ∃ x, l[i]? = some x ∧ y = nV x := by
  unfold nVs at h
  rw [List.getElem?_map] at h
  cases e : l[i]? with
  | none => rw [e] at h; cases h
  | some x => rw [e] at h; exact ⟨x, rfl, (Option.some.inj h).symm⟩
theorem getD_at {l : List Nat} {i : Nat} (h : i < l.length) : l[i]? = some (l.getD i 0) := by
  rw [List.getD_eq_getElem?_getD, List.getElem?_eq_getElem h]
  rfl
theorem at_nVs {l : List Nat} {i : Nat} (h : i < l.length) : atI (nVs l) (i : Int) = some (nV (l.getD i 0)) := atI_nat (nVs_get (getD_at h))
theorem nVs_zI (l : List Nat) : nVs l = (zI l).map V.int := by unfold nVs zI; rw [List.map_map]; rfl
theorem zI_sum (l : List Nat) : (zI l).sum = ((l.sum : Nat) : Int) := by
  unfold zI
  induction l with
  | nil => rfl
  | cons a r ih => rw [List.map_cons, List.sum_cons, List.sum_cons, ih]; omega
theorem nVs_app (l m : List Nat) : nVs (l ++ m) = nVs l ++ nVs m := by unfold nVs; rw [List.map_append]
theorem nVs_set (l : List Nat) (i x : Nat) : (nVs l).set i (nV x) = nVs (l.set i x) := by unfold nVs; rw [List.map_set]
theorem nVs_flat (l : List Nat) : (nVs l).all flatV = true := by
  rw [List.all_eq_true]
  intro x hx
  obtain ⟨n, _, rfl⟩ := List.mem_map.mp hx
  rfl
theorem inV_nVs (x : Nat) : ∀ l : List Nat, inV (nV x) (nVs l) = l.contains x
  | [] => rfl
  | a :: r => by
    have ih := inV_nVs x r
    unfold inV nVs at ih ⊢
    rw [List.map_cons, List.any_cons, ih, List.contains_cons]
    congr 1
    show ((a : Int) == (x : Int)) = (x == a)
    by_cases h : a = x
    · subst h; simp
    · rw [beq_eq_false_iff_ne.mpr (show (a : Int) ≠ (x : Int) by omega), beq_eq_false_iff_ne.mpr (Ne.symm h)]
theorem szs {n : Nat} (h : n ≤ 1000000) : n ≤ sizeLine := Nat.le_trans h (by rw [sizeLine_eq]; decide)
theorem szl {n : Nat} (h : n < 1000000) : n < sizeLine := Nat.lt_of_lt_of_le h (by rw [sizeLine_eq]; decide)
/-! ### pairs -/
theorem paired_at {α β : Type} {F : α → β → Prop} : ∀ {l : List α} {m : List β} {i : Nat} {a : α}, Paired F l m → l[i]? = some a → ∃ b, m[i]? = some b ∧ F a b
  | _, _, _, _, .nil, h => by simp at h
  | _, _, 0, _, .cons r _, h => by simp at h; subst h; exact ⟨_, rfl, r⟩
  | _, _, i + 1, a, .cons _ t, h => by
    obtain ⟨b, h1, h2⟩ := paired_at (i := i) (a := a) t (by simpa using h)
    exact ⟨b, by simpa using h1, h2⟩
theorem paired_of {α β : Type} {F : α → β → Prop} : ∀ {l : List α} {m : List β} {i : Nat} {b : β}, Paired F l m → m[i]? = some b → ∃ a, l[i]? = some a ∧ F a b
  | _, _, _, _, .nil, h => by simp at h
  | _, _, 0, _, .cons r _, h => by simp at h; subst h; exact ⟨_, rfl, r⟩
  | _, _, i + 1, b, .cons _ t, h => by
    obtain ⟨a, h1, h2⟩ := paired_of (i := i) (b := b) t (by simpa using h)
    exact ⟨a, by simpa using h1, h2⟩
theorem paired_app {α β : Type} {F : α → β → Prop} : ∀ {l l' : List α} {m m' : List β}, Paired F l m → Paired F l' m' → Paired F (l ++ l') (m ++ m')
  | _, _, _, _, .nil, s => s
  | _, _, _, _, .cons r t, s => .cons r (paired_app t s)
/-! ### what an answer is: a new object; a value -/
def Ret (R : Hp → Addr → Prop) (H : Hp) (Q : VK) : Prop := ∀ p H2, H p = none → Ex H H2 → R H2 p → Q (.ref p) H2
theorem Ret.go {R : Hp → Addr → Prop} {H H' : Hp} {Q : VK} (k : Ret R H Q) (e : Ex H H') {p : Addr} {H2 : Hp} (hp : H' p = none) (e2 : Ex H' H2) (h : R H2 p) : Q (.ref p) H2 := k p H2 (fresh_back e hp) (e.trans e2) h
def ARefs (as : List Addr) : List V := as.map V.ref
theorem aref_of {as : List Addr} {i : Nat} {y : V} (h : (ARefs as)[i]? = some y) : ∃ a, as[i]? = some a ∧ y = .ref a := by
  unfold ARefs at h
  rw [List.getElem?_map] at h
  cases e : as[i]? with
  | none => rw [e] at h; cases h
  | some x => rw [e] at h; exact ⟨x, rfl, (Option.some.inj h).symm⟩
theorem aref_get {as : List Addr} {i : Nat} {a : Addr} (h : as[i]? = some a) : (ARefs as)[i]? = some (.ref a) := by unfold ARefs; rw [List.getElem?_map, h]; rfl
theorem aref_len (as : List Addr) : (ARefs as).length = as.length := by unfold ARefs; rw [List.length_map]
theorem aref_app (as bs : List Addr) : ARefs (as ++ bs) = ARefs as ++ ARefs bs := by unfold ARefs; rw [List.map_append]
abbrev TupOf (H : Hp) (a : Addr) (c : List Nat) : Prop := H a = some (.tup (nVs c))
abbrev LstOf (H : Hp) (a : Addr) (c : List Nat) : Prop := H a = some (.lst (nVs c))
/-- a list of tuples of ints, of lists of ints -/
def TupsAt (H : Hp) (p : Addr) (cs : List (List Nat)) : Prop := ∃ as : List Addr, H p = some (.lst (ARefs as)) ∧ Paired (TupOf H) as cs
def RowsAt (H : Hp) (p : Addr) (cs : List (List Nat)) : Prop := ∃ as : List Addr, H p = some (.lst (ARefs as)) ∧ Paired (LstOf H) as cs
theorem tups_ex {H H' : Hp} {as : List Addr} {cs : List (List Nat)} (e : Ex H H') (h : Paired (TupOf H) as cs) : Paired (TupOf H') as cs := Paired.mapP h fun a c q => e _ _ q
theorem lsts_ex {H H' : Hp} {as : List Addr} {cs : List (List Nat)} (e : Ex H H') (h : Paired (LstOf H) as cs) : Paired (LstOf H') as cs := Paired.mapP h fun a c q => e _ _ q
/-- tuples stay whatever list changes -/
theorem tups_lst {H : Hp} {as : List Addr} {cs : List (List Nat)} {l : Addr} {xs : List V} {o : HO} (hl : H l = some (.lst xs)) (h : Paired (TupOf H) as cs) : Paired (TupOf (upd H l o)) as cs := Paired.mapP h fun a c q => by
  show upd H l o a = _
  rw [upd_ne (ne_of q hl (fun z => nomatch z))]
  exact q
theorem TupsAt.ex {H H' : Hp} {p : Addr} {cs : List (List Nat)} (e : Ex H H') (h : TupsAt H p cs) : TupsAt H' p cs := let ⟨as, h1, h2⟩ := h; ⟨as, e _ _ h1, tups_ex e h2⟩
theorem RowsAt.ex {H H' : Hp} {p : Addr} {cs : List (List Nat)} (e : Ex H H') (h : RowsAt H p cs) : RowsAt H' p cs := let ⟨as, h1, h2⟩ := h; ⟨as, e _ _ h1, lsts_ex e h2⟩
theorem Ex.upd_new {H H' : Hp} {p : Addr} {o : HO} (e : Ex H H') (h : H' p = none) : Ex H (upd H' p o) := e.trans (Ex.new h)
def prs (es : List (Nat × Nat)) : List (List Nat) := es.map fun e => [e.1, e.2]
theorem prs_get {es : List (Nat × Nat)} {i : Nat} {c : List Nat} (h : (prs es)[i]? = some c) : ∃ e, es[i]? = some e ∧ c = [e.1, e.2] := by
  unfold prs at h
  rw [List.getElem?_map] at h
  cases q : es[i]? with
  | none => rw [q] at h; cases h
  | some e => rw [q] at h; exact ⟨e, rfl, (Option.some.inj h).symm⟩
theorem prs_app (a b : List (Nat × Nat)) : prs (a ++ b) = prs a ++ prs b := by unfold prs; rw [List.map_append]
theorem take_snoc {α : Type} {l : List α} {i : Nat} {x : α} (h : l[i]? = some x) : l.take (i + 1) = l.take i ++ [x] := by
  rw [List.take_add_one, h]
  rfl
theorem if_true_of {c : Bool} {A B : Prop} (hc : c = true) (h : A) : if c = true then A else B := by rw [if_pos hc]; exact h
theorem if_false_of {c : Bool} {A B : Prop} (hc : c = false) (h : B) : if c = true then A else B := by rw [hc, if_neg Bool.false_ne_true]; exact h
end PBW

namespace PBW
open PySem PySem.Spec PyProof.Rows L2 Evl PB
open Ks577 (Graph pebblesAt isAdjacent)
variable {P : Program} {w : World} {K : PySem.W.Frag} {mg : Str → Option Value} {base : Heap} {ad : Adr}
def sp_two_to : Sp := fun vs H Q _ => ∃ n : Nat, vs = [.int n] ∧ n ≤ 1000 ∧ Q (.int ((2 ^ n : Nat) : Int)) H
theorem ok_two_to (T : Txt K mg ad) : Ok P w K mg base CX0 1 ad.f_two_to ["number"] (sp_two_to) := by
  obtain ⟨fd, F⟩ := T.F_two_to
  refine ⟨fd, F.ok sc_two_to (fun vs H Q E h => ?_) (fun cdv A outer s H vs Q E hr h => ?_), F.binds fun _ _ _ _ _ _ us hl => match us, hl with | [_], _ => rfl⟩
  · obtain ⟨_, rfl, _⟩ := h
    rfl
  have hu := hu_of hr
  refine ⟨_, (pss_cons (ps_set (i := 1) sc_two_to.nd rfl (by first | exact Or.inl rfl | exact Or.inr rfl) pe_int)
      (pss_cons (ps_for PassesOwn.never rfl (pi_range1 (by rfl) T.n_range (by exact (pa_cons (pv 0) pa_nil))) (pg_name (i := 2) sc_two_to.nd rfl (by first | exact Or.inl rfl | exact Or.inr rfl)) (pss_one (ps_aug (i := 1) sc_two_to.nd rfl (by first | exact Or.inl rfl | exact Or.inr rfl) pe_int ip_mul)))
      (pss_one (ps_ret (pv 1))))), ?_⟩
  obtain ⟨n, rfl, hn, q⟩ := h
  refine ⟨_, rfl, n, rfl, by omega, by omega, ?_⟩
  refine for_range (lo := 0) (n := n) (fun i σ H' => ∃ v, σ = [some (.int n), some (.int ((2 ^ i : Nat) : Int)), v] ∧ H' = H) ⟨none, rfl, rfl⟩ ?_ ?_
  · rintro i σ H' hi ⟨v, rfl, rfl⟩
    refine ⟨_, rfl, _, _, rfl, rfl, .inr (by omega), some (.int (0 + i)), ?_, rfl⟩
    show [some (V.int ↑n), some (V.int (((2 ^ i : Nat) : Int) * 2)), some (V.int (0 + ↑i))] = _
    rw [Nat.pow_succ]
    rfl
  · rintro σ H' ⟨v, rfl, rfl⟩
    exact ⟨_, rfl, q⟩
/-- taken(pebbles, first, second, target) -/
def sp_taken : Sp := fun vs H Q _ => ∃ (a : Addr) (f s t : Nat) (c : List Nat), vs = [.ref a, .int f, .int s, .int t] ∧ TupOf H a c ∧ f < c.length ∧ s < c.length ∧ t < c.length ∧ c.length ≤ 5 ∧ canTk c f s = true ∧
  Ret (fun H2 p => TupOf H2 p (Ks581.move c f s t)) H Q
theorem st_of' {K : PySem.W.Frag} {H : Hp} {a : Addr} {xs : List V} (h : H a = some (.tup xs)) : SqT K H a xs := .inl (.inl h)
theorem sl_of' {K : PySem.W.Frag} {H : Hp} {a : Addr} {xs : List V} (h : H a = some (.lst xs)) : SqL K H a xs := .inl (.inl h)
theorem ixN_nat {n i : Nat} (h : i < n) : ixN n (i : Int) = some i := by
  unfold ixN
  rw [if_pos (by omega), if_pos (by omega)]
  rfl
theorem nVs_dec {c : List Nat} {i : Nat} (h : 1 ≤ pebblesAt c i) : (nVs c).set i (V.int (((c.getD i 0 : Nat) : Int) - 1)) = nVs (c.set i (pebblesAt c i - 1)) := by
  rw [← nVs_set]
  have e : ((c.getD i 0 : Nat) : Int) - 1 = ((pebblesAt c i - 1 : Nat) : Int) := by unfold pebblesAt at h ⊢; omega
  rw [e]
theorem nVs_inc {c : List Nat} {i : Nat} : (nVs c).set i (V.int (((c.getD i 0 : Nat) : Int) + 1)) = nVs (c.set i (pebblesAt c i + 1)) := by
  rw [← nVs_set]
  rfl
theorem ok_taken (T : Txt K mg ad) : Ok P w K mg base CX0 1 ad.f_taken ["pebbles", "first", "second", "target"] (sp_taken) := by
  obtain ⟨fd, F⟩ := T.F_taken
  refine ⟨fd, F.ok sc_taken (fun vs H Q E h => ?_) (fun cdv A outer s H vs Q E hr h => ?_), F.binds fun _ _ _ _ _ _ us hl => match us, hl with | [_, _, _, _], _ => rfl⟩
  · obtain ⟨_, _, _, _, _, rfl, _⟩ := h
    rfl
  have hu := hu_of hr
  refine ⟨_, (pss_cons (ps_set (i := 4) sc_taken.nd rfl (by first | exact Or.inl rfl | exact Or.inr rfl) (pe_callTy call_list_of (by rfl) T.n_list (by decide +kernel) (by exact (pa_cons (pv 0) pa_nil))))
      (pss_cons (ps_augS (pv 4) (pv 1) get_list pe_int ip_sub set_list)
      (pss_cons (ps_augS (pv 4) (pv 2) get_list pe_int ip_sub set_list)
      (pss_cons (ps_augS (pv 4) (pv 3) get_list pe_int ip_add set_list)
      (pss_one (ps_ret (pe_callTy call_tuple_of (by rfl) T.n_tuple (by decide +kernel) (by exact (pa_cons (pv 4) pa_nil))))))))), ?_⟩
  obtain ⟨a, f, s', t, c, rfl, hc, hf, hs, ht, hl, hk, q⟩ := h
  have h1 : 1 ≤ pebblesAt c f := by
    unfold canTk at hk
    by_cases e : f = s'
    · rw [if_pos e] at hk
      have := of_decide_eq_true hk
      omega
    · rw [if_neg e, Bool.and_eq_true] at hk
      exact of_decide_eq_true hk.1
  have h2 : 1 ≤ pebblesAt (c.set f (pebblesAt c f - 1)) s' := by
    unfold canTk at hk
    unfold pebblesAt at *
    by_cases e : f = s'
    · rw [if_pos e] at hk
      have := of_decide_eq_true hk
      subst e
      rw [getD_set_self _ hf]
      omega
    · rw [if_neg e, Bool.and_eq_true] at hk
      rw [getD_set_ne _ e]
      exact of_decide_eq_true hk.2
  refine ⟨_, rfl, a, _, rfl, .inr (st_of' hc), fun l hln => ?_⟩
  -- found[first] -= 1
  refine ⟨_, rfl, _, rfl, l, _, _, _, rfl, rfl, sl_of' upd_same, at_nVs hf, _, _, rfl, rfl, l, _, _, f, rfl, rfl, upd_same, ixN_nat (by rw [nVs_len]; exact hf), ?_⟩
  have e1 := nVs_dec h1
  rw [upd_upd, e1]
  -- found[second] -= 1
  have hs2 : s' < (c.set f (pebblesAt c f - 1)).length := by rw [List.length_set]; exact hs
  refine ⟨_, rfl, _, rfl, l, _, _, _, rfl, rfl, sl_of' upd_same, at_nVs hs2, _, _, rfl, rfl, l, _, _, s', rfl, rfl, upd_same, ixN_nat (by rw [nVs_len]; exact hs2), ?_⟩
  have e2 := nVs_dec h2
  rw [upd_upd, e2]
  -- found[target] += 1
  have ht3 : t < ((c.set f (pebblesAt c f - 1)).set s' (pebblesAt (c.set f (pebblesAt c f - 1)) s' - 1)).length := by simpa using ht
  refine ⟨_, rfl, _, rfl, l, _, _, _, rfl, rfl, sl_of' upd_same, at_nVs ht3, _, _, rfl, rfl, l, _, _, t, rfl, rfl, upd_same, ixN_nat (by rw [nVs_len]; exact ht3), ?_⟩
  have e3 := nVs_inc (c := (c.set f (pebblesAt c f - 1)).set s' (pebblesAt (c.set f (pebblesAt c f - 1)) s' - 1)) (i := t)
  rw [upd_upd, e3]
  -- return tuple(found)
  refine ⟨_, rfl, l, _, rfl, .inl ⟨sl_of' upd_same, fun p hp => ?_⟩⟩
  exact q p _ (fresh_back (Ex.new hln) hp) ((Ex.new hln).trans (Ex.new hp)) upd_same
/-- can_take(pebbles, first, second) -/
def sp_can_take : Sp := fun vs H Q _ => ∃ (a : Addr) (f s : Nat) (c : List Nat), vs = [.ref a, .int f, .int s] ∧ TupOf H a c ∧ f < c.length ∧ s < c.length ∧ Q (.bl (canTk c f s)) H
theorem ok_can_take (T : Txt K mg ad) : Ok P w K mg base CX0 1 ad.f_can_take ["pebbles", "first", "second"] (sp_can_take) := by
  obtain ⟨fd, F⟩ := T.F_can_take
  refine ⟨fd, F.ok sc_can_take (fun vs H Q E h => ?_) (fun cdv A outer s H vs Q E hr h => ?_), F.binds fun _ _ _ _ _ _ us hl => match us, hl with | [_, _, _], _ => rfl⟩
  · obtain ⟨_, _, _, _, rfl, _⟩ := h
    rfl
  have hu := hu_of hr
  refine ⟨_, (pss_cons (ps_if (pt_cmpR op_eq (pv 1) (pv 2) (nomark _)) (pss_one (ps_ret (pe_cmpR op_ge (pe_ix ix_tup (pv 0) (pv 1) (fun _ _ => rfl)) pe_int (nomark _)))) pss_nil)
      (pss_one (ps_ret (pe_and (pe_cmpR op_ge (pe_ix ix_tup (pv 0) (pv 1) (fun _ _ => rfl)) pe_int (nomark _)) (pe_one (pe_cmpR op_ge (pe_ix ix_tup (pv 0) (pv 2) (fun _ _ => rfl)) pe_int (nomark _))))))), ?_⟩
  obtain ⟨a, f, s', c, rfl, hc, hf, hs, q⟩ := h
  refine ⟨_, rfl, _, rfl, rfl, _, rfl, ?_⟩
  unfold canTk at q
  by_cases e : f = s'
  · rw [if_pos e] at q
    refine if_true_of (by rw [e]; exact decide_eq_true rfl) ?_
    refine ⟨_, rfl, _, rfl, a, _, _, _, rfl, rfl, st_of' hc, at_nVs hf, _, _, rfl, rfl, ?_⟩
    have e2 : decide ((2 : Int) ≤ ((c.getD f 0 : Nat) : Int)) = decide (2 ≤ pebblesAt c f) := decide_eq_decide.mpr (by unfold pebblesAt; omega)
    show Q (V.bl (decide ((2 : Int) ≤ ((c.getD f 0 : Nat) : Int)))) H
    rw [e2]
    exact q
  · rw [if_neg e] at q
    refine if_false_of (decide_eq_false fun z => e ?_) ?_
    · have z : (f : Int) = (s' : Int) := by injection z
      omega
    · refine ⟨_, rfl, _, rfl, a, _, _, _, rfl, rfl, st_of' hc, at_nVs hf, _, _, rfl, rfl, _, rfl, ?_⟩
      have e2 : decide ((1 : Int) ≤ ((c.getD f 0 : Nat) : Int)) = decide (1 ≤ pebblesAt c f) := decide_eq_decide.mpr (by unfold pebblesAt; omega)
      have e3 : decide ((1 : Int) ≤ ((c.getD s' 0 : Nat) : Int)) = decide (1 ≤ pebblesAt c s') := decide_eq_decide.mpr (by unfold pebblesAt; omega)
      rw [e2]
      cases q1 : decide (1 ≤ pebblesAt c f) with
      | false =>
        rw [q1] at q
        exact if_false_of rfl q
      | true =>
        rw [q1, Bool.true_and] at q
        refine if_true_of rfl ⟨_, rfl, _, rfl, a, _, _, _, rfl, rfl, st_of' hc, at_nVs hs, _, _, rfl, rfl, ?_⟩
        show Q (V.bl (decide ((1 : Int) ≤ ((c.getD s' 0 : Nat) : Int)))) H
        rw [e3]
        exact q
end PBW

namespace PBW
open PySem PySem.Spec PyProof.Rows L2 Evl PB
open Ks577 (Graph pebblesAt isAdjacent)
variable {P : Program} {w : World} {K : PySem.W.Frag} {mg : Str → Option Value} {base : Heap} {ad : Adr}
theorem RowsAt.len {H : Hp} {r : Addr} {rs : List (List Nat)} (h : RowsAt H r rs) : ∃ as : List Addr, H r = some (.lst (ARefs as)) ∧ as.length = rs.length ∧ ∀ (i : Nat) (x : List Nat), rs[i]? = some x → ∃ a : Addr, as[i]? = some a ∧ LstOf H a x := by
  obtain ⟨as, h1, h2⟩ := h
  exact ⟨as, h1, Paired.length h2, fun i x hx => paired_of h2 hx⟩
theorem flat_len {α : Type} {f : Nat → List α} {k : Nat} (h : ∀ u, (f u).length ≤ k) : ∀ i, ((List.range i).flatMap f).length ≤ k * i
  | 0 => Nat.zero_le _
  | i + 1 => by
    have h1 := flat_len h i
    have h2 := h i
    rw [List.range_succ, List.flatMap_append, List.length_append]
    simp only [List.flatMap_cons, List.flatMap_nil, List.append_nil]
    rw [Nat.mul_add]
    omega
theorem possible_len (g : Graph) (c : List Nat) (i : Nat) : ((List.range i).flatMap fun u => if 2 ≤ pebblesAt c u then (nbrs g u).map fun v => (u, v) else []).length ≤ g.vertexCount * i := by
  refine flat_len (fun u => ?_) i
  split
  · rw [List.length_map]; exact nbrs_length g u
  · exact Nat.zero_le _
def sp_pebbling_moves : Sp := fun vs H Q _ => ∃ (r a : Addr) (g : Graph) (c : List Nat), vs = [.ref r, .ref a] ∧ WG g ∧ RowsAt H r (rowsG g) ∧ TupOf H a c ∧ c.length = g.vertexCount ∧
  Ret (fun H2 p => TupsAt H2 p (prs (Ks577.possibleMoves g c))) H Q
theorem ok_pebbling_moves (T : Txt K mg ad) : Ok P w K mg base CX0 1 ad.f_pebbling_moves ["rows", "pebbles"] (sp_pebbling_moves) := by
  obtain ⟨fd, F⟩ := T.F_pebbling_moves
  refine ⟨fd, F.ok sc_pebbling_moves (fun vs H Q E h => ?_) (fun cdv A outer s H vs Q E hr h => ?_), F.binds fun _ _ _ _ _ _ us hl => match us, hl with | [_, _], _ => rfl⟩
  · obtain ⟨_, _, _, _, rfl, _⟩ := h
    rfl
  have hu := hu_of hr
  refine ⟨_, (pss_cons (ps_set (i := 2) sc_pebbling_moves.nd rfl (by first | exact Or.inl rfl | exact Or.inr rfl) (pe_lst pa_nil))
      (pss_cons (ps_for PassesOwn.never rfl (pi_range1 (by rfl) T.n_range (by exact (pa_cons (pe_callB call_len_seq (by rfl) T.n_len (by decide +kernel) (by exact (pa_cons (pv 0) pa_nil))) pa_nil))) (pg_name (i := 3) sc_pebbling_moves.nd rfl (by first | exact Or.inl rfl | exact Or.inr rfl)) (pss_one (ps_if (pt_cmpR op_ge (pe_ix ix_tup (pv 1) (pv 3) (fun _ _ => rfl)) pe_int (nomark _)) (pss_one (ps_expr (pe_bm PySem.F.plainAttrs_list PySem.F.slot_list_extend PySem.F.type_list_extend mt_extend (pv 2) (by exact (pa_cons (by exact (pe_lc (own := [("target", 4)]) rfl sc_pebbling_moves.nd (pi_list (pe_ix ix_list (pv 0) (pv 3) (fun _ _ => rfl))) (blkOk_by (own := [("target", 4)]) (N := N_pebbling_moves) (sc := defScope s_pebbling_moves) (by decide +kernel)) (fun _ _ _ _ _ => (pg_name (i := 4) sc_pebbling_moves.nd rfl (by first | exact Or.inl rfl | exact Or.inr rfl))) (fun _ _ _ _ _ => pts_nil) (fun _ _ _ _ _ => (pe_tup (by exact (pa_cons (pv 3) (pa_cons (pv 4) pa_nil))))))) pa_nil))))) pss_nil)))
      (pss_one (ps_ret (pv 2))))), ?_⟩
  obtain ⟨r, a, g, c, rfl, W, hr', hc, hl, q⟩ := h
  obtain ⟨ra, hra, hrl, hrg⟩ := hr'.len
  rw [rowsG_length] at hrl
  have hn5 := W.few
  refine ⟨by show 0 ≤ sizeLine; exact Nat.zero_le _, fun l hln => ?_⟩
  have e0 : Ex H (upd H l (.lst [])) := Ex.new hln
  refine ⟨_, rfl, r, _, rfl, .inl (sl_of' (e0 _ _ hra)), g.vertexCount, by rw [aref_len, hrl], by omega, by omega, ?_⟩
  have hN : ((g.vertexCount : Nat) : Int).toNat = g.vertexCount := rfl
  refine for_range (lo := 0) (n := g.vertexCount) (fun i σ H' => ∃ (v : Option V) (as : List Addr), σ = [some (.ref r), some (.ref a), some (.ref l), v, none] ∧ Ex H H' ∧ H' l = some (.lst (ARefs as)) ∧
      Paired (TupOf H') as (prs ((List.range i).flatMap fun u => if 2 ≤ pebblesAt c u then (nbrs g u).map fun v => (u, v) else []))) ⟨none, [], rfl, e0, upd_same, .nil⟩ ?_ ?_
  · rintro i σ H' hi ⟨v, as, rfl, e1, h1, h2⟩
    obtain ⟨b, hb, hb2⟩ := hrg i _ (rowsG_get hi)
    have hic : i < c.length := by rw [hl]; exact hi
    refine ⟨_, rfl, _, rfl, a, _, _, _, rfl, rfl, st_of' (e1 _ _ hc), by rw [Int.zero_add]; exact at_nVs hic, _, _, rfl, rfl, _, rfl, ?_⟩
    have step : (List.range (i + 1)).flatMap (fun u => if 2 ≤ pebblesAt c u then (nbrs g u).map fun v => (u, v) else []) = (List.range i).flatMap (fun u => if 2 ≤ pebblesAt c u then (nbrs g u).map fun v => (u, v) else []) ++ (if 2 ≤ pebblesAt c i then (nbrs g i).map fun v => (i, v) else []) := by
      rw [List.range_succ, List.flatMap_append]
      simp
    by_cases h : 2 ≤ pebblesAt c i
    · refine if_true_of (decide_eq_true (by unfold pebblesAt at h; omega)) ?_
      rw [if_pos h] at step
      -- the new pairs
      refine ⟨_, rfl, .inl ⟨rfl, _, sl_of' h1⟩, _, rfl, _, rfl, r, _, _, _, rfl, rfl, sl_of' (e1 _ _ hra), by rw [Int.zero_add]; exact atI_nat (aref_get hb), b, rfl, ⟨_, sl_of' (e1 _ _ hb2)⟩, fun D hD => ?_⟩
      refine lc_list (a := b) (xs := nVs (nbrs g i)) (fun j H3 => Ex H' H3 ∧ ∃ bs : List Addr, H3 D = some (.lst (ARefs bs)) ∧ Paired (TupOf H3) bs (prs (((nbrs g i).take j).map fun v => (i, v)))) ⟨Ex.new hD, [], upd_same, .nil⟩ (fun j H3 _ p => sl_of' (p.1 _ _ (e1 _ _ hb2))) ?_ ?_
      · rintro j y H3 hj ⟨e3, bs, h3, h4⟩
        obtain ⟨x, hx, rfl⟩ := nVs_of hj
        refine ⟨rfl, _, rfl, _, rfl, by show 2 ≤ sizeLine; decide, fun p hp => ?_⟩
        have hDp : D ≠ p := ne_of_none h3 hp
        refine ⟨ARefs bs, by rw [upd_ne hDp]; exact h3, ?_, ?_, bs ++ [p], ?_, ?_⟩
        · have := Paired.length h4
          rw [aref_len, this]
          unfold prs
          rw [List.length_map, List.length_map]
          have := List.length_take_le j (nbrs g i)
          have := nbrs_length g i
          have := (List.getElem?_eq_some_iff.mp hx).1
          exact szl (by rw [List.length_take]; omega)
        · exact Ex.mut (e3.trans (Ex.new hp)) hD
        · rw [upd_same, aref_app]
          rfl
        · rw [take_snoc hx, List.map_append, prs_app]
          refine tups_lst (by rw [upd_ne hDp]; exact h3) (paired_app (tups_ex (Ex.new hp) h4) (.cons ?_ .nil))
          show upd H3 p _ p = _
          rw [upd_same]
          show some (HO.tup [V.int (0 + (i : Int)), nV x]) = _
          rw [Int.zero_add]
          rfl
      · rintro H3 ⟨e3, bs, h3, h4⟩
        rw [nVs_len, List.take_length] at h4
        have hlD : l ≠ D := ne_of_none h1 hD
        refine ⟨l, D, ARefs as, ARefs bs, rfl, rfl, e3 _ _ h1, h3, ?_, some (V.int (0 + (i : Int))), as ++ bs, rfl, Ex.mut (e1.trans e3) hln, ?_, ?_⟩
        · have h5 := Paired.length h2
          have h6 := Paired.length h4
          rw [aref_len, aref_len, h5, h6]
          unfold prs
          rw [List.length_map, List.length_map, List.length_map]
          have h7 := possible_len g c i
          have := nbrs_length g i
          have h8 : g.vertexCount * i ≤ 5 * 5 := Nat.mul_le_mul hn5 (by omega)
          exact szs (by omega)
        · rw [upd_same, aref_app]
        · rw [step, prs_app]
          exact tups_lst (e3 _ _ h1) (paired_app (tups_ex e3 h2) h4)
    · refine if_false_of (decide_eq_false (by unfold pebblesAt at h; omega)) ?_
      rw [if_neg h, List.append_nil] at step
      refine ⟨some (V.int (0 + (i : Int))), as, rfl, e1, h1, ?_⟩
      rw [step]
      exact h2
  · rintro σ H' ⟨v, as, rfl, e1, h1, h2⟩
    refine ⟨_, rfl, q l H' hln e1 ⟨as, h1, ?_⟩⟩
    rw [possible_eq]
    exact h2
end PBW

namespace PBW
open PySem PySem.Spec PyProof.Rows L2 Evl PB
open Ks577 (Graph pebblesAt isAdjacent)
variable {P : Program} {w : World} {K : PySem.W.Frag} {mg : Str → Option Value} {base : Heap} {ad : Adr}
theorem for_range0 {n : Nat} {g : TG} {tb : TS} {D : Ends} {σ : L2.St} {H : Hp} (Pv : Nat → L2.St → Hp → Prop) (h0 : Pv 0 σ H)
    (hs : ∀ (i : Nat) σ H, i < n → Pv i σ H → g (.int (i : Int)) σ H fun σ2 H2 => tb { D with nx := Pv (i + 1), ct := Pv (i + 1), bk := D.nx } σ2 H2) (hd : ∀ σ H, Pv n σ H → D.nx σ H) :
    ∃ W : Nat → Nat → L2.St → Hp → Prop, (∃ m, W 0 m σ H) ∧ ∀ i m σ H, W i m σ H →
      ((Itr 0 n).stop i H ∧ D.nx σ H) ∨ ((Itr 0 n).go i H ∧ ∃ N : L2.St → Hp → Prop, (∀ σ' H', N σ' H' → ∃ m', m' < m ∧ W (i + 1) m' σ' H') ∧ ∀ x H', (Itr 0 n).yld i H x H' → g x σ H' fun σ2 H2 => tb { D with nx := N, ct := N, bk := D.nx } σ2 H2) :=
  for_range (lo := 0) Pv h0 (fun i σ H hi p => by rw [Int.zero_add]; exact hs i σ H hi p) hd
section
variable {X : Cx}
theorem pg_names2 {i j : Nat} {x y : Str} {p1 p2 pos : Pos} {k : Nat} {K : PySem.W.Frag} (hK : X.K = K) (hc : X.calm = true) (hN : X.N.Nodup) (hi : X.N[i]? = some x) (hj : X.N[j]? = some y) (hx : Loc X.env.scope x) (hy : Loc X.env.scope y)
    (fx : X.fn x = true ∨ X.env.scope.names.lookup x = some .local) (fy : X.fn y = true ∨ X.env.scope.names.lookup y = some .local) : PG X (.Tuple [.Name x p1, .Name y p2] k pos) (gTup K 2 (gCons (gName i) (gCons (gName j) gNil))) :=
  hK ▸ pg_tup hc (pgs_cons (pg_name hN hi hx fx) (pgs_cons (pg_name hN hj hy fy) pgs_nil))
theorem pg_names3 {i j l : Nat} {x y z : Str} {p1 p2 p3 pos : Pos} {k : Nat} {K : PySem.W.Frag} (hK : X.K = K) (hc : X.calm = true) (hN : X.N.Nodup) (hi : X.N[i]? = some x) (hj : X.N[j]? = some y) (hl : X.N[l]? = some z) (hx : Loc X.env.scope x) (hy : Loc X.env.scope y) (hz : Loc X.env.scope z)
    (fx : X.fn x = true ∨ X.env.scope.names.lookup x = some .local) (fy : X.fn y = true ∨ X.env.scope.names.lookup y = some .local) (fz : X.fn z = true ∨ X.env.scope.names.lookup z = some .local) : PG X (.Tuple [.Name x p1, .Name y p2, .Name z p3] k pos) (gTup K 3 (gCons (gName i) (gCons (gName j) (gCons (gName l) gNil)))) :=
  hK ▸ pg_tup hc (pgs_cons (pg_name hN hi hx fx) (pgs_cons (pg_name hN hj hy fy) (pgs_cons (pg_name hN hl hz fz) pgs_nil)))
end
theorem refs_of {F : Nat → Addr → Prop} : ∀ {ys : List V}, (∀ (j : Nat) (y : V), ys[j]? = some y → ∃ p : Addr, y = .ref p ∧ F j p) → ∃ as : List Addr, ys = ARefs as ∧ ∀ (j : Nat) (a : Addr), as[j]? = some a → F j a
  | [], _ => ⟨[], rfl, fun j a h => by simp at h⟩
  | y :: r, h => by
    obtain ⟨p, rfl, hp⟩ := h 0 y rfl
    obtain ⟨as, rfl, ha⟩ := refs_of (F := fun j => F (j + 1)) (ys := r) fun j y hy => h (j + 1) y (by simpa using hy)
    refine ⟨p :: as, rfl, fun j a hj => ?_⟩
    cases j with
    | zero => simp at hj; subst hj; exact hp
    | succ j => exact ha j a (by simpa using hj)
theorem paired_mk {α β : Type} {F : α → β → Prop} : ∀ {l : List α} {m : List β}, l.length = m.length → (∀ (j : Nat) a b, l[j]? = some a → m[j]? = some b → F a b) → Paired F l m
  | [], [], _, _ => .nil
  | [], _ :: _, h, _ => nomatch h
  | _ :: _, [], h, _ => nomatch h
  | a :: l, b :: m, h, k => .cons (k 0 a b rfl rfl) (paired_mk (by simpa using h) fun j a b h1 h2 => k (j + 1) a b (by simpa using h1) (by simpa using h2))
section
variable {g : TG} {tt : TT} {te : TE} {vs : List Nat} {σ : L2.St} {H1 : Hp} {D : Addr} {Qd : Hp → Prop}
/-- a comprehension over a list whose element changes nothing that stands -/
theorem lc_pure {a : Addr} {xs : List V} (R : Nat → V → Hp → Prop) (ha : SqL K H1 a xs) (hD : H1 D = none) (hlen : xs.length ≤ 900000)
    (hex : ∀ j v H H', R j v H → Ex H H' → R j v H') (hmut : ∀ j v H ys ys', R j v H → H D = some (.lst ys) → R j v (upd H D (.lst ys')))
    (hs : ∀ (j : Nat) x H3 (Qy : VK), xs[j]? = some x → Ex H1 H3 → (H3 D).isSome = true → (∀ y H6, Ex H3 H6 → R j y H6 → Qy y H6) → ∀ Qn : Hp → Prop, g x (wipe σ vs) H3 fun σ2 H4 => wipe σ2 vs = wipe σ vs ∧ tt σ2 H4 fun b H5 => if b = true then te σ2 H5 Qy else Qn H5)
    (hd : ∀ ys H3, ys.length = xs.length → Ex H1 H3 → H3 D = some (.lst ys) → (∀ (j : Nat) y, ys[j]? = some y → R j y H3) → Qd H3) :
    ∃ W : Nat → Nat → Hp → Prop, (∃ m, W 0 m (upd H1 D (.lst []))) ∧ ∀ i m H, W i m H →
      ((Itl K a).stop i H ∧ Qd H) ∨ ((Itl K a).go i H ∧ ∃ Nx : Hp → Prop, (∀ H', Nx H' → ∃ m', m' < m ∧ W (i + 1) m' H') ∧ ∀ x H', (Itl K a).yld i H x H' → g x (wipe σ vs) H' fun σ2 H2 => wipe σ2 vs = wipe σ vs ∧ tt σ2 H2 fun b H3 =>
        if b = true then te σ2 H3 fun y H4 => ∃ acc, H4 D = some (.lst acc) ∧ acc.length < sizeLine ∧ Nx (upd H4 D (.lst (acc ++ [y]))) else Nx H3) := by
  refine lc_list (K := K) (a := a) (xs := xs) (fun i H3 => Ex H1 H3 ∧ ∃ ys, ys.length = i ∧ H3 D = some (.lst ys) ∧ ∀ (j : Nat) y, ys[j]? = some y → R j y H3) ⟨Ex.new hD, [], rfl, upd_same, fun j y h => by simp at h⟩ (fun i H3 _ p => ex_l p.1 ha) ?_ ?_
  · rintro j x H3 hj ⟨e3, ys, hl, h3, h4⟩
    refine hs j x H3 _ hj e3 (by rw [h3]; rfl) (fun y H6 e6 r6 => ?_) _
    have hjl := (List.getElem?_eq_some_iff.mp hj).1
    refine ⟨ys, e6 _ _ h3, szl (by omega), Ex.mut (e3.trans e6) hD, ys ++ [y], by rw [List.length_append, hl]; rfl, upd_same, fun i z hz => ?_⟩
    rw [List.getElem?_append] at hz
    split at hz
    · exact hmut _ _ _ _ _ (hex _ _ _ _ (h4 i z hz) e6) (e6 _ _ h3)
    · have hi : i = ys.length := by
        have := (List.getElem?_eq_some_iff.mp hz).1
        simp only [List.length_cons, List.length_nil] at this
        omega
      have e : z = y := by
        rw [hi, Nat.sub_self] at hz
        exact (Option.some.inj hz).symm
      rw [e, hi, hl]
      exact hmut _ _ _ _ _ r6 (e6 _ _ h3)
  · rintro H3 ⟨e3, ys, hl, h3, h4⟩
    exact hd ys H3 hl e3 h3 h4
/-- .. giving tuples -/
theorem lc_tups {a : Addr} {xs : List V} (m : List (List Nat)) (hm : m.length = xs.length) (ha : SqL K H1 a xs) (hD : H1 D = none) (hlen : xs.length ≤ 900000)
    (hs : ∀ (j : Nat) x c H3 (Qy : VK), xs[j]? = some x → m[j]? = some c → Ex H1 H3 → (∀ p H6, Ex H3 H6 → TupOf H6 p c → Qy (.ref p) H6) → ∀ Qn : Hp → Prop, g x (wipe σ vs) H3 fun σ2 H4 => wipe σ2 vs = wipe σ vs ∧ tt σ2 H4 fun b H5 => if b = true then te σ2 H5 Qy else Qn H5)
    (hd : ∀ H3, Ex H1 H3 → TupsAt H3 D m → Qd H3) :
    ∃ W : Nat → Nat → Hp → Prop, (∃ m, W 0 m (upd H1 D (.lst []))) ∧ ∀ i m H, W i m H →
      ((Itl K a).stop i H ∧ Qd H) ∨ ((Itl K a).go i H ∧ ∃ Nx : Hp → Prop, (∀ H', Nx H' → ∃ m', m' < m ∧ W (i + 1) m' H') ∧ ∀ x H', (Itl K a).yld i H x H' → g x (wipe σ vs) H' fun σ2 H2 => wipe σ2 vs = wipe σ vs ∧ tt σ2 H2 fun b H3 =>
        if b = true then te σ2 H3 fun y H4 => ∃ acc, H4 D = some (.lst acc) ∧ acc.length < sizeLine ∧ Nx (upd H4 D (.lst (acc ++ [y]))) else Nx H3) := by
  refine lc_pure (fun j y H => ∃ p c, y = .ref p ∧ m[j]? = some c ∧ TupOf H p c) ha hD hlen ?_ ?_ ?_ ?_
  · rintro j v H H' ⟨p, c, e, h1, h2⟩ ex
    exact ⟨p, c, e, h1, ex _ _ h2⟩
  · rintro j v H ys ys' ⟨p, c, e, h1, h2⟩ hl
    refine ⟨p, c, e, h1, ?_⟩
    show upd H D _ p = _
    rw [upd_ne (ne_of h2 hl (fun z => nomatch z))]
    exact h2
  · intro j x H3 Qy hj e3 _ hq Qn
    obtain ⟨c, hc⟩ : ∃ c, m[j]? = some c := by
      have := (List.getElem?_eq_some_iff.mp hj).1
      exact ⟨m[j]'(by omega), List.getElem?_eq_getElem (by omega)⟩
    exact hs j x c H3 Qy hj hc e3 (fun p H6 e6 t6 => hq _ _ e6 ⟨p, c, rfl, hc, t6⟩) Qn
  · intro ys H3 hl e3 h3 h4
    obtain ⟨as, rfl, hf⟩ := refs_of (F := fun j p => ∃ c, m[j]? = some c ∧ TupOf H3 p c) (ys := ys) fun j y hy => by
      obtain ⟨p, c, e, h1, h2⟩ := h4 j y hy
      exact ⟨p, e, c, h1, h2⟩
    rw [aref_len] at hl
    refine hd H3 e3 ⟨as, h3, paired_mk (by omega) fun j p c hp hc => ?_⟩
    obtain ⟨c', h1, h2⟩ := hf j p hp
    rw [hc] at h1
    cases h1
    exact h2
/-- .. giving plain values -/
theorem lc_vals {a : Addr} {xs : List V} (m : List V) (hm : m.length = xs.length) (ha : SqL K H1 a xs) (hD : H1 D = none) (hlen : xs.length ≤ 900000)
    (hs : ∀ (j : Nat) x c H3 (Qy : VK), xs[j]? = some x → m[j]? = some c → Ex H1 H3 → (∀ H6, Ex H3 H6 → Qy c H6) → ∀ Qn : Hp → Prop, g x (wipe σ vs) H3 fun σ2 H4 => wipe σ2 vs = wipe σ vs ∧ tt σ2 H4 fun b H5 => if b = true then te σ2 H5 Qy else Qn H5)
    (hd : ∀ H3, Ex H1 H3 → H3 D = some (.lst m) → Qd H3) :
    ∃ W : Nat → Nat → Hp → Prop, (∃ m, W 0 m (upd H1 D (.lst []))) ∧ ∀ i m H, W i m H →
      ((Itl K a).stop i H ∧ Qd H) ∨ ((Itl K a).go i H ∧ ∃ Nx : Hp → Prop, (∀ H', Nx H' → ∃ m', m' < m ∧ W (i + 1) m' H') ∧ ∀ x H', (Itl K a).yld i H x H' → g x (wipe σ vs) H' fun σ2 H2 => wipe σ2 vs = wipe σ vs ∧ tt σ2 H2 fun b H3 =>
        if b = true then te σ2 H3 fun y H4 => ∃ acc, H4 D = some (.lst acc) ∧ acc.length < sizeLine ∧ Nx (upd H4 D (.lst (acc ++ [y]))) else Nx H3) := by
  refine lc_pure (fun j y H => m[j]? = some y) ha hD hlen (fun _ _ _ _ h _ => h) (fun _ _ _ _ _ h _ => h) ?_ ?_
  · intro j x H3 Qy hj e3 _ hq Qn
    obtain ⟨c, hc⟩ : ∃ c, m[j]? = some c := by
      have := (List.getElem?_eq_some_iff.mp hj).1
      exact ⟨m[j]'(by omega), List.getElem?_eq_getElem (by omega)⟩
    exact hs j x c H3 Qy hj hc e3 (fun H6 e6 => hq _ _ e6 hc) Qn
  · intro ys H3 hl e3 h3 h4
    have e : ys = m := List.ext_getElem? fun j => by
      cases q : ys[j]? with
      | none =>
        have := List.getElem?_eq_none_iff.mp q
        exact (List.getElem?_eq_none_iff.mpr (by omega)).symm
      | some y => exact (h4 j y q).symm
    exact hd H3 e3 (by rw [← e]; exact h3)
end
def sp_behind_pebbling : Sp := fun vs H Q _ => ∃ (r a : Addr) (g : Graph) (c : List Nat), vs = [.ref r, .ref a] ∧ WG g ∧ RowsAt H r (rowsG g) ∧ TupOf H a c ∧ c.length = g.vertexCount ∧
  Ret (fun H2 p => TupsAt H2 p (Ks577.successors g c)) H Q
theorem ok_behind_pebbling (T : Txt K mg ad) : Ok P w K mg base CX0 2 ad.f_behind_pebbling ["rows", "pebbles"] (sp_behind_pebbling) := by
  obtain ⟨fd, F⟩ := T.F_behind_pebbling
  obtain ⟨fd_taken, G_taken, B_taken⟩ := ok_taken (P := P) (w := w) (base := base) T
  obtain ⟨fd_pebbling_moves, G_pebbling_moves, B_pebbling_moves⟩ := ok_pebbling_moves (P := P) (w := w) (base := base) T
  refine ⟨fd, F.ok sc_behind_pebbling (fun vs H Q E h => ?_) (fun cdv A outer s H vs Q E hr h => ?_), F.binds fun _ _ _ _ _ _ us hl => match us, hl with | [_, _], _ => rfl⟩
  · obtain ⟨_, _, _, _, rfl, _⟩ := h
    rfl
  have hu := hu_of hr
  refine ⟨_, (pss_one (ps_ret (by exact (pe_lc (own := [("source", 2), ("target", 3)]) rfl sc_behind_pebbling.nd (pi_list (pe_call G_pebbling_moves (hr.mono (by decide)) (by rfl) T.g_pebbling_moves T.k_pebbling_moves B_pebbling_moves .nil pass0 (by exact (pa_cons (pv 0) (pa_cons (pv 1) pa_nil))))) (blkOk_by (own := [("source", 2), ("target", 3)]) (N := N_behind_pebbling) (sc := defScope s_behind_pebbling) (by decide +kernel)) (fun _ _ _ _ _ => (pg_names2 (K := K) (i := 2) (j := 3) rfl (by rfl) sc_behind_pebbling.nd (by rfl) (by rfl) (by first | exact Or.inl rfl | exact Or.inr rfl) (by first | exact Or.inl rfl | exact Or.inr rfl) (by first | exact Or.inl rfl | exact Or.inr rfl) (by first | exact Or.inl rfl | exact Or.inr rfl))) (fun _ _ _ _ _ => pts_nil) (fun _ _ _ _ _ => (pe_call G_taken (hr.mono (by decide)) (by rfl) T.g_taken T.k_taken B_taken .nil pass0 (by exact (pa_cons (pv 1) (pa_cons (pv 2) (pa_cons (pv 2) (pa_cons (pv 3) pa_nil))))))))))), ?_⟩
  obtain ⟨r, a, g, c, rfl, W, hr', hc, hl, q⟩ := h
  refine ⟨_, rfl, _, rfl, r, a, g, c, rfl, W, hr', hc, hl, fun m H2 hm e2 ht => ?_⟩
  obtain ⟨as, h1, h2⟩ := ht
  refine ⟨m, rfl, ⟨_, sl_of' h1⟩, fun D hD => ?_⟩
  have hpl : (Ks577.possibleMoves g c).length ≤ 25 := by
    rw [possible_eq]
    have h3 := possible_len g c g.vertexCount
    have h4 := W.few
    have h5 : g.vertexCount * g.vertexCount ≤ 5 * 5 := Nat.mul_le_mul h4 h4
    omega
  have hal := Paired.length h2
  unfold prs at hal
  rw [List.length_map] at hal
  refine lc_tups (Ks577.successors g c) (by rw [aref_len, hal]; unfold Ks577.successors; rw [List.length_map]) (sl_of' h1) hD (by rw [aref_len]; omega) ?_ fun H3 e3 ht => q D H3 (fresh_back e2 hD) (e2.trans e3) ht
  intro j x c2 H3 Qy hj hc2 e3 hq Qn
  obtain ⟨p, hp, rfl⟩ := aref_of hj
  obtain ⟨t, h5, h6⟩ := paired_at h2 hp
  obtain ⟨⟨s1, t1⟩, h7, rfl⟩ := prs_get h5
  have hmv := (mem_possible W).mp (List.mem_of_getElem? h7)
  have hlt := adj_lt W hmv.1
  have e : c2 = Ks581.move c s1 s1 t1 := by
    unfold Ks577.successors at hc2
    rw [List.getElem?_map, h7] at hc2
    rw [← move577 (by omega)]
    exact (Option.some.inj hc2).symm
  subst e
  refine ⟨p, _, rfl, st_of' (e3 _ _ h6), rfl, _, _, rfl, _, _, rfl, rfl, rfl, _, rfl, _, rfl, _, rfl, _, rfl, a, s1, s1, t1, c, rfl, e3 _ _ (e2 _ _ hc), by omega, by omega, by omega, by have := W.few; omega, ?_, fun p2 H6 hp2 e6 t6 => hq p2 H6 e6 t6⟩
  unfold canTk
  rw [if_pos rfl]
  exact decide_eq_true hmv.2
/-- the configurations behind a rubbling move, as the code lists them -/
def pairsAt (l : List Nat) : List (Nat × Nat) := (List.range l.length).flatMap fun i => (l.drop i).map fun s => (l.getD i 0, s)
def rubB (g : Graph) (c : List Nat) : List (List Nat) := (List.range g.vertexCount).flatMap fun t => ((pairsAt (nbrs g t)).filter fun e => canTk c e.1 e.2).map fun e => Ks581.move c e.1 e.2 t
def pairsTo (l : List Nat) (n : Nat) : List (Nat × Nat) := (List.range n).flatMap fun i => (l.drop i).map fun s => (l.getD i 0, s)
def rubOn (c : List Nat) (t : Nat) (ps : List (Nat × Nat)) : List (List Nat) := (ps.filter fun e => canTk c e.1 e.2).map fun e => Ks581.move c e.1 e.2 t
def rubTo (g : Graph) (c : List Nat) (n : Nat) : List (List Nat) := (List.range n).flatMap fun t => rubOn c t (pairsAt (nbrs g t))
theorem rubOn_app (c : List Nat) (t : Nat) (ps qs : List (Nat × Nat)) : rubOn c t (ps ++ qs) = rubOn c t ps ++ rubOn c t qs := by
  unfold rubOn
  rw [List.filter_append, List.map_append]
theorem mem_pairsAt {l : List Nat} {e : Nat × Nat} : e ∈ pairsAt l ↔ ∃ i j : Nat, i ≤ j ∧ l[i]? = some e.1 ∧ l[j]? = some e.2 := by
  unfold pairsAt
  rw [List.mem_flatMap]
  constructor
  · rintro ⟨i, hi, h⟩
    obtain ⟨s, hs, rfl⟩ := List.mem_map.mp h
    obtain ⟨j, hj⟩ := List.getElem?_of_mem hs
    rw [List.getElem?_drop] at hj
    exact ⟨i, i + j, by omega, getD_at (List.mem_range.mp hi), hj⟩
  · rintro ⟨i, j, hij, h1, h2⟩
    have hi := (List.getElem?_eq_some_iff.mp h1).1
    refine ⟨i, List.mem_range.mpr hi, List.mem_map.mpr ⟨e.2, ?_, ?_⟩⟩
    · refine List.mem_of_getElem? (i := j - i) ?_
      rw [List.getElem?_drop, show i + (j - i) = j by omega]
      exact h2
    · have := getD_at hi
      rw [h1] at this
      rw [← Option.some.inj this]
theorem mem_rubB {g : Graph} (W : WG g) {c d : List Nat} : d ∈ rubB g c ↔ d ∈ Ks581.successors g c := by
  rw [mem_suc581 W]
  unfold rubB
  rw [List.mem_flatMap]
  constructor
  · rintro ⟨t, ht, h⟩
    obtain ⟨e, he, rfl⟩ := List.mem_map.mp h
    rw [List.mem_filter] at he
    obtain ⟨i, j, hij, h1, h2⟩ := mem_pairsAt.mp he.1
    have a1 := (mem_nbrs W).mp (List.mem_of_getElem? h1)
    have a2 := (mem_nbrs W).mp (List.mem_of_getElem? h2)
    refine ⟨e.1, e.2, t, ?_, by rw [adj_symm]; exact a1, by rw [adj_symm]; exact a2, he.2, rfl⟩
    have hs := nbrs_sorted g t
    rcases Nat.lt_or_ge i j with q | q
    · have h3 := (List.getElem?_eq_some_iff.mp h1)
      have h4 := (List.getElem?_eq_some_iff.mp h2)
      obtain ⟨b1, b2⟩ := h3
      obtain ⟨b3, b4⟩ := h4
      have := List.pairwise_iff_getElem.mp hs i j b1 b3 q
      omega
    · have : i = j := by omega
      subst this
      rw [h1] at h2
      have := Option.some.inj h2
      omega
  · rintro ⟨f, s, t, hfs, a1, a2, hk, rfl⟩
    have hlt := adj_lt W a1
    refine ⟨t, List.mem_range.mpr hlt.2.1, List.mem_map.mpr ⟨(f, s), List.mem_filter.mpr ⟨mem_pairsAt.mpr ?_, hk⟩, rfl⟩⟩
    obtain ⟨i, hi⟩ := List.getElem?_of_mem ((mem_nbrs W).mpr (by rw [adj_symm]; exact a1) : f ∈ nbrs g t)
    obtain ⟨j, hj⟩ := List.getElem?_of_mem ((mem_nbrs W).mpr (by rw [adj_symm]; exact a2) : s ∈ nbrs g t)
    refine ⟨i, j, ?_, hi, hj⟩
    rcases Nat.lt_or_ge j i with q | q
    · obtain ⟨b1, b2⟩ := List.getElem?_eq_some_iff.mp hi
      obtain ⟨b3, b4⟩ := List.getElem?_eq_some_iff.mp hj
      have := List.pairwise_iff_getElem.mp (nbrs_sorted g t) j i b3 b1 q
      omega
    · exact q
theorem rubB_len (g : Graph) (W : WG g) (c : List Nat) : (rubB g c).length ≤ 125 := by
  have h5 := W.few
  have h2 : (rubB g c).length ≤ 25 * g.vertexCount := by
    refine flat_len (k := 25) (fun t => ?_) _
    rw [List.length_map]
    refine Nat.le_trans (List.length_filter_le _ _) ?_
    have h3 := nbrs_length g t
    have h4 : (pairsAt (nbrs g t)).length ≤ (nbrs g t).length * (nbrs g t).length := by
      refine flat_len (k := (nbrs g t).length) (fun i => ?_) _
      rw [List.length_map, List.length_drop]
      omega
    have : (nbrs g t).length * (nbrs g t).length ≤ 5 * 5 := Nat.mul_le_mul (by omega) (by omega)
    omega
  omega
theorem TupsAt.push {H : Hp} {l p : Addr} {L : List (List Nat)} {c : List Nat} {xs : List V} (h : TupsAt H l L) (hx : H l = some (.lst xs)) (hp : TupOf H p c) : TupsAt (upd H l (.lst (xs ++ [.ref p]))) l (L ++ [c]) := by
  obtain ⟨as, h1, h2⟩ := h
  rw [hx] at h1
  obtain rfl : xs = ARefs as := by injection h1 with z; injection z
  refine ⟨as ++ [p], by rw [upd_same, aref_app]; rfl, tups_lst hx (paired_app h2 (.cons hp .nil))⟩
theorem cutV_from {xs : List V} {j : Nat} (h : j ≤ xs.length) : cutV xs (some (j : Int)) none = xs.drop j := by
  unfold cutV
  rw [HT.sIx_none, HT.sIx_nat, Nat.min_eq_left h, List.take_of_length_le (by rw [List.length_drop]; omega)]
def sp_behind_rubbling : Sp := fun vs H Q _ => ∃ (r a : Addr) (g : Graph) (c : List Nat), vs = [.ref r, .ref a] ∧ WG g ∧ RowsAt H r (rowsG g) ∧ TupOf H a c ∧ c.length = g.vertexCount ∧
  Ret (fun H2 p => TupsAt H2 p (rubB g c)) H Q
theorem ok_behind_rubbling (T : Txt K mg ad) : Ok P w K mg base CX0 2 ad.f_behind_rubbling ["rows", "pebbles"] (sp_behind_rubbling) := by
  obtain ⟨fd, F⟩ := T.F_behind_rubbling
  obtain ⟨fd_can_take, G_can_take, B_can_take⟩ := ok_can_take (P := P) (w := w) (base := base) T
  obtain ⟨fd_taken, G_taken, B_taken⟩ := ok_taken (P := P) (w := w) (base := base) T
  refine ⟨fd, F.ok sc_behind_rubbling (fun vs H Q E h => ?_) (fun cdv A outer s H vs Q E hr h => ?_), F.binds fun _ _ _ _ _ _ us hl => match us, hl with | [_, _], _ => rfl⟩
  · obtain ⟨_, _, _, _, rfl, _⟩ := h
    rfl
  have hu := hu_of hr
  refine ⟨_, (pss_cons (ps_set (i := 2) sc_behind_rubbling.nd rfl (by first | exact Or.inl rfl | exact Or.inr rfl) (pe_lst pa_nil))
      (pss_cons (ps_for PassesOwn.never rfl (pi_range1 (by rfl) T.n_range (by exact (pa_cons (pe_callB call_len_seq (by rfl) T.n_len (by decide +kernel) (by exact (pa_cons (pv 0) pa_nil))) pa_nil))) (pg_name (i := 3) sc_behind_rubbling.nd rfl (by first | exact Or.inl rfl | exact Or.inr rfl)) (pss_cons (ps_set (i := 4) sc_behind_rubbling.nd rfl (by first | exact Or.inl rfl | exact Or.inr rfl) (pe_ix ix_list (pv 0) (pv 3) (fun _ _ => rfl)))
      (pss_one (ps_for PassesOwn.never rfl (pi_range1 (by rfl) T.n_range (by exact (pa_cons (pe_callB call_len_seq (by rfl) T.n_len (by decide +kernel) (by exact (pa_cons (pv 4) pa_nil))) pa_nil))) (pg_name (i := 5) sc_behind_rubbling.nd rfl (by first | exact Or.inl rfl | exact Or.inr rfl)) (pss_one (ps_for PassesOwn.never rfl (pi_list (pe_slice sl_list (pv 4) (po_some (pv 5)) po_none)) (pg_name (i := 6) sc_behind_rubbling.nd rfl (by first | exact Or.inl rfl | exact Or.inr rfl)) (pss_one (ps_if (pt_val (pe_call G_can_take (hr.mono (by decide)) (by rfl) T.g_can_take T.k_can_take B_can_take .nil pass0 (by exact (pa_cons (pv 1) (pa_cons (pe_ix ix_list (pv 4) (pv 5) (fun _ _ => rfl)) (pa_cons (pv 6) pa_nil)))))) (pss_one (ps_expr (pe_bm PySem.F.plainAttrs_list PySem.F.slot_list_append PySem.F.type_list_append mt_append (pv 2) (by exact (pa_cons (pe_call G_taken (hr.mono (by decide)) (by rfl) T.g_taken T.k_taken B_taken .nil pass0 (by exact (pa_cons (pv 1) (pa_cons (pe_ix ix_list (pv 4) (pv 5) (fun _ _ => rfl)) (pa_cons (pv 6) (pa_cons (pv 3) pa_nil)))))) pa_nil))))) pss_nil))))))))
      (pss_one (ps_ret (pv 2))))), ?_⟩
  obtain ⟨r, a, g, c, rfl, W, hr', hc, hl, q⟩ := h
  obtain ⟨ra, hra, hrl, hrg⟩ := hr'.len
  rw [rowsG_length] at hrl
  have hn5 := W.few
  refine ⟨by show 0 ≤ sizeLine; exact Nat.zero_le _, fun l hln => ?_⟩
  have e0 : Ex H (upd H l (.lst [])) := Ex.new hln
  refine ⟨_, rfl, r, _, rfl, .inl (sl_of' (e0 _ _ hra)), g.vertexCount, by rw [aref_len, hrl], by omega, by omega, ?_⟩
  refine for_range0 (n := g.vertexCount) (fun i σ H' => ∃ (v3 v4 v5 v6 : Option V) (L : List (List Nat)), σ = [some (.ref r), some (.ref a), some (.ref l), v3, v4, v5, v6] ∧ Ex H H' ∧ TupsAt H' l L ∧ L = rubTo g c i ∧ L.length ≤ 25 * i)
    ⟨none, none, none, none, [], rfl, e0, ⟨[], upd_same, .nil⟩, rfl, by simp⟩ ?_ ?_
  · rintro i σ H' hi ⟨v3, v4, v5, v6, L, rfl, e1, h1, rfl, hL⟩
    obtain ⟨b, hb, hb2⟩ := hrg i _ (rowsG_get hi)
    have hbl := nbrs_length g i
    refine ⟨_, rfl, _, rfl, r, _, _, _, rfl, rfl, sl_of' (e1 _ _ hra), atI_nat (aref_get hb), _, rfl, b, _, rfl, .inl (sl_of' (e1 _ _ hb2)), (nbrs g i).length, by rw [nVs_len], by omega, by omega, ?_⟩
    refine for_range0 (n := (nbrs g i).length) (fun j σ H' => ∃ (v5 v6 : Option V) (L : List (List Nat)), σ = [some (.ref r), some (.ref a), some (.ref l), some (.int (i : Int)), some (.ref b), v5, v6] ∧ Ex H H' ∧ TupsAt H' l L ∧
        L = rubTo g c i ++ rubOn c i (pairsTo (nbrs g i) j) ∧ L.length ≤ 25 * i + 5 * j)
      ⟨v5, v6, _, rfl, e1, h1, by unfold rubOn pairsTo; simp, by omega⟩ ?_ ?_
    · rintro j σ H' hj ⟨v5, v6, L, rfl, e1, h1, eL, hL⟩
      refine ⟨_, rfl, _, rfl, _, rfl, b, _, rfl, sl_of' (e1 _ _ hb2), fun sl hsl => ?_⟩
      rw [cutV_from (by rw [nVs_len]; omega)]
      have ed : (nVs (nbrs g i)).drop j = nVs ((nbrs g i).drop j) := by unfold nVs; rw [List.map_drop]
      rw [ed]
      refine ⟨sl, rfl, ⟨_, sl_of' upd_same⟩, ?_⟩
      have hlsl : l ≠ sl := let ⟨_, q, _⟩ := h1; ne_of_none q hsl
      refine for_list (a := sl) (xs := nVs ((nbrs g i).drop j)) (fun k σ H' => ∃ (v6 : Option V) (L : List (List Nat)), σ = [some (.ref r), some (.ref a), some (.ref l), some (.int (i : Int)), some (.ref b), some (.int (j : Int)), v6] ∧ Ex H H' ∧ TupsAt H' l L ∧ LstOf H' sl ((nbrs g i).drop j) ∧
          L = rubTo g c i ++ rubOn c i (pairsTo (nbrs g i) j ++ (((nbrs g i).drop j).take k).map fun s => ((nbrs g i).getD j 0, s)) ∧ L.length ≤ 25 * i + 5 * j + k)
        ⟨v6, L, rfl, Ex.upd_new e1 hsl, h1.ex (Ex.new hsl), upd_same, by rw [eL, List.take_zero, List.map_nil, List.append_nil], by omega⟩ (fun k σ H' _ p => let ⟨_, _, _, _, _, q, _⟩ := p; sl_of' q) ?_ ?_
      · rintro k y σ H' hk ⟨v6, L, rfl, e1, h1, hsl2, eL, hL⟩
        obtain ⟨x, hx, rfl⟩ := nVs_of hk
        have hkl := (List.getElem?_eq_some_iff.mp hx).1
        rw [List.length_drop] at hkl
        have hxm : x ∈ nbrs g i := List.mem_of_mem_drop (List.mem_of_getElem? hx)
        have hxl := adj_lt W ((mem_nbrs W).mp hxm)
        have hjm : (nbrs g i).getD j 0 ∈ nbrs g i := List.mem_of_getElem? (getD_at hj)
        have hjl := adj_lt W ((mem_nbrs W).mp hjm)
        have step : rubOn c i (pairsTo (nbrs g i) j ++ (((nbrs g i).drop j).take (k + 1)).map fun s => ((nbrs g i).getD j 0, s)) = rubOn c i (pairsTo (nbrs g i) j ++ (((nbrs g i).drop j).take k).map fun s => ((nbrs g i).getD j 0, s)) ++ rubOn c i [((nbrs g i).getD j 0, x)] := by
          rw [take_snoc hx, List.map_append, ← List.append_assoc, rubOn_app]
          rfl
        refine ⟨_, rfl, _, rfl, _, rfl, b, _, _, _, rfl, rfl, sl_of' (e1 _ _ hb2), at_nVs hj, _, rfl, a, (nbrs g i).getD j 0, x, c, rfl, e1 _ _ hc, by omega, by omega, _, rfl, ?_⟩
        cases hk2 : canTk c ((nbrs g i).getD j 0) x with
        | true =>
          obtain ⟨as, g1, g2⟩ := h1
          have hal : as.length = L.length := Paired.length g2
          refine if_true_of rfl ⟨_, rfl, .inl ⟨rfl, _, sl_of' g1⟩, _, rfl, _, rfl, _, rfl, b, _, _, _, rfl, rfl, sl_of' (e1 _ _ hb2), at_nVs hj, _, rfl, _, rfl, a, (nbrs g i).getD j 0, x, i, c, rfl, e1 _ _ hc, by omega, by omega, by omega, by omega, hk2, fun p H6 hp e6 t6 => ?_⟩
          refine ⟨l, ARefs as, _, rfl, rfl, e6 _ _ g1, by rw [aref_len, hal]; exact szl (by omega), ?_⟩
          refine ⟨some (nV x), L ++ [Ks581.move c ((nbrs g i).getD j 0) x i], rfl, Ex.mut (e1.trans e6) hln, TupsAt.push (TupsAt.ex e6 ⟨as, g1, g2⟩) (e6 _ _ g1) t6, ?_, ?_, ?_⟩
          · show upd _ l _ sl = _
            rw [upd_ne (Ne.symm hlsl)]
            exact e6 _ _ hsl2
          · rw [step, ← List.append_assoc, ← eL]
            unfold rubOn
            rw [List.filter_cons_of_pos (by exact hk2)]
            rfl
          · rw [List.length_append]
            simp only [List.length_cons, List.length_nil]
            omega
        | false =>
          refine if_false_of rfl ⟨some (nV x), L, rfl, e1, h1, hsl2, ?_, by omega⟩
          rw [step, ← List.append_assoc, ← eL]
          unfold rubOn
          rw [List.filter_cons_of_neg (by rw [hk2]; exact Bool.false_ne_true)]
          simp
      · rintro σ H' ⟨v6, L, rfl, e1, h1, hsl2, eL, hL⟩
        rw [nVs_len, List.length_drop] at hL
        rw [nVs_len, List.take_length] at eL
        refine ⟨_, v6, L, rfl, e1, h1, ?_, by omega⟩
        rw [eL]
        unfold pairsTo
        rw [List.range_succ, List.flatMap_append]
        simp
    · rintro σ H' ⟨v5, v6, L, rfl, e1, h1, eL, hL⟩
      refine ⟨_, _, v5, v6, L, rfl, e1, h1, ?_, by omega⟩
      rw [eL]
      unfold rubTo
      rw [List.range_succ, List.flatMap_append]
      simp only [List.flatMap_cons, List.flatMap_nil, List.append_nil]
      rfl
  · rintro σ H' ⟨v3, v4, v5, v6, L, rfl, e1, h1, eL, hL⟩
    refine ⟨_, rfl, q l H' hln e1 ?_⟩
    rw [eL] at h1
    exact h1
def sp_behind : Sp := fun vs H Q _ => ∃ (r a : Addr) (g : Graph) (c : List Nat) (b : Bool), vs = [.ref r, .ref a, .bl b] ∧ WG g ∧ RowsAt H r (rowsG g) ∧ TupOf H a c ∧ c.length = g.vertexCount ∧
  Ret (fun H2 p => ∃ L, TupsAt H2 p L ∧ L.length ≤ 125 ∧ ∀ d, d ∈ L ↔ d ∈ sucB g b c) H Q
theorem ok_behind (T : Txt K mg ad) : Ok P w K mg base CX0 3 ad.f_behind ["rows", "pebbles", "rubbling"] (sp_behind) := by
  obtain ⟨fd, F⟩ := T.F_behind
  obtain ⟨fd_behind_rubbling, G_behind_rubbling, B_behind_rubbling⟩ := ok_behind_rubbling (P := P) (w := w) (base := base) T
  obtain ⟨fd_behind_pebbling, G_behind_pebbling, B_behind_pebbling⟩ := ok_behind_pebbling (P := P) (w := w) (base := base) T
  refine ⟨fd, F.ok sc_behind (fun vs H Q E h => ?_) (fun cdv A outer s H vs Q E hr h => ?_), F.binds fun _ _ _ _ _ _ us hl => match us, hl with | [_, _, _], _ => rfl⟩
  · obtain ⟨_, _, _, _, _, rfl, _⟩ := h
    rfl
  have hu := hu_of hr
  refine ⟨_, (pss_one (ps_ret (pe_ifExp (pt_val (pv 2)) (pe_call G_behind_rubbling (hr.mono (by decide)) (by rfl) T.g_behind_rubbling T.k_behind_rubbling B_behind_rubbling .nil pass0 (by exact (pa_cons (pv 0) (pa_cons (pv 1) pa_nil)))) (pe_call G_behind_pebbling (hr.mono (by decide)) (by rfl) T.g_behind_pebbling T.k_behind_pebbling B_behind_pebbling .nil pass0 (by exact (pa_cons (pv 0) (pa_cons (pv 1) pa_nil))))))), ?_⟩
  obtain ⟨r, a, g, c, b, rfl, W, hr', hc, hl, q⟩ := h
  refine ⟨_, rfl, b, rfl, ?_⟩
  cases b with
  | true =>
    refine if_true_of rfl ⟨_, rfl, _, rfl, r, a, g, c, rfl, W, hr', hc, hl, fun p H2 hp e2 h2 => q p H2 hp e2 ⟨_, h2, rubB_len g W c, fun d => mem_rubB W⟩⟩
  | false =>
    refine if_false_of rfl ⟨_, rfl, _, rfl, r, a, g, c, rfl, W, hr', hc, hl, fun p H2 hp e2 h2 => q p H2 hp e2 ⟨_, h2, ?_, fun d => Iff.rfl⟩⟩
    unfold Ks577.successors
    rw [List.length_map, possible_eq]
    have h3 := possible_len g c g.vertexCount
    have h4 := W.few
    have h5 : g.vertexCount * g.vertexCount ≤ 5 * 5 := Nat.mul_le_mul h4 h4
    omega
end PBW

namespace PBW
open PySem PySem.Spec PyProof.Rows L2 Evl PB
open Ks577 (Graph pebblesAt isAdjacent)
variable {P : Program} {w : World} {K : PySem.W.Frag} {mg : Str → Option Value} {base : Heap} {ad : Adr}
section
variable {X : Cx}
theorem ix_listK (hK : X.K = K) : IxR X (rIxL K) := hK ▸ ix_list
theorem ix_tupK (hK : X.K = K) : IxR X (rIxT K) := hK ▸ ix_tup
theorem cr_sortedK (hK : X.K = K) : CallR X (.builtin "sorted") (rSorted K) := hK ▸ cr_sorted
theorem cr_sumK (hK : X.K = K) (hc : X.calm = true) : CallR X (.builtin "sum") (rSum K) := hK ▸ cr_sum hc
theorem cr_sumTK (hK : X.K = K) (hc : X.calm = true) : CallR X (.builtin "sum") (rSumT K) := hK ▸ cr_sumT hc
theorem cr_maxK' (hK : X.K = K) (hc : X.calm = true) : CallR X (.builtin "max") (rMax K) := hK ▸ cr_max hc
theorem op_catAK (hK : X.K = K) : OpR X (binaryOp .Add) (rCatA K) := hK ▸ op_catA
theorem op_notIn_seqK (hK : X.K = K) : OpR X (compareOp .NotIn) (rIn K true) := hK ▸ op_notIn_seq
theorem op_in_seqK (hK : X.K = K) : OpR X (compareOp .In) (rIn K false) := hK ▸ op_in_seq
theorem call_len_seqK (hK : X.K = K) : CallR X (.builtin "len") (rLenS K) := hK ▸ call_len_seq
theorem pi_listK {tg l : Expr} {tl : TE} (hK : X.K = K) (hl : PE X l tl) : PI X tg l (iList K tl) := hK ▸ pi_list hl
end
section
variable {g : TG} {tt : TT} {te : TE} {vs : List Nat} {σ : L2.St} {H1 : Hp} {D : Addr} {Qd : Hp → Prop}
/-- a comprehension giving new lists of ints -/
theorem lc_rows {a : Addr} {xs : List V} (m : List (List Nat)) (hm : m.length = xs.length) (ha : SqL K H1 a xs) (hD : H1 D = none) (hlen : xs.length ≤ 900000)
    (hs : ∀ (j : Nat) x c H3 (Qy : VK), xs[j]? = some x → m[j]? = some c → Ex H1 H3 → (∀ p H6, H3 p = none → Ex H3 H6 → LstOf H6 p c → Qy (.ref p) H6) → ∀ Qn : Hp → Prop, g x (wipe σ vs) H3 fun σ2 H4 => wipe σ2 vs = wipe σ vs ∧ tt σ2 H4 fun b H5 => if b = true then te σ2 H5 Qy else Qn H5)
    (hd : ∀ H3, Ex H1 H3 → RowsAt H3 D m → (∃ as : List Addr, H3 D = some (.lst (ARefs as)) ∧ ∀ x ∈ as, H1 x = none) → Qd H3) :
    ∃ W : Nat → Nat → Hp → Prop, (∃ m, W 0 m (upd H1 D (.lst []))) ∧ ∀ i m H, W i m H →
      ((Itl K a).stop i H ∧ Qd H) ∨ ((Itl K a).go i H ∧ ∃ Nx : Hp → Prop, (∀ H', Nx H' → ∃ m', m' < m ∧ W (i + 1) m' H') ∧ ∀ x H', (Itl K a).yld i H x H' → g x (wipe σ vs) H' fun σ2 H2 => wipe σ2 vs = wipe σ vs ∧ tt σ2 H2 fun b H3 =>
        if b = true then te σ2 H3 fun y H4 => ∃ acc, H4 D = some (.lst acc) ∧ acc.length < sizeLine ∧ Nx (upd H4 D (.lst (acc ++ [y]))) else Nx H3) := by
  refine lc_pure (fun j y H => ∃ p c, y = .ref p ∧ m[j]? = some c ∧ LstOf H p c ∧ p ≠ D ∧ H1 p = none) ha hD hlen ?_ ?_ ?_ ?_
  · rintro j v H H' ⟨p, c, e, h1, h2, h3⟩ ex
    exact ⟨p, c, e, h1, ex _ _ h2, h3⟩
  · rintro j v H ys ys' ⟨p, c, e, h1, h2, h3⟩ hl
    refine ⟨p, c, e, h1, ?_, h3⟩
    show upd H D _ p = _
    rw [upd_ne h3.1]
    exact h2
  · intro j x H3 Qy hj e3 hD3 hq Qn
    obtain ⟨c, hc⟩ : ∃ c, m[j]? = some c := by
      have := (List.getElem?_eq_some_iff.mp hj).1
      exact ⟨m[j]'(by omega), List.getElem?_eq_getElem (by omega)⟩
    refine hs j x c H3 Qy hj hc e3 (fun p H6 hp e6 t6 => hq _ _ e6 ⟨p, c, rfl, hc, t6, fun z => ?_, fresh_back e3 hp⟩) Qn
    subst z
    rw [hp] at hD3
    cases hD3
  · intro ys H3 hl e3 h3 h4
    obtain ⟨as, rfl, hf⟩ := refs_of (F := fun j p => (∃ c, m[j]? = some c ∧ LstOf H3 p c) ∧ H1 p = none) (ys := ys) fun j y hy => by
      obtain ⟨p, c, e, h1, h2, _, h3⟩ := h4 j y hy
      exact ⟨p, e, ⟨c, h1, h2⟩, h3⟩
    rw [aref_len] at hl
    refine hd H3 e3 ⟨as, h3, paired_mk (by omega) fun j p c hp hc => ?_⟩ ⟨as, h3, fun x hx => by
      obtain ⟨j, hj⟩ := List.getElem?_of_mem hx
      exact (hf j x hj).2⟩
    obtain ⟨⟨c', h1, h2⟩, _⟩ := hf j p hp
    rw [hc] at h1
    cases h1
    exact h2
end
/-- rows still growing -/
structure RowsD (H : Hp) (D : Addr) (rs : List Addr) (f : Nat → List Nat) : Prop where
  at_ : H D = some (.lst (ARefs rs))
  nd : rs.Nodup
  out : D ∉ rs
  row : ∀ (v : Nat) (r : Addr), rs[v]? = some r → LstOf H r (f v)
theorem RowsD.push {H : Hp} {D : Addr} {rs : List Addr} {f : Nat → List Nat} (R : RowsD H D rs f) {v x : Nat} {r : Addr} (h : rs[v]? = some r) : RowsD (upd H r (.lst (nVs (f v) ++ [nV x]))) D rs (fun u => if u = v then f v ++ [x] else f u) where
  at_ := by
    rw [upd_ne (fun z : D = r => R.out (by rw [z]; exact List.mem_of_getElem? h))]
    exact R.at_
  nd := R.nd
  out := R.out
  row := fun u q hu => by
    show upd H r _ q = _
    by_cases e : u = v
    · subst e
      rw [h] at hu
      cases hu
      rw [upd_same, if_pos rfl, nVs_app]
      rfl
    · have hne : q ≠ r := by
        intro z
        subst z
        obtain ⟨b1, b2⟩ := List.getElem?_eq_some_iff.mp h
        obtain ⟨b3, b4⟩ := List.getElem?_eq_some_iff.mp hu
        exact e ((List.getElem_inj R.nd).mp (b4.trans b2.symm))
      rw [upd_ne hne, if_neg e]
      exact R.row u q hu
def rawRow (es : List (Nat × Nat)) (v : Nat) : List Nat := es.flatMap fun e => if v = e.1 then [e.2] else if v = e.2 then [e.1] else []
theorem rawRow_snoc (es : List (Nat × Nat)) (e : Nat × Nat) (v : Nat) : rawRow (es ++ [e]) v = rawRow es v ++ if v = e.1 then [e.2] else if v = e.2 then [e.1] else [] := by
  unfold rawRow
  rw [List.flatMap_append]
  simp
theorem int_sorted_uniq : ∀ {l m : List Int}, l.Pairwise (· ≤ ·) → m.Pairwise (· ≤ ·) → l.Perm m → l = m := fun h1 h2 h3 => h3.eq_of_pairwise (fun a b _ _ h4 h5 => Int.le_antisymm h4 h5) h1 h2
theorem rawRow_perm {g : Graph} (W : WG g) (v : Nat) : (rawRow g.edges v).Perm (nbrs g v) := by
  refine (List.perm_ext_iff_of_nodup ?_ ((nbrs_sorted g v).imp fun h => Nat.ne_of_lt h)).mpr fun u => ?_
  · unfold rawRow List.Nodup
    rw [List.pairwise_flatMap]
    constructor
    · intro a _
      split
      · exact List.pairwise_singleton _ _
      · split
        · exact List.pairwise_singleton _ _
        · exact .nil
    · refine List.Pairwise.imp_of_mem (fun {a b} ha hb hab => ?_) W.srt
      have h1 := W.lt a ha
      have h2 := W.lt b hb
      intro x hx y hy
      split at hx <;> split at hy <;> (try split at hx) <;> (try split at hy) <;> simp only [List.mem_cons, List.not_mem_nil, or_false] at hx hy <;> omega
  · rw [mem_nbrs W, adj_iff]
    unfold rawRow
    rw [List.mem_flatMap]
    constructor
    · rintro ⟨e, he, hu⟩
      split at hu
      · next h => rw [List.mem_singleton.mp hu, h]; exact .inl he
      · split at hu
        · next h => rw [List.mem_singleton.mp hu, h]; exact .inr he
        · cases hu
    · rintro (h | h)
      · exact ⟨(v, u), h, by rw [if_pos rfl]; exact List.mem_singleton.mpr rfl⟩
      · have := W.lt _ h
        exact ⟨(u, v), h, by rw [if_neg (show ¬ v = u by simp only at this; omega), if_pos rfl]; exact List.mem_singleton.mpr rfl⟩
theorem rawRow_len (es : List (Nat × Nat)) (v : Nat) : (rawRow es v).length ≤ es.length := by
  induction es with
  | nil => exact Nat.le_refl _
  | cons e r ih =>
    unfold rawRow at ih ⊢
    rw [List.flatMap_cons, List.length_append, List.length_cons]
    have : (if v = e.1 then [e.2] else if v = e.2 then [e.1] else []).length ≤ 1 := by
      split
      · exact Nat.le_refl _
      · split
        · exact Nat.le_refl _
        · exact Nat.zero_le _
    omega
theorem edges_lt {g : Graph} (W : WG g) : g.edges.length ≤ 10 := edges_few W
def sp_neighbours : Sp := fun vs H Q _ => ∃ (e : Addr) (g : Graph), vs = [.int g.vertexCount, .ref e] ∧ WG g ∧ TupsAt H e (prs g.edges) ∧ Ret (fun H2 p => RowsAt H2 p (rowsG g) ∧ ∃ as : List Addr, H2 p = some (.lst (ARefs as)) ∧ ∀ x ∈ as, H x = none) H Q
theorem ok_neighbours (T : Txt K mg ad) : Ok P w K mg base CX0 1 ad.f_neighbours ["many", "edges"] (sp_neighbours) := by
  obtain ⟨fd, F⟩ := T.F_neighbours
  refine ⟨fd, F.ok sc_neighbours (fun vs H Q E h => ?_) (fun cdv A outer s H vs Q E hr h => ?_), F.binds fun _ _ _ _ _ _ us hl => match us, hl with | [_, _], _ => rfl⟩
  · obtain ⟨_, _, rfl, _⟩ := h
    rfl
  have hu := hu_of hr
  refine ⟨_, (pss_cons (by exact (ps_setLc (i := 2) (own := [("vertex", 3)]) rfl sc_neighbours.nd rfl rfl (sw_true rfl rfl rfl (by decide +kernel)) (pi_range1 (by rfl) T.n_range (by exact (pa_cons (pv 0) pa_nil))) (blkOk_by (own := [("vertex", 3)]) (N := N_neighbours) (sc := defScope s_neighbours) (by decide +kernel)) (fun _ _ _ _ _ => (pg_name (i := 3) sc_neighbours.nd rfl (by first | exact Or.inl rfl | exact Or.inr rfl))) (fun _ _ _ _ _ => pts_nil) (fun _ _ _ _ _ => (pe_lst pa_nil))))
      (pss_cons (ps_for PassesOwn.never rfl (pi_list (pv 1)) (pg_names2 (K := K) (i := 4) (j := 5) rfl (by rfl) sc_neighbours.nd (by rfl) (by rfl) (by first | exact Or.inl rfl | exact Or.inr rfl) (by first | exact Or.inl rfl | exact Or.inr rfl) (by first | exact Or.inl rfl | exact Or.inr rfl) (by first | exact Or.inl rfl | exact Or.inr rfl)) (pss_cons (ps_expr (pe_bm PySem.F.plainAttrs_list PySem.F.slot_list_append PySem.F.type_list_append mt_append (pe_ix ix_list (pv 2) (pv 4) (fun _ _ => rfl)) (by exact (pa_cons (pv 5) pa_nil))))
      (pss_one (ps_expr (pe_bm PySem.F.plainAttrs_list PySem.F.slot_list_append PySem.F.type_list_append mt_append (pe_ix ix_list (pv 2) (pv 5) (fun _ _ => rfl)) (by exact (pa_cons (pv 4) pa_nil)))))))
      (pss_one (ps_ret (by exact (pe_lc (own := [("row", 6)]) rfl sc_neighbours.nd (pi_list (pv 2)) (blkOk_by (own := [("row", 6)]) (N := N_neighbours) (sc := defScope s_neighbours) (by decide +kernel)) (fun _ _ _ _ _ => (pg_name (i := 6) sc_neighbours.nd rfl (by first | exact Or.inl rfl | exact Or.inr rfl))) (fun _ _ _ _ _ => pts_nil) (fun _ _ _ _ _ => (pe_callB (cr_sortedK (K := K) rfl) (by rfl) T.n_sorted (by decide +kernel) (by exact (pa_cons (pv 6) pa_nil)))))))))), ?_⟩
  obtain ⟨e, g, rfl, W, he, q⟩ := h
  obtain ⟨es, hes, hep⟩ := he
  have hn5 := W.few
  -- found = [[] for ..]
  refine ⟨_, rfl, g.vertexCount, rfl, by omega, by omega, fun D hD => ?_⟩
  refine lc_range (lo := 0) (n := g.vertexCount) (fun i H3 => Ex H H3 ∧ ∃ rs : List Addr, rs.length = i ∧ RowsD H3 D rs (fun _ => []) ∧ ∀ r ∈ rs, H r = none) ⟨Ex.new hD, [], rfl, ⟨upd_same, .nil, by simp, fun v r h => by simp at h⟩, by simp⟩ ?_ ?_
  · rintro i H3 hi ⟨e3, rs, hrl, R, hf⟩
    refine ⟨rfl, by show 0 ≤ sizeLine; exact Nat.zero_le _, fun p hp => ?_⟩
    have hDp : D ≠ p := ne_of_none R.at_ hp
    refine ⟨ARefs rs, by rw [upd_ne hDp]; exact R.at_, by rw [aref_len]; exact szl (by omega), Ex.mut (e3.trans (Ex.new hp)) hD, rs ++ [p], by rw [List.length_append, hrl]; rfl, ⟨by rw [upd_same, aref_app]; rfl, ?_, ?_, ?_⟩, ?_⟩
    · rw [List.nodup_append]
      refine ⟨R.nd, by simp, fun a ha b hb => ?_⟩
      rw [List.mem_singleton.mp hb]
      intro z
      subst z
      obtain ⟨v, hv⟩ := List.getElem?_of_mem ha
      rw [R.row v a hv] at hp
      cases hp
    · intro z
      rcases List.mem_append.mp z with z | z
      · exact R.out z
      · exact hDp (List.mem_singleton.mp z)
    · intro v r hv
      rw [List.getElem?_append] at hv
      show upd _ D _ r = _
      split at hv
      · rw [upd_ne (fun z : r = D => R.out (by rw [← z]; exact List.mem_of_getElem? hv))]
        exact (Ex.new hp) _ _ (R.row v r hv)
      · have e : r = p := by
          rw [List.getElem?_singleton] at hv
          split at hv
          · exact (Option.some.inj hv).symm
          · cases hv
        rw [e, upd_ne (Ne.symm hDp), upd_same]
        rfl
    · intro r hr
      rcases List.mem_append.mp hr with z | z
      · exact hf r z
      · rw [List.mem_singleton.mp z]
        exact fresh_back e3 hp
  rintro H3 ⟨e3, rs, hrl, R, hf⟩
  have hel : es.length = g.edges.length := by rw [Paired.length hep]; unfold prs; rw [List.length_map]
  refine ⟨_, rfl, e, rfl, ⟨_, sl_of' (e3 _ _ hes)⟩, ?_⟩
  refine for_list (a := e) (xs := ARefs es) (fun j σ H' => ∃ (v4 v5 : Option V), σ = [some (.int g.vertexCount), some (.ref e), some (.ref D), none, v4, v5, none] ∧ Ex H H' ∧ RowsD H' D rs (rawRow (g.edges.take j)))
    ⟨none, none, rfl, e3, R⟩ (fun j σ H' _ p => let ⟨_, _, _, e1, _⟩ := p; sl_of' (e1 _ _ hes)) ?_ ?_
  · rintro j x σ H' hj ⟨v4, v5, rfl, e1, R⟩
    obtain ⟨t, ht, rfl⟩ := aref_of hj
    obtain ⟨c, hc, htc⟩ := paired_at hep ht
    obtain ⟨⟨a, b⟩, hab, rfl⟩ := prs_get hc
    have hlt := W.lt (a, b) (List.mem_of_getElem? hab)
    simp only at hlt
    obtain ⟨ra, hra⟩ : ∃ r, rs[a]? = some r := ⟨rs[a]'(by omega), List.getElem?_eq_getElem (by omega)⟩
    obtain ⟨rb, hrb⟩ : ∃ r, rs[b]? = some r := ⟨rs[b]'(by omega), List.getElem?_eq_getElem (by omega)⟩
    have hk := rawRow_len (g.edges.take j)
    have hk2 : (g.edges.take j).length ≤ 10 := by have := edges_few W; rw [List.length_take]; omega
    have R1 := R.push (x := b) hra
    have R2 := R1.push (x := a) hrb
    refine ⟨t, _, rfl, st_of' (e1 _ _ htc), rfl, _, _, rfl, _, _, rfl, rfl, ?_⟩
    refine ⟨_, rfl, _, rfl, D, _, _, _, rfl, rfl, sl_of' R.at_, atI_nat (aref_get hra), .inl ⟨rfl, _, sl_of' (R.row a ra hra)⟩, _, rfl, ra, _, _, rfl, rfl, R.row a ra hra, by have := hk a; rw [nVs_len]; exact szl (by omega), ?_⟩
    refine ⟨_, rfl, _, rfl, D, _, _, _, rfl, rfl, sl_of' R1.at_, atI_nat (aref_get hrb), .inl ⟨rfl, _, sl_of' (R1.row b rb hrb)⟩, _, rfl, rb, _, _, rfl, rfl, R1.row b rb hrb, by have := hk b; rw [nVs_len, if_neg (by omega)]; exact szl (by omega), ?_⟩
    refine ⟨_, _, rfl, Ex.mut (Ex.mut e1 (hf ra (List.mem_of_getElem? hra))) (hf rb (List.mem_of_getElem? hrb)), ?_⟩
    have ef : (fun u => if u = b then (if b = a then rawRow (g.edges.take j) a ++ [b] else rawRow (g.edges.take j) b) ++ [a] else if u = a then rawRow (g.edges.take j) a ++ [b] else rawRow (g.edges.take j) u) = rawRow (g.edges.take (j + 1)) := by
      funext u
      rw [take_snoc hab, rawRow_snoc]
      simp only
      by_cases h1 : u = b
      · subst h1
        rw [if_pos rfl, if_neg (by omega), if_neg (by omega), if_pos rfl]
      · rw [if_neg h1]
        by_cases h2 : u = a
        · subst h2
          rw [if_pos rfl, if_pos rfl]
        · rw [if_neg h2, if_neg h2, if_neg h1, List.append_nil]
    rw [← ef]
    exact R2
  · rintro σ H' ⟨v4, v5, rfl, e1, R⟩
    rw [aref_len, hel, List.take_length] at R
    refine ⟨_, rfl, D, rfl, ⟨_, sl_of' R.at_⟩, fun D2 hD2 => ?_⟩
    refine lc_rows (rowsG g) (by rw [rowsG_length, aref_len, hrl]) (sl_of' R.at_) hD2 (by rw [aref_len]; omega) ?_ fun H4 e4 h4 hn => q D2 H4 (fresh_back e1 hD2) (e1.trans e4) ⟨h4, let ⟨as, h5, h6⟩ := hn; ⟨as, h5, fun x hx => fresh_back e1 (h6 x hx)⟩⟩
    intro v x c H4 Qy hv hc e4 hq Qn
    obtain ⟨r, hr2, rfl⟩ := aref_of hv
    have hvn : v < g.vertexCount := by have := (List.getElem?_eq_some_iff.mp hr2).1; omega
    rw [rowsG_get hvn] at hc
    obtain rfl := Option.some.inj hc
    refine ⟨rfl, _, rfl, r, zI (rawRow g.edges v), rfl, by rw [← nVs_zI]; exact sl_of' (e4 _ _ (R.row v r hr2)), ?_, ?_⟩
    · unfold zI
      rw [List.length_map]
      have := rawRow_len g.edges v
      have := edges_few W
      omega
    · intro ns p hp1 hp2 hp
      have e : ns = zI (nbrs g v) := by
        refine int_sorted_uniq hp2 ?_ (hp1.trans ((rawRow_perm W v).map _))
        unfold zI
        rw [List.pairwise_map]
        exact (nbrs_sorted g v).imp fun h => by omega
      subst e
      rw [← nVs_zI]
      exact hq p _ hp (Ex.new hp) upd_same

abbrev IntsOf (H : Hp) (a : Addr) (l : List Int) : Prop := H a = some (.lst (l.map V.int))
theorem int_get {l : List Int} {i : Nat} {x : Int} (h : l[i]? = some x) : (l.map V.int)[i]? = some (.int x) := by rw [List.getElem?_map, h]; rfl
theorem fd_at {l : List Int} {i : Nat} (h : i < l.length) : l[i]? = some (fdI l i) := by
  unfold fdI
  rw [List.getD_eq_getElem?_getD, List.getElem?_eq_getElem h]
  rfl
def distL (g : Graph) (b : Nat) : List Int := (List.range g.vertexCount).map (distI g b)
theorem distL_len (g : Graph) (b : Nat) : (distL g b).length = g.vertexCount := by unfold distL; rw [List.length_map, List.length_range]
theorem distL_get {g : Graph} {b v : Nat} (h : v < g.vertexCount) : (distL g b)[v]? = some (distI g b v) := by
  unfold distL
  rw [List.getElem?_map, List.getElem?_range h]
  rfl
def sp_distances : Sp := fun vs H Q _ => ∃ (e : Addr) (g : Graph) (b : Nat), vs = [.int g.vertexCount, .ref e, .int b] ∧ WG g ∧ TupsAt H e (prs g.edges) ∧ b < g.vertexCount ∧ Ret (fun H2 p => IntsOf H2 p (distL g b)) H Q
theorem ok_distances (T : Txt K mg ad) : Ok P w K mg base CX0 2 ad.f_distances ["many", "edges", "begin"] (sp_distances) := by
  obtain ⟨fd, F⟩ := T.F_distances
  obtain ⟨fd_neighbours, G_neighbours, B_neighbours⟩ := ok_neighbours (P := P) (w := w) (base := base) T
  refine ⟨fd, F.ok sc_distances (fun vs H Q E h => ?_) (fun cdv A outer s H vs Q E hr h => ?_), F.binds fun _ _ _ _ _ _ us hl => match us, hl with | [_, _, _], _ => rfl⟩
  · obtain ⟨_, _, _, rfl, _⟩ := h
    rfl
  have hu := hu_of hr
  refine ⟨_, (pss_cons (ps_set (i := 3) sc_distances.nd rfl (by first | exact Or.inl rfl | exact Or.inr rfl) (pe_call G_neighbours (hr.mono (by decide)) (by rfl) T.g_neighbours T.k_neighbours B_neighbours .nil pass0 (by exact (pa_cons (pv 0) (pa_cons (pv 1) pa_nil)))))
      (pss_cons (ps_set (i := 4) sc_distances.nd rfl (by first | exact Or.inl rfl | exact Or.inr rfl) (pe_op op_rep (pe_lst (by exact (pa_cons (pe_glob (v := .int (-1)) rfl T.c_FAR ⟨_, rfl⟩) pa_nil))) (pv 0)))
      (pss_cons (ps_asg pe_int (pg_sub (pv 4) (pv 2) set_list))
      (pss_cons (ps_set (i := 5) sc_distances.nd rfl (by first | exact Or.inl rfl | exact Or.inr rfl) (pe_lst (by exact (pa_cons (pv 2) pa_nil))))
      (pss_cons (ps_set (i := 6) sc_distances.nd rfl (by first | exact Or.inl rfl | exact Or.inr rfl) pe_int)
      (pss_cons (ps_while PassesOwn.never (pt_cmpR op_lt (pv 6) (pe_callB call_len_seq (by rfl) T.n_len (by decide +kernel) (by exact (pa_cons (pv 5) pa_nil))) (nomark _)) (pss_cons (ps_for PassesOwn.never rfl (pi_list (pe_ix ix_list (pv 3) (pe_ix ix_list (pv 5) (pv 6) (fun _ _ => rfl)) (fun _ _ => rfl))) (pg_name (i := 7) sc_distances.nd rfl (by first | exact Or.inl rfl | exact Or.inr rfl)) (pss_one (ps_if (pt_cmpR op_eq (pe_ix ix_list (pv 4) (pv 7) (fun _ _ => rfl)) (pe_glob (v := .int (-1)) rfl T.c_FAR ⟨_, rfl⟩) (nomark _)) (pss_cons (ps_asg (pe_op op_add (pe_ix ix_list (pv 4) (pe_ix ix_list (pv 5) (pv 6) (fun _ _ => rfl)) (fun _ _ => rfl)) pe_int) (pg_sub (pv 4) (pv 7) set_list))
      (pss_one (ps_expr (pe_bm PySem.F.plainAttrs_list PySem.F.slot_list_append PySem.F.type_list_append mt_append (pv 5) (by exact (pa_cons (pv 7) pa_nil)))))) pss_nil)))
      (pss_one (ps_aug (i := 6) sc_distances.nd rfl (by first | exact Or.inl rfl | exact Or.inr rfl) pe_int ip_add))))
      (pss_one (ps_ret (pv 4))))))))), ?_⟩
  obtain ⟨e, g, b, rfl, W, he, hb, q⟩ := h
  have hn5 := W.few
  refine ⟨_, rfl, _, rfl, e, g, rfl, W, he, fun r Hr hr1 er ⟨hrows, _⟩ => ?_⟩
  -- found = [FAR] * many
  refine ⟨by show 1 ≤ sizeLine; exact szs (by omega), fun l1 hl1 => ⟨_, rfl, l1, _, _, rfl, rfl, upd_same, by omega, by omega, ?_, fun F hF => ?_⟩⟩
  · show 1 * ((g.vertexCount : Nat) : Int).toNat ≤ sizeLine
    exact szs (by omega)
  have eF : (List.replicate ((g.vertexCount : Nat) : Int).toNat [V.int (-1)]).flatten = (List.replicate g.vertexCount (-1 : Int)).map V.int := by
    rw [List.map_replicate]
    show (List.replicate g.vertexCount [V.int (-1)]).flatten = _
    induction g.vertexCount with
    | zero => rfl
    | succ n ih => rw [List.replicate_succ, List.flatten_cons, ih]; rfl
  rw [eF]
  have hF1 : Hr F = none := fresh_back (Ex.new hl1) hF
  -- found[begin] = 0
  refine ⟨_, rfl, _, rfl, F, _, _, b, rfl, rfl, upd_same, ixN_nat (by rw [List.length_map, List.length_replicate]; exact hb), ?_⟩
  rw [upd_upd]
  -- waiting = [begin]; at = 0
  refine ⟨_, rfl, by show 1 ≤ sizeLine; exact szs (by omega), fun Wt hWt => ?_⟩
  have e1 : Ex Hr (upd (upd Hr l1 (.lst [V.int (-1)])) F (.lst (((List.replicate g.vertexCount (-1 : Int)).map V.int).set b (V.int 0)))) := Ex.upd_new (Ex.new hl1) hF
  have hW1 : Hr Wt = none := fresh_back e1 hWt
  have hFW : F ≠ Wt := ne_of_none upd_same hWt
  refine ⟨fun m σ H' => ∃ (found : List Int) (wait : List Nat) (i : Nat) (v7 : Option V), m = g.vertexCount - i ∧ σ = [some (.int g.vertexCount), some (.ref e), some (.int b), some (.ref r), some (.ref F), some (.ref Wt), some (.int i), v7] ∧ Ex Hr H' ∧ IntsOf H' F found ∧ LstOf H' Wt wait ∧ BfAt g b found wait i,
    ⟨_, _, _, 0, none, rfl, rfl, Ex.upd_new e1 hWt, ?_, upd_same, Bf.start hb⟩, ?_⟩
  · show upd _ Wt _ F = _
    rw [upd_ne hFW, upd_same, ← List.map_set]
  rintro m σ H' ⟨found, wait, i, v7, rfl, rfl, eH, hFo, hWa, B⟩
  have hwl := B.wait_le
  refine ⟨_, rfl, _, rfl, Wt, _, rfl, .inl (sl_of' hWa), _, _, rfl, rfl, _, rfl, ?_⟩
  by_cases hlt : i < wait.length
  · refine if_true_of (decide_eq_true (by rw [nVs_len]; omega)) ⟨fun σ' H' => ∃ m', m' < g.vertexCount - i ∧ _, fun _ _ h => h, ?_⟩
    obtain ⟨ra, hra, hrl, hrg⟩ := hrows.len
    rw [rowsG_length] at hrl
    have hu : wait[i]? = some wait[i] := List.getElem?_eq_getElem hlt
    generalize wait[i] = u at hu
    have hun := B.lt u (List.mem_of_getElem? hu)
    obtain ⟨bu, hbu, hbu2⟩ := hrg u _ (rowsG_get hun)
    refine ⟨_, rfl, _, rfl, _, rfl, Wt, _, _, _, rfl, rfl, sl_of' hWa, atI_nat (nVs_get hu), r, _, _, _, rfl, rfl, sl_of' (eH _ _ hra), atI_nat (aref_get hbu), bu, rfl, ⟨_, sl_of' (eH _ _ hbu2)⟩, ?_⟩
    refine for_list (a := bu) (xs := nVs (nbrs g u)) (fun k σ H' => ∃ (found : List Int) (wait : List Nat) (v7 : Option V), σ = [some (.int g.vertexCount), some (.ref e), some (.int b), some (.ref r), some (.ref F), some (.ref Wt), some (.int i), v7] ∧ Ex Hr H' ∧ IntsOf H' F found ∧ LstOf H' Wt wait ∧ BfIn g b found wait i u ((nbrs g u).take k))
      ⟨found, wait, v7, rfl, eH, hFo, hWa, B.enter hu⟩ (fun k σ H' _ p => let ⟨_, _, _, _, eH, _⟩ := p; sl_of' (eH _ _ hbu2)) ?_ ?_
    · rintro k y σ H' hk ⟨found, wait, v7, rfl, eH, hFo, hWa, B⟩
      obtain ⟨x, hx, rfl⟩ := nVs_of hk
      have hadj := (mem_nbrs W).mp (List.mem_of_getElem? hx)
      have hxn := (adj_lt W hadj).2.1
      have hxl : x < found.length := by rw [B.len]; exact hxn
      refine ⟨_, rfl, _, rfl, F, _, _, _, rfl, rfl, sl_of' hFo, atI_nat (int_get (fd_at hxl)), rfl, _, rfl, ?_⟩
      rw [take_snoc hx]
      by_cases hf : fdI found x = -1
      · refine if_true_of (decide_eq_true (by rw [hf])) ?_
        have hwl2 := B.wait_le
        have hul : u < found.length := by rw [B.len]; exact hun
        refine ⟨_, rfl, _, rfl, _, rfl, Wt, _, _, _, rfl, rfl, sl_of' hWa, atI_nat (nVs_get B.at_), F, _, _, _, rfl, rfl, sl_of' hFo, atI_nat (int_get (fd_at hul)), _, _, rfl, rfl, _, rfl, _, rfl, F, _, _, x, rfl, rfl, hFo, ixN_nat (by rw [List.length_map]; exact hxl), ?_⟩
        have hWa2 : (upd H' F (.lst ((found.map V.int).set x (.int (fdI found u + 1))))) Wt = some (.lst (nVs wait)) := by rw [upd_ne (Ne.symm hFW)]; exact hWa
        refine ⟨_, rfl, .inl ⟨rfl, _, sl_of' hWa2⟩, _, rfl, Wt, _, _, rfl, rfl, hWa2, by rw [nVs_len]; exact szl (by omega), ?_⟩
        refine ⟨found.set x (fdI found u + 1), wait ++ [x], some (nV x), rfl, Ex.mut (Ex.mut eH hF1) hW1, ?_, ?_, B.new W hadj hf⟩
        · show upd _ Wt _ F = _
          rw [upd_ne hFW, upd_same, List.map_set]
        · show upd _ Wt _ Wt = _
          rw [upd_same, nVs_app]
          rfl
      · refine if_false_of (decide_eq_false (fun z => hf (by injection z))) ?_
        exact ⟨found, wait, some (nV x), rfl, eH, hFo, hWa, B.old hf⟩
    · rintro σ H' ⟨found2, wait2, v7, rfl, eH, hFo, hWa, B2⟩
      rw [nVs_len, List.take_length] at B2
      have hwl2 := B2.wait_le
      have := (List.getElem?_eq_some_iff.mp B2.at_).1
      exact ⟨_, rfl, _, _, rfl, rfl, g.vertexCount - (i + 1), by omega, found2, wait2, i + 1, v7, rfl, rfl, eH, hFo, hWa, B2.leave W⟩
  · refine if_false_of (decide_eq_false (by rw [nVs_len]; omega)) ?_
    have hi : i = wait.length := by have := B.le; omega
    subst hi
    refine ⟨_, rfl, q F H' (fresh_back er hF1) (er.trans eH) ?_⟩
    rw [B.result W hb] at hFo
    exact hFo
end PBW

namespace PBW
open PySem PySem.Spec PyProof.Rows L2 Evl PB
open Ks577 (Graph pebblesAt isAdjacent)
variable {P : Program} {w : World} {K : PySem.W.Frag} {mg : Str → Option Value} {base : Heap} {ad : Adr}
section
variable {g : TG} {tt : TT} {te : TE} {vs : List Nat} {σ : L2.St} {H1 : Hp} {D : Addr} {Qd : Hp → Prop}
/-- a comprehension over a range giving plain values -/
theorem lc_valsR {n : Nat} (m : List V) (hm : m.length = n) (hD : H1 D = none) (hlen : n ≤ 900000)
    (hs : ∀ (j : Nat) c H3 (Qy : VK), m[j]? = some c → Ex H1 H3 → (∀ H6, Ex H3 H6 → Qy c H6) → ∀ Qn : Hp → Prop, g (.int (j : Int)) (wipe σ vs) H3 fun σ2 H4 => wipe σ2 vs = wipe σ vs ∧ tt σ2 H4 fun b H5 => if b = true then te σ2 H5 Qy else Qn H5)
    (hd : ∀ H3, Ex H1 H3 → H3 D = some (.lst m) → Qd H3) :
    ∃ W : Nat → Nat → Hp → Prop, (∃ m, W 0 m (upd H1 D (.lst []))) ∧ ∀ i m H, W i m H →
      ((Itr 0 n).stop i H ∧ Qd H) ∨ ((Itr 0 n).go i H ∧ ∃ Nx : Hp → Prop, (∀ H', Nx H' → ∃ m', m' < m ∧ W (i + 1) m' H') ∧ ∀ x H', (Itr 0 n).yld i H x H' → g x (wipe σ vs) H' fun σ2 H2 => wipe σ2 vs = wipe σ vs ∧ tt σ2 H2 fun b H3 =>
        if b = true then te σ2 H3 fun y H4 => ∃ acc, H4 D = some (.lst acc) ∧ acc.length < sizeLine ∧ Nx (upd H4 D (.lst (acc ++ [y]))) else Nx H3) := by
  refine lc_range (lo := 0) (n := n) (fun i H3 => Ex H1 H3 ∧ H3 D = some (.lst (m.take i))) ⟨Ex.new hD, by rw [List.take_zero]; exact upd_same⟩ ?_ ?_
  · rintro i H3 hi ⟨e3, h3⟩
    obtain ⟨c, hc⟩ : ∃ c, m[i]? = some c := ⟨m[i]'(by omega), List.getElem?_eq_getElem (by omega)⟩
    rw [Int.zero_add]
    refine hs i c H3 _ hc e3 (fun H6 e6 => ?_) _
    refine ⟨_, e6 _ _ h3, szl (by rw [List.length_take]; omega), Ex.mut (e3.trans e6) hD, ?_⟩
    rw [upd_same, take_snoc hc]
  · rintro H3 ⟨e3, h3⟩
    refine hd H3 e3 ?_
    rw [h3, ← hm, List.take_length]
end
theorem ints_flat (l : List Int) : (l.map V.int).all flatV = true := by
  rw [List.all_eq_true]
  intro x hx
  obtain ⟨n, _, rfl⟩ := List.mem_map.mp hx
  rfl
theorem inV_ints (x : Int) (l : List Int) : inV (.int x) (l.map V.int) = decide (x ∈ l) := by
  unfold inV
  rw [List.any_map]
  induction l with
  | nil => rfl
  | cons a r ih =>
    rw [List.any_cons, ih]
    show ((a == x) || _) = _
    by_cases h : a = x
    · subst h; simp
    · rw [beq_eq_false_iff_ne.mpr h, Bool.false_or]
      exact decide_eq_decide.mpr (by rw [List.mem_cons]; exact ⟨.inr, fun z => z.resolve_left (Ne.symm h)⟩)
/-- the diameter as the code tells it -/
def diaI (g : Graph) : Int := if Ks578.isConnected g = true then (Ks578.diameter g : Int) else -1
theorem diaI_conn {g : Graph} (h : ∀ u < g.vertexCount, ∀ v < g.vertexCount, distI g u v ≠ -1) (W : WG g) : diaI g = diaTo g g.vertexCount := by
  unfold diaI
  rw [if_pos ((conn_iff W).mpr h)]
  rfl
theorem mem_distL {g : Graph} {b : Nat} {y : Int} : y ∈ distL g b ↔ ∃ v < g.vertexCount, distI g b v = y := by
  unfold distL
  rw [List.mem_map]
  exact ⟨fun ⟨v, h1, h2⟩ => ⟨v, List.mem_range.mp h1, h2⟩, fun ⟨v, h1, h2⟩ => ⟨v, List.mem_range.mpr h1, h2⟩⟩
/-- a plain answer -/
def RetV (v : V) (H : Hp) (Q : VK) : Prop := ∀ H2, Ex H H2 → Q v H2
def sp_diameter : Sp := fun vs H Q _ => ∃ (e : Addr) (g : Graph), vs = [.int g.vertexCount, .ref e] ∧ WG g ∧ TupsAt H e (prs g.edges) ∧ RetV (.int (diaI g)) H Q
theorem ok_diameter (T : Txt K mg ad) : Ok P w K mg base CX0 3 ad.f_diameter ["many", "edges"] (sp_diameter) := by
  obtain ⟨fd, F⟩ := T.F_diameter
  obtain ⟨fd_distances, G_distances, B_distances⟩ := ok_distances (P := P) (w := w) (base := base) T
  refine ⟨fd, F.ok sc_diameter (fun vs H Q E h => ?_) (fun cdv A outer s H vs Q E hr h => ?_), F.binds fun _ _ _ _ _ _ us hl => match us, hl with | [_, _], _ => rfl⟩
  · obtain ⟨_, _, rfl, _⟩ := h
    rfl
  have hu := hu_of hr
  refine ⟨_, (pss_cons (ps_set (i := 2) sc_diameter.nd rfl (by first | exact Or.inl rfl | exact Or.inr rfl) pe_int)
      (pss_cons (ps_for PassesOwn.never rfl (pi_range1 (by rfl) T.n_range (by exact (pa_cons (pv 0) pa_nil))) (pg_name (i := 3) sc_diameter.nd rfl (by first | exact Or.inl rfl | exact Or.inr rfl)) (pss_cons (ps_set (i := 4) sc_diameter.nd rfl (by first | exact Or.inl rfl | exact Or.inr rfl) (pe_call G_distances (hr.mono (by decide)) (by rfl) T.g_distances T.k_distances B_distances .nil pass0 (by exact (pa_cons (pv 0) (pa_cons (pv 1) (pa_cons (pv 3) pa_nil))))))
      (pss_cons (ps_if (pt_cmpR op_in_seq (pe_glob (v := .int (-1)) rfl T.c_FAR ⟨_, rfl⟩) (pv 4) (by rfl)) (pss_one (ps_ret (pe_glob (v := .int (-1)) rfl T.c_FAR ⟨_, rfl⟩))) pss_nil)
      (pss_one (ps_set (i := 2) sc_diameter.nd rfl (by first | exact Or.inl rfl | exact Or.inr rfl) (pe_callB (call_max2 rfl) (by rfl) T.n_max (by decide +kernel) (by exact (pa_cons (pv 2) (pa_cons (pe_callB (cr_max rfl) (by rfl) T.n_max (by decide +kernel) (by exact (pa_cons (pv 4) pa_nil))) pa_nil)))))))))
      (pss_one (ps_ret (pv 2))))), ?_⟩
  obtain ⟨e, g, rfl, W, he, q⟩ := h
  have hn5 := W.few
  refine ⟨_, rfl, g.vertexCount, rfl, by omega, by omega, ?_⟩
  refine for_range0 (n := g.vertexCount) (fun i σ H' => ∃ (v3 v4 : Option V), σ = [some (.int g.vertexCount), some (.ref e), some (.int (diaTo g i)), v3, v4] ∧ Ex H H' ∧ ∀ u < i, ∀ v < g.vertexCount, distI g u v ≠ -1)
    ⟨none, none, rfl, Ex.refl H, fun u hu => absurd hu (Nat.not_lt_zero u)⟩ ?_ ?_
  · rintro i σ H' hi ⟨v3, v4, rfl, e1, hc⟩
    refine ⟨_, rfl, _, rfl, _, rfl, e, g, i, rfl, W, he.ex e1, hi, fun r H2 hr2 e2 h2 => ?_⟩
    refine ⟨_, rfl, r, _, rfl, .inl (sl_of' h2), rfl, ints_flat _, _, rfl, ?_⟩
    show if inV (.int (-1)) ((distL g i).map V.int) = true then _ else _
    rw [inV_ints]
    by_cases hf : (-1 : Int) ∈ distL g i
    · refine if_true_of (decide_eq_true hf) ?_
      obtain ⟨v, hv, hv2⟩ := mem_distL.mp hf
      have : diaI g = -1 := by
        unfold diaI
        rw [if_neg (by rw [conn_false W hi hv hv2]; exact Bool.false_ne_true)]
      have q2 := q H2 (e1.trans e2)
      rw [this] at q2
      exact q2
    · refine if_false_of (decide_eq_false hf) ?_
      refine ⟨_, rfl, _, rfl, r, _, rfl, sl_of' h2, by rw [distL_len]; exact W.pos, fun m hm hall => ?_⟩
      refine ⟨_, _, rfl, some (.int i), some (.ref r), ?_, e1.trans e2, ?_⟩
      · rw [diaTo_step hm hall (fun y hy z => hf (z ▸ hy))]
        rfl
      · intro u hu v hv
        by_cases h : u = i
        · subst h
          exact fun z => hf (mem_distL.mpr ⟨v, hv, z⟩)
        · exact hc u (by omega) v hv
  · rintro σ H' ⟨v3, v4, rfl, e1, hc⟩
    refine ⟨_, rfl, ?_⟩
    have q2 := q H' e1
    rw [diaI_conn hc W] at q2
    exact q2
def sp_is_tree : Sp := fun vs H Q _ => ∃ (e : Addr) (g : Graph), vs = [.int g.vertexCount, .ref e] ∧ WG g ∧ TupsAt H e (prs g.edges) ∧ RetV (.bl (Ks578.isTree g)) H Q
theorem ok_is_tree (T : Txt K mg ad) : Ok P w K mg base CX0 4 ad.f_is_tree ["many", "edges"] (sp_is_tree) := by
  obtain ⟨fd, F⟩ := T.F_is_tree
  obtain ⟨fd_diameter, G_diameter, B_diameter⟩ := ok_diameter (P := P) (w := w) (base := base) T
  refine ⟨fd, F.ok sc_is_tree (fun vs H Q E h => ?_) (fun cdv A outer s H vs Q E hr h => ?_), F.binds fun _ _ _ _ _ _ us hl => match us, hl with | [_, _], _ => rfl⟩
  · obtain ⟨_, _, rfl, _⟩ := h
    rfl
  have hu := hu_of hr
  refine ⟨_, (pss_one (ps_ret (pe_and (pe_cmpR op_ne (pe_call G_diameter (hr.mono (by decide)) (by rfl) T.g_diameter T.k_diameter B_diameter .nil pass0 (by exact (pa_cons (pv 0) (pa_cons (pv 1) pa_nil)))) (pe_glob (v := .int (-1)) rfl T.c_FAR ⟨_, rfl⟩) (nomark _)) (pe_one (pe_cmpR op_eq (pe_callB call_len_seq (by rfl) T.n_len (by decide +kernel) (by exact (pa_cons (pv 1) pa_nil))) (pe_op op_sub (pv 0) pe_int) (nomark _)))))), ?_⟩
  obtain ⟨e, g, rfl, W, he, q⟩ := h
  have hn5 := W.few
  refine ⟨_, rfl, _, rfl, e, g, rfl, W, he, fun H2 e2 => ?_⟩
  refine ⟨by rfl, _, rfl, ?_⟩
  have hl := (show ∃ es, H e = some (.lst (ARefs es)) ∧ es.length = g.edges.length from let ⟨es, h1, h2⟩ := he; ⟨es, h1, by rw [Paired.length h2]; unfold prs; rw [List.length_map]⟩)
  obtain ⟨es, hes, hel⟩ := hl
  have hq := q H2 e2
  unfold Ks578.isTree at hq
  by_cases hc : Ks578.isConnected g = true
  · refine if_true_of ?_ ?_
    · unfold diaI
      rw [if_pos hc]
      simp
    · refine ⟨_, rfl, e, _, rfl, .inl (sl_of' (e2 _ _ hes)), _, rfl, _, _, rfl, rfl, rfl, ?_⟩
      show Q (V.bl (decide (V.int ((ARefs es).length : Int) = V.int ((g.vertexCount : Int) - 1)))) H2
      have : decide (V.int ((ARefs es).length : Int) = V.int ((g.vertexCount : Int) - 1)) = (g.edges.length + 1 == g.vertexCount) := by
        rw [aref_len, hel]
        by_cases z : g.edges.length + 1 = g.vertexCount
        · rw [beq_iff_eq.mpr z]
          refine decide_eq_true ?_
          congr 1
          omega
        · rw [beq_eq_false_iff_ne.mpr z]
          refine decide_eq_false fun y => z ?_
          injection y with y
          omega
      rw [this]
      rw [hc, Bool.true_and] at hq
      exact hq
  · refine if_false_of ?_ ?_
    · unfold diaI
      rw [if_neg hc]
      rfl
    · rw [Bool.eq_false_iff.mpr hc, Bool.false_and] at hq
      exact hq
theorem rg_get {α : Type} {n j : Nat} {f : Nat → α} {c : α} (h : ((List.range n).map f)[j]? = some c) : j < n ∧ c = f j := by
  rw [List.getElem?_map] at h
  cases z : (List.range n)[j]? with
  | none => rw [z] at h; cases h
  | some u =>
    have hl := (List.getElem?_eq_some_iff.mp z).1
    rw [List.length_range] at hl
    rw [List.getElem?_range hl] at h
    exact ⟨hl, (Option.some.inj h).symm⟩
theorem distI_nat {g : Graph} (W : WG g) (hc : Ks578.isConnected g = true) {u v : Nat} (hu : u < g.vertexCount) (hv : v < g.vertexCount) : distI g u v = (((Ks577.distance g u v).getD 0 : Nat) : Int) ∧ (Ks577.distance g u v).getD 0 < g.vertexCount := by
  have h1 := (conn_iff W).mp hc u hu v hv
  have h2 := distI_getD h1
  have h3 := distI_lt W (v := v) hu
  exact ⟨h2, by omega⟩
def sp_cover_number : Sp := fun vs H Q _ => ∃ (e : Addr) (g : Graph), vs = [.int g.vertexCount, .ref e] ∧ WG g ∧ TupsAt H e (prs g.edges) ∧ Ks578.isConnected g = true ∧ RetV (.int (Ks579.coverNumber g)) H Q
theorem ok_cover_number (T : Txt K mg ad) : Ok P w K mg base CX0 3 ad.f_cover_number ["many", "edges"] (sp_cover_number) := by
  obtain ⟨fd, F⟩ := T.F_cover_number
  obtain ⟨fd_two_to, G_two_to, B_two_to⟩ := ok_two_to (P := P) (w := w) (base := base) T
  obtain ⟨fd_distances, G_distances, B_distances⟩ := ok_distances (P := P) (w := w) (base := base) T
  refine ⟨fd, F.ok sc_cover_number (fun vs H Q E h => ?_) (fun cdv A outer s H vs Q E hr h => ?_), F.binds fun _ _ _ _ _ _ us hl => match us, hl with | [_, _], _ => rfl⟩
  · obtain ⟨_, _, rfl, _⟩ := h
    rfl
  have hu := hu_of hr
  refine ⟨_, (pss_one (ps_ret (pe_callB (cr_max rfl) (by rfl) T.n_max (by decide +kernel) (by exact (pa_cons (by exact (pe_lc (own := [("vertex", 3)]) rfl sc_cover_number.nd (pi_range1 (by rfl) T.n_range (by exact (pa_cons (pv 0) pa_nil))) (blkOk_by (own := [("vertex", 3)]) (N := N_cover_number) (sc := defScope s_cover_number) (by decide +kernel)) (fun _ _ _ _ _ => (pg_name (i := 3) sc_cover_number.nd rfl (by first | exact Or.inl rfl | exact Or.inr rfl))) (fun _ _ _ _ _ => pts_nil) (fun _ _ _ _ _ => (pe_callB (cr_sumK (K := K) rfl rfl) (by rfl) T.n_sum (by decide +kernel) (by exact (pa_cons (by exact (pe_lc (own := [("one", 2)]) rfl sc_cover_number.nd (pi_listK (K := K) rfl (pe_call G_distances (hr.mono (by decide)) (by rfl) T.g_distances T.k_distances B_distances .nil pass0 (by exact (pa_cons (pv 0) (pa_cons (pv 1) (pa_cons (pv 3) pa_nil)))))) (blkOk_by (own := [("one", 2)]) (N := N_cover_number)  (by rfl)) (fun _ _ _ _ _ => (pg_name (i := 2) sc_cover_number.nd rfl (by first | exact Or.inl rfl | exact Or.inr rfl))) (fun _ _ _ _ _ => pts_nil) (fun _ _ _ _ _ => (pe_call G_two_to (hr.mono (by decide)) (by rfl) T.g_two_to T.k_two_to B_two_to .nil pass0 (by exact (pa_cons (pv 2) pa_nil)))))) pa_nil)))))) pa_nil))))), ?_⟩
  obtain ⟨e, g, rfl, W, he, hcn, q⟩ := h
  have hn5 := W.few
  refine ⟨_, rfl, g.vertexCount, rfl, by omega, by omega, fun D hD => ?_⟩
  refine lc_valsR ((List.range g.vertexCount).map fun v => V.int (Ks579.coverFrom g v)) (by rw [List.length_map, List.length_range]; rfl) hD (by omega) ?_ ?_
  · intro v c H3 Qy hc e3 hq Qn
    obtain ⟨hv, rfl⟩ := rg_get hc
    refine ⟨rfl, _, rfl, _, rfl, _, rfl, e, g, v, rfl, W, he.ex e3, hv, fun r H4 hr4 e4 h4 => ?_⟩
    refine ⟨r, rfl, ⟨_, sl_of' h4⟩, fun D2 hD2 => ?_⟩
    refine lc_vals ((List.range g.vertexCount).map fun u => nV (2 ^ (Ks577.distance g v u).getD 0)) (by rw [List.length_map, List.length_range, List.length_map, distL_len]) (sl_of' h4) hD2 (by rw [List.length_map, distL_len]; omega) ?_ ?_
    · intro u x c H5 Qz hu hc2 e5 hz Qn2
      obtain ⟨hun, rfl⟩ := rg_get hc2
      rw [List.getElem?_map, distL_get hun] at hu
      obtain rfl := Option.some.inj hu
      have hd := distI_nat W hcn hv hun
      rw [hd.1]
      exact ⟨rfl, _, rfl, _, rfl, by omega, hz H5 (Ex.refl H5)⟩
    · intro H5 e5 h5
      refine ⟨D2, zI ((List.range g.vertexCount).map fun u => 2 ^ (Ks577.distance g v u).getD 0), rfl, sl_of' ?_, ?_⟩
      · rw [h5, ← nVs_zI]
        unfold nVs
        rw [List.map_map]
        rfl
      · rw [zI_sum, ← coverFrom_eq W hv]
        exact hq H5 (e4.trans e5)
  · intro H3 e3 h3
    refine ⟨D, zI ((List.range g.vertexCount).map (Ks579.coverFrom g)), rfl, sl_of' ?_, ?_, fun m hm hall => ?_⟩
    · rw [h3, ← nVs_zI]
      unfold nVs
      rw [List.map_map]
      rfl
    · unfold zI
      rw [List.length_map, List.length_map, List.length_range]
      exact W.pos
    · have : m = (Ks579.coverNumber g : Int) := by
        unfold zI at hm hall
        obtain ⟨x, hx, rfl⟩ := List.mem_map.mp hm
        unfold Ks579.coverNumber
        rw [foldl_max_eq hx fun y hy => by
          have := hall _ (List.mem_map.mpr ⟨y, hy, rfl⟩)
          omega]
      rw [this]
      exact q H3 e3
end PBW

namespace PBW
open PySem PySem.Spec PyProof.Rows L2 Evl PB
open Ks577 (Graph pebblesAt isAdjacent)
variable {P : Program} {w : World} {K : PySem.W.Frag} {mg : Str → Option Value} {base : Heap} {ad : Adr}
def bK (before : List (Nat × Nat)) : List (Key × V) := before.map fun p => (.inl (p.1 : Int), nV p.2)
def vK (vis : List Nat) : List (Key × V) := vis.map fun v : Nat => (.inl (v : Int), .bl true)
theorem inl_eq (a b : Nat) : decide ((Sum.inl (a : Int) : Key) = Sum.inl (b : Int)) = (a == b) := by
  by_cases h : a = b
  · subst h; simp
  · rw [beq_eq_false_iff_ne.mpr h]
    refine decide_eq_false fun z => h ?_
    injection z with z
    omega
theorem valV_bK (x : Nat) : ∀ before : List (Nat × Nat), valV (bK before) (.inl (x : Int)) = (lookB before x).map nV
  | [] => rfl
  | p :: r => by
    have ih := valV_bK x r
    unfold valV bK lookB at ih ⊢
    rw [List.map_cons, List.find?_cons, List.find?_cons, inl_eq]
    cases h : p.1 == x with
    | true => rfl
    | false => exact ih
theorem valV_vK (x : Nat) : ∀ vis : List Nat, valV (vK vis) (.inl (x : Int)) = if vis.contains x then some (.bl true) else none
  | [] => rfl
  | p :: r => by
    have ih := valV_vK x r
    unfold valV vK at ih ⊢
    rw [List.map_cons, List.find?_cons, inl_eq, List.contains_cons]
    cases h : p == x with
    | true =>
      rw [show (x == p) = true by rw [beq_iff_eq] at h ⊢; exact h.symm]
      rfl
    | false =>
      rw [show (x == p) = false by rw [beq_eq_false_iff_ne] at h ⊢; exact Ne.symm h, Bool.false_or]
      exact ih
theorem lookB_none (before : List (Nat × Nat)) (x : Nat) : (lookB before x).isSome = before.any fun p => p.1 == x := by
  unfold lookB
  rw [Option.isSome_map]
  induction before with
  | nil => rfl
  | cons p r ih =>
    rw [List.find?_cons, List.any_cons]
    cases h : p.1 == x with
    | true => rfl
    | false => rw [Bool.false_or]; exact ih
def sp_way_back : Sp := fun vs H Q _ => ∃ (e d : Addr) (g : Graph) (b : Nat) (vis path : List Nat), vs = [.int g.vertexCount, .ref e, .int b, .ref d] ∧ WG g ∧ TupsAt H e (prs g.edges) ∧ b < g.vertexCount ∧ H d = some (.dK (vK vis)) ∧ wayM (rowsG g) b vis = some path ∧
  Ret (fun H2 p => LstOf H2 p path) H Q
theorem ok_way_back (T : Txt K mg ad) : Ok P w K mg base CX0 2 ad.f_way_back ["many", "edges", "begin", "visited"] (sp_way_back) := by
  obtain ⟨fd, F⟩ := T.F_way_back
  obtain ⟨fd_neighbours, G_neighbours, B_neighbours⟩ := ok_neighbours (P := P) (w := w) (base := base) T
  refine ⟨fd, F.ok sc_way_back (fun vs H Q E h => ?_) (fun cdv A outer s H vs Q E hr h => ?_), F.binds fun _ _ _ _ _ _ us hl => match us, hl with | [_, _, _, _], _ => rfl⟩
  · obtain ⟨_, _, _, _, _, _, rfl, _⟩ := h
    rfl
  have hu := hu_of hr
  refine ⟨_, (pss_cons (ps_set (i := 4) sc_way_back.nd rfl (by first | exact Or.inl rfl | exact Or.inr rfl) (pe_call G_neighbours (hr.mono (by decide)) (by rfl) T.g_neighbours T.k_neighbours B_neighbours .nil pass0 (by exact (pa_cons (pv 0) (pa_cons (pv 1) pa_nil)))))
      (pss_cons (ps_set (i := 5) sc_way_back.nd rfl (by first | exact Or.inl rfl | exact Or.inr rfl) (pe_disp (pps_cons (pv 2) (pv 2) pps_nil) (by rfl) (by rfl) (fun z => by cases z) (by decide)))
      (pss_cons (ps_set (i := 6) sc_way_back.nd rfl (by first | exact Or.inl rfl | exact Or.inr rfl) (pe_lst (by exact (pa_cons (pv 2) pa_nil))))
      (pss_cons (ps_set (i := 7) sc_way_back.nd rfl (by first | exact Or.inl rfl | exact Or.inr rfl) pe_int)
      (pss_cons (ps_while PassesOwn.never (pt_cmp (pc_dnotin hu (pe_ix ix_list (pv 6) (pv 7) (fun _ _ => rfl)) (pv 3))) (pss_cons (ps_for PassesOwn.never rfl (pi_list (pe_ix ix_list (pv 4) (pe_ix ix_list (pv 6) (pv 7) (fun _ _ => rfl)) (fun _ _ => rfl))) (pg_name (i := 8) sc_way_back.nd rfl (by first | exact Or.inl rfl | exact Or.inr rfl)) (pss_one (ps_if (pt_cmp (pc_dnotin hu (pv 8) (pv 5))) (pss_cons (ps_dput hu (pv 5) (pv 8) (pe_ix ix_list (pv 6) (pv 7) (fun _ _ => rfl)) rfl)
      (pss_one (ps_expr (pe_bm PySem.F.plainAttrs_list PySem.F.slot_list_append PySem.F.type_list_append mt_append (pv 6) (by exact (pa_cons (pv 8) pa_nil)))))) pss_nil)))
      (pss_one (ps_aug (i := 7) sc_way_back.nd rfl (by first | exact Or.inl rfl | exact Or.inr rfl) pe_int ip_add))))
      (pss_cons (ps_set (i := 9) sc_way_back.nd rfl (by first | exact Or.inl rfl | exact Or.inr rfl) (pe_lst (by exact (pa_cons (pe_ix ix_list (pv 6) (pv 7) (fun _ _ => rfl)) pa_nil))))
      (pss_cons (ps_while PassesOwn.never (pt_cmpR op_ne (pe_ix ix_list (pv 9) (pe_op op_sub (pe_callB call_len_seq (by rfl) T.n_len (by decide +kernel) (by exact (pa_cons (pv 9) pa_nil))) pe_int) (fun _ _ => rfl)) (pv 2) (nomark _)) (pss_one (ps_expr (pe_bm PySem.F.plainAttrs_list PySem.F.slot_list_append PySem.F.type_list_append mt_append (pv 9) (by exact (pa_cons (pe_dget hu (pv 5) (pe_ix ix_list (pv 9) (pe_op op_sub (pe_callB call_len_seq (by rfl) T.n_len (by decide +kernel) (by exact (pa_cons (pv 9) pa_nil))) pe_int) (fun _ _ => rfl)) (fun _ _ => rfl)) pa_nil))))))
      (pss_one (ps_ret (pv 9)))))))))), ?_⟩
  obtain ⟨e, d, g, b, vis, path, rfl, W, he, hb, hd, hway, q⟩ := h
  have hn5 := W.few
  refine ⟨_, rfl, _, rfl, e, g, rfl, W, he, fun r Hr hr1 er ⟨hrows, _⟩ => ?_⟩
  obtain ⟨ra, hra, hrl, hrg⟩ := hrows.len
  rw [rowsG_length] at hrl
  -- before = {begin: begin}
  intro B hB
  refine ⟨_, rfl, _, rfl, upd_same, [(.inl (b : Int), nV b)], rfl, by show 1 ≤ 15; decide, ?_⟩
  rw [upd_upd]
  refine ⟨_, rfl, by show 1 ≤ sizeLine; exact szs (by omega), fun Wt hWt => ?_⟩
  have hW1 : Hr Wt = none := fresh_back (Ex.new hB) hWt
  have hBW : B ≠ Wt := ne_of_none upd_same hWt
  have e1 : Ex Hr (upd (upd Hr B (.dK (bK [(b, b)]))) Wt (.lst (nVs [b]))) := Ex.upd_new (Ex.new hB) hWt
  unfold wayM at hway
  cases hwl : wbLoop (rowsG g) vis 6 ([(b, b)], [b]) 0 with
  | none => rw [hwl] at hway; cases hway
  | some sx =>
  obtain ⟨⟨bef, wt⟩, x⟩ := sx
  rw [hwl] at hway
  simp only at hway
  refine ⟨fun m σ H' => ∃ (before : List (Nat × Nat)) (wait : List Nat) (i : Nat) (v8 v9 : Option V), σ = [some (.int g.vertexCount), some (.ref e), some (.int b), some (.ref d), some (.ref r), some (.ref B), some (.ref Wt), some (.int i), v8, v9] ∧ Ex Hr H' ∧ H' B = some (.dK (bK before)) ∧ LstOf H' Wt wait ∧
      wbLoop (rowsG g) vis m (before, wait) i = some ((bef, wt), x) ∧ (∀ v ∈ wait, v < g.vertexCount) ∧ wait.length + 5 * m ≤ 31 ∧ before.length = wait.length,
    ⟨6, [(b, b)], [b], 0, none, none, rfl, e1, ?_, upd_same, hwl, ?_, by simp, rfl⟩, ?_⟩
  · show upd _ Wt _ B = _
    rw [upd_ne hBW]
    exact upd_same
  · intro v hv
    rw [List.mem_singleton.mp hv]
    exact hb
  rintro m σ H' ⟨before, wait, i, v8, v9, rfl, eH, hBe, hWa, hwb, hlt, hfu, hbl⟩
  cases m with
  | zero => cases hwb
  | succ m =>
  unfold wbLoop at hwb
  simp only at hwb
  cases hwi : wait[i]? with
  | none => rw [hwi] at hwb; cases hwb
  | some u =>
  rw [hwi] at hwb
  simp only at hwb
  have hun := hlt u (List.mem_of_getElem? hwi)
  refine ⟨_, rfl, _, rfl, Wt, _, _, _, rfl, rfl, sl_of' hWa, atI_nat (nVs_get hwi), _, rfl, d, _, rfl, DGet.k (k := .inl (u : Int)) (eH _ _ (er _ _ hd)), _, rfl, ?_⟩
  rw [valV_vK]
  cases hvc : vis.contains u with
  | false =>
    rw [hvc, if_neg Bool.false_ne_true] at hwb
    rw [if_neg Bool.false_ne_true]
    refine if_true_of rfl ⟨fun σ' H' => ∃ m', m' < m + 1 ∧ _, fun _ _ h => h, ?_⟩
    obtain ⟨bu, hbu, hbu2⟩ := hrg u _ (rowsG_get hun)
    have hbn := nbrs_length g u
    have hgd : (rowsG g).getD u [] = nbrs g u := by rw [List.getD_eq_getElem?_getD, rowsG_get hun]; rfl
    rw [hgd] at hwb
    refine ⟨_, rfl, _, rfl, _, rfl, Wt, _, _, _, rfl, rfl, sl_of' hWa, atI_nat (nVs_get hwi), r, _, _, _, rfl, rfl, sl_of' (eH _ _ hra), atI_nat (aref_get hbu), bu, rfl, ⟨_, sl_of' (eH _ _ hbu2)⟩, ?_⟩
    refine for_list (a := bu) (xs := nVs (nbrs g u)) (fun k σ H' => ∃ (bef2 : List (Nat × Nat)) (wt2 : List Nat) (v8 : Option V), σ = [some (.int g.vertexCount), some (.ref e), some (.int b), some (.ref d), some (.ref r), some (.ref B), some (.ref Wt), some (.int i), v8, v9] ∧ Ex Hr H' ∧ H' B = some (.dK (bK bef2)) ∧ LstOf H' Wt wt2 ∧
        (bef2, wt2) = ((nbrs g u).take k).foldl (wbIn u) (before, wait) ∧ (∀ v ∈ wt2, v < g.vertexCount) ∧ wt2.length ≤ wait.length + k ∧ bef2.length = wt2.length ∧ wt2[i]? = some u)
      ⟨before, wait, v8, rfl, eH, hBe, hWa, rfl, hlt, Nat.le_refl _, hbl, hwi⟩ (fun k σ H' _ p => let ⟨_, _, _, _, eH, _⟩ := p; sl_of' (eH _ _ hbu2)) ?_ ?_
    · rintro k y σ H' hk ⟨bef2, wt2, v8, rfl, eH, hBe, hWa, hst, hlt, hle, hbl, hwi⟩
      obtain ⟨x, hx, rfl⟩ := nVs_of hk
      have hkl := (List.getElem?_eq_some_iff.mp hx).1
      have hxn := (adj_lt W ((mem_nbrs W).mp (List.mem_of_getElem? hx))).2.1
      have hst2 : ((nbrs g u).take (k + 1)).foldl (wbIn u) (before, wait) = wbIn u (bef2, wt2) x := by
        rw [take_snoc hx, List.foldl_append, ← hst]
        rfl
      refine ⟨_, rfl, _, rfl, B, _, rfl, DGet.k (k := .inl (x : Int)) hBe, _, rfl, ?_⟩
      rw [valV_bK, Option.isSome_map, lookB_none]
      unfold wbIn at hst2
      simp only at hst2
      cases hany : bef2.any fun p => p.1 == x with
      | false =>
        rw [hany, if_neg Bool.false_ne_true] at hst2
        refine if_true_of rfl ?_
        refine ⟨_, rfl, _, rfl, Wt, _, _, _, rfl, rfl, sl_of' hWa, atI_nat (nVs_get hwi), _, rfl, _, rfl, B, _, rfl, DPut.k (k := .inl (x : Int)) hBe (by unfold bK; rw [List.length_map]; exact szl (by omega)), ?_⟩
        have hnone : valV (bK bef2) (.inl (x : Int)) = none := by
          rw [valV_bK, Option.map_eq_none_iff, ← Option.isNone_iff_eq_none, ← Option.not_isSome, lookB_none, hany]
          exact rfl
        rw [putK_new _ hnone]
        have hWa2 : (upd H' B (.dK (bK bef2 ++ [(.inl (x : Int), nV u)]))) Wt = some (.lst (nVs wt2)) := by rw [upd_ne (Ne.symm hBW)]; exact hWa
        refine ⟨_, rfl, .inl ⟨rfl, _, sl_of' hWa2⟩, _, rfl, Wt, _, _, rfl, rfl, hWa2, by rw [nVs_len]; exact szl (by omega), ?_⟩
        refine ⟨bef2 ++ [(x, u)], wt2 ++ [x], some (nV x), rfl, Ex.mut (Ex.mut eH hB) hW1, ?_, ?_, hst2.symm, ?_, ?_, ?_, ?_⟩
        · show upd _ Wt _ B = _
          rw [upd_ne hBW, upd_same]
          unfold bK
          rw [List.map_append]
          rfl
        · show upd _ Wt _ Wt = _
          rw [upd_same, nVs_app]
          rfl
        · intro v hv
          rcases List.mem_append.mp hv with hv | hv
          · exact hlt v hv
          · rw [List.mem_singleton.mp hv]; exact hxn
        · rw [List.length_append]
          simp only [List.length_cons, List.length_nil]
          omega
        · rw [List.length_append, List.length_append, hbl]
          rfl
        · rw [List.getElem?_append_left (List.getElem?_eq_some_iff.mp hwi).1]
          exact hwi
      | true =>
        rw [hany, if_pos rfl] at hst2
        refine if_false_of rfl ?_
        exact ⟨bef2, wt2, some (nV x), rfl, eH, hBe, hWa, hst2.symm, hlt, by omega, hbl, hwi⟩
    · rintro σ H' ⟨bef2, wt2, v8, rfl, eH, hBe, hWa, hst, hlt, hle, hbl, hwi⟩
      rw [nVs_len] at hle hst
      rw [List.take_length] at hst
      rw [← hst] at hwb
      exact ⟨_, rfl, _, _, rfl, rfl, m, Nat.lt_succ_self _, bef2, wt2, i + 1, v8, v9, rfl, eH, hBe, hWa, hwb, hlt, by omega, hbl⟩
  | true =>
    rw [hvc, if_pos rfl] at hwb
    rw [if_pos rfl]
    refine if_false_of rfl ?_
    obtain ⟨⟨rfl, rfl⟩, rfl⟩ : (before = bef ∧ wait = wt) ∧ u = x := by
      injection hwb with z
      injection z with z1 z2
      injection z1 with z3 z4
      exact ⟨⟨z3, z4⟩, z2⟩
    refine ⟨_, rfl, _, rfl, Wt, _, _, _, rfl, rfl, sl_of' hWa, atI_nat (nVs_get hwi), by show 1 ≤ sizeLine; exact szs (by omega), fun Fo hFo => ?_⟩
    have hF1 : H Fo = none := fresh_back (er.trans eH) hFo
    have hBF : B ≠ Fo := ne_of_none hBe hFo
    refine ⟨fun m σ H2 => ∃ (found : List Nat) (x : Nat), σ = [some (.int g.vertexCount), some (.ref e), some (.int b), some (.ref d), some (.ref r), some (.ref B), some (.ref Wt), some (.int i), v8, some (.ref Fo)] ∧ Ex H H2 ∧ H2 B = some (.dK (bK before)) ∧ LstOf H2 Fo found ∧
        wbBack before b m found x = some path ∧ found[found.length - 1]? = some x ∧ found.length + m ≤ 7,
      ⟨6, [u], u, rfl, Ex.upd_new (er.trans eH) hFo, by rw [upd_ne hBF]; exact hBe, upd_same, hway, rfl, by simp⟩, ?_⟩
    rintro m σ H2 ⟨found, x, rfl, eH2, hBe2, hFo2, hbk, hfx, hfl⟩
    cases m with
    | zero => cases hbk
    | succ m =>
    have hfl0 := (List.getElem?_eq_some_iff.mp hfx).1
    have hlast : atI (nVs found) (((nVs found).length : Int) - 1) = some (nV x) := by
      rw [nVs_len, show ((found.length : Int) - 1) = ((found.length - 1 : Nat) : Int) by omega]
      exact atI_nat (nVs_get hfx)
    refine ⟨_, rfl, _, rfl, Fo, _, rfl, .inl (sl_of' hFo2), _, _, rfl, rfl, Fo, _, _, _, rfl, rfl, sl_of' hFo2, hlast, _, rfl, rfl, _, rfl, ?_⟩
    unfold wbBack at hbk
    cases hxb : x == b with
    | true =>
      rw [hxb, if_pos rfl] at hbk
      rw [beq_iff_eq] at hxb
      refine if_false_of (by rw [hxb]; simp) ?_
      refine ⟨_, rfl, q Fo H2 hF1 eH2 ?_⟩
      obtain rfl := Option.some.inj hbk
      exact hFo2
    | false =>
      rw [hxb, if_neg Bool.false_ne_true] at hbk
      rw [beq_eq_false_iff_ne] at hxb
      refine if_true_of ?_ ⟨fun σ' H' => ∃ m', m' < m + 1 ∧ _, fun _ _ h => h, ?_⟩
      · rw [decide_eq_false]
        · rfl
        · intro z
          injection z with z
          omega
      cases hlk : lookB before x with
      | none => rw [hlk] at hbk; cases hbk
      | some y =>
      rw [hlk] at hbk
      simp only at hbk
      refine ⟨_, rfl, .inl ⟨rfl, _, sl_of' hFo2⟩, _, rfl, _, rfl, _, rfl, Fo, _, rfl, .inl (sl_of' hFo2), _, _, rfl, rfl, Fo, _, _, _, rfl, rfl, sl_of' hFo2, hlast, B, nV y, rfl, ?_, ?_⟩
      · have := DGet.k (k := .inl (x : Int)) hBe2
        rw [valV_bK, hlk] at this
        exact this
      · refine ⟨Fo, _, _, rfl, rfl, hFo2, by rw [nVs_len]; exact szl (by omega), m, Nat.lt_succ_self _, found ++ [y], y, rfl, Ex.mut eH2 hF1, by rw [upd_ne hBF]; exact hBe2, ?_, hbk, ?_, ?_⟩
        · show upd _ Fo _ Fo = _
          rw [upd_same, nVs_app]
          rfl
        · simp
        · rw [List.length_append]
          simp only [List.length_cons, List.length_nil]
          omega
theorem wbBack_len (before : List (Nat × Nat)) (b : Nat) : ∀ (fuel : Nat) (found : List Nat) (x : Nat) (path : List Nat), found.length + fuel ≤ 7 → wbBack before b fuel found x = some path → path.length ≤ 7
  | 0, _, _, _, _, h => nomatch h
  | fuel + 1, found, x, path, hl, h => by
    unfold wbBack at h
    split at h
    · rw [← Option.some.inj h]; omega
    · split at h
      · cases h
      · refine wbBack_len before b fuel _ _ path ?_ h
        rw [List.length_append]
        simp only [List.length_cons, List.length_nil]
        omega
theorem wayM_len {rows : List (List Nat)} {b : Nat} {vis path : List Nat} (h : wayM rows b vis = some path) : path.length ≤ 7 := by
  unfold wayM at h
  split at h
  · cases h
  · exact wbBack_len _ _ _ _ _ _ (by simp) h
theorem vK_put (vis : List Nat) (v : Nat) : putK (vK vis) (.inl (v : Int)) (.bl true) = vK (if vis.contains v then vis else vis ++ [v]) := by
  cases h : vis.contains v with
  | false =>
    rw [putK_new _ (by rw [valV_vK, h]; exact if_neg Bool.false_ne_true), if_neg Bool.false_ne_true]
    unfold vK
    rw [List.map_append]
    rfl
  | true =>
    rw [if_pos rfl]
    unfold putK
    rw [if_pos (by rw [valV_any, valV_vK, h]; rfl)]
    unfold vK
    rw [List.map_map]
    refine List.map_congr_left fun u _ => ?_
    show (if _ then _ else _) = _
    split
    · rfl
    · rfl
theorem addAll_snoc (vis l : List Nat) (v : Nat) : addAll vis (l ++ [v]) = if (addAll vis l).contains v then addAll vis l else addAll vis l ++ [v] := by
  unfold addAll
  rw [List.foldl_append]
  rfl
theorem addAll_len : ∀ (l vis : List Nat), (addAll vis l).length ≤ vis.length + l.length
  | [], _ => Nat.le_refl _
  | v :: r, vis => by
    have ih := addAll_len r (if vis.contains v then vis else vis ++ [v])
    show (addAll (if vis.contains v then vis else vis ++ [v]) r).length ≤ _
    rw [List.length_cons]
    have : (if vis.contains v then vis else vis ++ [v]).length ≤ vis.length + 1 := by
      split
      · omega
      · rw [List.length_append]; exact Nat.le_refl _
    omega
theorem drop_range {n k : Nat} (h : k < n) : (List.range n).drop k = k :: (List.range n).drop (k + 1) := by
  rw [List.drop_eq_getElem_cons (by rw [List.length_range]; exact h), List.getElem_range]
def sp_path_lengths : Sp := fun vs H Q _ => ∃ (e : Addr) (g : Graph) (t : Nat) (ls : List Nat), vs = [.int g.vertexCount, .ref e, .int t] ∧ WG g ∧ TupsAt H e (prs g.edges) ∧ t < g.vertexCount ∧ plLoop (rowsG g) g.vertexCount 6 [t] [] = some ls ∧
  Ret (fun H2 p => LstOf H2 p ls ∧ ls.length ≤ 6) H Q
theorem ok_path_lengths (T : Txt K mg ad) : Ok P w K mg base CX0 3 ad.f_path_lengths ["many", "edges", "target"] (sp_path_lengths) := by
  obtain ⟨fd, F⟩ := T.F_path_lengths
  obtain ⟨fd_way_back, G_way_back, B_way_back⟩ := ok_way_back (P := P) (w := w) (base := base) T
  refine ⟨fd, F.ok sc_path_lengths (fun vs H Q E h => ?_) (fun cdv A outer s H vs Q E hr h => ?_), F.binds fun _ _ _ _ _ _ us hl => match us, hl with | [_, _, _], _ => rfl⟩
  · obtain ⟨_, _, _, _, rfl, _⟩ := h
    rfl
  have hu := hu_of hr
  refine ⟨_, (pss_cons (ps_set (i := 3) sc_path_lengths.nd rfl (by first | exact Or.inl rfl | exact Or.inr rfl) (pe_disp (pps_cons (pv 2) pe_bl pps_nil) (by rfl) (by rfl) (fun z => by cases z) (by decide)))
      (pss_cons (ps_set (i := 4) sc_path_lengths.nd rfl (by first | exact Or.inl rfl | exact Or.inr rfl) (pe_lst pa_nil))
      (pss_cons (ps_while PassesOwn.never (pt_cmpR op_lt (pe_callB call_lenD (by rfl) T.n_len (by decide +kernel) (by exact (pa_cons (pv 3) pa_nil))) (pv 0) (nomark _)) (pss_cons (ps_set (i := 5) sc_path_lengths.nd rfl (by first | exact Or.inl rfl | exact Or.inr rfl) (pe_lst pa_nil))
      (pss_cons (ps_for PassesOwn.never rfl (pi_range1 (by rfl) T.n_range (by exact (pa_cons (pv 0) pa_nil))) (pg_name (i := 6) sc_path_lengths.nd rfl (by first | exact Or.inl rfl | exact Or.inr rfl)) (pss_one (ps_if (pt_cmp (pc_dnotin hu (pv 6) (pv 3))) (pss_cons (ps_set (i := 7) sc_path_lengths.nd rfl (by first | exact Or.inl rfl | exact Or.inr rfl) (pe_call G_way_back (hr.mono (by decide)) (by rfl) T.g_way_back T.k_way_back B_way_back .nil pass0 (by exact (pa_cons (pv 0) (pa_cons (pv 1) (pa_cons (pv 6) (pa_cons (pv 3) pa_nil)))))))
      (pss_one (ps_if (pt_cmpR op_gt (pe_callB call_len_seq (by rfl) T.n_len (by decide +kernel) (by exact (pa_cons (pv 7) pa_nil))) (pe_callB call_len_seq (by rfl) T.n_len (by decide +kernel) (by exact (pa_cons (pv 5) pa_nil))) (nomark _)) (pss_one (ps_set (i := 5) sc_path_lengths.nd rfl (by first | exact Or.inl rfl | exact Or.inr rfl) (pv 7))) pss_nil))) pss_nil)))
      (pss_cons (ps_expr (pe_bm PySem.F.plainAttrs_list PySem.F.slot_list_append PySem.F.type_list_append mt_append (pv 4) (by exact (pa_cons (pe_op op_sub (pe_callB call_len_seq (by rfl) T.n_len (by decide +kernel) (by exact (pa_cons (pv 5) pa_nil))) pe_int) pa_nil))))
      (pss_one (ps_for PassesOwn.never rfl (pi_list (pv 5)) (pg_name (i := 6) sc_path_lengths.nd rfl (by first | exact Or.inl rfl | exact Or.inr rfl)) (pss_one (ps_dput hu (pv 3) (pv 6) pe_bl rfl))))))))
      (pss_one (ps_ret (pv 4)))))), ?_⟩
  obtain ⟨e, g, t, ls, rfl, W, he, ht, hpl, q⟩ := h
  have hn5 := W.few
  intro Vd hVd
  refine ⟨_, rfl, upd_same, [(.inl (t : Int), .bl true)], rfl, by show 1 ≤ 15; decide, ?_⟩
  rw [upd_upd]
  refine ⟨by show 0 ≤ sizeLine; exact Nat.zero_le _, fun Fo hFo => ?_⟩
  have hF1 : H Fo = none := fresh_back (Ex.new hVd) hFo
  have hVF : Vd ≠ Fo := ne_of_none upd_same hFo
  refine ⟨fun m σ H' => ∃ (vis found : List Nat) (v5 v6 v7 : Option V), σ = [some (.int g.vertexCount), some (.ref e), some (.int t), some (.ref Vd), some (.ref Fo), v5, v6, v7] ∧ Ex H H' ∧ H' Vd = some (.dK (vK vis)) ∧ LstOf H' Fo found ∧
      plLoop (rowsG g) g.vertexCount m vis found = some ls ∧ found.length + m ≤ 6,
    ⟨6, [t], [], none, none, none, rfl, Ex.upd_new (Ex.new hVd) hFo, by rw [upd_ne hVF]; exact upd_same, upd_same, hpl, by simp⟩, ?_⟩
  rintro m σ H' ⟨vis, found, v5, v6, v7, rfl, eH, hV, hFo2, hpl, hfl⟩
  cases m with
  | zero => cases hpl
  | succ m =>
  unfold plLoop at hpl
  refine ⟨_, rfl, Vd, _, rfl, hV, _, rfl, _, _, rfl, rfl, _, rfl, ?_⟩
  by_cases hvl : vis.length < g.vertexCount
  · refine if_true_of (decide_eq_true (by unfold vK; rw [List.length_map]; omega)) ⟨fun σ' H' => ∃ m', m' < m + 1 ∧ _, fun _ _ h => h, ?_⟩
    rw [if_pos hvl] at hpl
    cases hbest : plBest (rowsG g) vis (List.range g.vertexCount) [] with
    | none => rw [hbest] at hpl; cases hpl
    | some bst =>
    rw [hbest] at hpl
    simp only at hpl
    refine ⟨by show 0 ≤ sizeLine; exact Nat.zero_le _, fun B0 hB0 => ?_⟩
    have hFB0 : Fo ≠ B0 := ne_of_none hFo2 hB0
    refine ⟨_, rfl, g.vertexCount, rfl, by omega, by omega, ?_⟩
    refine for_range0 (n := g.vertexCount) (fun k σ H' => ∃ (Bs : Addr) (best : List Nat) (v6 v7 : Option V), σ = [some (.int g.vertexCount), some (.ref e), some (.int t), some (.ref Vd), some (.ref Fo), some (.ref Bs), v6, v7] ∧ Ex H H' ∧ H' Vd = some (.dK (vK vis)) ∧ LstOf H' Fo found ∧
        LstOf H' Bs best ∧ Fo ≠ Bs ∧ best.length ≤ 7 ∧ plBest (rowsG g) vis ((List.range g.vertexCount).drop k) best = some bst)
      ⟨B0, [], v6, v7, rfl, Ex.upd_new eH hB0, by rw [upd_ne (ne_of_none hV hB0)]; exact hV, by show upd _ B0 _ Fo = _; rw [upd_ne hFB0]; exact hFo2, upd_same, hFB0, by simp, hbest⟩ ?_ ?_
    · rintro k σ H' hk ⟨Bs, best, v6, v7, rfl, eH, hV, hFo2, hBs, hFB, hbl, hb⟩
      rw [drop_range hk] at hb
      unfold plBest at hb
      refine ⟨_, rfl, _, rfl, Vd, _, rfl, DGet.k (k := .inl (k : Int)) hV, _, rfl, ?_⟩
      rw [valV_vK]
      cases hvc : vis.contains k with
      | true =>
        rw [hvc, if_pos rfl] at hb
        rw [if_pos rfl]
        exact if_false_of rfl ⟨Bs, best, some (nV k), v7, rfl, eH, hV, hFo2, hBs, hFB, hbl, hb⟩
      | false =>
        rw [hvc, if_neg Bool.false_ne_true] at hb
        rw [if_neg Bool.false_ne_true]
        cases hw : wayM (rowsG g) k vis with
        | none => rw [hw] at hb; cases hb
        | some path =>
        rw [hw] at hb
        simp only at hb
        have hpl7 := wayM_len hw
        refine if_true_of rfl ⟨_, rfl, _, rfl, _, rfl, _, rfl, e, Vd, g, k, vis, path, rfl, W, he.ex eH, hk, hV, hw, fun p H2 hp e2 h2 => ?_⟩
        refine ⟨_, rfl, p, _, rfl, .inl (sl_of' h2), _, rfl, Bs, _, rfl, .inl (sl_of' (e2 _ _ hBs)), _, _, rfl, rfl, _, rfl, ?_⟩
        by_cases hl : best.length < path.length
        · rw [if_pos hl] at hb
          refine if_true_of (decide_eq_true (by rw [nVs_len, nVs_len]; omega)) ?_
          exact ⟨_, rfl, p, path, some (nV k), some (.ref p), rfl, eH.trans e2, e2 _ _ hV, e2 _ _ hFo2, h2, ne_of_none hFo2 hp, hpl7, hb⟩
        · rw [if_neg hl] at hb
          refine if_false_of (decide_eq_false (by rw [nVs_len, nVs_len]; omega)) ?_
          exact ⟨Bs, best, some (nV k), some (.ref p), rfl, eH.trans e2, e2 _ _ hV, e2 _ _ hFo2, e2 _ _ hBs, hFB, hbl, hb⟩
    · rintro σ H' ⟨Bs, best, v6, v7, rfl, eH, hV, hFo2, hBs, hFB, hbl, hb⟩
      rw [List.drop_of_length_le (by rw [List.length_range]; exact Nat.le_refl _)] at hb
      unfold plBest at hb
      obtain rfl := Option.some.inj hb
      cases hbe : best.isEmpty with
      | true => rw [hbe, if_pos rfl] at hpl; cases hpl
      | false =>
      rw [hbe, if_neg Bool.false_ne_true] at hpl
      have hb1 : 1 ≤ best.length := by
        cases best with
        | nil => cases hbe
        | cons a r => rw [List.length_cons]; omega
      refine ⟨_, rfl, .inl ⟨rfl, _, sl_of' hFo2⟩, _, rfl, Bs, _, rfl, .inl (sl_of' hBs), _, _, rfl, rfl, Fo, _, _, rfl, rfl, hFo2, by rw [nVs_len]; exact szl (by omega), ?_⟩
      have hVF2 : Vd ≠ Fo := hVF
      have hBs2 : LstOf (upd H' Fo (.lst (nVs found ++ [V.int (((nVs best).length : Int) - 1)]))) Bs best := by
        show upd _ Fo _ Bs = _
        rw [upd_ne (Ne.symm hFB)]
        exact hBs
      refine ⟨_, rfl, Bs, rfl, ⟨_, sl_of' hBs2⟩, ?_⟩
      refine for_list (a := Bs) (xs := nVs best) (fun k σ H' => ∃ (v6 v7 : Option V), σ = [some (.int g.vertexCount), some (.ref e), some (.int t), some (.ref Vd), some (.ref Fo), some (.ref Bs), v6, v7] ∧ Ex H H' ∧ H' Vd = some (.dK (vK (addAll vis (best.take k)))) ∧ LstOf H' Fo (found ++ [best.length - 1]) ∧ LstOf H' Bs best)
        ⟨v6, v7, rfl, Ex.mut eH hF1, by rw [upd_ne hVF]; exact hV, ?_, hBs2⟩ (fun k σ H' _ p => let ⟨_, _, _, _, _, _, z⟩ := p; sl_of' z) ?_ ?_
      · show upd _ Fo _ Fo = _
        rw [upd_same, nVs_app, nVs_len]
        show some (HO.lst (nVs found ++ [V.int ((best.length : Int) - 1)])) = _
        rw [show ((best.length : Int) - 1) = ((best.length - 1 : Nat) : Int) by omega]
        rfl
      · rintro k y σ H' hk ⟨v6, v7, rfl, eH, hV, hFo2, hBs⟩
        obtain ⟨x, hx, rfl⟩ := nVs_of hk
        have hal := addAll_len (best.take k) vis
        have htl : (best.take k).length ≤ best.length := List.length_take_le' _ _
        refine ⟨_, rfl, _, rfl, Vd, _, rfl, DPut.k (k := .inl (x : Int)) hV (by unfold vK; rw [List.length_map]; exact szl (by omega)), ?_⟩
        refine ⟨some (nV x), v7, rfl, Ex.mut eH hVd, ?_, by show upd _ Vd _ Fo = _; rw [upd_ne (Ne.symm hVF)]; exact hFo2, ?_⟩
        · rw [upd_same, vK_put, take_snoc hx, addAll_snoc]
        · show upd _ Vd _ Bs = _
          rw [upd_ne (ne_of hBs hV (fun z => nomatch z))]
          exact hBs
      · rintro σ H' ⟨v6, v7, rfl, eH, hV, hFo2, hBs⟩
        rw [nVs_len, List.take_length] at hV
        exact ⟨m, Nat.lt_succ_self _, addAll vis best, found ++ [best.length - 1], _, v6, v7, rfl, eH, hV, hFo2, hpl, by rw [List.length_append]; simp only [List.length_cons, List.length_nil]; omega⟩
  · refine if_false_of (decide_eq_false (by unfold vK; rw [List.length_map]; omega)) ?_
    rw [if_neg hvl] at hpl
    obtain rfl := Option.some.inj hpl
    exact ⟨_, rfl, q Fo H' hF1 eH ⟨hFo2, by omega⟩⟩
end PBW

namespace PBW
open PySem PySem.Spec PyProof.Rows L2 Evl PB
open Ks577 (Graph pebblesAt isAdjacent)
variable {P : Program} {w : World} {K : PySem.W.Frag} {mg : Str → Option Value} {base : Heap} {ad : Adr}
/-! ### how many configurations -/
def enc13 : List Nat → Nat
  | [] => 0
  | a :: r => a + 13 * enc13 r
theorem enc13_lt : ∀ (n : Nat) (d : List Nat), d.length = n → d.sum ≤ 12 → enc13 d < 13 ^ n
  | 0, [], _, _ => Nat.one_pos
  | n + 1, a :: r, hl, hs => by
    rw [List.sum_cons] at hs
    have := enc13_lt n r (by simpa using hl) (by omega)
    unfold enc13
    rw [Nat.pow_succ]
    omega
theorem enc13_inj : ∀ {d d' : List Nat}, d.length = d'.length → d.sum ≤ 12 → d'.sum ≤ 12 → enc13 d = enc13 d' → d = d'
  | [], [], _, _, _, _ => rfl
  | a :: r, a' :: r', hl, h1, h2, h => by
    rw [List.sum_cons] at h1 h2
    unfold enc13 at h
    have e : a = a' := by omega
    have e2 : enc13 r = enc13 r' := by omega
    rw [e, enc13_inj (by simpa using hl) (by omega) (by omega) e2]
theorem few_cfgs {n : Nat} (hn : n ≤ 5) {L : List (List Nat)} (nd : L.Nodup) (h : ∀ d ∈ L, d.length = n ∧ d.sum ≤ 12) : L.length ≤ 371293 := by
  have h1 : (L.map enc13).Nodup := by
    unfold List.Nodup
    rw [List.pairwise_map]
    refine nd.imp_of_mem fun {a b} ha hb hab z => hab (enc13_inj ((h a ha).1.trans (h b hb).1.symm) (h a ha).2 (h b hb).2 z)
  have h2 := nodup_le (L := List.range 371293) h1 fun x hx => by
    obtain ⟨d, hd, rfl⟩ := List.mem_map.mp hx
    have h3 := enc13_lt n d (h d hd).1 (h d hd).2
    have h4 : 13 ^ n ≤ 13 ^ 5 := Nat.pow_le_pow_right (by omega) hn
    exact List.mem_range.mpr (by omega)
  rw [List.length_map, List.length_range] at h2
  exact h2
/-! ### the dict of steps -/
def kT (d : List Nat) : List Key := d.map fun n : Nat => Sum.inl (n : Int)
theorem kT_V (d : List Nat) : (kT d).map kV = nVs d := by unfold kT nVs; rw [List.map_map]; rfl
theorem kT_inj : ∀ {d d' : List Nat}, kT d = kT d' → d = d'
  | [], [], _ => rfl
  | [], _ :: _, h => nomatch h
  | _ :: _, [], h => nomatch h
  | a :: r, a' :: r', h => by
    unfold kT at h
    rw [List.map_cons, List.map_cons] at h
    injection h with h1 h2
    injection h1 with h1
    rw [show a = a' by omega, kT_inj h2]
def sK (s : Nat) (L : List (List Nat)) : List (List Key × V) := L.map fun d => (kT d, .int ((s : Int) - (d.sum : Nat)))
theorem valV_sK (s : Nat) (d : List Nat) : ∀ L : List (List Nat), valV (sK s L) (kT d) = if d ∈ L then some (.int ((s : Int) - (d.sum : Nat))) else none
  | [] => by simp [sK, valV]
  | e :: r => by
    have ih := valV_sK s d r
    unfold valV sK at ih ⊢
    rw [List.map_cons, List.find?_cons]
    by_cases h : d = e
    · subst h
      simp
    · rw [decide_eq_false (fun z : kT e = kT d => h (kT_inj z).symm)]
      simp only
      rw [ih]
      simp [h]
theorem sK_len (s : Nat) (L : List (List Nat)) : (sK s L).length = L.length := by unfold sK; rw [List.length_map]
theorem sK_app (s : Nat) (L M : List (List Nat)) : sK s (L ++ M) = sK s L ++ sK s M := by unfold sK; rw [List.map_append]
theorem tup_upd {H : Hp} {q l : Addr} {x : List Nat} {u o : HO} (h : TupOf H q x) (hl : H l = some u) (hu : ∀ xs, HO.tup xs ≠ u) : TupOf (upd H l o) q x := by
  show upd H l o q = _
  rw [upd_ne (ne_of h hl (hu _))]
  exact h
theorem tups_upd {H : Hp} {as : List Addr} {cs : List (List Nat)} {l : Addr} {u o : HO} (hl : H l = some u) (hu : ∀ xs, HO.tup xs ≠ u) (h : Paired (TupOf H) as cs) : Paired (TupOf (upd H l o)) as cs := Paired.mapP h fun a c q => tup_upd q hl hu
/-- the dict of steps, locked -/
structure StepsAt (H : Hp) (p : Addr) (g : Graph) (b : Bool) (c : List Nat) (L : List (List Nat)) : Prop where
  at_ : ∃ od, H p = some (.frz od (.dT (sK c.sum L)))
  ok : StepsOk g b c L
  few : L.length ≤ 371293
theorem StepsAt.ex {H H' : Hp} {p : Addr} {g : Graph} {b : Bool} {c : List Nat} {L : List (List Nat)} (h : StepsAt H p g b c L) (e : Ex H H') : StepsAt H' p g b c L := ⟨let ⟨od, z⟩ := h.at_; ⟨od, e _ _ z⟩, h.ok, h.few⟩
theorem closed_all {succ : List Nat → List (List Nat)} {c : List Nat} {L : List (List Nat)} (hc : c ∈ L) (h : ∀ x ∈ L, ∀ y ∈ succ x, y ∈ L) : ∀ (k : Nat) {d : List Nat}, RN succ c k d → d ∈ L
  | 0, d, e => by
    have e : d = c := e
    rw [e]
    exact hc
  | k + 1, d, e => let ⟨x, h1, h2⟩ := e; h x (closed_all hc h k h1) d h2
def sp_steps_from : Sp := fun vs H Q _ => ∃ (r a : Addr) (g : Graph) (c : List Nat) (b : Bool), vs = [.ref r, .ref a, .bl b] ∧ WG g ∧ RowsAt H r (rowsG g) ∧ TupOf H a c ∧ c.length = g.vertexCount ∧ c.sum ≤ 12 ∧
  Ret (fun H2 p => ∃ L, StepsAt H2 p g b c L) H Q
theorem ok_steps_from (T : Txt K mg ad) : Ok P w K mg base CX0 4 ad.f_steps_from ["rows", "pebbles", "rubbling"] (sp_steps_from) := by
  obtain ⟨fd, F⟩ := T.F_steps_from
  obtain ⟨fd_behind, G_behind, B_behind⟩ := ok_behind (P := P) (w := w) (base := base) T
  refine ⟨fd, F.ok sc_steps_from (fun vs H Q E h => ?_) (fun cdv A outer s H vs Q E hr h => ?_), F.binds fun _ _ _ _ _ _ us hl => match us, hl with | [_, _, _], _ => rfl⟩
  · obtain ⟨_, _, _, _, _, rfl, _⟩ := h
    rfl
  have hu := hu_of hr
  refine ⟨_, (pss_cons (ps_set (i := 3) sc_steps_from.nd rfl (by first | exact Or.inl rfl | exact Or.inr rfl) (pe_dispT hu (pv 1) pe_int))
      (pss_cons (ps_set (i := 4) sc_steps_from.nd rfl (by first | exact Or.inl rfl | exact Or.inr rfl) (pe_lst (by exact (pa_cons (pv 1) pa_nil))))
      (pss_cons (ps_set (i := 5) sc_steps_from.nd rfl (by first | exact Or.inl rfl | exact Or.inr rfl) pe_int)
      (pss_cons (ps_while PassesOwn.never (pt_cmpR op_lt (pv 5) (pe_callB call_len_seq (by rfl) T.n_len (by decide +kernel) (by exact (pa_cons (pv 4) pa_nil))) (nomark _)) (pss_cons (ps_set (i := 6) sc_steps_from.nd rfl (by first | exact Or.inl rfl | exact Or.inr rfl) (pe_ix ix_list (pv 4) (pv 5) (fun _ _ => rfl)))
      (pss_cons (ps_aug (i := 5) sc_steps_from.nd rfl (by first | exact Or.inl rfl | exact Or.inr rfl) pe_int ip_add)
      (pss_one (ps_for PassesOwn.never rfl (pi_list (pe_call G_behind (hr.mono (by decide)) (by rfl) T.g_behind T.k_behind B_behind .nil pass0 (by exact (pa_cons (pv 0) (pa_cons (pv 6) (pa_cons (pv 2) pa_nil)))))) (pg_name (i := 7) sc_steps_from.nd rfl (by first | exact Or.inl rfl | exact Or.inr rfl)) (pss_one (ps_if (pt_cmp (pc_dnotin hu (pv 7) (pv 3))) (pss_cons (ps_dput hu (pv 3) (pv 7) (pe_op op_add (pe_dget hu (pv 3) (pv 6) (fun _ _ => rfl)) pe_int) rfl)
      (pss_one (ps_expr (pe_bm PySem.F.plainAttrs_list PySem.F.slot_list_append PySem.F.type_list_append mt_append (pv 4) (by exact (pa_cons (pv 7) pa_nil)))))) pss_nil)))))))
      (pss_one (ps_ret (pe_frz (pv 3)))))))), ?_⟩
  obtain ⟨r, a, g, c, b, rfl, W, hr', hc, hl, h12, q⟩ := h
  have hn5 := W.few
  intro Fd hFd
  have hcF : TupOf (upd H Fd (.dT [])) a c := (Ex.new hFd) _ _ hc
  refine ⟨_, rfl, upd_same, a, kT c, rfl, by rw [kT_V]; exact hcF, ?_⟩
  rw [upd_upd]
  refine ⟨_, rfl, by show 1 ≤ sizeLine; exact szs (by omega), fun Wt hWt => ?_⟩
  have hW1 : H Wt = none := fresh_back (Ex.new hFd) hWt
  have hFW : Fd ≠ Wt := ne_of_none upd_same hWt
  have e1 : Ex H (upd (upd H Fd (.dT [(kT c, V.int 0)])) Wt (.lst [.ref a])) := Ex.upd_new (Ex.new hFd) hWt
  refine ⟨fun m σ H' => ∃ (L : List (List Nat)) (as : List Addr) (i : Nat) (v6 v7 : Option V), m = 400000 - i ∧ σ = [some (.ref r), some (.ref a), some (.bl b), some (.ref Fd), some (.ref Wt), some (.int i), v6, v7] ∧ Ex H H' ∧ H' Fd = some (.dT (sK c.sum L)) ∧ H' Wt = some (.lst (ARefs as)) ∧ Paired (TupOf H') as L ∧
      i ≤ L.length ∧ L.Nodup ∧ (∀ d ∈ L, Rch (sucB g b) c d) ∧ c ∈ L ∧ ∀ j < i, ∀ x, L[j]? = some x → ∀ y ∈ sucB g b x, y ∈ L,
    ⟨_, [c], [a], 0, none, none, rfl, rfl, e1, ?_, upd_same, .cons (e1 _ _ hc) .nil, Nat.zero_le _, by simp, ?_, List.mem_singleton.mpr rfl, fun j hj => absurd hj (Nat.not_lt_zero j)⟩, ?_⟩
  · rw [upd_ne hFW, upd_same]
    unfold sK
    rw [List.map_cons, List.map_nil, Int.sub_self]
  · intro d hd
    rw [List.mem_singleton.mp hd]
    exact Rch.refl
  rintro m σ H' ⟨L, as, i, v6, v7, rfl, rfl, eH, hF, hWa, hP, hiL, hnd, hre, hcL, hcl⟩
  have hal := Paired.length hP
  have hfew := few_cfgs hn5 hnd fun d hd => ⟨Rch_len W hl (hre d hd), by have := Rch_sum W hl (hre d hd); omega⟩
  refine ⟨_, rfl, _, rfl, Wt, _, rfl, .inl (sl_of' hWa), _, _, rfl, rfl, _, rfl, ?_⟩
  by_cases hlt : i < L.length
  · refine if_true_of (decide_eq_true (by rw [aref_len]; omega)) ⟨fun σ' H' => ∃ m', m' < 400000 - i ∧ _, fun _ _ h => h, ?_⟩
    obtain ⟨qa, hqa⟩ : ∃ z, as[i]? = some z := ⟨as[i]'(by omega), List.getElem?_eq_getElem (by omega)⟩
    obtain ⟨x, hx, hqx⟩ := paired_at hP hqa
    have hxr := hre x (List.mem_of_getElem? hx)
    have hxl := Rch_len W hl hxr
    refine ⟨_, rfl, _, rfl, Wt, _, _, _, rfl, rfl, sl_of' hWa, atI_nat (aref_get hqa), ?_⟩
    refine ⟨_, rfl, _, _, rfl, rfl, ?_⟩
    refine ⟨_, rfl, _, rfl, _, rfl, r, qa, g, x, b, rfl, W, hr'.ex eH, hqx, hxl, fun p Hb hp eb hb => ?_⟩
    obtain ⟨Ls, hTs, hLs, hmem⟩ := hb
    obtain ⟨bs, hbs, hbP⟩ := hTs
    have hWp : Wt ≠ p := ne_of_none hWa hp
    refine ⟨p, rfl, ⟨_, sl_of' hbs⟩, ?_⟩
    refine for_list (a := p) (xs := ARefs bs) (fun k σ H' => ∃ (L2 : List (List Nat)) (as2 : List Addr) (v7 : Option V), σ = [some (.ref r), some (.ref a), some (.bl b), some (.ref Fd), some (.ref Wt), some (.int ((i : Int) + 1)), some (.ref qa), v7] ∧ Ex H H' ∧ H' Fd = some (.dT (sK c.sum L2)) ∧ H' Wt = some (.lst (ARefs as2)) ∧ Paired (TupOf H') as2 L2 ∧
        H' p = some (.lst (ARefs bs)) ∧ Paired (TupOf H') bs Ls ∧ TupOf H' qa x ∧ L2.Nodup ∧ (∀ d ∈ L2, Rch (sucB g b) c d) ∧ (∀ d ∈ L, d ∈ L2) ∧ (∃ L3, L2 = L ++ L3) ∧ ∀ y ∈ Ls.take k, y ∈ L2)
      ⟨L, as, v7, rfl, eH.trans eb, eb _ _ hF, eb _ _ hWa, tups_ex eb hP, hbs, hbP, eb _ _ hqx, hnd, hre, fun d hd => hd, ⟨[], by simp⟩, by simp⟩ (fun k σ H' _ z => let ⟨_, _, _, _, _, _, _, _, z, _⟩ := z; sl_of' z) ?_ ?_
    · rintro k y σ H' hk ⟨L2, as2, v7, rfl, eH, hF, hWa, hP, hbs, hbP, hqx, hnd2, hre2, hsub, hpre, hdone⟩
      obtain ⟨t, ht, rfl⟩ := aref_of hk
      obtain ⟨d, hd, htd⟩ := paired_at hbP ht
      have hdm := (hmem d).mp (List.mem_of_getElem? hd)
      have hdr : Rch (sucB g b) c d := hxr.snoc hdm
      have hds := suc_sum W hxl hdm
      have hfew2 := few_cfgs hn5 hnd2 fun d hd => ⟨Rch_len W hl (hre2 d hd), by have := Rch_sum W hl (hre2 d hd); omega⟩
      have hxL2 : x ∈ L2 := hsub x (List.mem_of_getElem? hx)
      have htk : TupOf H' t d → H' t = some (.tup ((kT d).map kV)) := fun z => by rw [kT_V]; exact z
      refine ⟨_, rfl, _, rfl, Fd, _, rfl, DGet.t hF (htk htd), _, rfl, ?_⟩
      rw [valV_sK, take_snoc hd]
      by_cases hin : d ∈ L2
      · rw [if_pos hin]
        refine if_false_of rfl ⟨L2, as2, _, rfl, eH, hF, hWa, hP, hbs, hbP, hqx, hnd2, hre2, hsub, hpre, fun y hy => ?_⟩
        rcases List.mem_append.mp hy with hy | hy
        · exact hdone y hy
        · rw [List.mem_singleton.mp hy]; exact hin
      · rw [if_neg hin]
        have hval := DGet.t (k := kT x) hF (by rw [kT_V]; exact hqx)
        rw [valV_sK, if_pos hxL2] at hval
        refine if_true_of rfl ⟨_, rfl, _, rfl, Fd, _, rfl, hval, _, _, rfl, rfl, _, rfl, _, rfl, Fd, _, rfl, DPut.t hF (htk htd) (by rw [sK_len]; exact szl (by omega)), ?_⟩
        have hnone : valV (sK c.sum L2) (kT d) = none := by rw [valV_sK, if_neg hin]
        rw [putK_new _ hnone]
        have hsnoc : sK c.sum L2 ++ [(kT d, V.int (((c.sum : Nat) : Int) - ((x.sum : Nat) : Int) + 1))] = sK c.sum (L2 ++ [d]) := by
          rw [sK_app]
          unfold sK
          rw [List.map_cons, List.map_nil, show ((c.sum : Nat) : Int) - ((x.sum : Nat) : Int) + 1 = ((c.sum : Nat) : Int) - ((d.sum : Nat) : Int) by omega]
        have hW2 : (upd H' Fd (.dT (sK c.sum L2 ++ [(kT d, V.int (((c.sum : Nat) : Int) - ((x.sum : Nat) : Int) + 1))]))) Wt = some (.lst (ARefs as2)) := by rw [upd_ne (Ne.symm hFW)]; exact hWa
        have hal2 := Paired.length hP
        refine ⟨_, rfl, .inl ⟨rfl, _, sl_of' hW2⟩, _, rfl, Wt, _, _, rfl, rfl, hW2, by rw [aref_len, hal2]; exact szl (by omega), ?_⟩
        have tk : ∀ z u, TupOf H' z u → TupOf (upd (upd H' Fd (.dT (sK c.sum L2 ++ [(kT d, V.int (((c.sum : Nat) : Int) - ((x.sum : Nat) : Int) + 1))]))) Wt (.lst (ARefs as2 ++ [V.ref t]))) z u := fun z u h => tup_upd (tup_upd h hF (fun _ z => nomatch z)) hW2 (fun _ z => nomatch z)
        refine ⟨L2 ++ [d], as2 ++ [t], _, rfl, Ex.mut (Ex.mut eH hFd) hW1, ?_, ?_, ?_, ?_, ?_, ?_, ?_, ?_, ?_, ?_, ?_⟩
        · rw [upd_ne hFW, upd_same, ← hsnoc]
        · rw [upd_same, aref_app]
          rfl
        · exact paired_app (Paired.mapP hP fun a c q => tk a c q) (.cons (tk _ _ htd) .nil)
        · rw [upd_ne (Ne.symm hWp), upd_ne (ne_of hbs hF (fun z => nomatch z))]
          exact hbs
        · exact Paired.mapP hbP fun a c q => tk a c q
        · exact tk _ _ hqx
        · rw [List.nodup_append]
          exact ⟨hnd2, by simp, fun u hu v hv z => hin (by rw [List.mem_singleton.mp hv] at z; rw [← z]; exact hu)⟩
        · intro u hu
          rcases List.mem_append.mp hu with hu | hu
          · exact hre2 u hu
          · rw [List.mem_singleton.mp hu]; exact hdr
        · exact fun u hu => List.mem_append_left _ (hsub u hu)
        · obtain ⟨L3, hL3⟩ := hpre
          exact ⟨L3 ++ [d], by rw [hL3, List.append_assoc]⟩
        · intro y hy
          rcases List.mem_append.mp hy with hy | hy
          · exact List.mem_append_left _ (hdone y hy)
          · exact List.mem_append_right _ hy
    · rintro σ H' ⟨L2, as2, v7, rfl, eH, hF, hWa, hP, hbs, hbP, hqx, hnd2, hre2, hsub, ⟨L3, hpre⟩, hdone⟩
      have hlbs := Paired.length hbP
      rw [aref_len, hlbs, List.take_length] at hdone
      have hLL : L.length ≤ L2.length := by rw [hpre, List.length_append]; omega
      refine ⟨400000 - (i + 1), by omega, L2, as2, i + 1, _, v7, rfl, rfl, eH, hF, hWa, hP, by omega, hnd2, hre2, hsub c hcL, ?_⟩
      intro j hj z hz y hy
      have hjL : j < L.length := by omega
      rw [hpre, List.getElem?_append_left hjL] at hz
      by_cases hji : j = i
      · subst hji
        rw [hx] at hz
        obtain rfl := Option.some.inj hz
        exact hdone y ((hmem y).mpr hy)
      · exact hsub y (hcl j (by omega) z hz y hy)
  · refine if_false_of (decide_eq_false (by rw [aref_len]; omega)) ?_
    refine ⟨_, rfl, Fd, _, rfl, hF, trivial, fun od => ?_⟩
    refine q Fd _ hFd (Ex.mut eH hFd) ⟨L, ⟨od, upd_same⟩, ⟨hnd, fun d => ⟨hre d, fun ⟨k, hk⟩ => closed_all hcL ?_ k hk⟩⟩, hfew⟩
    intro x hx y hy
    obtain ⟨j, hj⟩ := List.getElem?_of_mem hx
    exact hcl j (by have := (List.getElem?_eq_some_iff.mp hj).1; omega) x hj y hy
end PBW

namespace PBW
open PySem PySem.Spec PyProof.Rows L2 Evl PB
open Ks577 (Graph pebblesAt isAdjacent)
variable {P : Program} {w : World} {K : PySem.W.Frag} {mg : Str → Option Value} {base : Heap} {ad : Adr}
def movesL (s : Nat) (L : List (List Nat)) (t cnt : Nat) : List Int := (L.filter fun d => decide (cnt ≤ pebblesAt d t)).map fun d => (s : Int) - (d.sum : Nat)
theorem sK_get {s : Nat} {L : List (List Nat)} {i : Nat} {k : List Key} {v : V} (h : (sK s L)[i]? = some (k, v)) : ∃ d, L[i]? = some d ∧ k = kT d := by
  unfold sK at h
  rw [List.getElem?_map] at h
  cases q : L[i]? with
  | none => rw [q] at h; cases h
  | some d =>
    rw [q] at h
    have := Option.some.inj h
    exact ⟨d, rfl, (congrArg Prod.fst this).symm⟩
def sp_least_moves : Sp := fun vs H Q _ => ∃ (p : Addr) (g : Graph) (b : Bool) (c : List Nat) (L : List (List Nat)) (t cnt : Nat), vs = [.ref p, .int t, .int cnt] ∧ WG g ∧ c.length = g.vertexCount ∧ StepsAt H p g b c L ∧ t < g.vertexCount ∧
  RetV (.int (optI (minG (sucB g b) c t cnt))) H Q
theorem ok_least_moves (T : Txt K mg ad) : Ok P w K mg base CX0 1 ad.f_least_moves ["steps", "target", "count"] (sp_least_moves) := by
  obtain ⟨fd, F⟩ := T.F_least_moves
  refine ⟨fd, F.ok sc_least_moves (fun vs H Q E h => ?_) (fun cdv A outer s H vs Q E hr h => ?_), F.binds fun _ _ _ _ _ _ us hl => match us, hl with | [_, _, _], _ => rfl⟩
  · obtain ⟨_, _, _, _, _, _, _, rfl, _⟩ := h
    rfl
  have hu := hu_of hr
  refine ⟨_, (pss_cons (by exact (ps_setLc (i := 3) (own := [("pebbles", 4)]) rfl sc_least_moves.nd rfl rfl (sw_true rfl rfl rfl (by decide +kernel)) (pi_keys (pv 0)) (blkOk_by (own := [("pebbles", 4)]) (N := N_least_moves) (sc := defScope s_least_moves) (by decide +kernel)) (fun _ _ _ _ _ => (pg_name (i := 4) sc_least_moves.nd rfl (by first | exact Or.inl rfl | exact Or.inr rfl))) (fun _ _ _ _ _ => (pts_one (pt_cmpR op_ge (pe_ix (ix_tupK (K := K) rfl) (pv 4) (pv 1) (fun _ _ => rfl)) (pv 2) (nomark _)))) (fun _ _ _ _ _ => (pe_dget hu (pv 0) (pv 4) (fun _ _ => rfl)))))
      (pss_one (ps_ret (pe_ifExp (pt_cmpR op_gt (pe_callB call_len_seq (by rfl) T.n_len (by decide +kernel) (by exact (pa_cons (pv 3) pa_nil))) pe_int (nomark _)) (pe_callB (cr_min rfl) (by rfl) T.n_min (by decide +kernel) (by exact (pa_cons (pv 3) pa_nil))) (pe_un un_neg pe_int))))), ?_⟩
  obtain ⟨p, g, b, c, L, t, cnt, rfl, W, hl, S, ht, q⟩ := h
  obtain ⟨od, hp⟩ := S.at_
  refine ⟨_, rfl, p, od, rfl, .inr ⟨_, hp, fun D hD => ?_⟩⟩
  have hfew := S.few
  refine lc_it walk_keysT (fun j H3 => Ex H H3 ∧ H3 D = some (.lst ((movesL c.sum (L.take j) t cnt).map V.int)) ∧ (movesL c.sum (L.take j) t cnt).length ≤ j) ⟨Ex.new hD, upd_same, Nat.zero_le _⟩ (fun j H3 _ z => z.1 _ _ hp) ?_ ?_
  · rintro j x H3 H4 hj ⟨e3, h3, hlen⟩ ⟨rfl, k, v, qa, hk, rfl, hqa⟩
    obtain ⟨d, hd, rfl⟩ := sK_get hk
    rw [kT_V] at hqa
    rw [sK_len] at hj
    have hdl := Rch_len W hl ((S.ok.mem d).mp (List.mem_of_getElem? hd))
    refine ⟨rfl, _, rfl, _, rfl, qa, _, _, _, rfl, rfl, st_of' hqa, at_nVs (by omega), _, rfl, _, _, rfl, rfl, _, rfl, ?_⟩
    rw [take_snoc hd]
    have hst : movesL c.sum (L.take j ++ [d]) t cnt = movesL c.sum (L.take j) t cnt ++ if cnt ≤ pebblesAt d t then [(c.sum : Int) - (d.sum : Nat)] else [] := by
      unfold movesL
      rw [List.filter_append, List.map_append]
      congr 1
      by_cases z : cnt ≤ pebblesAt d t
      · rw [if_pos z, List.filter_cons_of_pos (by exact decide_eq_true z)]; rfl
      · rw [if_neg z, List.filter_cons_of_neg (by simpa using z)]; rfl
    rw [hst]
    by_cases z : cnt ≤ pebblesAt d t
    · refine if_true_of (decide_eq_true (by unfold pebblesAt at z; omega)) ?_
      rw [if_pos z]
      have hval : DGet _ p (.ref qa) (some (.int ((c.sum : Int) - (d.sum : Nat)))) := .inr ⟨sK c.sum L, kT d, qa, .inr ⟨od, e3 _ _ hp⟩, rfl, by rw [kT_V]; exact hqa, by rw [valV_sK, if_pos (List.mem_of_getElem? hd)]⟩
      refine ⟨_, rfl, _, rfl, p, _, rfl, hval, _, h3, by rw [List.length_map]; exact szl (by omega), Ex.mut e3 hD, ?_, ?_⟩
      · rw [upd_same, List.map_append]
        rfl
      · rw [List.length_append]
        simp only [List.length_cons, List.length_nil]
        omega
    · refine if_false_of (decide_eq_false (by unfold pebblesAt at z; omega)) ?_
      rw [if_neg z, List.append_nil]
      exact ⟨e3, h3, by omega⟩
  · rintro H3 ⟨e3, h3, hlen⟩
    rw [sK_len, List.take_length] at h3
    obtain ⟨l1, l2⟩ := least_of (t := t) (cnt := cnt) W hl S.ok
    refine ⟨_, rfl, D, _, rfl, .inl (sl_of' h3), _, _, rfl, rfl, _, rfl, ?_⟩
    cases hm : movesL c.sum L t cnt with
    | nil =>
      refine if_false_of rfl ⟨1, rfl, ?_⟩
      have e : optI (minG (sucB g b) c t cnt) = -1 := by
        refine l1 ?_
        unfold movesL at hm
        exact List.map_eq_nil_iff.mp hm
      have q2 := q H3 e3
      rw [e] at q2
      exact q2
    | cons y r =>
      rw [hm] at h3
      refine if_true_of (decide_eq_true (by rw [List.length_map, List.length_cons]; omega)) ⟨_, rfl, D, _, rfl, sl_of' h3, by rw [List.length_cons]; omega, fun m hm1 hm2 => ?_⟩
      have e : optI (minG (sucB g b) c t cnt) = m := by
        refine l2 m ?_ ?_
        · show m ∈ movesL c.sum L t cnt
          rw [hm]
          exact hm1
        · show ∀ y ∈ movesL c.sum L t cnt, m ≤ y
          rw [hm]
          exact hm2
      have q2 := q H3 e3
      rw [e] at q2
      exact q2
def sp_most_pebbles : Sp := fun vs H Q _ => ∃ (p : Addr) (g : Graph) (b : Bool) (c : List Nat) (L : List (List Nat)) (t : Nat), vs = [.ref p, .int t] ∧ WG g ∧ c.length = g.vertexCount ∧ StepsAt H p g b c L ∧ t < g.vertexCount ∧
  RetV (.int (maxG (sucB g b) c t : Nat)) H Q
theorem ok_most_pebbles (T : Txt K mg ad) : Ok P w K mg base CX0 1 ad.f_most_pebbles ["steps", "target"] (sp_most_pebbles) := by
  obtain ⟨fd, F⟩ := T.F_most_pebbles
  refine ⟨fd, F.ok sc_most_pebbles (fun vs H Q E h => ?_) (fun cdv A outer s H vs Q E hr h => ?_), F.binds fun _ _ _ _ _ _ us hl => match us, hl with | [_, _], _ => rfl⟩
  · obtain ⟨_, _, _, _, _, _, rfl, _⟩ := h
    rfl
  have hu := hu_of hr
  refine ⟨_, (pss_one (ps_ret (pe_callB (cr_max rfl) (by rfl) T.n_max (by decide +kernel) (by exact (pa_cons (by exact (pe_lc (own := [("pebbles", 2)]) rfl sc_most_pebbles.nd (pi_keys (pv 0)) (blkOk_by (own := [("pebbles", 2)]) (N := N_most_pebbles) (sc := defScope s_most_pebbles) (by decide +kernel)) (fun _ _ _ _ _ => (pg_name (i := 2) sc_most_pebbles.nd rfl (by first | exact Or.inl rfl | exact Or.inr rfl))) (fun _ _ _ _ _ => pts_nil) (fun _ _ _ _ _ => (pe_ix (ix_tupK (K := K) rfl) (pv 2) (pv 1) (fun _ _ => rfl))))) pa_nil))))), ?_⟩
  obtain ⟨p, g, b, c, L, t, rfl, W, hl, S, ht, q⟩ := h
  obtain ⟨od, hp⟩ := S.at_
  refine ⟨_, rfl, p, od, rfl, .inr ⟨_, hp, fun D hD => ?_⟩⟩
  have hfew := S.few
  refine lc_it walk_keysT (fun j H3 => Ex H H3 ∧ H3 D = some (.lst (((L.take j).map fun d => ((pebblesAt d t : Nat) : Int)).map V.int))) ⟨Ex.new hD, upd_same⟩ (fun j H3 _ z => z.1 _ _ hp) ?_ ?_
  · rintro j x H3 H4 hj ⟨e3, h3⟩ ⟨rfl, k, v, qa, hk, rfl, hqa⟩
    obtain ⟨d, hd, rfl⟩ := sK_get hk
    rw [kT_V] at hqa
    rw [sK_len] at hj
    have hdl := Rch_len W hl ((S.ok.mem d).mp (List.mem_of_getElem? hd))
    refine ⟨rfl, _, rfl, _, rfl, qa, _, _, _, rfl, rfl, st_of' hqa, at_nVs (by omega), _, h3, by rw [List.length_map, List.length_map, List.length_take]; exact szl (by omega), Ex.mut e3 hD, ?_⟩
    rw [upd_same, take_snoc hd, List.map_append, List.map_append]
    rfl
  · rintro H3 ⟨e3, h3⟩
    rw [sK_len, List.take_length] at h3
    have hcL : c ∈ L := (S.ok.mem c).mpr Rch.refl
    refine ⟨D, _, rfl, sl_of' h3, by rw [List.length_map]; exact List.length_pos_of_mem hcL, fun m hm1 hm2 => ?_⟩
    obtain ⟨d, hd, rfl⟩ := List.mem_map.mp hm1
    have e : maxG (sucB g b) c t = pebblesAt d t := maxB_eq W hl ⟨d, (S.ok.mem d).mp hd, rfl⟩ fun f hf => by
      have := hm2 _ (List.mem_map.mpr ⟨f, (S.ok.mem f).mpr hf, rfl⟩)
      omega
    have q2 := q H3 e3
    rw [e] at q2
    exact q2
def sp_first_sequence : Sp := fun vs H Q _ => ∃ (r a : Addr) (g : Graph) (c : List Nat) (t cnt many : Nat) (s : List (Nat × Nat)), vs = [.ref r, .ref a, .int t, .int cnt, .int many] ∧ WG g ∧ RowsAt H r (rowsG g) ∧ TupOf H a c ∧ c.length = g.vertexCount ∧ c.sum ≤ 12 ∧ t < g.vertexCount ∧
  minG (sucB g false) c t cnt = some many ∧ Ks577.shortestSequence g t cnt many c = some s ∧ many ≤ 12 ∧
  Ret (fun H2 p => TupsAt H2 p (prs s) ∧ s.length = many) H Q
theorem ok_first_sequence (T : Txt K mg ad) : Ok P w K mg base CX0 5 ad.f_first_sequence ["rows", "pebbles", "target", "count", "many"] (sp_first_sequence) := by
  obtain ⟨fd, F⟩ := T.F_first_sequence
  obtain ⟨fd_pebbling_moves, G_pebbling_moves, B_pebbling_moves⟩ := ok_pebbling_moves (P := P) (w := w) (base := base) T
  obtain ⟨fd_least_moves, G_least_moves, B_least_moves⟩ := ok_least_moves (P := P) (w := w) (base := base) T
  obtain ⟨fd_steps_from, G_steps_from, B_steps_from⟩ := ok_steps_from (P := P) (w := w) (base := base) T
  obtain ⟨fd_taken, G_taken, B_taken⟩ := ok_taken (P := P) (w := w) (base := base) T
  refine ⟨fd, F.ok sc_first_sequence (fun vs H Q E h => ?_) (fun cdv A outer s H vs Q E hr h => ?_), F.binds fun _ _ _ _ _ _ us hl => match us, hl with | [_, _, _, _, _], _ => rfl⟩
  · obtain ⟨_, _, _, _, _, _, _, _, rfl, _⟩ := h
    rfl
  have hu := hu_of hr
  refine ⟨_, (pss_cons (ps_set (i := 5) sc_first_sequence.nd rfl (by first | exact Or.inl rfl | exact Or.inr rfl) (pe_lst pa_nil))
      (pss_cons (ps_set (i := 6) sc_first_sequence.nd rfl (by first | exact Or.inl rfl | exact Or.inr rfl) (pv 1))
      (pss_cons (ps_for PassesOwn.never rfl (pi_range3 (by rfl) T.n_range (by exact (pa_cons (pv 4) (pa_cons pe_int (pa_cons (pe_un un_neg pe_int) pa_nil))))) (pg_name (i := 7) sc_first_sequence.nd rfl (by first | exact Or.inl rfl | exact Or.inr rfl)) (pss_one (ps_for PassesOwn.never rfl (pi_list (pe_call G_pebbling_moves (hr.mono (by decide)) (by rfl) T.g_pebbling_moves T.k_pebbling_moves B_pebbling_moves .nil pass0 (by exact (pa_cons (pv 0) (pa_cons (pv 6) pa_nil))))) (pg_names2 (K := K) (i := 8) (j := 9) rfl (by rfl) sc_first_sequence.nd (by rfl) (by rfl) (by first | exact Or.inl rfl | exact Or.inr rfl) (by first | exact Or.inl rfl | exact Or.inr rfl) (by first | exact Or.inl rfl | exact Or.inr rfl) (by first | exact Or.inl rfl | exact Or.inr rfl)) (pss_cons (ps_set (i := 10) sc_first_sequence.nd rfl (by first | exact Or.inl rfl | exact Or.inr rfl) (pe_call G_taken (hr.mono (by decide)) (by rfl) T.g_taken T.k_taken B_taken .nil pass0 (by exact (pa_cons (pv 6) (pa_cons (pv 8) (pa_cons (pv 8) (pa_cons (pv 9) pa_nil)))))))
      (pss_one (ps_if (pt_cmpR op_eq (pe_call G_least_moves (hr.mono (by decide)) (by rfl) T.g_least_moves T.k_least_moves B_least_moves .nil pass0 (by exact (pa_cons (pe_call G_steps_from (hr.mono (by decide)) (by rfl) T.g_steps_from T.k_steps_from B_steps_from .nil pass0 (by exact (pa_cons (pv 0) (pa_cons (pv 10) (pa_cons pe_bl pa_nil))))) (pa_cons (pv 2) (pa_cons (pv 3) pa_nil))))) (pe_op op_sub (pv 7) pe_int) (nomark _)) (pss_cons (ps_expr (pe_bm PySem.F.plainAttrs_list PySem.F.slot_list_append PySem.F.type_list_append mt_append (pv 5) (by exact (pa_cons (pe_tup (by exact (pa_cons (pv 8) (pa_cons (pv 9) pa_nil)))) pa_nil))))
      (pss_cons (ps_set (i := 6) sc_first_sequence.nd rfl (by first | exact Or.inl rfl | exact Or.inr rfl) (pv 10))
      (pss_one ps_break))) pss_nil))))))
      (pss_one (ps_ret (pv 5)))))), ?_⟩
  obtain ⟨r, a, g, c, t, cnt, many, s', rfl, W, hr', hc, hl, h12, ht, hmin, hseq, hmany, q⟩ := h
  have hn5 := W.few
  refine ⟨by show 0 ≤ sizeLine; exact Nat.zero_le _, fun Fo hFo => ?_⟩
  refine ⟨_, rfl, _, rfl, 1, rfl, (many : Int), 0, -1, many, rfl, ?_, ?_⟩
  · have := RgC.neg (i := (many : Int)) (j := 0) (by omega) (by omega) (by omega) (by omega)
    rw [Int.sub_zero] at this
    exact this
  refine for_rangeC (lo := (many : Int)) (c := -1) (n := many) (fun i σ H' => ∃ (hq : Addr) (here : List Nat) (rest done : List (Nat × Nat)) (v7 v8 v9 v10 : Option V), σ = [some (.ref r), some (.ref a), some (.int t), some (.int cnt), some (.int many), some (.ref Fo), some (.ref hq), v7, v8, v9, v10] ∧ Ex H H' ∧ TupOf H' hq here ∧ here.length = g.vertexCount ∧ here.sum ≤ 12 ∧
      minG (sucB g false) here t cnt = some (many - i) ∧ Ks577.shortestSequence g t cnt (many - i) here = some rest ∧ s' = done ++ rest ∧ TupsAt H' Fo (prs done) ∧ done.length = i)
    ⟨a, c, s', [], none, none, none, none, rfl, Ex.new hFo, (Ex.new hFo) _ _ hc, hl, h12, hmin, hseq, rfl, ⟨[], upd_same, .nil⟩, rfl⟩ ?_ ?_
  · rintro i σ H' hi ⟨hq, here, rest, done, v7, v8, v9, v10, rfl, eH, hh, hhl, hhs, hm, hsq, hs', hT, hdl⟩
    obtain ⟨k, hk⟩ : ∃ k, many - i = k + 1 := ⟨many - i - 1, by omega⟩
    rw [hk] at hsq hm
    unfold Ks577.shortestSequence at hsq
    refine ⟨_, rfl, _, rfl, r, hq, g, here, rfl, W, hr'.ex eH, hh, hhl, fun p Hp hp ep hpT => ?_⟩
    obtain ⟨ms, hms, hmP⟩ := hpT
    have hmsl := Paired.length hmP
    unfold prs at hmsl
    rw [List.length_map] at hmsl
    cases hfind : (Ks577.possibleMoves g here).find? fun m => Ks577.minMoves g (Ks577.move here m.1 m.2) t cnt == some k with
    | none => rw [hfind] at hsq; cases hsq
    | some mv =>
    rw [hfind] at hsq
    simp only at hsq
    refine ⟨p, rfl, ⟨_, sl_of' hms⟩, ?_⟩
    refine for_list (a := p) (xs := ARefs ms) (fun j σ H' => ∃ (v8 v9 v10 : Option V), σ = [some (.ref r), some (.ref a), some (.int t), some (.int cnt), some (.int many), some (.ref Fo), some (.ref hq), some (.int ((many : Int) + (i : Int) * -1)), v8, v9, v10] ∧ Ex Hp H' ∧
        ((Ks577.possibleMoves g here).take j).find? (fun m => Ks577.minMoves g (Ks577.move here m.1 m.2) t cnt == some k) = none)
      ⟨v8, v9, v10, rfl, Ex.refl _, rfl⟩ (fun j σ H' _ z => let ⟨_, _, _, _, e, _⟩ := z; sl_of' (e _ _ hms)) ?_ ?_
    · rintro j y σ H' hj ⟨v8, v9, v10, rfl, eP, hnone⟩
      obtain ⟨z, hz, rfl⟩ := aref_of hj
      obtain ⟨cz, hcz, hzc⟩ := paired_at hmP hz
      obtain ⟨⟨s1, t1⟩, hm1, rfl⟩ := prs_get hcz
      have hmem := (mem_possible W).mp (List.mem_of_getElem? hm1)
      have hlt := adj_lt W hmem.1
      simp only at hmem hlt
      have hck : canTk here s1 s1 = true := by
        unfold canTk
        rw [if_pos rfl]
        exact decide_eq_true hmem.2
      have hml : (Ks581.move here s1 s1 t1).length = g.vertexCount := by rw [move_length]; exact hhl
      have hms12 := move_sum (c := here) (f := s1) (s := s1) (t := t1) (by omega) (by omega) (by omega) hck
      refine ⟨z, _, rfl, st_of' (eP _ _ hzc), rfl, _, _, rfl, _, _, rfl, rfl, ?_⟩
      refine ⟨_, rfl, _, rfl, _, rfl, _, rfl, hq, s1, s1, t1, here, rfl, eP _ _ (ep _ _ hh), by omega, by omega, by omega, by omega, hck, fun th H5 hth e5 h5 => ?_⟩
      have e05 : Ex H H5 := (eH.trans ep).trans (eP.trans e5)
      refine ⟨_, rfl, _, rfl, r, th, g, _, false, rfl, W, hr'.ex e05, h5, hml, by omega, fun d H6 hd e6 h6 => ?_⟩
      obtain ⟨L, S⟩ := h6
      refine ⟨_, rfl, _, rfl, d, g, false, _, L, t, cnt, rfl, W, hml, S, ht, fun H7 e7 => ?_⟩
      refine ⟨_, rfl, _, _, rfl, rfl, rfl, _, rfl, ?_⟩
      have hpr : (Ks577.minMoves g (Ks577.move here s1 t1) t cnt == some k) = decide (minG (sucB g false) (Ks581.move here s1 s1 t1) t cnt = some k) := by
        rw [min577, move577 (by omega)]
        show _ = decide (minG (Ks577.successors g) _ t cnt = some k)
        cases hb : (minG (Ks577.successors g) (Ks581.move here s1 s1 t1) t cnt == some k) with
        | true => exact (decide_eq_true (beq_iff_eq.mp hb)).symm
        | false => exact (decide_eq_false (beq_eq_false_iff_ne.mp hb)).symm
      have hap : (Ks577.possibleMoves g here).find? (fun m => Ks577.minMoves g (Ks577.move here m.1 m.2) t cnt == some k) = ((Ks577.possibleMoves g here).drop j).find? (fun m => Ks577.minMoves g (Ks577.move here m.1 m.2) t cnt == some k) := by
        conv => lhs; rw [← List.take_append_drop j (Ks577.possibleMoves g here), List.find?_append, hnone]
        rfl
      have hjl := (List.getElem?_eq_some_iff.mp hm1)
      obtain ⟨hjl1, hjl2⟩ := hjl
      rw [List.drop_eq_getElem_cons hjl1, hjl2, List.find?_cons, hfind] at hap
      simp only at hap
      rw [hpr] at hap
      by_cases hk2 : minG (sucB g false) (Ks581.move here s1 s1 t1) t cnt = some k
      · rw [decide_eq_true hk2] at hap
        simp only at hap
        obtain rfl : mv = (s1, t1) := Option.some.inj hap
        refine if_true_of (decide_eq_true ?_) ?_
        · rw [hk2]
          show V.int (k : Int) = V.int _
          congr 1
          omega
        have e07 : Ex H H7 := e05.trans (e6.trans e7)
        have e27 : Ex Hp H7 := (eP.trans e5).trans (e6.trans e7)
        obtain ⟨fs, hfs, hfP⟩ := hT
        have hF7 := e27 _ _ (ep _ _ hfs)
        have hfl := Paired.length hfP
        unfold prs at hfl
        rw [List.length_map] at hfl
        refine ⟨_, rfl, .inl ⟨rfl, _, sl_of' hF7⟩, _, rfl, _, rfl, by show 2 ≤ sizeLine; exact szs (by omega), fun pp hpp => ⟨Fo, _, _, rfl, rfl, (Ex.new hpp) _ _ hF7, by rw [aref_len]; exact szl (by omega), ?_⟩⟩
        refine ⟨_, rfl, ?_⟩
        cases hrest : Ks577.shortestSequence g t cnt k (Ks577.move here s1 t1) with
        | none => rw [hrest] at hsq; cases hsq
        | some rest2 =>
        rw [hrest] at hsq
        have hr2 : rest = (s1, t1) :: rest2 := (Option.some.inj hsq).symm
        have hFp : Fo ≠ pp := ne_of_none hF7 hpp
        refine ⟨th, Ks581.move here s1 s1 t1, rest2, done ++ [(s1, t1)], _, _, _, _, rfl, Ex.mut (e07.trans (Ex.new hpp)) hFo, ?_, hml, by omega, ?_, ?_, ?_, ?_, ?_⟩
        · exact tup_upd ((Ex.new hpp) _ _ (e7 _ _ (e6 _ _ h5))) ((Ex.new hpp) _ _ hF7) (fun _ z => nomatch z)
        · rw [show many - (i + 1) = k by omega]
          exact hk2
        · rw [show many - (i + 1) = k by omega, ← move577 (by omega)]
          exact hrest
        · rw [hs', hr2, List.append_assoc]
          rfl
        · rw [prs_app]
          refine TupsAt.push (TupsAt.ex ((ep.trans e27).trans (Ex.new hpp)) ⟨fs, hfs, hfP⟩) ((Ex.new hpp) _ _ hF7) ?_
          show upd _ pp _ pp = _
          rw [upd_same]
          rfl
        · rw [List.length_append, hdl]
          rfl
      · rw [decide_eq_false hk2] at hap
        simp only at hap
        refine if_false_of (decide_eq_false fun z => hk2 ?_) ?_
        · injection z with z
          cases hmm : minG (sucB g false) (Ks581.move here s1 s1 t1) t cnt with
          | none =>
            rw [hmm] at z
            have z : (-1 : Int) = _ := z
            omega
          | some kk =>
            rw [hmm] at z
            have z : (kk : Int) = _ := z
            rw [show kk = k by omega]
        · refine ⟨_, _, _, rfl, (eP.trans e5).trans (e6.trans e7), ?_⟩
          rw [take_snoc hm1, List.find?_append, hnone, List.find?_cons]
          simp only
          rw [hpr, decide_eq_false hk2]
          rfl
    · rintro σ H' ⟨v8, v9, v10, rfl, eP, hnone⟩
      rw [aref_len, hmsl, List.take_length, hfind] at hnone
      cases hnone
  · rintro σ H' ⟨hq, here, rest, done, v7, v8, v9, v10, rfl, eH, hh, hhl, hhs, hm, hsq, hs', hT, hdl⟩
    rw [Nat.sub_self] at hsq
    obtain rfl := Option.some.inj hsq
    rw [List.append_nil] at hs'
    subst hs'
    exact ⟨_, rfl, q Fo H' hFo eH ⟨hT, hdl⟩⟩
end PBW

namespace PBW
open PySem PySem.Spec PyProof.Rows L2 Evl PB
open Ks577 (Graph pebblesAt isAdjacent)
variable {P : Program} {w : World} {K : PySem.W.Frag} {mg : Str → Option Value} {base : Heap} {ad : Adr}
section
variable {g : TG} {tt : TT} {te : TE} {vs : List Nat} {σ : L2.St} {H1 : Hp} {D : Addr} {Qd : Hp → Prop}
/-- a comprehension over a range giving tuples -/
theorem lc_tupsR {n : Nat} (m : List (List Nat)) (hm : m.length = n) (hD : H1 D = none) (hlen : n ≤ 900000)
    (hs : ∀ (j : Nat) c H3 (Qy : VK), m[j]? = some c → Ex H1 H3 → (∀ p H6, Ex H3 H6 → TupOf H6 p c → Qy (.ref p) H6) → ∀ Qn : Hp → Prop, g (.int (j : Int)) (wipe σ vs) H3 fun σ2 H4 => wipe σ2 vs = wipe σ vs ∧ tt σ2 H4 fun b H5 => if b = true then te σ2 H5 Qy else Qn H5)
    (hd : ∀ H3, Ex H1 H3 → TupsAt H3 D m → Qd H3) :
    ∃ W : Nat → Nat → Hp → Prop, (∃ m, W 0 m (upd H1 D (.lst []))) ∧ ∀ i m H, W i m H →
      ((Itr 0 n).stop i H ∧ Qd H) ∨ ((Itr 0 n).go i H ∧ ∃ Nx : Hp → Prop, (∀ H', Nx H' → ∃ m', m' < m ∧ W (i + 1) m' H') ∧ ∀ x H', (Itr 0 n).yld i H x H' → g x (wipe σ vs) H' fun σ2 H2 => wipe σ2 vs = wipe σ vs ∧ tt σ2 H2 fun b H3 =>
        if b = true then te σ2 H3 fun y H4 => ∃ acc, H4 D = some (.lst acc) ∧ acc.length < sizeLine ∧ Nx (upd H4 D (.lst (acc ++ [y]))) else Nx H3) := by
  refine lc_range (lo := 0) (n := n) (fun i H3 => Ex H1 H3 ∧ TupsAt H3 D (m.take i)) ⟨Ex.new hD, [], upd_same, .nil⟩ ?_ ?_
  · rintro i H3 hi ⟨e3, as, h3, h4⟩
    obtain ⟨c, hc⟩ : ∃ c, m[i]? = some c := ⟨m[i]'(by omega), List.getElem?_eq_getElem (by omega)⟩
    rw [Int.zero_add]
    have hal := Paired.length h4
    rw [List.length_take] at hal
    refine hs i c H3 _ hc e3 (fun p H6 e6 h6 => ?_) _
    refine ⟨_, e6 _ _ h3, szl (by rw [aref_len]; omega), Ex.mut (e3.trans e6) hD, ?_⟩
    rw [take_snoc hc]
    exact TupsAt.push (TupsAt.ex e6 ⟨as, h3, h4⟩) (e6 _ _ h3) h6
  · rintro H3 ⟨e3, h3⟩
    refine hd H3 e3 ?_
    rw [← hm, List.take_length] at h3
    exact h3
end
theorem TupsAt.app {H : Hp} {l p : Addr} {L M : List (List Nat)} {xs : List V} (h : TupsAt H l L) (hx : H l = some (.lst xs)) (hp : TupsAt H p M) : ∃ ys, H p = some (.lst ys) ∧ xs.length = L.length ∧ ys.length = M.length ∧ TupsAt (upd H l (.lst (xs ++ ys))) l (L ++ M) := by
  obtain ⟨as, h1, h2⟩ := h
  obtain ⟨bs, h3, h4⟩ := hp
  rw [hx] at h1
  obtain rfl : xs = ARefs as := by injection h1 with z; injection z
  exact ⟨_, h3, by rw [aref_len]; exact Paired.length h2, by rw [aref_len]; exact Paired.length h4, as ++ bs, by rw [upd_same, aref_app], tups_lst hx (paired_app h2 h4)⟩
theorem preC_len (total : Nat) (ht : total ≤ 12) : ∀ i, (preC total i).length ≤ 13 ^ i
  | 0 => Nat.le_refl _
  | i + 1 => by
    have ih := preC_len total ht i
    show ((preC total i).flatMap _).length ≤ _
    have : ∀ l : List (List Nat), (l.flatMap fun row => (List.range (total - row.sum + 1)).map fun one => row ++ [one]).length ≤ 13 * l.length := by
      intro l
      induction l with
      | nil => exact Nat.le_refl _
      | cons a r ih =>
        rw [List.flatMap_cons, List.length_append, List.length_cons, List.length_map, List.length_range]
        omega
    have h1 := this (preC total i)
    rw [Nat.pow_succ]
    exact Nat.le_trans h1 (by omega)
def sp_configurations : Sp := fun vs H Q _ => ∃ (n total : Nat), vs = [.int n, .int total] ∧ 1 ≤ n ∧ n ≤ 5 ∧ total ≤ 12 ∧ Ret (fun H2 p => TupsAt H2 p (Ks578.configurations n total) ∧ (Ks578.configurations n total).length ≤ 28561) H Q
theorem ok_configurations (T : Txt K mg ad) : Ok P w K mg base CX0 1 ad.f_configurations ["many", "total"] (sp_configurations) := by
  obtain ⟨fd, F⟩ := T.F_configurations
  refine ⟨fd, F.ok sc_configurations (fun vs H Q E h => ?_) (fun cdv A outer s H vs Q E hr h => ?_), F.binds fun _ _ _ _ _ _ us hl => match us, hl with | [_, _], _ => rfl⟩
  · obtain ⟨_, _, rfl, _⟩ := h
    rfl
  have hu := hu_of hr
  refine ⟨_, (pss_cons (ps_set (i := 2) sc_configurations.nd rfl (by first | exact Or.inl rfl | exact Or.inr rfl) (pe_lst (by exact (pa_cons (pe_tup pa_nil) pa_nil))))
      (pss_cons (ps_for PassesOwn.never rfl (pi_range1 (by rfl) T.n_range (by exact (pa_cons (pe_op op_sub (pv 0) pe_int) pa_nil))) (pg_name (i := 3) sc_configurations.nd rfl (by first | exact Or.inl rfl | exact Or.inr rfl)) (pss_cons (ps_set (i := 4) sc_configurations.nd rfl (by first | exact Or.inl rfl | exact Or.inr rfl) (pe_lst pa_nil))
      (pss_cons (ps_for PassesOwn.never rfl (pi_list (pv 2)) (pg_name (i := 5) sc_configurations.nd rfl (by first | exact Or.inl rfl | exact Or.inr rfl)) (pss_one (ps_expr (pe_bm PySem.F.plainAttrs_list PySem.F.slot_list_extend PySem.F.type_list_extend mt_extend (pv 4) (by exact (pa_cons (by exact (pe_lc (own := [("one", 6)]) rfl sc_configurations.nd (pi_range1 (by rfl) T.n_range (by exact (pa_cons (pe_op op_add (pe_op op_sub (pv 1) (pe_callB (cr_sumT rfl) (by rfl) T.n_sum (by decide +kernel) (by exact (pa_cons (pv 5) pa_nil)))) pe_int) pa_nil))) (blkOk_by (own := [("one", 6)]) (N := N_configurations) (sc := defScope s_configurations) (by decide +kernel)) (fun _ _ _ _ _ => (pg_name (i := 6) sc_configurations.nd rfl (by first | exact Or.inl rfl | exact Or.inr rfl))) (fun _ _ _ _ _ => pts_nil) (fun _ _ _ _ _ => (pe_op (op_catAK (K := K) rfl) (pv 5) (pe_tup (by exact (pa_cons (pv 6) pa_nil))))))) pa_nil))))))
      (pss_one (ps_set (i := 2) sc_configurations.nd rfl (by first | exact Or.inl rfl | exact Or.inr rfl) (pv 4))))))
      (pss_one (ps_ret (by exact (pe_lc (own := [("row", 5)]) rfl sc_configurations.nd (pi_list (pv 2)) (blkOk_by (own := [("row", 5)]) (N := N_configurations) (sc := defScope s_configurations) (by decide +kernel)) (fun _ _ _ _ _ => (pg_name (i := 5) sc_configurations.nd rfl (by first | exact Or.inl rfl | exact Or.inr rfl))) (fun _ _ _ _ _ => pts_nil) (fun _ _ _ _ _ => (pe_op (op_catAK (K := K) rfl) (pv 5) (pe_tup (by exact (pa_cons (pe_op op_sub (pv 1) (pe_callB (cr_sumTK (K := K) rfl rfl) (by rfl) T.n_sum (by decide +kernel) (by exact (pa_cons (pv 5) pa_nil)))) pa_nil))))))))))), ?_⟩
  obtain ⟨n, total, rfl, h1, h5, ht, q⟩ := h
  refine ⟨by show 0 ≤ sizeLine; exact Nat.zero_le _, fun t0 ht0 => ⟨by show 1 ≤ sizeLine; exact szs (by omega), fun F0 hF0 => ?_⟩⟩
  have hF1 : H F0 = none := fresh_back (Ex.new ht0) hF0
  refine ⟨_, rfl, _, _, rfl, rfl, ((n - 1 : Nat) : Int), ?_, by omega, by omega, ?_⟩
  · show [V.int ((n : Int) - 1)] = _
    rw [show ((n : Int) - 1) = ((n - 1 : Nat) : Int) by omega]
  have hFt : F0 ≠ t0 := fun z => by
    have : (upd H t0 (.tup [])) F0 = none := hF0
    rw [z, upd_same] at this
    cases this
  refine for_range0 (n := n - 1) (fun i σ H' => ∃ (Fa : Addr) (v3 v4 v5 v6 : Option V), σ = [some (.int n), some (.int total), some (.ref Fa), v3, v4, v5, v6] ∧ Ex H H' ∧ TupsAt H' Fa (preC total i))
    ⟨F0, none, none, none, none, rfl, Ex.upd_new (Ex.new ht0) hF0, [t0], upd_same, .cons (by show upd _ F0 _ t0 = _; rw [upd_ne (Ne.symm hFt), upd_same]; rfl) .nil⟩ ?_ ?_
  · rintro i σ H' hi ⟨Fa, v3, v4, v5, v6, rfl, eH, hT⟩
    obtain ⟨as, hFa, hP⟩ := hT
    have hal := Paired.length hP
    have hpl : (preC total i).length ≤ 28561 := Nat.le_trans (preC_len total ht i) (Nat.le_trans (Nat.pow_le_pow_right (by omega) (show i ≤ 4 by omega)) (by decide))
    have hpl2 := preC_len total ht (i + 1)
    have hpl3 : 13 ^ (i + 1) ≤ 28561 := Nat.le_trans (Nat.pow_le_pow_right (by omega) (show i + 1 ≤ 4 by omega)) (by decide)
    refine ⟨by show 0 ≤ sizeLine; exact Nat.zero_le _, fun Lo hLo => ?_⟩
    refine ⟨_, rfl, Fa, rfl, ⟨_, sl_of' ((Ex.new hLo) _ _ hFa)⟩, ?_⟩
    have hFL : Fa ≠ Lo := ne_of_none hFa hLo
    refine for_list (a := Fa) (xs := ARefs as) (fun j σ H2 => ∃ (v5 v6 : Option V), σ = [some (.int n), some (.int total), some (.ref Fa), some (.int i), some (.ref Lo), v5, v6] ∧ Ex H' H2 ∧ TupsAt H2 Lo (((preC total i).take j).flatMap fun row => (List.range (total - row.sum + 1)).map fun one => row ++ [one]))
      ⟨v5, v6, rfl, Ex.new hLo, [], upd_same, .nil⟩ (fun j σ H2 _ z => let ⟨_, _, _, e, _⟩ := z; sl_of' (e _ _ hFa)) ?_ ?_
    · rintro j x σ H2 hj ⟨v5, v6, rfl, e2, hT⟩
      obtain ⟨ra, hra, rfl⟩ := aref_of hj
      obtain ⟨row, hrow, hr⟩ := paired_at hP hra
      have hrm := preC_mem (List.mem_of_getElem? hrow)
      have htake : ((preC total i).take (j + 1)).flatMap (fun row => (List.range (total - row.sum + 1)).map fun one => row ++ [one]) = ((preC total i).take j).flatMap (fun row => (List.range (total - row.sum + 1)).map fun one => row ++ [one]) ++ (List.range (total - row.sum + 1)).map fun one => row ++ [one] := by
        rw [take_snoc hrow, List.flatMap_append]
        simp
      rw [htake]
      have hTl : ∀ l : List (List Nat), (l.flatMap fun row => (List.range (total - row.sum + 1)).map fun one => row ++ [one]).length ≤ 13 * l.length := by
        intro l
        induction l with
        | nil => exact Nat.le_refl _
        | cons a r ih =>
          rw [List.flatMap_cons, List.length_append, List.length_cons, List.length_map, List.length_range]
          omega
      have hTl2 := hTl ((preC total i).take j)
      have hjl := (List.getElem?_eq_some_iff.mp hrow).1
      rw [List.length_take] at hTl2
      obtain ⟨xs, hxs⟩ : ∃ xs, H2 Lo = some (.lst xs) := let ⟨bs, z, _⟩ := hT; ⟨_, z⟩
      have hr2 := e2 _ _ hr
      refine ⟨_, rfl, .inl ⟨rfl, _, sl_of' hxs⟩, _, rfl, _, rfl, ra, zI row, rfl, by rw [← nVs_zI]; exact st_of' hr2, _, _, rfl, rfl, _, _, rfl, rfl, ((total - row.sum + 1 : Nat) : Int), ?_, by omega, by omega, fun D hD => ?_⟩
      · rw [zI_sum]
        show [V.int ((total : Int) - (row.sum : Nat) + 1)] = _
        rw [show ((total : Int) - ((row.sum : Nat) : Int) + 1) = ((total - row.sum + 1 : Nat) : Int) by omega]
      refine lc_tupsR ((List.range (total - row.sum + 1)).map fun one => row ++ [one]) (by rw [List.length_map, List.length_range]; rfl) hD (by have : ((total - row.sum + 1 : Nat) : Int).toNat = total - row.sum + 1 := rfl; omega) ?_ ?_
      · intro k c H3 Qy hc e3 hq Qn
        obtain ⟨hk, rfl⟩ := rg_get hc
        have hr3 := e3 _ _ hr2
        refine ⟨rfl, _, rfl, _, rfl, by show 1 ≤ sizeLine; exact szs (by omega), fun u hu => ?_⟩
        refine ⟨ra, u, nVs row, [nV k], rfl, rfl, st_of' ((Ex.new hu) _ _ hr3), st_of' upd_same, ?_, ?_, ?_, ?_⟩
        · rw [nVs_len]
          show row.length + 1 ≤ sizeLine
          exact szs (by omega)
        · intro hnil
          refine hq u _ (Ex.new hu) ?_
          have : row = [] := by
            unfold nVs at hnil
            exact List.map_eq_nil_iff.mp hnil
          show upd H3 u _ u = _
          rw [upd_same, this]
          rfl
        · intro _ z
          cases z
        · intro _ _ p hp
          refine hq p _ (Ex.upd_new (Ex.new hu) hp) ?_
          show upd _ p _ p = _
          rw [upd_same, nVs_app]
          rfl
      · intro H3 e3 hT3
        have hxs3 := e3 _ _ hxs
        obtain ⟨ys, hys, hl1, hl2, hTT⟩ := TupsAt.app (TupsAt.ex e3 hT) hxs3 hT3
        rw [List.length_map, List.length_range] at hl2
        have hxl : xs.length ≤ 13 * ((preC total i).take j).length := by rw [hl1]; exact hTl _
        rw [List.length_take] at hxl
        refine ⟨Lo, D, xs, ys, rfl, rfl, hxs3, hys, szs (by omega), _, v6, rfl, Ex.mut (e2.trans e3) hLo, hTT⟩
    · rintro σ H2 ⟨v5, v6, rfl, e2, hT⟩
      rw [aref_len, hal, List.take_length] at hT
      exact ⟨_, rfl, Lo, _, _, _, _, rfl, eH.trans e2, hT⟩
  · rintro σ H' ⟨Fa, v3, v4, v5, v6, rfl, eH, hT⟩
    obtain ⟨as, hFa, hP⟩ := hT
    have hal := Paired.length hP
    have hpl : (preC total (n - 1)).length ≤ 28561 := Nat.le_trans (preC_len total ht (n - 1)) (Nat.le_trans (Nat.pow_le_pow_right (by omega) (show n - 1 ≤ 4 by omega)) (by decide))
    have hcf : Ks578.configurations n total = (preC total (n - 1)).map fun row => row ++ [total - row.sum] := by
      have := conf_last total (n - 1)
      rw [show n - 1 + 1 = n by omega] at this
      exact this
    refine ⟨_, rfl, Fa, rfl, ⟨_, sl_of' hFa⟩, fun D hD => ?_⟩
    refine lc_tups ((preC total (n - 1)).map fun row => row ++ [total - row.sum]) (by rw [List.length_map, aref_len, hal]) (sl_of' hFa) hD (by rw [aref_len]; omega) ?_ ?_
    · intro j x c H3 Qy hj hc e3 hq Qn
      obtain ⟨ra, hra, rfl⟩ := aref_of hj
      obtain ⟨row, hrow, hr⟩ := paired_at hP hra
      have hrm := preC_mem (List.mem_of_getElem? hrow)
      rw [List.getElem?_map, hrow] at hc
      obtain rfl := Option.some.inj hc
      have hr3 := e3 _ _ hr
      refine ⟨rfl, _, rfl, _, rfl, _, rfl, ra, zI row, rfl, by rw [← nVs_zI]; exact st_of' hr3, _, _, rfl, rfl, by show 1 ≤ sizeLine; exact szs (by omega), fun u hu => ?_⟩
      have hval : (total : Int) - (zI row).sum = ((total - row.sum : Nat) : Int) := by rw [zI_sum]; omega
      have hu2 : (upd H3 u (.tup [V.int ((total : Int) - (zI row).sum)])) u = some (.tup [nV (total - row.sum)]) := by rw [upd_same, hval]
      refine ⟨ra, u, nVs row, [nV (total - row.sum)], rfl, rfl, st_of' ((Ex.new hu) _ _ hr3), st_of' hu2, ?_, ?_, ?_, ?_⟩
      · rw [nVs_len]
        show row.length + 1 ≤ sizeLine
        exact szs (by omega)
      · intro hnil
        refine hq u _ (Ex.new hu) ?_
        have : row = [] := by
          unfold nVs at hnil
          exact List.map_eq_nil_iff.mp hnil
        subst this
        exact hu2
      · intro _ z
        cases z
      · intro _ _ p hp
        refine hq p _ (Ex.upd_new (Ex.new hu) hp) ?_
        show upd _ p _ p = _
        rw [upd_same, nVs_app]
        rfl
    · intro H3 e3 hT3
      refine q D H3 (fresh_back eH hD) (eH.trans e3) ?_
      rw [hcf]
      exact ⟨hT3, by rw [List.length_map]; exact hpl⟩
end PBW

namespace PBW
open PySem PySem.Spec PyProof.Rows L2 Evl PB
open Ks577 (Graph pebblesAt isAdjacent)
variable {P : Program} {w : World} {K : PySem.W.Frag} {mg : Str → Option Value} {base : Heap} {ad : Adr}
def kn (f : List Nat → Bool) (Ks : List (List Nat)) : List (List Key × V) := Ks.map fun d => (kT d, .bl (f d))
theorem valV_kn (f : List Nat → Bool) (d : List Nat) : ∀ L : List (List Nat), valV (kn f L) (kT d) = if d ∈ L then some (.bl (f d)) else none
  | [] => by simp [kn, valV]
  | e :: r => by
    have ih := valV_kn f d r
    unfold valV kn at ih ⊢
    rw [List.map_cons, List.find?_cons]
    by_cases h : d = e
    · subst h
      simp
    · rw [decide_eq_false (fun z : kT e = kT d => h (kT_inj z).symm)]
      simp only
      rw [ih]
      simp [h]
theorem kn_put (f : List Nat → Bool) (Ks : List (List Nat)) (d : List Nat) : putK (kn f Ks) (kT d) (.bl (f d)) = kn f (if d ∈ Ks then Ks else Ks ++ [d]) := by
  by_cases h : d ∈ Ks
  · rw [if_pos h]
    unfold putK
    rw [if_pos (by rw [valV_any, valV_kn, if_pos h]; rfl)]
    unfold kn
    rw [List.map_map]
    refine List.map_congr_left fun u _ => ?_
    show (if kT u = kT d then _ else _) = _
    by_cases e : kT u = kT d
    · rw [if_pos e, kT_inj e]
    · rw [if_neg e]
  · rw [putK_new _ (by rw [valV_kn, if_neg h]), if_neg h]
    unfold kn
    rw [List.map_append]
    rfl
def SF (rws : Addr) (t : Nat) (b : Bool) (kd : Addr) : List (Str × V) := [("rows", .ref rws), ("target", .int t), ("rubbling", .bl b), ("known", .ref kd)]
/-- what tells which configurations let a target be reached; X: what it does not touch -/
structure SolvedX (ad : Adr) (H : Hp) (a kd : Addr) (g : Graph) (t : Nat) (b : Bool) (X : Addr → Prop) (dx rws : Addr) (as : List Addr) (Ks : List (List Nat)) : Prop where
  ins : H a = some (.ins ad.C_Solved dx (SF rws t b kd))
  rows : H rws = some (.lst (ARefs as))
  row : Paired (LstOf H) as (rowsG g)
  known : H kd = some (.dT (kn (solv g b t) Ks))
  nd : Ks.Nodup
  cfg : ∀ d ∈ Ks, d.length = g.vertexCount ∧ d.sum ≤ 12
  off : ¬ X rws
  offs : ∀ x ∈ as, ¬ X x
def SolvedAt (ad : Adr) (H : Hp) (a kd : Addr) (g : Graph) (t : Nat) (b : Bool) (X : Addr → Prop) : Prop := ∃ dx rws as Ks, SolvedX ad H a kd g t b X dx rws as Ks
/-- only the thing at kd may have changed -/
def Keep1 (kd : Addr) (H H' : Hp) : Prop := ∀ x o, H x = some o → x ≠ kd → H' x = some o
theorem Keep1.refl (kd : Addr) (H : Hp) : Keep1 kd H H := fun _ _ h _ => h
theorem Keep1.trans {kd : Addr} {H H1 H2 : Hp} (h1 : Keep1 kd H H1) (h2 : Keep1 kd H1 H2) : Keep1 kd H H2 := fun x o h n => h2 x o (h1 x o h n) n
theorem Keep1.ex {kd : Addr} {H H' : Hp} (e : Ex H H') : Keep1 kd H H' := fun x o h _ => e x o h
theorem Keep1.upd {kd : Addr} {H : Hp} {o : HO} : Keep1 kd H (upd H kd o) := fun x u h n => by rw [upd_ne n]; exact h
theorem Keep1.back {kd : Addr} {H H' : Hp} (k : Keep1 kd H H') {p : Addr} (hk : p ≠ kd) (h : H' p = none) : H p = none := by
  cases q : H p with
  | none => rfl
  | some o => rw [k p o q hk] at h; cases h
theorem Keep1.tup {kd : Addr} {H H' : Hp} {kvs : List (List Key × V)} (k : Keep1 kd H H') (hk : H kd = some (.dT kvs)) {q : Addr} {x : List Nat} (h : TupOf H q x) : TupOf H' q x := k q _ h (ne_of h hk (fun z => nomatch z))
theorem Keep1.lst {kd : Addr} {H H' : Hp} {kvs : List (List Key × V)} (k : Keep1 kd H H') (hk : H kd = some (.dT kvs)) {q : Addr} {xs : List V} (h : H q = some (.lst xs)) : H' q = some (.lst xs) := k q _ h (ne_of h hk (fun z => nomatch z))
section
variable {H H' : Hp} {a kd dx rws : Addr} {g : Graph} {t : Nat} {b : Bool} {X : Addr → Prop} {as : List Addr} {Ks : List (List Nat)}
theorem SolvedX.rowsAt (S : SolvedX ad H a kd g t b X dx rws as Ks) : RowsAt H rws (rowsG g) := ⟨as, S.rows, S.row⟩
/-- .. and another known -/
theorem SolvedX.set (S : SolvedX ad H a kd g t b X dx rws as Ks) (k : Keep1 kd H H') {Ks' : List (List Nat)} (hk : H' kd = some (.dT (kn (solv g b t) Ks'))) (nd : Ks'.Nodup) (cfg : ∀ d ∈ Ks', d.length = g.vertexCount ∧ d.sum ≤ 12) : SolvedX ad H' a kd g t b X dx rws as Ks' where
  ins := k a _ S.ins (ne_of S.ins S.known (fun z => nomatch z))
  rows := k.lst S.known S.rows
  row := Paired.mapP S.row fun a c h => k.lst S.known h
  known := hk
  nd := nd
  cfg := cfg
  off := S.off
  offs := S.offs
theorem SolvedAt.ex (h : SolvedAt ad H a kd g t b X) (e : Ex H H') : SolvedAt ad H' a kd g t b X := let ⟨dx, rws, as, Ks, S⟩ := h; ⟨dx, rws, as, Ks, e _ _ S.ins, e _ _ S.rows, lsts_ex e S.row, e _ _ S.known, S.nd, S.cfg, S.off, S.offs⟩
theorem SolvedAt.dT (h : SolvedAt ad H a kd g t b X) : ∃ kvs, H kd = some (.dT kvs) := let ⟨_, _, _, _, S⟩ := h; ⟨_, S.known⟩
/-- another's known changes -/
theorem SolvedAt.keep1 {kd2 : Addr} {kvs : List (List Key × V)} (h : SolvedAt ad H a kd g t b X) (k : Keep1 kd2 H H') (h2 : H kd2 = some (.dT kvs)) (hne : kd ≠ kd2) : SolvedAt ad H' a kd g t b X :=
  let ⟨dx, rws, as, Ks, S⟩ := h
  ⟨dx, rws, as, Ks, k _ _ S.ins (ne_of S.ins h2 (fun z => nomatch z)), k.lst h2 S.rows, Paired.mapP S.row (fun a c q => k.lst h2 q), k _ _ S.known hne, S.nd, S.cfg, S.off, S.offs⟩
end
theorem upd_mid {H : Hp} {a kd : Addr} {x y o : HO} (h : kd ≠ a) : upd (upd (upd H a x) kd o) a y = upd (upd H kd o) a y := by
  funext z
  unfold upd
  by_cases h1 : z = a
  · rw [if_pos h1, if_pos h1]
  · rw [if_neg h1, if_neg h1]
    by_cases h2 : z = kd
    · rw [if_pos h2, if_neg h1]
    · rw [if_neg h2, if_neg h1]
def sp_Solved_init (ad : Adr) : Sp := fun vs H Q _ => ∃ (a dx rws : Addr) (t : Nat) (b : Bool), vs = [.ref a, .ref rws, .int t, .bl b] ∧ H a = some (.ins ad.C_Solved dx []) ∧
  ∀ kd, H kd = none → Q .non (upd (upd H kd (.dT [])) a (.ins ad.C_Solved dx (SF rws t b kd)))
def sp_is_solved (ad : Adr) (N : Nat) : Sp := fun vs H Q _ => ∃ (a kd pa : Addr) (g : Graph) (t : Nat) (b : Bool) (c : List Nat) (X : Addr → Prop), vs = [.ref a, .ref pa] ∧ WG g ∧ SolvedAt ad H a kd g t b X ∧ TupOf H pa c ∧ c.length = g.vertexCount ∧ c.sum ≤ N ∧ N ≤ 12 ∧ t < g.vertexCount ∧
  ∀ H2, Keep1 kd H H2 → SolvedAt ad H2 a kd g t b X → Q (.bl (solv g b t c)) H2
def spL (ad : Adr) : Nat → Sp
  | 0 => fun _ _ _ _ => False
  | N + 1 => sp_is_solved ad N
theorem ok_Solved_is_solved' (T : Txt K mg ad) : ∃ fd, (∀ N, FnOk P w K mg base CX0 (3 + N) ad.f_Solved_is_solved fd ["self", "pebbles"] (spL ad N)) ∧ L2.Binds K fd ["self", "pebbles"] [] := by
  obtain ⟨fd, F⟩ := T.F_Solved_is_solved
  have B_Solved_is_solved : L2.Binds K fd ["self", "pebbles"] [] := F.binds fun _ _ _ _ _ _ us hl => match us, hl with | [_, _], _ => rfl
  refine ⟨fd, fun N => ?_, B_Solved_is_solved⟩
  obtain ⟨fd_behind, G_behind, B_behind⟩ := ok_behind (P := P) (w := w) (base := base) T
  induction N with
  | zero => exact F.ok sc_Solved_is_solved (fun vs H Q E h => h.elim) (fun cdv A outer s H vs Q E hr h => h.elim)
  | succ N G_Solved_is_solved =>
  refine F.ok sc_Solved_is_solved (fun vs H Q E h => ?_) (fun cdv A outer s H vs Q E hr h => ?_)
  · obtain ⟨_, _, _, _, _, _, _, _, rfl, _⟩ := h
    rfl
  have hu := hu_of hr
  have hr : Room (3 + N) _ := hr
  refine ⟨_, (pss_cons (ps_if (pt_cmpR op_gt (pe_ix ix_tup (pv 1) (pe_fld (pv 0) rfl) (fun _ _ => rfl)) pe_int (nomark _)) (pss_one (ps_ret pe_bl)) pss_nil)
      (pss_cons (ps_if (pt_cmp (pc_dnotin hu (pv 1) (pe_fld (pv 0) rfl))) (pss_cons (ps_set (i := 2) sc_Solved_is_solved.nd rfl (by first | exact Or.inl rfl | exact Or.inr rfl) pe_bl)
      (pss_cons (ps_for PassesOwn.never rfl (pi_list (pe_call G_behind (hr.mono (by omega)) (by rfl) T.g_behind T.k_behind B_behind .nil pass0 (by exact (pa_cons (pe_fld (pv 0) rfl) (pa_cons (pv 1) (pa_cons (pe_fld (pv 0) rfl) pa_nil)))))) (pg_name (i := 3) sc_Solved_is_solved.nd rfl (by first | exact Or.inl rfl | exact Or.inr rfl)) (pss_one (ps_if (pt_val (pe_meth (pv 0) T.cl_Solved T.m_Solved_is_solved G_Solved_is_solved (hr.mono (by omega)) B_Solved_is_solved .nil pass0 (by exact (pa_cons (pv 3) pa_nil)))) (pss_cons (ps_set (i := 2) sc_Solved_is_solved.nd rfl (by first | exact Or.inl rfl | exact Or.inr rfl) pe_bl)
      (pss_one ps_break)) pss_nil)))
      (pss_one (ps_dput hu (pe_fld (pv 0) rfl) (pv 1) (pv 2) rfl)))) pss_nil)
      (pss_one (ps_ret (pe_dget hu (pe_fld (pv 0) rfl) (pv 1) (fun _ _ => rfl)))))) , ?_⟩
  obtain ⟨a, kd, pa, g, t, b, c, X, rfl, W, S, hc, hl, hs, hN, ht, q⟩ := h
  obtain ⟨dx, rws, as, Ks, S⟩ := S
  have hn5 := W.few
  have key := solv_eq (rub := b) (t := t) W hl
  refine ⟨_, rfl, _, rfl, a, _, dx, _, _, rfl, S.ins, T.cl_Solved, T.na_Solved_target, rfl, pa, _, _, _, rfl, rfl, st_of' hc, at_nVs (by omega), _, _, rfl, rfl, _, rfl, ?_⟩
  by_cases hpos : 0 < pebblesAt c t
  · refine if_true_of (decide_eq_true (by unfold pebblesAt at hpos; omega)) ?_
    have q2 := q H (Keep1.refl kd H) ⟨dx, rws, as, Ks, S⟩
    rw [key, decide_eq_true hpos, Bool.true_or] at q2
    exact q2
  refine if_false_of (decide_eq_false (by unfold pebblesAt at hpos; omega)) ?_
  rw [decide_eq_false hpos, Bool.false_or] at key
  refine ⟨_, rfl, _, rfl, a, _, dx, _, _, rfl, S.ins, T.cl_Solved, T.na_Solved_known, rfl, kd, _, rfl, DGet.t (k := kT c) S.known (by rw [kT_V]; exact hc), _, rfl, ?_⟩
  rw [valV_kn]
  by_cases hin : c ∈ Ks
  · rw [if_pos hin]
    refine if_false_of rfl ?_
    have hval := DGet.t (k := kT c) S.known (by rw [kT_V]; exact hc)
    rw [valV_kn, if_pos hin] at hval
    exact ⟨_, rfl, a, _, dx, _, _, rfl, S.ins, T.cl_Solved, T.na_Solved_known, rfl, _, rfl, kd, _, rfl, hval, q H (Keep1.refl kd H) ⟨dx, rws, as, Ks, S⟩⟩
  rw [if_neg hin]
  refine if_true_of rfl ?_
  refine ⟨_, rfl, a, _, dx, _, _, rfl, S.ins, T.cl_Solved, T.na_Solved_rows, rfl, _, rfl, _, rfl, a, _, dx, _, _, rfl, S.ins, T.cl_Solved, T.na_Solved_rubbling, rfl, rws, pa, g, c, b, rfl, W, S.rowsAt, hc, hl, fun p H2 hp e2 h2 => ?_⟩
  obtain ⟨L, hT, hLl, hmem⟩ := h2
  obtain ⟨ls, hls, hlP⟩ := hT
  have hany : (sucB g b c).any (solv g b t) = L.any (solv g b t) := by
    rw [Bool.eq_iff_iff, List.any_eq_true, List.any_eq_true]
    exact ⟨fun ⟨x, h1, h2⟩ => ⟨x, (hmem x).mpr h1, h2⟩, fun ⟨x, h1, h2⟩ => ⟨x, (hmem x).mp h1, h2⟩⟩
  rw [hany] at key
  -- behind the loop: known and the answer
  have fin : ∀ (v3 : Option V) (H3 : Hp), Keep1 kd H H3 → SolvedAt ad H3 a kd g t b X → tSeq (sDPut (tFld K (tVar 0) (Str.ofString "known")) (tVar 1) (tVar 2)) (tRet (tDGet (tFld K (tVar 0) (Str.ofString "known")) (tVar 1))) { nx := fun x H' => Q V.non H', rt := Q } [some (.ref a), some (.ref pa), some (.bl (solv g b t c)), v3] H3 := by
    rintro v3 H3 k3 ⟨dx, rws, as, Ks, S3⟩
    have hc3 := k3.tup S.known hc
    have hfew := few_cfgs hn5 S3.nd S3.cfg
    refine ⟨_, rfl, _, rfl, a, _, dx, _, _, rfl, S3.ins, T.cl_Solved, T.na_Solved_known, rfl, _, rfl, kd, _, rfl, DPut.t (k := kT c) S3.known (by rw [kT_V]; exact hc3) (by unfold kn; rw [List.length_map]; exact szl (by omega)), ?_⟩
    rw [kn_put]
    have k4 : Keep1 kd H3 (upd H3 kd (.dT (kn (solv g b t) (if c ∈ Ks then Ks else Ks ++ [c])))) := Keep1.upd
    have S4 := S3.set (Ks' := if c ∈ Ks then Ks else Ks ++ [c]) k4 upd_same (by
      split
      · exact S3.nd
      · next h => rw [List.nodup_append]; exact ⟨S3.nd, by simp, fun u hu v hv z => h (by rw [List.mem_singleton.mp hv] at z; rw [← z]; exact hu)⟩) (by
      intro d hd
      split at hd
      · exact S3.cfg d hd
      · rcases List.mem_append.mp hd with hd | hd
        · exact S3.cfg d hd
        · rw [List.mem_singleton.mp hd]; exact ⟨hl, by omega⟩)
    have hc4 := k4.tup S3.known hc3
    have hval := DGet.t (k := kT c) S4.known (by rw [kT_V]; exact hc4)
    have hmc : c ∈ (if c ∈ Ks then Ks else Ks ++ [c]) := by
      split
      · assumption
      · exact List.mem_append_right _ (List.mem_singleton.mpr rfl)
    rw [valV_kn, if_pos hmc] at hval
    exact ⟨_, rfl, a, _, dx, _, _, rfl, S4.ins, T.cl_Solved, T.na_Solved_known, rfl, _, rfl, kd, _, rfl, hval, q _ (k3.trans k4) ⟨dx, rws, as, _, S4⟩⟩
  refine ⟨p, rfl, ⟨_, sl_of' hls⟩, ?_⟩
  refine for_list (a := p) (xs := ARefs ls) (fun k σ H3 => ∃ v3, σ = [some (.ref a), some (.ref pa), some (.bl false), v3] ∧ Keep1 kd H2 H3 ∧ SolvedAt ad H3 a kd g t b X ∧ (L.take k).any (solv g b t) = false)
    ⟨none, rfl, Keep1.refl _ _, SolvedAt.ex ⟨dx, rws, as, Ks, S⟩ e2, by rw [List.take_zero]; rfl⟩ (fun k σ H3 _ z => let ⟨_, _, k3, _, _⟩ := z; sl_of' (k3.lst (e2 _ _ S.known) hls)) ?_ ?_
  · rintro k y σ H3 hk ⟨v3, rfl, k3, S3, hno⟩
    obtain ⟨u, hu, rfl⟩ := aref_of hk
    obtain ⟨d, hd, hdu⟩ := paired_at hlP hu
    have hdm := (hmem d).mp (List.mem_of_getElem? hd)
    have hds := suc_sum W hl hdm
    have hdl := suc_length W hl hdm
    obtain ⟨N, rfl⟩ : ∃ M, N = M + 1 := ⟨N - 1, by omega⟩
    refine ⟨_, rfl, a, ?_⟩
    obtain ⟨dx3, rws3, as3, Ks3, S3x⟩ := S3
    refine ⟨dx3, _, rfl, S3x.ins, rfl, _, rfl, a, kd, u, g, t, b, d, X, rfl, W, ⟨dx3, rws3, as3, Ks3, S3x⟩, k3.tup (e2 _ _ S.known) hdu, hdl, by omega, by omega, ht, fun H4 k4 S4 => ⟨_, rfl, ?_⟩⟩
    cases hsv : solv g b t d with
    | true =>
      refine if_true_of rfl ?_
      have : solv g b t c = true := by
        rw [key, List.any_eq_true]
        exact ⟨d, List.mem_of_getElem? hd, hsv⟩
      have f := fin (some (.ref u)) H4 ((Keep1.ex e2).trans (k3.trans k4)) S4
      rw [this] at f
      exact f
    | false =>
      refine if_false_of rfl ⟨_, rfl, k3.trans k4, S4, ?_⟩
      rw [take_snoc hd, List.any_append, hno, Bool.false_or]
      simp [hsv]
  · rintro σ H3 ⟨v3, rfl, k3, S3, hno⟩
    rw [aref_len, Paired.length hlP, List.take_length] at hno
    have : solv g b t c = false := by rw [key, hno]
    have f := fin v3 H3 ((Keep1.ex e2).trans k3) S3
    rw [this] at f
    exact f
end PBW

namespace PBW
open PySem PySem.Spec PyProof.Rows L2 Evl PB
open Ks577 (Graph pebblesAt isAdjacent)
variable {P : Program} {w : World} {K : PySem.W.Frag} {mg : Str → Option Value} {base : Heap} {ad : Adr}
theorem Paired.imp_mem {α β : Type} {F G : α → β → Prop} : ∀ {l : List α} {m : List β}, Paired F l m → (∀ a ∈ l, ∀ b, F a b → G a b) → Paired G l m
  | _, _, .nil, _ => .nil
  | _, _, .cons r t, h => .cons (h _ (List.mem_cons_self ..) _ r) (Paired.imp_mem t fun a ha b q => h a (List.mem_cons_of_mem _ ha) b q)
section
variable {H H' : Hp} {a kd D : Addr} {g : Graph} {t : Nat} {b : Bool} {X X' : Addr → Prop}
theorem Keep1.mut {kd : Addr} {H H' : Hp} (k : Keep1 kd H H') {D : Addr} {o : HO} (h : H D = none) : Keep1 kd H (L2.upd H' D o) := fun x u hx n => by
  rw [upd_ne (ne_of_none hx h)]
  exact k x u hx n
theorem SolvedAt.weak (h : SolvedAt ad H a kd g t b X) (w : ∀ x, X' x → X x) : SolvedAt ad H a kd g t b X' := let ⟨dx, rws, as, Ks, S⟩ := h; ⟨dx, rws, as, Ks, { S with off := fun z => S.off (w _ z), offs := fun x hx z => S.offs x hx (w _ z) }⟩
theorem SolvedAt.fresh (h : SolvedAt ad H a kd g t b X) (hD : H D = none) : SolvedAt ad H a kd g t b (fun x => X x ∨ x = D) :=
  let ⟨dx, rws, as, Ks, S⟩ := h
  ⟨dx, rws, as, Ks, { S with
    off := fun z => z.elim S.off fun e => by
      have := S.rows
      rw [e, hD] at this
      cases this
    offs := fun x hx z => z.elim (S.offs x hx) fun e => by
      obtain ⟨j, hj⟩ := List.getElem?_of_mem hx
      obtain ⟨c, _, hc⟩ := paired_at S.row hj
      have hc : H x = some (.lst (nVs c)) := hc
      rw [e, hD] at hc
      cases hc }⟩
theorem SolvedAt.mutX (h : SolvedAt ad H a kd g t b X) (hX : X D) {xs : List V} (hD : H D = some (.lst xs)) {o : HO} : SolvedAt ad (upd H D o) a kd g t b X :=
  let ⟨dx, rws, as, Ks, S⟩ := h
  ⟨dx, rws, as, Ks, { S with
    ins := by rw [upd_ne (ne_of S.ins hD (fun z => nomatch z))]; exact S.ins
    rows := by rw [upd_ne (fun e : rws = D => S.off (by rw [e]; exact hX))]; exact S.rows
    row := Paired.imp_mem S.row fun x hx c hc => by
      show upd H D o x = _
      rw [upd_ne (fun e : x = D => S.offs x hx (by rw [e]; exact hX))]
      exact hc
    known := by rw [upd_ne (ne_of S.known hD (fun z => nomatch z))]; exact S.known }⟩
end
theorem ok_Solved_init (T : Txt K mg ad) : Ok P w K mg base CX0 1 ad.f_Solved_init ["self", "rows", "target", "rubbling"] (sp_Solved_init ad) := by
  obtain ⟨fd, F⟩ := T.F_Solved_init
  refine ⟨fd, F.ok sc_Solved_init (fun vs H Q E h => ?_) (fun cdv A outer s H vs Q E hr h => ?_), F.binds fun _ _ _ _ _ _ us hl => match us, hl with | [_, _, _, _], _ => rfl⟩
  · obtain ⟨_, _, _, _, _, rfl, _⟩ := h
    rfl
  have hu := hu_of hr
  refine ⟨_, (pss_cons (ps_fld (pv 0) (pv 1) rfl)
      (pss_cons (ps_fld (pv 0) (pv 2) rfl)
      (pss_cons (ps_fld (pv 0) (pv 3) rfl)
      (pss_one (ps_fld (pv 0) pe_dnewT rfl))))), ?_⟩
  obtain ⟨a, dx, rws, t, b, rfl, ha, q⟩ := h
  refine ⟨_, rfl, _, rfl, a, _, dx, _, rfl, ha, T.cl_Solved, T.na_Solved_rows, by decide, ?_⟩
  refine ⟨_, rfl, _, rfl, a, _, dx, _, rfl, upd_same, T.cl_Solved, T.na_Solved_target, by show 1 < 1000; decide, ?_⟩
  rw [upd_upd]
  refine ⟨_, rfl, _, rfl, a, _, dx, _, rfl, upd_same, T.cl_Solved, T.na_Solved_rubbling, by show 2 < 1000; decide, ?_⟩
  rw [upd_upd]
  intro kd hkd
  have hka : kd ≠ a := fun z => by rw [z, upd_same] at hkd; cases hkd
  refine ⟨_, rfl, a, _, dx, _, rfl, (Ex.new hkd) _ _ upd_same, T.cl_Solved, T.na_Solved_known, by show 3 < 1000; decide, ?_⟩
  rw [upd_mid hka]
  rw [upd_ne hka] at hkd
  exact q kd hkd
theorem ok_Solved_is_solved (T : Txt K mg ad) : Ok P w K mg base CX0 16 ad.f_Solved_is_solved ["self", "pebbles"] (sp_is_solved ad 12) :=
  let ⟨fd, h1, h2⟩ := ok_Solved_is_solved' (P := P) (w := w) (base := base) T
  ⟨fd, h1 13, h2⟩
def sp_Solved_unsolvable (ad : Adr) : Sp := fun vs H Q _ => ∃ (a kd : Addr) (g : Graph) (t : Nat) (b : Bool) (n : Nat) (X : Addr → Prop), vs = [.ref a, .int n] ∧ WG g ∧ SolvedAt ad H a kd g t b X ∧ n ≤ 12 ∧ t < g.vertexCount ∧
  ∀ H2 p, Keep1 kd H H2 → SolvedAt ad H2 a kd g t b X → H p = none → TupsAt H2 p (unsB g b t n) → (unsB g b t n).length ≤ 28561 → Q (.ref p) H2
theorem ok_Solved_unsolvable (T : Txt K mg ad) : Ok P w K mg base CX0 17 ad.f_Solved_unsolvable ["self", "total"] (sp_Solved_unsolvable ad) := by
  obtain ⟨fd, F⟩ := T.F_Solved_unsolvable
  obtain ⟨fd_Solved_is_solved, G_Solved_is_solved, B_Solved_is_solved⟩ := ok_Solved_is_solved (P := P) (w := w) (base := base) T
  obtain ⟨fd_configurations, G_configurations, B_configurations⟩ := ok_configurations (P := P) (w := w) (base := base) T
  refine ⟨fd, F.ok sc_Solved_unsolvable (fun vs H Q E h => ?_) (fun cdv A outer s H vs Q E hr h => ?_), F.binds fun _ _ _ _ _ _ us hl => match us, hl with | [_, _], _ => rfl⟩
  · obtain ⟨_, _, _, _, _, _, _, rfl, _⟩ := h
    rfl
  have hu := hu_of hr
  refine ⟨_, (pss_one (ps_ret (by exact (pe_lc (own := [("one", 2)]) rfl sc_Solved_unsolvable.nd (pi_list (pe_call G_configurations (hr.mono (by decide)) (by rfl) T.g_configurations T.k_configurations B_configurations .nil pass0 (by exact (pa_cons (pe_callB call_len_seq (by rfl) T.n_len (by decide +kernel) (by exact (pa_cons (pe_fld (pv 0) rfl) pa_nil))) (pa_cons (pv 1) pa_nil))))) (blkOk_by (own := [("one", 2)]) (N := N_Solved_unsolvable) (sc := defScope s_Solved_unsolvable) (by decide +kernel)) (fun _ _ _ _ _ => (pg_name (i := 2) sc_Solved_unsolvable.nd rfl (by first | exact Or.inl rfl | exact Or.inr rfl))) (fun _ _ _ _ _ => (pts_one (pt_not (pt_val (pe_meth (pv 0) T.cl_Solved T.m_Solved_is_solved G_Solved_is_solved (hr.mono (by decide)) B_Solved_is_solved .nil pass0 (by exact (pa_cons (pv 2) pa_nil))))))) (fun _ _ _ _ _ => (pv 2)))))), ?_⟩
  obtain ⟨a, kd, g, t, b, n, X, rfl, W, S, hn, ht, q⟩ := h
  have hn5 := W.few
  obtain ⟨dx, rws, as, Ks, S⟩ := S
  have hasl : as.length = g.vertexCount := by rw [Paired.length S.row, rowsG_length]
  refine ⟨_, rfl, a, _, dx, _, _, rfl, S.ins, T.cl_Solved, T.na_Solved_rows, rfl, rws, _, rfl, .inl (sl_of' S.rows), _, rfl, g.vertexCount, n, by rw [aref_len, hasl]; rfl, W.pos, hn5, hn, fun p H1 hp e1 h1 => ?_⟩
  obtain ⟨⟨ls, hls, hlP⟩, hcl⟩ := h1
  have hlsl := Paired.length hlP
  refine ⟨p, rfl, ⟨_, sl_of' hls⟩, fun D hD => ?_⟩
  have hD0 : H D = none := fresh_back e1 hD
  have S1 : SolvedAt ad H1 a kd g t b (fun x => X x ∨ x = D) := (SolvedAt.ex ⟨dx, rws, as, Ks, S⟩ e1).fresh hD
  have hkd1 : H1 kd = some (.dT _) := e1 _ _ S.known
  refine lc_list (a := p) (xs := ARefs ls) (fun j H3 => Keep1 kd H1 H3 ∧ SolvedAt ad H3 a kd g t b (fun x => X x ∨ x = D) ∧ TupsAt H3 D (((Ks578.configurations g.vertexCount n).take j).filter fun c => !solv g b t c) ∧ (((Ks578.configurations g.vertexCount n).take j).filter fun c => !solv g b t c).length ≤ j)
    ⟨(Keep1.refl kd H1).mut hD, S1.ex (Ex.new hD), ⟨[], upd_same, .nil⟩, Nat.zero_le _⟩ (fun j H3 _ z => sl_of' (z.1.lst hkd1 hls)) ?_ ?_
  · rintro j x H3 hj ⟨k3, S3, hT, hlen⟩
    obtain ⟨u, hu, rfl⟩ := aref_of hj
    obtain ⟨c, hc, hcu⟩ := paired_at hlP hu
    have hcm := conf_mem.mp (List.mem_of_getElem? hc)
    have hjl := (List.getElem?_eq_some_iff.mp hc).1
    obtain ⟨dx3, rws3, as3, Ks3, S3x⟩ := S3
    have hcu3 := k3.tup hkd1 hcu
    refine ⟨rfl, _, rfl, a, dx3, _, rfl, S3x.ins, rfl, _, rfl, a, kd, u, g, t, b, c, _, rfl, W, ⟨dx3, rws3, as3, Ks3, S3x⟩, hcu3, hcm.1, by omega, by omega, ht, fun H4 k4 S4 => ?_⟩
    have k14 := k3.trans k4
    have hT4 : TupsAt H4 D (((Ks578.configurations g.vertexCount n).take j).filter fun c => !solv g b t c) := by
      obtain ⟨ds, g1, g2⟩ := hT
      exact ⟨ds, k4.lst S3x.known g1, Paired.mapP g2 fun x c q => k4.tup S3x.known q⟩
    rw [take_snoc hc, List.filter_append]
    refine ⟨_, rfl, ?_⟩
    have hlt : (((Ks578.configurations g.vertexCount n).take j).filter fun c => !solv g b t c).length ≤ 28561 := by
      refine Nat.le_trans (List.length_filter_le _ _) ?_
      rw [List.length_take]
      omega
    obtain ⟨ds, hds, hdsP⟩ := hT4
    have hdl := Paired.length hdsP
    cases hsv : solv g b t c with
    | true =>
      refine if_false_of rfl ?_
      rw [List.filter_cons_of_neg (by rw [hsv]; exact Bool.false_ne_true), List.filter_nil, List.append_nil]
      exact ⟨k14, S4, ⟨ds, hds, hdsP⟩, Nat.le_succ_of_le hlen⟩
    | false =>
      refine if_true_of rfl ?_
      rw [List.filter_cons_of_pos (by rw [hsv]; rfl), List.filter_nil]
      refine ⟨_, rfl, ARefs ds, hds, by rw [aref_len, hdl]; exact szl (Nat.lt_of_le_of_lt hlen (by omega)), k14.mut hD, S4.mutX (.inr rfl) hds, TupsAt.push ⟨ds, hds, hdsP⟩ hds (k4.tup S3x.known hcu3), ?_⟩
      rw [List.length_append]
      exact Nat.succ_le_succ hlen
  · rintro H3 ⟨k3, S3, hT, hlen⟩
    rw [aref_len, hlsl, List.take_length] at hT hlen
    exact q H3 D ((Keep1.ex e1).trans k3) (S3.weak fun x hx => .inl hx) hD0 hT (by unfold unsB; omega)
def sp_Solved_number (ad : Adr) : Sp := fun vs H Q _ => ∃ (a kd : Addr) (g : Graph) (t : Nat) (b : Bool) (X : Addr → Prop), vs = [.ref a] ∧ WG g ∧ Small g ∧ SolvedAt ad H a kd g t b X ∧ t < g.vertexCount ∧
  ∀ H2 m, Keep1 kd H H2 → SolvedAt ad H2 a kd g t b X → numB g b t = some m → m ≤ 10 → Q (.int (m : Nat)) H2
theorem ok_Solved_number (T : Txt K mg ad) : Ok P w K mg base CX0 18 ad.f_Solved_number ["self"] (sp_Solved_number ad) := by
  obtain ⟨fd, F⟩ := T.F_Solved_number
  obtain ⟨fd_Solved_unsolvable, G_Solved_unsolvable, B_Solved_unsolvable⟩ := ok_Solved_unsolvable (P := P) (w := w) (base := base) T
  refine ⟨fd, F.ok sc_Solved_number (fun vs H Q E h => ?_) (fun cdv A outer s H vs Q E hr h => ?_), F.binds fun _ _ _ _ _ _ us hl => match us, hl with | [_], _ => rfl⟩
  · obtain ⟨_, _, _, _, _, _, rfl, _⟩ := h
    rfl
  have hu := hu_of hr
  refine ⟨_, (pss_cons (ps_set (i := 1) sc_Solved_number.nd rfl (by first | exact Or.inl rfl | exact Or.inr rfl) pe_int)
      (pss_cons (ps_while PassesOwn.never (pt_cmpR op_gt (pe_callB call_len_seq (by rfl) T.n_len (by decide +kernel) (by exact (pa_cons (pe_meth (pv 0) T.cl_Solved T.m_Solved_unsolvable G_Solved_unsolvable (hr.mono (by decide)) B_Solved_unsolvable .nil pass0 (by exact (pa_cons (pv 1) pa_nil))) pa_nil))) pe_int (nomark _)) (pss_one (ps_aug (i := 1) sc_Solved_number.nd rfl (by first | exact Or.inl rfl | exact Or.inr rfl) pe_int ip_add)))
      (pss_one (ps_ret (pv 1))))), ?_⟩
  obtain ⟨a, kd, g, t, b, X, rfl, W, Sm, S, ht, q⟩ := h
  obtain ⟨m, hm, hm1, hm10, hmn, hmin⟩ := num_some (rub := b) W Sm ht
  refine ⟨fun k σ H' => ∃ i : Nat, k = 20 - i ∧ σ = [some (.ref a), some (.int i)] ∧ 1 ≤ i ∧ i ≤ m ∧ Keep1 kd H H' ∧ SolvedAt ad H' a kd g t b X, ⟨_, 1, rfl, rfl, Nat.le_refl _, hm1, Keep1.refl kd H, S⟩, ?_⟩
  rintro k σ H' ⟨i, rfl, rfl, hi1, him, k1, S1⟩
  obtain ⟨dx, rws, as, Ks, S1x⟩ := S1
  refine ⟨_, rfl, a, dx, _, rfl, S1x.ins, rfl, _, rfl, a, kd, g, t, b, i, X, rfl, W, ⟨dx, rws, as, Ks, S1x⟩, by omega, ht, fun H2 p k2 S2 hp hT hl => ?_⟩
  obtain ⟨ps, h1, h2⟩ := hT
  have hpl := Paired.length h2
  refine ⟨p, _, rfl, .inl (sl_of' h1), _, _, rfl, rfl, _, rfl, ?_⟩
  by_cases he : i = m
  · subst he
    rw [hmn] at hpl
    refine if_false_of (decide_eq_false (by rw [aref_len, hpl]; decide)) ?_
    exact ⟨_, rfl, q H2 i (k1.trans k2) S2 hm hm10⟩
  · have hne := hmin i hi1 (by omega)
    have : 0 < (unsB g b t i).length := List.length_pos_iff.mpr hne
    refine if_true_of (decide_eq_true (by rw [aref_len, hpl]; omega)) ⟨fun σ' H' => ∃ m', m' < 20 - i ∧ _, fun _ _ h => h, ?_⟩
    exact ⟨_, rfl, _, _, rfl, rfl, 20 - (i + 1), by omega, i + 1, rfl, rfl, by omega, by omega, k1.trans k2, S2⟩
end PBW

namespace PBW
open PySem PySem.Spec PyProof.Rows L2 Evl PB
open Ks577 (Graph pebblesAt isAdjacent)
open Ks582 (State)
variable {P : Program} {w : World} {K : PySem.W.Frag} {mg : Str → Option Value} {base : Heap} {ad : Adr}
theorem pe_fldK {X : Cx} {e : Expr} {f : Str} {pos : Pos} {ta : TE} (hK : X.K = K) (he : PE X e ta) (hb : attributeBase e f X.env (eval e X.env) = eval e X.env) : PE X (.Attribute e f pos) (tFld K ta f) := hK ▸ pe_fld he hb
/-! ### refuse_if, lowest -/
def Thrown (ad : Adr) (code : Int) (H : Hp) (E : XK) : Prop := ∀ d, H d = none → E (.ref ad.C_Refused) (some d) (upd H d (.xd [(("code" : Str), .int code)]))
def sp_refuse_if (ad : Adr) : Sp := fun vs H Q E => ∃ (c : Bool) (code : Int), vs = [.bl c, .int code] ∧ (c = false → Q .non H) ∧ (c = true → Thrown ad code H E)
theorem ok_refuse_if (T : Txt K mg ad) : Ok P w K mg base (L2.CX P w) 2 ad.f_refuse_if ["wrong", "code"] (sp_refuse_if ad) := by
  obtain ⟨fd, F⟩ := T.F_refuse_if
  refine ⟨fd, F.okX sc_refuse_if (fun vs H Q E h => ?_) (fun cdv A outer s H vs Q E hr h => ?_), F.binds fun _ _ _ _ _ _ us hl => match us, hl with | [_, _], _ => rfl⟩
  · obtain ⟨_, _, rfl, _⟩ := h
    rfl
  have hu := hu_of hr
  refine ⟨_, (pss_one (ps_if (pt_val (pv 0)) (pss_one (ps_raiseRef rfl T.low hr (takes_of rfl rfl rfl rfl) (by exact (pa_cons (pv 1) pa_nil)))) pss_nil)), ?_⟩
  obtain ⟨c, code, rfl, q1, q2⟩ := h
  refine ⟨_, rfl, c, rfl, ?_⟩
  cases c with
  | false => exact if_false_of rfl (q1 rfl)
  | true =>
    exact if_true_of rfl ⟨_, rfl, _, rfl, q2 rfl⟩
def sp_lowest : Sp := fun vs H Q _ => ∃ (x y : Nat), vs = [.int x, .int y] ∧ 0 < y ∧ y ≤ 1000 ∧ x ≤ 1000000 ∧
  ∀ p H2, H p = none → Ex H H2 → LstOf H2 p [x / Nat.gcd x y, y / Nat.gcd x y] → Q (.ref p) H2
theorem ok_lowest (T : Txt K mg ad) : Ok P w K mg base CX0 1 ad.f_lowest ["above", "below"] (sp_lowest) := by
  obtain ⟨fd, F⟩ := T.F_lowest
  refine ⟨fd, F.ok sc_lowest (fun vs H Q E h => ?_) (fun cdv A outer s H vs Q E hr h => ?_), F.binds fun _ _ _ _ _ _ us hl => match us, hl with | [_, _], _ => rfl⟩
  · obtain ⟨_, _, rfl, _⟩ := h
    rfl
  have hu := hu_of hr
  refine ⟨_, (pss_cons (ps_set (i := 2) sc_lowest.nd rfl (by first | exact Or.inl rfl | exact Or.inr rfl) (pv 0))
      (pss_cons (ps_set (i := 3) sc_lowest.nd rfl (by first | exact Or.inl rfl | exact Or.inr rfl) (pv 1))
      (pss_cons (ps_while PassesOwn.never (pt_cmpR op_gt (pv 2) pe_int (nomark _)) (pss_one (ps_par (i := 2) (j := 3) rfl sc_lowest.nd rfl rfl (by decide) rfl rfl (by exact (pa_cons (pe_op op_modN (pv 3) (pv 2)) (pa_cons (pv 2) pa_nil))) (by rfl))))
      (pss_one (ps_ret (pe_lst (by exact (pa_cons (pe_op op_fdivN (pv 0) (pv 3)) (pa_cons (pe_op op_fdivN (pv 1) (pv 3)) pa_nil))))))))), ?_⟩
  obtain ⟨x, y, rfl, hy, hy2, hx, q⟩ := h
  refine ⟨_, rfl, _, rfl, fun m σ H' => ∃ u v : Nat, m = u ∧ σ = [some (.int x), some (.int y), some (.int u), some (.int v)] ∧ H' = H ∧ Nat.gcd u v = Nat.gcd x y, ⟨x, x, y, rfl, rfl, rfl, rfl⟩, ?_⟩
  rintro u σ H' ⟨_, v, rfl, rfl, rfl, hg⟩
  refine ⟨_, rfl, _, _, rfl, rfl, _, rfl, ?_⟩
  by_cases hu : 0 < u
  · refine if_true_of (decide_eq_true (by omega)) ⟨fun σ' H' => ∃ m', m' < u ∧ _, fun _ _ h => h, ?_⟩
    refine ⟨_, rfl, _, rfl, _, _, rfl, rfl, by omega, _, rfl, _, _, rfl, v % u, Nat.mod_lt _ hu, _, u, rfl, ?_, rfl, by rw [← Nat.gcd_rec]; exact hg⟩
    have e : Int.fmod (v : Int) (u : Int) = ((v % u : Nat) : Int) := by
      rw [Int.fmod_eq_emod_of_nonneg _ (by omega)]
      rfl
    show [some (V.int ↑x), some (V.int ↑y), some (V.int (Int.fmod (v : Int) (u : Int))), some (V.int ↑u)] = _
    rw [e]
  · refine if_false_of (decide_eq_false (by omega)) ?_
    obtain rfl : u = 0 := by omega
    rw [Nat.gcd_zero_left] at hg
    subst hg
    have hgp : 0 < Nat.gcd x y := Nat.gcd_pos_of_pos_right _ hy
    have hgle : Nat.gcd x y ≤ y := Nat.gcd_le_right _ hy
    have e : ∀ z : Nat, Int.fdiv (z : Int) ((Nat.gcd x y : Nat) : Int) = ((z / Nat.gcd x y : Nat) : Int) := fun z => by
      rw [Int.fdiv_eq_ediv_of_nonneg _ (by omega)]
      rfl
    refine ⟨_, rfl, _, rfl, _, _, rfl, rfl, ⟨by omega, by omega⟩, _, rfl, _, rfl, _, _, rfl, rfl, ⟨by omega, by omega⟩, by show 2 ≤ sizeLine; exact szs (by omega), fun p hp => q p _ hp (Ex.new hp) ?_⟩
    show upd _ p _ p = _
    rw [upd_same]
    show some (HO.lst [V.int (Int.fdiv (x : Int) ((Nat.gcd x y : Nat) : Int)), V.int (Int.fdiv (y : Int) ((Nat.gcd x y : Nat) : Int))]) = _
    rw [e, e]
    rfl
end PBW

namespace PBW
open PySem PySem.Spec PyProof.Rows L2 Evl PB
open Ks577 (Graph pebblesAt isAdjacent)
open Ks582 (State)
variable {P : Program} {w : World} {K : PySem.W.Frag} {mg : Str → Option Value} {base : Heap} {ad : Adr}
/-! ### the board as it stands in the heap -/
def BFl (n : Nat) (e p : Addr) (m : Nat) (er so ca : Addr) : List (Str × V) := [("many", nV n), ("edges", .ref e), ("pebbles", .ref p), ("moved", nV m), ("earlier", .ref er), ("solved", .ref so), ("came", .ref ca)]
structure BdOk (n : Nat) (b : Ks582.Board) : Prop where
  wg : WG b.graph
  vc : b.graph.vertexCount = n
  len : b.pebbles.length = n
  sum : b.pebbles.sum ≤ 12
structure StOk (st : State) : Prop where
  bd : BdOk st.board.graph.vertexCount st.board
  old : ∀ b ∈ st.undoStack, BdOk st.board.graph.vertexCount b
  few : st.undoStack.length ≤ 10
/-- what may change: lists of X; (i) the board's own fields -/
def Mv (i : Bool) (X : Addr → Prop) (x : Addr) : HO → Prop
  | .lst _ => X x
  | .ins _ _ fs => i = true ∧ fs.length = 7
  | _ => False
structure KX (i : Bool) (X : Addr → Prop) (H H' : Hp) : Prop where
  st : ∀ x o, H x = some o → ¬ Mv i X x o → H' x = some o
  dom : ∀ x, H' x = none → H x = none
theorem upd_dom {H : Hp} {D : Addr} {o : HO} {x : Addr} (h : upd H D o x = none) : H x = none := by
  by_cases e : x = D
  · rw [e, upd_same] at h
    cases h
  · rwa [upd_ne e] at h
section
variable {i : Bool} {X Y : Addr → Prop} {H H' H1 H2 : Hp} {D x p : Addr} {o : HO}
theorem KX.ex (e : Ex H H') : KX i X H H' := ⟨fun x o h _ => e x o h, fun x h => fresh_back e h⟩
theorem KX.trans (a : KX i X H H1) (b : KX i X H1 H2) : KX i X H H2 := ⟨fun x o h n => b.st x o (a.st x o h n) n, fun x h => a.dom x (b.dom x h)⟩
theorem KX.upd {u : HO} (h : H D = some u) (m : Mv i X D u) : KX i X H (L2.upd H D o) := ⟨fun x v hx n => by
  rw [upd_ne (fun e : x = D => by
    subst e
    rw [h] at hx
    cases hx
    exact n m)]
  exact hx, fun x h => upd_dom h⟩
theorem KX.mut {xs : List V} (h : H D = some (.lst xs)) (hX : X D) : KX i X H (L2.upd H D o) := KX.upd h hX
theorem KX.own {C dx : Addr} {fs : List (Str × V)} (h : H D = some (.ins C dx fs)) (hl : fs.length = 7) : KX true X H (L2.upd H D o) := KX.upd h ⟨rfl, hl⟩
theorem KX.tup (k : KX i X H H') {ys : List V} (h : H x = some (.tup ys)) : H' x = some (.tup ys) := k.st x _ h id
theorem KX.lst (k : KX i X H H') {ys : List V} (h : H x = some (.lst ys)) (n : ¬ X x) : H' x = some (.lst ys) := k.st x _ h n
theorem KX.tups (k : KX i X H H') {L : List (List Nat)} (h : TupsAt H p L) (n : ¬ X p) : TupsAt H' p L := let ⟨as, h1, h2⟩ := h; ⟨as, k.lst h1 n, Paired.mapP h2 fun _ _ q => k.tup q⟩
theorem KX.sub (k : KX i X H H') (s : ∀ x, X x → Y x) : KX i Y H H' := ⟨fun x o h n => k.st x o h fun z => n (by cases o <;> first | exact z | exact s x z), k.dom⟩
theorem KX.may (k : KX i X H H') : KX true X H H' := ⟨fun x o h n => k.st x o h fun z => n (by cases o <;> first | exact z | exact ⟨rfl, z.2⟩), k.dom⟩
end
theorem SolvedAt.kx {i : Bool} {H H' : Hp} {a kd : Addr} {g : Graph} {t : Nat} {b : Bool} {X : Addr → Prop} (h : SolvedAt ad H a kd g t b X) (k : KX i X H H') : SolvedAt ad H' a kd g t b X :=
  let ⟨dx, rws, as, Ks, S⟩ := h
  ⟨dx, rws, as, Ks, { S with
    ins := k.st _ _ S.ins (fun z => absurd z.2 (by show ¬ (4 = 7); decide))
    rows := k.lst S.rows S.off
    row := Paired.imp_mem S.row fun x hx c hc => k.lst hc (S.offs x hx)
    known := k.st _ _ S.known id }⟩
def OldAt (H : Hp) (X : Addr → Prop) (u : Addr) (b : Ks582.Board) : Prop := ∃ le lp : Addr, H u = some (.tup [.ref le, .ref lp, nV b.moveCount]) ∧ TupsAt H le (prs b.graph.edges) ∧ ¬ X le ∧ TupOf H lp b.pebbles
theorem OldAt.kx {i : Bool} {H H' : Hp} {X : Addr → Prop} {u : Addr} {b : Ks582.Board} (h : OldAt H X u b) (k : KX i X H H') : OldAt H' X u b := let ⟨le, lp, h1, h2, h3, h4⟩ := h; ⟨le, lp, k.tup h1, k.tups h2 h3, h3, k.tup h4⟩
/-- what tells of a target -/
structure SR where
  t : Nat
  b : Bool
  k : Addr
  v : Addr
  kd : Addr
def SR.key (t : Nat) (b : Bool) : NestedKey := .tup [.num (t : Int), bN b]
def SR.x (s : SR) : NestedKey × Addr × Addr := (SR.key s.t s.b, s.k, s.v)
def SR.code (t : Nat) (b : Bool) : Nat := 2 * t + if b = true then 1 else 0
theorem SR.code_inj {t t' : Nat} {b b' : Bool} (h : SR.code t b = SR.code t' b') : t = t' ∧ b = b' := by
  unfold SR.code at h
  cases b <;> cases b' <;> simp at h ⊢ <;> omega
theorem SR.key_inj {t t' : Nat} {b b' : Bool} (h : SR.key t b = SR.key t' b') : t = t' ∧ b = b' := by
  unfold SR.key bN at h
  injection h with h
  injection h with h1 h2
  injection h1 with h1
  injection h2 with h2
  injection h2 with h2
  refine ⟨by omega, ?_⟩
  cases b <;> cases b' <;> first | rfl | (exact absurd h2 (by decide))
def CKey (c : List Nat) (b : Bool) : NestedKey := .tup [.tup ((zI c).map .num), bN b]
theorem CKey.inj {c c' : List Nat} {b b' : Bool} (h : CKey c b = CKey c' b') : c = c' ∧ b = b' := by
  unfold CKey bN at h
  injection h with h
  injection h with h1 h2
  injection h1 with h1
  injection h2 with h2
  injection h2 with h2
  constructor
  · have : ∀ {l m : List Nat}, (zI l).map NestedKey.num = (zI m).map NestedKey.num → l = m := by
      intro l
      induction l with
      | nil => intro m h; cases m with
        | nil => rfl
        | cons _ _ => exact nomatch h
      | cons a r ih => intro m h; cases m with
        | nil => exact nomatch h
        | cons a' r' =>
          unfold zI at h
          simp only [List.map_cons, List.cons.injEq] at h
          obtain ⟨h1, h2⟩ := h
          injection h1 with h1
          rw [ih h2, show a = a' by omega]
    exact this h1
  · cases b <;> cases b' <;> first | rfl | (exact absurd h2 (by decide))
def EX (X : Addr → Prop) (er : Addr) : Addr → Prop := fun x => X x ∨ x = er
/-- all but the board's own fields -/
structure BoardR (P : Program) (w : World) (ad : Adr) (H : Hp) (st : State) (X : Addr → Prop) (e p er so ca : Addr) (us : List Addr) (ss : List SR) (ys : NXs) : Prop where
  edg : TupsAt H e (prs st.board.graph.edges)
  edo : ¬ EX X er e
  peb : TupOf H p st.board.pebbles
  ear : H er = some (.lst (ARefs us))
  ero : ¬ X er
  old : Paired (OldAt H (EX X er)) us st.undoStack.reverse
  sol : NkAt P w H so (ss.map SR.x)
  sols : ∀ s ∈ ss, s.t < st.board.graph.vertexCount ∧ SolvedAt ad H s.v s.kd st.board.graph s.t s.b (EX X er)
  snd : (ss.map (·.kd)).Nodup
  scd : (ss.map fun s => SR.code s.t s.b).Nodup
  cam : NkAt P w H ca ys
  cams : ∀ y ∈ ys, ∃ c b L, y.1 = CKey c b ∧ c.length = st.board.graph.vertexCount ∧ StepsAt H y.2.2 st.board.graph b c L
  soca : so ≠ ca
  xin : ∀ x, X x → H x ≠ none
  ok : StOk st
structure BoardX (P : Program) (w : World) (ad : Adr) (H : Hp) (a : Addr) (st : State) (X : Addr → Prop) (dx e p er so ca : Addr) (us : List Addr) (ss : List SR) (ys : NXs) : Prop extends BoardR P w ad H st X e p er so ca us ss ys where
  ins : H a = some (.ins ad.C_Board dx (BFl st.board.graph.vertexCount e p st.board.moveCount er so ca))
def BoardAt (P : Program) (w : World) (ad : Adr) (H : Hp) (a : Addr) (st : State) (X : Addr → Prop) : Prop := ∃ dx e p er so ca us ss ys, BoardX P w ad H a st X dx e p er so ca us ss ys
theorem nkAt_kx {i : Bool} {X : Addr → Prop} {H H' : Hp} {d : Addr} {xs : NXs} (h : NkAt P w H d xs) (k : KX i X H H') : NkAt P w H' d xs := ⟨k.st _ _ h.1 id, fun x hx => (h.2 x hx).keep fun _ _ q => k.tup q⟩
theorem StepsAt.kx {i : Bool} {X : Addr → Prop} {H H' : Hp} {p : Addr} {g : Graph} {b : Bool} {c : List Nat} {L : List (List Nat)} (h : StepsAt H p g b c L) (k : KX i X H H') : StepsAt H' p g b c L := ⟨let ⟨od, z⟩ := h.at_; ⟨od, k.st _ _ z id⟩, h.ok, h.few⟩
theorem OldAt.weak {H : Hp} {X X' : Addr → Prop} {u : Addr} {b : Ks582.Board} (h : OldAt H X u b) (s : ∀ x, X' x → X x) : OldAt H X' u b := let ⟨le, lp, h1, h2, h3, h4⟩ := h; ⟨le, lp, h1, h2, fun z => h3 (s _ z), h4⟩
theorem OldAt.fresh {H : Hp} {X : Addr → Prop} {u D : Addr} {b : Ks582.Board} (h : OldAt H X u b) (hD : H D = none) : OldAt H (fun x => X x ∨ x = D) u b := by
  obtain ⟨le, lp, h1, h2, h3, h4⟩ := h
  refine ⟨le, lp, h1, h2, fun z => z.elim h3 fun q => ?_, h4⟩
  obtain ⟨as, z1, _⟩ := h2
  rw [q, hD] at z1
  cases z1
section
variable {i : Bool} {H H' : Hp} {a dx e p er so ca D q : Addr} {st st' : State} {X X' : Addr → Prop} {us us' : List Addr} {ss : List SR} {ys : NXs} {o : HO}
theorem BoardR.kx (B : BoardR P w ad H st X e p er so ca us ss ys) (k : KX i X H H') : BoardR P w ad H' st X e p er so ca us ss ys :=
  have k2 : KX i (EX X er) H H' := k.sub fun _ z => .inl z
  { B with
    edg := k2.tups B.edg B.edo
    peb := k.tup B.peb
    ear := k.lst B.ear B.ero
    old := Paired.mapP B.old fun _ _ q => q.kx k2
    sol := nkAt_kx B.sol k
    sols := fun s hs => ⟨(B.sols s hs).1, (B.sols s hs).2.kx k2⟩
    cam := nkAt_kx B.cam k
    cams := fun y hy => let ⟨c, b, L, h1, h2, h3⟩ := B.cams y hy; ⟨c, b, L, h1, h2, h3.kx k⟩
    xin := fun x hx z => B.xin x hx (k.dom x z) }
/-- another list of earlier boards -/
theorem BoardR.newer (B : BoardR P w ad H st X e p er so ca us ss ys) (k : KX i (EX X er) H H') (hq : H q = none) (hq2 : H' q = some (.lst (ARefs us'))) (hb : st'.board = st.board) (hs : StOk st') (old' : Paired (OldAt H' (EX X q)) us' st'.undoStack.reverse) :
    BoardR P w ad H' st' X e p q so ca us' ss ys :=
  have s1 : ∀ x, EX X q x → (EX X er x ∨ x = q) := fun x z => z.elim (fun z => .inl (.inl z)) .inr
  have k2 : KX i (fun x => EX X er x ∨ x = q) H H' := k.sub fun _ z => .inl z
  { edg := by rw [hb]; exact k.tups B.edg B.edo
    edo := fun z => (s1 _ z).elim B.edo fun y => by
      obtain ⟨as, z1, _⟩ := B.edg
      rw [y, hq] at z1
      cases z1
    peb := by rw [hb]; exact k.tup B.peb
    ear := hq2
    ero := fun z => B.xin _ z hq
    old := old'
    sol := nkAt_kx B.sol k
    sols := fun s hs => by
      rw [hb]
      exact ⟨(B.sols s hs).1, (((B.sols s hs).2.fresh hq).kx k2).weak s1⟩
    snd := B.snd
    scd := B.scd
    cam := nkAt_kx B.cam k
    cams := fun y hy => by
      rw [hb]
      obtain ⟨c, b, L, h1, h2, h3⟩ := B.cams y hy
      exact ⟨c, b, L, h1, h2, h3.kx k⟩
    soca := B.soca
    xin := fun x hx z => B.xin x hx (k.dom x z)
    ok := hs }
theorem BoardX.kx (B : BoardX P w ad H a st X dx e p er so ca us ss ys) (k : KX false X H H') : BoardX P w ad H' a st X dx e p er so ca us ss ys :=
  { B.toBoardR.kx k with
    ins := k.st _ _ B.ins (fun z => Bool.false_ne_true z.1) }
theorem BoardR.fresh (B0 : BoardR P w ad H st X e p er so ca us ss ys) (hD0 : H D = none) : BoardR P w ad (upd H D o) st (fun x => X x ∨ x = D) e p er so ca us ss ys :=
  have B := B0.kx (i := false) (KX.ex (Ex.new (o := o) hD0))
  have hne : ∀ {x : Addr} {u : HO}, H x = some u → x ≠ D := fun h => ne_of_none h hD0
  have h1 : ∀ x, EX (fun x => X x ∨ x = D) er x → (EX X er x ∨ x = D) := fun x z => z.elim (fun z => z.elim (fun z => .inl (.inl z)) .inr) fun z => .inl (.inr z)
  { B with
    edo := fun z => (h1 _ z).elim B.edo fun q => let ⟨as, z1, _⟩ := B0.edg; hne z1 q
    ero := fun z => z.elim B.ero (hne B0.ear)
    old := Paired.mapP B0.old fun _ _ q => ((q.fresh hD0).weak h1).kx (i := false) (KX.ex (Ex.new hD0))
    sols := fun s hs => ⟨(B.sols s hs).1, (((B0.sols s hs).2.fresh hD0).weak h1).ex (Ex.new hD0)⟩
    xin := fun x hx => hx.elim (B.xin x) fun q => by rw [q, upd_same]; exact fun z => nomatch z }
theorem BoardX.fresh (B : BoardX P w ad H a st X dx e p er so ca us ss ys) (hD : H D = none) : BoardX P w ad (upd H D o) a st (fun x => X x ∨ x = D) dx e p er so ca us ss ys :=
  { B.toBoardR.fresh hD with ins := (Ex.new hD) _ _ B.ins }
theorem BoardR.weak (B : BoardR P w ad H st X e p er so ca us ss ys) (s : ∀ x, X' x → X x) : BoardR P w ad H st X' e p er so ca us ss ys :=
  have h1 : ∀ x, EX X' er x → EX X er x := fun x z => z.elim (fun z => .inl (s _ z)) .inr
  { B with
    edo := fun z => B.edo (h1 _ z)
    ero := fun z => B.ero (s _ z)
    old := Paired.mapP B.old fun _ _ q => q.weak h1
    sols := fun t ht => ⟨(B.sols t ht).1, (B.sols t ht).2.weak h1⟩
    xin := fun x hx => B.xin x (s x hx) }
theorem BoardX.weak (B : BoardX P w ad H a st X dx e p er so ca us ss ys) (s : ∀ x, X' x → X x) : BoardX P w ad H a st X' dx e p er so ca us ss ys :=
  { B.toBoardR.weak s with ins := B.ins }
/-- the board's own fields are stored anew -/
theorem BoardX.own (B : BoardX P w ad H a st X dx e p er so ca us ss ys) {dx' : Addr} {fs : List (Str × V)} : BoardR P w ad (upd H a (.ins ad.C_Board dx' fs)) st X e p er so ca us ss ys :=
  B.toBoardR.kx (KX.own B.ins rfl)
theorem BoardAt.kx (B : BoardAt P w ad H a st X) (k : KX false X H H') : BoardAt P w ad H' a st X := let ⟨_, _, _, _, _, _, _, _, _, B⟩ := B; ⟨_, _, _, _, _, _, _, _, _, B.kx k⟩
theorem BoardAt.ex (B : BoardAt P w ad H a st X) (k : Ex H H') : BoardAt P w ad H' a st X := B.kx (KX.ex k)
theorem BoardAt.fresh (B : BoardAt P w ad H a st X) (hD : H D = none) : BoardAt P w ad (upd H D o) a st (fun x => X x ∨ x = D) := let ⟨_, _, _, _, _, _, _, _, _, B⟩ := B; ⟨_, _, _, _, _, _, _, _, _, B.fresh hD⟩
theorem BoardAt.weak (B : BoardAt P w ad H a st X) (s : ∀ x, X' x → X x) : BoardAt P w ad H a st X' := let ⟨_, _, _, _, _, _, _, _, _, B⟩ := B; ⟨_, _, _, _, _, _, _, _, _, B.weak s⟩
theorem BoardAt.mut (B : BoardAt P w ad H a st X) {xs : List V} (h : H D = some (.lst xs)) (hX : X D) : BoardAt P w ad (upd H D o) a st X := B.kx (KX.mut h hX)
theorem BoardAt.ok (B : BoardAt P w ad H a st X) : StOk st := let ⟨_, _, _, _, _, _, _, _, _, B⟩ := B; B.ok
end
/-! ### what the calls of the board leave as it was -/
def Stay (X : Addr → Prop) (x : Addr) : HO → Prop
  | .lst _ => X x
  | .tup _ => True
  | .frz _ _ => True
  | _ => False
structure Fr (X : Addr → Prop) (H H' : Hp) : Prop where
  stay : ∀ x o, H x = some o → Stay X x o → H' x = some o
  dom : ∀ x, H' x = none → H x = none
section
variable {H H1 H2 H' : Hp} {X X' : Addr → Prop}
theorem Fr.ex (e : Ex H H') : Fr X H H' := ⟨fun x o h _ => e x o h, fun x h => fresh_back e h⟩
theorem Fr.refl (X : Addr → Prop) (H : Hp) : Fr X H H := Fr.ex (Ex.refl H)
theorem Fr.trans (a : Fr X H H1) (b : Fr X H1 H2) : Fr X H H2 := ⟨fun x o h s => b.stay x o (a.stay x o h s) s, fun x h => a.dom x (b.dom x h)⟩
theorem Fr.weak (a : Fr X H H1) (s : ∀ x, X' x → X x) : Fr X' H H1 := ⟨fun x o h z => a.stay x o h (by cases o <;> first | exact z | exact s x z), a.dom⟩
theorem Fr.upd {D : Addr} {u o : HO} (h : H D = some u) (n : ¬ Stay X D u) : Fr X H (L2.upd H D o) := ⟨fun x v hx s => by
  rw [upd_ne (fun e : x = D => by
    subst e
    rw [h] at hx
    cases hx
    exact n s)]
  exact hx, fun x hx => upd_dom hx⟩
theorem Fr.keep1 {kd : Addr} {kvs : List (List Key × V)} (k : Keep1 kd H H') (h : H kd = some (.dT kvs)) (h2 : (H' kd).isSome = true) : Fr X H H' := ⟨fun x o hx s => k x o hx fun e => by
  subst e
  rw [h] at hx
  cases hx
  exact s, fun x hx => k.back (fun e => by
  subst e
  rw [hx] at h2
  cases h2) hx⟩
theorem Fr.tup (a : Fr X H H') {x : Addr} {ys : List V} (h : H x = some (.tup ys)) : H' x = some (.tup ys) := a.stay x _ h True.intro
theorem Fr.lst (a : Fr X H H') {x : Addr} {ys : List V} (h : H x = some (.lst ys)) (hX : X x) : H' x = some (.lst ys) := a.stay x _ h hX
theorem Fr.sq (a : Fr X H H') {x : Addr} {xs : List V} (h : SqL K H x xs) (hX : X x) : SqL K H' x xs := by
  rcases h with h | h
  · rcases h with h | ⟨od, h⟩
    · exact .inl (.inl (a.lst h hX))
    · exact .inl (.inr ⟨od, a.stay x _ h True.intro⟩)
  · exact .inr h
end
/-- what an operation of the board answers -/
def Res (P : Program) (w : World) (ad : Adr) (H : Hp) (a : Addr) (X : Addr → Prop) (out : State × Ks577.Result) (Q : VK) (E : XK) : Prop :=
  (∀ H2 p, Fr X H H2 → H p = none → BoardAt P w ad H2 a out.1 X → IntsOf H2 p (out.2.value :: out.2.rest) → Q (.ref p) H2) ∧
  ∀ H2 code, out.2 = Ks577.number code → Fr X H H2 → BoardAt P w ad H2 a out.1 X → Thrown ad code H2 E
/-- .. one that is never refused -/
def Res1 (P : Program) (w : World) (ad : Adr) (H : Hp) (a : Addr) (X : Addr → Prop) (out : State × Ks577.Result) (Q : VK) : Prop :=
  ∀ H2 p, Fr X H H2 → H p = none → BoardAt P w ad H2 a out.1 X → IntsOf H2 p (out.2.value :: out.2.rest) → Q (.ref p) H2
theorem Res1.ok {H : Hp} {a : Addr} {X : Addr → Prop} {out : State × Ks577.Result} {Q : VK} (r : Res1 P w ad H a X out Q) {st : State} {v : Int} {rest : List Int} (h : out = (st, ⟨v, rest⟩)) {H2 : Hp} {p : Addr} (f : Fr X H H2) (hp : H p = none) (B : BoardAt P w ad H2 a st X) (hv : IntsOf H2 p (v :: rest)) : Q (.ref p) H2 := by
  subst h
  exact r H2 p f hp B hv
/-- the same with the result list at hand -/
theorem Res.ok {H : Hp} {a : Addr} {X : Addr → Prop} {out : State × Ks577.Result} {Q : VK} {E : XK} (r : Res P w ad H a X out Q E) {st : State} {v : Int} {rest : List Int} (h : out = (st, ⟨v, rest⟩)) {H2 : Hp} {p : Addr} (f : Fr X H H2) (hp : H p = none) (B : BoardAt P w ad H2 a st X) (hv : IntsOf H2 p (v :: rest)) : Q (.ref p) H2 := by
  subst h
  exact r.1 H2 p f hp B hv
theorem Res.no {H : Hp} {a : Addr} {X : Addr → Prop} {out : State × Ks577.Result} {Q : VK} {E : XK} (r : Res P w ad H a X out Q E) {st : State} {code : Int} (h : out = (st, Ks577.number code)) {H2 : Hp} (f : Fr X H H2) (B : BoardAt P w ad H2 a st X) : Thrown ad code H2 E := by
  subst h
  exact r.2 H2 code rfl f B
/-! ### near_all, edge, check, status -/
def sp_Board_near_all (P : Program) (w : World) (ad : Adr) : Sp := fun vs H Q _ => ∃ (a : Addr) (st : State) (X : Addr → Prop), vs = [.ref a] ∧ BoardAt P w ad H a st X ∧
  Ret (fun H2 p => RowsAt H2 p (rowsG st.board.graph) ∧ ∃ as : List Addr, H2 p = some (.lst (ARefs as)) ∧ ∀ x ∈ as, H x = none) H Q
theorem ok_Board_near_all (T : Txt K mg ad) : Ok P w K mg base CX0 2 ad.f_Board_near_all ["self"] (sp_Board_near_all P w ad) := by
  obtain ⟨fd, F⟩ := T.F_Board_near_all
  obtain ⟨fd_neighbours, G_neighbours, B_neighbours⟩ := ok_neighbours (P := P) (w := w) (base := base) T
  refine ⟨fd, F.ok sc_Board_near_all (fun vs H Q E h => ?_) (fun cdv A outer s H vs Q E hr h => ?_), F.binds fun _ _ _ _ _ _ us hl => match us, hl with | [_], _ => rfl⟩
  · obtain ⟨_, _, _, rfl, _⟩ := h
    rfl
  have hu := hu_of hr
  refine ⟨_, (pss_one (ps_ret (pe_call G_neighbours (hr.mono (by decide)) (by rfl) T.g_neighbours T.k_neighbours B_neighbours .nil pass0 (by exact (pa_cons (pe_fld (pv 0) rfl) (pa_cons (pe_fld (pv 0) rfl) pa_nil)))))), ?_⟩
  obtain ⟨a, st, X, rfl, ⟨dx, e, p, er, so, ca, us, ss, ys, B⟩, q⟩ := h
  refine ⟨_, rfl, a, _, dx, _, _, rfl, B.ins, T.cl_Board, T.na_Board_many, rfl, _, rfl, a, _, dx, _, _, rfl, B.ins, T.cl_Board, T.na_Board_edges, rfl, e, st.board.graph, rfl, B.ok.bd.wg, B.edg, fun r H2 hr2 e2 h2 => q r H2 hr2 e2 h2⟩
def sp_Board_edge : Sp := fun vs H Q _ => ∃ (a : V) (u v : Nat), vs = [a, .int u, .int v] ∧ Ret (fun H2 p => H2 p = some (.tup [nV (min u v), nV (max u v)])) H Q
theorem ok_Board_edge (T : Txt K mg ad) : Ok P w K mg base CX0 1 ad.f_Board_edge ["self", "one", "other"] (sp_Board_edge) := by
  obtain ⟨fd, F⟩ := T.F_Board_edge
  refine ⟨fd, F.ok sc_Board_edge (fun vs H Q E h => ?_) (fun cdv A outer s H vs Q E hr h => ?_), F.binds fun _ _ _ _ _ _ us hl => match us, hl with | [_, _, _], _ => rfl⟩
  · obtain ⟨_, _, _, rfl, _⟩ := h
    rfl
  have hu := hu_of hr
  refine ⟨_, (pss_one (ps_ret (pe_tup (by exact (pa_cons (pe_callB (call_min2 rfl) (by rfl) T.n_min (by decide +kernel) (by exact (pa_cons (pv 1) (pa_cons (pv 2) pa_nil)))) (pa_cons (pe_callB (call_max2 rfl) (by rfl) T.n_max (by decide +kernel) (by exact (pa_cons (pv 1) (pa_cons (pv 2) pa_nil)))) pa_nil)))))), ?_⟩
  obtain ⟨a, u, v, rfl, q⟩ := h
  refine ⟨_, rfl, _, rfl, _, _, rfl, _, rfl, _, rfl, _, _, rfl, by show 2 ≤ sizeLine; exact szs (by omega), fun p hp => q p _ hp (Ex.new hp) ?_⟩
  show upd _ p _ p = _
  rw [upd_same]
  have h1 : (if (v : Int) < (u : Int) then (v : Int) else (u : Int)) = ((min u v : Nat) : Int) := by split <;> omega
  have h2 : (if (v : Int) > (u : Int) then (v : Int) else (u : Int)) = ((max u v : Nat) : Int) := by split <;> omega
  rw [h1, h2]
def sp_Board_check (P : Program) (w : World) (ad : Adr) : Sp := fun vs H Q E => ∃ (a l : Addr) (st : State) (X : Addr → Prop) (xs : List Nat), vs = [.ref a, .ref l] ∧ BoardAt P w ad H a st X ∧ H l = some (.lst (nVs xs)) ∧ xs.length ≤ 5 ∧
  ((∀ x ∈ xs, x < st.board.graph.vertexCount) → RetV .non H Q) ∧ ((∃ x ∈ xs, st.board.graph.vertexCount ≤ x) → ∀ H2, Ex H H2 → Thrown ad (-2) H2 E)
theorem ok_Board_check (T : Txt K mg ad) : Ok P w K mg base (L2.CX P w) 3 ad.f_Board_check ["self", "vertices"] (sp_Board_check P w ad) := by
  obtain ⟨fd, F⟩ := T.F_Board_check
  obtain ⟨fd_refuse_if, G_refuse_if, B_refuse_if⟩ := ok_refuse_if (P := P) (w := w) (base := base) T
  refine ⟨fd, F.okX sc_Board_check (fun vs H Q E h => ?_) (fun cdv A outer s H vs Q E hr h => ?_), F.binds fun _ _ _ _ _ _ us hl => match us, hl with | [_, _], _ => rfl⟩
  · obtain ⟨_, _, _, _, _, rfl, _⟩ := h
    rfl
  have hu := hu_of hr
  refine ⟨_, (pss_one (ps_expr (pe_call G_refuse_if (hr.mono (by decide)) (by rfl) T.g_refuse_if T.k_refuse_if B_refuse_if .nil (passes_call (takes_of rfl rfl rfl rfl) (fun _ _ _ _ z => z)) (by exact (pa_cons (pe_callB (cr_any rfl) (by rfl) T.n_any (by decide +kernel) (by exact (pa_cons (by exact (pe_lc (own := [("vertex", 2)]) rfl sc_Board_check.nd (pi_list (pv 1)) (blkOk_by (own := [("vertex", 2)]) (N := N_Board_check) (sc := defScope s_Board_check) (by decide +kernel)) (fun _ _ _ _ _ => (pg_name (i := 2) sc_Board_check.nd rfl (by first | exact Or.inl rfl | exact Or.inr rfl))) (fun _ _ _ _ _ => pts_nil) (fun _ _ _ _ _ => (pe_cmpR op_ge (pv 2) (pe_fldK (K := K) rfl (pv 0) rfl) (nomark _))))) pa_nil))) (pa_cons (pe_un un_neg pe_int) pa_nil)))))), ?_⟩
  obtain ⟨a, l, st, X, xs, rfl, ⟨dx, e, p, er, so, ca, us, ss, ys, B⟩, hl, hlen, q1, q2⟩ := h
  refine ⟨_, rfl, l, rfl, ⟨_, sl_of' hl⟩, fun D hD => ?_⟩
  refine lc_vals (a := l) (xs := nVs xs) (xs.map fun x => V.bl (decide (st.board.graph.vertexCount ≤ x))) (by rw [List.length_map, nVs_len]) (sl_of' hl) hD (by rw [nVs_len]; omega) ?_ ?_
  · intro j x c H3 Qy hj hc e3 hq Qn
    obtain ⟨y, hy, rfl⟩ := nVs_of hj
    rw [List.getElem?_map, hy] at hc
    obtain rfl := Option.some.inj hc
    refine ⟨rfl, _, rfl, _, rfl, a, _, dx, _, _, rfl, e3 _ _ B.ins, T.cl_Board, T.na_Board_many, rfl, _, _, rfl, rfl, ?_⟩
    have q := hq H3 (Ex.refl _)
    have e : decide ((y : Int) ≥ ((st.board.graph.vertexCount : Nat) : Int)) = decide (st.board.graph.vertexCount ≤ y) := decide_eq_decide.mpr (by omega)
    show Qy (V.bl (decide ((y : Int) ≥ ((st.board.graph.vertexCount : Nat) : Int)))) H3
    rw [e]
    exact q
  · intro H3 e3 h3
    refine ⟨D, xs.map fun x => decide (st.board.graph.vertexCount ≤ x), rfl, by rw [List.map_map]; exact sl_of' h3, _, rfl, _, _, rfl, fun hc => ?_, fun hc => ?_⟩
    · refine q1 (fun x hx => ?_) H3 e3
      have := List.any_eq_false.mp hc _ (List.mem_map.mpr ⟨x, hx, rfl⟩)
      simp only [id, decide_eq_true_eq] at this
      omega
    · refine q2 ?_ H3 e3
      obtain ⟨b, hb, hbt⟩ := List.any_eq_true.mp hc
      obtain ⟨x, hx, rfl⟩ := List.mem_map.mp hb
      exact ⟨x, hx, of_decide_eq_true hbt⟩
theorem rev_take {α : Type} (l : List α) (n : Nat) : (l.take n).reverse = l.reverse.drop (l.length - n) := by rw [List.reverse_take]
theorem paired_drop {α β : Type} {F : α → β → Prop} : ∀ {l : List α} {m : List β} (k : Nat), Paired F l m → Paired F (l.drop k) (m.drop k)
  | _, _, _, .nil => by rw [List.drop_nil, List.drop_nil]; exact .nil
  | _, _, 0, .cons r t => .cons r t
  | _, _, k + 1, .cons _ t => paired_drop k t
def sp_Board_push (P : Program) (w : World) (ad : Adr) : Sp := fun vs H Q _ => ∃ (a : Addr) (st : State) (X : Addr → Prop), vs = [.ref a] ∧ BoardAt P w ad H a st X ∧
  ∀ H2, Fr X H H2 → BoardAt P w ad H2 a (Ks582.change st st.board) X → Q .non H2
theorem ok_Board_push (T : Txt K mg ad) : Ok P w K mg base CX0 1 ad.f_Board_push ["self"] (sp_Board_push P w ad) := by
  obtain ⟨fd, F⟩ := T.F_Board_push
  refine ⟨fd, F.ok sc_Board_push (fun vs H Q E h => ?_) (fun cdv A outer s H vs Q E hr h => ?_), F.binds fun _ _ _ _ _ _ us hl => match us, hl with | [_], _ => rfl⟩
  · obtain ⟨_, _, _, rfl, _⟩ := h
    rfl
  have hu := hu_of hr
  refine ⟨_, (pss_cons (ps_expr (pe_bm PySem.F.plainAttrs_list PySem.F.slot_list_append PySem.F.type_list_append mt_append (pe_fld (pv 0) rfl) (by exact (pa_cons (pe_tup (by exact (pa_cons (pe_callTy call_list_of (by rfl) T.n_list (by decide +kernel) (by exact (pa_cons (pe_fld (pv 0) rfl) pa_nil))) (pa_cons (pe_fld (pv 0) rfl) (pa_cons (pe_fld (pv 0) rfl) pa_nil))))) pa_nil))))
      (pss_one (ps_fld (pv 0) (pe_slice sl_list (pe_fld (pv 0) rfl) (po_some (pe_callB (call_max2 rfl) (by rfl) T.n_max (by decide +kernel) (by exact (pa_cons pe_int (pa_cons (pe_op op_sub (pe_callB call_len_seq (by rfl) T.n_len (by decide +kernel) (by exact (pa_cons (pe_fld (pv 0) rfl) pa_nil))) (pe_glob (v := .int (10)) rfl T.c_MOST_UNDONE ⟨_, rfl⟩)) pa_nil))))) po_none) rfl))), ?_⟩
  obtain ⟨a, st, X, rfl, ⟨dx, e, p, er, so, ca, us, ss, ys, B⟩, q⟩ := h
  refine ⟨_, rfl, a, _, dx, _, _, rfl, B.ins, T.cl_Board, T.na_Board_earlier, rfl, .inl ⟨rfl, _, sl_of' B.ear⟩, ?_⟩
  obtain ⟨es, hes, hesP⟩ := B.edg
  refine ⟨_, rfl, a, _, dx, _, _, rfl, B.ins, T.cl_Board, T.na_Board_edges, rfl, e, _, rfl, .inl (sl_of' hes), fun l hl => ?_⟩
  have e1 : Ex H (upd H l (.lst (ARefs es))) := Ex.new hl
  refine ⟨_, rfl, a, _, dx, _, _, rfl, e1 _ _ B.ins, T.cl_Board, T.na_Board_pebbles, rfl, _, rfl, a, _, dx, _, _, rfl, e1 _ _ B.ins, T.cl_Board, T.na_Board_moved, rfl, by show 3 ≤ sizeLine; exact szs (by omega), fun t ht => ?_⟩
  have e2 := e1.trans (Ex.new (o := .tup [.ref l, .ref p, nV st.board.moveCount]) ht)
  have hul : us.length = st.undoStack.length := by rw [Paired.length B.old, List.length_reverse]
  have hfew := B.ok.few
  refine ⟨er, _, _, rfl, rfl, e2 _ _ B.ear, by rw [aref_len]; exact szl (by omega), ?_⟩
  have ea : ARefs us ++ [V.ref t] = ARefs (us ++ [t]) := by rw [aref_app]; rfl
  rw [ea]
  generalize hH2 : upd (upd H l (.lst (ARefs es))) t (.tup [.ref l, .ref p, nV st.board.moveCount]) = H2 at e2
  have ht2 : H2 t = some (.tup [.ref l, .ref p, nV st.board.moveCount]) := by rw [← hH2]; exact upd_same
  have htl : t ≠ l := fun z => by rw [z, upd_same] at ht; cases ht
  have hl2 : H2 l = some (.lst (ARefs es)) := by rw [← hH2, upd_ne (Ne.symm htl)]; exact upd_same
  have k3 : KX false (EX X er) H2 (upd H2 er (.lst (ARefs (us ++ [t])))) := KX.mut (e2 _ _ B.ear) (.inr rfl)
  have hear3 : upd H2 er (.lst (ARefs (us ++ [t]))) er = some (.lst (ARefs (us ++ [t]))) := upd_same
  generalize hH3 : upd H2 er (.lst (ARefs (us ++ [t]))) = H3 at k3 hear3
  have k03 : KX false (EX X er) H H3 := (KX.ex e2).trans k3
  have hins3 := k03.st _ _ B.ins (fun z => Bool.false_ne_true z.1)
  refine ⟨_, rfl, a, _, dx, _, _, rfl, hins3, T.cl_Board, T.na_Board_earlier, rfl, _, rfl, a, _, dx, _, _, rfl, hins3, T.cl_Board, T.na_Board_earlier, rfl, er, _, rfl, .inl (sl_of' hear3), _, _, rfl, rfl, _, _, rfl, _, rfl, er, _, rfl, sl_of' hear3, fun q0 hq0 => ?_⟩
  have hins4 := (Ex.new (o := .lst (cutV (ARefs (us ++ [t])) (some (if ((ARefs (us ++ [t])).length : Int) - 10 > 0 then ((ARefs (us ++ [t])).length : Int) - 10 else 0)) none)) hq0) _ _ hins3
  refine ⟨_, rfl, a, _, dx, _, rfl, hins4, T.cl_Board, T.na_Board_earlier, by show 7 < 1000; decide, ?_⟩
  have hcut : cutV (ARefs (us ++ [t])) (some (if ((ARefs (us ++ [t])).length : Int) - 10 > 0 then ((ARefs (us ++ [t])).length : Int) - 10 else 0)) none = ARefs ((us ++ [t]).drop (us.length + 1 - 10)) := by
    unfold cutV
    have e1 : (if ((ARefs (us ++ [t])).length : Int) - 10 > 0 then ((ARefs (us ++ [t])).length : Int) - 10 else 0) = ((us.length + 1 - 10 : Nat) : Int) := by
      rw [aref_len, List.length_append, List.length_singleton]
      split <;> omega
    rw [e1, aref_len, HT.sIx_nat, HT.sIx_none, Nat.min_eq_left (by rw [List.length_append, List.length_singleton]; omega), List.take_of_length_le (by rw [List.length_drop, aref_len]; exact Nat.le_refl _)]
    unfold ARefs
    rw [List.map_drop]
  rw [hcut] at hins4 ⊢
  have k4 : KX true (EX X er) H (upd H3 q0 (.lst (ARefs ((us ++ [t]).drop (us.length + 1 - 10))))) := (k03.trans (KX.ex (Ex.new hq0))).may
  have k5 := k4.trans (KX.own (o := .ins ad.C_Board dx (BFl st.board.graph.vertexCount e p st.board.moveCount q0 so ca)) hins4 rfl)
  have hqa : q0 ≠ a := fun z => by rw [z, upd_same] at hins4; cases hins4
  have hq1 : H q0 = none := k03.dom _ hq0
  have k6 : KX true (fun x => EX X er x ∨ x = q0) H _ := k5.sub fun _ z => .inl z
  have s1 : ∀ x, EX X q0 x → (EX X er x ∨ x = q0) := fun x z => z.elim (fun z => .inl (.inl z)) .inr
  have hel : l ≠ er := fun z => ne_of_none B.ear hl z.symm
  have k25 : KX true (EX X er) H2 _ := ((k3.trans (KX.ex (Ex.new (o := .lst (ARefs ((us ++ [t]).drop (us.length + 1 - 10)))) hq0))).may).trans (KX.own (o := .ins ad.C_Board dx (BFl st.board.graph.vertexCount e p st.board.moveCount q0 so ca)) hins4 rfl)
  have hlY : ¬ EX X er l := fun z => z.elim (fun z => B.xin _ z hl) hel
  have hbig : Paired (OldAt (upd (upd H3 q0 (.lst (ARefs ((us ++ [t]).drop (us.length + 1 - 10))))) a (.ins ad.C_Board dx (BFl st.board.graph.vertexCount e p st.board.moveCount q0 so ca))) (EX X q0)) (us ++ [t]) (st.undoStack.reverse ++ [st.board]) := by
    refine paired_app (Paired.mapP B.old fun _ _ z => ((z.fresh hq1).kx k6).weak s1) (.cons ⟨l, p, ?_, ?_, ?_, k5.tup B.peb⟩ .nil)
    · exact k25.tup ht2
    · exact k25.tups (⟨es, hl2, tups_ex e2 hesP⟩ : TupsAt H2 l (prs st.board.graph.edges)) hlY
    · exact fun z => (s1 _ z).elim hlY fun y => ne_of_none (k3.lst hl2 hlY) hq0 y
  refine q _ ((((Fr.ex e2).trans ?_).trans (Fr.ex (Ex.new hq0))).trans (Fr.upd hins4 id)) ⟨dx, e, p, q0, so, ca, _, ss, ys, ⟨B.toBoardR.newer (st' := Ks582.change st st.board) k5 hq1 (by rw [upd_ne hqa]; exact upd_same) rfl ?_ ?_, upd_same⟩⟩
  · rw [← hH3]
    exact Fr.upd (e2 _ _ B.ear) B.ero
  · refine { bd := B.ok.bd, old := fun b hb => ?_, few := List.length_take_le _ _ }
    rcases List.mem_cons.mp (List.mem_of_mem_take hb) with hb | hb
    · rw [hb]; exact B.ok.bd
    · exact B.ok.old b hb
  · have e7 : (Ks582.change st st.board).undoStack.reverse = (st.undoStack.reverse ++ [st.board]).drop (us.length + 1 - 10) := by
      show ((st.board :: st.undoStack).take 10).reverse = _
      rw [rev_take, List.reverse_cons, List.length_cons, hul]
    rw [e7]
    exact paired_drop _ hbig
/-! ### put_edges -/
theorem lex_perm_uniq {l m : List (Nat × Nat)} (h1 : l.Pairwise fun a b => a.1 < b.1 ∨ (a.1 = b.1 ∧ a.2 ≤ b.2)) (h2 : m.Pairwise fun a b => a.1 < b.1 ∨ (a.1 = b.1 ∧ a.2 ≤ b.2)) (h : l.Perm m) : l = m :=
  h.eq_of_pairwise (fun a b _ _ h3 h4 => by
    obtain ⟨a1, a2⟩ := a
    obtain ⟨b1, b2⟩ := b
    simp only at h3 h4
    rw [show a1 = b1 by omega, show a2 = b2 by omega]) h1 h2
def prA (H : Hp) (a : Addr) : Int × Int := match H a with
  | some (.tup [.int x, .int y]) => (x, y)
  | _ => (0, 0)
def prV (H : Hp) : V → Int × Int
  | .ref a => prA H a
  | _ => (0, 0)
theorem prA_at {H : Hp} {a : Addr} {e : Nat × Nat} (h : TupOf H a [e.1, e.2]) : prA H a = ((e.1 : Int), (e.2 : Int)) := by
  have h : H a = some (.tup [nV e.1, nV e.2]) := h
  unfold prA
  rw [h]
def unP (z : Int × Int) : Nat × Nat := (z.1.toNat, z.2.toNat)
theorem perm_refs {as : List Addr} {ys : List V} (h : ys.Perm (ARefs as)) : ∃ bs : List Addr, ys = ARefs bs ∧ bs.Perm as := by
  refine ⟨ys.map fun v => match v with | .ref a => a | _ => 0, ?_, ?_⟩
  · unfold ARefs
    rw [List.map_map]
    refine (List.map_id' ys).symm.trans (List.map_congr_left fun y hy => ?_)
    obtain ⟨a, _, rfl⟩ := List.mem_map.mp (h.mem_iff.mp hy)
    rfl
  · have := h.map (fun v => match v with | V.ref a => a | _ => 0)
    unfold ARefs at this
    rw [List.map_map] at this
    exact this.trans (List.Perm.of_eq (List.map_id' as))
theorem paired_mem {α β : Type} {F : α → β → Prop} {l : List α} {m : List β} (h : Paired F l m) {a : α} (ha : a ∈ l) : ∃ b ∈ m, F a b := by
  obtain ⟨i, hi⟩ := List.getElem?_of_mem ha
  obtain ⟨b, hb, hf⟩ := paired_at h hi
  exact ⟨b, List.mem_of_getElem? hb, hf⟩
theorem prs_mem {es : List (Nat × Nat)} {c : List Nat} (h : c ∈ prs es) : ∃ e ∈ es, c = [e.1, e.2] := by
  obtain ⟨e, h1, h2⟩ := List.mem_map.mp h
  exact ⟨e, h1, h2.symm⟩
/-- sorted as the graph has them -/
theorem sorted_edges {H : Hp} {as bs : List Addr} {es : List (Nat × Nat)} {g : Graph} (W : WG g) (hP : Paired (TupOf H) as (prs es)) (hp : es.Perm g.edges) (hb : bs.Perm as) (hs : (ARefs bs).Pairwise fun x y => SrtO.lexB (prV H y) (prV H x) = false) :
    Paired (TupOf H) bs (prs g.edges) := by
  have each : ∀ a ∈ as, ∃ e ∈ es, TupOf H a [e.1, e.2] := fun a ha => by
    obtain ⟨c, hc, hf⟩ := paired_mem hP ha
    obtain ⟨e, he, rfl⟩ := prs_mem hc
    exact ⟨e, he, hf⟩
  have hmap : as.map (fun a => unP (prA H a)) = es := by
    refine List.ext_getElem? fun i => ?_
    rw [List.getElem?_map]
    cases q : as[i]? with
    | none =>
      have h1 := List.getElem?_eq_none_iff.mp q
      have h2 := Paired.length hP
      unfold prs at h2
      rw [List.length_map] at h2
      exact (List.getElem?_eq_none_iff.mpr (by omega)).symm
    | some a =>
      obtain ⟨c, hc, hf⟩ := paired_at hP q
      obtain ⟨e, he, rfl⟩ := prs_get hc
      rw [he, Option.map_some, prA_at hf]
      rfl
  have hbm : bs.map (fun a => unP (prA H a)) = g.edges := by
    refine lex_perm_uniq ?_ (W.srt.imp fun {a b} h => by omega) ((hb.map _).trans (hmap ▸ hp))
    unfold ARefs at hs
    rw [List.pairwise_map] at hs ⊢
    refine hs.imp_of_mem fun {a b} ha hb2 h => ?_
    obtain ⟨e, _, he⟩ := each a (hb.mem_iff.mp ha)
    obtain ⟨f, _, hf⟩ := each b (hb.mem_iff.mp hb2)
    have h : SrtO.lexB (prA H b) (prA H a) = false := h
    rw [prA_at he, prA_at hf] at h
    rw [prA_at he, prA_at hf]
    have := SrtO.lexB_no.mp h
    show (unP _).1 < (unP _).1 ∨ _
    simp only [unP, Int.toNat_natCast] at this ⊢
    omega
  refine paired_mk (by rw [← hbm]; unfold prs; rw [List.length_map, List.length_map]) fun j a c ha hc => ?_
  obtain ⟨e, he, rfl⟩ := prs_get hc
  rw [← hbm, List.getElem?_map, ha] at he
  obtain rfl := Option.some.inj he
  obtain ⟨f, _, hf⟩ := each a (hb.mem_iff.mp (List.mem_of_getElem? ha))
  have e3 : unP (prA H a) = f := by rw [prA_at hf]; rfl
  show TupOf H a [(unP (prA H a)).1, (unP (prA H a)).2]
  rw [e3]
  exact hf
def setG (st : State) (g : Graph) : State := ⟨⟨g, st.board.pebbles, st.board.moveCount⟩, st.undoStack⟩
def setP (st : State) (c : List Nat) : State := ⟨⟨st.board.graph, c, st.board.moveCount⟩, st.undoStack⟩
def setM (st : State) (m : Nat) : State := ⟨⟨st.board.graph, st.board.pebbles, m⟩, st.undoStack⟩
def sp_Board_put_edges (P : Program) (w : World) (ad : Adr) : Sp := fun vs H Q _ => ∃ (a l : Addr) (st : State) (X : Addr → Prop) (g' : Graph) (es : List (Nat × Nat)), vs = [.ref a, .ref l] ∧ BoardAt P w ad H a st X ∧ TupsAt H l (prs es) ∧ WG g' ∧ g'.vertexCount = st.board.graph.vertexCount ∧ es.Perm g'.edges ∧
  ∀ H2, Fr X H H2 → BoardAt P w ad H2 a (setG st g') X → Q .non H2
theorem ok_Board_put_edges (T : Txt K mg ad) : Ok P w K mg base CX0 1 ad.f_Board_put_edges ["self", "edges"] (sp_Board_put_edges P w ad) := by
  obtain ⟨fd, F⟩ := T.F_Board_put_edges
  refine ⟨fd, F.ok sc_Board_put_edges (fun vs H Q E h => ?_) (fun cdv A outer s H vs Q E hr h => ?_), F.binds fun _ _ _ _ _ _ us hl => match us, hl with | [_, _], _ => rfl⟩
  · obtain ⟨_, _, _, _, _, _, rfl, _⟩ := h
    rfl
  have hu := hu_of hr
  refine ⟨_, (pss_cons (ps_fld (pv 0) (pe_callB cr_sortedPO (by rfl) T.n_sorted (by decide +kernel) (by exact (pa_cons (pv 1) pa_nil))) rfl)
      (pss_cons (ps_fld (pv 0) pe_nkNew rfl)
      (pss_one (ps_fld (pv 0) pe_nkNew rfl)))), ?_⟩
  obtain ⟨a, l, st, X, g', es, rfl, ⟨dx, e, p, er, so, ca, us, ss, ys, B⟩, ⟨as, hl, hP⟩, W, hn, hperm, q⟩ := h
  refine ⟨_, rfl, l, _, prV H, rfl, sl_of' hl, fun x hx => ?_, fun zs e2 hsrt hstb he2 => ?_⟩
  · obtain ⟨t, ht, rfl⟩ := List.mem_map.mp hx
    obtain ⟨c, hc, hf⟩ := paired_mem hP ht
    obtain ⟨f, _, rfl⟩ := prs_mem hc
    refine ⟨t, rfl, ?_⟩
    show H t = some (.tup [.int (prA H t).1, .int (prA H t).2])
    rw [prA_at hf]
    exact hf
  obtain ⟨bs, rfl, hbp⟩ := perm_refs hstb.perm
  have hB := sorted_edges W hP hperm hbp hsrt
  have x1 : Ex H (upd H e2 (.lst (ARefs bs))) := Ex.new he2
  have hne1 : e2 ≠ a := fun z => ne_of_none B.ins he2 z.symm
  refine ⟨_, rfl, a, _, dx, _, rfl, x1 _ _ B.ins, T.cl_Board, T.na_Board_edges, by show 7 < 1000; decide, ?_⟩
  intro so2 hso2
  have hso2a : so2 ≠ a := fun z => by rw [z, upd_same] at hso2; cases hso2
  refine ⟨_, rfl, a, _, dx, _, rfl, (Ex.new hso2) _ _ upd_same, T.cl_Board, T.na_Board_solved, by show 7 < 1000; decide, ?_⟩
  rw [upd_mid hso2a]
  rw [upd_ne hso2a] at hso2
  have x2 := x1.trans (Ex.new (o := nkO P w so2 []) hso2)
  intro ca2 hca2
  have hca2a : ca2 ≠ a := fun z => by rw [z, upd_same] at hca2; cases hca2
  refine ⟨_, rfl, a, _, dx, _, rfl, (Ex.new hca2) _ _ upd_same, T.cl_Board, T.na_Board_came, by show 7 < 1000; decide, ?_⟩
  rw [upd_mid hca2a]
  rw [upd_ne hca2a] at hca2
  have x3 := x2.trans (Ex.new (o := nkO P w ca2 []) hca2)
  have hins := x3 _ _ B.ins
  have k : KX true X H _ := (KX.ex x3).trans (KX.own (o := .ins ad.C_Board dx (BFl st.board.graph.vertexCount e2 p st.board.moveCount er so2 ca2)) hins rfl)
  have hsoca : so2 ≠ ca2 := ne_of_none upd_same hca2
  have B1 := B.toBoardR.kx k
  refine q _ ((Fr.ex x3).trans (Fr.upd hins id)) ⟨dx, e2, p, er, so2, ca2, us, [], [], ⟨?_, ?_⟩⟩
  · refine { edg := ⟨bs, ?_, ?_⟩, edo := ?_, peb := B1.peb, ear := B1.ear, ero := B1.ero, old := B1.old, sol := ⟨?_, fun x hx => (by cases hx)⟩, sols := fun s hs => (by cases hs), snd := .nil, scd := .nil, cam := ⟨?_, fun x hx => (by cases hx)⟩, cams := fun y hy => (by cases hy), soca := hsoca, xin := B1.xin, ok := ?_ }
    · show upd _ a _ e2 = _
      rw [upd_ne hne1, upd_ne (ne_of_none ((Ex.new hso2) _ _ upd_same) hca2), upd_ne (ne_of_none upd_same hso2)]
      exact upd_same
    · exact Paired.mapP hB fun _ _ z => k.tup z
    · rintro (z | z)
      · exact B.xin _ z he2
      · exact ne_of_none B.ear he2 z.symm
    · show upd _ a _ so2 = _
      rw [upd_ne hso2a, upd_ne hsoca]
      exact upd_same
    · show upd _ a _ ca2 = _
      rw [upd_ne hca2a]
      exact upd_same
    · exact { bd := { wg := W, vc := rfl, len := by show st.board.pebbles.length = g'.vertexCount; rw [hn]; exact B.ok.bd.len, sum := B.ok.bd.sum }, old := fun b hb => by show BdOk g'.vertexCount b; rw [hn]; exact B.ok.old b hb, few := B.ok.few }
  · show upd _ a _ a = some (.ins _ _ (BFl g'.vertexCount _ _ _ _ _ _))
    rw [hn]
    exact upd_same
end PBW

namespace PB
open Ks577 (pebblesAt isAdjacent Graph)
theorem insE_mem {e x : Nat × Nat} : ∀ {l : List (Nat × Nat)}, x ∈ Ks582.insertEdge e l ↔ x = e ∨ x ∈ l
  | [] => by simp [Ks582.insertEdge]
  | n :: r => by
    unfold Ks582.insertEdge
    split
    · simp
    · split
      · next h => subst h; simp
      · rw [List.mem_cons, insE_mem, List.mem_cons]
        constructor
        · rintro (h | h | h) <;> simp [h]
        · rintro (h | h | h) <;> simp [h]
theorem insE_perm {e : Nat × Nat} : ∀ {l : List (Nat × Nat)}, e ∉ l → (l ++ [e]).Perm (Ks582.insertEdge e l)
  | [], _ => List.Perm.refl _
  | n :: r, h => by
    unfold Ks582.insertEdge
    split
    · exact List.perm_append_comm
    · split
      · next h2 => exact absurd (h2 ▸ List.mem_cons_self ..) h
      · exact (insE_perm fun z => h (List.mem_cons_of_mem _ z)).cons n
theorem insE_srt {e : Nat × Nat} : ∀ {l : List (Nat × Nat)}, l.Pairwise ltE → (Ks582.insertEdge e l).Pairwise ltE
  | [], _ => List.pairwise_singleton _ _
  | n :: r, h => by
    obtain ⟨h1, h2⟩ := List.pairwise_cons.mp h
    unfold Ks582.insertEdge
    split
    · next hlt =>
      refine List.pairwise_cons.mpr ⟨fun x hx => ?_, h⟩
      rcases List.mem_cons.mp hx with rfl | hx
      · exact hlt
      · have := h1 x hx
        unfold ltE at this ⊢
        omega
    · split
      · exact h
      · next hlt hne =>
        refine List.pairwise_cons.mpr ⟨fun x hx => ?_, insE_srt h2⟩
        rcases insE_mem.mp hx with rfl | hx
        · obtain ⟨a, b⟩ := x
          obtain ⟨c, d⟩ := n
          have : ¬ (a = c ∧ b = d) := fun z => hne (by rw [z.1, z.2])
          show c < a ∨ (c = a ∧ d < b)
          simp only at hlt
          omega
        · exact h1 x hx
theorem adj_mm {g : Graph} (W : WG g) (u v : Nat) : isAdjacent g u v = decide ((min u v, max u v) ∈ g.edges) := by
  rw [Bool.eq_iff_iff, adj_iff, decide_eq_true_eq]
  constructor
  · rintro (h | h)
    · have := (W.lt _ h).1
      simp only at this
      rw [Nat.min_eq_left (by omega), Nat.max_eq_right (by omega)]
      exact h
    · have := (W.lt _ h).1
      simp only at this
      rw [Nat.min_eq_right (by omega), Nat.max_eq_left (by omega)]
      exact h
  · intro h
    by_cases c : u ≤ v
    · rw [Nat.min_eq_left c, Nat.max_eq_right c] at h
      exact .inl h
    · rw [Nat.min_eq_right (by omega), Nat.max_eq_left (by omega)] at h
      exact .inr h
def insG (g : Graph) (u v : Nat) : Graph := ⟨g.vertexCount, Ks582.insertEdge (min u v, max u v) g.edges⟩
theorem insG_wg {g : Graph} (W : WG g) {u v : Nat} (hu : u < g.vertexCount) (hv : v < g.vertexCount) (h : u ≠ v) : WG (insG g u v) where
  pos := W.pos
  few := W.few
  lt := fun e he => by
    rcases insE_mem.mp he with rfl | he
    · show min u v < max u v ∧ max u v < g.vertexCount
      omega
    · exact W.lt e he
  srt := insE_srt W.srt
def delG (g : Graph) (u v : Nat) : Graph := ⟨g.vertexCount, g.edges.filter fun e => e != (min u v, max u v)⟩
theorem delG_wg {g : Graph} (W : WG g) (u v : Nat) : WG (delG g u v) where
  pos := W.pos
  few := W.few
  lt := fun e he => W.lt e (List.mem_filter.mp he).1
  srt := W.srt.filter _
theorem srt_nodup {l : List (Nat × Nat)} (h : l.Pairwise ltE) : l.Nodup := h.imp fun {a b} hab z => by
  subst z
  unfold ltE at hab
  omega
theorem filter_ne_len : ∀ {l : List (Nat × Nat)} {e : Nat × Nat}, l.Nodup → e ∈ l → (l.filter fun x => x != e).length + 1 = l.length
  | [], _, _, h => nomatch h
  | a :: r, e, nd, h => by
    obtain ⟨n1, n2⟩ := List.nodup_cons.mp nd
    by_cases q : a = e
    · subst q
      rw [List.filter_cons_of_neg (by simp), List.filter_eq_self.mpr (fun x hx => by
        rw [bne_iff_ne]
        exact fun z => n1 (z ▸ hx)), List.length_cons]
    · rw [List.filter_cons_of_pos (by rw [bne_iff_ne]; exact q), List.length_cons, List.length_cons, filter_ne_len n2 ((List.mem_cons.mp h).resolve_left (Ne.symm q))]
end PB
namespace PBW
open PySem PySem.Spec PyProof.Rows L2 Evl PB
open Ks577 (Graph pebblesAt isAdjacent)
open Ks582 (State)
variable {P : Program} {w : World} {K : PySem.W.Frag} {mg : Str → Option Value} {base : Heap} {ad : Adr}
theorem units65 {k : Nat} {A : Around} (hr : Room k A) : A.units + 65 < cLine := by have := hr.un; omega
theorem op_neDK {X : Cx} (hK : X.K = K) (hu : X.A.units + 64 < cLine) : OpR X (compareOp .NotEq) (rNeD K) := hK ▸ op_neD hu
/-! ### pairs as data -/
def pD (e : Nat × Nat) : PyData := .tuple [.int e.1, .int e.2]
theorem pD_eqv (x y : Nat × Nat) : PyData.eqv (pD x) (pD y) = decide (x = y) := by
  obtain ⟨a, b⟩ := x
  obtain ⟨c, d⟩ := y
  have e : PyData.eqv (pD (a, b)) (pD (c, d)) = (((a : Int) == (c : Int)) && (((b : Int) == (d : Int)) && true)) := by simp only [pD, PyData.eqv, PyData.eqvAll]
  rw [e]
  by_cases h1 : a = c
  · by_cases h2 : b = d
    · subst h1 h2
      simp
    · rw [show ((b : Int) == (d : Int)) = false from beq_eq_false_iff_ne.mpr (by omega), Bool.false_and, Bool.and_false]
      exact (decide_eq_false fun z => h2 (congrArg Prod.snd z)).symm
  · rw [show ((a : Int) == (c : Int)) = false from beq_eq_false_iff_ne.mpr (by omega), Bool.false_and]
    exact (decide_eq_false fun z => h1 (congrArg Prod.fst z)).symm
theorem pD_lay (z : Nat × Nat) : (pD z).canLay0 = true := by simp [pD, PyData.canLay0, PyData.canLayAll0]
theorem pD_depth (z : Nat × Nat) : (pD z).depth = 1 := by simp [pD, PyData.depth, PyData.depthAll]
theorem pDs_lay : ∀ zs : List (Nat × Nat), PyData.canLayAll0 (zs.map pD) = true
  | [] => by simp [PyData.canLayAll0]
  | z :: zs => by simp [PyData.canLayAll0, pD_lay z, pDs_lay zs]
theorem pDs_depth : ∀ zs : List (Nat × Nat), PyData.depthAll (zs.map pD) ≤ 1
  | [] => by simp [PyData.depthAll]
  | z :: zs => by
    have h1 := pDs_depth zs
    have h2 := pD_depth z
    simp only [List.map_cons, PyData.depthAll]
    omega
theorem pD_shaped (z : Nat × Nat) : SeqAt.shaped (pD z) = true := by
  have h := pD_depth z
  show ((pD z).canLay0 && decide ((pD z).depth ≤ 64)) = true
  rw [Bool.and_eq_true]
  exact ⟨pD_lay z, decide_eq_true (by omega)⟩
theorem pDs_shaped (zs : List (Nat × Nat)) : SeqAt.shaped (.list (zs.map pD)) = true := by
  have h1 := pDs_depth zs
  have h2 : PyData.depth (.list (zs.map pD)) ≤ 64 := by
    simp only [PyData.depth]
    omega
  show (PyData.canLay0 (.list (zs.map pD)) && decide (PyData.depth (.list (zs.map pD)) ≤ 64)) = true
  rw [Bool.and_eq_true]
  exact ⟨by simp only [PyData.canLay0]; exact pDs_lay zs, decide_eq_true h2⟩
theorem pD_any (e : Nat × Nat) (zs : List (Nat × Nat)) : ((zs.map pD).any fun z => PyData.eqv z (pD e)) = decide (e ∈ zs) := by
  induction zs with
  | nil => rfl
  | cons a r ih =>
    rw [List.map_cons, List.any_cons, ih, pD_eqv]
    by_cases h : a = e
    · subst h
      rw [decide_eq_true rfl, Bool.true_or]
      exact (decide_eq_true (List.mem_cons_self ..)).symm
    · rw [decide_eq_false h, Bool.false_or]
      exact decide_eq_decide.mpr ⟨fun z => List.mem_cons_of_mem _ z, fun z => (List.mem_cons.mp z).resolve_left (Ne.symm h)⟩
theorem dp_pair {H : Hp} {t : Addr} {u v : Nat} (h : TupOf H t [u, v]) : Dp K H (.ref t) (pD (u, v)) := .tup (st_of' h) (.cons (.int _) (.cons (.int _) .nil))
theorem dp_all {H : Hp} : ∀ {as : List Addr} {es : List (Nat × Nat)}, Paired (TupOf H) as (prs es) → DpAll K H (ARefs as) (es.map pD)
  | [], [], _ => .nil
  | _ :: _, [], h => by cases h
  | [], _ :: _, h => by cases h
  | a :: as, e :: es, .cons r t => .cons (dp_pair r) (dp_all t)
theorem dp_edges {H : Hp} {p : Addr} {es : List (Nat × Nat)} (h : TupsAt H p (prs es)) : Dp K H (.ref p) (.list (es.map pD)) := let ⟨as, h1, h2⟩ := h; .lst (sl_of' h1) (dp_all h2)
/-! ### the board with a field changed -/
section
variable {i : Bool} {H H' : Hp} {a dx e p er so ca D q : Addr} {st st' : State} {X X' : Addr → Prop} {us us' : List Addr} {ss : List SR} {ys : NXs} {o : HO}
theorem BoardX.setP (B : BoardX P w ad H a st X dx e p er so ca us ss ys) {c : List Nat} (hq : TupOf H q c) (hl : c.length = st.board.graph.vertexCount) (hs : c.sum ≤ 12) :
    BoardX P w ad (upd H a (.ins ad.C_Board dx (BFl st.board.graph.vertexCount e q st.board.moveCount er so ca))) a (setP st c) X dx e q er so ca us ss ys :=
  have R := B.own (dx' := dx) (fs := BFl st.board.graph.vertexCount e q st.board.moveCount er so ca)
  ⟨{ edg := R.edg, edo := R.edo, peb := (KX.own (X := X) B.ins rfl).tup hq, ear := R.ear, ero := R.ero, old := R.old, sol := R.sol, sols := R.sols, snd := R.snd, scd := R.scd, cam := R.cam, cams := R.cams, soca := R.soca, xin := R.xin,
     ok := { bd := { wg := R.ok.bd.wg, vc := rfl, len := hl, sum := hs }, old := R.ok.old, few := R.ok.few } }, upd_same⟩
theorem BoardX.setM (B : BoardX P w ad H a st X dx e p er so ca us ss ys) (m : Nat) :
    BoardX P w ad (upd H a (.ins ad.C_Board dx (BFl st.board.graph.vertexCount e p m er so ca))) a (setM st m) X dx e p er so ca us ss ys :=
  have R := B.own (dx' := dx) (fs := BFl st.board.graph.vertexCount e p m er so ca)
  ⟨{ edg := R.edg, edo := R.edo, peb := R.peb, ear := R.ear, ero := R.ero, old := R.old, sol := R.sol, sols := R.sols, snd := R.snd, scd := R.scd, cam := R.cam, cams := R.cams, soca := R.soca, xin := R.xin,
     ok := { bd := { wg := R.ok.bd.wg, vc := rfl, len := R.ok.bd.len, sum := R.ok.bd.sum }, old := R.ok.old, few := R.ok.few } }, upd_same⟩
theorem BoardX.frOwn (B : BoardX P w ad H a st X dx e p er so ca us ss ys) {fs : List (Str × V)} : Fr X H (upd H a (.ins ad.C_Board dx fs)) := Fr.upd B.ins id
/-- the list of earlier boards changed in its place -/
theorem BoardX.ear' (B : BoardX P w ad H a st X dx e p er so ca us ss ys) (hb : st'.board = st.board) (hs : StOk st') (old' : Paired (OldAt H (EX X er)) us' st'.undoStack.reverse) :
    BoardX P w ad (upd H er (.lst (ARefs us'))) a st' X dx e p er so ca us' ss ys :=
  have k : KX false (EX X er) H (upd H er (.lst (ARefs us'))) := KX.mut B.ear (.inr rfl)
  ⟨{ edg := by rw [hb]; exact k.tups B.edg B.edo
     edo := B.edo
     peb := by rw [hb]; exact k.tup B.peb
     ear := upd_same
     ero := B.ero
     old := Paired.mapP old' fun _ _ z => z.kx k
     sol := nkAt_kx B.sol k
     sols := fun s hs => by rw [hb]; exact ⟨(B.sols s hs).1, (B.sols s hs).2.kx k⟩
     snd := B.snd
     scd := B.scd
     cam := nkAt_kx B.cam k
     cams := fun y hy => by
       rw [hb]
       obtain ⟨c, b, L, h1, h2, h3⟩ := B.cams y hy
       exact ⟨c, b, L, h1, h2, h3.kx k⟩
     soca := B.soca
     xin := fun x hx z => B.xin x hx (k.dom x z)
     ok := hs }, by rw [hb]; exact k.st _ _ B.ins (fun z => Bool.false_ne_true z.1)⟩
theorem BoardX.at (B : BoardX P w ad H a st X dx e p er so ca us ss ys) : BoardAt P w ad H a st X := ⟨_, _, _, _, _, _, _, _, _, B⟩
end
theorem one_ret {H : Hp} {p : Addr} {v : Int} : IntsOf (upd H p (.lst [.int v])) p [v] := upd_same
/-! ### put_edge -/
def sp_Board_put_edge (P : Program) (w : World) (ad : Adr) : Sp := fun vs H Q E => ∃ (a : Addr) (u v : Nat) (st : State) (X : Addr → Prop), vs = [.ref a, .int u, .int v] ∧ BoardAt P w ad H a st X ∧ Res P w ad H a X (Ks582.perform st (.addEdge u v)) Q E
theorem ok_Board_put_edge (T : Txt K mg ad) : Ok P w K mg base (L2.CX P w) 4 ad.f_Board_put_edge ["self", "one", "other"] (sp_Board_put_edge P w ad) := by
  obtain ⟨fd, F⟩ := T.F_Board_put_edge
  obtain ⟨fd_Board_put_edges, G_Board_put_edges, B_Board_put_edges⟩ := ok_Board_put_edges (P := P) (w := w) (base := base) T
  obtain ⟨fd_Board_edge, G_Board_edge, B_Board_edge⟩ := ok_Board_edge (P := P) (w := w) (base := base) T
  obtain ⟨fd_Board_push, G_Board_push, B_Board_push⟩ := ok_Board_push (P := P) (w := w) (base := base) T
  obtain ⟨fd_refuse_if, G_refuse_if, B_refuse_if⟩ := ok_refuse_if (P := P) (w := w) (base := base) T
  obtain ⟨fd_Board_check, G_Board_check, B_Board_check⟩ := ok_Board_check (P := P) (w := w) (base := base) T
  refine ⟨fd, F.okX sc_Board_put_edge (fun vs H Q E h => ?_) (fun cdv A outer s H vs Q E hr h => ?_), F.binds fun _ _ _ _ _ _ us hl => match us, hl with | [_, _, _], _ => rfl⟩
  · obtain ⟨_, _, _, _, _, rfl, _⟩ := h
    rfl
  have hu := hu_of hr
  refine ⟨_, (pss_cons (ps_expr (pe_meth (pv 0) T.cl_Board T.m_Board_check G_Board_check (hr.mono (by decide)) B_Board_check .nil (passes_call (takes_of rfl rfl rfl rfl) (fun _ _ _ _ z => z)) (by exact (pa_cons (pe_lst (by exact (pa_cons (pv 1) (pa_cons (pv 2) pa_nil)))) pa_nil))))
      (pss_cons (ps_expr (pe_call G_refuse_if (hr.mono (by decide)) (by rfl) T.g_refuse_if T.k_refuse_if B_refuse_if .nil (passes_call (takes_of rfl rfl rfl rfl) (fun _ _ _ _ z => z)) (by exact (pa_cons (pe_cmpR op_eq (pv 1) (pv 2) (nomark _)) (pa_cons (pe_un un_neg pe_int) pa_nil)))))
      (pss_cons (ps_expr (pe_call G_refuse_if (hr.mono (by decide)) (by rfl) T.g_refuse_if T.k_refuse_if B_refuse_if .nil (passes_call (takes_of rfl rfl rfl rfl) (fun _ _ _ _ z => z)) (by exact (pa_cons (pe_cmpR (op_inD (units65 hr)) (pe_meth (pv 0) T.cl_Board T.m_Board_edge G_Board_edge (hr.mono (by decide)) B_Board_edge .nil pass0 (by exact (pa_cons (pv 1) (pa_cons (pv 2) pa_nil)))) (pe_fld (pv 0) rfl) (by rfl)) (pa_cons (pe_un un_neg pe_int) pa_nil)))))
      (pss_cons (ps_expr (pe_meth0 (pv 0) T.cl_Board T.m_Board_push G_Board_push (hr.mono (by decide)) B_Board_push .nil pass0))
      (pss_cons (ps_expr (pe_meth (pv 0) T.cl_Board T.m_Board_put_edges G_Board_put_edges (hr.mono (by decide)) B_Board_put_edges .nil pass0 (by exact (pa_cons (pe_op op_cat (pe_fld (pv 0) rfl) (pe_lst (by exact (pa_cons (pe_meth (pv 0) T.cl_Board T.m_Board_edge G_Board_edge (hr.mono (by decide)) B_Board_edge .nil pass0 (by exact (pa_cons (pv 1) (pa_cons (pv 2) pa_nil)))) pa_nil)))) pa_nil))))
      (pss_one (ps_ret (pe_lst (by exact (pa_cons (pe_callB call_len_seq (by rfl) T.n_len (by decide +kernel) (by exact (pa_cons (pe_fld (pv 0) rfl) pa_nil))) pa_nil)))))))))), ?_⟩
  obtain ⟨a, u, v, st, X, rfl, ⟨dx, e, p, er, so, ca, us, ss, ys, B⟩, r⟩ := h
  have W := B.ok.bd.wg
  refine ⟨_, rfl, a, dx, _, rfl, B.ins, rfl, _, rfl, _, rfl, by show 2 ≤ sizeLine; exact szs (by omega), fun l hl => ?_⟩
  have B1 := B.kx (KX.ex (Ex.new (o := .lst (nVs [u, v])) hl))
  refine ⟨a, l, st, X, [u, v], rfl, B1.at, upd_same, by show 2 ≤ 5; decide, fun hall H2 e2 => ?_, fun hex H2 e2 => ?_⟩
  rotate_left
  · have h0 : st.board.graph.vertexCount ≤ u ∨ (¬ st.board.graph.vertexCount ≤ u ∧ st.board.graph.vertexCount ≤ v) := by
      obtain ⟨x, hx, hle⟩ := hex
      rcases List.mem_cons.mp hx with rfl | hx
      · exact .inl hle
      · rw [List.mem_singleton.mp hx] at hle
        omega
    have hh : Ks582.perform st (.addEdge u v) = (st, Ks577.number (-2)) := by
      rcases h0 with h0 | ⟨h0, h1⟩
      · exact if_pos h0
      · exact (if_neg h0).trans (if_pos h1)
    exact r.no hh (Fr.ex ((Ex.new hl).trans e2)) (B1.kx (KX.ex e2)).at
  have hu : u < st.board.graph.vertexCount := hall u (by simp)
  have hv : v < st.board.graph.vertexCount := hall v (by simp)
  have x2 : Ex H H2 := (Ex.new hl).trans e2
  have B2 := B.kx (KX.ex x2)
  refine ⟨_, rfl, _, rfl, rfl, _, rfl, _, _, rfl, fun hc => ?_, fun hc => ?_⟩
  rotate_left
  · have he : u = v := by
      have := of_decide_eq_true hc
      injection this with this
      omega
    exact r.no ((if_neg (by omega)).trans ((if_neg (by omega)).trans (if_pos he))) (Fr.ex x2) B2.at
  have hne : u ≠ v := fun z => of_decide_eq_false hc (by rw [z])
  refine ⟨_, rfl, a, dx, _, rfl, B2.ins, rfl, _, rfl, _, rfl, _, u, v, rfl, fun t H3 ht x3 htt => ?_⟩
  have x03 := x2.trans x3
  have B3 := B.kx (KX.ex x03)
  refine ⟨_, rfl, a, _, dx, _, _, rfl, B3.ins, T.cl_Board, T.na_Board_edges, rfl, pD (min u v, max u v), st.board.graph.edges.map pD, dp_pair htt, dp_edges B3.edg, pD_shaped _, pDs_shaped _, _, rfl, _, _, rfl, fun hc => ?_, fun hc => ?_⟩
  rotate_left
  · rw [pD_any, ← adj_mm W] at hc
    exact r.no ((if_neg (by omega)).trans ((if_neg (by omega)).trans ((if_neg hne).trans (if_pos hc)))) (Fr.ex x03) B3.at
  rw [pD_any] at hc
  have hnin := of_decide_eq_false hc
  have hadj : ¬ isAdjacent st.board.graph u v = true := by rw [adj_mm W]; exact Bool.eq_false_iff.mp hc
  refine ⟨_, rfl, a, dx, _, rfl, B3.ins, rfl, a, st, X, rfl, B3.at, fun H4 f4 ⟨dx4, e4, p4, er4, so4, ca4, us4, ss4, ys4, B4⟩ => ?_⟩
  refine ⟨_, rfl, a, dx4, _, rfl, B4.ins, rfl, _, rfl, a, _, dx4, _, _, rfl, B4.ins, T.cl_Board, T.na_Board_edges, rfl, _, rfl, a, dx4, _, rfl, B4.ins, rfl, _, rfl, _, rfl, _, u, v, rfl, fun t2 H5 ht2 x5 htt2 => ?_⟩
  refine ⟨by show 1 ≤ sizeLine; exact szs (by omega), fun l2 hl2 => ?_⟩
  have x46 := x5.trans (Ex.new (o := .lst [.ref t2]) hl2)
  obtain ⟨es, hes, hesP⟩ := B4.edg
  have hel : es.length = st.board.graph.edges.length := by rw [Paired.length hesP]; unfold prs; rw [List.length_map]; rfl
  have h10 := edges_few W
  refine ⟨e4, l2, _, _, rfl, rfl, x46 _ _ hes, upd_same, by rw [aref_len]; show _ + 1 ≤ sizeLine; exact szs (by omega), fun z hz => ?_⟩
  have x47 := x46.trans (Ex.new (o := .lst (ARefs es ++ [.ref t2])) hz)
  have B7 := B4.kx (KX.ex x47)
  have Wi := insG_wg W hu hv hne
  refine ⟨a, z, Ks582.change st st.board, X, insG st.board.graph u v, st.board.graph.edges ++ [(min u v, max u v)], rfl, B7.at, ⟨es ++ [t2], ?_, ?_⟩, Wi, rfl, insE_perm hnin, fun H8 f8 B8 => ?_⟩
  · rw [upd_same, aref_app]
    rfl
  · rw [prs_app]
    exact paired_app (tups_ex x47 hesP) (.cons (((Ex.new hl2).trans (Ex.new hz)) _ _ htt2) .nil)
  obtain ⟨dx8, e8, p8, er8, so8, ca8, us8, ss8, ys8, B8⟩ := B8
  obtain ⟨es8, hes8, hesP8⟩ := B8.edg
  have hel8 : es8.length = st.board.graph.edges.length + 1 := by
    rw [Paired.length hesP8]
    unfold prs
    rw [List.length_map]
    show (Ks582.insertEdge (min u v, max u v) st.board.graph.edges).length = _
    rw [← (insE_perm hnin).length_eq, List.length_append]
    rfl
  refine ⟨_, rfl, a, _, dx8, _, _, rfl, B8.ins, T.cl_Board, T.na_Board_edges, rfl, e8, _, rfl, .inl (sl_of' hes8), by show 1 ≤ sizeLine; exact szs (by omega), fun y hy => ?_⟩
  have f08 := ((Fr.ex x03).trans f4).trans ((Fr.ex x47).trans f8)
  refine r.ok ((if_neg (by omega)).trans ((if_neg (by omega)).trans ((if_neg hne).trans (if_neg hadj)))) (f08.trans (Fr.ex (Ex.new hy))) (f08.dom _ hy) (B8.kx (KX.ex (Ex.new hy))).at ?_
  rw [aref_len, hel8]
  exact one_ret
/-! ### take_edge -/
def sp_Board_take_edge (P : Program) (w : World) (ad : Adr) : Sp := fun vs H Q E => ∃ (a : Addr) (u v : Nat) (st : State) (X : Addr → Prop), vs = [.ref a, .int u, .int v] ∧ BoardAt P w ad H a st X ∧ Res P w ad H a X (Ks582.perform st (.removeEdge u v)) Q E
theorem two_out {n u v : Nat} (h : ∃ x ∈ [u, v], n ≤ x) : n ≤ u ∨ (¬ n ≤ u ∧ n ≤ v) := by
  obtain ⟨x, hx, hle⟩ := h
  rcases List.mem_cons.mp hx with rfl | hx
  · exact .inl hle
  · rw [List.mem_singleton.mp hx] at hle
    omega
theorem ok_Board_take_edge (T : Txt K mg ad) : Ok P w K mg base (L2.CX P w) 4 ad.f_Board_take_edge ["self", "one", "other"] (sp_Board_take_edge P w ad) := by
  obtain ⟨fd, F⟩ := T.F_Board_take_edge
  obtain ⟨fd_Board_put_edges, G_Board_put_edges, B_Board_put_edges⟩ := ok_Board_put_edges (P := P) (w := w) (base := base) T
  obtain ⟨fd_Board_push, G_Board_push, B_Board_push⟩ := ok_Board_push (P := P) (w := w) (base := base) T
  obtain ⟨fd_refuse_if, G_refuse_if, B_refuse_if⟩ := ok_refuse_if (P := P) (w := w) (base := base) T
  obtain ⟨fd_Board_edge, G_Board_edge, B_Board_edge⟩ := ok_Board_edge (P := P) (w := w) (base := base) T
  obtain ⟨fd_Board_check, G_Board_check, B_Board_check⟩ := ok_Board_check (P := P) (w := w) (base := base) T
  refine ⟨fd, F.okX sc_Board_take_edge (fun vs H Q E h => ?_) (fun cdv A outer s H vs Q E hr h => ?_), F.binds fun _ _ _ _ _ _ us hl => match us, hl with | [_, _, _], _ => rfl⟩
  · obtain ⟨_, _, _, _, _, rfl, _⟩ := h
    rfl
  have hu := hu_of hr
  refine ⟨_, (pss_cons (ps_expr (pe_meth (pv 0) T.cl_Board T.m_Board_check G_Board_check (hr.mono (by decide)) B_Board_check .nil (passes_call (takes_of rfl rfl rfl rfl) (fun _ _ _ _ z => z)) (by exact (pa_cons (pe_lst (by exact (pa_cons (pv 1) (pa_cons (pv 2) pa_nil)))) pa_nil))))
      (pss_cons (ps_set (i := 3) sc_Board_take_edge.nd rfl (by first | exact Or.inl rfl | exact Or.inr rfl) (pe_meth (pv 0) T.cl_Board T.m_Board_edge G_Board_edge (hr.mono (by decide)) B_Board_edge .nil pass0 (by exact (pa_cons (pv 1) (pa_cons (pv 2) pa_nil)))))
      (pss_cons (ps_expr (pe_call G_refuse_if (hr.mono (by decide)) (by rfl) T.g_refuse_if T.k_refuse_if B_refuse_if .nil (passes_call (takes_of rfl rfl rfl rfl) (fun _ _ _ _ z => z)) (by exact (pa_cons (pe_cmpR (op_notInD (units65 hr)) (pv 3) (pe_fld (pv 0) rfl) (by rfl)) (pa_cons (pe_un un_neg pe_int) pa_nil)))))
      (pss_cons (ps_expr (pe_meth0 (pv 0) T.cl_Board T.m_Board_push G_Board_push (hr.mono (by decide)) B_Board_push .nil pass0))
      (pss_cons (ps_expr (pe_meth (pv 0) T.cl_Board T.m_Board_put_edges G_Board_put_edges (hr.mono (by decide)) B_Board_put_edges .nil pass0 (by exact (pa_cons (by exact (pe_lc (own := [("here", 4)]) rfl sc_Board_take_edge.nd (pi_list (pe_fld (pv 0) rfl)) (blkOk_by (own := [("here", 4)]) (N := N_Board_take_edge) (sc := defScope s_Board_take_edge) (by decide +kernel)) (fun _ _ _ _ _ => (pg_name (i := 4) sc_Board_take_edge.nd rfl (by first | exact Or.inl rfl | exact Or.inr rfl))) (fun _ _ _ _ _ => (pts_one (pt_cmpR (op_neDK (K := K) rfl hr.units) (pv 4) (pv 3) (nomark _)))) (fun _ _ _ _ _ => (pv 4)))) pa_nil))))
      (pss_one (ps_ret (pe_lst (by exact (pa_cons (pe_callB call_len_seq (by rfl) T.n_len (by decide +kernel) (by exact (pa_cons (pe_fld (pv 0) rfl) pa_nil))) pa_nil)))))))))), ?_⟩
  obtain ⟨a, u, v, st, X, rfl, ⟨dx, e, p, er, so, ca, us, ss, ys, B⟩, r⟩ := h
  have W := B.ok.bd.wg
  refine ⟨_, rfl, a, dx, _, rfl, B.ins, rfl, _, rfl, _, rfl, by show 2 ≤ sizeLine; exact szs (by omega), fun l hl => ?_⟩
  have B1 := B.kx (KX.ex (Ex.new (o := .lst (nVs [u, v])) hl))
  refine ⟨a, l, st, X, [u, v], rfl, B1.at, upd_same, by show 2 ≤ 5; decide, fun hall H2 e2 => ?_, fun hex H2 e2 => ?_⟩
  rotate_left
  · have hh : Ks582.perform st (.removeEdge u v) = (st, Ks577.number (-2)) := by
      rcases two_out hex with h0 | ⟨h0, h1⟩
      · exact if_pos h0
      · exact (if_neg h0).trans (if_pos h1)
    exact r.no hh (Fr.ex ((Ex.new hl).trans e2)) (B1.kx (KX.ex e2)).at
  have hu : u < st.board.graph.vertexCount := hall u (by simp)
  have hv : v < st.board.graph.vertexCount := hall v (by simp)
  have x2 : Ex H H2 := (Ex.new hl).trans e2
  have B2 := B.kx (KX.ex x2)
  refine ⟨_, rfl, a, dx, _, rfl, B2.ins, rfl, _, rfl, _, rfl, _, u, v, rfl, fun t H3 ht x3 htt => ?_⟩
  have x03 := x2.trans x3
  have B3 := B.kx (KX.ex x03)
  refine ⟨_, rfl, _, rfl, a, _, dx, _, _, rfl, B3.ins, T.cl_Board, T.na_Board_edges, rfl, pD (min u v, max u v), st.board.graph.edges.map pD, dp_pair htt, dp_edges B3.edg, pD_shaped _, pDs_shaped _, _, rfl, _, _, rfl, fun hc => ?_, fun hc => ?_⟩
  rotate_left
  · rw [pD_any, ← adj_mm W] at hc
    have hc : isAdjacent st.board.graph u v = false := by simpa using hc
    exact r.no ((if_neg (by omega)).trans ((if_neg (by omega)).trans (if_pos hc))) (Fr.ex x03) B3.at
  rw [pD_any] at hc
  have hin : (min u v, max u v) ∈ st.board.graph.edges := by simpa using hc
  have hadj : ¬ isAdjacent st.board.graph u v = false := by rw [adj_mm W, decide_eq_true hin]; exact fun z => nomatch z
  refine ⟨_, rfl, a, dx, _, rfl, B3.ins, rfl, a, st, X, rfl, B3.at, fun H4 f4 ⟨dx4, e4, p4, er4, so4, ca4, us4, ss4, ys4, B4⟩ => ?_⟩
  obtain ⟨es, hes, hesP⟩ := B4.edg
  have hesP : Paired (TupOf H4) es (prs st.board.graph.edges) := hesP
  have htt4 : TupOf H4 t [min u v, max u v] := f4.tup htt
  refine ⟨_, rfl, a, dx4, _, rfl, B4.ins, rfl, _, rfl, a, _, dx4, _, _, rfl, B4.ins, T.cl_Board, T.na_Board_edges, rfl, e4, rfl, ⟨_, sl_of' hes⟩, fun D hD => ?_⟩
  have h10 := edges_few W
  have hel : es.length = st.board.graph.edges.length := by rw [Paired.length hesP]; unfold prs; rw [List.length_map]
  refine lc_list (a := e4) (xs := ARefs es) (fun j H5 => Ex H4 H5 ∧ TupsAt H5 D (prs ((st.board.graph.edges.take j).filter fun x => x != (min u v, max u v)))) ⟨Ex.new hD, [], upd_same, .nil⟩ (fun j H5 _ z => sl_of' (z.1 _ _ hes)) ?_ ?_
  · rintro j x H5 hj ⟨x5, hT⟩
    obtain ⟨y, hy, rfl⟩ := aref_of hj
    obtain ⟨c, hc2, hcy⟩ := paired_at hesP hy
    obtain ⟨f, hf, rfl⟩ := prs_get hc2
    have hcy5 := x5 _ _ hcy
    refine ⟨rfl, _, rfl, _, rfl, pD f, pD (min u v, max u v), dp_pair hcy5, dp_pair (x5 _ _ htt4), pD_shaped _, pD_shaped _, _, rfl, ?_⟩
    rw [pD_eqv, take_snoc hf, List.filter_append]
    obtain ⟨bs, h3, h4⟩ := hT
    have hbl := Paired.length h4
    unfold prs at hbl
    rw [List.length_map] at hbl
    have hle := List.length_filter_le (fun x => x != (min u v, max u v)) (st.board.graph.edges.take j)
    rw [List.length_take] at hle
    by_cases hfe : f = (min u v, max u v)
    · rw [decide_eq_true hfe]
      refine if_false_of rfl ⟨x5, bs, h3, ?_⟩
      rw [List.filter_cons_of_neg (by rw [hfe]; simp), List.filter_nil, List.append_nil]
      exact h4
    · rw [decide_eq_false hfe]
      refine if_true_of rfl ⟨_, rfl, ARefs bs, h3, by rw [aref_len]; exact szl (by omega), Ex.mut x5 hD, ?_⟩
      rw [List.filter_cons_of_pos (by rw [bne_iff_ne]; exact hfe), List.filter_nil, prs_app]
      exact ⟨bs ++ [y], by rw [upd_same, aref_app]; rfl, tups_lst h3 (paired_app h4 (.cons hcy5 .nil))⟩
  · rintro H5 ⟨x5, hT⟩
    rw [aref_len, hel, List.take_length] at hT
    have B7 := B4.kx (KX.ex x5)
    refine ⟨a, D, Ks582.change st st.board, X, delG st.board.graph u v, (delG st.board.graph u v).edges, rfl, B7.at, hT, delG_wg W u v, rfl, List.Perm.refl _, fun H8 f8 ⟨dx8, e8, p8, er8, so8, ca8, us8, ss8, ys8, B8⟩ => ?_⟩
    obtain ⟨es8, hes8, hesP8⟩ := B8.edg
    have hdl := filter_ne_len (srt_nodup W.srt) hin
    have hel8 : es8.length = st.board.graph.edges.length - 1 := by
      rw [Paired.length hesP8]
      unfold prs
      rw [List.length_map]
      show ((st.board.graph.edges).filter fun e => e != (min u v, max u v)).length = _
      omega
    refine ⟨_, rfl, a, _, dx8, _, _, rfl, B8.ins, T.cl_Board, T.na_Board_edges, rfl, e8, _, rfl, .inl (sl_of' hes8), by show 1 ≤ sizeLine; exact szs (by omega), fun y hy => ?_⟩
    have f08 := ((Fr.ex x03).trans f4).trans ((Fr.ex x5).trans f8)
    refine r.ok ((if_neg (by omega)).trans ((if_neg (by omega)).trans (if_neg hadj))) (f08.trans (Fr.ex (Ex.new hy))) (f08.dom _ hy) (B8.kx (KX.ex (Ex.new hy))).at ?_
    rw [aref_len, hel8]
    exact one_ret
/-! ### set_pebbles -/
def sp_Board_set_pebbles (P : Program) (w : World) (ad : Adr) : Sp := fun vs H Q E => ∃ (a l : Addr) (c : List Nat) (st : State) (X : Addr → Prop), vs = [.ref a, .ref l] ∧ BoardAt P w ad H a st X ∧ LstOf H l c ∧ X l ∧ Res P w ad H a X (Ks582.perform st (.setPebbles c)) Q E
theorem ok_Board_set_pebbles (T : Txt K mg ad) : Ok P w K mg base (L2.CX P w) 3 ad.f_Board_set_pebbles ["self", "row"] (sp_Board_set_pebbles P w ad) := by
  obtain ⟨fd, F⟩ := T.F_Board_set_pebbles
  obtain ⟨fd_Board_push, G_Board_push, B_Board_push⟩ := ok_Board_push (P := P) (w := w) (base := base) T
  obtain ⟨fd_refuse_if, G_refuse_if, B_refuse_if⟩ := ok_refuse_if (P := P) (w := w) (base := base) T
  refine ⟨fd, F.okX sc_Board_set_pebbles (fun vs H Q E h => ?_) (fun cdv A outer s H vs Q E hr h => ?_), F.binds fun _ _ _ _ _ _ us hl => match us, hl with | [_, _], _ => rfl⟩
  · obtain ⟨_, _, _, _, _, rfl, _⟩ := h
    rfl
  have hu := hu_of hr
  refine ⟨_, (pss_cons (ps_expr (pe_call G_refuse_if (hr.mono (by decide)) (by rfl) T.g_refuse_if T.k_refuse_if B_refuse_if .nil (passes_call (takes_of rfl rfl rfl rfl) (fun _ _ _ _ z => z)) (by exact (pa_cons (pe_or (pe_cmpR op_ne (pe_callB call_len_seq (by rfl) T.n_len (by decide +kernel) (by exact (pa_cons (pv 1) pa_nil))) (pe_fld (pv 0) rfl) (nomark _)) (pe_one (pe_cmpR op_gt (pe_callB (cr_sum rfl) (by rfl) T.n_sum (by decide +kernel) (by exact (pa_cons (pv 1) pa_nil))) (pe_glob (v := .int (12)) rfl T.c_MOST_PEBBLES ⟨_, rfl⟩) (nomark _)))) (pa_cons (pe_un un_neg pe_int) pa_nil)))))
      (pss_cons (ps_expr (pe_meth0 (pv 0) T.cl_Board T.m_Board_push G_Board_push (hr.mono (by decide)) B_Board_push .nil pass0))
      (pss_cons (ps_fld (pv 0) (pe_callTy call_tuple_of (by rfl) T.n_tuple (by decide +kernel) (by exact (pa_cons (pv 1) pa_nil))) rfl)
      (pss_cons (ps_fld (pv 0) pe_int rfl)
      (pss_one (ps_ret (pe_lst (by exact (pa_cons (pe_callB (cr_sum rfl) (by rfl) T.n_sum (by decide +kernel) (by exact (pa_cons (pv 1) pa_nil))) pa_nil))))))))), ?_⟩
  obtain ⟨a, l, c, st, X, rfl, ⟨dx, e, p, er, so, ca, us, ss, ys, B⟩, hl, hX, r⟩ := h
  have hl : H l = some (.lst (nVs c)) := hl
  refine ⟨_, rfl, l, _, rfl, .inl (sl_of' hl), _, rfl, a, _, dx, _, _, rfl, B.ins, T.cl_Board, T.na_Board_many, rfl, rfl, _, rfl, ?_⟩
  by_cases hlen : c.length = st.board.graph.vertexCount
  · refine if_false_of ?_ ?_
    · rw [nVs_len, hlen]
      simp
    refine ⟨_, rfl, l, zI c, rfl, by rw [← nVs_zI]; exact sl_of' hl, _, _, rfl, rfl, _, rfl, _, _, rfl, fun hc => ?_, fun hc => ?_⟩
    rotate_left
    · have hc := of_decide_eq_true hc
      rw [zI_sum] at hc
      have hno : Ks577.isValidConfiguration st.board.graph c = false := by
        unfold Ks577.isValidConfiguration Ks577.maxPebbles
        rw [decide_eq_false (by omega), Bool.and_false]
      exact r.no (if_pos hno) (Fr.refl X H) B.at
    have hc := of_decide_eq_false hc
    rw [zI_sum] at hc
    have hc12 : c.sum ≤ 12 := by omega
    have hyes : ¬ Ks577.isValidConfiguration st.board.graph c = false := by
      unfold Ks577.isValidConfiguration Ks577.maxPebbles
      rw [decide_eq_true hc12, Bool.and_true, hlen]
      simp
    refine ⟨_, rfl, a, dx, _, rfl, B.ins, rfl, a, st, X, rfl, B.at, fun H4 f4 ⟨dx4, e4, p4, er4, so4, ca4, us4, ss4, ys4, B4⟩ => ?_⟩
    have hl4 := f4.lst hl hX
    refine ⟨_, rfl, l, _, rfl, .inl ⟨sl_of' hl4, fun t ht => ?_⟩⟩
    have x5 : Ex H4 _ := Ex.new (o := .tup (nVs c)) ht
    have B5 := B4.kx (KX.ex x5)
    refine ⟨_, rfl, a, _, dx4, _, rfl, B5.ins, T.cl_Board, T.na_Board_pebbles, by show 7 < 1000; decide, ?_⟩
    have B6 := B5.setP (c := c) upd_same hlen hc12
    refine ⟨_, rfl, a, _, dx4, _, rfl, B6.ins, T.cl_Board, T.na_Board_moved, by show 7 < 1000; decide, ?_⟩
    have B7 := B6.setM 0
    have f7 := (f4.trans (Fr.ex x5)).trans ((B5.frOwn).trans (B6.frOwn (fs := BFl st.board.graph.vertexCount e4 t 0 er4 so4 ca4)))
    have hl7 := f7.lst hl hX
    refine ⟨_, rfl, l, zI c, rfl, by rw [← nVs_zI]; exact sl_of' hl7, by show 1 ≤ sizeLine; exact szs (by omega), fun y hy => ?_⟩
    refine r.ok (if_neg hyes) (f7.trans (Fr.ex (Ex.new hy))) (f7.dom _ hy) (B7.kx (KX.ex (Ex.new hy))).at ?_
    rw [zI_sum]
    exact one_ret
  · refine if_true_of ?_ ?_
    · rw [nVs_len]
      simp
      omega
    refine ⟨_, rfl, _, _, rfl, fun hc => (by cases hc), fun _ => ?_⟩
    have hno : Ks577.isValidConfiguration st.board.graph c = false := by
      unfold Ks577.isValidConfiguration
      rw [beq_eq_false_iff_ne.mpr hlen, Bool.false_and]
    exact r.no (if_pos hno) (Fr.refl X H) B.at
/-! ### put_pebbles -/
def sp_Board_put_pebbles (P : Program) (w : World) (ad : Adr) : Sp := fun vs H Q E => ∃ (a : Addr) (v cnt : Nat) (st : State) (X : Addr → Prop), vs = [.ref a, .int v, .int cnt] ∧ BoardAt P w ad H a st X ∧ Res P w ad H a X (Ks582.perform st (.addPebbles v cnt)) Q E
theorem ok_Board_put_pebbles (T : Txt K mg ad) : Ok P w K mg base (L2.CX P w) 4 ad.f_Board_put_pebbles ["self", "vertex", "count"] (sp_Board_put_pebbles P w ad) := by
  obtain ⟨fd, F⟩ := T.F_Board_put_pebbles
  obtain ⟨fd_Board_push, G_Board_push, B_Board_push⟩ := ok_Board_push (P := P) (w := w) (base := base) T
  obtain ⟨fd_refuse_if, G_refuse_if, B_refuse_if⟩ := ok_refuse_if (P := P) (w := w) (base := base) T
  obtain ⟨fd_Board_check, G_Board_check, B_Board_check⟩ := ok_Board_check (P := P) (w := w) (base := base) T
  refine ⟨fd, F.okX sc_Board_put_pebbles (fun vs H Q E h => ?_) (fun cdv A outer s H vs Q E hr h => ?_), F.binds fun _ _ _ _ _ _ us hl => match us, hl with | [_, _, _], _ => rfl⟩
  · obtain ⟨_, _, _, _, _, rfl, _⟩ := h
    rfl
  have hu := hu_of hr
  refine ⟨_, (pss_cons (ps_expr (pe_meth (pv 0) T.cl_Board T.m_Board_check G_Board_check (hr.mono (by decide)) B_Board_check .nil (passes_call (takes_of rfl rfl rfl rfl) (fun _ _ _ _ z => z)) (by exact (pa_cons (pe_lst (by exact (pa_cons (pv 1) pa_nil))) pa_nil))))
      (pss_cons (ps_expr (pe_call G_refuse_if (hr.mono (by decide)) (by rfl) T.g_refuse_if T.k_refuse_if B_refuse_if .nil (passes_call (takes_of rfl rfl rfl rfl) (fun _ _ _ _ z => z)) (by exact (pa_cons (pe_or (pe_cmpR op_eq (pv 2) pe_int (nomark _)) (pe_one (pe_cmpR op_gt (pe_op op_add (pe_callB (cr_sumT rfl) (by rfl) T.n_sum (by decide +kernel) (by exact (pa_cons (pe_fld (pv 0) rfl) pa_nil))) (pv 2)) (pe_glob (v := .int (12)) rfl T.c_MOST_PEBBLES ⟨_, rfl⟩) (nomark _)))) (pa_cons (pe_un un_neg pe_int) pa_nil)))))
      (pss_cons (ps_expr (pe_meth0 (pv 0) T.cl_Board T.m_Board_push G_Board_push (hr.mono (by decide)) B_Board_push .nil pass0))
      (pss_cons (ps_set (i := 3) sc_Board_put_pebbles.nd rfl (by first | exact Or.inl rfl | exact Or.inr rfl) (pe_callTy call_list_of (by rfl) T.n_list (by decide +kernel) (by exact (pa_cons (pe_fld (pv 0) rfl) pa_nil))))
      (pss_cons (ps_augS (pv 3) (pv 1) get_list (pv 2) ip_add set_list)
      (pss_cons (ps_fld (pv 0) (pe_callTy call_tuple_of (by rfl) T.n_tuple (by decide +kernel) (by exact (pa_cons (pv 3) pa_nil))) rfl)
      (pss_one (ps_ret (pe_lst (by exact (pa_cons (pe_callB (cr_sum rfl) (by rfl) T.n_sum (by decide +kernel) (by exact (pa_cons (pv 3) pa_nil))) pa_nil))))))))))), ?_⟩
  obtain ⟨a, v, cnt, st, X, rfl, ⟨dx, e, p, er, so, ca, us, ss, ys, B⟩, r⟩ := h
  refine ⟨_, rfl, a, dx, _, rfl, B.ins, rfl, _, rfl, by show 1 ≤ sizeLine; exact szs (by omega), fun l hl => ?_⟩
  have B1 := B.kx (KX.ex (Ex.new (o := .lst (nVs [v])) hl))
  refine ⟨a, l, st, X, [v], rfl, B1.at, upd_same, by show 1 ≤ 5; decide, fun hall H2 e2 => ?_, fun hex H2 e2 => ?_⟩
  rotate_left
  · obtain ⟨x, hx, hle⟩ := hex
    rw [List.mem_singleton.mp hx] at hle
    exact r.no (if_pos hle) (Fr.ex ((Ex.new hl).trans e2)) (B1.kx (KX.ex e2)).at
  have hv : v < st.board.graph.vertexCount := hall v (by simp)
  have x2 : Ex H H2 := (Ex.new hl).trans e2
  have B2 := B.kx (KX.ex x2)
  have hsum := B.ok.bd.sum
  refine ⟨_, rfl, rfl, _, rfl, ?_⟩
  by_cases h0 : cnt = 0
  · refine if_true_of (by rw [h0]; rfl) ⟨_, rfl, _, _, rfl, fun hc => (by cases hc), fun _ => ?_⟩
    exact r.no ((if_neg (by omega)).trans (if_pos (.inl (by omega)))) (Fr.ex x2) B2.at
  refine if_false_of (decide_eq_false fun z => h0 ?_) ?_
  · injection z with z
    omega
  refine ⟨_, rfl, a, _, dx, _, _, rfl, B2.ins, T.cl_Board, T.na_Board_pebbles, rfl, p, zI st.board.pebbles, rfl, by rw [← nVs_zI]; exact st_of' B2.peb, _, rfl, _, _, rfl, rfl, _, _, rfl, rfl, _, rfl, _, _, rfl, fun hc => ?_, fun hc => ?_⟩
  rotate_left
  · have hc := of_decide_eq_true hc
    rw [zI_sum] at hc
    exact r.no ((if_neg (by omega)).trans (if_pos (.inr (by show 12 < _; omega)))) (Fr.ex x2) B2.at
  have hc := of_decide_eq_false hc
  rw [zI_sum] at hc
  have hno : ¬ (cnt < 1 ∨ Ks577.maxPebbles < st.board.pebbles.sum + cnt) := by
    show ¬ (cnt < 1 ∨ 12 < st.board.pebbles.sum + cnt)
    omega
  refine ⟨_, rfl, a, dx, _, rfl, B2.ins, rfl, a, st, X, rfl, B2.at, fun H4 f4 ⟨dx4, e4, p4, er4, so4, ca4, us4, ss4, ys4, B4⟩ => ?_⟩
  refine ⟨_, rfl, a, _, dx4, _, _, rfl, B4.ins, T.cl_Board, T.na_Board_pebbles, rfl, p4, nVs st.board.pebbles, rfl, .inr (st_of' B4.peb), fun l2 hl2 => ?_⟩
  have hvl : v < st.board.pebbles.length := by rw [B.ok.bd.len]; exact hv
  refine ⟨_, rfl, _, rfl, l2, _, _, _, rfl, rfl, sl_of' upd_same, at_nVs hvl, _, rfl, _, _, rfl, rfl, l2, _, _, v, rfl, rfl, upd_same, ixN_nat (by rw [nVs_len]; exact hvl), ?_⟩
  have hset : (nVs st.board.pebbles).set v (V.int (((st.board.pebbles.getD v 0 : Nat) : Int) + (cnt : Int))) = nVs (st.board.pebbles.set v (pebblesAt st.board.pebbles v + cnt)) := by
    rw [← nVs_set]
    rfl
  have hsum2 : (st.board.pebbles.set v (pebblesAt st.board.pebbles v + cnt)).sum = st.board.pebbles.sum + cnt := by
    have := sum_set (l := st.board.pebbles) (j := v) (pebblesAt st.board.pebbles v + cnt) hvl
    unfold pebblesAt at this ⊢
    omega
  rw [upd_upd]
  rw [hset]
  have x5 : Ex H4 _ := Ex.new (o := .lst (nVs (st.board.pebbles.set v (pebblesAt st.board.pebbles v + cnt)))) hl2
  refine ⟨_, rfl, l2, _, rfl, .inl ⟨sl_of' upd_same, fun t ht => ?_⟩⟩
  have x6 := x5.trans (Ex.new (o := .tup (nVs (st.board.pebbles.set v (pebblesAt st.board.pebbles v + cnt)))) ht)
  have B6 := B4.kx (KX.ex x6)
  refine ⟨_, rfl, a, _, dx4, _, rfl, B6.ins, T.cl_Board, T.na_Board_pebbles, by show 7 < 1000; decide, ?_⟩
  have B7 := B6.setP (c := st.board.pebbles.set v (pebblesAt st.board.pebbles v + cnt)) upd_same (by rw [List.length_set]; exact B.ok.bd.len) (by omega)
  have hl7 : (upd (upd (upd H4 l2 (.lst (nVs (st.board.pebbles.set v (pebblesAt st.board.pebbles v + cnt))))) t (.tup (nVs (st.board.pebbles.set v (pebblesAt st.board.pebbles v + cnt))))) a (.ins ad.C_Board dx4 (BFl st.board.graph.vertexCount e4 t st.board.moveCount er4 so4 ca4))) l2 = some (.lst (nVs (st.board.pebbles.set v (pebblesAt st.board.pebbles v + cnt)))) := by
    rw [upd_ne (ne_of ((Ex.new ht) _ _ upd_same) B6.ins (fun z => nomatch z))]
    exact (Ex.new ht) _ _ upd_same
  refine ⟨_, rfl, l2, zI (st.board.pebbles.set v (pebblesAt st.board.pebbles v + cnt)), rfl, by rw [← nVs_zI]; exact sl_of' hl7, by show 1 ≤ sizeLine; exact szs (by omega), fun y hy => ?_⟩
  have f7 := ((Fr.ex (X := X) x2).trans f4).trans ((Fr.ex x6).trans (B6.frOwn (fs := BFl st.board.graph.vertexCount e4 t st.board.moveCount er4 so4 ca4)))
  refine r.ok ((if_neg (by omega)).trans (if_neg hno)) (f7.trans (Fr.ex (Ex.new hy))) (f7.dom _ hy) (B7.kx (KX.ex (Ex.new hy))).at ?_
  rw [zI_sum, hsum2]
  exact one_ret
end PBW

namespace PBW
open PySem PySem.Spec PyProof.Rows L2 Evl PB
open Ks577 (Graph pebblesAt isAdjacent)
open Ks582 (State)
variable {P : Program} {w : World} {K : PySem.W.Frag} {mg : Str → Option Value} {base : Heap} {ad : Adr}
theorem paired_snoc {α β : Type} {F : α → β → Prop} {l : List α} {m : List β} {b : β} (h : Paired F l (m ++ [b])) : ∃ l' a, l = l' ++ [a] ∧ Paired F l' m ∧ F a b := by
  induction m generalizing l with
  | nil =>
    cases h with
    | cons r t =>
      cases t
      exact ⟨[], _, rfl, .nil, r⟩
  | cons c m ih =>
    cases h with
    | cons r t =>
      obtain ⟨l', a, rfl, h1, h2⟩ := ih t
      exact ⟨_ :: l', a, rfl, .cons r h1, h2⟩
/-! ### undo -/
def sp_Board_undo (P : Program) (w : World) (ad : Adr) : Sp := fun vs H Q E => ∃ (a : Addr) (st : State) (X : Addr → Prop), vs = [.ref a] ∧ BoardAt P w ad H a st X ∧ Res P w ad H a X (Ks582.perform st .undo) Q E
theorem ok_Board_undo (T : Txt K mg ad) : Ok P w K mg base (L2.CX P w) 3 ad.f_Board_undo ["self"] (sp_Board_undo P w ad) := by
  obtain ⟨fd, F⟩ := T.F_Board_undo
  obtain ⟨fd_Board_put_edges, G_Board_put_edges, B_Board_put_edges⟩ := ok_Board_put_edges (P := P) (w := w) (base := base) T
  obtain ⟨fd_refuse_if, G_refuse_if, B_refuse_if⟩ := ok_refuse_if (P := P) (w := w) (base := base) T
  refine ⟨fd, F.okX sc_Board_undo (fun vs H Q E h => ?_) (fun cdv A outer s H vs Q E hr h => ?_), F.binds fun _ _ _ _ _ _ us hl => match us, hl with | [_], _ => rfl⟩
  · obtain ⟨_, _, _, rfl, _⟩ := h
    rfl
  have hu := hu_of hr
  refine ⟨_, (pss_cons (ps_expr (pe_call G_refuse_if (hr.mono (by decide)) (by rfl) T.g_refuse_if T.k_refuse_if B_refuse_if .nil (passes_call (takes_of rfl rfl rfl rfl) (fun _ _ _ _ z => z)) (by exact (pa_cons (pe_cmpR op_eq (pe_callB call_len_seq (by rfl) T.n_len (by decide +kernel) (by exact (pa_cons (pe_fld (pv 0) rfl) pa_nil))) pe_int (nomark _)) (pa_cons (pe_un un_neg pe_int) pa_nil)))))
      (pss_cons (ps_asg (pe_bm0 PySem.F.plainAttrs_list PySem.F.slot_list_pop PySem.F.type_list_pop mt_pop (pe_fld (pv 0) rfl)) (pg_names3 (K := K) (i := 1) (j := 2) (l := 3) rfl (by rfl) sc_Board_undo.nd (by rfl) (by rfl) (by rfl) (by first | exact Or.inl rfl | exact Or.inr rfl) (by first | exact Or.inl rfl | exact Or.inr rfl) (by first | exact Or.inl rfl | exact Or.inr rfl) (by first | exact Or.inl rfl | exact Or.inr rfl) (by first | exact Or.inl rfl | exact Or.inr rfl) (by first | exact Or.inl rfl | exact Or.inr rfl)))
      (pss_cons (ps_expr (pe_meth (pv 0) T.cl_Board T.m_Board_put_edges G_Board_put_edges (hr.mono (by decide)) B_Board_put_edges .nil pass0 (by exact (pa_cons (pv 1) pa_nil))))
      (pss_cons (ps_fld (pv 0) (pv 2) rfl)
      (pss_cons (ps_fld (pv 0) (pv 3) rfl)
      (pss_one (ps_ret (pe_lst (by exact (pa_cons (pe_callB call_len_seq (by rfl) T.n_len (by decide +kernel) (by exact (pa_cons (pe_fld (pv 0) rfl) pa_nil))) pa_nil)))))))))), ?_⟩
  obtain ⟨a, st, X, rfl, ⟨dx, e, p, er, so, ca, us, ss, ys, B⟩, r⟩ := h
  have hul : us.length = st.undoStack.length := by rw [Paired.length B.old, List.length_reverse]
  refine ⟨_, rfl, a, _, dx, _, _, rfl, B.ins, T.cl_Board, T.na_Board_earlier, rfl, er, _, rfl, .inl (sl_of' B.ear), rfl, _, rfl, _, _, rfl, fun hc => ?_, fun hc => ?_⟩
  rotate_left
  · have hc := of_decide_eq_true hc
    rw [aref_len, hul] at hc
    injection hc with hc
    have h0 : st.undoStack = [] := List.length_eq_zero_iff.mp (by omega)
    refine r.no ?_ (Fr.refl X H) B.at
    show (match st.undoStack with | [] => (st, Ks582.number (-6)) | previous :: rest => ({ board := previous, undoStack := rest }, Ks582.number rest.length)) = _
    rw [h0]
    rfl
  cases hus : st.undoStack with
  | nil =>
    exfalso
    refine of_decide_eq_false hc ?_
    rw [aref_len, hul, hus]
    rfl
  | cons b rest =>
  have hold := B.old
  rw [hus, List.reverse_cons] at hold
  obtain ⟨us', u, rfl, hold', hu⟩ := paired_snoc hold
  have hb := B.ok.old b (by rw [hus]; exact List.mem_cons_self ..)
  obtain ⟨le, lp, htu, hle, hleY, hlp⟩ := hu
  refine ⟨_, rfl, a, _, dx, _, _, rfl, B.ins, T.cl_Board, T.na_Board_earlier, rfl, .inl ⟨rfl, _, sl_of' B.ear⟩, er, _, .ref u, rfl, rfl, B.ear, ?_, ?_⟩
  · rw [aref_len, List.length_append, List.length_singleton, Nat.add_sub_cancel]
    exact aref_get (by rw [List.getElem?_append_right (Nat.le_refl _), Nat.sub_self]; rfl)
  have hdl : (ARefs (us' ++ [u])).dropLast = ARefs us' := by
    rw [aref_app]
    exact List.dropLast_concat
  rw [hdl]
  have k1 : KX false (EX X er) H (upd H er (.lst (ARefs us'))) := KX.mut B.ear (.inr rfl)
  have f1 : Fr X H (upd H er (.lst (ARefs us'))) := Fr.upd B.ear B.ero
  have B1 := B.ear' (st' := ⟨st.board, rest⟩) (us' := us') rfl { bd := B.ok.bd, old := fun x hx => B.ok.old x (by rw [hus]; exact List.mem_cons_of_mem _ hx), few := by have := B.ok.few; rw [hus, List.length_cons] at this; exact Nat.le_of_succ_le this } hold'
  refine ⟨u, _, rfl, st_of' (k1.tup htu), rfl, _, _, rfl, _, _, rfl, _, _, rfl, rfl, ?_⟩
  refine ⟨_, rfl, a, dx, _, rfl, B1.ins, rfl, _, rfl, a, le, ⟨st.board, rest⟩, X, b.graph, b.graph.edges, rfl, B1.at, k1.tups hle hleY, hb.wg, hb.vc, List.Perm.refl _, fun H2 f2 ⟨dx2, e2, p2, er2, so2, ca2, us2, ss2, ys2, B2⟩ => ?_⟩
  have f02 := f1.trans f2
  have hlp2 : TupOf H2 lp b.pebbles := f02.tup hlp
  refine ⟨_, rfl, _, rfl, a, _, dx2, _, rfl, B2.ins, T.cl_Board, T.na_Board_pebbles, by show 7 < 1000; decide, ?_⟩
  have B3 := B2.setP hlp2 (by rw [hb.len]; exact hb.vc.symm) hb.sum
  refine ⟨_, rfl, _, rfl, a, _, dx2, _, rfl, B3.ins, T.cl_Board, T.na_Board_moved, by show 7 < 1000; decide, ?_⟩
  have B4 := B3.setM b.moveCount
  have f4 := f02.trans (B2.frOwn.trans (B3.frOwn (fs := BFl b.graph.vertexCount e2 lp b.moveCount er2 so2 ca2)))
  refine ⟨_, rfl, a, _, dx2, _, _, rfl, B4.ins, T.cl_Board, T.na_Board_earlier, rfl, er2, _, rfl, .inl (sl_of' B4.ear), by show 1 ≤ sizeLine; exact szs (by omega), fun y hy => ?_⟩
  have hul2 : us2.length = rest.length := by
    rw [Paired.length B4.old, List.length_reverse]
    rfl
  have hperf : Ks582.perform st .undo = (⟨b, rest⟩, Ks577.number rest.length) := by
    show (match st.undoStack with | [] => (st, Ks582.number (-6)) | previous :: rest => ({ board := previous, undoStack := rest }, Ks582.number rest.length)) = _
    rw [hus]
    rfl
  refine r.ok hperf (f4.trans (Fr.ex (Ex.new hy))) (f4.dom _ hy) (B4.kx (KX.ex (Ex.new hy))).at ?_
  rw [aref_len, hul2]
  exact one_ret
end PBW

namespace PBW
open PySem PySem.Spec PyProof.Rows L2 Evl PB
open Ks577 (Graph pebblesAt isAdjacent)
open Ks582 (State)
variable {P : Program} {w : World} {K : PySem.W.Frag} {mg : Str → Option Value} {base : Heap} {ad : Adr}
/-! ### list_edges, list_pebbles, status -/
def flatE (es : List (Nat × Nat)) : List Int := es.flatMap fun e => [(e.1 : Int), (e.2 : Int)]
theorem flatE_snoc (es : List (Nat × Nat)) (e : Nat × Nat) : flatE (es ++ [e]) = flatE es ++ [(e.1 : Int), (e.2 : Int)] := by unfold flatE; rw [List.flatMap_append]; simp
theorem flatE_len (es : List (Nat × Nat)) : (flatE es).length = 2 * es.length := by
  unfold flatE
  induction es with
  | nil => rfl
  | cons a r ih => rw [List.flatMap_cons, List.length_append, ih, List.length_cons]; simp; omega
def sp_Board_list_edges (P : Program) (w : World) (ad : Adr) : Sp := fun vs H Q E => ∃ (a : Addr) (st : State) (X : Addr → Prop), vs = [.ref a] ∧ BoardAt P w ad H a st X ∧ Res1 P w ad H a X (Ks582.perform st .listEdges) Q
theorem ok_Board_list_edges (T : Txt K mg ad) : Ok P w K mg base CX0 1 ad.f_Board_list_edges ["self"] (sp_Board_list_edges P w ad) := by
  obtain ⟨fd, F⟩ := T.F_Board_list_edges
  refine ⟨fd, F.ok sc_Board_list_edges (fun vs H Q E h => ?_) (fun cdv A outer s H vs Q E hr h => ?_), F.binds fun _ _ _ _ _ _ us hl => match us, hl with | [_], _ => rfl⟩
  · obtain ⟨_, _, _, rfl, _⟩ := h
    rfl
  have hu := hu_of hr
  refine ⟨_, (pss_cons (ps_set (i := 1) sc_Board_list_edges.nd rfl (by first | exact Or.inl rfl | exact Or.inr rfl) (pe_lst (by exact (pa_cons (pe_callB call_len_seq (by rfl) T.n_len (by decide +kernel) (by exact (pa_cons (pe_fld (pv 0) rfl) pa_nil))) pa_nil))))
      (pss_cons (ps_for PassesOwn.never rfl (pi_list (pe_fld (pv 0) rfl)) (pg_names2 (K := K) (i := 2) (j := 3) rfl (by rfl) sc_Board_list_edges.nd (by rfl) (by rfl) (by first | exact Or.inl rfl | exact Or.inr rfl) (by first | exact Or.inl rfl | exact Or.inr rfl) (by first | exact Or.inl rfl | exact Or.inr rfl) (by first | exact Or.inl rfl | exact Or.inr rfl)) (pss_one (ps_expr (pe_bm PySem.F.plainAttrs_list PySem.F.slot_list_extend PySem.F.type_list_extend mt_extend (pv 1) (by exact (pa_cons (pe_lst (by exact (pa_cons (pv 2) (pa_cons (pv 3) pa_nil)))) pa_nil))))))
      (pss_one (ps_ret (pv 1))))), ?_⟩
  obtain ⟨a, st, X, rfl, ⟨dx, e, p, er, so, ca, us, ss, ys, B⟩, r⟩ := h
  obtain ⟨es, hes, hesP⟩ := B.edg
  have hel : es.length = st.board.graph.edges.length := by rw [Paired.length hesP]; unfold prs; rw [List.length_map]
  have h10 := edges_few B.ok.bd.wg
  refine ⟨_, rfl, a, _, dx, _, _, rfl, B.ins, T.cl_Board, T.na_Board_edges, rfl, e, _, rfl, .inl (sl_of' hes), by show 1 ≤ sizeLine; exact szs (by omega), fun l hl => ?_⟩
  have x1 : Ex H _ := Ex.new (o := .lst [.int ((ARefs es).length : Int)]) hl
  refine ⟨_, rfl, a, _, dx, _, _, rfl, x1 _ _ B.ins, T.cl_Board, T.na_Board_edges, rfl, e, rfl, ⟨_, sl_of' (x1 _ _ hes)⟩, ?_⟩
  refine for_list (a := e) (xs := ARefs es) (fun i σ H' => ∃ (v2 v3 : Option V), σ = [some (.ref a), some (.ref l), v2, v3] ∧ Ex H H' ∧ H' l = some (.lst ((((st.board.graph.edges.length : Nat) : Int) :: flatE (st.board.graph.edges.take i)).map V.int)))
    ⟨none, none, rfl, x1, by rw [upd_same, aref_len, hel]; rfl⟩ (fun i σ H' _ z => let ⟨_, _, _, x, _⟩ := z; sl_of' (x _ _ hes)) ?_ ?_
  · rintro i y σ H' hi ⟨v2, v3, rfl, x2, hL⟩
    obtain ⟨t, ht, rfl⟩ := aref_of hi
    obtain ⟨c, hc, hct⟩ := paired_at hesP ht
    obtain ⟨f, hf, rfl⟩ := prs_get hc
    have hil := (List.getElem?_eq_some_iff.mp hf).1
    have hct2 : H' t = some (.tup [nV f.1, nV f.2]) := x2 _ _ hct
    refine ⟨t, _, rfl, st_of' hct2, rfl, _, _, rfl, _, _, rfl, rfl, _, rfl, .inl ⟨rfl, _, sl_of' hL⟩, _, rfl, _, rfl, by show 2 ≤ sizeLine; exact szs (by omega), fun b hb => ?_⟩
    have hlb : l ≠ b := ne_of_none hL hb
    have hlen := flatE_len (st.board.graph.edges.take i)
    rw [List.length_take] at hlen
    refine ⟨l, b, _, _, rfl, rfl, by rw [upd_ne hlb]; exact hL, upd_same, by rw [List.length_map, List.length_cons]; show _ + 2 ≤ sizeLine; exact szs (by omega), some (nV f.1), some (nV f.2), rfl, Ex.mut (x2.trans (Ex.new hb)) hl, ?_⟩
    rw [upd_same, take_snoc hf, flatE_snoc]
    simp
  · rintro σ H' ⟨v2, v3, rfl, x2, hL⟩
    rw [aref_len, hel, List.take_length] at hL
    exact ⟨_, rfl, r.ok rfl (Fr.ex x2) hl (B.kx (KX.ex x2)).at hL⟩
def sp_Board_list_pebbles (P : Program) (w : World) (ad : Adr) : Sp := fun vs H Q E => ∃ (a : Addr) (st : State) (X : Addr → Prop), vs = [.ref a] ∧ BoardAt P w ad H a st X ∧ Res1 P w ad H a X (Ks582.perform st .listPebbles) Q
theorem BdOk.len5 {n : Nat} {b : Ks582.Board} (B : BdOk n b) : b.pebbles.length ≤ 5 := by
  have h1 := B.len
  have h2 := B.vc
  have h3 := B.wg.few
  omega
theorem ok_Board_list_pebbles (T : Txt K mg ad) : Ok P w K mg base CX0 1 ad.f_Board_list_pebbles ["self"] (sp_Board_list_pebbles P w ad) := by
  obtain ⟨fd, F⟩ := T.F_Board_list_pebbles
  refine ⟨fd, F.ok sc_Board_list_pebbles (fun vs H Q E h => ?_) (fun cdv A outer s H vs Q E hr h => ?_), F.binds fun _ _ _ _ _ _ us hl => match us, hl with | [_], _ => rfl⟩
  · obtain ⟨_, _, _, rfl, _⟩ := h
    rfl
  have hu := hu_of hr
  refine ⟨_, (pss_one (ps_ret (pe_op op_cat (pe_lst (by exact (pa_cons (pe_callB (cr_sumT rfl) (by rfl) T.n_sum (by decide +kernel) (by exact (pa_cons (pe_fld (pv 0) rfl) pa_nil))) pa_nil))) (pe_callTy call_list_of (by rfl) T.n_list (by decide +kernel) (by exact (pa_cons (pe_fld (pv 0) rfl) pa_nil)))))), ?_⟩
  obtain ⟨a, st, X, rfl, ⟨dx, e, p, er, so, ca, us, ss, ys, B⟩, r⟩ := h
  have h5 := B.ok.bd.len5
  refine ⟨_, rfl, a, _, dx, _, _, rfl, B.ins, T.cl_Board, T.na_Board_pebbles, rfl, p, zI st.board.pebbles, rfl, by rw [← nVs_zI]; exact st_of' B.peb, by show 1 ≤ sizeLine; exact szs (by omega), fun l hl => ?_⟩
  have x1 : Ex H _ := Ex.new (o := .lst [.int (zI st.board.pebbles).sum]) hl
  refine ⟨_, rfl, a, _, dx, _, _, rfl, x1 _ _ B.ins, T.cl_Board, T.na_Board_pebbles, rfl, p, _, rfl, .inr (st_of' (x1 _ _ B.peb)), fun l2 hl2 => ?_⟩
  have x2 := x1.trans (Ex.new (o := .lst (nVs st.board.pebbles)) hl2)
  refine ⟨l, l2, _, _, rfl, rfl, (Ex.new hl2) _ _ upd_same, upd_same, by rw [nVs_len]; show 1 + _ ≤ sizeLine; exact szs (by omega), fun y hy => ?_⟩
  have x3 := x2.trans (Ex.new (o := .lst ([.int (zI st.board.pebbles).sum] ++ nVs st.board.pebbles)) hy)
  refine r.ok rfl (Fr.ex x3) (fresh_back x2 hy) (B.kx (KX.ex x3)).at ?_
  show upd _ y _ y = _
  rw [upd_same, zI_sum]
  show _ = some (HO.lst (V.int _ :: (st.board.pebbles.map Int.ofNat).map V.int))
  rw [List.map_map]
  rfl
def sp_Board_status (P : Program) (w : World) (ad : Adr) : Sp := fun vs H Q E => ∃ (a : Addr) (st : State) (X : Addr → Prop), vs = [.ref a] ∧ BoardAt P w ad H a st X ∧ Res1 P w ad H a X (Ks582.perform st .status) Q
theorem ok_Board_status (T : Txt K mg ad) : Ok P w K mg base CX0 1 ad.f_Board_status ["self"] (sp_Board_status P w ad) := by
  obtain ⟨fd, F⟩ := T.F_Board_status
  refine ⟨fd, F.ok sc_Board_status (fun vs H Q E h => ?_) (fun cdv A outer s H vs Q E hr h => ?_), F.binds fun _ _ _ _ _ _ us hl => match us, hl with | [_], _ => rfl⟩
  · obtain ⟨_, _, _, rfl, _⟩ := h
    rfl
  have hu := hu_of hr
  refine ⟨_, (pss_one (ps_ret (pe_lst (by exact (pa_cons (pe_fld (pv 0) rfl) (pa_cons (pe_callB call_len_seq (by rfl) T.n_len (by decide +kernel) (by exact (pa_cons (pe_fld (pv 0) rfl) pa_nil))) (pa_cons (pe_callB (cr_sumT rfl) (by rfl) T.n_sum (by decide +kernel) (by exact (pa_cons (pe_fld (pv 0) rfl) pa_nil))) (pa_cons (pe_fld (pv 0) rfl) (pa_cons (pe_callB call_len_seq (by rfl) T.n_len (by decide +kernel) (by exact (pa_cons (pe_fld (pv 0) rfl) pa_nil))) pa_nil))))))))), ?_⟩
  obtain ⟨a, st, X, rfl, ⟨dx, e, p, er, so, ca, us, ss, ys, B⟩, r⟩ := h
  obtain ⟨es, hes, hesP⟩ := B.edg
  have hel : es.length = st.board.graph.edges.length := by rw [Paired.length hesP]; unfold prs; rw [List.length_map]
  have hul : us.length = st.undoStack.length := by rw [Paired.length B.old, List.length_reverse]
  refine ⟨_, rfl, a, _, dx, _, _, rfl, B.ins, T.cl_Board, T.na_Board_many, rfl, _, rfl, a, _, dx, _, _, rfl, B.ins, T.cl_Board, T.na_Board_edges, rfl, e, _, rfl, .inl (sl_of' hes),
    _, rfl, a, _, dx, _, _, rfl, B.ins, T.cl_Board, T.na_Board_pebbles, rfl, p, zI st.board.pebbles, rfl, by rw [← nVs_zI]; exact st_of' B.peb, _, rfl, a, _, dx, _, _, rfl, B.ins, T.cl_Board, T.na_Board_moved, rfl,
    _, rfl, a, _, dx, _, _, rfl, B.ins, T.cl_Board, T.na_Board_earlier, rfl, er, _, rfl, .inl (sl_of' B.ear), by show 5 ≤ sizeLine; exact szs (by omega), fun y hy => ?_⟩
  refine r.ok rfl (Fr.ex (Ex.new hy)) hy (B.kx (KX.ex (Ex.new hy))).at ?_
  show upd _ y _ y = _
  rw [upd_same, zI_sum, aref_len, aref_len, hel, hul]
  rfl
/-! ### __init__ -/
/-- t * k, 1 ≤ k, whatever object it is -/
def rRepB (K : PySem.W.Frag) : R2 := fun x y H Q => ∃ l k xs, x = .ref l ∧ y = .int k ∧ H l = some (.tup xs) ∧ xs ≠ [] ∧ 1 ≤ k ∧ k ≤ 1000 ∧ xs.length ≤ 1000 ∧ ∀ p H', Ex H H' → H' p = some (.tup (List.replicate k.toNat xs).flatten) → Q (.ref p) H'
theorem op_repB {X : Cx} : OpR X (binaryOp .Mult) (rRepB X.K) := by
  intro pins s σ H x y v u Q I rx ry h
  obtain ⟨l, k, xs, e1, e2, hl, hne, h1, h2, h3, q⟩ := h
  refine op_repA pins s σ H x y v u Q I rx ry ⟨l, k, xs, e1, e2, .inl (.inl hl), hne, h1, h2, h3, fun hk => q l H (Ex.refl H) ?_, fun hk p hp => q p _ (Ex.new hp) upd_same⟩
  subst hk
  show H l = some (.tup (List.replicate 1 xs).flatten)
  rw [List.replicate_one, List.flatten_singleton]
  exact hl
def sp_Board_init (P : Program) (w : World) (ad : Adr) : Sp := fun vs H Q _ => ∃ (a dx n : Nat), vs = [.ref a, .int n] ∧ 1 ≤ n ∧ n ≤ 5 ∧ H a = some (.ins ad.C_Board dx []) ∧
  ∀ H2, (∀ x o, x ≠ a → H x = some o → H2 x = some o) → BoardAt P w ad H2 a (Ks582.initialState n) (fun x => x ≠ a ∧ H x ≠ none) → Q .non H2
theorem rep_zero (n : Nat) : (List.replicate n [V.int 0]).flatten = nVs (List.replicate n 0) := by
  induction n with
  | zero => rfl
  | succ n ih => rw [List.replicate_succ, List.flatten_cons, ih, List.replicate_succ]; rfl
theorem ok_Board_init (T : Txt K mg ad) : Ok P w K mg base CX0 1 ad.f_Board_init ["self", "many"] (sp_Board_init P w ad) := by
  obtain ⟨fd, F⟩ := T.F_Board_init
  refine ⟨fd, F.ok sc_Board_init (fun vs H Q E h => ?_) (fun cdv A outer s H vs Q E hr h => ?_), F.binds fun _ _ _ _ _ _ us hl => match us, hl with | [_, _], _ => rfl⟩
  · obtain ⟨_, _, _, rfl, _⟩ := h
    rfl
  have hu := hu_of hr
  refine ⟨_, (pss_cons (ps_fld (pv 0) (pv 1) rfl)
      (pss_cons (ps_fld (pv 0) (pe_lst pa_nil) rfl)
      (pss_cons (ps_fld (pv 0) (pe_op op_repB (pe_tup (by exact (pa_cons pe_int pa_nil))) (pv 1)) rfl)
      (pss_cons (ps_fld (pv 0) pe_int rfl)
      (pss_cons (ps_fld (pv 0) (pe_lst pa_nil) rfl)
      (pss_cons (ps_fld (pv 0) pe_nkNew rfl)
      (pss_one (ps_fld (pv 0) pe_nkNew rfl)))))))), ?_⟩
  obtain ⟨a, dx, n, rfl, h1, h5, ha, q⟩ := h
  refine ⟨_, rfl, _, rfl, a, _, dx, _, rfl, ha, T.cl_Board, T.na_Board_many, by decide, ?_⟩
  have fr : ∀ {x : Addr} {o : HO} {H' : Hp}, H' x = none → (∀ y u, y ≠ a → H y = some u → H' y = some u) → x ≠ a → H x = none := fun {x o H'} h k n => by
    cases z : H x with
    | none => rfl
    | some u => rw [k x u n z] at h; cases h
  -- edges
  refine ⟨by show 0 ≤ sizeLine; exact Nat.zero_le _, fun e he => ?_⟩
  have hea : e ≠ a := fun z => by rw [z, upd_same] at he; cases he
  refine ⟨_, rfl, a, _, dx, _, rfl, (Ex.new he) _ _ upd_same, T.cl_Board, T.na_Board_edges, by show 1 < 1000; decide, ?_⟩
  rw [upd_mid hea]
  rw [upd_ne hea] at he
  have x1 : Ex H (upd H e (.lst [])) := Ex.new he
  have he1 : upd H e (.lst []) e = some (.lst []) := upd_same
  generalize upd H e (.lst []) = H1 at x1 he1
  -- pebbles
  refine ⟨by show 1 ≤ sizeLine; exact szs (by omega), fun t0 ht0 => ⟨_, rfl, t0, _, _, rfl, rfl, upd_same, by simp, by omega, by omega, by show 1 ≤ 1000; decide, fun p H2 x2 hp => ?_⟩⟩
  have x02 := (Ex.new (o := .tup [V.int 0]) ht0).trans x2
  refine ⟨_, rfl, a, _, dx, _, rfl, x02 _ _ upd_same, T.cl_Board, T.na_Board_pebbles, by show 2 < 1000; decide, ?_⟩
  have hpz : H2 p = some (.tup (nVs (List.replicate n 0))) := by rw [hp, ← rep_zero]; rfl
  have ha2 : H2 a = _ := x02 _ _ upd_same
  have k2 : ∀ x o, x ≠ a → H x = some o → H2 x = some o := fun x o hx h => x02 _ _ (by rw [upd_ne hx]; exact x1 _ _ h)
  have he2 : H2 e = some (.lst []) := x02 _ _ (by rw [upd_ne hea]; exact he1)
  have hpa : p ≠ a := ne_of hpz ha2 (fun z => nomatch z)
  -- moved
  refine ⟨_, rfl, a, _, dx, _, rfl, upd_same, T.cl_Board, T.na_Board_moved, by show 3 < 1000; decide, ?_⟩
  rw [upd_upd]
  -- earlier
  refine ⟨by show 0 ≤ sizeLine; exact Nat.zero_le _, fun er her => ?_⟩
  have hera : er ≠ a := fun z => by rw [z, upd_same] at her; cases her
  refine ⟨_, rfl, a, _, dx, _, rfl, (Ex.new her) _ _ upd_same, T.cl_Board, T.na_Board_earlier, by show 4 < 1000; decide, ?_⟩
  rw [upd_mid hera]
  rw [upd_ne hera] at her
  have x3 : Ex H2 (upd H2 er (.lst [])) := Ex.new her
  have her3 : upd H2 er (.lst []) er = some (.lst []) := upd_same
  generalize upd H2 er (.lst []) = H3 at x3 her3
  -- solved
  intro so hso
  have hsoa : so ≠ a := fun z => by rw [z, upd_same] at hso; cases hso
  refine ⟨_, rfl, a, _, dx, _, rfl, (Ex.new hso) _ _ upd_same, T.cl_Board, T.na_Board_solved, by show 5 < 1000; decide, ?_⟩
  rw [upd_mid hsoa]
  rw [upd_ne hsoa] at hso
  have x4 : Ex H3 (upd H3 so (nkO P w so [])) := Ex.new hso
  have hso4 : upd H3 so (nkO P w so []) so = some (nkO P w so []) := upd_same
  -- came
  intro ca hca
  have hcaa : ca ≠ a := fun z => by rw [z, upd_same] at hca; cases hca
  refine ⟨_, rfl, a, _, dx, _, rfl, (Ex.new hca) _ _ upd_same, T.cl_Board, T.na_Board_came, by show 6 < 1000; decide, ?_⟩
  rw [upd_mid hcaa]
  rw [upd_ne hcaa] at hca
  have hsoca : so ≠ ca := ne_of_none hso4 hca
  have x5 : Ex H3 (upd (upd H3 so (nkO P w so [])) ca (nkO P w ca [])) := x4.trans (Ex.new hca)
  have hso5 : upd (upd H3 so (nkO P w so [])) ca (nkO P w ca []) so = some (nkO P w so []) := (Ex.new hca) _ _ hso4
  have hca5 : upd (upd H3 so (nkO P w so [])) ca (nkO P w ca []) ca = some (nkO P w ca []) := upd_same
  have up : ∀ {x : Addr} {o z : HO}, x ≠ a → upd (upd H3 so (nkO P w so [])) ca (nkO P w ca []) x = some o → upd (upd (upd H3 so (nkO P w so [])) ca (nkO P w ca [])) a z x = some o := fun hx h => by rw [upd_ne hx]; exact h
  refine q _ (fun x o hx h => up hx (x5 _ _ (x3 _ _ (k2 x o hx h)))) ⟨dx, e, p, er, so, ca, [], [], [], ⟨?_, upd_same⟩⟩
  refine { edg := ⟨[], up hea (x5 _ _ (x3 _ _ he2)), .nil⟩, edo := ?_, peb := up hpa (x5 _ _ (x3 _ _ hpz)), ear := up hera (x5 _ _ her3), ero := fun z => ?_, old := .nil, sol := ⟨up hsoa hso5, fun x hx => (by cases hx)⟩, sols := fun s hs => (by cases hs), snd := .nil, scd := .nil, cam := ⟨up hcaa hca5, fun x hx => (by cases hx)⟩, cams := fun y hy => (by cases hy), soca := hsoca, xin := ?_, ok := ?_ }
  · rintro (z | z)
    · exact z.2 he
    · rw [z, her] at he2
      cases he2
  · cases y : H er with
    | none => exact z.2 y
    | some o =>
      rw [k2 er o hera y] at her
      cases her
  · rintro x ⟨hx, hn⟩ z
    cases y : H x with
    | none => exact hn y
    | some o =>
      exact absurd ((up hx (x5 _ _ (x3 _ _ (k2 x o hx y)))).symm.trans z) (fun y => nomatch y)
  · refine { bd := { wg := { pos := h1, few := h5, lt := fun e he => (by cases he), srt := .nil }, vc := rfl, len := List.length_replicate, sum := ?_ }, old := fun b hb => (by cases hb), few := Nat.zero_le _ }
    show (List.replicate n 0).sum ≤ 12
    rw [List.sum_replicate_nat]
    omega
end PBW

namespace PBW
open PySem PySem.Spec PyProof.Rows L2 Evl PB
open Ks577 (Graph pebblesAt isAdjacent)
open Ks582 (State)
variable {P : Program} {w : World} {K : PySem.W.Frag} {mg : Str → Option Value} {base : Heap} {ad : Adr}
def isD : HO → Prop
  | .lst _ => True
  | .tup _ => True
  | .ins _ _ _ => True
  | .frz _ _ => True
  | _ => False
/-- lists, tuples, instances, locked things stay -/
structure KD (H H' : Hp) : Prop where
  st : ∀ x o, H x = some o → isD o → H' x = some o
  dom : ∀ x, H' x = none → H x = none
section
variable {H H' : Hp} {a dx e p er so ca D q kd : Addr} {st st' : State} {X X' : Addr → Prop} {us us' : List Addr} {ss ss' : List SR} {ys : NXs} {o : HO}
theorem KD.tups (k : KD H H') {p : Addr} {L : List (List Nat)} (h : TupsAt H p L) : TupsAt H' p L := let ⟨as, h1, h2⟩ := h; ⟨as, k.st _ _ h1 trivial, Paired.mapP h2 fun _ _ q => k.st _ _ q trivial⟩
theorem KD.old (k : KD H H') {u : Addr} {b : Ks582.Board} (h : OldAt H X u b) : OldAt H' X u b := let ⟨le, lp, h1, h2, h3, h4⟩ := h; ⟨le, lp, k.st _ _ h1 trivial, k.tups h2, h3, k.st _ _ h4 trivial⟩
theorem KD.steps (k : KD H H') {p : Addr} {g : Graph} {b : Bool} {c : List Nat} {L : List (List Nat)} (h : StepsAt H p g b c L) : StepsAt H' p g b c L := ⟨let ⟨od, z⟩ := h.at_; ⟨od, k.st _ _ z trivial⟩, h.ok, h.few⟩
theorem BoardX.kdd (B : BoardX P w ad H a st X dx e p er so ca us ss ys) (k : KD H H') (sol' : NkAt P w H' so (ss'.map SR.x)) (sols' : ∀ s ∈ ss', s.t < st.board.graph.vertexCount ∧ SolvedAt ad H' s.v s.kd st.board.graph s.t s.b (EX X er))
    (snd' : (ss'.map (·.kd)).Nodup) (scd' : (ss'.map fun s => SR.code s.t s.b).Nodup) (cam' : NkAt P w H' ca ys) : BoardX P w ad H' a st X dx e p er so ca us ss' ys :=
  ⟨{ edg := k.tups B.edg
     edo := B.edo
     peb := k.st _ _ B.peb trivial
     ear := k.st _ _ B.ear trivial
     ero := B.ero
     old := Paired.mapP B.old fun _ _ z => k.old z
     sol := sol'
     sols := sols'
     snd := snd'
     scd := scd'
     cam := cam'
     cams := fun y hy => let ⟨c, b, L, h1, h2, h3⟩ := B.cams y hy; ⟨c, b, L, h1, h2, k.steps h3⟩
     soca := B.soca
     xin := fun x hx z => B.xin x hx (k.dom x z)
     ok := B.ok }, k.st _ _ B.ins trivial⟩
theorem nkAt_kd (k : KD H H') {d : Addr} {xs : NXs} (h : NkAt P w H d xs) (h1 : H' d = H d) : NkAt P w H' d xs := ⟨h1.trans h.1, fun x hx => (h.2 x hx).keep fun _ _ q => k.st _ _ q trivial⟩
theorem SolvedAt.kdd (k : KD H H') {v : Addr} {g : Graph} {t : Nat} {b : Bool} (h : SolvedAt ad H v kd g t b X) (h1 : H' kd = H kd) : SolvedAt ad H' v kd g t b X :=
  let ⟨dx, rws, as, Ks, S⟩ := h
  ⟨dx, rws, as, Ks, { S with
    ins := k.st _ _ S.ins trivial
    rows := k.st _ _ S.rows trivial
    row := Paired.mapP S.row fun _ _ q => k.st _ _ q trivial
    known := h1.trans S.known }⟩
theorem KD.upd {u : HO} (h : H D = some u) (n : ¬ isD u) : KD H (L2.upd H D o) := ⟨fun x v hx d => by
  rw [upd_ne (fun e : x = D => by
    subst e
    rw [h] at hx
    cases hx
    exact n d)]
  exact hx, fun x h => upd_dom h⟩
theorem KD.keep1 {kvs : List (List Key × V)} (k : Keep1 kd H H') (h : H kd = some (.dT kvs)) (h2 : (H' kd).isSome = true) : KD H H' := ⟨fun x o hx d => k x o hx fun e => by
  subst e
  rw [h] at hx
  cases hx
  exact d, fun x hx => k.back (fun e => by
  subst e
  rw [hx] at h2
  cases h2) hx⟩
theorem lookN_some {xs : NXs} {k : NestedKey} {v : Addr} (h : lookN xs k = some v) : ∃ x ∈ xs, x.1 = k ∧ x.2.2 = v := by
  unfold lookN at h
  obtain ⟨x, hx, hv⟩ := Option.map_eq_some_iff.mp h
  exact ⟨x, List.mem_of_find?_eq_some hx, by have := List.find?_some hx; simpa using this, hv⟩
theorem lookN_none {xs : NXs} {k : NestedKey} (h : lookN xs k = none) : ∀ x ∈ xs, x.1 ≠ k := fun x hx e => by
  unfold lookN at h
  have := List.find?_eq_none.mp (Option.map_eq_none_iff.mp h) x hx
  exact this (decide_eq_true e)
end
/-! ### steps -/
def sp_Board_steps (P : Program) (w : World) (ad : Adr) : Sp := fun vs H Q _ => ∃ (a : Addr) (st : State) (X : Addr → Prop) (b : Bool), vs = [.ref a, .bl b] ∧ BoardAt P w ad H a st X ∧
  ∀ H2 v L, Fr X H H2 → BoardAt P w ad H2 a st X → StepsAt H2 v st.board.graph b st.board.pebbles L → Q (.ref v) H2
theorem ok_Board_steps (T : Txt K mg ad) : Ok P w K mg base CX0 5 ad.f_Board_steps ["self", "rubbling"] (sp_Board_steps P w ad) := by
  obtain ⟨fd, F⟩ := T.F_Board_steps
  obtain ⟨fd_steps_from, G_steps_from, B_steps_from⟩ := ok_steps_from (P := P) (w := w) (base := base) T
  obtain ⟨fd_Board_near_all, G_Board_near_all, B_Board_near_all⟩ := ok_Board_near_all (P := P) (w := w) (base := base) T
  refine ⟨fd, F.ok sc_Board_steps (fun vs H Q E h => ?_) (fun cdv A outer s H vs Q E hr h => ?_), F.binds fun _ _ _ _ _ _ us hl => match us, hl with | [_, _], _ => rfl⟩
  · obtain ⟨_, _, _, _, rfl, _⟩ := h
    rfl
  have hu := hu_of hr
  refine ⟨_, (pss_cons (ps_set (i := 2) sc_Board_steps.nd rfl (by first | exact Or.inl rfl | exact Or.inr rfl) (pe_tup (by exact (pa_cons (pe_fld (pv 0) rfl) (pa_cons (pv 1) pa_nil)))))
      (pss_cons (ps_if (pt_cmp (pc_nkNotIn hr.units (pv 2) (pe_fld (pv 0) rfl))) (pss_one (ps_fld (pv 0) (pe_nkDisp hr.units (pv 2) (pe_call G_steps_from (hr.mono (by decide)) (by rfl) T.g_steps_from T.k_steps_from B_steps_from .nil pass0 (by exact (pa_cons (pe_meth0 (pv 0) T.cl_Board T.m_Board_near_all G_Board_near_all (hr.mono (by decide)) B_Board_near_all .nil pass0) (pa_cons (pe_fld (pv 0) rfl) (pa_cons (pv 1) pa_nil)))))) rfl)) pss_nil)
      (pss_one (ps_ret (pe_nkGet hr.units (pe_fld (pv 0) rfl) (pv 2) (fun _ _ => rfl)))))), ?_⟩
  obtain ⟨a, st, X, b, rfl, ⟨dx, e, p, er, so, ca, us, ss, ys, B⟩, q⟩ := h
  refine ⟨_, rfl, a, _, dx, _, _, rfl, B.ins, T.cl_Board, T.na_Board_pebbles, rfl, _, rfl, by show 2 ≤ sizeLine; exact szs (by omega), fun k hk => ?_⟩
  have x1 : Ex H (upd H k (.tup [.ref p, .bl b])) := Ex.new hk
  have hk1 : upd H k (.tup [.ref p, .bl b]) k = some (.tup [.ref p, .bl b]) := upd_same
  generalize upd H k (.tup [.ref p, .bl b]) = H1 at x1 hk1
  have B1 := B.kx (KX.ex x1)
  have nk : ∀ {H' : Hp}, Ex H1 H' → NKey H' (CKey st.board.pebbles b) k := fun x => .inr ⟨zI st.board.pebbles, b, p, rfl, x _ _ hk1, by rw [← nVs_zI]; exact x _ _ B1.peb⟩
  refine ⟨_, rfl, _, rfl, a, _, dx, _, _, rfl, B1.ins, T.cl_Board, T.na_Board_came, rfl, ca, ys, CKey st.board.pebbles b, k, rfl, rfl, B1.cam, nk (Ex.refl _), _, rfl, ?_⟩
  cases hlk : lookN ys (CKey st.board.pebbles b) with
  | some v =>
    refine if_false_of rfl ?_
    obtain ⟨y, hy, hy1, hy2⟩ := lookN_some hlk
    obtain ⟨c, b', L, h1, h2, h3⟩ := B1.cams y hy
    obtain ⟨rfl, rfl⟩ := CKey.inj (h1.symm.trans hy1)
    rw [hy2] at h3
    exact ⟨_, rfl, a, _, dx, _, _, rfl, B1.ins, T.cl_Board, T.na_Board_came, rfl, _, rfl, ca, ys, _, k, v, rfl, rfl, B1.cam, nk (Ex.refl _), hlk, q _ v L (Fr.ex x1) B1.at h3⟩
  | none =>
    refine if_true_of rfl ?_
    intro cp hcp
    have x2 : Ex H1 (upd H1 cp (nkO P w cp [])) := Ex.new hcp
    have B2 := B1.kx (KX.ex x2)
    refine ⟨_, rfl, _, rfl, a, dx, _, rfl, B2.ins, rfl, a, st, X, rfl, B2.at, fun r H3 hr3 x3 ⟨hrows, _⟩ => ?_⟩
    have B3 := B2.kx (KX.ex x3)
    refine ⟨_, rfl, a, _, dx, _, _, rfl, B3.ins, T.cl_Board, T.na_Board_pebbles, rfl, _, rfl, r, p, st.board.graph, st.board.pebbles, b, rfl, B.ok.bd.wg, hrows, B3.peb, B.ok.bd.len, B.ok.bd.sum, fun v H4 hv x4 ⟨L, hL⟩ => ?_⟩
    have x24 := x3.trans x4
    have x14 : Ex H1 H4 := x2.trans x24
    refine ⟨x24 _ _ upd_same, CKey st.board.pebbles b, k, v, rfl, rfl, nk x14, ?_⟩
    have x15 : Ex H1 (upd H4 cp (nkO P w cp [(CKey st.board.pebbles b, k, v)])) := Ex.mut x14 hcp
    have hcp5 : upd H4 cp (nkO P w cp [(CKey st.board.pebbles b, k, v)]) cp = some (nkO P w cp [(CKey st.board.pebbles b, k, v)]) := upd_same
    have hL5 : StepsAt (upd H4 cp (nkO P w cp [(CKey st.board.pebbles b, k, v)])) v st.board.graph b st.board.pebbles L := (KD.upd (x24 _ _ upd_same) id).steps hL
    have B5 := B1.kx (KX.ex x15)
    refine ⟨_, rfl, a, _, dx, _, rfl, B5.ins, T.cl_Board, T.na_Board_came, by show 7 < 1000; decide, ?_⟩
    have R := B5.own (dx' := dx) (fs := BFl st.board.graph.vertexCount e p st.board.moveCount er so cp)
    have k6 : KX true X (upd H4 cp (nkO P w cp [(CKey st.board.pebbles b, k, v)])) (upd (upd H4 cp (nkO P w cp [(CKey st.board.pebbles b, k, v)])) a (.ins ad.C_Board dx (BFl st.board.graph.vertexCount e p st.board.moveCount er so cp))) := KX.own B5.ins rfl
    have hcpa : cp ≠ a := ne_of hcp5 B5.ins (fun z => nomatch z)
    have nk6 : NKey (upd (upd H4 cp (nkO P w cp [(CKey st.board.pebbles b, k, v)])) a (.ins ad.C_Board dx (BFl st.board.graph.vertexCount e p st.board.moveCount er so cp))) (CKey st.board.pebbles b) k := (nk x15).keep fun _ _ z => k6.tup z
    have cam6 : NkAt P w (upd (upd H4 cp (nkO P w cp [(CKey st.board.pebbles b, k, v)])) a (.ins ad.C_Board dx (BFl st.board.graph.vertexCount e p st.board.moveCount er so cp))) cp [(CKey st.board.pebbles b, k, v)] := ⟨by rw [upd_ne hcpa]; exact hcp5, fun x hx => by rw [List.mem_singleton.mp hx]; exact nk6⟩
    have B6 : BoardX P w ad (upd (upd H4 cp (nkO P w cp [(CKey st.board.pebbles b, k, v)])) a (.ins ad.C_Board dx (BFl st.board.graph.vertexCount e p st.board.moveCount er so cp))) a st X dx e p er so cp us ss [(CKey st.board.pebbles b, k, v)] :=
      ⟨{ R with cam := cam6, cams := fun y hy => by rw [List.mem_singleton.mp hy]; exact ⟨_, b, L, rfl, B.ok.bd.len, hL5.kx k6⟩, soca := ne_of_none B1.sol.1 hcp }, upd_same⟩
    exact ⟨_, rfl, a, _, dx, _, _, rfl, B6.ins, T.cl_Board, T.na_Board_came, rfl, _, rfl, cp, _, _, k, v, rfl, rfl, cam6, nk6, by simp [lookN], q _ v L ((Fr.ex (x1.trans x15)).trans B5.frOwn) B6.at (hL5.kx k6)⟩
/-! ### solver -/
def BoardS (P : Program) (w : World) (ad : Adr) (H : Hp) (a : Addr) (st : State) (X : Addr → Prop) (v kd : Addr) (t : Nat) (b : Bool) : Prop :=
  ∃ dx e p er so ca us ss ys, BoardX P w ad H a st X dx e p er so ca us ss ys ∧ ∃ s ∈ ss, s.t = t ∧ s.b = b ∧ s.v = v ∧ s.kd = kd
theorem nodup_map_inj {α β : Type} {f : α → β} : ∀ {l : List α}, (l.map f).Nodup → ∀ {a b : α}, a ∈ l → b ∈ l → f a = f b → a = b
  | [], _, _, _, h, _, _ => nomatch h
  | x :: r, nd, a, b, ha, hb, e => by
    rw [List.map_cons] at nd
    obtain ⟨n1, n2⟩ := List.nodup_cons.mp nd
    rcases List.mem_cons.mp ha with e1 | ha1
    · rcases List.mem_cons.mp hb with e2 | hb1
      · rw [e1, e2]
      · exact absurd (List.mem_map.mpr ⟨b, hb1, by rw [← e, e1]⟩) n1
    · rcases List.mem_cons.mp hb with e2 | hb1
      · exact absurd (List.mem_map.mpr ⟨a, ha1, by rw [e, e2]⟩) n1
      · exact nodup_map_inj n2 ha1 hb1 e
theorem BoardS.solved {H : Hp} {a v kd : Addr} {st : State} {X : Addr → Prop} {t : Nat} {b : Bool} (B : BoardS P w ad H a st X v kd t b) :
    ∃ Y, SolvedAt ad H v kd st.board.graph t b Y ∧ ∀ H', Keep1 kd H H' → SolvedAt ad H' v kd st.board.graph t b Y → BoardS P w ad H' a st X v kd t b ∧ Fr X H H' := by
  obtain ⟨dx, e, p, er, so, ca, us, ss, ys, B, s, hs, rfl, rfl, rfl, rfl⟩ := B
  refine ⟨_, (B.sols s hs).2, fun H' k S' => ?_⟩
  obtain ⟨kvs, hkd⟩ := (B.sols s hs).2.dT
  obtain ⟨kvs', hkd'⟩ := S'.dT
  have d := KD.keep1 k hkd (by rw [hkd']; rfl)
  have hne : ∀ {d : Addr} {xs : NXs}, NkAt P w H d xs → d ≠ s.kd := fun h => ne_of h.1 hkd (fun z => nomatch z)
  refine ⟨⟨dx, e, p, er, so, ca, us, ss, ys, B.kdd d (nkAt_kd d B.sol ((k _ _ B.sol.1 (hne B.sol)).trans B.sol.1.symm)) (fun s2 hs2 => ⟨(B.sols s2 hs2).1, ?_⟩) B.snd B.scd (nkAt_kd d B.cam ((k _ _ B.cam.1 (hne B.cam)).trans B.cam.1.symm)), s, hs, rfl, rfl, rfl, rfl⟩, Fr.keep1 k hkd (by rw [hkd']; rfl)⟩
  by_cases h : s2.kd = s.kd
  · obtain rfl := nodup_map_inj B.snd hs2 hs h
    exact S'
  · exact (B.sols s2 hs2).2.keep1 k hkd h
theorem BoardS.at {H : Hp} {a v kd : Addr} {st : State} {X : Addr → Prop} {t : Nat} {b : Bool} (B : BoardS P w ad H a st X v kd t b) : BoardAt P w ad H a st X := let ⟨_, _, _, _, _, _, _, _, _, B, _⟩ := B; B.at
theorem code_lt {n t : Nat} {b : Bool} (h : t < n) (hn : n ≤ 5) : SR.code t b < 10 := by
  unfold SR.code
  cases b <;> simp <;> omega
def sp_Board_solver (P : Program) (w : World) (ad : Adr) : Sp := fun vs H Q _ => ∃ (a : Addr) (st : State) (X : Addr → Prop) (t : Nat) (b : Bool), vs = [.ref a, .int t, .bl b] ∧ BoardAt P w ad H a st X ∧ t < st.board.graph.vertexCount ∧
  ∀ H2 v kd, Fr X H H2 → BoardS P w ad H2 a st X v kd t b → Q (.ref v) H2
theorem ok_Board_solver (T : Txt K mg ad) : Ok P w K mg base CX0 3 ad.f_Board_solver ["self", "target", "rubbling"] (sp_Board_solver P w ad) := by
  obtain ⟨fd, F⟩ := T.F_Board_solver
  obtain ⟨fd_Solved_init, G_Solved_init, B_Solved_init⟩ := ok_Solved_init (P := P) (w := w) (base := base) T
  obtain ⟨fd_Board_near_all, G_Board_near_all, B_Board_near_all⟩ := ok_Board_near_all (P := P) (w := w) (base := base) T
  refine ⟨fd, F.ok sc_Board_solver (fun vs H Q E h => ?_) (fun cdv A outer s H vs Q E hr h => ?_), F.binds fun _ _ _ _ _ _ us hl => match us, hl with | [_, _, _], _ => rfl⟩
  · obtain ⟨_, _, _, _, _, rfl, _⟩ := h
    rfl
  have hu := hu_of hr
  refine ⟨_, (pss_cons (ps_set (i := 3) sc_Board_solver.nd rfl (by first | exact Or.inl rfl | exact Or.inr rfl) (pe_tup (by exact (pa_cons (pv 1) (pa_cons (pv 2) pa_nil)))))
      (pss_cons (ps_if (pt_cmp (pc_nkNotIn hr.units (pv 3) (pe_fld (pv 0) rfl))) (pss_one (ps_nkPut hr.units (pe_fld (pv 0) rfl) (pv 3) (pe_make T.mk_Solved G_Solved_init (hr.mono (by decide)) (by rfl) T.g_Solved B_Solved_init .nil pass0 (by exact (pa_cons (pe_meth0 (pv 0) T.cl_Board T.m_Board_near_all G_Board_near_all (hr.mono (by decide)) B_Board_near_all .nil pass0) (pa_cons (pv 1) (pa_cons (pv 2) pa_nil))))) rfl)) pss_nil)
      (pss_one (ps_ret (pe_nkGet hr.units (pe_fld (pv 0) rfl) (pv 3) (fun _ _ => rfl)))))), ?_⟩
  obtain ⟨a, st, X, t, b, rfl, ⟨dx, e, p, er, so, ca, us, ss, ys, B⟩, ht, q⟩ := h
  refine ⟨_, rfl, _, rfl, by show 2 ≤ sizeLine; exact szs (by omega), fun k hk => ?_⟩
  have x1 : Ex H (upd H k (.tup [.int t, .bl b])) := Ex.new hk
  have hk1 : upd H k (.tup [.int t, .bl b]) k = some (.tup [.int t, .bl b]) := upd_same
  generalize upd H k (.tup [.int t, .bl b]) = H1 at x1 hk1
  have B1 := B.kx (KX.ex x1)
  have nk : ∀ {H' : Hp}, Ex H1 H' → NKey H' (SR.key t b) k := fun x => .inl ⟨t, b, rfl, x _ _ hk1⟩
  refine ⟨_, rfl, _, rfl, a, _, dx, _, _, rfl, B1.ins, T.cl_Board, T.na_Board_solved, rfl, so, ss.map SR.x, SR.key t b, k, rfl, rfl, B1.sol, nk (Ex.refl _), _, rfl, ?_⟩
  cases hlk : lookN (ss.map SR.x) (SR.key t b) with
  | some v =>
    refine if_false_of rfl ?_
    obtain ⟨y, hy, hy1, hy2⟩ := lookN_some hlk
    obtain ⟨s, hs, rfl⟩ := List.mem_map.mp hy
    obtain ⟨h1, h2⟩ := SR.key_inj (show SR.key s.t s.b = SR.key t b from hy1)
    exact ⟨_, rfl, a, _, dx, _, _, rfl, B1.ins, T.cl_Board, T.na_Board_solved, rfl, _, rfl, so, _, _, k, v, rfl, rfl, B1.sol, nk (Ex.refl _), hlk, q _ v s.kd (Fr.ex x1) ⟨dx, e, p, er, so, ca, us, ss, ys, B1, s, hs, h1, h2, hy2, rfl⟩⟩
  | none =>
    refine if_true_of rfl ?_
    refine ⟨_, rfl, a, dx, _, rfl, B1.ins, rfl, a, st, X, rfl, B1.at, fun r H2 hr x2 ⟨hrows, as, has, hasn⟩ => ?_⟩
    have B2 := B1.kx (KX.ex x2)
    refine ⟨_, rfl, _, rfl, fun v dv hv hdv hne => ?_⟩
    refine ⟨v, dv, r, t, b, rfl, upd_same, fun kd hkd => ⟨rfl, ?_⟩⟩
    have hkdv : kd ≠ v := fun z => by rw [z, upd_same] at hkd; cases hkd
    have x3 : Ex H2 (upd (upd (upd (upd H2 dv (.own v)) v (.ins ad.C_Solved dv [])) kd (.dT [])) v (.ins ad.C_Solved dv (SF r t b kd))) := Ex.mut (Ex.upd_new (Ex.mut (Ex.new hdv) hv) hkd) hv
    have hv3 : upd (upd (upd (upd H2 dv (.own v)) v (.ins ad.C_Solved dv [])) kd (.dT [])) v (.ins ad.C_Solved dv (SF r t b kd)) v = some (.ins ad.C_Solved dv (SF r t b kd)) := upd_same
    have hkd3 : upd (upd (upd (upd H2 dv (.own v)) v (.ins ad.C_Solved dv [])) kd (.dT [])) v (.ins ad.C_Solved dv (SF r t b kd)) kd = some (.dT []) := by rw [upd_ne hkdv]; exact upd_same
    have hkd2 : H2 kd = none := upd_dom (upd_dom hkd)
    generalize upd (upd (upd (upd H2 dv (.own v)) v (.ins ad.C_Solved dv [])) kd (.dT [])) v (.ins ad.C_Solved dv (SF r t b kd)) = H3 at x3 hv3 hkd3
    have x13 := x2.trans x3
    have B3 := B1.kx (KX.ex x13)
    have hfr : ∀ {x : Addr}, H1 x = none → ¬ EX X er x := fun h z => z.elim (fun z => B1.xin _ z h) (fun z => ne_of_none B1.ear h z.symm)
    have hnew : SolvedAt ad H3 v kd st.board.graph t b (EX X er) := by
      obtain ⟨as2, h1, h2⟩ := hrows
      rw [has] at h1
      obtain rfl : as = as2 := by
        have h1 : ARefs as = ARefs as2 := by injection h1 with z; injection z
        have : ∀ {l m : List Addr}, ARefs l = ARefs m → l = m := fun {l m} h => by
          unfold ARefs at h
          exact List.map_inj_right (fun x y z => by injection z) |>.mp h
        exact this h1
      exact ⟨dv, r, as, [], ⟨hv3, x3 _ _ has, lsts_ex x3 h2, hkd3, .nil, fun d hd => (by cases hd), hfr hr, fun x hx => hfr (hasn x hx)⟩⟩
    have hcodes := B3.scd
    have hnot : ∀ s ∈ ss, SR.code s.t s.b ≠ SR.code t b := fun s hs z => by
      obtain ⟨z1, z2⟩ := SR.code_inj z
      exact lookN_none hlk _ (List.mem_map.mpr ⟨s, hs, rfl⟩) (by show SR.key s.t s.b = _; rw [z1, z2])
    have hlen : ss.length ≤ 10 := by
      have := nodup_le (L := List.range 10) hcodes fun x hx => by
        obtain ⟨s, hs, rfl⟩ := List.mem_map.mp hx
        exact List.mem_range.mpr (code_lt (B3.sols s hs).1 B3.ok.bd.wg.few)
      rw [List.length_map, List.length_range] at this
      exact this
    have d : KD H3 (upd H3 so (nkO P w so ((ss ++ [SR.mk t b k v kd]).map SR.x))) := KD.upd B3.sol.1 id
    have hsoc : ∀ {y : Addr} {o : HO}, H3 y = some o → o ≠ nkO P w so (ss.map SR.x) → upd H3 so (nkO P w so ((ss ++ [SR.mk t b k v kd]).map SR.x)) y = H3 y := fun h n => upd_ne (ne_of h B3.sol.1 n)
    have sol4 : NkAt P w (upd H3 so (nkO P w so ((ss ++ [SR.mk t b k v kd]).map SR.x))) so ((ss ++ [SR.mk t b k v kd]).map SR.x) := ⟨upd_same, fun x hx => by
      refine NKey.keep (H := H3) (fun _ _ z => d.st _ _ z trivial) ?_
      rw [List.map_append] at hx
      rcases List.mem_append.mp hx with hx | hx
      · exact B3.sol.2 x hx
      · rw [List.mem_singleton.mp hx]
        exact nk x13⟩
    have hx : ss.map SR.x ++ [(SR.key t b, k, v)] = (ss ++ [SR.mk t b k v kd]).map SR.x := by rw [List.map_append]; rfl
    have B4 : BoardX P w ad (upd H3 so (nkO P w so ((ss ++ [SR.mk t b k v kd]).map SR.x))) a st X dx e p er so ca us (ss ++ [SR.mk t b k v kd]) ys := by
      refine B3.kdd d sol4 (fun s hs => ?_) ?_ ?_ (nkAt_kd d B3.cam (upd_ne (Ne.symm B3.soca)))
      · rcases List.mem_append.mp hs with hs | hs
        · obtain ⟨kvs, hk⟩ := (B3.sols s hs).2.dT
          exact ⟨(B3.sols s hs).1, (B3.sols s hs).2.kdd d (hsoc hk (fun z => nomatch z))⟩
        · rw [List.mem_singleton.mp hs]
          exact ⟨ht, hnew.kdd d (hsoc hkd3 (fun z => nomatch z))⟩
      · rw [List.map_append, List.nodup_append]
        refine ⟨B3.snd, by simp, fun x hx y hy z => ?_⟩
        obtain ⟨s, hs, rfl⟩ := List.mem_map.mp hx
        rw [List.map_singleton] at hy
        rw [List.mem_singleton.mp hy] at z
        obtain ⟨kvs, hk⟩ := (B2.sols s hs).2.dT
        exact ne_of_none hk hkd2 z
      · rw [List.map_append, List.nodup_append]
        refine ⟨B3.scd, by simp, fun x hx y hy z => ?_⟩
        obtain ⟨s, hs, rfl⟩ := List.mem_map.mp hx
        rw [List.map_singleton] at hy
        rw [List.mem_singleton.mp hy] at z
        exact hnot s hs z
    refine ⟨_, rfl, a, _, dx, _, _, rfl, B3.ins, T.cl_Board, T.na_Board_solved, rfl, _, rfl, so, ss.map SR.x, SR.key t b, k, v, rfl, rfl, rfl, B3.sol, nk x13, hlk, by rw [List.length_map]; omega, ?_⟩
    rw [hx]
    refine ⟨_, rfl, a, _, dx, _, _, rfl, B4.ins, T.cl_Board, T.na_Board_solved, rfl, _, rfl, so, _, SR.key t b, k, v, rfl, rfl, B4.sol, (nk x13).keep fun _ _ z => d.st _ _ z trivial, ?_, ?_⟩
    · rw [← hx]
      unfold lookN at hlk ⊢
      rw [List.find?_append, Option.map_eq_none_iff.mp hlk]
      simp
    · exact q _ v kd ((Fr.ex (x1.trans x13)).trans (Fr.upd B3.sol.1 id)) ⟨dx, e, p, er, so, ca, us, _, ys, B4, ⟨t, b, k, v, kd⟩, by simp, rfl, rfl, rfl, rfl⟩
end PBW

namespace PB
open Ks577 (pebblesAt isAdjacent Graph)
open Ks582 (State)
def leastO (st : State) (t cnt : Nat) (b : Bool) : State × Ks577.Result := if st.board.graph.vertexCount ≤ t then (st, Ks577.number (-2)) else match minG (sucB st.board.graph b) st.board.pebbles t cnt with
  | none => (st, Ks577.number (-33))
  | some k => (st, Ks577.number k)
theorem perf_min (st : State) (t cnt : Nat) : Ks582.perform st (.minMoves t cnt) = leastO st t cnt false := by
  show (if _ then _ else Ks582.orError st (-33) (Ks577.minMoves st.board.graph st.board.pebbles t cnt)) = _
  unfold leastO
  rw [min577]
  show (if _ then _ else Ks582.orError st (-33) (minG (sucB st.board.graph false) st.board.pebbles t cnt)) = _
  cases minG (sucB st.board.graph false) st.board.pebbles t cnt <;> rfl
theorem perf_minR (st : State) (t cnt : Nat) : Ks582.perform st (.minRubblingMoves t cnt) = leastO st t cnt true := by
  show (if _ then _ else Ks582.orError st (-33) (Ks581.minMoves st.board.graph st.board.pebbles t cnt)) = _
  unfold leastO
  rw [min581]
  show (if _ then _ else Ks582.orError st (-33) (minG (sucB st.board.graph true) st.board.pebbles t cnt)) = _
  cases minG (sucB st.board.graph true) st.board.pebbles t cnt <;> rfl
theorem seq_steps {g : Graph} {t cnt : Nat} : ∀ (k : Nat) {c : Cfg} {s : List (Nat × Nat)}, Ks577.shortestSequence g t cnt k c = some s → ∀ (i : Nat) (m : Nat × Nat), s[i]? = some m → m ∈ Ks577.possibleMoves g ((s.take i).foldl (fun c m => Ks577.move c m.1 m.2) c)
  | 0, c, s, h, i, m, hi => by
    obtain rfl : s = [] := (Option.some.inj h).symm
    simp at hi
  | k + 1, c, s, h, i, m, hi => by
    unfold Ks577.shortestSequence at h
    split at h
    · cases h
    · next x hx =>
      obtain ⟨r, hr, rfl⟩ := Option.map_eq_some_iff.mp h
      cases i with
      | zero =>
        simp at hi
        subst hi
        exact List.mem_of_find?_eq_some hx
      | succ i =>
        rw [List.take_succ_cons, List.foldl_cons]
        exact seq_steps k hr i m (by simpa using hi)
end PB
namespace PBW
open PySem PySem.Spec PyProof.Rows L2 Evl PB
open Ks577 (Graph pebblesAt isAdjacent)
open Ks582 (State)
variable {P : Program} {w : World} {K : PySem.W.Frag} {mg : Str → Option Value} {base : Heap} {ad : Adr}
/-! ### distance -/
def sp_Board_distance (P : Program) (w : World) (ad : Adr) : Sp := fun vs H Q E => ∃ (a : Addr) (u v : Nat) (st : State) (X : Addr → Prop), vs = [.ref a, .int u, .int v] ∧ BoardAt P w ad H a st X ∧ Res P w ad H a X (Ks582.perform st (.distance u v)) Q E
theorem ok_Board_distance (T : Txt K mg ad) : Ok P w K mg base (L2.CX P w) 4 ad.f_Board_distance ["self", "one", "other"] (sp_Board_distance P w ad) := by
  obtain ⟨fd, F⟩ := T.F_Board_distance
  obtain ⟨fd_refuse_if, G_refuse_if, B_refuse_if⟩ := ok_refuse_if (P := P) (w := w) (base := base) T
  obtain ⟨fd_distances, G_distances, B_distances⟩ := ok_distances (P := P) (w := w) (base := base) T
  obtain ⟨fd_Board_check, G_Board_check, B_Board_check⟩ := ok_Board_check (P := P) (w := w) (base := base) T
  refine ⟨fd, F.okX sc_Board_distance (fun vs H Q E h => ?_) (fun cdv A outer s H vs Q E hr h => ?_), F.binds fun _ _ _ _ _ _ us hl => match us, hl with | [_, _, _], _ => rfl⟩
  · obtain ⟨_, _, _, _, _, rfl, _⟩ := h
    rfl
  have hu := hu_of hr
  refine ⟨_, (pss_cons (ps_expr (pe_meth (pv 0) T.cl_Board T.m_Board_check G_Board_check (hr.mono (by decide)) B_Board_check .nil (passes_call (takes_of rfl rfl rfl rfl) (fun _ _ _ _ z => z)) (by exact (pa_cons (pe_lst (by exact (pa_cons (pv 1) (pa_cons (pv 2) pa_nil)))) pa_nil))))
      (pss_cons (ps_set (i := 3) sc_Board_distance.nd rfl (by first | exact Or.inl rfl | exact Or.inr rfl) (pe_ix ix_list (pe_call G_distances (hr.mono (by decide)) (by rfl) T.g_distances T.k_distances B_distances .nil pass0 (by exact (pa_cons (pe_fld (pv 0) rfl) (pa_cons (pe_fld (pv 0) rfl) (pa_cons (pv 1) pa_nil))))) (pv 2) (fun _ _ => rfl)))
      (pss_cons (ps_expr (pe_call G_refuse_if (hr.mono (by decide)) (by rfl) T.g_refuse_if T.k_refuse_if B_refuse_if .nil (passes_call (takes_of rfl rfl rfl rfl) (fun _ _ _ _ z => z)) (by exact (pa_cons (pe_cmpR op_eq (pv 3) (pe_glob (v := .int (-1)) rfl T.c_FAR ⟨_, rfl⟩) (nomark _)) (pa_cons (pe_un un_neg pe_int) pa_nil)))))
      (pss_one (ps_ret (pe_lst (by exact (pa_cons (pv 3) pa_nil)))))))), ?_⟩
  obtain ⟨a, u, v, st, X, rfl, ⟨dx, e, p, er, so, ca, us, ss, ys, B⟩, r⟩ := h
  have W := B.ok.bd.wg
  refine ⟨_, rfl, a, dx, _, rfl, B.ins, rfl, _, rfl, _, rfl, by show 2 ≤ sizeLine; exact szs (by omega), fun l hl => ?_⟩
  have B1 := B.kx (KX.ex (Ex.new (o := .lst (nVs [u, v])) hl))
  refine ⟨a, l, st, X, [u, v], rfl, B1.at, upd_same, by show 2 ≤ 5; decide, fun hall H2 e2 => ?_, fun hex H2 e2 => ?_⟩
  rotate_left
  · have hh : Ks582.perform st (.distance u v) = (st, Ks577.number (-2)) := by
      rcases two_out hex with h0 | ⟨h0, h1⟩
      · exact if_pos h0
      · exact (if_neg h0).trans (if_pos h1)
    exact r.no hh (Fr.ex ((Ex.new hl).trans e2)) (B1.kx (KX.ex e2)).at
  have hu : u < st.board.graph.vertexCount := hall u (by simp)
  have hv : v < st.board.graph.vertexCount := hall v (by simp)
  have x2 : Ex H H2 := (Ex.new hl).trans e2
  have B2 := B.kx (KX.ex x2)
  have hperf : Ks582.perform st (.distance u v) = Ks582.orError st (-33) (Ks577.distance st.board.graph u v) := (if_neg (by omega)).trans (if_neg (by omega))
  refine ⟨_, rfl, a, _, dx, _, _, rfl, B2.ins, T.cl_Board, T.na_Board_many, rfl, _, rfl, a, _, dx, _, _, rfl, B2.ins, T.cl_Board, T.na_Board_edges, rfl, _, rfl, e, st.board.graph, u, rfl, W, B2.edg, hu, fun q H3 hq x3 hL => ?_⟩
  have x03 := x2.trans x3
  have B3 := B.kx (KX.ex x03)
  refine ⟨_, rfl, q, _, _, _, rfl, rfl, sl_of' hL, atI_nat (int_get (distL_get hv)), _, rfl, rfl, _, rfl, _, _, rfl, fun hc => ?_, fun hc => ?_⟩
  · have hc := of_decide_eq_false hc
    cases hd : Ks577.distance st.board.graph u v with
    | none =>
      exfalso
      refine hc ?_
      show V.int (optI (Ks577.distance st.board.graph u v)) = _
      rw [hd]
      rfl
    | some k =>
      have hdI : distI st.board.graph u v = k := by unfold distI; rw [hd]; rfl
      rw [hd] at hperf
      refine ⟨_, rfl, by show 1 ≤ sizeLine; exact szs (by omega), fun y hy => r.ok hperf (Fr.ex (x03.trans (Ex.new hy))) (fresh_back x03 hy) (B3.kx (KX.ex (Ex.new hy))).at ?_⟩
      rw [hdI]
      exact one_ret
  · have hc := of_decide_eq_true hc
    cases hd : Ks577.distance st.board.graph u v with
    | none =>
      rw [hd] at hperf
      exact r.no hperf (Fr.ex x03) B3.at
    | some k =>
      exfalso
      have hdI : distI st.board.graph u v = k := by unfold distI; rw [hd]; rfl
      rw [hdI] at hc
      injection hc with hc
      omega
/-! ### least -/
def BadL (st : State) (t cnt : Nat) (b : Bool) (code : Int) : Prop := (st.board.graph.vertexCount ≤ t ∧ code = -2) ∨ (t < st.board.graph.vertexCount ∧ minG (sucB st.board.graph b) st.board.pebbles t cnt = none ∧ code = -33)
def sp_Board_least (P : Program) (w : World) (ad : Adr) : Sp := fun vs H Q E => ∃ (a : Addr) (t cnt : Nat) (b : Bool) (st : State) (X : Addr → Prop), vs = [.ref a, .int t, .int cnt, .bl b] ∧ BoardAt P w ad H a st X ∧
  (∀ k H2 p, t < st.board.graph.vertexCount → minG (sucB st.board.graph b) st.board.pebbles t cnt = some k → Fr X H H2 → H p = none → BoardAt P w ad H2 a st X → IntsOf H2 p [(k : Int)] → Q (.ref p) H2) ∧
  ∀ H2 code, BadL st t cnt b code → Fr X H H2 → BoardAt P w ad H2 a st X → Thrown ad code H2 E
theorem ok_Board_least (T : Txt K mg ad) : Ok P w K mg base (L2.CX P w) 6 ad.f_Board_least ["self", "target", "count", "rubbling"] (sp_Board_least P w ad) := by
  obtain ⟨fd, F⟩ := T.F_Board_least
  obtain ⟨fd_refuse_if, G_refuse_if, B_refuse_if⟩ := ok_refuse_if (P := P) (w := w) (base := base) T
  obtain ⟨fd_least_moves, G_least_moves, B_least_moves⟩ := ok_least_moves (P := P) (w := w) (base := base) T
  obtain ⟨fd_Board_steps, G_Board_steps, B_Board_steps⟩ := ok_Board_steps (P := P) (w := w) (base := base) T
  obtain ⟨fd_Board_check, G_Board_check, B_Board_check⟩ := ok_Board_check (P := P) (w := w) (base := base) T
  refine ⟨fd, F.okX sc_Board_least (fun vs H Q E h => ?_) (fun cdv A outer s H vs Q E hr h => ?_), F.binds fun _ _ _ _ _ _ us hl => match us, hl with | [_, _, _, _], _ => rfl⟩
  · obtain ⟨_, _, _, _, _, _, rfl, _⟩ := h
    rfl
  have hu := hu_of hr
  refine ⟨_, (pss_cons (ps_expr (pe_meth (pv 0) T.cl_Board T.m_Board_check G_Board_check (hr.mono (by decide)) B_Board_check .nil (passes_call (takes_of rfl rfl rfl rfl) (fun _ _ _ _ z => z)) (by exact (pa_cons (pe_lst (by exact (pa_cons (pv 1) pa_nil))) pa_nil))))
      (pss_cons (ps_if (pt_cmpR op_eq (pv 2) pe_int (nomark _)) (pss_one (ps_ret (pe_lst (by exact (pa_cons pe_int pa_nil))))) pss_nil)
      (pss_cons (ps_set (i := 4) sc_Board_least.nd rfl (by first | exact Or.inl rfl | exact Or.inr rfl) (pe_call G_least_moves (hr.mono (by decide)) (by rfl) T.g_least_moves T.k_least_moves B_least_moves .nil pass0 (by exact (pa_cons (pe_meth (pv 0) T.cl_Board T.m_Board_steps G_Board_steps (hr.mono (by decide)) B_Board_steps .nil pass0 (by exact (pa_cons (pv 3) pa_nil))) (pa_cons (pv 1) (pa_cons (pv 2) pa_nil))))))
      (pss_cons (ps_expr (pe_call G_refuse_if (hr.mono (by decide)) (by rfl) T.g_refuse_if T.k_refuse_if B_refuse_if .nil (passes_call (takes_of rfl rfl rfl rfl) (fun _ _ _ _ z => z)) (by exact (pa_cons (pe_cmpR op_lt (pv 4) pe_int (nomark _)) (pa_cons (pe_un un_neg pe_int) pa_nil)))))
      (pss_one (ps_ret (pe_lst (by exact (pa_cons (pv 4) pa_nil))))))))), ?_⟩
  obtain ⟨a, t, cnt, b, st, X, rfl, ⟨dx, e, p, er, so, ca, us, ss, ys, B⟩, q1, q2⟩ := h
  have W := B.ok.bd.wg
  have hl0 := B.ok.bd.len
  refine ⟨_, rfl, a, dx, _, rfl, B.ins, rfl, _, rfl, by show 1 ≤ sizeLine; exact szs (by omega), fun l hl => ?_⟩
  have B1 := B.kx (KX.ex (Ex.new (o := .lst (nVs [t])) hl))
  refine ⟨a, l, st, X, [t], rfl, B1.at, upd_same, by show 1 ≤ 5; decide, fun hall H2 e2 => ?_, fun hex H2 e2 => ?_⟩
  rotate_left
  · obtain ⟨x, hx, hle⟩ := hex
    rw [List.mem_singleton.mp hx] at hle
    exact q2 H2 _ (.inl ⟨hle, rfl⟩) (Fr.ex ((Ex.new hl).trans e2)) (B1.kx (KX.ex e2)).at
  have ht : t < st.board.graph.vertexCount := hall t (by simp)
  have x2 : Ex H H2 := (Ex.new hl).trans e2
  have B2 := B.kx (KX.ex x2)
  refine ⟨_, rfl, rfl, _, rfl, ?_⟩
  by_cases h0 : cnt = 0
  · refine if_true_of (by rw [h0]; rfl) ⟨by show 1 ≤ sizeLine; exact szs (by omega), fun y hy => ?_⟩
    exact q1 0 _ y ht (by rw [h0]; exact min_zero W hl0 t) (Fr.ex (x2.trans (Ex.new hy))) (fresh_back x2 hy) (B2.kx (KX.ex (Ex.new hy))).at one_ret
  refine if_false_of (decide_eq_false fun z => h0 ?_) ?_
  · injection z with z
    omega
  refine ⟨_, rfl, a, dx, _, rfl, B2.ins, rfl, _, rfl, a, st, X, b, rfl, B2.at, fun H3 v L f3 B3 hL => ?_⟩
  refine ⟨_, rfl, _, rfl, v, st.board.graph, b, st.board.pebbles, L, t, cnt, rfl, W, hl0, hL, ht, fun H4 x4 => ?_⟩
  have B4 := B3.ex x4
  have f4 := ((Fr.ex x2).trans f3).trans (Fr.ex x4)
  refine ⟨_, rfl, _, _, rfl, rfl, _, rfl, _, _, rfl, fun hc => ?_, fun hc => ?_⟩
  · have hc := of_decide_eq_false hc
    cases hm : minG (sucB st.board.graph b) st.board.pebbles t cnt with
    | none =>
      exfalso
      rw [hm] at hc
      exact hc (by decide)
    | some k =>
      refine ⟨_, rfl, by show 1 ≤ sizeLine; exact szs (by omega), fun y hy => q1 k _ y ht hm (f4.trans (Fr.ex (Ex.new hy))) (f4.dom _ hy) (B4.ex (Ex.new hy)) ?_⟩
      exact one_ret
  · have hc := of_decide_eq_true hc
    cases hm : minG (sucB st.board.graph b) st.board.pebbles t cnt with
    | none => exact q2 H4 _ (.inr ⟨ht, hm, rfl⟩) f4 B4
    | some k =>
      exfalso
      rw [hm] at hc
      have hc : (k : Int) < 0 := hc
      omega
end PBW

namespace PB
open Ks577 (pebblesAt isAdjacent Graph)
open Ks582 (State)
def mostO (st : State) (t : Nat) (b : Bool) : State × Ks577.Result := if st.board.graph.vertexCount ≤ t then (st, Ks577.number (-2)) else (st, Ks577.number (maxG (sucB st.board.graph b) st.board.pebbles t : Nat))
theorem perf_max (st : State) (t : Nat) : Ks582.perform st (.maxPebblesAt t) = mostO st t false := by
  show (if _ then _ else (st, Ks582.number (Ks577.maxPebblesAt st.board.graph st.board.pebbles t))) = _
  rw [max577]
  rfl
theorem perf_maxR (st : State) (t : Nat) : Ks582.perform st (.maxPebblesByRubbling t) = mostO st t true := by
  show (if _ then _ else (st, Ks582.number (Ks581.maxPebblesAt st.board.graph st.board.pebbles t))) = _
  rw [max581]
  rfl
def seqO (st : State) (t cnt : Nat) : State × Ks577.Result := if st.board.graph.vertexCount ≤ t then (st, Ks577.number (-2)) else match minG (sucB st.board.graph false) st.board.pebbles t cnt with
  | none => (st, Ks577.number (-33))
  | some k => match Ks577.shortestSequence st.board.graph t cnt k st.board.pebbles with
    | none => (st, Ks577.number (-33))
    | some s => (st, ⟨s.length, s.flatMap fun (m : Nat × Nat) => [(m.1 : Int), (m.2 : Int)]⟩)
theorem perf_seq (st : State) (t cnt : Nat) : Ks582.perform st (.shortestSequence t cnt) = seqO st t cnt := by
  show (if _ then _ else (match Ks577.minMoves st.board.graph st.board.pebbles t cnt with
    | none => (st, Ks582.number (-33))
    | some moves => match Ks577.shortestSequence st.board.graph t cnt moves st.board.pebbles with
      | none => (st, Ks582.number (-33))
      | some sequence => (st, { value := sequence.length, rest := sequence.flatMap fun (m : Nat × Nat) => [(m.1 : Int), (m.2 : Int)] }))) = _
  rw [min577]
  rfl
def bringO (st : State) (t cnt : Nat) : State × Ks577.Result := if st.board.graph.vertexCount ≤ t then (st, Ks577.number (-2)) else match minG (sucB st.board.graph false) st.board.pebbles t cnt with
  | none => (st, Ks577.number (-33))
  | some k => match Ks577.shortestSequence st.board.graph t cnt k st.board.pebbles with
    | none => (st, Ks577.number (-33))
    | some s => (Ks582.change st ⟨st.board.graph, s.foldl (fun (c : List Nat) (m : Nat × Nat) => Ks577.move c m.1 m.2) st.board.pebbles, st.board.moveCount + k⟩, Ks577.number k)
theorem perf_bring (st : State) (t cnt : Nat) : Ks582.perform st (.bringPebbles t cnt) = bringO st t cnt := by
  show (if _ then _ else (match Ks577.minMoves st.board.graph st.board.pebbles t cnt with
    | none => (st, Ks582.number (-33))
    | some moves => match Ks577.shortestSequence st.board.graph t cnt moves st.board.pebbles with
      | none => (st, Ks582.number (-33))
      | some sequence => (Ks582.change st ⟨st.board.graph, sequence.foldl (fun (c : List Nat) (m : Nat × Nat) => Ks577.move c m.1 m.2) st.board.pebbles, st.board.moveCount + moves⟩, Ks582.number moves))) = _
  rw [min577]
  rfl
theorem min_le_sum {g : Graph} (W : WG g) {rub : Bool} {c : Cfg} (hl : c.length = g.vertexCount) {t cnt k : Nat} (h : minG (sucB g rub) c t cnt = some k) : k ≤ c.sum := by
  obtain ⟨⟨d, _, _, h1⟩, _⟩ := (minB_some W hl).mp h
  omega
end PB
namespace PBW
open PySem PySem.Spec PyProof.Rows L2 Evl PB
open Ks577 (Graph pebblesAt isAdjacent)
open Ks582 (State)
variable {P : Program} {w : World} {K : PySem.W.Frag} {mg : Str → Option Value} {base : Heap} {ad : Adr}
/-! ### most -/
def sp_Board_most (P : Program) (w : World) (ad : Adr) : Sp := fun vs H Q E => ∃ (a : Addr) (t : Nat) (b : Bool) (st : State) (X : Addr → Prop), vs = [.ref a, .int t, .bl b] ∧ BoardAt P w ad H a st X ∧ Res P w ad H a X (mostO st t b) Q E
theorem ok_Board_most (T : Txt K mg ad) : Ok P w K mg base (L2.CX P w) 6 ad.f_Board_most ["self", "target", "rubbling"] (sp_Board_most P w ad) := by
  obtain ⟨fd, F⟩ := T.F_Board_most
  obtain ⟨fd_most_pebbles, G_most_pebbles, B_most_pebbles⟩ := ok_most_pebbles (P := P) (w := w) (base := base) T
  obtain ⟨fd_Board_steps, G_Board_steps, B_Board_steps⟩ := ok_Board_steps (P := P) (w := w) (base := base) T
  obtain ⟨fd_Board_check, G_Board_check, B_Board_check⟩ := ok_Board_check (P := P) (w := w) (base := base) T
  refine ⟨fd, F.okX sc_Board_most (fun vs H Q E h => ?_) (fun cdv A outer s H vs Q E hr h => ?_), F.binds fun _ _ _ _ _ _ us hl => match us, hl with | [_, _, _], _ => rfl⟩
  · obtain ⟨_, _, _, _, _, rfl, _⟩ := h
    rfl
  have hu := hu_of hr
  refine ⟨_, (pss_cons (ps_expr (pe_meth (pv 0) T.cl_Board T.m_Board_check G_Board_check (hr.mono (by decide)) B_Board_check .nil (passes_call (takes_of rfl rfl rfl rfl) (fun _ _ _ _ z => z)) (by exact (pa_cons (pe_lst (by exact (pa_cons (pv 1) pa_nil))) pa_nil))))
      (pss_one (ps_ret (pe_lst (by exact (pa_cons (pe_call G_most_pebbles (hr.mono (by decide)) (by rfl) T.g_most_pebbles T.k_most_pebbles B_most_pebbles .nil pass0 (by exact (pa_cons (pe_meth (pv 0) T.cl_Board T.m_Board_steps G_Board_steps (hr.mono (by decide)) B_Board_steps .nil pass0 (by exact (pa_cons (pv 2) pa_nil))) (pa_cons (pv 1) pa_nil)))) pa_nil)))))), ?_⟩
  obtain ⟨a, t, b, st, X, rfl, ⟨dx, e, p, er, so, ca, us, ss, ys, B⟩, r⟩ := h
  have W := B.ok.bd.wg
  have hl0 := B.ok.bd.len
  refine ⟨_, rfl, a, dx, _, rfl, B.ins, rfl, _, rfl, by show 1 ≤ sizeLine; exact szs (by omega), fun l hl => ?_⟩
  have B1 := B.kx (KX.ex (Ex.new (o := .lst (nVs [t])) hl))
  refine ⟨a, l, st, X, [t], rfl, B1.at, upd_same, by show 1 ≤ 5; decide, fun hall H2 e2 => ?_, fun hex H2 e2 => ?_⟩
  rotate_left
  · obtain ⟨x, hx, hle⟩ := hex
    rw [List.mem_singleton.mp hx] at hle
    exact r.no (if_pos hle) (Fr.ex ((Ex.new hl).trans e2)) (B1.kx (KX.ex e2)).at
  have ht : t < st.board.graph.vertexCount := hall t (by simp)
  have x2 : Ex H H2 := (Ex.new hl).trans e2
  have B2 := B.kx (KX.ex x2)
  refine ⟨_, rfl, a, dx, _, rfl, B2.ins, rfl, _, rfl, a, st, X, b, rfl, B2.at, fun H3 v L f3 B3 hL => ?_⟩
  refine ⟨_, rfl, v, st.board.graph, b, st.board.pebbles, L, t, rfl, W, hl0, hL, ht, fun H4 x4 => ?_⟩
  have B4 := B3.ex x4
  have f4 := ((Fr.ex x2).trans f3).trans (Fr.ex x4)
  refine ⟨by show 1 ≤ sizeLine; exact szs (by omega), fun y hy => r.ok (if_neg (by omega)) (f4.trans (Fr.ex (Ex.new hy))) (f4.dom _ hy) (B4.ex (Ex.new hy)) one_ret⟩
theorem Ex.over {H H' : Hp} {D : Addr} {o : HO} (e : Ex H H') (h : H' D = some o) : Ex (upd H D o) H' := fun x u hx => by
  by_cases c : x = D
  · rw [c, upd_same] at hx
    rw [c, h]
    exact hx
  · rw [upd_ne c] at hx
    exact e x u hx
theorem BoardAt.freshEx {H H' : Hp} {a D : Addr} {st : State} {X : Addr → Prop} {o : HO} (B : BoardAt P w ad H a st X) (hD : H D = none) (e : Ex H H') (h : H' D = some o) : BoardAt P w ad H' a st (fun x => X x ∨ x = D) := (B.fresh hD).ex (Ex.over e h)
/-! ### sequence -/
def sp_Board_sequence (P : Program) (w : World) (ad : Adr) : Sp := fun vs H Q E => ∃ (a : Addr) (t cnt : Nat) (st : State) (X : Addr → Prop), vs = [.ref a, .int t, .int cnt] ∧ BoardAt P w ad H a st X ∧
  (∀ k s H2 p, t < st.board.graph.vertexCount → minG (sucB st.board.graph false) st.board.pebbles t cnt = some k → Ks577.shortestSequence st.board.graph t cnt k st.board.pebbles = some s → s.length = k → k ≤ 12 → Fr X H H2 → H p = none → BoardAt P w ad H2 a st (fun x => X x ∨ x = p) → TupsAt H2 p (prs s) → Q (.ref p) H2) ∧
  ∀ H2 code, BadL st t cnt false code → Fr X H H2 → BoardAt P w ad H2 a st X → Thrown ad code H2 E
theorem ok_Board_sequence (T : Txt K mg ad) : Ok P w K mg base (L2.CX P w) 7 ad.f_Board_sequence ["self", "target", "count"] (sp_Board_sequence P w ad) := by
  obtain ⟨fd, F⟩ := T.F_Board_sequence
  obtain ⟨fd_first_sequence, G_first_sequence, B_first_sequence⟩ := ok_first_sequence (P := P) (w := w) (base := base) T
  obtain ⟨fd_Board_near_all, G_Board_near_all, B_Board_near_all⟩ := ok_Board_near_all (P := P) (w := w) (base := base) T
  obtain ⟨fd_Board_least, G_Board_least, B_Board_least⟩ := ok_Board_least (P := P) (w := w) (base := base) T
  refine ⟨fd, F.okX sc_Board_sequence (fun vs H Q E h => ?_) (fun cdv A outer s H vs Q E hr h => ?_), F.binds fun _ _ _ _ _ _ us hl => match us, hl with | [_, _, _], _ => rfl⟩
  · obtain ⟨_, _, _, _, _, rfl, _⟩ := h
    rfl
  have hu := hu_of hr
  refine ⟨_, (pss_cons (ps_set (i := 3) sc_Board_sequence.nd rfl (by first | exact Or.inl rfl | exact Or.inr rfl) (pe_ix ix_list (pe_meth (pv 0) T.cl_Board T.m_Board_least G_Board_least (hr.mono (by decide)) B_Board_least .nil (passes_call (takes_of rfl rfl rfl rfl) (fun _ _ _ _ z => z)) (by exact (pa_cons (pv 1) (pa_cons (pv 2) (pa_cons pe_bl pa_nil))))) pe_int (fun _ _ => rfl)))
      (pss_one (ps_ret (pe_call G_first_sequence (hr.mono (by decide)) (by rfl) T.g_first_sequence T.k_first_sequence B_first_sequence .nil pass0 (by exact (pa_cons (pe_meth0 (pv 0) T.cl_Board T.m_Board_near_all G_Board_near_all (hr.mono (by decide)) B_Board_near_all .nil pass0) (pa_cons (pe_fld (pv 0) rfl) (pa_cons (pv 1) (pa_cons (pv 2) (pa_cons (pv 3) pa_nil)))))))))), ?_⟩
  obtain ⟨a, t, cnt, st, X, rfl, B0, q1, q2⟩ := h
  have W := B0.ok.bd.wg
  have hl0 := B0.ok.bd.len
  obtain ⟨dx, e, p, er, so, ca, us, ss, ys, B⟩ := B0
  refine ⟨_, rfl, a, dx, _, rfl, B.ins, rfl, _, rfl, _, rfl, a, t, cnt, false, st, X, rfl, B.at, fun k H2 z ht hm f2 hz B2 hz2 => ?_, fun H2 code hb f2 B2 => q2 H2 code hb f2 B2⟩
  obtain ⟨s, hs, hsl⟩ := seq_some W k hl0 hm
  have hk12 : k ≤ 12 := Nat.le_trans (min_le_sum W hl0 hm) B.ok.bd.sum
  refine ⟨z, [.int k], 0, _, rfl, rfl, sl_of' hz2, rfl, ?_⟩
  obtain ⟨dx2, e2, p2, er2, so2, ca2, us2, ss2, ys2, B2⟩ := B2
  refine ⟨_, rfl, a, dx2, _, rfl, B2.ins, rfl, a, st, X, rfl, B2.at, fun r H3 hr3 x3 ⟨hrows, _⟩ => ?_⟩
  have B3 := B2.kx (KX.ex x3)
  refine ⟨_, rfl, a, _, dx2, _, _, rfl, B3.ins, T.cl_Board, T.na_Board_pebbles, rfl, _, rfl, _, rfl, _, rfl, r, p2, st.board.graph, st.board.pebbles, t, cnt, k, s, rfl, W, hrows, B3.peb, hl0, B.ok.bd.sum, ht, hm, hs, hk12, fun y H4 hy x4 ⟨hT, _⟩ => ?_⟩
  have f3 := f2.trans (Fr.ex x3)
  obtain ⟨as, has, _⟩ := id hT
  exact q1 k s H4 y ht hm hs hsl hk12 (f3.trans (Fr.ex x4)) (f3.dom _ hy) (B3.at.freshEx hy x4 has) hT
/-! ### shortest_sequence -/
theorem badO {st : State} {t cnt : Nat} {code : Int} (h : BadL st t cnt false code) : seqO st t cnt = (st, Ks577.number code) ∧ bringO st t cnt = (st, Ks577.number code) := by
  unfold seqO bringO
  rcases h with ⟨h, rfl⟩ | ⟨h1, h2, rfl⟩
  · rw [if_pos h, if_pos h]
    exact ⟨rfl, rfl⟩
  · rw [if_neg (by omega), if_neg (by omega), h2]
    exact ⟨rfl, rfl⟩
def sp_Board_shortest_sequence (P : Program) (w : World) (ad : Adr) : Sp := fun vs H Q E => ∃ (a : Addr) (t cnt : Nat) (st : State) (X : Addr → Prop), vs = [.ref a, .int t, .int cnt] ∧ BoardAt P w ad H a st X ∧ Res P w ad H a X (seqO st t cnt) Q E
theorem ok_Board_shortest_sequence (T : Txt K mg ad) : Ok P w K mg base (L2.CX P w) 8 ad.f_Board_shortest_sequence ["self", "target", "count"] (sp_Board_shortest_sequence P w ad) := by
  obtain ⟨fd, F⟩ := T.F_Board_shortest_sequence
  obtain ⟨fd_Board_sequence, G_Board_sequence, B_Board_sequence⟩ := ok_Board_sequence (P := P) (w := w) (base := base) T
  refine ⟨fd, F.okX sc_Board_shortest_sequence (fun vs H Q E h => ?_) (fun cdv A outer s H vs Q E hr h => ?_), F.binds fun _ _ _ _ _ _ us hl => match us, hl with | [_, _, _], _ => rfl⟩
  · obtain ⟨_, _, _, _, _, rfl, _⟩ := h
    rfl
  have hu := hu_of hr
  refine ⟨_, (pss_cons (ps_set (i := 3) sc_Board_shortest_sequence.nd rfl (by first | exact Or.inl rfl | exact Or.inr rfl) (pe_meth (pv 0) T.cl_Board T.m_Board_sequence G_Board_sequence (hr.mono (by decide)) B_Board_sequence .nil (passes_call (takes_of rfl rfl rfl rfl) (fun _ _ _ _ z => z)) (by exact (pa_cons (pv 1) (pa_cons (pv 2) pa_nil)))))
      (pss_cons (ps_set (i := 4) sc_Board_shortest_sequence.nd rfl (by first | exact Or.inl rfl | exact Or.inr rfl) (pe_lst (by exact (pa_cons (pe_callB call_len_seq (by rfl) T.n_len (by decide +kernel) (by exact (pa_cons (pv 3) pa_nil))) pa_nil))))
      (pss_cons (ps_for (passes_of rfl) rfl (pi_list (pv 3)) (pg_names2 (K := K) (i := 5) (j := 6) rfl (by rfl) sc_Board_shortest_sequence.nd (by rfl) (by rfl) (by first | exact Or.inl rfl | exact Or.inr rfl) (by first | exact Or.inl rfl | exact Or.inr rfl) (by first | exact Or.inl rfl | exact Or.inr rfl) (by first | exact Or.inl rfl | exact Or.inr rfl)) (pss_one (ps_expr (pe_bm PySem.F.plainAttrs_list PySem.F.slot_list_extend PySem.F.type_list_extend mt_extend (pv 4) (by exact (pa_cons (pe_lst (by exact (pa_cons (pv 5) (pa_cons (pv 6) pa_nil)))) pa_nil))))))
      (pss_one (ps_ret (pv 4)))))), ?_⟩
  obtain ⟨a, t, cnt, st, X, rfl, ⟨dx, e, p, er, so, ca, us, ss, ys, B⟩, r⟩ := h
  refine ⟨_, rfl, a, dx, _, rfl, B.ins, rfl, _, rfl, _, rfl, a, t, cnt, st, X, rfl, B.at, fun k s H2 z ht hm hs hsl hk f2 hz B2 hT => ?_, fun H2 code hb f2 B2 => r.no (badO hb).1 f2 B2⟩
  obtain ⟨es, hes, hesP⟩ := hT
  have hel : es.length = s.length := by rw [Paired.length hesP]; unfold prs; rw [List.length_map]
  refine ⟨_, rfl, z, _, rfl, .inl (sl_of' hes), by show 1 ≤ sizeLine; exact szs (by omega), fun l hl => ?_⟩
  have x1 : Ex H2 _ := Ex.new (o := .lst [.int ((ARefs es).length : Int)]) hl
  refine ⟨_, rfl, z, rfl, ⟨_, sl_of' (x1 _ _ hes)⟩, ?_⟩
  refine for_list (a := z) (xs := ARefs es) (fun i σ H' => ∃ (v2 v3 : Option V), σ = [some (.ref a), some (.int t), some (.int cnt), some (.ref z), some (.ref l), v2, v3] ∧ Ex H2 H' ∧ H' l = some (.lst (((s.length : Int) :: flatE (s.take i)).map V.int)))
    ⟨none, none, rfl, x1, by rw [upd_same, aref_len, hel]; rfl⟩ (fun i σ H' _ z => let ⟨_, _, _, x, _⟩ := z; sl_of' (x _ _ hes)) ?_ ?_
  · rintro i y σ H' hi ⟨v2, v3, rfl, x2, hL⟩
    obtain ⟨t, ht, rfl⟩ := aref_of hi
    obtain ⟨c, hc, hct⟩ := paired_at hesP ht
    obtain ⟨f, hf, rfl⟩ := prs_get hc
    have hil := (List.getElem?_eq_some_iff.mp hf).1
    have hct2 : H' t = some (.tup [nV f.1, nV f.2]) := x2 _ _ hct
    refine ⟨t, _, rfl, st_of' hct2, rfl, _, _, rfl, _, _, rfl, rfl, _, rfl, .inl ⟨rfl, _, sl_of' hL⟩, _, rfl, _, rfl, by show 2 ≤ sizeLine; exact szs (by omega), fun b hb => ?_⟩
    have hlb : l ≠ b := ne_of_none hL hb
    have hlen := flatE_len (s.take i)
    rw [List.length_take] at hlen
    refine ⟨l, b, _, _, rfl, rfl, by rw [upd_ne hlb]; exact hL, upd_same, by rw [List.length_map, List.length_cons]; show _ + 2 ≤ sizeLine; exact szs (by omega), some (nV f.1), some (nV f.2), rfl, Ex.mut (x2.trans (Ex.new hb)) hl, ?_⟩
    rw [upd_same, take_snoc hf, flatE_snoc]
    simp
  · rintro σ H' ⟨v2, v3, rfl, x2, hL⟩
    rw [aref_len, hel, List.take_length] at hL
    have ho : seqO st t cnt = (st, ⟨s.length, s.flatMap fun (m : Nat × Nat) => [(m.1 : Int), (m.2 : Int)]⟩) := by
      unfold seqO
      rw [if_neg (by omega), hm]
      simp only [hs]
    exact ⟨_, rfl, r.ok ho (f2.trans (Fr.ex x2)) (f2.dom _ hl) ((B2.ex x2).weak fun x hx => .inl hx) hL⟩
end PBW

namespace PB
open Ks577 (pebblesAt isAdjacent Graph)
open Ks582 (State)
def rubO (st : State) (f s t : Nat) : State × Ks577.Result := if st.board.graph.vertexCount ≤ f ∨ st.board.graph.vertexCount ≤ s ∨ st.board.graph.vertexCount ≤ t then (st, Ks577.number (-2))
  else if (isAdjacent st.board.graph f t && isAdjacent st.board.graph s t && canTk st.board.pebbles f s) = false then (st, Ks577.number (-33))
  else (Ks582.change st ⟨st.board.graph, Ks581.move st.board.pebbles f s t, st.board.moveCount + 1⟩, Ks577.number (pebblesAt (Ks581.move st.board.pebbles f s t) t : Nat))
theorem perf_rub (st : State) (f s t : Nat) : Ks582.perform st (.rubblingMove f s t) = rubO st f s t := by
  show (if _ then _ else if _ then _ else if _ then _ else if Ks581.canMove st.board.graph st.board.pebbles f s t = false then _ else _) = _
  unfold rubO
  rw [canMove581]
  by_cases h1 : st.board.graph.vertexCount ≤ f
  · rw [if_pos h1, if_pos (.inl h1)]; rfl
  · rw [if_neg h1]
    by_cases h2 : st.board.graph.vertexCount ≤ s
    · rw [if_pos h2, if_pos (.inr (.inl h2))]; rfl
    · rw [if_neg h2]
      by_cases h3 : st.board.graph.vertexCount ≤ t
      · rw [if_pos h3, if_pos (.inr (.inr h3))]; rfl
      · rw [if_neg h3, if_neg (show ¬ (st.board.graph.vertexCount ≤ f ∨ st.board.graph.vertexCount ≤ s ∨ st.board.graph.vertexCount ≤ t) by omega)]
        rfl
theorem perf_move {st : State} (hl : st.board.pebbles.length = st.board.graph.vertexCount) (s t : Nat) : Ks582.perform st (.move s t) = rubO st s s t := by
  show (if _ then _ else if _ then _ else if Ks577.canMove st.board.graph st.board.pebbles s t = false then _ else (Ks582.change st ⟨st.board.graph, Ks577.move st.board.pebbles s t, st.board.moveCount + 1⟩, Ks582.number (pebblesAt (Ks577.move st.board.pebbles s t) t : Nat))) = _
  unfold rubO
  rw [canMove577]
  by_cases h1 : st.board.graph.vertexCount ≤ s
  · rw [if_pos h1, if_pos (.inl h1)]; rfl
  · rw [if_neg h1]
    by_cases h3 : st.board.graph.vertexCount ≤ t
    · rw [if_pos h3, if_pos (.inr (.inr h3))]; rfl
    · rw [if_neg h3, if_neg (show ¬ (st.board.graph.vertexCount ≤ s ∨ st.board.graph.vertexCount ≤ s ∨ st.board.graph.vertexCount ≤ t) by omega), move577 (by omega), Bool.and_self]
      rfl
end PB
namespace PBW
open PySem PySem.Spec PyProof.Rows L2 Evl PB
open Ks577 (Graph pebblesAt isAdjacent)
open Ks582 (State)
variable {P : Program} {w : World} {K : PySem.W.Frag} {mg : Str → Option Value} {base : Heap} {ad : Adr}
theorem in_nbrs {g : Graph} (W : WG g) (f t : Nat) : inV (nV f) (nVs (nbrs g t)) = isAdjacent g f t := by
  rw [inV_nVs, Bool.eq_iff_iff, List.contains_iff_mem, mem_nbrs W, adj_symm]
/-! ### rub -/
def sp_Board_rub (P : Program) (w : World) (ad : Adr) : Sp := fun vs H Q E => ∃ (a : Addr) (f s t : Nat) (st : State) (X : Addr → Prop), vs = [.ref a, .int f, .int s, .int t] ∧ BoardAt P w ad H a st X ∧ Res P w ad H a X (rubO st f s t) Q E
theorem ok_Board_rub (T : Txt K mg ad) : Ok P w K mg base (L2.CX P w) 4 ad.f_Board_rub ["self", "first", "second", "target"] (sp_Board_rub P w ad) := by
  obtain ⟨fd, F⟩ := T.F_Board_rub
  obtain ⟨fd_taken, G_taken, B_taken⟩ := ok_taken (P := P) (w := w) (base := base) T
  obtain ⟨fd_Board_push, G_Board_push, B_Board_push⟩ := ok_Board_push (P := P) (w := w) (base := base) T
  obtain ⟨fd_refuse_if, G_refuse_if, B_refuse_if⟩ := ok_refuse_if (P := P) (w := w) (base := base) T
  obtain ⟨fd_can_take, G_can_take, B_can_take⟩ := ok_can_take (P := P) (w := w) (base := base) T
  obtain ⟨fd_Board_near_all, G_Board_near_all, B_Board_near_all⟩ := ok_Board_near_all (P := P) (w := w) (base := base) T
  obtain ⟨fd_Board_check, G_Board_check, B_Board_check⟩ := ok_Board_check (P := P) (w := w) (base := base) T
  refine ⟨fd, F.okX sc_Board_rub (fun vs H Q E h => ?_) (fun cdv A outer s H vs Q E hr h => ?_), F.binds fun _ _ _ _ _ _ us hl => match us, hl with | [_, _, _, _], _ => rfl⟩
  · obtain ⟨_, _, _, _, _, _, rfl, _⟩ := h
    rfl
  have hu := hu_of hr
  refine ⟨_, (pss_cons (ps_expr (pe_meth (pv 0) T.cl_Board T.m_Board_check G_Board_check (hr.mono (by decide)) B_Board_check .nil (passes_call (takes_of rfl rfl rfl rfl) (fun _ _ _ _ z => z)) (by exact (pa_cons (pe_lst (by exact (pa_cons (pv 1) (pa_cons (pv 2) (pa_cons (pv 3) pa_nil))))) pa_nil))))
      (pss_cons (ps_set (i := 4) sc_Board_rub.nd rfl (by first | exact Or.inl rfl | exact Or.inr rfl) (pe_ix ix_list (pe_meth0 (pv 0) T.cl_Board T.m_Board_near_all G_Board_near_all (hr.mono (by decide)) B_Board_near_all .nil pass0) (pv 3) (fun _ _ => rfl)))
      (pss_cons (ps_set (i := 5) sc_Board_rub.nd rfl (by first | exact Or.inl rfl | exact Or.inr rfl) (pe_and (pe_cmpR op_in_seq (pv 1) (pv 4) (by rfl)) (pe_and (pe_cmpR op_in_seq (pv 2) (pv 4) (by rfl)) (pe_one (pe_call G_can_take (hr.mono (by decide)) (by rfl) T.g_can_take T.k_can_take B_can_take .nil pass0 (by exact (pa_cons (pe_fld (pv 0) rfl) (pa_cons (pv 1) (pa_cons (pv 2) pa_nil)))))))))
      (pss_cons (ps_expr (pe_call G_refuse_if (hr.mono (by decide)) (by rfl) T.g_refuse_if T.k_refuse_if B_refuse_if .nil (passes_call (takes_of rfl rfl rfl rfl) (fun _ _ _ _ z => z)) (by exact (pa_cons (pe_not (pv 5)) (pa_cons (pe_un un_neg pe_int) pa_nil)))))
      (pss_cons (ps_expr (pe_meth0 (pv 0) T.cl_Board T.m_Board_push G_Board_push (hr.mono (by decide)) B_Board_push .nil pass0))
      (pss_cons (ps_fld (pv 0) (pe_call G_taken (hr.mono (by decide)) (by rfl) T.g_taken T.k_taken B_taken .nil pass0 (by exact (pa_cons (pe_fld (pv 0) rfl) (pa_cons (pv 1) (pa_cons (pv 2) (pa_cons (pv 3) pa_nil)))))) rfl)
      (pss_cons (ps_fldaug (pv 0) pe_int in_add)
      (pss_one (ps_ret (pe_lst (by exact (pa_cons (pe_ix ix_tup (pe_fld (pv 0) rfl) (pv 3) (fun _ _ => rfl)) pa_nil)))))))))))), ?_⟩
  obtain ⟨a, f, s', t, st, X, rfl, ⟨dx, e, p, er, so, ca, us, ss, ys, B⟩, r⟩ := h
  have W := B.ok.bd.wg
  have hl0 := B.ok.bd.len
  have hn5 := W.few
  refine ⟨_, rfl, a, dx, _, rfl, B.ins, rfl, _, rfl, _, rfl, _, rfl, by show 3 ≤ sizeLine; exact szs (by omega), fun l hl => ?_⟩
  have B1 := B.kx (KX.ex (Ex.new (o := .lst (nVs [f, s', t])) hl))
  refine ⟨a, l, st, X, [f, s', t], rfl, B1.at, upd_same, by show 3 ≤ 5; decide, fun hall H2 e2 => ?_, fun hex H2 e2 => ?_⟩
  rotate_left
  · refine r.no (if_pos ?_) (Fr.ex ((Ex.new hl).trans e2)) (B1.kx (KX.ex e2)).at
    obtain ⟨x, hx, hle⟩ := hex
    simp only [List.mem_cons, List.not_mem_nil, or_false] at hx
    omega
  have hf : f < st.board.graph.vertexCount := hall f (by simp)
  have hs : s' < st.board.graph.vertexCount := hall s' (by simp)
  have ht : t < st.board.graph.vertexCount := hall t (by simp)
  have x2 : Ex H H2 := (Ex.new hl).trans e2
  have B2 := B.kx (KX.ex x2)
  refine ⟨_, rfl, a, dx, _, rfl, B2.ins, rfl, a, st, X, rfl, B2.at, fun q H3 hr3 x3 ⟨hrows, _⟩ => ?_⟩
  obtain ⟨ra, hra, hrl, hrg⟩ := hrows.len
  obtain ⟨b, hb, hb2⟩ := hrg t _ (rowsG_get ht)
  have x03 := x2.trans x3
  have B3 := B.kx (KX.ex x03)
  refine ⟨_, rfl, q, _, _, _, rfl, rfl, sl_of' hra, atI_nat (aref_get hb), ?_⟩
  have hno : (isAdjacent st.board.graph f t && isAdjacent st.board.graph s' t && canTk st.board.pebbles f s') = false → ∀ H', Ex H3 H' → Thrown ad (-33) H' E := fun hc H' x => r.no ((if_neg (by omega)).trans (if_pos hc)) (Fr.ex (x03.trans x)) (B3.kx (KX.ex x)).at
  refine ⟨_, rfl, _, rfl, b, _, rfl, .inl (sl_of' hb2), rfl, nVs_flat _, _, rfl, ?_⟩
  show if inV (nV f) (nVs (nbrs st.board.graph t)) = true then _ else _
  rw [in_nbrs W]
  cases c1 : isAdjacent st.board.graph f t with
  | false => exact if_false_of rfl ⟨_, rfl, _, rfl, _, rfl, _, _, rfl, fun hc => (by cases hc), fun _ => hno (by rw [c1]; rfl) _ (Ex.refl _)⟩
  | true =>
  refine if_true_of rfl ⟨_, rfl, _, rfl, b, _, rfl, .inl (sl_of' hb2), rfl, nVs_flat _, _, rfl, ?_⟩
  show if inV (nV s') (nVs (nbrs st.board.graph t)) = true then _ else _
  rw [in_nbrs W]
  cases c2 : isAdjacent st.board.graph s' t with
  | false => exact if_false_of rfl ⟨_, rfl, _, rfl, _, rfl, _, _, rfl, fun hc => (by cases hc), fun _ => hno (by rw [c1, c2]; rfl) _ (Ex.refl _)⟩
  | true =>
  refine if_true_of rfl ⟨_, rfl, a, _, dx, _, _, rfl, B3.ins, T.cl_Board, T.na_Board_pebbles, rfl, _, rfl, _, rfl, p, f, s', st.board.pebbles, rfl, B3.peb, by omega, by omega, ?_⟩
  refine ⟨_, rfl, _, rfl, _, rfl, _, _, rfl, fun hc => ?_, fun hc => ?_⟩
  rotate_left
  · have hc : canTk st.board.pebbles f s' = false := by simpa using hc
    exact hno (by rw [hc, Bool.and_false]) _ (Ex.refl _)
  have hc : canTk st.board.pebbles f s' = true := by simpa using hc
  refine ⟨_, rfl, a, dx, _, rfl, B3.ins, rfl, a, st, X, rfl, B3.at, fun H4 f4 ⟨dx4, e4, p4, er4, so4, ca4, us4, ss4, ys4, B4⟩ => ?_⟩
  have hp4 : TupOf H4 p4 st.board.pebbles := B4.peb
  refine ⟨_, rfl, a, _, dx4, _, _, rfl, B4.ins, T.cl_Board, T.na_Board_pebbles, rfl, _, rfl, _, rfl, _, rfl, p4, f, s', t, st.board.pebbles, rfl, hp4, by omega, by omega, by omega, by omega, hc, fun z H5 hz x5 hz2 => ?_⟩
  have B5 := B4.kx (KX.ex x5)
  refine ⟨_, rfl, a, _, dx4, _, rfl, B5.ins, T.cl_Board, T.na_Board_pebbles, by show 7 < 1000; decide, ?_⟩
  have hml : (Ks581.move st.board.pebbles f s' t).length = st.board.graph.vertexCount := by rw [move_length]; exact hl0
  have hms := move_sum (c := st.board.pebbles) (f := f) (s := s') (t := t) (by omega) (by omega) (by omega) hc
  have h12 := B.ok.bd.sum
  have B6 := B5.setP hz2 hml (by omega)
  refine ⟨_, rfl, a, _, dx4, _, _, rfl, B6.ins, T.cl_Board, T.na_Board_moved, rfl, _, _, rfl, rfl, dx4, _, B6.ins, by show 7 < 1000; decide, ?_⟩
  have B7 := B6.setM (st.board.moveCount + 1)
  have f7 := ((Fr.ex (X := X) x03).trans f4).trans ((Fr.ex x5).trans (B5.frOwn.trans (B6.frOwn (fs := BFl st.board.graph.vertexCount e4 z (st.board.moveCount + 1) er4 so4 ca4))))
  refine ⟨_, rfl, a, _, dx4, _, _, rfl, B7.ins, T.cl_Board, T.na_Board_pebbles, rfl, _, rfl, z, _, _, _, rfl, rfl, st_of' B7.peb, at_nVs (by show t < (Ks581.move st.board.pebbles f s' t).length; omega), by show 1 ≤ sizeLine; exact szs (by omega), fun y hy => ?_⟩
  exact r.ok ((if_neg (by omega)).trans (if_neg (by rw [c1, c2, hc]; exact fun z => nomatch z))) (f7.trans (Fr.ex (Ex.new hy))) (f7.dom _ hy) (B7.kx (KX.ex (Ex.new hy))).at one_ret
/-! ### bring -/
def sp_Board_bring (P : Program) (w : World) (ad : Adr) : Sp := fun vs H Q E => ∃ (a : Addr) (t cnt : Nat) (st : State) (X : Addr → Prop), vs = [.ref a, .int t, .int cnt] ∧ BoardAt P w ad H a st X ∧ Res P w ad H a X (bringO st t cnt) Q E
theorem ok_Board_bring (T : Txt K mg ad) : Ok P w K mg base (L2.CX P w) 8 ad.f_Board_bring ["self", "target", "count"] (sp_Board_bring P w ad) := by
  obtain ⟨fd, F⟩ := T.F_Board_bring
  obtain ⟨fd_taken, G_taken, B_taken⟩ := ok_taken (P := P) (w := w) (base := base) T
  obtain ⟨fd_Board_push, G_Board_push, B_Board_push⟩ := ok_Board_push (P := P) (w := w) (base := base) T
  obtain ⟨fd_Board_sequence, G_Board_sequence, B_Board_sequence⟩ := ok_Board_sequence (P := P) (w := w) (base := base) T
  refine ⟨fd, F.okX sc_Board_bring (fun vs H Q E h => ?_) (fun cdv A outer s H vs Q E hr h => ?_), F.binds fun _ _ _ _ _ _ us hl => match us, hl with | [_, _, _], _ => rfl⟩
  · obtain ⟨_, _, _, _, _, rfl, _⟩ := h
    rfl
  have hu := hu_of hr
  refine ⟨_, (pss_cons (ps_set (i := 3) sc_Board_bring.nd rfl (by first | exact Or.inl rfl | exact Or.inr rfl) (pe_meth (pv 0) T.cl_Board T.m_Board_sequence G_Board_sequence (hr.mono (by decide)) B_Board_sequence .nil (passes_call (takes_of rfl rfl rfl rfl) (fun _ _ _ _ z => z)) (by exact (pa_cons (pv 1) (pa_cons (pv 2) pa_nil)))))
      (pss_cons (ps_expr (pe_meth0 (pv 0) T.cl_Board T.m_Board_push G_Board_push (hr.mono (by decide)) B_Board_push .nil pass0))
      (pss_cons (ps_for (passes_of rfl) rfl (pi_list (pv 3)) (pg_names2 (K := K) (i := 4) (j := 5) rfl (by rfl) sc_Board_bring.nd (by rfl) (by rfl) (by first | exact Or.inl rfl | exact Or.inr rfl) (by first | exact Or.inl rfl | exact Or.inr rfl) (by first | exact Or.inl rfl | exact Or.inr rfl) (by first | exact Or.inl rfl | exact Or.inr rfl)) (pss_one (ps_fld (pv 0) (pe_call G_taken (hr.mono (by decide)) (by rfl) T.g_taken T.k_taken B_taken .nil pass0 (by exact (pa_cons (pe_fld (pv 0) rfl) (pa_cons (pv 4) (pa_cons (pv 4) (pa_cons (pv 5) pa_nil)))))) rfl)))
      (pss_cons (ps_fldaug (pv 0) (pe_callB call_len_seq (by rfl) T.n_len (by decide +kernel) (by exact (pa_cons (pv 3) pa_nil))) in_add)
      (pss_one (ps_ret (pe_lst (by exact (pa_cons (pe_callB call_len_seq (by rfl) T.n_len (by decide +kernel) (by exact (pa_cons (pv 3) pa_nil))) pa_nil))))))))), ?_⟩
  obtain ⟨a, t, cnt, st, X, rfl, ⟨dx, e, p, er, so, ca, us, ss, ys, B⟩, r⟩ := h
  have W := B.ok.bd.wg
  have hl0 := B.ok.bd.len
  have h12 := B.ok.bd.sum
  have hn5 := W.few
  refine ⟨_, rfl, a, dx, _, rfl, B.ins, rfl, _, rfl, _, rfl, a, t, cnt, st, X, rfl, B.at, fun k s H2 z ht hm hs hsl hk f2 hz B2 hT => ?_, fun H2 code hb f2 B2 => r.no (badO hb).2 f2 B2⟩
  obtain ⟨es, hes, hesP⟩ := hT
  have hel : es.length = s.length := by rw [Paired.length hesP]; unfold prs; rw [List.length_map]
  obtain ⟨dx2, e2, p2, er2, so2, ca2, us2, ss2, ys2, B2⟩ := B2
  refine ⟨_, rfl, a, dx2, _, rfl, B2.ins, rfl, a, st, _, rfl, B2.at, fun H4 f4 B4 => ?_⟩
  have hes4 : H4 z = some (.lst (ARefs es)) := f4.lst hes (.inr rfl)
  refine ⟨_, rfl, z, rfl, ⟨_, sl_of' hes4⟩, ?_⟩
  refine for_list (a := z) (xs := ARefs es) (fun i σ H' => ∃ (v2 v3 : Option V) (c : List Nat), σ = [some (.ref a), some (.int t), some (.int cnt), some (.ref z), v2, v3] ∧ Fr (fun x => X x ∨ x = z) H4 H' ∧ c = (s.take i).foldl (fun (c : List Nat) (m : Nat × Nat) => Ks577.move c m.1 m.2) st.board.pebbles ∧ c.length = st.board.graph.vertexCount ∧ c.sum ≤ 12 ∧ BoardAt P w ad H' a (setP (Ks582.change st st.board) c) (fun x => X x ∨ x = z))
    ⟨none, none, st.board.pebbles, rfl, Fr.refl _ _, rfl, hl0, h12, B4⟩ (fun i σ H' _ y => let ⟨_, _, _, _, f, _⟩ := y; sl_of' (f.lst hes4 (.inr rfl))) ?_ ?_
  · rintro i y σ H' hi ⟨v2, v3, c, rfl, f5, hcd, hcl, hcs, dx5, e5, p5, er5, so5, ca5, us5, ss5, ys5, B5⟩
    obtain ⟨tt, htt, rfl⟩ := aref_of hi
    obtain ⟨cc, hc, hct⟩ := paired_at hesP htt
    obtain ⟨m, hm2, rfl⟩ := prs_get hc
    have hct2 : H' tt = some (.tup [nV m.1, nV m.2]) := (f4.trans f5).tup hct
    have hpos := seq_steps k hs i m hm2
    rw [← hcd] at hpos
    obtain ⟨hadj, h2⟩ := (mem_possible W).mp hpos
    obtain ⟨hm1, hmt, _⟩ := adj_lt W hadj
    have hcan : canTk c m.1 m.1 = true := by unfold canTk; rw [if_pos rfl]; exact decide_eq_true h2
    have hp5 : TupOf H' p5 c := B5.peb
    refine ⟨tt, _, rfl, st_of' hct2, rfl, _, _, rfl, _, _, rfl, rfl, _, rfl, a, _, dx5, _, _, rfl, B5.ins, T.cl_Board, T.na_Board_pebbles, rfl, _, rfl, _, rfl, _, rfl, p5, m.1, m.1, m.2, c, rfl, hp5, by omega, by omega, by omega, by omega, hcan, fun q H6 hq x6 hq2 => ?_⟩
    have B6 := B5.kx (KX.ex x6)
    refine ⟨_, rfl, a, _, dx5, _, rfl, B6.ins, T.cl_Board, T.na_Board_pebbles, by show 7 < 1000; decide, ?_⟩
    have hml : (Ks581.move c m.1 m.1 m.2).length = st.board.graph.vertexCount := by rw [move_length]; exact hcl
    have hms := move_sum (c := c) (f := m.1) (s := m.1) (t := m.2) (by omega) (by omega) (by omega) hcan
    have B7 := B6.setP hq2 hml (by omega)
    refine ⟨_, _, Ks581.move c m.1 m.1 m.2, rfl, f5.trans ((Fr.ex x6).trans B6.frOwn), ?_, hml, by omega, B7.at⟩
    rw [take_snoc hm2, List.foldl_append, ← hcd]
    exact (move577 (by omega)).symm
  · rintro σ H' ⟨v2, v3, c, rfl, f5, hcd, hcl, hcs, dx5, e5, p5, er5, so5, ca5, us5, ss5, ys5, B5⟩
    rw [aref_len, hel, List.take_length] at hcd
    have hes5 := f5.lst hes4 (.inr rfl)
    refine ⟨_, rfl, a, _, dx5, _, _, rfl, B5.ins, T.cl_Board, T.na_Board_moved, rfl, _, rfl, z, _, rfl, .inl (sl_of' hes5), _, _, rfl, rfl, dx5, _, B5.ins, by show 7 < 1000; decide, ?_⟩
    have B6 := B5.setM (st.board.moveCount + (ARefs es).length)
    have f6 := f4.trans (f5.trans (B5.frOwn (fs := BFl st.board.graph.vertexCount e5 p5 (st.board.moveCount + (ARefs es).length) er5 so5 ca5)))
    refine ⟨_, rfl, z, _, rfl, .inl (sl_of' (f6.lst hes (.inr rfl))), by show 1 ≤ sizeLine; exact szs (by omega), fun y hy => ?_⟩
    have f06 := f2.trans (f6.weak fun x hx => .inl hx)
    have hal : (ARefs es).length = k := by rw [aref_len, hel, hsl]
    have ho : bringO st t cnt = (setM (setP (Ks582.change st st.board) c) (st.board.moveCount + (ARefs es).length), Ks577.number k) := by
      unfold bringO
      rw [if_neg (by omega), hm]
      simp only [hs]
      rw [hal, hcd]
      rfl
    refine r.ok ho (f06.trans (Fr.ex (Ex.new hy))) (f06.dom _ hy) ((B6.kx (KX.ex (Ex.new hy))).at.weak fun x hx => .inl hx) ?_
    rw [hal]
    exact one_ret
end PBW

namespace PB
open Ks577 (pebblesAt isAdjacent Graph)
open Ks582 (State)
theorem max_pos {g : Graph} (W : WG g) {c : Cfg} (hl : c.length = g.vertexCount) {L : List Cfg} (S : StepsOk g false c L) (v : Nat) : decide (0 < maxG (sucB g false) c v) = Ks577.canReach g c v 1 := by
  rw [canReach_eq W hl, Bool.eq_iff_iff, decide_eq_true_eq, solv_iff W hl]
  obtain ⟨_, h2, h3⟩ := foldl_max_ge (L.map fun d => pebblesAt d v) 0
  have hub : ∀ d, Rch (sucB g false) c d → pebblesAt d v ≤ (L.map fun d => pebblesAt d v).foldl max 0 := fun d hd => h2 _ (List.mem_map.mpr ⟨d, (S.mem d).mpr hd, rfl⟩)
  have key : maxG (sucB g false) c v = (L.map fun d => pebblesAt d v).foldl max 0 := by
    rcases h3 with h3 | h3
    · refine maxB_eq W hl ⟨c, Rch.refl, ?_⟩ hub
      have := hub c Rch.refl
      omega
    · obtain ⟨d, hd, he⟩ := List.mem_map.mp h3
      exact maxB_eq W hl ⟨d, (S.mem d).mp hd, he⟩ hub
  rw [key]
  constructor
  · intro h
    rcases h3 with h3 | h3
    · omega
    · obtain ⟨d, hd, he⟩ := List.mem_map.mp h3
      exact ⟨d, (S.mem d).mp hd, by omega⟩
  · rintro ⟨d, hd, h1⟩
    have := hub d hd
    omega
theorem wTo_le {g : Graph} (hn : g.vertexCount ≤ 5) {c : Cfg} (hs : c.sum ≤ 12) (t : Nat) : ∀ i, wTo g c t i ≤ i * 384
  | 0 => Nat.le_refl _
  | i + 1 => by
    have ih := wTo_le hn hs t i
    have h1 : pebblesAt c i ≤ 12 := Nat.le_trans (getD_le_sum c i) hs
    have h2 : 2 ^ g.vertexCount ≤ 2 ^ 5 := Nat.pow_le_pow_right (by omega) hn
    have h3 : ∀ d, pebblesAt c i * (2 ^ g.vertexCount / 2 ^ d) ≤ 12 * 32 := fun d => Nat.mul_le_mul h1 (Nat.le_trans (Nat.div_le_self _ _) h2)
    unfold wTo
    cases Ks577.distance g i t with
    | none => simp only; omega
    | some d =>
      have := h3 d
      simp only
      omega
end PB
namespace PBW
open PySem PySem.Spec PyProof.Rows L2 Evl PB
open Ks577 (Graph pebblesAt isAdjacent)
open Ks582 (State)
variable {P : Program} {w : World} {K : PySem.W.Frag} {mg : Str → Option Value} {base : Heap} {ad : Adr}
/-! ### reachable -/
theorem range_snoc_filter (p : Nat → Bool) (i : Nat) : (List.range (i + 1)).filter p = (List.range i).filter p ++ if p i = true then [i] else [] := by
  rw [List.range_succ, List.filter_append]
  congr 1
  by_cases h : p i = true
  · rw [if_pos h, List.filter_cons_of_pos h]; rfl
  · rw [if_neg h, List.filter_cons_of_neg h]; rfl
theorem range_filter_le (p : Nat → Bool) (i : Nat) : ((List.range i).filter p).length ≤ i := by
  have := List.length_filter_le p (List.range i)
  rwa [List.length_range] at this
def sp_Board_reachable (P : Program) (w : World) (ad : Adr) : Sp := fun vs H Q E => ∃ (a : Addr) (st : State) (X : Addr → Prop), vs = [.ref a] ∧ BoardAt P w ad H a st X ∧ Res1 P w ad H a X (Ks582.perform st .reachableVertices) Q
theorem ok_Board_reachable (T : Txt K mg ad) : Ok P w K mg base CX0 6 ad.f_Board_reachable ["self"] (sp_Board_reachable P w ad) := by
  obtain ⟨fd, F⟩ := T.F_Board_reachable
  obtain ⟨fd_most_pebbles, G_most_pebbles, B_most_pebbles⟩ := ok_most_pebbles (P := P) (w := w) (base := base) T
  obtain ⟨fd_Board_steps, G_Board_steps, B_Board_steps⟩ := ok_Board_steps (P := P) (w := w) (base := base) T
  refine ⟨fd, F.ok sc_Board_reachable (fun vs H Q E h => ?_) (fun cdv A outer s H vs Q E hr h => ?_), F.binds fun _ _ _ _ _ _ us hl => match us, hl with | [_], _ => rfl⟩
  · obtain ⟨_, _, _, rfl, _⟩ := h
    rfl
  have hu := hu_of hr
  refine ⟨_, (pss_cons (ps_set (i := 1) sc_Board_reachable.nd rfl (by first | exact Or.inl rfl | exact Or.inr rfl) (pe_meth (pv 0) T.cl_Board T.m_Board_steps G_Board_steps (hr.mono (by decide)) B_Board_steps .nil pass0 (by exact (pa_cons pe_bl pa_nil))))
      (pss_cons (by exact (ps_setLc (i := 2) (own := [("vertex", 3)]) rfl sc_Board_reachable.nd rfl rfl (sw_true rfl rfl rfl (by decide +kernel)) (pi_range1 (by rfl) T.n_range (by exact (pa_cons (pe_fld (pv 0) rfl) pa_nil))) (blkOk_by (own := [("vertex", 3)]) (N := N_Board_reachable) (sc := defScope s_Board_reachable) (by decide +kernel)) (fun _ _ _ _ _ => (pg_name (i := 3) sc_Board_reachable.nd rfl (by first | exact Or.inl rfl | exact Or.inr rfl))) (fun _ _ _ _ _ => (pts_one (pt_cmpR op_gt (pe_call G_most_pebbles (hr.mono (by decide)) (by rfl) T.g_most_pebbles T.k_most_pebbles B_most_pebbles .nil pass0 (by exact (pa_cons (pv 1) (pa_cons (pv 3) pa_nil)))) pe_int (nomark _)))) (fun _ _ _ _ _ => (pv 3))))
      (pss_one (ps_ret (pe_op op_cat (pe_lst (by exact (pa_cons (pe_callB call_len_seq (by rfl) T.n_len (by decide +kernel) (by exact (pa_cons (pv 2) pa_nil))) pa_nil))) (pv 2)))))), ?_⟩
  obtain ⟨a, st, X, rfl, ⟨dx, e, p, er, so, ca, us, ss, ys, B⟩, r⟩ := h
  have W := B.ok.bd.wg
  have hl0 := B.ok.bd.len
  have hn5 := W.few
  refine ⟨_, rfl, a, dx, _, rfl, B.ins, rfl, a, st, X, false, rfl, B.at, fun H3 v L f3 ⟨dx3, e3, p3, er3, so3, ca3, us3, ss3, ys3, B3⟩ hL => ?_⟩
  refine ⟨_, rfl, a, _, dx3, _, _, rfl, B3.ins, T.cl_Board, T.na_Board_many, rfl, st.board.graph.vertexCount, rfl, by omega, by omega, fun D hD => ?_⟩
  refine lc_range (lo := 0) (n := st.board.graph.vertexCount) (fun i H4 => Ex H3 H4 ∧ LstOf H4 D ((List.range i).filter fun v => Ks577.canReach st.board.graph st.board.pebbles v 1)) ⟨Ex.new hD, upd_same⟩ ?_ ?_
  · rintro i H4 hi ⟨x4, hD4⟩
    have hD4 : H4 D = some (.lst (nVs ((List.range i).filter fun v => Ks577.canReach st.board.graph st.board.pebbles v 1))) := hD4
    rw [Int.zero_add]
    refine ⟨rfl, _, rfl, _, rfl, v, st.board.graph, false, st.board.pebbles, L, i, rfl, W, hl0, hL.ex x4, hi, fun H5 x5 => ?_⟩
    refine ⟨_, _, rfl, rfl, _, rfl, ?_⟩
    have hmp := max_pos W hl0 hL.ok i
    rw [range_snoc_filter]
    cases hc : Ks577.canReach st.board.graph st.board.pebbles i 1 with
    | true =>
      rw [hc] at hmp
      have hmp := of_decide_eq_true hmp
      refine if_true_of (decide_eq_true (by omega)) ⟨_, rfl, _, x5 _ _ hD4, ?_, Ex.mut (x4.trans x5) hD, ?_⟩
      · rw [nVs_len]
        have := range_filter_le (fun v => Ks577.canReach st.board.graph st.board.pebbles v 1) i
        exact szl (by omega)
      · rw [if_pos rfl]
        show upd _ D _ D = _
        rw [upd_same, nVs_app]
        rfl
    | false =>
      rw [hc] at hmp
      have hmp := of_decide_eq_false hmp
      refine if_false_of (decide_eq_false (by omega)) ⟨x4.trans x5, ?_⟩
      rw [if_neg Bool.false_ne_true, List.append_nil]
      exact x5 _ _ hD4
  · rintro H4 ⟨x4, hD4⟩
    have hD4 : H4 D = some (.lst (nVs ((List.range st.board.graph.vertexCount).filter fun v => Ks577.canReach st.board.graph st.board.pebbles v 1))) := hD4
    have hle := range_filter_le (fun v => Ks577.canReach st.board.graph st.board.pebbles v 1) st.board.graph.vertexCount
    refine ⟨_, rfl, D, _, rfl, .inl (sl_of' hD4), by show 1 ≤ sizeLine; exact szs (by omega), fun l hl => ?_⟩
    have x5 := x4.trans (Ex.new (o := .lst [.int ((nVs ((List.range st.board.graph.vertexCount).filter fun v => Ks577.canReach st.board.graph st.board.pebbles v 1)).length : Int)]) hl)
    refine ⟨_, rfl, l, D, _, _, rfl, rfl, upd_same, (Ex.new hl) _ _ hD4, by rw [nVs_len]; show 1 + _ ≤ sizeLine; exact szs (by omega), fun y hy => ?_⟩
    have x6 := x5.trans (Ex.new (o := .lst ([.int ((nVs ((List.range st.board.graph.vertexCount).filter fun v => Ks577.canReach st.board.graph st.board.pebbles v 1)).length : Int)] ++ nVs ((List.range st.board.graph.vertexCount).filter fun v => Ks577.canReach st.board.graph st.board.pebbles v 1))) hy)
    refine r.ok rfl (f3.trans (Fr.ex x6)) (f3.dom _ (fresh_back x5 hy)) (B3.kx (KX.ex x6)).at ?_
    show upd _ y _ y = _
    rw [upd_same, nVs_len]
    show _ = some (HO.lst (V.int _ :: (((List.range st.board.graph.vertexCount).filter fun v => Ks577.canReach st.board.graph st.board.pebbles v 1).map Int.ofNat).map V.int))
    rw [List.map_map]
    rfl
/-! ### weight_at -/
def sp_Board_weight_at (P : Program) (w : World) (ad : Adr) : Sp := fun vs H Q E => ∃ (a : Addr) (t : Nat) (st : State) (X : Addr → Prop), vs = [.ref a, .int t] ∧ BoardAt P w ad H a st X ∧ Res P w ad H a X (Ks582.perform st (.weightAt t)) Q E
theorem ok_Board_weight_at (T : Txt K mg ad) : Ok P w K mg base (L2.CX P w) 4 ad.f_Board_weight_at ["self", "target"] (sp_Board_weight_at P w ad) := by
  obtain ⟨fd, F⟩ := T.F_Board_weight_at
  obtain ⟨fd_lowest, G_lowest, B_lowest⟩ := ok_lowest (P := P) (w := w) (base := base) T
  obtain ⟨fd_two_to, G_two_to, B_two_to⟩ := ok_two_to (P := P) (w := w) (base := base) T
  obtain ⟨fd_distances, G_distances, B_distances⟩ := ok_distances (P := P) (w := w) (base := base) T
  obtain ⟨fd_Board_check, G_Board_check, B_Board_check⟩ := ok_Board_check (P := P) (w := w) (base := base) T
  refine ⟨fd, F.okX sc_Board_weight_at (fun vs H Q E h => ?_) (fun cdv A outer s H vs Q E hr h => ?_), F.binds fun _ _ _ _ _ _ us hl => match us, hl with | [_, _], _ => rfl⟩
  · obtain ⟨_, _, _, _, rfl, _⟩ := h
    rfl
  have hu := hu_of hr
  refine ⟨_, (pss_cons (ps_expr (pe_meth (pv 0) T.cl_Board T.m_Board_check G_Board_check (hr.mono (by decide)) B_Board_check .nil (passes_call (takes_of rfl rfl rfl rfl) (fun _ _ _ _ z => z)) (by exact (pa_cons (pe_lst (by exact (pa_cons (pv 1) pa_nil))) pa_nil))))
      (pss_cons (ps_set (i := 2) sc_Board_weight_at.nd rfl (by first | exact Or.inl rfl | exact Or.inr rfl) (pe_call G_distances (hr.mono (by decide)) (by rfl) T.g_distances T.k_distances B_distances .nil pass0 (by exact (pa_cons (pe_fld (pv 0) rfl) (pa_cons (pe_fld (pv 0) rfl) (pa_cons (pv 1) pa_nil))))))
      (pss_cons (ps_set (i := 3) sc_Board_weight_at.nd rfl (by first | exact Or.inl rfl | exact Or.inr rfl) (pe_call G_two_to (hr.mono (by decide)) (by rfl) T.g_two_to T.k_two_to B_two_to .nil pass0 (by exact (pa_cons (pe_fld (pv 0) rfl) pa_nil))))
      (pss_cons (ps_set (i := 4) sc_Board_weight_at.nd rfl (by first | exact Or.inl rfl | exact Or.inr rfl) pe_int)
      (pss_cons (ps_for (passes_of rfl) rfl (pi_range1 (by rfl) T.n_range (by exact (pa_cons (pe_fld (pv 0) rfl) pa_nil))) (pg_name (i := 5) sc_Board_weight_at.nd rfl (by first | exact Or.inl rfl | exact Or.inr rfl)) (pss_one (ps_if (pt_cmpR op_ne (pe_ix ix_list (pv 2) (pv 5) (fun _ _ => rfl)) (pe_glob (v := .int (-1)) rfl T.c_FAR ⟨_, rfl⟩) (nomark _)) (pss_one (ps_aug (i := 4) sc_Board_weight_at.nd rfl (by first | exact Or.inl rfl | exact Or.inr rfl) (pe_op op_mul (pe_ix ix_tup (pe_fld (pv 0) rfl) (pv 5) (fun _ _ => rfl)) (pe_op op_fdivN (pv 3) (pe_call G_two_to (hr.mono (by decide)) (by rfl) T.g_two_to T.k_two_to B_two_to .nil pass0 (by exact (pa_cons (pe_ix ix_list (pv 2) (pv 5) (fun _ _ => rfl)) pa_nil))))) ip_add)) pss_nil)))
      (pss_one (ps_ret (pe_op op_cat (pe_lst (by exact (pa_cons pe_int pa_nil))) (pe_call G_lowest (hr.mono (by decide)) (by rfl) T.g_lowest T.k_lowest B_lowest .nil pass0 (by exact (pa_cons (pv 4) (pa_cons (pv 3) pa_nil)))))))))))), ?_⟩
  obtain ⟨a, t, st, X, rfl, ⟨dx, e, p, er, so, ca, us, ss, ys, B⟩, r⟩ := h
  have W := B.ok.bd.wg
  have hl0 := B.ok.bd.len
  have hn5 := W.few
  refine ⟨_, rfl, a, dx, _, rfl, B.ins, rfl, _, rfl, by show 1 ≤ sizeLine; exact szs (by omega), fun l hl => ?_⟩
  have B1 := B.kx (KX.ex (Ex.new (o := .lst (nVs [t])) hl))
  refine ⟨a, l, st, X, [t], rfl, B1.at, upd_same, by show 1 ≤ 5; decide, fun hall H2 e2 => ?_, fun hex H2 e2 => ?_⟩
  rotate_left
  · obtain ⟨x, hx, hle⟩ := hex
    rw [List.mem_singleton.mp hx] at hle
    exact r.no (if_pos hle) (Fr.ex ((Ex.new hl).trans e2)) (B1.kx (KX.ex e2)).at
  have ht : t < st.board.graph.vertexCount := hall t (by simp)
  have x2 : Ex H H2 := (Ex.new hl).trans e2
  have B2 := B.kx (KX.ex x2)
  refine ⟨_, rfl, a, _, dx, _, _, rfl, B2.ins, T.cl_Board, T.na_Board_many, rfl, _, rfl, a, _, dx, _, _, rfl, B2.ins, T.cl_Board, T.na_Board_edges, rfl, _, rfl, e, st.board.graph, t, rfl, W, B2.edg, ht, fun q H3 hq x3 hL => ?_⟩
  have x03 := x2.trans x3
  have B3 := B.kx (KX.ex x03)
  refine ⟨_, rfl, a, _, dx, _, _, rfl, B3.ins, T.cl_Board, T.na_Board_many, rfl, st.board.graph.vertexCount, rfl, by omega, ?_⟩
  refine ⟨_, rfl, a, _, dx, _, _, rfl, B3.ins, T.cl_Board, T.na_Board_many, rfl, st.board.graph.vertexCount, rfl, by omega, by omega, ?_⟩
  have h32 : 2 ^ st.board.graph.vertexCount ≤ 2 ^ 5 := Nat.pow_le_pow_right (by omega) hn5
  refine for_range0 (n := st.board.graph.vertexCount) (fun i σ H' => ∃ (v5 : Option V), σ = [some (.ref a), some (.int t), some (.ref q), some (.int ((2 ^ st.board.graph.vertexCount : Nat) : Int)), some (.int ((wTo st.board.graph st.board.pebbles t i : Nat) : Int)), v5] ∧ H' = H3) ⟨none, rfl, rfl⟩ ?_ ?_
  · rintro i σ H' hi ⟨v5, rfl, rfl⟩
    have hsym := distI_symm W ht hi
    have hrow : ((distL st.board.graph t).map V.int)[i]? = some (.int (distI st.board.graph t i)) := int_get (distL_get hi)
    refine ⟨_, rfl, _, rfl, q, _, _, _, rfl, rfl, sl_of' hL, atI_nat hrow, rfl, _, rfl, ?_⟩
    cases hd : Ks577.distance st.board.graph i t with
    | none =>
      have hdI : distI st.board.graph t i = -1 := by rw [hsym]; unfold distI; rw [hd]; rfl
      refine if_false_of (by rw [hdI]; rfl) ⟨some (.int i), ?_, rfl⟩
      have hw : wTo st.board.graph st.board.pebbles t (i + 1) = wTo st.board.graph st.board.pebbles t i := by
        show _ + (match Ks577.distance st.board.graph i t with | none => 0 | some d => _) = _
        rw [hd]
        rfl
      rw [hw]
      rfl
    | some d =>
      have hdI : distI st.board.graph t i = (d : Int) := by rw [hsym]; unfold distI; rw [hd]; rfl
      have hdl : d < st.board.graph.vertexCount := by
        have := distI_lt W (u := t) (v := i) ht
        omega
      have h16 : 2 ^ d ≤ 2 ^ 5 := Nat.pow_le_pow_right (by omega) (by omega)
      have hpos : 0 < 2 ^ d := Nat.pow_pos (by decide)
      rw [hdI] at hrow
      have h12 : pebblesAt st.board.pebbles i ≤ 12 := Nat.le_trans (getD_le_sum st.board.pebbles i) B.ok.bd.sum
      refine if_true_of (by rw [hdI]; simp) ?_
      refine ⟨_, rfl, _, rfl, a, _, dx, _, _, rfl, B3.ins, T.cl_Board, T.na_Board_pebbles, rfl, _, rfl, p, _, _, _, rfl, rfl, st_of' B3.peb, at_nVs (by omega), _, rfl, _, rfl, _, rfl, q, _, _, _, rfl, rfl, sl_of' hL, atI_nat hrow, d, rfl, by omega, _, _, rfl, rfl, ⟨by omega, by omega⟩, _, _, rfl, rfl, .inl ⟨?_, ?_⟩, _, _, rfl, rfl, some (.int i), ?_, rfl⟩
      · unfold pebblesAt at h12
        omega
      · unfold pebblesAt at h12
        omega
      · have hw : wTo st.board.graph st.board.pebbles t (i + 1) = wTo st.board.graph st.board.pebbles t i + pebblesAt st.board.pebbles i * (2 ^ st.board.graph.vertexCount / 2 ^ d) := by
          show _ + (match Ks577.distance st.board.graph i t with | none => 0 | some d => _) = _
          rw [hd]
        have hv : ((wTo st.board.graph st.board.pebbles t i : Nat) : Int) + ((st.board.pebbles.getD i 0 : Nat) : Int) * Int.fdiv ((2 ^ st.board.graph.vertexCount : Nat) : Int) ((2 ^ d : Nat) : Int) = ((wTo st.board.graph st.board.pebbles t (i + 1) : Nat) : Int) := by
          rw [hw, Int.fdiv_eq_ediv_of_nonneg _ (by omega)]
          unfold pebblesAt
          push_cast
          rfl
        rw [← hv]
        rfl
  · rintro σ H' ⟨v5, rfl, rfl⟩
    have hw := wTo_le hn5 B.ok.bd.sum t st.board.graph.vertexCount (c := st.board.pebbles) (g := st.board.graph)
    have hw2 : wTo st.board.graph st.board.pebbles t st.board.graph.vertexCount ≤ 5 * 384 := Nat.le_trans hw (Nat.mul_le_mul_right _ hn5)
    have hpos : 0 < 2 ^ st.board.graph.vertexCount := Nat.pow_pos (by decide)
    refine ⟨by show 1 ≤ sizeLine; exact szs (by omega), fun l2 hl2 => ?_⟩
    have x4 : Ex H' (upd H' l2 (.lst [.int 0])) := Ex.new hl2
    refine ⟨_, rfl, _, rfl, wTo st.board.graph st.board.pebbles t st.board.graph.vertexCount, 2 ^ st.board.graph.vertexCount, rfl, hpos, by omega, by omega, fun p2 H5 hp2 x5 hL5 => ?_⟩
    refine ⟨l2, p2, _, _, rfl, rfl, x5 _ _ upd_same, hL5, by show 1 + 2 ≤ sizeLine; exact szs (by omega), fun y hy => ?_⟩
    have x05 := x03.trans (x4.trans x5)
    have x06 := x05.trans (Ex.new (o := .lst ([.int 0] ++ nVs [wTo st.board.graph st.board.pebbles t st.board.graph.vertexCount / Nat.gcd (wTo st.board.graph st.board.pebbles t st.board.graph.vertexCount) (2 ^ st.board.graph.vertexCount), 2 ^ st.board.graph.vertexCount / Nat.gcd (wTo st.board.graph st.board.pebbles t st.board.graph.vertexCount) (2 ^ st.board.graph.vertexCount)])) hy)
    refine r.ok (v := 0) (rest := Ks577.pairs [Ks577.weightAt st.board.graph st.board.pebbles t]) (if_neg (by omega)) (Fr.ex x06) (fresh_back x05 hy) (B.kx (KX.ex x06)).at ?_
    rw [weight_eq W, mkR_pos hpos]
    exact upd_same
/-! ### can_cover -/
def sp_Board_can_cover (P : Program) (w : World) (ad : Adr) : Sp := fun vs H Q E => ∃ (a : Addr) (st : State) (X : Addr → Prop), vs = [.ref a] ∧ BoardAt P w ad H a st X ∧ Res1 P w ad H a X (Ks582.perform st .canCover) Q
theorem ok_Board_can_cover (T : Txt K mg ad) : Ok P w K mg base CX0 6 ad.f_Board_can_cover ["self"] (sp_Board_can_cover P w ad) := by
  obtain ⟨fd, F⟩ := T.F_Board_can_cover
  obtain ⟨fd_Board_steps, G_Board_steps, B_Board_steps⟩ := ok_Board_steps (P := P) (w := w) (base := base) T
  refine ⟨fd, F.ok sc_Board_can_cover (fun vs H Q E h => ?_) (fun cdv A outer s H vs Q E hr h => ?_), F.binds fun _ _ _ _ _ _ us hl => match us, hl with | [_], _ => rfl⟩
  · obtain ⟨_, _, _, rfl, _⟩ := h
    rfl
  have hu := hu_of hr
  refine ⟨_, (pss_one (ps_ret (pe_lst (by exact (pa_cons (pe_ifExp (pt_val (pe_callB (cr_any rfl) (by rfl) T.n_any (by decide +kernel) (by exact (pa_cons (by exact (pe_lc (own := [("pebbles", 1)]) rfl sc_Board_can_cover.nd (pi_keys (pe_meth (pv 0) T.cl_Board T.m_Board_steps G_Board_steps (hr.mono (by decide)) B_Board_steps .nil pass0 (by exact (pa_cons pe_bl pa_nil)))) (blkOk_by (own := [("pebbles", 1)]) (N := N_Board_can_cover) (sc := defScope s_Board_can_cover) (by decide +kernel)) (fun _ _ _ _ _ => (pg_name (i := 1) sc_Board_can_cover.nd rfl (by first | exact Or.inl rfl | exact Or.inr rfl))) (fun _ _ _ _ _ => pts_nil) (fun _ _ _ _ _ => (pe_cmpR (op_notIn_seqK (K := K) rfl) pe_int (pv 1) (by rfl))))) pa_nil)))) pe_int pe_int) pa_nil))))), ?_⟩
  obtain ⟨a, st, X, rfl, ⟨dx, e, p, er, so, ca, us, ss, ys, B⟩, r⟩ := h
  have W := B.ok.bd.wg
  have hl0 := B.ok.bd.len
  refine ⟨_, rfl, a, dx, _, rfl, B.ins, rfl, a, st, X, false, rfl, B.at, fun H3 v L f3 B3 hL => ?_⟩
  obtain ⟨od, hv⟩ := hL.at_
  have hfew := hL.few
  refine ⟨v, od, rfl, .inr ⟨_, hv, fun D hD => ?_⟩⟩
  refine lc_it walk_keysT (fun j H4 => Ex H3 H4 ∧ H4 D = some (.lst (((L.take j).map fun d => !(d.contains 0)).map V.bl))) ⟨Ex.new hD, upd_same⟩ (fun j H4 _ z => z.1 _ _ hv) ?_ ?_
  · rintro j x H4 H5 hj ⟨x4, hD4⟩ ⟨rfl, k, v', qa, hk, rfl, hqa⟩
    obtain ⟨d, hd, rfl⟩ := sK_get hk
    rw [kT_V] at hqa
    rw [sK_len] at hj
    refine ⟨rfl, _, rfl, qa, _, rfl, .inr (st_of' hqa), rfl, nVs_flat _, _, hD4, by rw [List.length_map, List.length_map, List.length_take]; exact szl (by omega), Ex.mut x4 hD, ?_⟩
    rw [upd_same, take_snoc hd, List.map_append, List.map_append]
    have hz : inV (V.int 0) (nVs d) = d.contains 0 := inV_nVs 0 d
    show some (HO.lst (_ ++ [V.bl (!inV (V.int 0) (nVs d))])) = some (HO.lst (_ ++ [V.bl (!d.contains 0)]))
    rw [hz]
  · rintro H4 ⟨x4, hD4⟩
    rw [sK_len, List.take_length] at hD4
    refine ⟨D, _, rfl, sl_of' hD4, _, rfl, ?_⟩
    have hcov : (L.map fun d => !(d.contains 0)).any id = Ks579.canCover st.board.graph st.board.pebbles := by
      rw [Bool.eq_iff_iff, canCover_iff W hl0, List.any_eq_true]
      constructor
      · rintro ⟨b, hb, h1⟩
        obtain ⟨d, hd, rfl⟩ := List.mem_map.mp hb
        refine ⟨d, (hL.ok.mem d).mp hd, fun x hx => ?_⟩
        have h1 : (!(d.contains 0)) = true := h1
        rw [Bool.not_eq_true', ← Bool.not_eq_true, List.contains_iff_mem] at h1
        rcases Nat.eq_zero_or_pos x with h | h
        · exact absurd (h ▸ hx) h1
        · exact h
      · rintro ⟨d, hd, h1⟩
        refine ⟨_, List.mem_map.mpr ⟨d, (hL.ok.mem d).mpr hd, rfl⟩, ?_⟩
        show (!(d.contains 0)) = true
        rw [Bool.not_eq_true', ← Bool.not_eq_true, List.contains_iff_mem]
        intro z
        have := h1 0 z
        omega
    rw [hcov]
    have hp : Ks582.perform st .canCover = (st, Ks577.number (if Ks579.canCover st.board.graph st.board.pebbles then 1 else 0)) := rfl
    have f4 := f3.trans (Fr.ex x4)
    cases hc : Ks579.canCover st.board.graph st.board.pebbles with
    | true =>
      rw [hc] at hp
      exact if_true_of rfl ⟨by show 1 ≤ sizeLine; exact szs (by omega), fun y hy => r.ok hp (f4.trans (Fr.ex (Ex.new hy))) (f4.dom _ hy) ((B3.ex x4).ex (Ex.new hy)) one_ret⟩
    | false =>
      rw [hc] at hp
      exact if_false_of rfl ⟨by show 1 ≤ sizeLine; exact szs (by omega), fun y hy => r.ok hp (f4.trans (Fr.ex (Ex.new hy))) (f4.dom _ hy) ((B3.ex x4).ex (Ex.new hy)) one_ret⟩
end PBW

namespace PB
open Ks577 (pebblesAt isAdjacent Graph)
open Ks582 (State)
def smallO (st : State) (f : Unit → State × Ks577.Result) : State × Ks577.Result := if Ks578.isConnected st.board.graph = false then (st, Ks577.number (-33)) else if 4 ≤ Ks578.diameter st.board.graph then (st, Ks577.number (-75)) else f ()
def optO (st : State) (code : Int) : Option Nat → State × Ks577.Result
  | none => (st, Ks577.number code)
  | some k => (st, Ks577.number k)
def numO (st : State) (t : Nat) (b : Bool) : State × Ks577.Result := if st.board.graph.vertexCount ≤ t then (st, Ks577.number (-2)) else smallO st fun _ => optO st (-75) (numB st.board.graph b t)
theorem orE (st : State) (c : Int) (o : Option Nat) : Ks582.orError st c o = optO st c o := by cases o <;> rfl
theorem perf_num (st : State) (t : Nat) : Ks582.perform st (.pebblingNumber t) = numO st t false := by
  show (if _ then _ else if _ then _ else if _ then _ else Ks582.orError st (-75) (Ks578.pebblingNumber st.board.graph t)) = _
  rw [orE]
  rfl
theorem perf_numR (st : State) (t : Nat) : Ks582.perform st (.rubblingNumber t) = numO st t true := by
  show (if _ then _ else if _ then _ else if _ then _ else Ks582.orError st (-75) (Ks581.rubblingNumber st.board.graph t)) = _
  rw [orE]
  rfl
def gnumO (st : State) : State × Ks577.Result := smallO st fun _ => optO st (-75) (Ks578.graphPebblingNumber st.board.graph)
theorem perf_gnum (st : State) : Ks582.perform st .graphPebblingNumber = gnumO st := by
  show (if _ then _ else if _ then _ else Ks582.orError st (-75) (Ks578.graphPebblingNumber st.board.graph)) = _
  rw [orE]
  rfl
theorem small_iff (g : Graph) : Small g ↔ ¬ Ks578.isConnected g = false ∧ ¬ 4 ≤ Ks578.diameter g := by
  unfold Small
  rw [Bool.not_eq_false]
  constructor
  · rintro ⟨h1, h2⟩
    exact ⟨h1, by omega⟩
  · rintro ⟨h1, h2⟩
    exact ⟨h1, by omega⟩
theorem smallO_of {st : State} (S : Small st.board.graph) (f : Unit → State × Ks577.Result) : smallO st f = f () := by
  obtain ⟨h1, h2⟩ := (small_iff _).mp S
  exact (if_neg h1).trans (if_neg h2)
/-- why a graph is refused -/
def BadS (g : Graph) (code : Int) : Prop := (Ks578.isConnected g = false ∧ code = -33) ∨ (¬ Ks578.isConnected g = false ∧ 4 ≤ Ks578.diameter g ∧ code = -75)
theorem smallO_bad {st : State} {code : Int} (h : BadS st.board.graph code) (f : Unit → State × Ks577.Result) : smallO st f = (st, Ks577.number code) := by
  rcases h with ⟨h, rfl⟩ | ⟨h1, h2, rfl⟩
  · exact if_pos h
  · exact (if_neg h1).trans (if_pos h2)
end PB
namespace PBW
open PySem PySem.Spec PyProof.Rows L2 Evl PB
open Ks577 (Graph pebblesAt isAdjacent)
open Ks582 (State)
variable {P : Program} {w : World} {K : PySem.W.Frag} {mg : Str → Option Value} {base : Heap} {ad : Adr}
/-! ### connected_diameter, check_small -/
def sp_Board_connected_diameter (P : Program) (w : World) (ad : Adr) : Sp := fun vs H Q E => ∃ (a : Addr) (st : State) (X : Addr → Prop), vs = [.ref a] ∧ BoardAt P w ad H a st X ∧
  (¬ Ks578.isConnected st.board.graph = false → RetV (.int (Ks578.diameter st.board.graph)) H Q) ∧ (Ks578.isConnected st.board.graph = false → ∀ H2, Ex H H2 → Thrown ad (-33) H2 E)
theorem ok_Board_connected_diameter (T : Txt K mg ad) : Ok P w K mg base (L2.CX P w) 4 ad.f_Board_connected_diameter ["self"] (sp_Board_connected_diameter P w ad) := by
  obtain ⟨fd, F⟩ := T.F_Board_connected_diameter
  obtain ⟨fd_refuse_if, G_refuse_if, B_refuse_if⟩ := ok_refuse_if (P := P) (w := w) (base := base) T
  obtain ⟨fd_diameter, G_diameter, B_diameter⟩ := ok_diameter (P := P) (w := w) (base := base) T
  refine ⟨fd, F.okX sc_Board_connected_diameter (fun vs H Q E h => ?_) (fun cdv A outer s H vs Q E hr h => ?_), F.binds fun _ _ _ _ _ _ us hl => match us, hl with | [_], _ => rfl⟩
  · obtain ⟨_, _, _, rfl, _⟩ := h
    rfl
  have hu := hu_of hr
  refine ⟨_, (pss_cons (ps_set (i := 1) sc_Board_connected_diameter.nd rfl (by first | exact Or.inl rfl | exact Or.inr rfl) (pe_call G_diameter (hr.mono (by decide)) (by rfl) T.g_diameter T.k_diameter B_diameter .nil pass0 (by exact (pa_cons (pe_fld (pv 0) rfl) (pa_cons (pe_fld (pv 0) rfl) pa_nil)))))
      (pss_cons (ps_expr (pe_call G_refuse_if (hr.mono (by decide)) (by rfl) T.g_refuse_if T.k_refuse_if B_refuse_if .nil (passes_call (takes_of rfl rfl rfl rfl) (fun _ _ _ _ z => z)) (by exact (pa_cons (pe_cmpR op_eq (pv 1) (pe_glob (v := .int (-1)) rfl T.c_FAR ⟨_, rfl⟩) (nomark _)) (pa_cons (pe_un un_neg pe_int) pa_nil)))))
      (pss_one (ps_ret (pv 1))))), ?_⟩
  obtain ⟨a, st, X, rfl, ⟨dx, e, p, er, so, ca, us, ss, ys, B⟩, q1, q2⟩ := h
  refine ⟨_, rfl, a, _, dx, _, _, rfl, B.ins, T.cl_Board, T.na_Board_many, rfl, _, rfl, a, _, dx, _, _, rfl, B.ins, T.cl_Board, T.na_Board_edges, rfl, e, st.board.graph, rfl, B.ok.bd.wg, B.edg, fun H2 x2 => ?_⟩
  refine ⟨_, rfl, rfl, _, rfl, _, _, rfl, fun hc => ?_, fun hc => ?_⟩
  · have hc := of_decide_eq_false hc
    have h1 : Ks578.isConnected st.board.graph = true := by
      cases z : Ks578.isConnected st.board.graph with
      | true => rfl
      | false =>
        exfalso
        refine hc ?_
        unfold diaI
        rw [z]
        rfl
    refine ⟨_, rfl, ?_⟩
    unfold diaI
    rw [if_pos h1]
    exact q1 (by rw [h1]; exact fun z => nomatch z) H2 x2
  · have hc := of_decide_eq_true hc
    refine q2 ?_ H2 x2
    cases z : Ks578.isConnected st.board.graph with
    | false => rfl
    | true =>
      exfalso
      unfold diaI at hc
      rw [z] at hc
      injection hc with hc
      have hc : ((Ks578.diameter st.board.graph : Nat) : Int) = -1 := hc
      omega
def sp_Board_check_small (P : Program) (w : World) (ad : Adr) : Sp := fun vs H Q E => ∃ (a : Addr) (st : State) (X : Addr → Prop), vs = [.ref a] ∧ BoardAt P w ad H a st X ∧
  (Small st.board.graph → RetV .non H Q) ∧ (∀ code, BadS st.board.graph code → ∀ H2, Ex H H2 → Thrown ad code H2 E)
theorem ok_Board_check_small (T : Txt K mg ad) : Ok P w K mg base (L2.CX P w) 5 ad.f_Board_check_small ["self"] (sp_Board_check_small P w ad) := by
  obtain ⟨fd, F⟩ := T.F_Board_check_small
  obtain ⟨fd_refuse_if, G_refuse_if, B_refuse_if⟩ := ok_refuse_if (P := P) (w := w) (base := base) T
  obtain ⟨fd_Board_connected_diameter, G_Board_connected_diameter, B_Board_connected_diameter⟩ := ok_Board_connected_diameter (P := P) (w := w) (base := base) T
  refine ⟨fd, F.okX sc_Board_check_small (fun vs H Q E h => ?_) (fun cdv A outer s H vs Q E hr h => ?_), F.binds fun _ _ _ _ _ _ us hl => match us, hl with | [_], _ => rfl⟩
  · obtain ⟨_, _, _, rfl, _⟩ := h
    rfl
  have hu := hu_of hr
  refine ⟨_, (pss_one (ps_expr (pe_call G_refuse_if (hr.mono (by decide)) (by rfl) T.g_refuse_if T.k_refuse_if B_refuse_if .nil (passes_call (takes_of rfl rfl rfl rfl) (fun _ _ _ _ z => z)) (by exact (pa_cons (pe_cmpR op_gt (pe_meth0 (pv 0) T.cl_Board T.m_Board_connected_diameter G_Board_connected_diameter (hr.mono (by decide)) B_Board_connected_diameter .nil (passes_call (takes_of rfl rfl rfl rfl) (fun _ _ _ _ z => z))) (pe_glob (v := .int (3)) rfl T.c_MOST_DIAMETER ⟨_, rfl⟩) (nomark _)) (pa_cons (pe_un un_neg pe_int) pa_nil)))))), ?_⟩
  obtain ⟨a, st, X, rfl, ⟨dx, e, p, er, so, ca, us, ss, ys, B⟩, q1, q2⟩ := h
  refine ⟨_, rfl, a, dx, _, rfl, B.ins, rfl, a, st, X, rfl, B.at, fun hcn H2 x2 => ?_, fun hcn H2 x2 => q2 _ (.inl ⟨hcn, rfl⟩) H2 x2⟩
  refine ⟨_, _, rfl, rfl, _, rfl, _, _, rfl, fun hc => ?_, fun hc => ?_⟩
  · have hc := of_decide_eq_false hc
    exact q1 ((small_iff _).mpr ⟨hcn, by omega⟩) H2 x2
  · have hc := of_decide_eq_true hc
    exact q2 _ (.inr ⟨hcn, by omega, rfl⟩) H2 x2
/-! ### number -/
def sp_Board_number (P : Program) (w : World) (ad : Adr) : Sp := fun vs H Q E => ∃ (a : Addr) (t : Nat) (b : Bool) (st : State) (X : Addr → Prop), vs = [.ref a, .int t, .bl b] ∧ BoardAt P w ad H a st X ∧ Res P w ad H a X (numO st t b) Q E
theorem ok_Board_number (T : Txt K mg ad) : Ok P w K mg base (L2.CX P w) 19 ad.f_Board_number ["self", "target", "rubbling"] (sp_Board_number P w ad) := by
  obtain ⟨fd, F⟩ := T.F_Board_number
  obtain ⟨fd_Solved_number, G_Solved_number, B_Solved_number⟩ := ok_Solved_number (P := P) (w := w) (base := base) T
  obtain ⟨fd_Board_solver, G_Board_solver, B_Board_solver⟩ := ok_Board_solver (P := P) (w := w) (base := base) T
  obtain ⟨fd_Board_check_small, G_Board_check_small, B_Board_check_small⟩ := ok_Board_check_small (P := P) (w := w) (base := base) T
  obtain ⟨fd_Board_check, G_Board_check, B_Board_check⟩ := ok_Board_check (P := P) (w := w) (base := base) T
  refine ⟨fd, F.okX sc_Board_number (fun vs H Q E h => ?_) (fun cdv A outer s H vs Q E hr h => ?_), F.binds fun _ _ _ _ _ _ us hl => match us, hl with | [_, _, _], _ => rfl⟩
  · obtain ⟨_, _, _, _, _, rfl, _⟩ := h
    rfl
  have hu := hu_of hr
  refine ⟨_, (pss_cons (ps_expr (pe_meth (pv 0) T.cl_Board T.m_Board_check G_Board_check (hr.mono (by decide)) B_Board_check .nil (passes_call (takes_of rfl rfl rfl rfl) (fun _ _ _ _ z => z)) (by exact (pa_cons (pe_lst (by exact (pa_cons (pv 1) pa_nil))) pa_nil))))
      (pss_cons (ps_expr (pe_meth0 (pv 0) T.cl_Board T.m_Board_check_small G_Board_check_small (hr.mono (by decide)) B_Board_check_small .nil (passes_call (takes_of rfl rfl rfl rfl) (fun _ _ _ _ z => z))))
      (pss_one (ps_ret (pe_lst (by exact (pa_cons (pe_meth0 (pe_meth (pv 0) T.cl_Board T.m_Board_solver G_Board_solver (hr.mono (by decide)) B_Board_solver .nil pass0 (by exact (pa_cons (pv 1) (pa_cons (pv 2) pa_nil)))) T.cl_Solved T.m_Solved_number G_Solved_number (hr.mono (by decide)) B_Solved_number .nil pass0) pa_nil))))))), ?_⟩
  obtain ⟨a, t, b, st, X, rfl, ⟨dx, e, p, er, so, ca, us, ss, ys, B⟩, r⟩ := h
  have W := B.ok.bd.wg
  refine ⟨_, rfl, a, dx, _, rfl, B.ins, rfl, _, rfl, by show 1 ≤ sizeLine; exact szs (by omega), fun l hl => ?_⟩
  have B1 := B.kx (KX.ex (Ex.new (o := .lst (nVs [t])) hl))
  refine ⟨a, l, st, X, [t], rfl, B1.at, upd_same, by show 1 ≤ 5; decide, fun hall H2 e2 => ?_, fun hex H2 e2 => ?_⟩
  rotate_left
  · obtain ⟨x, hx, hle⟩ := hex
    rw [List.mem_singleton.mp hx] at hle
    exact r.no (if_pos hle) (Fr.ex ((Ex.new hl).trans e2)) (B1.kx (KX.ex e2)).at
  have ht : t < st.board.graph.vertexCount := hall t (by simp)
  have x2 : Ex H H2 := (Ex.new hl).trans e2
  have B2 := B.kx (KX.ex x2)
  have ho : numO st t b = smallO st fun _ => optO st (-75) (numB st.board.graph b t) := if_neg (by omega)
  refine ⟨_, rfl, a, dx, _, rfl, B2.ins, rfl, a, st, X, rfl, B2.at, fun Sm H3 x3 => ?_, fun code hb H3 x3 => r.no (ho.trans (smallO_bad hb _)) (Fr.ex (x2.trans x3)) (B2.kx (KX.ex x3)).at⟩
  have B3 := B2.kx (KX.ex x3)
  refine ⟨_, rfl, a, dx, _, rfl, B3.ins, rfl, _, rfl, _, rfl, a, st, X, t, b, rfl, B3.at, ht, fun H4 v kd f4 B4 => ?_⟩
  obtain ⟨Y, S4, back⟩ := B4.solved
  obtain ⟨dv, rws, as, Ks, S4x⟩ := id S4
  refine ⟨v, dv, _, rfl, S4x.ins, rfl, v, kd, st.board.graph, t, b, Y, rfl, W, Sm, S4, ht, fun H5 m k5 S5 hm _ => ?_⟩
  obtain ⟨B5, f5⟩ := back H5 k5 S5
  have f05 := (Fr.ex (x2.trans x3)).trans (f4.trans f5)
  refine ⟨by show 1 ≤ sizeLine; exact szs (by omega), fun y hy => ?_⟩
  exact r.ok (ho.trans ((smallO_of Sm _).trans (by rw [hm]; rfl))) (f05.trans (Fr.ex (Ex.new hy))) (f05.dom _ hy) (B5.at.ex (Ex.new hy)) one_ret
end PBW

namespace PB
open Ks577 (pebblesAt isAdjacent Graph)
open Ks582 (State)
def cntO (st : State) (t k : Nat) : State × Ks577.Result := if st.board.graph.vertexCount ≤ t then (st, Ks577.number (-2)) else smallO st fun _ => if 10 < k then (st, Ks577.number (-22)) else (st, Ks577.number (unsB st.board.graph false t k).length)
theorem perf_cnt {st : State} (W : WG st.board.graph) (t k : Nat) : Ks582.perform st (.countUnsolvable t k) = cntO st t k := by
  show (if _ then _ else if _ then _ else if _ then _ else if _ then _ else (st, Ks582.number (Ks578.unsolvable st.board.graph t k).length)) = _
  rw [unsolv577 W]
  rfl
def uatO (st : State) (t k i : Nat) : State × Ks577.Result := if st.board.graph.vertexCount ≤ t then (st, Ks577.number (-2)) else smallO st fun _ => if 10 < k then (st, Ks577.number (-22)) else match (unsB st.board.graph false t k)[i]? with
  | none => (st, Ks577.number (-2))
  | some c => (st, Ks577.listResult c)
theorem perf_uat {st : State} (W : WG st.board.graph) (t k i : Nat) : Ks582.perform st (.unsolvableConfiguration t k i) = uatO st t k i := by
  show (if _ then _ else if _ then _ else if _ then _ else if _ then _ else match (Ks578.unsolvable st.board.graph t k)[i]? with
      | none => (st, Ks582.number (-2))
      | some c => (st, Ks577.listResult c)) = _
  rw [unsolv577 W]
  rfl
/-- why unsolvable is refused -/
def BadU (st : State) (t k : Nat) (code : Int) : Prop := (st.board.graph.vertexCount ≤ t ∧ code = -2) ∨ (t < st.board.graph.vertexCount ∧ BadS st.board.graph code) ∨ (t < st.board.graph.vertexCount ∧ Small st.board.graph ∧ 10 < k ∧ code = -22)
theorem badU {st : State} {t k : Nat} {code : Int} (h : BadU st t k code) : cntO st t k = (st, Ks577.number code) ∧ ∀ i, uatO st t k i = (st, Ks577.number code) := by
  unfold cntO uatO
  rcases h with ⟨h, rfl⟩ | ⟨h1, h2⟩ | ⟨h1, h2, h3, rfl⟩
  · exact ⟨if_pos h, fun i => if_pos h⟩
  · exact ⟨(if_neg (by omega)).trans (smallO_bad h2 _), fun i => (if_neg (by omega)).trans (smallO_bad h2 _)⟩
  · exact ⟨(if_neg (by omega)).trans ((smallO_of h2 _).trans (if_pos h3)), fun i => (if_neg (by omega)).trans ((smallO_of h2 _).trans (if_pos h3))⟩
end PB
namespace PBW
open PySem PySem.Spec PyProof.Rows L2 Evl PB
open Ks577 (Graph pebblesAt isAdjacent)
open Ks582 (State)
variable {P : Program} {w : World} {K : PySem.W.Frag} {mg : Str → Option Value} {base : Heap} {ad : Adr}
theorem Fr.mut {X : Addr → Prop} {H H' : Hp} {D : Addr} {o : HO} (f : Fr X H H') (hD : H D = none) : Fr X H (L2.upd H' D o) := ⟨fun x u hx s => by
  rw [upd_ne (ne_of_none hx hD)]
  exact f.stay x u hx s, fun x hx => f.dom x (upd_dom hx)⟩
/-! ### graph_number -/
def sp_Board_graph_number (P : Program) (w : World) (ad : Adr) : Sp := fun vs H Q E => ∃ (a : Addr) (st : State) (X : Addr → Prop), vs = [.ref a] ∧ BoardAt P w ad H a st X ∧ Res P w ad H a X (gnumO st) Q E
theorem ok_Board_graph_number (T : Txt K mg ad) : Ok P w K mg base (L2.CX P w) 19 ad.f_Board_graph_number ["self"] (sp_Board_graph_number P w ad) := by
  obtain ⟨fd, F⟩ := T.F_Board_graph_number
  obtain ⟨fd_Solved_number, G_Solved_number, B_Solved_number⟩ := ok_Solved_number (P := P) (w := w) (base := base) T
  obtain ⟨fd_Board_solver, G_Board_solver, B_Board_solver⟩ := ok_Board_solver (P := P) (w := w) (base := base) T
  obtain ⟨fd_Board_check_small, G_Board_check_small, B_Board_check_small⟩ := ok_Board_check_small (P := P) (w := w) (base := base) T
  refine ⟨fd, F.okX sc_Board_graph_number (fun vs H Q E h => ?_) (fun cdv A outer s H vs Q E hr h => ?_), F.binds fun _ _ _ _ _ _ us hl => match us, hl with | [_], _ => rfl⟩
  · obtain ⟨_, _, _, rfl, _⟩ := h
    rfl
  have hu := hu_of hr
  refine ⟨_, (pss_cons (ps_expr (pe_meth0 (pv 0) T.cl_Board T.m_Board_check_small G_Board_check_small (hr.mono (by decide)) B_Board_check_small .nil (passes_call (takes_of rfl rfl rfl rfl) (fun _ _ _ _ z => z))))
      (pss_one (ps_ret (pe_lst (by exact (pa_cons (pe_callB (cr_max rfl) (by rfl) T.n_max (by decide +kernel) (by exact (pa_cons (by exact (pe_lc (own := [("vertex", 1)]) rfl sc_Board_graph_number.nd (pi_range1 (by rfl) T.n_range (by exact (pa_cons (pe_fld (pv 0) rfl) pa_nil))) (blkOk_by (own := [("vertex", 1)]) (N := N_Board_graph_number) (sc := defScope s_Board_graph_number) (by decide +kernel)) (fun _ _ _ _ _ => (pg_name (i := 1) sc_Board_graph_number.nd rfl (by first | exact Or.inl rfl | exact Or.inr rfl))) (fun _ _ _ _ _ => pts_nil) (fun _ _ _ _ _ => (pe_meth0 (pe_meth (pv 0) T.cl_Board T.m_Board_solver G_Board_solver (hr.mono (by decide)) B_Board_solver .nil pass0 (by exact (pa_cons (pv 1) (pa_cons pe_bl pa_nil)))) T.cl_Solved T.m_Solved_number G_Solved_number (hr.mono (by decide)) B_Solved_number .nil pass0)))) pa_nil))) pa_nil)))))), ?_⟩
  obtain ⟨a, st, X, rfl, ⟨dx, e, p, er, so, ca, us, ss, ys, B⟩, r⟩ := h
  have W := B.ok.bd.wg
  have hn5 := W.few
  refine ⟨_, rfl, a, dx, _, rfl, B.ins, rfl, a, st, X, rfl, B.at, fun Sm H3 x3 => ?_, fun code hb H3 x3 => r.no (smallO_bad hb _) (Fr.ex x3) (B.kx (KX.ex x3)).at⟩
  have B3 := B.kx (KX.ex x3)
  refine ⟨_, rfl, a, _, dx, _, _, rfl, B3.ins, T.cl_Board, T.na_Board_many, rfl, st.board.graph.vertexCount, rfl, by omega, by omega, fun D hD => ?_⟩
  refine lc_range (lo := 0) (n := st.board.graph.vertexCount) (fun i H4 => Fr X H3 H4 ∧ BoardAt P w ad H4 a st (fun x => X x ∨ x = D) ∧ H4 D = some (.lst (nVs ((List.range i).map fun v => (numB st.board.graph false v).getD 0))))
    ⟨Fr.ex (Ex.new hD), B3.at.fresh hD, upd_same⟩ ?_ ?_
  · rintro i H4 hi ⟨f4, ⟨dx4, e4, p4, er4, so4, ca4, us4, ss4, ys4, B4⟩, hD4⟩
    rw [Int.zero_add]
    refine ⟨rfl, _, rfl, a, dx4, _, rfl, B4.ins, rfl, _, rfl, a, st, _, i, false, rfl, B4.at, hi, fun H5 v kd f5 B5 => ?_⟩
    obtain ⟨Y, S5, back⟩ := B5.solved
    obtain ⟨dv, rws, as, Ks, S5x⟩ := id S5
    refine ⟨v, dv, _, rfl, S5x.ins, rfl, v, kd, st.board.graph, i, false, Y, rfl, W, Sm, S5, hi, fun H6 m k6 S6 hm _ => ?_⟩
    obtain ⟨B6, f6⟩ := back H6 k6 S6
    have f46 := f5.trans f6
    have hD6 := f46.lst hD4 (.inr rfl)
    refine ⟨_, hD6, by rw [nVs_len, List.length_map, List.length_range]; exact szl (by omega), (f4.trans (f46.weak fun x hx => .inl hx)).mut hD, B6.at.mut hD6 (.inr rfl), ?_⟩
    rw [upd_same, List.range_succ, List.map_append, nVs_app, List.map_singleton, hm]
    rfl
  · rintro H4 ⟨f4, B4, hD4⟩
    rw [nVs_zI] at hD4
    refine ⟨D, _, rfl, sl_of' hD4, by unfold zI; rw [List.length_map, List.length_map, List.length_range]; exact W.pos, fun m hm hall => ?_⟩
    obtain ⟨m', hm', rfl⟩ := List.mem_map.mp hm
    have hfold := foldl_max_eq hm' fun x hx => by
      have := hall _ (List.mem_map.mpr ⟨x, hx, rfl⟩)
      omega
    obtain ⟨_, _, key⟩ := graphNum W Sm
    have hg : Ks578.graphPebblingNumber st.board.graph = some m' := (key _ (Nat.le_refl _)).trans (by rw [hfold])
    have f04 := (Fr.ex x3).trans f4
    exact ⟨by show 1 ≤ sizeLine; exact szs (by omega), fun y hy => r.ok ((smallO_of Sm _).trans (by rw [hg]; rfl)) (f04.trans (Fr.ex (Ex.new hy))) (f04.dom _ hy) ((B4.weak fun x hx => .inl hx).ex (Ex.new hy)) one_ret⟩
/-! ### unsolvable -/
def sp_Board_unsolvable (P : Program) (w : World) (ad : Adr) : Sp := fun vs H Q E => ∃ (a : Addr) (t k : Nat) (st : State) (X : Addr → Prop), vs = [.ref a, .int t, .int k] ∧ BoardAt P w ad H a st X ∧
  (∀ H2 p, t < st.board.graph.vertexCount → Small st.board.graph → k ≤ 10 → Fr X H H2 → H p = none → BoardAt P w ad H2 a st X → TupsAt H2 p (unsB st.board.graph false t k) → (unsB st.board.graph false t k).length ≤ 28561 → Q (.ref p) H2) ∧
  ∀ H2 code, BadU st t k code → Fr X H H2 → BoardAt P w ad H2 a st X → Thrown ad code H2 E
theorem ok_Board_unsolvable (T : Txt K mg ad) : Ok P w K mg base (L2.CX P w) 18 ad.f_Board_unsolvable ["self", "target", "pebbles"] (sp_Board_unsolvable P w ad) := by
  obtain ⟨fd, F⟩ := T.F_Board_unsolvable
  obtain ⟨fd_Solved_unsolvable, G_Solved_unsolvable, B_Solved_unsolvable⟩ := ok_Solved_unsolvable (P := P) (w := w) (base := base) T
  obtain ⟨fd_Board_solver, G_Board_solver, B_Board_solver⟩ := ok_Board_solver (P := P) (w := w) (base := base) T
  obtain ⟨fd_refuse_if, G_refuse_if, B_refuse_if⟩ := ok_refuse_if (P := P) (w := w) (base := base) T
  obtain ⟨fd_Board_check_small, G_Board_check_small, B_Board_check_small⟩ := ok_Board_check_small (P := P) (w := w) (base := base) T
  obtain ⟨fd_Board_check, G_Board_check, B_Board_check⟩ := ok_Board_check (P := P) (w := w) (base := base) T
  refine ⟨fd, F.okX sc_Board_unsolvable (fun vs H Q E h => ?_) (fun cdv A outer s H vs Q E hr h => ?_), F.binds fun _ _ _ _ _ _ us hl => match us, hl with | [_, _, _], _ => rfl⟩
  · obtain ⟨_, _, _, _, _, rfl, _⟩ := h
    rfl
  have hu := hu_of hr
  refine ⟨_, (pss_cons (ps_expr (pe_meth (pv 0) T.cl_Board T.m_Board_check G_Board_check (hr.mono (by decide)) B_Board_check .nil (passes_call (takes_of rfl rfl rfl rfl) (fun _ _ _ _ z => z)) (by exact (pa_cons (pe_lst (by exact (pa_cons (pv 1) pa_nil))) pa_nil))))
      (pss_cons (ps_expr (pe_meth0 (pv 0) T.cl_Board T.m_Board_check_small G_Board_check_small (hr.mono (by decide)) B_Board_check_small .nil (passes_call (takes_of rfl rfl rfl rfl) (fun _ _ _ _ z => z))))
      (pss_cons (ps_expr (pe_call G_refuse_if (hr.mono (by decide)) (by rfl) T.g_refuse_if T.k_refuse_if B_refuse_if .nil (passes_call (takes_of rfl rfl rfl rfl) (fun _ _ _ _ z => z)) (by exact (pa_cons (pe_cmpR op_gt (pv 2) (pe_glob (v := .int (10)) rfl T.c_MOST_ASKED ⟨_, rfl⟩) (nomark _)) (pa_cons (pe_un un_neg pe_int) pa_nil)))))
      (pss_one (ps_ret (pe_meth (pe_meth (pv 0) T.cl_Board T.m_Board_solver G_Board_solver (hr.mono (by decide)) B_Board_solver .nil pass0 (by exact (pa_cons (pv 1) (pa_cons pe_bl pa_nil)))) T.cl_Solved T.m_Solved_unsolvable G_Solved_unsolvable (hr.mono (by decide)) B_Solved_unsolvable .nil pass0 (by exact (pa_cons (pv 2) pa_nil)))))))), ?_⟩
  obtain ⟨a, t, k, st, X, rfl, ⟨dx, e, p, er, so, ca, us, ss, ys, B⟩, q1, q2⟩ := h
  have W := B.ok.bd.wg
  refine ⟨_, rfl, a, dx, _, rfl, B.ins, rfl, _, rfl, by show 1 ≤ sizeLine; exact szs (by omega), fun l hl => ?_⟩
  have B1 := B.kx (KX.ex (Ex.new (o := .lst (nVs [t])) hl))
  refine ⟨a, l, st, X, [t], rfl, B1.at, upd_same, by show 1 ≤ 5; decide, fun hall H2 e2 => ?_, fun hex H2 e2 => ?_⟩
  rotate_left
  · obtain ⟨x, hx, hle⟩ := hex
    rw [List.mem_singleton.mp hx] at hle
    exact q2 H2 _ (.inl ⟨hle, rfl⟩) (Fr.ex ((Ex.new hl).trans e2)) (B1.kx (KX.ex e2)).at
  have ht : t < st.board.graph.vertexCount := hall t (by simp)
  have x2 : Ex H H2 := (Ex.new hl).trans e2
  have B2 := B.kx (KX.ex x2)
  refine ⟨_, rfl, a, dx, _, rfl, B2.ins, rfl, a, st, X, rfl, B2.at, fun Sm H3 x3 => ?_, fun code hb H3 x3 => q2 H3 code (.inr (.inl ⟨ht, hb⟩)) (Fr.ex (x2.trans x3)) (B2.kx (KX.ex x3)).at⟩
  have B3 := B2.kx (KX.ex x3)
  refine ⟨_, rfl, _, _, rfl, rfl, _, rfl, _, _, rfl, fun hc => ?_, fun hc => ?_⟩
  rotate_left
  · have hc := of_decide_eq_true hc
    exact q2 H3 _ (.inr (.inr ⟨ht, Sm, by omega, rfl⟩)) (Fr.ex (x2.trans x3)) B3.at
  have hc := of_decide_eq_false hc
  have hk : k ≤ 10 := by omega
  refine ⟨_, rfl, a, dx, _, rfl, B3.ins, rfl, _, rfl, a, st, X, t, false, rfl, B3.at, ht, fun H4 v kd f4 B4 => ?_⟩
  obtain ⟨Y, S4, back⟩ := B4.solved
  obtain ⟨dv, rws, as, Ks, S4x⟩ := id S4
  refine ⟨v, dv, _, rfl, S4x.ins, rfl, _, rfl, v, kd, st.board.graph, t, false, k, Y, rfl, W, S4, by omega, ht, fun H5 z k5 S5 hz hT hlen => ?_⟩
  obtain ⟨B5, f5⟩ := back H5 k5 S5
  have f3 := (Fr.ex (X := X) (x2.trans x3)).trans f4
  exact q1 H5 z ht Sm hk (f3.trans f5) (f3.dom _ hz) B5.at hT hlen
/-! ### unsolvable_at -/
def sp_Board_unsolvable_at (P : Program) (w : World) (ad : Adr) : Sp := fun vs H Q E => ∃ (a : Addr) (t k i : Nat) (st : State) (X : Addr → Prop), vs = [.ref a, .int t, .int k, .int i] ∧ BoardAt P w ad H a st X ∧ Res P w ad H a X (uatO st t k i) Q E
theorem ok_Board_unsolvable_at (T : Txt K mg ad) : Ok P w K mg base (L2.CX P w) 19 ad.f_Board_unsolvable_at ["self", "target", "pebbles", "index"] (sp_Board_unsolvable_at P w ad) := by
  obtain ⟨fd, F⟩ := T.F_Board_unsolvable_at
  obtain ⟨fd_refuse_if, G_refuse_if, B_refuse_if⟩ := ok_refuse_if (P := P) (w := w) (base := base) T
  obtain ⟨fd_Board_unsolvable, G_Board_unsolvable, B_Board_unsolvable⟩ := ok_Board_unsolvable (P := P) (w := w) (base := base) T
  refine ⟨fd, F.okX sc_Board_unsolvable_at (fun vs H Q E h => ?_) (fun cdv A outer s H vs Q E hr h => ?_), F.binds fun _ _ _ _ _ _ us hl => match us, hl with | [_, _, _, _], _ => rfl⟩
  · obtain ⟨_, _, _, _, _, _, rfl, _⟩ := h
    rfl
  have hu := hu_of hr
  refine ⟨_, (pss_cons (ps_set (i := 4) sc_Board_unsolvable_at.nd rfl (by first | exact Or.inl rfl | exact Or.inr rfl) (pe_meth (pv 0) T.cl_Board T.m_Board_unsolvable G_Board_unsolvable (hr.mono (by decide)) B_Board_unsolvable .nil (passes_call (takes_of rfl rfl rfl rfl) (fun _ _ _ _ z => z)) (by exact (pa_cons (pv 1) (pa_cons (pv 2) pa_nil)))))
      (pss_cons (ps_expr (pe_call G_refuse_if (hr.mono (by decide)) (by rfl) T.g_refuse_if T.k_refuse_if B_refuse_if .nil (passes_call (takes_of rfl rfl rfl rfl) (fun _ _ _ _ z => z)) (by exact (pa_cons (pe_cmpR op_ge (pv 3) (pe_callB call_len_seq (by rfl) T.n_len (by decide +kernel) (by exact (pa_cons (pv 4) pa_nil))) (nomark _)) (pa_cons (pe_un un_neg pe_int) pa_nil)))))
      (pss_one (ps_ret (pe_op op_cat (pe_lst (by exact (pa_cons (pe_fld (pv 0) rfl) pa_nil))) (pe_callTy call_list_of (by rfl) T.n_list (by decide +kernel) (by exact (pa_cons (pe_ix ix_list (pv 4) (pv 3) (fun _ _ => rfl)) pa_nil)))))))), ?_⟩
  obtain ⟨a, t, k, i, st, X, rfl, ⟨dx, e, p, er, so, ca, us, ss, ys, B⟩, r⟩ := h
  refine ⟨_, rfl, a, dx, _, rfl, B.ins, rfl, _, rfl, _, rfl, a, t, k, st, X, rfl, B.at, fun H2 z ht Sm hk f2 hz ⟨dx2, e2, p2, er2, so2, ca2, us2, ss2, ys2, B2⟩ ⟨zs, hzs, hzP⟩ hlen => ?_, fun H2 code hb f2 B2 => r.no ((badU hb).2 i) f2 B2⟩
  have hzl := Paired.length hzP
  have ho : uatO st t k i = (match (unsB st.board.graph false t k)[i]? with
    | none => (st, Ks577.number (-2))
    | some c => (st, Ks577.listResult c)) := (if_neg (by omega)).trans ((smallO_of Sm _).trans (if_neg (by omega)))
  refine ⟨_, rfl, _, rfl, z, _, rfl, .inl (sl_of' hzs), _, _, rfl, rfl, _, rfl, _, _, rfl, fun hc => ?_, fun hc => ?_⟩
  rotate_left
  · have hc := of_decide_eq_true hc
    rw [aref_len, hzl] at hc
    rw [List.getElem?_eq_none_iff.mpr (by omega)] at ho
    exact r.no ho f2 B2.at
  have hc := of_decide_eq_false hc
  rw [aref_len, hzl] at hc
  have hil : i < (unsB st.board.graph false t k).length := by omega
  have hget := List.getElem?_eq_getElem hil
  obtain ⟨u, hu, huT⟩ := paired_of hzP hget
  have hmem : (unsB st.board.graph false t k)[i] ∈ unsB st.board.graph false t k := List.getElem_mem hil
  generalize (unsB st.board.graph false t k)[i] = c at hget huT hmem
  rw [hget] at ho
  have hcl : c.length = st.board.graph.vertexCount := (conf_mem.mp (List.mem_filter.mp hmem).1).1
  have hn5 := B.ok.bd.wg.few
  refine ⟨_, rfl, a, _, dx2, _, _, rfl, B2.ins, T.cl_Board, T.na_Board_many, rfl, by show 1 ≤ sizeLine; exact szs (by omega), fun l hl => ?_⟩
  have x3 : Ex H2 _ := Ex.new (o := .lst [nV st.board.graph.vertexCount]) hl
  refine ⟨_, rfl, _, rfl, z, _, _, _, rfl, rfl, sl_of' (x3 _ _ hzs), atI_nat (aref_get hu), u, _, rfl, .inr (st_of' (x3 _ _ huT)), fun l2 hl2 => ?_⟩
  have x4 := x3.trans (Ex.new (o := .lst (nVs c)) hl2)
  refine ⟨l, l2, _, _, rfl, rfl, (Ex.new hl2) _ _ upd_same, upd_same, by rw [nVs_len]; show 1 + _ ≤ sizeLine; exact szs (by omega), fun y hy => ?_⟩
  have x5 := x4.trans (Ex.new (o := .lst ([nV st.board.graph.vertexCount] ++ nVs c)) hy)
  refine r.ok ho (f2.trans (Fr.ex x5)) (f2.dom _ (fresh_back x4 hy)) (B2.kx (KX.ex x5)).at ?_
  show upd _ y _ y = _
  rw [upd_same, hcl]
  show _ = some (HO.lst (V.int _ :: (c.map Int.ofNat).map V.int))
  rw [List.map_map]
  rfl
/-! ### is_solvable -/
def sp_Board_is_solvable (P : Program) (w : World) (ad : Adr) : Sp := fun vs H Q _ => ∃ (a pa : Addr) (c : List Nat) (st : State) (X : Addr → Prop), vs = [.ref a, .ref pa] ∧ BoardAt P w ad H a st X ∧ TupOf H pa c ∧ c.length = st.board.graph.vertexCount ∧ c.sum ≤ 12 ∧
  ∀ H2, Fr X H H2 → BoardAt P w ad H2 a st X → Q (.bl (Ks579.isSolvable st.board.graph c)) H2
theorem ok_Board_is_solvable (T : Txt K mg ad) : Ok P w K mg base CX0 17 ad.f_Board_is_solvable ["self", "pebbles"] (sp_Board_is_solvable P w ad) := by
  obtain ⟨fd, F⟩ := T.F_Board_is_solvable
  obtain ⟨fd_Solved_is_solved, G_Solved_is_solved, B_Solved_is_solved⟩ := ok_Solved_is_solved (P := P) (w := w) (base := base) T
  obtain ⟨fd_Board_solver, G_Board_solver, B_Board_solver⟩ := ok_Board_solver (P := P) (w := w) (base := base) T
  refine ⟨fd, F.ok sc_Board_is_solvable (fun vs H Q E h => ?_) (fun cdv A outer s H vs Q E hr h => ?_), F.binds fun _ _ _ _ _ _ us hl => match us, hl with | [_, _], _ => rfl⟩
  · obtain ⟨_, _, _, _, _, rfl, _⟩ := h
    rfl
  have hu := hu_of hr
  refine ⟨_, (pss_one (ps_ret (pe_callB (cr_all rfl) (by rfl) T.n_all (by decide +kernel) (by exact (pa_cons (by exact (pe_lc (own := [("vertex", 2)]) rfl sc_Board_is_solvable.nd (pi_range1 (by rfl) T.n_range (by exact (pa_cons (pe_fld (pv 0) rfl) pa_nil))) (blkOk_by (own := [("vertex", 2)]) (N := N_Board_is_solvable) (sc := defScope s_Board_is_solvable) (by decide +kernel)) (fun _ _ _ _ _ => (pg_name (i := 2) sc_Board_is_solvable.nd rfl (by first | exact Or.inl rfl | exact Or.inr rfl))) (fun _ _ _ _ _ => pts_nil) (fun _ _ _ _ _ => (pe_meth (pe_meth (pv 0) T.cl_Board T.m_Board_solver G_Board_solver (hr.mono (by decide)) B_Board_solver .nil pass0 (by exact (pa_cons (pv 2) (pa_cons pe_bl pa_nil)))) T.cl_Solved T.m_Solved_is_solved G_Solved_is_solved (hr.mono (by decide)) B_Solved_is_solved .nil pass0 (by exact (pa_cons (pv 1) pa_nil)))))) pa_nil))))), ?_⟩
  obtain ⟨a, pa, c, st, X, rfl, ⟨dx, e, p, er, so, ca, us, ss, ys, B⟩, hpa, hcl, hcs, q⟩ := h
  have W := B.ok.bd.wg
  have hn5 := W.few
  have hpa : H pa = some (.tup (nVs c)) := hpa
  refine ⟨_, rfl, a, _, dx, _, _, rfl, B.ins, T.cl_Board, T.na_Board_many, rfl, st.board.graph.vertexCount, rfl, by omega, by omega, fun D hD => ?_⟩
  refine lc_range (lo := 0) (n := st.board.graph.vertexCount) (fun i H4 => Fr X H H4 ∧ BoardAt P w ad H4 a st (fun x => X x ∨ x = D) ∧ H4 D = some (.lst (((List.range i).map fun v => solv st.board.graph false v c).map V.bl)))
    ⟨Fr.ex (Ex.new hD), B.at.fresh hD, upd_same⟩ ?_ ?_
  · rintro i H4 hi ⟨f4, ⟨dx4, e4, p4, er4, so4, ca4, us4, ss4, ys4, B4⟩, hD4⟩
    rw [Int.zero_add]
    refine ⟨rfl, _, rfl, a, dx4, _, rfl, B4.ins, rfl, _, rfl, a, st, _, i, false, rfl, B4.at, hi, fun H5 v kd f5 B5 => ?_⟩
    obtain ⟨Y, S5, back⟩ := B5.solved
    obtain ⟨dv, rws, as, Ks, S5x⟩ := id S5
    have hpa5 : TupOf H5 pa c := f5.tup (f4.tup hpa)
    refine ⟨v, dv, _, rfl, S5x.ins, rfl, _, rfl, v, kd, pa, st.board.graph, i, false, c, Y, rfl, W, S5, hpa5, hcl, hcs, by omega, hi, fun H6 k6 S6 => ?_⟩
    obtain ⟨B6, f6⟩ := back H6 k6 S6
    have f46 := f5.trans f6
    have hD6 := f46.lst hD4 (.inr rfl)
    refine ⟨_, hD6, by rw [List.length_map, List.length_map, List.length_range]; exact szl (by omega), (f4.trans (f46.weak fun x hx => .inl hx)).mut hD, B6.at.mut hD6 (.inr rfl), ?_⟩
    rw [upd_same, List.range_succ, List.map_append, List.map_append, List.map_singleton]
    rfl
  · rintro H4 ⟨f4, B4, hD4⟩
    refine ⟨D, _, rfl, sl_of' hD4, ?_⟩
    have := q H4 f4 (B4.weak fun x hx => .inl hx)
    rw [isSolvable_eq W hcl] at this
    rw [List.all_map]
    exact this
/-! ### cover -/
def sp_Board_cover (P : Program) (w : World) (ad : Adr) : Sp := fun vs H Q E => ∃ (a : Addr) (st : State) (X : Addr → Prop), vs = [.ref a] ∧ BoardAt P w ad H a st X ∧ Res P w ad H a X (Ks582.perform st .coverNumber) Q E
theorem ok_Board_cover (T : Txt K mg ad) : Ok P w K mg base (L2.CX P w) 5 ad.f_Board_cover ["self"] (sp_Board_cover P w ad) := by
  obtain ⟨fd, F⟩ := T.F_Board_cover
  obtain ⟨fd_cover_number, G_cover_number, B_cover_number⟩ := ok_cover_number (P := P) (w := w) (base := base) T
  obtain ⟨fd_Board_connected_diameter, G_Board_connected_diameter, B_Board_connected_diameter⟩ := ok_Board_connected_diameter (P := P) (w := w) (base := base) T
  refine ⟨fd, F.okX sc_Board_cover (fun vs H Q E h => ?_) (fun cdv A outer s H vs Q E hr h => ?_), F.binds fun _ _ _ _ _ _ us hl => match us, hl with | [_], _ => rfl⟩
  · obtain ⟨_, _, _, rfl, _⟩ := h
    rfl
  have hu := hu_of hr
  refine ⟨_, (pss_cons (ps_expr (pe_meth0 (pv 0) T.cl_Board T.m_Board_connected_diameter G_Board_connected_diameter (hr.mono (by decide)) B_Board_connected_diameter .nil (passes_call (takes_of rfl rfl rfl rfl) (fun _ _ _ _ z => z))))
      (pss_one (ps_ret (pe_lst (by exact (pa_cons (pe_call G_cover_number (hr.mono (by decide)) (by rfl) T.g_cover_number T.k_cover_number B_cover_number .nil pass0 (by exact (pa_cons (pe_fld (pv 0) rfl) (pa_cons (pe_fld (pv 0) rfl) pa_nil)))) pa_nil)))))), ?_⟩
  obtain ⟨a, st, X, rfl, ⟨dx, e, p, er, so, ca, us, ss, ys, B⟩, r⟩ := h
  refine ⟨_, rfl, a, dx, _, rfl, B.ins, rfl, a, st, X, rfl, B.at, fun hcn H2 x2 => ?_, fun hcn H2 x2 => r.no (if_pos hcn) (Fr.ex x2) (B.kx (KX.ex x2)).at⟩
  have B2 := B.kx (KX.ex x2)
  refine ⟨_, rfl, a, _, dx, _, _, rfl, B2.ins, T.cl_Board, T.na_Board_many, rfl, _, rfl, a, _, dx, _, _, rfl, B2.ins, T.cl_Board, T.na_Board_edges, rfl, e, st.board.graph, rfl, B.ok.bd.wg, B2.edg, by simpa using hcn, fun H3 x3 => ?_⟩
  have x03 := x2.trans x3
  exact ⟨by show 1 ≤ sizeLine; exact szs (by omega), fun y hy => r.ok (if_neg hcn) (Fr.ex (x03.trans (Ex.new hy))) (fresh_back x03 hy) (B.kx (KX.ex (x03.trans (Ex.new hy)))).at one_ret⟩
end PBW

namespace PB
open Ks577 (pebblesAt isAdjacent Graph)
open Ks582 (State)
theorem foldl_min_le : ∀ (l : List Nat) (a : Nat), l.foldl min a ≤ a
  | [], a => Nat.le_refl a
  | x :: r, a => Nat.le_trans (foldl_min_le r (min a x)) (Nat.min_le_left a x)
theorem path_le (g : Graph) (t : Nat) : ∀ (fuel : Nat) (vis : List Nat), ∀ x ∈ Ks578.pathLengths g t fuel vis, x ≤ g.vertexCount
  | 0, vis, x, hx => by cases hx
  | fuel + 1, vis, x, hx => by
    unfold Ks578.pathLengths at hx
    simp only at hx
    split at hx
    · cases hx
    · rcases List.mem_cons.mp hx with rfl | hx
      · exact foldl_min_le _ _
      · exact path_le g t fuel _ x hx
theorem sum_pow (ls : List Nat) : ((ls.map fun l => ((2 ^ l : Nat) : Int) - 1).sum = (((ls.map fun l => 2 ^ l).sum : Nat) : Int) - ls.length) ∧ ls.length ≤ (ls.map fun l => 2 ^ l).sum := by
  induction ls with
  | nil => exact ⟨rfl, Nat.le_refl _⟩
  | cons a r ih =>
    have : 0 < 2 ^ a := Nat.pow_pos (by decide)
    rw [List.map_cons, List.map_cons, List.sum_cons, List.sum_cons, List.length_cons, ih.1]
    constructor
    · omega
    · have := ih.2
      omega
theorem tree_value (g : Graph) (t : Nat) : (1 : Int) + ((Ks578.pathLengths g t g.vertexCount [t]).map fun l => ((2 ^ l : Nat) : Int) - 1).sum = ((Ks578.treeFormula g t : Nat) : Int) := by
  obtain ⟨h1, h2⟩ := sum_pow (Ks578.pathLengths g t g.vertexCount [t])
  unfold Ks578.treeFormula
  rw [h1]
  omega
end PB
namespace PBW
open PySem PySem.Spec PyProof.Rows L2 Evl PB
open Ks577 (Graph pebblesAt isAdjacent)
open Ks582 (State)
variable {P : Program} {w : World} {K : PySem.W.Frag} {mg : Str → Option Value} {base : Heap} {ad : Adr}
/-! ### path_partition -/
def sp_Board_path_partition (P : Program) (w : World) (ad : Adr) : Sp := fun vs H Q E => ∃ (a : Addr) (t : Nat) (st : State) (X : Addr → Prop), vs = [.ref a, .int t] ∧ BoardAt P w ad H a st X ∧ Res P w ad H a X (Ks582.perform st (.pathPartition t)) Q E
theorem ok_Board_path_partition (T : Txt K mg ad) : Ok P w K mg base (L2.CX P w) 5 ad.f_Board_path_partition ["self", "target"] (sp_Board_path_partition P w ad) := by
  obtain ⟨fd, F⟩ := T.F_Board_path_partition
  obtain ⟨fd_two_to, G_two_to, B_two_to⟩ := ok_two_to (P := P) (w := w) (base := base) T
  obtain ⟨fd_path_lengths, G_path_lengths, B_path_lengths⟩ := ok_path_lengths (P := P) (w := w) (base := base) T
  obtain ⟨fd_refuse_if, G_refuse_if, B_refuse_if⟩ := ok_refuse_if (P := P) (w := w) (base := base) T
  obtain ⟨fd_is_tree, G_is_tree, B_is_tree⟩ := ok_is_tree (P := P) (w := w) (base := base) T
  obtain ⟨fd_Board_check, G_Board_check, B_Board_check⟩ := ok_Board_check (P := P) (w := w) (base := base) T
  refine ⟨fd, F.okX sc_Board_path_partition (fun vs H Q E h => ?_) (fun cdv A outer s H vs Q E hr h => ?_), F.binds fun _ _ _ _ _ _ us hl => match us, hl with | [_, _], _ => rfl⟩
  · obtain ⟨_, _, _, _, rfl, _⟩ := h
    rfl
  have hu := hu_of hr
  refine ⟨_, (pss_cons (ps_expr (pe_meth (pv 0) T.cl_Board T.m_Board_check G_Board_check (hr.mono (by decide)) B_Board_check .nil (passes_call (takes_of rfl rfl rfl rfl) (fun _ _ _ _ z => z)) (by exact (pa_cons (pe_lst (by exact (pa_cons (pv 1) pa_nil))) pa_nil))))
      (pss_cons (ps_expr (pe_call G_refuse_if (hr.mono (by decide)) (by rfl) T.g_refuse_if T.k_refuse_if B_refuse_if .nil (passes_call (takes_of rfl rfl rfl rfl) (fun _ _ _ _ z => z)) (by exact (pa_cons (pe_not (pe_call G_is_tree (hr.mono (by decide)) (by rfl) T.g_is_tree T.k_is_tree B_is_tree .nil pass0 (by exact (pa_cons (pe_fld (pv 0) rfl) (pa_cons (pe_fld (pv 0) rfl) pa_nil))))) (pa_cons (pe_un un_neg pe_int) pa_nil)))))
      (pss_cons (ps_set (i := 2) sc_Board_path_partition.nd rfl (by first | exact Or.inl rfl | exact Or.inr rfl) (pe_call G_path_lengths (hr.mono (by decide)) (by rfl) T.g_path_lengths T.k_path_lengths B_path_lengths .nil pass0 (by exact (pa_cons (pe_fld (pv 0) rfl) (pa_cons (pe_fld (pv 0) rfl) (pa_cons (pv 1) pa_nil))))))
      (pss_one (ps_ret (pe_op op_cat (pe_lst (by exact (pa_cons (pe_op op_add pe_int (pe_callB (cr_sum rfl) (by rfl) T.n_sum (by decide +kernel) (by exact (pa_cons (by exact (pe_lc (own := [("length", 3)]) rfl sc_Board_path_partition.nd (pi_list (pv 2)) (blkOk_by (own := [("length", 3)]) (N := N_Board_path_partition) (sc := defScope s_Board_path_partition) (by decide +kernel)) (fun _ _ _ _ _ => (pg_name (i := 3) sc_Board_path_partition.nd rfl (by first | exact Or.inl rfl | exact Or.inr rfl))) (fun _ _ _ _ _ => pts_nil) (fun _ _ _ _ _ => (pe_op op_sub (pe_call G_two_to (hr.mono (by decide)) (by rfl) T.g_two_to T.k_two_to B_two_to .nil pass0 (by exact (pa_cons (pv 3) pa_nil))) pe_int)))) pa_nil)))) pa_nil))) (pv 2))))))), ?_⟩
  obtain ⟨a, t, st, X, rfl, ⟨dx, e, p, er, so, ca, us, ss, ys, B⟩, r⟩ := h
  have W := B.ok.bd.wg
  have hn5 := W.few
  refine ⟨_, rfl, a, dx, _, rfl, B.ins, rfl, _, rfl, by show 1 ≤ sizeLine; exact szs (by omega), fun l hl => ?_⟩
  have B1 := B.kx (KX.ex (Ex.new (o := .lst (nVs [t])) hl))
  refine ⟨a, l, st, X, [t], rfl, B1.at, upd_same, by show 1 ≤ 5; decide, fun hall H2 e2 => ?_, fun hex H2 e2 => ?_⟩
  rotate_left
  · obtain ⟨x, hx, hle⟩ := hex
    rw [List.mem_singleton.mp hx] at hle
    exact r.no (if_pos hle) (Fr.ex ((Ex.new hl).trans e2)) (B1.kx (KX.ex e2)).at
  have ht : t < st.board.graph.vertexCount := hall t (by simp)
  have x2 : Ex H H2 := (Ex.new hl).trans e2
  have B2 := B.kx (KX.ex x2)
  refine ⟨_, rfl, a, _, dx, _, _, rfl, B2.ins, T.cl_Board, T.na_Board_many, rfl, _, rfl, a, _, dx, _, _, rfl, B2.ins, T.cl_Board, T.na_Board_edges, rfl, e, st.board.graph, rfl, W, B2.edg, fun H3 x3 => ?_⟩
  have x03 := x2.trans x3
  have B3 := B.kx (KX.ex x03)
  refine ⟨_, rfl, _, rfl, _, _, rfl, fun hc => ?_, fun hc => ?_⟩
  rotate_left
  · have hc : Ks578.isTree st.board.graph = false := by simpa using hc
    exact r.no ((if_neg (by omega)).trans (if_pos hc)) (Fr.ex x03) B3.at
  have hc : Ks578.isTree st.board.graph = true := by simpa using hc
  refine ⟨_, rfl, a, _, dx, _, _, rfl, B3.ins, T.cl_Board, T.na_Board_many, rfl, _, rfl, a, _, dx, _, _, rfl, B3.ins, T.cl_Board, T.na_Board_edges, rfl, _, rfl, e, st.board.graph, t, _, rfl, W, B3.edg, ht, path_ok W hc ht, fun q H4 hq x4 ⟨hL, hlen⟩ => ?_⟩
  have x04 := x03.trans x4
  have htv := tree_value st.board.graph t
  have hple := path_le st.board.graph t st.board.graph.vertexCount [t]
  have hperf : Ks582.perform st (.pathPartition t) = (st, ⟨((Ks578.treeFormula st.board.graph t : Nat) : Int), (Ks578.pathLengths st.board.graph t st.board.graph.vertexCount [t]).map Int.ofNat⟩) := (if_neg (by omega)).trans (if_neg (by rw [hc]; exact fun z => nomatch z))
  generalize Ks578.pathLengths st.board.graph t st.board.graph.vertexCount [t] = ls at hL hlen htv hple hperf
  have hL : H4 q = some (.lst (nVs ls)) := hL
  refine ⟨_, rfl, q, rfl, ⟨_, sl_of' hL⟩, fun D hD => ?_⟩
  refine lc_vals (a := q) (xs := nVs ls) (ls.map fun l => V.int (((2 ^ l : Nat) : Int) - 1)) (by rw [List.length_map, nVs_len]) (sl_of' hL) hD (by rw [nVs_len]; omega) ?_ ?_
  · intro j x c H5 Qy hj hc e5 hq Qn
    obtain ⟨y, hy, rfl⟩ := nVs_of hj
    rw [List.getElem?_map, hy] at hc
    obtain rfl := Option.some.inj hc
    have := hple y (List.mem_of_getElem? hy)
    exact ⟨rfl, _, rfl, y, rfl, by omega, _, _, rfl, rfl, hq H5 (Ex.refl _)⟩
  · intro H5 x5 h5
    have x05 := x04.trans x5
    refine ⟨D, ls.map fun l => ((2 ^ l : Nat) : Int) - 1, rfl, by rw [List.map_map]; exact sl_of' h5, _, _, rfl, rfl, by show 1 ≤ sizeLine; exact szs (by omega), fun l2 hl2 => ?_⟩
    have x6 : Ex H5 (upd H5 l2 (.lst [.int (1 + (ls.map fun l => ((2 ^ l : Nat) : Int) - 1).sum)])) := Ex.new hl2
    refine ⟨_, rfl, l2, q, _, _, rfl, rfl, upd_same, x6 _ _ (x5 _ _ hL), by rw [nVs_len]; show 1 + _ ≤ sizeLine; exact szs (by omega), fun y hy => ?_⟩
    have x06 := x05.trans x6
    have x07 := x06.trans (Ex.new (o := .lst ([.int (1 + (ls.map fun l => ((2 ^ l : Nat) : Int) - 1).sum)] ++ nVs ls)) hy)
    refine r.ok hperf (Fr.ex x07) (fresh_back x06 hy) (B.kx (KX.ex x07)).at ?_
    show upd _ y _ y = _
    rw [upd_same, List.map_cons, List.map_map, ← htv]
    rfl
/-! ### optimal -/
def sp_Board_optimal (P : Program) (w : World) (ad : Adr) : Sp := fun vs H Q E => ∃ (a : Addr) (st : State) (X : Addr → Prop), vs = [.ref a] ∧ BoardAt P w ad H a st X ∧ Res1 P w ad H a X (Ks582.perform st .optimalConfiguration) Q
theorem opt_zero {g : Graph} (W : WG g) : (Ks578.configurations g.vertexCount 0).find? (Ks579.isSolvable g) = none := by
  rw [List.find?_eq_none]
  intro c hc h
  obtain ⟨h1, h2⟩ := conf_mem.mp hc
  rw [isSolvable_eq W h1, List.all_eq_true] at h
  have := h 0 (List.mem_range.mpr W.pos)
  rw [solv_iff W h1] at this
  obtain ⟨d, hd, h3⟩ := this
  have h4 := Rch_sum W h1 hd
  have h5 := getD_le_sum d 0
  unfold pebblesAt at h3
  omega
theorem opt_all {g : Graph} (W : WG g) : ∃ c ∈ Ks578.configurations g.vertexCount g.vertexCount, Ks579.isSolvable g c = true := by
  have hl : (List.replicate g.vertexCount 1).length = g.vertexCount := List.length_replicate
  refine ⟨List.replicate g.vertexCount 1, conf_mem.mpr ⟨hl, by rw [List.sum_replicate_nat]; omega⟩, ?_⟩
  rw [isSolvable_eq W hl, List.all_eq_true]
  intro v hv
  have hv := List.mem_range.mp hv
  rw [solv_iff W hl]
  refine ⟨_, Rch.refl, ?_⟩
  unfold pebblesAt
  rw [List.getD_eq_getElem?_getD, List.getElem?_replicate, if_pos hv]
  exact Nat.le_refl _
theorem find_none_take {α : Type} {p : α → Bool} {l : List α} {j : Nat} {x : α} (h : (l.take j).find? p = none) (hx : l[j]? = some x) (hp : p x = false) : (l.take (j + 1)).find? p = none := by
  rw [take_snoc hx, List.find?_append, h]
  simp [hp]
theorem find_at {α : Type} {p : α → Bool} {l : List α} {j : Nat} {x : α} (h : (l.take j).find? p = none) (hx : l[j]? = some x) (hp : p x = true) : l.find? p = some x := by
  obtain ⟨hj, hxe⟩ := List.getElem?_eq_some_iff.mp hx
  have e : l.take j ++ x :: l.drop (j + 1) = l := by rw [← hxe, ← List.drop_eq_getElem_cons hj, List.take_append_drop]
  have h2 : (l.take j ++ x :: l.drop (j + 1)).find? p = some x := by
    rw [List.find?_append, h, List.find?_cons, hp]
    rfl
  rwa [e] at h2
theorem opt_at {g : Graph} {k : Nat} {c : List Nat} (hk : k ≤ g.vertexCount) (h : ∀ j < k, (Ks578.configurations g.vertexCount j).find? (Ks579.isSolvable g) = none) (hc : (Ks578.configurations g.vertexCount k).find? (Ks579.isSolvable g) = some c) : Ks579.optimalConfiguration g = some (k, c) := by
  unfold Ks579.optimalConfiguration
  have e : List.range (g.vertexCount + 1) = List.range k ++ k :: (List.range' (k + 1) (g.vertexCount - k)) := by
    rw [List.range_eq_range', List.range_eq_range', show k :: List.range' (k + 1) (g.vertexCount - k) = List.range' k (g.vertexCount - k + 1) by rw [List.range'_succ]]
    have := List.range'_append (s := 0) (m := k) (n := g.vertexCount - k + 1) (step := 1)
    rw [Nat.one_mul, Nat.zero_add] at this
    rw [this]
    congr 1
    omega
  rw [e, List.findSome?_append, List.findSome?_eq_none_iff.mpr fun j hj => by rw [h j (List.mem_range.mp hj)]; rfl, List.findSome?_cons, hc]
  rfl
theorem ok_Board_optimal (T : Txt K mg ad) : Ok P w K mg base CX0 18 ad.f_Board_optimal ["self"] (sp_Board_optimal P w ad) := by
  obtain ⟨fd, F⟩ := T.F_Board_optimal
  obtain ⟨fd_configurations, G_configurations, B_configurations⟩ := ok_configurations (P := P) (w := w) (base := base) T
  obtain ⟨fd_Board_is_solvable, G_Board_is_solvable, B_Board_is_solvable⟩ := ok_Board_is_solvable (P := P) (w := w) (base := base) T
  refine ⟨fd, F.ok sc_Board_optimal (fun vs H Q E h => ?_) (fun cdv A outer s H vs Q E hr h => ?_), F.binds fun _ _ _ _ _ _ us hl => match us, hl with | [_], _ => rfl⟩
  · obtain ⟨_, _, _, rfl, _⟩ := h
    rfl
  have hu := hu_of hr
  refine ⟨_, (pss_cons (ps_for PassesOwn.never rfl (pi_range2 (by rfl) T.n_range (by exact (pa_cons pe_int (pa_cons (pe_op op_add (pe_fld (pv 0) rfl) pe_int) pa_nil)))) (pg_name (i := 1) sc_Board_optimal.nd rfl (by first | exact Or.inl rfl | exact Or.inr rfl)) (pss_one (ps_for PassesOwn.never rfl (pi_list (pe_call G_configurations (hr.mono (by decide)) (by rfl) T.g_configurations T.k_configurations B_configurations .nil pass0 (by exact (pa_cons (pe_fld (pv 0) rfl) (pa_cons (pv 1) pa_nil))))) (pg_name (i := 2) sc_Board_optimal.nd rfl (by first | exact Or.inl rfl | exact Or.inr rfl)) (pss_one (ps_if (pt_val (pe_meth (pv 0) T.cl_Board T.m_Board_is_solvable G_Board_is_solvable (hr.mono (by decide)) B_Board_is_solvable .nil pass0 (by exact (pa_cons (pv 2) pa_nil)))) (pss_one (ps_ret (pe_op op_cat (pe_lst (by exact (pa_cons (pv 1) pa_nil))) (pe_callTy call_list_of (by rfl) T.n_list (by decide +kernel) (by exact (pa_cons (pv 2) pa_nil)))))) pss_nil)))))
      (pss_one (ps_ret (pe_lst (by exact (pa_cons pe_int pa_nil)))))), ?_⟩
  obtain ⟨a, st, X, rfl, ⟨dx, e, p, er, so, ca, us, ss, ys, B⟩, r⟩ := h
  have W := B.ok.bd.wg
  have hn5 := W.few
  refine ⟨_, rfl, a, _, dx, _, _, rfl, B.ins, T.cl_Board, T.na_Board_many, rfl, _, _, rfl, rfl, 1, _, rfl, ⟨by omega, by omega, by omega, by omega⟩, ?_⟩
  have hN : (((st.board.graph.vertexCount : Nat) : Int) + 1 - 1).toNat = st.board.graph.vertexCount := by omega
  rw [hN]
  refine for_range (lo := 1) (n := st.board.graph.vertexCount) (fun i σ H' => ∃ v1 v2 : Option V, σ = [some (.ref a), v1, v2] ∧ Fr X H H' ∧ BoardAt P w ad H' a st X ∧ ∀ j < i + 1, (Ks578.configurations st.board.graph.vertexCount j).find? (Ks579.isSolvable st.board.graph) = none)
    ⟨none, none, rfl, Fr.refl _ _, B.at, fun j hj => by rw [show j = 0 by omega]; exact opt_zero W⟩ ?_ ?_
  · rintro i σ H' hi ⟨v1, v2, rfl, f1, ⟨dx1, e1, p1, er1, so1, ca1, us1, ss1, ys1, B1⟩, hno⟩
    have hi1 : (1 : Int) + (i : Int) = ((i + 1 : Nat) : Int) := by omega
    rw [hi1]
    refine ⟨_, rfl, a, _, dx1, _, _, rfl, B1.ins, T.cl_Board, T.na_Board_many, rfl, _, rfl, st.board.graph.vertexCount, i + 1, rfl, W.pos, hn5, by omega, fun z H2 hz x2 ⟨⟨zs, hzs, hzP⟩, hlen⟩ => ?_⟩
    have B2 := B1.at.freshEx hz x2 hzs
    have hzl := Paired.length hzP
    refine ⟨z, rfl, ⟨_, sl_of' hzs⟩, ?_⟩
    refine for_list (a := z) (xs := ARefs zs) (fun j σ H3 => ∃ v2 : Option V, σ = [some (.ref a), some (.int ((i + 1 : Nat) : Int)), v2] ∧ Fr (fun x => X x ∨ x = z) H2 H3 ∧ BoardAt P w ad H3 a st (fun x => X x ∨ x = z) ∧ ((Ks578.configurations st.board.graph.vertexCount (i + 1)).take j).find? (Ks579.isSolvable st.board.graph) = none)
      ⟨v2, rfl, Fr.refl _ _, B2, rfl⟩ (fun j σ H3 _ y => let ⟨_, _, f, _⟩ := y; sl_of' (f.lst hzs (.inr rfl))) ?_ ?_
    · rintro j y σ H3 hj ⟨v2, rfl, f3, ⟨dx3, e3, p3, er3, so3, ca3, us3, ss3, ys3, B3⟩, hno2⟩
      obtain ⟨u, hu, rfl⟩ := aref_of hj
      obtain ⟨c, hc, hcu⟩ := paired_at hzP hu
      have hcm := conf_mem.mp (List.mem_of_getElem? hc)
      have hcu3 : TupOf H3 u c := f3.tup hcu
      refine ⟨_, rfl, a, dx3, _, rfl, B3.ins, rfl, _, rfl, a, u, c, st, _, rfl, B3.at, hcu3, hcm.1, by omega, fun H4 f4 B4 => ⟨_, rfl, ?_⟩⟩
      have f34 := f3.trans f4
      cases hs : Ks579.isSolvable st.board.graph c with
      | false =>
        exact if_false_of rfl ⟨_, rfl, f34, B4, find_none_take hno2 hc hs⟩
      | true =>
        refine if_true_of rfl ?_
        have hcu4 : TupOf H4 u c := f4.tup hcu3
        have hfind := find_at hno2 hc hs
        have hopt := opt_at (k := i + 1) (by omega) hno hfind
        have hperf : Ks582.perform st .optimalConfiguration = (st, ⟨((i + 1 : Nat) : Int), c.map Int.ofNat⟩) := by
          show (match Ks579.optimalConfiguration st.board.graph with | none => (st, Ks582.number (-33)) | some (pebbles, c) => (st, { value := pebbles, rest := Ks582.integers c })) = _
          rw [hopt]
          rfl
        have f04 := f1.trans ((Fr.ex x2).trans (f34.weak fun x hx => .inl hx))
        refine ⟨_, rfl, by show 1 ≤ sizeLine; exact szs (by omega), fun l hl => ?_⟩
        have x5 : Ex H4 (upd H4 l (.lst [.int ((i + 1 : Nat) : Int)])) := Ex.new hl
        refine ⟨_, rfl, u, _, rfl, .inr (st_of' (x5 _ _ hcu4)), fun l2 hl2 => ?_⟩
        have x6 := x5.trans (Ex.new (o := .lst (nVs c)) hl2)
        refine ⟨l, l2, _, _, rfl, rfl, (Ex.new hl2) _ _ upd_same, upd_same, by rw [nVs_len]; show 1 + _ ≤ sizeLine; exact szs (by omega), fun y hy => ?_⟩
        have x7 := x6.trans (Ex.new (o := .lst ([.int ((i + 1 : Nat) : Int)] ++ nVs c)) hy)
        refine r.ok hperf (f04.trans (Fr.ex x7)) (f04.dom _ (fresh_back x6 hy)) ((B4.ex x7).weak fun x hx => .inl hx) ?_
        show upd _ y _ y = _
        rw [upd_same, List.map_cons, List.map_map]
        rfl
    · rintro σ H3 ⟨v2, rfl, f3, B3, hno2⟩
      rw [aref_len, hzl, List.take_length] at hno2
      refine ⟨_, _, rfl, f1.trans ((Fr.ex x2).trans (f3.weak fun x hx => .inl hx)), B3.weak (fun x hx => .inl hx), fun j hj => ?_⟩
      by_cases h : j = i + 1
      · rw [h]; exact hno2
      · exact hno j (by omega)
  · rintro σ H' ⟨v1, v2, rfl, f1, B1, hno⟩
    exfalso
    obtain ⟨c, hc, hs⟩ := opt_all W
    exact List.find?_eq_none.mp (hno st.board.graph.vertexCount (by omega)) c hc hs
end PBW

namespace PB
open Ks577 (pebblesAt isAdjacent Graph)
open Ks582 (State)
/-- the certificate's parent and weight of a vertex -/
def bcP (g : Graph) (t v : Nat) : Nat := if v = t ∨ (Ks577.distance g t v).isNone then v else ((List.range g.vertexCount).find? fun x => isAdjacent g v x && (Ks577.distance g t x).getD 0 + 1 == (Ks577.distance g t v).getD 0).getD v
def bcM (g : Graph) (t : Nat) : Nat := (List.range g.vertexCount).foldl (fun deepest u => max deepest ((Ks577.distance g t u).getD 0)) 0
def bcW (g : Graph) (t v : Nat) : Nat := if v = t ∨ (Ks577.distance g t v).isNone then 0 else 2 ^ (bcM g t - (Ks577.distance g t v).getD 0)
theorem bc_eq (g : Graph) (t : Nat) : Ks580.breadthFirstCertificate g t = ⟨(List.range g.vertexCount).map (bcP g t), (List.range g.vertexCount).map (bcW g t)⟩ := rfl
theorem far_test {g : Graph} (W : WG g) {t v : Nat} (ht : t < g.vertexCount) (hv : v < g.vertexCount) : 0 < distI g t v ↔ ¬ (v = t ∨ (Ks577.distance g t v).isNone) := by
  constructor
  · rintro h (rfl | h1)
    · rw [distI_self W hv] at h; omega
    · have : ¬ distI g t v ≠ -1 := fun z => by
        rw [distI_ne] at z
        rw [Option.isNone_iff_eq_none] at h1
        rw [h1] at z
        cases z
      omega
  · intro h
    have h1 : distI g t v ≠ -1 := by
      rw [distI_ne]
      cases z : Ks577.distance g t v with
      | none => exact absurd (.inr (by rw [z]; rfl)) h
      | some k => rfl
    have h2 := distI_ge (g := g) t v
    have h3 : distI g t v ≠ 0 := fun z => h (.inl (dist_zero W ht hv z))
    omega
theorem near_filter {g : Graph} (W : WG g) {t v : Nat} (ht : t < g.vertexCount) (hv : v < g.vertexCount) (h : 0 < distI g t v) :
    ∃ r, (nbrs g v).filter (fun x => decide (distI g t x = distI g t v - 1)) = bcP g t v :: r := by
  have L := distI_loc W ht
  have hn := (far_test W ht hv).mp h
  have hd : distI g t v ≠ -1 := by omega
  have hdv := distI_getD hd
  have hfil : (nbrs g v).filter (fun x => decide (distI g t x = distI g t v - 1)) = (List.range g.vertexCount).filter fun x => isAdjacent g v x && (Ks577.distance g t x).getD 0 + 1 == (Ks577.distance g t v).getD 0 := by
    unfold nbrs
    rw [List.filter_filter]
    refine List.filter_congr fun x hx => ?_
    cases ha : isAdjacent g v x with
    | false => rw [Bool.and_false, Bool.false_and]
    | true =>
      rw [Bool.and_true, Bool.true_and]
      have hx1 := (L.edge v x ha hd).1
      have hxv := distI_getD hx1
      rw [Bool.eq_iff_iff, decide_eq_true_eq, beq_iff_eq]
      omega
  rw [hfil]
  have hne : ((List.range g.vertexCount).filter fun x => isAdjacent g v x && (Ks577.distance g t x).getD 0 + 1 == (Ks577.distance g t v).getD 0) ≠ [] := by
    rw [← hfil]
    rcases L.back v hv hd with e | ⟨u, ha, h1, h2⟩
    · exact absurd (.inl e) hn
    · intro z
      have : u ∈ (nbrs g v).filter (fun x => decide (distI g t x = distI g t v - 1)) := List.mem_filter.mpr ⟨(mem_nbrs W).mpr (by rw [adj_symm]; exact ha), decide_eq_true (by omega)⟩
      rw [z] at this
      cases this
  obtain ⟨y, r, hy⟩ := List.exists_cons_of_ne_nil hne
  refine ⟨r, ?_⟩
  rw [hy]
  congr 1
  unfold bcP
  rw [if_neg hn]
  have hh := congrArg List.head? hy
  rw [List.head?_filter] at hh
  rw [hh]
  rfl
theorem bcM_eq {g : Graph} (W : WG g) {t : Nat} (ht : t < g.vertexCount) {m : Int} (hm : m ∈ (List.range g.vertexCount).map (distI g t)) (hall : ∀ y ∈ (List.range g.vertexCount).map (distI g t), y ≤ m) : m = (bcM g t : Nat) := by
  have h0 : 0 ≤ m := by
    have := hall 0 (List.mem_map.mpr ⟨t, List.mem_range.mpr ht, distI_self W ht⟩)
    exact this
  have hb : bcM g t = ((List.range g.vertexCount).map fun u => (Ks577.distance g t u).getD 0).foldl max 0 := by
    unfold bcM
    rw [List.foldl_map]
  obtain ⟨v, hv, hvm⟩ := List.mem_map.mp hm
  have hd := distI_getD (g := g) (u := t) (v := v) (by omega)
  have : ((List.range g.vertexCount).map fun u => (Ks577.distance g t u).getD 0).foldl max 0 = (Ks577.distance g t v).getD 0 := by
    refine foldl_max_eq (List.mem_map.mpr ⟨v, hv, rfl⟩) fun x hx => ?_
    obtain ⟨u, hu, rfl⟩ := List.mem_map.mp hx
    have h1 := hall _ (List.mem_map.mpr ⟨u, hu, rfl⟩)
    cases z : Ks577.distance g t u with
    | none => exact Nat.zero_le _
    | some k =>
      have : distI g t u = k := by unfold distI; rw [z]; rfl
      show k ≤ _
      omega
  rw [hb, this]
  omega
theorem bcM_ge {g : Graph} (W : WG g) {t v : Nat} (hv : v < g.vertexCount) : (Ks577.distance g t v).getD 0 ≤ bcM g t := by
  have hb : bcM g t = ((List.range g.vertexCount).map fun u => (Ks577.distance g t u).getD 0).foldl max 0 := by
    unfold bcM
    rw [List.foldl_map]
  rw [hb]
  exact (foldl_max_ge _ 0).2.1 _ (List.mem_map.mpr ⟨v, List.mem_range.mpr hv, rfl⟩)
theorem bcM_lt {g : Graph} (W : WG g) {t : Nat} (ht : t < g.vertexCount) : bcM g t < g.vertexCount := by
  have hb : bcM g t = ((List.range g.vertexCount).map fun u => (Ks577.distance g t u).getD 0).foldl max 0 := by
    unfold bcM
    rw [List.foldl_map]
  rw [hb]
  rcases (foldl_max_ge ((List.range g.vertexCount).map fun u => (Ks577.distance g t u).getD 0) 0).2.2 with h | h
  · rw [h]; exact W.pos
  · obtain ⟨u, hu, he⟩ := List.mem_map.mp h
    rw [← he]
    have h1 := distI_lt W (u := t) (v := u) ht
    cases z : Ks577.distance g t u with
    | none => exact W.pos
    | some k =>
      have : distI g t u = k := by unfold distI; rw [z]; rfl
      show k < _
      omega
end PB
namespace PBW
open PySem PySem.Spec PyProof.Rows L2 Evl PB
open Ks577 (Graph pebblesAt isAdjacent)
open Ks582 (State)
variable {P : Program} {w : World} {K : PySem.W.Frag} {mg : Str → Option Value} {base : Heap} {ad : Adr}
/-! ### certificate -/
def sp_Board_certificate (P : Program) (w : World) (ad : Adr) : Sp := fun vs H Q E => ∃ (a : Addr) (t : Nat) (st : State) (X : Addr → Prop), vs = [.ref a, .int t] ∧ BoardAt P w ad H a st X ∧ Res P w ad H a X (Ks582.perform st (.breadthFirstCertificate t)) Q E
theorem ok_Board_certificate (T : Txt K mg ad) : Ok P w K mg base (L2.CX P w) 4 ad.f_Board_certificate ["self", "target"] (sp_Board_certificate P w ad) := by
  obtain ⟨fd, F⟩ := T.F_Board_certificate
  obtain ⟨fd_two_to, G_two_to, B_two_to⟩ := ok_two_to (P := P) (w := w) (base := base) T
  obtain ⟨fd_Board_near_all, G_Board_near_all, B_Board_near_all⟩ := ok_Board_near_all (P := P) (w := w) (base := base) T
  obtain ⟨fd_distances, G_distances, B_distances⟩ := ok_distances (P := P) (w := w) (base := base) T
  obtain ⟨fd_Board_check, G_Board_check, B_Board_check⟩ := ok_Board_check (P := P) (w := w) (base := base) T
  refine ⟨fd, F.okX sc_Board_certificate (fun vs H Q E h => ?_) (fun cdv A outer s H vs Q E hr h => ?_), F.binds fun _ _ _ _ _ _ us hl => match us, hl with | [_, _], _ => rfl⟩
  · obtain ⟨_, _, _, _, rfl, _⟩ := h
    rfl
  have hu := hu_of hr
  refine ⟨_, (pss_cons (ps_expr (pe_meth (pv 0) T.cl_Board T.m_Board_check G_Board_check (hr.mono (by decide)) B_Board_check .nil (passes_call (takes_of rfl rfl rfl rfl) (fun _ _ _ _ z => z)) (by exact (pa_cons (pe_lst (by exact (pa_cons (pv 1) pa_nil))) pa_nil))))
      (pss_cons (ps_set (i := 2) sc_Board_certificate.nd rfl (by first | exact Or.inl rfl | exact Or.inr rfl) (pe_call G_distances (hr.mono (by decide)) (by rfl) T.g_distances T.k_distances B_distances .nil pass0 (by exact (pa_cons (pe_fld (pv 0) rfl) (pa_cons (pe_fld (pv 0) rfl) (pa_cons (pv 1) pa_nil))))))
      (pss_cons (ps_set (i := 3) sc_Board_certificate.nd rfl (by first | exact Or.inl rfl | exact Or.inr rfl) (pe_meth0 (pv 0) T.cl_Board T.m_Board_near_all G_Board_near_all (hr.mono (by decide)) B_Board_near_all .nil pass0))
      (pss_cons (ps_set (i := 4) sc_Board_certificate.nd rfl (by first | exact Or.inl rfl | exact Or.inr rfl) (pe_callB (cr_max rfl) (by rfl) T.n_max (by decide +kernel) (by exact (pa_cons (pv 2) pa_nil))))
      (pss_cons (ps_set (i := 5) sc_Board_certificate.nd rfl (by first | exact Or.inl rfl | exact Or.inr rfl) (pe_lst pa_nil))
      (pss_cons (ps_set (i := 6) sc_Board_certificate.nd rfl (by first | exact Or.inl rfl | exact Or.inr rfl) (pe_lst pa_nil))
      (pss_cons (ps_for (passes_of rfl) rfl (pi_range1 (by rfl) T.n_range (by exact (pa_cons (pe_fld (pv 0) rfl) pa_nil))) (pg_name (i := 7) sc_Board_certificate.nd rfl (by first | exact Or.inl rfl | exact Or.inr rfl)) (pss_one (ps_if (pt_cmpR op_gt (pe_ix ix_list (pv 2) (pv 7) (fun _ _ => rfl)) pe_int (nomark _)) (pss_cons (ps_expr (pe_bm PySem.F.plainAttrs_list PySem.F.slot_list_append PySem.F.type_list_append mt_append (pv 5) (by exact (pa_cons (pe_ix ix_list (by exact (pe_lc (own := [("one", 8)]) rfl sc_Board_certificate.nd (pi_list (pe_ix ix_list (pv 3) (pv 7) (fun _ _ => rfl))) (blkOk_by (own := [("one", 8)]) (N := N_Board_certificate) (sc := defScope s_Board_certificate) (by decide +kernel)) (fun _ _ _ _ _ => (pg_name (i := 8) sc_Board_certificate.nd rfl (by first | exact Or.inl rfl | exact Or.inr rfl))) (fun _ _ _ _ _ => (pts_one (pt_cmpR op_eq (pe_ix (ix_listK (K := K) rfl) (pv 2) (pv 8) (fun _ _ => rfl)) (pe_op op_sub (pe_ix (ix_listK (K := K) rfl) (pv 2) (pv 7) (fun _ _ => rfl)) pe_int) (nomark _)))) (fun _ _ _ _ _ => (pv 8)))) pe_int (fun _ _ => rfl)) pa_nil))))
      (pss_one (ps_expr (pe_bm PySem.F.plainAttrs_list PySem.F.slot_list_append PySem.F.type_list_append mt_append (pv 6) (by exact (pa_cons (pe_call G_two_to (hr.mono (by decide)) (by rfl) T.g_two_to T.k_two_to B_two_to .nil pass0 (by exact (pa_cons (pe_op op_sub (pv 4) (pe_ix ix_list (pv 2) (pv 7) (fun _ _ => rfl))) pa_nil))) pa_nil)))))) (pss_cons (ps_expr (pe_bm PySem.F.plainAttrs_list PySem.F.slot_list_append PySem.F.type_list_append mt_append (pv 5) (by exact (pa_cons (pv 7) pa_nil))))
      (pss_one (ps_expr (pe_bm PySem.F.plainAttrs_list PySem.F.slot_list_append PySem.F.type_list_append mt_append (pv 6) (by exact (pa_cons pe_int pa_nil)))))))))
      (pss_one (ps_ret (pe_op op_cat (pe_op op_cat (pe_lst (by exact (pa_cons (pe_fld (pv 0) rfl) pa_nil))) (pv 5)) (pv 6))))))))))), ?_⟩
  obtain ⟨a, t, st, X, rfl, ⟨dx, e, p, er, so, ca, us, ss, ys, B⟩, r⟩ := h
  have W := B.ok.bd.wg
  have hn5 := W.few
  refine ⟨_, rfl, a, dx, _, rfl, B.ins, rfl, _, rfl, by show 1 ≤ sizeLine; exact szs (by omega), fun l hl => ?_⟩
  have B1 := B.kx (KX.ex (Ex.new (o := .lst (nVs [t])) hl))
  refine ⟨a, l, st, X, [t], rfl, B1.at, upd_same, by show 1 ≤ 5; decide, fun hall H2 e2 => ?_, fun hex H2 e2 => ?_⟩
  rotate_left
  · obtain ⟨x, hx, hle⟩ := hex
    rw [List.mem_singleton.mp hx] at hle
    exact r.no (if_pos hle) (Fr.ex ((Ex.new hl).trans e2)) (B1.kx (KX.ex e2)).at
  have ht : t < st.board.graph.vertexCount := hall t (by simp)
  have x2 : Ex H H2 := (Ex.new hl).trans e2
  have B2 := B.kx (KX.ex x2)
  refine ⟨_, rfl, a, _, dx, _, _, rfl, B2.ins, T.cl_Board, T.na_Board_many, rfl, _, rfl, a, _, dx, _, _, rfl, B2.ins, T.cl_Board, T.na_Board_edges, rfl, _, rfl, e, st.board.graph, t, rfl, W, B2.edg, ht, fun q H3 hq x3 hL => ?_⟩
  have x03 := x2.trans x3
  have B3 := B.kx (KX.ex x03)
  refine ⟨_, rfl, a, dx, _, rfl, B3.ins, rfl, a, st, X, rfl, B3.at, fun rr H4 hrr x4 ⟨hrows, _⟩ => ?_⟩
  have x04 := x03.trans x4
  have B4 := B.kx (KX.ex x04)
  have hL4 : H4 q = some (.lst ((distL st.board.graph t).map V.int)) := x4 _ _ hL
  obtain ⟨ra, hra, hrl, hrg⟩ := hrows.len
  refine ⟨_, rfl, q, _, rfl, sl_of' hL4, by rw [distL_len]; exact W.pos, fun m hm hmall => ?_⟩
  have hmM := bcM_eq W ht hm hmall
  subst hmM
  refine ⟨by show 0 ≤ sizeLine; exact Nat.zero_le _, fun pl hpl => ⟨by show 0 ≤ sizeLine; exact Nat.zero_le _, fun wl hwl => ?_⟩⟩
  have hplwl : pl ≠ wl := ne_of_none upd_same hwl
  have hwl4 : H4 wl = none := upd_dom hwl
  have x5 : Ex H4 (upd (upd H4 pl (.lst [])) wl (.lst [])) := Ex.upd_new (Ex.new hpl) hwl
  have B5 := B4.kx (KX.ex x5)
  refine ⟨_, rfl, a, _, dx, _, _, rfl, B5.ins, T.cl_Board, T.na_Board_many, rfl, st.board.graph.vertexCount, rfl, by omega, by omega, ?_⟩
  refine for_range0 (n := st.board.graph.vertexCount) (fun i σ H' => ∃ (v7 : Option V), σ = [some (.ref a), some (.int t), some (.ref q), some (.ref rr), some (.int (bcM st.board.graph t : Nat)), some (.ref pl), some (.ref wl), v7, none] ∧ Ex H4 H' ∧ H' pl = some (.lst (nVs ((List.range i).map (bcP st.board.graph t)))) ∧ H' wl = some (.lst (nVs ((List.range i).map (bcW st.board.graph t)))))
    ⟨none, rfl, x5, by rw [upd_ne hplwl]; exact upd_same, upd_same⟩ ?_ ?_
  · rintro i σ H' hi ⟨v7, rfl, x6, hP, hW⟩
    have hrow : ((distL st.board.graph t).map V.int)[i]? = some (.int (distI st.board.graph t i)) := int_get (distL_get hi)
    have hplen : (nVs ((List.range i).map (bcP st.board.graph t))).length < sizeLine := by rw [nVs_len, List.length_map, List.length_range]; exact szl (by omega)
    have hwlen : (nVs ((List.range i).map (bcW st.board.graph t))).length < sizeLine := by rw [nVs_len, List.length_map, List.length_range]; exact szl (by omega)
    have stepP : ∀ {c : Nat}, bcP st.board.graph t i = c → nVs ((List.range i).map (bcP st.board.graph t)) ++ [nV c] = nVs ((List.range (i + 1)).map (bcP st.board.graph t)) := fun h => by rw [List.range_succ, List.map_append, nVs_app, List.map_singleton, h]; rfl
    have stepW : ∀ {c : Nat}, bcW st.board.graph t i = c → nVs ((List.range i).map (bcW st.board.graph t)) ++ [nV c] = nVs ((List.range (i + 1)).map (bcW st.board.graph t)) := fun h => by rw [List.range_succ, List.map_append, nVs_app, List.map_singleton, h]; rfl
    refine ⟨_, rfl, _, rfl, q, _, _, _, rfl, rfl, sl_of' (x6 _ _ hL4), atI_nat hrow, _, _, rfl, rfl, _, rfl, ?_⟩
    by_cases hpos : 0 < distI st.board.graph t i
    · refine if_true_of (decide_eq_true hpos) ?_
      obtain ⟨b, hb, hb2⟩ := hrg i _ (rowsG_get hi)
      have hb2 : H4 b = some (.lst (nVs (nbrs st.board.graph i))) := hb2
      obtain ⟨rest, hfil⟩ := near_filter W ht hi hpos
      refine ⟨_, rfl, .inl ⟨rfl, _, sl_of' hP⟩, _, rfl, _, rfl, rr, _, _, _, rfl, rfl, sl_of' (x6 _ _ hra), atI_nat (aref_get hb), b, rfl, ⟨_, sl_of' (x6 _ _ hb2)⟩, fun D hD => ?_⟩
      have hDp : D ≠ pl := fun z => ne_of_none hP hD z.symm
      have hDw : D ≠ wl := fun z => ne_of_none hW hD z.symm
      refine lc_list (a := b) (xs := nVs (nbrs st.board.graph i)) (fun j H7 => Ex H' H7 ∧ LstOf H7 D (((nbrs st.board.graph i).take j).filter (fun x => decide (distI st.board.graph t x = distI st.board.graph t i - 1)))) ⟨Ex.new hD, upd_same⟩ (fun j H7 _ z => sl_of' (z.1 _ _ (x6 _ _ hb2))) ?_ ?_
      · rintro j y H7 hj ⟨x7, hD7⟩
        obtain ⟨x, hx, rfl⟩ := nVs_of hj
        have hD7 : H7 D = some (.lst (nVs (((nbrs st.board.graph i).take j).filter (fun x => decide (distI st.board.graph t x = distI st.board.graph t i - 1))))) := hD7
        have hxn := (adj_lt W ((mem_nbrs W).mp (List.mem_of_getElem? hx))).2.1
        have hrowx : ((distL st.board.graph t).map V.int)[x]? = some (.int (distI st.board.graph t x)) := int_get (distL_get hxn)
        have hL7 := x7 _ _ (x6 _ _ hL4)
        refine ⟨rfl, _, rfl, _, rfl, q, _, _, _, rfl, rfl, sl_of' hL7, atI_nat hrowx, _, rfl, _, rfl, q, _, _, _, rfl, rfl, sl_of' hL7, atI_nat hrow, _, _, rfl, rfl, rfl, _, rfl, ?_⟩
        rw [take_snoc hx, List.filter_append]
        have hlen := List.length_filter_le (fun x => decide (distI st.board.graph t x = distI st.board.graph t i - 1)) ((nbrs st.board.graph i).take j)
        rw [List.length_take] at hlen
        have hnl := nbrs_length st.board.graph i
        by_cases hq2 : distI st.board.graph t x = distI st.board.graph t i - 1
        · refine if_true_of (decide_eq_true (by rw [hq2])) ⟨_, rfl, _, hD7, by rw [nVs_len]; exact szl (by omega), Ex.mut x7 hD, ?_⟩
          rw [List.filter_cons_of_pos (by exact decide_eq_true hq2), List.filter_nil]
          show upd _ D _ D = _
          rw [upd_same, nVs_app]
          rfl
        · refine if_false_of (decide_eq_false fun z => hq2 (by injection z)) ⟨x7, ?_⟩
          rw [List.filter_cons_of_neg (by simpa using hq2), List.filter_nil, List.append_nil]
          exact hD7
      · rintro H7 ⟨x7, hD7⟩
        rw [nVs_len, List.take_length, hfil] at hD7
        have hD7 : H7 D = some (.lst (nVs (bcP st.board.graph t i :: rest))) := hD7
        refine ⟨D, _, 0, nV (bcP st.board.graph t i), rfl, rfl, sl_of' hD7, (show atI (nVs (bcP st.board.graph t i :: rest)) ((0 : Nat) : Int) = some (nV (bcP st.board.graph t i)) from atI_nat (nVs_get (l := bcP st.board.graph t i :: rest) (i := 0) rfl)), pl, _, _, rfl, rfl, x7 _ _ hP, hplen, ?_⟩
        rw [stepP rfl]
        have x8 : Ex H4 (upd H7 pl (.lst (nVs ((List.range (i + 1)).map (bcP st.board.graph t))))) := Ex.mut (x6.trans x7) hpl
        have hW8 : upd H7 pl (.lst (nVs ((List.range (i + 1)).map (bcP st.board.graph t)))) wl = some (.lst (nVs ((List.range i).map (bcW st.board.graph t)))) := by rw [upd_ne (Ne.symm hplwl)]; exact x7 _ _ hW
        have hP8 : upd H7 pl (.lst (nVs ((List.range (i + 1)).map (bcP st.board.graph t)))) pl = some (.lst (nVs ((List.range (i + 1)).map (bcP st.board.graph t)))) := upd_same
        generalize upd H7 pl (.lst (nVs ((List.range (i + 1)).map (bcP st.board.graph t)))) = H8 at x8 hW8 hP8
        have hdg := distI_getD (g := st.board.graph) (u := t) (v := i) (by omega)
        have hge := bcM_ge W (t := t) hi
        have hlt := bcM_lt W ht
        have hsub : ((bcM st.board.graph t : Nat) : Int) - distI st.board.graph t i = ((bcM st.board.graph t - (Ks577.distance st.board.graph t i).getD 0 : Nat) : Int) := by omega
        refine ⟨_, rfl, .inl ⟨rfl, _, sl_of' hW8⟩, _, rfl, _, rfl, _, rfl, q, _, _, _, rfl, rfl, sl_of' (x8 _ _ hL4), atI_nat hrow, _, _, rfl, rfl, bcM st.board.graph t - (Ks577.distance st.board.graph t i).getD 0, by rw [← hsub]; rfl, by omega, wl, _, _, rfl, rfl, hW8, hwlen, some (.int i), rfl, Ex.mut x8 hwl4, ?_, ?_⟩
        · rw [upd_ne hplwl]; exact hP8
        · rw [upd_same]
          exact congrArg (fun z => some (HO.lst z)) (stepW (by unfold bcW; rw [if_neg ((far_test W ht hi).mp hpos)]))
    · refine if_false_of (decide_eq_false hpos) ?_
      have hnf : i = t ∨ (Ks577.distance st.board.graph t i).isNone := by
        refine Decidable.byContradiction fun z => hpos ((far_test W ht hi).mpr z)
      refine ⟨_, rfl, .inl ⟨rfl, _, sl_of' hP⟩, _, rfl, pl, _, _, rfl, rfl, hP, hplen, ?_⟩
      have hP' := stepP (c := i) (by unfold bcP; rw [if_pos hnf])
      rw [hP']
      have x8 : Ex H4 (upd H' pl (.lst (nVs ((List.range (i + 1)).map (bcP st.board.graph t))))) := Ex.mut x6 hpl
      have hW8 : upd H' pl (.lst (nVs ((List.range (i + 1)).map (bcP st.board.graph t)))) wl = some (.lst (nVs ((List.range i).map (bcW st.board.graph t)))) := by rw [upd_ne (Ne.symm hplwl)]; exact hW
      refine ⟨_, rfl, .inl ⟨rfl, _, sl_of' hW8⟩, wl, _, _, rfl, rfl, hW8, hwlen, some (.int i), rfl, Ex.mut x8 hwl4, ?_, ?_⟩
      · rw [upd_ne hplwl]; exact upd_same
      · rw [upd_same]
        exact congrArg (fun z => some (HO.lst z)) (stepW (c := 0) (by unfold bcW; rw [if_pos hnf]))
  · rintro σ H' ⟨v7, rfl, x6, hP, hW⟩
    have B6 := B4.kx (KX.ex x6)
    have x06 := x04.trans x6
    have hl1 : ((List.range st.board.graph.vertexCount).map (bcP st.board.graph t)).length = st.board.graph.vertexCount := by rw [List.length_map, List.length_range]
    have hl2 : ((List.range st.board.graph.vertexCount).map (bcW st.board.graph t)).length = st.board.graph.vertexCount := by rw [List.length_map, List.length_range]
    refine ⟨_, rfl, a, _, dx, _, _, rfl, B6.ins, T.cl_Board, T.na_Board_many, rfl, by show 1 ≤ sizeLine; exact szs (by omega), fun c1 hc1 => ?_⟩
    have x7 : Ex H' (upd H' c1 (.lst [nV st.board.graph.vertexCount])) := Ex.new hc1
    refine ⟨_, rfl, c1, pl, _, _, rfl, rfl, upd_same, x7 _ _ hP, by rw [nVs_len, hl1]; show 1 + _ ≤ sizeLine; exact szs (by omega), fun c2 hc2 => ?_⟩
    have x8 := x7.trans (Ex.new (o := .lst ([nV st.board.graph.vertexCount] ++ nVs ((List.range st.board.graph.vertexCount).map (bcP st.board.graph t)))) hc2)
    refine ⟨_, rfl, c2, wl, _, _, rfl, rfl, upd_same, x8 _ _ hW, by rw [List.length_append, nVs_len, nVs_len, hl1, hl2]; show 1 + _ + _ ≤ sizeLine; exact szs (by omega), fun y hy => ?_⟩
    have x9 := x8.trans (Ex.new (o := .lst ([nV st.board.graph.vertexCount] ++ nVs ((List.range st.board.graph.vertexCount).map (bcP st.board.graph t)) ++ nVs ((List.range st.board.graph.vertexCount).map (bcW st.board.graph t)))) hy)
    have hperf : Ks582.perform st (.breadthFirstCertificate t) = (st, ⟨((st.board.graph.vertexCount : Nat) : Int), ((List.range st.board.graph.vertexCount).map (bcP st.board.graph t) ++ (List.range st.board.graph.vertexCount).map (bcW st.board.graph t)).map Int.ofNat⟩) := if_neg (by omega)
    refine r.ok hperf (Fr.ex (x06.trans x9)) (fresh_back (x06.trans x8) hy) (B6.kx (KX.ex x9)).at ?_
    show upd _ y _ y = _
    rw [upd_same, List.map_cons, List.map_map, List.map_append]
    rfl
end PBW

namespace PB
open Ks577 (pebblesAt isAdjacent Graph)
open Ks582 (State)
/-- why a certificate is refused -/
def BadC (st : State) (t : Nat) (ps ws : List Nat) (code : Int) : Prop := (st.board.graph.vertexCount ≤ t ∧ code = -2) ∨
  (t < st.board.graph.vertexCount ∧ (ps.length ≠ st.board.graph.vertexCount ∨ ws.length ≠ st.board.graph.vertexCount ∨ (ws.any fun x => decide (1000 < x)) = true) ∧ code = -22)
def GoodC (st : State) (t : Nat) (ps ws : List Nat) : Prop := t < st.board.graph.vertexCount ∧ ¬ (ps.length ≠ st.board.graph.vertexCount ∨ ws.length ≠ st.board.graph.vertexCount ∨ (ws.any fun x => decide (1000 < x)) = true)
def certO (st : State) (t : Nat) (ps ws : List Nat) (f : Unit → State × Ks577.Result) : State × Ks577.Result := if st.board.graph.vertexCount ≤ t then (st, Ks577.number (-2))
  else if ps.length ≠ st.board.graph.vertexCount ∨ ws.length ≠ st.board.graph.vertexCount ∨ (ws.any fun x => decide (1000 < x)) = true then (st, Ks577.number (-22)) else f ()
theorem certO_bad {st : State} {t : Nat} {ps ws : List Nat} {code : Int} (h : BadC st t ps ws code) (f : Unit → State × Ks577.Result) : certO st t ps ws f = (st, Ks577.number code) := by
  rcases h with ⟨h, rfl⟩ | ⟨h1, h2, rfl⟩
  · exact if_pos h
  · exact (if_neg (by omega)).trans (if_pos h2)
theorem certO_good {st : State} {t : Nat} {ps ws : List Nat} (h : GoodC st t ps ws) (f : Unit → State × Ks577.Result) : certO st t ps ws f = f () :=
  (if_neg (by have := h.1; omega)).trans (if_neg h.2)
theorem perf_isv (st : State) (t : Nat) (ps ws : List Nat) : Ks582.perform st (.isValidCertificate t ps ws) = certO st t ps ws fun _ => (st, Ks577.number (if Ks580.isValid st.board.graph t ⟨ps, ws⟩ then 1 else 0)) := rfl
theorem perf_prv (st : State) (t : Nat) (ps ws : List Nat) : Ks582.perform st (.provesReachable t ps ws) = certO st t ps ws fun _ => if Ks580.isValid st.board.graph t ⟨ps, ws⟩ = false then (st, Ks577.number (-33))
    else (st, ⟨if Ks580.provesReachable ⟨ps, ws⟩ st.board.pebbles then 1 else 0, [(Ks580.configurationWeight ⟨ps, ws⟩ st.board.pebbles : Int), (Ks580.totalWeight ⟨ps, ws⟩ : Int)]⟩) := rfl
/-- one vertex of a certificate -/
def vOk (g : Graph) (t : Nat) (ps ws : List Nat) (u : Nat) : Bool := if ws.getD u 0 = 0 then ps.getD u 0 == u else isAdjacent g u (ps.getD u 0) && (ps.getD u 0 == t || decide (2 * ws.getD u 0 ≤ ws.getD (ps.getD u 0) 0))
theorem valid_eq {g : Graph} {t : Nat} {ps ws : List Nat} (h1 : ps.length = g.vertexCount) (h2 : ws.length = g.vertexCount) : Ks580.isValid g t ⟨ps, ws⟩ = (ws.getD t 0 == 0 && (List.range g.vertexCount).all (vOk g t ps ws)) := by
  unfold Ks580.isValid
  show ((ps.length == g.vertexCount) && (ws.length == g.vertexCount) && _ && _) = _
  rw [h1, h2, beq_self_eq_true, Bool.true_and, Bool.true_and]
  refine congrArg _ (all_congr' fun u hu => ?_)
  have hu := List.mem_range.mp hu
  have hp : Ks580.parent ⟨ps, ws⟩ u = ps.getD u 0 := by
    show ps.getD u u = _
    rw [List.getD_eq_getElem?_getD, List.getD_eq_getElem?_getD, List.getElem?_eq_getElem (by omega)]
    rfl
  unfold vOk
  rw [hp]
  rfl
theorem all_range_succ {p : Nat → Bool} {i : Nat} (h : (List.range i).all p = true) (hp : p i = true) : (List.range (i + 1)).all p = true := by
  rw [List.range_succ, List.all_append, h]
  simp [hp]
theorem all_range_false {p : Nat → Bool} {i n : Nat} (hi : i < n) (hp : p i = false) : (List.range n).all p = false := by
  rw [← Bool.not_eq_true, List.all_eq_true]
  intro h
  rw [h i (List.mem_range.mpr hi)] at hp
  cases hp
end PB
namespace PBW
open PySem PySem.Spec PyProof.Rows L2 Evl PB
open Ks577 (Graph pebblesAt isAdjacent)
open Ks582 (State)
variable {P : Program} {w : World} {K : PySem.W.Frag} {mg : Str → Option Value} {base : Heap} {ad : Adr}
/-! ### check_certificate -/
def sp_Board_check_certificate (P : Program) (w : World) (ad : Adr) : Sp := fun vs H Q E => ∃ (a : Addr) (t : Nat) (pl wl : Addr) (ps ws : List Nat) (st : State) (X : Addr → Prop), vs = [.ref a, .int t, .ref pl, .ref wl] ∧ BoardAt P w ad H a st X ∧ LstOf H pl ps ∧ LstOf H wl ws ∧ ps.length ≤ 10800 ∧ ws.length ≤ 10800 ∧
  (GoodC st t ps ws → RetV .non H Q) ∧ ∀ code, BadC st t ps ws code → ∀ H2, Ex H H2 → Thrown ad code H2 E
theorem ok_Board_check_certificate (T : Txt K mg ad) : Ok P w K mg base (L2.CX P w) 4 ad.f_Board_check_certificate ["self", "target", "parents", "weights"] (sp_Board_check_certificate P w ad) := by
  obtain ⟨fd, F⟩ := T.F_Board_check_certificate
  obtain ⟨fd_refuse_if, G_refuse_if, B_refuse_if⟩ := ok_refuse_if (P := P) (w := w) (base := base) T
  obtain ⟨fd_Board_check, G_Board_check, B_Board_check⟩ := ok_Board_check (P := P) (w := w) (base := base) T
  refine ⟨fd, F.okX sc_Board_check_certificate (fun vs H Q E h => ?_) (fun cdv A outer s H vs Q E hr h => ?_), F.binds fun _ _ _ _ _ _ us hl => match us, hl with | [_, _, _, _], _ => rfl⟩
  · obtain ⟨_, _, _, _, _, _, _, _, rfl, _⟩ := h
    rfl
  have hu := hu_of hr
  refine ⟨_, (pss_cons (ps_expr (pe_meth (pv 0) T.cl_Board T.m_Board_check G_Board_check (hr.mono (by decide)) B_Board_check .nil (passes_call (takes_of rfl rfl rfl rfl) (fun _ _ _ _ z => z)) (by exact (pa_cons (pe_lst (by exact (pa_cons (pv 1) pa_nil))) pa_nil))))
      (pss_cons (ps_set (i := 4) sc_Board_check_certificate.nd rfl (by first | exact Or.inl rfl | exact Or.inr rfl) (pe_and (pe_cmpR op_eq (pe_callB call_len_seq (by rfl) T.n_len (by decide +kernel) (by exact (pa_cons (pv 2) pa_nil))) (pe_fld (pv 0) rfl) (nomark _)) (pe_one (pe_cmpR op_eq (pe_callB call_len_seq (by rfl) T.n_len (by decide +kernel) (by exact (pa_cons (pv 3) pa_nil))) (pe_fld (pv 0) rfl) (nomark _)))))
      (pss_one (ps_expr (pe_call G_refuse_if (hr.mono (by decide)) (by rfl) T.g_refuse_if T.k_refuse_if B_refuse_if .nil (passes_call (takes_of rfl rfl rfl rfl) (fun _ _ _ _ z => z)) (by exact (pa_cons (pe_or (pe_not (pv 4)) (pe_one (pe_callB (cr_any rfl) (by rfl) T.n_any (by decide +kernel) (by exact (pa_cons (by exact (pe_lc (own := [("weight", 5)]) rfl sc_Board_check_certificate.nd (pi_list (pv 3)) (blkOk_by (own := [("weight", 5)]) (N := N_Board_check_certificate) (sc := defScope s_Board_check_certificate) (by decide +kernel)) (fun _ _ _ _ _ => (pg_name (i := 5) sc_Board_check_certificate.nd rfl (by first | exact Or.inl rfl | exact Or.inr rfl))) (fun _ _ _ _ _ => pts_nil) (fun _ _ _ _ _ => (pe_cmpR op_gt (pv 5) (pe_glob (v := .int (1000)) rfl T.c_MOST_WEIGHT ⟨_, rfl⟩) (nomark _))))) pa_nil))))) (pa_cons (pe_un un_neg pe_int) pa_nil)))))))), ?_⟩
  obtain ⟨a, t, pl, wl, ps, ws, st, X, rfl, ⟨dx, e, p, er, so, ca, us, ss, ys, B⟩, hpl, hwl, hp16, hw16, q1, q2⟩ := h
  have hpl : H pl = some (.lst (nVs ps)) := hpl
  have hwl : H wl = some (.lst (nVs ws)) := hwl
  refine ⟨_, rfl, a, dx, _, rfl, B.ins, rfl, _, rfl, by show 1 ≤ sizeLine; exact szs (by omega), fun l hl => ?_⟩
  have B1 := B.kx (KX.ex (Ex.new (o := .lst (nVs [t])) hl))
  refine ⟨a, l, st, X, [t], rfl, B1.at, upd_same, by show 1 ≤ 5; decide, fun hall H2 e2 => ?_, fun hex H2 e2 => ?_⟩
  rotate_left
  · obtain ⟨x, hx, hle⟩ := hex
    rw [List.mem_singleton.mp hx] at hle
    exact q2 _ (.inl ⟨hle, rfl⟩) H2 ((Ex.new hl).trans e2)
  have ht : t < st.board.graph.vertexCount := hall t (by simp)
  have x2 : Ex H H2 := (Ex.new hl).trans e2
  have B2 := B.kx (KX.ex x2)
  refine ⟨_, rfl, pl, _, rfl, .inl (sl_of' (x2 _ _ hpl)), _, rfl, a, _, dx, _, _, rfl, B2.ins, T.cl_Board, T.na_Board_many, rfl, rfl, _, rfl, ?_⟩
  have cInt : ∀ m n : Nat, decide (V.int (m : Int) = V.int (n : Int)) = decide (m = n) := fun m n => decide_eq_decide.mpr ⟨fun z => by injection z with z; omega, fun z => by rw [z]⟩
  rw [nVs_len]
  show if decide (V.int (ps.length : Int) = V.int (st.board.graph.vertexCount : Int)) = true then _ else _
  rw [cInt]
  by_cases h1 : ps.length = st.board.graph.vertexCount
  rotate_left
  · rw [decide_eq_false h1]
    refine if_false_of rfl ⟨_, rfl, _, rfl, _, rfl, ?_⟩
    exact if_true_of rfl ⟨_, rfl, _, _, rfl, fun hc => (by cases hc), fun _ => q2 _ (.inr ⟨ht, .inl h1, rfl⟩) H2 x2⟩
  rw [decide_eq_true h1]
  refine if_true_of rfl ⟨_, rfl, wl, _, rfl, .inl (sl_of' (x2 _ _ hwl)), _, rfl, a, _, dx, _, _, rfl, B2.ins, T.cl_Board, T.na_Board_many, rfl, rfl, ?_⟩
  refine ⟨_, rfl, _, rfl, _, rfl, ?_⟩
  rw [nVs_len]
  show if (!decide (V.int (ws.length : Int) = V.int (st.board.graph.vertexCount : Int))) = true then _ else _
  rw [cInt]
  by_cases h2 : ws.length = st.board.graph.vertexCount
  rotate_left
  · rw [decide_eq_false h2]
    exact if_true_of rfl ⟨_, rfl, _, _, rfl, fun hc => (by cases hc), fun _ => q2 _ (.inr ⟨ht, .inr (.inl h2), rfl⟩) H2 x2⟩
  rw [decide_eq_true h2]
  refine if_false_of rfl ⟨_, rfl, wl, rfl, ⟨_, sl_of' (x2 _ _ hwl)⟩, fun D hD => ?_⟩
  refine lc_vals (a := wl) (xs := nVs ws) (ws.map fun x => V.bl (decide (1000 < x))) (by rw [List.length_map, nVs_len]) (sl_of' (x2 _ _ hwl)) hD (by rw [nVs_len]; omega) ?_ ?_
  · intro j x c H3 Qy hj hc e3 hq Qn
    obtain ⟨y, hy, rfl⟩ := nVs_of hj
    rw [List.getElem?_map, hy] at hc
    obtain rfl := Option.some.inj hc
    refine ⟨rfl, _, rfl, _, _, rfl, rfl, ?_⟩
    have q := hq H3 (Ex.refl _)
    have e : decide ((y : Int) > 1000) = decide (1000 < y) := decide_eq_decide.mpr (by omega)
    show Qy (V.bl (decide ((y : Int) > 1000))) H3
    rw [e]
    exact q
  · intro H3 e3 h3
    have hany : (ws.map fun x => decide (1000 < x)).any id = ws.any fun x => decide (1000 < x) := by rw [List.any_map]; rfl
    refine ⟨D, ws.map fun x => decide (1000 < x), rfl, by rw [List.map_map]; exact sl_of' h3, _, rfl, _, _, rfl, fun hc => ?_, fun hc => ?_⟩
    · rw [hany] at hc
      exact q1 ⟨ht, by rw [hc]; intro z; rcases z with z | z | z <;> first | exact z h1 | exact z h2 | cases z⟩ H3 (x2.trans e3)
    · rw [hany] at hc
      exact q2 _ (.inr ⟨ht, .inr (.inr hc), rfl⟩) H3 (x2.trans e3)
/-! ### is_valid -/
def sp_Board_is_valid (P : Program) (w : World) (ad : Adr) : Sp := fun vs H Q E => ∃ (a : Addr) (t : Nat) (pl wl : Addr) (ps ws : List Nat) (st : State) (X : Addr → Prop), vs = [.ref a, .int t, .ref pl, .ref wl] ∧ BoardAt P w ad H a st X ∧ LstOf H pl ps ∧ LstOf H wl ws ∧ ps.length ≤ 10800 ∧ ws.length ≤ 10800 ∧
  (GoodC st t ps ws → RetV (.bl (Ks580.isValid st.board.graph t ⟨ps, ws⟩)) H Q) ∧ ∀ code, BadC st t ps ws code → ∀ H2, Ex H H2 → Thrown ad code H2 E
theorem ok_Board_is_valid (T : Txt K mg ad) : Ok P w K mg base (L2.CX P w) 5 ad.f_Board_is_valid ["self", "target", "parents", "weights"] (sp_Board_is_valid P w ad) := by
  obtain ⟨fd, F⟩ := T.F_Board_is_valid
  obtain ⟨fd_Board_near_all, G_Board_near_all, B_Board_near_all⟩ := ok_Board_near_all (P := P) (w := w) (base := base) T
  obtain ⟨fd_Board_check_certificate, G_Board_check_certificate, B_Board_check_certificate⟩ := ok_Board_check_certificate (P := P) (w := w) (base := base) T
  refine ⟨fd, F.okX sc_Board_is_valid (fun vs H Q E h => ?_) (fun cdv A outer s H vs Q E hr h => ?_), F.binds fun _ _ _ _ _ _ us hl => match us, hl with | [_, _, _, _], _ => rfl⟩
  · obtain ⟨_, _, _, _, _, _, _, _, rfl, _⟩ := h
    rfl
  have hu := hu_of hr
  refine ⟨_, (pss_cons (ps_expr (pe_meth (pv 0) T.cl_Board T.m_Board_check_certificate G_Board_check_certificate (hr.mono (by decide)) B_Board_check_certificate .nil (passes_call (takes_of rfl rfl rfl rfl) (fun _ _ _ _ z => z)) (by exact (pa_cons (pv 1) (pa_cons (pv 2) (pa_cons (pv 3) pa_nil))))))
      (pss_cons (ps_set (i := 4) sc_Board_is_valid.nd rfl (by first | exact Or.inl rfl | exact Or.inr rfl) (pe_meth0 (pv 0) T.cl_Board T.m_Board_near_all G_Board_near_all (hr.mono (by decide)) B_Board_near_all .nil pass0))
      (pss_cons (ps_if (pt_cmpR op_ne (pe_ix ix_list (pv 3) (pv 1) (fun _ _ => rfl)) pe_int (nomark _)) (pss_one (ps_ret pe_bl)) pss_nil)
      (pss_cons (ps_for (passes_of rfl) rfl (pi_range1 (by rfl) T.n_range (by exact (pa_cons (pe_fld (pv 0) rfl) pa_nil))) (pg_name (i := 5) sc_Board_is_valid.nd rfl (by first | exact Or.inl rfl | exact Or.inr rfl)) (pss_cons (ps_set (i := 6) sc_Board_is_valid.nd rfl (by first | exact Or.inl rfl | exact Or.inr rfl) (pe_ix ix_list (pv 2) (pv 5) (fun _ _ => rfl)))
      (pss_one (ps_if (pt_cmpR op_eq (pe_ix ix_list (pv 3) (pv 5) (fun _ _ => rfl)) pe_int (nomark _)) (pss_one (ps_if (pt_cmpR op_ne (pv 6) (pv 5) (nomark _)) (pss_one (ps_ret pe_bl)) pss_nil)) (pss_one (ps_if (PW.pt (pw_or (pt_cmpR op_notIn_seq (pv 6) (pe_ix ix_list (pv 4) (pv 5) (fun _ _ => rfl)) (by rfl)) (pw_or1 (PW.pt (pw_and (pt_cmpR op_ne (pv 6) (pv 1) (nomark _)) (pw_and1 (pt_cmpR op_lt (pe_ix ix_list (pv 3) (pv 6) (fun _ _ => rfl)) (pe_op op_mul pe_int (pe_ix ix_list (pv 3) (pv 5) (fun _ _ => rfl))) (nomark _)))))))) (pss_one (ps_ret pe_bl)) pss_nil))))))
      (pss_one (ps_ret pe_bl)))))), ?_⟩
  obtain ⟨a, t, pl, wl, ps, ws, st, X, rfl, ⟨dx, e, p, er, so, ca, us, ss, ys, B⟩, hpl, hwl, hp16, hw16, q1, q2⟩ := h
  have W := B.ok.bd.wg
  have hn5 := W.few
  have hpl : H pl = some (.lst (nVs ps)) := hpl
  have hwl : H wl = some (.lst (nVs ws)) := hwl
  refine ⟨_, rfl, a, dx, _, rfl, B.ins, rfl, _, rfl, _, rfl, _, rfl, a, t, pl, wl, ps, ws, st, X, rfl, B.at, hpl, hwl, hp16, hw16, fun G H2 x2 => ?_, q2⟩
  obtain ⟨ht, hno⟩ := id G
  have h1 : ps.length = st.board.graph.vertexCount := Decidable.byContradiction fun z => hno (.inl z)
  have h2 : ws.length = st.board.graph.vertexCount := Decidable.byContradiction fun z => hno (.inr (.inl z))
  have hall : ∀ x ∈ ws, x ≤ 1000 := fun x hx => Nat.le_of_not_lt fun z => hno (.inr (.inr (List.any_eq_true.mpr ⟨x, hx, decide_eq_true z⟩)))
  have hwb : ∀ u, u < st.board.graph.vertexCount → ws.getD u 0 ≤ 1000 := fun u hu => hall _ (List.mem_of_getElem? (getD_at (by omega)))
  have B2 := B.kx (KX.ex x2)
  have hval := valid_eq (t := t) h1 h2
  refine ⟨_, rfl, a, dx, _, rfl, B2.ins, rfl, a, st, X, rfl, B2.at, fun rr H3 hrr x3 ⟨hrows, _⟩ => ?_⟩
  have x03 := x2.trans x3
  have B3 := B.kx (KX.ex x03)
  obtain ⟨ra, hra, hrl, hrg⟩ := hrows.len
  have hpl3 := x03 _ _ hpl
  have hwl3 := x03 _ _ hwl
  have cInt : ∀ m n : Nat, decide (V.int (m : Int) = V.int (n : Int)) = decide (m = n) := fun m n => decide_eq_decide.mpr ⟨fun z => by injection z with z; omega, fun z => by rw [z]⟩
  have no : Ks580.isValid st.board.graph t ⟨ps, ws⟩ = false → Q (.bl false) H3 := fun h => by
    have := q1 G H3 x03
    rwa [h] at this
  refine ⟨_, rfl, _, rfl, wl, _, _, _, rfl, rfl, sl_of' hwl3, at_nVs (by omega), rfl, _, rfl, ?_⟩
  by_cases hw0 : ws.getD t 0 = 0
  rotate_left
  · refine if_true_of ?_ (no ?_)
    · rw [Bool.not_eq_true']
      refine decide_eq_false fun z => hw0 ?_
      injection z with z
      omega
    · rw [hval, beq_eq_false_iff_ne.mpr hw0, Bool.false_and]
  refine if_false_of (by rw [hw0]; rfl) ?_
  rw [hw0, beq_self_eq_true, Bool.true_and] at hval
  refine ⟨_, rfl, a, _, dx, _, _, rfl, B3.ins, T.cl_Board, T.na_Board_many, rfl, st.board.graph.vertexCount, rfl, by omega, by omega, ?_⟩
  refine for_range0 (n := st.board.graph.vertexCount) (fun i σ H' => ∃ (v5 v6 : Option V), σ = [some (.ref a), some (.int t), some (.ref pl), some (.ref wl), some (.ref rr), v5, v6] ∧ H' = H3 ∧ (List.range i).all (vOk st.board.graph t ps ws) = true) ⟨none, none, rfl, rfl, rfl⟩ ?_ ?_
  · rintro i σ H' hi ⟨v5, v6, rfl, rfl, hok⟩
    obtain ⟨b, hb, hb2⟩ := hrg i _ (rowsG_get hi)
    have hno2 : vOk st.board.graph t ps ws i = false → Q (.bl false) H' := fun h => no (by rw [hval, all_range_false hi h])
    have hgo : vOk st.board.graph t ps ws i = true → (List.range (i + 1)).all (vOk st.board.graph t ps ws) = true := fun h => all_range_succ hok h
    refine ⟨_, rfl, _, rfl, pl, _, _, _, rfl, rfl, sl_of' hpl3, at_nVs (by omega), ?_⟩
    refine ⟨_, rfl, _, rfl, wl, _, _, _, rfl, rfl, sl_of' hwl3, at_nVs (by omega), rfl, _, rfl, ?_⟩
    by_cases hz : ws.getD i 0 = 0
    · refine if_true_of (by rw [hz]; rfl) ⟨_, rfl, _, rfl, rfl, _, rfl, ?_⟩
      show if (!decide (V.int ((ps.getD i 0 : Nat) : Int) = V.int (i : Int))) = true then _ else _
      rw [cInt]
      by_cases hpi : ps.getD i 0 = i
      · rw [decide_eq_true hpi]
        exact if_false_of rfl ⟨_, _, rfl, rfl, hgo (by unfold vOk; rw [if_pos hz, hpi, beq_self_eq_true])⟩
      · rw [decide_eq_false hpi]
        exact if_true_of rfl (hno2 (by unfold vOk; rw [if_pos hz]; exact beq_eq_false_iff_ne.mpr hpi))
    · refine if_false_of (decide_eq_false fun z => hz (by injection z with z; omega)) ?_
      have hvok : vOk st.board.graph t ps ws i = (isAdjacent st.board.graph i (ps.getD i 0) && (ps.getD i 0 == t || decide (2 * ws.getD i 0 ≤ ws.getD (ps.getD i 0) 0))) := if_neg hz
      refine ⟨_, rfl, _, rfl, _, rfl, rr, _, _, _, rfl, rfl, sl_of' hra, atI_nat (aref_get hb), b, _, rfl, .inl (sl_of' hb2), rfl, nVs_flat _, _, rfl, ?_⟩
      show if (!inV (nV (ps.getD i 0)) (nVs (nbrs st.board.graph i))) = true then _ else _
      rw [in_nbrs W, adj_symm]
      cases hadj : isAdjacent st.board.graph i (ps.getD i 0) with
      | false =>
        rw [hadj, Bool.false_and] at hvok
        exact if_true_of rfl (hno2 hvok)
      | true =>
        rw [hadj, Bool.true_and] at hvok
        have hpn := (adj_lt W hadj).2.1
        refine if_false_of rfl ⟨_, rfl, _, rfl, rfl, _, rfl, ?_⟩
        show if (!decide (V.int ((ps.getD i 0 : Nat) : Int) = V.int (t : Int))) = true then _ else _
        rw [cInt]
        by_cases hpt : ps.getD i 0 = t
        · rw [decide_eq_true hpt]
          rw [hpt, beq_self_eq_true, Bool.true_or] at hvok
          exact if_false_of rfl ⟨_, _, rfl, rfl, hgo hvok⟩
        · rw [decide_eq_false hpt]
          rw [beq_eq_false_iff_ne.mpr hpt, Bool.false_or] at hvok
          have hb1 := hwb i hi
          refine if_true_of rfl ⟨_, rfl, _, rfl, wl, _, _, _, rfl, rfl, sl_of' hwl3, at_nVs (by omega), _, rfl, _, rfl, wl, _, _, _, rfl, rfl, sl_of' hwl3, at_nVs (by omega), _, _, rfl, rfl, .inl ⟨by omega, by omega⟩, _, _, rfl, rfl, _, rfl, ?_⟩
          by_cases hlt : 2 * ws.getD i 0 ≤ ws.getD (ps.getD i 0) 0
          · refine if_false_of (decide_eq_false (by omega)) ⟨_, _, rfl, rfl, hgo (by rw [hvok]; exact decide_eq_true hlt)⟩
          · refine if_true_of (decide_eq_true (by omega)) (hno2 (by rw [hvok]; exact decide_eq_false hlt))
  · rintro σ H' ⟨v5, v6, rfl, rfl, hok⟩
    have := q1 G H' x03
    rw [hval, hok] at this
    exact this
end PBW

namespace PBW
open PySem PySem.Spec PyProof.Rows L2 Evl PB
open Ks577 (Graph pebblesAt isAdjacent)
open Ks582 (State)
variable {P : Program} {w : World} {K : PySem.W.Frag} {mg : Str → Option Value} {base : Heap} {ad : Adr}
/-! ### proves -/
def sp_Board_proves (P : Program) (w : World) (ad : Adr) : Sp := fun vs H Q E => ∃ (a : Addr) (t : Nat) (pl wl : Addr) (ps ws : List Nat) (st : State) (X : Addr → Prop), vs = [.ref a, .int t, .ref pl, .ref wl] ∧ BoardAt P w ad H a st X ∧ LstOf H pl ps ∧ LstOf H wl ws ∧ ps.length ≤ 10800 ∧ ws.length ≤ 10800 ∧
  Res P w ad H a X (Ks582.perform st (.provesReachable t ps ws)) Q E
theorem ok_Board_proves (T : Txt K mg ad) : Ok P w K mg base (L2.CX P w) 6 ad.f_Board_proves ["self", "target", "parents", "weights"] (sp_Board_proves P w ad) := by
  obtain ⟨fd, F⟩ := T.F_Board_proves
  obtain ⟨fd_refuse_if, G_refuse_if, B_refuse_if⟩ := ok_refuse_if (P := P) (w := w) (base := base) T
  obtain ⟨fd_Board_is_valid, G_Board_is_valid, B_Board_is_valid⟩ := ok_Board_is_valid (P := P) (w := w) (base := base) T
  refine ⟨fd, F.okX sc_Board_proves (fun vs H Q E h => ?_) (fun cdv A outer s H vs Q E hr h => ?_), F.binds fun _ _ _ _ _ _ us hl => match us, hl with | [_, _, _, _], _ => rfl⟩
  · obtain ⟨_, _, _, _, _, _, _, _, rfl, _⟩ := h
    rfl
  have hu := hu_of hr
  refine ⟨_, (pss_cons (ps_expr (pe_call G_refuse_if (hr.mono (by decide)) (by rfl) T.g_refuse_if T.k_refuse_if B_refuse_if .nil (passes_call (takes_of rfl rfl rfl rfl) (fun _ _ _ _ z => z)) (by exact (pa_cons (pe_not (pe_meth (pv 0) T.cl_Board T.m_Board_is_valid G_Board_is_valid (hr.mono (by decide)) B_Board_is_valid .nil (passes_call (takes_of rfl rfl rfl rfl) (fun _ _ _ _ z => z)) (by exact (pa_cons (pv 1) (pa_cons (pv 2) (pa_cons (pv 3) pa_nil)))))) (pa_cons (pe_un un_neg pe_int) pa_nil)))))
      (pss_cons (ps_set (i := 4) sc_Board_proves.nd rfl (by first | exact Or.inl rfl | exact Or.inr rfl) (pe_callB (cr_sum rfl) (by rfl) T.n_sum (by decide +kernel) (by exact (pa_cons (by exact (pe_lc (own := [("one", 5), ("many", 6)]) rfl sc_Board_proves.nd (pi_zipM (by rfl) T.n_zip (by exact (pa_cons (pv 3) (pa_cons (pe_fld (pv 0) rfl) pa_nil)))) (blkOk_by (own := [("one", 5), ("many", 6)]) (N := N_Board_proves) (sc := defScope s_Board_proves) (by decide +kernel)) (fun _ _ _ _ _ => (pg_names2 (K := K) (i := 5) (j := 6) rfl (by rfl) sc_Board_proves.nd (by rfl) (by rfl) (by first | exact Or.inl rfl | exact Or.inr rfl) (by first | exact Or.inl rfl | exact Or.inr rfl) (by first | exact Or.inl rfl | exact Or.inr rfl) (by first | exact Or.inl rfl | exact Or.inr rfl))) (fun _ _ _ _ _ => pts_nil) (fun _ _ _ _ _ => (pe_op op_mul (pv 5) (pv 6))))) pa_nil))))
      (pss_one (ps_ret (pe_lst (by exact (pa_cons (pe_ifExp (pt_cmpR op_gt (pv 4) (pe_callB (cr_sum rfl) (by rfl) T.n_sum (by decide +kernel) (by exact (pa_cons (pv 3) pa_nil))) (nomark _)) pe_int pe_int) (pa_cons (pv 4) (pa_cons (pe_callB (cr_sum rfl) (by rfl) T.n_sum (by decide +kernel) (by exact (pa_cons (pv 3) pa_nil))) pa_nil))))))))), ?_⟩
  obtain ⟨a, t, pl, wl, ps, ws, st, X, rfl, ⟨dx, e, p, er, so, ca, us, ss, ys, B⟩, hpl, hwl, hp16, hw16, r⟩ := h
  have W := B.ok.bd.wg
  have hn5 := W.few
  have hl0 := B.ok.bd.len
  have hwl : H wl = some (.lst (nVs ws)) := hwl
  rw [perf_prv] at r
  refine ⟨_, rfl, a, dx, _, rfl, B.ins, rfl, _, rfl, _, rfl, _, rfl, a, t, pl, wl, ps, ws, st, X, rfl, B.at, hpl, hwl, hp16, hw16, fun G H2 x2 => ?_, fun code hb H2 x2 => r.no (certO_bad hb _) (Fr.ex x2) (B.kx (KX.ex x2)).at⟩
  obtain ⟨ht, hno⟩ := id G
  have h2 : ws.length = st.board.graph.vertexCount := Decidable.byContradiction fun z => hno (.inr (.inl z))
  have hall : ∀ x ∈ ws, x ≤ 1000 := fun x hx => Nat.le_of_not_lt fun z => hno (.inr (.inr (List.any_eq_true.mpr ⟨x, hx, decide_eq_true z⟩)))
  have B2 := B.kx (KX.ex x2)
  refine ⟨_, rfl, _, rfl, _, _, rfl, fun hc => ?_, fun hc => ?_⟩
  rotate_left
  · have hc : Ks580.isValid st.board.graph t ⟨ps, ws⟩ = false := by simpa using hc
    exact r.no ((certO_good G _).trans (if_pos hc)) (Fr.ex x2) B2.at
  have hc : Ks580.isValid st.board.graph t ⟨ps, ws⟩ = true := by simpa using hc
  have hwl2 := x2 _ _ hwl
  refine ⟨_, rfl, _, rfl, a, _, dx, _, _, rfl, B2.ins, T.cl_Board, T.na_Board_pebbles, rfl, wl, p, nVs ws, nVs st.board.pebbles, rfl, sl_of' hwl2, st_of' B2.peb, fun D hD => ?_⟩
  have hBp : H2 p = some (.tup (nVs st.board.pebbles)) := B2.peb
  refine lc_it (walk_zipM (n := st.board.graph.vertexCount) (by rw [nVs_len, h2]) (by rw [nVs_len, hl0])) (fun j H3 => Ex H2 H3 ∧ H3 D = some (.lst (nVs ((List.range j).map fun u => ws.getD u 0 * pebblesAt st.board.pebbles u)))) ⟨Ex.new hD, upd_same⟩ (fun j H3 _ z => ⟨sl_of' (z.1 _ _ hwl2), st_of' (z.1 _ _ hBp)⟩) ?_ ?_
  · rintro j x H3 H4 hj ⟨x3, hD3⟩ ⟨T0, y1, y2, rfl, hT0, rfl, hy1, hy2⟩
    have hy1 : (nVs ws)[j]? = some y1 := hy1
    have hy2 : (nVs st.board.pebbles)[j]? = some y2 := hy2
    rw [nVs_get (getD_at (by omega))] at hy1 hy2
    cases hy1
    cases hy2
    have x4 : Ex H3 (upd H3 T0 (.tup [nV (ws.getD j 0), nV (st.board.pebbles.getD j 0)])) := Ex.new hT0
    have hb1 : ws.getD j 0 ≤ 1000 := hall _ (List.mem_of_getElem? (getD_at (by omega)))
    refine ⟨T0, _, rfl, st_of' upd_same, rfl, _, _, rfl, _, _, rfl, rfl, rfl, _, rfl, _, rfl, _, _, rfl, rfl, .inl ⟨by omega, by omega⟩, _, x4 _ _ hD3, by rw [nVs_len, List.length_map, List.length_range]; exact szl (by omega), Ex.mut (x3.trans x4) hD, ?_⟩
    rw [upd_same, List.range_succ, List.map_append, nVs_app, List.map_singleton]
    show some (HO.lst (_ ++ [V.int (((ws.getD j 0 : Nat) : Int) * ((st.board.pebbles.getD j 0 : Nat) : Int))])) = some (HO.lst (_ ++ [V.int ((ws.getD j 0 * pebblesAt st.board.pebbles j : Nat) : Int)]))
    rw [Int.natCast_mul]
    rfl
  · rintro H3 ⟨x3, hD3⟩
    have hcw : ((List.range st.board.graph.vertexCount).map fun u => ws.getD u 0 * pebblesAt st.board.pebbles u).sum = Ks580.configurationWeight ⟨ps, ws⟩ st.board.pebbles := by
      unfold Ks580.configurationWeight
      rw [hl0]
      rfl
    have hwl3 := x3 _ _ hwl2
    have x03 := x2.trans x3
    have hperf := (certO_good (ps := ps) (ws := ws) G (fun _ => if Ks580.isValid st.board.graph t ⟨ps, ws⟩ = false then (st, Ks577.number (-33))
      else (st, (⟨if Ks580.provesReachable ⟨ps, ws⟩ st.board.pebbles then 1 else 0, [(Ks580.configurationWeight ⟨ps, ws⟩ st.board.pebbles : Int), (Ks580.totalWeight ⟨ps, ws⟩ : Int)]⟩ : Ks577.Result)))).trans (if_neg (by rw [hc]; exact fun z => nomatch z))
    refine ⟨D, _, rfl, by rw [← nVs_zI]; exact sl_of' hD3, ?_⟩
    rw [zI_sum, hcw]
    refine ⟨_, rfl, _, rfl, wl, zI ws, rfl, by rw [← nVs_zI]; exact sl_of' hwl3, _, _, rfl, rfl, _, rfl, ?_⟩
    rw [zI_sum]
    have hpr : Ks580.provesReachable ⟨ps, ws⟩ st.board.pebbles = decide (((Ks580.configurationWeight ⟨ps, ws⟩ st.board.pebbles : Nat) : Int) > ((ws.sum : Nat) : Int)) := decide_eq_decide.mpr (by show ws.sum < _ ↔ _; omega)
    by_cases hgt : ((Ks580.configurationWeight ⟨ps, ws⟩ st.board.pebbles : Nat) : Int) > ((ws.sum : Nat) : Int)
    · rw [decide_eq_true hgt] at hpr ⊢
      refine if_true_of rfl ⟨_, rfl, _, rfl, wl, zI ws, rfl, by rw [← nVs_zI]; exact sl_of' hwl3, by show 3 ≤ sizeLine; exact szs (by omega), fun y hy => ?_⟩
      refine r.ok hperf (Fr.ex (x03.trans (Ex.new hy))) (fresh_back x03 hy) (B.kx (KX.ex (x03.trans (Ex.new hy)))).at ?_
      rw [zI_sum, hpr]
      exact upd_same
    · rw [decide_eq_false hgt] at hpr ⊢
      refine if_false_of rfl ⟨_, rfl, _, rfl, wl, zI ws, rfl, by rw [← nVs_zI]; exact sl_of' hwl3, by show 3 ≤ sizeLine; exact szs (by omega), fun y hy => ?_⟩
      refine r.ok hperf (Fr.ex (x03.trans (Ex.new hy))) (fresh_back x03 hy) (B.kx (KX.ex (x03.trans (Ex.new hy)))).at ?_
      rw [zI_sum, hpr]
      exact upd_same
end PBW

namespace PBW
open PySem PySem.Spec PyProof.Rows L2 Evl PB
open Ks577 (Graph pebblesAt isAdjacent)
open Ks582 (State)
variable {P : Program} {w : World} {K : PySem.W.Frag} {mg : Str → Option Value} {base : Heap} {ad : Adr}

def cNum : Ks582.Call → Nat
  | .create _ => 0
  | .addEdge _ _ => 1
  | .removeEdge _ _ => 2
  | .setPebbles _ => 3
  | .addPebbles _ _ => 4
  | .move _ _ => 5
  | .rubblingMove _ _ _ => 6
  | .bringPebbles _ _ => 7
  | .undo => 8
  | .listEdges => 9
  | .listPebbles => 10
  | .distance _ _ => 11
  | .minMoves _ _ => 12
  | .maxPebblesAt _ => 13
  | .shortestSequence _ _ => 14
  | .reachableVertices => 15
  | .weightAt _ => 16
  | .minRubblingMoves _ _ => 17
  | .maxPebblesByRubbling _ => 18
  | .canCover => 19
  | .diameter => 20
  | .pebblingNumber _ => 21
  | .rubblingNumber _ => 22
  | .graphPebblingNumber => 23
  | .countUnsolvable _ _ => 24
  | .unsolvableConfiguration _ _ _ => 25
  | .pathPartition _ => 26
  | .optimalConfiguration => 27
  | .coverNumber => 28
  | .breadthFirstCertificate _ => 29
  | .isValidCertificate _ _ _ => 30
  | .provesReachable _ _ _ => 31
  | .status => 32
def cArgs : Ks582.Call → List Nat
  | .create n => [n]
  | .addEdge u v => [u, v]
  | .removeEdge u v => [u, v]
  | .setPebbles _ => []
  | .addPebbles v cnt => [v, cnt]
  | .move s1 t => [s1, t]
  | .rubblingMove f s1 t => [f, s1, t]
  | .bringPebbles t cnt => [t, cnt]
  | .undo => []
  | .listEdges => []
  | .listPebbles => []
  | .distance u v => [u, v]
  | .minMoves t cnt => [t, cnt]
  | .maxPebblesAt t => [t]
  | .shortestSequence t cnt => [t, cnt]
  | .reachableVertices => []
  | .weightAt t => [t]
  | .minRubblingMoves t cnt => [t, cnt]
  | .maxPebblesByRubbling t => [t]
  | .canCover => []
  | .diameter => []
  | .pebblingNumber t => [t]
  | .rubblingNumber t => [t]
  | .graphPebblingNumber => []
  | .countUnsolvable t k => [t, k]
  | .unsolvableConfiguration t k i => [t, k, i]
  | .pathPartition t => [t]
  | .optimalConfiguration => []
  | .coverNumber => []
  | .breadthFirstCertificate t => [t]
  | .isValidCertificate t _ _ => [t]
  | .provesReachable t _ _ => [t]
  | .status => []
def cRows : Ks582.Call → List (List Nat)
  | .create _ => []
  | .addEdge _ _ => []
  | .removeEdge _ _ => []
  | .setPebbles ps => [ps]
  | .addPebbles _ _ => []
  | .move _ _ => []
  | .rubblingMove _ _ _ => []
  | .bringPebbles _ _ => []
  | .undo => []
  | .listEdges => []
  | .listPebbles => []
  | .distance _ _ => []
  | .minMoves _ _ => []
  | .maxPebblesAt _ => []
  | .shortestSequence _ _ => []
  | .reachableVertices => []
  | .weightAt _ => []
  | .minRubblingMoves _ _ => []
  | .maxPebblesByRubbling _ => []
  | .canCover => []
  | .diameter => []
  | .pebblingNumber _ => []
  | .rubblingNumber _ => []
  | .graphPebblingNumber => []
  | .countUnsolvable _ _ => []
  | .unsolvableConfiguration _ _ _ => []
  | .pathPartition _ => []
  | .optimalConfiguration => []
  | .coverNumber => []
  | .breadthFirstCertificate _ => []
  | .isValidCertificate _ ps ws => [ps, ws]
  | .provesReachable _ ps ws => [ps, ws]
  | .status => []
/-- what is given of a call, at gv -/
def GivenAt (H : Hp) (X : Addr → Prop) (gv : Addr) (c : Ks582.Call) : Prop := ∃ rs : List Addr, H gv = some (.lst (nVs (cArgs c) ++ ARefs rs)) ∧ Paired (LstOf H) rs (cRows c) ∧ (∀ r ∈ rs, X r) ∧ ∀ l ∈ cRows c, l.length ≤ 10800
theorem GivenAt.none {H : Hp} {X : Addr → Prop} {gv : Addr} {c : Ks582.Call} (h : GivenAt H X gv c) (h0 : cRows c = []) : H gv = some (.lst (nVs (cArgs c))) := by
  obtain ⟨rs, h1, h2, _⟩ := h
  rw [h0] at h2
  cases h2
  rw [h1]
  show some (HO.lst (_ ++ [])) = _
  rw [List.append_nil]
theorem GivenAt.one {H : Hp} {X : Addr → Prop} {gv : Addr} {c : Ks582.Call} {l : List Nat} (h : GivenAt H X gv c) (h0 : cRows c = [l]) : ∃ r : Addr, H gv = some (.lst (nVs (cArgs c) ++ [.ref r])) ∧ LstOf H r l ∧ X r ∧ l.length ≤ 10800 := by
  obtain ⟨rs, h1, h2, h3, h4⟩ := h
  rw [h0] at h2 h4
  cases h2 with
  | cons r t =>
    cases t
    exact ⟨_, h1, r, h3 _ (by simp), h4 _ (by simp)⟩
theorem GivenAt.two {H : Hp} {X : Addr → Prop} {gv : Addr} {c : Ks582.Call} {l m : List Nat} (h : GivenAt H X gv c) (h0 : cRows c = [l, m]) : ∃ r s : Addr, H gv = some (.lst (nVs (cArgs c) ++ [.ref r, .ref s])) ∧ LstOf H r l ∧ LstOf H s m ∧ l.length ≤ 10800 ∧ m.length ≤ 10800 := by
  obtain ⟨rs, h1, h2, h3, h4⟩ := h
  rw [h0] at h2 h4
  cases h2 with
  | cons r t =>
    cases t with
    | cons r2 t =>
      cases t
      exact ⟨_, _, h1, r, r2, h4 _ (by simp), h4 _ (by simp)⟩
theorem leastO_some {st : State} {t cnt k : Nat} {b : Bool} (ht : t < st.board.graph.vertexCount) (hm : minG (sucB st.board.graph b) st.board.pebbles t cnt = some k) : leastO st t cnt b = (st, ⟨(k : Int), []⟩) := by
  unfold leastO
  rw [if_neg (by omega), hm]
  rfl
theorem leastO_bad {st : State} {t cnt : Nat} {b : Bool} {code : Int} (h : BadL st t cnt b code) : leastO st t cnt b = (st, Ks577.number code) := by
  unfold leastO
  rcases h with ⟨h, rfl⟩ | ⟨h1, h2, rfl⟩
  · exact if_pos h
  · rw [if_neg (by omega), h2]
def sp_changed (P : Program) (w : World) (ad : Adr) : Sp := fun vs H Q E => ∃ (a gv : Addr) (c : Ks582.Call) (st : State) (X : Addr → Prop), vs = [.ref a, .int (cNum c : Nat), .ref gv] ∧ BoardAt P w ad H a st X ∧ GivenAt H X gv c ∧ 1 ≤ cNum c ∧ cNum c ≤ 8 ∧ Res P w ad H a X (Ks582.perform st c) Q E
theorem ok_changed (T : Txt K mg ad) : Ok P w K mg base (L2.CX P w) 9 ad.f_changed ["board", "number", "given"] (sp_changed P w ad) := by
  obtain ⟨fd, F⟩ := T.F_changed
  obtain ⟨fd_Board_undo, G_Board_undo, B_Board_undo⟩ := ok_Board_undo (P := P) (w := w) (base := base) T
  obtain ⟨fd_Board_bring, G_Board_bring, B_Board_bring⟩ := ok_Board_bring (P := P) (w := w) (base := base) T
  obtain ⟨fd_Board_rub, G_Board_rub, B_Board_rub⟩ := ok_Board_rub (P := P) (w := w) (base := base) T
  obtain ⟨fd_Board_put_pebbles, G_Board_put_pebbles, B_Board_put_pebbles⟩ := ok_Board_put_pebbles (P := P) (w := w) (base := base) T
  obtain ⟨fd_Board_set_pebbles, G_Board_set_pebbles, B_Board_set_pebbles⟩ := ok_Board_set_pebbles (P := P) (w := w) (base := base) T
  obtain ⟨fd_Board_take_edge, G_Board_take_edge, B_Board_take_edge⟩ := ok_Board_take_edge (P := P) (w := w) (base := base) T
  obtain ⟨fd_Board_put_edge, G_Board_put_edge, B_Board_put_edge⟩ := ok_Board_put_edge (P := P) (w := w) (base := base) T
  refine ⟨fd, F.okX sc_changed (fun vs H Q E h => ?_) (fun cdv A outer s H vs Q E hr h => ?_), F.binds fun _ _ _ _ _ _ us hl => match us, hl with | [_, _, _], _ => rfl⟩
  · obtain ⟨_, _, _, _, _, rfl, _⟩ := h
    rfl
  have hu := hu_of hr
  refine ⟨_, (pss_cons (ps_if (pt_cmpR op_eq (pv 1) pe_int (nomark _)) (pss_one (ps_ret (pe_meth (pv 0) T.cl_Board T.m_Board_put_edge G_Board_put_edge (hr.mono (by decide)) B_Board_put_edge .nil (passes_call (takes_of rfl rfl rfl rfl) (fun _ _ _ _ z => z)) (by exact (pa_cons (pe_ix ix_list (pv 2) pe_int (fun _ _ => rfl)) (pa_cons (pe_ix ix_list (pv 2) pe_int (fun _ _ => rfl)) pa_nil)))))) pss_nil)
      (pss_cons (ps_if (pt_cmpR op_eq (pv 1) pe_int (nomark _)) (pss_one (ps_ret (pe_meth (pv 0) T.cl_Board T.m_Board_take_edge G_Board_take_edge (hr.mono (by decide)) B_Board_take_edge .nil (passes_call (takes_of rfl rfl rfl rfl) (fun _ _ _ _ z => z)) (by exact (pa_cons (pe_ix ix_list (pv 2) pe_int (fun _ _ => rfl)) (pa_cons (pe_ix ix_list (pv 2) pe_int (fun _ _ => rfl)) pa_nil)))))) pss_nil)
      (pss_cons (ps_if (pt_cmpR op_eq (pv 1) pe_int (nomark _)) (pss_one (ps_ret (pe_meth (pv 0) T.cl_Board T.m_Board_set_pebbles G_Board_set_pebbles (hr.mono (by decide)) B_Board_set_pebbles .nil (passes_call (takes_of rfl rfl rfl rfl) (fun _ _ _ _ z => z)) (by exact (pa_cons (pe_ix ix_list (pv 2) pe_int (fun _ _ => rfl)) pa_nil))))) pss_nil)
      (pss_cons (ps_if (pt_cmpR op_eq (pv 1) pe_int (nomark _)) (pss_one (ps_ret (pe_meth (pv 0) T.cl_Board T.m_Board_put_pebbles G_Board_put_pebbles (hr.mono (by decide)) B_Board_put_pebbles .nil (passes_call (takes_of rfl rfl rfl rfl) (fun _ _ _ _ z => z)) (by exact (pa_cons (pe_ix ix_list (pv 2) pe_int (fun _ _ => rfl)) (pa_cons (pe_ix ix_list (pv 2) pe_int (fun _ _ => rfl)) pa_nil)))))) pss_nil)
      (pss_cons (ps_if (pt_cmpR op_eq (pv 1) pe_int (nomark _)) (pss_one (ps_ret (pe_meth (pv 0) T.cl_Board T.m_Board_rub G_Board_rub (hr.mono (by decide)) B_Board_rub .nil (passes_call (takes_of rfl rfl rfl rfl) (fun _ _ _ _ z => z)) (by exact (pa_cons (pe_ix ix_list (pv 2) pe_int (fun _ _ => rfl)) (pa_cons (pe_ix ix_list (pv 2) pe_int (fun _ _ => rfl)) (pa_cons (pe_ix ix_list (pv 2) pe_int (fun _ _ => rfl)) pa_nil))))))) pss_nil)
      (pss_cons (ps_if (pt_cmpR op_eq (pv 1) pe_int (nomark _)) (pss_one (ps_ret (pe_meth (pv 0) T.cl_Board T.m_Board_rub G_Board_rub (hr.mono (by decide)) B_Board_rub .nil (passes_call (takes_of rfl rfl rfl rfl) (fun _ _ _ _ z => z)) (by exact (pa_cons (pe_ix ix_list (pv 2) pe_int (fun _ _ => rfl)) (pa_cons (pe_ix ix_list (pv 2) pe_int (fun _ _ => rfl)) (pa_cons (pe_ix ix_list (pv 2) pe_int (fun _ _ => rfl)) pa_nil))))))) pss_nil)
      (pss_cons (ps_if (pt_cmpR op_eq (pv 1) pe_int (nomark _)) (pss_one (ps_ret (pe_meth (pv 0) T.cl_Board T.m_Board_bring G_Board_bring (hr.mono (by decide)) B_Board_bring .nil (passes_call (takes_of rfl rfl rfl rfl) (fun _ _ _ _ z => z)) (by exact (pa_cons (pe_ix ix_list (pv 2) pe_int (fun _ _ => rfl)) (pa_cons (pe_ix ix_list (pv 2) pe_int (fun _ _ => rfl)) pa_nil)))))) pss_nil)
      (pss_one (ps_ret (pe_meth0 (pv 0) T.cl_Board T.m_Board_undo G_Board_undo (hr.mono (by decide)) B_Board_undo .nil (passes_call (takes_of rfl rfl rfl rfl) (fun _ _ _ _ z => z)))))))))))), ?_⟩
  obtain ⟨a, gv, c, st, X, rfl, ⟨dx, e, p, er, so, ca, us, ss, ys, B⟩, hgiv, hlo, hhi, r⟩ := h
  cases c with
  | create _ => exact absurd hlo (by show ¬ (1 ≤ 0); decide)
  | addEdge u v =>
    have hg := hgiv.none rfl
    have hg : H gv = some (.lst [.int (u : Nat), .int (v : Nat)]) := hg
    refine ⟨_, rfl, rfl, _, rfl, if_true_of rfl ?_⟩
    exact ⟨_, rfl, a, dx, _, rfl, B.ins, rfl, _, rfl, gv, _, 0, _, rfl, rfl, sl_of' hg, rfl, _, rfl, gv, _, 1, _, rfl, rfl, sl_of' hg, rfl, a, u, v, st, X, rfl, B.at, r⟩
  | removeEdge u v =>
    have hg := hgiv.none rfl
    have hg : H gv = some (.lst [.int (u : Nat), .int (v : Nat)]) := hg
    refine ⟨_, rfl, rfl, _, rfl, if_false_of rfl ?_⟩
    refine ⟨_, rfl, rfl, _, rfl, if_true_of rfl ?_⟩
    exact ⟨_, rfl, a, dx, _, rfl, B.ins, rfl, _, rfl, gv, _, 0, _, rfl, rfl, sl_of' hg, rfl, _, rfl, gv, _, 1, _, rfl, rfl, sl_of' hg, rfl, a, u, v, st, X, rfl, B.at, r⟩
  | setPebbles ps =>
    obtain ⟨r1, hg, h1, hX, h3⟩ := hgiv.one rfl
    have hg : H gv = some (.lst [.ref r1]) := hg
    refine ⟨_, rfl, rfl, _, rfl, if_false_of rfl ?_⟩
    refine ⟨_, rfl, rfl, _, rfl, if_false_of rfl ?_⟩
    refine ⟨_, rfl, rfl, _, rfl, if_true_of rfl ?_⟩
    exact ⟨_, rfl, a, dx, _, rfl, B.ins, rfl, _, rfl, gv, _, 0, _, rfl, rfl, sl_of' hg, rfl, a, r1, ps, st, X, rfl, B.at, h1, hX, r⟩
  | addPebbles v cnt =>
    have hg := hgiv.none rfl
    have hg : H gv = some (.lst [.int (v : Nat), .int (cnt : Nat)]) := hg
    refine ⟨_, rfl, rfl, _, rfl, if_false_of rfl ?_⟩
    refine ⟨_, rfl, rfl, _, rfl, if_false_of rfl ?_⟩
    refine ⟨_, rfl, rfl, _, rfl, if_false_of rfl ?_⟩
    refine ⟨_, rfl, rfl, _, rfl, if_true_of rfl ?_⟩
    exact ⟨_, rfl, a, dx, _, rfl, B.ins, rfl, _, rfl, gv, _, 0, _, rfl, rfl, sl_of' hg, rfl, _, rfl, gv, _, 1, _, rfl, rfl, sl_of' hg, rfl, a, v, cnt, st, X, rfl, B.at, r⟩
  | move s1 t =>
    have hg := hgiv.none rfl
    have hg : H gv = some (.lst [.int (s1 : Nat), .int (t : Nat)]) := hg
    refine ⟨_, rfl, rfl, _, rfl, if_false_of rfl ?_⟩
    refine ⟨_, rfl, rfl, _, rfl, if_false_of rfl ?_⟩
    refine ⟨_, rfl, rfl, _, rfl, if_false_of rfl ?_⟩
    refine ⟨_, rfl, rfl, _, rfl, if_false_of rfl ?_⟩
    refine ⟨_, rfl, rfl, _, rfl, if_true_of rfl ?_⟩
    exact ⟨_, rfl, a, dx, _, rfl, B.ins, rfl, _, rfl, gv, _, 0, _, rfl, rfl, sl_of' hg, rfl, _, rfl, gv, _, 0, _, rfl, rfl, sl_of' hg, rfl, _, rfl, gv, _, 1, _, rfl, rfl, sl_of' hg, rfl, a, s1, s1, t, st, X, rfl, B.at, by rw [← perf_move B.ok.bd.len]; exact r⟩
  | rubblingMove f s1 t =>
    have hg := hgiv.none rfl
    have hg : H gv = some (.lst [.int (f : Nat), .int (s1 : Nat), .int (t : Nat)]) := hg
    refine ⟨_, rfl, rfl, _, rfl, if_false_of rfl ?_⟩
    refine ⟨_, rfl, rfl, _, rfl, if_false_of rfl ?_⟩
    refine ⟨_, rfl, rfl, _, rfl, if_false_of rfl ?_⟩
    refine ⟨_, rfl, rfl, _, rfl, if_false_of rfl ?_⟩
    refine ⟨_, rfl, rfl, _, rfl, if_false_of rfl ?_⟩
    refine ⟨_, rfl, rfl, _, rfl, if_true_of rfl ?_⟩
    exact ⟨_, rfl, a, dx, _, rfl, B.ins, rfl, _, rfl, gv, _, 0, _, rfl, rfl, sl_of' hg, rfl, _, rfl, gv, _, 1, _, rfl, rfl, sl_of' hg, rfl, _, rfl, gv, _, 2, _, rfl, rfl, sl_of' hg, rfl, a, f, s1, t, st, X, rfl, B.at, by rw [← perf_rub]; exact r⟩
  | bringPebbles t cnt =>
    have hg := hgiv.none rfl
    have hg : H gv = some (.lst [.int (t : Nat), .int (cnt : Nat)]) := hg
    refine ⟨_, rfl, rfl, _, rfl, if_false_of rfl ?_⟩
    refine ⟨_, rfl, rfl, _, rfl, if_false_of rfl ?_⟩
    refine ⟨_, rfl, rfl, _, rfl, if_false_of rfl ?_⟩
    refine ⟨_, rfl, rfl, _, rfl, if_false_of rfl ?_⟩
    refine ⟨_, rfl, rfl, _, rfl, if_false_of rfl ?_⟩
    refine ⟨_, rfl, rfl, _, rfl, if_false_of rfl ?_⟩
    refine ⟨_, rfl, rfl, _, rfl, if_true_of rfl ?_⟩
    exact ⟨_, rfl, a, dx, _, rfl, B.ins, rfl, _, rfl, gv, _, 0, _, rfl, rfl, sl_of' hg, rfl, _, rfl, gv, _, 1, _, rfl, rfl, sl_of' hg, rfl, a, t, cnt, st, X, rfl, B.at, by rw [← perf_bring]; exact r⟩
  | undo =>
    have hg := hgiv.none rfl
    have hg : H gv = some (.lst []) := hg
    refine ⟨_, rfl, rfl, _, rfl, if_false_of rfl ?_⟩
    refine ⟨_, rfl, rfl, _, rfl, if_false_of rfl ?_⟩
    refine ⟨_, rfl, rfl, _, rfl, if_false_of rfl ?_⟩
    refine ⟨_, rfl, rfl, _, rfl, if_false_of rfl ?_⟩
    refine ⟨_, rfl, rfl, _, rfl, if_false_of rfl ?_⟩
    refine ⟨_, rfl, rfl, _, rfl, if_false_of rfl ?_⟩
    refine ⟨_, rfl, rfl, _, rfl, if_false_of rfl ?_⟩
    exact ⟨_, rfl, a, dx, _, rfl, B.ins, rfl, a, st, X, rfl, B.at, r⟩
  | listEdges => exact absurd hhi (by show ¬ (9 ≤ 8); decide)
  | listPebbles => exact absurd hhi (by show ¬ (10 ≤ 8); decide)
  | distance _ _ => exact absurd hhi (by show ¬ (11 ≤ 8); decide)
  | minMoves _ _ => exact absurd hhi (by show ¬ (12 ≤ 8); decide)
  | maxPebblesAt _ => exact absurd hhi (by show ¬ (13 ≤ 8); decide)
  | shortestSequence _ _ => exact absurd hhi (by show ¬ (14 ≤ 8); decide)
  | reachableVertices => exact absurd hhi (by show ¬ (15 ≤ 8); decide)
  | weightAt _ => exact absurd hhi (by show ¬ (16 ≤ 8); decide)
  | minRubblingMoves _ _ => exact absurd hhi (by show ¬ (17 ≤ 8); decide)
  | maxPebblesByRubbling _ => exact absurd hhi (by show ¬ (18 ≤ 8); decide)
  | canCover => exact absurd hhi (by show ¬ (19 ≤ 8); decide)
  | diameter => exact absurd hhi (by show ¬ (20 ≤ 8); decide)
  | pebblingNumber _ => exact absurd hhi (by show ¬ (21 ≤ 8); decide)
  | rubblingNumber _ => exact absurd hhi (by show ¬ (22 ≤ 8); decide)
  | graphPebblingNumber => exact absurd hhi (by show ¬ (23 ≤ 8); decide)
  | countUnsolvable _ _ => exact absurd hhi (by show ¬ (24 ≤ 8); decide)
  | unsolvableConfiguration _ _ _ => exact absurd hhi (by show ¬ (25 ≤ 8); decide)
  | pathPartition _ => exact absurd hhi (by show ¬ (26 ≤ 8); decide)
  | optimalConfiguration => exact absurd hhi (by show ¬ (27 ≤ 8); decide)
  | coverNumber => exact absurd hhi (by show ¬ (28 ≤ 8); decide)
  | breadthFirstCertificate _ => exact absurd hhi (by show ¬ (29 ≤ 8); decide)
  | isValidCertificate _ _ _ => exact absurd hhi (by show ¬ (30 ≤ 8); decide)
  | provesReachable _ _ _ => exact absurd hhi (by show ¬ (31 ≤ 8); decide)
  | status => exact absurd hhi (by show ¬ (32 ≤ 8); decide)
def sp_asked (P : Program) (w : World) (ad : Adr) : Sp := fun vs H Q E => ∃ (a gv : Addr) (c : Ks582.Call) (st : State) (X : Addr → Prop), vs = [.ref a, .int (cNum c : Nat), .ref gv] ∧ BoardAt P w ad H a st X ∧ GivenAt H X gv c ∧ 9 ≤ cNum c ∧ cNum c ≤ 19 ∧ Res P w ad H a X (Ks582.perform st c) Q E
theorem ok_asked (T : Txt K mg ad) : Ok P w K mg base (L2.CX P w) 9 ad.f_asked ["board", "number", "given"] (sp_asked P w ad) := by
  obtain ⟨fd, F⟩ := T.F_asked
  obtain ⟨fd_Board_can_cover, G_Board_can_cover, B_Board_can_cover⟩ := ok_Board_can_cover (P := P) (w := w) (base := base) T
  obtain ⟨fd_Board_weight_at, G_Board_weight_at, B_Board_weight_at⟩ := ok_Board_weight_at (P := P) (w := w) (base := base) T
  obtain ⟨fd_Board_reachable, G_Board_reachable, B_Board_reachable⟩ := ok_Board_reachable (P := P) (w := w) (base := base) T
  obtain ⟨fd_Board_shortest_sequence, G_Board_shortest_sequence, B_Board_shortest_sequence⟩ := ok_Board_shortest_sequence (P := P) (w := w) (base := base) T
  obtain ⟨fd_Board_most, G_Board_most, B_Board_most⟩ := ok_Board_most (P := P) (w := w) (base := base) T
  obtain ⟨fd_Board_least, G_Board_least, B_Board_least⟩ := ok_Board_least (P := P) (w := w) (base := base) T
  obtain ⟨fd_Board_distance, G_Board_distance, B_Board_distance⟩ := ok_Board_distance (P := P) (w := w) (base := base) T
  obtain ⟨fd_Board_list_pebbles, G_Board_list_pebbles, B_Board_list_pebbles⟩ := ok_Board_list_pebbles (P := P) (w := w) (base := base) T
  obtain ⟨fd_Board_list_edges, G_Board_list_edges, B_Board_list_edges⟩ := ok_Board_list_edges (P := P) (w := w) (base := base) T
  refine ⟨fd, F.okX sc_asked (fun vs H Q E h => ?_) (fun cdv A outer s H vs Q E hr h => ?_), F.binds fun _ _ _ _ _ _ us hl => match us, hl with | [_, _, _], _ => rfl⟩
  · obtain ⟨_, _, _, _, _, rfl, _⟩ := h
    rfl
  have hu := hu_of hr
  refine ⟨_, (pss_cons (ps_if (pt_cmpR op_eq (pv 1) pe_int (nomark _)) (pss_one (ps_ret (pe_meth0 (pv 0) T.cl_Board T.m_Board_list_edges G_Board_list_edges (hr.mono (by decide)) B_Board_list_edges .nil pass0))) pss_nil)
      (pss_cons (ps_if (pt_cmpR op_eq (pv 1) pe_int (nomark _)) (pss_one (ps_ret (pe_meth0 (pv 0) T.cl_Board T.m_Board_list_pebbles G_Board_list_pebbles (hr.mono (by decide)) B_Board_list_pebbles .nil pass0))) pss_nil)
      (pss_cons (ps_if (pt_cmpR op_eq (pv 1) pe_int (nomark _)) (pss_one (ps_ret (pe_meth (pv 0) T.cl_Board T.m_Board_distance G_Board_distance (hr.mono (by decide)) B_Board_distance .nil (passes_call (takes_of rfl rfl rfl rfl) (fun _ _ _ _ z => z)) (by exact (pa_cons (pe_ix ix_list (pv 2) pe_int (fun _ _ => rfl)) (pa_cons (pe_ix ix_list (pv 2) pe_int (fun _ _ => rfl)) pa_nil)))))) pss_nil)
      (pss_cons (ps_if (PW.pt (pw_or (pt_cmpR op_eq (pv 1) pe_int (nomark _)) (pw_or1 (pt_cmpR op_eq (pv 1) pe_int (nomark _))))) (pss_one (ps_ret (pe_meth (pv 0) T.cl_Board T.m_Board_least G_Board_least (hr.mono (by decide)) B_Board_least .nil (passes_call (takes_of rfl rfl rfl rfl) (fun _ _ _ _ z => z)) (by exact (pa_cons (pe_ix ix_list (pv 2) pe_int (fun _ _ => rfl)) (pa_cons (pe_ix ix_list (pv 2) pe_int (fun _ _ => rfl)) (pa_cons (pe_cmpR op_eq (pv 1) pe_int (nomark _)) pa_nil))))))) pss_nil)
      (pss_cons (ps_if (PW.pt (pw_or (pt_cmpR op_eq (pv 1) pe_int (nomark _)) (pw_or1 (pt_cmpR op_eq (pv 1) pe_int (nomark _))))) (pss_one (ps_ret (pe_meth (pv 0) T.cl_Board T.m_Board_most G_Board_most (hr.mono (by decide)) B_Board_most .nil (passes_call (takes_of rfl rfl rfl rfl) (fun _ _ _ _ z => z)) (by exact (pa_cons (pe_ix ix_list (pv 2) pe_int (fun _ _ => rfl)) (pa_cons (pe_cmpR op_eq (pv 1) pe_int (nomark _)) pa_nil)))))) pss_nil)
      (pss_cons (ps_if (pt_cmpR op_eq (pv 1) pe_int (nomark _)) (pss_one (ps_ret (pe_meth (pv 0) T.cl_Board T.m_Board_shortest_sequence G_Board_shortest_sequence (hr.mono (by decide)) B_Board_shortest_sequence .nil (passes_call (takes_of rfl rfl rfl rfl) (fun _ _ _ _ z => z)) (by exact (pa_cons (pe_ix ix_list (pv 2) pe_int (fun _ _ => rfl)) (pa_cons (pe_ix ix_list (pv 2) pe_int (fun _ _ => rfl)) pa_nil)))))) pss_nil)
      (pss_cons (ps_if (pt_cmpR op_eq (pv 1) pe_int (nomark _)) (pss_one (ps_ret (pe_meth0 (pv 0) T.cl_Board T.m_Board_reachable G_Board_reachable (hr.mono (by decide)) B_Board_reachable .nil pass0))) pss_nil)
      (pss_cons (ps_if (pt_cmpR op_eq (pv 1) pe_int (nomark _)) (pss_one (ps_ret (pe_meth (pv 0) T.cl_Board T.m_Board_weight_at G_Board_weight_at (hr.mono (by decide)) B_Board_weight_at .nil (passes_call (takes_of rfl rfl rfl rfl) (fun _ _ _ _ z => z)) (by exact (pa_cons (pe_ix ix_list (pv 2) pe_int (fun _ _ => rfl)) pa_nil))))) pss_nil)
      (pss_one (ps_ret (pe_meth0 (pv 0) T.cl_Board T.m_Board_can_cover G_Board_can_cover (hr.mono (by decide)) B_Board_can_cover .nil pass0))))))))))), ?_⟩
  obtain ⟨a, gv, c, st, X, rfl, ⟨dx, e, p, er, so, ca, us, ss, ys, B⟩, hgiv, hlo, hhi, r⟩ := h
  cases c with
  | create _ => exact absurd hlo (by show ¬ (9 ≤ 0); decide)
  | addEdge _ _ => exact absurd hlo (by show ¬ (9 ≤ 1); decide)
  | removeEdge _ _ => exact absurd hlo (by show ¬ (9 ≤ 2); decide)
  | setPebbles _ => exact absurd hlo (by show ¬ (9 ≤ 3); decide)
  | addPebbles _ _ => exact absurd hlo (by show ¬ (9 ≤ 4); decide)
  | move _ _ => exact absurd hlo (by show ¬ (9 ≤ 5); decide)
  | rubblingMove _ _ _ => exact absurd hlo (by show ¬ (9 ≤ 6); decide)
  | bringPebbles _ _ => exact absurd hlo (by show ¬ (9 ≤ 7); decide)
  | undo => exact absurd hlo (by show ¬ (9 ≤ 8); decide)
  | listEdges =>
    have hg := hgiv.none rfl
    have hg : H gv = some (.lst []) := hg
    refine ⟨_, rfl, rfl, _, rfl, if_true_of rfl ?_⟩
    exact ⟨_, rfl, a, dx, _, rfl, B.ins, rfl, a, st, X, rfl, B.at, r.1⟩
  | listPebbles =>
    have hg := hgiv.none rfl
    have hg : H gv = some (.lst []) := hg
    refine ⟨_, rfl, rfl, _, rfl, if_false_of rfl ?_⟩
    refine ⟨_, rfl, rfl, _, rfl, if_true_of rfl ?_⟩
    exact ⟨_, rfl, a, dx, _, rfl, B.ins, rfl, a, st, X, rfl, B.at, r.1⟩
  | distance u v =>
    have hg := hgiv.none rfl
    have hg : H gv = some (.lst [.int (u : Nat), .int (v : Nat)]) := hg
    refine ⟨_, rfl, rfl, _, rfl, if_false_of rfl ?_⟩
    refine ⟨_, rfl, rfl, _, rfl, if_false_of rfl ?_⟩
    refine ⟨_, rfl, rfl, _, rfl, if_true_of rfl ?_⟩
    exact ⟨_, rfl, a, dx, _, rfl, B.ins, rfl, _, rfl, gv, _, 0, _, rfl, rfl, sl_of' hg, rfl, _, rfl, gv, _, 1, _, rfl, rfl, sl_of' hg, rfl, a, u, v, st, X, rfl, B.at, r⟩
  | minMoves t cnt =>
    have hg := hgiv.none rfl
    have hg : H gv = some (.lst [.int (t : Nat), .int (cnt : Nat)]) := hg
    refine ⟨_, rfl, rfl, _, rfl, if_false_of rfl ?_⟩
    refine ⟨_, rfl, rfl, _, rfl, if_false_of rfl ?_⟩
    refine ⟨_, rfl, rfl, _, rfl, if_false_of rfl ?_⟩
    refine ⟨_, rfl, rfl, _, rfl, if_true_of rfl (if_true_of rfl ?_)⟩
    exact ⟨_, rfl, a, dx, _, rfl, B.ins, rfl, _, rfl, gv, _, 0, _, rfl, rfl, sl_of' hg, rfl, _, rfl, gv, _, 1, _, rfl, rfl, sl_of' hg, rfl, _, rfl, rfl, a, t, cnt, false, st, X, rfl, B.at, (fun k H2 p ht hm f hp B2 hI => r.ok ((perf_min st t cnt).trans (leastO_some ht hm)) f hp B2 hI), fun H2 code hb f B2 => r.no ((perf_min st t cnt).trans (leastO_bad hb)) f B2⟩
  | maxPebblesAt t =>
    have hg := hgiv.none rfl
    have hg : H gv = some (.lst [.int (t : Nat)]) := hg
    refine ⟨_, rfl, rfl, _, rfl, if_false_of rfl ?_⟩
    refine ⟨_, rfl, rfl, _, rfl, if_false_of rfl ?_⟩
    refine ⟨_, rfl, rfl, _, rfl, if_false_of rfl ?_⟩
    refine ⟨_, rfl, rfl, _, rfl, if_false_of rfl ⟨_, rfl, rfl, _, rfl, if_false_of rfl ?_⟩⟩
    refine ⟨_, rfl, rfl, _, rfl, if_true_of rfl (if_true_of rfl ?_)⟩
    exact ⟨_, rfl, a, dx, _, rfl, B.ins, rfl, _, rfl, gv, _, 0, _, rfl, rfl, sl_of' hg, rfl, _, rfl, rfl, a, t, false, st, X, rfl, B.at, by rw [← perf_max]; exact r⟩
  | shortestSequence t cnt =>
    have hg := hgiv.none rfl
    have hg : H gv = some (.lst [.int (t : Nat), .int (cnt : Nat)]) := hg
    refine ⟨_, rfl, rfl, _, rfl, if_false_of rfl ?_⟩
    refine ⟨_, rfl, rfl, _, rfl, if_false_of rfl ?_⟩
    refine ⟨_, rfl, rfl, _, rfl, if_false_of rfl ?_⟩
    refine ⟨_, rfl, rfl, _, rfl, if_false_of rfl ⟨_, rfl, rfl, _, rfl, if_false_of rfl ?_⟩⟩
    refine ⟨_, rfl, rfl, _, rfl, if_false_of rfl ⟨_, rfl, rfl, _, rfl, if_false_of rfl ?_⟩⟩
    refine ⟨_, rfl, rfl, _, rfl, if_true_of rfl ?_⟩
    exact ⟨_, rfl, a, dx, _, rfl, B.ins, rfl, _, rfl, gv, _, 0, _, rfl, rfl, sl_of' hg, rfl, _, rfl, gv, _, 1, _, rfl, rfl, sl_of' hg, rfl, a, t, cnt, st, X, rfl, B.at, by rw [← perf_seq]; exact r⟩
  | reachableVertices =>
    have hg := hgiv.none rfl
    have hg : H gv = some (.lst []) := hg
    refine ⟨_, rfl, rfl, _, rfl, if_false_of rfl ?_⟩
    refine ⟨_, rfl, rfl, _, rfl, if_false_of rfl ?_⟩
    refine ⟨_, rfl, rfl, _, rfl, if_false_of rfl ?_⟩
    refine ⟨_, rfl, rfl, _, rfl, if_false_of rfl ⟨_, rfl, rfl, _, rfl, if_false_of rfl ?_⟩⟩
    refine ⟨_, rfl, rfl, _, rfl, if_false_of rfl ⟨_, rfl, rfl, _, rfl, if_false_of rfl ?_⟩⟩
    refine ⟨_, rfl, rfl, _, rfl, if_false_of rfl ?_⟩
    refine ⟨_, rfl, rfl, _, rfl, if_true_of rfl ?_⟩
    exact ⟨_, rfl, a, dx, _, rfl, B.ins, rfl, a, st, X, rfl, B.at, r.1⟩
  | weightAt t =>
    have hg := hgiv.none rfl
    have hg : H gv = some (.lst [.int (t : Nat)]) := hg
    refine ⟨_, rfl, rfl, _, rfl, if_false_of rfl ?_⟩
    refine ⟨_, rfl, rfl, _, rfl, if_false_of rfl ?_⟩
    refine ⟨_, rfl, rfl, _, rfl, if_false_of rfl ?_⟩
    refine ⟨_, rfl, rfl, _, rfl, if_false_of rfl ⟨_, rfl, rfl, _, rfl, if_false_of rfl ?_⟩⟩
    refine ⟨_, rfl, rfl, _, rfl, if_false_of rfl ⟨_, rfl, rfl, _, rfl, if_false_of rfl ?_⟩⟩
    refine ⟨_, rfl, rfl, _, rfl, if_false_of rfl ?_⟩
    refine ⟨_, rfl, rfl, _, rfl, if_false_of rfl ?_⟩
    refine ⟨_, rfl, rfl, _, rfl, if_true_of rfl ?_⟩
    exact ⟨_, rfl, a, dx, _, rfl, B.ins, rfl, _, rfl, gv, _, 0, _, rfl, rfl, sl_of' hg, rfl, a, t, st, X, rfl, B.at, r⟩
  | minRubblingMoves t cnt =>
    have hg := hgiv.none rfl
    have hg : H gv = some (.lst [.int (t : Nat), .int (cnt : Nat)]) := hg
    refine ⟨_, rfl, rfl, _, rfl, if_false_of rfl ?_⟩
    refine ⟨_, rfl, rfl, _, rfl, if_false_of rfl ?_⟩
    refine ⟨_, rfl, rfl, _, rfl, if_false_of rfl ?_⟩
    refine ⟨_, rfl, rfl, _, rfl, if_false_of rfl ⟨_, rfl, rfl, _, rfl, if_true_of rfl ?_⟩⟩
    exact ⟨_, rfl, a, dx, _, rfl, B.ins, rfl, _, rfl, gv, _, 0, _, rfl, rfl, sl_of' hg, rfl, _, rfl, gv, _, 1, _, rfl, rfl, sl_of' hg, rfl, _, rfl, rfl, a, t, cnt, true, st, X, rfl, B.at, (fun k H2 p ht hm f hp B2 hI => r.ok ((perf_minR st t cnt).trans (leastO_some ht hm)) f hp B2 hI), fun H2 code hb f B2 => r.no ((perf_minR st t cnt).trans (leastO_bad hb)) f B2⟩
  | maxPebblesByRubbling t =>
    have hg := hgiv.none rfl
    have hg : H gv = some (.lst [.int (t : Nat)]) := hg
    refine ⟨_, rfl, rfl, _, rfl, if_false_of rfl ?_⟩
    refine ⟨_, rfl, rfl, _, rfl, if_false_of rfl ?_⟩
    refine ⟨_, rfl, rfl, _, rfl, if_false_of rfl ?_⟩
    refine ⟨_, rfl, rfl, _, rfl, if_false_of rfl ⟨_, rfl, rfl, _, rfl, if_false_of rfl ?_⟩⟩
    refine ⟨_, rfl, rfl, _, rfl, if_false_of rfl ⟨_, rfl, rfl, _, rfl, if_true_of rfl ?_⟩⟩
    exact ⟨_, rfl, a, dx, _, rfl, B.ins, rfl, _, rfl, gv, _, 0, _, rfl, rfl, sl_of' hg, rfl, _, rfl, rfl, a, t, true, st, X, rfl, B.at, by rw [← perf_maxR]; exact r⟩
  | canCover =>
    have hg := hgiv.none rfl
    have hg : H gv = some (.lst []) := hg
    refine ⟨_, rfl, rfl, _, rfl, if_false_of rfl ?_⟩
    refine ⟨_, rfl, rfl, _, rfl, if_false_of rfl ?_⟩
    refine ⟨_, rfl, rfl, _, rfl, if_false_of rfl ?_⟩
    refine ⟨_, rfl, rfl, _, rfl, if_false_of rfl ⟨_, rfl, rfl, _, rfl, if_false_of rfl ?_⟩⟩
    refine ⟨_, rfl, rfl, _, rfl, if_false_of rfl ⟨_, rfl, rfl, _, rfl, if_false_of rfl ?_⟩⟩
    refine ⟨_, rfl, rfl, _, rfl, if_false_of rfl ?_⟩
    refine ⟨_, rfl, rfl, _, rfl, if_false_of rfl ?_⟩
    refine ⟨_, rfl, rfl, _, rfl, if_false_of rfl ?_⟩
    exact ⟨_, rfl, a, dx, _, rfl, B.ins, rfl, a, st, X, rfl, B.at, r.1⟩
  | diameter => exact absurd hhi (by show ¬ (20 ≤ 19); decide)
  | pebblingNumber _ => exact absurd hhi (by show ¬ (21 ≤ 19); decide)
  | rubblingNumber _ => exact absurd hhi (by show ¬ (22 ≤ 19); decide)
  | graphPebblingNumber => exact absurd hhi (by show ¬ (23 ≤ 19); decide)
  | countUnsolvable _ _ => exact absurd hhi (by show ¬ (24 ≤ 19); decide)
  | unsolvableConfiguration _ _ _ => exact absurd hhi (by show ¬ (25 ≤ 19); decide)
  | pathPartition _ => exact absurd hhi (by show ¬ (26 ≤ 19); decide)
  | optimalConfiguration => exact absurd hhi (by show ¬ (27 ≤ 19); decide)
  | coverNumber => exact absurd hhi (by show ¬ (28 ≤ 19); decide)
  | breadthFirstCertificate _ => exact absurd hhi (by show ¬ (29 ≤ 19); decide)
  | isValidCertificate _ _ _ => exact absurd hhi (by show ¬ (30 ≤ 19); decide)
  | provesReachable _ _ _ => exact absurd hhi (by show ¬ (31 ≤ 19); decide)
  | status => exact absurd hhi (by show ¬ (32 ≤ 19); decide)
def sp_asked_more (P : Program) (w : World) (ad : Adr) : Sp := fun vs H Q E => ∃ (a gv : Addr) (c : Ks582.Call) (st : State) (X : Addr → Prop), vs = [.ref a, .int (cNum c : Nat), .ref gv] ∧ BoardAt P w ad H a st X ∧ GivenAt H X gv c ∧ 20 ≤ cNum c ∧ cNum c ≤ 32 ∧ Res P w ad H a X (Ks582.perform st c) Q E
theorem ok_asked_more (T : Txt K mg ad) : Ok P w K mg base (L2.CX P w) 20 ad.f_asked_more ["board", "number", "given"] (sp_asked_more P w ad) := by
  obtain ⟨fd, F⟩ := T.F_asked_more
  obtain ⟨fd_Board_status, G_Board_status, B_Board_status⟩ := ok_Board_status (P := P) (w := w) (base := base) T
  obtain ⟨fd_Board_proves, G_Board_proves, B_Board_proves⟩ := ok_Board_proves (P := P) (w := w) (base := base) T
  obtain ⟨fd_Board_is_valid, G_Board_is_valid, B_Board_is_valid⟩ := ok_Board_is_valid (P := P) (w := w) (base := base) T
  obtain ⟨fd_Board_certificate, G_Board_certificate, B_Board_certificate⟩ := ok_Board_certificate (P := P) (w := w) (base := base) T
  obtain ⟨fd_Board_cover, G_Board_cover, B_Board_cover⟩ := ok_Board_cover (P := P) (w := w) (base := base) T
  obtain ⟨fd_Board_optimal, G_Board_optimal, B_Board_optimal⟩ := ok_Board_optimal (P := P) (w := w) (base := base) T
  obtain ⟨fd_Board_path_partition, G_Board_path_partition, B_Board_path_partition⟩ := ok_Board_path_partition (P := P) (w := w) (base := base) T
  obtain ⟨fd_Board_unsolvable_at, G_Board_unsolvable_at, B_Board_unsolvable_at⟩ := ok_Board_unsolvable_at (P := P) (w := w) (base := base) T
  obtain ⟨fd_Board_unsolvable, G_Board_unsolvable, B_Board_unsolvable⟩ := ok_Board_unsolvable (P := P) (w := w) (base := base) T
  obtain ⟨fd_Board_graph_number, G_Board_graph_number, B_Board_graph_number⟩ := ok_Board_graph_number (P := P) (w := w) (base := base) T
  obtain ⟨fd_Board_number, G_Board_number, B_Board_number⟩ := ok_Board_number (P := P) (w := w) (base := base) T
  obtain ⟨fd_Board_connected_diameter, G_Board_connected_diameter, B_Board_connected_diameter⟩ := ok_Board_connected_diameter (P := P) (w := w) (base := base) T
  refine ⟨fd, F.okX sc_asked_more (fun vs H Q E h => ?_) (fun cdv A outer s H vs Q E hr h => ?_), F.binds fun _ _ _ _ _ _ us hl => match us, hl with | [_, _, _], _ => rfl⟩
  · obtain ⟨_, _, _, _, _, rfl, _⟩ := h
    rfl
  have hu := hu_of hr
  refine ⟨_, (pss_cons (ps_if (pt_cmpR op_eq (pv 1) pe_int (nomark _)) (pss_one (ps_ret (pe_lst (by exact (pa_cons (pe_meth0 (pv 0) T.cl_Board T.m_Board_connected_diameter G_Board_connected_diameter (hr.mono (by decide)) B_Board_connected_diameter .nil (passes_call (takes_of rfl rfl rfl rfl) (fun _ _ _ _ z => z))) pa_nil))))) pss_nil)
      (pss_cons (ps_if (PW.pt (pw_or (pt_cmpR op_eq (pv 1) pe_int (nomark _)) (pw_or1 (pt_cmpR op_eq (pv 1) pe_int (nomark _))))) (pss_one (ps_ret (pe_meth (pv 0) T.cl_Board T.m_Board_number G_Board_number (hr.mono (by decide)) B_Board_number .nil (passes_call (takes_of rfl rfl rfl rfl) (fun _ _ _ _ z => z)) (by exact (pa_cons (pe_ix ix_list (pv 2) pe_int (fun _ _ => rfl)) (pa_cons (pe_cmpR op_eq (pv 1) pe_int (nomark _)) pa_nil)))))) pss_nil)
      (pss_cons (ps_if (pt_cmpR op_eq (pv 1) pe_int (nomark _)) (pss_one (ps_ret (pe_meth0 (pv 0) T.cl_Board T.m_Board_graph_number G_Board_graph_number (hr.mono (by decide)) B_Board_graph_number .nil (passes_call (takes_of rfl rfl rfl rfl) (fun _ _ _ _ z => z))))) pss_nil)
      (pss_cons (ps_if (pt_cmpR op_eq (pv 1) pe_int (nomark _)) (pss_one (ps_ret (pe_lst (by exact (pa_cons (pe_callB call_len_seq (by rfl) T.n_len (by decide +kernel) (by exact (pa_cons (pe_meth (pv 0) T.cl_Board T.m_Board_unsolvable G_Board_unsolvable (hr.mono (by decide)) B_Board_unsolvable .nil (passes_call (takes_of rfl rfl rfl rfl) (fun _ _ _ _ z => z)) (by exact (pa_cons (pe_ix ix_list (pv 2) pe_int (fun _ _ => rfl)) (pa_cons (pe_ix ix_list (pv 2) pe_int (fun _ _ => rfl)) pa_nil)))) pa_nil))) pa_nil))))) pss_nil)
      (pss_cons (ps_if (pt_cmpR op_eq (pv 1) pe_int (nomark _)) (pss_one (ps_ret (pe_meth (pv 0) T.cl_Board T.m_Board_unsolvable_at G_Board_unsolvable_at (hr.mono (by decide)) B_Board_unsolvable_at .nil (passes_call (takes_of rfl rfl rfl rfl) (fun _ _ _ _ z => z)) (by exact (pa_cons (pe_ix ix_list (pv 2) pe_int (fun _ _ => rfl)) (pa_cons (pe_ix ix_list (pv 2) pe_int (fun _ _ => rfl)) (pa_cons (pe_ix ix_list (pv 2) pe_int (fun _ _ => rfl)) pa_nil))))))) pss_nil)
      (pss_cons (ps_if (pt_cmpR op_eq (pv 1) pe_int (nomark _)) (pss_one (ps_ret (pe_meth (pv 0) T.cl_Board T.m_Board_path_partition G_Board_path_partition (hr.mono (by decide)) B_Board_path_partition .nil (passes_call (takes_of rfl rfl rfl rfl) (fun _ _ _ _ z => z)) (by exact (pa_cons (pe_ix ix_list (pv 2) pe_int (fun _ _ => rfl)) pa_nil))))) pss_nil)
      (pss_cons (ps_if (pt_cmpR op_eq (pv 1) pe_int (nomark _)) (pss_one (ps_ret (pe_meth0 (pv 0) T.cl_Board T.m_Board_optimal G_Board_optimal (hr.mono (by decide)) B_Board_optimal .nil pass0))) pss_nil)
      (pss_cons (ps_if (pt_cmpR op_eq (pv 1) pe_int (nomark _)) (pss_one (ps_ret (pe_meth0 (pv 0) T.cl_Board T.m_Board_cover G_Board_cover (hr.mono (by decide)) B_Board_cover .nil (passes_call (takes_of rfl rfl rfl rfl) (fun _ _ _ _ z => z))))) pss_nil)
      (pss_cons (ps_if (pt_cmpR op_eq (pv 1) pe_int (nomark _)) (pss_one (ps_ret (pe_meth (pv 0) T.cl_Board T.m_Board_certificate G_Board_certificate (hr.mono (by decide)) B_Board_certificate .nil (passes_call (takes_of rfl rfl rfl rfl) (fun _ _ _ _ z => z)) (by exact (pa_cons (pe_ix ix_list (pv 2) pe_int (fun _ _ => rfl)) pa_nil))))) pss_nil)
      (pss_cons (ps_if (pt_cmpR op_eq (pv 1) pe_int (nomark _)) (pss_one (ps_ret (pe_lst (by exact (pa_cons (pe_ifExp (pt_val (pe_meth (pv 0) T.cl_Board T.m_Board_is_valid G_Board_is_valid (hr.mono (by decide)) B_Board_is_valid .nil (passes_call (takes_of rfl rfl rfl rfl) (fun _ _ _ _ z => z)) (by exact (pa_cons (pe_ix ix_list (pv 2) pe_int (fun _ _ => rfl)) (pa_cons (pe_ix ix_list (pv 2) pe_int (fun _ _ => rfl)) (pa_cons (pe_ix ix_list (pv 2) pe_int (fun _ _ => rfl)) pa_nil)))))) pe_int pe_int) pa_nil))))) pss_nil)
      (pss_cons (ps_if (pt_cmpR op_eq (pv 1) pe_int (nomark _)) (pss_one (ps_ret (pe_meth (pv 0) T.cl_Board T.m_Board_proves G_Board_proves (hr.mono (by decide)) B_Board_proves .nil (passes_call (takes_of rfl rfl rfl rfl) (fun _ _ _ _ z => z)) (by exact (pa_cons (pe_ix ix_list (pv 2) pe_int (fun _ _ => rfl)) (pa_cons (pe_ix ix_list (pv 2) pe_int (fun _ _ => rfl)) (pa_cons (pe_ix ix_list (pv 2) pe_int (fun _ _ => rfl)) pa_nil))))))) pss_nil)
      (pss_one (ps_ret (pe_meth0 (pv 0) T.cl_Board T.m_Board_status G_Board_status (hr.mono (by decide)) B_Board_status .nil pass0)))))))))))))), ?_⟩
  obtain ⟨a, gv, c, st, X, rfl, ⟨dx, e, p, er, so, ca, us, ss, ys, B⟩, hgiv, hlo, hhi, r⟩ := h
  cases c with
  | create _ => exact absurd hlo (by show ¬ (20 ≤ 0); decide)
  | addEdge _ _ => exact absurd hlo (by show ¬ (20 ≤ 1); decide)
  | removeEdge _ _ => exact absurd hlo (by show ¬ (20 ≤ 2); decide)
  | setPebbles _ => exact absurd hlo (by show ¬ (20 ≤ 3); decide)
  | addPebbles _ _ => exact absurd hlo (by show ¬ (20 ≤ 4); decide)
  | move _ _ => exact absurd hlo (by show ¬ (20 ≤ 5); decide)
  | rubblingMove _ _ _ => exact absurd hlo (by show ¬ (20 ≤ 6); decide)
  | bringPebbles _ _ => exact absurd hlo (by show ¬ (20 ≤ 7); decide)
  | undo => exact absurd hlo (by show ¬ (20 ≤ 8); decide)
  | listEdges => exact absurd hlo (by show ¬ (20 ≤ 9); decide)
  | listPebbles => exact absurd hlo (by show ¬ (20 ≤ 10); decide)
  | distance _ _ => exact absurd hlo (by show ¬ (20 ≤ 11); decide)
  | minMoves _ _ => exact absurd hlo (by show ¬ (20 ≤ 12); decide)
  | maxPebblesAt _ => exact absurd hlo (by show ¬ (20 ≤ 13); decide)
  | shortestSequence _ _ => exact absurd hlo (by show ¬ (20 ≤ 14); decide)
  | reachableVertices => exact absurd hlo (by show ¬ (20 ≤ 15); decide)
  | weightAt _ => exact absurd hlo (by show ¬ (20 ≤ 16); decide)
  | minRubblingMoves _ _ => exact absurd hlo (by show ¬ (20 ≤ 17); decide)
  | maxPebblesByRubbling _ => exact absurd hlo (by show ¬ (20 ≤ 18); decide)
  | canCover => exact absurd hlo (by show ¬ (20 ≤ 19); decide)
  | diameter =>
    have hg := hgiv.none rfl
    have hg : H gv = some (.lst []) := hg
    refine ⟨_, rfl, rfl, _, rfl, if_true_of rfl ?_⟩
    exact ⟨_, rfl, a, dx, _, rfl, B.ins, rfl, a, st, X, rfl, B.at, (fun hcn H2 x2 => ⟨by show 1 ≤ sizeLine; exact szs (by omega), fun y hy => r.ok (if_neg hcn) (Fr.ex (x2.trans (Ex.new hy))) (fresh_back x2 hy) (B.kx (KX.ex (x2.trans (Ex.new hy)))).at one_ret⟩), fun hcn H2 x2 => r.no (if_pos hcn) (Fr.ex x2) (B.kx (KX.ex x2)).at⟩
  | pebblingNumber t =>
    have hg := hgiv.none rfl
    have hg : H gv = some (.lst [.int (t : Nat)]) := hg
    refine ⟨_, rfl, rfl, _, rfl, if_false_of rfl ?_⟩
    refine ⟨_, rfl, rfl, _, rfl, if_true_of rfl (if_true_of rfl ?_)⟩
    exact ⟨_, rfl, a, dx, _, rfl, B.ins, rfl, _, rfl, gv, _, 0, _, rfl, rfl, sl_of' hg, rfl, _, rfl, rfl, a, t, false, st, X, rfl, B.at, by rw [← perf_num]; exact r⟩
  | rubblingNumber t =>
    have hg := hgiv.none rfl
    have hg : H gv = some (.lst [.int (t : Nat)]) := hg
    refine ⟨_, rfl, rfl, _, rfl, if_false_of rfl ?_⟩
    refine ⟨_, rfl, rfl, _, rfl, if_false_of rfl ⟨_, rfl, rfl, _, rfl, if_true_of rfl ?_⟩⟩
    exact ⟨_, rfl, a, dx, _, rfl, B.ins, rfl, _, rfl, gv, _, 0, _, rfl, rfl, sl_of' hg, rfl, _, rfl, rfl, a, t, true, st, X, rfl, B.at, by rw [← perf_numR]; exact r⟩
  | graphPebblingNumber =>
    have hg := hgiv.none rfl
    have hg : H gv = some (.lst []) := hg
    refine ⟨_, rfl, rfl, _, rfl, if_false_of rfl ?_⟩
    refine ⟨_, rfl, rfl, _, rfl, if_false_of rfl ⟨_, rfl, rfl, _, rfl, if_false_of rfl ?_⟩⟩
    refine ⟨_, rfl, rfl, _, rfl, if_true_of rfl ?_⟩
    exact ⟨_, rfl, a, dx, _, rfl, B.ins, rfl, a, st, X, rfl, B.at, by rw [← perf_gnum]; exact r⟩
  | countUnsolvable t k =>
    have hg := hgiv.none rfl
    have hg : H gv = some (.lst [.int (t : Nat), .int (k : Nat)]) := hg
    refine ⟨_, rfl, rfl, _, rfl, if_false_of rfl ?_⟩
    refine ⟨_, rfl, rfl, _, rfl, if_false_of rfl ⟨_, rfl, rfl, _, rfl, if_false_of rfl ?_⟩⟩
    refine ⟨_, rfl, rfl, _, rfl, if_false_of rfl ?_⟩
    refine ⟨_, rfl, rfl, _, rfl, if_true_of rfl ?_⟩
    refine ⟨_, rfl, a, dx, _, rfl, B.ins, rfl, _, rfl, gv, _, 0, _, rfl, rfl, sl_of' hg, rfl, _, rfl, gv, _, 1, _, rfl, rfl, sl_of' hg, rfl, a, t, k, st, X, rfl, B.at, (fun H2 p ht Sm hk f2 hp B2 hT hlen => ?_), fun H2 code hb f2 B2 => r.no ((perf_cnt B.ok.bd.wg t k).trans (badU hb).1) f2 B2⟩
    obtain ⟨zs, hzs, hzP⟩ := hT
    have hzl := Paired.length hzP
    refine ⟨p, _, rfl, .inl (sl_of' hzs), by show 1 ≤ sizeLine; exact szs (by omega), fun y hy => ?_⟩
    refine r.ok ((perf_cnt B.ok.bd.wg t k).trans ((if_neg (by omega)).trans ((smallO_of Sm _).trans (if_neg (by omega))))) (f2.trans (Fr.ex (Ex.new hy))) (f2.dom _ hy) (B2.ex (Ex.new hy)) ?_
    rw [aref_len, hzl]
    exact one_ret
  | unsolvableConfiguration t k i =>
    have hg := hgiv.none rfl
    have hg : H gv = some (.lst [.int (t : Nat), .int (k : Nat), .int (i : Nat)]) := hg
    refine ⟨_, rfl, rfl, _, rfl, if_false_of rfl ?_⟩
    refine ⟨_, rfl, rfl, _, rfl, if_false_of rfl ⟨_, rfl, rfl, _, rfl, if_false_of rfl ?_⟩⟩
    refine ⟨_, rfl, rfl, _, rfl, if_false_of rfl ?_⟩
    refine ⟨_, rfl, rfl, _, rfl, if_false_of rfl ?_⟩
    refine ⟨_, rfl, rfl, _, rfl, if_true_of rfl ?_⟩
    exact ⟨_, rfl, a, dx, _, rfl, B.ins, rfl, _, rfl, gv, _, 0, _, rfl, rfl, sl_of' hg, rfl, _, rfl, gv, _, 1, _, rfl, rfl, sl_of' hg, rfl, _, rfl, gv, _, 2, _, rfl, rfl, sl_of' hg, rfl, a, t, k, i, st, X, rfl, B.at, by rw [← perf_uat B.ok.bd.wg]; exact r⟩
  | pathPartition t =>
    have hg := hgiv.none rfl
    have hg : H gv = some (.lst [.int (t : Nat)]) := hg
    refine ⟨_, rfl, rfl, _, rfl, if_false_of rfl ?_⟩
    refine ⟨_, rfl, rfl, _, rfl, if_false_of rfl ⟨_, rfl, rfl, _, rfl, if_false_of rfl ?_⟩⟩
    refine ⟨_, rfl, rfl, _, rfl, if_false_of rfl ?_⟩
    refine ⟨_, rfl, rfl, _, rfl, if_false_of rfl ?_⟩
    refine ⟨_, rfl, rfl, _, rfl, if_false_of rfl ?_⟩
    refine ⟨_, rfl, rfl, _, rfl, if_true_of rfl ?_⟩
    exact ⟨_, rfl, a, dx, _, rfl, B.ins, rfl, _, rfl, gv, _, 0, _, rfl, rfl, sl_of' hg, rfl, a, t, st, X, rfl, B.at, r⟩
  | optimalConfiguration =>
    have hg := hgiv.none rfl
    have hg : H gv = some (.lst []) := hg
    refine ⟨_, rfl, rfl, _, rfl, if_false_of rfl ?_⟩
    refine ⟨_, rfl, rfl, _, rfl, if_false_of rfl ⟨_, rfl, rfl, _, rfl, if_false_of rfl ?_⟩⟩
    refine ⟨_, rfl, rfl, _, rfl, if_false_of rfl ?_⟩
    refine ⟨_, rfl, rfl, _, rfl, if_false_of rfl ?_⟩
    refine ⟨_, rfl, rfl, _, rfl, if_false_of rfl ?_⟩
    refine ⟨_, rfl, rfl, _, rfl, if_false_of rfl ?_⟩
    refine ⟨_, rfl, rfl, _, rfl, if_true_of rfl ?_⟩
    exact ⟨_, rfl, a, dx, _, rfl, B.ins, rfl, a, st, X, rfl, B.at, r.1⟩
  | coverNumber =>
    have hg := hgiv.none rfl
    have hg : H gv = some (.lst []) := hg
    refine ⟨_, rfl, rfl, _, rfl, if_false_of rfl ?_⟩
    refine ⟨_, rfl, rfl, _, rfl, if_false_of rfl ⟨_, rfl, rfl, _, rfl, if_false_of rfl ?_⟩⟩
    refine ⟨_, rfl, rfl, _, rfl, if_false_of rfl ?_⟩
    refine ⟨_, rfl, rfl, _, rfl, if_false_of rfl ?_⟩
    refine ⟨_, rfl, rfl, _, rfl, if_false_of rfl ?_⟩
    refine ⟨_, rfl, rfl, _, rfl, if_false_of rfl ?_⟩
    refine ⟨_, rfl, rfl, _, rfl, if_false_of rfl ?_⟩
    refine ⟨_, rfl, rfl, _, rfl, if_true_of rfl ?_⟩
    exact ⟨_, rfl, a, dx, _, rfl, B.ins, rfl, a, st, X, rfl, B.at, r⟩
  | breadthFirstCertificate t =>
    have hg := hgiv.none rfl
    have hg : H gv = some (.lst [.int (t : Nat)]) := hg
    refine ⟨_, rfl, rfl, _, rfl, if_false_of rfl ?_⟩
    refine ⟨_, rfl, rfl, _, rfl, if_false_of rfl ⟨_, rfl, rfl, _, rfl, if_false_of rfl ?_⟩⟩
    refine ⟨_, rfl, rfl, _, rfl, if_false_of rfl ?_⟩
    refine ⟨_, rfl, rfl, _, rfl, if_false_of rfl ?_⟩
    refine ⟨_, rfl, rfl, _, rfl, if_false_of rfl ?_⟩
    refine ⟨_, rfl, rfl, _, rfl, if_false_of rfl ?_⟩
    refine ⟨_, rfl, rfl, _, rfl, if_false_of rfl ?_⟩
    refine ⟨_, rfl, rfl, _, rfl, if_false_of rfl ?_⟩
    refine ⟨_, rfl, rfl, _, rfl, if_true_of rfl ?_⟩
    exact ⟨_, rfl, a, dx, _, rfl, B.ins, rfl, _, rfl, gv, _, 0, _, rfl, rfl, sl_of' hg, rfl, a, t, st, X, rfl, B.at, r⟩
  | isValidCertificate t ps ws =>
    obtain ⟨r1, r2, hg, h1, h2, h3, h4⟩ := hgiv.two rfl
    have hg : H gv = some (.lst [.int (t : Nat), .ref r1, .ref r2]) := hg
    refine ⟨_, rfl, rfl, _, rfl, if_false_of rfl ?_⟩
    refine ⟨_, rfl, rfl, _, rfl, if_false_of rfl ⟨_, rfl, rfl, _, rfl, if_false_of rfl ?_⟩⟩
    refine ⟨_, rfl, rfl, _, rfl, if_false_of rfl ?_⟩
    refine ⟨_, rfl, rfl, _, rfl, if_false_of rfl ?_⟩
    refine ⟨_, rfl, rfl, _, rfl, if_false_of rfl ?_⟩
    refine ⟨_, rfl, rfl, _, rfl, if_false_of rfl ?_⟩
    refine ⟨_, rfl, rfl, _, rfl, if_false_of rfl ?_⟩
    refine ⟨_, rfl, rfl, _, rfl, if_false_of rfl ?_⟩
    refine ⟨_, rfl, rfl, _, rfl, if_false_of rfl ?_⟩
    refine ⟨_, rfl, rfl, _, rfl, if_true_of rfl ?_⟩
    refine ⟨_, rfl, a, dx, _, rfl, B.ins, rfl, _, rfl, gv, _, 0, _, rfl, rfl, sl_of' hg, rfl, _, rfl, gv, _, 1, _, rfl, rfl, sl_of' hg, rfl, _, rfl, gv, _, 2, _, rfl, rfl, sl_of' hg, rfl, a, t, r1, r2, ps, ws, st, X, rfl, B.at, h1, h2, h3, h4, (fun G H2 x2 => ⟨_, rfl, ?_⟩), fun code hb H2 x2 => r.no ((perf_isv st t ps ws).trans (certO_bad hb _)) (Fr.ex x2) (B.kx (KX.ex x2)).at⟩
    have hp := (perf_isv st t ps ws).trans (certO_good G _)
    cases hv : Ks580.isValid st.board.graph t ⟨ps, ws⟩ with
    | true =>
      rw [hv] at hp
      exact if_true_of rfl ⟨by show 1 ≤ sizeLine; exact szs (by omega), fun y hy => r.ok hp (Fr.ex (x2.trans (Ex.new hy))) (fresh_back x2 hy) (B.kx (KX.ex (x2.trans (Ex.new hy)))).at one_ret⟩
    | false =>
      rw [hv] at hp
      exact if_false_of rfl ⟨by show 1 ≤ sizeLine; exact szs (by omega), fun y hy => r.ok hp (Fr.ex (x2.trans (Ex.new hy))) (fresh_back x2 hy) (B.kx (KX.ex (x2.trans (Ex.new hy)))).at one_ret⟩
  | provesReachable t ps ws =>
    obtain ⟨r1, r2, hg, h1, h2, h3, h4⟩ := hgiv.two rfl
    have hg : H gv = some (.lst [.int (t : Nat), .ref r1, .ref r2]) := hg
    refine ⟨_, rfl, rfl, _, rfl, if_false_of rfl ?_⟩
    refine ⟨_, rfl, rfl, _, rfl, if_false_of rfl ⟨_, rfl, rfl, _, rfl, if_false_of rfl ?_⟩⟩
    refine ⟨_, rfl, rfl, _, rfl, if_false_of rfl ?_⟩
    refine ⟨_, rfl, rfl, _, rfl, if_false_of rfl ?_⟩
    refine ⟨_, rfl, rfl, _, rfl, if_false_of rfl ?_⟩
    refine ⟨_, rfl, rfl, _, rfl, if_false_of rfl ?_⟩
    refine ⟨_, rfl, rfl, _, rfl, if_false_of rfl ?_⟩
    refine ⟨_, rfl, rfl, _, rfl, if_false_of rfl ?_⟩
    refine ⟨_, rfl, rfl, _, rfl, if_false_of rfl ?_⟩
    refine ⟨_, rfl, rfl, _, rfl, if_false_of rfl ?_⟩
    refine ⟨_, rfl, rfl, _, rfl, if_true_of rfl ?_⟩
    exact ⟨_, rfl, a, dx, _, rfl, B.ins, rfl, _, rfl, gv, _, 0, _, rfl, rfl, sl_of' hg, rfl, _, rfl, gv, _, 1, _, rfl, rfl, sl_of' hg, rfl, _, rfl, gv, _, 2, _, rfl, rfl, sl_of' hg, rfl, a, t, r1, r2, ps, ws, st, X, rfl, B.at, h1, h2, h3, h4, r⟩
  | status =>
    have hg := hgiv.none rfl
    have hg : H gv = some (.lst []) := hg
    refine ⟨_, rfl, rfl, _, rfl, if_false_of rfl ?_⟩
    refine ⟨_, rfl, rfl, _, rfl, if_false_of rfl ⟨_, rfl, rfl, _, rfl, if_false_of rfl ?_⟩⟩
    refine ⟨_, rfl, rfl, _, rfl, if_false_of rfl ?_⟩
    refine ⟨_, rfl, rfl, _, rfl, if_false_of rfl ?_⟩
    refine ⟨_, rfl, rfl, _, rfl, if_false_of rfl ?_⟩
    refine ⟨_, rfl, rfl, _, rfl, if_false_of rfl ?_⟩
    refine ⟨_, rfl, rfl, _, rfl, if_false_of rfl ?_⟩
    refine ⟨_, rfl, rfl, _, rfl, if_false_of rfl ?_⟩
    refine ⟨_, rfl, rfl, _, rfl, if_false_of rfl ?_⟩
    refine ⟨_, rfl, rfl, _, rfl, if_false_of rfl ?_⟩
    refine ⟨_, rfl, rfl, _, rfl, if_false_of rfl ?_⟩
    exact ⟨_, rfl, a, dx, _, rfl, B.ins, rfl, a, st, X, rfl, B.at, r.1⟩
/-! ### done -/
def obV : Option (Addr × State) → V
  | none => .non
  | some x => .ref x.1
def sp_done (P : Program) (w : World) (ad : Adr) : Sp := fun vs H Q E => ∃ (ob : Option (Addr × State)) (gv : Addr) (c : Ks582.Call) (X : Addr → Prop), vs = [obV ob, .int (cNum c : Nat), .ref gv] ∧ GivenAt H X gv c ∧ 1 ≤ cNum c ∧ cNum c ≤ 32 ∧
  match ob with
  | none => ∀ H2, Ex H H2 → Thrown ad (-61) H2 E
  | some x => BoardAt P w ad H x.1 x.2 X ∧ Res P w ad H x.1 X (Ks582.perform x.2 c) Q E
theorem ok_done (T : Txt K mg ad) : Ok P w K mg base (L2.CX P w) 21 ad.f_done ["board", "number", "given"] (sp_done P w ad) := by
  obtain ⟨fd, F⟩ := T.F_done
  obtain ⟨fd_asked, G_asked, B_asked⟩ := ok_asked (P := P) (w := w) (base := base) T
  obtain ⟨fd_asked_more, G_asked_more, B_asked_more⟩ := ok_asked_more (P := P) (w := w) (base := base) T
  obtain ⟨fd_changed, G_changed, B_changed⟩ := ok_changed (P := P) (w := w) (base := base) T
  obtain ⟨fd_refuse_if, G_refuse_if, B_refuse_if⟩ := ok_refuse_if (P := P) (w := w) (base := base) T
  refine ⟨fd, F.okX sc_done (fun vs H Q E h => ?_) (fun cdv A outer s H vs Q E hr h => ?_), F.binds fun _ _ _ _ _ _ us hl => match us, hl with | [_, _, _], _ => rfl⟩
  · obtain ⟨_, _, _, _, rfl, _⟩ := h
    rfl
  have hu := hu_of hr
  refine ⟨_, (pss_cons (ps_expr (pe_call G_refuse_if (hr.mono (by decide)) (by rfl) T.g_refuse_if T.k_refuse_if B_refuse_if .nil (passes_call (takes_of rfl rfl rfl rfl) (fun _ _ _ _ z => z)) (by exact (pa_cons (pe_cmpR op_isN (pv 0) pe_non (nomark _)) (pa_cons (pe_un un_neg pe_int) pa_nil)))))
      (pss_cons (ps_if (pt_cmpR op_lt (pv 1) pe_int (nomark _)) (pss_one (ps_ret (pe_call G_changed (hr.mono (by decide)) (by rfl) T.g_changed T.k_changed B_changed .nil (passes_call (takes_of rfl rfl rfl rfl) (fun _ _ _ _ z => z)) (by exact (pa_cons (pv 0) (pa_cons (pv 1) (pa_cons (pv 2) pa_nil))))))) pss_nil)
      (pss_one (ps_ret (pe_ifExp (pt_cmpR op_lt (pv 1) pe_int (nomark _)) (pe_call G_asked (hr.mono (by decide)) (by rfl) T.g_asked T.k_asked B_asked .nil (passes_call (takes_of rfl rfl rfl rfl) (fun _ _ _ _ z => z)) (by exact (pa_cons (pv 0) (pa_cons (pv 1) (pa_cons (pv 2) pa_nil))))) (pe_call G_asked_more (hr.mono (by decide)) (by rfl) T.g_asked_more T.k_asked_more B_asked_more .nil (passes_call (takes_of rfl rfl rfl rfl) (fun _ _ _ _ z => z)) (by exact (pa_cons (pv 0) (pa_cons (pv 1) (pa_cons (pv 2) pa_nil)))))))))), ?_⟩
  obtain ⟨ob, gv, c, X, rfl, hgiv, hlo, hhi, h⟩ := h
  cases ob with
  | none => exact ⟨_, rfl, rfl, _, rfl, _, _, rfl, fun hc => (by cases hc), fun _ => h H (Ex.refl H)⟩
  | some x =>
    obtain ⟨a, st⟩ := x
    obtain ⟨B, r⟩ := h
    refine ⟨_, rfl, rfl, _, rfl, _, _, rfl, fun _ => ?_, fun hc => (by cases hc)⟩
    refine ⟨_, rfl, _, _, rfl, rfl, _, rfl, ?_⟩
    by_cases h9 : cNum c < 9
    · exact if_true_of (decide_eq_true (by omega)) ⟨_, rfl, _, rfl, _, rfl, a, gv, c, st, X, rfl, B, hgiv, hlo, by omega, r⟩
    refine if_false_of (decide_eq_false (by omega)) ?_
    refine ⟨_, rfl, _, _, rfl, rfl, _, rfl, ?_⟩
    by_cases h20 : cNum c < 20
    · exact if_true_of (decide_eq_true (by omega)) ⟨_, rfl, _, rfl, _, rfl, a, gv, c, st, X, rfl, B, hgiv, by omega, by omega, r⟩
    · exact if_false_of (decide_eq_false (by omega)) ⟨_, rfl, _, rfl, _, rfl, a, gv, c, st, X, rfl, B, hgiv, by omega, by omega, r⟩
end PBW

namespace PBW
open PySem PySem.Spec PyProof.Rows L2 Evl PB
open Ks577 (Graph pebblesAt isAdjacent)
open Ks582 (State)
/-! ### the calls as they are handed in -/
theorem toNat_zI (l : List Nat) : (zI l).map Int.toNat = l := by
  unfold zI
  rw [List.map_map]
  refine (List.map_congr_left fun x _ => ?_).trans (List.map_id l)
  rfl
theorem zI_toNat {l : List Int} (h : ∀ z ∈ l, 0 ≤ z) : zI (l.map Int.toNat) = l := by
  unfold zI
  rw [List.map_map]
  refine (List.map_congr_left fun x hx => ?_).trans (List.map_id l)
  exact Int.toNat_of_nonneg (h x hx)
theorem zI_len (l : List Nat) : (zI l).length = l.length := by unfold zI; rw [List.length_map]
def encRows (ls : List (List Nat)) : List Int := ls.flatMap fun l => (l.length : Int) :: zI l
theorem rows_parse : ∀ (k : Nat) {r : List Int} {xs : List (List Int)} {t : List Int}, PyFlat.rows k r = some (xs, t) → (∀ z ∈ r, 0 ≤ z) → ∃ ls : List (List Nat), xs = ls.map zI ∧ ls.length = k ∧ r = encRows ls ++ t ∧ ∀ l ∈ ls, l.length ≤ r.length
  | 0, r, xs, t, h, _ => by
    unfold PyFlat.rows at h
    have h := Option.some.inj h
    injection h with h1 h2
    subst h1 h2
    exact ⟨[], rfl, rfl, rfl, fun l hl => by cases hl⟩
  | k + 1, r, xs, t, h, hn => by
    unfold PyFlat.rows at h
    split at h
    · cases h
    · next x s hrow =>
      split at h
      · cases h
      · next xs' t' hrows =>
        have h := Option.some.inj h
        injection h with h1 h2
        subst h1 h2
        unfold PyFlat.row at hrow
        split at hrow
        · cases hrow
        · next n r' =>
          split at hrow
          · next hc =>
            have hrow := Option.some.inj hrow
            injection hrow with e1 e2
            subst e1 e2
            have hn' : ∀ z ∈ r', 0 ≤ z := fun z hz => hn z (List.mem_cons_of_mem _ hz)
            obtain ⟨ls, rfl, h2, h3, h4⟩ := rows_parse k hrows fun z hz => hn' z (List.mem_of_mem_drop hz)
            have htk : zI ((r'.take n.toNat).map Int.toNat) = r'.take n.toNat := zI_toNat fun z hz => hn' z (List.mem_of_mem_take hz)
            have hlen : ((r'.take n.toNat).map Int.toNat).length = n.toNat := by rw [List.length_map, List.length_take]; omega
            refine ⟨(r'.take n.toNat).map Int.toNat :: ls, by rw [List.map_cons, htk], by rw [List.length_cons, h2], ?_, fun l hl => ?_⟩
            · unfold encRows at h3 ⊢
              rw [List.flatMap_cons, htk, hlen, List.cons_append, List.cons_append, List.append_assoc, ← h3, List.take_append_drop, Int.toNat_of_nonneg hc.1]
            · rw [List.length_cons]
              rcases List.mem_cons.mp hl with rfl | hl
              · rw [hlen]; omega
              · have := h4 l hl
                rw [List.length_drop] at this
                omega
          · cases hrow
theorem call_parse {p : Int} {r : List Int} {c : List (List Int)} {t : List Int} (h : PyFlat.call PyKs582.shape (p :: r) = some (c, t)) (hn : ∀ z ∈ r, 0 ≤ z) :
    ∃ (n k : Nat) (args : List Nat) (rows : List (List Nat)), PyKs582.shape p = some (n, k) ∧ args.length = n ∧ rows.length = k ∧ c = (p :: zI args) :: rows.map zI ∧ r = zI args ++ encRows rows ++ t ∧ ∀ l ∈ rows, l.length ≤ r.length := by
  unfold PyFlat.call at h
  simp only at h
  split at h
  · cases h
  · next n k hs =>
    split at h
    · cases h
    · next hlt =>
      split at h
      · cases h
      · next xs t' hrows =>
        have h := Option.some.inj h
        injection h with e1 e2
        subst e1 e2
        obtain ⟨ls, rfl, h2, h3, h4⟩ := rows_parse k hrows fun z hz => hn z (List.mem_of_mem_drop hz)
        have htk : zI ((r.take n).map Int.toNat) = r.take n := zI_toNat fun z hz => hn z (List.mem_of_mem_take hz)
        refine ⟨n, k, (r.take n).map Int.toNat, ls, hs, by rw [List.length_map, List.length_take]; omega, h2, by rw [htk], by rw [htk, List.append_assoc, ← h3, List.take_append_drop], fun l hl => ?_⟩
        have := h4 l hl
        rw [List.length_drop] at this
        omega
theorem shape_range {p : Int} {x : Nat × Nat} (h : PyKs582.shape p = some x) : ∃ m : Nat, m ≤ 32 ∧ p = (m : Int) := by
  by_cases h0 : 0 ≤ p ∧ p ≤ 32
  · exact ⟨p.toNat, by omega, by omega⟩
  · exfalso
    unfold PyKs582.shape at h
    repeat
      rw [if_neg (by omega)] at h
    cases h
theorem len1 {α : Type} : ∀ l : List α, l.length = 1 → ∃ a, l = [a]
  | [a], _ => ⟨a, rfl⟩
theorem len2 {α : Type} : ∀ l : List α, l.length = 2 → ∃ a b, l = [a, b]
  | [a, b], _ => ⟨a, b, rfl⟩
theorem len3 {α : Type} : ∀ l : List α, l.length = 3 → ∃ a b c, l = [a, b, c]
  | [a, b, c], _ => ⟨a, b, c, rfl⟩
theorem call_ok {p : Int} {r : List Int} {c : List (List Int)} {t : List Int} (h : PyFlat.call PyKs582.shape (p :: r) = some (c, t)) (hn : ∀ z ∈ r, 0 ≤ z) :
    ∃ cc : Ks582.Call, p = (cNum cc : Nat) ∧ r = zI (cArgs cc) ++ encRows (cRows cc) ++ t ∧ (∀ s, Ks582Neutral.step s c = Ks582Neutral.withIntegers (Ks582.act s cc)) ∧ PyKs582.whole c = c ∧ ∀ l ∈ cRows cc, l.length ≤ r.length := by
  obtain ⟨n, k, args, rows, hs, ha, hr, rfl, hrest, hle⟩ := call_parse h hn
  obtain ⟨m, hm, rfl⟩ := shape_range hs
  have hm : m = 0 ∨ m = 1 ∨ m = 2 ∨ m = 3 ∨ m = 4 ∨ m = 5 ∨ m = 6 ∨ m = 7 ∨ m = 8 ∨ m = 9 ∨ m = 10 ∨ m = 11 ∨ m = 12 ∨ m = 13 ∨ m = 14 ∨ m = 15 ∨ m = 16 ∨ m = 17 ∨ m = 18 ∨ m = 19 ∨ m = 20 ∨ m = 21 ∨ m = 22 ∨ m = 23 ∨ m = 24 ∨ m = 25 ∨ m = 26 ∨ m = 27 ∨ m = 28 ∨ m = 29 ∨ m = 30 ∨ m = 31 ∨ m = 32 := by omega
  rcases hm with rfl | rfl | rfl | rfl | rfl | rfl | rfl | rfl | rfl | rfl | rfl | rfl | rfl | rfl | rfl | rfl | rfl | rfl | rfl | rfl | rfl | rfl | rfl | rfl | rfl | rfl | rfl | rfl | rfl | rfl | rfl | rfl | rfl
  · obtain ⟨rfl, rfl⟩ : n = 1 ∧ k = 0 := by have := hs; injection this with this; injection this with h1 h2; exact ⟨h1.symm, h2.symm⟩
    obtain ⟨x0, rfl⟩ : ∃ x0, args = [x0] := len1 args ha
    obtain rfl : rows = [] := List.length_eq_zero_iff.mp hr
    exact ⟨.create x0, rfl, hrest, fun s => rfl, rfl, hle⟩
  · obtain ⟨rfl, rfl⟩ : n = 2 ∧ k = 0 := by have := hs; injection this with this; injection this with h1 h2; exact ⟨h1.symm, h2.symm⟩
    obtain ⟨x0, x1, rfl⟩ : ∃ x0 x1, args = [x0, x1] := len2 args ha
    obtain rfl : rows = [] := List.length_eq_zero_iff.mp hr
    exact ⟨.addEdge x0 x1, rfl, hrest, fun s => rfl, rfl, hle⟩
  · obtain ⟨rfl, rfl⟩ : n = 2 ∧ k = 0 := by have := hs; injection this with this; injection this with h1 h2; exact ⟨h1.symm, h2.symm⟩
    obtain ⟨x0, x1, rfl⟩ : ∃ x0 x1, args = [x0, x1] := len2 args ha
    obtain rfl : rows = [] := List.length_eq_zero_iff.mp hr
    exact ⟨.removeEdge x0 x1, rfl, hrest, fun s => rfl, rfl, hle⟩
  · obtain ⟨rfl, rfl⟩ : n = 0 ∧ k = 1 := by have := hs; injection this with this; injection this with h1 h2; exact ⟨h1.symm, h2.symm⟩
    obtain rfl : args = [] := List.length_eq_zero_iff.mp ha
    obtain ⟨r0, rfl⟩ : ∃ r0, rows = [r0] := len1 rows hr
    exact ⟨.setPebbles r0, rfl, hrest, fun s => by show Ks582Neutral.withIntegers (Ks582.act s (.setPebbles ((zI r0).map Int.toNat))) = _; rw [toNat_zI], rfl, hle⟩
  · obtain ⟨rfl, rfl⟩ : n = 2 ∧ k = 0 := by have := hs; injection this with this; injection this with h1 h2; exact ⟨h1.symm, h2.symm⟩
    obtain ⟨x0, x1, rfl⟩ : ∃ x0 x1, args = [x0, x1] := len2 args ha
    obtain rfl : rows = [] := List.length_eq_zero_iff.mp hr
    exact ⟨.addPebbles x0 x1, rfl, hrest, fun s => rfl, rfl, hle⟩
  · obtain ⟨rfl, rfl⟩ : n = 2 ∧ k = 0 := by have := hs; injection this with this; injection this with h1 h2; exact ⟨h1.symm, h2.symm⟩
    obtain ⟨x0, x1, rfl⟩ : ∃ x0 x1, args = [x0, x1] := len2 args ha
    obtain rfl : rows = [] := List.length_eq_zero_iff.mp hr
    exact ⟨.move x0 x1, rfl, hrest, fun s => rfl, rfl, hle⟩
  · obtain ⟨rfl, rfl⟩ : n = 3 ∧ k = 0 := by have := hs; injection this with this; injection this with h1 h2; exact ⟨h1.symm, h2.symm⟩
    obtain ⟨x0, x1, x2, rfl⟩ : ∃ x0 x1 x2, args = [x0, x1, x2] := len3 args ha
    obtain rfl : rows = [] := List.length_eq_zero_iff.mp hr
    exact ⟨.rubblingMove x0 x1 x2, rfl, hrest, fun s => rfl, rfl, hle⟩
  · obtain ⟨rfl, rfl⟩ : n = 2 ∧ k = 0 := by have := hs; injection this with this; injection this with h1 h2; exact ⟨h1.symm, h2.symm⟩
    obtain ⟨x0, x1, rfl⟩ : ∃ x0 x1, args = [x0, x1] := len2 args ha
    obtain rfl : rows = [] := List.length_eq_zero_iff.mp hr
    exact ⟨.bringPebbles x0 x1, rfl, hrest, fun s => rfl, rfl, hle⟩
  · obtain ⟨rfl, rfl⟩ : n = 0 ∧ k = 0 := by have := hs; injection this with this; injection this with h1 h2; exact ⟨h1.symm, h2.symm⟩
    obtain rfl : args = [] := List.length_eq_zero_iff.mp ha
    obtain rfl : rows = [] := List.length_eq_zero_iff.mp hr
    exact ⟨.undo, rfl, hrest, fun s => rfl, rfl, hle⟩
  · obtain ⟨rfl, rfl⟩ : n = 0 ∧ k = 0 := by have := hs; injection this with this; injection this with h1 h2; exact ⟨h1.symm, h2.symm⟩
    obtain rfl : args = [] := List.length_eq_zero_iff.mp ha
    obtain rfl : rows = [] := List.length_eq_zero_iff.mp hr
    exact ⟨.listEdges, rfl, hrest, fun s => rfl, rfl, hle⟩
  · obtain ⟨rfl, rfl⟩ : n = 0 ∧ k = 0 := by have := hs; injection this with this; injection this with h1 h2; exact ⟨h1.symm, h2.symm⟩
    obtain rfl : args = [] := List.length_eq_zero_iff.mp ha
    obtain rfl : rows = [] := List.length_eq_zero_iff.mp hr
    exact ⟨.listPebbles, rfl, hrest, fun s => rfl, rfl, hle⟩
  · obtain ⟨rfl, rfl⟩ : n = 2 ∧ k = 0 := by have := hs; injection this with this; injection this with h1 h2; exact ⟨h1.symm, h2.symm⟩
    obtain ⟨x0, x1, rfl⟩ : ∃ x0 x1, args = [x0, x1] := len2 args ha
    obtain rfl : rows = [] := List.length_eq_zero_iff.mp hr
    exact ⟨.distance x0 x1, rfl, hrest, fun s => rfl, rfl, hle⟩
  · obtain ⟨rfl, rfl⟩ : n = 2 ∧ k = 0 := by have := hs; injection this with this; injection this with h1 h2; exact ⟨h1.symm, h2.symm⟩
    obtain ⟨x0, x1, rfl⟩ : ∃ x0 x1, args = [x0, x1] := len2 args ha
    obtain rfl : rows = [] := List.length_eq_zero_iff.mp hr
    exact ⟨.minMoves x0 x1, rfl, hrest, fun s => rfl, rfl, hle⟩
  · obtain ⟨rfl, rfl⟩ : n = 1 ∧ k = 0 := by have := hs; injection this with this; injection this with h1 h2; exact ⟨h1.symm, h2.symm⟩
    obtain ⟨x0, rfl⟩ : ∃ x0, args = [x0] := len1 args ha
    obtain rfl : rows = [] := List.length_eq_zero_iff.mp hr
    exact ⟨.maxPebblesAt x0, rfl, hrest, fun s => rfl, rfl, hle⟩
  · obtain ⟨rfl, rfl⟩ : n = 2 ∧ k = 0 := by have := hs; injection this with this; injection this with h1 h2; exact ⟨h1.symm, h2.symm⟩
    obtain ⟨x0, x1, rfl⟩ : ∃ x0 x1, args = [x0, x1] := len2 args ha
    obtain rfl : rows = [] := List.length_eq_zero_iff.mp hr
    exact ⟨.shortestSequence x0 x1, rfl, hrest, fun s => rfl, rfl, hle⟩
  · obtain ⟨rfl, rfl⟩ : n = 0 ∧ k = 0 := by have := hs; injection this with this; injection this with h1 h2; exact ⟨h1.symm, h2.symm⟩
    obtain rfl : args = [] := List.length_eq_zero_iff.mp ha
    obtain rfl : rows = [] := List.length_eq_zero_iff.mp hr
    exact ⟨.reachableVertices, rfl, hrest, fun s => rfl, rfl, hle⟩
  · obtain ⟨rfl, rfl⟩ : n = 1 ∧ k = 0 := by have := hs; injection this with this; injection this with h1 h2; exact ⟨h1.symm, h2.symm⟩
    obtain ⟨x0, rfl⟩ : ∃ x0, args = [x0] := len1 args ha
    obtain rfl : rows = [] := List.length_eq_zero_iff.mp hr
    exact ⟨.weightAt x0, rfl, hrest, fun s => rfl, rfl, hle⟩
  · obtain ⟨rfl, rfl⟩ : n = 2 ∧ k = 0 := by have := hs; injection this with this; injection this with h1 h2; exact ⟨h1.symm, h2.symm⟩
    obtain ⟨x0, x1, rfl⟩ : ∃ x0 x1, args = [x0, x1] := len2 args ha
    obtain rfl : rows = [] := List.length_eq_zero_iff.mp hr
    exact ⟨.minRubblingMoves x0 x1, rfl, hrest, fun s => rfl, rfl, hle⟩
  · obtain ⟨rfl, rfl⟩ : n = 1 ∧ k = 0 := by have := hs; injection this with this; injection this with h1 h2; exact ⟨h1.symm, h2.symm⟩
    obtain ⟨x0, rfl⟩ : ∃ x0, args = [x0] := len1 args ha
    obtain rfl : rows = [] := List.length_eq_zero_iff.mp hr
    exact ⟨.maxPebblesByRubbling x0, rfl, hrest, fun s => rfl, rfl, hle⟩
  · obtain ⟨rfl, rfl⟩ : n = 0 ∧ k = 0 := by have := hs; injection this with this; injection this with h1 h2; exact ⟨h1.symm, h2.symm⟩
    obtain rfl : args = [] := List.length_eq_zero_iff.mp ha
    obtain rfl : rows = [] := List.length_eq_zero_iff.mp hr
    exact ⟨.canCover, rfl, hrest, fun s => rfl, rfl, hle⟩
  · obtain ⟨rfl, rfl⟩ : n = 0 ∧ k = 0 := by have := hs; injection this with this; injection this with h1 h2; exact ⟨h1.symm, h2.symm⟩
    obtain rfl : args = [] := List.length_eq_zero_iff.mp ha
    obtain rfl : rows = [] := List.length_eq_zero_iff.mp hr
    exact ⟨.diameter, rfl, hrest, fun s => rfl, rfl, hle⟩
  · obtain ⟨rfl, rfl⟩ : n = 1 ∧ k = 0 := by have := hs; injection this with this; injection this with h1 h2; exact ⟨h1.symm, h2.symm⟩
    obtain ⟨x0, rfl⟩ : ∃ x0, args = [x0] := len1 args ha
    obtain rfl : rows = [] := List.length_eq_zero_iff.mp hr
    exact ⟨.pebblingNumber x0, rfl, hrest, fun s => rfl, rfl, hle⟩
  · obtain ⟨rfl, rfl⟩ : n = 1 ∧ k = 0 := by have := hs; injection this with this; injection this with h1 h2; exact ⟨h1.symm, h2.symm⟩
    obtain ⟨x0, rfl⟩ : ∃ x0, args = [x0] := len1 args ha
    obtain rfl : rows = [] := List.length_eq_zero_iff.mp hr
    exact ⟨.rubblingNumber x0, rfl, hrest, fun s => rfl, rfl, hle⟩
  · obtain ⟨rfl, rfl⟩ : n = 0 ∧ k = 0 := by have := hs; injection this with this; injection this with h1 h2; exact ⟨h1.symm, h2.symm⟩
    obtain rfl : args = [] := List.length_eq_zero_iff.mp ha
    obtain rfl : rows = [] := List.length_eq_zero_iff.mp hr
    exact ⟨.graphPebblingNumber, rfl, hrest, fun s => rfl, rfl, hle⟩
  · obtain ⟨rfl, rfl⟩ : n = 2 ∧ k = 0 := by have := hs; injection this with this; injection this with h1 h2; exact ⟨h1.symm, h2.symm⟩
    obtain ⟨x0, x1, rfl⟩ : ∃ x0 x1, args = [x0, x1] := len2 args ha
    obtain rfl : rows = [] := List.length_eq_zero_iff.mp hr
    exact ⟨.countUnsolvable x0 x1, rfl, hrest, fun s => rfl, rfl, hle⟩
  · obtain ⟨rfl, rfl⟩ : n = 3 ∧ k = 0 := by have := hs; injection this with this; injection this with h1 h2; exact ⟨h1.symm, h2.symm⟩
    obtain ⟨x0, x1, x2, rfl⟩ : ∃ x0 x1 x2, args = [x0, x1, x2] := len3 args ha
    obtain rfl : rows = [] := List.length_eq_zero_iff.mp hr
    exact ⟨.unsolvableConfiguration x0 x1 x2, rfl, hrest, fun s => rfl, rfl, hle⟩
  · obtain ⟨rfl, rfl⟩ : n = 1 ∧ k = 0 := by have := hs; injection this with this; injection this with h1 h2; exact ⟨h1.symm, h2.symm⟩
    obtain ⟨x0, rfl⟩ : ∃ x0, args = [x0] := len1 args ha
    obtain rfl : rows = [] := List.length_eq_zero_iff.mp hr
    exact ⟨.pathPartition x0, rfl, hrest, fun s => rfl, rfl, hle⟩
  · obtain ⟨rfl, rfl⟩ : n = 0 ∧ k = 0 := by have := hs; injection this with this; injection this with h1 h2; exact ⟨h1.symm, h2.symm⟩
    obtain rfl : args = [] := List.length_eq_zero_iff.mp ha
    obtain rfl : rows = [] := List.length_eq_zero_iff.mp hr
    exact ⟨.optimalConfiguration, rfl, hrest, fun s => rfl, rfl, hle⟩
  · obtain ⟨rfl, rfl⟩ : n = 0 ∧ k = 0 := by have := hs; injection this with this; injection this with h1 h2; exact ⟨h1.symm, h2.symm⟩
    obtain rfl : args = [] := List.length_eq_zero_iff.mp ha
    obtain rfl : rows = [] := List.length_eq_zero_iff.mp hr
    exact ⟨.coverNumber, rfl, hrest, fun s => rfl, rfl, hle⟩
  · obtain ⟨rfl, rfl⟩ : n = 1 ∧ k = 0 := by have := hs; injection this with this; injection this with h1 h2; exact ⟨h1.symm, h2.symm⟩
    obtain ⟨x0, rfl⟩ : ∃ x0, args = [x0] := len1 args ha
    obtain rfl : rows = [] := List.length_eq_zero_iff.mp hr
    exact ⟨.breadthFirstCertificate x0, rfl, hrest, fun s => rfl, rfl, hle⟩
  · obtain ⟨rfl, rfl⟩ : n = 1 ∧ k = 2 := by have := hs; injection this with this; injection this with h1 h2; exact ⟨h1.symm, h2.symm⟩
    obtain ⟨x0, rfl⟩ : ∃ x0, args = [x0] := len1 args ha
    obtain ⟨r0, r1, rfl⟩ : ∃ r0 r1, rows = [r0, r1] := len2 rows hr
    exact ⟨.isValidCertificate x0 r0 r1, rfl, hrest, fun s => by show Ks582Neutral.withIntegers (Ks582.act s (.isValidCertificate x0 ((zI r0).map Int.toNat) ((zI r1).map Int.toNat))) = _; rw [toNat_zI, toNat_zI], rfl, hle⟩
  · obtain ⟨rfl, rfl⟩ : n = 1 ∧ k = 2 := by have := hs; injection this with this; injection this with h1 h2; exact ⟨h1.symm, h2.symm⟩
    obtain ⟨x0, rfl⟩ : ∃ x0, args = [x0] := len1 args ha
    obtain ⟨r0, r1, rfl⟩ : ∃ r0 r1, rows = [r0, r1] := len2 rows hr
    exact ⟨.provesReachable x0 r0 r1, rfl, hrest, fun s => by show Ks582Neutral.withIntegers (Ks582.act s (.provesReachable x0 ((zI r0).map Int.toNat) ((zI r1).map Int.toNat))) = _; rw [toNat_zI, toNat_zI], rfl, hle⟩
  · obtain ⟨rfl, rfl⟩ : n = 0 ∧ k = 0 := by have := hs; injection this with this; injection this with h1 h2; exact ⟨h1.symm, h2.symm⟩
    obtain rfl : args = [] := List.length_eq_zero_iff.mp ha
    obtain rfl : rows = [] := List.length_eq_zero_iff.mp hr
    exact ⟨.status, rfl, hrest, fun s => rfl, rfl, hle⟩
theorem singles_ok (cc : Ks582.Call) : ([.int 1, .int 2, .int 2, .int 0, .int 2, .int 2, .int 3, .int 2, .int 0, .int 0, .int 0, .int 2, .int 2, .int 1, .int 2, .int 0, .int 1, .int 2, .int 1, .int 0, .int 0, .int 1, .int 1, .int 0, .int 2, .int 3, .int 1, .int 0, .int 0, .int 1, .int 1, .int 1, .int 0] : List V)[cNum cc]? = some (V.int ((cArgs cc).length : Nat)) := by
  cases cc <;> rfl
theorem lists_ok (cc : Ks582.Call) : (valV (kiV [(3, 1), (30, 2), (31, 2)]) (.inl ((cNum cc : Nat) : Int))).getD (.int 0) = V.int ((cRows cc).length : Nat) := by
  cases cc <;> rfl
theorem num_le (cc : Ks582.Call) : cNum cc ≤ 32 := by cases cc <;> simp [cNum]
theorem args_le (cc : Ks582.Call) : (cArgs cc).length ≤ 3 := by cases cc <;> simp [cArgs]
theorem rows_le (cc : Ks582.Call) : (cRows cc).length ≤ 2 := by cases cc <;> simp [cRows]
theorem num_zero {cc : Ks582.Call} (h : cNum cc = 0) : ∃ n, cc = .create n := by
  cases cc <;> first | exact ⟨_, rfl⟩ | simp [cNum] at h
end PBW

namespace PBW
open PySem PySem.Spec PyProof.Rows L2 Evl PB
open Ks577 (Graph pebblesAt isAdjacent)
open Ks582 (State)
variable {P : Program} {w : World} {K : PySem.W.Frag} {mg : Str → Option Value} {base : Heap} {ad : Adr}
section
variable {H H' : Hp} {a kd : Addr} {st : State} {X Y : Addr → Prop} {g : Graph} {t : Nat} {b : Bool}
theorem SolvedAt.freshS (h : SolvedAt ad H a kd g t b X) (hY : ∀ y, Y y → H y = none) : SolvedAt ad H a kd g t b (fun x => X x ∨ Y x) :=
  let ⟨dx, rws, as, Ks, S⟩ := h
  ⟨dx, rws, as, Ks, { S with
    off := fun z => z.elim S.off fun e => by
      have := S.rows
      rw [hY _ e] at this
      cases this
    offs := fun x hx z => z.elim (S.offs x hx) fun e => by
      obtain ⟨j, hj⟩ := List.getElem?_of_mem hx
      obtain ⟨c, _, hc⟩ := paired_at S.row hj
      have hc : H x = some (.lst (nVs c)) := hc
      rw [hY _ e] at hc
      cases hc }⟩
theorem OldAt.freshS {u : Addr} {bd : Ks582.Board} (h : OldAt H X u bd) (hY : ∀ y, Y y → H y = none) : OldAt H (fun x => X x ∨ Y x) u bd := by
  obtain ⟨le, lp, h1, h2, h3, h4⟩ := h
  refine ⟨le, lp, h1, h2, fun z => z.elim h3 fun q => ?_, h4⟩
  obtain ⟨as, z1, _⟩ := h2
  rw [hY _ q] at z1
  cases z1
/-- new things may be the caller's own -/
theorem BoardAt.freshS (B : BoardAt P w ad H a st X) (e : Ex H H') (hY : ∀ y, Y y → H y = none ∧ H' y ≠ none) : BoardAt P w ad H' a st (fun x => X x ∨ Y x) := by
  obtain ⟨dx, ed, p, er, so, ca, us, ss, ys, B⟩ := B
  have B1 := B.kx (KX.ex e)
  have hY1 : ∀ y, Y y → H y = none := fun y h => (hY y h).1
  have hne : ∀ {x : Addr} {u : HO}, H x = some u → ¬ Y x := fun h y => by rw [hY1 _ y] at h; cases h
  have h1 : ∀ x, EX (fun x => X x ∨ Y x) er x → (EX X er x ∨ Y x) := fun x z => z.elim (fun z => z.elim (fun z => .inl (.inl z)) .inr) fun z => .inl (.inr z)
  exact ⟨dx, ed, p, er, so, ca, us, ss, ys, ⟨{ B1.toBoardR with
    edo := fun z => (h1 _ z).elim B.edo fun q => let ⟨as, z1, _⟩ := B.edg; hne z1 q
    ero := fun z => z.elim B.ero (hne B.ear)
    old := Paired.mapP B.old fun _ _ q => ((q.freshS hY1).weak h1).kx (i := false) (KX.ex e)
    sols := fun s hs => ⟨(B.sols s hs).1, (((B.sols s hs).2.freshS hY1).weak h1).ex e⟩
    xin := fun x hx => hx.elim (B1.xin x) fun q => (hY x q).2 }, B1.ins⟩⟩
end
/-! ### answers -/
def CallsAt (K : PySem.W.Frag) (H : Hp) (a : Addr) (xs : List V) : Prop := (∃ od, H a = some (.frz od (.lst xs))) ∨
  ∃ (o : Obj) (its : Array Value) (n : Nat), K.lookup a = some o ∧ o.cls = .type "list" ∧ o.dict = none ∧ o.data = .seq its n ∧ its.size ≤ sizeLine ∧ Vals xs its.toList
theorem CallsAt.of {H : Hp} {a : Addr} {xs : List V} (h : SqL K H a xs) (ho : OnlyF H) : CallsAt K H a xs := by
  rcases h with (h | ⟨od, h⟩) | h
  · rcases ho a with z | ⟨o, u, z⟩
    · rw [h] at z; cases z
    · rw [h] at z; cases z
  · exact .inl ⟨od, h⟩
  · exact .inr h
theorem CallsAt.sq {H : Hp} {a : Addr} {xs : List V} (h : CallsAt K H a xs) : SqL K H a xs := h.elim (fun z => .inl (.inr z)) .inr
/-- locked things stay -/
def KF (H H' : Hp) : Prop := ∀ x od u, H x = some (.frz od u) → H' x = some (.frz od u)
theorem KF.ex {H H' : Hp} (e : Ex H H') : KF H H' := fun x od u h => e x _ h
theorem KF.fr {X : Addr → Prop} {H H' : Hp} (e : Fr X H H') : KF H H' := fun x od u h => e.stay x _ h True.intro
theorem KF.trans {H H1 H2 : Hp} (a : KF H H1) (b : KF H1 H2) : KF H H2 := fun x od u h => b x od u (a x od u h)
theorem KF.upd {H : Hp} {D : Addr} {xs : List V} {o : HO} (h : H D = some (.lst xs)) : KF H (L2.upd H D o) := fun x od u hx => by
  rw [upd_ne (ne_of hx h (fun z => nomatch z))]
  exact hx
theorem CallsAt.kf {H H' : Hp} {a : Addr} {xs : List V} (h : CallsAt K H a xs) (k : KF H H') : CallsAt K H' a xs := h.elim (fun ⟨od, z⟩ => .inl ⟨od, k a od _ z⟩) .inr
/-- what is told of the rest of the calls -/
def PL (s : Ks582.Instance) (raws : List (List (List Int))) : List Int := PyFlat.told (PyFlat.played Ks582Neutral.step s (raws.map PyKs582.whole))
theorem PL_cons {s : Ks582.Instance} {c : List (List Int)} {cs : List (List (List Int))} {cc : Ks582.Call} (hw : PyKs582.whole c = c) (hs : ∀ s, Ks582Neutral.step s c = Ks582Neutral.withIntegers (Ks582.act s cc)) :
    PL s (c :: cs) = (((Ks582.act s cc).2.value :: (Ks582.act s cc).2.rest).length : Int) :: ((Ks582.act s cc).2.value :: (Ks582.act s cc).2.rest) ++ PL (Ks582.act s cc).1 cs := by
  unfold PL
  rw [List.map_cons, hw]
  show PyFlat.told ((Ks582Neutral.step s c).2 :: PyFlat.played Ks582Neutral.step (Ks582Neutral.step s c).1 _) = _
  rw [hs]
  rfl
structure AInv (P : Program) (w : World) (ad : Adr) (K : PySem.W.Frag) (a fo : Addr) (l : List Int) (at_ : Nat) (ob : Option (Addr × State)) (H : Hp) : Prop where
  calls : CallsAt K H a (l.map V.int)
  le : at_ ≤ l.length
  rest : ∃ fuel raws fd, PyFlat.calls PyKs582.shape fuel (l.drop at_) = some raws ∧ H fo = some (.lst (fd.map V.int)) ∧ fd ++ PL (ob.map (·.2)) raws = PyKs582.answers l
  bd : ∀ x, ob = some x → BoardAt P w ad H x.1 x.2 (fun y => y = fo)
def sp_answers (K : PySem.W.Frag) : Sp := fun vs H Q _ => ∃ (a : Addr) (l : List Int), vs = [.ref a] ∧ SqL K H a (l.map V.int) ∧ OnlyF H ∧ l.length ≤ 10800 ∧ (∀ z ∈ l, 0 ≤ z) ∧ (∃ raws, PyFlat.calls PyKs582.shape l.length l = some raws) ∧ (PyKs582.answers l).length ≤ 10000000 ∧
  ∀ p H2, IntsOf H2 p (PyKs582.answers l) → Q (.ref p) H2
theorem cut_mid {l : List Int} {i n : Nat} (h : i + n ≤ l.length) : cutV (l.map V.int) (some (i : Int)) (some ((i : Int) + (n : Int))) = ((l.drop i).take n).map V.int := by
  unfold cutV
  rw [show ((i : Int) + (n : Int)) = ((i + n : Nat) : Int) by omega, HT.sIx_nat, HT.sIx_nat, List.length_map, Nat.min_eq_left (show i ≤ l.length by omega), Nat.min_eq_left h, Nat.add_sub_cancel_left, List.map_take, List.map_drop]
theorem szL {n : Nat} (h : n ≤ 10000000) : n < sizeLine := Nat.lt_of_le_of_lt h (by rw [sizeLine_eq]; decide)
theorem act_none {cc : Ks582.Call} (h : cNum cc ≠ 0) : Ks582.act none cc = (none, Ks577.number (-61)) := by
  cases cc <;> first | rfl | exact absurd rfl h
theorem act_create (s : Ks582.Instance) (n : Nat) : Ks582.act s (.create n) = if 1 ≤ n ∧ n ≤ 5 then (some (Ks582.initialState n), Ks577.number 0) else (s, Ks577.number (-22)) := by
  have hv : Ks582.isValidSize n = decide (1 ≤ n ∧ n ≤ 5) := by
    unfold Ks582.isValidSize Ks577.maxVertices
    by_cases h1 : 1 ≤ n <;> by_cases h2 : n ≤ 5 <;> simp [h1, h2]
  cases s with
  | none =>
    show (if Ks582.isValidSize n = true then _ else _) = _
    rw [hv]
    by_cases h : 1 ≤ n ∧ n ≤ 5
    · rw [if_pos h, if_pos (decide_eq_true h)]; rfl
    · rw [if_neg h, if_neg (by simpa using h)]; rfl
  | some st =>
    show (some (if Ks582.isValidSize n = true then (Ks582.initialState n, Ks582.number 0) else (st, Ks582.number (-22))).1, (if Ks582.isValidSize n = true then (Ks582.initialState n, Ks582.number 0) else (st, Ks582.number (-22))).2) = _
    rw [hv]
    by_cases h : 1 ≤ n ∧ n ≤ 5
    · rw [if_pos h, if_pos (decide_eq_true h)]; rfl
    · rw [if_neg h, if_neg (by simpa using h)]; rfl
theorem okf_answers (T : Txt K mg ad) {fd : FuncData} (F : Fun K "answers" "answers" s_answers ad.f_answers fd) : FnOk P w K mg base CX0 22 ad.f_answers fd ["calls"] (sp_answers K) := by
  obtain ⟨fd_Board_init, G_Board_init, B_Board_init⟩ := ok_Board_init (P := P) (w := w) (base := base) T
  obtain ⟨fd_done, G_done, B_done⟩ := ok_done (P := P) (w := w) (base := base) T
  refine F.ok sc_answers (fun vs H Q E h => ?_) (fun cdv A outer s H vs Q E hr h => ?_)
  · obtain ⟨_, _, rfl, _⟩ := h
    rfl
  have hu := hu_of hr
  refine ⟨_, (pss_cons (ps_set (i := 1) sc_answers.nd rfl (by first | exact Or.inl rfl | exact Or.inr rfl) pe_non)
      (pss_cons (ps_set (i := 2) sc_answers.nd rfl (by first | exact Or.inl rfl | exact Or.inr rfl) (pe_lst pa_nil))
      (pss_cons (ps_set (i := 3) sc_answers.nd rfl (by first | exact Or.inl rfl | exact Or.inr rfl) pe_int)
      (pss_cons (ps_while PassesOwn.never (pt_cmpR op_lt (pv 3) (pe_callB call_len_seq (by rfl) T.n_len (by decide +kernel) (by exact (pa_cons (pv 0) pa_nil))) (nomark _)) (pss_cons (ps_set (i := 4) sc_answers.nd rfl (by first | exact Or.inl rfl | exact Or.inr rfl) (pe_ix ix_list (pv 0) (pv 3) (fun _ _ => rfl)))
      (pss_cons (ps_aug (i := 3) sc_answers.nd rfl (by first | exact Or.inl rfl | exact Or.inr rfl) pe_int ip_add)
      (pss_cons (ps_set (i := 5) sc_answers.nd rfl (by first | exact Or.inl rfl | exact Or.inr rfl) (pe_callTy call_list_of (by rfl) T.n_list (by decide +kernel) (by exact (pa_cons (pe_slice sl_list (pv 0) (po_some (pv 3)) (po_some (pe_op op_add (pv 3) (pe_ix ix_tup (pe_glob (v := .ref ad.a_SINGLES) rfl T.c_SINGLES rfl) (pv 4) (fun _ _ => rfl))))) pa_nil))))
      (pss_cons (ps_aug (i := 3) sc_answers.nd rfl (by first | exact Or.inl rfl | exact Or.inr rfl) (pe_ix ix_tup (pe_glob (v := .ref ad.a_SINGLES) rfl T.c_SINGLES rfl) (pv 4) (fun _ _ => rfl)) ip_add)
      (pss_cons (ps_for PassesOwn.never rfl (pi_range1 (by rfl) T.n_range (by exact (pa_cons (pe_kget2 (pe_glob (v := .ref ad.a_LISTS) rfl T.c_LISTS rfl) (pv 4) pe_int ⟨rfl, rfl, rfl, rfl⟩) pa_nil))) (pg_name (i := 6) sc_answers.nd rfl (by first | exact Or.inl rfl | exact Or.inr rfl)) (pss_cons (ps_set (i := 7) sc_answers.nd rfl (by first | exact Or.inl rfl | exact Or.inr rfl) (pe_ix ix_list (pv 0) (pv 3) (fun _ _ => rfl)))
      (pss_cons (ps_expr (pe_bm PySem.F.plainAttrs_list PySem.F.slot_list_append PySem.F.type_list_append mt_append (pv 5) (by exact (pa_cons (pe_callTy call_list_of (by rfl) T.n_list (by decide +kernel) (by exact (pa_cons (pe_slice sl_list (pv 0) (po_some (pe_op op_add (pv 3) pe_int)) (po_some (pe_op op_add (pe_op op_add (pv 3) pe_int) (pv 7)))) pa_nil))) pa_nil))))
      (pss_one (ps_aug (i := 3) sc_answers.nd rfl (by first | exact Or.inl rfl | exact Or.inr rfl) (pe_op op_add pe_int (pv 7)) ip_add)))))
      (pss_cons (ps_if (pt_cmpR op_eq (pv 4) pe_int (nomark _)) (pss_cons (ps_set (i := 8) sc_answers.nd rfl (by first | exact Or.inl rfl | exact Or.inr rfl) (pe_chain op_le op_le pe_int (pe_ix ix_list (pv 5) pe_int (fun _ _ => rfl)) (pe_glob (v := .int (5)) rfl T.c_MOST_VERTICES ⟨_, rfl⟩)))
      (pss_cons (ps_set (i := 1) sc_answers.nd rfl (by first | exact Or.inl rfl | exact Or.inr rfl) (pe_ifExp (pt_val (pv 8)) (pe_make T.mk_Board G_Board_init (hr.mono (by decide)) (by rfl) T.g_Board B_Board_init .nil pass0 (by exact (pa_cons (pe_ix ix_list (pv 5) pe_int (fun _ _ => rfl)) pa_nil))) (pv 1)))
      (pss_one (ps_set (i := 9) sc_answers.nd rfl (by first | exact Or.inl rfl | exact Or.inr rfl) (pe_ifExp (pt_val (pv 8)) (pe_lst (by exact (pa_cons pe_int pa_nil))) (pe_lst (by exact (pa_cons (pe_un un_neg pe_int) pa_nil)))))))) (pss_one (ps_try_as (i := 10) (tb := fun W => tAsg (tCallS (sp_done P w ad) (WE W) (tCons (tVar 1) (tCons (tVar 4) (tCons (tVar 5) tNil)))) (gName 9)) (ts := fun a cls d => tAsg (tLst (tCons (tByRef ad.C_Refused a cls d (tVar 10)) tNil)) (gName 9)) (Wout := fun _ _ _ _ => False) rfl rfl sc_answers.nd rfl rfl ⟨rfl, by decide, Or.inl T.low.gC⟩ takes0 (fun W pn xe tk _ => pss_one (ps_set (i := 9) sc_answers.nd rfl (Or.inl rfl) (by exact (pe_callS G_done (hr.mono (by decide)) rfl T.g_done T.k_done B_done (fun σ => passAt tk σ) (by exact (pa_cons (pv 1) (pa_cons (pv 4) (pa_cons (pv 5) pa_nil)))))))) (fun a oe cls d pn hz hf => pss_one (ps_set (i := 9) sc_answers.nd rfl (Or.inl rfl) (by exact (pe_lst (by exact (pa_cons (pe_byRef T.low hz hf (pv 10)) pa_nil)))))))))
      (pss_cons (ps_expr (pe_bm PySem.F.plainAttrs_list PySem.F.slot_list_append PySem.F.type_list_append mt_append (pv 2) (by exact (pa_cons (pe_callB call_len_seq (by rfl) T.n_len (by decide +kernel) (by exact (pa_cons (pv 9) pa_nil))) pa_nil))))
      (pss_one (ps_expr (pe_bm PySem.F.plainAttrs_list PySem.F.slot_list_extend PySem.F.type_list_extend mt_extend (pv 2) (by exact (pa_cons (pv 9) pa_nil)))))))))))))
      (pss_one (ps_ret (pv 2))))))), ?_⟩
  obtain ⟨a, l, rfl, hSq, hOF, hlen, hnn, ⟨raws0, hraws0⟩, htot, q⟩ := h
  refine ⟨by show 0 ≤ sizeLine; exact Nat.zero_le _, fun fo hfo => ?_⟩
  have hC0 := (CallsAt.of hSq hOF).kf (KF.ex (Ex.new (o := .lst []) hfo))
  have hans : PyKs582.answers l = PL none raws0 := by
    unfold PyKs582.answers PyKs582.calls
    rw [hraws0]
    rfl
  refine ⟨fun m σ H' => ∃ (at_ : Nat) (ob : Option (Addr × State)) (v4 v5 v6 v7 v8 v9 v10 : Option V), m = l.length - at_ ∧ σ = [some (.ref a), some (obV ob), some (.ref fo), some (.int at_), v4, v5, v6, v7, v8, v9, v10] ∧ AInv P w ad K a fo l at_ ob H',
    ⟨_, 0, none, none, none, none, none, none, none, none, rfl, rfl, ⟨hC0, Nat.zero_le _, ⟨l.length, raws0, [], hraws0, upd_same, hans.symm⟩, fun x hx => (by cases hx)⟩⟩, ?_⟩
  rintro m σ H0 ⟨at_, ob, v4, v5, v6, v7, v8, v9, v10, rfl, rfl, I⟩
  refine ⟨_, rfl, _, rfl, a, _, rfl, .inl I.calls.sq, _, _, rfl, rfl, _, rfl, ?_⟩
  obtain ⟨fuel, raws, fd, hraws, hfd, hsum⟩ := I.rest
  rw [List.length_map]
  by_cases hat : at_ < l.length
  rotate_left
  · refine if_false_of (decide_eq_false (by omega)) ⟨_, rfl, q fo H0 ?_⟩
    rw [List.drop_of_length_le (by omega)] at hraws
    have : raws = [] := by
      cases fuel <;> exact (Option.some.inj hraws).symm
    rw [this] at hsum
    have e : PL (ob.map (·.2)) [] = [] := rfl
    rw [e, List.append_nil] at hsum
    rw [← hsum]
    exact hfd
  refine if_true_of (decide_eq_true (by omega)) ⟨fun σ' H' => ∃ m', m' < l.length - at_ ∧ _, fun _ _ h => h, ?_⟩
  -- the call
  obtain ⟨pz, r, hpr⟩ : ∃ pz r, l.drop at_ = pz :: r := ⟨l[at_], l.drop (at_ + 1), List.drop_eq_getElem_cons hat⟩
  have hr1 : r = l.drop (at_ + 1) := by
    have := congrArg List.tail hpr
    rw [List.tail_drop] at this
    exact this.symm
  rw [hpr] at hraws
  obtain ⟨f', rfl⟩ : ∃ f', fuel = f' + 1 := by
    cases fuel with
    | zero => cases hraws
    | succ f' => exact ⟨f', rfl⟩
  unfold PyFlat.calls at hraws
  cases hcall : PyFlat.call PyKs582.shape (pz :: r) with
  | none => rw [hcall] at hraws; cases hraws
  | some ct =>
  obtain ⟨c, t⟩ := ct
  rw [hcall] at hraws
  simp only at hraws
  cases hcs : PyFlat.calls PyKs582.shape f' t with
  | none => rw [hcs] at hraws; cases hraws
  | some cs =>
  rw [hcs] at hraws
  obtain rfl : c :: cs = raws := Option.some.inj hraws
  obtain ⟨cc, rfl, hrr, hstep, hwhole, hrl⟩ := call_ok hcall fun z hz => hnn z (List.mem_of_mem_drop (by rw [← hr1]; exact hz))
  have hnum := num_le cc
  have hargs := args_le cc
  have hrows := rows_le cc
  have hl1 : r.length = l.length - (at_ + 1) := by rw [hr1, List.length_drop]
  have hl2 : r.length = (cArgs cc).length + (encRows (cRows cc)).length + t.length := by rw [hrr, List.length_append, List.length_append, zI_len]
  have hget0 : (l.map V.int)[at_]? = some (.int ((cNum cc : Nat) : Int)) := by
    rw [List.getElem?_map]
    have : l[at_]? = some ((cNum cc : Nat) : Int) := by
      have := congrArg List.head? hpr
      rw [List.head?_drop] at this
      exact this
    rw [this]
    rfl
  refine ⟨_, rfl, _, rfl, a, _, _, _, rfl, rfl, I.calls.sq, atI_nat hget0, ?_⟩
  refine ⟨_, rfl, _, _, rfl, rfl, ?_⟩
  refine ⟨_, rfl, _, rfl, _, rfl, _, rfl, _, rfl, ad.a_SINGLES, _, _, _, rfl, rfl, T.w_SINGLES _, atI_nat (singles_ok cc), _, _, rfl, rfl, _, rfl, a, _, rfl, I.calls.sq, fun p1 hp1 => ?_⟩
  have hcut : cutV (l.map V.int) (some ((at_ : Int) + 1)) (some ((at_ : Int) + 1 + ((cArgs cc).length : Int))) = nVs (cArgs cc) := by
    have h := cut_mid (l := l) (i := at_ + 1) (n := (cArgs cc).length) (by omega)
    rw [show ((at_ + 1 : Nat) : Int) = (at_ : Int) + 1 by omega, ← hr1, hrr, List.append_assoc, List.take_left' (zI_len _)] at h
    rw [h, nVs_zI]
  have hcut2 : (HO.lst (cutV (l.map V.int) (some ((at_ : Int) + 1)) (some ((at_ : Int) + 1 + ((cArgs cc).length : Int))))) = .lst (nVs (cArgs cc)) := by rw [hcut]
  refine ⟨p1, _, rfl, .inl (sl_of' upd_same), fun gv hgv => ?_⟩
  have x1 : Ex H0 (upd (upd H0 p1 (.lst (nVs (cArgs cc)))) gv (.lst (nVs (cArgs cc)))) := by
    rw [← hcut]
    exact Ex.upd_new (Ex.new hp1) hgv
  have hgv0 : H0 gv = none := upd_dom hgv
  have hg1 : upd (upd H0 p1 (.lst (nVs (cArgs cc)))) gv (.lst (nVs (cArgs cc))) gv = some (.lst (nVs (cArgs cc))) := upd_same
  refine ⟨_, rfl, _, rfl, ad.a_SINGLES, _, _, _, rfl, rfl, T.w_SINGLES _, atI_nat (singles_ok cc), _, _, rfl, rfl, ?_⟩
  refine ⟨ad.a_LISTS, _, rfl, T.w_LISTS, _, rfl, _, rfl, (cRows cc).length, congrArg (fun v => [v]) (lists_ok cc), by omega, by omega, ?_⟩
  have hcx : ∀ {H' : Hp}, Ex H0 H' → SqL K H' a (l.map V.int) := fun x => (I.calls.kf (KF.ex x)).sq
  have e0 : V.int ((at_ : Int) + 1 + ((cArgs cc).length : Int)) = V.int ((at_ + 1 + (cArgs cc).length + (encRows ((cRows cc).take 0)).length : Nat) : Int) := by
    rw [List.take_zero]
    congr 1
  refine for_range0 (n := (cRows cc).length) (fun j σ H' => ∃ (rs : List Addr) (v6 v7 : Option V), σ = [some (.ref a), some (obV ob), some (.ref fo), some (.int ((at_ + 1 + (cArgs cc).length + (encRows ((cRows cc).take j)).length : Nat) : Int)), some (.int (cNum cc : Nat)), some (.ref gv), v6, v7, v8, v9, v10] ∧ Ex H0 H' ∧
      H' gv = some (.lst (nVs (cArgs cc) ++ ARefs rs)) ∧ Paired (LstOf H') rs ((cRows cc).take j) ∧ ∀ x ∈ rs, H0 x = none ∧ x ≠ gv)
    ⟨[], v6, v7, by rw [← e0]; rfl, by rw [hcut]; exact x1, by rw [upd_same, hcut]; exact congrArg (fun z => some (HO.lst z)) (List.append_nil _).symm, .nil, fun x hx => (by cases hx)⟩ ?_ ?_
  · rintro j σ H' hj ⟨rs, v6, v7, rfl, x2, hg2, hP2, hrs⟩
    obtain ⟨L, hL⟩ : ∃ L, (cRows cc)[j]? = some L := ⟨_, List.getElem?_eq_getElem hj⟩
    have hsplit : encRows (cRows cc) = encRows ((cRows cc).take j) ++ ((L.length : Int) :: zI L ++ encRows ((cRows cc).drop (j + 1))) := by
      obtain ⟨hjl, hLe⟩ := List.getElem?_eq_some_iff.mp hL
      have e : cRows cc = (cRows cc).take j ++ L :: (cRows cc).drop (j + 1) := by rw [← hLe, ← List.drop_eq_getElem_cons hjl, List.take_append_drop]
      unfold encRows
      conv => lhs; rw [e]
      rw [List.flatMap_append, List.flatMap_cons]
    have hsn : encRows ((cRows cc).take (j + 1)) = encRows ((cRows cc).take j) ++ ((L.length : Int) :: zI L) := by
      rw [take_snoc hL]
      unfold encRows
      rw [List.flatMap_append]
      simp
    have hslen : (encRows (cRows cc)).length = (encRows ((cRows cc).take j)).length + (1 + L.length + (encRows ((cRows cc).drop (j + 1))).length) := by
      rw [hsplit, List.length_append, List.length_append, List.length_cons, zI_len]
      omega
    generalize hpj : at_ + 1 + (cArgs cc).length + (encRows ((cRows cc).take j)).length = pj at *
    have hdrop : l.drop pj = (L.length : Int) :: zI L ++ (encRows ((cRows cc).drop (j + 1)) ++ t) := by
      have : l.drop pj = r.drop ((cArgs cc).length + (encRows ((cRows cc).take j)).length) := by
        rw [hr1, List.drop_drop, ← hpj]
        congr 1
        omega
      rw [this, hrr, hsplit]
      have e3 : zI (cArgs cc) ++ (encRows ((cRows cc).take j) ++ ((L.length : Int) :: zI L ++ encRows ((cRows cc).drop (j + 1)))) ++ t = (zI (cArgs cc) ++ encRows ((cRows cc).take j)) ++ ((L.length : Int) :: zI L ++ (encRows ((cRows cc).drop (j + 1)) ++ t)) := by simp [List.append_assoc]
      rw [e3, List.drop_left' (by rw [List.length_append, zI_len])]
    have hgetj : (l.map V.int)[pj]? = some (.int ((L.length : Nat) : Int)) := by
      rw [List.getElem?_map]
      have h := congrArg List.head? hdrop
      rw [List.head?_drop] at h
      rw [h]
      rfl
    have hcutj : cutV (l.map V.int) (some ((pj : Int) + 1)) (some ((pj : Int) + 1 + ((L.length : Nat) : Int))) = nVs L := by
      have h := cut_mid (l := l) (i := pj + 1) (n := L.length) (by omega)
      have hd2 : l.drop (pj + 1) = zI L ++ (encRows ((cRows cc).drop (j + 1)) ++ t) := by
        have := congrArg List.tail hdrop
        rw [List.tail_drop] at this
        exact this
      rw [show ((pj + 1 : Nat) : Int) = (pj : Int) + 1 by omega, hd2, List.take_left' (zI_len _)] at h
      rw [h, nVs_zI]
    refine ⟨_, rfl, _, rfl, a, _, _, _, rfl, rfl, hcx x2, atI_nat hgetj, ?_⟩
    refine ⟨_, rfl, .inl ⟨rfl, _, sl_of' hg2⟩, _, rfl, _, rfl, _, _, rfl, rfl, _, rfl, _, rfl, _, _, rfl, rfl, _, rfl, _, _, rfl, rfl, _, rfl, a, _, rfl, hcx x2, fun p2 hp2 => ?_⟩
    refine ⟨p2, _, rfl, .inl (sl_of' upd_same), fun rv hrv => ?_⟩
    have x3 : Ex H' (upd (upd H' p2 (.lst (nVs L))) rv (.lst (nVs L))) := by
      rw [← hcutj]
      exact Ex.upd_new (Ex.new hp2) hrv
    have hrv0 : H' rv = none := upd_dom hrv
    have hrvgv : rv ≠ gv := fun z => ne_of_none hg2 hrv0 z.symm
    have hrv3 : upd (upd H' p2 (.lst (nVs L))) rv (.lst (nVs L)) rv = some (.lst (nVs L)) := upd_same
    have hll := hrl L (List.mem_of_getElem? hL)
    refine ⟨gv, _, _, rfl, rfl, by rw [hcutj]; exact x3 _ _ hg2, ?_, ?_⟩
    · rw [List.length_append, nVs_len, aref_len, Paired.length hP2, List.length_take]
      exact szl (by omega)
    rw [hcutj]
    generalize upd (upd H' p2 (.lst (nVs L))) rv (.lst (nVs L)) = H3 at x3 hrv3
    refine ⟨_, rfl, _, rfl, _, _, rfl, rfl, _, _, rfl, rfl, rs ++ [rv], some (.int j), some (.int ((L.length : Nat) : Int)), ?_, Ex.mut (x2.trans x3) hgv0, ?_, ?_, ?_⟩
    · have e4 : V.int ((pj : Int) + (1 + ((L.length : Nat) : Int))) = V.int ((at_ + 1 + (cArgs cc).length + (encRows ((cRows cc).take (j + 1))).length : Nat) : Int) := by
        rw [hsn, List.length_append, List.length_cons, zI_len]
        congr 1
        omega
      rw [← e4]
      rfl
    · rw [upd_same, aref_app, List.append_assoc]
      rfl
    · rw [take_snoc hL]
      refine paired_app (Paired.imp_mem hP2 fun x hx c hc => ?_) (.cons ?_ .nil)
      · show upd H3 gv _ x = _
        rw [upd_ne (hrs x hx).2]
        exact x3 _ _ hc
      · show upd H3 gv _ rv = _
        rw [upd_ne hrvgv]
        exact hrv3
    · intro x hx
      rcases List.mem_append.mp hx with hx | hx
      · exact hrs x hx
      · rw [List.mem_singleton.mp hx]
        exact ⟨fresh_back x2 hrv0, hrvgv⟩
  · rintro σ H1 ⟨rs, v6, v7, rfl, x2, hg2, hP2, hrs⟩
    rw [List.take_length] at hP2
    have hC1 := I.calls.kf (KF.ex x2)
    have hfo1 := x2 _ _ hfd
    have hfogv : fo ≠ gv := ne_of_none hfd hgv0
    have hdropt : l.drop (at_ + 1 + (cArgs cc).length + (encRows ((cRows cc).take (cRows cc).length)).length) = t := by
      rw [List.take_length]
      have : l.drop (at_ + 1 + (cArgs cc).length + (encRows (cRows cc)).length) = r.drop ((cArgs cc).length + (encRows (cRows cc)).length) := by
        rw [hr1, List.drop_drop]
        congr 1
        omega
      rw [this, hrr, List.drop_left' (by rw [List.length_append, zI_len])]
    have hposle : at_ + 1 + (cArgs cc).length + (encRows ((cRows cc).take (cRows cc).length)).length ≤ l.length := by
      rw [List.take_length]
      omega
    have hposgt : at_ < at_ + 1 + (cArgs cc).length + (encRows ((cRows cc).take (cRows cc).length)).length := by omega
    generalize at_ + 1 + (cArgs cc).length + (encRows ((cRows cc).take (cRows cc).length)).length = pos at hdropt hposle hposgt ⊢
    have hgiv : GivenAt H1 (fun x => x = fo ∨ (x = gv ∨ x ∈ rs)) gv cc := ⟨rs, hg2, hP2, fun x hx => .inr (.inr hx), fun L hL => Nat.le_trans (hrl L hL) (by omega)⟩
    have hB1 : ∀ x, ob = some x → BoardAt P w ad H1 x.1 x.2 (fun x => x = fo ∨ (x = gv ∨ x ∈ rs)) := fun x hx => (I.bd x hx).freshS x2 fun y hy => by
      rcases hy with rfl | hy
      · exact ⟨hgv0, by rw [hg2]; exact fun z => nomatch z⟩
      · refine ⟨(hrs y hy).1, ?_⟩
        obtain ⟨L, _, hL⟩ := paired_mem hP2 hy
        have hL : H1 y = some (.lst (nVs L)) := hL
        rw [hL]
        exact fun z => nomatch z
    have hPLc := PL_cons (s := ob.map (·.2)) (cs := cs) hwhole hstep
    -- what is told of this call, and the next turn
    have hlenA : ∀ (v : Int) (rest : List Int) (s' : Ks582.Instance), Ks582.act (ob.map (·.2)) cc = (s', ⟨v, rest⟩) → fd.length + 1 + (v :: rest).length ≤ 10000000 := fun v rest s' ha => by
      rw [hPLc, ha] at hsum
      rw [← hsum] at htot
      simp only [List.length_append, List.length_cons] at htot ⊢
      omega
    have fin : ∀ (H2 : Hp) (ob' : Option (Addr × State)) (v : Int) (rest : List Int), Ks582.act (ob.map (·.2)) cc = (ob'.map (·.2), ⟨v, rest⟩) → KF H1 H2 → H2 fo = some (.lst (fd.map V.int)) → (∀ x, ob' = some x → BoardAt P w ad H2 x.1 x.2 (fun y => y = fo)) →
        AInv P w ad K a fo l pos ob' (upd H2 fo (.lst (fd.map V.int ++ [V.int (((v :: rest).map V.int).length : Nat)] ++ (v :: rest).map V.int))) := by
      intro H2 ob' v rest ha hk hf hb
      refine ⟨hC1.kf (hk.trans (KF.upd hf)), hposle, ⟨f', cs, fd ++ (((v :: rest).length : Int) :: (v :: rest)), by rw [hdropt]; exact hcs, ?_, ?_⟩, fun x hx => (hb x hx).mut hf rfl⟩
      · have e : ((((v :: rest).map V.int).length : Nat) : Int) = (((v :: rest).length : Nat) : Int) := by rw [List.length_map]
        rw [upd_same, e, List.map_append, List.append_assoc]
        rfl
      · rw [hPLc, ha] at hsum
        rw [← hsum, List.append_assoc]
    refine ⟨_, rfl, rfl, _, rfl, ?_⟩
    by_cases hz : cNum cc = 0
    · refine if_true_of (by rw [hz]; rfl) ?_
      obtain ⟨n, rfl⟩ := num_zero hz
      have hgn : H1 gv = some (.lst [.int (n : Nat)]) := hgiv.none rfl
      have hact := act_create (ob.map (·.2)) n
      refine ⟨_, rfl, gv, _, 0, _, rfl, rfl, sl_of' hgn, rfl, _, _, rfl, rfl, _, rfl, ?_⟩
      by_cases h1 : 1 ≤ n
      · refine if_true_of (decide_eq_true (by omega)) ⟨_, _, rfl, rfl, _, rfl, _, rfl, ?_⟩
        by_cases h5 : n ≤ 5
        · rw [if_pos ⟨h1, h5⟩] at hact
          refine if_true_of (decide_eq_true (by omega)) ⟨_, rfl, gv, _, 0, _, rfl, rfl, sl_of' hgn, rfl, fun bx dx hbx hdx hne => ?_⟩
          have hkeep : ∀ x o, H1 x = some o → x ≠ bx ∧ upd (upd H1 dx (.own bx)) bx (.ins ad.C_Board dx []) x = some o := fun x o hx => ⟨ne_of_none hx hbx, by rw [upd_ne (ne_of_none hx hbx), upd_ne (ne_of_none hx hdx)]; exact hx⟩
          refine ⟨bx, dx, n, rfl, h1, h5, upd_same, fun H2 hk B2 => ⟨rfl, ?_⟩⟩
          have x12 : Ex H1 H2 := fun x o hx => hk x o (hkeep x o hx).1 (hkeep x o hx).2
          refine ⟨_, rfl, _, rfl, if_true_of (decide_eq_true (by omega)) ⟨by show 1 ≤ sizeLine; exact szs (by omega), fun p hp => ?_⟩⟩
          have x13 := x12.trans (Ex.new (o := .lst [.int 0]) hp)
          have hf3 := x13 _ _ hfo1
          have hpne : p ≠ fo := fun z => ne_of_none (x12 _ _ hfo1) hp z.symm
          have hp3 : upd H2 p (.lst [.int 0]) p = some (.lst ([(0 : Int)].map V.int)) := upd_same
          have hB3 : BoardAt P w ad (upd H2 p (.lst [.int 0])) bx (Ks582.initialState n) (fun y => y = fo) := (B2.weak (fun y hy => by
            subst hy
            exact ⟨(hkeep _ _ hfo1).1, by rw [(hkeep _ _ hfo1).2]; exact fun z => nomatch z⟩)).ex (Ex.new hp)
          have hlA := hlenA 0 [] _ hact
          refine ⟨_, rfl, .inl ⟨rfl, _, sl_of' hf3⟩, _, rfl, p, _, rfl, .inl (sl_of' hp3), fo, _, _, rfl, rfl, hf3, by rw [List.length_map]; exact szL (by omega), ?_⟩
          refine ⟨_, rfl, .inl ⟨rfl, _, sl_of' upd_same⟩, _, rfl, fo, p, _, _, rfl, rfl, upd_same, by rw [upd_ne hpne]; exact hp3, ?_, ?_⟩
          · rw [List.length_append, List.length_map, List.length_map]; exact Nat.le_trans hlA (by rw [sizeLine_eq]; decide)
          rw [upd_upd]
          exact ⟨l.length - pos, by omega, pos, some (bx, Ks582.initialState n), _, _, _, _, _, _, _, rfl, rfl, fin _ (some (bx, Ks582.initialState n)) 0 [] hact (KF.ex x13) hf3 fun x hx => (by cases hx; exact hB3)⟩
        · rw [if_neg (by omega)] at hact
          refine if_false_of (decide_eq_false (by omega)) ⟨_, rfl, ?_⟩
          refine ⟨_, rfl, _, rfl, if_false_of (decide_eq_false (by omega)) ⟨_, rfl, by show 1 ≤ sizeLine; exact szs (by omega), fun p hp => ?_⟩⟩
          have x13 : Ex H1 (upd H1 p (.lst [.int (-22)])) := Ex.new hp
          have hf3 := x13 _ _ hfo1
          have hpne : p ≠ fo := fun z => ne_of_none hfo1 hp z.symm
          have hp3 : upd H1 p (.lst [.int (-22)]) p = some (.lst ([(-22 : Int)].map V.int)) := upd_same
          have hlA := hlenA (-22) [] _ hact
          refine ⟨_, rfl, .inl ⟨rfl, _, sl_of' hf3⟩, _, rfl, p, _, rfl, .inl (sl_of' hp3), fo, _, _, rfl, rfl, hf3, by rw [List.length_map]; exact szL (by omega), ?_⟩
          refine ⟨_, rfl, .inl ⟨rfl, _, sl_of' upd_same⟩, _, rfl, fo, p, _, _, rfl, rfl, upd_same, by rw [upd_ne hpne]; exact hp3, ?_, ?_⟩
          · rw [List.length_append, List.length_map, List.length_map]; exact Nat.le_trans hlA (by rw [sizeLine_eq]; decide)
          rw [upd_upd]
          exact ⟨l.length - pos, by omega, pos, ob, _, _, _, _, _, _, _, rfl, rfl, fin _ ob (-22) [] hact (KF.ex x13) hf3 fun x hx => ((hB1 x hx).weak fun y hy => .inl hy).ex x13⟩
      · rw [if_neg (by omega)] at hact
        refine if_false_of (decide_eq_false (by omega)) ⟨_, rfl, _, rfl, ?_⟩
        refine if_false_of rfl ⟨_, rfl, ?_⟩
        refine ⟨_, rfl, _, rfl, if_false_of rfl ⟨_, rfl, by show 1 ≤ sizeLine; exact szs (by omega), fun p hp => ?_⟩⟩
        have x13 : Ex H1 (upd H1 p (.lst [.int (-22)])) := Ex.new hp
        have hf3 := x13 _ _ hfo1
        have hpne : p ≠ fo := fun z => ne_of_none hfo1 hp z.symm
        have hp3 : upd H1 p (.lst [.int (-22)]) p = some (.lst ([(-22 : Int)].map V.int)) := upd_same
        have hlA := hlenA (-22) [] _ hact
        refine ⟨_, rfl, .inl ⟨rfl, _, sl_of' hf3⟩, _, rfl, p, _, rfl, .inl (sl_of' hp3), fo, _, _, rfl, rfl, hf3, by rw [List.length_map]; exact szL (by omega), ?_⟩
        refine ⟨_, rfl, .inl ⟨rfl, _, sl_of' upd_same⟩, _, rfl, fo, p, _, _, rfl, rfl, upd_same, by rw [upd_ne hpne]; exact hp3, ?_, ?_⟩
        · rw [List.length_append, List.length_map, List.length_map]; exact Nat.le_trans hlA (by rw [sizeLine_eq]; decide)
        rw [upd_upd]
        exact ⟨l.length - pos, by omega, pos, ob, _, _, _, _, _, _, _, rfl, rfl, fin _ ob (-22) [] hact (KF.ex x13) hf3 fun x hx => ((hB1 x hx).weak fun y hy => .inl hy).ex x13⟩
    refine if_false_of (decide_eq_false fun z => hz (by injection z with z; omega)) ?_
    have hn1 : 1 ≤ cNum cc := by omega
    refine ⟨_, rfl, _, rfl, _, rfl, ob, gv, cc, _, rfl, hgiv, hn1, hnum, ?_⟩
    cases hob : ob with
    | none =>
      intro H2 x12 d hd
      have hact : Ks582.act (ob.map (·.2)) cc = ((none : Option (Addr × State)).map (·.2), ⟨-61, []⟩) := by
        rw [hob]
        exact act_none hz
      refine ⟨true, T.low.te, fun _ a0 _ => ?_, fun q => Bool.noConfusion q⟩
      refine ⟨_, rfl, rfl, rfl, d, _, rfl, upd_same, by show 1 ≤ sizeLine; exact szs (by omega), fun p hp => ?_⟩
      have x13 := (x12.trans (Ex.new (o := .xd [(("code" : Str), .int (-61))]) hd)).trans (Ex.new (o := .lst [.int (-61)]) hp)
      have hf3 := x13 _ _ hfo1
      have hpne : p ≠ fo := fun z => ne_of_none ((x12.trans (Ex.new hd)) _ _ hfo1) hp z.symm
      have hp3 : upd (upd H2 d (.xd [(("code" : Str), .int (-61))])) p (.lst [.int (-61)]) p = some (.lst ([(-61 : Int)].map V.int)) := upd_same
      have hlA := hlenA (-61) [] _ hact
      refine ⟨_, rfl, .inl ⟨rfl, _, sl_of' hf3⟩, _, rfl, p, _, rfl, .inl (sl_of' hp3), fo, _, _, rfl, rfl, hf3, by rw [List.length_map]; exact szL (by omega), ?_⟩
      refine ⟨_, rfl, .inl ⟨rfl, _, sl_of' upd_same⟩, _, rfl, fo, p, _, _, rfl, rfl, upd_same, by rw [upd_ne hpne]; exact hp3, ?_, ?_⟩
      · rw [List.length_append, List.length_map, List.length_map]; exact Nat.le_trans hlA (by rw [sizeLine_eq]; decide)
      rw [upd_upd]
      exact ⟨l.length - pos, by omega, pos, none, _, _, _, _, _, _, _, rfl, rfl, fin _ none (-61) [] hact (KF.ex x13) hf3 fun x hx => (by cases hx)⟩
    | some x =>
      obtain ⟨b0, st⟩ := x
      have hB := hB1 _ hob
      refine ⟨hB, fun H2 p f12 hp B2 hI => ?_, fun H2 code hcode f12 B2 d hd => ?_⟩
      · have hact : Ks582.act (ob.map (·.2)) cc = ((some (b0, (Ks582.perform st cc).1)).map (·.2), ⟨(Ks582.perform st cc).2.value, (Ks582.perform st cc).2.rest⟩) := by
          rw [hob]
          rfl
        have hf3 := f12.lst hfo1 (.inl rfl)
        have hpne : p ≠ fo := fun z => ne_of_none hfo1 hp z.symm
        have hp3 : H2 p = some (.lst (((Ks582.perform st cc).2.value :: (Ks582.perform st cc).2.rest).map V.int)) := hI
        have hlA := hlenA _ _ _ hact
        refine ⟨_, rfl, .inl ⟨rfl, _, sl_of' hf3⟩, _, rfl, p, _, rfl, .inl (sl_of' hp3), fo, _, _, rfl, rfl, hf3, by rw [List.length_map]; exact szL (by omega), ?_⟩
        refine ⟨_, rfl, .inl ⟨rfl, _, sl_of' upd_same⟩, _, rfl, fo, p, _, _, rfl, rfl, upd_same, by rw [upd_ne hpne]; exact hp3, ?_, ?_⟩
        · rw [List.length_append, List.length_map, List.length_map]; exact Nat.le_trans hlA (by rw [sizeLine_eq]; decide)
        rw [upd_upd]
        exact ⟨l.length - pos, by omega, pos, some (b0, (Ks582.perform st cc).1), _, _, _, _, _, _, _, rfl, rfl, fin _ (some (b0, (Ks582.perform st cc).1)) _ _ hact (KF.fr f12) hf3 fun x hx => (by cases hx; exact B2.weak fun y hy => .inl hy)⟩
      · have hact : Ks582.act (ob.map (·.2)) cc = ((some (b0, (Ks582.perform st cc).1)).map (·.2), ⟨code, []⟩) := by
          rw [hob]
          show (some (Ks582.perform st cc).1, (Ks582.perform st cc).2) = _
          rw [hcode]
          rfl
        refine ⟨true, T.low.te, fun _ a0 _ => ?_, fun q => Bool.noConfusion q⟩
        refine ⟨_, rfl, rfl, rfl, d, _, rfl, upd_same, by show 1 ≤ sizeLine; exact szs (by omega), fun p hp => ?_⟩
        have x23 := (Ex.new (o := .xd [(("code" : Str), .int code)]) hd).trans (Ex.new (o := .lst [.int code]) hp)
        have hf3 := x23 _ _ (f12.lst hfo1 (.inl rfl))
        have hpne : p ≠ fo := fun z => ne_of_none ((Ex.new hd) _ _ (f12.lst hfo1 (.inl rfl))) hp z.symm
        have hp3 : upd (upd H2 d (.xd [(("code" : Str), .int code)])) p (.lst [.int code]) p = some (.lst ([code].map V.int)) := upd_same
        have hlA := hlenA _ _ _ hact
        refine ⟨_, rfl, .inl ⟨rfl, _, sl_of' hf3⟩, _, rfl, p, _, rfl, .inl (sl_of' hp3), fo, _, _, rfl, rfl, hf3, by rw [List.length_map]; exact szL (by omega), ?_⟩
        refine ⟨_, rfl, .inl ⟨rfl, _, sl_of' upd_same⟩, _, rfl, fo, p, _, _, rfl, rfl, upd_same, by rw [upd_ne hpne]; exact hp3, ?_, ?_⟩
        · rw [List.length_append, List.length_map, List.length_map]; exact Nat.le_trans hlA (by rw [sizeLine_eq]; decide)
        rw [upd_upd]
        exact ⟨l.length - pos, by omega, pos, some (b0, (Ks582.perform st cc).1), _, _, _, _, _, _, _, rfl, rfl, fin _ (some (b0, (Ks582.perform st cc).1)) _ _ hact ((KF.fr f12).trans (KF.ex x23)) hf3 fun x hx => (by cases hx; exact (B2.weak fun y hy => .inl hy).ex x23)⟩
end PBW

namespace PBW
open PySem PySem.Spec PyProof.Rows L2 Evl PB
section
variable {K : PySem.W.Frag} {h : Heap} {mg : Str → Option Value} {Gl : Prop}
theorem step_none (X : K.In h) (G : h.Ns mainGlobals mg) (x : Str) (a : PySem.W.nsIn K mainGlobals x = some none) (rest : mg x = none → Gl) : Gl := rest (PySem.W.mg_none_of X G a)
theorem step_int (X : K.In h) (G : h.Ns mainGlobals mg) (x : Str) (v : Int) {t : Tok} (a : PySem.W.nsIn K mainGlobals x = some (some (.int v t))) (rest : ∀ t, mg x = some (.int v t) → Gl) : Gl := rest t (PySem.W.mg_of X G a)
theorem step_glob (X : K.In h) (G : h.Ns mainGlobals mg) (x : Str) (st : Stmt) {f : Addr} {od an : Option Addr} {sl : Array (Option Value)} {oc kV dc pm cd ct : Value}
    (a : PySem.W.nsIn K mainGlobals x = some (some (.ref f))) (l : K.lookup f = some ⟨oc, od, .func (PySem.W.fnOf x x (defArgs st) (defBody st) (defScope st) .none kV dc pm an cd ct), sl⟩) (c : PySem.W.codeIn K cd x = true) (k : PySem.W.keepIn K (.ref f) = true)
    (rest : ∀ f, (∃ fd, Fun K x x st f fd) → mg x = some (.ref f) → Gl) : Gl := rest f ⟨_, fun_mk (st := st) l c k⟩ (PySem.W.mg_of X G a)
theorem exm_self {S : Addr} (h1 : PySem.W.subIn K (.ref S) (.type "BaseException") = some true) (h2 : PySem.W.isClsIn K S = true) (h3 : PySem.W.typeIn K (.ref S) = some (.type "type")) (h4 : PySem.W.subIn K (.ref S) (.ref S) = some true) :
    PySem.W.exmOne K (.ref S) (.ref S) = some true := by
  have e1 : (PySem.W.subIn K (.ref S) (.type "BaseException") == some true) = true := by rw [h1] <;> rfl
  have e2 : ((PySem.W.clsIn K S).isSome && PySem.W.typeIn K (.ref S) == some (.type "type")) = true := by
    have h2' : (PySem.W.clsIn K S).isSome = true := h2
    rw [h2', h3] <;> rfl
  show (if (PySem.W.subIn K (.ref S) (.type "BaseException") == some true) = true then (if ((PySem.W.clsIn K S).isSome && PySem.W.typeIn K (.ref S) == some (.type "type")) = true then PySem.W.subIn K (.ref S) (.ref S) else none) else none) = some true
  rw [if_pos e1, if_pos e2]
  exact h4
theorem step_Refused (X : K.In h) (G : h.Ns mainGlobals mg) {C fI : Addr} {nm q : Str} {N : Addr} {bs : List Value} {sn : List Str} {sub : List Value} {ab : Bool} {col : Option Bool} {dd : Option Addr} {m0 m1 m2 m3 m5 : Option Value}
    {od an : Option Addr} {sl : Array (Option Value)} {oc dc pm cd ct : Value} {p1 p2 q1 q2 q3 q4 : Pos}
    (aC : PySem.W.nsIn K mainGlobals "Refused" = some (some (.ref C)))
    (xL : K.lookup C = some (excClassObj nm q C N bs [.type "ValueError", .type "Exception", .type "BaseException", .type "object"] true sn sub ab col dd m0 m1 m2 m3 m5 "ValueError.__new__"))
    (sa : PySem.W.findIn K (.ref C) "__setattr__" = some (some (.builtin "object.__setattr__"))) (ga : PySem.W.findIn K (.ref C) "__getattribute__" = some (some (.builtin "BaseException.__getattribute__"))) (gg : PySem.W.findIn K (.ref C) "__getattr__" = some none) (nb : PySem.W.findIn K (.ref C) "code" = some none)
    (a1 : PySem.W.findIn K (.ref C) "__init__" = some (some (.ref fI))) (t1 : PySem.W.typeIn K (.ref fI) = some (.type "function"))
    (l1 : K.lookup fI = some ⟨oc, od, .func (PySem.W.fnOf "__init__" "Refused.__init__" (PySem.RefX.iA p1 p2) (PySem.RefX.iB q1 q2 q3 q4) PySem.RefX.iS .none .none dc pm an cd ct), sl⟩) (c1 : PySem.W.codeIn K cd "Refused.__init__" = true)
    (kC : PySem.W.keepIn K (.ref C) = true) (eC : PySem.W.subIn K (.ref C) (.type "BaseException") = some true) (tC : PySem.W.typeIn K (.ref C) = some (.type "type")) (hC : PySem.W.hasDictIn K C = true) (iC : PySem.W.isClsIn K C = true) (sC : PySem.W.subIn K (.ref C) (.ref C) = some true)
    (rest : ∀ C fI, PySem.RefX.RefTxt K mg C fI → Gl) : Gl :=
  rest C fI { gC := PySem.W.mg_of X G aC, cls := ⟨nm, q, N, bs, _, sn, sub, ab, col, dd, m0, m1, m2, m3, m5, xL, by decide +kernel⟩, sa := sa, ga := ga, gg := gg, noN := nb, iC := a1, tC := t1, kC := kC, exC := eC, tyC := tC, hdC := hC, te := exm_self eC iC tC sC, fn := ⟨_, _, _, _, _, _, _, _, _, _, _, _, _, _, l1, c1⟩ }
structure T_Solved (K : PySem.W.Frag) (mg : Str → Option Value) (C f_Solved_init f_Solved_is_solved f_Solved_unsolvable f_Solved_number : Addr) : Prop where
  g : mg "Solved" = some (.ref C)
  cl : Cls K C
  mkC : Mk K C f_Solved_init
  na_rows : NoAttr K C "rows"
  na_target : NoAttr K C "target"
  na_rubbling : NoAttr K C "rubbling"
  na_known : NoAttr K C "known"
  F_Solved_init : ∃ fd, Fun K "__init__" "Solved.__init__" s_Solved_init f_Solved_init fd
  F_Solved_is_solved : ∃ fd, Fun K "is_solved" "Solved.is_solved" s_Solved_is_solved f_Solved_is_solved fd
  m_Solved_is_solved : Meth K C "is_solved" f_Solved_is_solved
  F_Solved_unsolvable : ∃ fd, Fun K "unsolvable" "Solved.unsolvable" s_Solved_unsolvable f_Solved_unsolvable fd
  m_Solved_unsolvable : Meth K C "unsolvable" f_Solved_unsolvable
  F_Solved_number : ∃ fd, Fun K "number" "Solved.number" s_Solved_number f_Solved_number fd
  m_Solved_number : Meth K C "number" f_Solved_number
theorem step_Solved (X : K.In h) (G : h.Ns mainGlobals mg) {C f_Solved_init f_Solved_is_solved f_Solved_unsolvable f_Solved_number : Addr}
    {od_Solved_init an_Solved_init : Option Addr} {sl_Solved_init : Array (Option Value)} {oc_Solved_init kV_Solved_init dc_Solved_init pm_Solved_init cd_Solved_init ct_Solved_init : Value}
    {od_Solved_is_solved an_Solved_is_solved : Option Addr} {sl_Solved_is_solved : Array (Option Value)} {oc_Solved_is_solved kV_Solved_is_solved dc_Solved_is_solved pm_Solved_is_solved cd_Solved_is_solved ct_Solved_is_solved : Value}
    {od_Solved_unsolvable an_Solved_unsolvable : Option Addr} {sl_Solved_unsolvable : Array (Option Value)} {oc_Solved_unsolvable kV_Solved_unsolvable dc_Solved_unsolvable pm_Solved_unsolvable cd_Solved_unsolvable ct_Solved_unsolvable : Value}
    {od_Solved_number an_Solved_number : Option Addr} {sl_Solved_number : Array (Option Value)} {oc_Solved_number kV_Solved_number dc_Solved_number pm_Solved_number cd_Solved_number ct_Solved_number : Value}
    (aC : PySem.W.nsIn K mainGlobals "Solved" = some (some (.ref C))) (pg : PySem.W.plainGet K C Str.empty = true) (hd : PySem.W.hasDictIn K C = true) (po : PySem.W.plainOver K C = true) (sa : PySem.W.findIn K (.ref C) "__setattr__" = some (some (.builtin "object.__setattr__"))) (mk : PySem.W.makesIn K C = true) (kc : PySem.W.keepIn K (.ref C) = true)
    (na_rows : PySem.W.findIn K (.ref C) "rows" = some none)
    (na_target : PySem.W.findIn K (.ref C) "target" = some none)
    (na_rubbling : PySem.W.findIn K (.ref C) "rubbling" = some none)
    (na_known : PySem.W.findIn K (.ref C) "known" = some none)
    (a_Solved_init : PySem.W.findIn K (.ref C) "__init__" = some (some (.ref f_Solved_init))) (i_Solved_init : PySem.W.isFn K (.ref f_Solved_init) = true) (l_Solved_init : K.lookup f_Solved_init = some ⟨oc_Solved_init, od_Solved_init, .func (PySem.W.fnOf "__init__" "Solved.__init__" (defArgs s_Solved_init) (defBody s_Solved_init) (defScope s_Solved_init) .none kV_Solved_init dc_Solved_init pm_Solved_init an_Solved_init cd_Solved_init ct_Solved_init), sl_Solved_init⟩) (c_Solved_init : PySem.W.codeIn K cd_Solved_init "Solved.__init__" = true) (k_Solved_init : PySem.W.keepIn K (.ref f_Solved_init) = true)
    (a_Solved_is_solved : PySem.W.findIn K (.ref C) "is_solved" = some (some (.ref f_Solved_is_solved))) (i_Solved_is_solved : PySem.W.isFn K (.ref f_Solved_is_solved) = true) (l_Solved_is_solved : K.lookup f_Solved_is_solved = some ⟨oc_Solved_is_solved, od_Solved_is_solved, .func (PySem.W.fnOf "is_solved" "Solved.is_solved" (defArgs s_Solved_is_solved) (defBody s_Solved_is_solved) (defScope s_Solved_is_solved) .none kV_Solved_is_solved dc_Solved_is_solved pm_Solved_is_solved an_Solved_is_solved cd_Solved_is_solved ct_Solved_is_solved), sl_Solved_is_solved⟩) (c_Solved_is_solved : PySem.W.codeIn K cd_Solved_is_solved "Solved.is_solved" = true) (k_Solved_is_solved : PySem.W.keepIn K (.ref f_Solved_is_solved) = true)
    (a_Solved_unsolvable : PySem.W.findIn K (.ref C) "unsolvable" = some (some (.ref f_Solved_unsolvable))) (i_Solved_unsolvable : PySem.W.isFn K (.ref f_Solved_unsolvable) = true) (l_Solved_unsolvable : K.lookup f_Solved_unsolvable = some ⟨oc_Solved_unsolvable, od_Solved_unsolvable, .func (PySem.W.fnOf "unsolvable" "Solved.unsolvable" (defArgs s_Solved_unsolvable) (defBody s_Solved_unsolvable) (defScope s_Solved_unsolvable) .none kV_Solved_unsolvable dc_Solved_unsolvable pm_Solved_unsolvable an_Solved_unsolvable cd_Solved_unsolvable ct_Solved_unsolvable), sl_Solved_unsolvable⟩) (c_Solved_unsolvable : PySem.W.codeIn K cd_Solved_unsolvable "Solved.unsolvable" = true) (k_Solved_unsolvable : PySem.W.keepIn K (.ref f_Solved_unsolvable) = true)
    (a_Solved_number : PySem.W.findIn K (.ref C) "number" = some (some (.ref f_Solved_number))) (i_Solved_number : PySem.W.isFn K (.ref f_Solved_number) = true) (l_Solved_number : K.lookup f_Solved_number = some ⟨oc_Solved_number, od_Solved_number, .func (PySem.W.fnOf "number" "Solved.number" (defArgs s_Solved_number) (defBody s_Solved_number) (defScope s_Solved_number) .none kV_Solved_number dc_Solved_number pm_Solved_number an_Solved_number cd_Solved_number ct_Solved_number), sl_Solved_number⟩) (c_Solved_number : PySem.W.codeIn K cd_Solved_number "Solved.number" = true) (k_Solved_number : PySem.W.keepIn K (.ref f_Solved_number) = true)
    (rest : ∀ C f_Solved_init f_Solved_is_solved f_Solved_unsolvable f_Solved_number, T_Solved K mg C f_Solved_init f_Solved_is_solved f_Solved_unsolvable f_Solved_number → Gl) : Gl :=
  rest C f_Solved_init f_Solved_is_solved f_Solved_unsolvable f_Solved_number { g := PySem.W.mg_of X G aC, cl := ⟨pg, hd, po, sa⟩, mkC := ⟨mk, a_Solved_init, i_Solved_init, kc⟩, na_rows := na_rows, na_target := na_target, na_rubbling := na_rubbling, na_known := na_known, F_Solved_init := ⟨_, fun_mk (st := s_Solved_init) l_Solved_init c_Solved_init k_Solved_init⟩, F_Solved_is_solved := ⟨_, fun_mk (st := s_Solved_is_solved) l_Solved_is_solved c_Solved_is_solved k_Solved_is_solved⟩, m_Solved_is_solved := ⟨a_Solved_is_solved, i_Solved_is_solved, k_Solved_is_solved⟩, F_Solved_unsolvable := ⟨_, fun_mk (st := s_Solved_unsolvable) l_Solved_unsolvable c_Solved_unsolvable k_Solved_unsolvable⟩, m_Solved_unsolvable := ⟨a_Solved_unsolvable, i_Solved_unsolvable, k_Solved_unsolvable⟩, F_Solved_number := ⟨_, fun_mk (st := s_Solved_number) l_Solved_number c_Solved_number k_Solved_number⟩, m_Solved_number := ⟨a_Solved_number, i_Solved_number, k_Solved_number⟩ }
structure T_Board (K : PySem.W.Frag) (mg : Str → Option Value) (C f_Board_init f_Board_push f_Board_put_edges f_Board_check f_Board_near_all f_Board_steps f_Board_solver f_Board_edge f_Board_put_edge f_Board_take_edge f_Board_set_pebbles f_Board_put_pebbles f_Board_rub f_Board_bring f_Board_undo f_Board_list_edges f_Board_list_pebbles f_Board_distance f_Board_least f_Board_most f_Board_sequence f_Board_shortest_sequence f_Board_reachable f_Board_weight_at f_Board_can_cover f_Board_connected_diameter f_Board_check_small f_Board_number f_Board_graph_number f_Board_unsolvable f_Board_unsolvable_at f_Board_path_partition f_Board_is_solvable f_Board_optimal f_Board_cover f_Board_certificate f_Board_check_certificate f_Board_is_valid f_Board_proves f_Board_status : Addr) : Prop where
  g : mg "Board" = some (.ref C)
  cl : Cls K C
  mkC : Mk K C f_Board_init
  na_many : NoAttr K C "many"
  na_edges : NoAttr K C "edges"
  na_pebbles : NoAttr K C "pebbles"
  na_moved : NoAttr K C "moved"
  na_earlier : NoAttr K C "earlier"
  na_solved : NoAttr K C "solved"
  na_came : NoAttr K C "came"
  F_Board_init : ∃ fd, Fun K "__init__" "Board.__init__" s_Board_init f_Board_init fd
  F_Board_push : ∃ fd, Fun K "push" "Board.push" s_Board_push f_Board_push fd
  m_Board_push : Meth K C "push" f_Board_push
  F_Board_put_edges : ∃ fd, Fun K "put_edges" "Board.put_edges" s_Board_put_edges f_Board_put_edges fd
  m_Board_put_edges : Meth K C "put_edges" f_Board_put_edges
  F_Board_check : ∃ fd, Fun K "check" "Board.check" s_Board_check f_Board_check fd
  m_Board_check : Meth K C "check" f_Board_check
  F_Board_near_all : ∃ fd, Fun K "near_all" "Board.near_all" s_Board_near_all f_Board_near_all fd
  m_Board_near_all : Meth K C "near_all" f_Board_near_all
  F_Board_steps : ∃ fd, Fun K "steps" "Board.steps" s_Board_steps f_Board_steps fd
  m_Board_steps : Meth K C "steps" f_Board_steps
  F_Board_solver : ∃ fd, Fun K "solver" "Board.solver" s_Board_solver f_Board_solver fd
  m_Board_solver : Meth K C "solver" f_Board_solver
  F_Board_edge : ∃ fd, Fun K "edge" "Board.edge" s_Board_edge f_Board_edge fd
  m_Board_edge : Meth K C "edge" f_Board_edge
  F_Board_put_edge : ∃ fd, Fun K "put_edge" "Board.put_edge" s_Board_put_edge f_Board_put_edge fd
  m_Board_put_edge : Meth K C "put_edge" f_Board_put_edge
  F_Board_take_edge : ∃ fd, Fun K "take_edge" "Board.take_edge" s_Board_take_edge f_Board_take_edge fd
  m_Board_take_edge : Meth K C "take_edge" f_Board_take_edge
  F_Board_set_pebbles : ∃ fd, Fun K "set_pebbles" "Board.set_pebbles" s_Board_set_pebbles f_Board_set_pebbles fd
  m_Board_set_pebbles : Meth K C "set_pebbles" f_Board_set_pebbles
  F_Board_put_pebbles : ∃ fd, Fun K "put_pebbles" "Board.put_pebbles" s_Board_put_pebbles f_Board_put_pebbles fd
  m_Board_put_pebbles : Meth K C "put_pebbles" f_Board_put_pebbles
  F_Board_rub : ∃ fd, Fun K "rub" "Board.rub" s_Board_rub f_Board_rub fd
  m_Board_rub : Meth K C "rub" f_Board_rub
  F_Board_bring : ∃ fd, Fun K "bring" "Board.bring" s_Board_bring f_Board_bring fd
  m_Board_bring : Meth K C "bring" f_Board_bring
  F_Board_undo : ∃ fd, Fun K "undo" "Board.undo" s_Board_undo f_Board_undo fd
  m_Board_undo : Meth K C "undo" f_Board_undo
  F_Board_list_edges : ∃ fd, Fun K "list_edges" "Board.list_edges" s_Board_list_edges f_Board_list_edges fd
  m_Board_list_edges : Meth K C "list_edges" f_Board_list_edges
  F_Board_list_pebbles : ∃ fd, Fun K "list_pebbles" "Board.list_pebbles" s_Board_list_pebbles f_Board_list_pebbles fd
  m_Board_list_pebbles : Meth K C "list_pebbles" f_Board_list_pebbles
  F_Board_distance : ∃ fd, Fun K "distance" "Board.distance" s_Board_distance f_Board_distance fd
  m_Board_distance : Meth K C "distance" f_Board_distance
  F_Board_least : ∃ fd, Fun K "least" "Board.least" s_Board_least f_Board_least fd
  m_Board_least : Meth K C "least" f_Board_least
  F_Board_most : ∃ fd, Fun K "most" "Board.most" s_Board_most f_Board_most fd
  m_Board_most : Meth K C "most" f_Board_most
  F_Board_sequence : ∃ fd, Fun K "sequence" "Board.sequence" s_Board_sequence f_Board_sequence fd
  m_Board_sequence : Meth K C "sequence" f_Board_sequence
  F_Board_shortest_sequence : ∃ fd, Fun K "shortest_sequence" "Board.shortest_sequence" s_Board_shortest_sequence f_Board_shortest_sequence fd
  m_Board_shortest_sequence : Meth K C "shortest_sequence" f_Board_shortest_sequence
  F_Board_reachable : ∃ fd, Fun K "reachable" "Board.reachable" s_Board_reachable f_Board_reachable fd
  m_Board_reachable : Meth K C "reachable" f_Board_reachable
  F_Board_weight_at : ∃ fd, Fun K "weight_at" "Board.weight_at" s_Board_weight_at f_Board_weight_at fd
  m_Board_weight_at : Meth K C "weight_at" f_Board_weight_at
  F_Board_can_cover : ∃ fd, Fun K "can_cover" "Board.can_cover" s_Board_can_cover f_Board_can_cover fd
  m_Board_can_cover : Meth K C "can_cover" f_Board_can_cover
  F_Board_connected_diameter : ∃ fd, Fun K "connected_diameter" "Board.connected_diameter" s_Board_connected_diameter f_Board_connected_diameter fd
  m_Board_connected_diameter : Meth K C "connected_diameter" f_Board_connected_diameter
  F_Board_check_small : ∃ fd, Fun K "check_small" "Board.check_small" s_Board_check_small f_Board_check_small fd
  m_Board_check_small : Meth K C "check_small" f_Board_check_small
  F_Board_number : ∃ fd, Fun K "number" "Board.number" s_Board_number f_Board_number fd
  m_Board_number : Meth K C "number" f_Board_number
  F_Board_graph_number : ∃ fd, Fun K "graph_number" "Board.graph_number" s_Board_graph_number f_Board_graph_number fd
  m_Board_graph_number : Meth K C "graph_number" f_Board_graph_number
  F_Board_unsolvable : ∃ fd, Fun K "unsolvable" "Board.unsolvable" s_Board_unsolvable f_Board_unsolvable fd
  m_Board_unsolvable : Meth K C "unsolvable" f_Board_unsolvable
  F_Board_unsolvable_at : ∃ fd, Fun K "unsolvable_at" "Board.unsolvable_at" s_Board_unsolvable_at f_Board_unsolvable_at fd
  m_Board_unsolvable_at : Meth K C "unsolvable_at" f_Board_unsolvable_at
  F_Board_path_partition : ∃ fd, Fun K "path_partition" "Board.path_partition" s_Board_path_partition f_Board_path_partition fd
  m_Board_path_partition : Meth K C "path_partition" f_Board_path_partition
  F_Board_is_solvable : ∃ fd, Fun K "is_solvable" "Board.is_solvable" s_Board_is_solvable f_Board_is_solvable fd
  m_Board_is_solvable : Meth K C "is_solvable" f_Board_is_solvable
  F_Board_optimal : ∃ fd, Fun K "optimal" "Board.optimal" s_Board_optimal f_Board_optimal fd
  m_Board_optimal : Meth K C "optimal" f_Board_optimal
  F_Board_cover : ∃ fd, Fun K "cover" "Board.cover" s_Board_cover f_Board_cover fd
  m_Board_cover : Meth K C "cover" f_Board_cover
  F_Board_certificate : ∃ fd, Fun K "certificate" "Board.certificate" s_Board_certificate f_Board_certificate fd
  m_Board_certificate : Meth K C "certificate" f_Board_certificate
  F_Board_check_certificate : ∃ fd, Fun K "check_certificate" "Board.check_certificate" s_Board_check_certificate f_Board_check_certificate fd
  m_Board_check_certificate : Meth K C "check_certificate" f_Board_check_certificate
  F_Board_is_valid : ∃ fd, Fun K "is_valid" "Board.is_valid" s_Board_is_valid f_Board_is_valid fd
  m_Board_is_valid : Meth K C "is_valid" f_Board_is_valid
  F_Board_proves : ∃ fd, Fun K "proves" "Board.proves" s_Board_proves f_Board_proves fd
  m_Board_proves : Meth K C "proves" f_Board_proves
  F_Board_status : ∃ fd, Fun K "status" "Board.status" s_Board_status f_Board_status fd
  m_Board_status : Meth K C "status" f_Board_status
theorem step_Board (X : K.In h) (G : h.Ns mainGlobals mg) {C f_Board_init f_Board_push f_Board_put_edges f_Board_check f_Board_near_all f_Board_steps f_Board_solver f_Board_edge f_Board_put_edge f_Board_take_edge f_Board_set_pebbles f_Board_put_pebbles f_Board_rub f_Board_bring f_Board_undo f_Board_list_edges f_Board_list_pebbles f_Board_distance f_Board_least f_Board_most f_Board_sequence f_Board_shortest_sequence f_Board_reachable f_Board_weight_at f_Board_can_cover f_Board_connected_diameter f_Board_check_small f_Board_number f_Board_graph_number f_Board_unsolvable f_Board_unsolvable_at f_Board_path_partition f_Board_is_solvable f_Board_optimal f_Board_cover f_Board_certificate f_Board_check_certificate f_Board_is_valid f_Board_proves f_Board_status : Addr}
    {od_Board_init an_Board_init : Option Addr} {sl_Board_init : Array (Option Value)} {oc_Board_init kV_Board_init dc_Board_init pm_Board_init cd_Board_init ct_Board_init : Value}
    {od_Board_push an_Board_push : Option Addr} {sl_Board_push : Array (Option Value)} {oc_Board_push kV_Board_push dc_Board_push pm_Board_push cd_Board_push ct_Board_push : Value}
    {od_Board_put_edges an_Board_put_edges : Option Addr} {sl_Board_put_edges : Array (Option Value)} {oc_Board_put_edges kV_Board_put_edges dc_Board_put_edges pm_Board_put_edges cd_Board_put_edges ct_Board_put_edges : Value}
    {od_Board_check an_Board_check : Option Addr} {sl_Board_check : Array (Option Value)} {oc_Board_check kV_Board_check dc_Board_check pm_Board_check cd_Board_check ct_Board_check : Value}
    {od_Board_near_all an_Board_near_all : Option Addr} {sl_Board_near_all : Array (Option Value)} {oc_Board_near_all kV_Board_near_all dc_Board_near_all pm_Board_near_all cd_Board_near_all ct_Board_near_all : Value}
    {od_Board_steps an_Board_steps : Option Addr} {sl_Board_steps : Array (Option Value)} {oc_Board_steps kV_Board_steps dc_Board_steps pm_Board_steps cd_Board_steps ct_Board_steps : Value}
    {od_Board_solver an_Board_solver : Option Addr} {sl_Board_solver : Array (Option Value)} {oc_Board_solver kV_Board_solver dc_Board_solver pm_Board_solver cd_Board_solver ct_Board_solver : Value}
    {od_Board_edge an_Board_edge : Option Addr} {sl_Board_edge : Array (Option Value)} {oc_Board_edge kV_Board_edge dc_Board_edge pm_Board_edge cd_Board_edge ct_Board_edge : Value}
    {od_Board_put_edge an_Board_put_edge : Option Addr} {sl_Board_put_edge : Array (Option Value)} {oc_Board_put_edge kV_Board_put_edge dc_Board_put_edge pm_Board_put_edge cd_Board_put_edge ct_Board_put_edge : Value}
    {od_Board_take_edge an_Board_take_edge : Option Addr} {sl_Board_take_edge : Array (Option Value)} {oc_Board_take_edge kV_Board_take_edge dc_Board_take_edge pm_Board_take_edge cd_Board_take_edge ct_Board_take_edge : Value}
    {od_Board_set_pebbles an_Board_set_pebbles : Option Addr} {sl_Board_set_pebbles : Array (Option Value)} {oc_Board_set_pebbles kV_Board_set_pebbles dc_Board_set_pebbles pm_Board_set_pebbles cd_Board_set_pebbles ct_Board_set_pebbles : Value}
    {od_Board_put_pebbles an_Board_put_pebbles : Option Addr} {sl_Board_put_pebbles : Array (Option Value)} {oc_Board_put_pebbles kV_Board_put_pebbles dc_Board_put_pebbles pm_Board_put_pebbles cd_Board_put_pebbles ct_Board_put_pebbles : Value}
    {od_Board_rub an_Board_rub : Option Addr} {sl_Board_rub : Array (Option Value)} {oc_Board_rub kV_Board_rub dc_Board_rub pm_Board_rub cd_Board_rub ct_Board_rub : Value}
    {od_Board_bring an_Board_bring : Option Addr} {sl_Board_bring : Array (Option Value)} {oc_Board_bring kV_Board_bring dc_Board_bring pm_Board_bring cd_Board_bring ct_Board_bring : Value}
    {od_Board_undo an_Board_undo : Option Addr} {sl_Board_undo : Array (Option Value)} {oc_Board_undo kV_Board_undo dc_Board_undo pm_Board_undo cd_Board_undo ct_Board_undo : Value}
    {od_Board_list_edges an_Board_list_edges : Option Addr} {sl_Board_list_edges : Array (Option Value)} {oc_Board_list_edges kV_Board_list_edges dc_Board_list_edges pm_Board_list_edges cd_Board_list_edges ct_Board_list_edges : Value}
    {od_Board_list_pebbles an_Board_list_pebbles : Option Addr} {sl_Board_list_pebbles : Array (Option Value)} {oc_Board_list_pebbles kV_Board_list_pebbles dc_Board_list_pebbles pm_Board_list_pebbles cd_Board_list_pebbles ct_Board_list_pebbles : Value}
    {od_Board_distance an_Board_distance : Option Addr} {sl_Board_distance : Array (Option Value)} {oc_Board_distance kV_Board_distance dc_Board_distance pm_Board_distance cd_Board_distance ct_Board_distance : Value}
    {od_Board_least an_Board_least : Option Addr} {sl_Board_least : Array (Option Value)} {oc_Board_least kV_Board_least dc_Board_least pm_Board_least cd_Board_least ct_Board_least : Value}
    {od_Board_most an_Board_most : Option Addr} {sl_Board_most : Array (Option Value)} {oc_Board_most kV_Board_most dc_Board_most pm_Board_most cd_Board_most ct_Board_most : Value}
    {od_Board_sequence an_Board_sequence : Option Addr} {sl_Board_sequence : Array (Option Value)} {oc_Board_sequence kV_Board_sequence dc_Board_sequence pm_Board_sequence cd_Board_sequence ct_Board_sequence : Value}
    {od_Board_shortest_sequence an_Board_shortest_sequence : Option Addr} {sl_Board_shortest_sequence : Array (Option Value)} {oc_Board_shortest_sequence kV_Board_shortest_sequence dc_Board_shortest_sequence pm_Board_shortest_sequence cd_Board_shortest_sequence ct_Board_shortest_sequence : Value}
    {od_Board_reachable an_Board_reachable : Option Addr} {sl_Board_reachable : Array (Option Value)} {oc_Board_reachable kV_Board_reachable dc_Board_reachable pm_Board_reachable cd_Board_reachable ct_Board_reachable : Value}
    {od_Board_weight_at an_Board_weight_at : Option Addr} {sl_Board_weight_at : Array (Option Value)} {oc_Board_weight_at kV_Board_weight_at dc_Board_weight_at pm_Board_weight_at cd_Board_weight_at ct_Board_weight_at : Value}
    {od_Board_can_cover an_Board_can_cover : Option Addr} {sl_Board_can_cover : Array (Option Value)} {oc_Board_can_cover kV_Board_can_cover dc_Board_can_cover pm_Board_can_cover cd_Board_can_cover ct_Board_can_cover : Value}
    {od_Board_connected_diameter an_Board_connected_diameter : Option Addr} {sl_Board_connected_diameter : Array (Option Value)} {oc_Board_connected_diameter kV_Board_connected_diameter dc_Board_connected_diameter pm_Board_connected_diameter cd_Board_connected_diameter ct_Board_connected_diameter : Value}
    {od_Board_check_small an_Board_check_small : Option Addr} {sl_Board_check_small : Array (Option Value)} {oc_Board_check_small kV_Board_check_small dc_Board_check_small pm_Board_check_small cd_Board_check_small ct_Board_check_small : Value}
    {od_Board_number an_Board_number : Option Addr} {sl_Board_number : Array (Option Value)} {oc_Board_number kV_Board_number dc_Board_number pm_Board_number cd_Board_number ct_Board_number : Value}
    {od_Board_graph_number an_Board_graph_number : Option Addr} {sl_Board_graph_number : Array (Option Value)} {oc_Board_graph_number kV_Board_graph_number dc_Board_graph_number pm_Board_graph_number cd_Board_graph_number ct_Board_graph_number : Value}
    {od_Board_unsolvable an_Board_unsolvable : Option Addr} {sl_Board_unsolvable : Array (Option Value)} {oc_Board_unsolvable kV_Board_unsolvable dc_Board_unsolvable pm_Board_unsolvable cd_Board_unsolvable ct_Board_unsolvable : Value}
    {od_Board_unsolvable_at an_Board_unsolvable_at : Option Addr} {sl_Board_unsolvable_at : Array (Option Value)} {oc_Board_unsolvable_at kV_Board_unsolvable_at dc_Board_unsolvable_at pm_Board_unsolvable_at cd_Board_unsolvable_at ct_Board_unsolvable_at : Value}
    {od_Board_path_partition an_Board_path_partition : Option Addr} {sl_Board_path_partition : Array (Option Value)} {oc_Board_path_partition kV_Board_path_partition dc_Board_path_partition pm_Board_path_partition cd_Board_path_partition ct_Board_path_partition : Value}
    {od_Board_is_solvable an_Board_is_solvable : Option Addr} {sl_Board_is_solvable : Array (Option Value)} {oc_Board_is_solvable kV_Board_is_solvable dc_Board_is_solvable pm_Board_is_solvable cd_Board_is_solvable ct_Board_is_solvable : Value}
    {od_Board_optimal an_Board_optimal : Option Addr} {sl_Board_optimal : Array (Option Value)} {oc_Board_optimal kV_Board_optimal dc_Board_optimal pm_Board_optimal cd_Board_optimal ct_Board_optimal : Value}
    {od_Board_cover an_Board_cover : Option Addr} {sl_Board_cover : Array (Option Value)} {oc_Board_cover kV_Board_cover dc_Board_cover pm_Board_cover cd_Board_cover ct_Board_cover : Value}
    {od_Board_certificate an_Board_certificate : Option Addr} {sl_Board_certificate : Array (Option Value)} {oc_Board_certificate kV_Board_certificate dc_Board_certificate pm_Board_certificate cd_Board_certificate ct_Board_certificate : Value}
    {od_Board_check_certificate an_Board_check_certificate : Option Addr} {sl_Board_check_certificate : Array (Option Value)} {oc_Board_check_certificate kV_Board_check_certificate dc_Board_check_certificate pm_Board_check_certificate cd_Board_check_certificate ct_Board_check_certificate : Value}
    {od_Board_is_valid an_Board_is_valid : Option Addr} {sl_Board_is_valid : Array (Option Value)} {oc_Board_is_valid kV_Board_is_valid dc_Board_is_valid pm_Board_is_valid cd_Board_is_valid ct_Board_is_valid : Value}
    {od_Board_proves an_Board_proves : Option Addr} {sl_Board_proves : Array (Option Value)} {oc_Board_proves kV_Board_proves dc_Board_proves pm_Board_proves cd_Board_proves ct_Board_proves : Value}
    {od_Board_status an_Board_status : Option Addr} {sl_Board_status : Array (Option Value)} {oc_Board_status kV_Board_status dc_Board_status pm_Board_status cd_Board_status ct_Board_status : Value}
    (aC : PySem.W.nsIn K mainGlobals "Board" = some (some (.ref C))) (pg : PySem.W.plainGet K C Str.empty = true) (hd : PySem.W.hasDictIn K C = true) (po : PySem.W.plainOver K C = true) (sa : PySem.W.findIn K (.ref C) "__setattr__" = some (some (.builtin "object.__setattr__"))) (mk : PySem.W.makesIn K C = true) (kc : PySem.W.keepIn K (.ref C) = true)
    (na_many : PySem.W.findIn K (.ref C) "many" = some none)
    (na_edges : PySem.W.findIn K (.ref C) "edges" = some none)
    (na_pebbles : PySem.W.findIn K (.ref C) "pebbles" = some none)
    (na_moved : PySem.W.findIn K (.ref C) "moved" = some none)
    (na_earlier : PySem.W.findIn K (.ref C) "earlier" = some none)
    (na_solved : PySem.W.findIn K (.ref C) "solved" = some none)
    (na_came : PySem.W.findIn K (.ref C) "came" = some none)
    (a_Board_init : PySem.W.findIn K (.ref C) "__init__" = some (some (.ref f_Board_init))) (i_Board_init : PySem.W.isFn K (.ref f_Board_init) = true) (l_Board_init : K.lookup f_Board_init = some ⟨oc_Board_init, od_Board_init, .func (PySem.W.fnOf "__init__" "Board.__init__" (defArgs s_Board_init) (defBody s_Board_init) (defScope s_Board_init) .none kV_Board_init dc_Board_init pm_Board_init an_Board_init cd_Board_init ct_Board_init), sl_Board_init⟩) (c_Board_init : PySem.W.codeIn K cd_Board_init "Board.__init__" = true) (k_Board_init : PySem.W.keepIn K (.ref f_Board_init) = true)
    (a_Board_push : PySem.W.findIn K (.ref C) "push" = some (some (.ref f_Board_push))) (i_Board_push : PySem.W.isFn K (.ref f_Board_push) = true) (l_Board_push : K.lookup f_Board_push = some ⟨oc_Board_push, od_Board_push, .func (PySem.W.fnOf "push" "Board.push" (defArgs s_Board_push) (defBody s_Board_push) (defScope s_Board_push) .none kV_Board_push dc_Board_push pm_Board_push an_Board_push cd_Board_push ct_Board_push), sl_Board_push⟩) (c_Board_push : PySem.W.codeIn K cd_Board_push "Board.push" = true) (k_Board_push : PySem.W.keepIn K (.ref f_Board_push) = true)
    (a_Board_put_edges : PySem.W.findIn K (.ref C) "put_edges" = some (some (.ref f_Board_put_edges))) (i_Board_put_edges : PySem.W.isFn K (.ref f_Board_put_edges) = true) (l_Board_put_edges : K.lookup f_Board_put_edges = some ⟨oc_Board_put_edges, od_Board_put_edges, .func (PySem.W.fnOf "put_edges" "Board.put_edges" (defArgs s_Board_put_edges) (defBody s_Board_put_edges) (defScope s_Board_put_edges) .none kV_Board_put_edges dc_Board_put_edges pm_Board_put_edges an_Board_put_edges cd_Board_put_edges ct_Board_put_edges), sl_Board_put_edges⟩) (c_Board_put_edges : PySem.W.codeIn K cd_Board_put_edges "Board.put_edges" = true) (k_Board_put_edges : PySem.W.keepIn K (.ref f_Board_put_edges) = true)
    (a_Board_check : PySem.W.findIn K (.ref C) "check" = some (some (.ref f_Board_check))) (i_Board_check : PySem.W.isFn K (.ref f_Board_check) = true) (l_Board_check : K.lookup f_Board_check = some ⟨oc_Board_check, od_Board_check, .func (PySem.W.fnOf "check" "Board.check" (defArgs s_Board_check) (defBody s_Board_check) (defScope s_Board_check) .none kV_Board_check dc_Board_check pm_Board_check an_Board_check cd_Board_check ct_Board_check), sl_Board_check⟩) (c_Board_check : PySem.W.codeIn K cd_Board_check "Board.check" = true) (k_Board_check : PySem.W.keepIn K (.ref f_Board_check) = true)
    (a_Board_near_all : PySem.W.findIn K (.ref C) "near_all" = some (some (.ref f_Board_near_all))) (i_Board_near_all : PySem.W.isFn K (.ref f_Board_near_all) = true) (l_Board_near_all : K.lookup f_Board_near_all = some ⟨oc_Board_near_all, od_Board_near_all, .func (PySem.W.fnOf "near_all" "Board.near_all" (defArgs s_Board_near_all) (defBody s_Board_near_all) (defScope s_Board_near_all) .none kV_Board_near_all dc_Board_near_all pm_Board_near_all an_Board_near_all cd_Board_near_all ct_Board_near_all), sl_Board_near_all⟩) (c_Board_near_all : PySem.W.codeIn K cd_Board_near_all "Board.near_all" = true) (k_Board_near_all : PySem.W.keepIn K (.ref f_Board_near_all) = true)
    (a_Board_steps : PySem.W.findIn K (.ref C) "steps" = some (some (.ref f_Board_steps))) (i_Board_steps : PySem.W.isFn K (.ref f_Board_steps) = true) (l_Board_steps : K.lookup f_Board_steps = some ⟨oc_Board_steps, od_Board_steps, .func (PySem.W.fnOf "steps" "Board.steps" (defArgs s_Board_steps) (defBody s_Board_steps) (defScope s_Board_steps) .none kV_Board_steps dc_Board_steps pm_Board_steps an_Board_steps cd_Board_steps ct_Board_steps), sl_Board_steps⟩) (c_Board_steps : PySem.W.codeIn K cd_Board_steps "Board.steps" = true) (k_Board_steps : PySem.W.keepIn K (.ref f_Board_steps) = true)
    (a_Board_solver : PySem.W.findIn K (.ref C) "solver" = some (some (.ref f_Board_solver))) (i_Board_solver : PySem.W.isFn K (.ref f_Board_solver) = true) (l_Board_solver : K.lookup f_Board_solver = some ⟨oc_Board_solver, od_Board_solver, .func (PySem.W.fnOf "solver" "Board.solver" (defArgs s_Board_solver) (defBody s_Board_solver) (defScope s_Board_solver) .none kV_Board_solver dc_Board_solver pm_Board_solver an_Board_solver cd_Board_solver ct_Board_solver), sl_Board_solver⟩) (c_Board_solver : PySem.W.codeIn K cd_Board_solver "Board.solver" = true) (k_Board_solver : PySem.W.keepIn K (.ref f_Board_solver) = true)
    (a_Board_edge : PySem.W.findIn K (.ref C) "edge" = some (some (.ref f_Board_edge))) (i_Board_edge : PySem.W.isFn K (.ref f_Board_edge) = true) (l_Board_edge : K.lookup f_Board_edge = some ⟨oc_Board_edge, od_Board_edge, .func (PySem.W.fnOf "edge" "Board.edge" (defArgs s_Board_edge) (defBody s_Board_edge) (defScope s_Board_edge) .none kV_Board_edge dc_Board_edge pm_Board_edge an_Board_edge cd_Board_edge ct_Board_edge), sl_Board_edge⟩) (c_Board_edge : PySem.W.codeIn K cd_Board_edge "Board.edge" = true) (k_Board_edge : PySem.W.keepIn K (.ref f_Board_edge) = true)
    (a_Board_put_edge : PySem.W.findIn K (.ref C) "put_edge" = some (some (.ref f_Board_put_edge))) (i_Board_put_edge : PySem.W.isFn K (.ref f_Board_put_edge) = true) (l_Board_put_edge : K.lookup f_Board_put_edge = some ⟨oc_Board_put_edge, od_Board_put_edge, .func (PySem.W.fnOf "put_edge" "Board.put_edge" (defArgs s_Board_put_edge) (defBody s_Board_put_edge) (defScope s_Board_put_edge) .none kV_Board_put_edge dc_Board_put_edge pm_Board_put_edge an_Board_put_edge cd_Board_put_edge ct_Board_put_edge), sl_Board_put_edge⟩) (c_Board_put_edge : PySem.W.codeIn K cd_Board_put_edge "Board.put_edge" = true) (k_Board_put_edge : PySem.W.keepIn K (.ref f_Board_put_edge) = true)
    (a_Board_take_edge : PySem.W.findIn K (.ref C) "take_edge" = some (some (.ref f_Board_take_edge))) (i_Board_take_edge : PySem.W.isFn K (.ref f_Board_take_edge) = true) (l_Board_take_edge : K.lookup f_Board_take_edge = some ⟨oc_Board_take_edge, od_Board_take_edge, .func (PySem.W.fnOf "take_edge" "Board.take_edge" (defArgs s_Board_take_edge) (defBody s_Board_take_edge) (defScope s_Board_take_edge) .none kV_Board_take_edge dc_Board_take_edge pm_Board_take_edge an_Board_take_edge cd_Board_take_edge ct_Board_take_edge), sl_Board_take_edge⟩) (c_Board_take_edge : PySem.W.codeIn K cd_Board_take_edge "Board.take_edge" = true) (k_Board_take_edge : PySem.W.keepIn K (.ref f_Board_take_edge) = true)
    (a_Board_set_pebbles : PySem.W.findIn K (.ref C) "set_pebbles" = some (some (.ref f_Board_set_pebbles))) (i_Board_set_pebbles : PySem.W.isFn K (.ref f_Board_set_pebbles) = true) (l_Board_set_pebbles : K.lookup f_Board_set_pebbles = some ⟨oc_Board_set_pebbles, od_Board_set_pebbles, .func (PySem.W.fnOf "set_pebbles" "Board.set_pebbles" (defArgs s_Board_set_pebbles) (defBody s_Board_set_pebbles) (defScope s_Board_set_pebbles) .none kV_Board_set_pebbles dc_Board_set_pebbles pm_Board_set_pebbles an_Board_set_pebbles cd_Board_set_pebbles ct_Board_set_pebbles), sl_Board_set_pebbles⟩) (c_Board_set_pebbles : PySem.W.codeIn K cd_Board_set_pebbles "Board.set_pebbles" = true) (k_Board_set_pebbles : PySem.W.keepIn K (.ref f_Board_set_pebbles) = true)
    (a_Board_put_pebbles : PySem.W.findIn K (.ref C) "put_pebbles" = some (some (.ref f_Board_put_pebbles))) (i_Board_put_pebbles : PySem.W.isFn K (.ref f_Board_put_pebbles) = true) (l_Board_put_pebbles : K.lookup f_Board_put_pebbles = some ⟨oc_Board_put_pebbles, od_Board_put_pebbles, .func (PySem.W.fnOf "put_pebbles" "Board.put_pebbles" (defArgs s_Board_put_pebbles) (defBody s_Board_put_pebbles) (defScope s_Board_put_pebbles) .none kV_Board_put_pebbles dc_Board_put_pebbles pm_Board_put_pebbles an_Board_put_pebbles cd_Board_put_pebbles ct_Board_put_pebbles), sl_Board_put_pebbles⟩) (c_Board_put_pebbles : PySem.W.codeIn K cd_Board_put_pebbles "Board.put_pebbles" = true) (k_Board_put_pebbles : PySem.W.keepIn K (.ref f_Board_put_pebbles) = true)
    (a_Board_rub : PySem.W.findIn K (.ref C) "rub" = some (some (.ref f_Board_rub))) (i_Board_rub : PySem.W.isFn K (.ref f_Board_rub) = true) (l_Board_rub : K.lookup f_Board_rub = some ⟨oc_Board_rub, od_Board_rub, .func (PySem.W.fnOf "rub" "Board.rub" (defArgs s_Board_rub) (defBody s_Board_rub) (defScope s_Board_rub) .none kV_Board_rub dc_Board_rub pm_Board_rub an_Board_rub cd_Board_rub ct_Board_rub), sl_Board_rub⟩) (c_Board_rub : PySem.W.codeIn K cd_Board_rub "Board.rub" = true) (k_Board_rub : PySem.W.keepIn K (.ref f_Board_rub) = true)
    (a_Board_bring : PySem.W.findIn K (.ref C) "bring" = some (some (.ref f_Board_bring))) (i_Board_bring : PySem.W.isFn K (.ref f_Board_bring) = true) (l_Board_bring : K.lookup f_Board_bring = some ⟨oc_Board_bring, od_Board_bring, .func (PySem.W.fnOf "bring" "Board.bring" (defArgs s_Board_bring) (defBody s_Board_bring) (defScope s_Board_bring) .none kV_Board_bring dc_Board_bring pm_Board_bring an_Board_bring cd_Board_bring ct_Board_bring), sl_Board_bring⟩) (c_Board_bring : PySem.W.codeIn K cd_Board_bring "Board.bring" = true) (k_Board_bring : PySem.W.keepIn K (.ref f_Board_bring) = true)
    (a_Board_undo : PySem.W.findIn K (.ref C) "undo" = some (some (.ref f_Board_undo))) (i_Board_undo : PySem.W.isFn K (.ref f_Board_undo) = true) (l_Board_undo : K.lookup f_Board_undo = some ⟨oc_Board_undo, od_Board_undo, .func (PySem.W.fnOf "undo" "Board.undo" (defArgs s_Board_undo) (defBody s_Board_undo) (defScope s_Board_undo) .none kV_Board_undo dc_Board_undo pm_Board_undo an_Board_undo cd_Board_undo ct_Board_undo), sl_Board_undo⟩) (c_Board_undo : PySem.W.codeIn K cd_Board_undo "Board.undo" = true) (k_Board_undo : PySem.W.keepIn K (.ref f_Board_undo) = true)
    (a_Board_list_edges : PySem.W.findIn K (.ref C) "list_edges" = some (some (.ref f_Board_list_edges))) (i_Board_list_edges : PySem.W.isFn K (.ref f_Board_list_edges) = true) (l_Board_list_edges : K.lookup f_Board_list_edges = some ⟨oc_Board_list_edges, od_Board_list_edges, .func (PySem.W.fnOf "list_edges" "Board.list_edges" (defArgs s_Board_list_edges) (defBody s_Board_list_edges) (defScope s_Board_list_edges) .none kV_Board_list_edges dc_Board_list_edges pm_Board_list_edges an_Board_list_edges cd_Board_list_edges ct_Board_list_edges), sl_Board_list_edges⟩) (c_Board_list_edges : PySem.W.codeIn K cd_Board_list_edges "Board.list_edges" = true) (k_Board_list_edges : PySem.W.keepIn K (.ref f_Board_list_edges) = true)
    (a_Board_list_pebbles : PySem.W.findIn K (.ref C) "list_pebbles" = some (some (.ref f_Board_list_pebbles))) (i_Board_list_pebbles : PySem.W.isFn K (.ref f_Board_list_pebbles) = true) (l_Board_list_pebbles : K.lookup f_Board_list_pebbles = some ⟨oc_Board_list_pebbles, od_Board_list_pebbles, .func (PySem.W.fnOf "list_pebbles" "Board.list_pebbles" (defArgs s_Board_list_pebbles) (defBody s_Board_list_pebbles) (defScope s_Board_list_pebbles) .none kV_Board_list_pebbles dc_Board_list_pebbles pm_Board_list_pebbles an_Board_list_pebbles cd_Board_list_pebbles ct_Board_list_pebbles), sl_Board_list_pebbles⟩) (c_Board_list_pebbles : PySem.W.codeIn K cd_Board_list_pebbles "Board.list_pebbles" = true) (k_Board_list_pebbles : PySem.W.keepIn K (.ref f_Board_list_pebbles) = true)
    (a_Board_distance : PySem.W.findIn K (.ref C) "distance" = some (some (.ref f_Board_distance))) (i_Board_distance : PySem.W.isFn K (.ref f_Board_distance) = true) (l_Board_distance : K.lookup f_Board_distance = some ⟨oc_Board_distance, od_Board_distance, .func (PySem.W.fnOf "distance" "Board.distance" (defArgs s_Board_distance) (defBody s_Board_distance) (defScope s_Board_distance) .none kV_Board_distance dc_Board_distance pm_Board_distance an_Board_distance cd_Board_distance ct_Board_distance), sl_Board_distance⟩) (c_Board_distance : PySem.W.codeIn K cd_Board_distance "Board.distance" = true) (k_Board_distance : PySem.W.keepIn K (.ref f_Board_distance) = true)
    (a_Board_least : PySem.W.findIn K (.ref C) "least" = some (some (.ref f_Board_least))) (i_Board_least : PySem.W.isFn K (.ref f_Board_least) = true) (l_Board_least : K.lookup f_Board_least = some ⟨oc_Board_least, od_Board_least, .func (PySem.W.fnOf "least" "Board.least" (defArgs s_Board_least) (defBody s_Board_least) (defScope s_Board_least) .none kV_Board_least dc_Board_least pm_Board_least an_Board_least cd_Board_least ct_Board_least), sl_Board_least⟩) (c_Board_least : PySem.W.codeIn K cd_Board_least "Board.least" = true) (k_Board_least : PySem.W.keepIn K (.ref f_Board_least) = true)
    (a_Board_most : PySem.W.findIn K (.ref C) "most" = some (some (.ref f_Board_most))) (i_Board_most : PySem.W.isFn K (.ref f_Board_most) = true) (l_Board_most : K.lookup f_Board_most = some ⟨oc_Board_most, od_Board_most, .func (PySem.W.fnOf "most" "Board.most" (defArgs s_Board_most) (defBody s_Board_most) (defScope s_Board_most) .none kV_Board_most dc_Board_most pm_Board_most an_Board_most cd_Board_most ct_Board_most), sl_Board_most⟩) (c_Board_most : PySem.W.codeIn K cd_Board_most "Board.most" = true) (k_Board_most : PySem.W.keepIn K (.ref f_Board_most) = true)
    (a_Board_sequence : PySem.W.findIn K (.ref C) "sequence" = some (some (.ref f_Board_sequence))) (i_Board_sequence : PySem.W.isFn K (.ref f_Board_sequence) = true) (l_Board_sequence : K.lookup f_Board_sequence = some ⟨oc_Board_sequence, od_Board_sequence, .func (PySem.W.fnOf "sequence" "Board.sequence" (defArgs s_Board_sequence) (defBody s_Board_sequence) (defScope s_Board_sequence) .none kV_Board_sequence dc_Board_sequence pm_Board_sequence an_Board_sequence cd_Board_sequence ct_Board_sequence), sl_Board_sequence⟩) (c_Board_sequence : PySem.W.codeIn K cd_Board_sequence "Board.sequence" = true) (k_Board_sequence : PySem.W.keepIn K (.ref f_Board_sequence) = true)
    (a_Board_shortest_sequence : PySem.W.findIn K (.ref C) "shortest_sequence" = some (some (.ref f_Board_shortest_sequence))) (i_Board_shortest_sequence : PySem.W.isFn K (.ref f_Board_shortest_sequence) = true) (l_Board_shortest_sequence : K.lookup f_Board_shortest_sequence = some ⟨oc_Board_shortest_sequence, od_Board_shortest_sequence, .func (PySem.W.fnOf "shortest_sequence" "Board.shortest_sequence" (defArgs s_Board_shortest_sequence) (defBody s_Board_shortest_sequence) (defScope s_Board_shortest_sequence) .none kV_Board_shortest_sequence dc_Board_shortest_sequence pm_Board_shortest_sequence an_Board_shortest_sequence cd_Board_shortest_sequence ct_Board_shortest_sequence), sl_Board_shortest_sequence⟩) (c_Board_shortest_sequence : PySem.W.codeIn K cd_Board_shortest_sequence "Board.shortest_sequence" = true) (k_Board_shortest_sequence : PySem.W.keepIn K (.ref f_Board_shortest_sequence) = true)
    (a_Board_reachable : PySem.W.findIn K (.ref C) "reachable" = some (some (.ref f_Board_reachable))) (i_Board_reachable : PySem.W.isFn K (.ref f_Board_reachable) = true) (l_Board_reachable : K.lookup f_Board_reachable = some ⟨oc_Board_reachable, od_Board_reachable, .func (PySem.W.fnOf "reachable" "Board.reachable" (defArgs s_Board_reachable) (defBody s_Board_reachable) (defScope s_Board_reachable) .none kV_Board_reachable dc_Board_reachable pm_Board_reachable an_Board_reachable cd_Board_reachable ct_Board_reachable), sl_Board_reachable⟩) (c_Board_reachable : PySem.W.codeIn K cd_Board_reachable "Board.reachable" = true) (k_Board_reachable : PySem.W.keepIn K (.ref f_Board_reachable) = true)
    (a_Board_weight_at : PySem.W.findIn K (.ref C) "weight_at" = some (some (.ref f_Board_weight_at))) (i_Board_weight_at : PySem.W.isFn K (.ref f_Board_weight_at) = true) (l_Board_weight_at : K.lookup f_Board_weight_at = some ⟨oc_Board_weight_at, od_Board_weight_at, .func (PySem.W.fnOf "weight_at" "Board.weight_at" (defArgs s_Board_weight_at) (defBody s_Board_weight_at) (defScope s_Board_weight_at) .none kV_Board_weight_at dc_Board_weight_at pm_Board_weight_at an_Board_weight_at cd_Board_weight_at ct_Board_weight_at), sl_Board_weight_at⟩) (c_Board_weight_at : PySem.W.codeIn K cd_Board_weight_at "Board.weight_at" = true) (k_Board_weight_at : PySem.W.keepIn K (.ref f_Board_weight_at) = true)
    (a_Board_can_cover : PySem.W.findIn K (.ref C) "can_cover" = some (some (.ref f_Board_can_cover))) (i_Board_can_cover : PySem.W.isFn K (.ref f_Board_can_cover) = true) (l_Board_can_cover : K.lookup f_Board_can_cover = some ⟨oc_Board_can_cover, od_Board_can_cover, .func (PySem.W.fnOf "can_cover" "Board.can_cover" (defArgs s_Board_can_cover) (defBody s_Board_can_cover) (defScope s_Board_can_cover) .none kV_Board_can_cover dc_Board_can_cover pm_Board_can_cover an_Board_can_cover cd_Board_can_cover ct_Board_can_cover), sl_Board_can_cover⟩) (c_Board_can_cover : PySem.W.codeIn K cd_Board_can_cover "Board.can_cover" = true) (k_Board_can_cover : PySem.W.keepIn K (.ref f_Board_can_cover) = true)
    (a_Board_connected_diameter : PySem.W.findIn K (.ref C) "connected_diameter" = some (some (.ref f_Board_connected_diameter))) (i_Board_connected_diameter : PySem.W.isFn K (.ref f_Board_connected_diameter) = true) (l_Board_connected_diameter : K.lookup f_Board_connected_diameter = some ⟨oc_Board_connected_diameter, od_Board_connected_diameter, .func (PySem.W.fnOf "connected_diameter" "Board.connected_diameter" (defArgs s_Board_connected_diameter) (defBody s_Board_connected_diameter) (defScope s_Board_connected_diameter) .none kV_Board_connected_diameter dc_Board_connected_diameter pm_Board_connected_diameter an_Board_connected_diameter cd_Board_connected_diameter ct_Board_connected_diameter), sl_Board_connected_diameter⟩) (c_Board_connected_diameter : PySem.W.codeIn K cd_Board_connected_diameter "Board.connected_diameter" = true) (k_Board_connected_diameter : PySem.W.keepIn K (.ref f_Board_connected_diameter) = true)
    (a_Board_check_small : PySem.W.findIn K (.ref C) "check_small" = some (some (.ref f_Board_check_small))) (i_Board_check_small : PySem.W.isFn K (.ref f_Board_check_small) = true) (l_Board_check_small : K.lookup f_Board_check_small = some ⟨oc_Board_check_small, od_Board_check_small, .func (PySem.W.fnOf "check_small" "Board.check_small" (defArgs s_Board_check_small) (defBody s_Board_check_small) (defScope s_Board_check_small) .none kV_Board_check_small dc_Board_check_small pm_Board_check_small an_Board_check_small cd_Board_check_small ct_Board_check_small), sl_Board_check_small⟩) (c_Board_check_small : PySem.W.codeIn K cd_Board_check_small "Board.check_small" = true) (k_Board_check_small : PySem.W.keepIn K (.ref f_Board_check_small) = true)
    (a_Board_number : PySem.W.findIn K (.ref C) "number" = some (some (.ref f_Board_number))) (i_Board_number : PySem.W.isFn K (.ref f_Board_number) = true) (l_Board_number : K.lookup f_Board_number = some ⟨oc_Board_number, od_Board_number, .func (PySem.W.fnOf "number" "Board.number" (defArgs s_Board_number) (defBody s_Board_number) (defScope s_Board_number) .none kV_Board_number dc_Board_number pm_Board_number an_Board_number cd_Board_number ct_Board_number), sl_Board_number⟩) (c_Board_number : PySem.W.codeIn K cd_Board_number "Board.number" = true) (k_Board_number : PySem.W.keepIn K (.ref f_Board_number) = true)
    (a_Board_graph_number : PySem.W.findIn K (.ref C) "graph_number" = some (some (.ref f_Board_graph_number))) (i_Board_graph_number : PySem.W.isFn K (.ref f_Board_graph_number) = true) (l_Board_graph_number : K.lookup f_Board_graph_number = some ⟨oc_Board_graph_number, od_Board_graph_number, .func (PySem.W.fnOf "graph_number" "Board.graph_number" (defArgs s_Board_graph_number) (defBody s_Board_graph_number) (defScope s_Board_graph_number) .none kV_Board_graph_number dc_Board_graph_number pm_Board_graph_number an_Board_graph_number cd_Board_graph_number ct_Board_graph_number), sl_Board_graph_number⟩) (c_Board_graph_number : PySem.W.codeIn K cd_Board_graph_number "Board.graph_number" = true) (k_Board_graph_number : PySem.W.keepIn K (.ref f_Board_graph_number) = true)
    (a_Board_unsolvable : PySem.W.findIn K (.ref C) "unsolvable" = some (some (.ref f_Board_unsolvable))) (i_Board_unsolvable : PySem.W.isFn K (.ref f_Board_unsolvable) = true) (l_Board_unsolvable : K.lookup f_Board_unsolvable = some ⟨oc_Board_unsolvable, od_Board_unsolvable, .func (PySem.W.fnOf "unsolvable" "Board.unsolvable" (defArgs s_Board_unsolvable) (defBody s_Board_unsolvable) (defScope s_Board_unsolvable) .none kV_Board_unsolvable dc_Board_unsolvable pm_Board_unsolvable an_Board_unsolvable cd_Board_unsolvable ct_Board_unsolvable), sl_Board_unsolvable⟩) (c_Board_unsolvable : PySem.W.codeIn K cd_Board_unsolvable "Board.unsolvable" = true) (k_Board_unsolvable : PySem.W.keepIn K (.ref f_Board_unsolvable) = true)
    (a_Board_unsolvable_at : PySem.W.findIn K (.ref C) "unsolvable_at" = some (some (.ref f_Board_unsolvable_at))) (i_Board_unsolvable_at : PySem.W.isFn K (.ref f_Board_unsolvable_at) = true) (l_Board_unsolvable_at : K.lookup f_Board_unsolvable_at = some ⟨oc_Board_unsolvable_at, od_Board_unsolvable_at, .func (PySem.W.fnOf "unsolvable_at" "Board.unsolvable_at" (defArgs s_Board_unsolvable_at) (defBody s_Board_unsolvable_at) (defScope s_Board_unsolvable_at) .none kV_Board_unsolvable_at dc_Board_unsolvable_at pm_Board_unsolvable_at an_Board_unsolvable_at cd_Board_unsolvable_at ct_Board_unsolvable_at), sl_Board_unsolvable_at⟩) (c_Board_unsolvable_at : PySem.W.codeIn K cd_Board_unsolvable_at "Board.unsolvable_at" = true) (k_Board_unsolvable_at : PySem.W.keepIn K (.ref f_Board_unsolvable_at) = true)
    (a_Board_path_partition : PySem.W.findIn K (.ref C) "path_partition" = some (some (.ref f_Board_path_partition))) (i_Board_path_partition : PySem.W.isFn K (.ref f_Board_path_partition) = true) (l_Board_path_partition : K.lookup f_Board_path_partition = some ⟨oc_Board_path_partition, od_Board_path_partition, .func (PySem.W.fnOf "path_partition" "Board.path_partition" (defArgs s_Board_path_partition) (defBody s_Board_path_partition) (defScope s_Board_path_partition) .none kV_Board_path_partition dc_Board_path_partition pm_Board_path_partition an_Board_path_partition cd_Board_path_partition ct_Board_path_partition), sl_Board_path_partition⟩) (c_Board_path_partition : PySem.W.codeIn K cd_Board_path_partition "Board.path_partition" = true) (k_Board_path_partition : PySem.W.keepIn K (.ref f_Board_path_partition) = true)
    (a_Board_is_solvable : PySem.W.findIn K (.ref C) "is_solvable" = some (some (.ref f_Board_is_solvable))) (i_Board_is_solvable : PySem.W.isFn K (.ref f_Board_is_solvable) = true) (l_Board_is_solvable : K.lookup f_Board_is_solvable = some ⟨oc_Board_is_solvable, od_Board_is_solvable, .func (PySem.W.fnOf "is_solvable" "Board.is_solvable" (defArgs s_Board_is_solvable) (defBody s_Board_is_solvable) (defScope s_Board_is_solvable) .none kV_Board_is_solvable dc_Board_is_solvable pm_Board_is_solvable an_Board_is_solvable cd_Board_is_solvable ct_Board_is_solvable), sl_Board_is_solvable⟩) (c_Board_is_solvable : PySem.W.codeIn K cd_Board_is_solvable "Board.is_solvable" = true) (k_Board_is_solvable : PySem.W.keepIn K (.ref f_Board_is_solvable) = true)
    (a_Board_optimal : PySem.W.findIn K (.ref C) "optimal" = some (some (.ref f_Board_optimal))) (i_Board_optimal : PySem.W.isFn K (.ref f_Board_optimal) = true) (l_Board_optimal : K.lookup f_Board_optimal = some ⟨oc_Board_optimal, od_Board_optimal, .func (PySem.W.fnOf "optimal" "Board.optimal" (defArgs s_Board_optimal) (defBody s_Board_optimal) (defScope s_Board_optimal) .none kV_Board_optimal dc_Board_optimal pm_Board_optimal an_Board_optimal cd_Board_optimal ct_Board_optimal), sl_Board_optimal⟩) (c_Board_optimal : PySem.W.codeIn K cd_Board_optimal "Board.optimal" = true) (k_Board_optimal : PySem.W.keepIn K (.ref f_Board_optimal) = true)
    (a_Board_cover : PySem.W.findIn K (.ref C) "cover" = some (some (.ref f_Board_cover))) (i_Board_cover : PySem.W.isFn K (.ref f_Board_cover) = true) (l_Board_cover : K.lookup f_Board_cover = some ⟨oc_Board_cover, od_Board_cover, .func (PySem.W.fnOf "cover" "Board.cover" (defArgs s_Board_cover) (defBody s_Board_cover) (defScope s_Board_cover) .none kV_Board_cover dc_Board_cover pm_Board_cover an_Board_cover cd_Board_cover ct_Board_cover), sl_Board_cover⟩) (c_Board_cover : PySem.W.codeIn K cd_Board_cover "Board.cover" = true) (k_Board_cover : PySem.W.keepIn K (.ref f_Board_cover) = true)
    (a_Board_certificate : PySem.W.findIn K (.ref C) "certificate" = some (some (.ref f_Board_certificate))) (i_Board_certificate : PySem.W.isFn K (.ref f_Board_certificate) = true) (l_Board_certificate : K.lookup f_Board_certificate = some ⟨oc_Board_certificate, od_Board_certificate, .func (PySem.W.fnOf "certificate" "Board.certificate" (defArgs s_Board_certificate) (defBody s_Board_certificate) (defScope s_Board_certificate) .none kV_Board_certificate dc_Board_certificate pm_Board_certificate an_Board_certificate cd_Board_certificate ct_Board_certificate), sl_Board_certificate⟩) (c_Board_certificate : PySem.W.codeIn K cd_Board_certificate "Board.certificate" = true) (k_Board_certificate : PySem.W.keepIn K (.ref f_Board_certificate) = true)
    (a_Board_check_certificate : PySem.W.findIn K (.ref C) "check_certificate" = some (some (.ref f_Board_check_certificate))) (i_Board_check_certificate : PySem.W.isFn K (.ref f_Board_check_certificate) = true) (l_Board_check_certificate : K.lookup f_Board_check_certificate = some ⟨oc_Board_check_certificate, od_Board_check_certificate, .func (PySem.W.fnOf "check_certificate" "Board.check_certificate" (defArgs s_Board_check_certificate) (defBody s_Board_check_certificate) (defScope s_Board_check_certificate) .none kV_Board_check_certificate dc_Board_check_certificate pm_Board_check_certificate an_Board_check_certificate cd_Board_check_certificate ct_Board_check_certificate), sl_Board_check_certificate⟩) (c_Board_check_certificate : PySem.W.codeIn K cd_Board_check_certificate "Board.check_certificate" = true) (k_Board_check_certificate : PySem.W.keepIn K (.ref f_Board_check_certificate) = true)
    (a_Board_is_valid : PySem.W.findIn K (.ref C) "is_valid" = some (some (.ref f_Board_is_valid))) (i_Board_is_valid : PySem.W.isFn K (.ref f_Board_is_valid) = true) (l_Board_is_valid : K.lookup f_Board_is_valid = some ⟨oc_Board_is_valid, od_Board_is_valid, .func (PySem.W.fnOf "is_valid" "Board.is_valid" (defArgs s_Board_is_valid) (defBody s_Board_is_valid) (defScope s_Board_is_valid) .none kV_Board_is_valid dc_Board_is_valid pm_Board_is_valid an_Board_is_valid cd_Board_is_valid ct_Board_is_valid), sl_Board_is_valid⟩) (c_Board_is_valid : PySem.W.codeIn K cd_Board_is_valid "Board.is_valid" = true) (k_Board_is_valid : PySem.W.keepIn K (.ref f_Board_is_valid) = true)
    (a_Board_proves : PySem.W.findIn K (.ref C) "proves" = some (some (.ref f_Board_proves))) (i_Board_proves : PySem.W.isFn K (.ref f_Board_proves) = true) (l_Board_proves : K.lookup f_Board_proves = some ⟨oc_Board_proves, od_Board_proves, .func (PySem.W.fnOf "proves" "Board.proves" (defArgs s_Board_proves) (defBody s_Board_proves) (defScope s_Board_proves) .none kV_Board_proves dc_Board_proves pm_Board_proves an_Board_proves cd_Board_proves ct_Board_proves), sl_Board_proves⟩) (c_Board_proves : PySem.W.codeIn K cd_Board_proves "Board.proves" = true) (k_Board_proves : PySem.W.keepIn K (.ref f_Board_proves) = true)
    (a_Board_status : PySem.W.findIn K (.ref C) "status" = some (some (.ref f_Board_status))) (i_Board_status : PySem.W.isFn K (.ref f_Board_status) = true) (l_Board_status : K.lookup f_Board_status = some ⟨oc_Board_status, od_Board_status, .func (PySem.W.fnOf "status" "Board.status" (defArgs s_Board_status) (defBody s_Board_status) (defScope s_Board_status) .none kV_Board_status dc_Board_status pm_Board_status an_Board_status cd_Board_status ct_Board_status), sl_Board_status⟩) (c_Board_status : PySem.W.codeIn K cd_Board_status "Board.status" = true) (k_Board_status : PySem.W.keepIn K (.ref f_Board_status) = true)
    (rest : ∀ C f_Board_init f_Board_push f_Board_put_edges f_Board_check f_Board_near_all f_Board_steps f_Board_solver f_Board_edge f_Board_put_edge f_Board_take_edge f_Board_set_pebbles f_Board_put_pebbles f_Board_rub f_Board_bring f_Board_undo f_Board_list_edges f_Board_list_pebbles f_Board_distance f_Board_least f_Board_most f_Board_sequence f_Board_shortest_sequence f_Board_reachable f_Board_weight_at f_Board_can_cover f_Board_connected_diameter f_Board_check_small f_Board_number f_Board_graph_number f_Board_unsolvable f_Board_unsolvable_at f_Board_path_partition f_Board_is_solvable f_Board_optimal f_Board_cover f_Board_certificate f_Board_check_certificate f_Board_is_valid f_Board_proves f_Board_status, T_Board K mg C f_Board_init f_Board_push f_Board_put_edges f_Board_check f_Board_near_all f_Board_steps f_Board_solver f_Board_edge f_Board_put_edge f_Board_take_edge f_Board_set_pebbles f_Board_put_pebbles f_Board_rub f_Board_bring f_Board_undo f_Board_list_edges f_Board_list_pebbles f_Board_distance f_Board_least f_Board_most f_Board_sequence f_Board_shortest_sequence f_Board_reachable f_Board_weight_at f_Board_can_cover f_Board_connected_diameter f_Board_check_small f_Board_number f_Board_graph_number f_Board_unsolvable f_Board_unsolvable_at f_Board_path_partition f_Board_is_solvable f_Board_optimal f_Board_cover f_Board_certificate f_Board_check_certificate f_Board_is_valid f_Board_proves f_Board_status → Gl) : Gl :=
  rest C f_Board_init f_Board_push f_Board_put_edges f_Board_check f_Board_near_all f_Board_steps f_Board_solver f_Board_edge f_Board_put_edge f_Board_take_edge f_Board_set_pebbles f_Board_put_pebbles f_Board_rub f_Board_bring f_Board_undo f_Board_list_edges f_Board_list_pebbles f_Board_distance f_Board_least f_Board_most f_Board_sequence f_Board_shortest_sequence f_Board_reachable f_Board_weight_at f_Board_can_cover f_Board_connected_diameter f_Board_check_small f_Board_number f_Board_graph_number f_Board_unsolvable f_Board_unsolvable_at f_Board_path_partition f_Board_is_solvable f_Board_optimal f_Board_cover f_Board_certificate f_Board_check_certificate f_Board_is_valid f_Board_proves f_Board_status { g := PySem.W.mg_of X G aC, cl := ⟨pg, hd, po, sa⟩, mkC := ⟨mk, a_Board_init, i_Board_init, kc⟩, na_many := na_many, na_edges := na_edges, na_pebbles := na_pebbles, na_moved := na_moved, na_earlier := na_earlier, na_solved := na_solved, na_came := na_came, F_Board_init := ⟨_, fun_mk (st := s_Board_init) l_Board_init c_Board_init k_Board_init⟩, F_Board_push := ⟨_, fun_mk (st := s_Board_push) l_Board_push c_Board_push k_Board_push⟩, m_Board_push := ⟨a_Board_push, i_Board_push, k_Board_push⟩, F_Board_put_edges := ⟨_, fun_mk (st := s_Board_put_edges) l_Board_put_edges c_Board_put_edges k_Board_put_edges⟩, m_Board_put_edges := ⟨a_Board_put_edges, i_Board_put_edges, k_Board_put_edges⟩, F_Board_check := ⟨_, fun_mk (st := s_Board_check) l_Board_check c_Board_check k_Board_check⟩, m_Board_check := ⟨a_Board_check, i_Board_check, k_Board_check⟩, F_Board_near_all := ⟨_, fun_mk (st := s_Board_near_all) l_Board_near_all c_Board_near_all k_Board_near_all⟩, m_Board_near_all := ⟨a_Board_near_all, i_Board_near_all, k_Board_near_all⟩, F_Board_steps := ⟨_, fun_mk (st := s_Board_steps) l_Board_steps c_Board_steps k_Board_steps⟩, m_Board_steps := ⟨a_Board_steps, i_Board_steps, k_Board_steps⟩, F_Board_solver := ⟨_, fun_mk (st := s_Board_solver) l_Board_solver c_Board_solver k_Board_solver⟩, m_Board_solver := ⟨a_Board_solver, i_Board_solver, k_Board_solver⟩, F_Board_edge := ⟨_, fun_mk (st := s_Board_edge) l_Board_edge c_Board_edge k_Board_edge⟩, m_Board_edge := ⟨a_Board_edge, i_Board_edge, k_Board_edge⟩, F_Board_put_edge := ⟨_, fun_mk (st := s_Board_put_edge) l_Board_put_edge c_Board_put_edge k_Board_put_edge⟩, m_Board_put_edge := ⟨a_Board_put_edge, i_Board_put_edge, k_Board_put_edge⟩, F_Board_take_edge := ⟨_, fun_mk (st := s_Board_take_edge) l_Board_take_edge c_Board_take_edge k_Board_take_edge⟩, m_Board_take_edge := ⟨a_Board_take_edge, i_Board_take_edge, k_Board_take_edge⟩, F_Board_set_pebbles := ⟨_, fun_mk (st := s_Board_set_pebbles) l_Board_set_pebbles c_Board_set_pebbles k_Board_set_pebbles⟩, m_Board_set_pebbles := ⟨a_Board_set_pebbles, i_Board_set_pebbles, k_Board_set_pebbles⟩, F_Board_put_pebbles := ⟨_, fun_mk (st := s_Board_put_pebbles) l_Board_put_pebbles c_Board_put_pebbles k_Board_put_pebbles⟩, m_Board_put_pebbles := ⟨a_Board_put_pebbles, i_Board_put_pebbles, k_Board_put_pebbles⟩, F_Board_rub := ⟨_, fun_mk (st := s_Board_rub) l_Board_rub c_Board_rub k_Board_rub⟩, m_Board_rub := ⟨a_Board_rub, i_Board_rub, k_Board_rub⟩, F_Board_bring := ⟨_, fun_mk (st := s_Board_bring) l_Board_bring c_Board_bring k_Board_bring⟩, m_Board_bring := ⟨a_Board_bring, i_Board_bring, k_Board_bring⟩, F_Board_undo := ⟨_, fun_mk (st := s_Board_undo) l_Board_undo c_Board_undo k_Board_undo⟩, m_Board_undo := ⟨a_Board_undo, i_Board_undo, k_Board_undo⟩, F_Board_list_edges := ⟨_, fun_mk (st := s_Board_list_edges) l_Board_list_edges c_Board_list_edges k_Board_list_edges⟩, m_Board_list_edges := ⟨a_Board_list_edges, i_Board_list_edges, k_Board_list_edges⟩, F_Board_list_pebbles := ⟨_, fun_mk (st := s_Board_list_pebbles) l_Board_list_pebbles c_Board_list_pebbles k_Board_list_pebbles⟩, m_Board_list_pebbles := ⟨a_Board_list_pebbles, i_Board_list_pebbles, k_Board_list_pebbles⟩, F_Board_distance := ⟨_, fun_mk (st := s_Board_distance) l_Board_distance c_Board_distance k_Board_distance⟩, m_Board_distance := ⟨a_Board_distance, i_Board_distance, k_Board_distance⟩, F_Board_least := ⟨_, fun_mk (st := s_Board_least) l_Board_least c_Board_least k_Board_least⟩, m_Board_least := ⟨a_Board_least, i_Board_least, k_Board_least⟩, F_Board_most := ⟨_, fun_mk (st := s_Board_most) l_Board_most c_Board_most k_Board_most⟩, m_Board_most := ⟨a_Board_most, i_Board_most, k_Board_most⟩, F_Board_sequence := ⟨_, fun_mk (st := s_Board_sequence) l_Board_sequence c_Board_sequence k_Board_sequence⟩, m_Board_sequence := ⟨a_Board_sequence, i_Board_sequence, k_Board_sequence⟩, F_Board_shortest_sequence := ⟨_, fun_mk (st := s_Board_shortest_sequence) l_Board_shortest_sequence c_Board_shortest_sequence k_Board_shortest_sequence⟩, m_Board_shortest_sequence := ⟨a_Board_shortest_sequence, i_Board_shortest_sequence, k_Board_shortest_sequence⟩, F_Board_reachable := ⟨_, fun_mk (st := s_Board_reachable) l_Board_reachable c_Board_reachable k_Board_reachable⟩, m_Board_reachable := ⟨a_Board_reachable, i_Board_reachable, k_Board_reachable⟩, F_Board_weight_at := ⟨_, fun_mk (st := s_Board_weight_at) l_Board_weight_at c_Board_weight_at k_Board_weight_at⟩, m_Board_weight_at := ⟨a_Board_weight_at, i_Board_weight_at, k_Board_weight_at⟩, F_Board_can_cover := ⟨_, fun_mk (st := s_Board_can_cover) l_Board_can_cover c_Board_can_cover k_Board_can_cover⟩, m_Board_can_cover := ⟨a_Board_can_cover, i_Board_can_cover, k_Board_can_cover⟩, F_Board_connected_diameter := ⟨_, fun_mk (st := s_Board_connected_diameter) l_Board_connected_diameter c_Board_connected_diameter k_Board_connected_diameter⟩, m_Board_connected_diameter := ⟨a_Board_connected_diameter, i_Board_connected_diameter, k_Board_connected_diameter⟩, F_Board_check_small := ⟨_, fun_mk (st := s_Board_check_small) l_Board_check_small c_Board_check_small k_Board_check_small⟩, m_Board_check_small := ⟨a_Board_check_small, i_Board_check_small, k_Board_check_small⟩, F_Board_number := ⟨_, fun_mk (st := s_Board_number) l_Board_number c_Board_number k_Board_number⟩, m_Board_number := ⟨a_Board_number, i_Board_number, k_Board_number⟩, F_Board_graph_number := ⟨_, fun_mk (st := s_Board_graph_number) l_Board_graph_number c_Board_graph_number k_Board_graph_number⟩, m_Board_graph_number := ⟨a_Board_graph_number, i_Board_graph_number, k_Board_graph_number⟩, F_Board_unsolvable := ⟨_, fun_mk (st := s_Board_unsolvable) l_Board_unsolvable c_Board_unsolvable k_Board_unsolvable⟩, m_Board_unsolvable := ⟨a_Board_unsolvable, i_Board_unsolvable, k_Board_unsolvable⟩, F_Board_unsolvable_at := ⟨_, fun_mk (st := s_Board_unsolvable_at) l_Board_unsolvable_at c_Board_unsolvable_at k_Board_unsolvable_at⟩, m_Board_unsolvable_at := ⟨a_Board_unsolvable_at, i_Board_unsolvable_at, k_Board_unsolvable_at⟩, F_Board_path_partition := ⟨_, fun_mk (st := s_Board_path_partition) l_Board_path_partition c_Board_path_partition k_Board_path_partition⟩, m_Board_path_partition := ⟨a_Board_path_partition, i_Board_path_partition, k_Board_path_partition⟩, F_Board_is_solvable := ⟨_, fun_mk (st := s_Board_is_solvable) l_Board_is_solvable c_Board_is_solvable k_Board_is_solvable⟩, m_Board_is_solvable := ⟨a_Board_is_solvable, i_Board_is_solvable, k_Board_is_solvable⟩, F_Board_optimal := ⟨_, fun_mk (st := s_Board_optimal) l_Board_optimal c_Board_optimal k_Board_optimal⟩, m_Board_optimal := ⟨a_Board_optimal, i_Board_optimal, k_Board_optimal⟩, F_Board_cover := ⟨_, fun_mk (st := s_Board_cover) l_Board_cover c_Board_cover k_Board_cover⟩, m_Board_cover := ⟨a_Board_cover, i_Board_cover, k_Board_cover⟩, F_Board_certificate := ⟨_, fun_mk (st := s_Board_certificate) l_Board_certificate c_Board_certificate k_Board_certificate⟩, m_Board_certificate := ⟨a_Board_certificate, i_Board_certificate, k_Board_certificate⟩, F_Board_check_certificate := ⟨_, fun_mk (st := s_Board_check_certificate) l_Board_check_certificate c_Board_check_certificate k_Board_check_certificate⟩, m_Board_check_certificate := ⟨a_Board_check_certificate, i_Board_check_certificate, k_Board_check_certificate⟩, F_Board_is_valid := ⟨_, fun_mk (st := s_Board_is_valid) l_Board_is_valid c_Board_is_valid k_Board_is_valid⟩, m_Board_is_valid := ⟨a_Board_is_valid, i_Board_is_valid, k_Board_is_valid⟩, F_Board_proves := ⟨_, fun_mk (st := s_Board_proves) l_Board_proves c_Board_proves k_Board_proves⟩, m_Board_proves := ⟨a_Board_proves, i_Board_proves, k_Board_proves⟩, F_Board_status := ⟨_, fun_mk (st := s_Board_status) l_Board_status c_Board_status k_Board_status⟩, m_Board_status := ⟨a_Board_status, i_Board_status, k_Board_status⟩ }
theorem step_SINGLES (X : K.In h) (G : h.Ns mainGlobals mg) {f : Addr} {dd : Option Addr} {sl : Array (Option Value)} {n : Nat} {t0 t1 t2 t3 t4 t5 t6 t7 t8 t9 t10 t11 t12 t13 t14 t15 t16 t17 t18 t19 t20 t21 t22 t23 t24 t25 t26 t27 t28 t29 t30 t31 t32 : Tok} (a : PySem.W.nsIn K mainGlobals "SINGLES" = some (some (.ref f)))
    (l : K.lookup f = some ⟨.type "tuple", dd, .seq #[.int 1 t0, .int 2 t1, .int 2 t2, .int 0 t3, .int 2 t4, .int 2 t5, .int 3 t6, .int 2 t7, .int 0 t8, .int 0 t9, .int 0 t10, .int 2 t11, .int 2 t12, .int 1 t13, .int 2 t14, .int 0 t15, .int 1 t16, .int 2 t17, .int 1 t18, .int 0 t19, .int 0 t20, .int 1 t21, .int 1 t22, .int 0 t23, .int 2 t24, .int 3 t25, .int 1 t26, .int 0 t27, .int 0 t28, .int 1 t29, .int 1 t30, .int 1 t31, .int 0 t32] n, sl⟩)
    (rest : ∀ f, mg "SINGLES" = some (.ref f) → (∀ H, SqT K H f ([.int 1, .int 2, .int 2, .int 0, .int 2, .int 2, .int 3, .int 2, .int 0, .int 0, .int 0, .int 2, .int 2, .int 1, .int 2, .int 0, .int 1, .int 2, .int 1, .int 0, .int 0, .int 1, .int 1, .int 0, .int 2, .int 3, .int 1, .int 0, .int 0, .int 1, .int 1, .int 1, .int 0])) → Gl) : Gl :=
  rest f (PySem.W.mg_of X G a) fun H => .inr ⟨_, _, n, l, rfl, rfl, by rw [sizeLine_eq]; exact (by decide : 33 ≤ 16777216), (.cons ⟨_, rfl⟩ (.cons ⟨_, rfl⟩ (.cons ⟨_, rfl⟩ (.cons ⟨_, rfl⟩ (.cons ⟨_, rfl⟩ (.cons ⟨_, rfl⟩ (.cons ⟨_, rfl⟩ (.cons ⟨_, rfl⟩ (.cons ⟨_, rfl⟩ (.cons ⟨_, rfl⟩ (.cons ⟨_, rfl⟩ (.cons ⟨_, rfl⟩ (.cons ⟨_, rfl⟩ (.cons ⟨_, rfl⟩ (.cons ⟨_, rfl⟩ (.cons ⟨_, rfl⟩ (.cons ⟨_, rfl⟩ (.cons ⟨_, rfl⟩ (.cons ⟨_, rfl⟩ (.cons ⟨_, rfl⟩ (.cons ⟨_, rfl⟩ (.cons ⟨_, rfl⟩ (.cons ⟨_, rfl⟩ (.cons ⟨_, rfl⟩ (.cons ⟨_, rfl⟩ (.cons ⟨_, rfl⟩ (.cons ⟨_, rfl⟩ (.cons ⟨_, rfl⟩ (.cons ⟨_, rfl⟩ (.cons ⟨_, rfl⟩ (.cons ⟨_, rfl⟩ (.cons ⟨_, rfl⟩ (.cons ⟨_, rfl⟩ .nil)))))))))))))))))))))))))))))))))⟩
theorem step_LISTS (X : K.In h) (G : h.Ns mainGlobals mg) {f : Addr} {n : Nat} {t0 u0 t1 u1 t2 u2 : Tok} {h0 h1 h2 : Int} (a : PySem.W.nsIn K mainGlobals "LISTS" = some (some (.ref f)))
    (l : K.lookup f = some ⟨.type "dict", none, .dict #[⟨h0, .int 3 t0, .int 1 u0⟩, ⟨h1, .int 30 t1, .int 2 u1⟩, ⟨h2, .int 31 t2, .int 2 u2⟩] n, #[]⟩)
    (e0 : h0 = hashInt 3) (e1 : h1 = hashInt 30) (e2 : h2 = hashInt 31) (sm : (f == sysModules) = false)
    (rest : ∀ f, mg "LISTS" = some (.ref f) → KIntD K f [(3, 1), (30, 2), (31, 2)] → Gl) : Gl :=
  rest f (PySem.W.mg_of X G a) ⟨sm, by decide, _, n, l, .cons ⟨_, _, rfl, rfl, e0⟩ (.cons ⟨_, _, rfl, rfl, e1⟩ (.cons ⟨_, _, rfl, rfl, e2⟩ .nil))⟩
end
theorem fin {P : Program} {w : World} {K : PySem.W.Frag} {mg : Str → Option Value} {fa : Addr} (ad : Adr) (hfa : mg "answers" = some (.ref fa)) (T : Txt K mg ad) :
    ∃ fd : FuncData, (∀ (s : Shared) (us : List Value), us.length = (["calls"] : List Str).length → BindsTo s fd ⟨us, []⟩ ((["calls"] : List Str).zip us)) ∧ ∀ base : Heap, K.In base → base.Ns mainGlobals mg → FnOk P w K mg base CX0 22 fa fd ["calls"] (sp_answers K) := by
  have e := hfa.symm.trans T.g_answers
  cases e
  obtain ⟨fd, F⟩ := T.F_answers
  refine ⟨fd, ?_, fun base _ _ => okf_answers T F⟩
  obtain ⟨oc, od, kV, doc, pm, an, cdv, ct, osl, rfl, _, _⟩ := F.ex
  exact fun s us hu => match us, hu with | [_], _ => .of_eq rfl
end PBW
open PySem PySem.W PyProof.Rows
theorem PBW.asked_of {l : List Int} (h : PyKs582.answers_asked l = true) : (∃ raws, PyFlat.calls PyKs582.shape l.length l = some raws) ∧ (PyKs582.answers l).length ≤ 10000000 := by
  unfold PyKs582.answers_asked at h
  split at h
  · cases h
  · next raw hr =>
    rw [Bool.and_eq_true] at h
    exact ⟨⟨raw, hr⟩, of_decide_eq_true h.2⟩
theorem PBW.s_case (K : Frag) (H : L2.Hp) (xs : List L2.V) (a : Codec.denoteAll PySem.Challenge.rw_pebbleboard_s01_answers.args) (hO : L2.OnlyF H) (hwi : Codec.withinAll PySem.Challenge.rw_pebbleboard_s01_answers.args a = true)
    (hask : Codec.app PySem.Challenge.rw_pebbleboard_s01_answers.args PySem.Challenge.rw_pebbleboard_s01_answers.asked a = true) (hx : L2.DwAll K H xs (Codec.encAll PySem.Challenge.rw_pebbleboard_s01_answers.args a)) :
    PBW.sp_answers K xs H (fun v H' => L2.Dw K H' v (PySem.Challenge.rw_pebbleboard_s01_answers.ret.enc (Codec.app PySem.Challenge.rw_pebbleboard_s01_answers.args PySem.Challenge.rw_pebbleboard_s01_answers.f a))) fun _ _ _ => False := by
  cases hx with
  | cons h1 h2 =>
    cases h2
    cases h1 with
    | lst hs ha =>
      have e := L2.ints_dw a.1 _ ha
      subst e
      have q : ((Codec.inLen 0 10800 a.1 && a.1.all (Codec.inInt 0 4294967295)) && true) = true := hwi
      rw [Bool.and_eq_true, Bool.and_eq_true] at q
      obtain ⟨h3, h4⟩ := PBW.asked_of (show PyKs582.answers_asked a.1 = true from hask)
      have hlen := q.1.1
      have hall := q.1.2
      refine ⟨_, a.1, rfl, hs, hO, ?_, fun z hz => ?_, h3, h4, fun p H2 hp => .lst (L2.SqL.of hp) (L2.dw_ints _)⟩
      · exact (Codec.inNat_iff.mp hlen).2
      · have := List.all_eq_true.mp hall z hz
        exact (Codec.inInt_iff.mp this).1
set_option maxRecDepth 100000 in
set_option maxHeartbeats 8000000 in
theorem PySem.Challenge.cw_pebbleboard_s01_answers_holds : PySem.Challenge.rw_pebbleboard_s01_answers.Holds := by
  w_on; k_headS; (case hw => exact ⟨[.list [.int 32]], by decide +kernel, by decide +kernel⟩)
  k_fillS
  refine L2.walk_specK (r := PySem.Challenge.rw_pebbleboard_s01_answers) (k := 22) (CX := L2.CX0) (ps := ["calls"]) (sp := PBW.sp_answers) (by decide +kernel) rfl rfl ⟨rfl, by decide, by decide⟩ (fun w h Y => PySem.W.kIn_of Y) ?F ?S (fun _ _ _ _ z => z)
  case F =>
    intro w mg fa h Y KX G hmg
    refine' PBW.step_none KX G "all" ?a_1 ?_; (case a_1 => k_is); intro n_all
    refine' PBW.step_none KX G "any" ?a_2 ?_; (case a_2 => k_is); intro n_any
    refine' PBW.step_none KX G "len" ?a_3 ?_; (case a_3 => k_is); intro n_len
    refine' PBW.step_none KX G "list" ?a_4 ?_; (case a_4 => k_is); intro n_list
    refine' PBW.step_none KX G "max" ?a_5 ?_; (case a_5 => k_is); intro n_max
    refine' PBW.step_none KX G "min" ?a_6 ?_; (case a_6 => k_is); intro n_min
    refine' PBW.step_none KX G "range" ?a_7 ?_; (case a_7 => k_is); intro n_range
    refine' PBW.step_none KX G "sorted" ?a_8 ?_; (case a_8 => k_is); intro n_sorted
    refine' PBW.step_none KX G "sum" ?a_9 ?_; (case a_9 => k_is); intro n_sum
    refine' PBW.step_none KX G "tuple" ?a_10 ?_; (case a_10 => k_is); intro n_tuple
    refine' PBW.step_none KX G "zip" ?a_11 ?_; (case a_11 => k_is); intro n_zip
    refine' PBW.step_int KX G "FAR" (-1) ?a_12 ?_; (case a_12 => k_is); intro t_FAR c_FAR
    refine' PBW.step_int KX G "MOST_VERTICES" (5) ?a_13 ?_; (case a_13 => k_is); intro t_MOST_VERTICES c_MOST_VERTICES
    refine' PBW.step_int KX G "MOST_PEBBLES" (12) ?a_14 ?_; (case a_14 => k_is); intro t_MOST_PEBBLES c_MOST_PEBBLES
    refine' PBW.step_int KX G "MOST_ASKED" (10) ?a_15 ?_; (case a_15 => k_is); intro t_MOST_ASKED c_MOST_ASKED
    refine' PBW.step_int KX G "MOST_UNDONE" (10) ?a_16 ?_; (case a_16 => k_is); intro t_MOST_UNDONE c_MOST_UNDONE
    refine' PBW.step_int KX G "MOST_DIAMETER" (3) ?a_17 ?_; (case a_17 => k_is); intro t_MOST_DIAMETER c_MOST_DIAMETER
    refine' PBW.step_int KX G "MOST_WEIGHT" (1000) ?a_18 ?_; (case a_18 => k_is); intro t_MOST_WEIGHT c_MOST_WEIGHT
    refine' PBW.step_glob KX G "neighbours" PBW.s_neighbours ?a_19 ?l_19 ?c_19 ?k_19 ?_; (case a_19 => k_is); (case l_19 => k_is); (case c_19 => k_is); (case k_19 => k_is); intro f_neighbours F_neighbours g_neighbours
    refine' PBW.step_glob KX G "distances" PBW.s_distances ?a_20 ?l_20 ?c_20 ?k_20 ?_; (case a_20 => k_is); (case l_20 => k_is); (case c_20 => k_is); (case k_20 => k_is); intro f_distances F_distances g_distances
    refine' PBW.step_glob KX G "diameter" PBW.s_diameter ?a_21 ?l_21 ?c_21 ?k_21 ?_; (case a_21 => k_is); (case l_21 => k_is); (case c_21 => k_is); (case k_21 => k_is); intro f_diameter F_diameter g_diameter
    refine' PBW.step_glob KX G "is_tree" PBW.s_is_tree ?a_22 ?l_22 ?c_22 ?k_22 ?_; (case a_22 => k_is); (case l_22 => k_is); (case c_22 => k_is); (case k_22 => k_is); intro f_is_tree F_is_tree g_is_tree
    refine' PBW.step_glob KX G "two_to" PBW.s_two_to ?a_23 ?l_23 ?c_23 ?k_23 ?_; (case a_23 => k_is); (case l_23 => k_is); (case c_23 => k_is); (case k_23 => k_is); intro f_two_to F_two_to g_two_to
    refine' PBW.step_glob KX G "cover_number" PBW.s_cover_number ?a_24 ?l_24 ?c_24 ?k_24 ?_; (case a_24 => k_is); (case l_24 => k_is); (case c_24 => k_is); (case k_24 => k_is); intro f_cover_number F_cover_number g_cover_number
    refine' PBW.step_glob KX G "way_back" PBW.s_way_back ?a_25 ?l_25 ?c_25 ?k_25 ?_; (case a_25 => k_is); (case l_25 => k_is); (case c_25 => k_is); (case k_25 => k_is); intro f_way_back F_way_back g_way_back
    refine' PBW.step_glob KX G "path_lengths" PBW.s_path_lengths ?a_26 ?l_26 ?c_26 ?k_26 ?_; (case a_26 => k_is); (case l_26 => k_is); (case c_26 => k_is); (case k_26 => k_is); intro f_path_lengths F_path_lengths g_path_lengths
    refine' PBW.step_glob KX G "taken" PBW.s_taken ?a_27 ?l_27 ?c_27 ?k_27 ?_; (case a_27 => k_is); (case l_27 => k_is); (case c_27 => k_is); (case k_27 => k_is); intro f_taken F_taken g_taken
    refine' PBW.step_glob KX G "can_take" PBW.s_can_take ?a_28 ?l_28 ?c_28 ?k_28 ?_; (case a_28 => k_is); (case l_28 => k_is); (case c_28 => k_is); (case k_28 => k_is); intro f_can_take F_can_take g_can_take
    refine' PBW.step_glob KX G "pebbling_moves" PBW.s_pebbling_moves ?a_29 ?l_29 ?c_29 ?k_29 ?_; (case a_29 => k_is); (case l_29 => k_is); (case c_29 => k_is); (case k_29 => k_is); intro f_pebbling_moves F_pebbling_moves g_pebbling_moves
    refine' PBW.step_glob KX G "behind_pebbling" PBW.s_behind_pebbling ?a_30 ?l_30 ?c_30 ?k_30 ?_; (case a_30 => k_is); (case l_30 => k_is); (case c_30 => k_is); (case k_30 => k_is); intro f_behind_pebbling F_behind_pebbling g_behind_pebbling
    refine' PBW.step_glob KX G "behind_rubbling" PBW.s_behind_rubbling ?a_31 ?l_31 ?c_31 ?k_31 ?_; (case a_31 => k_is); (case l_31 => k_is); (case c_31 => k_is); (case k_31 => k_is); intro f_behind_rubbling F_behind_rubbling g_behind_rubbling
    refine' PBW.step_glob KX G "behind" PBW.s_behind ?a_32 ?l_32 ?c_32 ?k_32 ?_; (case a_32 => k_is); (case l_32 => k_is); (case c_32 => k_is); (case k_32 => k_is); intro f_behind F_behind g_behind
    refine' PBW.step_glob KX G "steps_from" PBW.s_steps_from ?a_33 ?l_33 ?c_33 ?k_33 ?_; (case a_33 => k_is); (case l_33 => k_is); (case c_33 => k_is); (case k_33 => k_is); intro f_steps_from F_steps_from g_steps_from
    refine' PBW.step_glob KX G "least_moves" PBW.s_least_moves ?a_34 ?l_34 ?c_34 ?k_34 ?_; (case a_34 => k_is); (case l_34 => k_is); (case c_34 => k_is); (case k_34 => k_is); intro f_least_moves F_least_moves g_least_moves
    refine' PBW.step_glob KX G "most_pebbles" PBW.s_most_pebbles ?a_35 ?l_35 ?c_35 ?k_35 ?_; (case a_35 => k_is); (case l_35 => k_is); (case c_35 => k_is); (case k_35 => k_is); intro f_most_pebbles F_most_pebbles g_most_pebbles
    refine' PBW.step_glob KX G "first_sequence" PBW.s_first_sequence ?a_36 ?l_36 ?c_36 ?k_36 ?_; (case a_36 => k_is); (case l_36 => k_is); (case c_36 => k_is); (case k_36 => k_is); intro f_first_sequence F_first_sequence g_first_sequence
    refine' PBW.step_glob KX G "configurations" PBW.s_configurations ?a_37 ?l_37 ?c_37 ?k_37 ?_; (case a_37 => k_is); (case l_37 => k_is); (case c_37 => k_is); (case k_37 => k_is); intro f_configurations F_configurations g_configurations
    refine' PBW.step_glob KX G "refuse_if" PBW.s_refuse_if ?a_38 ?l_38 ?c_38 ?k_38 ?_; (case a_38 => k_is); (case l_38 => k_is); (case c_38 => k_is); (case k_38 => k_is); intro f_refuse_if F_refuse_if g_refuse_if
    refine' PBW.step_glob KX G "lowest" PBW.s_lowest ?a_39 ?l_39 ?c_39 ?k_39 ?_; (case a_39 => k_is); (case l_39 => k_is); (case c_39 => k_is); (case k_39 => k_is); intro f_lowest F_lowest g_lowest
    refine' PBW.step_glob KX G "changed" PBW.s_changed ?a_40 ?l_40 ?c_40 ?k_40 ?_; (case a_40 => k_is); (case l_40 => k_is); (case c_40 => k_is); (case k_40 => k_is); intro f_changed F_changed g_changed
    refine' PBW.step_glob KX G "asked" PBW.s_asked ?a_41 ?l_41 ?c_41 ?k_41 ?_; (case a_41 => k_is); (case l_41 => k_is); (case c_41 => k_is); (case k_41 => k_is); intro f_asked F_asked g_asked
    refine' PBW.step_glob KX G "asked_more" PBW.s_asked_more ?a_42 ?l_42 ?c_42 ?k_42 ?_; (case a_42 => k_is); (case l_42 => k_is); (case c_42 => k_is); (case k_42 => k_is); intro f_asked_more F_asked_more g_asked_more
    refine' PBW.step_glob KX G "done" PBW.s_done ?a_43 ?l_43 ?c_43 ?k_43 ?_; (case a_43 => k_is); (case l_43 => k_is); (case c_43 => k_is); (case k_43 => k_is); intro f_done F_done g_done
    refine' PBW.step_glob KX G "answers" PBW.s_answers ?a_44 ?l_44 ?c_44 ?k_44 ?_; (case a_44 => k_is); (case l_44 => k_is); (case c_44 => k_is); (case k_44 => k_is); intro f_answers F_answers g_answers
    refine' PBW.step_Solved KX G ?aC_45 ?pg_45 ?hd_45 ?po_45 ?sa_45 ?mk_45 ?kc_45 ?na_rows_45 ?na_target_45 ?na_rubbling_45 ?na_known_45 ?a_Solved_init_45 ?i_Solved_init_45 ?l_Solved_init_45 ?c_Solved_init_45 ?k_Solved_init_45 ?a_Solved_is_solved_45 ?i_Solved_is_solved_45 ?l_Solved_is_solved_45 ?c_Solved_is_solved_45 ?k_Solved_is_solved_45 ?a_Solved_unsolvable_45 ?i_Solved_unsolvable_45 ?l_Solved_unsolvable_45 ?c_Solved_unsolvable_45 ?k_Solved_unsolvable_45 ?a_Solved_number_45 ?i_Solved_number_45 ?l_Solved_number_45 ?c_Solved_number_45 ?k_Solved_number_45 ?_
    (case aC_45 => k_is)
    (case pg_45 => k_is)
    (case hd_45 => k_is)
    (case po_45 => k_is)
    (case sa_45 => k_is)
    (case mk_45 => k_is)
    (case kc_45 => k_is)
    (case na_rows_45 => k_is)
    (case na_target_45 => k_is)
    (case na_rubbling_45 => k_is)
    (case na_known_45 => k_is)
    (case a_Solved_init_45 => k_is)
    (case i_Solved_init_45 => k_is)
    (case l_Solved_init_45 => k_is)
    (case c_Solved_init_45 => k_is)
    (case k_Solved_init_45 => k_is)
    (case a_Solved_is_solved_45 => k_is)
    (case i_Solved_is_solved_45 => k_is)
    (case l_Solved_is_solved_45 => k_is)
    (case c_Solved_is_solved_45 => k_is)
    (case k_Solved_is_solved_45 => k_is)
    (case a_Solved_unsolvable_45 => k_is)
    (case i_Solved_unsolvable_45 => k_is)
    (case l_Solved_unsolvable_45 => k_is)
    (case c_Solved_unsolvable_45 => k_is)
    (case k_Solved_unsolvable_45 => k_is)
    (case a_Solved_number_45 => k_is)
    (case i_Solved_number_45 => k_is)
    (case l_Solved_number_45 => k_is)
    (case c_Solved_number_45 => k_is)
    (case k_Solved_number_45 => k_is)
    intro C_Solved f_Solved_init f_Solved_is_solved f_Solved_unsolvable f_Solved_number T_Solved
    refine' PBW.step_Board KX G ?aC_46 ?pg_46 ?hd_46 ?po_46 ?sa_46 ?mk_46 ?kc_46 ?na_many_46 ?na_edges_46 ?na_pebbles_46 ?na_moved_46 ?na_earlier_46 ?na_solved_46 ?na_came_46 ?a_Board_init_46 ?i_Board_init_46 ?l_Board_init_46 ?c_Board_init_46 ?k_Board_init_46 ?a_Board_push_46 ?i_Board_push_46 ?l_Board_push_46 ?c_Board_push_46 ?k_Board_push_46 ?a_Board_put_edges_46 ?i_Board_put_edges_46 ?l_Board_put_edges_46 ?c_Board_put_edges_46 ?k_Board_put_edges_46 ?a_Board_check_46 ?i_Board_check_46 ?l_Board_check_46 ?c_Board_check_46 ?k_Board_check_46 ?a_Board_near_all_46 ?i_Board_near_all_46 ?l_Board_near_all_46 ?c_Board_near_all_46 ?k_Board_near_all_46 ?a_Board_steps_46 ?i_Board_steps_46 ?l_Board_steps_46 ?c_Board_steps_46 ?k_Board_steps_46 ?a_Board_solver_46 ?i_Board_solver_46 ?l_Board_solver_46 ?c_Board_solver_46 ?k_Board_solver_46 ?a_Board_edge_46 ?i_Board_edge_46 ?l_Board_edge_46 ?c_Board_edge_46 ?k_Board_edge_46 ?a_Board_put_edge_46 ?i_Board_put_edge_46 ?l_Board_put_edge_46 ?c_Board_put_edge_46 ?k_Board_put_edge_46 ?a_Board_take_edge_46 ?i_Board_take_edge_46 ?l_Board_take_edge_46 ?c_Board_take_edge_46 ?k_Board_take_edge_46 ?a_Board_set_pebbles_46 ?i_Board_set_pebbles_46 ?l_Board_set_pebbles_46 ?c_Board_set_pebbles_46 ?k_Board_set_pebbles_46 ?a_Board_put_pebbles_46 ?i_Board_put_pebbles_46 ?l_Board_put_pebbles_46 ?c_Board_put_pebbles_46 ?k_Board_put_pebbles_46 ?a_Board_rub_46 ?i_Board_rub_46 ?l_Board_rub_46 ?c_Board_rub_46 ?k_Board_rub_46 ?a_Board_bring_46 ?i_Board_bring_46 ?l_Board_bring_46 ?c_Board_bring_46 ?k_Board_bring_46 ?a_Board_undo_46 ?i_Board_undo_46 ?l_Board_undo_46 ?c_Board_undo_46 ?k_Board_undo_46 ?a_Board_list_edges_46 ?i_Board_list_edges_46 ?l_Board_list_edges_46 ?c_Board_list_edges_46 ?k_Board_list_edges_46 ?a_Board_list_pebbles_46 ?i_Board_list_pebbles_46 ?l_Board_list_pebbles_46 ?c_Board_list_pebbles_46 ?k_Board_list_pebbles_46 ?a_Board_distance_46 ?i_Board_distance_46 ?l_Board_distance_46 ?c_Board_distance_46 ?k_Board_distance_46 ?a_Board_least_46 ?i_Board_least_46 ?l_Board_least_46 ?c_Board_least_46 ?k_Board_least_46 ?a_Board_most_46 ?i_Board_most_46 ?l_Board_most_46 ?c_Board_most_46 ?k_Board_most_46 ?a_Board_sequence_46 ?i_Board_sequence_46 ?l_Board_sequence_46 ?c_Board_sequence_46 ?k_Board_sequence_46 ?a_Board_shortest_sequence_46 ?i_Board_shortest_sequence_46 ?l_Board_shortest_sequence_46 ?c_Board_shortest_sequence_46 ?k_Board_shortest_sequence_46 ?a_Board_reachable_46 ?i_Board_reachable_46 ?l_Board_reachable_46 ?c_Board_reachable_46 ?k_Board_reachable_46 ?a_Board_weight_at_46 ?i_Board_weight_at_46 ?l_Board_weight_at_46 ?c_Board_weight_at_46 ?k_Board_weight_at_46 ?a_Board_can_cover_46 ?i_Board_can_cover_46 ?l_Board_can_cover_46 ?c_Board_can_cover_46 ?k_Board_can_cover_46 ?a_Board_connected_diameter_46 ?i_Board_connected_diameter_46 ?l_Board_connected_diameter_46 ?c_Board_connected_diameter_46 ?k_Board_connected_diameter_46 ?a_Board_check_small_46 ?i_Board_check_small_46 ?l_Board_check_small_46 ?c_Board_check_small_46 ?k_Board_check_small_46 ?a_Board_number_46 ?i_Board_number_46 ?l_Board_number_46 ?c_Board_number_46 ?k_Board_number_46 ?a_Board_graph_number_46 ?i_Board_graph_number_46 ?l_Board_graph_number_46 ?c_Board_graph_number_46 ?k_Board_graph_number_46 ?a_Board_unsolvable_46 ?i_Board_unsolvable_46 ?l_Board_unsolvable_46 ?c_Board_unsolvable_46 ?k_Board_unsolvable_46 ?a_Board_unsolvable_at_46 ?i_Board_unsolvable_at_46 ?l_Board_unsolvable_at_46 ?c_Board_unsolvable_at_46 ?k_Board_unsolvable_at_46 ?a_Board_path_partition_46 ?i_Board_path_partition_46 ?l_Board_path_partition_46 ?c_Board_path_partition_46 ?k_Board_path_partition_46 ?a_Board_is_solvable_46 ?i_Board_is_solvable_46 ?l_Board_is_solvable_46 ?c_Board_is_solvable_46 ?k_Board_is_solvable_46 ?a_Board_optimal_46 ?i_Board_optimal_46 ?l_Board_optimal_46 ?c_Board_optimal_46 ?k_Board_optimal_46 ?a_Board_cover_46 ?i_Board_cover_46 ?l_Board_cover_46 ?c_Board_cover_46 ?k_Board_cover_46 ?a_Board_certificate_46 ?i_Board_certificate_46 ?l_Board_certificate_46 ?c_Board_certificate_46 ?k_Board_certificate_46 ?a_Board_check_certificate_46 ?i_Board_check_certificate_46 ?l_Board_check_certificate_46 ?c_Board_check_certificate_46 ?k_Board_check_certificate_46 ?a_Board_is_valid_46 ?i_Board_is_valid_46 ?l_Board_is_valid_46 ?c_Board_is_valid_46 ?k_Board_is_valid_46 ?a_Board_proves_46 ?i_Board_proves_46 ?l_Board_proves_46 ?c_Board_proves_46 ?k_Board_proves_46 ?a_Board_status_46 ?i_Board_status_46 ?l_Board_status_46 ?c_Board_status_46 ?k_Board_status_46 ?_
    (case aC_46 => k_is)
    (case pg_46 => k_is)
    (case hd_46 => k_is)
    (case po_46 => k_is)
    (case sa_46 => k_is)
    (case mk_46 => k_is)
    (case kc_46 => k_is)
    (case na_many_46 => k_is)
    (case na_edges_46 => k_is)
    (case na_pebbles_46 => k_is)
    (case na_moved_46 => k_is)
    (case na_earlier_46 => k_is)
    (case na_solved_46 => k_is)
    (case na_came_46 => k_is)
    (case a_Board_init_46 => k_is)
    (case i_Board_init_46 => k_is)
    (case l_Board_init_46 => k_is)
    (case c_Board_init_46 => k_is)
    (case k_Board_init_46 => k_is)
    (case a_Board_push_46 => k_is)
    (case i_Board_push_46 => k_is)
    (case l_Board_push_46 => k_is)
    (case c_Board_push_46 => k_is)
    (case k_Board_push_46 => k_is)
    (case a_Board_put_edges_46 => k_is)
    (case i_Board_put_edges_46 => k_is)
    (case l_Board_put_edges_46 => k_is)
    (case c_Board_put_edges_46 => k_is)
    (case k_Board_put_edges_46 => k_is)
    (case a_Board_check_46 => k_is)
    (case i_Board_check_46 => k_is)
    (case l_Board_check_46 => k_is)
    (case c_Board_check_46 => k_is)
    (case k_Board_check_46 => k_is)
    (case a_Board_near_all_46 => k_is)
    (case i_Board_near_all_46 => k_is)
    (case l_Board_near_all_46 => k_is)
    (case c_Board_near_all_46 => k_is)
    (case k_Board_near_all_46 => k_is)
    (case a_Board_steps_46 => k_is)
    (case i_Board_steps_46 => k_is)
    (case l_Board_steps_46 => k_is)
    (case c_Board_steps_46 => k_is)
    (case k_Board_steps_46 => k_is)
    (case a_Board_solver_46 => k_is)
    (case i_Board_solver_46 => k_is)
    (case l_Board_solver_46 => k_is)
    (case c_Board_solver_46 => k_is)
    (case k_Board_solver_46 => k_is)
    (case a_Board_edge_46 => k_is)
    (case i_Board_edge_46 => k_is)
    (case l_Board_edge_46 => k_is)
    (case c_Board_edge_46 => k_is)
    (case k_Board_edge_46 => k_is)
    (case a_Board_put_edge_46 => k_is)
    (case i_Board_put_edge_46 => k_is)
    (case l_Board_put_edge_46 => k_is)
    (case c_Board_put_edge_46 => k_is)
    (case k_Board_put_edge_46 => k_is)
    (case a_Board_take_edge_46 => k_is)
    (case i_Board_take_edge_46 => k_is)
    (case l_Board_take_edge_46 => k_is)
    (case c_Board_take_edge_46 => k_is)
    (case k_Board_take_edge_46 => k_is)
    (case a_Board_set_pebbles_46 => k_is)
    (case i_Board_set_pebbles_46 => k_is)
    (case l_Board_set_pebbles_46 => k_is)
    (case c_Board_set_pebbles_46 => k_is)
    (case k_Board_set_pebbles_46 => k_is)
    (case a_Board_put_pebbles_46 => k_is)
    (case i_Board_put_pebbles_46 => k_is)
    (case l_Board_put_pebbles_46 => k_is)
    (case c_Board_put_pebbles_46 => k_is)
    (case k_Board_put_pebbles_46 => k_is)
    (case a_Board_rub_46 => k_is)
    (case i_Board_rub_46 => k_is)
    (case l_Board_rub_46 => k_is)
    (case c_Board_rub_46 => k_is)
    (case k_Board_rub_46 => k_is)
    (case a_Board_bring_46 => k_is)
    (case i_Board_bring_46 => k_is)
    (case l_Board_bring_46 => k_is)
    (case c_Board_bring_46 => k_is)
    (case k_Board_bring_46 => k_is)
    (case a_Board_undo_46 => k_is)
    (case i_Board_undo_46 => k_is)
    (case l_Board_undo_46 => k_is)
    (case c_Board_undo_46 => k_is)
    (case k_Board_undo_46 => k_is)
    (case a_Board_list_edges_46 => k_is)
    (case i_Board_list_edges_46 => k_is)
    (case l_Board_list_edges_46 => k_is)
    (case c_Board_list_edges_46 => k_is)
    (case k_Board_list_edges_46 => k_is)
    (case a_Board_list_pebbles_46 => k_is)
    (case i_Board_list_pebbles_46 => k_is)
    (case l_Board_list_pebbles_46 => k_is)
    (case c_Board_list_pebbles_46 => k_is)
    (case k_Board_list_pebbles_46 => k_is)
    (case a_Board_distance_46 => k_is)
    (case i_Board_distance_46 => k_is)
    (case l_Board_distance_46 => k_is)
    (case c_Board_distance_46 => k_is)
    (case k_Board_distance_46 => k_is)
    (case a_Board_least_46 => k_is)
    (case i_Board_least_46 => k_is)
    (case l_Board_least_46 => k_is)
    (case c_Board_least_46 => k_is)
    (case k_Board_least_46 => k_is)
    (case a_Board_most_46 => k_is)
    (case i_Board_most_46 => k_is)
    (case l_Board_most_46 => k_is)
    (case c_Board_most_46 => k_is)
    (case k_Board_most_46 => k_is)
    (case a_Board_sequence_46 => k_is)
    (case i_Board_sequence_46 => k_is)
    (case l_Board_sequence_46 => k_is)
    (case c_Board_sequence_46 => k_is)
    (case k_Board_sequence_46 => k_is)
    (case a_Board_shortest_sequence_46 => k_is)
    (case i_Board_shortest_sequence_46 => k_is)
    (case l_Board_shortest_sequence_46 => k_is)
    (case c_Board_shortest_sequence_46 => k_is)
    (case k_Board_shortest_sequence_46 => k_is)
    (case a_Board_reachable_46 => k_is)
    (case i_Board_reachable_46 => k_is)
    (case l_Board_reachable_46 => k_is)
    (case c_Board_reachable_46 => k_is)
    (case k_Board_reachable_46 => k_is)
    (case a_Board_weight_at_46 => k_is)
    (case i_Board_weight_at_46 => k_is)
    (case l_Board_weight_at_46 => k_is)
    (case c_Board_weight_at_46 => k_is)
    (case k_Board_weight_at_46 => k_is)
    (case a_Board_can_cover_46 => k_is)
    (case i_Board_can_cover_46 => k_is)
    (case l_Board_can_cover_46 => k_is)
    (case c_Board_can_cover_46 => k_is)
    (case k_Board_can_cover_46 => k_is)
    (case a_Board_connected_diameter_46 => k_is)
    (case i_Board_connected_diameter_46 => k_is)
    (case l_Board_connected_diameter_46 => k_is)
    (case c_Board_connected_diameter_46 => k_is)
    (case k_Board_connected_diameter_46 => k_is)
    (case a_Board_check_small_46 => k_is)
    (case i_Board_check_small_46 => k_is)
    (case l_Board_check_small_46 => k_is)
    (case c_Board_check_small_46 => k_is)
    (case k_Board_check_small_46 => k_is)
    (case a_Board_number_46 => k_is)
    (case i_Board_number_46 => k_is)
    (case l_Board_number_46 => k_is)
    (case c_Board_number_46 => k_is)
    (case k_Board_number_46 => k_is)
    (case a_Board_graph_number_46 => k_is)
    (case i_Board_graph_number_46 => k_is)
    (case l_Board_graph_number_46 => k_is)
    (case c_Board_graph_number_46 => k_is)
    (case k_Board_graph_number_46 => k_is)
    (case a_Board_unsolvable_46 => k_is)
    (case i_Board_unsolvable_46 => k_is)
    (case l_Board_unsolvable_46 => k_is)
    (case c_Board_unsolvable_46 => k_is)
    (case k_Board_unsolvable_46 => k_is)
    (case a_Board_unsolvable_at_46 => k_is)
    (case i_Board_unsolvable_at_46 => k_is)
    (case l_Board_unsolvable_at_46 => k_is)
    (case c_Board_unsolvable_at_46 => k_is)
    (case k_Board_unsolvable_at_46 => k_is)
    (case a_Board_path_partition_46 => k_is)
    (case i_Board_path_partition_46 => k_is)
    (case l_Board_path_partition_46 => k_is)
    (case c_Board_path_partition_46 => k_is)
    (case k_Board_path_partition_46 => k_is)
    (case a_Board_is_solvable_46 => k_is)
    (case i_Board_is_solvable_46 => k_is)
    (case l_Board_is_solvable_46 => k_is)
    (case c_Board_is_solvable_46 => k_is)
    (case k_Board_is_solvable_46 => k_is)
    (case a_Board_optimal_46 => k_is)
    (case i_Board_optimal_46 => k_is)
    (case l_Board_optimal_46 => k_is)
    (case c_Board_optimal_46 => k_is)
    (case k_Board_optimal_46 => k_is)
    (case a_Board_cover_46 => k_is)
    (case i_Board_cover_46 => k_is)
    (case l_Board_cover_46 => k_is)
    (case c_Board_cover_46 => k_is)
    (case k_Board_cover_46 => k_is)
    (case a_Board_certificate_46 => k_is)
    (case i_Board_certificate_46 => k_is)
    (case l_Board_certificate_46 => k_is)
    (case c_Board_certificate_46 => k_is)
    (case k_Board_certificate_46 => k_is)
    (case a_Board_check_certificate_46 => k_is)
    (case i_Board_check_certificate_46 => k_is)
    (case l_Board_check_certificate_46 => k_is)
    (case c_Board_check_certificate_46 => k_is)
    (case k_Board_check_certificate_46 => k_is)
    (case a_Board_is_valid_46 => k_is)
    (case i_Board_is_valid_46 => k_is)
    (case l_Board_is_valid_46 => k_is)
    (case c_Board_is_valid_46 => k_is)
    (case k_Board_is_valid_46 => k_is)
    (case a_Board_proves_46 => k_is)
    (case i_Board_proves_46 => k_is)
    (case l_Board_proves_46 => k_is)
    (case c_Board_proves_46 => k_is)
    (case k_Board_proves_46 => k_is)
    (case a_Board_status_46 => k_is)
    (case i_Board_status_46 => k_is)
    (case l_Board_status_46 => k_is)
    (case c_Board_status_46 => k_is)
    (case k_Board_status_46 => k_is)
    intro C_Board f_Board_init f_Board_push f_Board_put_edges f_Board_check f_Board_near_all f_Board_steps f_Board_solver f_Board_edge f_Board_put_edge f_Board_take_edge f_Board_set_pebbles f_Board_put_pebbles f_Board_rub f_Board_bring f_Board_undo f_Board_list_edges f_Board_list_pebbles f_Board_distance f_Board_least f_Board_most f_Board_sequence f_Board_shortest_sequence f_Board_reachable f_Board_weight_at f_Board_can_cover f_Board_connected_diameter f_Board_check_small f_Board_number f_Board_graph_number f_Board_unsolvable f_Board_unsolvable_at f_Board_path_partition f_Board_is_solvable f_Board_optimal f_Board_cover f_Board_certificate f_Board_check_certificate f_Board_is_valid f_Board_proves f_Board_status T_Board
    refine' PBW.step_Refused KX G ?aC_47 ?xL_47 ?sa_47 ?ga_47 ?gg_47 ?nb_47 ?a1_47 ?t1_47 ?l1_47 ?c1_47 ?kC_47 ?eC_47 ?tC_47 ?hC_47 ?iC_47 ?sC_47 ?_
    (case aC_47 => k_is)
    (case xL_47 => k_is)
    (case sa_47 => k_is)
    (case ga_47 => k_is)
    (case gg_47 => k_is)
    (case nb_47 => k_is)
    (case a1_47 => k_is)
    (case t1_47 => k_is)
    (case l1_47 => k_is)
    (case c1_47 => k_is)
    (case kC_47 => k_is)
    (case eC_47 => k_is)
    (case tC_47 => k_is)
    (case hC_47 => k_is)
    (case iC_47 => k_is)
    (case sC_47 => first | rfl | k_is)
    intro C_Refused f_Refused_init low
    refine' PBW.step_SINGLES KX G ?a_48 ?l_48 ?_; (case a_48 => k_is); (case l_48 => k_is); intro a_SINGLES c_SINGLES w_SINGLES
    refine' PBW.step_LISTS KX G ?a_49 ?l_49 ?e0_49 ?e1_49 ?e2_49 ?sm_49 ?_; (case a_49 => k_is); (case l_49 => k_is); (case e0_49 => rfl); (case e1_49 => rfl); (case e2_49 => rfl); (case sm_49 => rfl); intro a_LISTS c_LISTS w_LISTS
    exact PBW.fin { f_neighbours := f_neighbours, f_distances := f_distances, f_diameter := f_diameter, f_is_tree := f_is_tree, f_two_to := f_two_to, f_cover_number := f_cover_number, f_way_back := f_way_back, f_path_lengths := f_path_lengths, f_taken := f_taken, f_can_take := f_can_take, f_pebbling_moves := f_pebbling_moves, f_behind_pebbling := f_behind_pebbling, f_behind_rubbling := f_behind_rubbling, f_behind := f_behind, f_steps_from := f_steps_from, f_least_moves := f_least_moves, f_most_pebbles := f_most_pebbles, f_first_sequence := f_first_sequence, f_configurations := f_configurations, f_Solved_init := f_Solved_init, f_Solved_is_solved := f_Solved_is_solved, f_Solved_unsolvable := f_Solved_unsolvable, f_Solved_number := f_Solved_number, f_Refused_init := f_Refused_init, f_refuse_if := f_refuse_if, f_lowest := f_lowest, f_Board_init := f_Board_init, f_Board_push := f_Board_push, f_Board_put_edges := f_Board_put_edges, f_Board_check := f_Board_check, f_Board_near_all := f_Board_near_all, f_Board_steps := f_Board_steps, f_Board_solver := f_Board_solver, f_Board_edge := f_Board_edge, f_Board_put_edge := f_Board_put_edge, f_Board_take_edge := f_Board_take_edge, f_Board_set_pebbles := f_Board_set_pebbles, f_Board_put_pebbles := f_Board_put_pebbles, f_Board_rub := f_Board_rub, f_Board_bring := f_Board_bring, f_Board_undo := f_Board_undo, f_Board_list_edges := f_Board_list_edges, f_Board_list_pebbles := f_Board_list_pebbles, f_Board_distance := f_Board_distance, f_Board_least := f_Board_least, f_Board_most := f_Board_most, f_Board_sequence := f_Board_sequence, f_Board_shortest_sequence := f_Board_shortest_sequence, f_Board_reachable := f_Board_reachable, f_Board_weight_at := f_Board_weight_at, f_Board_can_cover := f_Board_can_cover, f_Board_connected_diameter := f_Board_connected_diameter, f_Board_check_small := f_Board_check_small, f_Board_number := f_Board_number, f_Board_graph_number := f_Board_graph_number, f_Board_unsolvable := f_Board_unsolvable, f_Board_unsolvable_at := f_Board_unsolvable_at, f_Board_path_partition := f_Board_path_partition, f_Board_is_solvable := f_Board_is_solvable, f_Board_optimal := f_Board_optimal, f_Board_cover := f_Board_cover, f_Board_certificate := f_Board_certificate, f_Board_check_certificate := f_Board_check_certificate, f_Board_is_valid := f_Board_is_valid, f_Board_proves := f_Board_proves, f_Board_status := f_Board_status, f_changed := f_changed, f_asked := f_asked, f_asked_more := f_asked_more, f_done := f_done, f_answers := f_answers, C_Solved := C_Solved, C_Refused := C_Refused, C_Board := C_Board, t_FAR := t_FAR, t_MOST_VERTICES := t_MOST_VERTICES, t_MOST_PEBBLES := t_MOST_PEBBLES, t_MOST_ASKED := t_MOST_ASKED, t_MOST_UNDONE := t_MOST_UNDONE, t_MOST_DIAMETER := t_MOST_DIAMETER, t_MOST_WEIGHT := t_MOST_WEIGHT, a_SINGLES := a_SINGLES, a_LISTS := a_LISTS } hmg { n_all := n_all, n_any := n_any, n_len := n_len, n_list := n_list, n_max := n_max, n_min := n_min, n_range := n_range, n_sorted := n_sorted, n_sum := n_sum, n_tuple := n_tuple, n_zip := n_zip, c_FAR := c_FAR, c_MOST_VERTICES := c_MOST_VERTICES, c_MOST_PEBBLES := c_MOST_PEBBLES, c_MOST_ASKED := c_MOST_ASKED, c_MOST_UNDONE := c_MOST_UNDONE, c_MOST_DIAMETER := c_MOST_DIAMETER, c_MOST_WEIGHT := c_MOST_WEIGHT, F_neighbours := F_neighbours, g_neighbours := g_neighbours, F_distances := F_distances, g_distances := g_distances, F_diameter := F_diameter, g_diameter := g_diameter, F_is_tree := F_is_tree, g_is_tree := g_is_tree, F_two_to := F_two_to, g_two_to := g_two_to, F_cover_number := F_cover_number, g_cover_number := g_cover_number, F_way_back := F_way_back, g_way_back := g_way_back, F_path_lengths := F_path_lengths, g_path_lengths := g_path_lengths, F_taken := F_taken, g_taken := g_taken, F_can_take := F_can_take, g_can_take := g_can_take, F_pebbling_moves := F_pebbling_moves, g_pebbling_moves := g_pebbling_moves, F_behind_pebbling := F_behind_pebbling, g_behind_pebbling := g_behind_pebbling, F_behind_rubbling := F_behind_rubbling, g_behind_rubbling := g_behind_rubbling, F_behind := F_behind, g_behind := g_behind, F_steps_from := F_steps_from, g_steps_from := g_steps_from, F_least_moves := F_least_moves, g_least_moves := g_least_moves, F_most_pebbles := F_most_pebbles, g_most_pebbles := g_most_pebbles, F_first_sequence := F_first_sequence, g_first_sequence := g_first_sequence, F_configurations := F_configurations, g_configurations := g_configurations, F_refuse_if := F_refuse_if, g_refuse_if := g_refuse_if, F_lowest := F_lowest, g_lowest := g_lowest, F_changed := F_changed, g_changed := g_changed, F_asked := F_asked, g_asked := g_asked, F_asked_more := F_asked_more, g_asked_more := g_asked_more, F_done := F_done, g_done := g_done, F_answers := F_answers, g_answers := g_answers, g_Solved := T_Solved.g, cl_Solved := T_Solved.cl, mk_Solved := T_Solved.mkC, na_Solved_rows := T_Solved.na_rows, na_Solved_target := T_Solved.na_target, na_Solved_rubbling := T_Solved.na_rubbling, na_Solved_known := T_Solved.na_known, F_Solved_init := T_Solved.F_Solved_init, F_Solved_is_solved := T_Solved.F_Solved_is_solved, m_Solved_is_solved := T_Solved.m_Solved_is_solved, F_Solved_unsolvable := T_Solved.F_Solved_unsolvable, m_Solved_unsolvable := T_Solved.m_Solved_unsolvable, F_Solved_number := T_Solved.F_Solved_number, m_Solved_number := T_Solved.m_Solved_number, g_Board := T_Board.g, cl_Board := T_Board.cl, mk_Board := T_Board.mkC, na_Board_many := T_Board.na_many, na_Board_edges := T_Board.na_edges, na_Board_pebbles := T_Board.na_pebbles, na_Board_moved := T_Board.na_moved, na_Board_earlier := T_Board.na_earlier, na_Board_solved := T_Board.na_solved, na_Board_came := T_Board.na_came, F_Board_init := T_Board.F_Board_init, F_Board_push := T_Board.F_Board_push, m_Board_push := T_Board.m_Board_push, F_Board_put_edges := T_Board.F_Board_put_edges, m_Board_put_edges := T_Board.m_Board_put_edges, F_Board_check := T_Board.F_Board_check, m_Board_check := T_Board.m_Board_check, F_Board_near_all := T_Board.F_Board_near_all, m_Board_near_all := T_Board.m_Board_near_all, F_Board_steps := T_Board.F_Board_steps, m_Board_steps := T_Board.m_Board_steps, F_Board_solver := T_Board.F_Board_solver, m_Board_solver := T_Board.m_Board_solver, F_Board_edge := T_Board.F_Board_edge, m_Board_edge := T_Board.m_Board_edge, F_Board_put_edge := T_Board.F_Board_put_edge, m_Board_put_edge := T_Board.m_Board_put_edge, F_Board_take_edge := T_Board.F_Board_take_edge, m_Board_take_edge := T_Board.m_Board_take_edge, F_Board_set_pebbles := T_Board.F_Board_set_pebbles, m_Board_set_pebbles := T_Board.m_Board_set_pebbles, F_Board_put_pebbles := T_Board.F_Board_put_pebbles, m_Board_put_pebbles := T_Board.m_Board_put_pebbles, F_Board_rub := T_Board.F_Board_rub, m_Board_rub := T_Board.m_Board_rub, F_Board_bring := T_Board.F_Board_bring, m_Board_bring := T_Board.m_Board_bring, F_Board_undo := T_Board.F_Board_undo, m_Board_undo := T_Board.m_Board_undo, F_Board_list_edges := T_Board.F_Board_list_edges, m_Board_list_edges := T_Board.m_Board_list_edges, F_Board_list_pebbles := T_Board.F_Board_list_pebbles, m_Board_list_pebbles := T_Board.m_Board_list_pebbles, F_Board_distance := T_Board.F_Board_distance, m_Board_distance := T_Board.m_Board_distance, F_Board_least := T_Board.F_Board_least, m_Board_least := T_Board.m_Board_least, F_Board_most := T_Board.F_Board_most, m_Board_most := T_Board.m_Board_most, F_Board_sequence := T_Board.F_Board_sequence, m_Board_sequence := T_Board.m_Board_sequence, F_Board_shortest_sequence := T_Board.F_Board_shortest_sequence, m_Board_shortest_sequence := T_Board.m_Board_shortest_sequence, F_Board_reachable := T_Board.F_Board_reachable, m_Board_reachable := T_Board.m_Board_reachable, F_Board_weight_at := T_Board.F_Board_weight_at, m_Board_weight_at := T_Board.m_Board_weight_at, F_Board_can_cover := T_Board.F_Board_can_cover, m_Board_can_cover := T_Board.m_Board_can_cover, F_Board_connected_diameter := T_Board.F_Board_connected_diameter, m_Board_connected_diameter := T_Board.m_Board_connected_diameter, F_Board_check_small := T_Board.F_Board_check_small, m_Board_check_small := T_Board.m_Board_check_small, F_Board_number := T_Board.F_Board_number, m_Board_number := T_Board.m_Board_number, F_Board_graph_number := T_Board.F_Board_graph_number, m_Board_graph_number := T_Board.m_Board_graph_number, F_Board_unsolvable := T_Board.F_Board_unsolvable, m_Board_unsolvable := T_Board.m_Board_unsolvable, F_Board_unsolvable_at := T_Board.F_Board_unsolvable_at, m_Board_unsolvable_at := T_Board.m_Board_unsolvable_at, F_Board_path_partition := T_Board.F_Board_path_partition, m_Board_path_partition := T_Board.m_Board_path_partition, F_Board_is_solvable := T_Board.F_Board_is_solvable, m_Board_is_solvable := T_Board.m_Board_is_solvable, F_Board_optimal := T_Board.F_Board_optimal, m_Board_optimal := T_Board.m_Board_optimal, F_Board_cover := T_Board.F_Board_cover, m_Board_cover := T_Board.m_Board_cover, F_Board_certificate := T_Board.F_Board_certificate, m_Board_certificate := T_Board.m_Board_certificate, F_Board_check_certificate := T_Board.F_Board_check_certificate, m_Board_check_certificate := T_Board.m_Board_check_certificate, F_Board_is_valid := T_Board.F_Board_is_valid, m_Board_is_valid := T_Board.m_Board_is_valid, F_Board_proves := T_Board.F_Board_proves, m_Board_proves := T_Board.m_Board_proves, F_Board_status := T_Board.F_Board_status, m_Board_status := T_Board.m_Board_status, low := low, c_SINGLES := c_SINGLES, w_SINGLES := w_SINGLES, c_LISTS := c_LISTS, w_LISTS := w_LISTS }
  case S =>
    intro K H xs a hO hwi hask hx
    exact PBW.s_case K H xs a hO hwi hask hx
#print axioms PySem.Challenge.cw_pebbleboard_s01_answers_holds

