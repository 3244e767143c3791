import PyProof.Rows.All
import Wide.All
import OpenK.AllK
import Wide.FinOn
import Open.SpecLaws
import KE.OsHead
import KE.OsGo
import HandS.ForSpec
import HandS.Comp
import HandS.Dict
import HandS.Iter
import HandS.Walk
import HandS.Conv
import HandS.RevRange
import HandS.CallLocal
import HandS.More
import KE.KDictZip
import PySem.Challenge.RW_leastseams_s01_answers
set_option Elab.async false
set_option linter.all false
/-! Plain mathematics: the least seam, by rows. No program here. -/
namespace LS
open Sq46
/-! ### the first of the least -/
theorem first_nil : first [] = none := rfl
theorem first_snoc (l : List (Nat × Int)) (x : Nat × Int) : first (l ++ [x]) = match first l with
    | none => some x
    | some y => if x.2 < y.2 then some x else some y := by
  unfold first
  rw [List.foldl_append]
  rfl
theorem first_one (x : Nat × Int) : first [x] = some x := rfl
theorem foldl_first_mem : ∀ (l : List (Nat × Int)) (m : Option (Nat × Int)) (z : Nat × Int), l.foldl (fun (m : Option (Nat × Int)) x => match m with
    | none => some x
    | some y => if x.2 < y.2 then some x else some y) m = some z → z ∈ l ∨ m = some z
  | [], m, z, h => Or.inr h
  | x :: l, m, z, h => by
    rw [List.foldl_cons] at h
    rcases foldl_first_mem l _ z h with h1 | h1
    · exact Or.inl (List.mem_cons_of_mem _ h1)
    · cases m with
      | none =>
        have : x = z := Option.some.inj h1
        rw [this]
        exact Or.inl List.mem_cons_self
      | some y =>
        dsimp only at h1
        by_cases c : x.2 < y.2
        · rw [if_pos c] at h1
          rw [Option.some.inj h1]
          exact Or.inl List.mem_cons_self
        · rw [if_neg c] at h1
          exact Or.inr h1
theorem first_mem {l : List (Nat × Int)} {z : Nat × Int} (h : first l = some z) : z ∈ l := by
  rcases foldl_first_mem l none z h with h | h
  · exact h
  · cases h
theorem foldl_first_some : ∀ (l : List (Nat × Int)) (y : Nat × Int), ∃ z, l.foldl (fun (m : Option (Nat × Int)) x => match m with
    | none => some x
    | some y => if x.2 < y.2 then some x else some y) (some y) = some z
  | [], y => ⟨y, rfl⟩
  | x :: l, y => by
    rw [List.foldl_cons]
    dsimp only
    by_cases c : x.2 < y.2
    · rw [if_pos c]
      exact foldl_first_some l x
    · rw [if_neg c]
      exact foldl_first_some l y
theorem first_some {l : List (Nat × Int)} (h : l ≠ []) : ∃ z, first l = some z := by
  cases l with
  | nil => exact absurd rfl h
  | cons x l => exact foldl_first_some l x
/-- the costs at some places -/
def atP (b : List Int) (l : List Nat) : List (Nat × Int) := l.map fun z => (z, (b[z]?).getD 0)
/-- the first place of the least cost -/
def bestP (b : List Int) (l : List Nat) : Nat := ((first (atP b l)).map fun z => z.1).getD 0
theorem atP_ne {b : List Int} {l : List Nat} (h : l ≠ []) : atP b l ≠ [] := fun z => h (List.map_eq_nil_iff.mp z)
theorem best_first {b : List Int} {l : List Nat} (h : l ≠ []) : first (atP b l) = some (bestP b l, (b[bestP b l]?).getD 0) ∧ bestP b l ∈ l := by
  obtain ⟨z, hz⟩ := first_some (atP_ne (b := b) h)
  obtain ⟨y, hy, e⟩ := List.mem_map.mp (first_mem hz)
  have e2 : bestP b l = y := by
    unfold bestP
    rw [hz, ← e]
    rfl
  rw [e2]
  exact ⟨hz.trans (congrArg some e.symm), hy⟩
theorem best_one (b : List Int) (x : Nat) : bestP b [x] = x := rfl
theorem best_snoc {b : List Int} {l : List Nat} (h : l ≠ []) (x : Nat) : bestP b (l ++ [x]) = if (b[x]?).getD 0 < (b[bestP b l]?).getD 0 then x else bestP b l := by
  have e : atP b (l ++ [x]) = atP b l ++ [(x, (b[x]?).getD 0)] := by
    unfold atP
    rw [List.map_append]
    rfl
  have h1 := (best_first (b := b) h).1
  have e2 : first (atP b (l ++ [x])) = if (b[x]?).getD 0 < (b[bestP b l]?).getD 0 then some (x, (b[x]?).getD 0) else some (bestP b l, (b[bestP b l]?).getD 0) := by
    rw [e, first_snoc, h1]
  show ((first (atP b (l ++ [x]))).map fun z => z.1).getD 0 = _
  rw [e2]
  by_cases c : (b[x]?).getD 0 < (b[bestP b l]?).getD 0
  · rw [if_pos c, if_pos c]
    rfl
  · rw [if_neg c, if_neg c]
    rfl
/-! ### one step -/
theorem steps_eq {w x : Nat} (h : x < w) : steps w x = (if 1 ≤ x then [x - 1] else []) ++ ([x] ++ (if x + 1 < w then [x + 1] else [])) := by
  have h0 : (if 1 ≤ x + 0 ∧ x + 0 - 1 < w then some (x + 0 - 1) else none) = if 1 ≤ x then some (x - 1) else none := by
    by_cases c : 1 ≤ x
    · rw [if_pos c, if_pos ⟨c, by omega⟩, Nat.add_zero]
    · rw [if_neg c, if_neg (by omega)]
  have h1 : (if 1 ≤ x + 1 ∧ x + 1 - 1 < w then some (x + 1 - 1) else none) = some x := by
    rw [if_pos ⟨by omega, by omega⟩, Nat.add_sub_cancel]
  have h2 : (if 1 ≤ x + 2 ∧ x + 2 - 1 < w then some (x + 2 - 1) else none) = if x + 1 < w then some (x + 1) else none := by
    by_cases c : x + 1 < w
    · rw [if_pos c, if_pos ⟨by omega, by omega⟩]
      rfl
    · rw [if_neg c, if_neg (by omega)]
  show List.filterMap (fun z => if 1 ≤ z ∧ z - 1 < w then some (z - 1) else none) [x + 0, x + 1, x + 2] = _
  rw [List.filterMap_cons, h0, List.filterMap_cons, h1, List.filterMap_cons, h2, List.filterMap_nil]
  by_cases c : 1 ≤ x
  · rw [if_pos c, if_pos c]
    by_cases c2 : x + 1 < w
    · rw [if_pos c2, if_pos c2]
      rfl
    · rw [if_neg c2, if_neg c2]
      rfl
  · rw [if_neg c, if_neg c]
    by_cases c2 : x + 1 < w
    · rw [if_pos c2, if_pos c2]
      rfl
    · rw [if_neg c2, if_neg c2]
      rfl
theorem steps_ne {w x : Nat} (h : x < w) : steps w x ≠ [] := by
  rw [steps_eq h]
  intro z
  have := congrArg List.length z
  simp at this
theorem steps_lt {w x z : Nat} (h : x < w) (hz : z ∈ steps w x) : z < w := by
  rw [steps_eq h] at hz
  simp only [List.mem_append] at hz
  rcases hz with hz | hz | hz
  · by_cases c : 1 ≤ x
    · rw [if_pos c] at hz
      have := List.mem_singleton.mp hz
      omega
    · rw [if_neg c] at hz
      cases hz
  · have := List.mem_singleton.mp hz
    omega
  · by_cases c : x + 1 < w
    · rw [if_pos c] at hz
      have := List.mem_singleton.mp hz
      omega
    · rw [if_neg c] at hz
      cases hz
theorem steps_range {w x : Nat} (h : x < w) : steps w x = (List.range (min (x + 2) w - (x - 1))).map fun i => x - 1 + i := by
  rw [steps_eq h]
  by_cases c : 1 ≤ x
  · rw [if_pos c]
    by_cases c2 : x + 1 < w
    · rw [if_pos c2, show min (x + 2) w - (x - 1) = 3 by omega]
      show [x - 1, x, x + 1] = [x - 1 + 0, x - 1 + 1, x - 1 + 2]
      rw [show x - 1 + 1 = x by omega, show x - 1 + 2 = x + 1 by omega]
      rfl
    · rw [if_neg c2, show min (x + 2) w - (x - 1) = 2 by omega]
      show [x - 1, x] = [x - 1 + 0, x - 1 + 1]
      rw [show x - 1 + 1 = x by omega]
      rfl
  · have hx : x = 0 := by omega
    subst hx
    rw [if_neg c]
    by_cases c2 : 0 + 1 < w
    · rw [if_pos c2, show min (0 + 2) w - (0 - 1) = 2 by omega]
      rfl
    · rw [if_neg c2, show min (0 + 2) w - (0 - 1) = 1 by omega]
      rfl
/-! ### the table -/
/-- the least cost near a place -/
def nearP (b : List Int) (x : Nat) : Int := ((first (atP b (steps b.length x))).map fun z => z.2).getD 0
theorem near_best {b : List Int} {x : Nat} (h : x < b.length) : nearP b x = (b[bestP b (steps b.length x)]?).getD 0 := by
  unfold nearP
  rw [(best_first (b := b) (steps_ne h)).1]
  rfl
/-- one row of the table, by the row below (none: the last) -/
def costsRow (p : Picture) (y : Nat) (b : List Int) : List Int := (List.range p.wide).map fun x => going p x y + (if b.length = 0 then 0 else nearP b x)
theorem costsRow_len (p : Picture) (y : Nat) (b : List Int) : (costsRow p y b).length = p.wide := by
  unfold costsRow
  rw [List.length_map, List.length_range]
theorem costsRow_at {p : Picture} {y x : Nat} {b : List Int} (h : x < p.wide) : (costsRow p y b)[x]? = some (going p x y + (if b.length = 0 then 0 else nearP b x)) := by
  unfold costsRow
  rw [List.getElem?_map, List.getElem?_range h]
  rfl
/-- the last n rows of the table -/
def tab (p : Picture) : Nat → List (List Int)
  | 0 => []
  | n + 1 => costsRow p (p.length - (n + 1)) ((tab p n).headD []) :: tab p n
theorem tab_len (p : Picture) : ∀ n, (tab p n).length = n
  | 0 => rfl
  | n + 1 => by
    show (tab p n).length + 1 = n + 1
    rw [tab_len p n]
theorem tab_row (p : Picture) : ∀ n, ∀ r ∈ tab p n, r.length = p.wide
  | 0, r, h => nomatch h
  | n + 1, r, h => by
    rcases List.mem_cons.mp h with h | h
    · rw [h]
      exact costsRow_len _ _ _
    · exact tab_row p n r h
theorem tab_head_len (p : Picture) : ∀ n, ((tab p n).headD []).length = if n = 0 then 0 else p.wide
  | 0 => rfl
  | n + 1 => by
    rw [if_neg (Nat.succ_ne_zero n)]
    exact costsRow_len _ _ _
theorem tab_fold (p : Picture) (hw : 1 ≤ p.wide) : ∀ n, (List.range n).foldl (fun (t : List (List Int)) n =>
    let b := t.headD []
    let y := p.length - (n + 1)
    ((List.range p.wide).map fun x => going p x y + (if n = 0 then 0 else ((first ((steps p.wide x).map fun z => (z, (b[z]?).getD 0))).map fun z => z.2).getD 0)) :: t) [] = tab p n
  | 0 => rfl
  | n + 1 => by
    rw [List.range_succ, List.foldl_append, tab_fold p hw n, List.foldl_cons, List.foldl_nil]
    show _ :: tab p n = costsRow p (p.length - (n + 1)) ((tab p n).headD []) :: tab p n
    congr 1
    unfold costsRow
    refine List.map_congr_left fun x hx => ?_
    congr 1
    have hl := tab_head_len p n
    by_cases c : n = 0
    · rw [if_pos c, if_pos (by rw [hl, if_pos c])]
    · rw [if_neg c] at hl
      rw [if_neg c, if_neg (by rw [hl]; omega)]
      unfold nearP
      rw [hl]
      rfl
theorem table_tab {p : Picture} (hw : 1 ≤ p.wide) : table p = tab p p.length := tab_fold p hw p.length
/-! ### on from a place -/
theorem down_snoc {w : Nat} : ∀ (t : List (List Int)) (c : List Int) (x : Nat), x < w → (∀ r ∈ t, r.length = w) → down w (t ++ [c]) x = down w t x ++ [bestP c (steps w ((x :: down w t x).getLast (List.cons_ne_nil _ _)))]
  | [], c, x, hx, _ => by
    show (match first (atP c (steps w x)) with
      | none => []
      | some z => z.1 :: down w [] z.1) = _
    rw [(best_first (b := c) (steps_ne hx)).1]
    rfl
  | b :: t, c, x, hx, ht => by
    have hb := best_first (b := b) (steps_ne hx)
    have hlt := steps_lt hx hb.2
    have ih := down_snoc t c (bestP b (steps w x)) hlt (fun r hr => ht r (List.mem_cons_of_mem _ hr))
    have e1 : down w (b :: t ++ [c]) x = bestP b (steps w x) :: down w (t ++ [c]) (bestP b (steps w x)) := by
      show (match first (atP b (steps w x)) with
        | none => []
        | some z => z.1 :: down w (t ++ [c]) z.1) = _
      rw [hb.1]
    have e2 : down w (b :: t) x = bestP b (steps w x) :: down w t (bestP b (steps w x)) := by
      show (match first (atP b (steps w x)) with
        | none => []
        | some z => z.1 :: down w t z.1) = _
      rw [hb.1]
    rw [e1, e2, ih]
    rfl
theorem down_len {w : Nat} : ∀ (t : List (List Int)) (x : Nat), x < w → (down w t x).length = t.length ∧ ∀ z ∈ down w t x, z < w
  | [], x, _ => ⟨rfl, fun z h => nomatch h⟩
  | b :: t, x, hx => by
    have hb := best_first (b := b) (steps_ne hx)
    have hlt := steps_lt hx hb.2
    have ih := down_len t (bestP b (steps w x)) hlt
    have e2 : down w (b :: t) x = bestP b (steps w x) :: down w t (bestP b (steps w x)) := by
      show (match first (atP b (steps w x)) with
        | none => []
        | some z => z.1 :: down w t z.1) = _
      rw [hb.1]
    rw [e2]
    refine ⟨by rw [List.length_cons, List.length_cons, ih.1], fun z hz => ?_⟩
    rcases List.mem_cons.mp hz with h | h
    · rw [h]
      exact hlt
    · exact ih.2 z h
/-- the least seam by a table -/
def seamP (w : Nat) : List (List Int) → List Nat
  | [] => []
  | b :: t => bestP b (List.range w) :: down w t (bestP b (List.range w))
theorem range_ne {w : Nat} (h : 1 ≤ w) : List.range w ≠ [] := fun z => by
  have := congrArg List.length z
  rw [List.length_range] at this
  simp at this
  omega
theorem least_some {p : Picture} (hw : 1 ≤ p.wide) (hp : 1 ≤ p.length) : least p = some (seamP p.wide (tab p p.length)) := by
  unfold least
  rw [table_tab hw]
  obtain ⟨n, hn⟩ : ∃ n, p.length = n + 1 := ⟨p.length - 1, by omega⟩
  rw [hn]
  show (first (atP (costsRow p (p.length - (n + 1)) ((tab p n).headD [])) (List.range p.wide))).map _ = _
  rw [(best_first (range_ne hw)).1]
  rfl
/-- what the way down costs -/
theorem cost_down (p : Picture) : ∀ (n : Nat) (x : Nat), n + 1 ≤ p.length → x < p.wide → cost p (p.length - (n + 1)) (x :: down p.wide (tab p n) x) = ((costsRow p (p.length - (n + 1)) ((tab p n).headD []))[x]?).getD 0
  | 0, x, h, hx => by
    rw [costsRow_at hx]
    show going p x (p.length - (0 + 1)) + 0 = going p x (p.length - (0 + 1)) + (if (0 : Nat) = 0 then 0 else _)
    rw [if_pos rfl]
  | n + 1, x, h, hx => by
    have hl : ((tab p (n + 1)).headD []).length = p.wide := by
      rw [tab_head_len, if_neg (Nat.succ_ne_zero n)]
    have hb := best_first (b := (tab p (n + 1)).headD []) (steps_ne hx)
    have hlt := steps_lt hx hb.2
    have ih := cost_down p n (bestP ((tab p (n + 1)).headD []) (steps p.wide x)) (by omega) hlt
    have e2 : down p.wide (tab p (n + 1)) x = bestP ((tab p (n + 1)).headD []) (steps p.wide x) :: down p.wide (tab p n) (bestP ((tab p (n + 1)).headD []) (steps p.wide x)) := by
      show (match first (atP ((tab p (n + 1)).headD []) (steps p.wide x)) with
        | none => []
        | some z => z.1 :: down p.wide (tab p n) z.1) = _
      rw [hb.1]
    rw [e2, costsRow_at hx, if_neg (by rw [hl]; omega)]
    show going p x (p.length - (n + 1 + 1)) + cost p (p.length - (n + 1 + 1) + 1) _ = _
    rw [show p.length - (n + 1 + 1) + 1 = p.length - (n + 1) by omega, ih]
    show _ = going p x _ + nearP ((tab p (n + 1)).headD []) x
    rw [near_best (by rw [hl]; exact hx), hl]
    rfl
theorem seam_cost {p : Picture} (hw : 1 ≤ p.wide) (hp : 1 ≤ p.length) : ∃ b t, tab p p.length = b :: t ∧ seamP p.wide (tab p p.length) = bestP b (List.range p.wide) :: down p.wide t (bestP b (List.range p.wide)) ∧ bestP b (List.range p.wide) < p.wide ∧
    cost p 0 (seamP p.wide (tab p p.length)) = (b[bestP b (List.range p.wide)]?).getD 0 := by
  obtain ⟨n, hn⟩ : ∃ n, p.length = n + 1 := ⟨p.length - 1, by omega⟩
  have hlt : bestP (costsRow p (p.length - (n + 1)) ((tab p n).headD [])) (List.range p.wide) < p.wide := List.mem_range.mp (best_first (b := costsRow p (p.length - (n + 1)) ((tab p n).headD [])) (range_ne hw)).2
  have e : tab p p.length = costsRow p (p.length - (n + 1)) ((tab p n).headD []) :: tab p n := by
    have : tab p p.length = tab p (n + 1) := by rw [hn]
    rw [this]
    rfl
  refine ⟨_, _, e, by rw [e]; rfl, hlt, ?_⟩
  rw [e]
  have h := cost_down p n _ (by omega) hlt
  rw [show p.length - (n + 1) = 0 by omega] at h hlt ⊢
  exact h
theorem seamP_len {p : Picture} (hw : 1 ≤ p.wide) (hp : 1 ≤ p.length) : (seamP p.wide (tab p p.length)).length = p.length ∧ ∀ z ∈ seamP p.wide (tab p p.length), z < p.wide := by
  obtain ⟨b, t, e1, e2, e3, _⟩ := seam_cost hw hp
  have hd := down_len t _ e3
  have hl := tab_len p p.length
  rw [e1] at hl
  rw [e2]
  refine ⟨by rw [List.length_cons, hd.1]; exact hl, fun z hz => ?_⟩
  rcases List.mem_cons.mp hz with h | h
  · rw [h]
    exact e3
  · exact hd.2 z h
end LS
/-! Plain mathematics: pictures as the program reckons them. -/
namespace LS
open Sq46
/-- h rows, all as wide as w -/
structure Rc (w h : Nat) (p : Picture) : Prop where
  hh : p.length = h
  ww : ∀ r ∈ p, r.length = w
/-- .. neither 0 nor above 16 -/
structure Rect (w h : Nat) (p : Picture) : Prop where
  hh : p.length = h
  ww : ∀ r ∈ p, r.length = w
  w1 : 1 ≤ w
  h1 : 1 ≤ h
  w16 : w ≤ 16
  h16 : h ≤ 16
theorem Rect.rc {w h : Nat} {p : Picture} (R : Rect w h p) : Rc w h p := ⟨R.hh, R.ww⟩
theorem Rc.rect {w h : Nat} {p : Picture} (R : Rc w h p) (w1 : 1 ≤ w) (h1 : 1 ≤ h) (w16 : w ≤ 16) (h16 : h ≤ 16) : Rect w h p := ⟨R.hh, R.ww, w1, h1, w16, h16⟩
theorem Rc.wide {w h : Nat} {p : Picture} (R : Rc w h p) (h1 : 1 ≤ h) : p.wide = w := by
  cases p with
  | nil =>
    have h2 := R.hh
    simp at h2
    omega
  | cons r p => exact R.ww r List.mem_cons_self
theorem Rect.wide {w h : Nat} {p : Picture} (R : Rect w h p) : p.wide = w := R.rc.wide R.h1
theorem Rect.ne {w h : Nat} {p : Picture} (R : Rect w h p) : p ≠ [] := fun z => by
  have h1 := R.h1
  have h2 := R.hh
  rw [z] at h2
  simp at h2
  omega
theorem Rect.row {w h y : Nat} {p : Picture} (R : Rect w h p) (hy : y < h) : ∃ r, p[y]? = some r ∧ r.length = w := by
  have h2 : y < p.length := by rw [R.hh]; exact hy
  exact ⟨p[y], List.getElem?_eq_getElem h2, R.ww _ (List.getElem_mem h2)⟩
def turnedP (p : Picture) : Picture := (List.range p.wide).map fun x => p.map fun r => (r[x]?).getD ⟨0, 0⟩
def seenP (t : Nat) (p : Picture) : Picture := if t = 1 then turnedP p else p
def weighedRowP (r : List Pixel) (b w : Nat) (wt : Int) : List Pixel := ((List.range r.length).zip r).map fun c => if b ≤ c.1 ∧ c.1 < b + w then { c.2 with weight := wt } else c.2
def weighedP (p : Picture) (x y w h : Nat) (wt : Int) : Picture := ((List.range p.length).zip p).map fun r => if y ≤ r.1 ∧ r.1 < y + h then weighedRowP r.2 x w wt else r.2
def rowsP (w n : Nat) (l : List Nat) : Picture := (List.range n).map fun i => ((l.map fun c => (⟨c, 0⟩ : Pixel)).drop (i * w)).take w
def leastP (p : Picture) : List Nat := seamP p.wide (tab p p.length)
theorem leastP_len {w h : Nat} {p : Picture} (R : Rect w h p) : (leastP p).length = h ∧ ∀ z ∈ leastP p, z < w := by
  have h1 := seamP_len (p := p) (by rw [R.wide]; exact R.w1) (by rw [R.hh]; exact R.h1)
  rw [R.wide] at h1
  unfold leastP
  rw [R.wide]
  exact ⟨h1.1.trans R.hh, h1.2⟩
theorem least_leastP {w h : Nat} {p : Picture} (R : Rect w h p) : least p = some (leastP p) := least_some (by rw [R.wide]; exact R.w1) (by rw [R.hh]; exact R.h1)
theorem without_rc {w h : Nat} {p : Picture} {s : List Nat} (R : Rc w h p) (hl : s.length = h) (hs : ∀ z ∈ s, z < w) : Rc (w - 1) h (without p s) := by
  unfold without
  refine ⟨by rw [List.length_map, List.length_zip, R.hh, hl, Nat.min_self], fun r hr => ?_⟩
  obtain ⟨⟨a, n⟩, hm, rfl⟩ := List.mem_map.mp hr
  have h1 := List.of_mem_zip hm
  have h2 := R.ww a h1.1
  have h3 := hs n h1.2
  show (a.eraseIdx n).length = w - 1
  rw [List.length_eraseIdx, if_pos (by omega), h2]
/-- one least seam more -/
def nstep (st : Picture × Int × List (List Nat × List Pixel)) : Picture × Int × List (List Nat × List Pixel) :=
  (without st.1 (leastP st.1), st.2.1 + cost st.1 0 (leastP st.1), st.2.2 ++ [(leastP st.1, taken st.1 (leastP st.1))])
def narrowN (p : Picture) : Nat → Picture × Int × List (List Nat × List Pixel)
  | 0 => (p, 0, [])
  | n + 1 => nstep (narrowN p n)
theorem narrowN_rc {w h : Nat} {p : Picture} (R : Rect w h p) : ∀ n, n ≤ w → Rc (w - n) h (narrowN p n).1
  | 0, _ => R.rc
  | n + 1, hn => by
    have ih := narrowN_rc R n (by omega)
    have R' : Rect (w - n) h (narrowN p n).1 := ih.rect (by omega) R.h1 (by have := R.w16; omega) R.h16
    have hl := leastP_len R'
    have := without_rc ih hl.1 hl.2
    rw [show w - n - 1 = w - (n + 1) by omega] at this
    exact this
theorem narrowN_rect {w h n : Nat} {p : Picture} (R : Rect w h p) (hn : n < w) : Rect (w - n) h (narrowN p n).1 := (narrowN_rc R n (by omega)).rect (by omega) R.h1 (by have := R.w16; omega) R.h16
theorem narrowN_out {w h : Nat} {p : Picture} (R : Rect w h p) : ∀ n, n ≤ w → (narrowN p n).2.2.length = n ∧ ∀ (i : Nat) q, (narrowN p n).2.2[i]? = some q → q.1.length = h ∧ q.2.length = h ∧ ∀ z ∈ q.1, z < w - i
  | 0, _ => ⟨rfl, fun i q h => by cases h⟩
  | n + 1, hn => by
    have ih := narrowN_out R n (by omega)
    have R' := narrowN_rect (n := n) R (by omega)
    have hl := leastP_len R'
    have e : (narrowN p (n + 1)).2.2 = (narrowN p n).2.2 ++ [(leastP (narrowN p n).1, taken (narrowN p n).1 (leastP (narrowN p n).1))] := rfl
    rw [e]
    refine ⟨by rw [List.length_append, ih.1]; rfl, fun i q hq => ?_⟩
    rcases Nat.lt_trichotomy i n with c | c | c
    · rw [List.getElem?_append_left (by rw [ih.1]; exact c)] at hq
      exact ih.2 i q hq
    · subst c
      rw [List.getElem?_append_right (by rw [ih.1]; exact Nat.le_refl _), ih.1, Nat.sub_self] at hq
      obtain rfl := Option.some.inj hq
      refine ⟨hl.1, ?_, hl.2⟩
      show (taken _ _).length = h
      unfold taken
      rw [List.length_map, List.length_zip, R'.hh, hl.1, Nat.min_self]
    · rw [List.getElem?_eq_none (by rw [List.length_append, ih.1]; show n + 1 ≤ i; omega)] at hq
      cases hq
/-- where in a row as it was some seams took their pixels: what is left, where they were -/
def pstep (y : Nat) (st : List Nat × List Nat) (s : List Nat) : List Nat × List Nat := (st.1.eraseIdx ((s[y]?).getD 0), st.2 ++ [(st.1[(s[y]?).getD 0]?).getD 0])
def placesN (w : Nat) (ss : List (List Nat)) (y : Nat) : List Nat × List Nat := ss.foldl (pstep y) (List.range w, [])
theorem placesN_snoc (w : Nat) (ss : List (List Nat)) (s : List Nat) (y : Nat) : placesN w (ss ++ [s]) y = pstep y (placesN w ss y) s := by
  unfold placesN
  rw [List.foldl_append]
  rfl
/-- what is asked of seams that are taken one behind another -/
def Taken (w : Nat) (ss : List (List Nat)) (y : Nat) : Prop := ∀ (i : Nat) s, ss[i]? = some s → ∃ x, s[y]? = some x ∧ x < w - i
theorem placesN_len {w y : Nat} {ss : List (List Nat)} (T : Taken w ss y) : ∀ i, i ≤ ss.length → (placesN w (ss.take i) y).1.length = w - i ∧ (placesN w (ss.take i) y).2.length = i
  | 0, _ => ⟨by show (List.range w).length = w - 0; rw [List.length_range]; rfl, rfl⟩
  | i + 1, hi => by
    have ih := placesN_len T i (by omega)
    obtain ⟨s, hs⟩ : ∃ s, ss[i]? = some s := ⟨ss[i], List.getElem?_eq_getElem (by omega)⟩
    obtain ⟨x, h1, h2⟩ := T i s hs
    rw [List.take_add_one, hs]
    show (placesN w (ss.take i ++ [s]) y).1.length = w - (i + 1) ∧ (placesN w (ss.take i ++ [s]) y).2.length = i + 1
    rw [placesN_snoc]
    refine ⟨?_, by show (_ ++ [_]).length = _; rw [List.length_append, ih.2]; rfl⟩
    show ((placesN w (ss.take i) y).1.eraseIdx ((s[y]?).getD 0)).length = w - (i + 1)
    rw [h1]
    show ((placesN w (ss.take i) y).1.eraseIdx x).length = w - (i + 1)
    rw [List.length_eraseIdx, if_pos (by omega), ih.1]
    omega
def besideP (r : List Pixel) (x : Nat) : Pixel := ⟨(((r[x]?).getD ⟨0, 0⟩).colour + ((r[min (x + 1) (r.length - 1)]?).getD ⟨0, 0⟩).colour) / 2, 0⟩
def widenRowP (r : List Pixel) (places : List Nat) : List Pixel := ((List.range r.length).zip r).flatMap fun c => if places.contains c.1 = true then [c.2, besideP r c.1] else [c.2]
def widenP (p : Picture) (n : Nat) : Picture := ((List.range p.length).zip p).map fun r => widenRowP r.2 (placesN r.2.length ((narrowN p n).2.2.map fun q => q.1) r.1).2
end LS
/-! Plain mathematics: what the program reckons is what the specification says. -/
namespace LS
open Sq46
theorem getD_ix {α : Type} {l : List α} {i : Nat} {d : α} (h : i < l.length) : l[i]? = some ((l[i]?).getD d) := by
  rw [List.getElem?_eq_getElem h]
  rfl
/-! ### turned -/
theorem turned_eq (p : Picture) : turned p = turnedP p := by
  unfold turned turnedP
  refine List.map_congr_left fun x _ => ?_
  refine List.ext_getElem? fun y => ?_
  rw [List.getElem?_map, List.getElem?_map]
  rcases Nat.lt_or_ge y p.length with h | h
  · rw [List.getElem?_range h, List.getElem?_eq_getElem h]
    show some (pixel p x y) = some ((p[y][x]?).getD ⟨0, 0⟩)
    unfold pixel
    rw [List.getElem?_eq_getElem h]
    rfl
  · rw [List.getElem?_eq_none (by rw [List.length_range]; exact h), List.getElem?_eq_none h]
    rfl
theorem seen_eq (t : Nat) (p : Picture) : seen (t == 1) p = seenP t p := by
  unfold seen seenP
  by_cases h : t = 1
  · subst h
    rw [if_pos rfl, if_pos (by decide), turned_eq]
  · rw [if_neg (by simp [h]), if_neg h]
theorem turnedP_rc {w h : Nat} {p : Picture} (R : Rc w h p) (h1 : 1 ≤ h) : Rc h w (turnedP p) := by
  unfold turnedP
  refine ⟨by rw [List.length_map, List.length_range, R.wide h1], fun r hr => ?_⟩
  obtain ⟨x, _, rfl⟩ := List.mem_map.mp hr
  rw [List.length_map, R.hh]
theorem turnedP_rect {w h : Nat} {p : Picture} (R : Rect w h p) : Rect h w (turnedP p) := (turnedP_rc R.rc R.h1).rect R.h1 R.w1 R.h16 R.w16
theorem turnedP_twice {w h : Nat} {p : Picture} (R : Rc w h p) (w1 : 1 ≤ w) (h1 : 1 ≤ h) : turnedP (turnedP p) = p := by
  have R' := turnedP_rc R h1
  have e : turnedP (turnedP p) = (List.range h).map fun y => (turnedP p).map fun r => (r[y]?).getD ⟨0, 0⟩ := by
    show (List.range (turnedP p).wide).map _ = _
    rw [R'.wide w1]
  rw [e]
  refine List.ext_getElem? fun y => ?_
  rw [List.getElem?_map]
  rcases Nat.lt_or_ge y h with hy | hy
  · have hy' : y < p.length := by rw [R.hh]; exact hy
    rw [List.getElem?_range hy, List.getElem?_eq_getElem hy']
    show some _ = some p[y]
    congr 1
    have hw : p[y].length = w := R.ww _ (List.getElem_mem hy')
    show (turnedP p).map (fun r => (r[y]?).getD ⟨0, 0⟩) = p[y]
    unfold turnedP
    rw [R.wide h1, List.map_map]
    refine List.ext_getElem? fun x => ?_
    rw [List.getElem?_map]
    rcases Nat.lt_or_ge x w with hx | hx
    · rw [List.getElem?_range hx]
      show some (((p.map fun r => (r[x]?).getD ⟨0, 0⟩)[y]?).getD ⟨0, 0⟩) = _
      rw [List.getElem?_map, List.getElem?_eq_getElem hy']
      show some ((p[y][x]?).getD ⟨0, 0⟩) = p[y][x]?
      rw [List.getElem?_eq_getElem (by omega)]
      rfl
    · rw [List.getElem?_eq_none (by rw [List.length_range]; exact hx), List.getElem?_eq_none (by omega)]
      rfl
  · rw [List.getElem?_eq_none (by rw [List.length_range]; exact hy), List.getElem?_eq_none (by rw [R.hh]; exact hy)]
    rfl
/-- the sides as they are looked at -/
def swapW (t : Bool) (w h : Nat) : Nat := if t = true then h else w
def swapH (t : Bool) (w h : Nat) : Nat := if t = true then w else h
theorem seen_rc {t : Bool} {w h : Nat} {p : Picture} (R : Rc w h p) (h1 : 1 ≤ h) : Rc (swapW t w h) (swapH t w h) (seen t p) := by
  cases t with
  | true =>
    show Rc h w (turned p)
    rw [turned_eq]
    exact turnedP_rc R h1
  | false => exact R
theorem seen_rect {t : Bool} {w h : Nat} {p : Picture} (R : Rect w h p) : Rect (swapW t w h) (swapH t w h) (seen t p) := by
  cases t with
  | true =>
    show Rect h w (turned p)
    rw [turned_eq]
    exact turnedP_rect R
  | false => exact R
theorem seen_twice {t : Bool} {w h : Nat} {p : Picture} (R : Rc w h p) (w1 : 1 ≤ w) (h1 : 1 ≤ h) : seen t (seen t p) = p := by
  cases t with
  | true =>
    show turned (turned p) = p
    rw [turned_eq, turned_eq]
    exact turnedP_twice R w1 h1
  | false => rfl
/-! ### the house -/
/-- the sides when what is kept was taken out -/
def KeptOK : Nat → Nat → List Out_ → Prop
  | _, _, [] => True
  | w, h, o :: l => if o.turned = true then o.seam.length = w ∧ o.pixels.length = w ∧ h + 1 ≤ 16 ∧ KeptOK w (h + 1) l else o.seam.length = h ∧ o.pixels.length = h ∧ w + 1 ≤ 16 ∧ KeptOK (w + 1) h l
theorem KeptOK.take : ∀ {w h : Nat} {l : List Out_} (n : Nat), KeptOK w h l → KeptOK w h (l.take n)
  | _, _, _, 0, _ => by rw [List.take_zero]; trivial
  | _, _, [], _ + 1, _ => trivial
  | w, h, o :: l, n + 1, k => by
    show if o.turned = true then _ else _
    have k' : if o.turned = true then o.seam.length = w ∧ o.pixels.length = w ∧ h + 1 ≤ 16 ∧ KeptOK w (h + 1) l else o.seam.length = h ∧ o.pixels.length = h ∧ w + 1 ≤ 16 ∧ KeptOK (w + 1) h l := k
    cases ht : o.turned with
    | true =>
      rw [ht] at k'
      rw [if_pos rfl] at k' ⊢
      exact ⟨k'.1, k'.2.1, k'.2.2.1, k'.2.2.2.take n⟩
    | false =>
      rw [ht] at k'
      rw [if_neg Bool.false_ne_true] at k' ⊢
      exact ⟨k'.1, k'.2.1, k'.2.2.1, k'.2.2.2.take n⟩
structure WFs (w h : Nat) (g : House) : Prop where
  r : Rect w h g.p
  k : KeptOK w h g.gone
  l : g.gone.length ≤ 32
def WF (g : House) : Prop := ∃ w h, WFs w h g
/-! ### made narrower -/
theorem narrowN_front (p : Picture) : ∀ n, narrowN p (n + 1) = ((narrowN (without p (leastP p)) n).1, cost p 0 (leastP p) + (narrowN (without p (leastP p)) n).2.1, (leastP p, taken p (leastP p)) :: (narrowN (without p (leastP p)) n).2.2)
  | 0 => by
    show (without p (leastP p), 0 + cost p 0 (leastP p), [] ++ [(leastP p, taken p (leastP p))]) = (without p (leastP p), cost p 0 (leastP p) + 0, [(leastP p, taken p (leastP p))])
    rw [Int.zero_add, Int.add_zero]
    rfl
  | n + 1 => by
    show nstep (narrowN p (n + 1)) = _
    rw [narrowN_front p n]
    show (_, _, _) = ((nstep (narrowN (without p (leastP p)) n)).1, _, _)
    refine Prod.ext rfl (Prod.ext ?_ rfl)
    show cost p 0 (leastP p) + _ + _ = cost p 0 (leastP p) + (_ + _)
    rw [Int.add_assoc]
def mkOut (t : Bool) (q : List Nat × List Pixel) : Out_ := ⟨t, q.1, q.2⟩
theorem take_take_app {α : Type} (a b : List α) (k : Nat) : (a ++ b.take k).take k = (a ++ b).take k := by
  rw [List.take_append, List.take_append, List.take_take]
  congr 1
  congr 1
  omega
theorem narrowed_eq : ∀ (n : Nat) (t : Bool) (g : House) (w h : Nat), Rect w h (seen t g.p) → seen t (seen t g.p) = g.p → n < w → g.gone.length ≤ 32 →
    narrowed n t g = (⟨seen t (narrowN (seen t g.p) n).1, (((narrowN (seen t g.p) n).2.2.map (mkOut t)).reverse ++ g.gone).take 32⟩, (narrowN (seen t g.p) n).2.1)
  | 0, t, g, w, h, R, e, _, hl => by
    show ((g, 0) : House × Int) = ((⟨seen t (seen t g.p), ([] ++ g.gone).take 32⟩, 0) : House × Int)
    rw [e, List.nil_append, List.take_of_length_le hl]
  | n + 1, t, g, w, h, R, e, hn, hl => by
    have hls := leastP_len R
    have R2 : Rc (w - 1) h (without (seen t g.p) (leastP (seen t g.p))) := without_rc R.rc hls.1 hls.2
    have R3 : Rect (w - 1) h (without (seen t g.p) (leastP (seen t g.p))) := R2.rect (by omega) R.h1 (by have := R.w16; omega) R.h16
    have e2 : seen t (seen t (without (seen t g.p) (leastP (seen t g.p)))) = without (seen t g.p) (leastP (seen t g.p)) := seen_twice R2 (by omega) R.h1
    have ih := narrowed_eq n t ⟨seen t (without (seen t g.p) (leastP (seen t g.p))), (⟨t, leastP (seen t g.p), taken (seen t g.p) (leastP (seen t g.p))⟩ :: g.gone).take KEPT⟩ (w - 1) h (by show Rect (w - 1) h (seen t (seen t _)); rw [e2]; exact R3) (by show seen t (seen t (seen t _)) = _; rw [e2]) (by omega) (by show (List.take 32 _).length ≤ 32; rw [List.length_take]; omega)
    show (match least (seen t g.p) with
      | none => ((g, 0) : House × Int)
      | some s => ((narrowed n t (⟨seen t (without (seen t g.p) s), ((⟨t, s, taken (seen t g.p) s⟩ : Out_) :: g.gone).take KEPT⟩ : House)).1, cost (seen t g.p) 0 s + (narrowed n t (⟨seen t (without (seen t g.p) s), ((⟨t, s, taken (seen t g.p) s⟩ : Out_) :: g.gone).take KEPT⟩ : House)).2)) = _
    rw [least_leastP R]
    dsimp only
    rw [ih, e2, narrowN_front]
    refine Prod.ext ?_ rfl
    show House.mk _ _ = House.mk _ _
    congr 1
    show (((narrowN (without (seen t g.p) (leastP (seen t g.p))) n).2.2.map (mkOut t)).reverse ++ (⟨t, leastP (seen t g.p), taken (seen t g.p) (leastP (seen t g.p))⟩ :: g.gone).take 32).take 32 = _
    rw [take_take_app, List.map_cons, List.reverse_cons, List.append_assoc]
    rfl
theorem taken_len {w h : Nat} {p : Picture} {s : List Nat} (R : Rc w h p) (hs : s.length = h) : (taken p s).length = h := by
  unfold taken
  rw [List.length_map, List.length_zip, R.hh, hs, Nat.min_self]
theorem narrowed_wf : ∀ (n : Nat) (t : Bool) (g : House) (w h : Nat), WFs w h g → n < swapW t w h → WFs (if t = true then w else w - n) (if t = true then h - n else h) (narrowed n t g).1
  | 0, t, g, w, h, F, _ => by
    cases t <;> exact F
  | n + 1, t, g, w, h, F, hn => by
    have R := seen_rect (t := t) F.r
    have hls := leastP_len R
    have R2 := without_rc R.rc hls.1 hls.2
    have htk := taken_len R.rc hls.1
    have h1 := F.r.h1
    have w1 := F.r.w1
    have w16 := F.r.w16
    have h16 := F.r.h16
    show WFs _ _ (match least (seen t g.p) with
      | none => ((g, 0) : House × Int)
      | some s => ((narrowed n t (⟨seen t (without (seen t g.p) s), ((⟨t, s, taken (seen t g.p) s⟩ : Out_) :: g.gone).take KEPT⟩ : House)).1, cost (seen t g.p) 0 s + (narrowed n t (⟨seen t (without (seen t g.p) s), ((⟨t, s, taken (seen t g.p) s⟩ : Out_) :: g.gone).take KEPT⟩ : House)).2)).1
    rw [least_leastP R]
    dsimp only
    cases t with
    | true =>
      have hn : n + 1 < h := hn
      have R2 : Rc (h - 1) w (without (seen true g.p) (leastP (seen true g.p))) := R2
      have htk : (taken (seen true g.p) (leastP (seen true g.p))).length = w := htk
      have hls1 : (leastP (seen true g.p)).length = w := hls.1
      have F2 : WFs w (h - 1) ⟨seen true (without (seen true g.p) (leastP (seen true g.p))), (⟨true, leastP (seen true g.p), taken (seen true g.p) (leastP (seen true g.p))⟩ :: g.gone).take KEPT⟩ := by
        refine ⟨?_, ?_, by show (List.take 32 _).length ≤ 32; rw [List.length_take]; omega⟩
        · exact (seen_rc (t := true) R2 w1).rect w1 (by show 1 ≤ h - 1; omega) w16 (by show h - 1 ≤ 16; omega)
        · refine KeptOK.take 32 ?_
          show if true = true then _ else _
          rw [if_pos rfl]
          refine ⟨hls1, htk, by omega, ?_⟩
          rw [show h - 1 + 1 = h by omega]
          exact F.k
      have ih := narrowed_wf n true _ w (h - 1) F2 (by show n < h - 1; omega)
      rw [if_pos rfl, if_pos rfl] at ih ⊢
      rw [show h - 1 - n = h - (n + 1) by omega] at ih
      exact ih
    | false =>
      have hn : n + 1 < w := hn
      have R2 : Rc (w - 1) h (without (seen false g.p) (leastP (seen false g.p))) := R2
      have htk : (taken (seen false g.p) (leastP (seen false g.p))).length = h := htk
      have hls1 : (leastP (seen false g.p)).length = h := hls.1
      have F2 : WFs (w - 1) h ⟨seen false (without (seen false g.p) (leastP (seen false g.p))), (⟨false, leastP (seen false g.p), taken (seen false g.p) (leastP (seen false g.p))⟩ :: g.gone).take KEPT⟩ := by
        refine ⟨?_, ?_, by show (List.take 32 _).length ≤ 32; rw [List.length_take]; omega⟩
        · exact R2.rect (by omega) h1 (by omega) h16
        · refine KeptOK.take 32 ?_
          show if false = true then _ else _
          rw [if_neg Bool.false_ne_true]
          refine ⟨hls1, htk, by omega, ?_⟩
          rw [show w - 1 + 1 = w by omega]
          exact F.k
      have ih := narrowed_wf n false _ (w - 1) h F2 (by show n < w - 1; omega)
      rw [if_neg Bool.false_ne_true, if_neg Bool.false_ne_true] at ih ⊢
      rw [show w - 1 - n = w - (n + 1) by omega] at ih
      exact ih
/-! ### put back -/
theorem again_rc {w h : Nat} {p : Picture} {s : List Nat} {l : List Pixel} (R : Rc w h p) (hs : s.length = h) (hl : l.length = h) : Rc (w + 1) h (again p s l) := by
  unfold again
  refine ⟨by rw [List.length_map, List.length_zip, List.length_zip, R.hh, hs, hl, Nat.min_self, Nat.min_self], fun r hr => ?_⟩
  obtain ⟨⟨a, n, x⟩, hm, rfl⟩ := List.mem_map.mp hr
  have h1 := R.ww a (List.of_mem_zip hm).1
  show (a.take n ++ x :: a.drop n).length = w + 1
  rw [List.length_append, List.length_cons, List.length_take, List.length_drop]
  omega
theorem back_wf {w h : Nat} {g : House} {o : Out_} {l : List Out_} (F : WFs w h g) (e : g.gone = o :: l) : WF ⟨seen o.turned (again (seen o.turned g.p) o.seam o.pixels), l⟩ := by
  have R := seen_rect (t := o.turned) F.r
  have k := F.k
  have hl := F.l
  rw [e] at k hl
  have hl : l.length + 1 ≤ 32 := hl
  have k' : if o.turned = true then o.seam.length = w ∧ o.pixels.length = w ∧ h + 1 ≤ 16 ∧ KeptOK w (h + 1) l else o.seam.length = h ∧ o.pixels.length = h ∧ w + 1 ≤ 16 ∧ KeptOK (w + 1) h l := k
  have h1 := F.r.h1
  have w1 := F.r.w1
  have w16 := F.r.w16
  have h16 := F.r.h16
  cases ht : o.turned with
  | true =>
    rw [ht, if_pos rfl] at k'
    rw [ht] at R
    have R2 : Rc (h + 1) w (again (seen true g.p) o.seam o.pixels) := again_rc R.rc k'.1 k'.2.1
    exact ⟨w, h + 1, (seen_rc (t := true) R2 w1).rect w1 (by show 1 ≤ h + 1; omega) w16 k'.2.2.1, k'.2.2.2, by show l.length ≤ 32; omega⟩
  | false =>
    rw [ht, if_neg Bool.false_ne_true] at k'
    rw [ht] at R
    have R2 : Rc (w + 1) h (again (seen false g.p) o.seam o.pixels) := again_rc R.rc k'.1 k'.2.1
    exact ⟨w + 1, h, R2.rect (by omega) h1 k'.2.2.1 h16, k'.2.2.2, by show l.length ≤ 32; omega⟩
/-! ### weights -/
theorem weigh_eq (p : Picture) (x y w h : Nat) (wt : Int) : ((List.range p.length).zip p).map (fun r => ((List.range r.2.length).zip r.2).map fun c => if x ≤ c.1 ∧ c.1 < x + w ∧ y ≤ r.1 ∧ r.1 < y + h then { c.2 with weight := wt } else c.2) = weighedP p x y w h wt := by
  unfold weighedP
  refine List.map_congr_left fun r _ => ?_
  by_cases hc : y ≤ r.1 ∧ r.1 < y + h
  · rw [if_pos hc]
    unfold weighedRowP
    refine List.map_congr_left fun c _ => ?_
    by_cases hd : x ≤ c.1 ∧ c.1 < x + w
    · rw [if_pos ⟨hd.1, hd.2, hc.1, hc.2⟩, if_pos hd]
    · rw [if_neg (fun z => hd ⟨z.1, z.2.1⟩), if_neg hd]
  · rw [if_neg hc]
    have e : ((List.range r.2.length).zip r.2).map (fun c => if x ≤ c.1 ∧ c.1 < x + w ∧ y ≤ r.1 ∧ r.1 < y + h then { c.2 with weight := wt } else c.2) = ((List.range r.2.length).zip r.2).map Prod.snd := by
      refine List.map_congr_left fun c _ => ?_
      rw [if_neg (fun z => hc ⟨z.2.2.1, z.2.2.2⟩)]
    rw [e, List.map_snd_zip]
    rw [List.length_range]
    exact Nat.le_refl _
theorem weighed_rc {w h : Nat} {p : Picture} (R : Rc w h p) (x y a b : Nat) (wt : Int) : Rc w h (weighedP p x y a b wt) := by
  unfold weighedP
  refine ⟨by rw [List.length_map, List.length_zip, List.length_range, Nat.min_self, R.hh], fun r hr => ?_⟩
  obtain ⟨⟨i, q⟩, hm, rfl⟩ := List.mem_map.mp hr
  have hq := R.ww q (List.of_mem_zip hm).2
  show (if y ≤ i ∧ i < y + b then weighedRowP q x a wt else q).length = w
  by_cases hc : y ≤ i ∧ i < y + b
  · rw [if_pos hc]
    unfold weighedRowP
    rw [List.length_map, List.length_zip, List.length_range, Nat.min_self, hq]
  · rw [if_neg hc, hq]
/-! ### a new picture -/
theorem rows_eq (w : Nat) : ∀ (h : Nat) (l : List Nat), rowsOf w h l = rowsP w h l
  | 0, l => rfl
  | h + 1, l => by
    show ((l.take w).map fun c => (⟨c, 0⟩ : Pixel)) :: rowsOf w h (l.drop w) = _
    rw [rows_eq w h]
    unfold rowsP
    rw [List.range_succ_eq_map, List.map_cons, List.map_map]
    congr 1
    · rw [Nat.zero_mul, List.drop_zero, List.map_take]
    · refine List.map_congr_left fun i _ => ?_
      show (((l.drop w).map fun c => (⟨c, 0⟩ : Pixel)).drop (i * w)).take w = ((l.map fun c => (⟨c, 0⟩ : Pixel)).drop ((i + 1) * w)).take w
      rw [List.map_drop, List.drop_drop, Nat.succ_mul, Nat.add_comm w]
theorem rowsP_rc {w h : Nat} {l : List Nat} (hl : l.length = w * h) : Rc w h (rowsP w h l) := by
  unfold rowsP
  refine ⟨by rw [List.length_map, List.length_range], fun r hr => ?_⟩
  obtain ⟨i, hi, rfl⟩ := List.mem_map.mp hr
  have hi := List.mem_range.mp hi
  rw [List.length_take, List.length_drop, List.length_map, hl]
  have : i * w + w ≤ w * h := by
    rw [← Nat.succ_mul, Nat.mul_comm w h]
    exact Nat.mul_le_mul_right w hi
  omega
/-! ### made wider -/
/-- the places, from the front -/
def placesGo : List Nat → List (List Nat) → Nat → List Nat
  | _, [], _ => []
  | left, s :: ss, y => (left[(s[y]?).getD 0]?).getD 0 :: placesGo (left.eraseIdx ((s[y]?).getD 0)) ss y
theorem places_go (y : Nat) : ∀ (ss : List (List Nat)) (left acc : List Nat), (ss.foldl (pstep y) (left, acc)).2 = acc ++ placesGo left ss y
  | [], left, acc => by
    show acc = acc ++ []
    rw [List.append_nil]
  | s :: ss, left, acc => by
    rw [List.foldl_cons]
    show (ss.foldl (pstep y) (left.eraseIdx ((s[y]?).getD 0), acc ++ [(left[(s[y]?).getD 0]?).getD 0])).2 = _
    rw [places_go y ss, List.append_assoc]
    rfl
theorem placesN_go (w : Nat) (ss : List (List Nat)) (y : Nat) : (placesN w ss y).2 = placesGo (List.range w) ss y := by
  unfold placesN
  rw [places_go, List.nil_append]
theorem many_go {h y : Nat} (hy : y < h) : ∀ (n : Nat) (w : Nat) (p : Picture) (ids : List (List Nat)), Rc w h p → 1 ≤ h → h ≤ 16 → w ≤ 16 → n ≤ w → ids.length = h →
    (many n p ids).map (fun s => (s[y]?).getD 0) = placesGo ((ids[y]?).getD []) ((narrowN p n).2.2.map fun q => q.1) y
  | 0, w, p, ids, R, h1, h16, w16, hn, hi => rfl
  | n + 1, w, p, ids, R, h1, h16, w16, hn, hi => by
    have R' : Rect w h p := R.rect (by omega) h1 w16 h16
    have hls := leastP_len R'
    have R2 := without_rc R hls.1 hls.2
    have hy1 : y < ids.length := by omega
    have hy2 : y < (leastP p).length := by omega
    have hz : ids.zip (leastP p) = ids.zip (leastP p) := rfl
    have ez : (ids.zip (leastP p))[y]? = some (ids[y], (leastP p)[y]) := by
      have := List.getElem?_zip_eq_some (l₁ := ids) (l₂ := leastP p) (z := (ids[y], (leastP p)[y])) (i := y)
      exact this.mpr ⟨List.getElem?_eq_getElem hy1, List.getElem?_eq_getElem hy2⟩
    have ih := many_go hy n (w - 1) (without p (leastP p)) ((ids.zip (leastP p)).map fun r => r.1.eraseIdx r.2) R2 h1 h16 (by omega) (by omega) (by rw [List.length_map, List.length_zip, hi, hls.1, Nat.min_self])
    show (match least p with
      | none => ([] : List Seam)
      | some s => ((ids.zip s).map fun (r : List Nat × Nat) => (r.1[r.2]?).getD 0) :: many n (without p s) ((ids.zip s).map fun (r : List Nat × Nat) => r.1.eraseIdx r.2)).map _ = _
    rw [least_leastP R']
    dsimp only
    rw [List.map_cons, ih, narrowN_front, List.map_cons]
    show _ :: _ = ((((ids[y]?).getD [])[((leastP p)[y]?).getD 0]?).getD 0) :: placesGo (((ids[y]?).getD []).eraseIdx (((leastP p)[y]?).getD 0)) _ y
    rw [List.getElem?_map, ez, List.getElem?_map, ez, List.getElem?_eq_getElem hy1, List.getElem?_eq_getElem hy2]
    rfl
theorem wider_eq {w h n : Nat} {p : Picture} (R : Rect w h p) (hn : n ≤ w) : Sq46.wider p n = widenP p n := by
  unfold Sq46.wider widenP
  refine List.map_congr_left fun r hr => ?_
  obtain ⟨y, r⟩ := r
  have hm := List.of_mem_zip hr
  have hy : y < h := by
    have := List.mem_range.mp hm.1
    rw [R.hh] at this
    exact this
  have hrl : r.length = w := R.ww r hm.2
  have hp : p[y]? = some r := by
    obtain ⟨i, hi⟩ := List.mem_iff_getElem?.mp hr
    obtain ⟨a, b⟩ := List.getElem?_zip_eq_some.mp hi
    have hil : i < p.length := (List.getElem?_eq_some_iff.mp b).1
    rw [List.getElem?_range hil] at a
    obtain rfl := Option.some.inj a
    exact b
  have e1 := many_go hy n w p (numbers p) R.rc R.h1 R.h16 R.w16 hn (by unfold numbers; rw [List.length_map, R.hh])
  have e2 : ((numbers p)[y]?).getD [] = List.range w := by
    unfold numbers
    rw [List.getElem?_map, hp]
    show List.range r.length = _
    rw [hrl]
  rw [e2] at e1
  dsimp only
  rw [hrl, placesN_go, ← e1]
  unfold widenRowP
  rw [hrl]
  have hfm : ∀ (l : List (Nat × Pixel)) (f g : Nat × Pixel → List Pixel), (∀ c ∈ l, f c = g c) → l.flatMap f = l.flatMap g := fun l f g hfg => by
    induction l with
    | nil => rfl
    | cons c l ih =>
      rw [List.flatMap_cons, List.flatMap_cons, hfg c List.mem_cons_self, ih fun c hc => hfg c (List.mem_cons_of_mem _ hc)]
  refine hfm _ _ _ fun c hc => ?_
  obtain ⟨x, px⟩ := c
  have hx : r[x]? = some px ∧ x < r.length := by
    obtain ⟨i, hi⟩ := List.mem_iff_getElem?.mp hc
    obtain ⟨a, b⟩ := List.getElem?_zip_eq_some.mp hi
    have hil : i < r.length := (List.getElem?_eq_some_iff.mp b).1
    rw [List.getElem?_range (by omega)] at a
    obtain rfl := Option.some.inj a
    exact ⟨b, hil⟩
  dsimp only
  have e3 : besideP r x = ⟨(px.colour + ((r[x + 1]?).getD px).colour) / 2, 0⟩ := by
    unfold besideP
    rw [hx.1]
    rcases Nat.lt_or_ge (x + 1) r.length with z | z
    · rw [show min (x + 1) (r.length - 1) = x + 1 by omega, List.getElem?_eq_getElem z]
      rfl
    · rw [show min (x + 1) (r.length - 1) = x by omega, hx.1, List.getElem?_eq_none z]
      rfl
  rw [e3]
theorem erase_perm : ∀ {l : List Nat} {x : Nat}, x < l.length → List.Perm ((l[x]?).getD 0 :: l.eraseIdx x) l
  | [], _, h => absurd h (Nat.not_lt_zero _)
  | a :: l, 0, _ => List.Perm.refl _
  | a :: l, x + 1, h => by
    show List.Perm ((l[x]?).getD 0 :: a :: l.eraseIdx x) (a :: l)
    exact (List.Perm.swap a _ _).trans ((erase_perm (l := l) (x := x) (Nat.lt_of_succ_lt_succ h)).cons a)
theorem placesN_perm {w y : Nat} {ss : List (List Nat)} (T : Taken w ss y) : ∀ i, i ≤ ss.length → List.Perm ((placesN w (ss.take i) y).1 ++ (placesN w (ss.take i) y).2) (List.range w)
  | 0, _ => by
    show List.Perm (List.range w ++ []) _
    rw [List.append_nil]
  | i + 1, hi => by
    have ih := placesN_perm T i (by omega)
    have hl := placesN_len T i (by omega)
    obtain ⟨s, hs⟩ : ∃ s, ss[i]? = some s := ⟨ss[i], List.getElem?_eq_getElem (by omega)⟩
    obtain ⟨x, h1, h2⟩ := T i s hs
    rw [List.take_add_one, hs]
    show List.Perm ((placesN w (ss.take i ++ [s]) y).1 ++ (placesN w (ss.take i ++ [s]) y).2) _
    rw [placesN_snoc]
    unfold pstep
    rw [h1]
    show List.Perm ((placesN w (ss.take i) y).1.eraseIdx x ++ ((placesN w (ss.take i) y).2 ++ [((placesN w (ss.take i) y).1[x]?).getD 0])) _
    have hp := erase_perm (l := (placesN w (ss.take i) y).1) (x := x) (by omega)
    refine List.Perm.trans ?_ ih
    rw [← List.append_assoc]
    refine List.Perm.trans (List.perm_append_comm) ?_
    rw [List.singleton_append, ← List.cons_append]
    exact hp.append_right _
theorem filter_found {left found l : List Nat} (hp : List.Perm (left ++ found) l) (hn : l.Nodup) : (l.filter fun i => found.contains i).length = found.length := by
  have hn2 : (left ++ found).Nodup := hp.nodup_iff.mpr hn
  have h1 := (hp.filter (fun i => found.contains i)).length_eq
  rw [← h1, List.filter_append, List.length_append]
  have h2 : left.filter (fun i => found.contains i) = [] := by
    refine List.filter_eq_nil_iff.mpr fun a ha hc => ?_
    have hm : a ∈ found := List.contains_iff_mem.mp hc
    exact (List.nodup_append.mp hn2).2.2 a ha a hm rfl
  have h3 : found.filter (fun i => found.contains i) = found := by
    refine List.filter_eq_self.mpr fun a ha => ?_
    exact List.contains_iff_mem.mpr ha
  rw [h2, h3]
  show 0 + found.length = found.length
  omega
theorem widen_len (r : List Pixel) (places : List Nat) : (widenRowP r places).length = r.length + ((List.range r.length).filter fun i => places.contains i).length := by
  unfold widenRowP
  have key : ∀ (m : List (Nat × Pixel)), (m.flatMap fun c => if places.contains c.1 = true then [c.2, besideP r c.1] else [c.2]).length = m.length + ((m.map Prod.fst).filter fun i => places.contains i).length := fun m => by
    induction m with
    | nil => rfl
    | cons c m ih =>
      rw [List.flatMap_cons, List.length_append, ih, List.map_cons, List.filter_cons, List.length_cons]
      by_cases hc : places.contains c.1 = true
      · rw [if_pos hc, if_pos hc]
        simp only [List.length_cons, List.length_nil]
        omega
      · rw [if_neg hc, if_neg hc]
        simp only [List.length_cons, List.length_nil]
        omega
  rw [key, List.length_zip, List.length_range, Nat.min_self, List.map_fst_zip (by rw [List.length_range]; exact Nat.le_refl _)]
theorem widenP_rc {w h n : Nat} {p : Picture} (R : Rect w h p) (hn : n ≤ w) : Rc (w + n) h (widenP p n) := by
  have ho := narrowN_out R n hn
  unfold widenP
  refine ⟨by rw [List.length_map, List.length_zip, List.length_range, Nat.min_self, R.hh], fun r' hr => ?_⟩
  obtain ⟨⟨y, r⟩, hm, rfl⟩ := List.mem_map.mp hr
  have hm := List.of_mem_zip hm
  have hy : y < h := by
    have := List.mem_range.mp hm.1
    rw [R.hh] at this
    exact this
  have hrl : r.length = w := R.ww r hm.2
  have T : Taken w ((narrowN p n).2.2.map fun q => q.1) y := fun i sm hsm => by
    rw [List.getElem?_map] at hsm
    cases hq : (narrowN p n).2.2[i]? with
    | none =>
      rw [hq] at hsm
      cases hsm
    | some q =>
      rw [hq] at hsm
      obtain rfl := Option.some.inj hsm
      have ho2 := ho.2 i q hq
      have hl2 : y < q.1.length := by rw [ho2.1]; exact hy
      exact ⟨q.1[y], List.getElem?_eq_getElem hl2, ho2.2.2 _ (List.getElem_mem hl2)⟩
  have hlen : ((narrowN p n).2.2.map fun q => q.1).length = n := by rw [List.length_map, ho.1]
  have hP := placesN_perm T _ (Nat.le_refl _)
  have hL := placesN_len T _ (Nat.le_refl _)
  rw [List.take_length] at hP hL
  show (widenRowP r (placesN r.length ((narrowN p n).2.2.map fun q => q.1) y).2).length = w + n
  rw [widen_len, hrl, filter_found hP List.nodup_range, hL.2, hlen]
end LS
/-! Plain mathematics: the calls in one list of numbers. -/
namespace LS
open Sq46
def isBegin (n l : List Nat) (c : Sq46.Call) : Prop := ∃ w h, n = [w, h] ∧ c = .begin_ w h l
def isWeigh (n _l : List Nat) (c : Sq46.Call) : Prop := ∃ x y w h a b, n = [x, y, w, h, a, b] ∧ c = .weigh x y w h a b
def isGoing (n _l : List Nat) (c : Sq46.Call) : Prop := ∃ x y, n = [x, y] ∧ c = .going x y
def isSeam (n _l : List Nat) (c : Sq46.Call) : Prop := ∃ t, n = [t] ∧ c = .seam t
def isNarrow (n _l : List Nat) (c : Sq46.Call) : Prop := ∃ t m, n = [t, m] ∧ c = .narrow t m
def isBack (n _l : List Nat) (c : Sq46.Call) : Prop := n = [] ∧ c = .back
def isWider (n _l : List Nat) (c : Sq46.Call) : Prop := ∃ t m, n = [t, m] ∧ c = .wider t m
def isRow (n _l : List Nat) (c : Sq46.Call) : Prop := ∃ y, n = [y] ∧ c = .row y
def isSize (n _l : List Nat) (c : Sq46.Call) : Prop := n = [] ∧ c = .size
/-- by a call's number less 1 -/
def isJ : List (List Nat → List Nat → Sq46.Call → Prop) := [isBegin, isWeigh, isGoing, isSeam, isNarrow, isBack, isWider, isRow, isSize]
/-- how many whole numbers a call has -/
def manyN : List Nat := [2, 6, 2, 1, 2, 0, 2, 1, 0]
def toI (l : List Nat) : List Int := l.map fun n => ((n : Nat) : Int)
/-- p, then r: a call, then t -/
structure CallIs (p : Int) (r t : List Int) (j : Nat) (ns rw : List Nat) : Prop where
  hp : p = (j : Int) + 1
  len : manyN[j]? = some ns.length
  txt : (j = 0 ∧ r = toI ns ++ ((rw.length : Int) :: (toI rw ++ t))) ∨ (j ≠ 0 ∧ rw = [] ∧ r = toI ns ++ t)
theorem toI_nat {l : List Int} (h : ∀ z ∈ l, 0 ≤ z) : toI (l.map Int.toNat) = l := by
  unfold toI
  rw [List.map_map]
  conv => rhs; rw [← List.map_id l]
  refine List.map_congr_left fun z hz => ?_
  have := h z hz
  show ((z.toNat : Nat) : Int) = z
  omega
theorem within_nonneg {hi z : Int} (h : PyInside.within 0 hi z = true) : 0 ≤ z := by
  unfold PyInside.within at h
  simp at h
  exact h.1
theorem each_nonneg : ∀ (b : List (Int × Int)) (xs : List Int), (∀ q ∈ b, q.1 = 0) → xs.length ≤ b.length → PyInside.each b xs = true → ∀ z ∈ xs, 0 ≤ z
  | _, [], _, _, _, z, hz => nomatch hz
  | [], _ :: _, _, h, _, z, hz => absurd h (by simp)
  | (lo, hi) :: b, x :: xs, h0, hl, h, z, hz => by
    have hlo : lo = 0 := h0 (lo, hi) List.mem_cons_self
    subst hlo
    have h : (PyInside.within 0 hi x && PyInside.each b xs) = true := h
    obtain ⟨h1, h2⟩ := Bool.and_eq_true_iff.mp h
    rcases List.mem_cons.mp hz with rfl | hz
    · exact within_nonneg h1
    · exact each_nonneg b xs (fun q hq => h0 q (List.mem_cons_of_mem _ hq)) (by simpa using hl) h2 z hz
/-- a call without a list -/
theorem parse_plain {p : Int} {n : Nat} {r t : List Int} {c : List (List Int)} (hsh : PySq46.shape p = some (n, 0)) (h : PyFlat.call PySq46.shape (p :: r) = some (c, t)) : n ≤ r.length ∧ c = [p :: r.take n] ∧ t = r.drop n := by
  have h : (match PySq46.shape p with
    | none => none
    | some (n, k) => if r.length < n then none else match PyFlat.rows k (r.drop n) with
      | none => none
      | some (xs, t) => some ((p :: r.take n) :: xs, t)) = some (c, t) := h
  rw [hsh] at h
  dsimp only at h
  by_cases hc : r.length < n
  · rw [if_pos hc] at h
    cases h
  · rw [if_neg hc] at h
    have h : some ([p :: r.take n], r.drop n) = some (c, t) := h
    have e := Option.some.inj h
    exact ⟨by omega, (congrArg Prod.fst e).symm, (congrArg Prod.snd e).symm⟩
theorem plain_is {p : Int} {n j : Nat} {r t : List Int} {c : List (List Int)} (hp : p = (j : Int) + 1) (hj : j ≠ 0) (hm : manyN[j]? = some n) (hsh : PySq46.shape p = some (n, 0)) (h : PyFlat.call PySq46.shape (p :: r) = some (c, t)) (hb : PyInside.call PySq46.bound c = true)
    (hz : ∀ q ∈ (PySq46.bound p).1, q.1 = 0) (hl : (PySq46.bound p).1.length = n) : CallIs p r t j ((r.take n).map Int.toNat) [] ∧ c = [p :: r.take n] ∧ toI ((r.take n).map Int.toNat) = r.take n := by
  obtain ⟨h1, h2, h3⟩ := parse_plain hsh h
  subst h2
  have hb : (PyInside.each (PySq46.bound p).1 (r.take n) && PyInside.lists (PySq46.bound p).2 []) = true := hb
  have hn := each_nonneg _ _ hz (by rw [List.length_take, hl]; exact Nat.min_le_left _ _) (Bool.and_eq_true_iff.mp hb).1
  have ht := toI_nat hn
  refine ⟨⟨hp, by rw [hm, List.length_map, List.length_take, Nat.min_eq_left h1], Or.inr ⟨hj, rfl, ?_⟩⟩, rfl, ht⟩
  rw [ht, h3, List.take_append_drop]
theorem list2 {l : List Int} (h : 2 ≤ l.length) : ∃ a b, l.take 2 = [a, b] := by
  match l, h with
  | a :: b :: l, _ => exact ⟨a, b, rfl⟩
theorem list1 {l : List Int} (h : 1 ≤ l.length) : ∃ a, l.take 1 = [a] := by
  match l, h with
  | a :: l, _ => exact ⟨a, rfl⟩
theorem list6 {l : List Int} (h : 6 ≤ l.length) : ∃ a b c d e f, l.take 6 = [a, b, c, d, e, f] := by
  match l, h with
  | a :: b :: c :: d :: e :: f :: l, _ => exact ⟨a, b, c, d, e, f, rfl⟩
/-- what a call in the list is -/
theorem parse_is {p : Int} {r t : List Int} {c : List (List Int)} (h : PyFlat.call PySq46.shape (p :: r) = some (c, t)) (hb : PyInside.call PySq46.bound c = true) :
    ∃ j ns rw Is k, CallIs p r t j ns rw ∧ isJ[j]? = some Is ∧ Is ns rw k ∧ Sq46Neutral.callOf (PySq46.whole c) = some k := by
  by_cases h1 : p = 1
  · subst h1
    have h : (if r.length < 2 then none else match PyFlat.rows 1 (r.drop 2) with
      | none => none
      | some (xs, t) => some (((1 : Int) :: r.take 2) :: xs, t)) = some (c, t) := h
    by_cases hc : r.length < 2
    · rw [if_pos hc] at h
      cases h
    · rw [if_neg hc] at h
      obtain ⟨a, b, r', rfl⟩ : ∃ a b r', r = a :: b :: r' := by
        match r, hc with
        | a :: b :: r', _ => exact ⟨a, b, r', rfl⟩
        | [z], hc => exact absurd (show ([z] : List Int).length < 2 by simp) hc
        | [], hc => exact absurd (show ([] : List Int).length < 2 by simp) hc
      have h : (match PyFlat.rows 1 r' with
        | none => none
        | some (xs, t) => some (([1, a, b] : List Int) :: xs, t)) = some (c, t) := h
      cases r' with
      | nil => cases h
      | cons n q =>
        have hrow : PyFlat.rows 1 (n :: q) = match (if 0 ≤ n ∧ n.toNat ≤ q.length then some (q.take n.toNat, q.drop n.toNat) else none) with
          | none => none
          | some (x, s) => some ([x], s) := rfl
        rw [hrow] at h
        by_cases hn : 0 ≤ n ∧ n.toNat ≤ q.length
        · rw [if_pos hn] at h
          have h : some ([[1, a, b], q.take n.toNat], q.drop n.toNat) = some (c, t) := h
          have e := Option.some.inj h
          have ec : c = [[1, a, b], q.take n.toNat] := (congrArg Prod.fst e).symm
          have et : t = q.drop n.toNat := (congrArg Prod.snd e).symm
          subst ec
          have hb : (PyInside.each [(0, 18446744073709551615), (0, 18446744073709551615)] [a, b] && PyInside.lists [(0, 18446744073709551615, 0, 1024)] [q.take n.toNat]) = true := hb
          obtain ⟨hb1, hb2⟩ := Bool.and_eq_true_iff.mp hb
          have hab := each_nonneg [(0, 18446744073709551615), (0, 18446744073709551615)] [a, b] (fun q hq => by
            rcases List.mem_cons.mp hq with rfl | hq
            · rfl
            · rw [List.mem_singleton.mp hq]) (by show (2 : Nat) ≤ 2; exact Nat.le_refl 2) hb1
          have ha := hab a List.mem_cons_self
          have hbb := hab b (List.mem_cons_of_mem _ List.mem_cons_self)
          have hb2 : (decide (0 ≤ (q.take n.toNat).length) && decide ((q.take n.toNat).length ≤ 1024) && (q.take n.toNat).all (PyInside.within 0 18446744073709551615) && true) = true := hb2
          simp only [Bool.and_true, Bool.and_eq_true] at hb2
          have hq : ∀ z ∈ q.take n.toNat, 0 ≤ z := fun z hz => within_nonneg (List.all_eq_true.mp hb2.2 z hz)
          have ht := toI_nat hq
          have hlen : (q.take n.toNat).length = n.toNat := by rw [List.length_take, Nat.min_eq_left hn.2]
          refine ⟨0, [a.toNat, b.toNat], (q.take n.toNat).map Int.toNat, isBegin, .begin_ a.toNat b.toNat ((q.take n.toNat).map Int.toNat), ⟨rfl, rfl, Or.inl ⟨rfl, ?_⟩⟩, rfl, ⟨a.toNat, b.toNat, rfl, rfl⟩, rfl⟩
          show a :: b :: n :: q = ((a.toNat : Nat) : Int) :: ((b.toNat : Nat) : Int) :: ((((q.take n.toNat).map Int.toNat).length : Nat) : Int) :: (toI ((q.take n.toNat).map Int.toNat) ++ t)
          rw [ht, et, List.take_append_drop, List.length_map, hlen, Int.toNat_of_nonneg ha, Int.toNat_of_nonneg hbb, Int.toNat_of_nonneg hn.1]
        · rw [if_neg hn] at h
          cases h
  by_cases h2 : p = 2
  · subst h2
    obtain ⟨k1, k2, k3⟩ := plain_is (j := 1) (n := 6) rfl (by decide) rfl rfl h hb (fun q hq => by
      simp only [PySq46.bound] at hq
      simp at hq
      rw [hq]) rfl
    obtain ⟨g1, g2, g3⟩ := parse_plain (n := 6) rfl h
    obtain ⟨a1, a2, a3, a4, a5, a6, e⟩ := list6 g1
    rw [e] at k1 k2
    subst k2
    exact ⟨1, _, [], isWeigh, .weigh a1.toNat a2.toNat a3.toNat a4.toNat a5.toNat a6.toNat, k1, rfl, ⟨_, _, _, _, _, _, rfl, rfl⟩, rfl⟩
  by_cases h3 : p = 3
  · subst h3
    obtain ⟨k1, k2, k3⟩ := plain_is (j := 2) (n := 2) rfl (by decide) rfl rfl h hb (fun q hq => by
      simp only [PySq46.bound] at hq
      simp at hq
      rw [hq]) rfl
    obtain ⟨g1, g2, g3⟩ := parse_plain (n := 2) rfl h
    obtain ⟨a1, a2, e⟩ := list2 g1
    rw [e] at k1 k2
    subst k2
    exact ⟨2, _, [], isGoing, .going a1.toNat a2.toNat, k1, rfl, ⟨_, _, rfl, rfl⟩, rfl⟩
  by_cases h4 : p = 4
  · subst h4
    obtain ⟨k1, k2, k3⟩ := plain_is (j := 3) (n := 1) rfl (by decide) rfl rfl h hb (fun q hq => by
      simp only [PySq46.bound] at hq
      simp at hq
      rw [hq]) rfl
    obtain ⟨g1, g2, g3⟩ := parse_plain (n := 1) rfl h
    obtain ⟨a1, e⟩ := list1 g1
    rw [e] at k1 k2
    subst k2
    exact ⟨3, _, [], isSeam, .seam a1.toNat, k1, rfl, ⟨_, rfl, rfl⟩, rfl⟩
  by_cases h5 : p = 5
  · subst h5
    obtain ⟨k1, k2, k3⟩ := plain_is (j := 4) (n := 2) rfl (by decide) rfl rfl h hb (fun q hq => by
      simp only [PySq46.bound] at hq
      simp at hq
      rw [hq]) rfl
    obtain ⟨g1, g2, g3⟩ := parse_plain (n := 2) rfl h
    obtain ⟨a1, a2, e⟩ := list2 g1
    rw [e] at k1 k2
    subst k2
    exact ⟨4, _, [], isNarrow, .narrow a1.toNat a2.toNat, k1, rfl, ⟨_, _, rfl, rfl⟩, rfl⟩
  by_cases h6 : p = 6
  · subst h6
    obtain ⟨k1, k2, k3⟩ := plain_is (j := 5) (n := 0) rfl (by decide) rfl rfl h hb (fun q hq => by
      simp only [PySq46.bound] at hq
      simp at hq) rfl
    rw [List.take_zero] at k1 k2
    subst k2
    exact ⟨5, _, [], isBack, .back, k1, rfl, ⟨rfl, rfl⟩, rfl⟩
  by_cases h7 : p = 7
  · subst h7
    obtain ⟨k1, k2, k3⟩ := plain_is (j := 6) (n := 2) rfl (by decide) rfl rfl h hb (fun q hq => by
      simp only [PySq46.bound] at hq
      simp at hq
      rw [hq]) rfl
    obtain ⟨g1, g2, g3⟩ := parse_plain (n := 2) rfl h
    obtain ⟨a1, a2, e⟩ := list2 g1
    rw [e] at k1 k2
    subst k2
    exact ⟨6, _, [], isWider, .wider a1.toNat a2.toNat, k1, rfl, ⟨_, _, rfl, rfl⟩, rfl⟩
  by_cases h8 : p = 8
  · subst h8
    obtain ⟨k1, k2, k3⟩ := plain_is (j := 7) (n := 1) rfl (by decide) rfl rfl h hb (fun q hq => by
      simp only [PySq46.bound] at hq
      simp at hq
      rw [hq]) rfl
    obtain ⟨g1, g2, g3⟩ := parse_plain (n := 1) rfl h
    obtain ⟨a1, e⟩ := list1 g1
    rw [e] at k1 k2
    subst k2
    exact ⟨7, _, [], isRow, .row a1.toNat, k1, rfl, ⟨_, rfl, rfl⟩, rfl⟩
  by_cases h9 : p = 9
  · subst h9
    obtain ⟨k1, k2, k3⟩ := plain_is (j := 8) (n := 0) rfl (by decide) rfl rfl h hb (fun q hq => by
      simp only [PySq46.bound] at hq
      simp at hq) rfl
    rw [List.take_zero] at k1 k2
    subst k2
    exact ⟨8, _, [], isSize, .size, k1, rfl, ⟨rfl, rfl⟩, rfl⟩
  · have hsh : PySq46.shape p = none := by
      unfold PySq46.shape
      rw [if_neg h1, if_neg h2, if_neg h3, if_neg h4, if_neg h5, if_neg h6, if_neg h7, if_neg h8, if_neg h9]
    have h : (match PySq46.shape p with
      | none => none
      | some (n, k) => if r.length < n then none else match PyFlat.rows k (r.drop n) with
        | none => none
        | some (xs, t) => some ((p :: r.take n) :: xs, t)) = some (c, t) := h
    rw [hsh] at h
    cases h
/-! ### the rest of a list of calls -/
/-- from the place where s begins the calls are raw, and what was told and what is due of them is all -/
structure Rest (all s told : List Int) (g : House) : Prop where
  ex : ∃ f raw, PyFlat.calls PySq46.shape f s = some raw ∧ PyInside.calls PySq46.bound raw = true ∧ told ++ PyFlat.told (PyFlat.played Sq46Neutral.step g (raw.map PySq46.whole)) = all
theorem rest_start {l : List Int} (h : PySq46.answers_asked l = true) : Rest (PySq46.answers l) l [] fresh ∧ (PySq46.answers l).length ≤ 10000000 := by
  unfold PySq46.answers_asked at h
  cases hc : PyFlat.calls PySq46.shape l.length l with
  | none =>
    rw [hc] at h
    cases h
  | some raw =>
    rw [hc] at h
    dsimp only at h
    simp only [Bool.and_eq_true] at h
    refine ⟨⟨l.length, raw, hc, h.1.1.2, ?_⟩, of_decide_eq_true h.2⟩
    unfold PySq46.answers PySq46.calls
    rw [hc]
    rfl
theorem rest_end {all told : List Int} {g : House} (R : Rest all [] told g) : told = all := by
  obtain ⟨f, raw, h1, _, h3⟩ := R.ex
  have hr : raw = [] := by
    cases f with
    | zero => exact (Option.some.inj h1).symm
    | succ f => exact (Option.some.inj h1).symm
  subst hr
  rw [← h3]
  show told = told ++ []
  rw [List.append_nil]
theorem rest_step {all told r : List Int} {p : Int} {g : House} (R : Rest all (p :: r) told g) :
    ∃ j ns rw Is k t, CallIs p r t j ns rw ∧ isJ[j]? = some Is ∧ Is ns rw k ∧ Rest all t (told ++ (((((House.step g k).2.value :: (House.step g k).2.out).length : Nat) : Int) :: ((House.step g k).2.value :: (House.step g k).2.out))) (House.step g k).1 := by
  obtain ⟨f, raw, h1, h2, h3⟩ := R.ex
  cases f with
  | zero => cases h1
  | succ f =>
    have h1 : (match PyFlat.call PySq46.shape (p :: r) with
      | none => none
      | some (c, t) => match PyFlat.calls PySq46.shape f t with
        | none => none
        | some cs => some (c :: cs)) = some raw := h1
    cases hc : PyFlat.call PySq46.shape (p :: r) with
    | none =>
      rw [hc] at h1
      cases h1
    | some ct =>
      obtain ⟨c, t⟩ := ct
      rw [hc] at h1
      dsimp only at h1
      cases hcs : PyFlat.calls PySq46.shape f t with
      | none =>
        rw [hcs] at h1
        cases h1
      | some cs =>
        rw [hcs] at h1
        obtain rfl := Option.some.inj h1
        have h2 : (PyInside.call PySq46.bound c && cs.all (PyInside.call PySq46.bound)) = true := h2
        obtain ⟨h4, h5⟩ := Bool.and_eq_true_iff.mp h2
        obtain ⟨j, ns, rw', Is, k, k1, k2, k3, k4⟩ := parse_is hc h4
        refine ⟨j, ns, rw', Is, k, t, k1, k2, k3, ⟨f, cs, hcs, h5, ?_⟩⟩
        rw [← h3, List.append_assoc]
        congr 1
        have hst : Sq46Neutral.step g (PySq46.whole c) = ((House.step g k).1, (House.step g k).2.value :: (House.step g k).2.out) := by
          unfold Sq46Neutral.step
          rw [k4]
        show _ = PyFlat.told ((Sq46Neutral.step g (PySq46.whole c)).2 :: PyFlat.played Sq46Neutral.step (Sq46Neutral.step g (PySq46.whole c)).1 (cs.map PySq46.whole))
        rw [hst]
        rfl
end LS
set_option maxRecDepth 100000
set_option maxHeartbeats 2000000
/-! The framework: G is what is known of the heap and never changes; H, the heap, holds G and what may still change. -/
namespace LS
open PySem PySem.Spec PyProof.Rows L2

/-- all that F holds G holds too -/
def Ex (F G : Hp) : Prop := ∀ p u, F p = some u → G p = some u
theorem Ex.refl (F : Hp) : Ex F F := fun _ _ => id
theorem Ex.trans {E F G : Hp} (i : Ex E F) (j : Ex F G) : Ex E G := fun p u => j p u ∘ i p u
theorem Ex.free {H H' : Hp} {p : Addr} (e : Ex H H') (h : H' p = none) : H p = none := by
  cases h1 : H p with
  | none => rfl
  | some o =>
    rw [e p o h1] at h
    cases h
theorem Ex.new {F : Hp} {p : Addr} {o : HO} (h : F p = none) : Ex F (upd F p o) := fun q u e => (upd_ne (ne_of_none e h)).trans e
/-- an object that G does not know may change -/
theorem Ex.mut {G H : Hp} {p : Addr} {o : HO} (e : Ex G H) (h : G p = none) : Ex G (upd H p o) := fun a u ha => by
  rw [upd_ne (ne_of_none ha h)]
  exact e a u ha
theorem Ex.rd {H H' : Hp} {a : Addr} {u : HO} (e : Ex H H') (h : Rd H a u) : Rd H' a u := by
  rcases h with h | ⟨o, h⟩
  · exact Or.inl (e a _ h)
  · exact Or.inr ⟨o, e a _ h⟩
theorem Ex.sqL {K : PySem.W.Frag} {H H' : Hp} {a : Addr} {xs : List V} (e : Ex H H') (h : SqL K H a xs) : SqL K H' a xs := by
  rcases h with h | h
  · exact Or.inl (e.rd h)
  · exact Or.inr h
theorem Ex.sqT {K : PySem.W.Frag} {H H' : Hp} {a : Addr} {xs : List V} (e : Ex H H') (h : SqT K H a xs) : SqT K H' a xs := by
  rcases h with h | h
  · exact Or.inl (e.rd h)
  · exact Or.inr h
theorem sqL_of {K : PySem.W.Frag} {H : Hp} {a : Addr} {xs : List V} (h : H a = some (.lst xs)) : SqL K H a xs := Or.inl (Or.inl h)
theorem sqT_of {K : PySem.W.Frag} {H : Hp} {a : Addr} {xs : List V} (h : H a = some (.tup xs)) : SqT K H a xs := Or.inl (Or.inl h)

/-- what is known grows, the heap grows; what may change stays out of what is known -/
structure Gr (G H G' H' : Hp) : Prop where
  gg : Ex G G'
  hh : Ex H H'
  gh : Ex G' H'
  out : ∀ a, G a = none → H a ≠ none → G' a = none
theorem Gr.refl {G H : Hp} (e : Ex G H) : Gr G H G H := ⟨Ex.refl G, Ex.refl H, e, fun _ h _ => h⟩
theorem Gr.trans {G H G1 H1 G2 H2 : Hp} (a : Gr G H G1 H1) (b : Gr G1 H1 G2 H2) : Gr G H G2 H2 :=
  ⟨a.gg.trans b.gg, a.hh.trans b.hh, b.gh, fun x hx hn => b.out x (a.out x hx hn) fun z => hn (a.hh.free z)⟩
theorem Gr.new {G H : Hp} {p : Addr} {o : HO} (e : Ex G H) (h : H p = none) : Gr G H (upd G p o) (upd H p o) := by
  have hg : G p = none := e.free h
  refine ⟨Ex.new hg, Ex.new h, fun a u q => ?_, fun a ha hn => ?_⟩
  · by_cases hp : a = p
    · subst hp
      rw [upd_same] at q ⊢
      exact q
    · rw [upd_ne hp] at q ⊢
      exact e a u q
  · have hp : a ≠ p := fun z => by subst z; exact hn h
    rw [upd_ne hp]
    exact ha
/-- a heap that grew beside what is known -/
theorem Gr.beside {G H H' : Hp} (e : Ex G H) (h : Ex H H') : Gr G H G H' := ⟨Ex.refl G, h, e.trans h, fun _ q _ => q⟩

/-- all but instances stand as they were -/
def notIns : HO → Bool
  | .ins _ _ _ => false
  | _ => true
def ExD (G G' : Hp) : Prop := ∀ a o, G a = some o → notIns o = true → G' a = some o
theorem Ex.d {G G' : Hp} (e : Ex G G') : ExD G G' := fun a o h _ => e a o h
theorem ExD.sqT {K : PySem.W.Frag} {H H' : Hp} {a : Addr} {xs : List V} (e : ExD H H') (h : SqT K H a xs) : SqT K H' a xs := by
  rcases h with (h | ⟨o, h⟩) | h
  · exact Or.inl (Or.inl (e a _ h rfl))
  · exact Or.inl (Or.inr ⟨o, e a _ h rfl⟩)
  · exact Or.inr h
abbrev Pd := V → Hp → Prop
class Mp (P : Pd) : Prop where
  mp : ∀ {v : V} {G G' : Hp}, ExD G G' → P v G → P v G'
theorem mo {P : Pd} [m : Mp P] {v : V} {G G' : Hp} (e : Ex G G') (h : P v G) : P v G' := m.mp e.d h
class MpL (Ps : List Pd) : Prop where
  mp : ∀ P ∈ Ps, Mp P
instance : MpL [] := ⟨fun _ h => nomatch h⟩
instance {P : Pd} {Ps : List Pd} [a : Mp P] [b : MpL Ps] : MpL (P :: Ps) := ⟨fun q h => by
  rcases List.mem_cons.mp h with rfl | h
  · exact a
  · exact b.mp q h⟩
instance {α : Type} {R : α → Pd} [m : ∀ x, Mp (R x)] {xs : List α} : MpL (xs.map R) := ⟨fun q h => by
  obtain ⟨x, _, rfl⟩ := List.mem_map.mp h
  exact m x⟩

/-- values, each as told -/
abbrev Args (Ps : List Pd) (vs : List V) (G : Hp) : Prop := Paired (fun (P : Pd) (v : V) => P v G) Ps vs
theorem Args.moD : ∀ {Ps : List Pd} {vs : List V} {G G' : Hp}, MpL Ps → ExD G G' → Args Ps vs G → Args Ps vs G'
  | _, _, _, _, _, _, .nil => .nil
  | _, _, _, _, m, e, .cons h t => .cons ((m.mp _ List.mem_cons_self).mp e h) (Args.moD ⟨fun q hq => m.mp q (List.mem_cons_of_mem _ hq)⟩ e t)
theorem Args.mo {Ps : List Pd} {vs : List V} {G G' : Hp} (m : MpL Ps) (e : Ex G G') (h : Args Ps vs G) : Args Ps vs G' := Args.moD m e.d h
section
variable {α β : Type} {F : α → β → Prop}
theorem paired_len : ∀ {xs : List α} {ys : List β}, Paired F xs ys → xs.length = ys.length
  | _, _, .nil => rfl
  | _, _, .cons _ t => by rw [List.length_cons, List.length_cons, paired_len t]
theorem paired_app : ∀ {xs xs' : List α} {ys ys' : List β}, Paired F xs ys → Paired F xs' ys' → Paired F (xs ++ xs') (ys ++ ys')
  | _, _, _, _, .nil, q => q
  | _, _, _, _, .cons r t, q => .cons r (paired_app t q)
theorem paired_take : ∀ {xs : List α} {ys : List β} (n : Nat), Paired F xs ys → Paired F (xs.take n) (ys.take n)
  | _, _, 0, _ => by rw [List.take_zero, List.take_zero]; exact .nil
  | _, _, _ + 1, .nil => .nil
  | _, _, n + 1, .cons r t => .cons r (paired_take n t)
theorem paired_drop : ∀ {xs : List α} {ys : List β} (n : Nat), Paired F xs ys → Paired F (xs.drop n) (ys.drop n)
  | _, _, 0, q => q
  | _, _, _ + 1, .nil => .nil
  | _, _, n + 1, .cons _ t => paired_drop n t
theorem paired_ix : ∀ {xs : List α} {ys : List β}, Paired F xs ys → ∀ {i : Nat} {x : α}, xs[i]? = some x → ∃ y, ys[i]? = some y ∧ F x y
  | _, _, .nil, _, _, e => nomatch e
  | _, _, .cons r _, 0, _, e => ⟨_, rfl, Option.some.inj e ▸ r⟩
  | _, _, .cons _ t, _ + 1, _, e => paired_ix t e
theorem paired_ix' : ∀ {xs : List α} {ys : List β}, Paired F xs ys → ∀ {i : Nat} {y : β}, ys[i]? = some y → ∃ x, xs[i]? = some x ∧ F x y
  | _, _, .nil, _, _, e => nomatch e
  | _, _, .cons r _, 0, _, e => ⟨_, rfl, Option.some.inj e ▸ r⟩
  | _, _, .cons _ t, _ + 1, _, e => paired_ix' t e
theorem paired_all : ∀ {xs : List α} {ys : List β}, xs.length = ys.length → (∀ (i : Nat) (x : α) (y : β), xs[i]? = some x → ys[i]? = some y → F x y) → Paired F xs ys
  | [], [], _, _ => .nil
  | [], _ :: _, h, _ => nomatch h
  | _ :: _, [], h, _ => nomatch h
  | _ :: xs, _ :: ys, h, k => .cons (k 0 _ _ rfl rfl) (paired_all (Nat.succ.inj h) fun i x y a b => k (i + 1) x y a b)
end

/-! ### what values stand for -/
def rInt (n : Int) : Pd := fun v _ => v = .int n
abbrev rNat (n : Nat) : Pd := rInt (n : Int)
def rBl (b : Bool) : Pd := fun v _ => v = .bl b
def rNon : Pd := fun v _ => v = .non
def rLs (Ps : List Pd) : Pd := fun v G => ∃ a vs, v = .ref a ∧ G a = some (.lst vs) ∧ Args Ps vs G
abbrev rL {α : Type} (R : α → Pd) (xs : List α) : Pd := rLs (xs.map R)
def rT (K : PySem.W.Frag) (Ps : List Pd) : Pd := fun v G => ∃ a vs, v = .ref a ∧ SqT K G a vs ∧ Args Ps vs G
instance {n : Int} : Mp (rInt n) := ⟨fun _ h => h⟩
instance {b : Bool} : Mp (rBl b) := ⟨fun _ h => h⟩
instance : Mp rNon := ⟨fun _ h => h⟩
instance {Ps : List Pd} [m : MpL Ps] : Mp (rLs Ps) := ⟨fun e ⟨a, vs, h1, h2, h3⟩ => ⟨a, vs, h1, e _ _ h2 rfl, h3.moD m e⟩⟩
instance {K : PySem.W.Frag} {Ps : List Pd} [m : MpL Ps] : Mp (rT K Ps) := ⟨fun e ⟨a, vs, h1, h2, h3⟩ => ⟨a, vs, h1, e.sqT h2, h3.moD m e⟩⟩

/-! ### judgements -/
def EvR (te : TE) (σ : L2.St) (G : Hp) (P : Pd) : Prop := ∀ G0 H, Ex G G0 → Ex G0 H → ∀ Q : VK, (∀ v G' H', Gr G0 H G' H' → P v G' → Q v H') → te σ H Q
def EvT (tt : TT) (σ : L2.St) (G : Hp) (b : Bool) : Prop := ∀ G0 H, Ex G G0 → Ex G0 H → ∀ Q : Bool → Hp → Prop, (∀ G' H', Gr G0 H G' H' → Q b H') → tt σ H Q
def EvA (ta : TA) (σ : L2.St) (G : Hp) (Ps : List Pd) : Prop := ∀ G0 H, Ex G G0 → Ex G0 H → ∀ Q : List V → Hp → Prop, (∀ vs G' H', Gr G0 H G' H' → Args Ps vs G' → Q vs H') → ta σ H Q
def EvO (to : TO) (σ : L2.St) (G : Hp) (o : Option Int) : Prop := ∀ G0 H, Ex G G0 → Ex G0 H → ∀ Q : Option Int → Hp → Prop, (∀ G' H', Gr G0 H G' H' → Q o H') → to σ H Q
/-- by values -/
def RvR (r : R2) (x y : V) (G : Hp) (P : Pd) : Prop := ∀ G0 H, Ex G G0 → Ex G0 H → ∀ Q : VK, (∀ v G' H', Gr G0 H G' H' → P v G' → Q v H') → r x y H Q
def RcR (r : List V → Hp → VK → Prop) (vs : List V) (G : Hp) (P : Pd) : Prop := ∀ G0 H, Ex G G0 → Ex G0 H → ∀ Q : VK, (∀ v G' H', Gr G0 H G' H' → P v G' → Q v H') → r vs H Q

section
variable {K : PySem.W.Frag} {σ : L2.St} {G G' H : Hp} {ta tb tc te : TE} {t u : TT} {P P' S : Pd} {r : R2} {Ps Qs : List Pd}
theorem EvR.run (h : EvR te σ G P) (e : Ex G H) {Q : VK} (k : ∀ v G' H', Gr G H G' H' → P v G' → Q v H') : te σ H Q := h G H (Ex.refl G) e Q k
theorem EvT.run {b : Bool} (h : EvT t σ G b) (e : Ex G H) {Q : Bool → Hp → Prop} (k : ∀ G' H', Gr G H G' H' → Q b H') : t σ H Q := h G H (Ex.refl G) e Q k
theorem EvA.run {ta : TA} (h : EvA ta σ G Ps) (e : Ex G H) {Q : List V → Hp → Prop} (k : ∀ v G' H', Gr G H G' H' → Args Ps v G' → Q v H') : ta σ H Q := h G H (Ex.refl G) e Q k
theorem EvR.mono (h : EvR te σ G P) (e : Ex G G') : EvR te σ G' P := fun G0 H a b Q k => h G0 H (e.trans a) b Q k
theorem EvR.is (h : EvR te σ G P) (e : P = P') : EvR te σ G P' := by rw [← e]; exact h
theorem EvR.weak (h : EvR te σ G P) (e : ∀ v G, P v G → P' v G) : EvR te σ G P' := fun G0 H a b Q k => h G0 H a b Q fun v G' H' g p => k v G' H' g (e v G' p)
theorem EvT.is {b c : Bool} (h : EvT t σ G b) (e : b = c) : EvT t σ G c := by rw [← e]; exact h
theorem ev_var {i : Nat} {v : V} (h : σ[i]? = some (some v)) (p : P v G) [Mp P] : EvR (tVar i) σ G P := fun _ _ a b _ k => ⟨v, h, k v _ _ (Gr.refl b) (mo a p)⟩
theorem ev_c {v : V} (p : P v G) [Mp P] : EvR (tC v) σ G P := fun _ _ a b _ k => k v _ _ (Gr.refl b) (mo a p)
theorem ev_int {n : Int} : EvR (tC (.int n)) σ G (rInt n) := ev_c rfl
theorem ev_op [Mp P] (ha : EvR ta σ G P) (hb : EvR tb σ G S) (hr : ∀ x y G', Ex G G' → P x G' → S y G' → RvR r x y G' P') : EvR (tOp r ta tb) σ G P' := fun G0 H a b Q k =>
  ha G0 H a b _ fun x G1 H1 g1 p1 => hb G1 H1 (a.trans g1.gg) g1.gh _ fun y G2 H2 g2 p2 => hr x y G2 (a.trans (g1.gg.trans g2.gg)) (mo g2.gg p1) p2 G2 H2 (Ex.refl _) g2.gh Q fun v G3 H3 g3 p3 => k v G3 H3 (g1.trans (g2.trans g3)) p3
theorem ev_I0 {g : Int → Int → V} {i j : Int} (ha : EvR ta σ G (rInt i)) (hb : EvR tb σ G (rInt j)) : EvR (tOp (rI0 g) ta tb) σ G (fun v _ => v = g i j) := ev_op ha hb fun _ _ _ _ e1 e2 => by
  cases e1
  cases e2
  exact fun _ _ _ b _ k => ⟨i, j, rfl, rfl, k _ _ _ (Gr.refl b) rfl⟩
theorem ev_I {C : Int → Int → Prop} {g : Int → Int → V} {i j : Int} (ha : EvR ta σ G (rInt i)) (hb : EvR tb σ G (rInt j)) (hc : C i j) : EvR (tOp (rI C g) ta tb) σ G (fun v _ => v = g i j) := ev_op ha hb fun _ _ _ _ e1 e2 => by
  cases e1
  cases e2
  exact fun _ _ _ b _ k => ⟨i, j, rfl, rfl, hc, k _ _ _ (Gr.refl b) rfl⟩
theorem ev_add {i j : Int} (ha : EvR ta σ G (rInt i)) (hb : EvR tb σ G (rInt j)) : EvR (tOp (rI0 fun i j => .int (i + j)) ta tb) σ G (rInt (i + j)) := ev_I0 ha hb
theorem ev_sub {i j : Int} (ha : EvR ta σ G (rInt i)) (hb : EvR tb σ G (rInt j)) : EvR (tOp (rI0 fun i j => .int (i - j)) ta tb) σ G (rInt (i - j)) := ev_I0 ha hb
theorem ev_eq {i j : Int} (ha : EvR ta σ G (rInt i)) (hb : EvR tb σ G (rInt j)) : EvR (tOp rEq ta tb) σ G (rBl (decide (i = j))) := ev_op ha hb fun _ _ _ _ e1 e2 => by
  cases e1
  cases e2
  refine fun _ _ _ b _ k => ⟨rfl, k _ _ _ (Gr.refl b) ?_⟩
  by_cases h : i = j
  · subst h
    rw [decide_eq_true rfl]
    show V.bl (decide (V.int i = V.int i)) = _
    rw [decide_eq_true rfl]
  · rw [decide_eq_false h]
    show V.bl (decide (V.int i = V.int j)) = _
    rw [decide_eq_false fun z => h (V.int.inj z)]
theorem ev_ne {i j : Int} (ha : EvR ta σ G (rInt i)) (hb : EvR tb σ G (rInt j)) : EvR (tOp rNe ta tb) σ G (rBl (!decide (i = j))) := ev_op ha hb fun _ _ _ _ e1 e2 => by
  cases e1
  cases e2
  refine fun _ _ _ b _ k => ⟨rfl, k _ _ _ (Gr.refl b) ?_⟩
  by_cases h : i = j
  · subst h
    rw [decide_eq_true rfl]
    show V.bl (!decide (V.int i = V.int i)) = _
    rw [decide_eq_true rfl]
  · rw [decide_eq_false h]
    show V.bl (!decide (V.int i = V.int j)) = _
    rw [decide_eq_false fun z => h (V.int.inj z)]
theorem ev_un {f : Int → V} {i : Int} (ha : EvR ta σ G (rInt i)) : EvR (tUn (rU f) ta) σ G (fun v _ => v = f i) := fun G0 H a b Q k => ha G0 H a b _ fun x G1 H1 g1 p1 => by
  cases p1
  exact ⟨i, rfl, k _ _ _ g1 rfl⟩
theorem ev_neg {i : Int} (ha : EvR ta σ G (rInt i)) : EvR (tUn (rU fun i => .int (-i)) ta) σ G (rInt (-i)) := ev_un ha
/-- a op b op' c, whole numbers -/
theorem ev_chain {f f' : Int → Int → Bool} {i j k : Int} (ha : EvR ta σ G (rInt i)) (hb : EvR tb σ G (rInt j)) (hc : EvR tc σ G (rInt k)) : EvR (tChain (rI0 fun i j => .bl (f i j)) (rI0 fun i j => .bl (f' i j)) ta tb tc) σ G (rBl (f i j && f' j k)) := fun G0 H a b Q q =>
  ha G0 H a b _ fun x G1 H1 g1 p1 => hb G1 H1 (a.trans g1.gg) g1.gh _ fun y G2 H2 g2 p2 => by
    cases p1
    cases p2
    refine ⟨i, j, rfl, rfl, _, rfl, ?_⟩
    cases hf : f i j with
    | true => exact iteT (hc G2 H2 (a.trans (g1.gg.trans g2.gg)) g2.gh _ fun z G3 H3 g3 p3 => by
        cases p3
        exact ⟨j, k, rfl, rfl, q _ _ _ (g1.trans (g2.trans g3)) (by rw [hf]; rfl)⟩)
    | false => exact iteF (q _ _ _ (g1.trans g2) (by rw [hf]; rfl))

/-! tests -/
theorem et_test {b : Bool} (h : EvR te σ G (rBl b)) : EvT (tTest te) σ G b := fun G0 H a c Q k => h G0 H a c _ fun v G1 H1 g p => by
  cases p
  exact ⟨b, rfl, k G1 H1 g⟩
theorem et_B {b : Bool} (h : EvR te σ G (rBl b)) : EvT (tB te) σ G b := fun G0 H a c Q k => h G0 H a c _ fun v G1 H1 g p => by
  cases p
  exact ⟨b, rfl, k G1 H1 g⟩
theorem et_not {b : Bool} (h : EvT t σ G b) : EvT (tNot t) σ G (!b) := fun G0 H a c Q k => h G0 H a c _ fun G1 H1 g => k G1 H1 g
theorem et_or {b c : Bool} (h1 : EvT t σ G b) (h2 : b = false → EvT u σ G c) : EvT (tOr t u) σ G (b || c) := fun G0 H a d Q k => h1 G0 H a d _ fun G1 H1 g => by
  cases b with
  | true =>
    show Q true H1
    exact k G1 H1 g
  | false =>
    show u σ H1 Q
    exact h2 rfl G1 H1 (a.trans g.gg) g.gh Q fun G2 H2 g2 => k G2 H2 (g.trans g2)
theorem et_and {b c : Bool} (h1 : EvT t σ G b) (h2 : b = true → EvT u σ G c) : EvT (tAnd t u) σ G (b && c) := fun G0 H a d Q k => h1 G0 H a d _ fun G1 H1 g => by
  cases b with
  | false =>
    show Q false H1
    exact k G1 H1 g
  | true =>
    show u σ H1 Q
    exact h2 rfl G1 H1 (a.trans g.gg) g.gh Q fun G2 H2 g2 => k G2 H2 (g.trans g2)
theorem ev_if {b : Bool} (h : EvT t σ G b) (h1 : b = true → EvR ta σ G P) (h2 : b = false → EvR tb σ G P) : EvR (tIf t ta tb) σ G P := fun G0 H a d Q k => h G0 H a d _ fun G1 H1 g => by
  cases b with
  | true =>
    show ta σ H1 Q
    exact h1 rfl G1 H1 (a.trans g.gg) g.gh Q fun v G2 H2 g2 p => k v G2 H2 (g.trans g2) p
  | false =>
    show tb σ H1 Q
    exact h2 rfl G1 H1 (a.trans g.gg) g.gh Q fun v G2 H2 g2 p => k v G2 H2 (g.trans g2) p

/-! arguments, displays, calls -/
theorem ea_nil : EvA tNil σ G [] := fun _ _ _ b _ k => k [] _ _ (Gr.refl b) .nil
theorem ea_cons [Mp P] {tr : TA} (h : EvR te σ G P) (hr : EvA tr σ G Ps) : EvA (tCons te tr) σ G (P :: Ps) := fun G0 H a b Q k =>
  h G0 H a b _ fun x G1 H1 g1 p1 => hr G1 H1 (a.trans g1.gg) g1.gh _ fun xs G2 H2 g2 p2 => k _ G2 H2 (g1.trans g2) (.cons (mo g2.gg p1) p2)
theorem ea1 [Mp P] (h : EvR te σ G P) : EvA (tCons te tNil) σ G [P] := ea_cons h ea_nil
theorem ea2 [Mp P] [Mp P'] (h : EvR ta σ G P) (h' : EvR tb σ G P') : EvA (tCons ta (tCons tb tNil)) σ G [P, P'] := ea_cons h (ea1 h')
theorem ea3 [Mp P] [Mp P'] [Mp S] (h : EvR ta σ G P) (h' : EvR tb σ G P') (h'' : EvR tc σ G S) : EvA (tCons ta (tCons tb (tCons tc tNil))) σ G [P, P', S] := ea_cons h (ea2 h' h'')
theorem ev_tup [m : MpL Ps] {ta : TA} (h : EvA ta σ G Ps) (hl : Ps.length ≤ sizeLine) : EvR (tTup ta) σ G (rT K Ps) := fun G0 H a b Q k => h G0 H a b _ fun vs G1 H1 g1 p1 =>
  ⟨by rw [← paired_len p1]; exact hl, fun p hp => k _ _ _ (g1.trans (Gr.new g1.gh hp)) ⟨p, vs, rfl, sqT_of upd_same, p1.mo m (Ex.new (g1.gh.free hp))⟩⟩
theorem ev_lst [m : MpL Ps] {ta : TA} (h : EvA ta σ G Ps) (hl : Ps.length ≤ sizeLine) : EvR (tLst ta) σ G (rLs Ps) := fun G0 H a b Q k => h G0 H a b _ fun vs G1 H1 g1 p1 =>
  ⟨by rw [← paired_len p1]; exact hl, fun p hp => k _ _ _ (g1.trans (Gr.new g1.gh hp)) ⟨p, vs, rfl, upd_same, p1.mo m (Ex.new (g1.gh.free hp))⟩⟩
/-- the promise of a def that changes nothing -/
def PureF {α : Type} (args : α → List Pd) (pre : α → Prop) (res : α → Pd) : Sp := fun vs H Q _ => ∃ x G, Ex G H ∧ pre x ∧ Args (args x) vs G ∧ ∀ v G' H', Gr G H G' H' → res x v G' → Q v H'
theorem ev_call {α : Type} {args : α → List Pd} {pre : α → Prop} {res : α → Pd} {E : XK} {ta : TA} (x : α) (h : EvA ta σ G (args x)) (hp : pre x) : EvR (tCall (PureF args pre res) [] E ta) σ G (res x) := fun G0 H a b Q k => h G0 H a b _ fun vs G1 H1 g1 p1 => by
  rw [List.append_nil]
  exact ⟨x, G1, g1.gh, hp, p1, fun v G2 H2 g2 p2 => k v G2 H2 (g1.trans g2) p2⟩
theorem ev_cb {r : List V → Hp → VK → Prop} {ta : TA} (h : EvA ta σ G Ps) (hr : ∀ vs G', Ex G G' → Args Ps vs G' → RcR r vs G' P) : EvR (tCB r ta) σ G P := fun G0 H a b Q k => h G0 H a b _ fun vs G1 H1 g1 p1 =>
  hr vs G1 (a.trans g1.gg) p1 G1 H1 (Ex.refl _) g1.gh Q fun v G2 H2 g2 p2 => k v G2 H2 (g1.trans g2) p2
theorem args1 {v : V} {vs : List V} (h : Args [P] vs G) : ∃ x, vs = [x] ∧ P x G := by
  cases h with
  | cons p t =>
    cases t
    exact ⟨_, rfl, p⟩
theorem args2 {vs : List V} (h : Args [P, P'] vs G) : ∃ x y, vs = [x, y] ∧ P x G ∧ P' y G := by
  cases h with
  | cons p t =>
    cases t with
    | cons q t =>
      cases t
      exact ⟨_, _, rfl, p, q⟩
/-- len of a list, of a tuple -/
theorem ev_len (h : EvR te σ G (rLs Ps)) [MpL Ps] : EvR (tCB (fun xs H Q => ∃ p ys, xs = [V.ref p] ∧ (SqL K H p ys ∨ SqT K H p ys) ∧ Q (.int (ys.length : Nat)) H) (tCons te tNil)) σ G (rNat Ps.length) := fun G0 H a b Q k => h G0 H a b _ fun v G1 H1 g1 p1 => by
  obtain ⟨p, vs, rfl, h2, h3⟩ := p1
  exact ⟨p, vs, rfl, Or.inl (sqL_of (g1.gh _ _ h2)), k _ _ _ g1 (by rw [paired_len h3]; rfl)⟩
theorem ev_max {i j : Int} (ha : EvR ta σ G (rInt i)) (hb : EvR tb σ G (rInt j)) : EvR (tCB (fun xs H Q => ∃ i j, xs = [V.int i, V.int j] ∧ Q (.int (if j > i then j else i)) H) (tCons ta (tCons tb tNil))) σ G (rInt (if j > i then j else i)) := fun G0 H a b Q k =>
  ha G0 H a b _ fun x G1 H1 g1 p1 => hb G1 H1 (a.trans g1.gg) g1.gh _ fun y G2 H2 g2 p2 => by
    cases p1
    cases p2
    exact ⟨i, j, rfl, k _ _ _ (g1.trans g2) rfl⟩
theorem ev_min {i j : Int} (ha : EvR ta σ G (rInt i)) (hb : EvR tb σ G (rInt j)) : EvR (tCB (fun xs H Q => ∃ i j, xs = [V.int i, V.int j] ∧ Q (.int (if j < i then j else i)) H) (tCons ta (tCons tb tNil))) σ G (rInt (if j < i then j else i)) := fun G0 H a b Q k =>
  ha G0 H a b _ fun x G1 H1 g1 p1 => hb G1 H1 (a.trans g1.gg) g1.gh _ fun y G2 H2 g2 p2 => by
    cases p1
    cases p2
    exact ⟨i, j, rfl, k _ _ _ (g1.trans g2) rfl⟩
theorem ev_abs {i : Int} (ha : EvR ta σ G (rInt i)) : EvR (tCB (fun xs H Q => ∃ i, xs = [V.int i] ∧ Q (.int (if i < 0 then -i else i)) H) (tCons ta tNil)) σ G (rInt (if i < 0 then -i else i)) := fun G0 H a b Q k =>
  ha G0 H a b _ fun x G1 H1 g1 p1 => by
    cases p1
    exact ⟨i, rfl, k _ _ _ g1 rfl⟩

/-! subscripts, slices, lists together -/
theorem ixN_lt {n : Nat} {i : Int} {j : Nat} (h : ixN n i = some j) : j < n := (ixN_seq h).2.1
theorem args_at {vs : List V} {i : Int} (h : Args Ps vs G) (hi : atI Ps i = some P) : ∃ v, atI vs i = some v ∧ P v G := by
  unfold atI at hi ⊢
  rw [← paired_len h]
  cases e : ixN Ps.length i with
  | none =>
    rw [e] at hi
    cases hi
  | some j =>
    rw [e] at hi
    obtain ⟨y, h1, h2⟩ := paired_ix h (show Ps[j]? = some P from hi)
    exact ⟨y, h1, h2⟩
theorem ev_ixL {i : Int} [MpL Ps] (ha : EvR ta σ G (rLs Ps)) (hb : EvR tb σ G (rInt i)) (hi : atI Ps i = some P) : EvR (tOp (rIxL K) ta tb) σ G P := ev_op ha hb fun x y G1 _ p1 p2 => by
  obtain ⟨a, vs, rfl, h2, h3⟩ := p1
  cases p2
  obtain ⟨v, h4, h5⟩ := args_at h3 hi
  refine fun G2 H e1 e2 Q k => ⟨a, vs, i, v, rfl, rfl, sqL_of (e2 _ _ (e1 _ _ h2)), h4, k v _ _ (Gr.refl e2) ?_⟩
  have m : MpL Ps := inferInstance
  have : P ∈ Ps := by
    unfold atI at hi
    cases e : ixN Ps.length i with
    | none =>
      rw [e] at hi
      cases hi
    | some j =>
      rw [e] at hi
      exact List.mem_of_getElem? (show Ps[j]? = some P from hi)
  exact (m.mp P this).mp e1.d h5
theorem ev_ixLn {j : Nat} [MpL Ps] (ha : EvR ta σ G (rLs Ps)) (hb : EvR tb σ G (rNat j)) (hi : Ps[j]? = some P) : EvR (tOp (rIxL K) ta tb) σ G P := ev_ixL ha hb (atI_nat hi)
theorem ev_ixT {i : Int} [MpL Ps] (ha : EvR ta σ G (rT K Ps)) (hb : EvR tb σ G (rInt i)) (hi : atI Ps i = some P) : EvR (tOp (rIxT K) ta tb) σ G P := ev_op ha hb fun x y G1 _ p1 p2 => by
  obtain ⟨a, vs, rfl, h2, h3⟩ := p1
  cases p2
  obtain ⟨v, h4, h5⟩ := args_at h3 hi
  refine fun G2 H e1 e2 Q k => ⟨a, vs, i, v, rfl, rfl, (e1.trans e2).sqT h2, h4, k v _ _ (Gr.refl e2) ?_⟩
  have m : MpL Ps := inferInstance
  have : P ∈ Ps := by
    unfold atI at hi
    cases e : ixN Ps.length i with
    | none =>
      rw [e] at hi
      cases hi
    | some j =>
      rw [e] at hi
      exact List.mem_of_getElem? (show Ps[j]? = some P from hi)
  exact (m.mp P this).mp e1.d h5
theorem eo_none : EvO tNoPart σ G none := fun _ _ _ b _ k => k _ _ (Gr.refl b)
theorem eo_some {i : Int} (h : EvR te σ G (rInt i)) : EvO (tPart te) σ G (some i) := fun G0 H a b Q k => h G0 H a b _ fun v G1 H1 g p => by
  cases p
  exact ⟨i, rfl, k _ _ g⟩
/-- the part of a list that a slice means -/
def cut {α : Type} (xs : List α) (lo hi : Option Int) : List α := (xs.drop (HT.sIx xs.length 0 lo)).take (HT.sIx xs.length xs.length hi - HT.sIx xs.length 0 lo)
theorem cut_map {α β : Type} (f : α → β) (xs : List α) (lo hi : Option Int) : cut (xs.map f) lo hi = (cut xs lo hi).map f := by
  unfold cut
  rw [List.length_map, List.map_take, List.map_drop]
theorem cut_mem {α : Type} {xs : List α} {lo hi : Option Int} {x : α} (h : x ∈ cut xs lo hi) : x ∈ xs := List.mem_of_mem_drop (List.mem_of_mem_take h)
instance cut_mpl {lo hi : Option Int} [m : MpL Ps] : MpL (cut Ps lo hi) := ⟨fun q h => m.mp q (cut_mem h)⟩
theorem cut_to {α : Type} (xs : List α) (k : Nat) : cut xs none (some (k : Int)) = xs.take k := by
  unfold cut
  rw [HT.sIx_none, HT.sIx_nat, List.drop_zero, Nat.sub_zero, List.take_eq_take_iff]
  omega
theorem cut_from {α : Type} (xs : List α) (k : Nat) : cut xs (some (k : Int)) none = xs.drop k := by
  unfold cut
  rw [HT.sIx_none, HT.sIx_nat]
  rcases Nat.le_total k xs.length with h | h
  · rw [Nat.min_eq_left h]
    exact List.take_of_length_le (by rw [List.length_drop]; omega)
  · rw [Nat.min_eq_right h, List.drop_of_length_le (Nat.le_refl _), List.drop_of_length_le h]
    exact List.take_nil
theorem cut_both {α : Type} (xs : List α) (i j : Nat) : cut xs (some (i : Int)) (some (j : Int)) = (xs.drop i).take (j - i) := by
  unfold cut
  rw [HT.sIx_nat, HT.sIx_nat]
  rcases Nat.le_total i xs.length with h | h
  · rw [Nat.min_eq_left h, List.take_eq_take_iff, List.length_drop]
    omega
  · rw [Nat.min_eq_right h, List.drop_of_length_le (Nat.le_refl _), List.drop_of_length_le h, List.take_nil, List.take_nil]
theorem ev_slice {tl th : TO} {lo hi : Option Int} [m : MpL Ps] (ha : EvR te σ G (rLs Ps)) (hl : EvO tl σ G lo) (hh : EvO th σ G hi) : EvR (tSl (rSlL K) te tl th) σ G (rLs (cut Ps lo hi)) := fun G0 H a b Q k =>
  ha G0 H a b _ fun x G1 H1 g1 p1 => hl G1 H1 (a.trans g1.gg) g1.gh _ fun G2 H2 g2 => hh G2 H2 (a.trans (g1.gg.trans g2.gg)) g2.gh _ fun G3 H3 g3 => by
    obtain ⟨p, vs, rfl, h2, h3⟩ := p1
    have g13 := g2.trans g3
    refine ⟨p, vs, rfl, sqL_of (g13.hh _ _ (g1.gh _ _ h2)), fun q hq => k _ _ _ (g1.trans (g13.trans (Gr.new g3.gh hq))) ⟨q, _, rfl, upd_same, ?_⟩⟩
    have e : cutV vs lo hi = cut vs lo hi := rfl
    have e2 : Args (cut Ps lo hi) (cut vs lo hi) G1 := by
      unfold cut
      rw [paired_len h3]
      exact paired_take _ (paired_drop _ h3)
    rw [e]
    exact e2.mo cut_mpl (g13.gg.trans (Ex.new (g3.gh.free hq)))
theorem ev_cat [m1 : MpL Ps] [m2 : MpL Qs] (ha : EvR ta σ G (rLs Ps)) (hb : EvR tb σ G (rLs Qs)) (hz : Ps.length + Qs.length ≤ sizeLine) : EvR (tOp rCat ta tb) σ G (rLs (Ps ++ Qs)) := ev_op ha hb fun x y G1 _ p1 p2 => by
  obtain ⟨a, vs, rfl, h2, h3⟩ := p1
  obtain ⟨b, us, rfl, h4, h5⟩ := p2
  refine fun G2 H e1 e2 Q k => ⟨a, b, vs, us, rfl, rfl, e2 _ _ (e1 _ _ h2), e2 _ _ (e1 _ _ h4), by rw [← paired_len h3, ← paired_len h5]; exact hz, fun p hp => k _ _ _ (Gr.new e2 hp) ⟨p, _, rfl, upd_same, ?_⟩⟩
  have e3 := e1.trans (Ex.new (o := HO.lst (vs ++ us)) (e2.free hp))
  exact paired_app (h3.mo m1 e3) (h5.mo m2 e3)
instance app_mpl [m1 : MpL Ps] [m2 : MpL Qs] : MpL (Ps ++ Qs) := ⟨fun q h => by
  rcases List.mem_append.mp h with h | h
  · exact m1.mp q h
  · exact m2.mp q h⟩
end

/-! ### walks -/
/-- what is walked: n turns; Y i item G H: what is told of the i-th item by what is known, and the heap then -/
def ItR (wi : TI) (σ : L2.St) (G : Hp) (n : Nat) (Y : Nat → V → Hp → Hp → Prop) : Prop := ∀ G0 H, Ex G G0 → Ex G0 H → ∀ R : It → Hp → Prop,
  (∀ J G' H' Y', Gr G0 H G' H' → Walk J n (fun H => Ex G' H) Y' → (∀ i H1 x H2, Ex G' H1 → Y' i H1 x H2 → Ex H1 H2 ∧ Y i x G' H2) → R J H') → wi σ H R
section
variable {K : PySem.W.Frag} {σ : L2.St} {G : Hp} {te ta tb : TE} {Ps Qs : List Pd}
def YL (Ps : List Pd) : Nat → V → Hp → Hp → Prop := fun i x G _ => ∃ P, Ps[i]? = some P ∧ P x G
def YE (Ps : List Pd) : Nat → V → Hp → Hp → Prop := fun i x G H => ∃ T y P, x = .ref T ∧ H T = some (.tup [.int (i : Nat), y]) ∧ Ps[i]? = some P ∧ P y G
def YZ (Ps Qs : List Pd) : Nat → V → Hp → Hp → Prop := fun i x G H => ∃ T y z P Q, x = .ref T ∧ H T = some (.tup [y, z]) ∧ Ps[i]? = some P ∧ Qs[i]? = some Q ∧ P y G ∧ Q z G
def YR (f : Nat → Int) : Nat → V → Hp → Hp → Prop := fun i x _ _ => x = .int (f i)
theorem it_list (h : EvR te σ G (rLs Ps)) : ItR (iList K te) σ G Ps.length (YL Ps) := fun G0 H a b R k => h G0 H a b _ fun v G1 H1 g p => by
  obtain ⟨l, vs, rfl, h2, h3⟩ := p
  refine ⟨l, rfl, ⟨vs, sqL_of (g.gh _ _ h2)⟩, k _ G1 H1 (YAt vs) g ?_ fun i H2 x H3 e y => ?_⟩
  · rw [paired_len h3]
    exact walk_list.mono (fun H e => sqL_of (e _ _ h2)) fun _ _ _ _ _ _ y => y
  · obtain ⟨rfl, y⟩ := y
    exact ⟨Ex.refl _, paired_ix' h3 y⟩
theorem it_enum (h : EvR te σ G (rLs Ps)) : ItR (iEnum K (tCons te tNil)) σ G Ps.length (YE Ps) := fun G0 H a b R k => h G0 H a b _ fun v G1 H1 g p => by
  obtain ⟨l, vs, rfl, h2, h3⟩ := p
  refine ⟨l, vs, rfl, sqL_of (g.gh _ _ h2), k _ G1 H1 (YPair (fun i => some (.int (i : Nat))) (fun i => vs[i]?)) g ?_ fun i H2 x H3 e y => ?_⟩
  · rw [paired_len h3]
    exact walk_enum.mono (fun H e => sqL_of (e _ _ h2)) fun _ _ _ _ _ _ y => y
  · obtain ⟨T, u, w, rfl, hT, rfl, e1, e2⟩ := y
    cases e1
    obtain ⟨P, h4, h5⟩ := paired_ix' h3 e2
    exact ⟨Ex.new hT, T, w, P, rfl, upd_same, h4, h5⟩
theorem it_zip [m : MpL Ps] (h : EvR ta σ G (rLs Ps)) (h' : EvR tb σ G (rLs Qs)) : ItR (iZip K (tCons ta (tCons tb tNil))) σ G (min Ps.length Qs.length) (YZ Ps Qs) := fun G0 H a b R k =>
  h G0 H a b _ fun v G1 H1 g p => h' G1 H1 (a.trans g.gg) g.gh _ fun v' G2 H2 g' p' => by
  obtain ⟨l, vs, rfl, h2, h3⟩ := p
  obtain ⟨l', vs', rfl, h2', h3'⟩ := p'
  have h2 := g'.gg _ _ h2
  have h3 := h3.mo m g'.gg
  refine ⟨l, l', vs, vs', rfl, sqL_of (g'.gh _ _ h2), sqL_of (g'.gh _ _ h2'), k _ G2 H2 (YPair (fun i => vs[i]?) (fun i => vs'[i]?)) (g.trans g') ?_ fun i H2 x H3 e y => ?_⟩
  · exact (walk_zip (by rw [paired_len h3, paired_len h3'])).mono (fun H e => ⟨sqL_of (e _ _ h2), sqL_of (e _ _ h2')⟩) fun _ _ _ _ _ _ y => y
  · obtain ⟨T, u, w, rfl, hT, rfl, e1, e2⟩ := y
    obtain ⟨P, h4, h5⟩ := paired_ix' h3 e1
    obtain ⟨Q, h4', h5'⟩ := paired_ix' h3' e2
    exact ⟨Ex.new hT, T, u, w, P, Q, rfl, upd_same, h4, h4', h5, h5'⟩
theorem it_range1 {n : Nat} (h : EvR te σ G (rNat n)) (hn : n < 2 ^ 62) : ItR (iRng1 (tCons te tNil)) σ G n (YR fun i => (i : Nat)) := fun G0 H a b R k => h G0 H a b _ fun v G1 H1 g p => by
  cases p
  refine ⟨(n : Int), rfl, by omega, by omega, k _ G1 H1 (YFn fun i => .int ((0 : Int) + i)) g (walk_range.mono (fun _ _ => trivial) fun _ _ _ _ _ _ y => y) fun i H2 x H3 e y => ?_⟩
  obtain ⟨rfl, rfl⟩ := y
  exact ⟨Ex.refl _, by show V.int _ = V.int _; rw [Int.zero_add]⟩
theorem it_range3 {ta : TA} {i j c : Int} {n : Nat} (h : EvA ta σ G [rInt i, rInt j, rInt c]) (hn : RgC i j c n) : ItR (iRng3 ta) σ G n (YR fun k => i + (k : Nat) * c) := fun G0 H a b R k => h G0 H a b _ fun v G1 H1 g p => by
  cases p with
  | cons p1 p =>
    cases p with
    | cons p2 p =>
      cases p with
      | cons p3 p =>
        cases p
        cases p1
        cases p2
        cases p3
        refine ⟨i, j, c, n, rfl, hn, k _ G1 H1 (YFn fun k => .int (i + (k : Nat) * c)) g (walk_rangeC.mono (fun _ _ => trivial) fun _ _ _ _ _ _ y => y) fun i H2 x H3 e y => ?_⟩
        obtain ⟨rfl, rfl⟩ := y
        exact ⟨Ex.refl _, rfl⟩
theorem it_revR {tr : L2.St → Hp → (Int → Int → Hp → Prop) → Prop} {n : Nat} (h : ∀ G0 H, Ex G G0 → Ex G0 H → ∀ R : Int → Int → Hp → Prop, (∀ G' H', Gr G0 H G' H' → R 0 (n : Int) H') → tr σ H R) (hn : n < 2 ^ 62) : ItR (iRevR tr) σ G n (YR fun i => (n : Int) - 1 - (i : Nat)) := fun G0 H a b R k => h G0 H a b _ fun G1 H1 g => by
  have e0 : ((n : Int) - 0).toNat = n := by omega
  refine ⟨by omega, by omega, by omega, by omega, ?_⟩
  rw [e0]
  refine k _ G1 H1 (YFn fun k => .int (0 + (n : Int) - 1 + (k : Nat) * (-1))) g (walk_rangeC.mono (fun _ _ => trivial) fun _ _ _ _ _ _ y => y) fun i H2 x H3 e y => ?_
  obtain ⟨rfl, rfl⟩ := y
  exact ⟨Ex.refl _, by show V.int (0 + (n : Int) - 1 + ((i : Nat) : Int) * (-1)) = V.int ((n : Int) - 1 - ((i : Nat) : Int)); congr 1; omega⟩
/-- a comprehension without tests: the i-th item is as Rs i tells -/
theorem ev_lc {wi : TI} {g : TG} {vs : List Nat} {Y : Nat → V → Hp → Hp → Prop} (Rs : List Pd) [m : MpL Rs] (hw : ItR wi σ G Rs.length Y) (hz : Rs.length ≤ sizeLine)
    (hs : ∀ i x P G1 H0, Rs[i]? = some P → Ex G G1 → Ex G1 H0 → Y i x G1 H0 → ∃ σ2, (∀ Q : L2.St → Hp → Prop, Q σ2 H0 → g x (wipe σ vs) H0 Q) ∧ wipe σ2 vs = wipe σ vs ∧ EvR te σ2 G1 P) :
    EvR (tLc wi g tYes te vs) σ G (rLs Rs) := fun G0 H a b Q k => hw G0 H a b _ fun J G1 H1 Y' g1 w hy D hD => by
  refine lc_it w (fun i H' => ∃ G' ys, Ex G1 G' ∧ Ex G' H' ∧ Ex H1 H' ∧ (∀ a, G1 a = none → H1 a ≠ none → G' a = none) ∧ G' D = none ∧ H' D = some (.lst ys) ∧ Args (Rs.take i) ys G') ?_ (fun i H' _ ⟨G', ys, h1, h2, _⟩ => h1.trans h2) ?_ ?_
  · exact ⟨G1, [], Ex.refl _, g1.gh.trans (Ex.new hD), Ex.new hD, fun _ q _ => q, g1.gh.free hD, upd_same, by rw [List.take_zero]; exact .nil⟩
  · rintro i x H2 H3 hi ⟨G', ys, h1, h2, h3, h4, h5, h6, h7⟩ y
    obtain ⟨e23, y⟩ := hy i H2 x H3 (h1.trans h2) y
    obtain ⟨P, hP⟩ : ∃ P, Rs[i]? = some P := ⟨_, List.getElem?_eq_getElem hi⟩
    have lp := paired_len h7
    rw [List.length_take] at lp
    obtain ⟨σ2, q1, q2, q3⟩ := hs i x P G1 H3 hP (a.trans g1.gg) (h1.trans (h2.trans e23)) y
    refine q1 _ ⟨q2, ?_⟩
    refine q3 G' H3 h1 (h2.trans e23) _ fun v G4 H4 g4 p4 => ?_
    have hD3 : H3 D = some (.lst ys) := e23 _ _ h6
    have hD4 : G4 D = none := g4.out D h5 (by rw [hD3]; exact fun z => nomatch z)
    refine ⟨ys, g4.hh _ _ hD3, by omega, G4, ys ++ [v], h1.trans g4.gg, g4.gh.mut hD4, ((h3.trans e23).trans g4.hh).mut hD, fun c hc hn => g4.out c (h4 c hc hn) fun z => hn ((h3.trans e23).free z), hD4, upd_same, ?_⟩
    rw [List.take_add_one, hP]
    exact paired_app (h7.mo ⟨fun q hq => m.mp q (List.mem_of_mem_take hq)⟩ g4.gg) (.cons p4 .nil)
  · rintro H' ⟨G', ys, h1, h2, h3, h4, h5, h6, h7⟩
    rw [List.take_length] at h7
    refine k _ (upd G' D (.lst ys)) H' (g1.trans ⟨h1.trans (Ex.new h5), h3, fun c o q => ?_, fun c hc hn => ?_⟩) ⟨D, ys, rfl, upd_same, h7.mo m (Ex.new h5)⟩
    · by_cases hcD : c = D
      · subst hcD
        rw [upd_same] at q
        rw [← q]
        exact h6
      · rw [upd_ne hcD] at q
        exact h2 c o q
    · rw [upd_ne fun z => hn (by rw [z]; exact hD)]
      exact h4 c hc hn
/-- a for: Pv by what is known at its start, the turn, the slots, the heap -/
theorem s_for {wi : TI} {g : TG} {tb : TS} {D : Ends} {H : Hp} {n : Nat} {Y : Nat → V → Hp → Hp → Prop} (hw : ItR wi σ G n Y) (e : Ex G H) (Pv : Hp → Nat → L2.St → Hp → Prop)
    (h0 : ∀ G1 H1, Gr G H G1 H1 → Pv G1 0 σ H1) (hG : ∀ G1 i σ' H', Pv G1 i σ' H' → Ex G1 H')
    (hs : ∀ G1 i x σ' H' H2, Ex G G1 → i < n → Pv G1 i σ' H' → Ex H' H2 → Y i x G1 H2 → g x σ' H2 fun σ2 H3 => tb { D with nx := Pv G1 (i + 1), ct := Pv G1 (i + 1), bk := D.nx } σ2 H3)
    (hd : ∀ G1 σ' H', Pv G1 n σ' H' → D.nx σ' H') : tFor wi g tb D σ H := hw G H (Ex.refl G) e _ fun J G1 H1 Y' g1 w hy =>
  for_it w (Pv G1) (h0 G1 H1 g1) (fun i σ' H' _ p => hG G1 i σ' H' p) (fun i x σ' H' H2 hi p y => let ⟨e2, y'⟩ := hy i H' x H2 (hG G1 i σ' H' p) y; hs G1 i x σ' H' H2 g1.gg hi p e2 y') (hd G1)
end
end LS
/-! Defs of the text as they stand behind the top; a def's promise by its body. -/
namespace LS
open PySem PySem.Spec PyProof.Rows L2
/-- the i-th statement of the program -/
def top (i : Nat) : Stmt := PySem.Challenge.pw_leastseams_s01_answers.main.body.getD i (.Pass ⟨0, 0, 0, 0⟩)
/-- what the top leaves of names: built-ins that are still so -/
structure Txt (mg : Str → Option Value) : Prop where
  len : mg "len" = none
  range : mg "range" = none
  zip : mg "zip" = none
  enumerate : mg "enumerate" = none
  max : mg "max" = none
  min : mg "min" = none
  abs : mg "abs" = none
  list : mg "list" = none
  reversed : mg "reversed" = none
/-- the def st of the text stands at its name -/
structure Df (K : PySem.W.Frag) (mg : Str → Option Value) (x : Str) (st : Stmt) (ps : List Str) : Prop where
  ex : ∃ (f : Addr) (fd : FuncData), Fun K x x st f fd ∧ mg x = some (.ref f) ∧ Binds K fd ps []
/-- the name x stands for a def that keeps sp -/
structure Cal (P : Program) (w : World) (K : PySem.W.Frag) (mg : Str → Option Value) (base : Heap) (k : Nat) (x : Str) (sp : Sp) : Prop where
  ex : ∃ (f : Addr) (fd : FuncData) (ps : List Str), FnOk P w K mg base CX0 k f fd ps sp ∧ mg x = some (.ref f) ∧ PySem.W.keepIn K (.ref f) = true ∧ Binds K fd ps []
theorem pe_cal {X : Cx} {k : Nat} {x : Str} {sp : Sp} {p pos : Pos} {e : Expr} {es : List Expr} {t : TA} (c : Cal X.prog X.w X.K X.mg X.base k x sp) (hr : Room k X.A) (hg : Gl X x)
    (as : PA X (e :: es) t) (nd : (x == ("__debug__" : Str)) = false := by decide)
    (n1 : starEach (e :: es) X.env = (false, eval e X.env) :: starEach es X.env := by rfl) (n2 : (backTo pos (starEach es X.env)).any (fun q => q.1) = false := by rfl) :
    PE X (.Call (.Name x p) (e :: es) [] pos) (tCall sp [] E0 t) := by
  obtain ⟨f, fd, ps, F, hm, hk, hb⟩ := c.ex
  exact pe_call F hr hg hm hk hb .nil pass0 as nd n1 n2
section
variable {P : Program} {w : World} {K : PySem.W.Frag} {mg : Str → Option Value} {base : Heap}
/-- any def, by its body -/
theorem mk_any {x : Str} {st : Stmt} {ps N : List Str} {k : Nat} {sp : Sp} (d : Df K mg x st ps) (S : FnScope N ps (defScope st)) (hl : ∀ vs H Q E, sp vs H Q E → vs.length = ps.length)
    (body : ∀ (f : Addr) (cdv : Value) (A : Around) (outer : List Env) (s : Shared) (H : Hp) (E : XK), Room k (A.deeper (envOfC x (defScope st) s.heap.objs.size f cdv)) →
      ∃ t : TS, PSs (cxOf CX0 P w K mg base N x (defScope st) f cdv A outer s H E).nox (defBody st) t ∧ ∀ vs Q, sp vs H Q E → t { nx := fun _ H' => Q .non H', rt := Q } (start N vs) H) : Cal P w K mg base (k + 1) x sp := by
  obtain ⟨f, fd, F, hm, hb⟩ := d.ex
  refine ⟨f, fd, ps, F.ok S hl fun cdv A outer s H vs Q E hr h => ?_, hm, F.kp, hb⟩
  obtain ⟨t, h1, h2⟩ := body f cdv A outer s H E hr
  exact ⟨t, h1, h2 vs Q h⟩
/-- a def that changes nothing -/
theorem mk_pure {x : Str} {st : Stmt} {ps N : List Str} {k : Nat} {α : Type} {args : α → List Pd} {pre : α → Prop} {res : α → Pd} (d : Df K mg x st ps) (S : FnScope N ps (defScope st)) (hl : ∀ y, (args y).length = ps.length)
    (body : ∀ (f : Addr) (cdv : Value) (A : Around) (outer : List Env) (s : Shared) (H : Hp) (E : XK), Room k (A.deeper (envOfC x (defScope st) s.heap.objs.size f cdv)) →
      ∃ t : TS, PSs (cxOf CX0 P w K mg base N x (defScope st) f cdv A outer s H E).nox (defBody st) t ∧
        ∀ (y : α) (vs : List V) (G H : Hp) (Q : VK), pre y → Args (args y) vs G → Ex G H → (∀ v G' H', Gr G H G' H' → res y v G' → Q v H') → t { nx := fun _ H' => Q .non H', rt := Q } (start N vs) H) :
    Cal P w K mg base (k + 1) x (PureF args pre res) := by
  refine mk_any d S (fun vs H Q E h => ?_) fun f cdv A outer s H E hr => ?_
  · obtain ⟨y, G, _, _, h, _⟩ := h
    rw [← paired_len h, hl]
  · obtain ⟨t, h1, h2⟩ := body f cdv A outer s H E hr
    exact ⟨t, h1, fun vs Q ⟨y, G, e, p, a, q⟩ => h2 y vs G H Q p a e q⟩
end
theorem args3 {P1 P2 P3 : Pd} {vs : List V} {G : Hp} (h : Args [P1, P2, P3] vs G) : ∃ x y z, vs = [x, y, z] ∧ P1 x G ∧ P2 y G ∧ P3 z G := by
  cases h with
  | cons p t =>
    obtain ⟨y, z, rfl, q, r⟩ := args2 t
    exact ⟨_, _, _, rfl, p, q, r⟩
theorem args4 {P1 P2 P3 P4 : Pd} {vs : List V} {G : Hp} (h : Args [P1, P2, P3, P4] vs G) : ∃ x y z u, vs = [x, y, z, u] ∧ P1 x G ∧ P2 y G ∧ P3 z G ∧ P4 u G := by
  cases h with
  | cons p t =>
    obtain ⟨y, z, u, rfl, q, r, s⟩ := args3 t
    exact ⟨_, _, _, _, rfl, p, q, r, s⟩
theorem args_1 {P1 : Pd} {vs : List V} {G : Hp} (h : Args [P1] vs G) : ∃ x, vs = [x] ∧ P1 x G := by
  cases h with
  | cons p t =>
    cases t
    exact ⟨_, rfl, p⟩
/-! ### readings in short -/
abbrev qAdd (a b : TE) : TE := tOp (rI0 fun i j => .int (i + j)) a b
abbrev qSub (a b : TE) : TE := tOp (rI0 fun i j => .int (i - j)) a b
abbrev qCat (a b : TE) : TE := tOp rCat a b
abbrev qIx (K : PySem.W.Frag) (a b : TE) : TE := tOp (rIxL K) a b
abbrev qIxT (K : PySem.W.Frag) (a b : TE) : TE := tOp (rIxT K) a b
abbrev qSl (K : PySem.W.Frag) (a : TE) (lo hi : TO) : TE := tSl (rSlL K) a lo hi
abbrev qLen (K : PySem.W.Frag) (a : TE) : TE := tCB (fun xs H Q => ∃ p ys, xs = [V.ref p] ∧ (SqL K H p ys ∨ SqT K H p ys) ∧ Q (.int (ys.length : Nat)) H) (tCons a tNil)
abbrev qLt : R2 := rI0 fun i j => .bl (decide (i < j))
abbrev qLe : R2 := rI0 fun i j => .bl (decide (i ≤ j))
abbrev qGt : R2 := rI0 fun i j => .bl (decide (j < i))
abbrev qGe : R2 := rI0 fun i j => .bl (decide (j ≤ i))
/-! ### walks over lists of one kind -/
theorem map_ix {α : Type} {R : α → Pd} {xs : List α} {i : Nat} {x : α} (h : xs[i]? = some x) : (xs.map R)[i]? = some (R x) := by
  rw [List.getElem?_map, h]
  rfl
theorem map_ix' {α : Type} {R : α → Pd} {xs : List α} {i : Nat} {P : Pd} (h : (xs.map R)[i]? = some P) : ∃ x, xs[i]? = some x ∧ P = R x := by
  rw [List.getElem?_map] at h
  cases e : xs[i]? with
  | none =>
    rw [e] at h
    cases h
  | some x =>
    rw [e] at h
    exact ⟨x, rfl, (Option.some.inj h).symm⟩
def YM {α : Type} (R : α → Pd) (xs : List α) : Nat → V → Hp → Hp → Prop := fun i v G _ => ∃ x, xs[i]? = some x ∧ R x v G
def YEM {α : Type} (R : α → Pd) (xs : List α) : Nat → V → Hp → Hp → Prop := fun i v G H => ∃ T y x, v = .ref T ∧ H T = some (.tup [.int (i : Nat), y]) ∧ xs[i]? = some x ∧ R x y G
def YZM {α β : Type} (R : α → Pd) (S : β → Pd) (xs : List α) (ys : List β) : Nat → V → Hp → Hp → Prop := fun i v G H => ∃ T u u' x y, v = .ref T ∧ H T = some (.tup [u, u']) ∧ xs[i]? = some x ∧ ys[i]? = some y ∧ R x u G ∧ S y u' G
theorem ItR.imp {wi : TI} {σ : L2.St} {G : Hp} {n m : Nat} {Y Y' : Nat → V → Hp → Hp → Prop} (h : ItR wi σ G n Y) (e : n = m) (k : ∀ i x G H, Y i x G H → Y' i x G H) : ItR wi σ G m Y' := by
  subst e
  exact fun G0 H a b R q => h G0 H a b R fun J G' H' W g w hy => q J G' H' W g w fun i H1 x H2 e y => ⟨(hy i H1 x H2 e y).1, k _ _ _ _ (hy i H1 x H2 e y).2⟩
section
variable {K : PySem.W.Frag} {σ : L2.St} {G : Hp} {te ta tb : TE} {α β : Type} {R : α → Pd} {S : β → Pd} {xs : List α} {ys : List β}
theorem it_listL (h : EvR te σ G (rL R xs)) : ItR (iList K te) σ G xs.length (YM R xs) := (it_list h).imp (List.length_map _) fun i v G H ⟨P, h1, h2⟩ => by
  obtain ⟨x, h3, rfl⟩ := map_ix' h1
  exact ⟨x, h3, h2⟩
theorem it_enumL (h : EvR te σ G (rL R xs)) : ItR (iEnum K (tCons te tNil)) σ G xs.length (YEM R xs) := (it_enum h).imp (List.length_map _) fun i v G H ⟨T, y, P, h0, h1, h2, h3⟩ => by
  obtain ⟨x, h4, rfl⟩ := map_ix' h2
  exact ⟨T, y, x, h0, h1, h4, h3⟩
theorem it_zipL [∀ x, Mp (R x)] (h : EvR ta σ G (rL R xs)) (h' : EvR tb σ G (rL S ys)) : ItR (iZip K (tCons ta (tCons tb tNil))) σ G (min xs.length ys.length) (YZM R S xs ys) := (it_zip h h').imp (by rw [List.length_map, List.length_map]) fun i v G H ⟨T, y, z, P, Q, h0, h1, h2, h3, h4, h5⟩ => by
  obtain ⟨x, h6, rfl⟩ := map_ix' h2
  obtain ⟨x', h7, rfl⟩ := map_ix' h3
  exact ⟨T, y, z, x, x', h0, h1, h6, h7, h4, h5⟩
theorem ev_lcL {wi : TI} {g : TG} {vs : List Nat} {Y : Nat → V → Hp → Hp → Prop} [∀ y, Mp (S y)] {n : Nat} (hn : ys.length = n) (hw : ItR wi σ G n Y) (hz : n ≤ sizeLine)
    (hs : ∀ i x y G1 H0, ys[i]? = some y → Ex G G1 → Ex G1 H0 → Y i x G1 H0 → ∃ σ2, (∀ Q : L2.St → Hp → Prop, Q σ2 H0 → g x (wipe σ vs) H0 Q) ∧ wipe σ2 vs = wipe σ vs ∧ EvR te σ2 G1 (S y)) :
    EvR (tLc wi g tYes te vs) σ G (rL S ys) := by
  have e : (ys.map S).length = n := by rw [List.length_map, hn]
  refine ev_lc _ (hw.imp e.symm fun _ _ _ _ y => y) (by rw [e]; exact hz) fun i x P G1 H0 hP e1 e2 y => ?_
  obtain ⟨z, hz', rfl⟩ := map_ix' hP
  exact hs i x z G1 H0 hz' e1 e2 y
theorem ev_lenL (h : EvR te σ G (rL R xs)) [∀ x, Mp (R x)] : EvR (qLen K te) σ G (rNat xs.length) := by
  have := ev_len (K := K) h
  rw [List.length_map] at this
  exact this
theorem ev_ixM {j : Nat} {x : α} [∀ x, Mp (R x)] (ha : EvR ta σ G (rL R xs)) (hb : EvR tb σ G (rNat j)) (hi : xs[j]? = some x) : EvR (qIx K ta tb) σ G (R x) := ev_ixLn ha hb (map_ix hi)
theorem ev_sliceM {tl th : TO} {lo hi : Option Int} [∀ x, Mp (R x)] (ha : EvR te σ G (rL R xs)) (hl : EvO tl σ G lo) (hh : EvO th σ G hi) : EvR (qSl K te tl th) σ G (rL R (cut xs lo hi)) := by
  have := ev_slice (K := K) ha hl hh
  rw [cut_map] at this
  exact this
theorem ev_catM {zs : List α} [∀ x, Mp (R x)] (ha : EvR ta σ G (rL R xs)) (hb : EvR tb σ G (rL R zs)) (hz : xs.length + zs.length ≤ sizeLine) : EvR (qCat ta tb) σ G (rL R (xs ++ zs)) := by
  have := ev_cat ha hb (by rw [List.length_map, List.length_map]; exact hz)
  rw [← List.map_append] at this
  exact this
end
section
variable {te : TE} {c : TT} {i : Nat} {tu t u : TS} {D : Ends} {σ : L2.St} {G H : Hp} {P : Pd}
theorem s_asg (h : EvR te σ G P) (e : Ex G H) (k : ∀ v G' H', Gr G H G' H' → P v G' → tu D (σ.set i (some v)) H') : tSeq (tAsg te (gName i)) tu D σ H := h.run e k
theorem s_asgG {g : TG} (h : EvR te σ G P) (e : Ex G H) (k : ∀ v G' H', Gr G H G' H' → P v G' → g v σ H' (tu D)) : tSeq (tAsg te g) tu D σ H := h.run e k
theorem s_ret (h : EvR te σ G P) (e : Ex G H) (k : ∀ v G' H', Gr G H G' H' → P v G' → D.rt v H') : tRet te D σ H := h.run e k
theorem s_if {b : Bool} (h : EvT c σ G b) (e : Ex G H) (h1 : b = true → ∀ G' H', Gr G H G' H' → t { D with nx := tu D } σ H') (h2 : b = false → ∀ G' H', Gr G H G' H' → u { D with nx := tu D } σ H') : tSeq (tIfS c t u) tu D σ H := h.run e fun G' H' g => by
  cases b with
  | true => exact iteT (h1 rfl G' H' g)
  | false => exact iteF (h2 rfl G' H' g)
theorem s_drop (h : EvR te σ G P) (e : Ex G H) (k : ∀ v G' H', Gr G H G' H' → P v G' → tu D σ H') : tSeq (tDrop te) tu D σ H := h.run e k
end
/-! ### a list of the def's own that grows -/
structure Acc (G H : Hp) (l : Addr) (G' H' : Hp) (vs : List V) : Prop where
  gr : Gr G H G' H'
  hl : H l = none
  gl : G' l = none
  at_ : H' l = some (.lst vs)
section
variable {G H G' H' G2 H2 : Hp} {l : Addr} {vs : List V}
theorem Acc.start (e : Ex G H) (hl : H l = none) : Acc G H l G (upd H l (.lst vs)) vs := ⟨Gr.beside e (Ex.new hl), hl, e.free hl, upd_same⟩
theorem Acc.first {G1 H1 : Hp} (g : Gr G H G1 H1) (hl : H1 l = none) : Acc G H l G1 (upd H1 l (.lst vs)) vs := ⟨g.trans (Gr.beside g.gh (Ex.new hl)), g.hh.free hl, g.gh.free hl, upd_same⟩
theorem Acc.grow (a : Acc G H l G' H' vs) (g : Gr G' H' G2 H2) : Acc G H l G2 H2 vs := ⟨a.gr.trans g, a.hl, g.out l a.gl (by rw [a.at_]; exact fun z => nomatch z), g.hh _ _ a.at_⟩
theorem Ex.plus {o : HO} (e : Ex G H) (h : H l = some o) : Ex (upd G l o) H := fun a u q => by
  by_cases hp : a = l
  · subst hp
    rw [upd_same] at q
    rw [← q]
    exact h
  · rw [upd_ne hp] at q
    exact e a u q
theorem Acc.know (a : Acc G H l G' H' vs) : Ex (upd G' l (.lst vs)) H' := a.gr.gh.plus a.at_
theorem Acc.side (a : Acc G H l G' H' vs) (g : Gr (upd G' l (.lst vs)) H' G2 H2) : Acc G H l G' H2 vs := ⟨a.gr.trans (Gr.beside a.gr.gh g.hh), a.hl, a.gl, g.hh _ _ a.at_⟩
theorem Acc.put (a : Acc G H l G' H' vs) (ws : List V) : Acc G H l G' (upd H' l (.lst ws)) ws := ⟨⟨a.gr.gg, a.gr.hh.mut a.hl, a.gr.gh.mut a.gl, a.gr.out⟩, a.hl, a.gl, upd_same⟩
theorem Acc.done (a : Acc G H l G' H' vs) : Gr G H (upd G' l (.lst vs)) H' := ⟨a.gr.gg.trans (Ex.new a.gl), a.gr.hh, a.know, fun c hc hn => by
  rw [upd_ne fun z => hn (by rw [z]; exact a.hl)]
  exact a.gr.out c hc hn⟩
end
section
variable {K : PySem.W.Frag} {te : TE} {i j : Nat} {tu : TS} {D : Ends} {σ : L2.St} {G0 H0 G H : Hp} {P : Pd} {l : Addr} {vs : List V} {Ps : List Pd}
theorem s_app (ac : Acc G0 H0 l G H vs) (hσ : σ[i]? = some (some (.ref l))) (h : EvR te σ G P) (hz : vs.length < sizeLine) (k : ∀ v G' H', Acc G0 H0 l G' H' (vs ++ [v]) → Ex G G' → P v G' → D.nx σ H') : tDrop (tBM K "list" rAppend (tVar i) (tCons te tNil)) D σ H :=
  ⟨_, hσ, Or.inl ⟨rfl, vs, sqL_of ac.at_⟩, h.run ac.gr.gh fun v G1 H1 g p => ⟨l, vs, v, rfl, rfl, (ac.grow g).at_, hz, k v G1 _ ((ac.grow g).put _) g.gg p⟩⟩
/-- .. what is appended is reckoned by the list itself, and leans on no heap -/
theorem s_appS {n : Int} (ac : Acc G0 H0 l G H vs) (hσ : σ[i]? = some (some (.ref l))) (h : EvR te σ (upd G l (.lst vs)) (rInt n)) (hz : vs.length < sizeLine) (k : ∀ H', Acc G0 H0 l G H' (vs ++ [.int n]) → D.nx σ H') : tDrop (tBM K "list" rAppend (tVar i) (tCons te tNil)) D σ H :=
  ⟨_, hσ, Or.inl ⟨rfl, vs, sqL_of ac.at_⟩, h.run ac.know fun v G1 H1 g p => by
    cases p
    exact ⟨l, vs, .int n, rfl, rfl, (ac.side g).at_, hz, k _ ((ac.side g).put _)⟩⟩
theorem s_app2 (ac : Acc G0 H0 l G H vs) (hσ : σ[i]? = some (some (.ref l))) (h : EvR te σ G P) (hz : vs.length < sizeLine) (k : ∀ v G' H', Acc G0 H0 l G' H' (vs ++ [v]) → Ex G G' → P v G' → tu D σ H') : tSeq (tDrop (tBM K "list" rAppend (tVar i) (tCons te tNil))) tu D σ H := s_app (D := { D with nx := tu D }) ac hσ h hz k
theorem s_new {ta : TA} (h : EvA ta σ G Ps) (e : Ex G H) (hz : Ps.length ≤ sizeLine) (k : ∀ vs G1 H1 l, Gr G H G1 H1 → Args Ps vs G1 → H1 l = none → tu D (σ.set i (some (.ref l))) (upd H1 l (.lst vs))) : tSeq (tAsg (tLst ta) (gName i)) tu D σ H := h.run e fun vs G1 H1 g p =>
  ⟨by rw [← paired_len p]; exact hz, fun l hl => k vs G1 H1 l g p hl⟩
end
theorem zipr_ix {α : Type} (l : List α) (i : Nat) : ((List.range l.length).zip l)[i]? = (l[i]?).map fun x => (i, x) := by
  rcases Nat.lt_or_ge i l.length with h | h
  · have h1 : i < ((List.range l.length).zip l).length := by rw [List.length_zip, List.length_range, Nat.min_self]; exact h
    rw [List.getElem?_eq_getElem h1, List.getElem?_eq_getElem h, List.getElem_zip, List.getElem_range]
    rfl
  · rw [List.getElem?_eq_none (by rw [List.length_zip, List.length_range, Nat.min_self]; exact h), List.getElem?_eq_none h]
    rfl
theorem zip_ix {α β : Type} {l : List α} {m : List β} {i : Nat} {a : α} {b : β} (h : l[i]? = some a) (h' : m[i]? = some b) : (l.zip m)[i]? = some (a, b) := List.getElem?_zip_eq_some (z := (a, b)).mpr ⟨h, h'⟩
/-! ### pictures as values -/
open Sq46 (Pixel Picture)
def rPx (K : PySem.W.Frag) (p : Pixel) : Pd := rT K [rNat p.colour, rInt p.weight]
instance {K : PySem.W.Frag} {p : Pixel} : Mp (rPx K p) := inferInstanceAs (Mp (rT K [rNat p.colour, rInt p.weight]))
abbrev rRow (K : PySem.W.Frag) (r : List Pixel) : Pd := rL (rPx K) r
abbrev rPic (K : PySem.W.Frag) (p : Picture) : Pd := rL (rRow K) p
end LS
namespace LS
open PySem PySem.Spec PyProof.Rows L2
open Sq46 (Pixel Picture)
section
variable {P : Program} {w : World} {K : PySem.W.Frag} {mg : Str → Option Value} {base : Heap}
/-! wide -/
abbrev spWide (K : PySem.W.Frag) : Sp := PureF (fun p : Picture => [rPic K p]) (fun p => p ≠ []) (fun p => rNat p.wide)
theorem sc_wide : FnScope ["rows"] ["rows"] (defScope (top 5)) := ⟨rfl, rfl, rfl, by decide +kernel, rfl, by decide +kernel, by decide +kernel⟩
theorem c_wide (d : Df K mg "wide" (top 5) ["rows"]) (T : Txt mg) : Cal P w K mg base 1 "wide" (spWide K) := by
  have sc := sc_wide
  refine mk_pure d sc (fun _ => rfl) fun f cdv A outer s H E hr => ⟨_, (pss_one (ps_ret (pe_callB call_len_seq (by rfl) T.len PySem.boot_len (pa_cons (pe_ix ix_list (pv 0) pe_int (fun _ _ => rfl)) pa_nil)))), ?_⟩
  intro p vs G H Q hp ha e k
  obtain ⟨v, rfl, h0⟩ := args_1 ha
  cases p with
  | nil => exact absurd rfl hp
  | cons r p =>
    refine EvR.run (ev_len (Ps := r.map (rPx K)) (ev_ixLn (j := 0) (ev_var rfl h0) ev_int rfl)) e fun v G' H' g q => k v G' H' g ?_
    rw [List.length_map] at q
    exact q
/-! turned -/
abbrev spTurned (K : PySem.W.Frag) : Sp := PureF (fun p : Picture => [rPic K p]) (fun p => ∃ w h, Rect w h p) (fun p => rPic K (turnedP p))
theorem sc_turned : FnScope ["rows", "x", "row"] ["rows"] (defScope (top 7)) := ⟨rfl, rfl, rfl, by decide +kernel, rfl, by decide +kernel, by decide +kernel⟩
theorem c_turned (d : Df K mg "turned" (top 7) ["rows"]) (T : Txt mg) (c_wide : Cal P w K mg base 1 "wide" (spWide K)) : Cal P w K mg base 2 "turned" (spTurned K) := by
  have sc := sc_turned
  refine mk_pure d sc (fun _ => rfl) fun f cdv A outer s H E hr => ⟨_, (pss_one (ps_ret (pe_lc (own := [("x", 1)]) (g := (gName 1)) (te := (tLc (iList K (tVar 0)) (gName 2) tYes (qIx K (tVar 2) (tVar 1)) [2])) rfl sc.nd (pi_range1 rfl T.range (pa_cons (pe_cal c_wide (hr.mono (by decide)) rfl (pa_cons (pv 0) pa_nil)) pa_nil)) (blkOk_by (by kernel_rfl)) (fun _ _ _ _ _ => (pg_name (i := 1) sc.nd rfl (by first | exact Or.inl rfl | exact Or.inr rfl))) (fun _ _ _ _ _ => pts_nil) (fun _ _ _ _ _ => (pe_lc (own := [("row", 2)]) (wi := (iList K (tVar 0))) (g := (gName 2)) (te := (qIx K (tVar 2) (tVar 1))) rfl sc.nd (pi_list (pv 0)) (blkOk_by (by kernel_rfl)) (fun _ _ _ _ _ => (pg_name (i := 2) sc.nd rfl (by first | exact Or.inl rfl | exact Or.inr rfl))) (fun _ _ _ _ _ => pts_nil) (fun _ _ _ _ _ => (pe_ix ix_list (pv 2) (pv 1) (fun _ _ => rfl)))))))), ?_⟩
  rintro p vs G H Q ⟨w, h, R⟩ ha e k
  obtain ⟨v, rfl, h0⟩ := args_1 ha
  have hw := R.wide
  have hl : ((turnedP p).map (rRow K)).length = p.wide := by unfold turnedP; rw [List.length_map, List.length_map, List.length_range]
  refine EvR.run (P := rPic K (turnedP p)) (ev_lc (Y := YR fun i => (i : Nat)) _ ?_ ?_ ?_) e k
  · rw [hl]
    exact it_range1 (ev_call p (ea1 (ev_var rfl h0)) R.ne) (by have := R.w16; omega)
  · rw [hl, hw]
    exact Nat.le_trans R.w16 (by decide)
  · rintro i x P' G1 H0 hP e1 e2 rfl
    obtain ⟨r', hr', rfl⟩ := map_ix' hP
    refine ⟨_, fun Q q => q, rfl, ?_⟩
    unfold turnedP at hr'
    rw [List.getElem?_map] at hr'
    have hi : i < p.wide := by
      rcases Nat.lt_or_ge i p.wide with z | z
      · exact z
      · rw [List.getElem?_eq_none (by rw [List.length_range]; exact z)] at hr'
        cases hr'
    rw [List.getElem?_range hi] at hr'
    obtain rfl := Option.some.inj hr'
    have hl2 : ((p.map fun r => (r[i]?).getD ⟨0, 0⟩).map (rPx K)).length = p.length := by rw [List.length_map, List.length_map]
    refine ev_lc (Y := YL (p.map (rRow K))) _ ?_ ?_ ?_
    · rw [hl2]
      have := it_list (K := K) (Ps := p.map (rRow K)) (ev_var (σ := [some v, some (.int i), none]) (i := 0) rfl (mo e1 h0))
      rw [List.length_map] at this
      exact this
    · rw [hl2, R.hh]
      exact Nat.le_trans R.h16 (by decide)
    · rintro j y P2 G2 H2 hP2 e3 e4 ⟨P3, hP3, hy⟩
      refine ⟨_, fun Q q => q, rfl, ?_⟩
      obtain ⟨r, hr, rfl⟩ := map_ix' hP3
      obtain ⟨px, hpx, rfl⟩ := map_ix' hP2
      rw [List.getElem?_map, hr] at hpx
      obtain rfl := Option.some.inj hpx
      have hri : i < r.length := by rw [R.ww r (List.mem_of_getElem? hr), ← hw]; exact hi
      refine ev_ixLn (j := i) (Ps := r.map (rPx K)) (ev_var rfl hy) (ev_var rfl rfl) ?_
      rw [List.getElem?_map, List.getElem?_eq_getElem hri]
      show some (rPx K r[i]) = some (rPx K ((r[i]?).getD ⟨0, 0⟩))
      rw [List.getElem?_eq_getElem hri]
      rfl
/-! looked_at -/
abbrev spLookedAt (K : PySem.W.Frag) : Sp := PureF (fun (x : Picture × Nat) => [rPic K x.1, rNat x.2]) (fun x => ∃ w h, Rect w h x.1) (fun x => rPic K (seenP x.2 x.1))
theorem sc_looked_at : FnScope ["rows", "turn"] ["rows", "turn"] (defScope (top 8)) := ⟨rfl, rfl, rfl, by decide +kernel, rfl, by decide +kernel, by decide +kernel⟩
theorem c_looked_at (d : Df K mg "looked_at" (top 8) ["rows", "turn"]) (T : Txt mg) (c_turned : Cal P w K mg base 2 "turned" (spTurned K)) : Cal P w K mg base 3 "looked_at" (spLookedAt K) := by
  have sc := sc_looked_at
  refine mk_pure d sc (fun _ => rfl) fun f cdv A outer s H E hr => ⟨_, (pss_one (ps_ret (pe_ifExp (pt_cmpR op_eq (pv 1) pe_int (nomark _)) (pe_cal c_turned (hr.mono (by decide)) rfl (pa_cons (pv 0) pa_nil)) (pv 0)))), ?_⟩
  rintro ⟨p, t⟩ vs G H Q hp ha e k
  obtain ⟨v, u, rfl, h0, h1⟩ := args2 ha
  refine EvR.run (P := rPic K (seenP t p)) (ev_if (b := decide ((t : Int) = 1)) (et_test (ev_eq (ev_var rfl h1) ev_int)) (fun hb => ?_) (fun hb => ?_)) e k
  · have ht : t = 1 := by have := of_decide_eq_true hb; omega
    refine (ev_call p (ea1 (ev_var rfl h0)) hp).is ?_
    unfold seenP
    rw [if_pos ht]
  · have ht : ¬ t = 1 := by have := of_decide_eq_false hb; omega
    refine (ev_var rfl h0).is ?_
    unfold seenP
    rw [if_neg ht]
end
end LS
namespace LS
open PySem PySem.Spec PyProof.Rows L2
open Sq46 (Pixel Picture)
section
variable {P : Program} {w : World} {K : PySem.W.Frag} {mg : Str → Option Value} {base : Heap}
/-! weighed_row -/
abbrev spWeighedRow (K : PySem.W.Frag) : Sp := PureF (fun (x : List Pixel × Nat × Nat × Int) => [rRow K x.1, rNat x.2.1, rNat x.2.2.1, rInt x.2.2.2]) (fun x => x.1.length ≤ 16) (fun x => rRow K (weighedRowP x.1 x.2.1 x.2.2.1 x.2.2.2))
theorem sc_weighed_row : FnScope ["row", "begin", "width", "weight", "x", "colour", "old"] ["row", "begin", "width", "weight"] (defScope (top 9)) := ⟨rfl, rfl, rfl, by decide +kernel, rfl, by decide +kernel, by decide +kernel⟩
theorem c_weighed_row (d : Df K mg "weighed_row" (top 9) ["row", "begin", "width", "weight"]) (T : Txt mg) : Cal P w K mg base 1 "weighed_row" (spWeighedRow K) := by
  have sc := sc_weighed_row
  refine mk_pure d sc (fun _ => rfl) fun f cdv A outer s H E hr => ⟨_, (pss_one (ps_ret (pe_lc (own := [("x", 4), ("colour", 5), ("old", 6)]) (g := (gTup K 2 (gCons (gName 4) (gCons (gTup K 2 (gCons (gName 5) (gCons (gName 6) gNil))) gNil)))) (te := (tTup (tCons (tVar 5) (tCons (tIf (tTest (tChain qLe qLt (tVar 1) (tVar 4) (qAdd (tVar 1) (tVar 2)))) (tVar 3) (tVar 6)) tNil)))) rfl sc.nd (pi_enum rfl T.enumerate (pa_cons (pv 0) pa_nil)) (blkOk_by (by kernel_rfl)) (fun _ _ _ _ _ => (pg_tup rfl (pgs_cons (pg_name (i := 4) sc.nd rfl (by first | exact Or.inl rfl | exact Or.inr rfl)) (pgs_cons (pg_tup rfl (pgs_cons (pg_name (i := 5) sc.nd rfl (by first | exact Or.inl rfl | exact Or.inr rfl)) (pgs_cons (pg_name (i := 6) sc.nd rfl (by first | exact Or.inl rfl | exact Or.inr rfl)) pgs_nil))) pgs_nil)))) (fun _ _ _ _ _ => pts_nil) (fun _ _ _ _ _ => (pe_tup (pa_cons (pv 5) (pa_cons (pe_ifExp (pt_chain op_le op_lt (pv 1) (pv 4) (pe_op op_add (pv 1) (pv 2))) (pv 3) (pv 6)) pa_nil))))))), ?_⟩
  rintro ⟨r, b, wd, wt⟩ vs G H Q hp ha e k
  obtain ⟨v, v1, v2, v3, rfl, h0, h1, h2, h3⟩ := args4 ha
  have hz : r.length ≤ 16 := hp
  refine EvR.run (P := rRow K (weighedRowP r b wd wt)) (ev_lcL (n := r.length) (by unfold weighedRowP; rw [List.length_map, List.length_zip, List.length_range, Nat.min_self]) (it_enumL (ev_var rfl h0)) (Nat.le_trans hz (by decide)) ?_) e k
  rintro i x px G1 H0 hP e1 e2 ⟨T, y, q, rfl, hT, hq, a, us, rfl, ha, hus⟩
  obtain ⟨c, o, rfl, hc, ho⟩ := args2 hus
  refine ⟨[some v, some v1, some v2, some v3, some (.int (i : Nat)), some c, some o], fun Q z => ⟨T, _, rfl, sqT_of hT, rfl, _, _, rfl, _, _, rfl, a, _, rfl, e2.sqT ha, rfl, _, _, rfl, _, _, rfl, rfl, rfl, z⟩, rfl, ?_⟩
  unfold weighedRowP at hP
  rw [List.getElem?_map, zipr_ix, hq] at hP
  have hP : (if b ≤ i ∧ i < b + wd then { q with weight := wt } else q) = px := Option.some.inj hP
  have htup : EvR (tTup (tCons (tVar 5) (tCons (tIf (tTest (tChain qLe qLt (tVar 1) (tVar 4) (qAdd (tVar 1) (tVar 2)))) (tVar 3) (tVar 6)) tNil))) [some v, some v1, some v2, some v3, some (.int (i : Nat)), some c, some o] G1 (rT K [rNat q.colour, rInt (if b ≤ i ∧ i < b + wd then wt else q.weight)]) := by
    refine ev_tup (ea2 (ev_var rfl hc) (ev_if (b := (decide ((b : Int) ≤ (i : Nat))) && decide (((i : Nat) : Int) < (b : Int) + (wd : Int))) (et_test (ev_chain (f := fun i j => decide (i ≤ j)) (f' := fun i j => decide (i < j)) (ev_var rfl (mo e1 h1)) (ev_var rfl rfl) (ev_add (ev_var rfl (mo e1 h1)) (ev_var rfl (mo e1 h2))))) (fun hb => ?_) (fun hb => ?_))) (by show 2 ≤ sizeLine; decide)
    · refine (ev_var rfl (mo e1 h3)).is ?_
      rw [if_pos (by simp at hb; omega)]
    · refine (ev_var rfl ho).is ?_
      rw [if_neg (by simp at hb; omega)]
  refine htup.is ?_
  subst hP
  unfold rPx
  by_cases hc : b ≤ i ∧ i < b + wd
  · rw [if_pos hc, if_pos hc]
  · rw [if_neg hc, if_neg hc]
/-! weighed -/
abbrev spWeighed (K : PySem.W.Frag) : Sp := PureF (fun (x : Picture × (Nat × Nat) × (Nat × Nat) × Int) => [rPic K x.1, rT K [rNat x.2.1.1, rNat x.2.1.2], rT K [rNat x.2.2.1.1, rNat x.2.2.1.2], rInt x.2.2.2]) (fun x => ∃ w h, Rect w h x.1) (fun x => rPic K (weighedP x.1 x.2.1.1 x.2.1.2 x.2.2.1.1 x.2.2.1.2 x.2.2.2))
theorem sc_weighed : FnScope ["rows", "corner", "sides", "weight", "begin", "first", "width", "height", "y", "row"] ["rows", "corner", "sides", "weight"] (defScope (top 10)) := ⟨rfl, rfl, rfl, by decide +kernel, rfl, by decide +kernel, by decide +kernel⟩
theorem c_weighed (d : Df K mg "weighed" (top 10) ["rows", "corner", "sides", "weight"]) (T : Txt mg) (c_weighed_row : Cal P w K mg base 1 "weighed_row" (spWeighedRow K)) : Cal P w K mg base 2 "weighed" (spWeighed K) := by
  have sc := sc_weighed
  refine mk_pure d sc (fun _ => rfl) fun f cdv A outer s H E hr => ⟨_, (pss_cons (ps_asg (pv 1) (pg_tup rfl (pgs_cons (pg_name (i := 4) sc.nd rfl (by first | exact Or.inl rfl | exact Or.inr rfl)) (pgs_cons (pg_name (i := 5) sc.nd rfl (by first | exact Or.inl rfl | exact Or.inr rfl)) pgs_nil)))) (pss_cons (ps_asg (pv 2) (pg_tup rfl (pgs_cons (pg_name (i := 6) sc.nd rfl (by first | exact Or.inl rfl | exact Or.inr rfl)) (pgs_cons (pg_name (i := 7) sc.nd rfl (by first | exact Or.inl rfl | exact Or.inr rfl)) pgs_nil)))) (pss_one (ps_ret (pe_lc (own := [("y", 8), ("row", 9)]) (g := (gTup K 2 (gCons (gName 8) (gCons (gName 9) gNil)))) (te := (tIf (tTest (tChain qLe qLt (tVar 5) (tVar 8) (qAdd (tVar 5) (tVar 7)))) (tCall (spWeighedRow K) [] E0 (tCons (tVar 9) (tCons (tVar 4) (tCons (tVar 6) (tCons (tVar 3) tNil))))) (tVar 9))) rfl sc.nd (pi_enum rfl T.enumerate (pa_cons (pv 0) pa_nil)) (blkOk_by (by kernel_rfl)) (fun _ _ _ _ _ => (pg_tup rfl (pgs_cons (pg_name (i := 8) sc.nd rfl (by first | exact Or.inl rfl | exact Or.inr rfl)) (pgs_cons (pg_name (i := 9) sc.nd rfl (by first | exact Or.inl rfl | exact Or.inr rfl)) pgs_nil)))) (fun _ _ _ _ _ => pts_nil) (fun _ _ _ _ _ => (pe_ifExp (pt_chain op_le op_lt (pv 5) (pv 8) (pe_op op_add (pv 5) (pv 7))) (pe_cal c_weighed_row (hr.mono (by decide)) rfl (pa_cons (pv 9) (pa_cons (pv 4) (pa_cons (pv 6) (pa_cons (pv 3) pa_nil))))) (pv 9)))))))), ?_⟩
  rintro ⟨p, ⟨x, y⟩, ⟨wd, ht⟩, wt⟩ vs G H Q ⟨w0, hh0, R⟩ ha e k
  obtain ⟨v, v1, v2, v3, rfl, h0, ⟨a, us, rfl, sa, hus⟩, ⟨a', us', rfl, sa', hus'⟩, h3⟩ := args4 ha
  obtain ⟨u1, u2, rfl, k1, k2⟩ := args2 hus
  obtain ⟨u1', u2', rfl, k1', k2'⟩ := args2 hus'
  refine ⟨_, rfl, a, _, rfl, e.sqT sa, rfl, _, _, rfl, _, _, rfl, rfl, ?_⟩
  refine ⟨_, rfl, a', _, rfl, e.sqT sa', rfl, _, _, rfl, _, _, rfl, rfl, ?_⟩
  refine EvR.run (P := rPic K (weighedP p x y wd ht wt)) (ev_lcL (n := p.length) (by unfold weighedP; rw [List.length_map, List.length_zip, List.length_range, Nat.min_self]) (it_enumL (ev_var rfl h0)) (by rw [R.hh]; exact Nat.le_trans R.h16 (by decide)) ?_) e k
  rintro i it r G1 H0 hP e1 e2 ⟨T, yv, q, rfl, hT, hq, hyv⟩
  refine ⟨[some v, some (.ref a), some (.ref a'), some v3, some u1, some u2, some u1', some u2', some (.int (i : Nat)), some yv], fun Q z => ⟨T, _, rfl, sqT_of hT, rfl, _, _, rfl, _, _, rfl, rfl, z⟩, rfl, ?_⟩
  unfold weighedP at hP
  rw [List.getElem?_map, zipr_ix, hq] at hP
  have hP : (if y ≤ i ∧ i < y + ht then weighedRowP q x wd wt else q) = r := Option.some.inj hP
  refine ev_if (b := (decide ((y : Int) ≤ (i : Nat))) && decide (((i : Nat) : Int) < (y : Int) + (ht : Int))) (et_test (ev_chain (f := fun i j => decide (i ≤ j)) (f' := fun i j => decide (i < j)) (ev_var rfl (mo e1 k2)) (ev_var rfl rfl) (ev_add (ev_var rfl (mo e1 k2)) (ev_var rfl (mo e1 k2'))))) (fun hb => ?_) (fun hb => ?_)
  · rw [if_pos (by simp at hb; omega)] at hP
    subst hP
    exact ev_call (q, x, wd, wt) (ea_cons (ev_var rfl hyv) (ea3 (ev_var rfl (mo e1 k1)) (ev_var rfl (mo e1 k1')) (ev_var rfl (mo e1 h3)))) (by show q.length ≤ 16; rw [R.ww q (List.mem_of_getElem? hq)]; exact R.w16)
  · rw [if_neg (by simp at hb; omega)] at hP
    subst hP
    exact ev_var rfl hyv
/-! colours_in -/
abbrev spColoursIn (K : PySem.W.Frag) : Sp := PureF (fun (x : List Pixel) => [rRow K x]) (fun x => x.length ≤ 16) (fun x => rL rNat (x.map fun c => c.colour))
theorem sc_colours_in : FnScope ["row", "colour", "weight"] ["row"] (defScope (top 11)) := ⟨rfl, rfl, rfl, by decide +kernel, rfl, by decide +kernel, by decide +kernel⟩
theorem c_colours_in (d : Df K mg "colours_in" (top 11) ["row"]) (T : Txt mg) : Cal P w K mg base 1 "colours_in" (spColoursIn K) := by
  have sc := sc_colours_in
  refine mk_pure d sc (fun _ => rfl) fun f cdv A outer s H E hr => ⟨_, (pss_one (ps_ret (pe_lc (own := [("colour", 1), ("weight", 2)]) (g := (gTup K 2 (gCons (gName 1) (gCons (gName 2) gNil)))) (te := (tVar 1)) rfl sc.nd (pi_list (pv 0)) (blkOk_by (by kernel_rfl)) (fun _ _ _ _ _ => (pg_tup rfl (pgs_cons (pg_name (i := 1) sc.nd rfl (by first | exact Or.inl rfl | exact Or.inr rfl)) (pgs_cons (pg_name (i := 2) sc.nd rfl (by first | exact Or.inl rfl | exact Or.inr rfl)) pgs_nil)))) (fun _ _ _ _ _ => pts_nil) (fun _ _ _ _ _ => (pv 1))))), ?_⟩
  rintro r vs G H Q hp ha e k
  obtain ⟨v, rfl, h0⟩ := args_1 ha
  refine EvR.run (P := rL rNat (r.map fun c => c.colour)) (ev_lcL (n := r.length) (List.length_map _) (it_listL (ev_var rfl h0)) (Nat.le_trans hp (by decide)) ?_) e k
  rintro i x c G1 H0 hP e1 e2 ⟨q, hq, a, us, rfl, ha, hus⟩
  obtain ⟨u, o, rfl, hc, ho⟩ := args2 hus
  refine ⟨[some v, some u, some o], fun Q z => ⟨a, _, rfl, e2.sqT ha, rfl, _, _, rfl, _, _, rfl, rfl, z⟩, rfl, ?_⟩
  rw [List.getElem?_map, hq] at hP
  obtain rfl := Option.some.inj hP
  exact ev_var rfl hc
/-! without -/
abbrev spWithout (K : PySem.W.Frag) : Sp := PureF (fun (x : Picture × List Nat) => [rPic K x.1, rL rNat x.2]) (fun x => x.1.length ≤ 16 ∧ ∀ r ∈ x.1, r.length ≤ 16) (fun x => rPic K (Sq46.without x.1 x.2))
theorem erase_cut {α : Type} (l : List α) (n : Nat) : l.take n ++ l.drop (n + 1) = l.eraseIdx n := (List.eraseIdx_eq_take_drop_succ l n).symm
theorem sc_without : FnScope ["rows", "seam", "row", "x"] ["rows", "seam"] (defScope (top 12)) := ⟨rfl, rfl, rfl, by decide +kernel, rfl, by decide +kernel, by decide +kernel⟩
theorem c_without (d : Df K mg "without" (top 12) ["rows", "seam"]) (T : Txt mg) : Cal P w K mg base 1 "without" (spWithout K) := by
  have sc := sc_without
  refine mk_pure d sc (fun _ => rfl) fun f cdv A outer s H E hr => ⟨_, (pss_one (ps_ret (pe_lc (own := [("row", 2), ("x", 3)]) (g := (gTup K 2 (gCons (gName 2) (gCons (gName 3) gNil)))) (te := (qCat (qSl K (tVar 2) tNoPart (tPart (tVar 3))) (qSl K (tVar 2) (tPart (qAdd (tVar 3) (tC (.int 1)))) tNoPart))) rfl sc.nd (pi_zip rfl T.zip (pa_cons (pv 0) (pa_cons (pv 1) pa_nil))) (blkOk_by (by kernel_rfl)) (fun _ _ _ _ _ => (pg_tup rfl (pgs_cons (pg_name (i := 2) sc.nd rfl (by first | exact Or.inl rfl | exact Or.inr rfl)) (pgs_cons (pg_name (i := 3) sc.nd rfl (by first | exact Or.inl rfl | exact Or.inr rfl)) pgs_nil)))) (fun _ _ _ _ _ => pts_nil) (fun _ _ _ _ _ => (pe_op op_cat (pe_slice sl_list (pv 2) po_none (po_some (pv 3))) (pe_slice sl_list (pv 2) (po_some (pe_op op_add (pv 3) pe_int)) po_none)))))), ?_⟩
  rintro ⟨p, sm⟩ vs G H Q ⟨hp, hp2⟩ ha e k
  obtain ⟨v, u, rfl, h0, h1⟩ := args2 ha
  refine EvR.run (P := rPic K (Sq46.without p sm)) (ev_lcL (n := min p.length sm.length) (by unfold Sq46.without; rw [List.length_map, List.length_zip]) (it_zipL (ev_var rfl h0) (ev_var rfl h1)) (by have : (p.length ≤ 16) := hp; exact Nat.le_trans (Nat.le_trans (Nat.min_le_left _ _) this) (by decide)) ?_) e k
  rintro i it r G1 H0 hP e1 e2 ⟨T, y, z, q, n, rfl, hT, hq, hn, hy, hz⟩
  refine ⟨[some v, some u, some y, some z], fun Q z => ⟨T, _, rfl, sqT_of hT, rfl, _, _, rfl, _, _, rfl, rfl, z⟩, rfl, ?_⟩
  have hP : q.eraseIdx n = r := by
    unfold Sq46.without at hP
    rw [List.getElem?_map, zip_ix hq hn] at hP
    exact Option.some.inj hP
  subst hP
  have hql : q.length ≤ 16 := hp2 q (List.mem_of_getElem? hq)
  have hcat := ev_catM (R := rPx K) (ev_sliceM (K := K) (ev_var (σ := [some v, some u, some y, some z]) (i := 2) rfl hy) eo_none (eo_some (ev_var (i := 3) rfl hz)))
    (ev_sliceM (K := K) (ev_var (σ := [some v, some u, some y, some z]) (i := 2) rfl hy) (eo_some (ev_add (ev_var (i := 3) rfl hz) (ev_int (n := 1)))) eo_none) ?_
  · refine hcat.is ?_
    rw [cut_to, show ((n : Int) + 1) = ((n + 1 : Nat) : Int) by omega, cut_from, erase_cut]
  · rw [cut_to, show ((n : Int) + 1) = ((n + 1 : Nat) : Int) by omega, cut_from, List.length_take, List.length_drop]
    exact Nat.le_trans (show _ ≤ 32 by omega) (by decide)
/-! pixels_at -/
abbrev spPixelsAt (K : PySem.W.Frag) : Sp := PureF (fun (x : Picture × List Nat) => [rPic K x.1, rL rNat x.2]) (fun x => x.1.length ≤ 16 ∧ ∀ (i : Nat) r n, x.1[i]? = some r → x.2[i]? = some n → n < r.length) (fun x => rL (rPx K) (Sq46.taken x.1 x.2))
theorem sc_pixels_at : FnScope ["rows", "seam", "row", "x"] ["rows", "seam"] (defScope (top 13)) := ⟨rfl, rfl, rfl, by decide +kernel, rfl, by decide +kernel, by decide +kernel⟩
theorem c_pixels_at (d : Df K mg "pixels_at" (top 13) ["rows", "seam"]) (T : Txt mg) : Cal P w K mg base 1 "pixels_at" (spPixelsAt K) := by
  have sc := sc_pixels_at
  refine mk_pure d sc (fun _ => rfl) fun f cdv A outer s H E hr => ⟨_, (pss_one (ps_ret (pe_lc (own := [("row", 2), ("x", 3)]) (g := (gTup K 2 (gCons (gName 2) (gCons (gName 3) gNil)))) (te := (qIx K (tVar 2) (tVar 3))) rfl sc.nd (pi_zip rfl T.zip (pa_cons (pv 0) (pa_cons (pv 1) pa_nil))) (blkOk_by (by kernel_rfl)) (fun _ _ _ _ _ => (pg_tup rfl (pgs_cons (pg_name (i := 2) sc.nd rfl (by first | exact Or.inl rfl | exact Or.inr rfl)) (pgs_cons (pg_name (i := 3) sc.nd rfl (by first | exact Or.inl rfl | exact Or.inr rfl)) pgs_nil)))) (fun _ _ _ _ _ => pts_nil) (fun _ _ _ _ _ => (pe_ix ix_list (pv 2) (pv 3) (fun _ _ => rfl)))))), ?_⟩
  rintro ⟨p, sm⟩ vs G H Q ⟨hp, hp2⟩ ha e k
  obtain ⟨v, u, rfl, h0, h1⟩ := args2 ha
  refine EvR.run (P := rL (rPx K) (Sq46.taken p sm)) (ev_lcL (n := min p.length sm.length) (by unfold Sq46.taken; rw [List.length_map, List.length_zip]) (it_zipL (ev_var rfl h0) (ev_var rfl h1)) (by have : (p.length ≤ 16) := hp; exact Nat.le_trans (Nat.le_trans (Nat.min_le_left _ _) this) (by decide)) ?_) e k
  rintro i it r G1 H0 hP e1 e2 ⟨T, y, z, q, n, rfl, hT, hq, hn, hy, hz⟩
  refine ⟨[some v, some u, some y, some z], fun Q z => ⟨T, _, rfl, sqT_of hT, rfl, _, _, rfl, _, _, rfl, rfl, z⟩, rfl, ?_⟩
  have hnl : n < q.length := hp2 i q n hq hn
  have hP : (q[n]?).getD ⟨0, 0⟩ = r := by
    unfold Sq46.taken at hP
    rw [List.getElem?_map, zip_ix hq hn] at hP
    exact Option.some.inj hP
  rw [List.getElem?_eq_getElem hnl] at hP
  refine ev_ixM (R := rPx K) (xs := q) (j := n) (ev_var rfl hy) (ev_var rfl hz) ?_
  rw [List.getElem?_eq_getElem hnl]
  exact congrArg some hP
/-! rows_of -/
abbrev spRowsOf (K : PySem.W.Frag) : Sp := PureF (fun (x : Nat × Nat × List Nat) => [rNat x.1, rL rNat x.2.2]) (fun x => 1 ≤ x.1 ∧ x.1 ≤ 16 ∧ x.2.1 ≤ 16 ∧ x.2.2.length = x.1 * x.2.1) (fun x => rPic K (rowsP x.1 x.2.1 x.2.2))
theorem rg_of {w n : Nat} (h1 : 1 ≤ w) (h2 : w ≤ 16) (h3 : n ≤ 16) : RgC 0 ((w * n : Nat) : Int) (w : Int) n := by
  have hw : w = 1 ∨ w = 2 ∨ w = 3 ∨ w = 4 ∨ w = 5 ∨ w = 6 ∨ w = 7 ∨ w = 8 ∨ w = 9 ∨ w = 10 ∨ w = 11 ∨ w = 12 ∨ w = 13 ∨ w = 14 ∨ w = 15 ∨ w = 16 := by omega
  have hn : n = 0 ∨ n = 1 ∨ n = 2 ∨ n = 3 ∨ n = 4 ∨ n = 5 ∨ n = 6 ∨ n = 7 ∨ n = 8 ∨ n = 9 ∨ n = 10 ∨ n = 11 ∨ n = 12 ∨ n = 13 ∨ n = 14 ∨ n = 15 ∨ n = 16 := by omega
  rcases hw with rfl | rfl | rfl | rfl | rfl | rfl | rfl | rfl | rfl | rfl | rfl | rfl | rfl | rfl | rfl | rfl <;> rcases hn with rfl | rfl | rfl | rfl | rfl | rfl | rfl | rfl | rfl | rfl | rfl | rfl | rfl | rfl | rfl | rfl | rfl <;> exact ⟨by decide, by decide, by decide, by decide⟩
theorem sc_rows_of : FnScope ["width", "colours", "pixels", "colour", "begin"] ["width", "colours"] (defScope (top 6)) := ⟨rfl, rfl, rfl, by decide +kernel, rfl, by decide +kernel, by decide +kernel⟩
theorem c_rows_of (d : Df K mg "rows_of" (top 6) ["width", "colours"]) (T : Txt mg) : Cal P w K mg base 1 "rows_of" (spRowsOf K) := by
  have sc := sc_rows_of
  refine mk_pure d sc (fun _ => rfl) fun f cdv A outer s H E hr => ⟨_, (pss_cons (ps_set (i := 2) sc.nd rfl (by first | exact Or.inl rfl | exact Or.inr rfl) (pe_lc (own := [("colour", 3)]) (g := (gName 3)) (te := (tTup (tCons (tVar 3) (tCons (tC (.int 0)) tNil)))) rfl sc.nd (pi_list (pv 1)) (blkOk_by (by kernel_rfl)) (fun _ _ _ _ _ => (pg_name (i := 3) sc.nd rfl (by first | exact Or.inl rfl | exact Or.inr rfl))) (fun _ _ _ _ _ => pts_nil) (fun _ _ _ _ _ => (pe_tup (pa_cons (pv 3) (pa_cons pe_int pa_nil)))))) (pss_one (ps_ret (pe_lc (own := [("begin", 4)]) (g := (gName 4)) (te := (qSl K (tVar 2) (tPart (tVar 4)) (tPart (qAdd (tVar 4) (tVar 0))))) rfl sc.nd (pi_range3 rfl T.range (pa_cons pe_int (pa_cons (pe_callB call_len_seq (by rfl) T.len PySem.boot_len (pa_cons (pv 2) pa_nil)) (pa_cons (pv 0) pa_nil)))) (blkOk_by (by kernel_rfl)) (fun _ _ _ _ _ => (pg_name (i := 4) sc.nd rfl (by first | exact Or.inl rfl | exact Or.inr rfl))) (fun _ _ _ _ _ => pts_nil) (fun _ _ _ _ _ => (pe_slice sl_list (pv 2) (po_some (pv 4)) (po_some (pe_op op_add (pv 4) (pv 0))))))))), ?_⟩
  rintro ⟨wd, n, l⟩ vs G H Q ⟨q1, q2, q3, q4⟩ ha e k
  obtain ⟨v, u, rfl, h0, h1⟩ := args2 ha
  have q1 : 1 ≤ wd := q1
  have q2 : wd ≤ 16 := q2
  have q3 : n ≤ 16 := q3
  have q4 : l.length = wd * n := q4
  have hl : l.length ≤ 256 := by rw [q4]; exact Nat.mul_le_mul q2 q3
  refine s_asg (P := rRow K (l.map fun c => (⟨c, 0⟩ : Pixel))) (ev_lcL (n := l.length) (List.length_map _) (it_listL (ev_var rfl h1)) (Nat.le_trans hl (by decide)) ?_) e fun v2 G1 H1 g1 p1 => ?_
  · rintro i x px G1 H0 hP e1 e2 ⟨c, hc, hx⟩
    refine ⟨_, fun Q z => z, rfl, ?_⟩
    rw [List.getElem?_map, hc] at hP
    obtain rfl := Option.some.inj hP
    exact ev_tup (K := K) (ea2 (ev_var rfl hx) (ev_int (n := 0))) (by show 2 ≤ sizeLine; decide)
  · refine EvR.run (P := rPic K (rowsP wd n l)) (ev_lcL (n := n) (by unfold rowsP; rw [List.length_map, List.length_range]) (it_range3 (ea3 (ev_int (n := 0)) (ev_lenL (K := K) (ev_var rfl p1)) (ev_var rfl (mo g1.gg h0))) (by rw [List.length_map, q4]; exact rg_of q1 q2 q3)) (Nat.le_trans q3 (by decide)) ?_) g1.gh fun v3 G3 H3 g3 p3 => k v3 G3 H3 (g1.trans g3) p3
    rintro i x r G2 H0 hP e1 e2 hx
    have hx : x = .int (0 + ((i : Nat) : Int) * (wd : Int)) := hx
    subst hx
    refine ⟨_, fun Q z => z, rfl, ?_⟩
    have hP : ((l.map fun c => (⟨c, 0⟩ : Pixel)).drop (i * wd)).take wd = r := by
      unfold rowsP at hP
      have hi : i < n := by
        rcases Nat.lt_or_ge i n with z | z
        · exact z
        · rw [List.getElem?_eq_none (by rw [List.length_map, List.length_range]; exact z)] at hP
          cases hP
      rw [List.getElem?_map, List.getElem?_range hi] at hP
      exact Option.some.inj hP
    subst hP
    have ei : (0 : Int) + ((i : Nat) : Int) * (wd : Int) = ((i * wd : Nat) : Int) := by rw [Int.zero_add, Int.natCast_mul]
    have ej : (0 : Int) + ((i : Nat) : Int) * (wd : Int) + (wd : Int) = ((i * wd + wd : Nat) : Int) := by rw [ei]; omega
    have hs := ev_sliceM (K := K) (σ := [some v, some u, some v2, none, some (.int (0 + ((i : Nat) : Int) * (wd : Int)))]) (R := rPx K) (ev_var (i := 2) rfl (mo e1 p1)) (eo_some (ev_var (i := 4) rfl rfl)) (eo_some (ev_add (ev_var (i := 4) rfl rfl) (ev_var (i := 0) rfl (mo (g1.gg.trans e1) h0))))
    refine hs.is ?_
    rw [ej, ei, cut_both, Nat.add_sub_cancel_left]
end
end LS
namespace LS
open PySem PySem.Spec PyProof.Rows L2
open Sq46 (Pixel Picture apart pixel going)
def InP (x : Picture × Nat × Nat) : Prop := ∃ w h, Rect w h x.1 ∧ x.2.1 < w ∧ x.2.2 < h
theorem at_pixel {w h x y : Nat} {p : Picture} (R : Rect w h p) (hx : x < w) (hy : y < h) : ∃ r, p[y]? = some r ∧ r[x]? = some (pixel p x y) ∧ r.length = w := by
  obtain ⟨r, h1, h2⟩ := R.row hy
  have h3 : x < r.length := by omega
  refine ⟨r, h1, ?_, h2⟩
  unfold pixel
  rw [h1]
  show r[x]? = some ((r[x]?).getD ⟨0, 0⟩)
  rw [List.getElem?_eq_getElem h3]
  rfl
section
variable {P : Program} {w : World} {K : PySem.W.Frag} {mg : Str → Option Value} {base : Heap}
/-! colour_at -/
abbrev spColourAt (K : PySem.W.Frag) : Sp := PureF (fun (x : Picture × Nat × Nat) => [rPic K x.1, rNat x.2.1, rNat x.2.2]) InP (fun x => rNat (pixel x.1 x.2.1 x.2.2).colour)
theorem sc_colour_at : FnScope ["rows", "x", "y"] ["rows", "x", "y"] (defScope (top 16)) := ⟨rfl, rfl, rfl, by decide +kernel, rfl, by decide +kernel, by decide +kernel⟩
theorem c_colour_at (d : Df K mg "colour_at" (top 16) ["rows", "x", "y"]) (T : Txt mg) : Cal P w K mg base 1 "colour_at" (spColourAt K) := by
  have sc := sc_colour_at
  refine mk_pure d sc (fun _ => rfl) fun f cdv A outer s H E hr => ⟨_, (pss_one (ps_ret (pe_ix ix_tup (pe_ix ix_list (pe_ix ix_list (pv 0) (pv 2) (fun _ _ => rfl)) (pv 1) (fun _ _ => rfl)) pe_int (fun _ _ => rfl)))), ?_⟩
  rintro ⟨p, x, y⟩ vs G H Q ⟨w0, h0, R, hx, hy⟩ ha e k
  replace R : Rect w0 h0 p := R
  obtain ⟨v, v1, v2, rfl, q0, q1, q2⟩ := args3 ha
  obtain ⟨r, h1, h2, _⟩ := at_pixel R hx hy
  exact s_ret (ev_ixT (i := 0) (Ps := [rNat (pixel p x y).colour, rInt (pixel p x y).weight]) (ev_ixM (R := rPx K) (ev_ixM (R := rRow K) (ev_var rfl q0) (ev_var rfl q2) h1) (ev_var rfl q1) h2) ev_int rfl) e k
/-! across, upright -/
def acrossP (p : Picture) (x y : Nat) : Nat := apart (pixel p (x - 1) y).colour (pixel p (min (x + 1) (p.wide - 1)) y).colour
def uprightP (p : Picture) (x y : Nat) : Nat := apart (pixel p x (y - 1)).colour (pixel p x (min (y + 1) (p.length - 1))).colour
theorem abs_apart (a b : Nat) : (if (a : Int) - (b : Int) < 0 then -((a : Int) - (b : Int)) else (a : Int) - (b : Int)) = ((apart a b : Nat) : Int) := by
  unfold apart
  by_cases c : (a : Int) - (b : Int) < 0
  · rw [if_pos c]
    omega
  · rw [if_neg c]
    omega
theorem max_pred (x : Nat) : (if (0 : Int) > (x : Int) - 1 then (0 : Int) else (x : Int) - 1) = ((x - 1 : Nat) : Int) := by
  by_cases c : (0 : Int) > (x : Int) - 1
  · rw [if_pos c]
    omega
  · rw [if_neg c]
    omega
theorem min_nat (a b : Nat) (i j : Int) (hi : i = a) (hj : j = b) : (if j < i then j else i) = ((min a b : Nat) : Int) := by
  subst hi hj
  by_cases c : (b : Int) < (a : Int)
  · rw [if_pos c]
    omega
  · rw [if_neg c]
    omega
abbrev spAcross (K : PySem.W.Frag) : Sp := PureF (fun (x : Picture × Nat × Nat) => [rPic K x.1, rNat x.2.1, rNat x.2.2]) InP (fun x => rNat (acrossP x.1 x.2.1 x.2.2))
theorem sc_across : FnScope ["rows", "x", "y", "left", "right"] ["rows", "x", "y"] (defScope (top 17)) := ⟨rfl, rfl, rfl, by decide +kernel, rfl, by decide +kernel, by decide +kernel⟩
theorem c_across (d : Df K mg "across" (top 17) ["rows", "x", "y"]) (T : Txt mg) (c_colour_at : Cal P w K mg base 1 "colour_at" (spColourAt K)) : Cal P w K mg base 2 "across" (spAcross K) := by
  have sc := sc_across
  refine mk_pure d sc (fun _ => rfl) fun f cdv A outer s H E hr => ⟨_, (pss_cons (ps_set (i := 3) sc.nd rfl (by first | exact Or.inl rfl | exact Or.inr rfl) (pe_callB (call_max2 rfl) (by rfl) T.max (by decide +kernel) (pa_cons (pe_op op_sub (pv 1) pe_int) (pa_cons pe_int pa_nil)))) (pss_cons (ps_set (i := 4) sc.nd rfl (by first | exact Or.inl rfl | exact Or.inr rfl) (pe_callB (call_min2 rfl) (by rfl) T.min (by decide +kernel) (pa_cons (pe_op op_add (pv 1) pe_int) (pa_cons (pe_op op_sub (pe_callB call_len_seq (by rfl) T.len PySem.boot_len (pa_cons (pe_ix ix_list (pv 0) (pv 2) (fun _ _ => rfl)) pa_nil)) pe_int) pa_nil)))) (pss_one (ps_ret (pe_callB call_abs (by rfl) T.abs (by decide +kernel) (pa_cons (pe_op op_sub (pe_cal c_colour_at (hr.mono (by decide)) rfl (pa_cons (pv 0) (pa_cons (pv 3) (pa_cons (pv 2) pa_nil)))) (pe_cal c_colour_at (hr.mono (by decide)) rfl (pa_cons (pv 0) (pa_cons (pv 4) (pa_cons (pv 2) pa_nil))))) pa_nil)))))), ?_⟩
  rintro ⟨p, x, y⟩ vs G H Q ⟨w0, h0, R, hx, hy⟩ ha e k
  replace R : Rect w0 h0 p := R
  obtain ⟨v, v1, v2, rfl, q0, q1, q2⟩ := args3 ha
  have hw := R.wide
  have hx : x < w0 := hx
  have hy : y < h0 := hy
  obtain ⟨r, h1, h2, h3⟩ := at_pixel R hx hy
  refine s_asg (P := rNat (x - 1)) ((ev_max (ev_sub (ev_var rfl q1) (ev_int (n := 1))) (ev_int (n := 0))).is (congrArg rInt (max_pred x))) e fun u G1 H1 g1 p1 => ?_
  refine s_asg (P := rNat (min (x + 1) (p.wide - 1))) ((ev_min (ev_add (ev_var rfl (mo g1.gg q1)) (ev_int (n := 1))) (ev_sub (ev_lenL (K := K) (ev_ixM (R := rRow K) (ev_var rfl (mo g1.gg q0)) (ev_var rfl (mo g1.gg q2)) h1)) (ev_int (n := 1)))).is (congrArg rInt (min_nat (x + 1) (p.wide - 1) ((x : Int) + 1) ((r.length : Int) - 1) (by omega) (by have := R.w1; omega)))) g1.gh fun u2 G2 H2 g2 p2 => ?_
  have g12 := g1.trans g2
  refine s_ret (P := rNat (acrossP p x y)) ((ev_abs (ev_sub (ev_call (p, x - 1, y) (ea3 (ev_var rfl (mo g12.gg q0)) (ev_var rfl (mo g2.gg p1)) (ev_var rfl (mo g12.gg q2))) ⟨w0, h0, R, by show x - 1 < w0; omega, hy⟩)
    (ev_call (p, min (x + 1) (p.wide - 1), y) (ea3 (ev_var rfl (mo g12.gg q0)) (ev_var rfl p2) (ev_var rfl (mo g12.gg q2))) ⟨w0, h0, R, by show min (x + 1) (p.wide - 1) < w0; omega, hy⟩))).is (congrArg rInt (abs_apart _ _))) g2.gh fun v' G3 H3 g3 p3 => k v' G3 H3 (g12.trans g3) p3
abbrev spUpright (K : PySem.W.Frag) : Sp := PureF (fun (x : Picture × Nat × Nat) => [rPic K x.1, rNat x.2.1, rNat x.2.2]) InP (fun x => rNat (uprightP x.1 x.2.1 x.2.2))
theorem sc_upright : FnScope ["rows", "x", "y", "above", "below"] ["rows", "x", "y"] (defScope (top 18)) := ⟨rfl, rfl, rfl, by decide +kernel, rfl, by decide +kernel, by decide +kernel⟩
theorem c_upright (d : Df K mg "upright" (top 18) ["rows", "x", "y"]) (T : Txt mg) (c_colour_at : Cal P w K mg base 1 "colour_at" (spColourAt K)) : Cal P w K mg base 2 "upright" (spUpright K) := by
  have sc := sc_upright
  refine mk_pure d sc (fun _ => rfl) fun f cdv A outer s H E hr => ⟨_, (pss_cons (ps_set (i := 3) sc.nd rfl (by first | exact Or.inl rfl | exact Or.inr rfl) (pe_callB (call_max2 rfl) (by rfl) T.max (by decide +kernel) (pa_cons (pe_op op_sub (pv 2) pe_int) (pa_cons pe_int pa_nil)))) (pss_cons (ps_set (i := 4) sc.nd rfl (by first | exact Or.inl rfl | exact Or.inr rfl) (pe_callB (call_min2 rfl) (by rfl) T.min (by decide +kernel) (pa_cons (pe_op op_add (pv 2) pe_int) (pa_cons (pe_op op_sub (pe_callB call_len_seq (by rfl) T.len PySem.boot_len (pa_cons (pv 0) pa_nil)) pe_int) pa_nil)))) (pss_one (ps_ret (pe_callB call_abs (by rfl) T.abs (by decide +kernel) (pa_cons (pe_op op_sub (pe_cal c_colour_at (hr.mono (by decide)) rfl (pa_cons (pv 0) (pa_cons (pv 1) (pa_cons (pv 3) pa_nil)))) (pe_cal c_colour_at (hr.mono (by decide)) rfl (pa_cons (pv 0) (pa_cons (pv 1) (pa_cons (pv 4) pa_nil))))) pa_nil)))))), ?_⟩
  rintro ⟨p, x, y⟩ vs G H Q ⟨w0, h0, R, hx, hy⟩ ha e k
  replace R : Rect w0 h0 p := R
  obtain ⟨v, v1, v2, rfl, q0, q1, q2⟩ := args3 ha
  have hl := R.hh
  have hx : x < w0 := hx
  have hy : y < h0 := hy
  refine s_asg (P := rNat (y - 1)) ((ev_max (ev_sub (ev_var rfl q2) (ev_int (n := 1))) (ev_int (n := 0))).is (congrArg rInt (max_pred y))) e fun u G1 H1 g1 p1 => ?_
  refine s_asg (P := rNat (min (y + 1) (p.length - 1))) ((ev_min (ev_add (ev_var rfl (mo g1.gg q2)) (ev_int (n := 1))) (ev_sub (ev_lenL (K := K) (ev_var rfl (mo g1.gg q0))) (ev_int (n := 1)))).is (congrArg rInt (min_nat (y + 1) (p.length - 1) ((y : Int) + 1) ((p.length : Int) - 1) (by omega) (by have := R.h1; omega)))) g1.gh fun u2 G2 H2 g2 p2 => ?_
  have g12 := g1.trans g2
  refine s_ret (P := rNat (uprightP p x y)) ((ev_abs (ev_sub (ev_call (p, x, y - 1) (ea3 (ev_var rfl (mo g12.gg q0)) (ev_var rfl (mo g12.gg q1)) (ev_var rfl (mo g2.gg p1))) ⟨w0, h0, R, hx, by show y - 1 < h0; omega⟩)
    (ev_call (p, x, min (y + 1) (p.length - 1)) (ea3 (ev_var rfl (mo g12.gg q0)) (ev_var rfl (mo g12.gg q1)) (ev_var rfl p2)) ⟨w0, h0, R, hx, by show min (y + 1) (p.length - 1) < h0; omega⟩))).is (congrArg rInt (abs_apart _ _))) g2.gh fun v' G3 H3 g3 p3 => k v' G3 H3 (g12.trans g3) p3
/-! going_at -/
theorem going_eq {w h x y : Nat} {p : Picture} (R : Rect w h p) (hx : x < w) (hy : y < h) : ((acrossP p x y : Nat) : Int) + ((uprightP p x y : Nat) : Int) + (pixel p x y).weight = going p x y := by
  have hw := R.wide
  have hl := R.hh
  unfold going acrossP uprightP
  have e1 : min (x - 1) (p.wide - 1) = x - 1 := by omega
  have e2 : min y (p.length - 1) = y := by omega
  have e3 : min x (p.wide - 1) = x := by omega
  have e4 : min (y - 1) (p.length - 1) = y - 1 := by omega
  simp only [e1, e2, e3, e4]
  rw [Int.natCast_add]
abbrev spGoingAt (K : PySem.W.Frag) : Sp := PureF (fun (x : Picture × Nat × Nat) => [rPic K x.1, rNat x.2.1, rNat x.2.2]) InP (fun x => rInt (going x.1 x.2.1 x.2.2))
theorem sc_going_at : FnScope ["rows", "x", "y"] ["rows", "x", "y"] (defScope (top 19)) := ⟨rfl, rfl, rfl, by decide +kernel, rfl, by decide +kernel, by decide +kernel⟩
theorem c_going_at (d : Df K mg "going_at" (top 19) ["rows", "x", "y"]) (T : Txt mg) (c_across : Cal P w K mg base 2 "across" (spAcross K)) (c_upright : Cal P w K mg base 2 "upright" (spUpright K)) : Cal P w K mg base 3 "going_at" (spGoingAt K) := by
  have sc := sc_going_at
  refine mk_pure d sc (fun _ => rfl) fun f cdv A outer s H E hr => ⟨_, (pss_one (ps_ret (pe_op op_add (pe_op op_add (pe_cal c_across (hr.mono (by decide)) rfl (pa_cons (pv 0) (pa_cons (pv 1) (pa_cons (pv 2) pa_nil)))) (pe_cal c_upright (hr.mono (by decide)) rfl (pa_cons (pv 0) (pa_cons (pv 1) (pa_cons (pv 2) pa_nil))))) (pe_ix ix_tup (pe_ix ix_list (pe_ix ix_list (pv 0) (pv 2) (fun _ _ => rfl)) (pv 1) (fun _ _ => rfl)) pe_int (fun _ _ => rfl))))), ?_⟩
  rintro ⟨p, x, y⟩ vs G H Q ⟨w0, h0, R, hx, hy⟩ ha e k
  replace R : Rect w0 h0 p := R
  obtain ⟨v, v1, v2, rfl, q0, q1, q2⟩ := args3 ha
  obtain ⟨r, h1, h2, h3⟩ := at_pixel R hx hy
  have hpx : EvR (qIxT K (qIx K (qIx K (tVar 0) (tVar 2)) (tVar 1)) (tC (.int 1))) [some v, some v1, some v2] G (rInt (pixel p x y).weight) := ev_ixT (i := 1) (Ps := [rNat (pixel p x y).colour, rInt (pixel p x y).weight]) (ev_ixM (R := rPx K) (ev_ixM (R := rRow K) (ev_var rfl q0) (ev_var rfl q2) h1) (ev_var rfl q1) h2) ev_int rfl
  exact s_ret ((ev_add (ev_add (ev_call (p, x, y) (ea3 (ev_var rfl q0) (ev_var rfl q1) (ev_var rfl q2)) ⟨w0, h0, R, hx, hy⟩) (ev_call (p, x, y) (ea3 (ev_var rfl q0) (ev_var rfl q1) (ev_var rfl q2)) ⟨w0, h0, R, hx, hy⟩)) hpx).is (congrArg rInt (going_eq R hx hy))) e k
/-! places_near -/
theorem rgV_nat {a b : Int} {i j : Nat} (ha : a = i) (hb : b = j) : rgV a b = ((List.range (j - i)).map fun k => i + k).map fun n => V.int ((n : Nat) : Int) := by
  subst ha hb
  unfold rgV
  rw [List.map_map, show ((j : Int) - (i : Int)).toNat = j - i by omega]
  refine List.map_congr_left fun k _ => ?_
  show V.int ((i : Int) + (k : Nat)) = V.int ((i + k : Nat) : Int)
  rw [Int.natCast_add]
theorem args_nats : ∀ (l : List Nat) (G : Hp), Args (l.map rNat) (l.map fun n => V.int ((n : Nat) : Int)) G
  | [], _ => .nil
  | _ :: l, G => .cons rfl (args_nats l G)
theorem ev_listRg {σ : L2.St} {G : Hp} {tr : L2.St → Hp → (Int → Int → Hp → Prop) → Prop} {i j : Nat} (h : ∀ G0 H, Ex G G0 → Ex G0 H → ∀ R : Int → Int → Hp → Prop, (∀ G' H', Gr G0 H G' H' → R (i : Int) (j : Int) H') → tr σ H R) (hi : i ≤ 100) (hj : j ≤ 100) : EvR (tLstRg tr) σ G (rL rNat ((List.range (j - i)).map fun k => i + k)) := fun G0 H a b Q k => h G0 H a b _ fun G1 H1 g => by
  refine ⟨⟨by omega, by omega, by omega, by omega, by omega⟩, fun q hq => ?_⟩
  rw [rgV_nat rfl rfl]
  exact k _ _ _ (g.trans (Gr.new g.gh hq)) ⟨q, _, rfl, upd_same, args_nats _ _⟩
theorem rg2 {σ : L2.St} {G : Hp} {ta tb : TE} {i j : Int} (ha : EvR ta σ G (rInt i)) (hb : EvR tb σ G (rInt j)) : ∀ G0 H, Ex G G0 → Ex G0 H → ∀ R : Int → Int → Hp → Prop, (∀ G' H', Gr G0 H G' H' → R i j H') → tRg2 ta tb σ H R := fun G0 H a b R k =>
  ha G0 H a b _ fun x G1 H1 g1 p1 => hb G1 H1 (a.trans g1.gg) g1.gh _ fun y G2 H2 g2 p2 => by
    cases p1
    cases p2
    exact ⟨i, j, rfl, rfl, k _ _ (g1.trans g2)⟩
theorem rg1 {σ : L2.St} {G : Hp} {ta : TE} {j : Int} (ha : EvR ta σ G (rInt j)) : ∀ G0 H, Ex G G0 → Ex G0 H → ∀ R : Int → Int → Hp → Prop, (∀ G' H', Gr G0 H G' H' → R 0 j H') → tRg1 ta σ H R := fun G0 H a b R k =>
  ha G0 H a b _ fun x G1 H1 g1 p1 => by
    cases p1
    exact ⟨j, rfl, k _ _ g1⟩
abbrev spPlacesNear : Sp := PureF (fun (x : Nat × Nat) => [rNat x.1, rNat x.2]) (fun x => x.2 < x.1 ∧ x.1 ≤ 16) (fun x => rL rNat (Sq46.steps x.1 x.2))
theorem sc_places_near : FnScope ["many", "x"] ["many", "x"] (defScope (top 20)) := ⟨rfl, rfl, rfl, by decide +kernel, rfl, by decide +kernel, by decide +kernel⟩
theorem c_places_near (d : Df K mg "places_near" (top 20) ["many", "x"]) (T : Txt mg) : Cal P w K mg base 1 "places_near" spPlacesNear := by
  have sc := sc_places_near
  refine mk_pure d sc (fun _ => rfl) fun f cdv A outer s H E hr => ⟨_, (pss_one (ps_ret (pe_listRg rfl rfl T.list (prg_2 rfl T.range (pe_callB (call_max2 rfl) (by rfl) T.max (by decide +kernel) (pa_cons (pe_op op_sub (pv 1) pe_int) (pa_cons pe_int pa_nil))) (pe_callB (call_min2 rfl) (by rfl) T.min (by decide +kernel) (pa_cons (pe_op op_add (pv 1) pe_int) (pa_cons (pv 0) pa_nil))))))), ?_⟩
  rintro ⟨n, x⟩ vs G H Q ⟨hx, hn⟩ ha e k
  obtain ⟨v, v1, rfl, q0, q1⟩ := args2 ha
  have hx : x < n := hx
  have hn : n ≤ 16 := hn
  refine s_ret ((ev_listRg (i := x - 1) (j := min (x + 2) n) (rg2 ((ev_max (ev_sub (ev_var rfl q1) (ev_int (n := 1))) (ev_int (n := 0))).is (congrArg rInt (max_pred x))) ((ev_min (ev_add (ev_var rfl q1) (ev_int (n := 2))) (ev_var rfl q0)).is (congrArg rInt (min_nat (x + 2) n ((x : Int) + 2) (n : Int) (by omega) rfl)))) (by omega) (by omega)).is ?_) e k
  rw [← steps_range hx]
/-! first_least -/
abbrev spFirstLeast : Sp := PureF (fun (x : List Int × List Nat) => [rL rInt x.1, rL rNat x.2]) (fun x => x.2 ≠ [] ∧ ∀ z ∈ x.2, z < x.1.length) (fun x => rNat (bestP x.1 x.2))
theorem getD_at {b : List Int} {z : Nat} (h : z < b.length) : b[z]? = some ((b[z]?).getD 0) := by
  rw [List.getElem?_eq_getElem h]
  rfl
theorem sc_first_least : FnScope ["costs", "places", "found", "x"] ["costs", "places"] (defScope (top 21)) := ⟨rfl, rfl, rfl, by decide +kernel, rfl, by decide +kernel, by decide +kernel⟩
theorem c_first_least (d : Df K mg "first_least" (top 21) ["costs", "places"]) (T : Txt mg) : Cal P w K mg base 1 "first_least" spFirstLeast := by
  have sc := sc_first_least
  refine mk_pure d sc (fun _ => rfl) fun f cdv A outer s H E hr => ⟨_, (pss_cons (ps_set (i := 2) sc.nd rfl (by first | exact Or.inl rfl | exact Or.inr rfl) (pe_ix ix_list (pv 1) pe_int (fun _ _ => rfl))) (pss_cons (ps_for PassesOwn.never rfl (pi_list (pv 1)) (pg_name (i := 3) sc.nd rfl (by first | exact Or.inl rfl | exact Or.inr rfl)) (pss_one (ps_if (pt_cmpR op_lt (pe_ix ix_list (pv 0) (pv 3) (fun _ _ => rfl)) (pe_ix ix_list (pv 0) (pv 2) (fun _ _ => rfl)) (nomark _)) (pss_one (ps_set (i := 2) sc.nd rfl (by first | exact Or.inl rfl | exact Or.inr rfl) (pv 3))) pss_nil))) (pss_one (ps_ret (pv 2))))), ?_⟩
  rintro ⟨b, l⟩ vs G H Q ⟨hne, hlt⟩ ha e k
  obtain ⟨v, v1, rfl, q0, q1⟩ := args2 ha
  have hlt : ∀ z ∈ l, z < b.length := hlt
  have hne : l ≠ [] := hne
  obtain ⟨x0, l', rfl⟩ : ∃ x0 l', l = x0 :: l' := by
    cases l with
    | nil => exact absurd rfl hne
    | cons x l => exact ⟨x, l, rfl⟩
  refine s_asg (P := rNat x0) (ev_ixM (R := rNat) (j := 0) (ev_var rfl q1) (ev_int (n := 0)) rfl) e fun u G1 H1 g1 p1 => ?_
  cases p1
  refine s_for (it_listL (R := rNat) (ev_var rfl (mo g1.gg q1))) g1.gh (fun G2 i σ' H' => Gr G H G2 H' ∧ ∃ ov, σ' = [some v, some v1, some (.int (bestP b ((x0 :: l').take (max i 1)) : Nat)), ov]) (fun G2 H2 g2 => ⟨g1.trans g2, _, rfl⟩) (fun _ _ _ _ p => p.1.gh) ?_ ?_
  · rintro G2 i x σ' H2 H3 e2 hi ⟨g, ov, rfl⟩ e3 ⟨z, hz, hx⟩
    cases hx
    have gb : Gr G H G2 H3 := g.trans (Gr.beside g.gh e3)
    have hzl : z < b.length := hlt z (List.mem_of_getElem? hz)
    have ht : (x0 :: l').take (max i 1) ≠ [] := by
      rw [show max i 1 = (max i 1 - 1) + 1 by omega]
      exact List.cons_ne_nil _ _
    have hbl : bestP b ((x0 :: l').take (max i 1)) < b.length := hlt _ (List.mem_of_mem_take (best_first (b := b) ht).2)
    have step : bestP b ((x0 :: l').take (max (i + 1) 1)) = if (b[z]?).getD 0 < (b[bestP b ((x0 :: l').take (max i 1))]?).getD 0 then z else bestP b ((x0 :: l').take (max i 1)) := by
      cases i with
      | zero =>
        have : x0 = z := Option.some.inj hz
        subst this
        show bestP b [x0] = if (b[x0]?).getD 0 < (b[bestP b [x0]]?).getD 0 then x0 else bestP b [x0]
        rw [best_one, if_neg (Int.lt_irrefl _)]
      | succ i =>
        rw [show max (i + 1) 1 = i + 1 by omega] at ht ⊢
        rw [show max (i + 1 + 1) 1 = i + 1 + 1 by omega, List.take_add_one, hz]
        exact best_snoc ht z
    refine EvT.run (b := decide ((b[z]?).getD 0 < (b[bestP b ((x0 :: l').take (max i 1))]?).getD 0)) (et_test (ev_I0 (ev_ixM (R := rInt) (ev_var rfl (mo gb.gg q0)) (ev_var (i := 3) rfl (P := rNat z) rfl) (getD_at hzl)) (ev_ixM (R := rInt) (ev_var rfl (mo gb.gg q0)) (ev_var (i := 2) (P := rNat (bestP b ((x0 :: l').take (max i 1)))) rfl rfl) (getD_at hbl)))) gb.gh fun G4 H4 g4 => ?_
    have g5 := gb.trans (Gr.beside gb.gh g4.hh)
    by_cases c : (b[z]?).getD 0 < (b[bestP b ((x0 :: l').take (max i 1))]?).getD 0
    · rw [decide_eq_true c]
      refine iteT ⟨_, rfl, g5, some (.int (z : Nat)), ?_⟩
      rw [step, if_pos c]
      rfl
    · rw [decide_eq_false c]
      refine iteF ⟨g5, some (.int (z : Nat)), ?_⟩
      rw [step, if_neg c]
      rfl
  · rintro G2 σ' H' ⟨g, ov, rfl⟩
    refine ⟨_, rfl, k _ _ _ g ?_⟩
    rw [show max (x0 :: l').length 1 = (x0 :: l').length by rw [List.length_cons]; omega, List.take_length]
    rfl
/-! least_near -/
abbrev spLeastNear : Sp := PureF (fun (x : List Int × Nat) => [rL rInt x.1, rNat x.2]) (fun x => x.2 < x.1.length ∧ x.1.length ≤ 16) (fun x => rInt (nearP x.1 x.2))
theorem sc_least_near : FnScope ["costs", "x"] ["costs", "x"] (defScope (top 22)) := ⟨rfl, rfl, rfl, by decide +kernel, rfl, by decide +kernel, by decide +kernel⟩
theorem c_least_near (d : Df K mg "least_near" (top 22) ["costs", "x"]) (T : Txt mg) (c_first_least : Cal P w K mg base 1 "first_least" spFirstLeast) (c_places_near : Cal P w K mg base 1 "places_near" spPlacesNear) : Cal P w K mg base 2 "least_near" spLeastNear := by
  have sc := sc_least_near
  refine mk_pure d sc (fun _ => rfl) fun f cdv A outer s H E hr => ⟨_, (pss_one (ps_ret (pe_ix ix_list (pv 0) (pe_cal c_first_least (hr.mono (by decide)) rfl (pa_cons (pv 0) (pa_cons (pe_cal c_places_near (hr.mono (by decide)) rfl (pa_cons (pe_callB call_len_seq (by rfl) T.len PySem.boot_len (pa_cons (pv 0) pa_nil)) (pa_cons (pv 1) pa_nil))) pa_nil))) (fun _ _ => rfl)))), ?_⟩
  rintro ⟨b, x⟩ vs G H Q ⟨hx, hn⟩ ha e k
  obtain ⟨v, v1, rfl, q0, q1⟩ := args2 ha
  replace hx : x < b.length := hx
  replace hn : b.length ≤ 16 := hn
  have hb := best_first (b := b) (steps_ne hx)
  refine s_ret (P := rInt (nearP b x)) ((ev_ixM (K := K) (R := rInt) (xs := b) (j := bestP b (Sq46.steps b.length x)) (ev_var rfl q0) (ev_call (b, Sq46.steps b.length x) (ea2 (ev_var rfl q0) (ev_call (b.length, x) (ea2 (ev_lenL (K := K) (ev_var rfl q0)) (ev_var rfl q1)) ⟨hx, hn⟩)) ⟨steps_ne hx, fun z hz => steps_lt hx hz⟩) (getD_at (steps_lt hx hb.2))).is ?_) e k
  rw [near_best hx]
/-! costs_of_row -/
abbrev spCostsOfRow (K : PySem.W.Frag) : Sp := PureF (fun (x : Picture × Nat × List Int) => [rPic K x.1, rNat x.2.1, rL rInt x.2.2]) (fun x => ∃ w h, Rect w h x.1 ∧ x.2.1 < h ∧ (x.2.2.length = 0 ∨ x.2.2.length = w)) (fun x => rL rInt (costsRow x.1 x.2.1 x.2.2))
theorem sc_costs_of_row : FnScope ["rows", "y", "below", "goings", "x", "going"] ["rows", "y", "below"] (defScope (top 23)) := ⟨rfl, rfl, rfl, by decide +kernel, rfl, by decide +kernel, by decide +kernel⟩
theorem c_costs_of_row (d : Df K mg "costs_of_row" (top 23) ["rows", "y", "below"]) (T : Txt mg) (c_going_at : Cal P w K mg base 3 "going_at" (spGoingAt K)) (c_least_near : Cal P w K mg base 2 "least_near" spLeastNear) : Cal P w K mg base 4 "costs_of_row" (spCostsOfRow K) := by
  have sc := sc_costs_of_row
  refine mk_pure d sc (fun _ => rfl) fun f cdv A outer s H E hr => ⟨_, (pss_cons (ps_setLc (i := 3) (own := [("x", 4)]) (g := (gName 4)) (te := (tCall (spGoingAt K) [] E0 (tCons (tVar 0) (tCons (tVar 4) (tCons (tVar 1) tNil))))) rfl sc.nd rfl rfl (sw_true rfl rfl rfl (by decide +kernel)) (pi_range1 rfl T.range (pa_cons (pe_callB call_len_seq (by rfl) T.len PySem.boot_len (pa_cons (pe_ix ix_list (pv 0) (pv 1) (fun _ _ => rfl)) pa_nil)) pa_nil)) (blkOk_by (by kernel_rfl)) (fun _ _ _ _ _ => (pg_name (i := 4) sc.nd rfl (by first | exact Or.inl rfl | exact Or.inr rfl))) (fun _ _ _ _ _ => pts_nil) (fun _ _ _ _ _ => (pe_cal c_going_at (hr.mono (by decide)) rfl (pa_cons (pv 0) (pa_cons (pv 4) (pa_cons (pv 1) pa_nil)))))) (pss_cons (ps_if (pt_cmpR op_eq (pe_callB call_len_seq (by rfl) T.len PySem.boot_len (pa_cons (pv 2) pa_nil)) pe_int (nomark _)) (pss_one (ps_ret (pv 3))) pss_nil) (pss_one (ps_ret (pe_lc (own := [("x", 4), ("going", 5)]) (g := (gTup K 2 (gCons (gName 4) (gCons (gName 5) gNil)))) (te := (qAdd (tVar 5) (tCall spLeastNear [] E0 (tCons (tVar 2) (tCons (tVar 4) tNil))))) rfl sc.nd (pi_enum rfl T.enumerate (pa_cons (pv 3) pa_nil)) (blkOk_by (by kernel_rfl)) (fun _ _ _ _ _ => (pg_tup rfl (pgs_cons (pg_name (i := 4) sc.nd rfl (by first | exact Or.inl rfl | exact Or.inr rfl)) (pgs_cons (pg_name (i := 5) sc.nd rfl (by first | exact Or.inl rfl | exact Or.inr rfl)) pgs_nil)))) (fun _ _ _ _ _ => pts_nil) (fun _ _ _ _ _ => (pe_op op_add (pv 5) (pe_cal c_least_near (hr.mono (by decide)) rfl (pa_cons (pv 2) (pa_cons (pv 4) pa_nil)))))))))), ?_⟩
  rintro ⟨p, y, b⟩ vs G H Q ⟨w0, h0, R, hy, hb⟩ ha e k
  obtain ⟨v, v1, v2, rfl, q0, q1, q2⟩ := args3 ha
  replace R : Rect w0 h0 p := R
  replace hy : y < h0 := hy
  replace hb : b.length = 0 ∨ b.length = w0 := hb
  have hw : p.wide = w0 := R.wide
  have h16 := R.w16
  obtain ⟨r, hr1, hr2⟩ := R.row hy
  have hgl : ((List.range w0).map fun x => going p x y).length = w0 := by rw [List.length_map, List.length_range]
  have hga : ∀ i, i < w0 → ((List.range w0).map fun x => going p x y)[i]? = some (going p i y) := fun i hi => by
    rw [List.getElem?_map, List.getElem?_range hi]
    rfl
  refine s_asg (P := rL rInt ((List.range w0).map fun x => going p x y)) (ev_lcL (n := w0) hgl (it_range1 ((ev_lenL (K := K) (ev_ixM (R := rRow K) (ev_var rfl q0) (ev_var rfl q1) hr1)).is (by rw [hr2])) (by omega)) (Nat.le_trans h16 (by decide)) ?_) e fun u G1 H1 g1 p1 => ?_
  · rintro i x z G1 H0 hP e1 e2 rfl
    have hi : i < w0 := by
      have := (List.getElem?_eq_some_iff.mp hP).1
      omega
    rw [hga i hi] at hP
    obtain rfl := Option.some.inj hP
    refine ⟨_, fun Q z => z, rfl, ?_⟩
    exact ev_call (p, i, y) (ea3 (ev_var rfl (mo e1 q0)) (ev_var rfl rfl) (ev_var rfl (mo e1 q1))) ⟨w0, h0, R, hi, hy⟩
  · refine s_if (b := decide ((b.length : Int) = 0)) (et_test (ev_eq (ev_lenL (K := K) (ev_var rfl (mo g1.gg q2))) (ev_int (n := 0)))) g1.gh (fun hc G2 H2 g2 => ?_) (fun hc G2 H2 g2 => ?_)
    · have hc : b.length = 0 := by have := of_decide_eq_true hc; omega
      refine s_ret (ev_var rfl (mo g2.gg p1)) g2.gh fun v' G3 H3 g3 p3 => k v' G3 H3 ((g1.trans g2).trans g3) ?_
      have e1 : costsRow p y b = (List.range w0).map fun x => going p x y := by
        unfold costsRow
        rw [hw]
        refine List.map_congr_left fun x _ => ?_
        rw [if_pos hc, Int.add_zero]
      show rL rInt (costsRow p y b) v' G3
      rw [e1]
      exact p3
    · have hc : ¬ b.length = 0 := by have := of_decide_eq_false hc; omega
      have hbl : b.length = w0 := hb.resolve_left hc
      refine s_ret (P := rL rInt (costsRow p y b)) (ev_lcL (n := w0) (by rw [costsRow_len, hw]) ((it_enumL (R := rInt) (ev_var rfl (mo g2.gg p1))).imp hgl fun _ _ _ _ z => z) (Nat.le_trans h16 (by decide)) ?_) g2.gh fun v' G3 H3 g3 p3 => k v' G3 H3 ((g1.trans g2).trans g3) p3
      rintro i x z G3 H0 hP e1 e2 ⟨T, yv, q, rfl, hT, hq, hyv⟩
      have hi : i < w0 := by
        have := (List.getElem?_eq_some_iff.mp hq).1
        omega
      rw [hga i hi] at hq
      obtain rfl := Option.some.inj hq
      rw [costsRow_at (by rw [hw]; exact hi), if_neg hc] at hP
      obtain rfl := Option.some.inj hP
      refine ⟨[some v, some v1, some v2, some u, some (.int (i : Nat)), some yv], fun Q z => ⟨T, _, rfl, sqT_of hT, rfl, _, _, rfl, _, _, rfl, rfl, z⟩, rfl, ?_⟩
      exact ev_add (ev_var rfl hyv) (ev_call (b, i) (ea2 (ev_var rfl (mo ((g1.gg.trans g2.gg).trans e1) q2)) (ev_var rfl rfl)) ⟨by show i < b.length; omega, by show b.length ≤ 16; omega⟩)
end
end LS
namespace LS
open PySem PySem.Spec PyProof.Rows L2
open Sq46 (Pixel Picture apart pixel going)
section
variable {P : Program} {w : World} {K : PySem.W.Frag} {mg : Str → Option Value} {base : Heap}
/-! costs_down -/
abbrev spCostsDown (K : PySem.W.Frag) : Sp := PureF (fun (x : Picture) => [rPic K x]) (fun x => ∃ w h, Rect w h x) (fun x => rL (rL rInt) (tab x x.length))
theorem sc_costs_down : FnScope ["rows", "found", "below", "y"] ["rows"] (defScope (top 24)) := ⟨rfl, rfl, rfl, by decide +kernel, rfl, by decide +kernel, by decide +kernel⟩
theorem c_costs_down (d : Df K mg "costs_down" (top 24) ["rows"]) (T : Txt mg) (c_costs_of_row : Cal P w K mg base 4 "costs_of_row" (spCostsOfRow K)) : Cal P w K mg base 5 "costs_down" (spCostsDown K) := by
  have sc := sc_costs_down
  refine mk_pure d sc (fun _ => rfl) fun f cdv A outer s H E hr => ⟨_, (pss_cons (ps_set (i := 1) sc.nd rfl (by first | exact Or.inl rfl | exact Or.inr rfl) (pe_lst pa_nil)) (pss_cons (ps_set (i := 2) sc.nd rfl (by first | exact Or.inl rfl | exact Or.inr rfl) (pe_lst pa_nil)) (pss_cons (ps_for PassesOwn.never rfl (pi_revR rfl T.reversed (prg_1 rfl T.range (pe_callB call_len_seq (by rfl) T.len PySem.boot_len (pa_cons (pv 0) pa_nil)))) (pg_name (i := 3) sc.nd rfl (by first | exact Or.inl rfl | exact Or.inr rfl)) (pss_cons (ps_set (i := 2) sc.nd rfl (by first | exact Or.inl rfl | exact Or.inr rfl) (pe_cal c_costs_of_row (hr.mono (by decide)) rfl (pa_cons (pv 0) (pa_cons (pv 3) (pa_cons (pv 2) pa_nil))))) (pss_one (ps_expr (pe_bm PySem.F.plainAttrs_list PySem.F.slot_list_insert PySem.F.type_list_insert mt_insert (pv 1) (pa_cons pe_int (pa_cons (pv 2) pa_nil))))))) (pss_one (ps_ret (pv 1)))))), ?_⟩
  rintro p vs G H Q ⟨w0, h0, R⟩ ha e k
  obtain ⟨v, rfl, q0⟩ := args_1 ha
  have hw : p.wide = w0 := R.wide
  have hl : p.length = h0 := R.hh
  have h16 := R.h16
  refine s_new ea_nil e (Nat.zero_le _) fun vs G1 H1 l g1 p1 hl1 => ?_
  cases p1
  have ac1 := Acc.first (vs := []) g1 hl1
  refine s_asg (P := rL rInt []) (ev_lst ea_nil (Nat.zero_le _)) ac1.gr.gh fun u G2 H2 g2 p2 => ?_
  have ac2 := ac1.grow g2
  refine s_for (it_revR (n := p.length) (rg1 (ev_lenL (K := K) (ev_var rfl (mo ac2.gr.gg q0)))) (by omega)) ac2.gr.gh
    (fun G3 i σ' H' => ∃ G' vs u ov, Ex G3 G' ∧ Acc G H l G' H' vs ∧ Args ((tab p i).map (rL rInt)) vs G' ∧ rL rInt ((tab p i).headD []) u G' ∧ σ' = [some v, some (.ref l), some u, ov])
    (fun G3 H3 g3 => ⟨G3, [], u, none, Ex.refl _, ac2.grow g3, .nil, mo g3.gg p2, rfl⟩) (fun G3 i σ' H' ⟨G', vs, u, ov, h1, h2, _⟩ => h1.trans h2.gr.gh) ?_ ?_
  · rintro G3 i x σ' H3 H4 e3 hi ⟨G', vs, u, ov, h1, h2, h3, h4, rfl⟩ e4 hx
    have hx : x = .int ((p.length : Int) - 1 - (i : Nat)) := hx
    have hy : (p.length : Int) - 1 - (i : Nat) = ((p.length - (i + 1) : Nat) : Int) := by omega
    rw [hy] at hx
    subst hx
    have h2 := h2.grow (Gr.beside h2.gr.gh e4)
    have hbl := tab_head_len p i
    refine s_asg (P := rL rInt (costsRow p (p.length - (i + 1)) ((tab p i).headD []))) (ev_call (p, p.length - (i + 1), (tab p i).headD []) (ea3 (ev_var rfl (mo h2.gr.gg q0)) (ev_var rfl rfl) (ev_var rfl h4)) ⟨w0, h0, R, by show p.length - (i + 1) < h0; omega, ?_⟩) h2.gr.gh fun u' G5 H5 g5 p5 => ?_
    · show ((tab p i).headD []).length = 0 ∨ ((tab p i).headD []).length = w0
      rw [hbl, hw]
      by_cases c : i = 0
      · rw [if_pos c]
        exact Or.inl rfl
      · rw [if_neg c]
        exact Or.inr rfl
    · have h5 := h2.grow g5
      have lv : vs.length = i := by
        rw [← paired_len h3, List.length_map, tab_len]
      refine ⟨_, rfl, Or.inl ⟨rfl, vs, sqL_of h5.at_⟩, _, rfl, l, vs, 0, u', rfl, rfl, h5.at_, Nat.lt_of_le_of_lt (show vs.length ≤ 16 by omega) (by decide), by decide, by decide, ?_⟩
      refine ⟨G5, u' :: vs, u', some (.int ((p.length - (i + 1) : Nat) : Int)), h1.trans g5.gg, h5.put _, .cons p5 (h3.mo inferInstance g5.gg), p5, rfl⟩
  · rintro G3 σ' H' ⟨G', vs, u, ov, h1, h2, h3, h4, rfl⟩
    exact ⟨_, rfl, k _ _ _ h2.done ⟨l, vs, rfl, upd_same, h3.mo inferInstance (Ex.new h2.gl)⟩⟩
/-! seam_by -/
abbrev spSeamBy : Sp := PureF (fun (x : Nat × List (List Int)) => [rL (rL rInt) x.2]) (fun x => 1 ≤ x.1 ∧ x.1 ≤ 16 ∧ x.2 ≠ [] ∧ x.2.length ≤ 16 ∧ ∀ r ∈ x.2, r.length = x.1) (fun x => rL rNat (seamP x.1 x.2))
theorem range_map0 (n : Nat) : (List.range (n - 0)).map (fun k => 0 + k) = List.range n := by
  rw [Nat.sub_zero]
  conv => rhs; rw [← List.map_id (List.range n)]
  refine List.map_congr_left fun k _ => ?_
  show 0 + k = k
  omega
theorem nats_of : ∀ {l : List Nat} {vs : List V} {G : Hp}, Args (l.map rNat) vs G → vs = l.map fun n => V.int ((n : Nat) : Int)
  | [], _, _, .nil => rfl
  | _ :: l, _, _, .cons h t => by
    cases h
    rw [nats_of t]
    rfl
theorem sc_seam_by : FnScope ["costs", "seam", "row"] ["costs"] (defScope (top 25)) := ⟨rfl, rfl, rfl, by decide +kernel, rfl, by decide +kernel, by decide +kernel⟩
theorem c_seam_by (d : Df K mg "seam_by" (top 25) ["costs"]) (T : Txt mg) (c_first_least : Cal P w K mg base 1 "first_least" spFirstLeast) (c_places_near : Cal P w K mg base 1 "places_near" spPlacesNear) : Cal P w K mg base 2 "seam_by" spSeamBy := by
  have sc := sc_seam_by
  refine mk_pure d sc (fun _ => rfl) fun f cdv A outer s H E hr => ⟨_, (pss_cons (ps_set (i := 1) sc.nd rfl (by first | exact Or.inl rfl | exact Or.inr rfl) (pe_lst (pa_cons (pe_cal c_first_least (hr.mono (by decide)) rfl (pa_cons (pe_ix ix_list (pv 0) pe_int (fun _ _ => rfl)) (pa_cons (pe_listRg rfl rfl T.list (prg_1 rfl T.range (pe_callB call_len_seq (by rfl) T.len PySem.boot_len (pa_cons (pe_ix ix_list (pv 0) pe_int (fun _ _ => rfl)) pa_nil)))) pa_nil))) pa_nil))) (pss_cons (ps_for PassesOwn.never rfl (pi_list (pe_slice sl_list (pv 0) (po_some pe_int) po_none)) (pg_name (i := 2) sc.nd rfl (by first | exact Or.inl rfl | exact Or.inr rfl)) (pss_one (ps_expr (pe_bm PySem.F.plainAttrs_list PySem.F.slot_list_append PySem.F.type_list_append mt_append (pv 1) (pa_cons (pe_cal c_first_least (hr.mono (by decide)) rfl (pa_cons (pv 2) (pa_cons (pe_cal c_places_near (hr.mono (by decide)) rfl (pa_cons (pe_callB call_len_seq (by rfl) T.len PySem.boot_len (pa_cons (pv 2) pa_nil)) (pa_cons (pe_ix ix_list (pv 1) (pe_un un_neg pe_int) (fun _ _ => rfl)) pa_nil))) pa_nil))) pa_nil))))) (pss_one (ps_ret (pv 1))))), ?_⟩
  rintro ⟨n, t⟩ vs G H Q ⟨hn1, hn2, hne, ht16, htr⟩ ha e k
  obtain ⟨v, rfl, q0⟩ := args_1 ha
  replace hn1 : 1 ≤ n := hn1
  replace hn2 : n ≤ 16 := hn2
  replace hne : t ≠ [] := hne
  replace ht16 : t.length ≤ 16 := ht16
  replace htr : ∀ r ∈ t, r.length = n := htr
  obtain ⟨b, t, rfl⟩ : ∃ b t', t = b :: t' := by
    cases t with
    | nil => exact absurd rfl hne
    | cons b t => exact ⟨b, t, rfl⟩
  have hb : b.length = n := htr b List.mem_cons_self
  have hz : bestP b (List.range n) < n := List.mem_range.mp (best_first (b := b) (range_ne hn1)).2
  have ev0 : ∀ {σ : L2.St} {G1 : Hp}, σ[0]? = some (some v) → rL (rL rInt) (b :: t) v G1 → EvR (qIx K (tVar 0) (tC (.int 0))) σ G1 (rL rInt b) := fun hσ q => ev_ixM (K := K) (R := rL rInt) (xs := b :: t) (j := 0) (ev_var hσ q) (ev_int (n := 0)) rfl
  refine s_new (Ps := [rNat (bestP b (List.range n))]) (ea1 (ev_call (b, List.range n) (ea2 (ev0 rfl q0) ((ev_listRg (i := 0) (j := n) (rg1 ((ev_lenL (K := K) (ev0 rfl q0)).is (by rw [hb]))) (by omega) (by omega)).is (by rw [range_map0]))) ⟨range_ne hn1, fun z hz => by show z < b.length; rw [hb]; exact List.mem_range.mp hz⟩)) e (by show 1 ≤ sizeLine; decide) fun vs G1 H1 l g1 p1 hl1 => ?_
  obtain ⟨v0, rfl, p0⟩ := args_1 p1
  cases p0
  have ac1 := Acc.first (vs := [.int (bestP b (List.range n) : Nat)]) g1 hl1
  have hcut : cut (b :: t) (some (1 : Int)) none = t := cut_from (b :: t) 1
  refine s_for (n := t.length) (Y := YM (rL rInt) t) ((it_listL (R := rL rInt) (xs := t) ((ev_sliceM (K := K) (R := rL rInt) (ev_var rfl (mo ac1.gr.gg q0)) (eo_some (ev_int (n := 1))) eo_none).is (by rw [hcut])))) ac1.gr.gh
    (fun G3 i σ' H' => ∃ ov, Acc G H l G3 H' ((seamP n (b :: t.take i)).map fun n => V.int ((n : Nat) : Int)) ∧ σ' = [some v, some (.ref l), ov])
    (fun G3 H3 g3 => ⟨none, ac1.grow g3, rfl⟩) (fun G3 i σ' H' ⟨ov, h1, _⟩ => h1.gr.gh) ?_ ?_
  · rintro G3 i x σ' H3 H4 e3 hi ⟨ov, h1, rfl⟩ e4 ⟨c, hc, hx⟩
    have h2 := h1.grow (Gr.beside h1.gr.gh e4)
    have hcl : c.length = n := htr c (List.mem_cons_of_mem _ (List.mem_of_getElem? hc))
    have hd := down_len (t.take i) (bestP b (List.range n)) hz
    have hsn := down_snoc (t.take i) c (bestP b (List.range n)) hz (fun r hr => htr r (List.mem_cons_of_mem _ (List.mem_of_mem_take hr)))
    generalize hlast : (bestP b (List.range n) :: Sq46.down n (t.take i) (bestP b (List.range n))).getLast (List.cons_ne_nil _ _) = z at hsn
    have hsp : seamP n (b :: t.take i) = (seamP n (b :: t.take i)).dropLast ++ [z] := by
      rw [← hlast]
      exact (List.dropLast_concat_getLast (l := seamP n (b :: t.take i)) (List.cons_ne_nil _ _)).symm
    have hzn : z < n := by
      have hm : z ∈ seamP n (b :: t.take i) := by
        rw [← hlast]
        exact List.getLast_mem _
      rcases List.mem_cons.mp hm with h | h
      · rw [h]
        exact hz
      · exact hd.2 z h
    have hbest := best_first (b := c) (steps_ne hzn)
    have hat : atI ((seamP n (b :: t.take i)).map rNat) (-1) = some (rNat z) := by
      rw [hsp, List.map_append]
      exact atI_last _ _
    have hlen : (seamP n (b :: t.take i)).length ≤ 16 := by
      show (Sq46.down n (t.take i) (bestP b (List.range n))).length + 1 ≤ 16
      rw [hd.1, List.length_take]
      have : t.length + 1 ≤ 16 := ht16
      omega
    refine s_appS (n := ((bestP c (Sq46.steps n z) : Nat) : Int)) h2 rfl (ev_call (c, Sq46.steps n z) (ea2 (ev_var rfl (mo (Ex.new h2.gl) hx)) (ev_call (n, z) (ea2 ((ev_lenL (K := K) (ev_var rfl (mo (Ex.new h2.gl) hx))).is (by rw [hcl])) (ev_ixL (Ps := (seamP n (b :: t.take i)).map rNat) (ev_var (i := 1) rfl ⟨l, _, rfl, upd_same, args_nats _ _⟩) (ev_neg (ev_int (n := 1))) hat)) ⟨hzn, hn2⟩)) ⟨steps_ne hzn, fun y hy => by show y < c.length; rw [hcl]; exact steps_lt hzn hy⟩) (by rw [List.length_map]; exact Nat.lt_of_le_of_lt hlen (by decide)) fun H5 ac5 => ?_
    refine ⟨_, ?_, rfl⟩
    have e6 : seamP n (b :: t.take (i + 1)) = seamP n (b :: t.take i) ++ [bestP c (Sq46.steps n z)] := by
      rw [List.take_add_one, hc]
      show bestP b (List.range n) :: Sq46.down n (t.take i ++ [c]) (bestP b (List.range n)) = _
      rw [hsn]
      rfl
    rw [e6, List.map_append]
    exact ac5
  · rintro G3 σ' H' ⟨ov, h1, rfl⟩
    rw [List.take_length] at h1
    exact ⟨_, rfl, k _ _ _ h1.done ⟨l, _, rfl, upd_same, args_nats _ _⟩⟩
/-! least_seam -/
abbrev spLeastSeam (K : PySem.W.Frag) : Sp := PureF (fun (x : Picture) => [rPic K x]) (fun x => ∃ w h, Rect w h x) (fun x => rT K [rInt (Sq46.cost x 0 (leastP x)), rL rNat (leastP x)])
theorem sc_least_seam : FnScope ["rows", "costs", "seam"] ["rows"] (defScope (top 26)) := ⟨rfl, rfl, rfl, by decide +kernel, rfl, by decide +kernel, by decide +kernel⟩
theorem c_least_seam (d : Df K mg "least_seam" (top 26) ["rows"]) (T : Txt mg) (c_costs_down : Cal P w K mg base 5 "costs_down" (spCostsDown K)) (c_seam_by : Cal P w K mg base 2 "seam_by" spSeamBy) : Cal P w K mg base 6 "least_seam" (spLeastSeam K) := by
  have sc := sc_least_seam
  refine mk_pure d sc (fun _ => rfl) fun f cdv A outer s H E hr => ⟨_, (pss_cons (ps_set (i := 1) sc.nd rfl (by first | exact Or.inl rfl | exact Or.inr rfl) (pe_cal c_costs_down (hr.mono (by decide)) rfl (pa_cons (pv 0) pa_nil))) (pss_cons (ps_set (i := 2) sc.nd rfl (by first | exact Or.inl rfl | exact Or.inr rfl) (pe_cal c_seam_by (hr.mono (by decide)) rfl (pa_cons (pv 1) pa_nil))) (pss_one (ps_ret (pe_tup (pa_cons (pe_ix ix_list (pe_ix ix_list (pv 1) pe_int (fun _ _ => rfl)) (pe_ix ix_list (pv 2) pe_int (fun _ _ => rfl)) (fun _ _ => rfl)) (pa_cons (pv 2) pa_nil))))))), ?_⟩
  rintro p vs G H Q ⟨w0, h0, R⟩ ha e k
  obtain ⟨v, rfl, q0⟩ := args_1 ha
  have hw : p.wide = w0 := R.wide
  have hl : p.length = h0 := R.hh
  have w1 := R.w1
  have h1 := R.h1
  have w16 := R.w16
  have h16 := R.h16
  obtain ⟨b, t, e1, e2, e3, e4⟩ := seam_cost (p := p) (by omega) (by omega)
  have hbl : b.length = p.wide := tab_row p p.length b (by rw [e1]; exact List.mem_cons_self)
  refine s_asg (P := rL (rL rInt) (tab p p.length)) (ev_call p (ea1 (ev_var rfl q0)) ⟨w0, h0, R⟩) e fun u G1 H1 g1 p1 => ?_
  refine s_asg (P := rL rNat (leastP p)) (ev_call (p.wide, tab p p.length) (ea1 (ev_var rfl p1)) ⟨by show 1 ≤ p.wide; omega, by show p.wide ≤ 16; omega, by show tab p p.length ≠ []; rw [e1]; exact List.cons_ne_nil _ _, by show (tab p p.length).length ≤ 16; rw [tab_len]; omega, tab_row p p.length⟩) g1.gh fun u2 G2 H2 g2 p2 => ?_
  have hs : leastP p = bestP b (List.range p.wide) :: Sq46.down p.wide t (bestP b (List.range p.wide)) := e2
  refine s_ret (P := rT K [rInt (Sq46.cost p 0 (leastP p)), rL rNat (leastP p)]) (ev_tup (ea2 ((ev_ixM (K := K) (R := rInt) (xs := b) (j := bestP b (List.range p.wide)) (ev_ixM (K := K) (R := rL rInt) (xs := tab p p.length) (j := 0) (ev_var rfl (mo g2.gg p1)) (ev_int (n := 0)) (by rw [e1]; rfl)) (ev_ixM (K := K) (R := rNat) (xs := leastP p) (j := 0) (ev_var rfl p2) (ev_int (n := 0)) (by rw [hs]; rfl)) (getD_at (by rw [hbl]; exact e3))).is ?_) (ev_var rfl p2)) (by show 2 ≤ sizeLine; decide)) g2.gh fun v' G3 H3 g3 p3 => k v' G3 H3 ((g1.trans g2).trans g3) p3
  rw [← e4]
  rfl
end
end LS
/-! list(it), where it draws objects that it makes itself, one a turn; then it = zip(xs, ys) of two lists. The layer has no rule for it. -/
namespace LS
open PySem PySem.Spec PyProof.Rows L2
/-- all but wr stays -/
def Kp (wr : List Addr) (h h' : Heap) : Prop := ∀ b o, b ∉ wr → h.get? b = some o → h'.get? b = some o
theorem Kp.id (wr : List Addr) (h : Heap) : Kp wr h h := fun _ _ _ e => e
theorem Kp.comp {wr vr : List Addr} {f g h : Heap} (x : Kp wr f g) (y : Kp vr g h) (l : ∀ b ∈ vr, b ∈ wr) : Kp wr f h := fun b o n e => y b o (fun z => n (l b z)) (x b o n e)
theorem Kp.wide {wr vr : List Addr} {g h : Heap} (y : Kp vr g h) (l : ∀ b ∈ vr, b ∈ wr) : Kp wr g h := (Kp.id wr g).comp y l
theorem Kp.upd {S : Addr} {h : Heap} {f : Obj → Obj} : Kp [S] h (h.update S f) := fun _ _ n e => Eq.trans (Heap.get?_update_other _ _ fun z => n (List.mem_singleton.mpr z.symm)) e
/-- the list that is filled, as an object -/
abbrev lob (acc : Array Value) (c : Nat := 0) : Obj := { cls := .type "list", data := .seq acc c }
abbrev refs (as : List Addr) : Array Value := (as.map Value.ref).toArray
theorem refs_push (as : List Addr) (a : Addr) : (refs as).push (.ref a) = refs (as ++ [a]) := by simp [refs]
/-- what was drawn so far: behind S, rising, the j-th as It j says -/
structure Dn (It : Nat → Addr → Heap → Prop) (S : Addr) (as : List Addr) (h : Heap) : Prop where
  up : (S :: as).Pairwise (· < ·)
  ix : ∀ j a, as[j]? = some a → It j a h
theorem snoc_ix {α : Type} {l : List α} {a b : α} {j : Nat} (e : (l ++ [a])[j]? = some b) : l[j]? = some b ∨ (j = l.length ∧ b = a) := by
  by_cases q : j < l.length
  · exact .inl (by rwa [List.getElem?_append_left q] at e)
  · rw [List.getElem?_append_right (Nat.le_of_not_lt q)] at e
    by_cases z : j - l.length = 0
    · rw [z] at e
      exact .inr ⟨by omega, (Option.some.inj e).symm⟩
    · obtain ⟨m, hm⟩ := Nat.exists_eq_succ_of_ne_zero z
      rw [hm] at e
      cases e
section
variable {prog : Program} {w : World} {A : Around} {s : Shared} {it S : Addr} {wr : List Addr} {n : Nat} {Sta : Nat → Heap → Prop} {It : Nat → Addr → Heap → Prop}
/-- what draws: it writes at wr alone, which lies ahead of S -/
structure Src (prog : Program) (w : World) (A : Around) (it S : Addr) (wr : List Addr) (n : Nat) (Sta : Nat → Heap → Prop) (It : Nat → Addr → Heap → Prop) : Prop where
  low : ∀ b ∈ wr, b < S
  keep : ∀ {i h h'}, Sta i h → Kp [S] h h' → Sta i h'
  same : ∀ {j a h h'}, It j a h → (∀ o, h.get? a = some o → h'.get? a = some o) → It j a h'
  here : ∀ {j a h}, It j a h → a < h.objs.size
  turn : ∀ i (s : Shared) (Q : Option Value → Shared → Prop) (E : Value → Shared → Prop), i < n → Sta i s.heap → S < s.heap.objs.size →
    (∀ h', Sta (i + 1) h' → It i s.heap.objs.size h' → Kp wr s.heap h' → Q (some (.ref s.heap.objs.size)) { s with heap := h' }) → wpAny (model prog w) A (pyNext (.ref it)) Q E s
  last : ∀ (s : Shared) (Q : Option Value → Shared → Prop) (E : Value → Shared → Prop), Sta n s.heap → (∀ h', Kp wr s.heap h' → Q none { s with heap := h' }) → wpAny (model prog w) A (pyNext (.ref it)) Q E s
theorem Dn.above {as : List Addr} {h : Heap} (d : Dn It S as h) {a : Addr} (m : a ∈ as) : S < a := (List.pairwise_cons.mp d.up).1 a m
theorem Dn.keep (X : Src prog w A it S wr n Sta It) {vr as : List Addr} {h h' : Heap} (d : Dn It S as h) (k : Kp vr h h') (l : ∀ b ∈ vr, b ≤ S) : Dn It S as h' :=
  ⟨d.up, fun j a e => X.same (d.ix j a e) fun o g => k a o (fun z => Nat.lt_irrefl _ (Nat.lt_of_le_of_lt (l a z) (d.above (List.mem_of_getElem? e)))) g⟩
theorem Dn.more (X : Src prog w A it S wr n Sta It) {as : List Addr} {h₀ h : Heap} (old : Dn It S as h₀) (now : Dn It S as h) (q : S < h₀.objs.size) (i : It as.length h₀.objs.size h) : Dn It S (as ++ [h₀.objs.size]) h := by
  constructor
  · rw [← List.cons_append]
    refine List.pairwise_append.mpr (And.intro old.up (And.intro (List.pairwise_singleton _ _) ?_))
    intro a m b z
    obtain rfl := List.mem_singleton.mp z
    rcases List.mem_cons.mp m with rfl | m
    · exact q
    · obtain ⟨j, e⟩ := List.getElem?_of_mem m
      exact X.here (old.ix j a e)
  · intro j a e
    rcases snoc_ix e with e | ⟨rfl, rfl⟩
    · exact now.ix j a e
    · exact i
variable {R : Result → Shared → Prop}
/-- how a builtin's code ends -/
abbrev FinTo (prog : Program) (w : World) (A : Around) (R : Result → Shared → Prop) (f : Fin) (t : Shared) : Prop := match f with
  | .done g => R (.ok g) t
  | .again d => d.quiet = true ∧ codeAny (model prog w) A d R t
theorem src_loop (X : Src prog w A.in1 it S wr n Sta It) (big : n ≤ sizeLine) (res : Value) {h₁ : Heap}
    (fin : ∀ h' tk as c, Kp (S :: wr) h₁ h' → as.length = n → Dn It S as h' → h'.get? S = some (lob (refs as) c) → R (.ok (.ret res)) { s with heap := h', toks := tk }) :
    ∀ (k : Nat) (as : List Addr) (h : Heap) (tk c : Nat), as.length + k = n → Sta as.length h → Kp (S :: wr) h₁ h → Dn It S as h → h.get? S = some (lob (refs as) c) →
      codeAny (model prog w) A (.builtin "list.extend.loop" ⟨[.ref S, .ref it, res], []⟩) R { s with heap := h, toks := tk }
  | k, as, h, tk, c, hk, st, kp, d, hS => by
    have nS : S ∉ wr := fun z => Nat.lt_irrefl _ (X.low S z)
    have qS : S < h.objs.size := Heap.lt_size hS
    apply codeAny_builtin PySem.F.entry_extend_loop
    rw [Around.under_plainId PySem.F.plain_extend_loop]
    refine wpAny_bind (m := pyNext (.ref it)) ?_
    match k with
    | 0 =>
      have hl : as.length = n := hk
      rw [hl] at st
      exact X.last { s with heap := h, toks := tk } _ _ st fun h' g => wpAny_pure (fin h' tk as c (kp.comp g fun b z => List.mem_cons_of_mem _ z) hl (d.keep X g fun b z => Nat.le_of_lt (X.low b z)) (g S _ nS hS))
    | k + 1 =>
      refine X.turn as.length { s with heap := h, toks := tk } _ _ (by omega) st qS fun h' st' i g => ?_
      have hS' := g S _ nS hS
      have sz : (refs as).size = as.length := by simp [refs]
      have u : Kp [S] h' (h'.update S (Obj.mapSeq fun q => q.push (.ref h.objs.size))) := Kp.upd
      have i' := X.same i fun o e => u _ o (fun z => Nat.lt_irrefl S (by rw [List.mem_singleton.mp z] at qS; exact qS)) e
      have d' := (d.more X ((d.keep X g fun b z => Nat.le_of_lt (X.low b z)).keep X u fun b z => Nat.le_of_eq (List.mem_singleton.mp z)) qS i')
      obtain ⟨c', hS2⟩ : ∃ c', (h'.update S (Obj.mapSeq fun q => q.push (.ref h.objs.size))).get? S = some (lob (refs (as ++ [h.objs.size])) c') := by
        rw [← refs_push]
        exact ⟨_, Heap.get?_update_self _ hS' rfl⟩
      refine wpAny_bind (m := updateSeq S fun q => q.push (.ref h.objs.size)) (wpAny_updateSeq hS' rfl (wpAny_pure (And.intro (plainId_quiet PySem.F.plain_extend_loop _) ?_)) ?_ ?_)
      · refine src_loop X big res fin k (as ++ [h.objs.size]) _ tk c' ?_ ?_ ?_ d' hS2
        · rw [List.length_append, List.length_singleton]; omega
        · rw [List.length_append]; exact X.keep st' u
        · exact (kp.comp g fun b z => List.mem_cons_of_mem _ z).comp u fun b z => by rw [List.mem_singleton.mp z]; exact List.mem_cons_self
      · rw [sz]; omega
      · show ((refs as).push _).size ≤ _
        rw [Array.size_push, sz]; omega
theorem src_fill (X : Src prog w A.in1 it S wr n Sta It) (big : n ≤ sizeLine) {T : String} {o : Obj} (ho : s.heap.get? it = some o) (hT : o.cls = .type T) (l1 : (Value.type T == Value.type "list") = false) (l2 : (Value.type T == Value.type "tuple") = false)
    (no1 : typeLookup (.type T) "__len__" = pure none) (no2 : typeLookup (.type T) "__length_hint__" = pure none) (own : ∀ (s : Shared) (Q : Value → Shared → Prop) (E : Value → Shared → Prop), s.heap.get? it = some o → Q (.ref it) s → wpAny (model prog w) A.in1 (pyIter (.ref it)) Q E s)
    (ne : it ≠ S) (st : Sta 0 s.heap) (res : Value) {c : Nat} (hS : s.heap.get? S = some (lob #[] c))
    (fin : ∀ h' tk as c, Kp (S :: wr) s.heap h' → as.length = n → Dn It S as h' → h'.get? S = some (lob (refs as) c) → R (.ok (.ret res)) { s with heap := h', toks := tk }) :
    wpAny (model prog w) A.in1 (Builtin.List.listExtendWith (.ref S) (.ref it) res) (FinTo prog w A R) (fun e t => R (.error e) t) s := by
  have ty : s.TypeIs (.ref it) T := ⟨o, ho, hT⟩
  have go : ∀ (h : Heap) (c tk : Nat), Kp [S] s.heap h → h.get? S = some (lob #[] c) → FinTo prog w A R (.again (.builtin "list.extend.loop" ⟨[.ref S, .ref it, res], []⟩)) { s with heap := h, toks := tk } := fun h c tk k e =>
    ⟨plainId_quiet PySem.F.plain_extend_loop _, src_loop X big res fin n [] h tk c (Nat.zero_add n) (X.keep st k) (k.wide fun b z => by rw [List.mem_singleton.mp z]; exact List.mem_cons_self) ⟨List.pairwise_singleton _ _, fun j a q => by cases q⟩ e⟩
  have dif : Builtin.List.listSameRef (.ref S) (.ref it) = false := by simp [Builtin.List.listSameRef, Ne.symm ne]
  rw [Builtin.List.listExtendWith]
  refine wpAny_bind (wpAny_typeOf ty ?_)
  simp only [dif, l1, l2, Bool.or_self, Bool.false_eq_true, ite_false]
  refine wpAny_bind (own s _ _ ho ?_)
  refine wpAny_bind (wpAny_holding ?_)
  rw [Builtin.List.listLengthHint]
  refine wpAny_bind (wpAny_specialOf ty no1 ?_)
  refine wpAny_bind (m := specialOf (.ref it) (Str.ofString "__length_hint__")) (wpAny_specialOf ty no2 (wpAny_pure ?_))
  refine wpAny_ite_split (fun _ => ?_) fun _ => wpAny_pure (go _ c _ (Kp.id _ _) hS)
  refine wpAny_bind (wpAny_rule (wpAny_bind (m := Builtin.List.listTouch (.ref S)) ?_))
  have one := Heap.get?_update_self (Obj.mapSeq fun q => q.push Value.none) hS rfl
  have two := Heap.get?_update_self (Obj.mapSeq fun q => q.pop) one rfl
  exact wpAny_bind (m := updateSeq S fun q => q.push Value.none) (wpAny_updateSeq hS rfl (wpAny_updateSeq (hz := by seq_fits) one rfl (wpAny_pure (go _ _ _ (Kp.upd.comp Kp.upd fun _ z => z) two))))
/-- list(it) -/
theorem src_call {Q : Value → Shared → Prop} {E : Value → Shared → Prop} (X : Src prog w A.in1.in1 it s.heap.objs.size wr n Sta It) (big : n ≤ sizeLine) {T : String} {o : Obj} (ho : s.heap.get? it = some o) (hT : o.cls = .type T)
    (l1 : (Value.type T == Value.type "list") = false) (l2 : (Value.type T == Value.type "tuple") = false) (no1 : typeLookup (.type T) "__len__" = pure none) (no2 : typeLookup (.type T) "__length_hint__" = pure none)
    (own : ∀ (s : Shared) (Q : Value → Shared → Prop) (E : Value → Shared → Prop), s.heap.get? it = some o → Q (.ref it) s → wpAny (model prog w) A.in1.in1 (pyIter (.ref it)) Q E s) (st : Sta 0 s.heap)
    (fin : ∀ h' tk as c, Kp wr s.heap h' → as.length = n → Dn It s.heap.objs.size as h' → h'.get? s.heap.objs.size = some (lob (refs as) c) → Q (.ref s.heap.objs.size) { s with heap := h', toks := tk }) :
    wpAny (model prog w) A (call (.type "list") [.ref it]) Q E s := by
  have grow : Kp [s.heap.objs.size] s.heap (s.heap.push (lob #[])) := fun b u _ e => Heap.get?_push_of_some _ e
  have first : (s.heap.push (lob #[])).get? s.heap.objs.size = some (lob #[]) := Heap.get?_push_size _ rfl
  have other : it ≠ s.heap.objs.size := Nat.ne_of_lt (Heap.lt_size ho)
  refine callType_codes (Q₁ := fun v t => v = .ref s.heap.objs.size ∧ t = { s with heap := s.heap.push (lob #[]) }) PySem.F.called_list (PySem.F.typeCall_list_1 _) PySem.F.entry_list_init (code_list_new _ (And.intro rfl rfl)) ?_
  rintro _ _ ⟨rfl, rfl⟩
  refine ⟨⟨_, first, rfl⟩, PySem.F.args_list_init_2 _ _, ?_⟩
  refine wpAny_bind (m := Builtin.List.listItems (.ref s.heap.objs.size)) (wpAny_bind (wpAny_seqItems first rfl (wpAny_pure ?_)))
  refine wpAny_bind (m := updateSeq s.heap.objs.size fun _ => #[]) (wpAny_updateSeq first rfl (wpAny_bind (wpAny_letGo ?_)))
  have k : Kp [s.heap.objs.size] s.heap ((s.heap.push (lob #[])).update s.heap.objs.size (Obj.mapSeq fun _ => #[])) := grow.comp Kp.upd fun _ z => z
  refine src_fill (A := A.in1) X big (k it o (fun z => other (List.mem_singleton.mp z)) ho) hT l1 l2 no1 no2 own other (X.keep st k) .none (Heap.get?_update_self _ first rfl) fun h' tk as c kp hl d hS => ⟨rfl, fin h' tk as c (fun b u nb e => ?_) hl d hS⟩
  have lb : b ≠ s.heap.objs.size := Nat.ne_of_lt (Heap.lt_size e)
  exact kp b u (fun z => (List.mem_cons.mp z).elim lb nb) (k b u (fun z => lb (List.mem_singleton.mp z)) e)
end
section
variable {prog : Program} {w : World} {A : Around} {z TI TO i1 i2 l1 l2 S : Addr} {xs ys : Array Value}
/-- zip(xs, ys) behind i turns: its first pair is not given out yet, or some tuple T is out -/
structure Zi (z TI TO i1 i2 l1 l2 S : Addr) (xs ys : Array Value) (i : Nat) (h : Heap) : Prop where
  ti : IsPair h TI (.ref i1) (.ref i2)
  a : h.IsListIter i1 l1 i
  b : h.IsListIter i2 l2 i
  as : h.IsList l1 xs
  bs : h.IsList l2 ys
  how : (IsZip h z TI TO .none ∧ ∃ u v, IsPair h TO u v) ∨ ∃ T f, IsZipHeld h z TI TO T f ∧ (∃ o, h.get? T = some o) ∧ T ≠ z ∧ T ≠ i1 ∧ T ≠ i2 ∧ T ≠ S
/-- the j-th that it gives -/
def Zt (xs ys : Array Value) (j : Nat) (t : Addr) (h : Heap) : Prop := ∃ x y, xs[j]? = some x ∧ ys[j]? = some y ∧ IsPair h t x y
theorem zip_src (hh : A.handled = none) (D : ZipApart z TI TO i1 i2 l1 l2) (lo : ∀ b ∈ [z, TI, TO, i1, i2, l1, l2], b < S) :
    Src prog w A z S [z, TO, i1, i2] (min xs.size ys.size) (Zi z TI TO i1 i2 l1 l2 S xs ys) (Zt xs ys) := by
  have ff : ∀ {h h' : Heap}, Kp [S] h h' → ∀ b ∈ [z, TI, TO, i1, i2, l1, l2], ∀ o, h.get? b = some o → h'.get? b = some o := fun k b m o e => k b o (fun q => Nat.lt_irrefl _ (List.mem_singleton.mp q ▸ lo b m)) e
  have m4 : ∀ {b : Addr}, b ≠ z → b ≠ TO → b ≠ i1 → b ≠ i2 → b ∉ [z, TO, i1, i2] := fun p q r t y => by simp [p, q, r, t] at y
  have m4' : ∀ {b : Addr}, b ∉ [z, TO, i1, i2] → b ≠ z ∧ b ≠ TO ∧ b ≠ i1 ∧ b ≠ i2 := fun y => by simpa using y
  refine ⟨fun b m => lo b (by simp at m ⊢; rcases m with rfl | rfl | rfl | rfl <;> simp), fun {i h h'} t k => ?_, fun {j a h h'} t k => ?_, fun {j a h} t => ?_, fun i s Q E hi t hS fin => ?_, fun s Q E t fin => ?_⟩
  · have f := ff k
    refine ⟨f TI (by simp) _ t.ti, t.a.at (f i1 (by simp)), t.b.at (f i2 (by simp)), t.as.at (f l1 (by simp)), t.bs.at (f l2 (by simp)), t.how.imp ?_ ?_⟩
    · exact fun ⟨p, u, v, q⟩ => ⟨f z (by simp) _ p, u, v, f TO (by simp) _ q⟩
    · exact fun ⟨T, g, p, ⟨o, q⟩, r⟩ => ⟨T, g, f z (by simp) _ p, ⟨o, k T o (fun y => r.2.2.2 (List.mem_singleton.mp y)) q⟩, r⟩
  · exact let ⟨x, y, p, q, r⟩ := t; ⟨x, y, p, q, k _ r⟩
  · exact let ⟨_, _, _, _, r⟩ := t; Heap.lt_size r
  · obtain ⟨ti, ta, tb, tas, tbs, how⟩ := t
    have gx : xs[i]? = some xs[i] := Array.getElem?_eq_getElem (by omega)
    have gy : ys[i]? = some ys[i] := Array.getElem?_eq_getElem (by omega)
    have new : ∀ {c : Addr} {o : Obj}, s.heap.get? c = some o → s.heap.objs.size ≠ c := fun e => Nat.ne_of_gt (Heap.lt_size e)
    have na : s.heap.objs.size ≠ i1 := let ⟨_, e, _⟩ := ta; new e
    have nb : s.heap.objs.size ≠ i2 := let ⟨_, e, _⟩ := tb; new e
    rcases how with ⟨p, u, v, q⟩ | ⟨T, f, p, ⟨o, q⟩, r⟩
    · refine wpAny_pyNext_zip_item D p ti q ta tb tas tbs gx gy fun h' c1 _ c3 c4 c5 _ kk => ?_
      exact fin h' ⟨kk _ _ D.TIz D.TITO D.TIi1 D.TIi2 ti, c3, c4, tas.at fun o => kk _ o D.l1z D.l1TO D.l1i1 D.l1i2, tbs.at fun o => kk _ o D.l2z D.l2TO D.l2i1 D.l2i2, .inr ⟨_, _, c1, ⟨_, c5⟩, new p, na, nb, Nat.ne_of_gt hS⟩⟩ ⟨_, _, gx, gy, c5⟩
        fun b o y e => let ⟨y1, y2, y3, y4⟩ := m4' y; kk b o y1 y2 y3 y4 e
    · refine wpAny_pyNext_zip_item_held D p q ti ta tb tas tbs gx gy fun h' c1 c3 c4 c5 _ kk => ?_
      exact fin h' ⟨kk _ _ D.TIz D.TIi1 D.TIi2 ti, c3, c4, tas.at fun o => kk _ o D.l1z D.l1i1 D.l1i2, tbs.at fun o => kk _ o D.l2z D.l2i1 D.l2i2, .inr ⟨T, _, c1, ⟨o, kk _ _ r.1 r.2.1 r.2.2.1 q⟩, r⟩⟩ ⟨_, _, gx, gy, c5⟩
        fun b o y e => let ⟨y1, _, y3, y4⟩ := m4' y; kk b o y1 y3 y4 e
  · obtain ⟨ti, ta, tb, tas, tbs, how⟩ := t
    have over : xs[min xs.size ys.size]? = none ∨ ys[min xs.size ys.size]? = none := by
      by_cases q : xs.size ≤ ys.size
      · exact .inl (Array.getElem?_eq_none_iff.mpr (by omega))
      · exact .inr (Array.getElem?_eq_none_iff.mpr (by omega))
    rcases how with ⟨p, u, v, q⟩ | ⟨T, f, p, ⟨o, q⟩, r⟩
    · exact wpAny_pyNext_zip_end hh D p ti q ta tb tas tbs over fun h' kk => fin h' fun b o y e => let ⟨y1, y2, y3, y4⟩ := m4' y; kk b o y1 y2 y3 y4 e
    · exact wpAny_pyNext_zip_end_held hh D p q ti ta tb tas tbs over fun h' kk => fin h' fun b o y e => let ⟨y1, _, y3, y4⟩ := m4' y; kk b o y1 y3 y4 e
/-- list(zip(xs, ys)), the zip made -/
theorem list_zip {s : Shared} {Q : Value → Shared → Prop} {E : Value → Shared → Prop} (hh : A.handled = none) (D : ZipApart z TI TO i1 i2 l1 l2) (big : min xs.size ys.size ≤ sizeLine) (hz : IsZip s.heap z TI TO .none) (ti : IsPair s.heap TI (.ref i1) (.ref i2)) {u v : Value} (to : IsPair s.heap TO u v)
    (ta : s.heap.IsListIter i1 l1 0) (tb : s.heap.IsListIter i2 l2 0) (tas : s.heap.IsList l1 xs) (tbs : s.heap.IsList l2 ys)
    (fin : ∀ h' tk as c, Kp [z, TO, i1, i2] s.heap h' → as.length = min xs.size ys.size → Dn (Zt xs ys) s.heap.objs.size as h' → h'.get? s.heap.objs.size = some (lob (refs as) c) → Q (.ref s.heap.objs.size) { s with heap := h', toks := tk }) :
    wpAny (model prog w) A (call (.type "list") [.ref z]) Q E s := by
  refine src_call (zip_src (A := A.in1.in1) hh D fun b m => ?_) big hz rfl (by decide) (by decide) (am_miss_of_fast (by decide +kernel)) (am_miss_of_fast (by decide +kernel)) (fun s Q E p q => wpAny_pyIter_zip p q) ⟨ti, ta, tb, tas, tbs, .inl ⟨hz, u, v, to⟩⟩ fin
  have q1 := Heap.lt_size hz
  have q2 := Heap.lt_size ti
  have q3 := Heap.lt_size to
  have q4 : i1 < s.heap.objs.size := let ⟨_, e, _⟩ := ta; Heap.lt_size e
  have q5 : i2 < s.heap.objs.size := let ⟨_, e, _⟩ := tb; Heap.lt_size e
  have q6 : l1 < s.heap.objs.size := let ⟨_, e, _⟩ := tas; Heap.lt_size e
  have q7 : l2 < s.heap.objs.size := let ⟨_, e, _⟩ := tbs; Heap.lt_size e
  simp only [List.mem_cons, List.not_mem_nil, or_false] at m
  rcases m with rfl | rfl | rfl | rfl | rfl | rfl | rfl <;> assumption
end
end LS
/-! list(zip(xs, ys)) over the layer. -/
namespace LS
open PySem PySem.Spec PyProof.Rows L2
/-- H with the list at S and its tuples -/
def zH (H : Hp) (S : Addr) (as : List Addr) (ps : List (V × V)) : Hp := fun b => match List.lookup b (as.zip ps) with
  | some p => some (.tup [p.1, p.2])
  | none => if b = S then some (.lst (as.map V.ref)) else H b
theorem look_off {b : Addr} : ∀ {as : List Addr} {ps : List (V × V)}, b ∉ as → List.lookup b (as.zip ps) = none
  | [], _, _ => by simp
  | _ :: _, [], _ => by simp
  | a :: as, p :: ps, n => by
    have ne : (b == a) = false := beq_false_of_ne fun e => n (e ▸ List.mem_cons_self)
    rw [List.zip_cons_cons, List.lookup_cons, ne]
    exact look_off fun m => n (List.mem_cons_of_mem _ m)
theorem look_at {b : Addr} {p : V × V} : ∀ {as : List Addr} {ps : List (V × V)} {j : Nat}, as.Pairwise (· < ·) → as[j]? = some b → ps[j]? = some p → List.lookup b (as.zip ps) = some p
  | [], _, _, _, e, _ => nomatch e
  | _ :: _, [], _, _, _, e => nomatch e
  | a :: as, q :: ps, 0, _, e, f => by
    rw [← Option.some.inj e, ← Option.some.inj f, List.zip_cons_cons, List.lookup_cons, beq_self_eq_true]
  | a :: as, q :: ps, j + 1, r, e, f => by
    have lt : a < b := (List.pairwise_cons.mp r).1 b (List.mem_of_getElem? e)
    have ne : (b == a) = false := beq_false_of_ne (Nat.ne_of_gt lt)
    rw [List.zip_cons_cons, List.lookup_cons, ne]
    exact look_at (List.pairwise_cons.mp r).2 e f
theorem zH_off {H : Hp} {S b : Addr} {as : List Addr} {ps : List (V × V)} (n : b ∉ as) (m : b ≠ S) : zH H S as ps b = H b := by
  simp only [zH, look_off n, if_neg m]
theorem zH_S {H : Hp} {S : Addr} {as : List Addr} {ps : List (V × V)} (n : S ∉ as) : zH H S as ps S = some (.lst (as.map V.ref)) := by
  simp only [zH, look_off n, if_true]
theorem zH_at {H : Hp} {S b : Addr} {as : List Addr} {ps : List (V × V)} {j : Nat} {p : V × V} (r : as.Pairwise (· < ·)) (e : as[j]? = some b) (f : ps[j]? = some p) : zH H S as ps b = some (.tup [p.1, p.2]) := by
  simp only [zH, look_at r e f]
theorem refs_vals (as : List Addr) : Vals (as.map V.ref) (refs as).toList := by
  show Vals (as.map V.ref) (as.map Value.ref)
  induction as with
  | nil => exact .nil
  | cons a as ih => exact .cons rfl ih
def tListZip (K : PySem.W.Frag) (ta tb : TE) : TE := fun σ H Q => ta σ H fun x H1 => tb σ H1 fun y H2 => ∃ (l1 l2 : Addr) (xs ys : List V), x = .ref l1 ∧ y = .ref l2 ∧ SqL K H2 l1 xs ∧ SqL K H2 l2 ys ∧
  ∀ (H' : Hp) (p : Addr) (ts : List Addr), (∀ b o, H2 b = some o → H' b = some o) → H2 p = none → (∀ t ∈ ts, H2 t = none) → p ∉ ts → H' p = some (.lst (ts.map V.ref)) → Paired (fun (t : Addr) (q : V × V) => H' t = some (.tup [q.1, q.2])) ts (xs.zip ys) → Q (.ref p) H'
theorem pe_listZip {X : Cx} {a b : Expr} {ta tb : TE} {p p2 pos pos2 : Pos} (hc : X.calm = true) (hg : Gl X "list") (hm : X.mg "list" = none) (hg2 : Gl X "zip") (hm2 : X.mg "zip" = none) (ha : PE X a ta) (hb : PE X b tb)
    (na : starEach [.Call (.Name "zip" p2) [a, b] [] pos2] X.env = (false, eval (.Call (.Name "zip" p2) [a, b] [] pos2) X.env) :: starEach [] X.env := by rfl)
    (nb : starEach [a, b] X.env = (false, eval a X.env) :: starEach [b] X.env := by rfl) (nc : starEach [b] X.env = (false, eval b X.env) :: starEach [] X.env := by rfl) (hp : (backTo pos2 (starEach [b] X.env)).any (·.1) = false := by rfl) :
    PE X (.Call (.Name "list" p) [.Call (.Name "zip" p2) [a, b] [] pos2] [] pos) (tListZip X.K ta tb) := by
  refine ⟨fun pins s σ H Q I h => ?_⟩
  refine Call_ (ld_blt I hg hm boot_list (PyProof.Rows.callWith_type1 (args_cons ?_ na) na))
  refine Call_ (ld_blt I hg2 hm2 PyProof.Rows.boot_zip (PyProof.Rows.callWith_type1 (args_cons (thn (ha.run pins s σ H _ I h) fun v s1 ⟨x, H1, I1, r1, q1⟩ => one_arg hb I1 q1 (fun u s2 y H2 I2 r2 q => ?_) nc) nb) nb hp))
  obtain ⟨l1, l2, xs, ys, rfl, rfl, hx, hy, q⟩ := q
  cases r1
  cases r2
  obtain ⟨its, rv, p1, hz1⟩ := I2.list hx
  obtain ⟨its2, rv2, p2', hz2⟩ := I2.list hy
  have la : l1 < s2.heap.objs.size := p1.lt
  have lb : l2 < s2.heap.objs.size := p2'.lt
  have e1 := rv.length
  have e2 := rv2.length
  refine call_zip_2 p1.isList p2'.isList fun h1 hz hTI hTO hi1 hi2 hsz hk => args_nil ?_
  refine list_zip (s := { s2 with heap := h1 }) (xs := its.toArray) (ys := its2.toArray) (I2.ok.hd hc) (PySem.W.ktu_apart s2.heap.objs.size l1 l2 la lb) ?_ hz hTI hTO hi1 hi2 (p1.isList.at (hk _)) (p2'.isList.at (hk _)) fun h' tk as c kp hl d hS => ?_
  · rw [List.size_toArray, List.size_toArray]; omega
  dsimp only at kp hS hl d ⊢
  rw [List.size_toArray, List.size_toArray] at hl
  -- what stood stands
  have old : ∀ b o, s2.heap.get? b = some o → h'.get? b = some o := fun b o e => by
    have lt : b < s2.heap.objs.size := Heap.lt_size e
    refine kp b o (fun m => ?_) (hk b o e)
    have far : ∀ k : Nat, b ≠ s2.heap.objs.size + k := fun k => Nat.ne_of_lt (Nat.lt_of_lt_of_le lt (Nat.le_add_right _ _))
    simp only [List.mem_cons, List.not_mem_nil, or_false] at m
    rcases m with m | m | m | m
    · exact far 4 m
    · exact far 3 m
    · exact far 0 m
    · exact far 1 m
  have past : s2.heap.objs.size ≤ h1.objs.size := hsz ▸ Nat.le_add_right _ _
  generalize h1.objs.size = S at hS d past
  have rise := (List.pairwise_cons.mp d.up).2
  have beyond : ∀ t ∈ as, s2.heap.objs.size ≤ t := fun t m => Nat.le_trans past (Nat.le_of_lt (d.above m))
  have nS : S ∉ as := fun m => Nat.lt_irrefl S (d.above m)
  have fS : H2 S = none := I2.hok.fresh past
  have fT : ∀ t ∈ as, H2 t = none := fun t m => I2.hok.fresh (beyond t m)
  have len : as.length = (xs.zip ys).length := by rw [hl, List.length_zip, e1, e2]
  have stays : ∀ b u, H2 b = some u → zH H2 S as (xs.zip ys) b = some u := fun b u e => by
    rw [zH_off (fun m => by rw [fT b m] at e; cases e) (fun m => by rw [m, fS] at e; cases e), e]
  have tups : Paired (fun (t : Addr) (q : V × V) => zH H2 S as (xs.zip ys) t = some (.tup [q.1, q.2])) as (xs.zip ys) := paired_all len fun j t q e f => zH_at rise e f
  refine ⟨.ref S, zH H2 S as (xs.zip ys), ?_, rfl, q _ S as stays fS fT nS (zH_S nS) tups⟩
  refine I2.call' (ch := []) rfl ⟨fun b o e _ _ _ => old b o e, fun b o e _ _ _ => ⟨o.slots, old b o e⟩, fun b o e n _ => ?_, fun b o e _ => ⟨o, old b o e⟩, fun b us e => stays b _ e, fun b o u e => stays b _ e, fun b ps e => ⟨#[], by rw [stays b _ e]; simp⟩⟩ (fun b u e => ?_) I2.bare (fun b m => nomatch m)
  · have lt : b < s2.heap.objs.size := Heap.lt_size e
    rw [zH_off (fun m => Nat.lt_irrefl b (Nat.lt_of_lt_of_le lt (beyond b m))) (Nat.ne_of_lt (Nat.lt_of_lt_of_le lt past))]
    exact n
  by_cases m : b ∈ as
  · obtain ⟨j, hj⟩ := List.getElem?_of_mem m
    obtain ⟨⟨x, y⟩, f, g⟩ := paired_ix tups hj
    obtain rfl := Option.some.inj (g.symm.trans e)
    obtain ⟨f1, f2⟩ := List.getElem?_zip_eq_some.mp f
    obtain ⟨xv, k1, k2⟩ := rv.get f1
    obtain ⟨yv, k3, k4⟩ := rv2.get f2
    obtain ⟨xv', yv', g1, g2, g3⟩ := d.ix j b hj
    rw [List.getElem?_toArray, k1] at g1
    rw [List.getElem?_toArray, k3] at g2
    obtain rfl := Option.some.inj g1
    obtain rfl := Option.some.inj g2
    exact ⟨(by decide : 2 ≤ sizeLine), [xv, yv], .cons k2 (.cons k4 .nil), ⟨_, g3, rfl, _, rfl⟩⟩
  by_cases m2 : b = S
  · subst m2
    obtain rfl := Option.some.inj ((zH_S nS).symm.trans e)
    exact ⟨by rw [List.length_map]; omega, (refs as).toList, c, refs_vals as, hS⟩
  · rw [zH_off m m2] at e
    exact (I2.hok b u e).stay (fun a v _ z => old a v z) (fun a z => stays a _ z) fun a us z => stays a _ z
section
variable {K : PySem.W.Frag} {σ : L2.St} {G : Hp} {ta tb : TE} {α β : Type} {R : α → Pd} {S : β → Pd} {xs : List α} {ys : List β}
/-- .. by what is known -/
theorem ev_listZip [∀ x, Mp (R x)] [∀ x, Mp (S x)] (ha : EvR ta σ G (rL R xs)) (hb : EvR tb σ G (rL S ys)) : EvR (tListZip K ta tb) σ G (rL (fun q : α × β => rT K [R q.1, S q.2]) (xs.zip ys)) := fun G0 H a b Q k =>
  ha G0 H a b _ fun x G1 H1 g1 p1 => hb G1 H1 (a.trans g1.gg) g1.gh _ fun y G2 H2 g2 p2 => by
    obtain ⟨l1, vs, rfl, h1, h2⟩ := mo g2.gg p1
    obtain ⟨l2, us, rfl, h3, h4⟩ := p2
    refine ⟨l1, l2, vs, us, rfl, rfl, sqL_of (g2.gh _ _ h1), sqL_of (g2.gh _ _ h3), fun H' p ts hk hp ht hpt hl hts => ?_⟩
    have hgp : G2 p = none := g2.gh.free hp
    -- what is known then: G2, the list, its tuples
    let G3 : Hp := fun c => if c = p ∨ c ∈ ts then H' c else G2 c
    have hG3 : Ex G2 G3 := fun c o e => by
      show (if c = p ∨ c ∈ ts then H' c else G2 c) = some o
      rw [if_neg (fun z => by
        rcases z with z | z
        · rw [z, hgp] at e
          cases e
        · rw [g2.gh.free (ht c z)] at e
          cases e)]
      exact e
    have gr : Gr G2 H2 G3 H' := ⟨hG3, hk, fun c o e => by
        by_cases z : c = p ∨ c ∈ ts
        · have e' : (if c = p ∨ c ∈ ts then H' c else G2 c) = some o := e
          rw [if_pos z] at e'
          exact e'
        · have e' : (if c = p ∨ c ∈ ts then H' c else G2 c) = some o := e
          rw [if_neg z] at e'
          exact hk c o (g2.gh c o e'), fun c hc hn => by
        show (if c = p ∨ c ∈ ts then H' c else G2 c) = none
        rw [if_neg (fun z => by
          rcases z with z | z
          · rw [z] at hn
            exact hn hp
          · exact hn (ht c z))]
        exact hc⟩
    refine k _ G3 H' (g1.trans (g2.trans gr)) ⟨p, _, rfl, by show (if p = p ∨ p ∈ ts then H' p else G2 p) = _; rw [if_pos (Or.inl rfl)]; exact hl, ?_⟩
    have lv : xs.length = vs.length := by rw [← paired_len h2, List.length_map]
    have lu : ys.length = us.length := by rw [← paired_len h4, List.length_map]
    refine paired_all (by rw [List.length_map, List.length_map, paired_len hts, List.length_zip, List.length_zip, lv, lu]) fun i P v hP hv => ?_
    obtain ⟨⟨u, w⟩, hq, rfl⟩ := map_ix' hP
    rw [List.getElem?_map] at hv
    obtain ⟨g5, g6⟩ := List.getElem?_zip_eq_some.mp hq
    obtain ⟨v1, m1, m2⟩ := paired_ix h2 (map_ix (R := R) g5)
    obtain ⟨v2, m3, m4⟩ := paired_ix h4 (map_ix (R := S) g6)
    obtain ⟨t, n1, n2⟩ := paired_ix' hts (zip_ix m1 m3)
    rw [n1] at hv
    obtain rfl := Option.some.inj hv
    refine ⟨t, _, rfl, sqT_of (xs := [v1, v2]) ?_, .cons (mo hG3 m2) (.cons (mo hG3 m4) .nil)⟩
    show (if t = p ∨ t ∈ ts then H' t else G2 t) = _
    rw [if_pos (Or.inr (List.mem_of_getElem? n1))]
    exact n2
end
end LS
namespace LS
open PySem PySem.Spec PyProof.Rows L2
open Sq46 (Pixel Picture apart pixel going)
section
variable {P : Program} {w : World} {K : PySem.W.Frag} {mg : Str → Option Value} {base : Heap}
/-! with_pixels -/
abbrev spWithPixels (K : PySem.W.Frag) : Sp := PureF (fun (x : Picture × List Nat × List Pixel) => [rPic K x.1, rL rNat x.2.1, rL (rPx K) x.2.2]) (fun x => x.1.length ≤ 16 ∧ ∀ r ∈ x.1, r.length ≤ 16) (fun x => rPic K (Sq46.again x.1 x.2.1 x.2.2))
theorem sc_with_pixels : FnScope ["rows", "seam", "pixels", "row", "x", "pixel"] ["rows", "seam", "pixels"] (defScope (top 14)) := ⟨rfl, rfl, rfl, by decide +kernel, rfl, by decide +kernel, by decide +kernel⟩
theorem c_with_pixels (d : Df K mg "with_pixels" (top 14) ["rows", "seam", "pixels"]) (T : Txt mg) : Cal P w K mg base 1 "with_pixels" (spWithPixels K) := by
  have sc := sc_with_pixels
  refine mk_pure d sc (fun _ => rfl) fun f cdv A outer s H E hr => ⟨_, (pss_one (ps_ret (pe_lc (own := [("row", 3), ("x", 4), ("pixel", 5)]) (g := (gTup K 2 (gCons (gName 3) (gCons (gTup K 2 (gCons (gName 4) (gCons (gName 5) gNil))) gNil)))) (te := (qCat (qCat (qSl K (tVar 3) tNoPart (tPart (tVar 4))) (tLst (tCons (tVar 5) tNil))) (qSl K (tVar 3) (tPart (tVar 4)) tNoPart))) rfl sc.nd (pi_zip rfl T.zip (pa_cons (pv 0) (pa_cons (pe_listZip rfl rfl T.list rfl T.zip (pv 1) (pv 2)) pa_nil))) (blkOk_by (by kernel_rfl)) (fun _ _ _ _ _ => (pg_tup rfl (pgs_cons (pg_name (i := 3) sc.nd rfl (by first | exact Or.inl rfl | exact Or.inr rfl)) (pgs_cons (pg_tup rfl (pgs_cons (pg_name (i := 4) sc.nd rfl (by first | exact Or.inl rfl | exact Or.inr rfl)) (pgs_cons (pg_name (i := 5) sc.nd rfl (by first | exact Or.inl rfl | exact Or.inr rfl)) pgs_nil))) pgs_nil)))) (fun _ _ _ _ _ => pts_nil) (fun _ _ _ _ _ => (pe_op op_cat (pe_op op_cat (pe_slice sl_list (pv 3) po_none (po_some (pv 4))) (pe_lst (pa_cons (pv 5) pa_nil))) (pe_slice sl_list (pv 3) (po_some (pv 4)) po_none)))))), ?_⟩
  rintro ⟨p, sm, l⟩ vs G H Q ⟨hp, hp2⟩ ha e k
  obtain ⟨v, u, u', rfl, h0, h1, h2⟩ := args3 ha
  replace hp : p.length ≤ 16 := hp
  replace hp2 : ∀ r ∈ p, r.length ≤ 16 := hp2
  refine s_ret (P := rPic K (Sq46.again p sm l)) (ev_lcL (n := min p.length (sm.zip l).length) (by unfold Sq46.again; rw [List.length_map, List.length_zip]) (it_zipL (ev_var rfl h0) (ev_listZip (K := K) (R := rNat) (S := rPx K) (ev_var rfl h1) (ev_var rfl h2))) (Nat.le_trans (Nat.le_trans (Nat.min_le_left _ _) hp) (by decide)) ?_) e k
  rintro i it r G1 H0 hP e1 e2 ⟨T, y, z, q, ⟨n, px⟩, rfl, hT, hq, hn, hy, a, us, rfl, sa, hus⟩
  obtain ⟨u1, u2, rfl, hu1, hu2⟩ := args2 hus
  refine ⟨[some v, some u, some u', some y, some u1, some u2], fun Q z => ⟨T, _, rfl, sqT_of hT, rfl, _, _, rfl, _, _, rfl, a, _, rfl, e2.sqT sa, rfl, _, _, rfl, _, _, rfl, rfl, rfl, z⟩, rfl, ?_⟩
  have hP : q.take n ++ px :: q.drop n = r := by
    unfold Sq46.again at hP
    rw [List.getElem?_map, zip_ix hq hn] at hP
    exact Option.some.inj hP
  subst hP
  have hql : q.length ≤ 16 := hp2 q (List.mem_of_getElem? hq)
  have hu1 : rNat n u1 G1 := hu1
  have hu2 : rPx K px u2 G1 := hu2
  have ev1 := ev_sliceM (K := K) (R := rPx K) (ev_var (σ := [some v, some u, some u', some y, some u1, some u2]) (i := 3) rfl hy) eo_none (eo_some (ev_var (i := 4) rfl hu1))
  have ev2 : EvR (tLst (tCons (tVar 5) tNil)) [some v, some u, some u', some y, some u1, some u2] G1 (rL (rPx K) [px]) := ev_lst (ea1 (ev_var rfl hu2)) (by show 1 ≤ sizeLine; decide)
  have ev3 := ev_sliceM (K := K) (R := rPx K) (ev_var (σ := [some v, some u, some u', some y, some u1, some u2]) (i := 3) rfl hy) (eo_some (ev_var (i := 4) rfl hu1)) eo_none
  rw [cut_to] at ev1
  rw [cut_from] at ev3
  have hcat := ev_catM (R := rPx K) (ev_catM (R := rPx K) ev1 ev2 (by rw [List.length_take]; exact Nat.le_trans (show _ ≤ 32 by show min n q.length + 1 ≤ 32; omega) (by decide))) ev3 (by rw [List.length_append, List.length_take, List.length_drop]; exact Nat.le_trans (show _ ≤ 64 by show min n q.length + 1 + (q.length - n) ≤ 64; omega) (by decide))
  refine hcat.is ?_
  rw [List.append_assoc]
  rfl
/-! put_back -/
abbrev rOut (K : PySem.W.Frag) (q : List Nat × List Pixel) : Pd := rT K [rL rNat q.1, rL (rPx K) q.2]
abbrev spPutBack (K : PySem.W.Frag) : Sp := PureF (fun (x : Picture × (List Nat × List Pixel)) => [rPic K x.1, rOut K x.2]) (fun x => x.1.length ≤ 16 ∧ ∀ r ∈ x.1, r.length ≤ 16) (fun x => rPic K (Sq46.again x.1 x.2.1 x.2.2))
theorem sc_put_back : FnScope ["rows", "taken", "seam", "pixels"] ["rows", "taken"] (defScope (top 29)) := ⟨rfl, rfl, rfl, by decide +kernel, rfl, by decide +kernel, by decide +kernel⟩
theorem c_put_back (d : Df K mg "put_back" (top 29) ["rows", "taken"]) (T : Txt mg) (c_with_pixels : Cal P w K mg base 1 "with_pixels" (spWithPixels K)) : Cal P w K mg base 2 "put_back" (spPutBack K) := by
  have sc := sc_put_back
  refine mk_pure d sc (fun _ => rfl) fun f cdv A outer s H E hr => ⟨_, (pss_cons (ps_asg (pv 1) (pg_tup rfl (pgs_cons (pg_name (i := 2) sc.nd rfl (by first | exact Or.inl rfl | exact Or.inr rfl)) (pgs_cons (pg_name (i := 3) sc.nd rfl (by first | exact Or.inl rfl | exact Or.inr rfl)) pgs_nil)))) (pss_one (ps_ret (pe_cal c_with_pixels (hr.mono (by decide)) rfl (pa_cons (pv 0) (pa_cons (pv 2) (pa_cons (pv 3) pa_nil))))))), ?_⟩
  rintro ⟨p, sm, l⟩ vs G H Q hp ha e k
  obtain ⟨v, u, rfl, h0, a, us, rfl, sa, hus⟩ := args2 ha
  obtain ⟨u1, u2, rfl, hu1, hu2⟩ := args2 hus
  refine ⟨_, rfl, a, _, rfl, e.sqT sa, rfl, _, _, rfl, _, _, rfl, rfl, ?_⟩
  have hE : EvR (tCall (spWithPixels K) [] E0 (tCons (tVar 0) (tCons (tVar 2) (tCons (tVar 3) tNil)))) [some v, some (.ref a), some u1, some u2] G (rPic K (Sq46.again p sm l)) := ev_call (p, sm, l) (ea3 (ev_var rfl h0) (ev_var rfl hu1) (ev_var rfl hu2)) hp
  exact hE.run e k
/-! narrowed -/
abbrev spNarrowed (K : PySem.W.Frag) : Sp := PureF (fun (x : Picture × Nat) => [rPic K x.1, rNat x.2]) (fun x => ∃ w h, Rect w h x.1 ∧ x.2 ≤ w) (fun x => rT K [rPic K (narrowN x.1 x.2).1, rInt (narrowN x.1 x.2).2.1, rL (rOut K) (narrowN x.1 x.2).2.2])
theorem sc_narrowed : FnScope ["rows", "many", "found", "cost", "turn", "more", "seam"] ["rows", "many"] (defScope (top 28)) := ⟨rfl, rfl, rfl, by decide +kernel, rfl, by decide +kernel, by decide +kernel⟩
theorem c_narrowed (d : Df K mg "narrowed" (top 28) ["rows", "many"]) (T : Txt mg) (c_least_seam : Cal P w K mg base 6 "least_seam" (spLeastSeam K)) (c_pixels_at : Cal P w K mg base 1 "pixels_at" (spPixelsAt K)) (c_without : Cal P w K mg base 1 "without" (spWithout K)) : Cal P w K mg base 7 "narrowed" (spNarrowed K) := by
  have sc := sc_narrowed
  refine mk_pure d sc (fun _ => rfl) fun f cdv A outer s H E hr => ⟨_, (pss_cons (ps_set (i := 2) sc.nd rfl (by first | exact Or.inl rfl | exact Or.inr rfl) (pe_lst pa_nil)) (pss_cons (ps_set (i := 3) sc.nd rfl (by first | exact Or.inl rfl | exact Or.inr rfl) pe_int) (pss_cons (ps_for PassesOwn.never rfl (pi_range1 rfl T.range (pa_cons (pv 1) pa_nil)) (pg_name (i := 4) sc.nd rfl (by first | exact Or.inl rfl | exact Or.inr rfl)) (pss_cons (ps_asg (pe_cal c_least_seam (hr.mono (by decide)) rfl (pa_cons (pv 0) pa_nil)) (pg_tup rfl (pgs_cons (pg_name (i := 5) sc.nd rfl (by first | exact Or.inl rfl | exact Or.inr rfl)) (pgs_cons (pg_name (i := 6) sc.nd rfl (by first | exact Or.inl rfl | exact Or.inr rfl)) pgs_nil)))) (pss_cons (ps_aug (i := 3) sc.nd rfl (by first | exact Or.inl rfl | exact Or.inr rfl) (pv 5) ip_add) (pss_cons (ps_expr (pe_bm PySem.F.plainAttrs_list PySem.F.slot_list_append PySem.F.type_list_append mt_append (pv 2) (pa_cons (pe_tup (pa_cons (pv 6) (pa_cons (pe_cal c_pixels_at (hr.mono (by decide)) rfl (pa_cons (pv 0) (pa_cons (pv 6) pa_nil))) pa_nil))) pa_nil))) (pss_one (ps_set (i := 0) sc.nd rfl (by first | exact Or.inl rfl | exact Or.inr rfl) (pe_cal c_without (hr.mono (by decide)) rfl (pa_cons (pv 0) (pa_cons (pv 6) pa_nil))))))))) (pss_one (ps_ret (pe_tup (pa_cons (pv 0) (pa_cons (pv 3) (pa_cons (pv 2) pa_nil))))))))), ?_⟩
  rintro ⟨p, n⟩ vs G H Q ⟨w0, h0, R, hn⟩ ha e k
  obtain ⟨v, u, rfl, q0, q1⟩ := args2 ha
  replace R : Rect w0 h0 p := R
  replace hn : n ≤ w0 := hn
  have w16 := R.w16
  have h16 := R.h16
  refine s_new ea_nil e (Nat.zero_le _) fun vs G1 H1 l g1 p1 hl1 => ?_
  cases p1
  have ac1 := Acc.first (vs := []) g1 hl1
  refine s_asg (P := rInt 0) (ev_int (n := 0)) ac1.gr.gh fun z G2 H2 g2 p2 => ?_
  cases p2
  have ac2 := ac1.grow g2
  refine s_for (it_range1 (n := n) (ev_var rfl (mo ac2.gr.gg q1)) (by omega)) ac2.gr.gh
    (fun G3 i σ' H' => ∃ G' vs vr o4 o5 o6, Ex G3 G' ∧ Acc G H l G' H' vs ∧ Args ((narrowN p i).2.2.map (rOut K)) vs G' ∧ rPic K (narrowN p i).1 vr G' ∧ σ' = [some vr, some u, some (.ref l), some (.int (narrowN p i).2.1), o4, o5, o6])
    (fun G3 H3 g3 => ⟨G3, [], v, none, none, none, Ex.refl _, ac2.grow g3, .nil, mo (ac2.gr.gg.trans g3.gg) q0, rfl⟩) (fun G3 i σ' H' ⟨G', vs, vr, o4, o5, o6, h1, h2, _⟩ => h1.trans h2.gr.gh) ?_ ?_
  · rintro G3 i x σ' H3 H4 e3 hi ⟨G', vs, vr, o4, o5, o6, h1, h2, h3, h4, rfl⟩ e4 hx
    have h2 := h2.grow (Gr.beside h2.gr.gh e4)
    have R' := narrowN_rect (n := i) R (by omega)
    have hl := leastP_len R'
    have ho := narrowN_out R i (by omega)
    refine s_asgG (P := rT K [rInt (Sq46.cost (narrowN p i).1 0 (leastP (narrowN p i).1)), rL rNat (leastP (narrowN p i).1)]) (ev_call (narrowN p i).1 (ea1 (ev_var rfl h4)) ⟨_, _, R'⟩) h2.gr.gh fun vt G5 H5 g5 p5 => ?_
    obtain ⟨a, us, rfl, sa, hus⟩ := p5
    obtain ⟨u1, u2, rfl, hu1, hu2⟩ := args2 hus
    cases hu1
    refine ⟨a, _, rfl, g5.gh.sqT sa, rfl, _, _, rfl, _, _, rfl, rfl, ?_⟩
    refine ⟨_, rfl, _, rfl, _, _, rfl, rfl, ?_⟩
    have ac5 := h2.grow g5
    have lv : vs.length = i := by rw [← paired_len h3, List.length_map, ho.1]
    refine s_app2 ac5 rfl (P := rOut K (leastP (narrowN p i).1, Sq46.taken (narrowN p i).1 (leastP (narrowN p i).1))) (ev_tup (ea2 (ev_var rfl hu2) (ev_call ((narrowN p i).1, leastP (narrowN p i).1) (ea2 (ev_var rfl (mo g5.gg h4)) (ev_var rfl hu2)) ⟨by show (narrowN p i).1.length ≤ 16; rw [R'.hh]; exact R'.h16, fun j r m hr hm => ?_⟩)) (by show 2 ≤ sizeLine; decide)) (Nat.lt_of_le_of_lt (show vs.length ≤ 16 by omega) (by decide)) fun vo G6 H6 ac6 e6 p6 => ?_
    · rw [R'.ww r (List.mem_of_getElem? hr)]
      exact hl.2 m (List.mem_of_getElem? hm)
    · refine EvR.run (P := rPic K (Sq46.without (narrowN p i).1 (leastP (narrowN p i).1))) (ev_call ((narrowN p i).1, leastP (narrowN p i).1) (ea2 (ev_var (i := 0) rfl (mo (g5.gg.trans e6) h4)) (ev_var (i := 6) rfl (mo e6 hu2))) ⟨by show (narrowN p i).1.length ≤ 16; rw [R'.hh]; exact R'.h16, fun r hr => by rw [R'.ww r hr]; exact R'.w16⟩) ac6.gr.gh fun vw G7 H7 g7 p7 => ?_
      refine ⟨G7, vs ++ [vo], vw, some x, some (.int (Sq46.cost (narrowN p i).1 0 (leastP (narrowN p i).1))), some u2, h1.trans (g5.gg.trans (e6.trans g7.gg)), ac6.grow g7, ?_, p7, rfl⟩
      show Args (((narrowN p i).2.2 ++ [(leastP (narrowN p i).1, Sq46.taken (narrowN p i).1 (leastP (narrowN p i).1))]).map (rOut K)) (vs ++ [vo]) G7
      rw [List.map_append]
      exact paired_app (h3.mo inferInstance (g5.gg.trans (e6.trans g7.gg))) (.cons (mo g7.gg p6) .nil)
  · rintro G3 σ' H' ⟨G', vs, vr, o4, o5, o6, h1, h2, h3, h4, rfl⟩
    have gd := h2.done
    have en : Ex G' (upd G' l (.lst vs)) := Ex.new h2.gl
    refine s_ret (P := rT K [rPic K (narrowN p n).1, rInt (narrowN p n).2.1, rL (rOut K) (narrowN p n).2.2]) (ev_tup (ea3 (ev_var rfl (mo en h4)) (ev_var rfl rfl) (ev_var rfl ⟨l, vs, rfl, upd_same, h3.mo inferInstance en⟩)) (by show 3 ≤ sizeLine; decide)) gd.gh fun v' G5 H5 g5 p5 => k v' G5 H5 (gd.trans g5) p5
/-! places_taken -/
abbrev spPlacesTaken : Sp := PureF (fun (x : Nat × List (List Nat) × Nat) => [rNat x.1, rL (rL rNat) x.2.1, rNat x.2.2]) (fun x => x.1 ≤ 16 ∧ x.2.1.length ≤ 16 ∧ Taken x.1 x.2.1 x.2.2) (fun x => rL rNat (placesN x.1 x.2.1 x.2.2).2)
theorem sc_places_taken : FnScope ["width", "seams", "y", "left", "found", "seam"] ["width", "seams", "y"] (defScope (top 30)) := ⟨rfl, rfl, rfl, by decide +kernel, rfl, by decide +kernel, by decide +kernel⟩
theorem c_places_taken (d : Df K mg "places_taken" (top 30) ["width", "seams", "y"]) (T : Txt mg) : Cal P w K mg base 1 "places_taken" spPlacesTaken := by
  have sc := sc_places_taken
  refine mk_pure d sc (fun _ => rfl) fun f cdv A outer s H E hr => ⟨_, (pss_cons (ps_set (i := 3) sc.nd rfl (by first | exact Or.inl rfl | exact Or.inr rfl) (pe_listRg rfl rfl T.list (prg_1 rfl T.range (pv 0)))) (pss_cons (ps_set (i := 4) sc.nd rfl (by first | exact Or.inl rfl | exact Or.inr rfl) (pe_lst pa_nil)) (pss_cons (ps_for PassesOwn.never rfl (pi_list (pv 1)) (pg_name (i := 5) sc.nd rfl (by first | exact Or.inl rfl | exact Or.inr rfl)) (pss_cons (ps_expr (pe_bm PySem.F.plainAttrs_list PySem.F.slot_list_append PySem.F.type_list_append mt_append (pv 4) (pa_cons (pe_ix ix_list (pv 3) (pe_ix ix_list (pv 5) (pv 2) (fun _ _ => rfl)) (fun _ _ => rfl)) pa_nil))) (pss_one (ps_set (i := 3) sc.nd rfl (by first | exact Or.inl rfl | exact Or.inr rfl) (pe_op op_cat (pe_slice sl_list (pv 3) po_none (po_some (pe_ix ix_list (pv 5) (pv 2) (fun _ _ => rfl)))) (pe_slice sl_list (pv 3) (po_some (pe_op op_add (pe_ix ix_list (pv 5) (pv 2) (fun _ _ => rfl)) pe_int)) po_none)))))) (pss_one (ps_ret (pv 4)))))), ?_⟩
  rintro ⟨n, ss, y⟩ vs G H Q ⟨hn, hss, hT⟩ ha e k
  obtain ⟨v, u, u', rfl, q0, q1, q2⟩ := args3 ha
  replace hn : n ≤ 16 := hn
  replace hss : ss.length ≤ 16 := hss
  replace hT : Taken n ss y := hT
  refine s_asg (P := rL rNat (List.range n)) ((ev_listRg (i := 0) (j := n) (rg1 (ev_var rfl q0)) (by omega) (by omega)).is (by rw [range_map0])) e fun vl G1 H1 g1 p1 => ?_
  refine s_new ea_nil g1.gh (Nat.zero_le _) fun vs G2 H2 l g2 p2 hl2 => ?_
  cases p2
  have ac2 := Acc.first (vs := []) (g1.trans g2) hl2
  refine s_for (it_listL (R := rL rNat) (ev_var rfl (mo ac2.gr.gg q1))) ac2.gr.gh
    (fun G3 i σ' H' => ∃ G' vl ov, Ex G3 G' ∧ Acc G H l G' H' ((placesN n (ss.take i) y).2.map fun n => V.int ((n : Nat) : Int)) ∧ rL rNat (placesN n (ss.take i) y).1 vl G' ∧ σ' = [some v, some u, some u', some vl, some (.ref l), ov])
    (fun G3 H3 g3 => ⟨G3, vl, none, Ex.refl _, ac2.grow g3, mo (g2.gg.trans g3.gg) p1, rfl⟩) (fun G3 i σ' H' ⟨G', vl, ov, h1, h2, _⟩ => h1.trans h2.gr.gh) ?_ ?_
  · rintro G3 i x σ' H3 H4 e3 hi ⟨G', vl, ov, h1, h2, h3, rfl⟩ e4 ⟨sm, hsm, hx⟩
    have h2 := h2.grow (Gr.beside h2.gr.gh e4)
    replace hx : rL rNat sm x G3 := hx
    replace hi : i < ss.length := hi
    obtain ⟨z, hz1, hz2⟩ := hT i sm hsm
    have hlen := placesN_len hT i (by omega)
    have hzl : z < (placesN n (ss.take i) y).1.length := by rw [hlen.1]; exact hz2
    have hat : (placesN n (ss.take i) y).1[z]? = some (((placesN n (ss.take i) y).1[z]?).getD 0) := by
      rw [List.getElem?_eq_getElem hzl]
      rfl
    have hnext : placesN n (ss.take (i + 1)) y = ((placesN n (ss.take i) y).1.eraseIdx z, (placesN n (ss.take i) y).2 ++ [((placesN n (ss.take i) y).1[z]?).getD 0]) := by
      rw [List.take_add_one, hsm]
      show placesN n (ss.take i ++ [sm]) y = _
      rw [placesN_snoc]
      unfold pstep
      rw [hz1]
      rfl
    have evz : ∀ {σ : L2.St} {G4 : Hp}, σ[5]? = some (some x) → σ[2]? = some (some u') → Ex G3 G4 → Ex G G4 → EvR (qIx K (tVar 5) (tVar 2)) σ G4 (rNat z) := fun a1 a2 a3 a4 => ev_ixM (K := K) (R := rNat) (ev_var a1 (mo a3 hx)) (ev_var a2 (mo a4 q2)) hz1
    refine s_app2 h2 rfl (P := rNat (((placesN n (ss.take i) y).1[z]?).getD 0)) (ev_ixM (K := K) (R := rNat) (ev_var rfl h3) (evz rfl rfl h1 h2.gr.gg) hat) (by rw [List.length_map, hlen.2]; exact Nat.lt_of_le_of_lt (show i ≤ 16 by omega) (by decide)) fun vo G5 H5 ac5 e5 p5 => ?_
    cases p5
    have hcat := ev_catM (R := rNat) (ev_sliceM (K := K) (R := rNat) (ev_var (σ := [some v, some u, some u', some vl, some (.ref l), some x]) (i := 3) rfl (mo e5 h3)) eo_none (eo_some (evz rfl rfl (h1.trans e5) ac5.gr.gg))) (ev_sliceM (K := K) (R := rNat) (ev_var (σ := [some v, some u, some u', some vl, some (.ref l), some x]) (i := 3) rfl (mo e5 h3)) (eo_some (ev_add (evz rfl rfl (h1.trans e5) ac5.gr.gg) (ev_int (n := 1)))) eo_none) ?_
    · refine EvR.run hcat ac5.gr.gh fun vw G7 H7 g7 p7 => ?_
      rw [hnext]
      refine ⟨G7, vw, some x, h1.trans (e5.trans g7.gg), ?_, ?_, rfl⟩
      · rw [List.map_append]
        exact ac5.grow g7
      · rw [cut_to, show ((z : Int) + 1) = ((z + 1 : Nat) : Int) by omega, cut_from, erase_cut] at p7
        exact p7
    · rw [cut_to, show ((z : Int) + 1) = ((z + 1 : Nat) : Int) by omega, cut_from, List.length_take, List.length_drop, hlen.1]
      exact Nat.le_trans (show _ ≤ 32 by omega) (by decide)
  · rintro G3 σ' H' ⟨G', vl, ov, h1, h2, h3, rfl⟩
    have h2 : Acc G H l G' H' ((placesN n (ss.take ss.length) y).2.map fun n => V.int ((n : Nat) : Int)) := h2
    rw [List.take_length] at h2
    exact ⟨_, rfl, k _ _ _ h2.done ⟨l, _, rfl, upd_same, args_nats _ _⟩⟩
end
end LS
namespace LS
open PySem PySem.Spec PyProof.Rows L2
open Sq46 (Pixel Picture apart pixel going)
theorem in_nats (i : Nat) (l : List Nat) : inV (.int (i : Nat)) (l.map fun n => V.int ((n : Nat) : Int)) = l.contains i := by
  unfold inV
  rw [List.any_map, List.contains_eq_any_beq]
  congr 1
  funext n
  show ((n : Int) == (i : Int)) = (i == n)
  by_cases h : i = n
  · subst h
    simp
  · have h2 : ¬ (n : Int) = (i : Int) := by omega
    rw [beq_eq_false_iff_ne.mpr h, beq_eq_false_iff_ne.mpr h2]
theorem flat_nats (l : List Nat) : (l.map fun n => V.int ((n : Nat) : Int)).all flatV = true := by
  rw [List.all_map]
  exact List.all_eq_true.mpr fun _ _ => rfl
section
variable {P : Program} {w : World} {K : PySem.W.Frag} {mg : Str → Option Value} {base : Heap}
/-! pixel_beside -/
abbrev spPixelBeside (K : PySem.W.Frag) : Sp := PureF (fun (x : List Pixel × Nat) => [rRow K x.1, rNat x.2]) (fun x => x.2 < x.1.length) (fun x => rPx K (besideP x.1 x.2))
theorem sc_pixel_beside : FnScope ["row", "x", "beside"] ["row", "x"] (defScope (top 31)) := ⟨rfl, rfl, rfl, by decide +kernel, rfl, by decide +kernel, by decide +kernel⟩
theorem c_pixel_beside (d : Df K mg "pixel_beside" (top 31) ["row", "x"]) (T : Txt mg) : Cal P w K mg base 1 "pixel_beside" (spPixelBeside K) := by
  have sc := sc_pixel_beside
  refine mk_pure d sc (fun _ => rfl) fun f cdv A outer s H E hr => ⟨_, (pss_cons (ps_set (i := 2) sc.nd rfl (by first | exact Or.inl rfl | exact Or.inr rfl) (pe_ix ix_list (pv 0) (pe_callB (call_min2 rfl) (by rfl) T.min (by decide +kernel) (pa_cons (pe_op op_add (pv 1) pe_int) (pa_cons (pe_op op_sub (pe_callB call_len_seq (by rfl) T.len PySem.boot_len (pa_cons (pv 0) pa_nil)) pe_int) pa_nil))) (fun _ _ => rfl))) (pss_one (ps_ret (pe_tup (pa_cons (pe_op op_fdiv (pe_op op_add (pe_ix ix_tup (pe_ix ix_list (pv 0) (pv 1) (fun _ _ => rfl)) pe_int (fun _ _ => rfl)) (pe_ix ix_tup (pv 2) pe_int (fun _ _ => rfl))) pe_int) (pa_cons pe_int pa_nil)))))), ?_⟩
  rintro ⟨r, x⟩ vs G H Q hx ha e k
  obtain ⟨v, u, rfl, q0, q1⟩ := args2 ha
  replace hx : x < r.length := hx
  have hm : min (x + 1) (r.length - 1) < r.length := by omega
  have hb : r[min (x + 1) (r.length - 1)]? = some ((r[min (x + 1) (r.length - 1)]?).getD ⟨0, 0⟩) := by rw [List.getElem?_eq_getElem hm]; rfl
  have hxx : r[x]? = some ((r[x]?).getD ⟨0, 0⟩) := by rw [List.getElem?_eq_getElem hx]; rfl
  refine s_asg (P := rPx K ((r[min (x + 1) (r.length - 1)]?).getD ⟨0, 0⟩)) (ev_ixM (K := K) (R := rPx K) (ev_var rfl q0) ((ev_min (ev_add (ev_var rfl q1) (ev_int (n := 1))) (ev_sub (ev_lenL (K := K) (ev_var rfl q0)) (ev_int (n := 1)))).is (congrArg rInt (min_nat (x + 1) (r.length - 1) ((x : Int) + 1) ((r.length : Int) - 1) (by omega) (by omega)))) hb) e fun vb G1 H1 g1 p1 => ?_
  refine s_ret (P := rPx K (besideP r x)) (ev_tup (Ps := [rNat ((((r[x]?).getD ⟨0, 0⟩).colour + ((r[min (x + 1) (r.length - 1)]?).getD ⟨0, 0⟩).colour) / 2), rInt 0]) (ea2 ((ev_I (C := CDiv) (g := fun i j => V.int (i / j)) (ev_add (ev_ixT (i := 0) (Ps := [rNat ((r[x]?).getD ⟨0, 0⟩).colour, rInt ((r[x]?).getD ⟨0, 0⟩).weight]) (ev_ixM (K := K) (R := rPx K) (ev_var rfl (mo g1.gg q0)) (ev_var rfl (mo g1.gg q1)) hxx) (ev_int (n := 0)) rfl)
      (ev_ixT (i := 0) (Ps := [rNat ((r[min (x + 1) (r.length - 1)]?).getD ⟨0, 0⟩).colour, rInt ((r[min (x + 1) (r.length - 1)]?).getD ⟨0, 0⟩).weight]) (ev_var rfl p1) (ev_int (n := 0)) rfl)) (ev_int (n := 2)) ⟨by decide, by decide⟩).is ?_) (ev_int (n := 0))) (by show 2 ≤ sizeLine; decide)) g1.gh fun v' G3 H3 g3 p3 => k v' G3 H3 (g1.trans g3) p3
  funext v' G'
  refine propext ⟨fun h => ?_, fun h => ?_⟩
  · rw [h]
    show V.int _ = V.int _
    congr 1
  · rw [h]
    show V.int _ = V.int _
    congr 1
/-! widened_row -/
abbrev spWidenedRow (K : PySem.W.Frag) : Sp := PureF (fun (x : List Pixel × List Nat) => [rRow K x.1, rL rNat x.2]) (fun x => x.1.length ≤ 16) (fun x => rRow K (widenRowP x.1 x.2))
/-- the first i of a row, made wider -/
def widenTo (r : List Pixel) (places : List Nat) (i : Nat) : List Pixel := (((List.range r.length).zip r).take i).flatMap fun c => if places.contains c.1 = true then [c.2, besideP r c.1] else [c.2]
theorem widenTo_len (r : List Pixel) (places : List Nat) : ∀ i, i ≤ r.length → (widenTo r places i).length ≤ 2 * i
  | 0, _ => Nat.le_refl _
  | i + 1, h => by
    have ih := widenTo_len r places i (by omega)
    unfold widenTo at ih ⊢
    rw [List.take_add_one, List.flatMap_append, List.length_append, zipr_ix, List.getElem?_eq_getElem (by omega)]
    show _ + (List.flatMap _ [(i, r[i])]).length ≤ _
    rw [List.flatMap_cons, List.flatMap_nil, List.append_nil]
    by_cases c : places.contains i = true
    · rw [if_pos c]
      show _ + 2 ≤ _
      omega
    · rw [if_neg c]
      show _ + 1 ≤ _
      omega
theorem widenTo_succ {r : List Pixel} {places : List Nat} {i : Nat} {px : Pixel} (h : r[i]? = some px) : widenTo r places (i + 1) = widenTo r places i ++ (if places.contains i = true then [px, besideP r i] else [px]) := by
  unfold widenTo
  rw [List.take_add_one, List.flatMap_append, zipr_ix, h]
  show _ ++ List.flatMap _ [(i, px)] = _
  rw [List.flatMap_cons, List.flatMap_nil, List.append_nil]
theorem widenTo_all (r : List Pixel) (places : List Nat) : widenTo r places r.length = widenRowP r places := by
  unfold widenTo widenRowP
  rw [List.take_of_length_le (by rw [List.length_zip, List.length_range, Nat.min_self]; exact Nat.le_refl _)]
theorem sc_widened_row : FnScope ["row", "places", "found", "x", "pixel"] ["row", "places"] (defScope (top 32)) := ⟨rfl, rfl, rfl, by decide +kernel, rfl, by decide +kernel, by decide +kernel⟩
theorem c_widened_row (d : Df K mg "widened_row" (top 32) ["row", "places"]) (T : Txt mg) (c_pixel_beside : Cal P w K mg base 1 "pixel_beside" (spPixelBeside K)) : Cal P w K mg base 2 "widened_row" (spWidenedRow K) := by
  have sc := sc_widened_row
  refine mk_pure d sc (fun _ => rfl) fun f cdv A outer s H E hr => ⟨_, (pss_cons (ps_set (i := 2) sc.nd rfl (by first | exact Or.inl rfl | exact Or.inr rfl) (pe_lst pa_nil)) (pss_cons (ps_for PassesOwn.never rfl (pi_enum rfl T.enumerate (pa_cons (pv 0) pa_nil)) (pg_tup rfl (pgs_cons (pg_name (i := 3) sc.nd rfl (by first | exact Or.inl rfl | exact Or.inr rfl)) (pgs_cons (pg_name (i := 4) sc.nd rfl (by first | exact Or.inl rfl | exact Or.inr rfl)) pgs_nil))) (pss_cons (ps_expr (pe_bm PySem.F.plainAttrs_list PySem.F.slot_list_append PySem.F.type_list_append mt_append (pv 2) (pa_cons (pv 4) pa_nil))) (pss_one (ps_if (pt_cmpR op_in_seq (pv 3) (pv 1) (by rfl)) (pss_one (ps_expr (pe_bm PySem.F.plainAttrs_list PySem.F.slot_list_append PySem.F.type_list_append mt_append (pv 2) (pa_cons (pe_cal c_pixel_beside (hr.mono (by decide)) rfl (pa_cons (pv 0) (pa_cons (pv 3) pa_nil))) pa_nil)))) pss_nil)))) (pss_one (ps_ret (pv 2))))), ?_⟩
  rintro ⟨r, pl⟩ vs G H Q hp ha e k
  obtain ⟨v, u, rfl, q0, q1⟩ := args2 ha
  replace hp : r.length ≤ 16 := hp
  refine s_new ea_nil e (Nat.zero_le _) fun vs G1 H1 l g1 p1 hl1 => ?_
  cases p1
  have ac1 := Acc.first (vs := []) g1 hl1
  refine s_for (it_enumL (R := rPx K) (ev_var rfl (mo ac1.gr.gg q0))) ac1.gr.gh
    (fun G3 i σ' H' => ∃ G' vs o3 o4, Ex G3 G' ∧ Acc G H l G' H' vs ∧ Args ((widenTo r pl i).map (rPx K)) vs G' ∧ σ' = [some v, some u, some (.ref l), o3, o4])
    (fun G3 H3 g3 => ⟨G3, [], none, none, Ex.refl _, ac1.grow g3, .nil, rfl⟩) (fun G3 i σ' H' ⟨G', vs, o3, o4, h1, h2, _⟩ => h1.trans h2.gr.gh) ?_ ?_
  · rintro G3 i x σ' H3 H4 e3 hi ⟨G', vs, o3, o4, h1, h2, h3, rfl⟩ e4 ⟨T, yv, px, rfl, hT, hpx, hyv⟩
    have h2 := h2.grow (Gr.beside h2.gr.gh e4)
    replace hi : i < r.length := hi
    have hlen := widenTo_len r pl i (by omega)
    have lv : vs.length ≤ 32 := by
      rw [← paired_len h3, List.length_map]
      omega
    refine ⟨T, _, rfl, sqT_of hT, rfl, _, _, rfl, _, _, rfl, rfl, ?_⟩
    refine s_app2 h2 rfl (P := rPx K px) (ev_var rfl (mo h1 hyv)) (Nat.lt_of_le_of_lt lv (by decide)) fun vo G5 H5 ac5 e5 p5 => ?_
    obtain ⟨a, us, ea, sa, hus⟩ := mo (h2.gr.gg.trans e5) q1
    have hus := nats_of hus
    subst ea hus
    refine ⟨_, rfl, _, rfl, a, _, rfl, Or.inl (sqL_of (ac5.gr.gh _ _ sa)), rfl, flat_nats pl, _, rfl, ?_⟩
    have hv := in_nats i pl
    have hsucc := widenTo_succ (places := pl) hpx
    have a3 : Args ((widenTo r pl i ++ [px]).map (rPx K)) (vs ++ [vo]) G5 := by
      rw [List.map_append]
      exact paired_app (h3.mo inferInstance e5) (.cons p5 .nil)
    show if inV (.int (i : Nat)) (pl.map fun n => V.int ((n : Nat) : Int)) = true then _ else _
    rw [hv]
    by_cases c : pl.contains i = true
    · rw [if_pos c]
      rw [if_pos c] at hsucc
      refine s_app ac5 rfl (P := rPx K (besideP r i)) (ev_call (r, i) (ea2 (ev_var rfl (mo (h2.gr.gg.trans e5) q0)) (ev_var (i := 3) rfl (P := rNat i) rfl)) hi) (by rw [List.length_append]; exact Nat.lt_of_le_of_lt (show _ ≤ 33 by show vs.length + 1 ≤ 33; omega) (by decide)) fun v2 G6 H6 ac6 e6 p6 => ?_
      refine ⟨G6, vs ++ [vo] ++ [v2], some (.int (i : Nat)), some yv, h1.trans (e5.trans e6), ac6, ?_, rfl⟩
      rw [hsucc, show widenTo r pl i ++ [px, besideP r i] = (widenTo r pl i ++ [px]) ++ [besideP r i] by rw [List.append_assoc]; rfl, List.map_append]
      exact paired_app (a3.mo inferInstance e6) (.cons p6 .nil)
    · rw [if_neg c]
      rw [if_neg c] at hsucc
      refine ⟨G5, vs ++ [vo], some (.int (i : Nat)), some yv, h1.trans e5, ac5, ?_, rfl⟩
      rw [hsucc]
      exact a3
  · rintro G3 σ' H' ⟨G', vs, o3, o4, h1, h2, h3, rfl⟩
    have h3 : Args ((widenTo r pl r.length).map (rPx K)) vs G' := h3
    rw [widenTo_all] at h3
    exact ⟨_, rfl, k _ _ _ h2.done ⟨l, vs, rfl, upd_same, h3.mo inferInstance (Ex.new h2.gl)⟩⟩
/-! widened -/
abbrev spWidened (K : PySem.W.Frag) : Sp := PureF (fun (x : Picture × Nat) => [rPic K x.1, rNat x.2]) (fun x => ∃ w h, Rect w h x.1 ∧ x.2 ≤ w) (fun x => rPic K (widenP x.1 x.2))
theorem sc_widened : FnScope ["rows", "many", "behind", "cost", "taken", "seams", "seam", "pixels", "y", "row"] ["rows", "many"] (defScope (top 33)) := ⟨rfl, rfl, rfl, by decide +kernel, rfl, by decide +kernel, by decide +kernel⟩
theorem c_widened (d : Df K mg "widened" (top 33) ["rows", "many"]) (T : Txt mg) (c_narrowed : Cal P w K mg base 7 "narrowed" (spNarrowed K)) (c_widened_row : Cal P w K mg base 2 "widened_row" (spWidenedRow K)) (c_places_taken : Cal P w K mg base 1 "places_taken" spPlacesTaken) : Cal P w K mg base 8 "widened" (spWidened K) := by
  have sc := sc_widened
  refine mk_pure d sc (fun _ => rfl) fun f cdv A outer s H E hr => ⟨_, (pss_cons (ps_asg (pe_cal c_narrowed (hr.mono (by decide)) rfl (pa_cons (pv 0) (pa_cons (pv 1) pa_nil))) (pg_tup rfl (pgs_cons (pg_name (i := 2) sc.nd rfl (by first | exact Or.inl rfl | exact Or.inr rfl)) (pgs_cons (pg_name (i := 3) sc.nd rfl (by first | exact Or.inl rfl | exact Or.inr rfl)) (pgs_cons (pg_name (i := 4) sc.nd rfl (by first | exact Or.inl rfl | exact Or.inr rfl)) pgs_nil))))) (pss_cons (ps_set (i := 5) sc.nd rfl (by first | exact Or.inl rfl | exact Or.inr rfl) (pe_lc (own := [("seam", 6), ("pixels", 7)]) (g := (gTup K 2 (gCons (gName 6) (gCons (gName 7) gNil)))) (te := (tVar 6)) rfl sc.nd (pi_list (pv 4)) (blkOk_by (by kernel_rfl)) (fun _ _ _ _ _ => (pg_tup rfl (pgs_cons (pg_name (i := 6) sc.nd rfl (by first | exact Or.inl rfl | exact Or.inr rfl)) (pgs_cons (pg_name (i := 7) sc.nd rfl (by first | exact Or.inl rfl | exact Or.inr rfl)) pgs_nil)))) (fun _ _ _ _ _ => pts_nil) (fun _ _ _ _ _ => (pv 6)))) (pss_one (ps_ret (pe_lc (own := [("y", 8), ("row", 9)]) (g := (gTup K 2 (gCons (gName 8) (gCons (gName 9) gNil)))) (te := (tCall (spWidenedRow K) [] E0 (tCons (tVar 9) (tCons (tCall spPlacesTaken [] E0 (tCons (qLen K (tVar 9)) (tCons (tVar 5) (tCons (tVar 8) tNil)))) tNil)))) rfl sc.nd (pi_enum rfl T.enumerate (pa_cons (pv 0) pa_nil)) (blkOk_by (by kernel_rfl)) (fun _ _ _ _ _ => (pg_tup rfl (pgs_cons (pg_name (i := 8) sc.nd rfl (by first | exact Or.inl rfl | exact Or.inr rfl)) (pgs_cons (pg_name (i := 9) sc.nd rfl (by first | exact Or.inl rfl | exact Or.inr rfl)) pgs_nil)))) (fun _ _ _ _ _ => pts_nil) (fun _ _ _ _ _ => (pe_cal c_widened_row (hr.mono (by decide)) rfl (pa_cons (pv 9) (pa_cons (pe_cal c_places_taken (hr.mono (by decide)) rfl (pa_cons (pe_callB call_len_seq (by rfl) T.len PySem.boot_len (pa_cons (pv 9) pa_nil)) (pa_cons (pv 5) (pa_cons (pv 8) pa_nil)))) pa_nil))))))))), ?_⟩
  rintro ⟨p, n⟩ vs G H Q ⟨w0, h0, R, hn⟩ ha e k
  obtain ⟨v, u, rfl, q0, q1⟩ := args2 ha
  replace R : Rect w0 h0 p := R
  replace hn : n ≤ w0 := hn
  have w16 := R.w16
  have ho := narrowN_out R n hn
  refine s_asgG (P := rT K [rPic K (narrowN p n).1, rInt (narrowN p n).2.1, rL (rOut K) (narrowN p n).2.2]) (ev_call (p, n) (ea2 (ev_var rfl q0) (ev_var rfl q1)) ⟨w0, h0, R, hn⟩) e fun vt G1 H1 g1 p1 => ?_
  obtain ⟨a, us, rfl, sa, hus⟩ := p1
  obtain ⟨u1, u2, u3, rfl, hu1, hu2, hu3⟩ := args3 hus
  refine ⟨a, _, rfl, g1.gh.sqT sa, rfl, _, _, rfl, _, _, rfl, _, _, rfl, rfl, ?_⟩
  refine s_asg (P := rL (rL rNat) ((narrowN p n).2.2.map fun q => q.1)) (ev_lcL (n := (narrowN p n).2.2.length) (List.length_map _) (it_listL (R := rOut K) (ev_var rfl hu3)) (by rw [ho.1]; exact Nat.le_trans (show n ≤ 16 by omega) (by decide)) ?_) g1.gh fun vss G2 H2 g2 p2 => ?_
  · rintro i x y G2 H0 hP e1 e2 ⟨q, hq, b, us, rfl, sb, hus⟩
    obtain ⟨w1, w2, rfl, hw1, hw2⟩ := args2 hus
    rw [List.getElem?_map, hq] at hP
    obtain rfl := Option.some.inj hP
    exact ⟨[some v, some u, some u1, some u2, some u3, none, some w1, some w2, none, none], fun Q z => ⟨b, _, rfl, e2.sqT sb, rfl, _, _, rfl, _, _, rfl, rfl, z⟩, rfl, ev_var rfl hw1⟩
  · have g12 := g1.trans g2
    refine s_ret (P := rPic K (widenP p n)) (ev_lcL (n := p.length) (by unfold widenP; rw [List.length_map, List.length_zip, List.length_range, Nat.min_self]) (it_enumL (R := rRow K) (ev_var rfl (mo g12.gg q0))) (by rw [R.hh]; exact Nat.le_trans R.h16 (by decide)) ?_) g12.gh fun v' G3 H3 g3 p3 => k v' G3 H3 (g12.trans g3) p3
    rintro y it r' G3 H0 hP e1 e2 ⟨T, yv, r, rfl, hT, hr, hyv⟩
    refine ⟨[some v, some u, some u1, some u2, some u3, some vss, none, none, some (.int (y : Nat)), some yv], fun Q z => ⟨T, _, rfl, sqT_of hT, rfl, _, _, rfl, _, _, rfl, rfl, z⟩, rfl, ?_⟩
    unfold widenP at hP
    rw [List.getElem?_map, zipr_ix, hr] at hP
    have hP : widenRowP r (placesN r.length ((narrowN p n).2.2.map fun q => q.1) y).2 = r' := Option.some.inj hP
    subst hP
    have hrl : r.length = w0 := R.ww r (List.mem_of_getElem? hr)
    have hyl : y < h0 := by
      have := (List.getElem?_eq_some_iff.mp hr).1
      rw [R.hh] at this
      exact this
    suffices hTk : Taken r.length ((narrowN p n).2.2.map fun q => q.1) y by
      have hpl : EvR (tCall spPlacesTaken [] E0 (tCons (qLen K (tVar 9)) (tCons (tVar 5) (tCons (tVar 8) tNil)))) [some v, some u, some u1, some u2, some u3, some vss, none, none, some (.int (y : Nat)), some yv] G3 (rL rNat (placesN r.length ((narrowN p n).2.2.map fun q => q.1) y).2) :=
        ev_call (r.length, (narrowN p n).2.2.map (fun q => q.1), y) (ea3 (ev_lenL (K := K) (ev_var rfl hyv)) (ev_var rfl (mo e1 p2)) (ev_var (i := 8) (P := rNat y) rfl rfl)) ⟨by show r.length ≤ 16; omega, by show ((narrowN p n).2.2.map _).length ≤ 16; rw [List.length_map, ho.1]; omega, hTk⟩
      have hfin : EvR (tCall (spWidenedRow K) [] E0 (tCons (tVar 9) (tCons (tCall spPlacesTaken [] E0 (tCons (qLen K (tVar 9)) (tCons (tVar 5) (tCons (tVar 8) tNil)))) tNil))) [some v, some u, some u1, some u2, some u3, some vss, none, none, some (.int (y : Nat)), some yv] G3 (rRow K (widenRowP r (placesN r.length ((narrowN p n).2.2.map fun q => q.1) y).2)) :=
        ev_call (r, (placesN r.length ((narrowN p n).2.2.map fun q => q.1) y).2) (ea2 (ev_var rfl hyv) hpl) (show r.length ≤ 16 by omega)
      exact hfin
    intro i sm hsm
    rw [List.getElem?_map] at hsm
    cases hq : (narrowN p n).2.2[i]? with
    | none =>
      rw [hq] at hsm
      cases hsm
    | some q =>
      rw [hq] at hsm
      obtain rfl := Option.some.inj hsm
      have ho2 := ho.2 i q hq
      have hl2 : y < q.1.length := by rw [ho2.1]; exact hyl
      refine ⟨q.1[y], List.getElem?_eq_getElem hl2, ?_⟩
      show q.1[y] < r.length - i
      rw [hrl]
      exact ho2.2.2 _ (List.getElem_mem hl2)
end
end LS
/-! The picture's object. -/
namespace LS
open PySem PySem.Spec PyProof.Rows L2
open Sq46 (Pixel Picture House Out_)
/-! ### names that the top binds -/
structure Txt2 (K : PySem.W.Frag) (mg : Str → Option Value) (C aF aM aD : Addr) (ds : List Addr) : Prop extends Txt mg where
  cl : Cls K C
  nR : NoAttr K C "rows"
  nK : NoAttr K C "kept"
  Picture : mg "Picture" = some (.ref C)
  CANNOT_BE : ∃ t, mg "CANNOT_BE" = some (.int (-1) t)
  NONE_KEPT : ∃ t, mg "NONE_KEPT" = some (.int (-2) t)
  NOT_SO : ∃ t, mg "NOT_SO" = some (.int (-3) t)
  MOST_WIDE : ∃ t, mg "MOST_WIDE" = some (.int 16 t)
  MOST_COLOUR : ∃ t, mg "MOST_COLOUR" = some (.int 255 t)
  MOST_WEIGHT : ∃ t, mg "MOST_WEIGHT" = some (.int 10000 t)
  MOST_KEPT : ∃ t, mg "MOST_KEPT" = some (.int 32 t)
  WITH_A_LIST : ∃ t, mg "WITH_A_LIST" = some (.int 0 t)
  FIRST_PIXEL : mg "FIRST_PIXEL" = some (.ref aF)
  MANY_NUMBERS : mg "MANY_NUMBERS" = some (.ref aM)
  DEEDS : mg "DEEDS" = some (.ref aD)
  tF : ∀ H, SqT K H aF [.int 0, .int 0]
  tM : ∀ H, SqT K H aM [.int 2, .int 6, .int 2, .int 1, .int 2, .int 0, .int 2, .int 1, .int 0]
  tD : ∀ H, SqT K H aD (ds.map V.ref)
theorem pe_gint {X : Cx} {x : Str} {n : Int} {pos : Pos} (hg : Gl X x) (hm : ∃ t, X.mg x = some (.int n t)) (hd : (x == ("__debug__" : Str)) = false := by decide) : PE X (.Name x pos) (tC (.int n)) := by
  obtain ⟨t, h⟩ := hm
  exact pe_glob hg h ⟨t, rfl⟩ hd
theorem pe_gref {X : Cx} {x : Str} {a : Addr} {pos : Pos} (hg : Gl X x) (hm : X.mg x = some (.ref a)) (hd : (x == ("__debug__" : Str)) = false := by decide) : PE X (.Name x pos) (tC (.ref a)) := pe_glob hg hm rfl hd
/-! ### methods -/
structure Dm (K : PySem.W.Frag) (C : Addr) (m qual : Str) (st : Stmt) (ps : List Str) : Prop where
  ex : ∃ (f : Addr) (fd : FuncData), Fun K m qual st f fd ∧ Meth K C m f ∧ Binds K fd ps []
structure Mtd (P : Program) (w : World) (K : PySem.W.Frag) (mg : Str → Option Value) (base : Heap) (k : Nat) (C : Addr) (m : Str) (sp : Sp) : Prop where
  ex : ∃ (f : Addr) (fd : FuncData) (ps : List Str), FnOk P w K mg base CX0 k f fd ps sp ∧ Meth K C m f ∧ Binds K fd ps []
theorem pe_calM {X : Cx} {k : Nat} {C : Addr} {m : Str} {sp : Sp} {ta : TE} {o : Expr} {apos pos : Pos} {e : Expr} {es : List Expr} {t : TA} {pl : Sem Bool} (he : PE X o ta) (c : Cls X.K C) (M : Mtd X.prog X.w X.K X.mg X.base k C m sp) (hr : Room k X.A) (ha : PA X (e :: es) t)
    (n1 : starEach (e :: es) X.env = (false, eval e X.env) :: starEach es X.env := by rfl) (n2 : (backTo pos (starEach es X.env)).any (fun q => q.1) = false := by rfl)
    (n3 : eval (.Call (.Attribute o m apos) (e :: es) [] pos) X.env = (eval o X.env >>= fun v => standAt apos.atName >>= fun _ => holding [v] (getMethod v m pl) >>= fun q =>
      callWith pos q.1 q.2 (backTo pos (starEach (e :: es) X.env)) (backToKw pos (keywordEach [] X.env))) := by rfl) :
    PE X (.Call (.Attribute o m apos) (e :: es) [] pos) (tMeth C m sp [] E0 ta t) := by
  obtain ⟨f, fd, ps, F, hm, hb⟩ := M.ex
  exact pe_meth he c hm F hr hb .nil pass0 ha n1 n2 n3
/-- the class makes its instances by a def that keeps sp -/
structure Mak (P : Program) (w : World) (K : PySem.W.Frag) (mg : Str → Option Value) (base : Heap) (k : Nat) (C : Addr) (sp : Sp) : Prop where
  ex : ∃ (f : Addr) (fd : FuncData) (ps : List Str), FnOk P w K mg base CX0 k f fd ps sp ∧ Mk K C f ∧ Binds K fd ps []
theorem pe_mak {X : Cx} {k : Nat} {C : Addr} {x : Str} {sp : Sp} {p pos : Pos} (M : Mak X.prog X.w X.K X.mg X.base k C sp) (hr : Room (k + 1) X.A) (hg : Gl X x) (hm : X.mg x = some (.ref C)) (hdb : (x == ("__debug__" : Str)) = false := by decide) : PE X (.Call (.Name x p) [] [] pos) (tMake C sp [] E0 tNil) := by
  obtain ⟨f, fd, ps, F, hk, hb⟩ := M.ex
  exact pe_make0 hk F hr hg hm hb .nil pass0 hdb
section
variable {P : Program} {w : World} {K : PySem.W.Frag} {mg : Str → Option Value} {base : Heap}
theorem mk_meth {C : Addr} {x qual : Str} {st : Stmt} {ps N : List Str} {k : Nat} {sp : Sp} (d : Dm K C x qual st ps) (S : FnScope N ps (defScope st)) (hl : ∀ vs H Q E, sp vs H Q E → vs.length = ps.length)
    (body : ∀ (f : Addr) (cdv : Value) (A : Around) (outer : List Env) (s : Shared) (H : Hp) (E : XK), Room k (A.deeper (envOfC qual (defScope st) s.heap.objs.size f cdv)) →
      ∃ t : TS, PSs (cxOf CX0 P w K mg base N qual (defScope st) f cdv A outer s H E).nox (defBody st) t ∧ ∀ vs Q, sp vs H Q E → t { nx := fun _ H' => Q .non H', rt := Q } (start N vs) H) : Mtd P w K mg base (k + 1) C x sp := by
  obtain ⟨f, fd, F, hm, hb⟩ := d.ex
  refine ⟨f, fd, ps, F.ok S hl fun cdv A outer s H vs Q E hr h => ?_, hm, hb⟩
  obtain ⟨t, h1, h2⟩ := body f cdv A outer s H E hr
  exact ⟨t, h1, h2 vs Q h⟩
end
/-! ### what is known, while the object at x may change -/
structure GrX (x : Addr) (G H G' H' : Hp) : Prop where
  gg : Ex G G'
  hh : ∀ b o, H b = some o → b ≠ x → H' b = some o
  gh : Ex G' H'
  out : ∀ a, G a = none → H a ≠ none → G' a = none
  hx : H x ≠ none → H' x ≠ none
theorem Gr.x {x : Addr} {G H G' H' : Hp} (g : Gr G H G' H') : GrX x G H G' H' := ⟨g.gg, fun b o e _ => g.hh b o e, g.gh, g.out, fun h z => h (g.hh.free z)⟩
theorem GrX.trans {x : Addr} {G H G1 H1 G2 H2 : Hp} (a : GrX x G H G1 H1) (b : GrX x G1 H1 G2 H2) : GrX x G H G2 H2 := by
  refine ⟨a.gg.trans b.gg, fun c o e hc => b.hh c o (a.hh c o e hc) hc, b.gh, fun c hc hn => b.out c (a.out c hc hn) fun z => ?_, fun h => b.hx (a.hx h)⟩
  by_cases hcx : c = x
  · subst hcx
    exact a.hx hn z
  · cases e : H c with
    | none => exact hn e
    | some o =>
      rw [a.hh c o e hcx] at z
      cases z
theorem GrX.set {x : Addr} {G H : Hp} {o : HO} (e : Ex G H) (gx : G x = none) : GrX x G H G (upd H x o) := ⟨Ex.refl _, fun b u h hb => by rw [upd_ne hb]; exact h, e.mut gx, fun _ h _ => h, fun _ z => by rw [upd_same] at z; cases z⟩
def picF (vr vk : V) : List (Str × V) := [("rows", vr), ("kept", vk)]
theorem lk_here {k : Str} {v : V} {r : List (Str × V)} : List.lookup k ((k, v) :: r) = some v := by
  have e : (k == k) = true := beq_self_eq_true k
  simp only [List.lookup, e]
theorem lk_past {k g : Str} {v : V} {r : List (Str × V)} (h : (k == g) = false) : List.lookup k ((g, v) :: r) = List.lookup k r := by
  simp only [List.lookup, h]
theorem put_here {f : Str} {v x : V} {r : List (Str × V)} : putF f v ((f, x) :: r) = (f, v) :: r := if_pos rfl
theorem put_past {f g : Str} {v x : V} {r : List (Str × V)} (h : ¬ g = f) : putF f v ((g, x) :: r) = (g, x) :: putF f v r := if_neg h
theorem picF_rows (vr vk : V) : (picF vr vk).lookup ("rows" : Str) = some vr := lk_here
theorem picF_kept (vr vk : V) : (picF vr vk).lookup ("kept" : Str) = some vk := (lk_past (by decide +kernel)).trans lk_here
theorem picF_no (vr vk : V) {m : Str} (h1 : (m == ("rows" : Str)) = false) (h2 : (m == ("kept" : Str)) = false) : (picF vr vk).lookup m = none := (lk_past h1).trans ((lk_past h2).trans rfl)
theorem picF_put_rows (vr vk v : V) : putF "rows" v (picF vr vk) = picF v vk := put_here
theorem picF_put_kept (vr vk v : V) : putF "kept" v (picF vr vk) = picF vr v := (put_past (by decide +kernel)).trans (congrArg _ put_here)
theorem picF_new (vr vk : V) : putF "kept" vk (putF "rows" vr []) = picF vr vk := (put_past (by decide +kernel)).trans rfl
def tn (b : Bool) : Nat := if b = true then 1 else 0
def rKept (K : PySem.W.Frag) (o : Out_) : Pd := rT K [rNat (tn o.turned), rOut K (o.seam, o.pixels)]
instance {K : PySem.W.Frag} {o : Out_} : Mp (rKept K o) := inferInstanceAs (Mp (rT K [rNat (tn o.turned), rOut K (o.seam, o.pixels)]))
/-- the object at x is a picture as g tells -/
structure PicG (K : PySem.W.Frag) (C : Addr) (G H : Hp) (x : Addr) (g : House) : Prop where
  ex : ∃ dx vr vk, H x = some (.ins C dx (picF vr vk)) ∧ rPic K g.p vr G ∧ rL (rKept K) g.gone.reverse vk G
  gx : G x = none
  gh : Ex G H
  wf : WF g
section
variable {K : PySem.W.Frag} {C x : Addr} {G H G' H' : Hp} {g : House}
theorem PicG.hx (p : PicG K C G H x g) : H x ≠ none := by
  obtain ⟨dx, vr, vk, h, _⟩ := p.ex
  rw [h]
  exact fun z => nomatch z
theorem PicG.grow (p : PicG K C G H x g) (e : Gr G H G' H') : PicG K C G' H' x g := by
  obtain ⟨dx, vr, vk, h1, h2, h3⟩ := p.ex
  exact ⟨⟨dx, vr, vk, e.hh _ _ h1, mo e.gg h2, mo e.gg h3⟩, e.out x p.gx p.hx, e.gh, p.wf⟩
/-- .. with the object known, too -/
theorem Ex.ins {fs : List (Str × V)} {dx : Addr} (e : Ex G H) (h : H x = some (.ins C dx fs)) : Ex (upd G x (.ins C dx fs)) H := e.plus h
/-- an expression that reads the object's fields -/
theorem EvR.runX {te : TE} {σ : L2.St} {P : Pd} [m : Mp P] {fs : List (Str × V)} {dx : Addr} (h : EvR te σ (upd G x (.ins C dx fs)) P) (hx : H x = some (.ins C dx fs)) (gx : G x = none) (e : Ex G H) {Q : VK} (k : ∀ v G' H', Gr G H G' H' → P v G' → Q v H') : te σ H Q := by
  refine h.run (e.ins hx) fun v G2 H2 g p => ?_
  have hd : ExD G2 (fun a => if a = x then none else G2 a) := fun a o q hn => by
    have : a ≠ x := fun z => by
      subst z
      have q2 := g.gg a _ upd_same
      rw [q2] at q
      cases q
      cases hn
    show (if a = x then none else G2 a) = some o
    rw [if_neg this]
    exact q
  refine k v (fun a => if a = x then none else G2 a) H2 ⟨fun a o q => ?_, g.hh, fun a o q => ?_, fun a ha hn => ?_⟩ (m.mp hd p)
  · have hax : a ≠ x := ne_of_none q gx
    show (if a = x then none else G2 a) = some o
    rw [if_neg hax]
    exact g.gg a o (by rw [upd_ne hax]; exact q)
  · have q' : (if a = x then none else G2 a) = some o := q
    by_cases z : a = x
    · rw [if_pos z] at q'
      cases q'
    · rw [if_neg z] at q'
      exact g.gh a o q'
  · show (if a = x then none else G2 a) = none
    by_cases z : a = x
    · rw [if_pos z]
    · rw [if_neg z]
      exact g.out a (by rw [upd_ne z]; exact ha) hn
theorem EvT.runX {t : TT} {σ : L2.St} {b : Bool} {fs : List (Str × V)} {dx : Addr} (h : EvT t σ (upd G x (.ins C dx fs)) b) (hx : H x = some (.ins C dx fs)) (gx : G x = none) (e : Ex G H) {Q : Bool → Hp → Prop} (k : ∀ H', Gr G H G H' → Q b H') : t σ H Q :=
  h.run (e.ins hx) fun G2 H2 g => k H2 (Gr.beside e g.hh)
/-- o.f of the object -/
theorem ev_fld {ta : TE} {σ : L2.St} {P : Pd} [Mp P] {fs : List (Str × V)} {dx : Addr} {f : Str} {v : V} (ha : EvR ta σ G (fun v _ => v = .ref x)) (hx : G x = some (.ins C dx fs)) (hc : Cls K C) (hn : NoAttr K C f) (hl : fs.lookup f = some v) (p : P v G) : EvR (tFld K ta f) σ G P := fun G0 H a b Q k =>
  ha G0 H a b _ fun y G1 H1 g1 p1 => by
    cases p1
    exact ⟨x, C, dx, fs, v, rfl, g1.gh _ _ (g1.gg _ _ (a _ _ hx)), hc, hn, hl, k v G1 H1 g1 (mo (a.trans g1.gg) p)⟩
instance {a : Addr} : Mp (fun v _ => v = V.ref a) := ⟨fun _ h => h⟩
end
end LS
namespace LS
open PySem PySem.Spec PyProof.Rows L2
open Sq46 (Pixel Picture House Out_)
section
variable {K : PySem.W.Frag} {C x dx : Addr} {G H : Hp} {tv : TE} {σ : L2.St} {P : Pd} {fs : List (Str × V)} {f : Str} {D : Ends} {tu : TS} {i : Nat}
/-- o.f = e -/
theorem s_fldX [m : Mp P] (hE : EvR tv σ (upd G x (.ins C dx fs)) P) (hσ : σ[i]? = some (some (.ref x))) (hx : H x = some (.ins C dx fs)) (gx : G x = none) (e : Ex G H) (hc : Cls K C) (hn : NoAttr K C f) (hl : fs.length < 1000)
    (k : ∀ v G' H', GrX x G H G' H' → P v G' → G' x = none → H' x = some (.ins C dx (putF f v fs)) → D.nx σ H') : sFld K (tVar i) tv f D σ H :=
  hE.runX hx gx e fun v G1 H1 g1 p1 => by
    have gx1 : G1 x = none := g1.out x gx (by rw [hx]; exact fun z => nomatch z)
    exact ⟨_, hσ, x, C, dx, fs, rfl, g1.hh _ _ hx, hc, hn, hl, k v G1 _ (g1.x.trans (GrX.set g1.gh gx1)) p1 gx1 upd_same⟩
theorem EvR.up (hE : EvR tv σ G P) (gx : G x = none) {o : HO} : EvR tv σ (upd G x o) P := hE.mono (Ex.new gx)
theorem s_fld [m : Mp P] (hE : EvR tv σ G P) (hσ : σ[i]? = some (some (.ref x))) (hx : H x = some (.ins C dx fs)) (gx : G x = none) (e : Ex G H) (hc : Cls K C) (hn : NoAttr K C f) (hl : fs.length < 1000)
    (k : ∀ v G' H', GrX x G H G' H' → P v G' → G' x = none → H' x = some (.ins C dx (putF f v fs)) → D.nx σ H') : sFld K (tVar i) tv f D σ H := s_fldX (hE.up gx) hσ hx gx e hc hn hl k
end
section
variable {P : Program} {w : World} {K : PySem.W.Frag} {mg : Str → Option Value} {base : Heap} {C aF aM aD : Addr} {ds : List Addr}
/-! __init__ -/
def spInit (K : PySem.W.Frag) (C : Addr) : Sp := fun vs H Q _ => ∃ x dx G, vs = [.ref x] ∧ H x = some (.ins C dx []) ∧ Ex G H ∧ G x = none ∧ ∀ G' H', GrX x G H G' H' → PicG K C G' H' x Sq46.fresh → Q .non H'
theorem fresh_wf : WF Sq46.fresh := ⟨1, 1, ⟨rfl, fun r hr => by rw [List.mem_singleton.mp hr]; rfl, Nat.le_refl _, Nat.le_refl _, by decide, by decide⟩, trivial, Nat.zero_le _⟩
theorem sc_Picture___init__ : FnScope ["self"] ["self"] (defScope (inClass (top 55) 0)) := ⟨rfl, rfl, rfl, by decide +kernel, rfl, by decide +kernel, by decide +kernel⟩
theorem m_init (d : ∃ (f : Addr) (fd : FuncData), Fun K "__init__" "Picture.__init__" (inClass (top 55) 0) f fd ∧ Mk K C f ∧ Binds K fd ["self"] []) (T : Txt2 K mg C aF aM aD ds) : Mak P w K mg base 1 C (spInit K C) := by
  have sc := sc_Picture___init__
  obtain ⟨f, fd, F, hm, hb⟩ := d
  refine ⟨f, fd, ["self"], F.ok sc (fun vs H Q E h => ?_) (fun cdv A outer s H vs Q E hr h => ⟨_, (pss_cons (ps_fld (pv 0) (pe_lst (pa_cons (pe_lst (pa_cons (pe_gref rfl T.FIRST_PIXEL) pa_nil)) pa_nil)) rfl) (pss_one (ps_fld (pv 0) (pe_lst pa_nil) rfl))), ?_⟩), hm, hb⟩
  · obtain ⟨x, dx, G, rfl, _⟩ := h
    rfl
  obtain ⟨x, dx, G, rfl, hx, e, gx, k⟩ := h
  have hfp : ∀ {σ : L2.St} {G : Hp}, EvR (tC (.ref aF)) σ G (rPx K ⟨0, 0⟩) := ev_c ⟨aF, _, rfl, T.tF _, .cons rfl (.cons rfl .nil)⟩
  refine s_fld (D := { nx := fun σ H => sFld K (tVar 0) (tLst tNil) "kept" _ σ H, rt := _ }) (P := rPic K [[⟨0, 0⟩]]) (ev_lst (ea1 (ev_lst (ea1 hfp) (by show 1 ≤ sizeLine; decide))) (by show 1 ≤ sizeLine; decide)) rfl hx gx e T.cl T.nR (by show 0 < 1000; decide) fun v1 G1 H1 g1 p1 gx1 hx1 => ?_
  refine s_fld (P := rL (rKept K) []) (ev_lst ea_nil (Nat.zero_le _)) rfl hx1 gx1 g1.gh T.cl T.nK (by show 1 < 1000; decide) fun v2 G2 H2 g2 p2 gx2 hx2 => ?_
  exact k G2 H2 (g1.trans g2) ⟨⟨dx, v1, v2, by rw [hx2]; exact congrArg (fun q => some (HO.ins C dx q)) (picF_new v1 v2), mo g2.gg p1, p2⟩, gx2, g2.gh, fresh_wf⟩
/-! show -/
def spShow (K : PySem.W.Frag) (C : Addr) : Sp := fun vs H Q _ => ∃ x G g p v, vs = [.ref x, v] ∧ PicG K C G H x g ∧ rPic K p v G ∧ WF ⟨p, []⟩ ∧ ∀ G' H', GrX x G H G' H' → PicG K C G' H' x ⟨p, []⟩ → Q .non H'
theorem sc_Picture_show : FnScope ["self", "rows"] ["self", "rows"] (defScope (inClass (top 55) 1)) := ⟨rfl, rfl, rfl, by decide +kernel, rfl, by decide +kernel, by decide +kernel⟩
theorem m_show (d : Dm K C "show" "Picture.show" (inClass (top 55) 1) ["self", "rows"]) (T : Txt2 K mg C aF aM aD ds) : Mtd P w K mg base 1 C "show" (spShow K C) := by
  have sc := sc_Picture_show
  refine mk_meth d sc (fun vs H Q E h => ?_) fun f cdv A outer s H E hr => ⟨_, (pss_cons (ps_fld (pv 0) (pv 1) rfl) (pss_one (ps_fld (pv 0) (pe_lst pa_nil) rfl))), ?_⟩
  · obtain ⟨x, G, g, p, v, rfl, _⟩ := h
    rfl
  rintro vs Q ⟨x, G, g, p, v, rfl, pg, hp, wf, k⟩
  obtain ⟨dx, vr, vk, hx, q1, q2⟩ := pg.ex
  refine s_fld (D := { nx := fun σ H => sFld K (tVar 0) (tLst tNil) "kept" _ σ H, rt := _ }) (P := rPic K p) (ev_var rfl hp) rfl hx pg.gx pg.gh T.cl T.nR (by show 2 < 1000; decide) fun v1 G1 H1 g1 p1 gx1 hx1 => ?_
  rw [picF_put_rows] at hx1
  refine s_fld (P := rL (rKept K) []) (ev_lst ea_nil (Nat.zero_le _)) rfl hx1 gx1 g1.gh T.cl T.nK (by show 2 < 1000; decide) fun v2 G2 H2 g2 p2 gx2 hx2 => ?_
  rw [picF_put_kept] at hx2
  exact k G2 H2 (g1.trans g2) ⟨⟨dx, v1, v2, hx2, mo g2.gg p1, p2⟩, gx2, g2.gh, wf⟩
/-! narrow -/
def spNarrow (K : PySem.W.Frag) (C : Addr) : Sp := fun vs H Q _ => ∃ x G g p t outs v1 v2 v3, vs = [.ref x, v1, v2, v3] ∧ PicG K C G H x g ∧ rPic K p v1 G ∧ rNat t v2 G ∧ rL (rOut K) outs v3 G ∧ t ≤ 1 ∧ outs.length ≤ 16 ∧ WF ⟨p, ((outs.map (mkOut (t == 1))).reverse ++ g.gone).take 32⟩ ∧
  ∀ G' H', GrX x G H G' H' → PicG K C G' H' x ⟨p, ((outs.map (mkOut (t == 1))).reverse ++ g.gone).take 32⟩ → Q .non H'
theorem cut_last {α : Type} (l : List α) : cut l (some (-(32 : Int))) none = (l.reverse.take 32).reverse := by
  unfold cut
  rw [HT.sIx_none]
  have e : HT.sIx l.length 0 (some (-(32 : Int))) = l.length - 32 := by
    show (if (-(32 : Int)) < 0 then (-(32 : Int) + (l.length : Int)).toNat else min (-(32 : Int)).toNat l.length) = l.length - 32
    rw [if_pos (by decide)]
    omega
  rw [e, List.take_of_length_le (by rw [List.length_drop]; exact Nat.le_refl _), List.take_reverse, List.reverse_reverse]
theorem sc_Picture_narrow : FnScope ["self", "rows", "turn", "taken", "one"] ["self", "rows", "turn", "taken"] (defScope (inClass (top 55) 2)) := ⟨rfl, rfl, rfl, by decide +kernel, rfl, by decide +kernel, by decide +kernel⟩
theorem m_narrow (d : Dm K C "narrow" "Picture.narrow" (inClass (top 55) 2) ["self", "rows", "turn", "taken"]) (T : Txt2 K mg C aF aM aD ds) : Mtd P w K mg base 1 C "narrow" (spNarrow K C) := by
  have sc := sc_Picture_narrow
  refine mk_meth d sc (fun vs H Q E h => ?_) fun f cdv A outer s H E hr => ⟨_, (pss_cons (ps_fld (pv 0) (pv 1) rfl) (pss_one (ps_fld (pv 0) (pe_slice sl_list (pe_op op_cat (pe_fld (pv 0) rfl) (pe_lc (own := [("one", 4)]) (g := (gName 4)) (te := (tTup (tCons (tVar 2) (tCons (tVar 4) tNil)))) rfl sc.nd (pi_list (pv 3)) (blkOk_by (by kernel_rfl)) (fun _ _ _ _ _ => (pg_name (i := 4) sc.nd rfl (by first | exact Or.inl rfl | exact Or.inr rfl))) (fun _ _ _ _ _ => pts_nil) (fun _ _ _ _ _ => (pe_tup (pa_cons (pv 2) (pa_cons (pv 4) pa_nil)))))) (po_some (pe_un un_neg (pe_gint rfl T.MOST_KEPT))) po_none) rfl))), ?_⟩
  · obtain ⟨x, G, g, p, t, outs, v1, v2, v3, rfl, _⟩ := h
    rfl
  rintro vs Q ⟨x, G, g, p, t, outs, v1, v2, v3, rfl, pg, hp, ht, ho, ht1, hol, wf, k⟩
  obtain ⟨dx, vr, vk, hx, q1, q2⟩ := pg.ex
  obtain ⟨w0, h0, F⟩ := pg.wf
  have hgl := F.l
  refine s_fld (D := { nx := fun σ H => sFld K (tVar 0) (tSl (rSlL K) (tOp rCat (tFld K (tVar 0) "kept") (tLc (iList K (tVar 3)) (gName 4) tYes (tTup (tCons (tVar 2) (tCons (tVar 4) tNil))) [4])) (tPart (tUn (rU fun i => .int (-i)) (tC (.int 32)))) tNoPart) "kept" _ σ H, rt := _ }) (P := rPic K p) (ev_var rfl hp) rfl hx pg.gx pg.gh T.cl T.nR (by show 2 < 1000; decide) fun u1 G1 H1 g1 p1 gx1 hx1 => ?_
  rw [picF_put_rows] at hx1
  have eu : Ex G1 (upd G1 x (.ins C dx (picF u1 vk))) := Ex.new gx1
  have eg := g1.gg.trans eu
  have hlc : EvR (tLc (iList K (tVar 3)) (gName 4) tYes (tTup (tCons (tVar 2) (tCons (tVar 4) tNil))) [4]) [some (.ref x), some v1, some v2, some v3, none] (upd G1 x (.ins C dx (picF u1 vk))) (rL (rKept K) (outs.map (mkOut (t == 1)))) := by
    refine ev_lcL (n := outs.length) (List.length_map _) (it_listL (R := rOut K) (ev_var rfl (mo eg ho))) (Nat.le_trans hol (by decide)) ?_
    rintro i y z G3 H3 hP e1 e2 ⟨q, hq, hy⟩
    rw [List.getElem?_map, hq] at hP
    obtain rfl := Option.some.inj hP
    refine ⟨_, fun Q z => z, rfl, ?_⟩
    have htn : tn (t == 1) = t := by
      have : t = 0 ∨ t = 1 := by omega
      rcases this with rfl | rfl <;> rfl
    refine (ev_tup (K := K) (Ps := [rNat t, rOut K q]) (ea2 (ev_var rfl (mo (eg.trans e1) ht)) (ev_var rfl hy)) (by show 2 ≤ sizeLine; decide)).is ?_
    unfold rKept
    show rT K [rNat t, rOut K q] = rT K [rNat (tn (t == 1)), rOut K (q.1, q.2)]
    rw [htn]
  have hkept : EvR (tFld K (tVar 0) "kept") [some (.ref x), some v1, some v2, some v3, none] (upd G1 x (.ins C dx (picF u1 vk))) (rL (rKept K) g.gone.reverse) := ev_fld (ev_var rfl rfl) upd_same T.cl T.nK (picF_kept _ _) (mo eg q2)
  have hcat := ev_sliceM (K := K) (R := rKept K) (ev_catM (R := rKept K) hkept hlc (by rw [List.length_reverse, List.length_map]; exact Nat.le_trans (show _ ≤ 48 by omega) (by decide))) (eo_some (ev_neg (ev_int (n := 32)))) eo_none
  rw [cut_last, List.reverse_append, List.reverse_reverse] at hcat
  refine s_fldX hcat rfl hx1 gx1 g1.gh T.cl T.nK (by show 2 < 1000; decide) fun v' G2 H2 g2 p2 gx2 hx2 => ?_
  rw [picF_put_kept] at hx2
  exact k G2 H2 (g1.trans g2) ⟨⟨dx, u1, v', hx2, mo g2.gg p1, p2⟩, gx2, g2.gh, wf⟩
/-! put_in -/
def spPutIn (K : PySem.W.Frag) (C : Addr) : Sp := fun vs H Q _ => ∃ x G g p o l v, vs = [.ref x, v] ∧ PicG K C G H x g ∧ g.gone = o :: l ∧ rPic K p v G ∧ WF ⟨p, l⟩ ∧ ∀ G' H', GrX x G H G' H' → PicG K C G' H' x ⟨p, l⟩ → Q .non H'
theorem cut_init {α : Type} (l : List α) (a : α) : cut (l ++ [a]) none (some (-(1 : Int))) = l := by
  unfold cut
  rw [HT.sIx_none]
  have e : HT.sIx (l ++ [a]).length (l ++ [a]).length (some (-(1 : Int))) = l.length := by
    show (if (-(1 : Int)) < 0 then (-(1 : Int) + ((l ++ [a]).length : Int)).toNat else min (-(1 : Int)).toNat (l ++ [a]).length) = l.length
    rw [if_pos (by decide), List.length_append]
    show (-(1 : Int) + ((l.length + 1 : Nat) : Int)).toNat = l.length
    omega
  rw [e, List.drop_zero, Nat.sub_zero, List.take_append_of_le_length (Nat.le_refl _), List.take_length]
theorem sc_Picture_put_in : FnScope ["self", "rows"] ["self", "rows"] (defScope (inClass (top 55) 3)) := ⟨rfl, rfl, rfl, by decide +kernel, rfl, by decide +kernel, by decide +kernel⟩
theorem m_put_in (d : Dm K C "put_in" "Picture.put_in" (inClass (top 55) 3) ["self", "rows"]) (T : Txt2 K mg C aF aM aD ds) : Mtd P w K mg base 1 C "put_in" (spPutIn K C) := by
  have sc := sc_Picture_put_in
  refine mk_meth d sc (fun vs H Q E h => ?_) fun f cdv A outer s H E hr => ⟨_, (pss_cons (ps_fld (pv 0) (pv 1) rfl) (pss_one (ps_fld (pv 0) (pe_slice sl_list (pe_fld (pv 0) rfl) po_none (po_some (pe_un un_neg pe_int))) rfl))), ?_⟩
  · obtain ⟨x, G, g, p, o, l, v, rfl, _⟩ := h
    rfl
  rintro vs Q ⟨x, G, g, p, o, l, v, rfl, pg, hg, hp, wf, k⟩
  obtain ⟨dx, vr, vk, hx, q1, q2⟩ := pg.ex
  refine s_fld (D := { nx := fun σ H => sFld K (tVar 0) (tSl (rSlL K) (tFld K (tVar 0) "kept") tNoPart (tPart (tUn (rU fun i => .int (-i)) (tC (.int 1))))) "kept" _ σ H, rt := _ }) (P := rPic K p) (ev_var rfl hp) rfl hx pg.gx pg.gh T.cl T.nR (by show 2 < 1000; decide) fun v1 G1 H1 g1 p1 gx1 hx1 => ?_
  rw [picF_put_rows] at hx1
  have eu : Ex G1 (upd G1 x (.ins C dx (picF v1 vk))) := Ex.new gx1
  have hkept : EvR (tFld K (tVar 0) "kept") [some (.ref x), some v] (upd G1 x (.ins C dx (picF v1 vk))) (rL (rKept K) g.gone.reverse) := ev_fld (ev_var rfl rfl) upd_same T.cl T.nK (picF_kept _ _) (mo (g1.gg.trans eu) q2)
  have hcut := ev_sliceM (K := K) (R := rKept K) hkept eo_none (eo_some (ev_neg (ev_int (n := 1))))
  rw [hg, List.reverse_cons, cut_init] at hcut
  refine s_fldX hcut rfl hx1 gx1 g1.gh T.cl T.nK (by show 2 < 1000; decide) fun v' G2 H2 g2 p2 gx2 hx2 => ?_
  rw [picF_put_kept] at hx2
  exact k G2 H2 (g1.trans g2) ⟨⟨dx, v1, v', hx2, mo g2.gg p1, p2⟩, gx2, g2.gh, wf⟩
end
end LS
namespace LS
open PySem PySem.Spec PyProof.Rows L2
open Sq46 (Pixel Picture House Out_ says)
section
variable {K : PySem.W.Frag} {C x dx : Addr} {G H : Hp} {te : TE} {c : TT} {σ : L2.St} {P : Pd} {Ps : List Pd} {fs : List (Str × V)} {D : Ends} {tu t u : TS} {i : Nat}
theorem EvA.runX {ta : TA} [m : MpL Ps] (h : EvA ta σ (upd G x (.ins C dx fs)) Ps) (hx : H x = some (.ins C dx fs)) (gx : G x = none) (e : Ex G H) {Q : List V → Hp → Prop} (k : ∀ vs G' H', Gr G H G' H' → Args Ps vs G' → Q vs H') : ta σ H Q := by
  refine h.run (e.ins hx) fun v G2 H2 g p => ?_
  have hd : ExD G2 (fun a => if a = x then none else G2 a) := fun a o q hn => by
    have : a ≠ x := fun z => by
      subst z
      have q2 := g.gg a _ upd_same
      rw [q2] at q
      cases q
      cases hn
    show (if a = x then none else G2 a) = some o
    rw [if_neg this]
    exact q
  refine k v (fun a => if a = x then none else G2 a) H2 ⟨fun a o q => ?_, g.hh, fun a o q => ?_, fun a ha hn => ?_⟩ (p.moD m hd)
  · have hax : a ≠ x := ne_of_none q gx
    show (if a = x then none else G2 a) = some o
    rw [if_neg hax]
    exact g.gg a o (by rw [upd_ne hax]; exact q)
  · have q' : (if a = x then none else G2 a) = some o := q
    by_cases z : a = x
    · rw [if_pos z] at q'
      cases q'
    · rw [if_neg z] at q'
      exact g.gh a o q'
  · show (if a = x then none else G2 a) = none
    by_cases z : a = x
    · rw [if_pos z]
    · rw [if_neg z]
      exact g.out a (by rw [upd_ne z]; exact ha) hn
theorem s_ifX {b : Bool} (h : EvT c σ (upd G x (.ins C dx fs)) b) (hx : H x = some (.ins C dx fs)) (gx : G x = none) (e : Ex G H) (h1 : b = true → ∀ H', Gr G H G H' → t { D with nx := tu D } σ H') (h2 : b = false → ∀ H', Gr G H G H' → u { D with nx := tu D } σ H') : tSeq (tIfS c t u) tu D σ H := h.runX hx gx e fun H' g => by
  cases b with
  | true => exact iteT (h1 rfl H' g)
  | false => exact iteF (h2 rfl H' g)
theorem s_ifN {b : Bool} (h : EvT c σ G b) (e : Ex G H) (h1 : b = true → ∀ G' H', Gr G H G' H' → t { D with nx := tu D } σ H') (h2 : b = false → ∀ G' H', Gr G H G' H' → tu D σ H') : tSeq (tIfS c t tNext) tu D σ H := s_if h e h1 h2
theorem s_ifXN {b : Bool} (h : EvT c σ (upd G x (.ins C dx fs)) b) (hx : H x = some (.ins C dx fs)) (gx : G x = none) (e : Ex G H) (h1 : b = true → ∀ H', Gr G H G H' → t { D with nx := tu D } σ H') (h2 : b = false → ∀ H', Gr G H G H' → tu D σ H') : tSeq (tIfS c t tNext) tu D σ H := s_ifX h hx gx e h1 h2
theorem s_unp2 {a b : V} {na : Addr} {j i1 i2 : Nat} (hσ : σ[j]? = some (some (.ref na))) (ha : SqL K H na [a, b]) (k : tu D ((σ.set i1 (some a)).set i2 (some b)) H) : tSeq (tAsg (tVar j) (gLst K 2 (gCons (gName i1) (gCons (gName i2) gNil)))) tu D σ H := ⟨_, hσ, na, _, rfl, ha, rfl, _, _, rfl, _, _, rfl, rfl, k⟩
theorem s_unp6 {a b a3 a4 a5 a6 : V} {na : Addr} {j i1 i2 i3 i4 i5 i6 : Nat} (hσ : σ[j]? = some (some (.ref na))) (ha : SqL K H na [a, b, a3, a4, a5, a6]) (k : tu D ((((((σ.set i1 (some a)).set i2 (some b)).set i3 (some a3)).set i4 (some a4)).set i5 (some a5)).set i6 (some a6)) H) :
    tSeq (tAsg (tVar j) (gLst K 6 (gCons (gName i1) (gCons (gName i2) (gCons (gName i3) (gCons (gName i4) (gCons (gName i5) (gCons (gName i6) gNil)))))))) tu D σ H := ⟨_, hσ, na, _, rfl, ha, rfl, _, _, rfl, _, _, rfl, _, _, rfl, _, _, rfl, _, _, rfl, _, _, rfl, rfl, k⟩
theorem gT2 {a b : V} {na : Addr} {i1 i2 : Nat} {Q : L2.St → Hp → Prop} (ha : SqT K H na [a, b]) (k : Q ((σ.set i1 (some a)).set i2 (some b)) H) : gTup K 2 (gCons (gName i1) (gCons (gName i2) gNil)) (.ref na) σ H Q := ⟨na, _, rfl, ha, rfl, _, _, rfl, _, _, rfl, rfl, k⟩
theorem gT3 {a b d : V} {na : Addr} {i1 i2 i3 : Nat} {Q : L2.St → Hp → Prop} (ha : SqT K H na [a, b, d]) (k : Q (((σ.set i1 (some a)).set i2 (some b)).set i3 (some d)) H) : gTup K 3 (gCons (gName i1) (gCons (gName i2) (gCons (gName i3) gNil))) (.ref na) σ H Q := ⟨na, _, rfl, ha, rfl, _, _, rfl, _, _, rfl, _, _, rfl, rfl, k⟩
theorem s_retX [Mp P] (h : EvR te σ (upd G x (.ins C dx fs)) P) (hx : H x = some (.ins C dx fs)) (gx : G x = none) (e : Ex G H) (k : ∀ v G' H', Gr G H G' H' → P v G' → D.rt v H') : tRet te D σ H := h.runX hx gx e k
theorem s_asgGX {g : TG} [Mp P] (h : EvR te σ (upd G x (.ins C dx fs)) P) (hx : H x = some (.ins C dx fs)) (gx : G x = none) (e : Ex G H) (k : ∀ v G' H', Gr G H G' H' → P v G' → g v σ H' (tu D)) : tSeq (tAsg te g) tu D σ H := h.runX hx gx e k
theorem s_asgX [Mp P] (h : EvR te σ (upd G x (.ins C dx fs)) P) (hx : H x = some (.ins C dx fs)) (gx : G x = none) (e : Ex G H) (k : ∀ v G' H', Gr G H G' H' → P v G' → tu D (σ.set i (some v)) H') : tSeq (tAsg te (gName i)) tu D σ H := h.runX hx gx e k
theorem s_methX {ta : TA} {m : Str} {sp : Sp} [MpL Ps] (h : EvA ta σ (upd G x (.ins C dx fs)) Ps) (hσ : σ[i]? = some (some (.ref x))) (hx : H x = some (.ins C dx fs)) (gx : G x = none) (e : Ex G H) (hm : fs.lookup m = none) (k : ∀ vs G1 H1, Gr G H G1 H1 → Args Ps vs G1 → sp (.ref x :: vs) H1 (fun _ H2 => tu D σ H2) E0) : tSeq (tDrop (tMeth C m sp [] E0 (tVar i) ta)) tu D σ H :=
  ⟨_, hσ, x, dx, fs, rfl, hx, hm, h.runX hx gx e fun vs G1 H1 g p => by rw [List.append_nil]; exact k vs G1 H1 g p⟩
end
theorem nums_at {l : List Nat} {v : V} {G : Hp} (h : rL rNat l v G) : ∃ a, v = .ref a ∧ G a = some (.lst (l.map fun n => V.int ((n : Nat) : Int))) := by
  obtain ⟨a, vs, rfl, h1, h2⟩ := h
  rw [nats_of h2] at h1
  exact ⟨a, rfl, h1⟩
/-- the promise of what answers a call -/
def spDeed (K : PySem.W.Frag) (C : Addr) (Is : List Nat → List Nat → Sq46.Call → Prop) : Sp := fun vs H Q _ => ∃ x v1 v2 G g nums cols c, vs = [.ref x, v1, v2] ∧ PicG K C G H x g ∧ rL rNat nums v1 G ∧ rL rNat cols v2 G ∧ Is nums cols c ∧
  ∀ v G' H', GrX x G H G' H' → PicG K C G' H' x (House.step g c).1 → rL rInt ((House.step g c).2.value :: (House.step g c).2.out) v G' → Q v H'
section
variable {P : Program} {w : World} {K : PySem.W.Frag} {mg : Str → Option Value} {base : Heap} {C aF aM aD : Addr} {ds : List Addr}
theorem deed_len {Is : List Nat → List Nat → Sq46.Call → Prop} : ∀ vs H Q E, spDeed K C Is vs H Q E → vs.length = (["picture", "numbers", "colours"] : List Str).length := by
  rintro vs H Q E ⟨x, v1, v2, G, g, nums, cols, c, rfl, _⟩
  rfl
/-! is_turn -/
abbrev spIsTurn : Sp := PureF (fun (t : Nat) => [rNat t]) (fun _ => True) (fun t => rBl (decide (t ≤ 1)))
theorem sc_is_turn : FnScope ["turn"] ["turn"] (defScope (top 41)) := ⟨rfl, rfl, rfl, by decide +kernel, rfl, by decide +kernel, by decide +kernel⟩
theorem c_is_turn (d : Df K mg "is_turn" (top 41) ["turn"]) (T : Txt2 K mg C aF aM aD ds) : Cal P w K mg base 1 "is_turn" spIsTurn := by
  have sc := sc_is_turn
  refine mk_pure d sc (fun _ => rfl) fun f cdv A outer s H E hr => ⟨_, (pss_one (ps_ret (pe_cmpR op_le (pv 0) pe_int (nomark _)))), ?_⟩
  rintro t vs G H Q _ ha e k
  obtain ⟨v, rfl, h0⟩ := args_1 ha
  refine s_ret (P := rBl (decide (t ≤ 1))) ((ev_I0 (g := fun i j => V.bl (decide (i ≤ j))) (ev_var rfl h0) (ev_int (n := 1))).is ?_) e k
  funext v' G'
  show (v' = V.bl (decide ((t : Int) ≤ 1))) = (v' = V.bl (decide (t ≤ 1)))
  have : decide ((t : Int) ≤ 1) = decide (t ≤ 1) := by
    by_cases c : t ≤ 1
    · rw [decide_eq_true c, decide_eq_true (by omega)]
    · rw [decide_eq_false c, decide_eq_false (by omega)]
  rw [this]
theorem ev_rows {σ : L2.St} {G : Hp} {x dx : Addr} {vr vk : V} {p : Picture} {j : Nat} (T : Txt2 K mg C aF aM aD ds) (hσ : σ[j]? = some (some (.ref x))) (gx : G x = none) (h : rPic K p vr G) : EvR (tFld K (tVar j) "rows") σ (upd G x (.ins C dx (picF vr vk))) (rPic K p) :=
  ev_fld (ev_var hσ rfl) upd_same T.cl T.nR (picF_rows _ _) (mo (Ex.new gx) h)
theorem ev_kept {σ : L2.St} {G : Hp} {x dx : Addr} {vr vk : V} {l : List Out_} {j : Nat} (T : Txt2 K mg C aF aM aD ds) (hσ : σ[j]? = some (some (.ref x))) (gx : G x = none) (h : rL (rKept K) l vk G) : EvR (tFld K (tVar j) "kept") σ (upd G x (.ins C dx (picF vr vk))) (rL (rKept K) l) :=
  ev_fld (ev_var hσ rfl) upd_same T.cl T.nK (picF_kept _ _) (mo (Ex.new gx) h)
/-! call_size -/
theorem sc_call_size : FnScope ["picture", "numbers", "colours"] ["picture", "numbers", "colours"] (defScope (top 50)) := ⟨rfl, rfl, rfl, by decide +kernel, rfl, by decide +kernel, by decide +kernel⟩
theorem c_call_size (d : Df K mg "call_size" (top 50) ["picture", "numbers", "colours"]) (T : Txt2 K mg C aF aM aD ds) (c_wide : Cal P w K mg base 1 "wide" (spWide K)) : Cal P w K mg base 2 "call_size" (spDeed K C isSize) := by
  have sc := sc_call_size
  refine mk_any d sc deed_len fun f cdv A outer s H E hr => ⟨_, (pss_one (ps_ret (pe_lst (pa_cons (pe_cal c_wide (hr.mono (by decide)) rfl (pa_cons (pe_fld (pv 0) rfl) pa_nil)) (pa_cons (pe_callB call_len_seq (by rfl) T.len PySem.boot_len (pa_cons (pe_fld (pv 0) rfl) pa_nil)) pa_nil))))), ?_⟩
  rintro vs Q ⟨x, v1, v2, G, g, nums, cols, c, rfl, pg, hn, hc, ⟨rfl, rfl⟩, k⟩
  obtain ⟨dx, vr, vk, hx, q1, q2⟩ := pg.ex
  obtain ⟨w0, h0, F⟩ := pg.wf
  refine s_retX (P := rL rInt [(g.p.wide : Int), (g.p.length : Int)]) (ev_lst (ea2 (ev_call g.p (ea1 (ev_rows T rfl pg.gx q1)) F.r.ne) (ev_lenL (K := K) (ev_rows T rfl pg.gx q1))) (by show 2 ≤ sizeLine; decide)) hx pg.gx pg.gh fun v G1 H1 g1 p1 => k v G1 H1 g1.x (pg.grow g1) p1
/-! call_going -/
theorem sc_call_going : FnScope ["picture", "numbers", "colours", "x", "y"] ["picture", "numbers", "colours"] (defScope (top 44)) := ⟨rfl, rfl, rfl, by decide +kernel, rfl, by decide +kernel, by decide +kernel⟩
theorem c_call_going (d : Df K mg "call_going" (top 44) ["picture", "numbers", "colours"]) (T : Txt2 K mg C aF aM aD ds) (c_wide : Cal P w K mg base 1 "wide" (spWide K)) (c_going_at : Cal P w K mg base 3 "going_at" (spGoingAt K)) : Cal P w K mg base 4 "call_going" (spDeed K C isGoing) := by
  have sc := sc_call_going
  refine mk_any d sc deed_len fun f cdv A outer s H E hr => ⟨_, (pss_cons (ps_asg (pv 1) (pg_lst rfl (pgs_cons (pg_name (i := 3) sc.nd rfl (by first | exact Or.inl rfl | exact Or.inr rfl)) (pgs_cons (pg_name (i := 4) sc.nd rfl (by first | exact Or.inl rfl | exact Or.inr rfl)) pgs_nil)))) (pss_cons (ps_if (PW.pt (pw_or (pt_cmpR op_ge (pv 4) (pe_callB call_len_seq (by rfl) T.len PySem.boot_len (pa_cons (pe_fld (pv 0) rfl) pa_nil)) (nomark _)) (pw_or1 (pt_cmpR op_ge (pv 3) (pe_cal c_wide (hr.mono (by decide)) rfl (pa_cons (pe_fld (pv 0) rfl) pa_nil)) (nomark _))))) (pss_one (ps_ret (pe_lst (pa_cons (pe_gint rfl T.CANNOT_BE) pa_nil)))) pss_nil) (pss_one (ps_ret (pe_lst (pa_cons pe_int (pa_cons (pe_cal c_going_at (hr.mono (by decide)) rfl (pa_cons (pe_fld (pv 0) rfl) (pa_cons (pv 3) (pa_cons (pv 4) pa_nil)))) pa_nil))))))), ?_⟩
  rintro vs Q ⟨x, v1, v2, G, g, nums, cols, c, rfl, pg, hn, hc, ⟨a, b, rfl, rfl⟩, k⟩
  obtain ⟨dx, vr, vk, hx, q1, q2⟩ := pg.ex
  obtain ⟨w0, h0, F⟩ := pg.wf
  have hw := F.r.wide
  have hl := F.r.hh
  obtain ⟨na, rfl, hna⟩ := nums_at hn
  have hs : House.step g (.going a b) = if g.p.wide ≤ a ∨ g.p.length ≤ b then (g, says (-1)) else (g, ⟨0, [Sq46.going g.p a b]⟩) := rfl
  refine s_unp2 rfl (sqL_of (pg.gh _ _ hna)) ?_
  refine s_ifXN (b := decide ((g.p.length : Int) ≤ (b : Nat)) || decide ((g.p.wide : Int) ≤ (a : Nat))) (et_or (et_test (ev_I0 (ev_var (i := 4) (P := rNat b) rfl rfl) (ev_lenL (K := K) (ev_rows T rfl pg.gx q1)))) fun _ => et_test (ev_I0 (ev_var (i := 3) (P := rNat a) rfl rfl) (ev_call g.p (ea1 (ev_rows T rfl pg.gx q1)) F.r.ne))) hx pg.gx pg.gh (fun hb H1 g1 => ?_) (fun hb H1 g1 => ?_)
  · rw [hs, if_pos (by simp at hb; omega)] at k
    have pg1 := pg.grow g1
    exact s_ret (P := rL rInt [-1]) (ev_lst (ea1 (ev_int (n := -1))) (by show 1 ≤ sizeLine; decide)) pg1.gh fun v G2 H2 g2 p2 => k v G2 H2 (g1.trans g2).x (pg1.grow g2) p2
  · simp only [Bool.or_eq_false_iff, decide_eq_false_iff_not] at hb
    rw [hs, if_neg (by omega)] at k
    have pg1 := pg.grow g1
    exact s_retX (P := rL rInt [0, Sq46.going g.p a b]) (ev_lst (ea2 (ev_int (n := 0)) (ev_call (g.p, a, b) (ea3 (ev_rows T rfl pg1.gx q1) (ev_var (i := 3) (P := rNat a) rfl rfl) (ev_var (i := 4) (P := rNat b) rfl rfl)) ⟨w0, h0, F.r, by show a < w0; omega, by show b < h0; omega⟩)) (by show 2 ≤ sizeLine; decide)) (g1.hh _ _ hx) pg1.gx pg1.gh fun v G2 H2 g2 p2 => k v G2 H2 (g1.trans g2).x (pg1.grow g2) p2
/-! call_row -/
theorem rl_ints (l : List Nat) : (l.map rNat : List Pd) = (Sq46.ints l).map rInt := by
  unfold Sq46.ints
  rw [List.map_map]
  rfl
theorem sc_call_row : FnScope ["picture", "numbers", "colours", "found"] ["picture", "numbers", "colours"] (defScope (top 49)) := ⟨rfl, rfl, rfl, by decide +kernel, rfl, by decide +kernel, by decide +kernel⟩
theorem c_call_row (d : Df K mg "call_row" (top 49) ["picture", "numbers", "colours"]) (T : Txt2 K mg C aF aM aD ds) (c_colours_in : Cal P w K mg base 1 "colours_in" (spColoursIn K)) : Cal P w K mg base 2 "call_row" (spDeed K C isRow) := by
  have sc := sc_call_row
  refine mk_any d sc deed_len fun f cdv A outer s H E hr => ⟨_, (pss_cons (ps_if (pt_cmpR op_ge (pe_ix ix_list (pv 1) pe_int (fun _ _ => rfl)) (pe_callB call_len_seq (by rfl) T.len PySem.boot_len (pa_cons (pe_fld (pv 0) rfl) pa_nil)) (nomark _)) (pss_one (ps_ret (pe_lst (pa_cons (pe_gint rfl T.CANNOT_BE) pa_nil)))) pss_nil) (pss_cons (ps_set (i := 3) sc.nd rfl (by first | exact Or.inl rfl | exact Or.inr rfl) (pe_cal c_colours_in (hr.mono (by decide)) rfl (pa_cons (pe_ix ix_list (pe_fld (pv 0) rfl) (pe_ix ix_list (pv 1) pe_int (fun _ _ => rfl)) (fun _ _ => rfl)) pa_nil))) (pss_one (ps_ret (pe_op op_cat (pe_lst (pa_cons (pe_callB call_len_seq (by rfl) T.len PySem.boot_len (pa_cons (pv 3) pa_nil)) pa_nil)) (pv 3)))))), ?_⟩
  rintro vs Q ⟨x, v1, v2, G, g, nums, cols, c, rfl, pg, hn, hc, ⟨y, rfl, rfl⟩, k⟩
  obtain ⟨dx, vr, vk, hx, q1, q2⟩ := pg.ex
  obtain ⟨w0, h0, F⟩ := pg.wf
  have hl := F.r.hh
  have hs : House.step g (.row y) = match g.p[y]? with
    | none => (g, says (-1))
    | some r => (g, ⟨r.length, Sq46.ints (r.map fun c => c.colour)⟩) := rfl
  have evn : ∀ {σ : L2.St} {G1 : Hp}, σ[1]? = some (some v1) → Ex G G1 → EvR (qIx K (tVar 1) (tC (.int 0))) σ G1 (rNat y) := fun a1 a2 => ev_ixM (K := K) (R := rNat) (xs := [y]) (j := 0) (ev_var a1 (mo a2 hn)) (ev_int (n := 0)) rfl
  refine s_ifXN (b := decide ((g.p.length : Int) ≤ (y : Nat))) (et_test (ev_I0 (evn rfl (Ex.new pg.gx)) (ev_lenL (K := K) (ev_rows T rfl pg.gx q1)))) hx pg.gx pg.gh (fun hb H1 g1 => ?_) (fun hb H1 g1 => ?_)
  · have hb := of_decide_eq_true hb
    rw [hs, List.getElem?_eq_none (by omega)] at k
    have pg1 := pg.grow g1
    exact s_ret (P := rL rInt [-1]) (ev_lst (ea1 (ev_int (n := -1))) (by show 1 ≤ sizeLine; decide)) pg1.gh fun v G2 H2 g2 p2 => k v G2 H2 (g1.trans g2).x (pg1.grow g2) p2
  · have hb := of_decide_eq_false hb
    have hyl : y < g.p.length := by omega
    obtain ⟨r, hr, hrl⟩ := F.r.row (y := y) (by omega)
    rw [hs, hr] at k
    have pg1 := pg.grow g1
    have hr16 : r.length ≤ 16 := by rw [hrl]; exact F.r.w16
    refine s_asgX (P := rL rNat (r.map fun c => c.colour)) (ev_call r (ea1 (ev_ixM (K := K) (R := rRow K) (ev_rows T rfl pg1.gx q1) (evn rfl (Ex.new pg1.gx)) hr)) hr16) (g1.hh _ _ hx) pg1.gx pg1.gh fun vf G2 H2 g2 p2 => ?_
    have pg2 := pg1.grow g2
    have hcat := ev_cat (σ := [some (.ref x), some v1, some v2, some vf]) (ev_lst (ea1 (ev_lenL (K := K) (ev_var (i := 3) rfl p2))) (by show 1 ≤ sizeLine; decide)) (ev_var (i := 3) rfl p2) (by show 1 + _ ≤ sizeLine; rw [List.length_map, List.length_map]; exact Nat.le_trans (show _ ≤ 17 by omega) (by decide))
    refine s_ret (P := rL rInt ((r.length : Int) :: Sq46.ints (r.map fun c => c.colour))) (hcat.is ?_) pg2.gh fun v G3 H3 g3 p3 => k v G3 H3 (g1.trans (g2.trans g3)).x (pg2.grow g3) p3
    show rLs ([rNat (r.map fun c => c.colour).length] ++ (r.map fun c => c.colour).map rNat) = rLs (rInt (r.length : Int) :: (Sq46.ints (r.map fun c => c.colour)).map rInt)
    rw [rl_ints, List.length_map]
    rfl
/-! call_seam -/
theorem sc_call_seam : FnScope ["picture", "numbers", "colours", "cost", "seam"] ["picture", "numbers", "colours"] (defScope (top 45)) := ⟨rfl, rfl, rfl, by decide +kernel, rfl, by decide +kernel, by decide +kernel⟩
theorem c_call_seam (d : Df K mg "call_seam" (top 45) ["picture", "numbers", "colours"]) (T : Txt2 K mg C aF aM aD ds) (c_is_turn : Cal P w K mg base 1 "is_turn" spIsTurn) (c_looked_at : Cal P w K mg base 3 "looked_at" (spLookedAt K)) (c_least_seam : Cal P w K mg base 6 "least_seam" (spLeastSeam K)) : Cal P w K mg base 7 "call_seam" (spDeed K C isSeam) := by
  have sc := sc_call_seam
  refine mk_any d sc deed_len fun f cdv A outer s H E hr => ⟨_, (pss_cons (ps_if (pt_not (pt_val (pe_cal c_is_turn (hr.mono (by decide)) rfl (pa_cons (pe_ix ix_list (pv 1) pe_int (fun _ _ => rfl)) pa_nil)))) (pss_one (ps_ret (pe_lst (pa_cons (pe_gint rfl T.CANNOT_BE) pa_nil)))) pss_nil) (pss_cons (ps_asg (pe_cal c_least_seam (hr.mono (by decide)) rfl (pa_cons (pe_cal c_looked_at (hr.mono (by decide)) rfl (pa_cons (pe_fld (pv 0) rfl) (pa_cons (pe_ix ix_list (pv 1) pe_int (fun _ _ => rfl)) pa_nil))) pa_nil)) (pg_tup rfl (pgs_cons (pg_name (i := 3) sc.nd rfl (by first | exact Or.inl rfl | exact Or.inr rfl)) (pgs_cons (pg_name (i := 4) sc.nd rfl (by first | exact Or.inl rfl | exact Or.inr rfl)) pgs_nil)))) (pss_one (ps_ret (pe_op op_cat (pe_lst (pa_cons pe_int (pa_cons (pv 3) pa_nil))) (pv 4)))))), ?_⟩
  rintro vs Q ⟨x, v1, v2, G, g, nums, cols, c, rfl, pg, hn, hc, ⟨t, rfl, rfl⟩, k⟩
  obtain ⟨dx, vr, vk, hx, q1, q2⟩ := pg.ex
  obtain ⟨w0, h0, F⟩ := pg.wf
  have hs : House.step g (.seam t) = if 1 < t then (g, says (-1)) else match Sq46.least (Sq46.seen (t == 1) g.p) with
    | none => (g, says (-3))
    | some s => (g, ⟨0, Sq46.cost (Sq46.seen (t == 1) g.p) 0 s :: Sq46.ints s⟩) := rfl
  have evn : ∀ {σ : L2.St} {G1 : Hp}, σ[1]? = some (some v1) → Ex G G1 → EvR (qIx K (tVar 1) (tC (.int 0))) σ G1 (rNat t) := fun a1 a2 => ev_ixM (K := K) (R := rNat) (xs := [t]) (j := 0) (ev_var a1 (mo a2 hn)) (ev_int (n := 0)) rfl
  refine s_ifN (b := !decide (t ≤ 1)) (et_not (et_B (ev_call t (ea1 (evn rfl (Ex.refl G))) trivial))) pg.gh (fun hb G1 H1 g1 => ?_) (fun hb G1 H1 g1 => ?_)
  · have hb : ¬ t ≤ 1 := by simpa using hb
    rw [hs, if_pos (by omega)] at k
    have pg1 := pg.grow g1
    exact s_ret (P := rL rInt [-1]) (ev_lst (ea1 (ev_int (n := -1))) (by show 1 ≤ sizeLine; decide)) pg1.gh fun v G2 H2 g2 p2 => k v G2 H2 (g1.trans g2).x (pg1.grow g2) p2
  · have hb : t ≤ 1 := by simpa using hb
    have R' := seen_rect (t := (t == 1)) F.r
    rw [hs, if_neg (by omega), least_leastP R', seen_eq] at k
    rw [seen_eq] at R'
    have pg1 := pg.grow g1
    obtain ⟨dx1, vr1, vk1, hx1, q11, q21⟩ := pg1.ex
    refine s_asgGX (P := rT K [rInt (Sq46.cost (seenP t g.p) 0 (leastP (seenP t g.p))), rL rNat (leastP (seenP t g.p))]) (ev_call (seenP t g.p) (ea1 (ev_call (g.p, t) (ea2 (ev_rows T rfl pg1.gx q11) (evn rfl (g1.gg.trans (Ex.new pg1.gx)))) ⟨w0, h0, F.r⟩)) ⟨_, _, R'⟩) hx1 pg1.gx pg1.gh fun vt G2 H2 g2 p2 => ?_
    obtain ⟨a, us, rfl, sa, hus⟩ := p2
    obtain ⟨u1, u2, rfl, hu1, hu2⟩ := args2 hus
    have pg2 := pg1.grow g2
    refine gT2 (g2.gh.sqT sa) ?_
    have hll := (leastP_len R').1
    have hh16 := R'.h16
    have hcat := ev_cat (σ := [some (.ref x), some v1, some v2, some u1, some u2]) (ev_lst (ea2 (ev_int (n := 0)) (ev_var (i := 3) rfl hu1)) (by show 2 ≤ sizeLine; decide)) (ev_var (i := 4) rfl hu2) (by show 2 + _ ≤ sizeLine; rw [List.length_map]; exact Nat.le_trans (show _ ≤ 18 by omega) (by decide))
    refine s_ret (P := rL rInt (0 :: Sq46.cost (seenP t g.p) 0 (leastP (seenP t g.p)) :: Sq46.ints (leastP (seenP t g.p)))) (hcat.is ?_) pg2.gh fun v G3 H3 g3 p3 => k v G3 H3 (g1.trans (g2.trans g3)).x (pg2.grow g3) p3
    rw [rl_ints]
    rfl
end
end LS
namespace LS
open PySem PySem.Spec PyProof.Rows L2
open Sq46 (Pixel Picture House Out_ says)
/-- max(l) > b -/
theorem et_max {K : PySem.W.Frag} {te tb : TE} {σ : L2.St} {G : Hp} {l : List Nat} {b : Nat} (h : EvR te σ G (rL rNat l)) (hl : 0 < l.length) (hb : EvR tb σ G (rNat b)) : EvT (tTest (tOp qGt (tCB (rMax K) (tCons te tNil)) tb)) σ G (l.any fun c => decide (b < c)) := fun G0 H a c Q k => h G0 H a c _ fun v G1 H1 g1 p1 => by
  obtain ⟨ad, rfl, had⟩ := nums_at p1
  refine ⟨ad, l.map (fun n : Nat => (n : Int)), rfl, ?_, by rw [List.length_map]; exact hl, fun m hm hle => ?_⟩
  · rw [List.map_map]
    exact sqL_of (g1.gh _ _ had)
  · refine hb G1 H1 (a.trans g1.gg) g1.gh _ fun y G2 H2 g2 p2 => ?_
    cases p2
    refine ⟨m, b, rfl, rfl, _, rfl, ?_⟩
    have e : decide ((b : Int) < m) = l.any fun c => decide (b < c) := by
      obtain ⟨n, hn, rfl⟩ := List.mem_map.mp hm
      by_cases q : (b : Int) < (n : Int)
      · rw [decide_eq_true q]
        exact (List.any_eq_true.mpr ⟨n, hn, decide_eq_true (by omega)⟩).symm
      · rw [decide_eq_false q]
        refine (List.any_eq_false.mpr fun y hy z => ?_).symm
        have h1 := of_decide_eq_true z
        have h2 := hle (y : Int) (List.mem_map.mpr ⟨y, hy, rfl⟩)
        omega
    rw [e]
    exact k G2 H2 (g1.trans g2)
theorem seen_tn (b : Bool) (p : Picture) : seenP (tn b) p = Sq46.seen b p := by
  rw [← seen_eq]
  cases b <;> rfl
section
variable {P : Program} {w : World} {K : PySem.W.Frag} {mg : Str → Option Value} {base : Heap} {C aF aM aD : Addr} {ds : List Addr}
/-! call_begin -/
theorem sc_call_begin : FnScope ["picture", "numbers", "colours", "width", "height"] ["picture", "numbers", "colours"] (defScope (top 42)) := ⟨rfl, rfl, rfl, by decide +kernel, rfl, by decide +kernel, by decide +kernel⟩
theorem c_call_begin (d : Df K mg "call_begin" (top 42) ["picture", "numbers", "colours"]) (T : Txt2 K mg C aF aM aD ds) (c_rows_of : Cal P w K mg base 1 "rows_of" (spRowsOf K)) (m_show : Mtd P w K mg base 1 C "show" (spShow K C)) : Cal P w K mg base 2 "call_begin" (spDeed K C isBegin) := by
  have sc := sc_call_begin
  refine mk_any d sc deed_len fun f cdv A outer s H E hr => ⟨_, (pss_cons (ps_asg (pv 1) (pg_lst rfl (pgs_cons (pg_name (i := 3) sc.nd rfl (by first | exact Or.inl rfl | exact Or.inr rfl)) (pgs_cons (pg_name (i := 4) sc.nd rfl (by first | exact Or.inl rfl | exact Or.inr rfl)) pgs_nil)))) (pss_cons (ps_if (PW.pt (pw_or (pt_not (pt_chain op_le op_le pe_int (pv 3) (pe_gint rfl T.MOST_WIDE))) (pw_or1 (pt_not (pt_chain op_le op_le pe_int (pv 4) (pe_gint rfl T.MOST_WIDE)))))) (pss_one (ps_ret (pe_lst (pa_cons (pe_gint rfl T.CANNOT_BE) pa_nil)))) pss_nil) (pss_cons (ps_if (PW.pt (pw_or (pt_cmpR op_ne (pe_callB call_len_seq (by rfl) T.len PySem.boot_len (pa_cons (pv 2) pa_nil)) (pe_op op_mul (pv 3) (pv 4)) (nomark _)) (pw_or1 (pt_cmpR op_gt (pe_callB (cr_max rfl) (by rfl) T.max (by decide +kernel) (pa_cons (pv 2) pa_nil)) (pe_gint rfl T.MOST_COLOUR) (nomark _))))) (pss_one (ps_ret (pe_lst (pa_cons (pe_gint rfl T.NOT_SO) pa_nil)))) pss_nil) (pss_cons (ps_expr (pe_calM (pv 0) T.cl m_show (hr.mono (by decide)) (pa_cons (pe_cal c_rows_of (hr.mono (by decide)) rfl (pa_cons (pv 3) (pa_cons (pv 2) pa_nil))) pa_nil))) (pss_one (ps_ret (pe_lst (pa_cons pe_int pa_nil)))))))), ?_⟩
  rintro vs Q ⟨x, v1, v2, G, g, nums, cols, c, rfl, pg, hn, hc, ⟨a, b, rfl, rfl⟩, k⟩
  obtain ⟨na, rfl, hna⟩ := nums_at hn
  have hs : House.step g (.begin_ a b cols) = if a = 0 ∨ Sq46.SIDE < a ∨ b = 0 ∨ Sq46.SIDE < b then (g, says (-1)) else if cols.length ≠ a * b ∨ (cols.any fun c => decide (255 < c)) = true then (g, says (-3)) else (⟨Sq46.rowsOf a b cols, []⟩, says 0) := rfl
  have hside : Sq46.SIDE = 16 := rfl
  rw [hside] at hs
  refine s_unp2 rfl (sqL_of (pg.gh _ _ hna)) ?_
  refine s_ifN (b := !(decide ((1 : Int) ≤ (a : Nat)) && decide (((a : Nat) : Int) ≤ 16)) || !(decide ((1 : Int) ≤ (b : Nat)) && decide (((b : Nat) : Int) ≤ 16))) (et_or (et_not (et_test (ev_chain (f := fun i j => decide (i ≤ j)) (f' := fun i j => decide (i ≤ j)) (ev_int (n := 1)) (ev_var (i := 3) (P := rNat a) rfl rfl) (ev_int (n := 16))))) fun _ => et_not (et_test (ev_chain (f := fun i j => decide (i ≤ j)) (f' := fun i j => decide (i ≤ j)) (ev_int (n := 1)) (ev_var (i := 4) (P := rNat b) rfl rfl) (ev_int (n := 16))))) pg.gh (fun hb G1 H1 g1 => ?_) (fun hb G1 H1 g1 => ?_)
  · rw [hs, if_pos (by simp at hb; omega)] at k
    have pg1 := pg.grow g1
    exact s_ret (P := rL rInt [-1]) (ev_lst (ea1 (ev_int (n := -1))) (by show 1 ≤ sizeLine; decide)) pg1.gh fun v G2 H2 g2 p2 => k v G2 H2 (g1.trans g2).x (pg1.grow g2) p2
  · simp only [Bool.or_eq_false_iff, Bool.not_eq_false', Bool.and_eq_true, decide_eq_true_eq] at hb
    rw [hs, if_neg (by omega)] at k
    have pg1 := pg.grow g1
    have hmul : ((a : Nat) : Int) * ((b : Nat) : Int) = ((a * b : Nat) : Int) := (Int.natCast_mul a b).symm
    have hab : 1 ≤ a * b := Nat.mul_pos (by omega) (by omega)
    refine s_ifN (b := (!decide ((cols.length : Int) = (a : Nat) * (b : Nat))) || (cols.any fun c => decide (255 < c))) (et_or (et_test (ev_ne (ev_lenL (K := K) (ev_var (i := 2) rfl (mo g1.gg hc))) (ev_I (C := CMul) (g := fun i j => V.int (i * j)) (ev_var (i := 3) (P := rNat a) rfl rfl) (ev_var (i := 4) (P := rNat b) rfl rfl) (Or.inl ⟨by omega, by omega⟩)))) fun hq => et_max (K := K) (ev_var (i := 2) rfl (mo g1.gg hc)) (by simp at hq; rw [hmul] at hq; omega) (ev_int (n := 255))) pg1.gh (fun hb2 G2 H2 g2 => ?_) (fun hb2 G2 H2 g2 => ?_)
    · rw [if_pos (by
        rw [hmul] at hb2
        rcases Bool.or_eq_true_iff.mp hb2 with z | z
        · simp at z
          exact Or.inl (by omega)
        · exact Or.inr z)] at k
      have pg2 := pg1.grow g2
      exact s_ret (P := rL rInt [-3]) (ev_lst (ea1 (ev_int (n := -3))) (by show 1 ≤ sizeLine; decide)) pg2.gh fun v G3 H3 g3 p3 => k v G3 H3 (g1.trans (g2.trans g3)).x (pg2.grow g3) p3
    · rw [hmul] at hb2
      obtain ⟨hb3, hb4⟩ := Bool.or_eq_false_iff.mp hb2
      have hcl : cols.length = a * b := by
        simp at hb3
        omega
      rw [if_neg (fun z => by
        rcases z with z | z
        · exact z hcl
        · rw [hb4] at z
          cases z), rows_eq] at k
      have pg2 := pg1.grow g2
      have hg := g1.gg.trans g2.gg
      obtain ⟨dx, vr, vk, hx, q1, q2⟩ := pg2.ex
      have R := (rowsP_rc hcl).rect (by omega) (by omega) (by omega) (by omega)
      refine s_methX (Ps := [rPic K (rowsP a b cols)]) (ea1 (ev_call (a, b, cols) (ea2 (ev_var (i := 3) (P := rNat a) rfl rfl) (ev_var (i := 2) rfl (mo (hg.trans (Ex.new pg2.gx)) hc))) ⟨by show 1 ≤ a; omega, by show a ≤ 16; omega, by show b ≤ 16; omega, hcl⟩)) rfl hx pg2.gx pg2.gh (picF_no _ _ (by decide +kernel) (by decide +kernel)) fun vs' G3 H3 g3 p3 => ?_
      obtain ⟨vp, rfl, hvp⟩ := args_1 p3
      have pg3 := pg2.grow g3
      refine ⟨x, G3, g, rowsP a b cols, vp, rfl, pg3, hvp, ⟨a, b, R, trivial, Nat.zero_le _⟩, fun G4 H4 g4 pg4 => ?_⟩
      exact s_ret (P := rL rInt [0]) (ev_lst (ea1 (ev_int (n := 0))) (by show 1 ≤ sizeLine; decide)) pg4.gh fun v G5 H5 g5 p5 => k v G5 H5 (((g1.trans (g2.trans g3)).x.trans g4).trans g5.x) (pg4.grow g5) p5
/-! call_weigh -/
theorem sc_call_weigh : FnScope ["picture", "numbers", "colours", "x", "y", "width", "height", "plus", "minus"] ["picture", "numbers", "colours"] (defScope (top 43)) := ⟨rfl, rfl, rfl, by decide +kernel, rfl, by decide +kernel, by decide +kernel⟩
theorem c_call_weigh (d : Df K mg "call_weigh" (top 43) ["picture", "numbers", "colours"]) (T : Txt2 K mg C aF aM aD ds) (c_weighed : Cal P w K mg base 2 "weighed" (spWeighed K)) (m_show : Mtd P w K mg base 1 C "show" (spShow K C)) : Cal P w K mg base 3 "call_weigh" (spDeed K C isWeigh) := by
  have sc := sc_call_weigh
  refine mk_any d sc deed_len fun f cdv A outer s H E hr => ⟨_, (pss_cons (ps_asg (pv 1) (pg_lst rfl (pgs_cons (pg_name (i := 3) sc.nd rfl (by first | exact Or.inl rfl | exact Or.inr rfl)) (pgs_cons (pg_name (i := 4) sc.nd rfl (by first | exact Or.inl rfl | exact Or.inr rfl)) (pgs_cons (pg_name (i := 5) sc.nd rfl (by first | exact Or.inl rfl | exact Or.inr rfl)) (pgs_cons (pg_name (i := 6) sc.nd rfl (by first | exact Or.inl rfl | exact Or.inr rfl)) (pgs_cons (pg_name (i := 7) sc.nd rfl (by first | exact Or.inl rfl | exact Or.inr rfl)) (pgs_cons (pg_name (i := 8) sc.nd rfl (by first | exact Or.inl rfl | exact Or.inr rfl)) pgs_nil)))))))) (pss_cons (ps_if (PW.pt (pw_or (pt_cmpR op_gt (pv 7) (pe_gint rfl T.MOST_WEIGHT) (nomark _)) (pw_or1 (pt_cmpR op_gt (pv 8) (pe_gint rfl T.MOST_WEIGHT) (nomark _))))) (pss_one (ps_ret (pe_lst (pa_cons (pe_gint rfl T.CANNOT_BE) pa_nil)))) pss_nil) (pss_cons (ps_expr (pe_calM (pv 0) T.cl m_show (hr.mono (by decide)) (pa_cons (pe_cal c_weighed (hr.mono (by decide)) rfl (pa_cons (pe_fld (pv 0) rfl) (pa_cons (pe_tup (pa_cons (pv 3) (pa_cons (pv 4) pa_nil))) (pa_cons (pe_tup (pa_cons (pv 5) (pa_cons (pv 6) pa_nil))) (pa_cons (pe_op op_sub (pv 7) (pv 8)) pa_nil))))) pa_nil))) (pss_one (ps_ret (pe_lst (pa_cons pe_int pa_nil))))))), ?_⟩
  rintro vs Q ⟨x, v1, v2, G, g, nums, cols, c, rfl, pg, hn, hc, ⟨a, b, wd, ht, pl, mi, rfl, rfl⟩, k⟩
  obtain ⟨na, rfl, hna⟩ := nums_at hn
  have hs : House.step g (.weigh a b wd ht pl mi) = if Sq46.WEIGHT < pl ∨ Sq46.WEIGHT < mi then (g, says (-1)) else (⟨((List.range g.p.length).zip g.p).map fun r => ((List.range r.2.length).zip r.2).map fun c => if a ≤ c.1 ∧ c.1 < a + wd ∧ b ≤ r.1 ∧ r.1 < b + ht then { c.2 with weight := (pl : Int) - mi } else c.2, []⟩, says 0) := rfl
  have hwt : Sq46.WEIGHT = 10000 := rfl
  rw [hwt, weigh_eq] at hs
  refine s_unp6 rfl (sqL_of (pg.gh _ _ hna)) ?_
  refine s_ifN (b := decide ((10000 : Int) < (pl : Nat)) || decide ((10000 : Int) < (mi : Nat))) (et_or (et_test (ev_I0 (ev_var (i := 7) (P := rNat pl) rfl rfl) (ev_int (n := 10000)))) fun _ => et_test (ev_I0 (ev_var (i := 8) (P := rNat mi) rfl rfl) (ev_int (n := 10000)))) pg.gh (fun hb G1 H1 g1 => ?_) (fun hb G1 H1 g1 => ?_)
  · rw [hs, if_pos (by simp at hb; omega)] at k
    have pg1 := pg.grow g1
    exact s_ret (P := rL rInt [-1]) (ev_lst (ea1 (ev_int (n := -1))) (by show 1 ≤ sizeLine; decide)) pg1.gh fun v G2 H2 g2 p2 => k v G2 H2 (g1.trans g2).x (pg1.grow g2) p2
  · simp only [Bool.or_eq_false_iff, decide_eq_false_iff_not] at hb
    rw [hs, if_neg (by omega)] at k
    have pg1 := pg.grow g1
    obtain ⟨dx, vr, vk, hx, q1, q2⟩ := pg1.ex
    obtain ⟨w0, h0, F⟩ := pg.wf
    refine s_methX (Ps := [rPic K (weighedP g.p a b wd ht ((pl : Int) - (mi : Int)))]) (ea1 (ev_call (g.p, (a, b), (wd, ht), (pl : Int) - (mi : Int)) (ea_cons (ev_rows T rfl pg1.gx q1) (ea3 (ev_tup (ea2 (ev_var (i := 3) (P := rNat a) rfl rfl) (ev_var (i := 4) (P := rNat b) rfl rfl)) (by show 2 ≤ sizeLine; decide)) (ev_tup (ea2 (ev_var (i := 5) (P := rNat wd) rfl rfl) (ev_var (i := 6) (P := rNat ht) rfl rfl)) (by show 2 ≤ sizeLine; decide)) (ev_sub (ev_var (i := 7) (P := rNat pl) rfl rfl) (ev_var (i := 8) (P := rNat mi) rfl rfl)))) ⟨w0, h0, F.r⟩)) rfl hx pg1.gx pg1.gh (picF_no _ _ (by decide +kernel) (by decide +kernel)) fun vs' G3 H3 g3 p3 => ?_
    obtain ⟨vp, rfl, hvp⟩ := args_1 p3
    have pg3 := pg1.grow g3
    have R := (weighed_rc F.r.rc a b wd ht ((pl : Int) - (mi : Int))).rect F.r.w1 F.r.h1 F.r.w16 F.r.h16
    refine ⟨x, G3, g, _, vp, rfl, pg3, hvp, ⟨w0, h0, R, trivial, Nat.zero_le _⟩, fun G4 H4 g4 pg4 => ?_⟩
    exact s_ret (P := rL rInt [0]) (ev_lst (ea1 (ev_int (n := 0))) (by show 1 ≤ sizeLine; decide)) pg4.gh fun v G5 H5 g5 p5 => k v G5 H5 (((g1.trans g3).x.trans g4).trans g5.x) (pg4.grow g5) p5
/-! call_narrow -/
theorem sc_call_narrow : FnScope ["picture", "numbers", "colours", "turn", "many", "rows", "behind", "cost", "taken"] ["picture", "numbers", "colours"] (defScope (top 46)) := ⟨rfl, rfl, rfl, by decide +kernel, rfl, by decide +kernel, by decide +kernel⟩
theorem c_call_narrow (d : Df K mg "call_narrow" (top 46) ["picture", "numbers", "colours"]) (T : Txt2 K mg C aF aM aD ds) (c_is_turn : Cal P w K mg base 1 "is_turn" spIsTurn) (c_looked_at : Cal P w K mg base 3 "looked_at" (spLookedAt K)) (c_wide : Cal P w K mg base 1 "wide" (spWide K)) (c_narrowed : Cal P w K mg base 7 "narrowed" (spNarrowed K)) (m_narrow : Mtd P w K mg base 1 C "narrow" (spNarrow K C)) : Cal P w K mg base 8 "call_narrow" (spDeed K C isNarrow) := by
  have sc := sc_call_narrow
  refine mk_any d sc deed_len fun f cdv A outer s H E hr => ⟨_, (pss_cons (ps_asg (pv 1) (pg_lst rfl (pgs_cons (pg_name (i := 3) sc.nd rfl (by first | exact Or.inl rfl | exact Or.inr rfl)) (pgs_cons (pg_name (i := 4) sc.nd rfl (by first | exact Or.inl rfl | exact Or.inr rfl)) pgs_nil)))) (pss_cons (ps_if (pt_not (pt_val (pe_cal c_is_turn (hr.mono (by decide)) rfl (pa_cons (pv 3) pa_nil)))) (pss_one (ps_ret (pe_lst (pa_cons (pe_gint rfl T.CANNOT_BE) pa_nil)))) pss_nil) (pss_cons (ps_set (i := 5) sc.nd rfl (by first | exact Or.inl rfl | exact Or.inr rfl) (pe_cal c_looked_at (hr.mono (by decide)) rfl (pa_cons (pe_fld (pv 0) rfl) (pa_cons (pv 3) pa_nil)))) (pss_cons (ps_if (pt_cmpR op_le (pe_cal c_wide (hr.mono (by decide)) rfl (pa_cons (pv 5) pa_nil)) (pv 4) (nomark _)) (pss_one (ps_ret (pe_lst (pa_cons (pe_gint rfl T.NOT_SO) pa_nil)))) pss_nil) (pss_cons (ps_asg (pe_cal c_narrowed (hr.mono (by decide)) rfl (pa_cons (pv 5) (pa_cons (pv 4) pa_nil))) (pg_tup rfl (pgs_cons (pg_name (i := 6) sc.nd rfl (by first | exact Or.inl rfl | exact Or.inr rfl)) (pgs_cons (pg_name (i := 7) sc.nd rfl (by first | exact Or.inl rfl | exact Or.inr rfl)) (pgs_cons (pg_name (i := 8) sc.nd rfl (by first | exact Or.inl rfl | exact Or.inr rfl)) pgs_nil))))) (pss_cons (ps_expr (pe_calM (pv 0) T.cl m_narrow (hr.mono (by decide)) (pa_cons (pe_cal c_looked_at (hr.mono (by decide)) rfl (pa_cons (pv 6) (pa_cons (pv 3) pa_nil))) (pa_cons (pv 3) (pa_cons (pv 8) pa_nil))))) (pss_one (ps_ret (pe_lst (pa_cons pe_int (pa_cons (pv 7) pa_nil))))))))))), ?_⟩
  rintro vs Q ⟨x, v1, v2, G, g, nums, cols, c, rfl, pg, hn, hc, ⟨t, n, rfl, rfl⟩, k⟩
  obtain ⟨na, rfl, hna⟩ := nums_at hn
  have hs : House.step g (.narrow t n) = if 1 < t then (g, says (-1)) else if (Sq46.seen (t == 1) g.p).wide ≤ n then (g, says (-3)) else ((Sq46.narrowed n (t == 1) g).1, ⟨0, [(Sq46.narrowed n (t == 1) g).2]⟩) := rfl
  refine s_unp2 rfl (sqL_of (pg.gh _ _ hna)) ?_
  refine s_ifN (b := !decide (t ≤ 1)) (et_not (et_B (ev_call t (ea1 (ev_var (i := 3) (P := rNat t) rfl rfl)) trivial))) pg.gh (fun hb G1 H1 g1 => ?_) (fun hb G1 H1 g1 => ?_)
  · have hb : ¬ t ≤ 1 := by simpa using hb
    rw [hs, if_pos (by omega)] at k
    have pg1 := pg.grow g1
    exact s_ret (P := rL rInt [-1]) (ev_lst (ea1 (ev_int (n := -1))) (by show 1 ≤ sizeLine; decide)) pg1.gh fun v G2 H2 g2 p2 => k v G2 H2 (g1.trans g2).x (pg1.grow g2) p2
  · have hb : t ≤ 1 := by simpa using hb
    rw [hs, if_neg (by omega)] at k
    have pg1 := pg.grow g1
    obtain ⟨w0, h0, F⟩ := pg.wf
    have R := seen_rect (t := (t == 1)) F.r
    have hwide := R.wide
    obtain ⟨dx, vr, vk, hx, q1, q2⟩ := pg1.ex
    refine s_asgX (P := rPic K (seenP t g.p)) (ev_call (g.p, t) (ea2 (ev_rows T rfl pg1.gx q1) (ev_var (i := 3) (P := rNat t) rfl rfl)) ⟨w0, h0, F.r⟩) hx pg1.gx pg1.gh fun v5 G2 H2 g2 p2 => ?_
    have pg2 := pg1.grow g2
    have R' : Rect (swapW (t == 1) w0 h0) (swapH (t == 1) w0 h0) (seenP t g.p) := by rw [← seen_eq]; exact R
    refine s_ifN (b := decide (((seenP t g.p).wide : Int) ≤ (n : Nat))) (et_test (ev_I0 (ev_call (seenP t g.p) (ea1 (ev_var (i := 5) rfl p2)) R'.ne) (ev_var (i := 4) (P := rNat n) rfl rfl))) pg2.gh (fun hb2 G3 H3 g3 => ?_) (fun hb2 G3 H3 g3 => ?_)
    · have hb2 := of_decide_eq_true hb2
      rw [if_pos (by rw [seen_eq]; omega)] at k
      have pg3 := pg2.grow g3
      exact s_ret (P := rL rInt [-3]) (ev_lst (ea1 (ev_int (n := -3))) (by show 1 ≤ sizeLine; decide)) pg3.gh fun v G4 H4 g4 p4 => k v G4 H4 (g1.trans (g2.trans (g3.trans g4))).x (pg3.grow g4) p4
    · have hb2 := of_decide_eq_false hb2
      rw [if_neg (by rw [seen_eq]; omega)] at k
      have hnw : n < swapW (t == 1) w0 h0 := by
        rw [← R'.wide]
        omega
      have htw := seen_twice (t := (t == 1)) F.r.rc F.r.w1 F.r.h1
      have hne := narrowed_eq n (t == 1) g _ _ R htw hnw F.l
      have hwf := narrowed_wf n (t == 1) g w0 h0 F hnw
      have wf' : WF (Sq46.narrowed n (t == 1) g).1 := ⟨_, _, hwf⟩
      rw [hne] at k wf'
      rw [seen_eq t g.p] at k wf'
      rw [seen_eq] at k wf'
      have pg3 := pg2.grow g3
      have ho := narrowN_out R' n (by omega)
      have R2 := narrowN_rect R' hnw
      have w16 := R'.w16
      refine s_asgG (P := rT K [rPic K (narrowN (seenP t g.p) n).1, rInt (narrowN (seenP t g.p) n).2.1, rL (rOut K) (narrowN (seenP t g.p) n).2.2]) (ev_call (seenP t g.p, n) (ea2 (ev_var (i := 5) rfl (mo g3.gg p2)) (ev_var (i := 4) (P := rNat n) rfl rfl)) ⟨_, _, R', by show n ≤ _; omega⟩) pg3.gh fun vt G4 H4 g4 p4 => ?_
      obtain ⟨aa, us, rfl, sa, hus⟩ := p4
      obtain ⟨u1, u2, u3, rfl, hu1, hu2, hu3⟩ := args3 hus
      have pg4 := pg3.grow g4
      refine gT3 (g4.gh.sqT sa) ?_
      obtain ⟨dx4, vr4, vk4, hx4, q14, q24⟩ := pg4.ex
      have en := Ex.new (o := HO.ins C dx4 (picF vr4 vk4)) pg4.gx
      refine s_methX (Ps := [rPic K (seenP t (narrowN (seenP t g.p) n).1), rNat t, rL (rOut K) (narrowN (seenP t g.p) n).2.2]) (ea3 (ev_call ((narrowN (seenP t g.p) n).1, t) (ea2 (ev_var (i := 6) rfl (mo en hu1)) (ev_var (i := 3) (P := rNat t) rfl rfl)) ⟨_, _, R2⟩) (ev_var (i := 3) (P := rNat t) rfl rfl) (ev_var (i := 8) rfl (mo en hu3))) rfl hx4 pg4.gx pg4.gh (picF_no _ _ (by decide +kernel) (by decide +kernel)) fun vs' G5 H5 g5 p5 => ?_
      obtain ⟨w1, w2, w3, rfl, hw1, hw2, hw3⟩ := args3 p5
      have pg5 := pg4.grow g5
      refine ⟨x, G5, g, _, t, _, w1, w2, w3, rfl, pg5, hw1, hw2, hw3, hb, by rw [ho.1]; omega, wf', fun G6 H6 g6 pg6 => ?_⟩
      have hu2 : rInt (narrowN (seenP t g.p) n).2.1 u2 G4 := hu2
      exact s_ret (P := rL rInt [0, (narrowN (seenP t g.p) n).2.1]) (ev_lst (ea2 (ev_int (n := 0)) (ev_var (i := 7) rfl (mo (g5.gg.trans g6.gg) hu2))) (by show 2 ≤ sizeLine; decide)) pg6.gh fun v G7 H7 g7 p7 => k v G7 H7 (((g1.trans (g2.trans (g3.trans (g4.trans g5)))).x.trans g6).trans g7.x) (pg6.grow g7) p7
/-! call_back -/
theorem sc_call_back : FnScope ["picture", "numbers", "colours", "turn", "taken"] ["picture", "numbers", "colours"] (defScope (top 47)) := ⟨rfl, rfl, rfl, by decide +kernel, rfl, by decide +kernel, by decide +kernel⟩
theorem c_call_back (d : Df K mg "call_back" (top 47) ["picture", "numbers", "colours"]) (T : Txt2 K mg C aF aM aD ds) (c_looked_at : Cal P w K mg base 3 "looked_at" (spLookedAt K)) (c_put_back : Cal P w K mg base 2 "put_back" (spPutBack K)) (m_put_in : Mtd P w K mg base 1 C "put_in" (spPutIn K C)) : Cal P w K mg base 4 "call_back" (spDeed K C isBack) := by
  have sc := sc_call_back
  refine mk_any d sc deed_len fun f cdv A outer s H E hr => ⟨_, (pss_cons (ps_if (pt_cmpR op_eq (pe_callB call_len_seq (by rfl) T.len PySem.boot_len (pa_cons (pe_fld (pv 0) rfl) pa_nil)) pe_int (nomark _)) (pss_one (ps_ret (pe_lst (pa_cons (pe_gint rfl T.NONE_KEPT) pa_nil)))) pss_nil) (pss_cons (ps_asg (pe_ix ix_list (pe_fld (pv 0) rfl) (pe_un un_neg pe_int) (fun _ _ => rfl)) (pg_tup rfl (pgs_cons (pg_name (i := 3) sc.nd rfl (by first | exact Or.inl rfl | exact Or.inr rfl)) (pgs_cons (pg_name (i := 4) sc.nd rfl (by first | exact Or.inl rfl | exact Or.inr rfl)) pgs_nil)))) (pss_cons (ps_expr (pe_calM (pv 0) T.cl m_put_in (hr.mono (by decide)) (pa_cons (pe_cal c_looked_at (hr.mono (by decide)) rfl (pa_cons (pe_cal c_put_back (hr.mono (by decide)) rfl (pa_cons (pe_cal c_looked_at (hr.mono (by decide)) rfl (pa_cons (pe_fld (pv 0) rfl) (pa_cons (pv 3) pa_nil))) (pa_cons (pv 4) pa_nil))) (pa_cons (pv 3) pa_nil))) pa_nil))) (pss_one (ps_ret (pe_lst (pa_cons (pe_callB call_len_seq (by rfl) T.len PySem.boot_len (pa_cons (pe_fld (pv 0) rfl) pa_nil)) pa_nil))))))), ?_⟩
  rintro vs Q ⟨x, v1, v2, G, g, nums, cols, c, rfl, pg, hn, hc, ⟨rfl, rfl⟩, k⟩
  obtain ⟨dx, vr, vk, hx, q1, q2⟩ := pg.ex
  have hs : House.step g .back = match g.gone with
    | [] => (g, says (-2))
    | o :: l => (⟨Sq46.seen o.turned (Sq46.again (Sq46.seen o.turned g.p) o.seam o.pixels), l⟩, says l.length) := rfl
  refine s_ifXN (b := decide ((g.gone.length : Int) = 0)) (et_test ((ev_eq (ev_lenL (K := K) (ev_kept T rfl pg.gx q2)) (ev_int (n := 0))).is (by rw [List.length_reverse]))) hx pg.gx pg.gh (fun hb H1 g1 => ?_) (fun hb H1 g1 => ?_)
  · have hb := of_decide_eq_true hb
    have hg : g.gone = [] := List.length_eq_zero_iff.mp (by omega)
    rw [hs, hg] at k
    have pg1 := pg.grow g1
    exact s_ret (P := rL rInt [-2]) (ev_lst (ea1 (ev_int (n := -2))) (by show 1 ≤ sizeLine; decide)) pg1.gh fun v G2 H2 g2 p2 => k v G2 H2 (g1.trans g2).x (pg1.grow g2) p2
  · have hb := of_decide_eq_false hb
    obtain ⟨o, l, hg⟩ : ∃ o l, g.gone = o :: l := by
      cases hgg : g.gone with
      | nil =>
        rw [hgg] at hb
        exact absurd rfl hb
      | cons o l => exact ⟨o, l, rfl⟩
    rw [hs, hg] at k
    obtain ⟨w0, h0, F⟩ := pg.wf
    have wf' := back_wf F hg
    have R := seen_rect (t := o.turned) F.r
    have pg1 := pg.grow g1
    have hx1 := g1.hh _ _ hx
    have hat : atI (g.gone.reverse.map (rKept K)) (-1) = some (rKept K o) := by
      rw [hg, List.reverse_cons, List.map_append]
      exact atI_last _ _
    refine s_asgGX (P := rKept K o) (ev_ixL (ev_kept T rfl pg1.gx q2) (ev_neg (ev_int (n := 1))) hat) hx1 pg1.gx pg1.gh fun vt G2 H2 g2 p2 => ?_
    obtain ⟨aa, us, rfl, sa, hus⟩ := p2
    obtain ⟨u1, u2, rfl, hu1, hu2⟩ := args2 hus
    have pg2 := pg1.grow g2
    refine gT2 (g2.gh.sqT sa) ?_
    obtain ⟨dx2, vr2, vk2, hx2, q12, q22⟩ := pg2.ex
    have en := Ex.new (o := HO.ins C dx2 (picF vr2 vk2)) pg2.gx
    have hu1 : rNat (tn o.turned) u1 G2 := hu1
    have hu2 : rOut K (o.seam, o.pixels) u2 G2 := hu2
    have R' : Rect (swapW o.turned w0 h0) (swapH o.turned w0 h0) (seenP (tn o.turned) g.p) := by rw [seen_tn]; exact R
    -- the picture with the seam put back, as it is looked at
    have R3 : ∃ w3 h3, Rect w3 h3 (Sq46.again (seenP (tn o.turned) g.p) o.seam o.pixels) := by
      obtain ⟨w4, h4, F4⟩ := wf'
      have hk := F.k
      rw [hg] at hk
      have hk' : if o.turned = true then o.seam.length = w0 ∧ o.pixels.length = w0 ∧ h0 + 1 ≤ 16 ∧ KeptOK w0 (h0 + 1) l else o.seam.length = h0 ∧ o.pixels.length = h0 ∧ w0 + 1 ≤ 16 ∧ KeptOK (w0 + 1) h0 l := hk
      have w1 := F.r.w1
      have h1 := F.r.h1
      have w16 := F.r.w16
      have h16 := F.r.h16
      cases ht : o.turned with
      | true =>
        rw [ht, if_pos rfl] at hk'
        rw [ht] at R'
        exact ⟨_, _, (again_rc R'.rc hk'.1 hk'.2.1).rect (by show 1 ≤ h0 + 1; omega) w1 (by show h0 + 1 ≤ 16; omega) w16⟩
      | false =>
        rw [ht, if_neg Bool.false_ne_true] at hk'
        rw [ht] at R'
        exact ⟨_, _, (again_rc R'.rc hk'.1 hk'.2.1).rect (by show 1 ≤ w0 + 1; omega) h1 (by show w0 + 1 ≤ 16; omega) h16⟩
    refine s_methX (Ps := [rPic K (seenP (tn o.turned) (Sq46.again (seenP (tn o.turned) g.p) o.seam o.pixels))]) (ea1 (ev_call (Sq46.again (seenP (tn o.turned) g.p) o.seam o.pixels, tn o.turned) (ea2 (ev_call (seenP (tn o.turned) g.p, (o.seam, o.pixels)) (ea2 (ev_call (g.p, tn o.turned) (ea2 (ev_rows T rfl pg2.gx q12) (ev_var (i := 3) rfl (mo en hu1))) ⟨w0, h0, F.r⟩) (ev_var (i := 4) rfl (mo en hu2))) ⟨by show (seenP (tn o.turned) g.p).length ≤ 16; rw [R'.hh]; exact R'.h16, fun r hr => by rw [R'.ww r hr]; exact R'.w16⟩) (ev_var (i := 3) rfl (mo en hu1))) R3)) rfl hx2 pg2.gx pg2.gh (picF_no _ _ (by decide +kernel) (by decide +kernel)) fun vs' G3 H3 g3 p3 => ?_
    obtain ⟨vp, rfl, hvp⟩ := args_1 p3
    rw [seen_tn, seen_tn] at hvp
    have pg3 := pg2.grow g3
    refine ⟨x, G3, g, _, o, l, vp, rfl, pg3, hg, hvp, wf', fun G4 H4 g4 pg4 => ?_⟩
    obtain ⟨dx4, vr4, vk4, hx4, q14, q24⟩ := pg4.ex
    exact s_retX (P := rL rInt [(l.length : Int)]) (ev_lst (ea1 ((ev_lenL (K := K) (ev_kept T rfl pg4.gx q24)).is (by show rNat l.reverse.length = rInt (l.length : Int); rw [List.length_reverse]))) (by show 1 ≤ sizeLine; decide)) hx4 pg4.gx pg4.gh fun v G5 H5 g5 p5 => k v G5 H5 (((g1.trans (g2.trans g3)).x.trans g4).trans g5.x) (pg4.grow g5) p5
/-! call_wider -/
theorem sc_call_wider : FnScope ["picture", "numbers", "colours", "turn", "many", "rows"] ["picture", "numbers", "colours"] (defScope (top 48)) := ⟨rfl, rfl, rfl, by decide +kernel, rfl, by decide +kernel, by decide +kernel⟩
theorem c_call_wider (d : Df K mg "call_wider" (top 48) ["picture", "numbers", "colours"]) (T : Txt2 K mg C aF aM aD ds) (c_is_turn : Cal P w K mg base 1 "is_turn" spIsTurn) (c_looked_at : Cal P w K mg base 3 "looked_at" (spLookedAt K)) (c_wide : Cal P w K mg base 1 "wide" (spWide K)) (c_widened : Cal P w K mg base 8 "widened" (spWidened K)) (m_show : Mtd P w K mg base 1 C "show" (spShow K C)) : Cal P w K mg base 9 "call_wider" (spDeed K C isWider) := by
  have sc := sc_call_wider
  refine mk_any d sc deed_len fun f cdv A outer s H E hr => ⟨_, (pss_cons (ps_asg (pv 1) (pg_lst rfl (pgs_cons (pg_name (i := 3) sc.nd rfl (by first | exact Or.inl rfl | exact Or.inr rfl)) (pgs_cons (pg_name (i := 4) sc.nd rfl (by first | exact Or.inl rfl | exact Or.inr rfl)) pgs_nil)))) (pss_cons (ps_if (pt_not (pt_val (pe_cal c_is_turn (hr.mono (by decide)) rfl (pa_cons (pv 3) pa_nil)))) (pss_one (ps_ret (pe_lst (pa_cons (pe_gint rfl T.CANNOT_BE) pa_nil)))) pss_nil) (pss_cons (ps_set (i := 5) sc.nd rfl (by first | exact Or.inl rfl | exact Or.inr rfl) (pe_cal c_looked_at (hr.mono (by decide)) rfl (pa_cons (pe_fld (pv 0) rfl) (pa_cons (pv 3) pa_nil)))) (pss_cons (ps_if (PW.pt (pw_or (pt_cmpR op_lt (pe_cal c_wide (hr.mono (by decide)) rfl (pa_cons (pv 5) pa_nil)) (pv 4) (nomark _)) (pw_or1 (pt_cmpR op_gt (pe_op op_add (pe_cal c_wide (hr.mono (by decide)) rfl (pa_cons (pv 5) pa_nil)) (pv 4)) (pe_gint rfl T.MOST_WIDE) (nomark _))))) (pss_one (ps_ret (pe_lst (pa_cons (pe_gint rfl T.NOT_SO) pa_nil)))) pss_nil) (pss_cons (ps_expr (pe_calM (pv 0) T.cl m_show (hr.mono (by decide)) (pa_cons (pe_cal c_looked_at (hr.mono (by decide)) rfl (pa_cons (pe_cal c_widened (hr.mono (by decide)) rfl (pa_cons (pv 5) (pa_cons (pv 4) pa_nil))) (pa_cons (pv 3) pa_nil))) pa_nil))) (pss_one (ps_ret (pe_lst (pa_cons (pe_op op_add (pe_cal c_wide (hr.mono (by decide)) rfl (pa_cons (pv 5) pa_nil)) (pv 4)) pa_nil))))))))), ?_⟩
  rintro vs Q ⟨x, v1, v2, G, g, nums, cols, c, rfl, pg, hn, hc, ⟨t, n, rfl, rfl⟩, k⟩
  obtain ⟨na, rfl, hna⟩ := nums_at hn
  have hs : House.step g (.wider t n) = if 1 < t then (g, says (-1)) else if (Sq46.seen (t == 1) g.p).wide < n ∨ Sq46.SIDE < (Sq46.seen (t == 1) g.p).wide + n then (g, says (-3)) else (⟨Sq46.seen (t == 1) (Sq46.wider (Sq46.seen (t == 1) g.p) n), []⟩, says (Sq46.wider (Sq46.seen (t == 1) g.p) n).wide) := rfl
  have hside : Sq46.SIDE = 16 := rfl
  rw [hside, seen_eq t g.p] at hs
  refine s_unp2 rfl (sqL_of (pg.gh _ _ hna)) ?_
  refine s_ifN (b := !decide (t ≤ 1)) (et_not (et_B (ev_call t (ea1 (ev_var (i := 3) (P := rNat t) rfl rfl)) trivial))) pg.gh (fun hb G1 H1 g1 => ?_) (fun hb G1 H1 g1 => ?_)
  · have hb : ¬ t ≤ 1 := by simpa using hb
    rw [hs, if_pos (by omega)] at k
    have pg1 := pg.grow g1
    exact s_ret (P := rL rInt [-1]) (ev_lst (ea1 (ev_int (n := -1))) (by show 1 ≤ sizeLine; decide)) pg1.gh fun v G2 H2 g2 p2 => k v G2 H2 (g1.trans g2).x (pg1.grow g2) p2
  · have hb : t ≤ 1 := by simpa using hb
    rw [hs, if_neg (by omega)] at k
    have pg1 := pg.grow g1
    obtain ⟨w0, h0, F⟩ := pg.wf
    have R' : Rect (swapW (t == 1) w0 h0) (swapH (t == 1) w0 h0) (seenP t g.p) := by rw [← seen_eq]; exact seen_rect F.r
    have hwide := R'.wide
    obtain ⟨dx, vr, vk, hx, q1, q2⟩ := pg1.ex
    refine s_asgX (P := rPic K (seenP t g.p)) (ev_call (g.p, t) (ea2 (ev_rows T rfl pg1.gx q1) (ev_var (i := 3) (P := rNat t) rfl rfl)) ⟨w0, h0, F.r⟩) hx pg1.gx pg1.gh fun v5 G2 H2 g2 p2 => ?_
    have pg2 := pg1.grow g2
    have evw : ∀ {σ : L2.St} {G5 : Hp}, σ[5]? = some (some v5) → Ex G2 G5 → EvR (tCall (spWide K) [] E0 (tCons (tVar 5) tNil)) σ G5 (rNat (seenP t g.p).wide) := fun a1 a2 => ev_call (seenP t g.p) (ea1 (ev_var a1 (mo a2 p2))) R'.ne
    refine s_ifN (b := decide (((seenP t g.p).wide : Int) < (n : Nat)) || decide ((16 : Int) < ((seenP t g.p).wide : Int) + (n : Nat))) (et_or (et_test (ev_I0 (evw rfl (Ex.refl _)) (ev_var (i := 4) (P := rNat n) rfl rfl))) fun _ => et_test (ev_I0 (ev_add (evw rfl (Ex.refl _)) (ev_var (i := 4) (P := rNat n) rfl rfl)) (ev_int (n := 16)))) pg2.gh (fun hb2 G3 H3 g3 => ?_) (fun hb2 G3 H3 g3 => ?_)
    · rw [if_pos (by simp at hb2; omega)] at k
      have pg3 := pg2.grow g3
      exact s_ret (P := rL rInt [-3]) (ev_lst (ea1 (ev_int (n := -3))) (by show 1 ≤ sizeLine; decide)) pg3.gh fun v G4 H4 g4 p4 => k v G4 H4 (g1.trans (g2.trans (g3.trans g4))).x (pg3.grow g4) p4
    · simp only [Bool.or_eq_false_iff, decide_eq_false_iff_not] at hb2
      rw [if_neg (by omega)] at k
      have hnw : n ≤ swapW (t == 1) w0 h0 := by
        rw [← hwide]
        omega
      have RW := widenP_rc R' hnw
      have RW' : Rect (swapW (t == 1) w0 h0 + n) (swapH (t == 1) w0 h0) (widenP (seenP t g.p) n) := RW.rect (by have := R'.w1; omega) R'.h1 (by rw [← hwide]; omega) R'.h16
      rw [wider_eq R' hnw, seen_eq, RW'.wide] at k
      have pg3 := pg2.grow g3
      obtain ⟨dx3, vr3, vk3, hx3, q13, q23⟩ := pg3.ex
      have en := Ex.new (o := HO.ins C dx3 (picF vr3 vk3)) pg3.gx
      refine s_methX (Ps := [rPic K (seenP t (widenP (seenP t g.p) n))]) (ea1 (ev_call (widenP (seenP t g.p) n, t) (ea2 (ev_call (seenP t g.p, n) (ea2 (ev_var (i := 5) rfl (mo (g3.gg.trans en) p2)) (ev_var (i := 4) (P := rNat n) rfl rfl)) ⟨_, _, R', hnw⟩) (ev_var (i := 3) (P := rNat t) rfl rfl)) ⟨_, _, RW'⟩)) rfl hx3 pg3.gx pg3.gh (picF_no _ _ (by decide +kernel) (by decide +kernel)) fun vs' G4 H4 g4 p4 => ?_
      obtain ⟨vp, rfl, hvp⟩ := args_1 p4
      have pg4 := pg3.grow g4
      have RS : ∃ w5 h5, Rect w5 h5 (seenP t (widenP (seenP t g.p) n)) := ⟨_, _, by rw [← seen_eq]; exact seen_rect RW'⟩
      obtain ⟨w5, h5, RS⟩ := RS
      refine ⟨x, G4, g, _, vp, rfl, pg4, hvp, ⟨w5, h5, RS, trivial, Nat.zero_le _⟩, fun G5 H5 g5 pg5 => ?_⟩
      exact s_ret (P := rL rInt [((swapW (t == 1) w0 h0 + n : Nat) : Int)]) (ev_lst (ea1 ((ev_add (evw rfl (g3.gg.trans (g4.gg.trans g5.gg))) (ev_var (i := 4) (P := rNat n) rfl rfl)).is (by rw [hwide]; rfl))) (by show 1 ≤ sizeLine; decide)) pg5.gh fun v G6 H6 g6 p6 => k v G6 H6 (((g1.trans (g2.trans (g3.trans g4))).x.trans g5).trans g6.x) (pg5.grow g6) p6
end
end LS
namespace LS
open PySem PySem.Spec PyProof.Rows L2
open Sq46 (Pixel Picture House Out_ says)
/-- the list that is handed in -/
def rQ (K : PySem.W.Frag) (l : List Int) : Pd := fun v G => ∃ a, v = .ref a ∧ SqL K G a (l.map V.int)
theorem ExD.sqL {K : PySem.W.Frag} {H H' : Hp} {a : Addr} {xs : List V} (e : ExD H H') (h : SqL K H a xs) : SqL K H' a xs := by
  rcases h with (h | ⟨o, h⟩) | h
  · exact Or.inl (Or.inl (e a _ h rfl))
  · exact Or.inl (Or.inr ⟨o, e a _ h rfl⟩)
  · exact Or.inr h
instance {K : PySem.W.Frag} {l : List Int} : Mp (rQ K l) := ⟨fun e ⟨a, h1, h2⟩ => ⟨a, h1, e.sqL h2⟩⟩
section
variable {K : PySem.W.Frag} {σ : L2.St} {G : Hp} {ta tb te : TE} {l : List Int}
theorem ev_ixQ {j : Nat} {z : Int} (ha : EvR ta σ G (rQ K l)) (hb : EvR tb σ G (rNat j)) (h : l[j]? = some z) : EvR (qIx K ta tb) σ G (rInt z) := ev_op ha hb fun x y G1 _ p1 p2 => by
  obtain ⟨a, rfl, h2⟩ := p1
  cases p2
  exact fun G2 H e1 e2 Q k => ⟨a, _, (j : Int), .int z, rfl, rfl, (e1.trans e2).sqL h2, atI_nat (by rw [List.getElem?_map, h]; rfl), k _ _ _ (Gr.refl e2) rfl⟩
theorem args_ints : ∀ (l : List Int) (G : Hp), Args (l.map rInt) (l.map V.int) G
  | [], _ => .nil
  | _ :: l, G => .cons rfl (args_ints l G)
theorem ev_sliceQ {tl th : TO} {lo hi : Option Int} (ha : EvR te σ G (rQ K l)) (hl : EvO tl σ G lo) (hh : EvO th σ G hi) : EvR (qSl K te tl th) σ G (rL rInt (cut l lo hi)) := fun G0 H a b Q k =>
  ha G0 H a b _ fun x G1 H1 g1 p1 => hl G1 H1 (a.trans g1.gg) g1.gh _ fun G2 H2 g2 => hh G2 H2 (a.trans (g1.gg.trans g2.gg)) g2.gh _ fun G3 H3 g3 => by
    obtain ⟨p, rfl, h2⟩ := p1
    have g13 := g2.trans g3
    refine ⟨p, _, rfl, (g1.gh.trans g13.hh).sqL h2, fun q hq => k _ _ _ (g1.trans (g13.trans (Gr.new g3.gh hq))) ⟨q, _, rfl, upd_same, ?_⟩⟩
    have e : cutV (l.map V.int) lo hi = (cut l lo hi).map V.int := cut_map V.int l lo hi
    rw [e]
    exact args_ints _ _
theorem ev_lenQ (h : EvR te σ G (rQ K l)) : EvR (qLen K te) σ G (rNat l.length) := fun G0 H a b Q k => h G0 H a b _ fun v G1 H1 g1 p1 => by
  obtain ⟨p, rfl, h2⟩ := p1
  exact ⟨p, _, rfl, Or.inl (g1.gh.sqL h2), k _ _ _ g1 (by rw [List.length_map]; rfl)⟩
end
theorem rl_toI (ns : List Nat) : rL rInt (toI ns) = rL rNat ns := by
  show rLs ((toI ns).map rInt) = rLs (ns.map rNat)
  unfold toI
  rw [List.map_map]
  rfl
structure CA where
  l : List Int
  pl : Nat
  p : Int
  r : List Int
  t : List Int
  j : Nat
  ns : List Nat
  rw : List Nat
section
variable {P : Program} {w : World} {K : PySem.W.Frag} {mg : Str → Option Value} {base : Heap} {C aF aM aD : Addr} {ds : List Addr}
abbrev spCallAt (K : PySem.W.Frag) : Sp := PureF (fun (x : CA) => [rQ K x.l, rNat x.pl]) (fun x => x.l.drop x.pl = x.p :: x.r ∧ CallIs x.p x.r x.t x.j x.ns x.rw) (fun x => rT K [rNat x.j, rL rNat x.ns, rL rNat x.rw, rNat (x.l.length - x.t.length)])
theorem drop_more {l r : List Int} {p : Int} {pl : Nat} (h : l.drop pl = p :: r) : l.drop (pl + 1) = r := by
  rw [← List.drop_drop, h]
  rfl
theorem drop_head {l r : List Int} {p : Int} {pl : Nat} (h : l.drop pl = p :: r) : l[pl]? = some p := by
  have := List.getElem?_drop (xs := l) (i := pl) (j := 0)
  rw [h, Nat.add_zero] at this
  rw [← this]
  rfl
theorem sc_call_at : FnScope ["calls", "place", "word", "begin", "end", "behind"] ["calls", "place"] (defScope (top 3)) := ⟨rfl, rfl, rfl, by decide +kernel, rfl, by decide +kernel, by decide +kernel⟩
theorem c_call_at (d : Df K mg "call_at" (top 3) ["calls", "place"]) (T : Txt2 K mg C aF aM aD ds) : Cal P w K mg base 1 "call_at" (spCallAt K) := by
  have sc := sc_call_at
  refine mk_pure d sc (fun _ => rfl) fun f cdv A outer s H E hr => ⟨_, (pss_cons (ps_set (i := 2) sc.nd rfl (by first | exact Or.inl rfl | exact Or.inr rfl) (pe_op op_sub (pe_ix ix_list (pv 0) (pv 1) (fun _ _ => rfl)) pe_int)) (pss_cons (ps_set (i := 3) sc.nd rfl (by first | exact Or.inl rfl | exact Or.inr rfl) (pe_op op_add (pv 1) pe_int)) (pss_cons (ps_set (i := 4) sc.nd rfl (by first | exact Or.inl rfl | exact Or.inr rfl) (pe_op op_add (pv 3) (pe_ix ix_tup (pe_gref rfl T.MANY_NUMBERS) (pv 2) (fun _ _ => rfl)))) (pss_cons (ps_if (pt_cmpR op_ne (pv 2) (pe_gint rfl T.WITH_A_LIST) (nomark _)) (pss_one (ps_ret (pe_tup (pa_cons (pv 2) (pa_cons (pe_slice sl_list (pv 0) (po_some (pv 3)) (po_some (pv 4))) (pa_cons (pe_lst pa_nil) (pa_cons (pv 4) pa_nil))))))) pss_nil) (pss_cons (ps_set (i := 5) sc.nd rfl (by first | exact Or.inl rfl | exact Or.inr rfl) (pe_op op_add (pe_op op_add (pv 4) pe_int) (pe_ix ix_list (pv 0) (pv 4) (fun _ _ => rfl)))) (pss_one (ps_ret (pe_tup (pa_cons (pv 2) (pa_cons (pe_slice sl_list (pv 0) (po_some (pv 3)) (po_some (pv 4))) (pa_cons (pe_slice sl_list (pv 0) (po_some (pe_op op_add (pv 4) pe_int)) (po_some (pv 5))) (pa_cons (pv 5) pa_nil)))))))))))), ?_⟩
  rintro ⟨l, pl, p, r, t, j, ns, rw'⟩ vs G H Q ⟨hd, CI⟩ ha e k
  obtain ⟨v, u, rfl, q0, q1⟩ := args2 ha
  replace hd : l.drop pl = p :: r := hd
  replace CI : CallIs p r t j ns rw' := CI
  replace q0 : rQ K l v G := q0
  replace q1 : rNat pl u G := q1
  have hd1 := drop_more hd
  have hll : l.length = pl + 1 + r.length := by
    have h1 := congrArg List.length hd
    rw [List.length_drop, List.length_cons] at h1
    omega
  refine s_asg (P := rNat j) ((ev_sub (ev_ixQ (ev_var rfl q0) (ev_var rfl q1) (drop_head hd)) (ev_int (n := 1))).is (by rw [CI.hp]; show rInt _ = rInt _; congr 1; omega)) e fun u2 G1 H1 g1 p1 => ?_
  refine s_asg (P := rNat (pl + 1)) ((ev_add (ev_var rfl (mo g1.gg q1)) (ev_int (n := 1))).is rfl) g1.gh fun u3 G2 H2 g2 p2 => ?_
  have g12 := g1.trans g2
  have hMN : ∀ {σ : L2.St} {G : Hp}, EvR (tC (.ref aM)) σ G (rT K (manyN.map rNat)) := ev_c ⟨aM, _, rfl, T.tM _, args_nats manyN _⟩
  refine s_asg (P := rNat (pl + 1 + ns.length)) ((ev_add (ev_var rfl p2) (ev_ixT (Ps := manyN.map rNat) hMN (ev_var rfl (mo g2.gg p1)) (atI_nat (map_ix (R := rNat) CI.len)))).is (by show rInt _ = rInt _; congr 1)) g12.gh fun u4 G3 H3 g3 p3 => ?_
  have g13 := g12.trans g3
  have evn : ∀ {σ : L2.St} {G4 : Hp}, σ[0]? = some (some v) → σ[3]? = some (some u3) → σ[4]? = some (some u4) → Ex G3 G4 → r.take ns.length = toI ns → EvR (qSl K (tVar 0) (tPart (tVar 3)) (tPart (tVar 4))) σ G4 (rL rNat ns) := fun a1 a2 a3 a4 a5 =>
    (ev_sliceQ (ev_var a1 (mo (g13.gg.trans a4) q0)) (eo_some (ev_var a2 (mo (g3.gg.trans a4) p2))) (eo_some (ev_var a3 (mo a4 p3)))).is (by rw [cut_both, hd1, Nat.add_sub_cancel_left, a5, rl_toI])
  refine s_ifN (b := !decide ((j : Int) = 0)) (et_test (ev_ne (ev_var rfl (mo (g2.gg.trans g3.gg) p1)) (ev_int (n := 0)))) g13.gh (fun hb G4 H4 g4 => ?_) (fun hb G4 H4 g4 => ?_)
  · have hb : ¬ j = 0 := by
      simp at hb
      omega
    obtain ⟨_, hrw, hr⟩ : j ≠ 0 ∧ rw' = [] ∧ r = toI ns ++ t := CI.txt.resolve_left fun z => hb z.1
    have hrl : r.length = ns.length + t.length := by rw [hr, List.length_append]; unfold toI; rw [List.length_map]
    have htk : r.take ns.length = toI ns := by
      rw [hr]
      exact List.take_left' (by unfold toI; rw [List.length_map])
    have e5 : l.length - t.length = pl + 1 + ns.length := by omega
    refine s_ret (P := rT K [rNat j, rL rNat ns, rL rNat rw', rNat (l.length - t.length)]) (ev_tup (ea_cons (ev_var rfl (mo (g2.gg.trans (g3.gg.trans g4.gg)) p1)) (ea3 (evn rfl rfl rfl g4.gg htk) ((ev_lst ea_nil (Nat.zero_le _)).is (by rw [hrw]; rfl)) ((ev_var rfl (mo g4.gg p3)).is (by rw [e5])))) (by show 4 ≤ sizeLine; decide)) g4.gh fun v' G5 H5 g5 p5 => k v' G5 H5 (g13.trans (g4.trans g5)) p5
  · have hb : j = 0 := by
      simp at hb
      omega
    obtain ⟨_, hr⟩ : j = 0 ∧ r = toI ns ++ ((rw'.length : Int) :: (toI rw' ++ t)) := CI.txt.resolve_right fun z => z.1 hb
    have hrl : r.length = ns.length + (rw'.length + t.length + 1) := by rw [hr, List.length_append, List.length_cons, List.length_append]; unfold toI; rw [List.length_map, List.length_map]
    have htk : r.take ns.length = toI ns := by
      rw [hr]
      exact List.take_left' (by unfold toI; rw [List.length_map])
    have hd2 : l.drop (pl + 1 + ns.length) = (rw'.length : Int) :: (toI rw' ++ t) := by
      rw [← List.drop_drop, hd1, hr]
      exact List.drop_left' (by unfold toI; rw [List.length_map])
    have hd3 := drop_more hd2
    have g14 := g13.trans g4
    refine s_asg (P := rNat (pl + 1 + ns.length + 1 + rw'.length)) ((ev_add (ev_add (ev_var rfl (mo g4.gg p3)) (ev_int (n := 1))) (ev_ixQ (ev_var rfl (mo g14.gg q0)) (ev_var rfl (mo g4.gg p3)) (drop_head hd2))).is (by show rInt _ = rInt _; congr 1)) g14.gh fun u5 G5 H5 g5 p5 => ?_
    have e5 : l.length - t.length = pl + 1 + ns.length + 1 + rw'.length := by omega
    have evr : EvR (qSl K (tVar 0) (tPart (qAdd (tVar 4) (tC (.int 1)))) (tPart (tVar 5))) [some v, some u, some u2, some u3, some u4, some u5] G5 (rL rNat rw') :=
      (ev_sliceQ (ev_var rfl (mo (g14.gg.trans g5.gg) q0)) (eo_some ((ev_add (ev_var rfl (mo (g4.gg.trans g5.gg) p3)) (ev_int (n := 1))).is (P' := rNat (pl + 1 + ns.length + 1)) rfl)) (eo_some (ev_var rfl p5))).is (by
        rw [cut_both, hd3, Nat.add_sub_cancel_left, List.take_left' (by unfold toI; rw [List.length_map]), rl_toI])
    refine s_ret (P := rT K [rNat j, rL rNat ns, rL rNat rw', rNat (l.length - t.length)]) (ev_tup (ea_cons (ev_var rfl (mo (g2.gg.trans (g3.gg.trans (g4.gg.trans g5.gg))) p1)) (ea3 (evn rfl rfl rfl (g4.gg.trans g5.gg) htk) evr ((ev_var rfl p5).is (by rw [e5])))) (by show 4 ≤ sizeLine; decide)) g5.gh fun v' G6 H6 g6 p6 => k v' G6 H6 (g14.trans (g5.trans g6)) p6
end
end LS
namespace LS
open PySem PySem.Spec PyProof.Rows L2
open Sq46 (Pixel Picture House Out_ says)
/-! ### which def answers which call -/
def deedS (K : PySem.W.Frag) (C : Addr) (ds : List Addr) (f : Addr) : Option Sp := ((ds.zip (isJ.map (spDeed K C))).find? fun q => q.1 == f).map fun q => q.2
theorem find_zip {β : Type} : ∀ {a : List Addr} {b : List β} {j : Nat} {x : Addr} {y : β}, a.Nodup → a[j]? = some x → b[j]? = some y → (a.zip b).find? (fun q => q.1 == x) = some (x, y)
  | [], _, _, _, _, _, h, _ => by cases h
  | _ :: _, [], _, _, _, _, _, h => by cases h
  | c :: a, d :: b, 0, x, y, _, h, h' => by
    have e : c = x := Option.some.inj h
    have e' : d = y := Option.some.inj h'
    subst e e'
    show List.find? _ ((c, d) :: a.zip b) = _
    rw [List.find?_cons]
    simp
  | c :: a, d :: b, j + 1, x, y, nd, h, h' => by
    have nd' := List.nodup_cons.mp nd
    have hx : a[j]? = some x := h
    have hne : c ≠ x := fun z => nd'.1 (by rw [z]; exact List.mem_of_getElem? hx)
    show List.find? _ ((c, d) :: a.zip b) = _
    have hb : ((c, d).1 == x) = false := by
      show (c == x) = false
      exact beq_eq_false_iff_ne.mpr hne
    rw [List.find?_cons, hb]
    exact find_zip nd'.2 hx h'
theorem deedS_at {K : PySem.W.Frag} {C : Addr} {ds : List Addr} {j : Nat} {f : Addr} {Is : List Nat → List Nat → Sq46.Call → Prop} (nd : ds.Nodup) (hj : ds[j]? = some f) (hi : isJ[j]? = some Is) : deedS K C ds f = some (spDeed K C Is) := by
  unfold deedS
  rw [find_zip (y := spDeed K C Is) nd hj (by rw [List.getElem?_map, hi]; rfl)]
  rfl
theorem deedS_mem {K : PySem.W.Frag} {C : Addr} {ds : List Addr} {f : Addr} {sp : Sp} (h : deedS K C ds f = some sp) : ∃ (j : Nat) (Is : List Nat → List Nat → Sq46.Call → Prop), ds[j]? = some f ∧ isJ[j]? = some Is ∧ sp = spDeed K C Is := by
  unfold deedS at h
  cases hf : (ds.zip (isJ.map (spDeed K C))).find? (fun q => q.1 == f) with
  | none =>
    rw [hf] at h
    cases h
  | some q =>
    rw [hf] at h
    have e : q.2 = sp := Option.some.inj h
    have h0 := List.find?_some (p := fun (q : Addr × Sp) => q.1 == f) (a := q) hf
    have h1 : q.1 = f := eq_of_beq h0
    obtain ⟨j, hj⟩ := List.mem_iff_getElem?.mp (List.mem_of_find?_eq_some hf)
    obtain ⟨h2, h3⟩ := List.getElem?_zip_eq_some.mp hj
    rw [List.getElem?_map] at h3
    cases hi : isJ[j]? with
    | none =>
      rw [hi] at h3
      cases h3
    | some Is =>
      rw [hi] at h3
      exact ⟨j, Is, by rw [h2, h1], hi, by rw [← e]; exact (Option.some.inj h3).symm⟩
theorem rest_len {all s told : List Int} {g : House} (R : Rest all s told g) : told.length ≤ all.length := by
  obtain ⟨f, raw, _, _, h⟩ := R.ex
  rw [← h, List.length_append]
  exact Nat.le_add_right _ _
section
variable {P : Program} {w : World} {K : PySem.W.Frag} {mg : Str → Option Value} {base : Heap} {C aF aM aD : Addr} {ds : List Addr}
theorem held_of {k : Nat} {x : Str} {sp : Sp} {f : Addr} (c : Cal P w K mg base k x sp) (hm : mg x = some (.ref f)) (hk : k ≤ 9) : Held P w K mg base 9 f sp := by
  obtain ⟨f', fd, ps, F, hm', hkp, hb⟩ := c.ex
  rw [hm] at hm'
  cases hm'
  exact ⟨fd, ps, F.mono hk, hkp, hb⟩
theorem gT4 {σ : L2.St} {H : Hp} {a b d e : V} {na : Addr} {i1 i2 i3 i4 : Nat} {Q : L2.St → Hp → Prop} (ha : SqT K H na [a, b, d, e]) (k : Q ((((σ.set i1 (some a)).set i2 (some b)).set i3 (some d)).set i4 (some e)) H) : gTup K 4 (gCons (gName i1) (gCons (gName i2) (gCons (gName i3) (gCons (gName i4) gNil)))) (.ref na) σ H Q := ⟨na, _, rfl, ha, rfl, _, _, rfl, _, _, rfl, _, _, rfl, _, _, rfl, rfl, k⟩
theorem PicG.put {G H : Hp} {x l : Addr} {g : House} {o : HO} (pg : PicG K C G H x g) (gl : G l = none) (hne : x ≠ l) : PicG K C G (upd H l o) x g := by
  obtain ⟨dx, vr, vk, h1, h2, h3⟩ := pg.ex
  exact ⟨⟨dx, vr, vk, by rw [upd_ne hne]; exact h1, h2, h3⟩, pg.gx, pg.gh.mut gl, pg.wf⟩
def spAns (K : PySem.W.Frag) : Sp := fun vs H Q _ => ∃ (a : Addr) (ns : List Int), vs = [.ref a] ∧ SqL K H a (ns.map V.int) ∧ PySq46.answers_asked ns = true ∧ ∀ (H' : Hp) (p : Addr), H' p = some (.lst ((PySq46.answers ns).map V.int)) → Q (.ref p) H'
/-- between two calls -/
def AW (K : PySem.W.Frag) (C : Addr) (l : List Int) (v : V) (x lf : Addr) (m : Nat) (σ : L2.St) (H : Hp) : Prop := ∃ (G : Hp) (g : House) (acc : List Int) (pl : Nat) (o4 o5 o6 o7 o8 : Option V), m = l.length - pl ∧ PicG K C G H x g ∧ G lf = none ∧ H lf = some (.lst (acc.map V.int)) ∧ rQ K l v G ∧
  Rest (PySq46.answers l) (l.drop pl) acc g ∧ σ = [some v, some (.ref x), some (.ref lf), some (.int (pl : Nat)), o4, o5, o6, o7, o8]
theorem args_refs : ∀ (ds : List Addr) (G : Hp), Args (ds.map fun a => (fun v _ => v = V.ref a)) (ds.map V.ref) G
  | [], _ => .nil
  | _ :: ds, G => .cons rfl (args_refs ds G)
theorem sc_answers : FnScope ["calls", "picture", "found", "place", "word", "numbers", "some", "deed", "told"] ["calls"] (defScope (top 57)) := ⟨rfl, rfl, rfl, by decide +kernel, rfl, by decide +kernel, by decide +kernel⟩
theorem mk_fn {x : Str} {st : Stmt} {ps N : List Str} {k : Nat} {sp : Sp} {f : Addr} {fd : FuncData} (F : Fun K x x st f fd) (S : FnScope N ps (defScope st)) (hl : ∀ vs H Q E, sp vs H Q E → vs.length = ps.length)
    (body : ∀ (f : Addr) (cdv : Value) (A : Around) (outer : List Env) (s : Shared) (H : Hp) (E : XK), Room k (A.deeper (envOfC x (defScope st) s.heap.objs.size f cdv)) →
      ∃ t : TS, PSs (cxOf CX0 P w K mg base N x (defScope st) f cdv A outer s H E).nox (defBody st) t ∧ ∀ vs Q, sp vs H Q E → t { nx := fun _ H' => Q .non H', rt := Q } (start N vs) H) : FnOk P w K mg base CX0 (k + 1) f fd ps sp := by
  refine F.ok S hl fun cdv A outer s H vs Q E hr h => ?_
  obtain ⟨t, h1, h2⟩ := body f cdv A outer s H E hr
  exact ⟨t, h1, h2 vs Q h⟩
theorem c_answers {fa : Addr} {fda : FuncData} (d : Fun K "answers" "answers" (top 57) fa fda) (T : Txt2 K mg C aF aM aD ds) (m_init : Mak P w K mg base 1 C (spInit K C)) (c_call_at : Cal P w K mg base 1 "call_at" (spCallAt K)) (HELD : ∀ f sp, deedS K C ds f = some sp → Held P w K mg base 9 f sp) (nd : ds.Nodup) (hds : ds.length = 9) : FnOk P w K mg base CX0 10 fa fda ["calls"] (spAns K) := by
  have sc := sc_answers
  refine mk_fn d sc (fun vs H Q E h => ?_) fun f cdv A outer s H E hr => ⟨_, (pss_cons (ps_set (i := 1) sc.nd rfl (by first | exact Or.inl rfl | exact Or.inr rfl) (pe_mak m_init (hr.mono (by decide)) rfl T.Picture)) (pss_cons (ps_set (i := 2) sc.nd rfl (by first | exact Or.inl rfl | exact Or.inr rfl) (pe_lst pa_nil)) (pss_cons (ps_set (i := 3) sc.nd rfl (by first | exact Or.inl rfl | exact Or.inr rfl) pe_int) (pss_cons (ps_while PassesOwn.never (pt_cmpR op_lt (pv 3) (pe_callB call_len_seq (by rfl) T.len PySem.boot_len (pa_cons (pv 0) pa_nil)) (nomark _)) (pss_cons (ps_asg (pe_cal c_call_at (hr.mono (by decide)) rfl (pa_cons (pv 0) (pa_cons (pv 3) pa_nil))) (pg_tup rfl (pgs_cons (pg_name (i := 4) sc.nd rfl (by first | exact Or.inl rfl | exact Or.inr rfl)) (pgs_cons (pg_name (i := 5) sc.nd rfl (by first | exact Or.inl rfl | exact Or.inr rfl)) (pgs_cons (pg_name (i := 6) sc.nd rfl (by first | exact Or.inl rfl | exact Or.inr rfl)) (pgs_cons (pg_name (i := 3) sc.nd rfl (by first | exact Or.inl rfl | exact Or.inr rfl)) pgs_nil)))))) (pss_cons (ps_set (i := 7) sc.nd rfl (by first | exact Or.inl rfl | exact Or.inr rfl) (pe_ix ix_tup (pe_gref rfl T.DEEDS) (pv 4) (fun _ _ => rfl))) (pss_cons (ps_set (i := 8) sc.nd rfl (by first | exact Or.inl rfl | exact Or.inr rfl) (pe_callA HELD (hr.mono (by decide)) (i := 7) rfl (Or.inl rfl) (pa_cons (pv 1) (pa_cons (pv 5) (pa_cons (pv 6) pa_nil))))) (pss_one (ps_expr (pe_bm PySem.F.plainAttrs_list PySem.F.slot_list_extend PySem.F.type_list_extend mt_extend (pv 2) (pa_cons (pe_op op_cat (pe_lst (pa_cons (pe_callB call_len_seq (by rfl) T.len PySem.boot_len (pa_cons (pv 8) pa_nil)) pa_nil)) (pv 8)) pa_nil)))))))) (pss_one (ps_ret (pv 2))))))), ?_⟩
  · obtain ⟨a, ns, rfl, _⟩ := h
    rfl
  rintro vs Q ⟨a, l, rfl, hl, hask, k⟩
  obtain ⟨R0, hlen⟩ := rest_start hask
  -- picture = Picture()
  intro x dx nx ndx nex
  have e0 : Ex H (upd (upd H dx (.own x)) x (.ins C dx [])) := (Ex.new ndx).trans (fun b o q => by
    by_cases hb : b = x
    · subst hb
      rw [upd_ne (fun z => nex z.symm), nx] at q
      cases q
    · rw [upd_ne hb]
      exact q)
  refine ⟨x, dx, H, rfl, upd_same, e0, nx, fun G1 H1 g1 pg1 => ⟨rfl, ?_⟩⟩
  -- found = []
  refine s_new ea_nil pg1.gh (Nat.zero_le _) fun vs G2 H2 lf g2 p2 hl2 => ?_
  cases p2
  have pg2 := pg1.grow g2
  have hxl : x ≠ lf := by
    obtain ⟨dx', vr, vk, hx, _⟩ := pg2.ex
    exact ne_of_none hx hl2
  have gl2 : G2 lf = none := pg2.gh.free hl2
  have pg3 : PicG K C G2 (upd H2 lf (.lst [])) x Sq46.fresh := pg2.put gl2 hxl
  -- place = 0
  refine s_asg (P := rInt 0) (ev_int (n := 0)) pg3.gh fun v0 G4 H4 g4 p4 => ?_
  cases p4
  have pg4 := pg3.grow g4
  have hlf4 : H4 lf = some (.lst []) := g4.hh _ _ upd_same
  have gl4 : G4 lf = none := g4.out lf gl2 (by rw [upd_same]; exact fun z => nomatch z)
  have rq : rQ K l (.ref a) G4 := ⟨a, rfl, (g1.gg.trans (g2.gg.trans g4.gg)).sqL hl⟩
  -- while
  refine ⟨AW K C l (.ref a) x lf, ⟨l.length, G4, Sq46.fresh, [], 0, none, none, none, none, none, rfl, pg4, gl4, hlf4, rq, by rw [List.drop_zero]; exact R0, rfl⟩, ?_⟩
  rintro m σ' H5 ⟨G5, g, acc, pl, o4, o5, o6, o7, o8, rfl, pg5, gl5, hlf5, rq5, R5, rfl⟩
  refine EvT.run (b := decide ((pl : Int) < (l.length : Int))) (et_test (ev_I0 (ev_var (i := 3) (P := rNat pl) rfl rfl) (ev_lenQ (ev_var (i := 0) rfl rq5)))) pg5.gh fun G6 H6 g6 => ?_
  have pg6 := pg5.grow g6
  have hlf6 : H6 lf = some (.lst (acc.map V.int)) := g6.hh _ _ hlf5
  have gl6 : G6 lf = none := g6.out lf gl5 (by rw [hlf5]; exact fun z => nomatch z)
  have rq6 := mo g6.gg rq5
  by_cases hc : (pl : Int) < (l.length : Int)
  · rw [decide_eq_true hc]
    refine iteT ⟨fun σ' H' => ∃ m', m' < l.length - pl ∧ AW K C l (.ref a) x lf m' σ' H', fun _ _ h => h, ?_⟩
    have hpl : pl < l.length := by omega
    obtain ⟨p, r, hd⟩ : ∃ p r, l.drop pl = p :: r := ⟨l[pl], l.drop (pl + 1), List.drop_eq_getElem_cons hpl⟩
    rw [hd] at R5
    obtain ⟨j, ns, rw', Is, c, t, CI, hIs, his, R6⟩ := rest_step R5
    have hjl : j < 9 := (List.getElem?_eq_some_iff.mp hIs).1
    obtain ⟨fj, hfj⟩ : ∃ fj, ds[j]? = some fj := ⟨_, List.getElem?_eq_getElem (by omega)⟩
    have hll : l.length = pl + 1 + r.length := by
      have h1 := congrArg List.length hd
      rw [List.length_drop, List.length_cons] at h1
      omega
    have htl : t.length ≤ r.length := by
      rcases CI.txt with ⟨_, z⟩ | ⟨_, _, z⟩
      · rw [z, List.length_append, List.length_cons, List.length_append]
        omega
      · rw [z, List.length_append]
        omega
    have hdt : l.drop (l.length - t.length) = t := by
      have h1 : l.drop (pl + 1) = r := drop_more hd
      have h2 : r.drop (r.length - t.length) = t := by
        rcases CI.txt with ⟨_, z⟩ | ⟨_, _, z⟩
        · have e3 : r = (toI ns ++ ((rw'.length : Int) :: toI rw')) ++ t := by rw [z, List.append_assoc]; rfl
          rw [e3]
          exact List.drop_left' (by rw [List.length_append (bs := t)]; omega)
        · rw [z]
          exact List.drop_left' (by rw [List.length_append]; omega)
      rw [show l.length - t.length = (pl + 1) + (r.length - t.length) by omega, ← List.drop_drop, h1, h2]
    -- word, numbers, some, place = call_at(calls, place)
    refine s_asgG (P := rT K [rNat j, rL rNat ns, rL rNat rw', rNat (l.length - t.length)]) (ev_call (CA.mk l pl p r t j ns rw') (ea2 (ev_var (i := 0) rfl rq6) (ev_var (i := 3) (P := rNat pl) rfl rfl)) ⟨hd, CI⟩) pg6.gh fun vt G7 H7 g7 p7 => ?_
    obtain ⟨aa, us, rfl, sa, hus⟩ := p7
    obtain ⟨u1, u2, u3, u4, rfl, hu1, hu2, hu3, hu4⟩ := args4 hus
    cases hu4
    have pg7 := pg6.grow g7
    have hlf7 : H7 lf = some (.lst (acc.map V.int)) := g7.hh _ _ hlf6
    have gl7 : G7 lf = none := g7.out lf gl6 (by rw [hlf6]; exact fun z => nomatch z)
    refine gT4 (g7.gh.sqT sa) ?_
    -- deed = DEEDS[word]
    have hDD : ∀ {σ : L2.St} {G : Hp}, EvR (tC (.ref aD)) σ G (rT K (ds.map fun a => (fun v _ => v = V.ref a))) := ev_c ⟨aD, _, rfl, T.tD _, args_refs ds _⟩
    refine s_asg (P := fun v _ => v = V.ref fj) (ev_ixT (Ps := ds.map fun a => (fun v _ => v = V.ref a)) hDD (ev_var (i := 4) rfl hu1) (atI_nat (by rw [List.getElem?_map, hfj]; rfl))) g7.gh fun vd G8 H8 g8 p8 => ?_
    cases p8
    have pg8 := pg7.grow g8
    have hlf8 : H8 lf = some (.lst (acc.map V.int)) := g8.hh _ _ hlf7
    have gl8 : G8 lf = none := g8.out lf gl7 (by rw [hlf7]; exact fun z => nomatch z)
    -- told = deed(picture, numbers, some)
    refine ⟨fj, spDeed K C Is, rfl, deedS_at nd hfj hIs, EvA.run (ea3 (ev_var (i := 1) (P := fun v _ => v = V.ref x) rfl rfl) (ev_var (i := 5) rfl (mo g8.gg hu2)) (ev_var (i := 6) rfl (mo g8.gg hu3))) pg8.gh fun vs' G9 H9 g9 p9 => ?_⟩
    obtain ⟨w1, w2, w3, rfl, hw1, hw2, hw3⟩ := args3 p9
    cases hw1
    have pg9 := pg8.grow g9
    have hlf9 : H9 lf = some (.lst (acc.map V.int)) := g9.hh _ _ hlf8
    have gl9 : G9 lf = none := g9.out lf gl8 (by rw [hlf8]; exact fun z => nomatch z)
    refine ⟨x, w2, w3, G9, g, ns, rw', c, rfl, pg9, hw2, hw3, his, fun v G10 H10 g10 pg10 p10 => ?_⟩
    have hlf10 : H10 lf = some (.lst (acc.map V.int)) := g10.hh _ _ hlf9 hxl.symm
    have gl10 : G10 lf = none := g10.out lf gl9 (by rw [hlf9]; exact fun z => nomatch z)
    generalize hans : (House.step g c).2.value :: (House.step g c).2.out = ans at p10 R6
    have hal := rest_len R6
    rw [List.length_append, List.length_cons] at hal
    -- found.extend([len(told)] + told)
    have hcat := ev_cat (σ := [some (.ref a), some (.ref x), some (.ref lf), some (.int ((l.length - t.length : Nat) : Int)), some u1, some u2, some u3, some (.ref fj), some v]) (ev_lst (ea1 (ev_lenL (K := K) (ev_var (i := 8) rfl p10))) (by show 1 ≤ sizeLine; decide)) (ev_var (i := 8) rfl p10) (by show 1 + _ ≤ sizeLine; rw [List.length_map]; exact Nat.le_trans (show _ ≤ 10000000 by omega) (by decide))
    refine ⟨_, rfl, Or.inl ⟨rfl, _, sqL_of hlf10⟩, EvR.run hcat pg10.gh fun vz G11 H11 g11 p11 => ?_⟩
    obtain ⟨b, zs, rfl, hb1, hb2⟩ := p11
    have pg11 := pg10.grow g11
    have hlf11 : H11 lf = some (.lst (acc.map V.int)) := g11.hh _ _ hlf10
    have gl11 : G11 lf = none := g11.out lf gl10 (by rw [hlf10]; exact fun z => nomatch z)
    have hzs : zs = (((ans.length : Nat) : Int) :: ans).map V.int := by
      have key : ∀ (l : List Int) (zs : List V) (G : Hp), Args (l.map rInt) zs G → zs = l.map V.int := fun l => by
        induction l with
        | nil =>
          intro zs G h
          cases h
          rfl
        | cons z l ih =>
          intro zs G h
          cases h with
          | cons h t =>
            cases h
            rw [ih _ _ t]
            rfl
      exact key _ _ _ hb2
    subst hzs
    refine ⟨lf, b, _, _, rfl, rfl, hlf11, g11.gh _ _ hb1, by rw [List.length_map, List.length_map, List.length_cons]; exact Nat.le_trans (show _ ≤ 10000000 by omega) (by decide), ?_⟩
    refine ⟨l.length - (l.length - t.length), by omega, G11, (House.step g c).1, acc ++ (((ans.length : Nat) : Int) :: ans), l.length - t.length, _, _, _, _, _, rfl, pg11.put gl11 hxl, gl11, by rw [upd_same, List.map_append], mo (g7.gg.trans (g8.gg.trans (g9.gg.trans (g10.gg.trans g11.gg)))) rq6, by rw [hdt]; exact R6, rfl⟩
  · rw [decide_eq_false hc]
    have hnil : l.drop pl = [] := List.drop_eq_nil_of_le (by omega)
    rw [hnil] at R5
    have hacc := rest_end R5
    subst hacc
    exact iteF ⟨_, rfl, k H6 lf hlf6⟩
end
end LS
set_option maxHeartbeats 8000000
/-! What the top has left, and the end. Printed by genhead.py. -/
namespace LS
open PySem PySem.Spec PyProof.Rows L2
open PySem.W (Codec)
theorem df_mk {K : PySem.W.Frag} {h : Heap} {mg : Str → Option Value} {x : Str} {st : Stmt} {ps : List Str} {f : Addr} {od an : Option Addr} {sl : Array (Option Value)} {oc kV dc pm cd ct : Value} (X : K.In h) (G : h.Ns mainGlobals mg) (a : PySem.W.nsIn K mainGlobals x = some (some (.ref f)))
    (l : K.lookup f = some ⟨oc, od, .func (PySem.W.fnOf x x (defArgs st) (defBody st) (defScope st) .none kV dc pm an cd ct), sl⟩) (c : PySem.W.codeIn K cd x = true) (k : PySem.W.keepIn K (.ref f) = true)
    (hb : ∀ (kV doc pm : Value) (an : Option Addr) (cdv ct : Value) (us : List Value), us.length = ps.length → bindArgs (PySem.W.fnOf x x (defArgs st) (defBody st) (defScope st) .none kV doc pm an cdv ct) ⟨us, []⟩ = pure (ps.zip us)) : Df K mg x st ps :=
  ⟨f, _, fun_mk (st := st) l c k, PySem.W.mg_of X G a, (fun_mk (st := st) l c k).binds hb⟩
theorem dm_mk {K : PySem.W.Frag} {C : Addr} {m q : Str} {st : Stmt} {ps : List Str} {f : Addr} {od an : Option Addr} {sl : Array (Option Value)} {oc kV dc pm cd ct : Value} (a : PySem.W.findIn K (.ref C) m = some (some (.ref f))) (i : PySem.W.isFn K (.ref f) = true)
    (l : K.lookup f = some ⟨oc, od, .func (PySem.W.fnOf m q (defArgs st) (defBody st) (defScope st) .none kV dc pm an cd ct), sl⟩) (c : PySem.W.codeIn K cd q = true) (k : PySem.W.keepIn K (.ref f) = true)
    (hb : ∀ (kV doc pm : Value) (an : Option Addr) (cdv ct : Value) (us : List Value), us.length = ps.length → bindArgs (PySem.W.fnOf m q (defArgs st) (defBody st) (defScope st) .none kV doc pm an cdv ct) ⟨us, []⟩ = pure (ps.zip us)) : Dm K C m q st ps :=
  ⟨f, _, fun_mk (st := st) l c k, ⟨a, i, k⟩, (fun_mk (st := st) l c k).binds hb⟩
theorem sq_of_K {K : PySem.W.Frag} {a : Addr} {d : Option Addr} {its : Array Value} {n : Nat} {sl : Array (Option Value)} {xs : List V} (l : K.lookup a = some ⟨.type "tuple", d, .seq its n, sl⟩) (hz : its.size ≤ sizeLine) (v : Vals xs its.toList) (H : Hp) : SqT K H a xs := Or.inr ⟨_, its, n, l, rfl, rfl, hz, v⟩
theorem rv_int {i : Int} {t : Tok} : L2.RelV (.int i) (.int i t) := ⟨t, rfl⟩
theorem vals_ref : ∀ ds : List Addr, Vals (ds.map V.ref) (ds.map Value.ref)
  | [] => .nil
  | _ :: ds => .cons rfl (vals_ref ds)

theorem all_mk {P : Program} {w : World} {K : PySem.W.Frag} {h : Heap} {mg : Str → Option Value} {fa : Addr} (X : K.In h) (G : h.Ns mainGlobals mg) (hfa : mg "answers" = some (.ref fa))
    {C aF aM aD : Addr}
    {f3 : Addr} {od3 an3 : Option Addr} {sl3 : Array (Option Value)} {oc3 kV3 dc3 pm3 cd3 ct3 : Value}
    {f5 : Addr} {od5 an5 : Option Addr} {sl5 : Array (Option Value)} {oc5 kV5 dc5 pm5 cd5 ct5 : Value}
    {f6 : Addr} {od6 an6 : Option Addr} {sl6 : Array (Option Value)} {oc6 kV6 dc6 pm6 cd6 ct6 : Value}
    {f7 : Addr} {od7 an7 : Option Addr} {sl7 : Array (Option Value)} {oc7 kV7 dc7 pm7 cd7 ct7 : Value}
    {f8 : Addr} {od8 an8 : Option Addr} {sl8 : Array (Option Value)} {oc8 kV8 dc8 pm8 cd8 ct8 : Value}
    {f9 : Addr} {od9 an9 : Option Addr} {sl9 : Array (Option Value)} {oc9 kV9 dc9 pm9 cd9 ct9 : Value}
    {f10 : Addr} {od10 an10 : Option Addr} {sl10 : Array (Option Value)} {oc10 kV10 dc10 pm10 cd10 ct10 : Value}
    {f11 : Addr} {od11 an11 : Option Addr} {sl11 : Array (Option Value)} {oc11 kV11 dc11 pm11 cd11 ct11 : Value}
    {f12 : Addr} {od12 an12 : Option Addr} {sl12 : Array (Option Value)} {oc12 kV12 dc12 pm12 cd12 ct12 : Value}
    {f13 : Addr} {od13 an13 : Option Addr} {sl13 : Array (Option Value)} {oc13 kV13 dc13 pm13 cd13 ct13 : Value}
    {f14 : Addr} {od14 an14 : Option Addr} {sl14 : Array (Option Value)} {oc14 kV14 dc14 pm14 cd14 ct14 : Value}
    {f16 : Addr} {od16 an16 : Option Addr} {sl16 : Array (Option Value)} {oc16 kV16 dc16 pm16 cd16 ct16 : Value}
    {f17 : Addr} {od17 an17 : Option Addr} {sl17 : Array (Option Value)} {oc17 kV17 dc17 pm17 cd17 ct17 : Value}
    {f18 : Addr} {od18 an18 : Option Addr} {sl18 : Array (Option Value)} {oc18 kV18 dc18 pm18 cd18 ct18 : Value}
    {f19 : Addr} {od19 an19 : Option Addr} {sl19 : Array (Option Value)} {oc19 kV19 dc19 pm19 cd19 ct19 : Value}
    {f20 : Addr} {od20 an20 : Option Addr} {sl20 : Array (Option Value)} {oc20 kV20 dc20 pm20 cd20 ct20 : Value}
    {f21 : Addr} {od21 an21 : Option Addr} {sl21 : Array (Option Value)} {oc21 kV21 dc21 pm21 cd21 ct21 : Value}
    {f22 : Addr} {od22 an22 : Option Addr} {sl22 : Array (Option Value)} {oc22 kV22 dc22 pm22 cd22 ct22 : Value}
    {f23 : Addr} {od23 an23 : Option Addr} {sl23 : Array (Option Value)} {oc23 kV23 dc23 pm23 cd23 ct23 : Value}
    {f24 : Addr} {od24 an24 : Option Addr} {sl24 : Array (Option Value)} {oc24 kV24 dc24 pm24 cd24 ct24 : Value}
    {f25 : Addr} {od25 an25 : Option Addr} {sl25 : Array (Option Value)} {oc25 kV25 dc25 pm25 cd25 ct25 : Value}
    {f26 : Addr} {od26 an26 : Option Addr} {sl26 : Array (Option Value)} {oc26 kV26 dc26 pm26 cd26 ct26 : Value}
    {f28 : Addr} {od28 an28 : Option Addr} {sl28 : Array (Option Value)} {oc28 kV28 dc28 pm28 cd28 ct28 : Value}
    {f29 : Addr} {od29 an29 : Option Addr} {sl29 : Array (Option Value)} {oc29 kV29 dc29 pm29 cd29 ct29 : Value}
    {f30 : Addr} {od30 an30 : Option Addr} {sl30 : Array (Option Value)} {oc30 kV30 dc30 pm30 cd30 ct30 : Value}
    {f31 : Addr} {od31 an31 : Option Addr} {sl31 : Array (Option Value)} {oc31 kV31 dc31 pm31 cd31 ct31 : Value}
    {f32 : Addr} {od32 an32 : Option Addr} {sl32 : Array (Option Value)} {oc32 kV32 dc32 pm32 cd32 ct32 : Value}
    {f33 : Addr} {od33 an33 : Option Addr} {sl33 : Array (Option Value)} {oc33 kV33 dc33 pm33 cd33 ct33 : Value}
    {f41 : Addr} {od41 an41 : Option Addr} {sl41 : Array (Option Value)} {oc41 kV41 dc41 pm41 cd41 ct41 : Value}
    {f42 : Addr} {od42 an42 : Option Addr} {sl42 : Array (Option Value)} {oc42 kV42 dc42 pm42 cd42 ct42 : Value}
    {f43 : Addr} {od43 an43 : Option Addr} {sl43 : Array (Option Value)} {oc43 kV43 dc43 pm43 cd43 ct43 : Value}
    {f44 : Addr} {od44 an44 : Option Addr} {sl44 : Array (Option Value)} {oc44 kV44 dc44 pm44 cd44 ct44 : Value}
    {f45 : Addr} {od45 an45 : Option Addr} {sl45 : Array (Option Value)} {oc45 kV45 dc45 pm45 cd45 ct45 : Value}
    {f46 : Addr} {od46 an46 : Option Addr} {sl46 : Array (Option Value)} {oc46 kV46 dc46 pm46 cd46 ct46 : Value}
    {f47 : Addr} {od47 an47 : Option Addr} {sl47 : Array (Option Value)} {oc47 kV47 dc47 pm47 cd47 ct47 : Value}
    {f48 : Addr} {od48 an48 : Option Addr} {sl48 : Array (Option Value)} {oc48 kV48 dc48 pm48 cd48 ct48 : Value}
    {f49 : Addr} {od49 an49 : Option Addr} {sl49 : Array (Option Value)} {oc49 kV49 dc49 pm49 cd49 ct49 : Value}
    {f50 : Addr} {od50 an50 : Option Addr} {sl50 : Array (Option Value)} {oc50 kV50 dc50 pm50 cd50 ct50 : Value}
    {f57 : Addr} {od57 an57 : Option Addr} {sl57 : Array (Option Value)} {oc57 kV57 dc57 pm57 cd57 ct57 : Value}
    {g0 : Addr} {odm0 anm0 : Option Addr} {slm0 : Array (Option Value)} {ocm0 kVm0 dcm0 pmm0 cdm0 ctm0 : Value}
    {g1 : Addr} {odm1 anm1 : Option Addr} {slm1 : Array (Option Value)} {ocm1 kVm1 dcm1 pmm1 cdm1 ctm1 : Value}
    {g2 : Addr} {odm2 anm2 : Option Addr} {slm2 : Array (Option Value)} {ocm2 kVm2 dcm2 pmm2 cdm2 ctm2 : Value}
    {g3 : Addr} {odm3 anm3 : Option Addr} {slm3 : Array (Option Value)} {ocm3 kVm3 dcm3 pmm3 cdm3 ctm3 : Value}
    {dF dM dD : Option Addr} {nF nM nD : Nat} {slF slM slD : Array (Option Value)} {tF0 tF1 tM0 tM1 tM2 tM3 tM4 tM5 tM6 tM7 tM8 : Tok}
    {t_CANNOT_BE t_NONE_KEPT t_NOT_SO t_MOST_WIDE t_MOST_COLOUR t_MOST_WEIGHT t_MOST_KEPT t_WITH_A_LIST : Tok}
    (a3 : PySem.W.nsIn K mainGlobals "call_at" = some (some (.ref f3)))
    (l3 : K.lookup f3 = some ⟨oc3, od3, .func (PySem.W.fnOf "call_at" "call_at" (defArgs (top 3)) (defBody (top 3)) (defScope (top 3)) .none kV3 dc3 pm3 an3 cd3 ct3), sl3⟩)
    (c3 : PySem.W.codeIn K cd3 "call_at" = true)
    (k3 : PySem.W.keepIn K (.ref f3) = true)
    (a5 : PySem.W.nsIn K mainGlobals "wide" = some (some (.ref f5)))
    (l5 : K.lookup f5 = some ⟨oc5, od5, .func (PySem.W.fnOf "wide" "wide" (defArgs (top 5)) (defBody (top 5)) (defScope (top 5)) .none kV5 dc5 pm5 an5 cd5 ct5), sl5⟩)
    (c5 : PySem.W.codeIn K cd5 "wide" = true)
    (k5 : PySem.W.keepIn K (.ref f5) = true)
    (a6 : PySem.W.nsIn K mainGlobals "rows_of" = some (some (.ref f6)))
    (l6 : K.lookup f6 = some ⟨oc6, od6, .func (PySem.W.fnOf "rows_of" "rows_of" (defArgs (top 6)) (defBody (top 6)) (defScope (top 6)) .none kV6 dc6 pm6 an6 cd6 ct6), sl6⟩)
    (c6 : PySem.W.codeIn K cd6 "rows_of" = true)
    (k6 : PySem.W.keepIn K (.ref f6) = true)
    (a7 : PySem.W.nsIn K mainGlobals "turned" = some (some (.ref f7)))
    (l7 : K.lookup f7 = some ⟨oc7, od7, .func (PySem.W.fnOf "turned" "turned" (defArgs (top 7)) (defBody (top 7)) (defScope (top 7)) .none kV7 dc7 pm7 an7 cd7 ct7), sl7⟩)
    (c7 : PySem.W.codeIn K cd7 "turned" = true)
    (k7 : PySem.W.keepIn K (.ref f7) = true)
    (a8 : PySem.W.nsIn K mainGlobals "looked_at" = some (some (.ref f8)))
    (l8 : K.lookup f8 = some ⟨oc8, od8, .func (PySem.W.fnOf "looked_at" "looked_at" (defArgs (top 8)) (defBody (top 8)) (defScope (top 8)) .none kV8 dc8 pm8 an8 cd8 ct8), sl8⟩)
    (c8 : PySem.W.codeIn K cd8 "looked_at" = true)
    (k8 : PySem.W.keepIn K (.ref f8) = true)
    (a9 : PySem.W.nsIn K mainGlobals "weighed_row" = some (some (.ref f9)))
    (l9 : K.lookup f9 = some ⟨oc9, od9, .func (PySem.W.fnOf "weighed_row" "weighed_row" (defArgs (top 9)) (defBody (top 9)) (defScope (top 9)) .none kV9 dc9 pm9 an9 cd9 ct9), sl9⟩)
    (c9 : PySem.W.codeIn K cd9 "weighed_row" = true)
    (k9 : PySem.W.keepIn K (.ref f9) = true)
    (a10 : PySem.W.nsIn K mainGlobals "weighed" = some (some (.ref f10)))
    (l10 : K.lookup f10 = some ⟨oc10, od10, .func (PySem.W.fnOf "weighed" "weighed" (defArgs (top 10)) (defBody (top 10)) (defScope (top 10)) .none kV10 dc10 pm10 an10 cd10 ct10), sl10⟩)
    (c10 : PySem.W.codeIn K cd10 "weighed" = true)
    (k10 : PySem.W.keepIn K (.ref f10) = true)
    (a11 : PySem.W.nsIn K mainGlobals "colours_in" = some (some (.ref f11)))
    (l11 : K.lookup f11 = some ⟨oc11, od11, .func (PySem.W.fnOf "colours_in" "colours_in" (defArgs (top 11)) (defBody (top 11)) (defScope (top 11)) .none kV11 dc11 pm11 an11 cd11 ct11), sl11⟩)
    (c11 : PySem.W.codeIn K cd11 "colours_in" = true)
    (k11 : PySem.W.keepIn K (.ref f11) = true)
    (a12 : PySem.W.nsIn K mainGlobals "without" = some (some (.ref f12)))
    (l12 : K.lookup f12 = some ⟨oc12, od12, .func (PySem.W.fnOf "without" "without" (defArgs (top 12)) (defBody (top 12)) (defScope (top 12)) .none kV12 dc12 pm12 an12 cd12 ct12), sl12⟩)
    (c12 : PySem.W.codeIn K cd12 "without" = true)
    (k12 : PySem.W.keepIn K (.ref f12) = true)
    (a13 : PySem.W.nsIn K mainGlobals "pixels_at" = some (some (.ref f13)))
    (l13 : K.lookup f13 = some ⟨oc13, od13, .func (PySem.W.fnOf "pixels_at" "pixels_at" (defArgs (top 13)) (defBody (top 13)) (defScope (top 13)) .none kV13 dc13 pm13 an13 cd13 ct13), sl13⟩)
    (c13 : PySem.W.codeIn K cd13 "pixels_at" = true)
    (k13 : PySem.W.keepIn K (.ref f13) = true)
    (a14 : PySem.W.nsIn K mainGlobals "with_pixels" = some (some (.ref f14)))
    (l14 : K.lookup f14 = some ⟨oc14, od14, .func (PySem.W.fnOf "with_pixels" "with_pixels" (defArgs (top 14)) (defBody (top 14)) (defScope (top 14)) .none kV14 dc14 pm14 an14 cd14 ct14), sl14⟩)
    (c14 : PySem.W.codeIn K cd14 "with_pixels" = true)
    (k14 : PySem.W.keepIn K (.ref f14) = true)
    (a16 : PySem.W.nsIn K mainGlobals "colour_at" = some (some (.ref f16)))
    (l16 : K.lookup f16 = some ⟨oc16, od16, .func (PySem.W.fnOf "colour_at" "colour_at" (defArgs (top 16)) (defBody (top 16)) (defScope (top 16)) .none kV16 dc16 pm16 an16 cd16 ct16), sl16⟩)
    (c16 : PySem.W.codeIn K cd16 "colour_at" = true)
    (k16 : PySem.W.keepIn K (.ref f16) = true)
    (a17 : PySem.W.nsIn K mainGlobals "across" = some (some (.ref f17)))
    (l17 : K.lookup f17 = some ⟨oc17, od17, .func (PySem.W.fnOf "across" "across" (defArgs (top 17)) (defBody (top 17)) (defScope (top 17)) .none kV17 dc17 pm17 an17 cd17 ct17), sl17⟩)
    (c17 : PySem.W.codeIn K cd17 "across" = true)
    (k17 : PySem.W.keepIn K (.ref f17) = true)
    (a18 : PySem.W.nsIn K mainGlobals "upright" = some (some (.ref f18)))
    (l18 : K.lookup f18 = some ⟨oc18, od18, .func (PySem.W.fnOf "upright" "upright" (defArgs (top 18)) (defBody (top 18)) (defScope (top 18)) .none kV18 dc18 pm18 an18 cd18 ct18), sl18⟩)
    (c18 : PySem.W.codeIn K cd18 "upright" = true)
    (k18 : PySem.W.keepIn K (.ref f18) = true)
    (a19 : PySem.W.nsIn K mainGlobals "going_at" = some (some (.ref f19)))
    (l19 : K.lookup f19 = some ⟨oc19, od19, .func (PySem.W.fnOf "going_at" "going_at" (defArgs (top 19)) (defBody (top 19)) (defScope (top 19)) .none kV19 dc19 pm19 an19 cd19 ct19), sl19⟩)
    (c19 : PySem.W.codeIn K cd19 "going_at" = true)
    (k19 : PySem.W.keepIn K (.ref f19) = true)
    (a20 : PySem.W.nsIn K mainGlobals "places_near" = some (some (.ref f20)))
    (l20 : K.lookup f20 = some ⟨oc20, od20, .func (PySem.W.fnOf "places_near" "places_near" (defArgs (top 20)) (defBody (top 20)) (defScope (top 20)) .none kV20 dc20 pm20 an20 cd20 ct20), sl20⟩)
    (c20 : PySem.W.codeIn K cd20 "places_near" = true)
    (k20 : PySem.W.keepIn K (.ref f20) = true)
    (a21 : PySem.W.nsIn K mainGlobals "first_least" = some (some (.ref f21)))
    (l21 : K.lookup f21 = some ⟨oc21, od21, .func (PySem.W.fnOf "first_least" "first_least" (defArgs (top 21)) (defBody (top 21)) (defScope (top 21)) .none kV21 dc21 pm21 an21 cd21 ct21), sl21⟩)
    (c21 : PySem.W.codeIn K cd21 "first_least" = true)
    (k21 : PySem.W.keepIn K (.ref f21) = true)
    (a22 : PySem.W.nsIn K mainGlobals "least_near" = some (some (.ref f22)))
    (l22 : K.lookup f22 = some ⟨oc22, od22, .func (PySem.W.fnOf "least_near" "least_near" (defArgs (top 22)) (defBody (top 22)) (defScope (top 22)) .none kV22 dc22 pm22 an22 cd22 ct22), sl22⟩)
    (c22 : PySem.W.codeIn K cd22 "least_near" = true)
    (k22 : PySem.W.keepIn K (.ref f22) = true)
    (a23 : PySem.W.nsIn K mainGlobals "costs_of_row" = some (some (.ref f23)))
    (l23 : K.lookup f23 = some ⟨oc23, od23, .func (PySem.W.fnOf "costs_of_row" "costs_of_row" (defArgs (top 23)) (defBody (top 23)) (defScope (top 23)) .none kV23 dc23 pm23 an23 cd23 ct23), sl23⟩)
    (c23 : PySem.W.codeIn K cd23 "costs_of_row" = true)
    (k23 : PySem.W.keepIn K (.ref f23) = true)
    (a24 : PySem.W.nsIn K mainGlobals "costs_down" = some (some (.ref f24)))
    (l24 : K.lookup f24 = some ⟨oc24, od24, .func (PySem.W.fnOf "costs_down" "costs_down" (defArgs (top 24)) (defBody (top 24)) (defScope (top 24)) .none kV24 dc24 pm24 an24 cd24 ct24), sl24⟩)
    (c24 : PySem.W.codeIn K cd24 "costs_down" = true)
    (k24 : PySem.W.keepIn K (.ref f24) = true)
    (a25 : PySem.W.nsIn K mainGlobals "seam_by" = some (some (.ref f25)))
    (l25 : K.lookup f25 = some ⟨oc25, od25, .func (PySem.W.fnOf "seam_by" "seam_by" (defArgs (top 25)) (defBody (top 25)) (defScope (top 25)) .none kV25 dc25 pm25 an25 cd25 ct25), sl25⟩)
    (c25 : PySem.W.codeIn K cd25 "seam_by" = true)
    (k25 : PySem.W.keepIn K (.ref f25) = true)
    (a26 : PySem.W.nsIn K mainGlobals "least_seam" = some (some (.ref f26)))
    (l26 : K.lookup f26 = some ⟨oc26, od26, .func (PySem.W.fnOf "least_seam" "least_seam" (defArgs (top 26)) (defBody (top 26)) (defScope (top 26)) .none kV26 dc26 pm26 an26 cd26 ct26), sl26⟩)
    (c26 : PySem.W.codeIn K cd26 "least_seam" = true)
    (k26 : PySem.W.keepIn K (.ref f26) = true)
    (a28 : PySem.W.nsIn K mainGlobals "narrowed" = some (some (.ref f28)))
    (l28 : K.lookup f28 = some ⟨oc28, od28, .func (PySem.W.fnOf "narrowed" "narrowed" (defArgs (top 28)) (defBody (top 28)) (defScope (top 28)) .none kV28 dc28 pm28 an28 cd28 ct28), sl28⟩)
    (c28 : PySem.W.codeIn K cd28 "narrowed" = true)
    (k28 : PySem.W.keepIn K (.ref f28) = true)
    (a29 : PySem.W.nsIn K mainGlobals "put_back" = some (some (.ref f29)))
    (l29 : K.lookup f29 = some ⟨oc29, od29, .func (PySem.W.fnOf "put_back" "put_back" (defArgs (top 29)) (defBody (top 29)) (defScope (top 29)) .none kV29 dc29 pm29 an29 cd29 ct29), sl29⟩)
    (c29 : PySem.W.codeIn K cd29 "put_back" = true)
    (k29 : PySem.W.keepIn K (.ref f29) = true)
    (a30 : PySem.W.nsIn K mainGlobals "places_taken" = some (some (.ref f30)))
    (l30 : K.lookup f30 = some ⟨oc30, od30, .func (PySem.W.fnOf "places_taken" "places_taken" (defArgs (top 30)) (defBody (top 30)) (defScope (top 30)) .none kV30 dc30 pm30 an30 cd30 ct30), sl30⟩)
    (c30 : PySem.W.codeIn K cd30 "places_taken" = true)
    (k30 : PySem.W.keepIn K (.ref f30) = true)
    (a31 : PySem.W.nsIn K mainGlobals "pixel_beside" = some (some (.ref f31)))
    (l31 : K.lookup f31 = some ⟨oc31, od31, .func (PySem.W.fnOf "pixel_beside" "pixel_beside" (defArgs (top 31)) (defBody (top 31)) (defScope (top 31)) .none kV31 dc31 pm31 an31 cd31 ct31), sl31⟩)
    (c31 : PySem.W.codeIn K cd31 "pixel_beside" = true)
    (k31 : PySem.W.keepIn K (.ref f31) = true)
    (a32 : PySem.W.nsIn K mainGlobals "widened_row" = some (some (.ref f32)))
    (l32 : K.lookup f32 = some ⟨oc32, od32, .func (PySem.W.fnOf "widened_row" "widened_row" (defArgs (top 32)) (defBody (top 32)) (defScope (top 32)) .none kV32 dc32 pm32 an32 cd32 ct32), sl32⟩)
    (c32 : PySem.W.codeIn K cd32 "widened_row" = true)
    (k32 : PySem.W.keepIn K (.ref f32) = true)
    (a33 : PySem.W.nsIn K mainGlobals "widened" = some (some (.ref f33)))
    (l33 : K.lookup f33 = some ⟨oc33, od33, .func (PySem.W.fnOf "widened" "widened" (defArgs (top 33)) (defBody (top 33)) (defScope (top 33)) .none kV33 dc33 pm33 an33 cd33 ct33), sl33⟩)
    (c33 : PySem.W.codeIn K cd33 "widened" = true)
    (k33 : PySem.W.keepIn K (.ref f33) = true)
    (a41 : PySem.W.nsIn K mainGlobals "is_turn" = some (some (.ref f41)))
    (l41 : K.lookup f41 = some ⟨oc41, od41, .func (PySem.W.fnOf "is_turn" "is_turn" (defArgs (top 41)) (defBody (top 41)) (defScope (top 41)) .none kV41 dc41 pm41 an41 cd41 ct41), sl41⟩)
    (c41 : PySem.W.codeIn K cd41 "is_turn" = true)
    (k41 : PySem.W.keepIn K (.ref f41) = true)
    (a42 : PySem.W.nsIn K mainGlobals "call_begin" = some (some (.ref f42)))
    (l42 : K.lookup f42 = some ⟨oc42, od42, .func (PySem.W.fnOf "call_begin" "call_begin" (defArgs (top 42)) (defBody (top 42)) (defScope (top 42)) .none kV42 dc42 pm42 an42 cd42 ct42), sl42⟩)
    (c42 : PySem.W.codeIn K cd42 "call_begin" = true)
    (k42 : PySem.W.keepIn K (.ref f42) = true)
    (a43 : PySem.W.nsIn K mainGlobals "call_weigh" = some (some (.ref f43)))
    (l43 : K.lookup f43 = some ⟨oc43, od43, .func (PySem.W.fnOf "call_weigh" "call_weigh" (defArgs (top 43)) (defBody (top 43)) (defScope (top 43)) .none kV43 dc43 pm43 an43 cd43 ct43), sl43⟩)
    (c43 : PySem.W.codeIn K cd43 "call_weigh" = true)
    (k43 : PySem.W.keepIn K (.ref f43) = true)
    (a44 : PySem.W.nsIn K mainGlobals "call_going" = some (some (.ref f44)))
    (l44 : K.lookup f44 = some ⟨oc44, od44, .func (PySem.W.fnOf "call_going" "call_going" (defArgs (top 44)) (defBody (top 44)) (defScope (top 44)) .none kV44 dc44 pm44 an44 cd44 ct44), sl44⟩)
    (c44 : PySem.W.codeIn K cd44 "call_going" = true)
    (k44 : PySem.W.keepIn K (.ref f44) = true)
    (a45 : PySem.W.nsIn K mainGlobals "call_seam" = some (some (.ref f45)))
    (l45 : K.lookup f45 = some ⟨oc45, od45, .func (PySem.W.fnOf "call_seam" "call_seam" (defArgs (top 45)) (defBody (top 45)) (defScope (top 45)) .none kV45 dc45 pm45 an45 cd45 ct45), sl45⟩)
    (c45 : PySem.W.codeIn K cd45 "call_seam" = true)
    (k45 : PySem.W.keepIn K (.ref f45) = true)
    (a46 : PySem.W.nsIn K mainGlobals "call_narrow" = some (some (.ref f46)))
    (l46 : K.lookup f46 = some ⟨oc46, od46, .func (PySem.W.fnOf "call_narrow" "call_narrow" (defArgs (top 46)) (defBody (top 46)) (defScope (top 46)) .none kV46 dc46 pm46 an46 cd46 ct46), sl46⟩)
    (c46 : PySem.W.codeIn K cd46 "call_narrow" = true)
    (k46 : PySem.W.keepIn K (.ref f46) = true)
    (a47 : PySem.W.nsIn K mainGlobals "call_back" = some (some (.ref f47)))
    (l47 : K.lookup f47 = some ⟨oc47, od47, .func (PySem.W.fnOf "call_back" "call_back" (defArgs (top 47)) (defBody (top 47)) (defScope (top 47)) .none kV47 dc47 pm47 an47 cd47 ct47), sl47⟩)
    (c47 : PySem.W.codeIn K cd47 "call_back" = true)
    (k47 : PySem.W.keepIn K (.ref f47) = true)
    (a48 : PySem.W.nsIn K mainGlobals "call_wider" = some (some (.ref f48)))
    (l48 : K.lookup f48 = some ⟨oc48, od48, .func (PySem.W.fnOf "call_wider" "call_wider" (defArgs (top 48)) (defBody (top 48)) (defScope (top 48)) .none kV48 dc48 pm48 an48 cd48 ct48), sl48⟩)
    (c48 : PySem.W.codeIn K cd48 "call_wider" = true)
    (k48 : PySem.W.keepIn K (.ref f48) = true)
    (a49 : PySem.W.nsIn K mainGlobals "call_row" = some (some (.ref f49)))
    (l49 : K.lookup f49 = some ⟨oc49, od49, .func (PySem.W.fnOf "call_row" "call_row" (defArgs (top 49)) (defBody (top 49)) (defScope (top 49)) .none kV49 dc49 pm49 an49 cd49 ct49), sl49⟩)
    (c49 : PySem.W.codeIn K cd49 "call_row" = true)
    (k49 : PySem.W.keepIn K (.ref f49) = true)
    (a50 : PySem.W.nsIn K mainGlobals "call_size" = some (some (.ref f50)))
    (l50 : K.lookup f50 = some ⟨oc50, od50, .func (PySem.W.fnOf "call_size" "call_size" (defArgs (top 50)) (defBody (top 50)) (defScope (top 50)) .none kV50 dc50 pm50 an50 cd50 ct50), sl50⟩)
    (c50 : PySem.W.codeIn K cd50 "call_size" = true)
    (k50 : PySem.W.keepIn K (.ref f50) = true)
    (a57 : PySem.W.nsIn K mainGlobals "answers" = some (some (.ref f57)))
    (l57 : K.lookup f57 = some ⟨oc57, od57, .func (PySem.W.fnOf "answers" "answers" (defArgs (top 57)) (defBody (top 57)) (defScope (top 57)) .none kV57 dc57 pm57 an57 cd57 ct57), sl57⟩)
    (c57 : PySem.W.codeIn K cd57 "answers" = true)
    (k57 : PySem.W.keepIn K (.ref f57) = true)
    (aC : PySem.W.nsIn K mainGlobals "Picture" = some (some (.ref C)))
    (am0 : PySem.W.findIn K (.ref C) "__init__" = some (some (.ref g0)))
    (im0 : PySem.W.isFn K (.ref g0) = true)
    (lm0 : K.lookup g0 = some ⟨ocm0, odm0, .func (PySem.W.fnOf "__init__" "Picture.__init__" (defArgs (inClass (top 55) 0)) (defBody (inClass (top 55) 0)) (defScope (inClass (top 55) 0)) .none kVm0 dcm0 pmm0 anm0 cdm0 ctm0), slm0⟩)
    (cm0 : PySem.W.codeIn K cdm0 "Picture.__init__" = true)
    (km0 : PySem.W.keepIn K (.ref g0) = true)
    (am1 : PySem.W.findIn K (.ref C) "show" = some (some (.ref g1)))
    (im1 : PySem.W.isFn K (.ref g1) = true)
    (lm1 : K.lookup g1 = some ⟨ocm1, odm1, .func (PySem.W.fnOf "show" "Picture.show" (defArgs (inClass (top 55) 1)) (defBody (inClass (top 55) 1)) (defScope (inClass (top 55) 1)) .none kVm1 dcm1 pmm1 anm1 cdm1 ctm1), slm1⟩)
    (cm1 : PySem.W.codeIn K cdm1 "Picture.show" = true)
    (km1 : PySem.W.keepIn K (.ref g1) = true)
    (am2 : PySem.W.findIn K (.ref C) "narrow" = some (some (.ref g2)))
    (im2 : PySem.W.isFn K (.ref g2) = true)
    (lm2 : K.lookup g2 = some ⟨ocm2, odm2, .func (PySem.W.fnOf "narrow" "Picture.narrow" (defArgs (inClass (top 55) 2)) (defBody (inClass (top 55) 2)) (defScope (inClass (top 55) 2)) .none kVm2 dcm2 pmm2 anm2 cdm2 ctm2), slm2⟩)
    (cm2 : PySem.W.codeIn K cdm2 "Picture.narrow" = true)
    (km2 : PySem.W.keepIn K (.ref g2) = true)
    (am3 : PySem.W.findIn K (.ref C) "put_in" = some (some (.ref g3)))
    (im3 : PySem.W.isFn K (.ref g3) = true)
    (lm3 : K.lookup g3 = some ⟨ocm3, odm3, .func (PySem.W.fnOf "put_in" "Picture.put_in" (defArgs (inClass (top 55) 3)) (defBody (inClass (top 55) 3)) (defScope (inClass (top 55) 3)) .none kVm3 dcm3 pmm3 anm3 cdm3 ctm3), slm3⟩)
    (cm3 : PySem.W.codeIn K cdm3 "Picture.put_in" = true)
    (km3 : PySem.W.keepIn K (.ref g3) = true)
    (pg : PySem.W.plainGet K C Str.empty = true)
    (hd : PySem.W.hasDictIn K C = true)
    (po : PySem.W.plainOver K C = true)
    (sa : PySem.W.findIn K (.ref C) "__setattr__" = some (some (.builtin "object.__setattr__")))
    (mk : PySem.W.makesIn K C = true)
    (kc : PySem.W.keepIn K (.ref C) = true)
    (nR : PySem.W.findIn K (.ref C) "rows" = some none)
    (nK : PySem.W.findIn K (.ref C) "kept" = some none)
    (i_CANNOT_BE : PySem.W.nsIn K mainGlobals "CANNOT_BE" = some (some (.int (-1) t_CANNOT_BE)))
    (i_NONE_KEPT : PySem.W.nsIn K mainGlobals "NONE_KEPT" = some (some (.int (-2) t_NONE_KEPT)))
    (i_NOT_SO : PySem.W.nsIn K mainGlobals "NOT_SO" = some (some (.int (-3) t_NOT_SO)))
    (i_MOST_WIDE : PySem.W.nsIn K mainGlobals "MOST_WIDE" = some (some (.int (16) t_MOST_WIDE)))
    (i_MOST_COLOUR : PySem.W.nsIn K mainGlobals "MOST_COLOUR" = some (some (.int (255) t_MOST_COLOUR)))
    (i_MOST_WEIGHT : PySem.W.nsIn K mainGlobals "MOST_WEIGHT" = some (some (.int (10000) t_MOST_WEIGHT)))
    (i_MOST_KEPT : PySem.W.nsIn K mainGlobals "MOST_KEPT" = some (some (.int (32) t_MOST_KEPT)))
    (i_WITH_A_LIST : PySem.W.nsIn K mainGlobals "WITH_A_LIST" = some (some (.int (0) t_WITH_A_LIST)))
    (b_len : PySem.W.nsIn K mainGlobals "len" = some none)
    (b_range : PySem.W.nsIn K mainGlobals "range" = some none)
    (b_zip : PySem.W.nsIn K mainGlobals "zip" = some none)
    (b_enumerate : PySem.W.nsIn K mainGlobals "enumerate" = some none)
    (b_max : PySem.W.nsIn K mainGlobals "max" = some none)
    (b_min : PySem.W.nsIn K mainGlobals "min" = some none)
    (b_abs : PySem.W.nsIn K mainGlobals "abs" = some none)
    (b_list : PySem.W.nsIn K mainGlobals "list" = some none)
    (b_reversed : PySem.W.nsIn K mainGlobals "reversed" = some none)
    (aF_ : PySem.W.nsIn K mainGlobals "FIRST_PIXEL" = some (some (.ref aF)))
    (lF_ : K.lookup aF = some ⟨.type "tuple", dF, .seq #[.int 0 tF0, .int 0 tF1] nF, slF⟩)
    (aM_ : PySem.W.nsIn K mainGlobals "MANY_NUMBERS" = some (some (.ref aM)))
    (lM_ : K.lookup aM = some ⟨.type "tuple", dM, .seq #[.int 2 tM0, .int 6 tM1, .int 2 tM2, .int 1 tM3, .int 2 tM4, .int 0 tM5, .int 2 tM6, .int 1 tM7, .int 0 tM8] nM, slM⟩)
    (aD_ : PySem.W.nsIn K mainGlobals "DEEDS" = some (some (.ref aD)))
    (lD_ : K.lookup aD = some ⟨.type "tuple", dD, .seq #[.ref f42, .ref f43, .ref f44, .ref f45, .ref f46, .ref f47, .ref f48, .ref f49, .ref f50] nD, slD⟩)
    (nd_ : ([f42, f43, f44, f45, f46, f47, f48, f49, f50] : List Addr).Nodup)
    : ∃ fd : FuncData, (∀ (s : Shared) (us : List Value), us.length = (["calls"] : List Str).length → BindsTo s fd ⟨us, []⟩ ((["calls"] : List Str).zip us)) ∧ ∀ base : Heap, K.In base → base.Ns mainGlobals mg → FnOk P w K mg base CX0 10 fa fd ["calls"] (spAns K) := by
  have e := hfa.symm.trans (PySem.W.mg_of X G a57)
  cases e
  have T : Txt2 K mg C aF aM aD [f42, f43, f44, f45, f46, f47, f48, f49, f50] := {
    len := PySem.W.mg_none_of X G b_len
    range := PySem.W.mg_none_of X G b_range
    zip := PySem.W.mg_none_of X G b_zip
    enumerate := PySem.W.mg_none_of X G b_enumerate
    max := PySem.W.mg_none_of X G b_max
    min := PySem.W.mg_none_of X G b_min
    abs := PySem.W.mg_none_of X G b_abs
    list := PySem.W.mg_none_of X G b_list
    reversed := PySem.W.mg_none_of X G b_reversed
    cl := ⟨pg, hd, po, sa⟩
    nR := nR
    nK := nK
    Picture := PySem.W.mg_of X G aC
    CANNOT_BE := ⟨_, PySem.W.mg_of X G i_CANNOT_BE⟩
    NONE_KEPT := ⟨_, PySem.W.mg_of X G i_NONE_KEPT⟩
    NOT_SO := ⟨_, PySem.W.mg_of X G i_NOT_SO⟩
    MOST_WIDE := ⟨_, PySem.W.mg_of X G i_MOST_WIDE⟩
    MOST_COLOUR := ⟨_, PySem.W.mg_of X G i_MOST_COLOUR⟩
    MOST_WEIGHT := ⟨_, PySem.W.mg_of X G i_MOST_WEIGHT⟩
    MOST_KEPT := ⟨_, PySem.W.mg_of X G i_MOST_KEPT⟩
    WITH_A_LIST := ⟨_, PySem.W.mg_of X G i_WITH_A_LIST⟩
    FIRST_PIXEL := PySem.W.mg_of X G aF_
    MANY_NUMBERS := PySem.W.mg_of X G aM_
    DEEDS := PySem.W.mg_of X G aD_
    tF := fun H => sq_of_K lF_ (by show 2 ≤ sizeLine; decide) (.cons rv_int (.cons rv_int .nil)) H
    tM := fun H => sq_of_K lM_ (by show 9 ≤ sizeLine; decide) (.cons rv_int (.cons rv_int (.cons rv_int (.cons rv_int (.cons rv_int (.cons rv_int (.cons rv_int (.cons rv_int (.cons rv_int (.nil)))))))))) H
    tD := fun H => sq_of_K lD_ (by show 9 ≤ sizeLine; decide) (vals_ref [f42, f43, f44, f45, f46, f47, f48, f49, f50]) H }
  have d3 : Df K mg "call_at" (top 3) ["calls", "place"] := df_mk X G a3 l3 c3 k3 fun _ _ _ _ _ _ us hl => match us, hl with | [_, _], _ => rfl
  have d5 : Df K mg "wide" (top 5) ["rows"] := df_mk X G a5 l5 c5 k5 fun _ _ _ _ _ _ us hl => match us, hl with | [_], _ => rfl
  have d6 : Df K mg "rows_of" (top 6) ["width", "colours"] := df_mk X G a6 l6 c6 k6 fun _ _ _ _ _ _ us hl => match us, hl with | [_, _], _ => rfl
  have d7 : Df K mg "turned" (top 7) ["rows"] := df_mk X G a7 l7 c7 k7 fun _ _ _ _ _ _ us hl => match us, hl with | [_], _ => rfl
  have d8 : Df K mg "looked_at" (top 8) ["rows", "turn"] := df_mk X G a8 l8 c8 k8 fun _ _ _ _ _ _ us hl => match us, hl with | [_, _], _ => rfl
  have d9 : Df K mg "weighed_row" (top 9) ["row", "begin", "width", "weight"] := df_mk X G a9 l9 c9 k9 fun _ _ _ _ _ _ us hl => match us, hl with | [_, _, _, _], _ => rfl
  have d10 : Df K mg "weighed" (top 10) ["rows", "corner", "sides", "weight"] := df_mk X G a10 l10 c10 k10 fun _ _ _ _ _ _ us hl => match us, hl with | [_, _, _, _], _ => rfl
  have d11 : Df K mg "colours_in" (top 11) ["row"] := df_mk X G a11 l11 c11 k11 fun _ _ _ _ _ _ us hl => match us, hl with | [_], _ => rfl
  have d12 : Df K mg "without" (top 12) ["rows", "seam"] := df_mk X G a12 l12 c12 k12 fun _ _ _ _ _ _ us hl => match us, hl with | [_, _], _ => rfl
  have d13 : Df K mg "pixels_at" (top 13) ["rows", "seam"] := df_mk X G a13 l13 c13 k13 fun _ _ _ _ _ _ us hl => match us, hl with | [_, _], _ => rfl
  have d14 : Df K mg "with_pixels" (top 14) ["rows", "seam", "pixels"] := df_mk X G a14 l14 c14 k14 fun _ _ _ _ _ _ us hl => match us, hl with | [_, _, _], _ => rfl
  have d16 : Df K mg "colour_at" (top 16) ["rows", "x", "y"] := df_mk X G a16 l16 c16 k16 fun _ _ _ _ _ _ us hl => match us, hl with | [_, _, _], _ => rfl
  have d17 : Df K mg "across" (top 17) ["rows", "x", "y"] := df_mk X G a17 l17 c17 k17 fun _ _ _ _ _ _ us hl => match us, hl with | [_, _, _], _ => rfl
  have d18 : Df K mg "upright" (top 18) ["rows", "x", "y"] := df_mk X G a18 l18 c18 k18 fun _ _ _ _ _ _ us hl => match us, hl with | [_, _, _], _ => rfl
  have d19 : Df K mg "going_at" (top 19) ["rows", "x", "y"] := df_mk X G a19 l19 c19 k19 fun _ _ _ _ _ _ us hl => match us, hl with | [_, _, _], _ => rfl
  have d20 : Df K mg "places_near" (top 20) ["many", "x"] := df_mk X G a20 l20 c20 k20 fun _ _ _ _ _ _ us hl => match us, hl with | [_, _], _ => rfl
  have d21 : Df K mg "first_least" (top 21) ["costs", "places"] := df_mk X G a21 l21 c21 k21 fun _ _ _ _ _ _ us hl => match us, hl with | [_, _], _ => rfl
  have d22 : Df K mg "least_near" (top 22) ["costs", "x"] := df_mk X G a22 l22 c22 k22 fun _ _ _ _ _ _ us hl => match us, hl with | [_, _], _ => rfl
  have d23 : Df K mg "costs_of_row" (top 23) ["rows", "y", "below"] := df_mk X G a23 l23 c23 k23 fun _ _ _ _ _ _ us hl => match us, hl with | [_, _, _], _ => rfl
  have d24 : Df K mg "costs_down" (top 24) ["rows"] := df_mk X G a24 l24 c24 k24 fun _ _ _ _ _ _ us hl => match us, hl with | [_], _ => rfl
  have d25 : Df K mg "seam_by" (top 25) ["costs"] := df_mk X G a25 l25 c25 k25 fun _ _ _ _ _ _ us hl => match us, hl with | [_], _ => rfl
  have d26 : Df K mg "least_seam" (top 26) ["rows"] := df_mk X G a26 l26 c26 k26 fun _ _ _ _ _ _ us hl => match us, hl with | [_], _ => rfl
  have d28 : Df K mg "narrowed" (top 28) ["rows", "many"] := df_mk X G a28 l28 c28 k28 fun _ _ _ _ _ _ us hl => match us, hl with | [_, _], _ => rfl
  have d29 : Df K mg "put_back" (top 29) ["rows", "taken"] := df_mk X G a29 l29 c29 k29 fun _ _ _ _ _ _ us hl => match us, hl with | [_, _], _ => rfl
  have d30 : Df K mg "places_taken" (top 30) ["width", "seams", "y"] := df_mk X G a30 l30 c30 k30 fun _ _ _ _ _ _ us hl => match us, hl with | [_, _, _], _ => rfl
  have d31 : Df K mg "pixel_beside" (top 31) ["row", "x"] := df_mk X G a31 l31 c31 k31 fun _ _ _ _ _ _ us hl => match us, hl with | [_, _], _ => rfl
  have d32 : Df K mg "widened_row" (top 32) ["row", "places"] := df_mk X G a32 l32 c32 k32 fun _ _ _ _ _ _ us hl => match us, hl with | [_, _], _ => rfl
  have d33 : Df K mg "widened" (top 33) ["rows", "many"] := df_mk X G a33 l33 c33 k33 fun _ _ _ _ _ _ us hl => match us, hl with | [_, _], _ => rfl
  have d41 : Df K mg "is_turn" (top 41) ["turn"] := df_mk X G a41 l41 c41 k41 fun _ _ _ _ _ _ us hl => match us, hl with | [_], _ => rfl
  have d42 : Df K mg "call_begin" (top 42) ["picture", "numbers", "colours"] := df_mk X G a42 l42 c42 k42 fun _ _ _ _ _ _ us hl => match us, hl with | [_, _, _], _ => rfl
  have d43 : Df K mg "call_weigh" (top 43) ["picture", "numbers", "colours"] := df_mk X G a43 l43 c43 k43 fun _ _ _ _ _ _ us hl => match us, hl with | [_, _, _], _ => rfl
  have d44 : Df K mg "call_going" (top 44) ["picture", "numbers", "colours"] := df_mk X G a44 l44 c44 k44 fun _ _ _ _ _ _ us hl => match us, hl with | [_, _, _], _ => rfl
  have d45 : Df K mg "call_seam" (top 45) ["picture", "numbers", "colours"] := df_mk X G a45 l45 c45 k45 fun _ _ _ _ _ _ us hl => match us, hl with | [_, _, _], _ => rfl
  have d46 : Df K mg "call_narrow" (top 46) ["picture", "numbers", "colours"] := df_mk X G a46 l46 c46 k46 fun _ _ _ _ _ _ us hl => match us, hl with | [_, _, _], _ => rfl
  have d47 : Df K mg "call_back" (top 47) ["picture", "numbers", "colours"] := df_mk X G a47 l47 c47 k47 fun _ _ _ _ _ _ us hl => match us, hl with | [_, _, _], _ => rfl
  have d48 : Df K mg "call_wider" (top 48) ["picture", "numbers", "colours"] := df_mk X G a48 l48 c48 k48 fun _ _ _ _ _ _ us hl => match us, hl with | [_, _, _], _ => rfl
  have d49 : Df K mg "call_row" (top 49) ["picture", "numbers", "colours"] := df_mk X G a49 l49 c49 k49 fun _ _ _ _ _ _ us hl => match us, hl with | [_, _, _], _ => rfl
  have d50 : Df K mg "call_size" (top 50) ["picture", "numbers", "colours"] := df_mk X G a50 l50 c50 k50 fun _ _ _ _ _ _ us hl => match us, hl with | [_, _, _], _ => rfl
  have e1 : Dm K C "show" "Picture.show" (inClass (top 55) 1) ["self", "rows"] := dm_mk am1 im1 lm1 cm1 km1 fun _ _ _ _ _ _ us hl => match us, hl with | [_, _], _ => rfl
  have e2 : Dm K C "narrow" "Picture.narrow" (inClass (top 55) 2) ["self", "rows", "turn", "taken"] := dm_mk am2 im2 lm2 cm2 km2 fun _ _ _ _ _ _ us hl => match us, hl with | [_, _, _, _], _ => rfl
  have e3 : Dm K C "put_in" "Picture.put_in" (inClass (top 55) 3) ["self", "rows"] := dm_mk am3 im3 lm3 cm3 km3 fun _ _ _ _ _ _ us hl => match us, hl with | [_, _], _ => rfl
  refine ⟨PySem.W.fnOf "answers" "answers" (defArgs (top 57)) (defBody (top 57)) (defScope (top 57)) .none kV57 dc57 pm57 an57 cd57 ct57, fun s us hu => match us, hu with | [_], _ => .of_eq rfl, fun base _ _ => ?_⟩
  have q_wide := c_wide (P := P) (w := w) (base := base) d5 T.toTxt
  have q_rows_of := c_rows_of (P := P) (w := w) (base := base) d6 T.toTxt
  have q_turned := c_turned (P := P) (w := w) (base := base) d7 T.toTxt q_wide
  have q_looked_at := c_looked_at (P := P) (w := w) (base := base) d8 T.toTxt q_turned
  have q_weighed_row := c_weighed_row (P := P) (w := w) (base := base) d9 T.toTxt
  have q_weighed := c_weighed (P := P) (w := w) (base := base) d10 T.toTxt q_weighed_row
  have q_colours_in := c_colours_in (P := P) (w := w) (base := base) d11 T.toTxt
  have q_without := c_without (P := P) (w := w) (base := base) d12 T.toTxt
  have q_pixels_at := c_pixels_at (P := P) (w := w) (base := base) d13 T.toTxt
  have q_with_pixels := c_with_pixels (P := P) (w := w) (base := base) d14 T.toTxt
  have q_colour_at := c_colour_at (P := P) (w := w) (base := base) d16 T.toTxt
  have q_across := c_across (P := P) (w := w) (base := base) d17 T.toTxt q_colour_at
  have q_upright := c_upright (P := P) (w := w) (base := base) d18 T.toTxt q_colour_at
  have q_going_at := c_going_at (P := P) (w := w) (base := base) d19 T.toTxt q_across q_upright
  have q_places_near := c_places_near (P := P) (w := w) (base := base) d20 T.toTxt
  have q_first_least := c_first_least (P := P) (w := w) (base := base) d21 T.toTxt
  have q_least_near := c_least_near (P := P) (w := w) (base := base) d22 T.toTxt q_first_least q_places_near
  have q_costs_of_row := c_costs_of_row (P := P) (w := w) (base := base) d23 T.toTxt q_going_at q_least_near
  have q_costs_down := c_costs_down (P := P) (w := w) (base := base) d24 T.toTxt q_costs_of_row
  have q_seam_by := c_seam_by (P := P) (w := w) (base := base) d25 T.toTxt q_first_least q_places_near
  have q_least_seam := c_least_seam (P := P) (w := w) (base := base) d26 T.toTxt q_costs_down q_seam_by
  have q_narrowed := c_narrowed (P := P) (w := w) (base := base) d28 T.toTxt q_least_seam q_pixels_at q_without
  have q_put_back := c_put_back (P := P) (w := w) (base := base) d29 T.toTxt q_with_pixels
  have q_places_taken := c_places_taken (P := P) (w := w) (base := base) d30 T.toTxt
  have q_pixel_beside := c_pixel_beside (P := P) (w := w) (base := base) d31 T.toTxt
  have q_widened_row := c_widened_row (P := P) (w := w) (base := base) d32 T.toTxt q_pixel_beside
  have q_widened := c_widened (P := P) (w := w) (base := base) d33 T.toTxt q_narrowed q_widened_row q_places_taken
  have m0 := m_init (P := P) (w := w) (base := base) ⟨g0, _, fun_mk (st := inClass (top 55) 0) lm0 cm0 km0, ⟨mk, am0, im0, kc⟩, (fun_mk (st := inClass (top 55) 0) lm0 cm0 km0).binds (ps := ["self"]) fun _ _ _ _ _ _ us hl => match us, hl with | [_], _ => rfl⟩ T
  have m1 := m_show (P := P) (w := w) (base := base) e1 T
  have m2 := m_narrow (P := P) (w := w) (base := base) e2 T
  have m3 := m_put_in (P := P) (w := w) (base := base) e3 T
  have q_is_turn := c_is_turn (P := P) (w := w) (base := base) d41 T
  have q_call_begin := c_call_begin (P := P) (w := w) (base := base) d42 T q_rows_of m1
  have q_call_weigh := c_call_weigh (P := P) (w := w) (base := base) d43 T q_weighed m1
  have q_call_going := c_call_going (P := P) (w := w) (base := base) d44 T q_wide q_going_at
  have q_call_seam := c_call_seam (P := P) (w := w) (base := base) d45 T q_is_turn q_looked_at q_least_seam
  have q_call_narrow := c_call_narrow (P := P) (w := w) (base := base) d46 T q_is_turn q_looked_at q_wide q_narrowed m2
  have q_call_back := c_call_back (P := P) (w := w) (base := base) d47 T q_looked_at q_put_back m3
  have q_call_wider := c_call_wider (P := P) (w := w) (base := base) d48 T q_is_turn q_looked_at q_wide q_widened m1
  have q_call_row := c_call_row (P := P) (w := w) (base := base) d49 T q_colours_in
  have q_call_size := c_call_size (P := P) (w := w) (base := base) d50 T q_wide
  have q_call_at := c_call_at (P := P) (w := w) (base := base) d3 T
  refine c_answers (fun_mk (st := top 57) l57 c57 k57) T m0 q_call_at (fun f sp hS => ?_) nd_ rfl
  obtain ⟨j, Is, h1, h2, rfl⟩ := deedS_mem hS
  match j, h1, h2 with
  | 0, h1, h2 =>
    cases h1
    cases h2
    exact held_of q_call_begin (PySem.W.mg_of X G a42) (by decide)
  | 1, h1, h2 =>
    cases h1
    cases h2
    exact held_of q_call_weigh (PySem.W.mg_of X G a43) (by decide)
  | 2, h1, h2 =>
    cases h1
    cases h2
    exact held_of q_call_going (PySem.W.mg_of X G a44) (by decide)
  | 3, h1, h2 =>
    cases h1
    cases h2
    exact held_of q_call_seam (PySem.W.mg_of X G a45) (by decide)
  | 4, h1, h2 =>
    cases h1
    cases h2
    exact held_of q_call_narrow (PySem.W.mg_of X G a46) (by decide)
  | 5, h1, h2 =>
    cases h1
    cases h2
    exact held_of q_call_back (PySem.W.mg_of X G a47) (by decide)
  | 6, h1, h2 =>
    cases h1
    cases h2
    exact held_of q_call_wider (PySem.W.mg_of X G a48) (by decide)
  | 7, h1, h2 =>
    cases h1
    cases h2
    exact held_of q_call_row (PySem.W.mg_of X G a49) (by decide)
  | 8, h1, h2 =>
    cases h1
    cases h2
    exact held_of q_call_size (PySem.W.mg_of X G a50) (by decide)
  | n + 9, h1, h2 => cases h1
end LS
open PySem PySem.W PyProof.Rows
set_option maxRecDepth 100000 in
set_option maxHeartbeats 0 in
theorem PySem.Challenge.cw_leastseams_s01_answers_holds : PySem.Challenge.rw_leastseams_s01_answers.Holds := by
  w_on; k_headS; (case hw => exact ⟨[.list [.int 9]], by decide +kernel, by decide +kernel⟩)
  k_fillS
  refine L2.walk_specK (r := PySem.Challenge.rw_leastseams_s01_answers) (k := 10) (CX := L2.CX0) (ps := ["calls"]) (sp := LS.spAns) (by decide +kernel) rfl rfl ⟨rfl, by decide, by decide⟩ (fun w h Y => PySem.W.kIn_of Y) ?F ?S (fun _ _ _ _ z => z)
  case F =>
    intro w mg fa h Y KX G hmg
    refine' LS.all_mk KX G hmg ?a3 ?l3 ?c3 ?k3 ?a5 ?l5 ?c5 ?k5 ?a6 ?l6 ?c6 ?k6 ?a7 ?l7 ?c7 ?k7 ?a8 ?l8 ?c8 ?k8 ?a9 ?l9 ?c9 ?k9 ?a10 ?l10 ?c10 ?k10 ?a11 ?l11 ?c11 ?k11 ?a12 ?l12 ?c12 ?k12 ?a13 ?l13 ?c13 ?k13 ?a14 ?l14 ?c14 ?k14 ?a16 ?l16 ?c16 ?k16 ?a17 ?l17 ?c17 ?k17 ?a18 ?l18 ?c18 ?k18 ?a19 ?l19 ?c19 ?k19 ?a20 ?l20 ?c20 ?k20 ?a21 ?l21 ?c21 ?k21 ?a22 ?l22 ?c22 ?k22 ?a23 ?l23 ?c23 ?k23 ?a24 ?l24 ?c24 ?k24 ?a25 ?l25 ?c25 ?k25 ?a26 ?l26 ?c26 ?k26 ?a28 ?l28 ?c28 ?k28 ?a29 ?l29 ?c29 ?k29 ?a30 ?l30 ?c30 ?k30 ?a31 ?l31 ?c31 ?k31 ?a32 ?l32 ?c32 ?k32 ?a33 ?l33 ?c33 ?k33 ?a41 ?l41 ?c41 ?k41 ?a42 ?l42 ?c42 ?k42 ?a43 ?l43 ?c43 ?k43 ?a44 ?l44 ?c44 ?k44 ?a45 ?l45 ?c45 ?k45 ?a46 ?l46 ?c46 ?k46 ?a47 ?l47 ?c47 ?k47 ?a48 ?l48 ?c48 ?k48 ?a49 ?l49 ?c49 ?k49 ?a50 ?l50 ?c50 ?k50 ?a57 ?l57 ?c57 ?k57 ?aC ?am0 ?im0 ?lm0 ?cm0 ?km0 ?am1 ?im1 ?lm1 ?cm1 ?km1 ?am2 ?im2 ?lm2 ?cm2 ?km2 ?am3 ?im3 ?lm3 ?cm3 ?km3 ?pg ?hd ?po ?sa ?mk ?kc ?nR ?nK ?i_CANNOT_BE ?i_NONE_KEPT ?i_NOT_SO ?i_MOST_WIDE ?i_MOST_COLOUR ?i_MOST_WEIGHT ?i_MOST_KEPT ?i_WITH_A_LIST ?b_len ?b_range ?b_zip ?b_enumerate ?b_max ?b_min ?b_abs ?b_list ?b_reversed ?aF_ ?lF_ ?aM_ ?lM_ ?aD_ ?lD_ ?nd_
    (case a3 => k_is)
    (case l3 => k_is)
    (case c3 => k_is)
    (case k3 => k_is)
    (case a5 => k_is)
    (case l5 => k_is)
    (case c5 => k_is)
    (case k5 => k_is)
    (case a6 => k_is)
    (case l6 => k_is)
    (case c6 => k_is)
    (case k6 => k_is)
    (case a7 => k_is)
    (case l7 => k_is)
    (case c7 => k_is)
    (case k7 => k_is)
    (case a8 => k_is)
    (case l8 => k_is)
    (case c8 => k_is)
    (case k8 => k_is)
    (case a9 => k_is)
    (case l9 => k_is)
    (case c9 => k_is)
    (case k9 => k_is)
    (case a10 => k_is)
    (case l10 => k_is)
    (case c10 => k_is)
    (case k10 => k_is)
    (case a11 => k_is)
    (case l11 => k_is)
    (case c11 => k_is)
    (case k11 => k_is)
    (case a12 => k_is)
    (case l12 => k_is)
    (case c12 => k_is)
    (case k12 => k_is)
    (case a13 => k_is)
    (case l13 => k_is)
    (case c13 => k_is)
    (case k13 => k_is)
    (case a14 => k_is)
    (case l14 => k_is)
    (case c14 => k_is)
    (case k14 => k_is)
    (case a16 => k_is)
    (case l16 => k_is)
    (case c16 => k_is)
    (case k16 => k_is)
    (case a17 => k_is)
    (case l17 => k_is)
    (case c17 => k_is)
    (case k17 => k_is)
    (case a18 => k_is)
    (case l18 => k_is)
    (case c18 => k_is)
    (case k18 => k_is)
    (case a19 => k_is)
    (case l19 => k_is)
    (case c19 => k_is)
    (case k19 => k_is)
    (case a20 => k_is)
    (case l20 => k_is)
    (case c20 => k_is)
    (case k20 => k_is)
    (case a21 => k_is)
    (case l21 => k_is)
    (case c21 => k_is)
    (case k21 => k_is)
    (case a22 => k_is)
    (case l22 => k_is)
    (case c22 => k_is)
    (case k22 => k_is)
    (case a23 => k_is)
    (case l23 => k_is)
    (case c23 => k_is)
    (case k23 => k_is)
    (case a24 => k_is)
    (case l24 => k_is)
    (case c24 => k_is)
    (case k24 => k_is)
    (case a25 => k_is)
    (case l25 => k_is)
    (case c25 => k_is)
    (case k25 => k_is)
    (case a26 => k_is)
    (case l26 => k_is)
    (case c26 => k_is)
    (case k26 => k_is)
    (case a28 => k_is)
    (case l28 => k_is)
    (case c28 => k_is)
    (case k28 => k_is)
    (case a29 => k_is)
    (case l29 => k_is)
    (case c29 => k_is)
    (case k29 => k_is)
    (case a30 => k_is)
    (case l30 => k_is)
    (case c30 => k_is)
    (case k30 => k_is)
    (case a31 => k_is)
    (case l31 => k_is)
    (case c31 => k_is)
    (case k31 => k_is)
    (case a32 => k_is)
    (case l32 => k_is)
    (case c32 => k_is)
    (case k32 => k_is)
    (case a33 => k_is)
    (case l33 => k_is)
    (case c33 => k_is)
    (case k33 => k_is)
    (case a41 => k_is)
    (case l41 => k_is)
    (case c41 => k_is)
    (case k41 => k_is)
    (case a42 => k_is)
    (case l42 => k_is)
    (case c42 => k_is)
    (case k42 => k_is)
    (case a43 => k_is)
    (case l43 => k_is)
    (case c43 => k_is)
    (case k43 => k_is)
    (case a44 => k_is)
    (case l44 => k_is)
    (case c44 => k_is)
    (case k44 => k_is)
    (case a45 => k_is)
    (case l45 => k_is)
    (case c45 => k_is)
    (case k45 => k_is)
    (case a46 => k_is)
    (case l46 => k_is)
    (case c46 => k_is)
    (case k46 => k_is)
    (case a47 => k_is)
    (case l47 => k_is)
    (case c47 => k_is)
    (case k47 => k_is)
    (case a48 => k_is)
    (case l48 => k_is)
    (case c48 => k_is)
    (case k48 => k_is)
    (case a49 => k_is)
    (case l49 => k_is)
    (case c49 => k_is)
    (case k49 => k_is)
    (case a50 => k_is)
    (case l50 => k_is)
    (case c50 => k_is)
    (case k50 => k_is)
    (case a57 => k_is)
    (case l57 => k_is)
    (case c57 => k_is)
    (case k57 => k_is)
    (case aC => k_is)
    (case am0 => k_is)
    (case im0 => k_is)
    (case lm0 => k_is)
    (case cm0 => k_is)
    (case km0 => k_is)
    (case am1 => k_is)
    (case im1 => k_is)
    (case lm1 => k_is)
    (case cm1 => k_is)
    (case km1 => k_is)
    (case am2 => k_is)
    (case im2 => k_is)
    (case lm2 => k_is)
    (case cm2 => k_is)
    (case km2 => k_is)
    (case am3 => k_is)
    (case im3 => k_is)
    (case lm3 => k_is)
    (case cm3 => k_is)
    (case km3 => k_is)
    (case pg => k_is)
    (case hd => k_is)
    (case po => k_is)
    (case sa => k_is)
    (case mk => k_is)
    (case kc => k_is)
    (case nR => k_is)
    (case nK => k_is)
    (case i_CANNOT_BE => k_is)
    (case i_NONE_KEPT => k_is)
    (case i_NOT_SO => k_is)
    (case i_MOST_WIDE => k_is)
    (case i_MOST_COLOUR => k_is)
    (case i_MOST_WEIGHT => k_is)
    (case i_MOST_KEPT => k_is)
    (case i_WITH_A_LIST => k_is)
    (case b_len => k_is)
    (case b_range => k_is)
    (case b_zip => k_is)
    (case b_enumerate => k_is)
    (case b_max => k_is)
    (case b_min => k_is)
    (case b_abs => k_is)
    (case b_list => k_is)
    (case b_reversed => k_is)
    (case aF_ => k_is)
    (case lF_ => k_is)
    (case aM_ => k_is)
    (case lM_ => k_is)
    (case aD_ => k_is)
    (case lD_ => k_is)
    (case nd_ => decide)
  case S =>
    intro K H xs a hO hwi hask hx
    cases hx with
    | cons h1 h2 =>
      cases h2
      cases h1 with
      | lst hs ha =>
        have e := L2.ints_dw a.1 _ ha
        subst e
        exact ⟨_, a.1, rfl, hs, hask, fun H' p hp => .lst (L2.SqL.of hp) (L2.dw_ints _)⟩
#print axioms PySem.Challenge.cw_leastseams_s01_answers_holds
