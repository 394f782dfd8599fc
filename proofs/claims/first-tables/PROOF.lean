import PyProof.Rows.All
import Wide.All
import OpenK.AllK
import Wide.FinOn
import HandS.ForMost
import HandS.IsInst
import HandS.TupLen
import HandS.TupAny
import HandS.SetFor
import HandS.Zip
import KE.KTupSum
import KE.GoesComp
import KE.GoesMore
import HandS.Codes
import PySem.Challenge.RW_leastmoved_k39_whole_first_tables
set_option Elab.async false
set_option linter.all false
set_option maxRecDepth 100000
set_option maxHeartbeats 4000000
/-! The plain law of the first table: lists of numbers, no program in sight. -/
namespace Ft
set_option autoImplicit false
/-! ### rows and tables, one after another -/
abbrev Row := List Nat
abbrev Tab := List Row
/-- all rows that go on from a row by m cells -/
def rowsFrom (k : Nat) (a : Row) : Nat → Row → List Row
  | 0, row => [row]
  | m + 1, row => (List.range k).flatMap fun v => if row.count v < a.getD v 0 then rowsFrom k a m (row ++ [v]) else []
/-- all tables that go on from some rows -/
def tabsFrom (k b : Nat) : List Row → Tab → List Tab
  | [], done => [done]
  | a :: rest, done => (rowsFrom k a b []).flatMap fun r => tabsFrom k b rest (done ++ [r])
def needless (A B : Row) (x y : Nat) : Bool := (x != y) && (decide (A.getD x 0 ≤ B.getD x 0) || decide (B.getD y 0 ≤ A.getD y 0))
def rowKeeps (A B x y : Row) : Bool := (x.zip y).all fun p => !needless A B p.1 p.2
def keeps (al : List Row) (ps : List (Nat × Nat)) (t : Tab) : Bool :=
  ps.all fun p => rowKeeps (al.getD p.1 []) (al.getD p.2 []) (t.getD p.1 []) (t.getD p.2 [])
/-- the next cell -/
def fitsP (al : List Row) (ps : List (Nat × Nat)) (done : Tab) (row : Row) (v : Nat) : Bool :=
  ps.all fun p => !((p.2 == done.length) && needless (al.getD p.1 []) (al.getD p.2 []) ((done.getD p.1 []).getD row.length 0) v)
def fits (al : List Row) (ps : List (Nat × Nat)) (done : Tab) (row : Row) (v : Nat) : Bool :=
  decide (row.count v < (al.getD done.length []).getD v 0) && fitsP al ps done row v
/-- the search, by fuel -/
def fillM (al : List Row) (ps : List (Nat × Nat)) (b k : Nat) : Nat → Tab → Row → Option Tab
  | 0, _, _ => none
  | f + 1, done, row =>
    if done.length = al.length then some done
    else if row.length = b then fillM al ps b k f (done ++ [row]) []
    else (List.range k).findSome? fun v => if fits al ps done row v = true then fillM al ps b k f done (row ++ [v]) else none

/-! ### what stands in the lists -/
theorem mem_rows {k : Nat} {a : Row} : ∀ {m : Nat} {row r : Row}, r ∈ rowsFrom k a m row → ∃ s, r = row ++ s ∧ s.length = m ∧ (∀ v ∈ s, v < k) ∧ ((∀ v, row.count v ≤ a.getD v 0) → ∀ v, r.count v ≤ a.getD v 0)
  | 0, row, r, h => by
    have e : r = row := by simpa [rowsFrom] using h
    subst e
    exact ⟨[], by simp, rfl, by simp, fun h => h⟩
  | m + 1, row, r, h => by
    unfold rowsFrom at h
    obtain ⟨v, hv, h⟩ := List.mem_flatMap.mp h
    have hv : v < k := List.mem_range.mp hv
    by_cases hc : row.count v < a.getD v 0
    · rw [if_pos hc] at h
      obtain ⟨s, e, hl, hs, hk⟩ := mem_rows h
      refine ⟨v :: s, by rw [e, List.append_assoc]; rfl, by rw [List.length_cons, hl], fun u hu => ?_, fun hr => hk fun u => ?_⟩
      · rcases List.mem_cons.mp hu with rfl | hu
        · exact hv
        · exact hs u hu
      · rw [List.count_append]
        by_cases e : v = u
        · subst e
          rw [List.count_singleton_self]
          omega
        · have : ([v] : List Nat).count u = 0 := List.count_eq_zero.mpr (by
            intro hm
            exact e (List.mem_singleton.mp hm).symm)
          rw [this]
          exact hr u
    · rw [if_neg hc] at h
      cases h
theorem mem_tabs {k b : Nat} : ∀ {rest : List Row} {done t : Tab}, t ∈ tabsFrom k b rest done → ∃ u, t = done ++ u ∧ u.length = rest.length ∧ ∀ i, i < rest.length → u.getD i [] ∈ rowsFrom k (rest.getD i []) b []
  | [], done, t, h => by
    have e : t = done := by simpa [tabsFrom] using h
    subst e
    exact ⟨[], by simp, rfl, fun i hi => absurd hi (Nat.not_lt_zero _)⟩
  | a :: rest, done, t, h => by
    unfold tabsFrom at h
    obtain ⟨r, hr, h⟩ := List.mem_flatMap.mp h
    obtain ⟨u, e, hl, hu⟩ := mem_tabs h
    refine ⟨r :: u, by rw [e, List.append_assoc]; rfl, by rw [List.length_cons, List.length_cons, hl], fun i hi => ?_⟩
    cases i with
    | zero => exact hr
    | succ i => exact hu i (by simpa using hi)

/-! ### the search finds the first -/
theorem getD_app {α : Type} {xs ys : List α} {i : Nat} {d : α} (h : i < xs.length) : (xs ++ ys).getD i d = xs.getD i d := by
  rw [List.getD_eq_getElem?_getD, List.getD_eq_getElem?_getD, List.getElem?_append_left h]
theorem getD_app_at {α : Type} {xs ys : List α} {y d : α} : (xs ++ y :: ys).getD xs.length d = y := by
  rw [List.getD_eq_getElem?_getD, List.getElem?_append_right (Nat.le_refl _), Nat.sub_self]
  rfl
/-- the rest of the tables from a row begun -/
def compl (al : List Row) (b k : Nat) (done : Tab) (row : Row) : List Tab :=
  if done.length = al.length then [done]
  else (rowsFrom k (al.getD done.length []) (b - row.length) row).flatMap fun r => tabsFrom k b (al.drop (done.length + 1)) (done ++ [r])
theorem compl_nil {al : List Row} {b k : Nat} {done : Tab} (h : done.length ≤ al.length) : compl al b k done [] = tabsFrom k b (al.drop done.length) done := by
  unfold compl
  by_cases e : done.length = al.length
  · rw [if_pos e, e, List.drop_length]
    rfl
  · have hlt : done.length < al.length := by omega
    rw [if_neg e, List.drop_eq_getElem_cons hlt]
    have eg : al.getD done.length [] = al[done.length] := by
      rw [List.getD_eq_getElem?_getD, List.getElem?_eq_getElem hlt]
      rfl
    rw [eg]
    rfl
structure FInv (al : List Row) (ps : List (Nat × Nat)) (b : Nat) (done : Tab) (row : Row) : Prop where
  dl : done.length ≤ al.length
  rl : row.length ≤ b
  full : ∀ r ∈ done, r.length = b
  pr : ∀ p ∈ ps, p.1 < p.2 ∧ p.2 < al.length
  okd : ∀ p ∈ ps, p.2 < done.length → rowKeeps (al.getD p.1 []) (al.getD p.2 []) (done.getD p.1 []) (done.getD p.2 []) = true
  okr : ∀ p ∈ ps, p.2 = done.length → ∀ c, c < row.length → needless (al.getD p.1 []) (al.getD p.2 []) ((done.getD p.1 []).getD c 0) (row.getD c 0) = false
def need (al : List Row) (b : Nat) (done : Tab) (row : Row) : Nat := (al.length - done.length) * (b + 1) + 1 - row.length
theorem rowKeeps_iff {A B x y : Row} (h : x.length = y.length) : rowKeeps A B x y = true ↔ ∀ c, c < x.length → needless A B (x.getD c 0) (y.getD c 0) = false := by
  unfold rowKeeps
  rw [List.all_eq_true]
  constructor
  · intro H c hc
    have hy : c < y.length := by omega
    have hz : c < (x.zip y).length := by rw [List.length_zip]; omega
    have hm := H (x.zip y)[c] (List.getElem_mem hz)
    rw [List.getElem_zip] at hm
    rw [List.getD_eq_getElem?_getD, List.getD_eq_getElem?_getD, List.getElem?_eq_getElem hc, List.getElem?_eq_getElem hy]
    simpa using hm
  · intro H p hp
    obtain ⟨c, hc, e⟩ := List.getElem_of_mem hp
    have hcx : c < x.length := by rw [List.length_zip] at hc; omega
    have hcy : c < y.length := by omega
    have := H c hcx
    rw [List.getElem_zip] at e
    rw [List.getD_eq_getElem?_getD, List.getD_eq_getElem?_getD, List.getElem?_eq_getElem hcx, List.getElem?_eq_getElem hcy] at this
    subst e
    simpa using this
theorem findSome_congr {α β : Type} {f g : α → Option β} : ∀ {l : List α}, (∀ x ∈ l, f x = g x) → l.findSome? f = l.findSome? g
  | [], _ => rfl
  | x :: l, h => by
    rw [List.findSome?_cons, List.findSome?_cons, h x (List.mem_cons_self ..), findSome_congr fun y hy => h y (List.mem_cons_of_mem _ hy)]
theorem fillM_find {al : List Row} {ps : List (Nat × Nat)} {b k : Nat} : ∀ (f : Nat) (done : Tab) (row : Row), FInv al ps b done row → (done.length = al.length → row = []) → need al b done row ≤ f →
    fillM al ps b k f done row = (compl al b k done row).find? (keeps al ps)
  | 0, done, row, I, hn, hf => by
    exfalso
    unfold need at hf
    have := I.rl
    by_cases e : done.length = al.length
    · rw [hn e] at hf
      simp at hf
    · have h1 : 1 ≤ al.length - done.length := by have := I.dl; omega
      have h2 : 1 * (b + 1) ≤ (al.length - done.length) * (b + 1) := Nat.mul_le_mul_right _ h1
      omega
  | f + 1, done, row, I, hn, hf => by
    unfold fillM
    by_cases e : done.length = al.length
    · rw [if_pos e]
      unfold compl
      rw [if_pos e]
      have hk : keeps al ps done = true := by
        unfold keeps
        rw [List.all_eq_true]
        intro p hp
        exact I.okd p hp (by rw [e]; exact (I.pr p hp).2)
      rw [List.find?_cons, hk]
    · rw [if_neg e]
      have hlt : done.length < al.length := by have := I.dl; omega
      by_cases hb : row.length = b
      · rw [if_pos hb]
        have I' : FInv al ps b (done ++ [row]) [] := by
          refine ⟨by rw [List.length_append]; exact hlt, Nat.zero_le _, fun r hr => ?_, I.pr, fun p hp h2 => ?_, fun p hp h2 c hc => absurd hc (Nat.not_lt_zero _)⟩
          · rcases List.mem_append.mp hr with hr | hr
            · exact I.full r hr
            · rw [List.mem_singleton.mp hr]
              exact hb
          · have h12 := (I.pr p hp).1
            rw [List.length_append, List.length_singleton] at h2
            by_cases h3 : p.2 < done.length
            · rw [getD_app h3, getD_app (by omega)]
              exact I.okd p hp h3
            · have h4 : p.2 = done.length := by omega
              have hd1 : p.1 < done.length := by omega
              rw [getD_app hd1, h4, getD_app_at]
              have hl : (done.getD p.1 []).length = row.length := by
                rw [hb]
                rw [List.getD_eq_getElem?_getD, List.getElem?_eq_getElem hd1]
                exact I.full _ (List.getElem_mem hd1)
              rw [rowKeeps_iff hl]
              intro c hc
              have := I.okr p hp h4 c (by omega)
              rw [h4] at this
              exact this
        rw [fillM_find f (done ++ [row]) [] I' (fun _ => rfl) ?_]
        · rw [compl_nil (by rw [List.length_append]; exact hlt)]
          unfold compl
          rw [if_neg e, hb, Nat.sub_self]
          show _ = (([row] : List Row).flatMap _).find? _
          rw [List.flatMap_cons, List.flatMap_nil, List.append_nil, List.length_append, List.length_singleton]
        · unfold need at hf ⊢
          rw [List.length_append, List.length_singleton, List.length_nil]
          have e1 : al.length - done.length = (al.length - (done.length + 1)) + 1 := by omega
          rw [e1, Nat.add_mul] at hf
          omega
      · rw [if_neg hb]
        have hrl : row.length < b := by have := I.rl; omega
        unfold compl
        rw [if_neg e]
        have em : b - row.length = (b - (row.length + 1)) + 1 := by omega
        rw [em]
        rw [rowsFrom, List.flatMap_assoc, List.find?_flatMap]
        refine findSome_congr fun v hv => ?_
        by_cases hc : row.count v < (al.getD done.length []).getD v 0
        · rw [if_pos hc]
          by_cases hp : fitsP al ps done row v = true
          · have hfit : fits al ps done row v = true := by
              unfold fits
              rw [hp, decide_eq_true hc]
              rfl
            rw [if_pos hfit]
            have I' : FInv al ps b done (row ++ [v]) := by
              refine ⟨I.dl, by rw [List.length_append]; exact hrl, I.full, I.pr, I.okd, fun p hpm h2 c hc2 => ?_⟩
              rw [List.length_append, List.length_singleton] at hc2
              by_cases h3 : c < row.length
              · rw [getD_app h3]
                exact I.okr p hpm h2 c h3
              · have h4 : c = row.length := by omega
                subst h4
                rw [getD_app_at]
                unfold fitsP at hp
                have := List.all_eq_true.mp hp p hpm
                rw [h2, beq_self_eq_true, Bool.true_and] at this
                rw [h2]
                simpa using this
            rw [fillM_find f done (row ++ [v]) I' (fun z => absurd z e) ?_]
            · unfold compl
              rw [if_neg e, List.length_append, List.length_singleton]
            · unfold need at hf ⊢
              rw [List.length_append, List.length_singleton]
              have h1 : 1 ≤ al.length - done.length := by omega
              have h2 : 1 * (b + 1) ≤ (al.length - done.length) * (b + 1) := Nat.mul_le_mul_right _ h1
              omega
          · have hfit : ¬ fits al ps done row v = true := by
              unfold fits
              intro z
              exact hp (Bool.and_eq_true_iff.mp z).2
            rw [if_neg hfit]
            symm
            rw [List.find?_eq_none]
            intro t ht hk
            obtain ⟨r, hr, ht⟩ := List.mem_flatMap.mp ht
            obtain ⟨s, er, hs, _⟩ := mem_rows hr
            obtain ⟨u, et, _⟩ := mem_tabs ht
            apply hp
            unfold fitsP
            rw [List.all_eq_true]
            intro p hpm
            unfold keeps at hk
            have hkp := List.all_eq_true.mp hk p hpm
            have h12 := (I.pr p hpm).1
            by_cases h2 : p.2 = done.length
            · have hd1 : p.1 < done.length := by omega
              have g1 : t.getD p.1 [] = done.getD p.1 [] := by
                rw [et, List.append_assoc, getD_app hd1]
              have g2 : t.getD p.2 [] = r := by
                rw [et, h2, List.append_assoc]
                exact getD_app_at
              have hl1 : (done.getD p.1 []).length = b := by
                rw [List.getD_eq_getElem?_getD, List.getElem?_eq_getElem hd1]
                exact I.full _ (List.getElem_mem hd1)
              have hl2 : r.length = b := by
                rw [er, List.length_append, List.length_append, List.length_singleton, hs]
                omega
              rw [g1, g2, rowKeeps_iff (by rw [hl1, hl2])] at hkp
              have := hkp row.length (by rw [hl1]; exact hrl)
              have g3 : r.getD row.length 0 = v := by
                rw [er, List.append_assoc]
                exact getD_app_at
              rw [g3] at this
              rw [this, Bool.and_false]
              rfl
            · have : (p.2 == done.length) = false := by simpa using h2
              rw [this, Bool.false_and]
              rfl
        · rw [if_neg hc]
          have hfit : ¬ fits al ps done row v = true := by
            unfold fits
            intro z
            exact hc (of_decide_eq_true (Bool.and_eq_true_iff.mp z).1)
          rw [if_neg hfit]
          rfl
/-- from the empty table -/
theorem fillM_first {al : List Row} {ps : List (Nat × Nat)} {b k f : Nat} (pr : ∀ p ∈ ps, p.1 < p.2 ∧ p.2 < al.length) (hf : al.length * (b + 1) + 1 ≤ f) : fillM al ps b k f [] [] = (tabsFrom k b al []).find? (keeps al ps) := by
  rw [fillM_find f [] [] ⟨Nat.zero_le _, Nat.zero_le _, by simp, pr, fun p hp h => absurd h (Nat.not_lt_zero _), fun p hp h c hc => absurd hc (Nat.not_lt_zero _)⟩ (fun _ => rfl) (by unfold need; simpa using hf)]
  rw [compl_nil (Nat.zero_le _)]
  rfl
end Ft

/-! The law's own enumeration, and when a pair is kept. -/
namespace Ft
set_option autoImplicit false
/-! ### the law's lists -/
def asgStep (k : Nat) (a row : Row) : List Row := (List.range k).flatMap fun v => if row.count v < a.getD v 0 then [row ++ [v]] else []
def asg (k : Nat) (a : Row) : Nat → List Row
  | 0 => [[]]
  | m + 1 => (asg k a m).flatMap (asgStep k a)
theorem asg_rows {k : Nat} {a : Row} : ∀ (m j : Nat), (asg k a m).flatMap (rowsFrom k a j) = rowsFrom k a (m + j) []
  | 0, j => by
    show rowsFrom k a j [] ++ [] = _
    rw [List.append_nil, Nat.zero_add]
  | m + 1, j => by
    show ((asg k a m).flatMap (asgStep k a)).flatMap (rowsFrom k a j) = _
    rw [List.flatMap_assoc]
    have e : (fun row => (asgStep k a row).flatMap (rowsFrom k a j)) = rowsFrom k a (j + 1) := by
      funext row
      unfold asgStep
      rw [List.flatMap_assoc]
      show _ = (List.range k).flatMap fun v => if row.count v < a.getD v 0 then rowsFrom k a j (row ++ [v]) else []
      congr 1
      funext v
      split
      · rw [List.flatMap_cons, List.flatMap_nil, List.append_nil]
      · rfl
    rw [e, asg_rows m (j + 1)]
    congr 1
    omega
theorem asg_eq {k : Nat} {a : Row} (m : Nat) : asg k a m = rowsFrom k a m [] := by
  have h := asg_rows (k := k) (a := a) m 0
  have e : (rowsFrom k a 0) = fun r => [r] := by
    funext r
    rfl
  rw [e, Nat.add_zero] at h
  rw [← h]
  simp
def tabStep (k b : Nat) (rows : List Tab) (a : Row) : List Tab := rows.flatMap fun row => (asg k a b).map fun one => row ++ [one]
def tabsL (k b : Nat) (al : List Row) : List Tab := al.foldl (tabStep k b) [[]]
theorem foldl_tabs {k b : Nat} : ∀ (al : List Row) (R : List Tab), al.foldl (tabStep k b) R = R.flatMap (tabsFrom k b al)
  | [], R => by
    show R = R.flatMap (fun d => [d])
    simp
  | a :: rest, R => by
    show rest.foldl (tabStep k b) (tabStep k b R a) = _
    rw [foldl_tabs rest]
    unfold tabStep
    rw [List.flatMap_assoc]
    congr 1
    funext row
    show _ = (rowsFrom k a b []).flatMap fun r => tabsFrom k b rest (row ++ [r])
    rw [asg_eq, List.flatMap_map]
theorem tabsL_eq {k b : Nat} (al : List Row) : tabsL k b al = tabsFrom k b al [] := by
  unfold tabsL
  rw [foldl_tabs]
  simp
theorem tabs_shift {k b : Nat} : ∀ (rest : List Row) (d done : Tab), tabsFrom k b rest (d ++ done) = (tabsFrom k b rest done).map (d ++ ·)
  | [], d, done => rfl
  | a :: rest, d, done => by
    show (rowsFrom k a b []).flatMap (fun r => tabsFrom k b rest (d ++ done ++ [r])) = ((rowsFrom k a b []).flatMap fun r => tabsFrom k b rest (done ++ [r])).map (d ++ ·)
    rw [List.map_flatMap]
    congr 1
    funext r
    rw [List.append_assoc, tabs_shift rest d]
/-- the law's two loops -/
def firstL (p : Tab → Bool) (starts : List Row) (rows : List Tab) : Option Tab := starts.findSome? fun s => (rows.find? fun r => p (s :: r)).map (s :: ·)
theorem firstL_eq {k b : Nat} {p : Tab → Bool} {a : Row} {rest : List Row} : firstL p (asg k a b) (tabsL k b rest) = (tabsFrom k b (a :: rest) []).find? p := by
  unfold firstL
  rw [asg_eq, tabsL_eq]
  show _ = ((rowsFrom k a b []).flatMap fun r => tabsFrom k b rest ([] ++ [r])).find? p
  rw [List.find?_flatMap]
  congr 1
  funext s
  rw [List.nil_append]
  have e := tabs_shift (k := k) (b := b) rest [s] []
  rw [List.append_nil] at e
  rw [e, List.find?_map]
  rfl

/-! ### sums over the variants -/
def sumTo : Nat → (Nat → Nat) → Nat
  | 0, _ => 0
  | k + 1, f => sumTo k f + f k
theorem sumTo_congr {f g : Nat → Nat} : ∀ {k : Nat}, (∀ v, v < k → f v = g v) → sumTo k f = sumTo k g
  | 0, _ => rfl
  | k + 1, h => by
    unfold sumTo
    rw [sumTo_congr fun v hv => h v (by omega), h k (by omega)]
theorem sumTo_le {f g : Nat → Nat} : ∀ {k : Nat}, (∀ v, v < k → f v ≤ g v) → sumTo k f ≤ sumTo k g
  | 0, _ => Nat.le_refl _
  | k + 1, h => by
    unfold sumTo
    have := sumTo_le (k := k) fun v hv => h v (by omega)
    have := h k (by omega)
    omega
theorem sumTo_eq {f g : Nat → Nat} : ∀ {k : Nat}, (∀ v, v < k → f v ≤ g v) → sumTo k f = sumTo k g → ∀ v, v < k → f v = g v
  | 0, _, _, v, hv => absurd hv (Nat.not_lt_zero _)
  | k + 1, h, e, v, hv => by
    unfold sumTo at e
    have h1 := sumTo_le (k := k) fun v hv => h v (by omega)
    have h2 := h k (by omega)
    by_cases q : v = k
    · subst q
      omega
    · exact sumTo_eq (k := k) (fun v hv => h v (by omega)) (by omega) v (by omega)
theorem sumTo_add {f g : Nat → Nat} : ∀ {k : Nat}, sumTo k (fun v => f v + g v) = sumTo k f + sumTo k g
  | 0 => rfl
  | k + 1 => by
    show sumTo k (fun v => f v + g v) + (f k + g k) = sumTo k f + f k + (sumTo k g + g k)
    rw [sumTo_add]
    omega
theorem sumTo_zero : ∀ {k : Nat}, sumTo k (fun _ => 0) = 0
  | 0 => rfl
  | k + 1 => by
    show sumTo k (fun _ => 0) + 0 = 0
    rw [sumTo_zero]
theorem sumTo_one {c : Nat} : ∀ {k : Nat}, sumTo k (fun v => if c = v then 1 else 0) = if c < k then 1 else 0
  | 0 => rfl
  | k + 1 => by
    show sumTo k (fun v => if c = v then 1 else 0) + (if c = k then 1 else 0) = _
    rw [sumTo_one]
    by_cases h1 : c < k
    · rw [if_pos h1, if_neg (by omega), if_pos (by omega)]
    · by_cases h2 : c = k
      · rw [if_neg h1, if_pos h2, if_pos (by omega)]
      · rw [if_neg h1, if_neg h2, if_neg (by omega)]
theorem sumTo_succ' {f : Nat → Nat} : ∀ {k : Nat}, sumTo (k + 1) f = f 0 + sumTo k (fun v => f (v + 1))
  | 0 => by
    simp [sumTo]
  | k + 1 => by
    show sumTo (k + 1) f + f (k + 1) = f 0 + (sumTo k (fun v => f (v + 1)) + f (k + 1))
    rw [sumTo_succ']
    omega
theorem sum_getD : ∀ {a : Row} {k : Nat}, a.length = k → a.sum = sumTo k fun v => a.getD v 0
  | [], k, h => by
    subst h
    rfl
  | x :: a, k, h => by
    obtain ⟨j, rfl⟩ : ∃ j, k = j + 1 := ⟨a.length, h.symm⟩
    rw [List.sum_cons, sumTo_succ', sum_getD (a := a) (k := j) (by simpa using h)]
    rfl
theorem count_cons_if {x v : Nat} {r : Row} : (x :: r).count v = r.count v + if x = v then 1 else 0 := by
  rw [List.count_cons]
  congr 1
  by_cases h : x = v
  · rw [if_pos h, if_pos (by simpa using h)]
  · rw [if_neg h, if_neg (by simpa using h)]
theorem sum_count {k : Nat} : ∀ {x : Row}, (∀ v ∈ x, v < k) → sumTo k (fun v => x.count v) = x.length
  | [], _ => by
    simp only [List.count_nil]
    exact sumTo_zero
  | c :: r, h => by
    have e : (fun v => (c :: r).count v) = fun v => r.count v + if c = v then 1 else 0 := by
      funext v
      exact count_cons_if
    rw [e, sumTo_add, sum_count (x := r) fun v hv => h v (List.mem_cons_of_mem _ hv), sumTo_one, if_pos (h c (List.mem_cons_self ..))]
    rfl
/-- an assignment has the shares of its allocation -/
theorem asg_count {k b : Nat} {a r : Row} (hl : a.length = k) (hs : a.sum = b) (h : r ∈ rowsFrom k a b []) : r.length = b ∧ (∀ v ∈ r, v < k) ∧ ∀ v, v < k → r.count v = a.getD v 0 := by
  obtain ⟨s, e, h1, h2, h3⟩ := mem_rows h
  rw [List.nil_append] at e
  subst e
  refine ⟨h1, h2, sumTo_eq (k := k) (fun v _ => h3 (fun v => Nat.zero_le _) v) ?_⟩
  rw [sum_count h2, h1, ← sum_getD hl, hs]

/-! ### churn and transfer -/
def churn (x y : Row) : Nat := ((List.range x.length).filter fun c => decide (x.getD c 0 ≠ y.getD c 0)).length
def transfer (A B : Row) : Nat := ((A.zip B).map fun p => p.1 - p.2).sum
def outs (z : List (Nat × Nat)) (v : Nat) : Nat := z.countP fun p => decide (p.1 = v) && decide (p.1 ≠ p.2)
def inns (z : List (Nat × Nat)) (v : Nat) : Nat := z.countP fun p => decide (p.2 = v) && decide (p.1 ≠ p.2)
def stay (z : List (Nat × Nat)) (v : Nat) : Nat := z.countP fun p => decide (p.1 = v) && decide (p.1 = p.2)
theorem count_fst : ∀ {z : List (Nat × Nat)} {v : Nat}, (z.map (·.1)).count v = outs z v + stay z v
  | [], _ => rfl
  | (a, c) :: z, v => by
    have ih := count_fst (z := z) (v := v)
    unfold outs stay at ih ⊢
    rw [List.map_cons, count_cons_if, ih, List.countP_cons, List.countP_cons]
    by_cases h1 : a = v
    · by_cases h2 : a = c
      · simp only [h1, decide_true, Bool.true_and, if_true, show v = c from h1 ▸ h2, decide_not, Bool.not_true, Bool.false_eq_true, if_false, ne_eq]
        omega
      · have h3 : ¬ v = c := fun e => h2 (h1.trans e)
        simp only [h1, decide_true, Bool.true_and, if_true, h3, decide_not, decide_false, Bool.not_false, Bool.false_eq_true, if_false, ne_eq]
        omega
    · simp only [h1, decide_false, Bool.false_and, Bool.false_eq_true, if_false]
      omega
theorem count_snd : ∀ {z : List (Nat × Nat)} {v : Nat}, (z.map (·.2)).count v = inns z v + stay z v
  | [], _ => rfl
  | (a, c) :: z, v => by
    have ih := count_snd (z := z) (v := v)
    unfold inns stay at ih ⊢
    rw [List.map_cons, count_cons_if, ih, List.countP_cons, List.countP_cons]
    by_cases h2 : a = c
    · subst h2
      by_cases h1 : a = v
      · simp only [h1, decide_true, Bool.true_and, if_true, decide_not, Bool.not_true, Bool.false_eq_true, if_false, ne_eq]
        omega
      · simp only [h1, decide_false, Bool.false_and, Bool.false_eq_true, if_false]
        omega
    · by_cases h1 : c = v
      · have h3 : ¬ a = v := fun e => h2 (e.trans h1.symm)
        simp only [h1, h3, decide_true, decide_false, Bool.true_and, Bool.false_and, if_true, decide_not, Bool.not_false, Bool.false_eq_true, if_false, ne_eq]
        omega
      · simp only [h1, h2, decide_false, Bool.false_and, Bool.and_false, Bool.false_eq_true, if_false]
        omega
theorem sum_outs {k : Nat} : ∀ {z : List (Nat × Nat)}, (∀ p ∈ z, p.1 < k) → sumTo k (outs z) = z.countP fun p => decide (p.1 ≠ p.2)
  | [], _ => by
    show sumTo k (fun _ => 0) = 0
    exact sumTo_zero
  | (a, c) :: z, h => by
    have ih := sum_outs (z := z) fun p hp => h p (List.mem_cons_of_mem _ hp)
    have ha : a < k := h (a, c) (List.mem_cons_self ..)
    rw [List.countP_cons, ← ih]
    by_cases h2 : a = c
    · have e : outs ((a, c) :: z) = outs z := by
        funext v
        unfold outs
        rw [List.countP_cons]
        simp [h2]
      rw [e]
      simp [h2]
    · have e : outs ((a, c) :: z) = fun v => outs z v + if a = v then 1 else 0 := by
        funext v
        unfold outs
        rw [List.countP_cons]
        by_cases h1 : a = v
        · subst h1
          simp [h2]
        · simp [h1]
      rw [e, sumTo_add, sumTo_one, if_pos ha]
      simp [h2]
theorem churn_zip {x y : Row} (h : x.length = y.length) : churn x y = (x.zip y).countP fun p => decide (p.1 ≠ p.2) := by
  unfold churn
  have e : x.zip y = (List.range x.length).map fun c => (x.getD c 0, y.getD c 0) := by
    apply List.ext_getElem
    · rw [List.length_zip, List.length_map, List.length_range]
      omega
    · intro i h1 h2
      have hx : i < x.length := by rw [List.length_zip] at h1; omega
      have hy : i < y.length := by omega
      rw [List.getElem_zip, List.getElem_map, List.getElem_range, List.getD_eq_getElem?_getD, List.getD_eq_getElem?_getD, List.getElem?_eq_getElem hx, List.getElem?_eq_getElem hy]
      rfl
  rw [e, List.countP_map, List.countP_eq_length_filter]
  rfl
theorem transfer_sum : ∀ {A B : Row} {k : Nat}, A.length = k → B.length = k → transfer A B = sumTo k fun v => A.getD v 0 - B.getD v 0
  | [], B, k, h, _ => by
    subst h
    rfl
  | x :: A, [], k, h, h' => by
    subst h'
    cases h
  | x :: A, y :: B, k, h, h' => by
    obtain ⟨j, rfl⟩ : ∃ j, k = j + 1 := ⟨A.length, h.symm⟩
    rw [sumTo_succ']
    show (x - y) + transfer A B = _
    rw [transfer_sum (A := A) (B := B) (k := j) (by simpa using h) (by simpa using h')]
    rfl
theorem map_fst_zip' {x y : Row} (h : x.length = y.length) : (x.zip y).map (·.1) = x := List.map_fst_zip (by omega)
theorem map_snd_zip' {x y : Row} (h : x.length = y.length) : (x.zip y).map (·.2) = y := List.map_snd_zip (by omega)
/-- a pair is kept: the churn is the transfer just where no cell moves needlessly -/
theorem kept_iff {k b : Nat} {A B x y : Row} (hA : A.length = k) (hB : B.length = k) (sA : A.sum = b) (sB : B.sum = b) (hx : x ∈ rowsFrom k A b []) (hy : y ∈ rowsFrom k B b []) :
    churn x y = transfer A B ↔ rowKeeps A B x y = true := by
  obtain ⟨lx, vx, cx⟩ := asg_count hA sA hx
  obtain ⟨ly, vy, cy⟩ := asg_count hB sB hy
  have hl : x.length = y.length := by rw [lx, ly]
  have zx : ∀ p ∈ x.zip y, p.1 < k := fun p hp => vx _ (List.of_mem_zip hp).1
  have zy : ∀ p ∈ x.zip y, p.2 < k := fun p hp => vy _ (List.of_mem_zip hp).2
  rw [churn_zip hl, transfer_sum hA hB, ← sum_outs zx]
  have eA : ∀ v, v < k → A.getD v 0 = outs (x.zip y) v + stay (x.zip y) v := fun v hv => by
    rw [← cx v hv, ← count_fst, map_fst_zip' hl]
  have eB : ∀ v, v < k → B.getD v 0 = inns (x.zip y) v + stay (x.zip y) v := fun v hv => by
    rw [← cy v hv, ← count_snd, map_snd_zip' hl]
  have key : rowKeeps A B x y = true ↔ ∀ v, v < k → A.getD v 0 - B.getD v 0 = outs (x.zip y) v := by
    have st : ∀ p ∈ x.zip y, p.1 ≠ p.2 → 0 < outs (x.zip y) p.1 ∧ 0 < inns (x.zip y) p.2 := fun p hp hne =>
      ⟨List.countP_pos_iff.mpr ⟨p, hp, by simp [hne]⟩, List.countP_pos_iff.mpr ⟨p, hp, by simp [hne]⟩⟩
    unfold rowKeeps
    rw [List.all_eq_true]
    constructor
    · intro H v hv
      rw [eA v hv, eB v hv]
      by_cases ho : 0 < outs (x.zip y) v
      · by_cases hi : 0 < inns (x.zip y) v
        · exfalso
          obtain ⟨p, hp, q⟩ := List.countP_pos_iff.mp ho
          obtain ⟨p', hp', q'⟩ := List.countP_pos_iff.mp hi
          simp only [Bool.and_eq_true, decide_eq_true_eq] at q q'
          have n1 := H p hp
          have n2 := H p' hp'
          unfold needless at n1 n2
          have b1 : (p.1 != p.2) = true := by simpa using q.2
          have b2 : (p'.1 != p'.2) = true := by simpa using q'.2
          rw [b1] at n1
          rw [b2] at n2
          simp only [Bool.true_and, Bool.not_eq_true', Bool.or_eq_false_iff, decide_eq_false_iff_not, q.1, q'.1] at n1 n2
          omega
        · omega
      · omega
    · intro H p hp
      by_cases hne : p.1 = p.2
      · unfold needless
        rw [hne]
        simp
      · obtain ⟨s1, s2⟩ := st p hp hne
        have g1 := H p.1 (zx p hp)
        have g2 := H p.2 (zy p hp)
        have a1 := eA p.1 (zx p hp)
        have a2 := eA p.2 (zy p hp)
        have b1 := eB p.1 (zx p hp)
        have b2 := eB p.2 (zy p hp)
        unfold needless
        have c1 : ¬ A.getD p.1 0 ≤ B.getD p.1 0 := by omega
        have c2 : ¬ B.getD p.2 0 ≤ A.getD p.2 0 := by omega
        rw [decide_eq_false c1, decide_eq_false c2]
        simp
  rw [key]
  constructor
  · intro e
    exact sumTo_eq (k := k) (fun v hv => by rw [eA v hv, eB v hv]; omega) e.symm
  · intro h
    exact (sumTo_congr h).symm
/-- the indexes of the kept pairs, as the law lists them -/
def keptB (al : List Row) (t : Tab) (p : Nat × Nat) : Bool := decide (churn (t.getD p.1 []) (t.getD p.2 []) = transfer (al.getD p.1 []) (al.getD p.2 []))
def keptL (al : List Row) (ps : List (Nat × Nat)) (t : Tab) : List Nat := (List.range ps.length).filter fun i => keptB al t (ps.getD i (0, 0))
theorem filter_len {α : Type} {p : α → Bool} : ∀ {l : List α}, (l.filter p).length = l.length ↔ ∀ x ∈ l, p x = true
  | [] => by simp
  | x :: l => by
    have hle : (l.filter p).length ≤ l.length := List.length_filter_le _ _
    by_cases h : p x = true
    · rw [List.filter_cons_of_pos h, List.length_cons, List.length_cons]
      constructor
      · intro e y hy
        rcases List.mem_cons.mp hy with rfl | hy
        · exact h
        · exact filter_len.mp (by omega) y hy
      · intro H
        rw [filter_len.mpr fun y hy => H y (List.mem_cons_of_mem _ hy)]
    · rw [List.filter_cons_of_neg h, List.length_cons]
      constructor
      · intro e
        omega
      · intro H
        exact absurd (H x (List.mem_cons_self ..)) h
theorem kept_all {al : List Row} {ps : List (Nat × Nat)} {t : Tab} : decide ((keptL al ps t).length = ps.length) = ps.all (keptB al t) := by
  rw [Bool.eq_iff_iff, decide_eq_true_eq, List.all_eq_true]
  unfold keptL
  have e : ps.length = (List.range ps.length).length := List.length_range.symm
  rw [show ((List.range ps.length).filter (fun i => keptB al t (ps.getD i (0, 0)))).length = ps.length ↔ ((List.range ps.length).filter (fun i => keptB al t (ps.getD i (0, 0)))).length = (List.range ps.length).length by rw [← e]]
  rw [filter_len]
  constructor
  · intro H p hp
    obtain ⟨i, hi, e⟩ := List.getElem_of_mem hp
    have := H i (List.mem_range.mpr hi)
    rw [List.getD_eq_getElem?_getD, List.getElem?_eq_getElem hi] at this
    rw [← e]
    exact this
  · intro H i hi
    have hi := List.mem_range.mp hi
    rw [List.getD_eq_getElem?_getD, List.getElem?_eq_getElem hi]
    exact H _ (List.getElem_mem hi)
/-- a plan: allocations alike, ascending pairs -/
structure Good (al : List Row) (ps : List (Nat × Nat)) (k b : Nat) : Prop where
  ne : 0 < al.length
  len : ∀ a ∈ al, a.length = k
  sum : ∀ a ∈ al, a.sum = b
  pr : ∀ p ∈ ps, p.1 < p.2 ∧ p.2 < al.length
theorem getD_mem {α : Type} {l : List α} {i : Nat} {d : α} (h : i < l.length) : l.getD i d ∈ l := by
  rw [List.getD_eq_getElem?_getD, List.getElem?_eq_getElem h]
  exact List.getElem_mem h
theorem keeps_kept {al : List Row} {ps : List (Nat × Nat)} {k b : Nat} (G : Good al ps k b) {t : Tab} (ht : t ∈ tabsFrom k b al []) : ps.all (keptB al t) = keeps al ps t := by
  obtain ⟨u, e, hl, hu⟩ := mem_tabs ht
  rw [List.nil_append] at e
  subst e
  unfold keeps
  rw [Bool.eq_iff_iff, List.all_eq_true, List.all_eq_true]
  have one : ∀ p ∈ ps, (keptB al t p = true ↔ rowKeeps (al.getD p.1 []) (al.getD p.2 []) (t.getD p.1 []) (t.getD p.2 []) = true) := fun p hp => by
    obtain ⟨h1, h2⟩ := G.pr p hp
    have m1 : al.getD p.1 [] ∈ al := getD_mem (by omega)
    have m2 : al.getD p.2 [] ∈ al := getD_mem h2
    unfold keptB
    rw [decide_eq_true_eq]
    exact kept_iff (G.len _ m1) (G.len _ m2) (G.sum _ m1) (G.sum _ m2) (hu p.1 (by omega)) (hu p.2 h2)
  constructor
  · intro H p hp
    exact (one p hp).mp (H p hp)
  · intro H p hp
    exact (one p hp).mpr (H p hp)
theorem find_congr {α : Type} {p q : α → Bool} : ∀ {l : List α}, (∀ x ∈ l, p x = q x) → l.find? p = l.find? q
  | [], _ => rfl
  | x :: l, h => by
    rw [List.find?_cons, List.find?_cons, h x (List.mem_cons_self ..), find_congr fun y hy => h y (List.mem_cons_of_mem _ hy)]
/-- the first table, by all tables -/
def firstT (al : List Row) (ps : List (Nat × Nat)) (k b : Nat) : Option Tab := (tabsFrom k b al []).find? (keeps al ps)
/-- what the law looks for -/
def lawKeeps (al : List Row) (ps : List (Nat × Nat)) (t : Tab) : Bool := decide ((keptL al ps t).length = ps.length)
def lawFirst (al : List Row) (ps : List (Nat × Nat)) (k b : Nat) : Option Tab :=
  firstL (lawKeeps al ps) (if al.length > 4 then (asg k (al.getD 0 []) b).take 1 else asg k (al.getD 0 []) b) (tabsL k b al.tail)
theorem firstL_all {al : List Row} {ps : List (Nat × Nat)} {k b : Nat} (G : Good al ps k b) : firstL (lawKeeps al ps) (asg k (al.getD 0 []) b) (tabsL k b al.tail) = firstT al ps k b := by
  have hne := G.ne
  cases al with
  | nil => exact absurd hne (Nat.not_lt_zero _)
  | cons a rest =>
    show firstL _ (asg k a b) (tabsL k b rest) = _
    rw [firstL_eq]
    unfold firstT
    refine find_congr fun t ht => ?_
    rw [← keeps_kept G ht]
    exact kept_all
theorem take_none {α β : Type} {f : α → Option β} {l : List α} {n : Nat} (h : l.findSome? f = none) : (l.take n).findSome? f = none := by
  rw [List.findSome?_eq_none_iff] at h ⊢
  exact fun x hx => h x (List.mem_of_mem_take hx)
/-- THE LAW: what the program finds is what the law finds -/
theorem lawFirst_eq {al : List Row} {ps : List (Nat × Nat)} {k b : Nat} (G : Good al ps k b) (h : al.length ≤ 4 ∨ firstT al ps k b = none) : lawFirst al ps k b = firstT al ps k b := by
  unfold lawFirst
  by_cases h4 : al.length > 4
  · rw [if_pos h4]
    have hn : firstT al ps k b = none := h.resolve_left (by omega)
    rw [hn]
    rw [← firstL_all G] at hn
    exact take_none hn
  · rw [if_neg h4]
    exact firstL_all G
theorem fillM_firstT {al : List Row} {ps : List (Nat × Nat)} {k b f : Nat} (G : Good al ps k b) (hf : al.length * (b + 1) + 1 ≤ f) : fillM al ps b k f [] [] = firstT al ps k b := fillM_first G.pr hf
/-! ### the rings -/
def ringRow (m i : Nat) : Row := (List.range m).map fun v => if v = i ∨ v = (i + 1) % m then 1 else 0
def ringRows (m : Nat) : List Row := (List.range m).map (ringRow m)
def ringPs (m : Nat) : List (Nat × Nat) := ((List.range (m - 1)).map fun i => (i, i + 1)) ++ [(0, m - 1)]
def rot (s : Nat) (l : List (Nat × Nat)) : List (Nat × Nat) := l.drop s ++ l.take s
theorem ring3 : ∀ s, s < 3 → Good (ringRows 3) (rot s (ringPs 3)) 3 2 := fun s hs => by
  refine ⟨by decide, by decide, by decide, ?_⟩
  have : ∀ s : Fin 3, ∀ p ∈ rot s.val (ringPs 3), p.1 < p.2 ∧ p.2 < (ringRows 3).length := by decide
  exact this ⟨s, hs⟩
theorem ring5 : ∀ s, s < 5 → Good (ringRows 5) (rot s (ringPs 5)) 5 2 := fun s hs => by
  refine ⟨by decide, by decide, by decide, ?_⟩
  have : ∀ s : Fin 5, ∀ p ∈ rot s.val (ringPs 5), p.1 < p.2 ∧ p.2 < (ringRows 5).length := by decide
  exact this ⟨s, hs⟩
theorem ring5_none : ∀ s, s < 5 → firstT (ringRows 5) (rot s (ringPs 5)) 5 2 = none := fun s hs => by
  have : ∀ s : Fin 5, firstT (ringRows 5) (rot s.val (ringPs 5)) 5 2 = none := by decide +kernel
  exact this ⟨s, hs⟩
end Ft

/-! Rules that this proof adds to the hand layer: sum of a tuple, tuple.count, a dict of tuples by a comprehension; short words. -/
namespace Ft
open PySem PySem.Spec PyProof.Rows L2

/-! ### sum(t), t.count(n) of a tuple of ints -/
def rSumT (K : PySem.W.Frag) : List V → Hp → VK → Prop := fun vs H Q => ∃ (a : Addr) (ns : List Int), vs = [V.ref a] ∧ SqT K H a (ns.map V.int) ∧ Q (.int ns.sum) H
def rCntT (K : PySem.W.Frag) : V → List V → Hp → VK → Prop := fun x xs H Q => ∃ (p : Addr) (ns : List Int) (k : Int), x = .ref p ∧ xs = [.int k] ∧ SqT K H p (ns.map V.int) ∧ Q (.int (ns.count k : Nat)) H
section
variable {X : Cx}
theorem cr_sumT (hc : X.calm = true) : CallR X (.builtin "sum") (rSumT X.K) := by
  intro pins s σ H vs us Q I r h
  obtain ⟨a, ns, rfl, hs, q⟩ := h
  obtain ⟨its, rv, ht, _⟩ := I.tuple hs
  rw [Vals.ref1 r]
  have hi : IntsAre its ns := rv.ints
  obtain ⟨xs, e⟩ := hi.allInts.items
  have hn : numsOf (intItems xs).toList = ns := by rw [← e]; exact hi.numsOf
  rw [nums_intItems] at hn
  rw [e] at ht
  refine PySem.W.ktm_sumG (I.ok.hd hc) (show s.heap.IsTuple a (intItems xs) from ht) fun h' tk t' hk => ?_
  rw [preSum_eq, List.take_of_length_le (by simp), hn]
  exact ⟨.int ns.sum, H, I.kept hk, ⟨_, rfl⟩, q⟩
theorem mt_tcount : MtR X "tuple.count" (rCntT X.K) := by
  intro pins s σ H x xs v us Q I rx rxs h
  obtain ⟨p, ns, k, rfl, rfl, hs, q⟩ := h
  cases rx
  obtain ⟨u, rfl, ru⟩ := rxs.one
  obtain ⟨t, rfl⟩ := ru
  obtain ⟨its, rv, ht, _⟩ := I.tuple hs
  obtain ⟨⟨cls, dd, data, sl⟩, ho, hc, n, hd⟩ := ht
  simp only at hc hd
  subst hc hd
  have hi := ints_of_vals rv
  have ec : its.toArray.toList.countP (eqk k) = ns.count k := eqk_count hi
  refine call_meets PySem.F.slot_tuple_count ⟨_, ho, rfl⟩ PySem.F.entry_tuple_count (PySem.F.args_tuple_count_2 _ _)
    (SeqAt.tuple_countAt p its.toArray n dd sl (.int k t) (eqk k)) ⟨ho, fun y hy => (eqk_gives hi y (by simpa using hy)).at _ _, ?_⟩
  exact ⟨.int (ns.count k : Nat), H, I.tok _, ⟨s.toks, by rw [ec]⟩, q⟩
end

/-! ### {k: True for k in t}, t a tuple of tuples of ints -/
/-- the entries behind the first keys -/
def dcOf (ks : List (List Key)) : List (List Key × V) := ks.foldl (fun kvs k => putK kvs k (.bl true)) []
theorem dcOf_snoc (ks : List (List Key)) (k : List Key) : dcOf (ks ++ [k]) = putK (dcOf ks) k (.bl true) := by
  unfold dcOf
  rw [List.foldl_append]
  rfl
theorem dcOf_le : ∀ (n : Nat) (ks : List (List Key)), ks.length = n → (dcOf ks).length ≤ n
  | 0, ks, h => by
    have : ks = [] := List.length_eq_zero_iff.mp h
    subst this
    exact Nat.le_refl _
  | n + 1, ks, h => by
    have hne : ks ≠ [] := fun e => by
      subst e
      cases h
    have e := (List.dropLast_concat_getLast hne).symm
    have hl : ks.dropLast.length = n := by rw [List.length_dropLast, h]; rfl
    have ih := dcOf_le n ks.dropLast hl
    rw [e, dcOf_snoc]
    have := length_putK (dcOf ks.dropLast) (ks.getLast hne) (.bl true)
    omega
theorem dcOf_keys : ∀ (n : Nat) (ks : List (List Key)), ks.length = n → ks.Nodup → dcOf ks = ks.map fun k => (k, V.bl true)
  | 0, ks, h, _ => by
    have : ks = [] := List.length_eq_zero_iff.mp h
    subst this
    rfl
  | n + 1, ks, h, hd => by
    have hne : ks ≠ [] := fun e => by
      subst e
      cases h
    have e := (List.dropLast_concat_getLast hne).symm
    have hl : ks.dropLast.length = n := by rw [List.length_dropLast, h]; rfl
    generalize ks.dropLast = r at e hl
    generalize ks.getLast hne = z at e
    subst e
    have hr : r.Nodup := (List.nodup_append.mp hd).1
    have hz : z ∉ r := fun hm => (List.nodup_append.mp hd).2.2 z hm z (List.mem_singleton_self z) rfl
    rw [dcOf_snoc, dcOf_keys n r hl hr]
    unfold putK
    rw [if_neg]
    · rw [List.map_append]
      rfl
    · intro q
      obtain ⟨p, hp, hq⟩ := List.any_eq_true.mp q
      obtain ⟨k, hk, rfl⟩ := List.mem_map.mp hp
      have : k = z := of_decide_eq_true hq
      subst this
      exact hz hk
def tDcT (te : TE) : TE := fun σ H Q => te σ H fun v H1 => ∃ (a : Addr) (as : List Addr) (ks : List (List Key)), v = .ref a ∧ H1 a = some (.tup (as.map V.ref)) ∧ as.length = ks.length ∧ ks.length ≤ 1000 ∧
  (∀ (i : Nat) (b : Addr) (k : List Key), as[i]? = some b → ks[i]? = some k → H1 b = some (.tup (k.map kV))) ∧ ∀ D, H1 D = none → Q (.ref D) (upd H1 D (.dT (dcOf ks)))
def plainScope (scope : Scope) : Bool := (match scope.kind with | .function => true | _ => false) && scope.names.all fun y => decide (y.2 = .local) && decide (scope.names.lookup y.1 = some .local)
theorem plain_of {scope : Scope} (h : plainScope scope = true) : scope.kind = .function ∧ ∀ y ∈ scope.names, y.2 = .local ∧ scope.names.lookup y.1 = some .local := by
  unfold plainScope at h
  rw [Bool.and_eq_true, List.all_eq_true] at h
  refine ⟨?_, fun y hy => by simpa using h.2 y hy⟩
  have h1 := h.1
  split at h1
  · assumption
  · cases h1
theorem vals_refs : ∀ {as : List Addr} {its : List Value}, Vals (as.map V.ref) its → its = as.map Value.ref
  | [], _, .nil => rfl
  | a :: as, _, .cons r t => by
    cases r
    rw [vals_refs t]
    rfl
section
variable {X : Cx}
theorem pe_dcT {x : Str} {iter : Expr} {scope : Scope} {pos p1 p2 p3 : Pos} {j : Nat} {te : TE} (hc : X.calm = true) (hu : X.A.units + 1 < cLine) (he : PE X iter te) (hp : plainScope scope = true) (hx : scope.names.lookup x = some .local) (hd : (x == ("__debug__" : Str)) = false := by decide)
    (hcd : (x == ("__classdict__" : Str)) = false := by decide) (hs : ∀ y, foldedSetIterable iter X.env y = pure y := by intro _; rfl) :
    PE X (.DictComp (.Name x p1) (.Constant (.bool true) j p2) [⟨.Name x p3, iter, [], 0⟩] scope pos) (tDcT te) := by
  obtain ⟨hkind, hn⟩ := plain_of hp
  refine ⟨fun pins s σ H Q I h => ?_⟩
  refine DictComp_goes (closure_ok fun y hy e => by rw [(hn y hy).1] at e; cases e) (fun y hy e => by rw [(hn y hy).1] at e; cases e) hkind (fun y hy _ => (hn y hy).2)
    (thn (he.run pins s σ H _ I h) fun v s1 ⟨xv, H1, I1, r1, a, as, ks, ex, ha, hl, hle, hk, q⟩ => ?_) hs
  subst ex
  cases r1
  obtain ⟨its, rv, ht, _⟩ := I1.tuple (.inl (.inl ha))
  have eits := vals_refs rv
  have htt : s1.heap.IsTuple a its.toArray := ht
  obtain ⟨oa, hoa, _⟩ := id htt
  have hlt : a < s1.heap.objs.size := Heap.lt_size hoa
  have hne : a ≠ s1.heap.objs.size := Nat.ne_of_lt hlt
  refine wpAny_pyIter_tuple htt ?_
  refine ⟨s1.heap.objs.size, _, _, its.toArray.size, _, _, rfl, Goes.tuple (I1.ok.hd hc) _ a hne its.toArray, ⟨⟨_, Heap.get?_push_size _ rfl, rfl, rfl⟩, htt.at fun o e => Heap.get?_push_of_some _ e⟩, fun D C s3 hB hD => ?_⟩
  obtain ⟨⟨h3, tk3, rfl⟩, old, nD, nC, hDC, hnm⟩ := hB
  have nC' : s1.heap.objs.size + 1 ≤ C := by
    have e := nC
    rw [Heap.size_push] at e
    exact e
  have nD' : s1.heap.objs.size + 1 ≤ D := by
    have e := nD
    rw [Heap.size_push] at e
    exact e
  have hDs : s1.heap.objs.size ≤ D := Nat.le_of_succ_le nD'
  have fD : H1 D = none := I1.hok.fresh hDs
  have hz : its.toArray.size = ks.length := by rw [eits, List.size_toArray, List.length_map, hl]
  have kinds : (compEnvC scope (cloFrom X.env.cells scope.names []) C X.env).kindOf x = some .local := lookup_relabel_local hx
  have hpp : ((compEnvC scope (cloFrom X.env.cells scope.names []) C X.env).scope.kind == .class || ((compEnvC scope (cloFrom X.env.cells scope.names []) C X.env).scope.kind == .module && (compEnvC scope (cloFrom X.env.cells scope.names []) C X.env).locals != (compEnvC scope (cloFrom X.env.cells scope.names []) C X.env).globals)) = false := by
    show (scope.kind == .class || (scope.kind == .module && _)) = false
    rw [hkind]
    rfl
  -- what stands at each turn
  refine ⟨fun i s' => ∃ h' tk m, s' = { s1 with heap := h', toks := tk } ∧ h'.Ns C m ∧ (∀ b o, s1.heap.get? b = some o → h'.get? b = some o) ∧ ObjOk X.prog X.w (upd H1 D (.dT (dcOf (ks.take i)))) h' D (.dT (dcOf (ks.take i))),
    ⟨h3, tk3, _, rfl, hnm, fun b o e => old b o (Heap.get?_push_of_some _ e), ?_⟩, ?_, ?_, ?_⟩
  · show ObjOk X.prog X.w _ h3 D (.dT [])
    exact ⟨Nat.zero_le _, beq_eq_false_iff_ne.mpr (Ne.symm (Nat.ne_of_lt (Nat.lt_of_lt_of_le I1.big hDs))), [], .nil, _, #[], 0, hD, ⟨rfl, rfl, rfl⟩, rfl, rfl, List.nodup_nil⟩
  · rintro i s' h' tk ⟨h4, tk4, m, rfl, n4, k4, o4⟩ hk' _
    have off : ∀ b : Addr, b < s1.heap.objs.size ∨ s1.heap.objs.size + 1 ≤ b → b ∉ [s1.heap.objs.size] := fun b hb hm => by
      have e : b = s1.heap.objs.size := List.mem_singleton.mp hm
      rcases hb with hb | hb
      · exact absurd hb (by rw [e]; exact Nat.lt_irrefl _)
      · exact absurd hb (by rw [e]; exact Nat.not_succ_le_self _)
    refine ⟨h', tk, m, rfl, n4.at' fun o e => hk' _ o (off _ (.inr nC')) e, fun b o e => hk' b o (off _ (.inl (Heap.lt_size e))) (k4 b o e), o4.stay (fun b u hb e => ?_) (fun _ e => e) fun _ _ e => e⟩
    rcases hb with rfl | hb
    · exact hk' _ u (off _ (.inr nD')) e
    · by_cases hbD : b = D
      · subst hbD
        exact hk' _ u (off _ (.inr nD')) e
      · rw [upd_ne hbD] at hb
        exact hk' b u (off _ (.inl (I1.hok.lt hb))) e
  · rintro i v s' hi hY st ⟨h4, tk4, m, rfl, n4, k4, o4⟩
    have hik : i < ks.length := by rw [← hz]; exact hi
    have hia : i < as.length := by rw [hl]; exact hik
    have ev : v = .ref as[i] := by
      have hY : its.toArray[i]? = some v := hY
      rw [eits, List.getElem?_toArray, List.getElem?_map, List.getElem?_eq_getElem hia] at hY
      exact (Option.some.inj hY).symm
    subst ev
    have hkey : H1 as[i] = some (.tup (ks[i].map kV)) := hk i _ _ (List.getElem?_eq_getElem hia) (List.getElem?_eq_getElem hik)
    refine wpAny_assign_Name (wpAny_storeName_local kinds n4 (fun h5 n5 s5 => ?_) hpp)
    refine wpAny_tests_nil ?_
    show wpAny _ _ (eval (.Name x p1) _) _ _ _
    rw [eval_Name _ _ _ hd]
    refine wpAny_bind (wpAny_standAt (wpAny_loadName_local hkind kinds n5 (v := .ref as[i]) (by simp) ?_))
    refine Constant_bool ?_
    have k5 : ∀ b o, s1.heap.get? b = some o → h5.get? b = some o := fun b o e => s5.extBut b o (Nat.ne_of_lt (Nat.lt_of_lt_of_le (Heap.lt_size e) (Nat.le_of_succ_le nC'))) (k4 b o e)
    have o5 : ObjOk X.prog X.w (upd H1 D (.dT (dcOf (ks.take i)))) h5 D (.dT (dcOf (ks.take i))) := by
      refine o4.stay (fun b u hb e => ?_) (fun _ e => e) fun _ _ e => e
      rcases hb with rfl | hb
      · exact s5.extBut _ u hDC e
      · by_cases hbD : b = D
        · subst hbD
          exact s5.extBut _ u hDC e
        · rw [upd_ne hbD] at hb
          exact s5.extBut b u (Nat.ne_of_lt (Nat.lt_of_lt_of_le (I1.hok.lt hb) (Nat.le_of_succ_le nC'))) e
    have ok5 : HOk X.prog X.w (upd H1 D (.dT (dcOf (ks.take i)))) h5 := I1.hok.laid k5 hDs o5
    obtain ⟨z, hdm, xs, rel, dd⟩ := dt_of ok5 upd_same
    have hkey5 : upd H1 D (.dT (dcOf (ks.take i))) as[i] = some (.tup (ks[i].map kV)) := by
      rw [upd_ne (ne_of_none hkey fD)]
      exact hkey
    have hsz : xs.length ≤ sizeLine := by rw [← Paired.length rel]; exact z
    refine wpAny_dictSet_heap (s := { s1 with heap := h5, toks := _ }) (hsz := hsz) (show (tupleKind (mixKind X.prog X.w)).room X.A from Nat.lt_of_succ_lt hu) (key_of ok5 hkey5) dd fun h6 dd6 s6 => ?_
    have k6 : ∀ b o, s1.heap.get? b = some o → h6.get? b = some o := fun b o e => s6.extBut b o (Nat.ne_of_lt (Nat.lt_of_lt_of_le (Heap.lt_size e) hDs)) (k5 b o e)
    have et : ks.take (i + 1) = ks.take i ++ [ks[i]] := by rw [List.take_add_one, List.getElem?_eq_getElem hik]; rfl
    refine ⟨⟨h6, _, _, rfl, n5.at' fun o e => s6.extBut _ o (Ne.symm hDC) e, k6, ?_⟩, ?_⟩
    · rw [et, dcOf_snoc]
      obtain ⟨qo, es, ep, hq, h2, h3', h4', _, h5'⟩ := dd6
      refine ⟨?_, hdm, _, (rel.put ks[i] (y := .bl true) hkey5 rfl).keeps fun c ys ec => ?_, qo, es, ep, hq, h2, h3', h4', h5'⟩
      · rw [← dcOf_snoc, ← et]
        refine Nat.le_trans (dcOf_le _ _ rfl) ?_
        rw [List.length_take]
        exact Nat.le_trans (Nat.min_le_right _ _) (Nat.le_trans hle (by decide))
      · have hcD : c ≠ D := fun e => by
          rw [e, upd_same] at ec
          cases ec
        rw [upd_ne hcD] at ec ⊢
        exact ec
    · obtain ⟨⟨o1, e1, c1, d1⟩, t1⟩ := st
      have hIC : s1.heap.objs.size ≠ C := Nat.ne_of_lt nC'
      have hID : s1.heap.objs.size ≠ D := Nat.ne_of_lt nD'
      exact ⟨⟨o1, s6.extBut _ _ hID (s5.extBut _ _ hIC e1), c1, d1⟩, htt.at fun o e => k6 _ o e⟩
  · rintro s' ⟨h4, tk4, m, rfl, n4, k4, o4⟩
    refine ⟨m, n4, fun h' hs' => ?_⟩
    have et : ks.take its.toArray.size = ks := by rw [hz]; exact List.take_length
    rw [et] at o4
    have k' : ∀ b o, s1.heap.get? b = some o → h'.get? b = some o := fun b o e => hs'.extBut b o (Nat.ne_of_lt (Nat.lt_of_lt_of_le (Heap.lt_size e) (Nat.le_of_succ_le nC'))) (k4 b o e)
    refine ⟨.ref D, _, I1.laid (t' := tk4) k' hDs (o4.stay (fun b u hb e => ?_) (fun _ e => e) fun _ _ e => e), rfl, q D fD⟩
    rcases hb with rfl | hb
    · exact hs'.extBut _ u hDC e
    · by_cases hbD : b = D
      · subst hbD
        exact hs'.extBut _ u hDC e
      · rw [upd_ne hbD] at hb
        exact hs'.extBut b u (Nat.ne_of_lt (Nat.lt_of_lt_of_le (I1.hok.lt hb) (Nat.le_of_succ_le nC'))) e
end
end Ft

namespace Ft
open PySem PySem.Spec PyProof.Rows L2
/-! ### the text by places -/
def topS (i : Nat) : Stmt := PySem.Challenge.pw_leastmoved_k39_whole_first_tables.main.body.getD i (.Pass ⟨0, 0, 0, 0⟩)
/-! ### built-in names -/
theorem bt_isinstance : bootBuiltins "isinstance" = some (.builtin "isinstance") := by decide +kernel
theorem bt_sum : bootBuiltins "sum" = some (.builtin "sum") := by decide +kernel
theorem bt_all : bootBuiltins "all" = some (.builtin "all") := by decide +kernel
theorem bt_abs : bootBuiltins "abs" = some (.builtin "abs") := by decide +kernel
theorem bt_max : bootBuiltins "max" = some (.builtin "max") := by decide +kernel
theorem bt_min : bootBuiltins "min" = some (.builtin "min") := by decide +kernel
theorem bt_int : bootBuiltins "int" = some (.type "int") := by decide +kernel
theorem bt_bool : bootBuiltins "bool" = some (.type "bool") := by decide +kernel
theorem bt_str : bootBuiltins "str" = some (.type "str") := by decide +kernel
theorem bt_tuple : bootBuiltins "tuple" = some (.type "tuple") := by decide +kernel
theorem bt_list : bootBuiltins "list" = some (.type "list") := by decide +kernel
/-- the module has none of these names -/
structure Bt (mg : Str → Option Value) : Prop where
  isinstance : mg "isinstance" = none
  len : mg "len" = none
  range : mg "range" = none
  sum : mg "sum" = none
  all : mg "all" = none
  abs : mg "abs" = none
  max : mg "max" = none
  min : mg "min" = none
  zip : mg "zip" = none
  int : mg "int" = none
  bool : mg "bool" = none
  str : mg "str" = none
  tuple : mg "tuple" = none
  list : mg "list" = none
/-! ### callees -/
section
variable (P : Program) (w : World) (K : PySem.W.Frag) (mg : Str → Option Value) (base : Heap)
/-- the def of this name keeps the promise, by at most level k -/
def Callee (x : Str) (k : Nat) (ps : List Str) (sp : Sp) : Prop :=
  ∃ (f : Addr) (fd : FuncData), FnOk P w K mg base CX0 k f fd ps sp ∧ mg x = some (.ref f) ∧ PySem.W.keepIn K (.ref f) = true ∧ Binds K fd ps []
/-- the method of the class at C -/
def CalleeM (C : Addr) (m : Str) (k : Nat) (ps : List Str) (sp : Sp) : Prop :=
  ∃ (f : Addr) (fd : FuncData), FnOk P w K mg base CX0 k f fd ps sp ∧ Meth K C m f ∧ Binds K fd ps []
/-- the class's making -/
def CalleeC (x : Str) (C : Addr) (k : Nat) (ps : List Str) (sp : Sp) : Prop :=
  ∃ (f : Addr) (fd : FuncData), FnOk P w K mg base CX0 k f fd ps sp ∧ mg x = some (.ref C) ∧ Mk K C f ∧ Binds K fd ps []
end
/-- a def as it stands behind the top -/
structure DefAt (K : PySem.W.Frag) (mg : Str → Option Value) (x : Str) (st : Stmt) (ps : List Str) : Prop where
  ex : ∃ (f : Addr) (fd : FuncData), Fun K x x st f fd ∧ mg x = some (.ref f) ∧ Binds K fd ps []
section
variable {P : Program} {w : World} {K : PySem.W.Frag} {mg : Str → Option Value} {base : Heap}
theorem DefAt.callee {x : Str} {st : Stmt} {ps : List Str} {k : Nat} {sp : Sp} (D : DefAt K mg x st ps) (h : ∀ f fd, Fun K x x st f fd → FnOk P w K mg base CX0 k f fd ps sp) : Callee P w K mg base x k ps sp := by
  obtain ⟨f, fd, F, hm, hb⟩ := D.ex
  exact ⟨f, fd, h f fd F, hm, F.kp, hb⟩
end
section
variable {X : Cx} {k : Nat} {C : Addr} {ps : List Str} {sp : Sp} {x m : Str} {p pos apos : Pos} {e o : Expr} {es : List Expr} {t : TA} {ta : TE}
theorem pe_cd (D : Callee X.prog X.w X.K X.mg X.base x k ps sp) (hr : Room k X.A) (hg : Gl X x) (ha : PA X (e :: es) t) (hdb : (x == ("__debug__" : Str)) = false := by decide)
    (he : starEach (e :: es) X.env = (false, eval e X.env) :: starEach es X.env := by rfl) (hpl : (backTo pos (starEach es X.env)).any (·.1) = false := by rfl) : PE X (.Call (.Name x p) (e :: es) [] pos) (tCall sp [] E0 t) := by
  obtain ⟨f, fd, F, hm, hk, hb⟩ := D
  exact pe_call F hr hg hm hk hb .nil pass0 ha hdb he hpl
theorem pe_cm {pl : Sem Bool} (D : CalleeM X.prog X.w X.K X.mg X.base C m k ps sp) (c : Cls X.K C) (ho : PE X o ta) (hr : Room k X.A) (ha : PA X (e :: es) t)
    (hst : starEach (e :: es) X.env = (false, eval e X.env) :: starEach es X.env := by rfl) (hpl : (backTo pos (starEach es X.env)).any (·.1) = false := by rfl)
    (ht : eval (.Call (.Attribute o m apos) (e :: es) [] pos) X.env = (do
      let ov ← eval o X.env
      standAt apos.atName
      let (f, first) ← holding [ov] (getMethod ov m pl)
      callWith pos f first (backTo pos (starEach (e :: es) X.env)) (backToKw pos (keywordEach [] X.env))) := by rfl) : PE X (.Call (.Attribute o m apos) (e :: es) [] pos) (tMeth C m sp [] E0 ta t) := by
  obtain ⟨f, fd, F, hm, hb⟩ := D
  exact pe_meth ho c hm F hr hb .nil pass0 ha hst hpl ht
theorem pe_mk (D : CalleeC X.prog X.w X.K X.mg X.base x C k ps sp) (hr : Room (k + 1) X.A) (hg : Gl X x) (ha : PA X (e :: es) t) (hdb : (x == ("__debug__" : Str)) = false := by decide)
    (he : starEach (e :: es) X.env = (false, eval e X.env) :: starEach es X.env := by rfl) (hpl : (backTo pos (starEach es X.env)).any (·.1) = false := by rfl) : PE X (.Call (.Name x p) (e :: es) [] pos) (tMake C sp [] E0 t) := by
  obtain ⟨f, fd, F, hm, M, hb⟩ := D
  exact pe_make M F hr hg hm hb .nil pass0 ha hdb he hpl
end
/-! ### readings that name the written part -/
def rLenS (K : PySem.W.Frag) : List V → Hp → VK → Prop := fun xs H Q => ∃ (p : Addr) (ys : List V), xs = [.ref p] ∧ (SqL K H p ys ∨ SqT K H p ys) ∧ Q (.int ys.length) H
def rTupOf (K : PySem.W.Frag) : List V → Hp → VK → Prop := fun xs H Q => ∃ (p : Addr) (ys : List V), xs = [.ref p] ∧ ((SqL K H p ys ∧ ∀ l, H l = none → Q (.ref l) (upd H l (.tup ys))) ∨ (SqT K H p ys ∧ Q (.ref p) H))
def rLstOf (K : PySem.W.Frag) : List V → Hp → VK → Prop := fun xs H Q => ∃ (p : Addr) (ys : List V), xs = [.ref p] ∧ (SqL K H p ys ∨ SqT K H p ys) ∧ ∀ l, H l = none → Q (.ref l) (upd H l (.lst ys))
section
variable {X : Cx}
theorem call_lenS : CallR X (.builtin "len") (rLenS X.K) := call_len_seq
theorem call_tupOf : CallR X (.type "tuple") (rTupOf X.K) := call_tuple_of
theorem call_lstOf : CallR X (.type "list") (rLstOf X.K) := call_list_of
end
/-! ### values and heaps -/
abbrev iv (n : Nat) : V := .int (n : Int)
theorem iv_map (xs : List Nat) : xs.map iv = (xs.map fun n : Nat => (n : Int)).map V.int := by
  rw [List.map_map]
  rfl
theorem sum_cast : ∀ xs : List Nat, (xs.map fun n : Nat => (n : Int)).sum = ((xs.sum : Nat) : Int)
  | [] => rfl
  | x :: xs => by
    rw [List.map_cons, List.sum_cons, List.sum_cons, sum_cast xs]
    omega
theorem count_cast (v : Nat) : ∀ xs : List Nat, (xs.map fun n : Nat => (n : Int)).count (v : Int) = xs.count v
  | [] => rfl
  | x :: xs => by
    rw [List.map_cons, List.count_cons, List.count_cons, count_cast v xs]
    congr 1
    by_cases h : x = v
    · subst h
      rw [if_pos (beq_self_eq_true _), if_pos (beq_self_eq_true _)]
    · have h1 : ¬ ((x : Int) == (v : Int)) = true := fun q => h (by have := eq_of_beq q; omega)
      have h2 : ¬ (x == v) = true := fun q => h (eq_of_beq q)
      rw [if_neg h1, if_neg h2]
theorem at_iv {xs : List Nat} {i : Nat} (h : i < xs.length) : atI (xs.map iv) (i : Int) = some (iv (xs.getD i 0)) := by
  refine atI_nat ?_
  rw [List.getElem?_map, List.getElem?_eq_getElem h, List.getD_eq_getElem?_getD, List.getElem?_eq_getElem h]
  rfl
theorem at_ref {as : List Addr} {i : Nat} {a : Addr} (h : as[i]? = some a) : atI (as.map V.ref) (i : Int) = some (.ref a) := by
  refine atI_nat ?_
  rw [List.getElem?_map, h]
  rfl
def All2 {α : Type} (R : Addr → α → Prop) (as : List Addr) (xs : List α) : Prop := as.length = xs.length ∧ ∀ (i : Nat) (a : Addr) (x : α), as[i]? = some a → xs[i]? = some x → R a x
section
variable {α : Type} {R S : Addr → α → Prop} {as bs : List Addr} {xs ys : List α} {a : Addr} {x : α}
theorem All2.mono (h : All2 R as xs) (k : ∀ a x, R a x → S a x) : All2 S as xs := ⟨h.1, fun i a x h1 h2 => k _ _ (h.2 i a x h1 h2)⟩
theorem All2.nil : All2 R [] [] := ⟨rfl, fun i a x h _ => by cases h⟩
theorem All2.snoc (h : All2 R as xs) (k : R a x) : All2 R (as ++ [a]) (xs ++ [x]) := by
  refine ⟨by rw [List.length_append, List.length_append, h.1]; rfl, fun i b y h1 h2 => ?_⟩
  by_cases hi : i < as.length
  · rw [List.getElem?_append_left hi] at h1
    rw [List.getElem?_append_left (by rw [← h.1]; exact hi)] at h2
    exact h.2 i b y h1 h2
  · have e : i = as.length := by
      have := (List.getElem?_eq_some_iff.mp h1).1
      rw [List.length_append, List.length_singleton] at this
      omega
    subst e
    rw [List.getElem?_append_right (Nat.le_refl _), Nat.sub_self] at h1
    rw [h.1, List.getElem?_append_right (Nat.le_refl _), Nat.sub_self] at h2
    cases h1
    cases h2
    exact k
theorem All2.append (h : All2 R as xs) (k : All2 R bs ys) : All2 R (as ++ bs) (xs ++ ys) := by
  refine ⟨by rw [List.length_append, List.length_append, h.1, k.1], fun i b y h1 h2 => ?_⟩
  by_cases hi : i < as.length
  · rw [List.getElem?_append_left hi] at h1
    rw [List.getElem?_append_left (by rw [← h.1]; exact hi)] at h2
    exact h.2 i b y h1 h2
  · rw [List.getElem?_append_right (by omega)] at h1
    rw [List.getElem?_append_right (by rw [← h.1]; omega), ← h.1] at h2
    exact k.2 _ b y h1 h2
theorem All2.get (h : All2 R as xs) {i : Nat} (hi : i < xs.length) (d : α) : ∃ a, as[i]? = some a ∧ R a (xs.getD i d) := by
  have ha : i < as.length := by rw [h.1]; exact hi
  refine ⟨as[i], List.getElem?_eq_getElem ha, ?_⟩
  rw [List.getD_eq_getElem?_getD, List.getElem?_eq_getElem hi]
  exact h.2 i _ _ (List.getElem?_eq_getElem ha) (List.getElem?_eq_getElem hi)
theorem All2.map {β : Type} {T : Addr → β → Prop} {f : α → β} (h : All2 R as xs) (k : ∀ a x, R a x → T a (f x)) : All2 T as (xs.map f) := by
  refine ⟨by rw [h.1, List.length_map], fun i a y h1 h2 => ?_⟩
  rw [List.getElem?_map] at h2
  cases e : xs[i]? with
  | none => rw [e] at h2; cases h2
  | some z =>
    rw [e] at h2
    cases h2
    exact k _ _ (h.2 i a z h1 e)
theorem All2.drop (h : All2 R as xs) (n : Nat) : All2 R (as.drop n) (xs.drop n) := by
  refine ⟨by rw [List.length_drop, List.length_drop, h.1], fun i a x h1 h2 => ?_⟩
  rw [List.getElem?_drop] at h1 h2
  exact h.2 _ a x h1 h2
theorem All2.take (h : All2 R as xs) (n : Nat) : All2 R (as.take n) (xs.take n) := by
  refine ⟨by rw [List.length_take, List.length_take, h.1], fun i a x h1 h2 => ?_⟩
  rw [List.getElem?_take] at h1 h2
  split at h1
  · rename_i hi
    rw [if_pos hi] at h2
    exact h.2 _ a x h1 h2
  · cases h1
theorem All2.cons (k : R a x) (h : All2 R as xs) : All2 R (a :: as) (x :: xs) := by
  have := (All2.nil (R := R)).snoc k
  exact this.append h
theorem All2.set (h : All2 R as xs) {i : Nat} {b : Addr} (hb : as[i]? = some b) (y : α) (k : R b y) : All2 R as (xs.set i y) := by
  refine ⟨by rw [h.1, List.length_set], fun j a x h1 h2 => ?_⟩
  by_cases e : i = j
  · subst e
    have hi : i < xs.length := by rw [← h.1]; exact (List.getElem?_eq_some_iff.mp hb).1
    rw [List.getElem?_set_self hi] at h2
    cases h2
    rw [hb] at h1
    cases h1
    exact k
  · rw [List.getElem?_set_ne e] at h2
    exact h.2 j a x h1 h2
theorem All2.setA (h : All2 R as xs) {i : Nat} {b : Addr} {y : α} (k : R b y) : All2 R (as.set i b) (xs.set i y) := by
  refine ⟨by rw [List.length_set, List.length_set, h.1], fun j a x h1 h2 => ?_⟩
  by_cases e : i = j
  · subst e
    have hi : i < as.length := by
      have := (List.getElem?_eq_some_iff.mp h1).1
      rw [List.length_set] at this
      exact this
    rw [List.getElem?_set_self hi] at h1
    rw [List.getElem?_set_self (by rw [← h.1]; exact hi)] at h2
    cases h1
    cases h2
    exact k
  · rw [List.getElem?_set_ne e] at h1 h2
    exact h.2 j a x h1 h2
end
/-- a tuple of numbers; of such tuples -/
def RowT (H : Hp) (a : Addr) (xs : List Nat) : Prop := H a = some (.tup (xs.map iv))
def TabT (H : Hp) (a : Addr) (t : Tab) : Prop := ∃ as, H a = some (.tup (as.map V.ref)) ∧ All2 (RowT H) as t
def prow (p : Nat × Nat) : List Nat := [p.1, p.2]
def PairT (H : Hp) (a : Addr) (p : Nat × Nat) : Prop := RowT H a (prow p)
def PrsT (H : Hp) (a : Addr) (ps : List (Nat × Nat)) : Prop := ∃ as, H a = some (.tup (as.map V.ref)) ∧ All2 (PairT H) as ps
/-- lists of such -/
def LstI (H : Hp) (a : Addr) (xs : List Nat) : Prop := H a = some (.lst (xs.map iv))
def LstR {α : Type} (R : Hp → Addr → α → Prop) (H : Hp) (a : Addr) (xs : List α) : Prop := ∃ as, H a = some (.lst (as.map V.ref)) ∧ All2 (R H) as xs
/-- the tuples stand -/
def TS (H H' : Hp) : Prop := ∀ a xs, H a = some (.tup xs) → H' a = some (.tup xs)
theorem TS.refl (H : Hp) : TS H H := fun _ _ h => h
theorem TS.trans {H H1 H2 : Hp} (a : TS H H1) (b : TS H1 H2) : TS H H2 := fun c o h => b c o (a c o h)
theorem same_ts {H H' : Hp} (h : Same H H') : TS H H' := fun a xs e => h a _ e
theorem TS.lst {H : Hp} {l : Addr} {xs : List V} {o : HO} (h : H l = some (.lst xs)) : TS H (upd H l o) := fun a ys e => by
  rw [upd_ne (ne_of e h (fun z => nomatch z))]
  exact e
theorem TS.new {H : Hp} {l : Addr} {o : HO} (h : H l = none) : TS H (upd H l o) := fun a ys e => by
  rw [upd_ne (ne_of_none e h)]
  exact e
theorem RowT.ts {H H' : Hp} (s : TS H H') {a : Addr} {xs : List Nat} (h : RowT H a xs) : RowT H' a xs := s _ _ h
theorem PairT.ts {H H' : Hp} (s : TS H H') {a : Addr} {p : Nat × Nat} (h : PairT H a p) : PairT H' a p := s _ _ h
theorem TabT.ts {H H' : Hp} (s : TS H H') {a : Addr} {t : Tab} (h : TabT H a t) : TabT H' a t := by
  obtain ⟨as, h1, h2⟩ := h
  exact ⟨as, s _ _ h1, h2.mono fun _ _ q => RowT.ts s q⟩
theorem PrsT.ts {H H' : Hp} (s : TS H H') {a : Addr} {t : List (Nat × Nat)} (h : PrsT H a t) : PrsT H' a t := by
  obtain ⟨as, h1, h2⟩ := h
  exact ⟨as, s _ _ h1, h2.mono fun _ _ q => PairT.ts s q⟩
theorem same_upd {H0 H : Hp} {l : Addr} {o : HO} (s : Same H0 H) (h : H0 l = none) : Same H0 (L2.upd H l o) := fun b u e => by
  rw [upd_ne (ne_of_none e h)]
  exact s b u e
theorem same_new {H : Hp} {l : Addr} {o : HO} (h : H l = none) : Same H (upd H l o) := same_upd (Same.refl H) h
/-- all but S is as it was -/
def Sx (S : Addr) (H H' : Hp) : Prop := ∀ b o, b ≠ S → H b = some o → H' b = some o
theorem Sx.refl (S : Addr) (H : Hp) : Sx S H H := fun _ _ _ h => h
theorem Sx.trans {S : Addr} {H H1 H2 : Hp} (a : Sx S H H1) (b : Sx S H1 H2) : Sx S H H2 := fun c o n h => b c o n (a c o n h)
theorem same_sx {S : Addr} {H H' : Hp} (h : Same H H') : Sx S H H' := fun b o _ e => h b o e
theorem Sx.upd {S : Addr} {H0 H : Hp} {l : Addr} {o : HO} (s : Sx S H0 H) (h : H0 l = none) : Sx S H0 (L2.upd H l o) := fun b u n e => by
  rw [upd_ne (ne_of_none e h)]
  exact s b u n e
theorem Sx.ts {S : Addr} {H H' : Hp} {xs : List V} (h : Sx S H H') (e : H S = some (.lst xs)) : TS H H' := fun a ys q => h a _ (ne_of q e (fun z => nomatch z)) q
/-- the drawing stream at S -/
def Strm (H : Hp) (S L : Addr) : Prop := ∃ (c k : Int) (ns : List Int), H S = some (.lst [.ref L, .int c, .int k]) ∧ H L = some (.lst (ns.map V.int)) ∧ L ≠ S ∧ 0 ≤ k ∧ ns.length ≤ 63
theorem Strm.lst {H : Hp} {S L : Addr} (h : Strm H S L) : ∃ xs, H S = some (.lst xs) := let ⟨_, _, _, e, _⟩ := h; ⟨_, e⟩
theorem Strm.same {H H' : Hp} {S L : Addr} (h : Strm H S L) (s : Same H H') : Strm H' S L := by
  obtain ⟨c, k, ns, e1, e2, n, r⟩ := h
  exact ⟨c, k, ns, s _ _ e1, s _ _ e2, n, r⟩
theorem Strm.ne {H : Hp} {S L D : Addr} (h : Strm H S L) (hD : H D = none) : D ≠ S ∧ D ≠ L := by
  obtain ⟨c, k, ns, e1, e2, _⟩ := h
  exact ⟨fun e => (by rw [e, e1] at hD; cases hD), fun e => (by rw [e, e2] at hD; cases hD)⟩
theorem Strm.upd {H : Hp} {S L D : Addr} {o : HO} (h : Strm H S L) (n : D ≠ S ∧ D ≠ L) : Strm (L2.upd H D o) S L := by
  obtain ⟨c, k, ns, e1, e2, r⟩ := h
  exact ⟨c, k, ns, by rw [upd_ne n.1.symm]; exact e1, by rw [upd_ne n.2.symm]; exact e2, r⟩
theorem Sx.free {S L : Addr} {H H' : Hp} {D : Addr} (s : Sx S H H') (st : Strm H' S L) (hD : H' D = none) : H D = none := by
  cases e : H D with
  | none => rfl
  | some o =>
    rw [s D o (st.ne hD).1 e] at hD
    cases hD
theorem Sx.tsm {S L : Addr} {H H' : Hp} (h : Sx S H H') (e : Strm H S L) : TS H H' := let ⟨_, e'⟩ := e.lst; h.ts e'
theorem len_line {n : Nat} (h : n ≤ 1000) : n ≤ sizeLine := Nat.le_trans h (by decide)
/-! ### comprehensions over zip of two tuples -/
theorem lc_zipT {K : PySem.W.Frag} {a b : Addr} {xs ys : List V} {g : TG} {tt : TT} {te : TE} {vs : List Nat} {σ : L2.St} {H1 : Hp} {D : Addr} {Qd : Hp → Prop} (hl : xs.length = ys.length) (Pv : Nat → Hp → Prop) (h0 : Pv 0 (upd H1 D (.lst [])))
    (hq : ∀ i H, Pv i H → SqT K H a xs ∧ SqT K H b ys)
    (hs : ∀ (i : Nat) (x y : V) (T : Addr) (H : Hp), xs[i]? = some x → ys[i]? = some y → Pv i H → H T = none → g (.ref T) (wipe σ vs) (upd H T (.tup [x, y])) fun σ2 H2 => wipe σ2 vs = wipe σ vs ∧ tt σ2 H2 fun b H3 =>
      if b = true then te σ2 H3 fun y H4 => ∃ acc, H4 D = some (.lst acc) ∧ acc.length < sizeLine ∧ Pv (i + 1) (upd H4 D (.lst (acc ++ [y]))) else Pv (i + 1) H3) (hd : ∀ H, Pv xs.length H → Qd H) :
    ∃ W : Nat → Nat → Hp → Prop, (∃ m, W 0 m (upd H1 D (.lst []))) ∧ ∀ i m H, W i m H →
      ((RZ.ItzT K a b).stop i H ∧ Qd H) ∨ ((RZ.ItzT K a b).go i H ∧ ∃ Nx : Hp → Prop, (∀ H', Nx H' → ∃ m', m' < m ∧ W (i + 1) m' H') ∧ ∀ x H', (RZ.ItzT K a b).yld i H x H' → g x (wipe σ vs) H' fun σ2 H2 => wipe σ2 vs = wipe σ vs ∧ tt σ2 H2 fun b H3 =>
        if b = true then te σ2 H3 fun y H4 => ∃ acc, H4 D = some (.lst acc) ∧ acc.length < sizeLine ∧ Nx (upd H4 D (.lst (acc ++ [y]))) else Nx H3) := by
  refine ⟨fun i m H => m + i = xs.length ∧ Pv i H, ⟨xs.length, rfl, h0⟩, fun i m H p => ?_⟩
  obtain ⟨e, p⟩ := p
  obtain ⟨qx, qy⟩ := hq i H p
  cases m with
  | zero =>
    have ei : i = xs.length := by omega
    rw [ei] at p ⊢
    exact .inl ⟨⟨xs, ys, qx, qy, .inl (Nat.le_refl _)⟩, hd H p⟩
  | succ m =>
    have hx : i < xs.length := by omega
    have hy : i < ys.length := by omega
    refine .inr ⟨⟨xs, ys, _, _, qx, qy, List.getElem?_eq_getElem hx, List.getElem?_eq_getElem hy⟩, Pv (i + 1), fun H' p' => ⟨m, Nat.lt_succ_self m, by omega, p'⟩, fun v H' z => ?_⟩
    obtain ⟨T, x, y, rfl, hT, rfl, f1, f2⟩ := z
    exact hs i x y T H (f1 xs qx) (f2 ys qy) p hT
end Ft

/-! The checks. -/
namespace Ft
open PySem PySem.Spec PyProof.Rows L2
/-! ### readings in short -/
section
variable {K : PySem.W.Frag} {H : Hp} {Q : VK} {a b : Addr} {xs : List Nat} {vs : List V} {as : List Addr} {i : Nat}
theorem q_true {p : Prop} [Decidable p] (h : p) (q : Q (.bl true) H) : Q (.bl (decide p)) H := by
  rw [decide_eq_true h]
  exact q
theorem q_bl {r t : Bool} (h : r = t) (q : Q (.bl t) H) : Q (.bl r) H := by
  rw [h]
  exact q
theorem q_int {z y : Int} (h : z = y) (q : Q (.int y) H) : Q (.int z) H := by
  rw [h]
  exact q
theorem all_true {n : Nat} (h : H a = some (.lst (List.replicate n (V.bl true)))) (q : Q (.bl true) H) : rAll K [.ref a] H Q := by
  refine ⟨a, List.replicate n true, rfl, SqL.of (by rw [List.map_replicate]; exact h), ?_⟩
  have e : (List.replicate n true).all id = true := by
    rw [List.all_eq_true]
    intro x hx
    exact (List.mem_replicate.mp hx).2
  rw [e]
  exact q
end
/-- [True for x in t] -/
theorem lc_all {K : PySem.W.Frag} {a D : Addr} {xs : List V} {te : TE} {vs : List Nat} {σ : L2.St} {H1 : Hp} {Qd : Hp → Prop} {j : Nat} (hD : H1 D = none) (ha : H1 a = some (.tup xs)) (hn : xs.length ≤ 1000)
    (hw : ∀ x, wipe ((wipe σ vs).set j (some x)) vs = wipe σ vs)
    (hs : ∀ (i : Nat) (x : V) (H : Hp) (Q : VK), xs[i]? = some x → Same H1 H → (∀ H4, Same H H4 → Q (.bl true) H4) → te ((wipe σ vs).set j (some x)) H Q)
    (hd : ∀ H, Same H1 H → H D = some (.lst (List.replicate xs.length (V.bl true))) → Qd H) :
    ∃ W : Nat → Nat → Hp → Prop, (∃ m, W 0 m (upd H1 D (.lst []))) ∧ ∀ i m H, W i m H →
      ((Itt K a).stop i H ∧ Qd H) ∨ ((Itt K a).go i H ∧ ∃ Nx : Hp → Prop, (∀ H', Nx H' → ∃ m', m' < m ∧ W (i + 1) m' H') ∧ ∀ x H', (Itt K a).yld i H x H' → gName j x (wipe σ vs) H' fun σ2 H2 => wipe σ2 vs = wipe σ vs ∧ tYes σ2 H2 fun b H3 =>
        if b = true then te σ2 H3 fun y H4 => ∃ acc, H4 D = some (.lst acc) ∧ acc.length < sizeLine ∧ Nx (upd H4 D (.lst (acc ++ [y]))) else Nx H3) := by
  refine lc_tup (K := K) (a := a) (xs := xs) (fun i H => i ≤ xs.length ∧ Same H1 H ∧ H D = some (.lst (List.replicate i (V.bl true)))) ⟨Nat.zero_le _, same_new hD, upd_same⟩ (fun i H _ p => SqT.of (p.2.1 _ _ ha)) (fun i x H hx p => ?_) (fun H p => hd H p.2.1 p.2.2)
  obtain ⟨hi, s, eD⟩ := p
  have hlt : i < xs.length := (List.getElem?_eq_some_iff.mp hx).1
  refine ⟨hw x, ?_⟩
  unfold tYes
  refine iteT ?_
  refine hs i x H _ hx s fun H4 s4 => ⟨_, s4 _ _ eD, ?_, hlt, ?_, ?_⟩
  · rw [List.length_replicate]
    exact Nat.lt_of_lt_of_le hlt (Nat.le_trans hn (by decide))
  · exact same_upd (s.trans s4) hD
  · rw [upd_same, List.replicate_succ']

/-! ### is_whole, is_between -/
abbrev s_is_whole : Stmt := topS 7
theorem sc_is_whole : FnScope ["value"] ["value"] (defScope s_is_whole) := ⟨rfl, rfl, rfl, by decide +kernel, rfl, by decide +kernel, by decide +kernel⟩
abbrev s_is_between : Stmt := topS 8
theorem sc_is_between : FnScope ["value", "low", "high"] ["value", "low", "high"] (defScope s_is_between) := ⟨rfl, rfl, rfl, by decide +kernel, rfl, by decide +kernel, by decide +kernel⟩
section
variable {P : Program} {w : World} {K : PySem.W.Frag} {mg : Str → Option Value} {base : Heap}
def sp_is_whole : Sp := fun vs H Q _ => ∃ i : Int, vs = [.int i] ∧ Q (.bl true) H
theorem ok_is_whole (D : DefAt K mg "is_whole" s_is_whole ["value"]) (T : Bt mg) : Callee P w K mg base "is_whole" 1 ["value"] sp_is_whole := by
  refine D.callee fun f fd F => F.ok sc_is_whole (fun vs H Q E h => ?_) (fun cdv A outer s H vs Q E hr h => ?_)
  · obtain ⟨_, rfl, _⟩ := h
    rfl
  · obtain ⟨i, rfl, q⟩ := h
    refine ⟨_, (pss_one (ps_ret (pe_and (pe_callB (r := rIsi K) call_isi (by rfl) T.isinstance bt_isinstance (pa_cons (pv 0) (pa_cons (pe_bltn (v := .ty "int") (by rfl) T.int bt_int rfl) pa_nil))) (pe_one (pe_not (pe_callB (r := rIsi K) call_isi (by rfl) T.isinstance bt_isinstance (pa_cons (pv 0) (pa_cons (pe_bltn (v := .ty "bool") (by rfl) T.bool bt_bool rfl) pa_nil)))))))), ?_⟩
    refine ⟨_, rfl, .int i, .ty "int", .type "int", .type "int", true, rfl, .ty "int", .base (.int _), kit_ty (by decide +kernel), true, rfl, iteT ?_⟩
    exact ⟨_, rfl, .int i, .ty "bool", .type "int", .type "bool", false, rfl, .ty "bool", .base (.int _), kit_ty (by decide +kernel), false, rfl, q⟩
def sp_is_between : Sp := fun vs H Q _ => ∃ i lo hi : Int, vs = [.int i, .int lo, .int hi] ∧ lo ≤ i ∧ i ≤ hi ∧ Q (.bl true) H
theorem ok_is_between (D : DefAt K mg "is_between" s_is_between ["value", "low", "high"]) (T : Bt mg) (C_is_whole : Callee P w K mg base "is_whole" 1 ["value"] sp_is_whole) : Callee P w K mg base "is_between" 2 ["value", "low", "high"] sp_is_between := by
  refine D.callee fun f fd F => F.ok sc_is_between (fun vs H Q E h => ?_) (fun cdv A outer s H vs Q E hr h => ?_)
  · obtain ⟨_, _, _, rfl, _⟩ := h
    rfl
  · obtain ⟨i, lo, hi, rfl, h1, h2, q⟩ := h
    refine ⟨_, (pss_one (ps_ret (pe_and (pe_cd C_is_whole (hr.mono (by omega)) (by rfl) (pa_cons (pv 0) pa_nil)) (pe_one (pe_chain op_le op_le (pv 1) (pv 0) (pv 2)))))), ?_⟩
    refine ⟨_, rfl, i, rfl, true, rfl, iteT ?_⟩
    refine ⟨_, rfl, _, rfl, lo, i, rfl, rfl, true, congrArg V.bl (decide_eq_true h1), iteT ?_⟩
    exact ⟨_, rfl, i, hi, rfl, rfl, q_true (Q := Q) h2 q⟩
end

/-! ### is_allocation, is_series, check_series, is_needless -/
abbrev s_is_allocation : Stmt := topS 9
theorem sc_is_allocation : FnScope ["value", "variants", "buckets", "share"] ["value", "variants", "buckets"] (defScope s_is_allocation) := ⟨rfl, rfl, rfl, by decide +kernel, rfl, by decide +kernel, by decide +kernel⟩
abbrev s_is_series : Stmt := topS 11
theorem sc_is_series : FnScope ["value", "most", "buckets", "one"] ["value", "most"] (defScope s_is_series) := ⟨rfl, rfl, rfl, by decide +kernel, rfl, by decide +kernel, by decide +kernel⟩
abbrev s_check_series : Stmt := topS 12
theorem sc_check_series : FnScope ["allocations", "most"] ["allocations", "most"] (defScope s_check_series) := ⟨rfl, rfl, rfl, by decide +kernel, rfl, by decide +kernel, by decide +kernel⟩
abbrev s_is_needless : Stmt := topS 13
theorem sc_is_needless : FnScope ["before", "behind", "old", "new"] ["before", "behind", "old", "new"] (defScope s_is_needless) := ⟨rfl, rfl, rfl, by decide +kernel, rfl, by decide +kernel, by decide +kernel⟩
section
variable {P : Program} {w : World} {K : PySem.W.Frag} {mg : Str → Option Value} {base : Heap}
def sp_is_allocation : Sp := fun vs H Q _ => ∃ (a : Addr) (xs : List Nat) (k b : Nat), vs = [.ref a, iv k, iv b] ∧ RowT H a xs ∧ xs.length = k ∧ xs.sum = b ∧ k ≤ 5 ∧ ∀ H', Same H H' → Q (.bl true) H'
theorem ok_is_allocation (D : DefAt K mg "is_allocation" s_is_allocation ["value", "variants", "buckets"]) (T : Bt mg) (C_is_whole : Callee P w K mg base "is_whole" 1 ["value"] sp_is_whole) :
    Callee P w K mg base "is_allocation" 2 ["value", "variants", "buckets"] sp_is_allocation := by
  refine D.callee fun f fd F => F.ok sc_is_allocation (fun vs H Q E h => ?_) (fun cdv A outer s H vs Q E hr h => ?_)
  · obtain ⟨_, _, _, _, rfl, _⟩ := h
    rfl
  · obtain ⟨a, xs, k, b, rfl, ha, hk, hb, h5, q⟩ := h
    refine ⟨_, (pss_cons (ps_if (PW.pt (pw_or (pt_not (pt_val (pe_callB (r := rIsi K) call_isi (by rfl) T.isinstance bt_isinstance (pa_cons (pv 0) (pa_cons (pe_bltn (v := .ty "tuple") (by rfl) T.tuple bt_tuple rfl) pa_nil))))) (pw_or1 (pt_cmpR op_ne (pe_callB (r := rLenS K) call_lenS (by rfl) T.len PySem.boot_len (pa_cons (pv 0) pa_nil)) (pv 1) (nomark _))))) (pss_one (ps_ret pe_bl)) pss_nil)
        (pss_one (ps_ret (pe_and (pe_callB (r := rAll K) (cr_all rfl) (by rfl) T.all bt_all (pa_cons (pe_lc (own := [("share", 3)]) (g := gName 3) (tt := tYes) rfl sc_is_allocation.nd (pi_tup (pv 0)) (blkOk_by (own := [("share", 3)]) (N := ["value", "variants", "buckets", "share"]) (sc := defScope s_is_allocation) (by decide +kernel)) (fun _ _ _ _ _ => (pg_name (i := 3) sc_is_allocation.nd rfl (Or.inl rfl))) (fun _ _ _ _ _ => pts_nil) (fun _ _ _ _ _ => (pe_and (pe_cd C_is_whole (hr.mono (by omega)) (by rfl) (pa_cons (pv 3) pa_nil)) (pe_one (pe_cmpR op_ge (pv 3) pe_int (nomark _)))))) pa_nil)) (pe_one (pe_cmpR op_eq (pe_callB (r := rSumT K) (cr_sumT rfl) (by rfl) T.sum bt_sum (pa_cons (pv 0) pa_nil)) (pv 2) (nomark _))))))), ?_⟩
    refine ⟨_, rfl, .ref a, .ty "tuple", .type "tuple", .type "tuple", true, rfl, .ty "tuple", .base (.tup ha), kit_ty (by decide +kernel), true, rfl, iteF ?_⟩
    refine ⟨_, rfl, a, _, rfl, .inr (SqT.of ha), _, rfl, rfl, _, rfl, ?_⟩
    have el : ((xs.map iv).length : Int) = (k : Int) := by rw [List.length_map, hk]
    refine iteNS (by rw [el]) ?_
    refine ⟨_, rfl, a, rfl, ⟨_, SqT.of ha⟩, fun D hD => lc_all (j := 3) hD ha (by rw [List.length_map, hk]; omega) (fun _ => rfl) (fun i x H1 Q1 hx s1 q1 => ?_) fun H1 s1 eD => ?_⟩
    · obtain ⟨n, rfl⟩ : ∃ n : Nat, x = iv n := by
        rw [List.getElem?_map] at hx
        cases e : xs[i]? with
        | none => rw [e] at hx; cases hx
        | some n => rw [e] at hx; exact ⟨n, (Option.some.inj hx).symm⟩
      refine ⟨_, rfl, (n : Int), rfl, true, rfl, iteT ?_⟩
      exact ⟨_, rfl, _, _, rfl, rfl, q_true (Q := Q1) (Int.natCast_nonneg n) (q1 H1 (Same.refl H1))⟩
    · refine ⟨D, List.replicate xs.length true, rfl, SqL.of (by rw [List.map_replicate, eD, List.length_map]), ?_⟩
      refine ⟨true, congrArg V.bl ?_, iteT ?_⟩
      · rw [List.all_eq_true]
        intro x hx
        exact (List.mem_replicate.mp hx).2
      · refine ⟨_, rfl, a, xs.map (fun n : Nat => (n : Int)), rfl, SqT.of (by rw [← iv_map]; exact s1 _ _ ha), _, rfl, rfl, ?_⟩
        have es : V.int (xs.map (fun n : Nat => (n : Int))).sum = iv b := by rw [sum_cast, hb]
        exact q_true (Q := Q) es (q H1 s1)
theorem iv_item {xs : List Nat} {i : Nat} {x : V} (h : (xs.map iv)[i]? = some x) : ∃ n, x = iv n ∧ xs[i]? = some n := by
  rw [List.getElem?_map] at h
  cases e : xs[i]? with
  | none => rw [e] at h; cases h
  | some n => rw [e] at h; exact ⟨n, (Option.some.inj h).symm, rfl⟩
theorem ref_item {as : List Addr} {i : Nat} {x : V} (h : (as.map V.ref)[i]? = some x) : ∃ a, x = .ref a ∧ as[i]? = some a := by
  rw [List.getElem?_map] at h
  cases e : as[i]? with
  | none => rw [e] at h; cases h
  | some n => rw [e] at h; exact ⟨n, (Option.some.inj h).symm, rfl⟩
theorem le_sum : ∀ {xs : List Nat} {n : Nat}, n ∈ xs → n ≤ xs.sum
  | x :: xs, n, h => by
    rw [List.sum_cons]
    rcases List.mem_cons.mp h with rfl | h
    · omega
    · have := le_sum h
      omega
theorem all_repl (n : Nat) : (List.replicate n true).all id = true := by
  rw [List.all_eq_true]
  intro x hx
  exact (List.mem_replicate.mp hx).2
/-- the constants of the module -/
structure Ks (mg : Str → Option Value) : Prop where
  mv : ∃ t, mg "MOST_VARIANTS" = some (.int 5 t)
  mb : ∃ t, mg "MOST_BUCKETS" = some (.int 20 t)
  ma : ∃ t, mg "MOST_ALLOCATIONS" = some (.int 6 t)
  mp : ∃ t, mg "MOST_PAIRS" = some (.int 15 t)
  mc : ∃ t, mg "MOST_CELLS" = some (.int 12 t)
/-- allocations alike -/
structure Ser (al : List Row) (k b : Nat) : Prop where
  ne : 0 < al.length
  k1 : 1 ≤ k
  k5 : k ≤ 5
  b20 : b ≤ 20
  len : ∀ a ∈ al, a.length = k
  sum : ∀ a ∈ al, a.sum = b
def sp_is_series : Sp := fun vs H Q _ => ∃ (a : Addr) (al : List Row) (k b most : Nat), vs = [.ref a, iv most] ∧ TabT H a al ∧ Ser al k b ∧ al.length ≤ most ∧ most ≤ 1000 ∧ ∀ H', Same H H' → Q (.bl true) H'
theorem ok_is_series (D : DefAt K mg "is_series" s_is_series ["value", "most"]) (T : Bt mg) (M : Ks mg) (C_is_between : Callee P w K mg base "is_between" 2 ["value", "low", "high"] sp_is_between)
    (C_is_allocation : Callee P w K mg base "is_allocation" 2 ["value", "variants", "buckets"] sp_is_allocation) : Callee P w K mg base "is_series" 3 ["value", "most"] sp_is_series := by
  obtain ⟨t1, mMV⟩ := M.mv
  obtain ⟨t2, mMB⟩ := M.mb
  refine D.callee fun f fd F => F.ok sc_is_series (fun vs H Q E h => ?_) (fun cdv A outer s H vs Q E hr h => ?_)
  · obtain ⟨_, _, _, _, _, rfl, _⟩ := h
    rfl
  · obtain ⟨a, al, k, b, most, rfl, ⟨as, ha, hal⟩, S, hm, hmost, q⟩ := h
    refine ⟨_, (pss_cons (ps_if (PW.pt (pw_or (pt_not (pt_val (pe_callB (r := rIsi K) call_isi (by rfl) T.isinstance bt_isinstance (pa_cons (pv 0) (pa_cons (pe_bltn (v := .ty "tuple") (by rfl) T.tuple bt_tuple rfl) pa_nil))))) (pw_or (pt_not (pt_chain op_le op_le pe_int (pe_callB (r := rLenS K) call_lenS (by rfl) T.len PySem.boot_len (pa_cons (pv 0) pa_nil)) (pv 1))) (pw_or1 (pt_not (pt_val (pe_callB (r := rIsi K) call_isi (by rfl) T.isinstance bt_isinstance (pa_cons (pe_ix (r := rIxT K) ix_tup (pv 0) pe_int (fun _ _ => rfl)) (pa_cons (pe_bltn (v := .ty "tuple") (by rfl) T.tuple bt_tuple rfl) pa_nil))))))))) (pss_one (ps_ret pe_bl)) pss_nil)
        (pss_cons (ps_if (PW.pt (pw_or (pt_not (pt_chain op_le op_le pe_int (pe_callB (r := rLenS K) call_lenS (by rfl) T.len PySem.boot_len (pa_cons (pe_ix (r := rIxT K) ix_tup (pv 0) pe_int (fun _ _ => rfl)) pa_nil)) (pe_glob (v := .int 5) rfl mMV ⟨_, rfl⟩))) (pw_or1 (pt_not (pt_val (pe_callB (r := rAll K) (cr_all rfl) (by rfl) T.all bt_all (pa_cons (pe_lc (own := [("one", 3)]) (g := gName 3) (tt := tYes) rfl sc_is_series.nd (pi_tup (pe_ix (r := rIxT K) ix_tup (pv 0) pe_int (fun _ _ => rfl))) (blkOk_by (own := [("one", 3)]) (N := ["value", "most", "buckets", "one"]) (sc := defScope s_is_series) (by decide +kernel)) (fun _ _ _ _ _ => (pg_name (i := 3) sc_is_series.nd rfl (Or.inl rfl))) (fun _ _ _ _ _ => pts_nil) (fun _ _ _ _ _ => (pe_cd C_is_between (hr.mono (by omega)) (by rfl) (pa_cons (pv 3) (pa_cons pe_int (pa_cons (pe_glob (v := .int 20) rfl mMB ⟨_, rfl⟩) pa_nil)))))) pa_nil))))))) (pss_one (ps_ret pe_bl)) pss_nil)
        (pss_cons (ps_set (i := 2) sc_is_series.nd rfl (.inr rfl) (pe_callB (r := rSumT K) (cr_sumT rfl) (by rfl) T.sum bt_sum (pa_cons (pe_ix (r := rIxT K) ix_tup (pv 0) pe_int (fun _ _ => rfl)) pa_nil)))
        (pss_one (ps_ret (pe_and (pe_cmpR op_le (pv 2) (pe_glob (v := .int 20) rfl mMB ⟨_, rfl⟩) (nomark _)) (pe_one (pe_callB (r := rAll K) (cr_all rfl) (by rfl) T.all bt_all (pa_cons (pe_lc (own := [("one", 3)]) (g := gName 3) (tt := tYes) rfl sc_is_series.nd (pi_tup (pv 0)) (blkOk_by (own := [("one", 3)]) (N := ["value", "most", "buckets", "one"]) (sc := defScope s_is_series) (by decide +kernel)) (fun _ _ _ _ _ => (pg_name (i := 3) sc_is_series.nd rfl (Or.inl rfl))) (fun _ _ _ _ _ => pts_nil) (fun _ _ _ _ _ => (pe_cd C_is_allocation (hr.mono (by omega)) (by rfl) (pa_cons (pv 3) (pa_cons (pe_callB (r := rLenS K) call_lenS (by rfl) T.len PySem.boot_len (pa_cons (pe_ix (r := rIxT K) ix_tup (pv 0) pe_int (fun _ _ => rfl)) pa_nil)) (pa_cons (pv 2) pa_nil)))))) pa_nil))))))))), ?_⟩
    have hlen : (as.map V.ref).length = al.length := by rw [List.length_map]; exact hal.1
    obtain ⟨a0, h0, r0⟩ := hal.get S.ne []
    have m0 : al.getD 0 [] ∈ al := getD_mem S.ne
    have l0 := S.len _ m0
    have s0 := S.sum _ m0
    have len0 : ((al.getD 0 []).map iv).length = k := by rw [List.length_map, l0]
    -- the first test
    refine ⟨_, rfl, .ref a, .ty "tuple", .type "tuple", .type "tuple", true, rfl, .ty "tuple", .base (.tup ha), kit_ty (by decide +kernel), true, rfl, iteF ?_⟩
    refine ⟨.ref a, rfl, a, _, rfl, .inr (SqT.of ha), 1, _, rfl, rfl, true, congrArg V.bl (decide_eq_true (by rw [hlen]; have := S.ne; omega)), iteT ?_⟩
    refine ⟨_, rfl, _, _, rfl, rfl, true, congrArg V.bl (decide_eq_true (by rw [hlen]; omega)), iteF ?_⟩
    refine ⟨.ref a, rfl, a, _, _, _, rfl, rfl, SqT.of ha, at_ref h0, .ref a0, .ty "tuple", .type "tuple", .type "tuple", true, rfl, .ty "tuple", .base (.tup r0), kit_ty (by decide +kernel), true, rfl, iteF ?_⟩
    -- the second test
    refine ⟨.ref a, rfl, a, _, _, _, rfl, rfl, SqT.of ha, at_ref h0, a0, _, rfl, .inr (SqT.of r0), 1, _, rfl, rfl, true, congrArg V.bl (decide_eq_true (by rw [len0]; have := S.k1; omega)), iteT ?_⟩
    refine ⟨_, _, rfl, rfl, true, congrArg V.bl (decide_eq_true (by rw [len0]; have := S.k5; omega)), iteF ?_⟩
    refine ⟨.ref a, rfl, a, _, _, _, rfl, rfl, SqT.of ha, at_ref h0, a0, rfl, ⟨_, SqT.of r0⟩, fun D hD => lc_all (j := 3) hD r0 (by rw [len0]; have := S.k5; omega) (fun _ => rfl) (fun i x H1 Q1 hx s1 q1 => ?_) fun H1 s1 eD => ?_⟩
    · obtain ⟨n, rfl, hn⟩ := iv_item hx
      have hle := le_sum (List.mem_of_getElem? hn)
      exact ⟨_, rfl, (n : Int), 0, 20, rfl, Int.natCast_nonneg n, (by have := S.b20; omega), q1 H1 (Same.refl H1)⟩
    refine ⟨D, List.replicate _ true, rfl, SqL.of (by rw [List.map_replicate, eD]), true, congrArg V.bl (all_repl _), iteF ?_⟩
    -- the sum
    have ha1 := s1 _ _ ha
    have hal1 : All2 (RowT H1) as al := hal.mono fun _ _ q => RowT.ts (same_ts s1) q
    have r1 : RowT H1 a0 (al.getD 0 []) := s1 _ _ r0
    have es : ((al.getD 0 []).map (fun n : Nat => (n : Int))).sum = (b : Int) := by rw [sum_cast, s0]
    refine ⟨.ref a, rfl, a, _, _, _, rfl, rfl, SqT.of ha1, at_ref h0, a0, _, rfl, SqT.of (by rw [← iv_map]; exact r1), ?_⟩
    rw [es]
    refine ⟨_, rfl, _, _, rfl, rfl, true, congrArg V.bl (decide_eq_true (by have := S.b20; omega)), iteT ?_⟩
    refine ⟨.ref a, rfl, a, rfl, ⟨_, SqT.of ha1⟩, fun D2 hD2 => lc_all (j := 3) hD2 ha1 (by rw [hlen]; omega) (fun _ => rfl) (fun i x H2 Q2 hx s2 q2 => ?_) fun H2 s2 eD2 => ?_⟩
    · obtain ⟨c, rfl, hc⟩ := ref_item hx
      have hi : i < al.length := by rw [← hal.1]; exact (List.getElem?_eq_some_iff.mp hc).1
      have ec : al[i]? = some al[i] := List.getElem?_eq_getElem hi
      have rc : RowT H2 c al[i] := s2 _ _ (hal1.2 i c _ hc ec)
      have mi : al[i] ∈ al := List.getElem_mem hi
      refine ⟨_, rfl, .ref a, rfl, a, _, _, _, rfl, rfl, SqT.of (s2 _ _ ha1), at_ref h0, a0, _, rfl, .inr (SqT.of (s2 _ _ r1)), ?_⟩
      rw [len0]
      exact ⟨_, rfl, c, al[i], k, b, rfl, rc, S.len _ mi, S.sum _ mi, S.k5, q2⟩
    · exact ⟨D2, List.replicate _ true, rfl, SqL.of (by rw [List.map_replicate, eD2]), q_bl (Q := Q) (all_repl _) (q H2 (s1.trans s2))⟩
def sp_check_series : Sp := fun vs H Q _ => ∃ (a : Addr) (al : List Row) (k b most : Nat), vs = [.ref a, iv most] ∧ TabT H a al ∧ Ser al k b ∧ al.length ≤ most ∧ most ≤ 1000 ∧ ∀ H', Same H H' → Q .non H'
theorem ok_check_series (D : DefAt K mg "check_series" s_check_series ["allocations", "most"]) (C_is_series : Callee P w K mg base "is_series" 3 ["value", "most"] sp_is_series) :
    Callee P w K mg base "check_series" 4 ["allocations", "most"] sp_check_series := by
  refine D.callee fun f fd F => F.ok sc_check_series (fun vs H Q E h => ?_) (fun cdv A outer s H vs Q E hr h => ?_)
  · obtain ⟨_, _, _, _, _, rfl, _⟩ := h
    rfl
  · obtain ⟨a, al, k, b, most, rfl, ha, S, hm, hmost, q⟩ := h
    refine ⟨_, (pss_one (ps_if (pt_not (pt_val (pe_cd C_is_series (hr.mono (by omega)) (by rfl) (pa_cons (pv 0) (pa_cons (pv 1) pa_nil))))) (pss_one ps_never) pss_nil)), ?_⟩
    exact ⟨_, rfl, _, rfl, a, al, k, b, most, rfl, ha, S, hm, hmost, fun H' s' => ⟨true, rfl, iteF (q H' s')⟩⟩
def sp_is_needless : Sp := fun vs H Q _ => ∃ (a c : Addr) (A B : Row) (x y : Nat), vs = [.ref a, .ref c, iv x, iv y] ∧ RowT H a A ∧ RowT H c B ∧ x < A.length ∧ x < B.length ∧ y < A.length ∧ y < B.length ∧ Q (.bl (needless A B x y)) H
theorem ok_is_needless (D : DefAt K mg "is_needless" s_is_needless ["before", "behind", "old", "new"]) : Callee P w K mg base "is_needless" 1 ["before", "behind", "old", "new"] sp_is_needless := by
  refine D.callee fun f fd F => F.ok sc_is_needless (fun vs H Q E h => ?_) (fun cdv A outer s H vs Q E hr h => ?_)
  · obtain ⟨_, _, _, _, _, _, rfl, _⟩ := h
    rfl
  · obtain ⟨a, c, A, B, x, y, rfl, ha, hc, xa, xb, ya, yb, q⟩ := h
    refine ⟨_, (pss_one (ps_ret (pe_and (pe_cmpR op_ne (pv 2) (pv 3) (nomark _)) (pe_one (pe_or (pe_cmpR op_ge (pe_ix (r := rIxT K) ix_tup (pv 1) (pv 2) (fun _ _ => rfl)) (pe_ix (r := rIxT K) ix_tup (pv 0) (pv 2) (fun _ _ => rfl)) (nomark _)) (pe_one (pe_cmpR op_le (pe_ix (r := rIxT K) ix_tup (pv 1) (pv 3) (fun _ _ => rfl)) (pe_ix (r := rIxT K) ix_tup (pv 0) (pv 3) (fun _ _ => rfl)) (nomark _)))))))), ?_⟩
    unfold needless at q
    refine ⟨_, rfl, _, rfl, rfl, _, rfl, ite2 (fun hne => ?_) (fun he => ?_)⟩
    · have hxy : x ≠ y := fun e => by
        subst e
        simp at hne
      have h1 : (x != y) = true := bne_iff_ne.mpr hxy
      rw [h1, Bool.true_and] at q
      refine ⟨_, rfl, _, rfl, c, _, _, _, rfl, rfl, SqT.of hc, at_iv xb, .ref a, rfl, _, rfl, a, _, _, _, rfl, rfl, SqT.of ha, at_iv xa, _, _, rfl, rfl, _, rfl, ite2 (fun h => ?_) (fun h => ?_)⟩
      · have h2 : A.getD x 0 ≤ B.getD x 0 := by
          have := of_decide_eq_true h
          omega
        rw [decide_eq_true h2, Bool.true_or] at q
        exact q
      · have h2 : ¬ A.getD x 0 ≤ B.getD x 0 := fun z => h (decide_eq_true (by omega))
        rw [decide_eq_false h2, Bool.false_or] at q
        refine ⟨_, rfl, _, rfl, c, _, _, _, rfl, rfl, SqT.of hc, at_iv yb, .ref a, rfl, _, rfl, a, _, _, _, rfl, rfl, SqT.of ha, at_iv ya, _, _, rfl, rfl, ?_⟩
        exact q_bl (Q := Q) (decide_eq_decide.mpr (by omega)) q
    · have hxy : x = y := by
        by_cases e : x = y
        · exact e
        · exfalso
          apply he
          have : ¬ (V.int (x : Int)) = V.int (y : Int) := fun z => e (by have := V.int.inj z; omega)
          rw [decide_eq_false this]
          rfl
      subst hxy
      have h1 : (x != x) = false := by simp
      rw [h1, Bool.false_and] at q
      exact q
end
end Ft

namespace Ft
open PySem PySem.Spec PyProof.Rows L2
/-- a plan that a search takes -/
structure PlanOk (al : List Row) (ps : List (Nat × Nat)) (k b : Nat) : Prop where
  ser : Ser al k b
  n2 : 2 ≤ al.length
  n5 : al.length ≤ 5
  cells : b * al.length ≤ 12
  pr : ∀ p ∈ ps, p.1 < p.2 ∧ p.2 < al.length
  nd : ps.Nodup
  pl : ps.length ≤ 15
  b8 : b ≤ 8
  few : b * (al.length - 1) ≤ 8
  ok : al.length ≤ 4 ∨ firstT al ps k b = none
theorem PlanOk.good {al : List Row} {ps : List (Nat × Nat)} {k b : Nat} (p : PlanOk al ps k b) : Good al ps k b := ⟨p.ser.ne, p.ser.len, p.ser.sum, p.pr⟩
/-! ### is_pair, check_plan, check_search -/
abbrev s_is_pair : Stmt := topS 18
theorem sc_is_pair : FnScope ["value", "many", "one"] ["value", "many"] (defScope s_is_pair) := ⟨rfl, rfl, rfl, by decide +kernel, rfl, by decide +kernel, by decide +kernel⟩
abbrev s_check_plan : Stmt := topS 19
theorem sc_check_plan : FnScope ["allocations", "pairs", "pair"] ["allocations", "pairs"] (defScope s_check_plan) := ⟨rfl, rfl, rfl, by decide +kernel, rfl, by decide +kernel, by decide +kernel⟩
abbrev s_check_search : Stmt := topS 20
theorem sc_check_search : FnScope ["allocations", "pairs"] ["allocations", "pairs"] (defScope s_check_search) := ⟨rfl, rfl, rfl, by decide +kernel, rfl, by decide +kernel, by decide +kernel⟩
section
variable {P : Program} {w : World} {K : PySem.W.Frag} {mg : Str → Option Value} {base : Heap}
def sp_is_pair : Sp := fun vs H Q _ => ∃ (a : Addr) (p : Nat × Nat) (n : Nat), vs = [.ref a, iv n] ∧ PairT H a p ∧ p.1 < p.2 ∧ p.2 < n ∧ ∀ H', Same H H' → Q (.bl true) H'
theorem ok_is_pair (D : DefAt K mg "is_pair" s_is_pair ["value", "many"]) (T : Bt mg) (C_is_between : Callee P w K mg base "is_between" 2 ["value", "low", "high"] sp_is_between) :
    Callee P w K mg base "is_pair" 3 ["value", "many"] sp_is_pair := by
  refine D.callee fun f fd F => F.ok sc_is_pair (fun vs H Q E h => ?_) (fun cdv A outer s H vs Q E hr h => ?_)
  · obtain ⟨_, _, _, rfl, _⟩ := h
    rfl
  · obtain ⟨a, p, n, rfl, ha, h12, h2n, q⟩ := h
    refine ⟨_, (pss_cons (ps_if (PW.pt (pw_or (pt_not (pt_val (pe_callB (r := rIsi K) call_isi (by rfl) T.isinstance bt_isinstance (pa_cons (pv 0) (pa_cons (pe_bltn (v := .ty "tuple") (by rfl) T.tuple bt_tuple rfl) pa_nil))))) (pw_or (pt_cmpR op_ne (pe_callB (r := rLenS K) call_lenS (by rfl) T.len PySem.boot_len (pa_cons (pv 0) pa_nil)) pe_int (nomark _)) (pw_or1 (pt_not (pt_val (pe_callB (r := rAll K) (cr_all rfl) (by rfl) T.all bt_all (pa_cons (pe_lc (own := [("one", 2)]) (g := gName 2) (tt := tYes) rfl sc_is_pair.nd (pi_tup (pv 0)) (blkOk_by (own := [("one", 2)]) (N := ["value", "many", "one"]) (sc := defScope s_is_pair) (by decide +kernel)) (fun _ _ _ _ _ => (pg_name (i := 2) sc_is_pair.nd rfl (Or.inl rfl))) (fun _ _ _ _ _ => pts_nil) (fun _ _ _ _ _ => (pe_cd C_is_between (hr.mono (by omega)) (by rfl) (pa_cons (pv 2) (pa_cons pe_int (pa_cons (pe_op op_sub (pv 1) pe_int) pa_nil)))))) pa_nil)))))))) (pss_one (ps_ret pe_bl)) pss_nil)
        (pss_one (ps_ret (pe_cmpR op_lt (pe_ix (r := rIxT K) ix_tup (pv 0) pe_int (fun _ _ => rfl)) (pe_ix (r := rIxT K) ix_tup (pv 0) pe_int (fun _ _ => rfl)) (nomark _))))), ?_⟩
    refine ⟨_, rfl, .ref a, .ty "tuple", .type "tuple", .type "tuple", true, rfl, .ty "tuple", .base (.tup ha), kit_ty (by decide +kernel), true, rfl, iteF ?_⟩
    refine ⟨_, rfl, a, _, rfl, .inr (SqT.of ha), rfl, _, rfl, iteNS rfl ?_⟩
    refine ⟨_, rfl, a, rfl, ⟨_, SqT.of ha⟩, fun D hD => lc_all (j := 2) hD ha (by show 2 ≤ 1000; decide) (fun _ => rfl) (fun i x H1 Q1 hx s1 q1 => ?_) fun H1 s1 eD => ?_⟩
    · obtain ⟨m, rfl, hm⟩ := iv_item hx
      have hmem := List.mem_of_getElem? hm
      have hlt : m < n := by
        unfold prow at hmem
        rcases List.mem_cons.mp hmem with e | e
        · omega
        · have := List.mem_singleton.mp e
          omega
      exact ⟨_, rfl, _, rfl, _, _, rfl, rfl, (m : Int), 0, (n : Int) - 1, rfl, Int.natCast_nonneg m, (by omega), q1 H1 (Same.refl H1)⟩
    refine ⟨D, List.replicate _ true, rfl, SqL.of (by rw [List.map_replicate, eD]), true, congrArg V.bl (all_repl _), iteF ?_⟩
    have ha1 : RowT H1 a (prow p) := s1 _ _ ha
    refine ⟨.ref a, rfl, a, _, _, _, rfl, rfl, SqT.of ha1, at_iv (xs := prow p) (i := 0) (Nat.zero_lt_succ 1), .ref a, rfl, a, _, _, _, rfl, rfl, SqT.of ha1, at_iv (xs := prow p) (i := 1) (Nat.lt_succ_self 1), _, _, rfl, rfl, ?_⟩
    exact q_true (Q := Q) (show ((prow p).getD 0 0 : Int) < ((prow p).getD 1 0 : Int) from Int.ofNat_lt.mpr h12) (q H1 s1)
def keyOf (p : Nat × Nat) : List Key := [Sum.inl (p.1 : Int), Sum.inl (p.2 : Int)]
theorem keyOf_inj {p q : Nat × Nat} (h : keyOf p = keyOf q) : p = q := by
  unfold keyOf at h
  have h1 := (List.cons.inj h).1
  have h2 := (List.cons.inj (List.cons.inj h).2).1
  have e1 := Sum.inl.inj h1
  have e2 := Sum.inl.inj h2
  exact Prod.ext (by omega) (by omega)
theorem keys_nodup : ∀ {ps : List (Nat × Nat)}, ps.Nodup → (ps.map keyOf).Nodup
  | [], _ => List.nodup_nil
  | p :: ps, h => by
    obtain ⟨h1, h2⟩ := List.nodup_cons.mp h
    rw [List.map_cons]
    refine List.nodup_cons.mpr ⟨fun hm => ?_, keys_nodup h2⟩
    obtain ⟨q, hq, e⟩ := List.mem_map.mp hm
    rw [keyOf_inj e] at hq
    exact h1 hq
def sp_check_plan : Sp := fun vs H Q _ => ∃ (a pa : Addr) (al : List Row) (ps : List (Nat × Nat)) (k b : Nat), vs = [.ref a, .ref pa] ∧ TabT H a al ∧ PrsT H pa ps ∧ PlanOk al ps k b ∧ ∀ H', Same H H' → Q .non H'
theorem ok_check_plan (D : DefAt K mg "check_plan" s_check_plan ["allocations", "pairs"]) (T : Bt mg) (M : Ks mg) (C_check_series : Callee P w K mg base "check_series" 4 ["allocations", "most"] sp_check_series)
    (C_is_pair : Callee P w K mg base "is_pair" 3 ["value", "many"] sp_is_pair) : Callee P w K mg base "check_plan" 5 ["allocations", "pairs"] sp_check_plan := by
  obtain ⟨t1, mMA⟩ := M.ma
  obtain ⟨t2, mMP⟩ := M.mp
  refine D.callee fun f fd F => F.ok sc_check_plan (fun vs H Q E h => ?_) (fun cdv A outer s H vs Q E hr h => ?_)
  · obtain ⟨_, _, _, _, _, _, rfl, _⟩ := h
    rfl
  · obtain ⟨a, pa, al, ps, k, b, rfl, ha, hp, G, q⟩ := h
    refine ⟨_, (pss_cons (ps_expr (pe_cd C_check_series (hr.mono (by omega)) (by rfl) (pa_cons (pv 0) (pa_cons (pe_glob (v := .int 6) rfl mMA ⟨_, rfl⟩) pa_nil))))
        (pss_cons (ps_if (PW.pt (pw_or (pt_not (pt_val (pe_callB (r := rIsi K) call_isi (by rfl) T.isinstance bt_isinstance (pa_cons (pv 1) (pa_cons (pe_bltn (v := .ty "tuple") (by rfl) T.tuple bt_tuple rfl) pa_nil))))) (pw_or1 (pt_cmpR op_gt (pe_callB (r := rLenS K) call_lenS (by rfl) T.len PySem.boot_len (pa_cons (pv 1) pa_nil)) (pe_glob (v := .int 15) rfl mMP ⟨_, rfl⟩) (nomark _))))) (pss_one ps_never) pss_nil)
        (pss_cons (ps_if (pt_not (pt_val (pe_callB (r := rAll K) (cr_all rfl) (by rfl) T.all bt_all (pa_cons (pe_lc (own := [("pair", 2)]) (g := gName 2) (tt := tYes) rfl sc_check_plan.nd (pi_tup (pv 1)) (blkOk_by (own := [("pair", 2)]) (N := ["allocations", "pairs", "pair"]) (sc := defScope s_check_plan) (by decide +kernel)) (fun _ _ _ _ _ => (pg_name (i := 2) sc_check_plan.nd rfl (Or.inl rfl))) (fun _ _ _ _ _ => pts_nil) (fun _ _ _ _ _ => (pe_cd C_is_pair (hr.mono (by omega)) (by rfl) (pa_cons (pv 2) (pa_cons (pe_callB (r := rLenS K) call_lenS (by rfl) T.len PySem.boot_len (pa_cons (pv 0) pa_nil)) pa_nil))))) pa_nil)))) (pss_one ps_never) pss_nil)
        (pss_one (ps_if (pt_cmpR op_lt (pe_callB call_len_dT (by rfl) T.len PySem.boot_len (pa_cons (pe_dcT rfl (hu_of hr) (pv 1) (by decide +kernel) rfl) pa_nil)) (pe_callB (r := rLenS K) call_lenS (by rfl) T.len PySem.boot_len (pa_cons (pv 1) pa_nil)) (nomark _)) (pss_one ps_never) pss_nil))))), ?_⟩
    refine ⟨_, rfl, a, al, k, b, 6, rfl, ha, G.ser, (by have := G.n5; omega), (by decide), fun H1 s1 => ?_⟩
    obtain ⟨as, ha1, hal⟩ := TabT.ts (same_ts s1) ha
    obtain ⟨qs, hp1, hps⟩ := PrsT.ts (same_ts s1) hp
    have hlen : (as.map V.ref).length = al.length := by rw [List.length_map]; exact hal.1
    have plen : (qs.map V.ref).length = ps.length := by rw [List.length_map]; exact hps.1
    -- the tuple of pairs
    refine ⟨_, rfl, .ref pa, .ty "tuple", .type "tuple", .type "tuple", true, rfl, .ty "tuple", .base (.tup hp1), kit_ty (by decide +kernel), true, rfl, iteF ?_⟩
    refine ⟨_, rfl, pa, _, rfl, .inr (SqT.of hp1), _, _, rfl, rfl, false, congrArg V.bl (decide_eq_false (by rw [plen]; have := G.pl; omega)), iteF ?_⟩
    -- each is a pair
    refine ⟨_, rfl, pa, rfl, ⟨_, SqT.of hp1⟩, fun D hD => lc_all (j := 2) hD hp1 (by rw [plen]; have := G.pl; omega) (fun _ => rfl) (fun i x H2 Q2 hx s2 q2 => ?_) fun H2 s2 eD => ?_⟩
    · obtain ⟨c, rfl, hc⟩ := ref_item hx
      have hi : i < ps.length := by rw [← hps.1]; exact (List.getElem?_eq_some_iff.mp hc).1
      have rc : PairT H2 c ps[i] := s2 _ _ (hps.2 i c _ hc (List.getElem?_eq_getElem hi))
      obtain ⟨h12, h2n⟩ := G.pr ps[i] (List.getElem_mem hi)
      refine ⟨_, rfl, .ref a, rfl, a, _, rfl, .inr (SqT.of (s2 _ _ ha1)), ?_⟩
      rw [hlen]
      exact ⟨c, ps[i], al.length, rfl, rc, h12, h2n, q2⟩
    refine ⟨D, List.replicate _ true, rfl, SqL.of (by rw [List.map_replicate, eD]), true, congrArg V.bl (all_repl _), iteF ?_⟩
    -- no pair twice
    have hp2 := s2 _ _ hp1
    refine ⟨.ref pa, rfl, pa, qs, ps.map keyOf, rfl, hp2, (by rw [List.length_map]; exact hps.1), (by rw [List.length_map]; have := G.pl; omega), (fun i c ky hc hk => ?_), fun D2 hD2 => ?_⟩
    · rw [List.getElem?_map] at hk
      cases e : ps[i]? with
      | none => rw [e] at hk; cases hk
      | some p =>
        rw [e] at hk
        cases hk
        exact s2 _ _ (hps.2 i c p hc e)
    · have hp3 : (upd H2 D2 (.dT (dcOf (ps.map keyOf)))) pa = some (.tup (qs.map V.ref)) := by
        rw [upd_ne (ne_of_none hp2 hD2)]
        exact hp2
      have el : (dcOf (ps.map keyOf)).length = ps.length := by
        rw [dcOf_keys _ _ rfl (keys_nodup G.nd), List.length_map, List.length_map]
      refine ⟨D2, _, rfl, upd_same, _, rfl, pa, _, rfl, .inr (SqT.of hp3), _, _, rfl, rfl, false, congrArg V.bl (decide_eq_false (by rw [el, plen]; exact Int.lt_irrefl _)), iteF ?_⟩
      exact q _ (same_upd (s1.trans s2) ((s1.trans s2).free hD2))
def sp_check_search : Sp := fun vs H Q _ => ∃ (a pa : Addr) (al : List Row) (ps : List (Nat × Nat)) (k b : Nat), vs = [.ref a, .ref pa] ∧ TabT H a al ∧ PrsT H pa ps ∧ PlanOk al ps k b ∧ ∀ H', Same H H' → Q .non H'
theorem ok_check_search (D : DefAt K mg "check_search" s_check_search ["allocations", "pairs"]) (T : Bt mg) (M : Ks mg) (C_check_plan : Callee P w K mg base "check_plan" 5 ["allocations", "pairs"] sp_check_plan) :
    Callee P w K mg base "check_search" 6 ["allocations", "pairs"] sp_check_search := by
  obtain ⟨t1, mMC⟩ := M.mc
  refine D.callee fun f fd F => F.ok sc_check_search (fun vs H Q E h => ?_) (fun cdv A outer s H vs Q E hr h => ?_)
  · obtain ⟨_, _, _, _, _, _, rfl, _⟩ := h
    rfl
  · obtain ⟨a, pa, al, ps, k, b, rfl, ha, hp, G, q⟩ := h
    refine ⟨_, (pss_cons (ps_expr (pe_cd C_check_plan (hr.mono (by omega)) (by rfl) (pa_cons (pv 0) (pa_cons (pv 1) pa_nil))))
        (pss_one (ps_if (pt_cmpR op_gt (pe_op op_mul (pe_callB (r := rSumT K) (cr_sumT rfl) (by rfl) T.sum bt_sum (pa_cons (pe_ix (r := rIxT K) ix_tup (pv 0) pe_int (fun _ _ => rfl)) pa_nil)) (pe_callB (r := rLenS K) call_lenS (by rfl) T.len PySem.boot_len (pa_cons (pv 0) pa_nil))) (pe_glob (v := .int 12) rfl mMC ⟨_, rfl⟩) (nomark _)) (pss_one ps_never) pss_nil))), ?_⟩
    refine ⟨_, rfl, _, rfl, a, pa, al, ps, k, b, rfl, ha, hp, G, fun H1 s1 => ?_⟩
    obtain ⟨as, ha1, hal⟩ := TabT.ts (same_ts s1) ha
    have hlen : (as.map V.ref).length = al.length := by rw [List.length_map]; exact hal.1
    obtain ⟨a0, h0, r0⟩ := hal.get G.ser.ne []
    have s0 := G.ser.sum _ (getD_mem (d := []) G.ser.ne)
    have es : ((al.getD 0 []).map (fun n : Nat => (n : Int))).sum = (b : Int) := by rw [sum_cast, s0]
    have hb := G.ser.b20
    refine ⟨.ref a, rfl, a, _, _, _, rfl, rfl, SqT.of ha1, at_ref h0, a0, _, rfl, SqT.of (by rw [← iv_map]; exact r0), _, rfl, a, _, rfl, .inr (SqT.of ha1), _, _, rfl, rfl, .inl ⟨by rw [es]; omega, by rw [es]; omega⟩, _, _, rfl, rfl, false, congrArg V.bl (decide_eq_false ?_), iteF (q H1 s1)⟩
    rw [es, hlen]
    have hc := G.cells
    have : ((b * al.length : Nat) : Int) = (b : Int) * (al.length : Int) := Int.natCast_mul b al.length
    omega
end
end Ft

namespace Ft
open PySem PySem.Spec PyProof.Rows L2
theorem tYes_of {σ : L2.St} {H : Hp} {Q : Bool → Hp → Prop} (h : Q true H) : tYes σ H Q := h
/-! ### the class -/
structure ClF (K : PySem.W.Frag) (C : Addr) : Prop where
  cl : Cls K C
  nA : NoAttr K C "allocations"
  nP : NoAttr K C "pairs"
  nB : NoAttr K C "buckets"
  nR : NoAttr K C "rows"
structure MethAt (K : PySem.W.Frag) (C : Addr) (m qual : Str) (st : Stmt) (ps : List Str) : Prop where
  ex : ∃ (f : Addr) (fd : FuncData), Fun K m qual st f fd ∧ Meth K C m f ∧ Binds K fd ps []
structure InitAt (K : PySem.W.Frag) (mg : Str → Option Value) (x : Str) (C : Addr) (qual : Str) (st : Stmt) (ps : List Str) : Prop where
  ex : ∃ (f : Addr) (fd : FuncData), Fun K "__init__" qual st f fd ∧ mg x = some (.ref C) ∧ Mk K C f ∧ Binds K fd ps []
theorem ne_ap : ¬ (("allocations" : Str) = "pairs") := by decide +kernel
theorem ne_ab : ¬ (("allocations" : Str) = "buckets") := by decide +kernel
theorem ne_ar : ¬ (("allocations" : Str) = "rows") := by decide +kernel
theorem ne_pb : ¬ (("pairs" : Str) = "buckets") := by decide +kernel
theorem ne_pr : ¬ (("pairs" : Str) = "rows") := by decide +kernel
theorem ne_br : ¬ (("buckets" : Str) = "rows") := by decide +kernel
/-- the object's attributes -/
def fl (a pa : Addr) (b : Nat) (rl : Addr) : List (Str × V) := putF "rows" (.ref rl) (putF "buckets" (iv b) (putF "pairs" (.ref pa) (putF "allocations" (.ref a) [])))
section
variable {a pa rl : Addr} {b : Nat}
theorem fl_a : (fl a pa b rl).lookup ("allocations" : Str) = some (.ref a) := by
  unfold fl
  rw [lookup_putF, if_neg ne_ar, lookup_putF, if_neg ne_ab, lookup_putF, if_neg ne_ap, lookup_putF, if_pos rfl]
theorem fl_p : (fl a pa b rl).lookup ("pairs" : Str) = some (.ref pa) := by
  unfold fl
  rw [lookup_putF, if_neg ne_pr, lookup_putF, if_neg ne_pb, lookup_putF, if_pos rfl]
theorem fl_b : (fl a pa b rl).lookup ("buckets" : Str) = some (iv b) := by
  unfold fl
  rw [lookup_putF, if_neg ne_br, lookup_putF, if_pos rfl]
theorem fl_r : (fl a pa b rl).lookup ("rows" : Str) = some (.ref rl) := by
  unfold fl
  rw [lookup_putF, if_pos rfl]
theorem fl_no {m : Str} (h1 : ¬ m = "rows") (h2 : ¬ m = "buckets") (h3 : ¬ m = "pairs") (h4 : ¬ m = "allocations") : (fl a pa b rl).lookup m = none := by
  unfold fl
  rw [lookup_putF, if_neg h1, lookup_putF, if_neg h2, lookup_putF, if_neg h3, lookup_putF, if_neg h4]
  rfl
theorem fl_fits : (fl a pa b rl).lookup ("fits" : Str) = none := fl_no (by decide +kernel) (by decide +kernel) (by decide +kernel) (by decide +kernel)
theorem fl_fill : (fl a pa b rl).lookup ("fill" : Str) = none := fl_no (by decide +kernel) (by decide +kernel) (by decide +kernel) (by decide +kernel)
end
abbrev s_init : Stmt := inClass (topS 21) 0
theorem sc_init : FnScope ["self", "allocations", "pairs", "_"] ["self", "allocations", "pairs"] (defScope s_init) := ⟨rfl, rfl, rfl, by decide +kernel, rfl, by decide +kernel, by decide +kernel⟩
abbrev s_fits : Stmt := inClass (topS 21) 1
theorem sc_fits : FnScope ["self", "at", "variant", "row", "i", "j"] ["self", "at", "variant"] (defScope s_fits) := ⟨rfl, rfl, rfl, by decide +kernel, rfl, by decide +kernel, by decide +kernel⟩
section
variable {P : Program} {w : World} {K : PySem.W.Frag} {mg : Str → Option Value} {base : Heap}
/-! ### the making -/
def sp_init (C : Addr) : Sp := fun vs H Q _ => ∃ (p a pa dx : Addr) (al : List Row) (b : Nat), vs = [.ref p, .ref a, .ref pa] ∧ H p = some (.ins C dx []) ∧ TabT H a al ∧ 0 < al.length ∧ al.length ≤ 1000 ∧ (al.getD 0 []).sum = b ∧
  ∀ (H' : Hp) (rl : Addr) (rs : List Addr), (∀ q o, q ≠ p → H q = some o → H' q = some o) → H' p = some (.ins C dx (fl a pa b rl)) → H' rl = some (.lst (rs.map V.ref)) → rs.length = al.length → rs.Nodup → rl ∉ rs → H rl = none →
    (∀ r ∈ rs, H' r = some (.lst []) ∧ H r = none) → Q .non H'
theorem ok_init {C : Addr} (D : InitAt K mg "Filling" C "Filling.__init__" s_init ["self", "allocations", "pairs"]) (T : Bt mg) (Z : ClF K C) : CalleeC P w K mg base "Filling" C 1 ["self", "allocations", "pairs"] (sp_init C) := by
  obtain ⟨f, fd, F, hm, M, hb⟩ := D.ex
  refine ⟨f, fd, F.ok sc_init (fun vs H Q E h => ?_) (fun cdv A outer s H vs Q E hr h => ?_), hm, M, hb⟩
  · obtain ⟨_, _, _, _, _, _, rfl, _⟩ := h
    rfl
  · obtain ⟨p, a, pa, dx, al, b, rfl, hp, ⟨as, ha, hal⟩, hne, hn, hs, q⟩ := h
    refine ⟨_, (pss_cons (ps_fld (pv 0) (pv 1) rfl)
        (pss_cons (ps_fld (pv 0) (pv 2) rfl)
        (pss_cons (ps_fld (pv 0) (pe_callB (r := rSumT K) (cr_sumT rfl) (by rfl) T.sum bt_sum (pa_cons (pe_ix (r := rIxT K) ix_tup (pv 1) pe_int (fun _ _ => rfl)) pa_nil)) rfl)
        (pss_one (ps_fld (pv 0) (pe_lc (own := [("_", 3)]) (g := gName 3) (tt := tYes) rfl sc_init.nd (pi_tup (pv 1)) (blkOk_by (own := [("_", 3)]) (N := ["self", "allocations", "pairs", "_"]) (sc := defScope s_init) (by decide +kernel)) (fun _ _ _ _ _ => (pg_name (i := 3) sc_init.nd rfl (Or.inl rfl))) (fun _ _ _ _ _ => pts_nil) (fun _ _ _ _ _ => (pe_lst pa_nil))) rfl))))), ?_⟩
    have nap : a ≠ p := ne_of ha hp (fun z => nomatch z)
    obtain ⟨a0, h0, r0⟩ := hal.get hne []
    have np0 : a0 ≠ p := ne_of r0 hp (fun z => nomatch z)
    refine ⟨_, rfl, _, rfl, p, C, dx, _, rfl, hp, Z.cl, Z.nA, (by show 0 < 1000; decide), ?_⟩
    refine ⟨_, rfl, _, rfl, p, C, dx, _, rfl, upd_same, Z.cl, Z.nP, (Nat.lt_of_le_of_lt (length_putF _ _ _) (by show 1 < 1000; decide)), ?_⟩
    rw [upd_upd]
    have ha2 : (upd H p (.ins C dx (putF "pairs" (.ref pa) (putF "allocations" (.ref a) [])))) a = some (.tup (as.map V.ref)) := by
      rw [upd_ne nap]
      exact ha
    have hr2 : (upd H p (.ins C dx (putF "pairs" (.ref pa) (putF "allocations" (.ref a) [])))) a0 = some (.tup ((al.getD 0 []).map iv)) := by
      rw [upd_ne np0]
      exact r0
    have es : ((al.getD 0 []).map (fun n : Nat => (n : Int))).sum = (b : Int) := by rw [sum_cast, hs]
    refine ⟨.ref a, rfl, a, _, _, _, rfl, rfl, SqT.of ha2, at_ref h0, a0, _, rfl, SqT.of (by rw [← iv_map]; exact hr2), _, rfl, p, C, dx, _, rfl, upd_same, Z.cl, Z.nB,
      (Nat.lt_of_le_of_lt (Nat.le_trans (length_putF _ _ _) (Nat.succ_le_succ (length_putF _ _ _))) (by show 2 < 1000; decide)), ?_⟩
    rw [upd_upd, es]
    generalize hH3 : upd H p (.ins C dx (putF "buckets" (V.int (b : Int)) (putF "pairs" (.ref pa) (putF "allocations" (.ref a) [])))) = H3
    have hp3 : H3 p = some (.ins C dx (putF "buckets" (V.int (b : Int)) (putF "pairs" (.ref pa) (putF "allocations" (.ref a) [])))) := by
      rw [← hH3]
      exact upd_same
    have k3 : ∀ q o, q ≠ p → H q = some o → H3 q = some o := fun q o n e => by
      rw [← hH3, upd_ne n]
      exact e
    have n3 : ∀ q, H3 q = none → H q = none := fun q e => by
      rw [← hH3] at e
      by_cases z : q = p
      · rw [z, upd_same] at e
        cases e
      · rw [upd_ne z] at e
        exact e
    have ha3 := k3 a _ nap ha
    have hlen : (as.map V.ref).length = al.length := by rw [List.length_map]; exact hal.1
    refine ⟨.ref a, rfl, a, rfl, ⟨_, SqT.of ha3⟩, fun D hD => lc_tup (K := K) (a := a) (xs := as.map V.ref) (fun i H4 => ∃ rs : List Addr, H4 D = some (.lst (rs.map V.ref)) ∧ rs.length = i ∧ i ≤ al.length ∧ rs.Nodup ∧ D ∉ rs ∧ (∀ r ∈ rs, H4 r = some (.lst []) ∧ H3 r = none) ∧ Same H3 H4)
      ⟨[], upd_same, rfl, Nat.zero_le _, List.nodup_nil, (by simp), (by simp), same_new hD⟩ (fun i H4 _ ⟨_, _, _, _, _, _, _, s4⟩ => SqT.of (s4 _ _ ha3)) (fun i x H4 hx ⟨rs, e4, l4, i4, d4, n4, f4, s4⟩ => ?_) (fun H4 ⟨rs, e4, l4, i4, d4, n4, f4, s4⟩ => ?_)⟩
    · refine ⟨rfl, tYes_of ?_⟩
      refine iteT ?_
      refine ⟨Nat.zero_le _, fun l hl => ?_⟩
      have hi : i < al.length := by rw [← hlen]; exact (List.getElem?_eq_some_iff.mp hx).1
      have nDl : D ≠ l := ne_of_none e4 hl
      have nl : l ∉ rs := fun hm => by rw [(f4 l hm).1] at hl; cases hl
      have fl3 : H3 l = none := s4.free hl
      refine ⟨rs.map V.ref, by rw [upd_ne nDl]; exact e4, by rw [List.length_map, l4]; exact Nat.lt_of_lt_of_le hi (Nat.le_trans hn (by decide)), rs ++ [l], by rw [upd_same, List.map_append]; rfl, by rw [List.length_append, l4]; rfl, hi, ?_, ?_, ?_, ?_⟩
      · rw [List.nodup_append]
        exact ⟨d4, List.nodup_cons.mpr ⟨by simp, List.nodup_nil⟩, fun u hu v hv e => nl (by rw [List.mem_singleton.mp hv] at e; rw [← e]; exact hu)⟩
      · intro hm
        rcases List.mem_append.mp hm with hm | hm
        · exact n4 hm
        · exact nDl (List.mem_singleton.mp hm)
      · intro r hr'
        rcases List.mem_append.mp hr' with hm | hm
        · have nrD : r ≠ D := fun e => n4 (e ▸ hm)
          have nrl : r ≠ l := fun e => nl (e ▸ hm)
          rw [upd_ne nrD, upd_ne nrl]
          exact f4 r hm
        · have e := List.mem_singleton.mp hm
          subst e
          rw [upd_ne nDl.symm, upd_same]
          exact ⟨rfl, fl3⟩
      · exact same_upd (same_upd s4 fl3) hD
    · have np4 : H4 p = _ := s4 _ _ hp3
      have nDp : D ≠ p := fun e => by rw [e, hp3] at hD; cases hD
      refine ⟨_, rfl, p, C, dx, _, rfl, np4, Z.cl, Z.nR, (Nat.lt_of_le_of_lt (Nat.le_trans (length_putF _ _ _) (Nat.succ_le_succ (Nat.le_trans (length_putF _ _ _) (Nat.succ_le_succ (length_putF _ _ _))))) (by show 3 < 1000; decide)), ?_⟩
      refine q _ D rs (fun u o n e => ?_) upd_same (by rw [upd_ne nDp]; exact e4) (by rw [l4, hlen]) d4 n4 (n3 D hD) fun r hr' => ?_
      · rw [upd_ne n]
        exact s4 _ _ (k3 u o n e)
      · obtain ⟨g1, g2⟩ := f4 r hr'
        have nrp : r ≠ p := fun e => by rw [e, hp3] at g2; cases g2
        rw [upd_ne nrp]
        exact ⟨g1, n3 r g2⟩
/-! ### what stands while the table is filled -/
def cells (n : Nat) (done : Tab) (row : Row) : Tab := (done ++ row :: List.replicate (n - (done.length + 1)) []).take n
theorem cells_full {n : Nat} {done : Tab} {row : Row} (h : done.length = n) : cells n done row = done := by
  unfold cells
  rw [← h, List.take_left']
  rfl
theorem cells_lt {n : Nat} {done : Tab} {row : Row} (h : done.length < n) : cells n done row = done ++ row :: List.replicate (n - (done.length + 1)) [] := by
  unfold cells
  apply List.take_of_length_le
  rw [List.length_append, List.length_cons, List.length_replicate]
  omega
theorem cells_len {n : Nat} {done : Tab} {row : Row} (h : done.length ≤ n) : (cells n done row).length = n := by
  unfold cells
  rw [List.length_take, List.length_append, List.length_cons, List.length_replicate]
  omega
theorem cells_at {n : Nat} {done : Tab} {row : Row} (h : done.length < n) : (cells n done row).getD done.length [] = row := by
  rw [cells_lt h]
  exact getD_app_at
theorem cells_done {n i : Nat} {done : Tab} {row : Row} (h : done.length ≤ n) (hi : i < done.length) : (cells n done row).getD i [] = done.getD i [] := by
  by_cases e : done.length = n
  · rw [cells_full e]
  · rw [cells_lt (by omega)]
    exact getD_app hi
theorem cells_set {n : Nat} {done : Tab} {row row' : Row} (h : done.length < n) : (cells n done row).set done.length row' = cells n done row' := by
  rw [cells_lt h, cells_lt h, List.set_append_right _ _ (Nat.le_refl _), Nat.sub_self]
  rfl
theorem cells_next {n : Nat} {done : Tab} {row : Row} (h : done.length < n) : cells n done row = cells n (done ++ [row]) [] := by
  rw [cells_lt h]
  by_cases e : done.length + 1 = n
  · rw [cells_full (by rw [List.length_append]; exact e)]
    have : n - (done.length + 1) = 0 := by omega
    rw [this]
    rfl
  · rw [cells_lt (by rw [List.length_append, List.length_singleton]; omega), List.append_assoc, List.length_append, List.length_singleton]
    have e1 : n - (done.length + 1) = (n - (done.length + 1 + 1)) + 1 := by omega
    rw [e1, List.replicate_succ]
    rfl
structure FS (C : Addr) (H : Hp) (p a pa rl : Addr) (rs : List Addr) (al : List Row) (ps : List (Nat × Nat)) (b : Nat) (R : Tab) : Prop where
  ins : ∃ dx, H p = some (.ins C dx (fl a pa b rl))
  al : TabT H a al
  ps : PrsT H pa ps
  rlh : H rl = some (.lst (rs.map V.ref))
  nd : rs.Nodup
  nr : rl ∉ rs
  rows : All2 (LstI H) rs R
/-- all but the rows is as it was -/
def Sr (rs : List Addr) (H H' : Hp) : Prop := ∀ q o, q ∉ rs → H q = some o → H' q = some o
theorem Sr.refl (rs : List Addr) (H : Hp) : Sr rs H H := fun _ _ _ h => h
theorem Sr.trans {rs : List Addr} {H H1 H2 : Hp} (a : Sr rs H H1) (b : Sr rs H1 H2) : Sr rs H H2 := fun c o n h => b c o n (a c o n h)
theorem Sr.upd {rs : List Addr} {H : Hp} {r : Addr} {o : HO} (h : r ∈ rs) : Sr rs H (L2.upd H r o) := fun q u n e => by
  rw [upd_ne (fun z => n (by rw [z]; exact h))]
  exact e
section
variable {C p a pa rl r : Addr} {H : Hp} {rs : List Addr} {al : List Row} {ps : List (Nat × Nat)} {b i : Nat} {R : Tab}
theorem FS.row (S : FS C H p a pa rl rs al ps b R) (hi : i < R.length) : ∃ r, rs[i]? = some r ∧ LstI H r (R.getD i []) := S.rows.get hi []
theorem FS.put (S : FS C H p a pa rl rs al ps b R) (h : rs[i]? = some r) (row : Row) : FS C (upd H r (.lst (row.map iv))) p a pa rl rs al ps b (R.set i row) := by
  have hi : i < R.length := by rw [← S.rows.1]; exact (List.getElem?_eq_some_iff.mp h).1
  have hr : LstI H r R[i] := S.rows.2 i r _ h (List.getElem?_eq_getElem hi)
  have mr : r ∈ rs := List.mem_of_getElem? h
  obtain ⟨dx, hp⟩ := S.ins
  refine ⟨⟨dx, ?_⟩, TabT.ts (TS.lst hr) S.al, PrsT.ts (TS.lst hr) S.ps, ?_, S.nd, S.nr, ⟨by rw [List.length_set]; exact S.rows.1, fun j q x h1 h2 => ?_⟩⟩
  · rw [upd_ne (ne_of hp hr (fun z => nomatch z))]
    exact hp
  · rw [upd_ne (fun e => S.nr (by rw [e]; exact mr))]
    exact S.rlh
  · by_cases e : i = j
    · subst e
      rw [List.getElem?_set_self hi] at h2
      cases h2
      rw [h] at h1
      cases h1
      exact upd_same
    · rw [List.getElem?_set_ne e] at h2
      have nq : q ≠ r := fun z => by
        subst z
        exact e (nd_ix S.nd h h1)
      unfold LstI
      rw [upd_ne nq]
      exact S.rows.2 j q x h1 h2
end
/-- the numbers that stand in the rows are variants -/
structure Pre (al : List Row) (k b : Nat) (done : Tab) (row : Row) : Prop where
  dl : done.length ≤ al.length
  rl : row.length ≤ b
  full : ∀ r ∈ done, r.length = b
  small : ∀ r ∈ done, ∀ x ∈ r, x < k
  nil : done.length = al.length → row = []
/-! ### fits -/
def sp_fits (C : Addr) : Sp := fun vs H Q _ => ∃ (p a pa rl : Addr) (rs : List Addr) (al : List Row) (ps : List (Nat × Nat)) (k b : Nat) (done : Tab) (row : Row) (v : Nat), vs = [.ref p, iv done.length, iv v] ∧
  FS C H p a pa rl rs al ps b (cells al.length done row) ∧ PlanOk al ps k b ∧ Pre al k b done row ∧ done.length < al.length ∧ row.length < b ∧ v < k ∧ Q (.bl (fits al ps done row v)) H
theorem ok_fits {C : Addr} (D : MethAt K C "fits" "Filling.fits" s_fits ["self", "at", "variant"]) (T : Bt mg) (Z : ClF K C) (C_is_needless : Callee P w K mg base "is_needless" 1 ["before", "behind", "old", "new"] sp_is_needless) :
    CalleeM P w K mg base C "fits" 2 ["self", "at", "variant"] (sp_fits C) := by
  obtain ⟨f, fd, F, hm, hb⟩ := D.ex
  refine ⟨f, fd, F.ok sc_fits (fun vs H Q E h => ?_) (fun cdv A outer s H vs Q E hr h => ?_), hm, hb⟩
  · obtain ⟨_, _, _, _, _, _, _, _, _, _, _, _, rfl, _⟩ := h
    rfl
  · obtain ⟨p, a, pa, rl, rs, al, ps, k, b, done, row, v, rfl, S, G, Y, hd, hrb, hv, q⟩ := h
    refine ⟨_, (pss_cons (ps_set (i := 3) sc_fits.nd rfl (.inl rfl) (pe_ix (r := rIxL K) ix_list (pe_fld (pv 0) rfl) (pv 1) (fun _ _ => rfl)))
        (pss_cons (ps_if (pt_cmpR op_ge (pe_bm PySem.F.plainAttrs_list PySem.F.slot_list_count PySem.F.type_list_count mt_lcount (pv 3) (pa_cons (pv 2) pa_nil)) (pe_ix (r := rIxT K) ix_tup (pe_ix (r := rIxT K) ix_tup (pe_fld (pv 0) rfl) (pv 1) (fun _ _ => rfl)) (pv 2) (fun _ _ => rfl)) (nomark _)) (pss_one (ps_ret pe_bl)) pss_nil)
        (pss_cons (ps_for PassesOwn.never rfl (pi_tup (pe_fld (pv 0) rfl)) (pg_tup rfl (pgs_cons (pg_name (i := 4) sc_fits.nd rfl (.inl rfl)) (pgs_cons (pg_name (i := 5) sc_fits.nd rfl (.inl rfl)) pgs_nil))) (pss_one (ps_if (PW.pt (pw_and (pt_cmpR op_eq (pv 5) (pv 1) (nomark _)) (pw_and1 (pt_val (pe_cd C_is_needless (hr.mono (by omega)) (by rfl) (pa_cons (pe_ix (r := rIxT K) ix_tup (pe_fld (pv 0) rfl) (pv 4) (fun _ _ => rfl)) (pa_cons (pe_ix (r := rIxT K) ix_tup (pe_fld (pv 0) rfl) (pv 5) (fun _ _ => rfl)) (pa_cons (pe_ix (r := rIxL K) ix_list (pe_ix (r := rIxL K) ix_list (pe_fld (pv 0) rfl) (pv 4) (fun _ _ => rfl)) (pe_callB (r := rLenS K) call_lenS (by rfl) T.len PySem.boot_len (pa_cons (pv 3) pa_nil)) (fun _ _ => rfl)) (pa_cons (pv 2) pa_nil))))))))) (pss_one (ps_ret pe_bl)) pss_nil)))
        (pss_one (ps_ret pe_bl))))), ?_⟩
    obtain ⟨dx, hp⟩ := S.ins
    obtain ⟨r, hr0, hrow⟩ := S.row (i := done.length) (by rw [cells_len Y.dl]; exact hd)
    rw [cells_at hd] at hrow
    obtain ⟨as, ha, hal⟩ := S.al
    obtain ⟨qs, hq, hps⟩ := S.ps
    obtain ⟨av, hav, rav⟩ := hal.get hd []
    have lav := G.ser.len _ (getD_mem (d := []) hd)
    -- the row, its count
    refine ⟨_, rfl, p, C, dx, _, _, rfl, hp, Z.cl, Z.nR, fl_r, _, rfl, rl, _, _, _, rfl, rfl, SqL.of S.rlh, at_ref hr0, ?_⟩
    refine ⟨_, rfl, .inl ⟨rfl, _, SqL.of hrow⟩, _, rfl, r, _, (v : Int), rfl, rfl, SqL.of (by rw [← iv_map]; exact hrow), _, rfl, p, C, dx, _, _, rfl, hp, Z.cl, Z.nA, fl_a, _, rfl, a, _, _, _, rfl, rfl, SqT.of ha, at_ref hav, _, rfl, av, _, _, _, rfl, rfl, SqT.of rav, at_iv (by rw [lav]; exact hv), _, _, rfl, rfl, _, rfl, ?_⟩
    rw [count_cast]
    refine ite2 (fun hc => ?_) (fun hc => ?_)
    · have hn : ¬ row.count v < (al.getD done.length []).getD v 0 := by
        have := of_decide_eq_true hc
        omega
      have e : fits al ps done row v = false := by
        unfold fits
        rw [decide_eq_false hn, Bool.false_and]
      rw [e] at q
      exact q
    · have hlt : row.count v < (al.getD done.length []).getD v 0 := by
        by_cases z : row.count v < (al.getD done.length []).getD v 0
        · exact z
        · exact absurd (decide_eq_true (by omega)) hc
      have ef : fits al ps done row v = fitsP al ps done row v := by
        unfold fits
        rw [decide_eq_true hlt, Bool.true_and]
      rw [ef] at q
      -- the pairs
      refine ⟨_, rfl, p, C, dx, _, _, rfl, hp, Z.cl, Z.nP, fl_p, pa, rfl, ⟨_, SqT.of hq⟩, for_tup (K := K) (a := pa) (xs := qs.map V.ref) (fun i σ H' => H' = H ∧ i ≤ ps.length ∧ (∃ x4 x5, σ = [some (.ref p), some (iv done.length), some (iv v), some (.ref r), x4, x5]) ∧
        ∀ z ∈ ps.take i, ((z.2 == done.length) && needless (al.getD z.1 []) (al.getD z.2 []) ((done.getD z.1 []).getD row.length 0) v) = false)
        ⟨rfl, Nat.zero_le _, ⟨none, none, rfl⟩, by simp⟩ (fun i σ H' _ x => by rw [x.1]; exact SqT.of hq) (fun i x σ H' hx ⟨eH, hi, ⟨x4, x5, eσ⟩, ih⟩ => ?_) (fun σ H' ⟨eH, hi, ⟨x4, x5, eσ⟩, ih⟩ => ?_)⟩
      · subst eH eσ
        obtain ⟨c, rfl, hc0⟩ := ref_item hx
        have hip : i < ps.length := by rw [← hps.1]; exact (List.getElem?_eq_some_iff.mp hc0).1
        have hz : PairT H' c ps[i] := hps.2 i c _ hc0 (List.getElem?_eq_getElem hip)
        generalize hzz : ps[i] = z at hz
        have mz : z ∈ ps := by rw [← hzz]; exact List.getElem_mem hip
        obtain ⟨h12, h2n⟩ := G.pr z mz
        have et : ps.take (i + 1) = ps.take i ++ [z] := by rw [List.take_add_one, List.getElem?_eq_getElem hip, hzz]; rfl
        refine ⟨c, [iv z.1, iv z.2], rfl, SqT.of hz, rfl, iv z.1, [iv z.2], rfl, iv z.2, [], rfl, rfl, ?_⟩
        have next : (((z.2 == done.length) && needless (al.getD z.1 []) (al.getD z.2 []) ((done.getD z.1 []).getD row.length 0) v) = false) → ∀ y ∈ ps.take (i + 1), ((y.2 == done.length) && needless (al.getD y.1 []) (al.getD y.2 []) ((done.getD y.1 []).getD row.length 0) v) = false := fun hz2 y hy => by
          rw [et] at hy
          rcases List.mem_append.mp hy with hy | hy
          · exact ih y hy
          · rw [List.mem_singleton.mp hy]
            exact hz2
        refine ⟨_, rfl, _, rfl, rfl, _, rfl, ite2 (fun e => ?_) (fun e => ?_)⟩
        · have e2 : z.2 = done.length := by
            have := V.int.inj (of_decide_eq_true e)
            omega
          have hd1 : z.1 < done.length := by omega
          obtain ⟨b1, hb1, rb1⟩ := hal.get (show z.1 < al.length by omega) []
          obtain ⟨b2, hb2, rb2⟩ := hal.get h2n []
          obtain ⟨r1, hr1, hrow1⟩ := S.row (i := z.1) (by rw [cells_len Y.dl]; omega)
          rw [cells_done Y.dl hd1] at hrow1
          have md : done.getD z.1 [] ∈ done := getD_mem hd1
          have l1 := Y.full _ md
          have hlt1 : row.length < (done.getD z.1 []).length := by rw [l1]; exact hrb
          have hsm := Y.small _ md _ (getD_mem (d := 0) hlt1)
          have lb1 := G.ser.len _ (getD_mem (d := []) (show z.1 < al.length by omega))
          have lb2 := G.ser.len _ (getD_mem (d := []) h2n)
          refine ⟨_, rfl, p, C, dx, _, _, rfl, hp, Z.cl, Z.nA, fl_a, _, rfl, a, _, _, _, rfl, rfl, SqT.of ha, at_ref hb1, _, rfl, p, C, dx, _, _, rfl, hp, Z.cl, Z.nA, fl_a, _, rfl, a, _, _, _, rfl, rfl, SqT.of ha, at_ref hb2,
            _, rfl, p, C, dx, _, _, rfl, hp, Z.cl, Z.nR, fl_r, _, rfl, rl, _, _, _, rfl, rfl, SqL.of S.rlh, at_ref hr1, .ref r, rfl, r, _, rfl, .inl (SqL.of hrow), ?_⟩
          rw [List.length_map]
          refine ⟨r1, _, _, _, rfl, rfl, SqL.of hrow1, at_iv hlt1, _, rfl, b1, b2, al.getD z.1 [], al.getD z.2 [], _, v, rfl, rb1, rb2, by rw [lb1]; exact hsm, by rw [lb2]; exact hsm, by rw [lb1]; exact hv, by rw [lb2]; exact hv, _, rfl, ite2 (fun hne => ?_) (fun hne => ?_)⟩
          · have e3 : fitsP al ps done row v = false := by
              unfold fitsP
              rw [List.all_eq_false]
              refine ⟨z, mz, ?_⟩
              rw [hne, e2, beq_self_eq_true]
              decide
            rw [e3] at q
            exact q
          · refine ⟨rfl, hip, ⟨_, _, rfl⟩, next ?_⟩
            have e4 : needless (al.getD z.1 []) (al.getD z.2 []) ((done.getD z.1 []).getD row.length 0) v = false := by
              cases e5 : needless (al.getD z.1 []) (al.getD z.2 []) ((done.getD z.1 []).getD row.length 0) v with
              | false => rfl
              | true => exact absurd e5 hne
            rw [e4, Bool.and_false]
        · have e2 : (z.2 == done.length) = false := by
            cases e5 : (z.2 == done.length) with
            | false => rfl
            | true =>
              exfalso
              apply e
              rw [eq_of_beq e5]
              exact decide_eq_true rfl
          refine iteF ⟨rfl, hip, ⟨_, _, rfl⟩, next ?_⟩
          rw [e2, Bool.false_and]
      · subst eH eσ
        have e3 : fitsP al ps done row v = true := by
          unfold fitsP
          rw [List.all_eq_true]
          intro z hz
          have := ih z (by rw [List.length_map, hps.1, List.take_length]; exact hz)
          rw [this]
          rfl
        rw [e3] at q
        exact q
end
end Ft

namespace Ft
open PySem PySem.Spec PyProof.Rows L2
/-! ### fill, table_keeping, first_table -/
abbrev s_fill : Stmt := inClass (topS 21) 2
theorem sc_fill : FnScope ["self", "at", "row", "variant"] ["self", "at"] (defScope s_fill) := ⟨rfl, rfl, rfl, by decide +kernel, rfl, by decide +kernel, by decide +kernel⟩
abbrev s_table_keeping : Stmt := topS 22
theorem sc_table_keeping : FnScope ["allocations", "pairs", "filling", "row"] ["allocations", "pairs"] (defScope s_table_keeping) := ⟨rfl, rfl, rfl, by decide +kernel, rfl, by decide +kernel, by decide +kernel⟩
abbrev s_first_table : Stmt := topS 23
theorem sc_first_table : FnScope ["allocations", "pairs"] ["allocations", "pairs"] (defScope s_first_table) := ⟨rfl, rfl, rfl, by decide +kernel, rfl, by decide +kernel, by decide +kernel⟩
theorem find_at {α : Type} {g : Nat → Option α} {k i : Nat} {t : α} (h : ∀ v, v < i → g v = none) (hi : i < k) (e : g i = some t) : (List.range k).findSome? g = some t := by
  have er : List.range k = List.range i ++ (List.range (k - i)).map (i + ·) := by
    have := List.range_add (n := i) (m := k - i)
    rw [show i + (k - i) = k by omega] at this
    exact this
  rw [er, List.findSome?_append]
  have e1 : (List.range i).findSome? g = none := by
    rw [List.findSome?_eq_none_iff]
    exact fun x hx => h x (List.mem_range.mp hx)
  rw [e1, Option.none_or]
  have e2 : List.range (k - i) = 0 :: (List.range (k - i - 1)).map Nat.succ := by
    rw [show k - i = (k - i - 1) + 1 by omega, List.range_succ_eq_map]
    rfl
  rw [e2, List.map_cons, List.findSome?_cons]
  show (match g (i + 0) with | some b => some b | none => _) = _
  rw [Nat.add_zero, e]
theorem find_no {α : Type} {g : Nat → Option α} {k : Nat} (h : ∀ v, v < k → g v = none) : (List.range k).findSome? g = none := by
  rw [List.findSome?_eq_none_iff]
  exact fun x hx => h x (List.mem_range.mp hx)
section
variable {P : Program} {w : World} {K : PySem.W.Frag} {mg : Str → Option Value} {base : Heap}
def sp_fill (C : Addr) (f : Nat) : Sp := fun vs H Q _ => ∃ (p a pa rl : Addr) (rs : List Addr) (al : List Row) (ps : List (Nat × Nat)) (k b : Nat) (done : Tab) (row : Row), vs = [.ref p, iv done.length] ∧
  FS C H p a pa rl rs al ps b (cells al.length done row) ∧ PlanOk al ps k b ∧ Pre al k b done row ∧ (∀ x ∈ row, x < k) ∧ need al b done row ≤ f ∧
  (∀ H' t, Sr rs H H' → FS C H' p a pa rl rs al ps b t → fillM al ps b k f done row = some t → Q (.bl true) H') ∧
  (∀ H', Sr rs H H' → FS C H' p a pa rl rs al ps b (cells al.length done row) → fillM al ps b k f done row = none → Q (.bl false) H')
theorem need_pos {al : List Row} {k b : Nat} {done : Tab} {row : Row} (Y : Pre al k b done row) : 0 < need al b done row := by
  unfold need
  by_cases e : done.length = al.length
  · rw [Y.nil e, List.length_nil]
    omega
  · have h1 : 1 ≤ al.length - done.length := by have := Y.dl; omega
    have h2 : 1 * (b + 1) ≤ (al.length - done.length) * (b + 1) := Nat.mul_le_mul_right _ h1
    have := Y.rl
    omega
theorem ok_fill {C : Addr} (D : MethAt K C "fill" "Filling.fill" s_fill ["self", "at"]) (T : Bt mg) (Z : ClF K C) (C_fits : CalleeM P w K mg base C "fits" 2 ["self", "at", "variant"] (sp_fits C)) :
    ∀ f : Nat, CalleeM P w K mg base C "fill" (f + 3) ["self", "at"] (sp_fill C f)
  | 0 => by
    obtain ⟨fa, fd, F, hm, hb⟩ := D.ex
    refine ⟨fa, fd, F.ok (k := 2) sc_fill (fun vs H Q E h => ?_) (fun cdv A outer s H vs Q E hr h => ?_), hm, hb⟩
    · obtain ⟨_, _, _, _, _, _, _, _, _, _, _, rfl, _⟩ := h
      rfl
    · obtain ⟨p, a, pa, rl, rs, al, ps, k, b, done, row, rfl, S, G, Y, hrow, hf, _⟩ := h
      exact absurd (Nat.lt_of_lt_of_le (need_pos Y) hf) (Nat.lt_irrefl _)
  | f + 1 => by
    have C_fill := ok_fill D T Z C_fits f
    obtain ⟨fa, fd, F, hm, hb⟩ := D.ex
    refine ⟨fa, fd, F.ok (k := f + 3) sc_fill (fun vs H Q E h => ?_) (fun cdv A outer s H vs Q E hr h => ?_), hm, hb⟩
    · obtain ⟨_, _, _, _, _, _, _, _, _, _, _, rfl, _⟩ := h
      rfl
    · obtain ⟨p, a, pa, rl, rs, al, ps, k, b, done, row, rfl, S, G, Y, hsm, hf, q1, q2⟩ := h
      refine ⟨_, (pss_cons (ps_if (pt_cmpR op_eq (pv 1) (pe_callB (r := rLenS K) call_lenS (by rfl) T.len PySem.boot_len (pa_cons (pe_fld (pv 0) rfl) pa_nil)) (nomark _)) (pss_one (ps_ret pe_bl)) pss_nil)
          (pss_cons (ps_set (i := 2) sc_fill.nd rfl (.inl rfl) (pe_ix (r := rIxL K) ix_list (pe_fld (pv 0) rfl) (pv 1) (fun _ _ => rfl)))
          (pss_cons (ps_if (pt_cmpR op_eq (pe_callB (r := rLenS K) call_lenS (by rfl) T.len PySem.boot_len (pa_cons (pv 2) pa_nil)) (pe_fld (pv 0) rfl) (nomark _)) (pss_one (ps_ret (pe_cm C_fill Z.cl (pv 0) (hr.mono (by omega)) (pa_cons (pe_op op_add (pv 1) pe_int) pa_nil)))) pss_nil)
          (pss_cons (ps_for PassesOwn.never rfl (pi_range1 (by rfl) T.range (pa_cons (pe_callB (r := rLenS K) call_lenS (by rfl) T.len PySem.boot_len (pa_cons (pe_ix (r := rIxT K) ix_tup (pe_fld (pv 0) rfl) pe_int (fun _ _ => rfl)) pa_nil)) pa_nil)) (pg_name (i := 3) sc_fill.nd rfl (.inl rfl)) (pss_one (ps_if (pt_val (pe_cm C_fits Z.cl (pv 0) (hr.mono (by omega)) (pa_cons (pv 1) (pa_cons (pv 3) pa_nil)))) (pss_cons (ps_expr (pe_bm PySem.F.plainAttrs_list PySem.F.slot_list_append PySem.F.type_list_append mt_append (pv 2) (pa_cons (pv 3) pa_nil)))
          (pss_cons (ps_if (pt_val (pe_cm C_fill Z.cl (pv 0) (hr.mono (by omega)) (pa_cons (pv 1) pa_nil))) (pss_one (ps_ret pe_bl)) pss_nil)
          (pss_one (ps_expr (pe_bm0 PySem.F.plainAttrs_list PySem.F.slot_list_pop PySem.F.type_list_pop mt_pop (pv 2)))))) pss_nil)))
          (pss_one (ps_ret pe_bl)))))), ?_⟩
      obtain ⟨dx, hp⟩ := S.ins
      have hrs : rs.length = al.length := by rw [S.rows.1, cells_len Y.dl]
      have hne : (need al b done row ≤ f + 1) := hf
      have hM : fillM al ps b k (f + 1) done row = if done.length = al.length then some done else if row.length = b then fillM al ps b k f (done ++ [row]) [] else (List.range k).findSome? fun v => if fits al ps done row v = true then fillM al ps b k f done (row ++ [v]) else none := rfl
      -- the table's end
      refine ⟨_, rfl, _, rfl, p, C, dx, _, _, rfl, hp, Z.cl, Z.nR, fl_r, rl, _, rfl, .inl (SqL.of S.rlh), rfl, _, rfl, ?_⟩
      rw [List.length_map, hrs]
      refine ite2 (fun e => ?_) (fun e => ?_)
      · have e1 : done.length = al.length := by
          have := V.int.inj (of_decide_eq_true e)
          omega
        have e2 : cells al.length done row = done := cells_full e1
        rw [e2] at S
        exact q1 H done (Sr.refl rs H) S (by rw [hM, if_pos e1])
      · have hd : done.length < al.length := by
          have := Y.dl
          have n : ¬ done.length = al.length := fun z => e (by rw [z]; exact decide_eq_true rfl)
          omega
        have n1 : ¬ done.length = al.length := by omega
        rw [if_neg n1] at hM
        obtain ⟨r, hr0, hrow⟩ := S.row (i := done.length) (by rw [cells_len Y.dl]; exact hd)
        rw [cells_at hd] at hrow
        have mr : r ∈ rs := List.mem_of_getElem? hr0
        -- the row; is it full?
        refine ⟨_, rfl, p, C, dx, _, _, rfl, hp, Z.cl, Z.nR, fl_r, _, rfl, rl, _, _, _, rfl, rfl, SqL.of S.rlh, at_ref hr0, ?_⟩
        refine ⟨_, rfl, r, _, rfl, .inl (SqL.of hrow), _, rfl, p, C, dx, _, _, rfl, hp, Z.cl, Z.nB, fl_b, rfl, _, rfl, ?_⟩
        rw [List.length_map]
        refine ite2 (fun e3 => ?_) (fun e3 => ?_)
        · have hb0 : row.length = b := by
            have := V.int.inj (of_decide_eq_true e3)
            omega
          rw [if_pos hb0] at hM
          have hY : Pre al k b (done ++ [row]) [] := ⟨by rw [List.length_append]; exact hd, Nat.zero_le _, fun z hz => by
            rcases List.mem_append.mp hz with hz | hz
            · exact Y.full z hz
            · rw [List.mem_singleton.mp hz]
              exact hb0, fun z hz => by
            rcases List.mem_append.mp hz with hz | hz
            · exact Y.small z hz
            · rw [List.mem_singleton.mp hz]
              exact hsm, fun _ => rfl⟩
          have ec := cells_next (row := row) hd
          refine ⟨_, rfl, p, dx, _, rfl, hp, fl_fill, _, rfl, _, _, rfl, rfl, ?_⟩
          refine ⟨p, a, pa, rl, rs, al, ps, k, b, done ++ [row], [], by rw [List.length_append]; rfl, ec ▸ S, G, hY, by simp, ?_, fun H' t s' S' e' => q1 H' t s' S' (by rw [hM]; exact e'), fun H' s' S' e' => q2 H' s' (by rw [ec]; exact S') (by rw [hM]; exact e')⟩
          unfold need at hf ⊢
          rw [List.length_append, List.length_singleton, List.length_nil]
          have e1 : al.length - done.length = (al.length - (done.length + 1)) + 1 := by omega
          rw [e1, Nat.add_mul] at hf
          omega
        · have hb0 : ¬ row.length = b := fun z => e3 (by rw [z]; exact decide_eq_true rfl)
          rw [if_neg hb0] at hM
          have hlt : row.length < b := by have := Y.rl; omega
          have hb20 := G.ser.b20
          obtain ⟨as, ha, hal⟩ := S.al
          obtain ⟨a0, h0, r0⟩ := hal.get G.ser.ne []
          have l0 := G.ser.len _ (getD_mem (d := []) G.ser.ne)
          have lk : ((al.getD 0 []).map iv).length = k := by rw [List.length_map, l0]
          have k5 := G.ser.k5
          -- the variants in turn
          refine ⟨_, rfl, p, C, dx, _, _, rfl, hp, Z.cl, Z.nA, fl_a, a, _, _, _, rfl, rfl, SqT.of ha, at_ref h0, a0, _, rfl, .inr (SqT.of r0), ?_⟩
          rw [lk]
          refine ⟨(k : Int), rfl, by omega, by omega, for_range (lo := 0) (n := k) (fun i σ H' => (∃ x3, σ = [some (.ref p), some (iv done.length), some (.ref r), x3]) ∧ Sr rs H H' ∧ FS C H' p a pa rl rs al ps b (cells al.length done row) ∧
            ∀ v, v < i → (if fits al ps done row v = true then fillM al ps b k f done (row ++ [v]) else none) = none) ⟨⟨none, rfl⟩, Sr.refl rs H, S, fun v hv => absurd hv (Nat.not_lt_zero _)⟩ (fun i σ H1 hi ⟨⟨x3, eσ⟩, s1, S1, ih⟩ => ?_) (fun σ H1 ⟨⟨x3, eσ⟩, s1, S1, ih⟩ => ?_)⟩
          · subst eσ
            have e0 : V.int (0 + (i : Int)) = iv i := by rw [Int.zero_add]
            rw [e0]
            obtain ⟨dx1, hp1⟩ := S1.ins
            refine ⟨_, rfl, p, dx1, _, rfl, hp1, fl_fits, _, rfl, _, rfl, p, a, pa, rl, rs, al, ps, k, b, done, row, i, rfl, S1, G, Y, hd, hlt, hi, _, rfl, ite2 (fun hfit => ?_) (fun hfit => ?_)⟩
            · have hrow1 : LstI H1 r row := by
                have := S1.rows.2 done.length r _ hr0 (by rw [List.getElem?_eq_getElem (by rw [cells_len Y.dl]; exact hd)])
                have g : (cells al.length done row)[done.length]'(by rw [cells_len Y.dl]; exact hd) = row := by
                  have := cells_at (n := al.length) (row := row) hd
                  rw [List.getD_eq_getElem?_getD, List.getElem?_eq_getElem (by rw [cells_len Y.dl]; exact hd)] at this
                  exact this
                rw [g] at this
                exact this
              have S2 := S1.put hr0 (row ++ [i])
              rw [cells_set hd] at S2
              have em : row.map iv ++ [iv i] = (row ++ [i]).map iv := by rw [List.map_append]; rfl
              refine ⟨_, rfl, .inl ⟨rfl, _, SqL.of hrow1⟩, _, rfl, r, _, _, rfl, rfl, hrow1, by rw [List.length_map]; exact Nat.lt_of_lt_of_le (Nat.lt_of_lt_of_le hlt hb20) (by decide), ?_⟩
              rw [em]
              obtain ⟨dx2, hp2⟩ := S2.ins
              have s2 : Sr rs H (upd H1 r (.lst ((row ++ [i]).map iv))) := s1.trans (Sr.upd mr)
              have hY : Pre al k b done (row ++ [i]) := ⟨Y.dl, by rw [List.length_append]; exact hlt, Y.full, Y.small, fun z => absurd z n1⟩
              have hs2 : ∀ x ∈ row ++ [i], x < k := fun x hx => by
                rcases List.mem_append.mp hx with hx | hx
                · exact hsm x hx
                · rw [List.mem_singleton.mp hx]
                  exact hi
              have hn2 : need al b done (row ++ [i]) ≤ f := by
                unfold need at hf ⊢
                rw [List.length_append, List.length_singleton]
                have h1 : 1 ≤ al.length - done.length := by omega
                have h2 : 1 * (b + 1) ≤ (al.length - done.length) * (b + 1) := Nat.mul_le_mul_right _ h1
                omega
              refine ⟨_, rfl, p, dx2, _, rfl, hp2, fl_fill, _, rfl, p, a, pa, rl, rs, al, ps, k, b, done, row ++ [i], rfl, S2, G, hY, hs2, hn2, fun H3 t s3 S3 e4 => ?_, fun H3 s3 S3 e4 => ?_⟩
              · refine ⟨true, rfl, iteT ?_⟩
                refine q1 H3 t (s2.trans s3) S3 ?_
                rw [hM]
                exact find_at ih hi (by rw [if_pos hfit]; exact e4)
              · refine ⟨false, rfl, iteF ?_⟩
                have hrow3 : LstI H3 r (row ++ [i]) := by
                  have := S3.rows.2 done.length r _ hr0 (by rw [List.getElem?_eq_getElem (by rw [cells_len Y.dl]; exact hd)])
                  have g : (cells al.length done (row ++ [i]))[done.length]'(by rw [cells_len Y.dl]; exact hd) = row ++ [i] := by
                    have := cells_at (n := al.length) (row := row ++ [i]) hd
                    rw [List.getD_eq_getElem?_getD, List.getElem?_eq_getElem (by rw [cells_len Y.dl]; exact hd)] at this
                    exact this
                  rw [g] at this
                  exact this
                have S4 := S3.put hr0 row
                rw [cells_set hd] at S4
                have ed : ((row ++ [i]).map iv).dropLast = row.map iv := by
                  rw [List.map_append]
                  exact List.dropLast_concat
                have ey : ((row ++ [i]).map iv)[((row ++ [i]).map iv).length - 1]? = some (iv i) := by
                  rw [List.length_map, List.length_append, List.length_singleton, Nat.add_sub_cancel, List.getElem?_map, List.getElem?_append_right (Nat.le_refl _), Nat.sub_self]
                  rfl
                refine ⟨_, rfl, .inl ⟨rfl, _, SqL.of hrow3⟩, r, _, _, rfl, rfl, hrow3, ey, ?_⟩
                rw [ed]
                refine ⟨⟨_, rfl⟩, (s2.trans s3).trans (Sr.upd mr), S4, fun v hv => ?_⟩
                by_cases ev : v = i
                · subst ev
                  rw [if_pos hfit]
                  exact e4
                · exact ih v (by omega)
            · refine ⟨⟨_, rfl⟩, s1, S1, fun v hv => ?_⟩
              by_cases ev : v = i
              · subst ev
                rw [if_neg hfit]
              · exact ih v (by omega)
          · subst eσ
            refine q2 H1 s1 S1 ?_
            rw [hM]
            exact find_no ih
/-! ### the whole search -/
def sp_table (K : PySem.W.Frag) : Sp := fun vs H Q _ => ∃ (a pa : Addr) (al : List Row) (ps : List (Nat × Nat)) (k b : Nat), vs = [.ref a, .ref pa] ∧ TabT H a al ∧ PrsT H pa ps ∧ PlanOk al ps k b ∧
  (∀ H', Same H H' → firstT al ps k b = none → Q .non H') ∧ (∀ H' q t, Same H H' → firstT al ps k b = some t → TabT H' q t → Q (.ref q) H')
theorem ok_table_keeping {C : Addr} (D : DefAt K mg "table_keeping" s_table_keeping ["allocations", "pairs"]) (T : Bt mg) (Z : ClF K C) (C_Filling : CalleeC P w K mg base "Filling" C 1 ["self", "allocations", "pairs"] (sp_init C))
    (C_fill : CalleeM P w K mg base C "fill" 21 ["self", "at"] (sp_fill C 18)) : Callee P w K mg base "table_keeping" 22 ["allocations", "pairs"] (sp_table K) := by
  refine D.callee fun f fd F => F.ok sc_table_keeping (fun vs H Q E h => ?_) (fun cdv A outer s H vs Q E hr h => ?_)
  · obtain ⟨_, _, _, _, _, _, rfl, _⟩ := h
    rfl
  · obtain ⟨a, pa, al, ps, k, b, rfl, ha, hp, G, q1, q2⟩ := h
    refine ⟨_, (pss_cons (ps_set (i := 2) sc_table_keeping.nd rfl (.inl rfl) (pe_mk C_Filling (hr.mono (by omega)) (by rfl) (pa_cons (pv 0) (pa_cons (pv 1) pa_nil))))
        (pss_cons (ps_if (pt_not (pt_val (pe_cm C_fill Z.cl (pv 2) (hr.mono (by omega)) (pa_cons pe_int pa_nil)))) (pss_one (ps_ret pe_non)) pss_nil)
        (pss_one (ps_ret (pe_callTy (r := rTupOf K) call_tupOf (by rfl) T.tuple bt_tuple (pa_cons (pe_lc (own := [("row", 3)]) (g := gName 3) (tt := tYes) rfl sc_table_keeping.nd (pi_list (pe_fld (pv 2) rfl)) (blkOk_by (own := [("row", 3)]) (N := ["allocations", "pairs", "filling", "row"]) (sc := defScope s_table_keeping) (by decide +kernel)) (fun _ _ _ _ _ => (pg_name (i := 3) sc_table_keeping.nd rfl (Or.inl rfl))) (fun _ _ _ _ _ => pts_nil) (fun _ _ _ _ _ => (pe_callTy (r := rTupOf K) call_tupOf (by rfl) T.tuple bt_tuple (pa_cons (pv 3) pa_nil)))) pa_nil)))))), ?_⟩
    have hn5 := G.n5
    have hb0 := G.ser.sum _ (getD_mem (d := []) G.ser.ne)
    refine ⟨_, rfl, _, rfl, fun x dx nx ndx nex => ?_⟩
    have s0 : Same H (upd (upd H dx (.own x)) x (.ins C dx [])) := same_upd (same_upd (Same.refl H) ndx) nx
    refine ⟨x, a, pa, dx, al, b, rfl, upd_same, TabT.ts (same_ts s0) ha, G.ser.ne, by omega, hb0, fun H1 rl rs k1 hx1 hrl lrs ndr nrl frl frs => ⟨rfl, ?_⟩⟩
    have s1 : Same H H1 := fun q o e => k1 q o (ne_of_none e nx) (s0 q o e)
    have nrs : ∀ r ∈ rs, H r = none := fun r hr' => by
      cases e : H r with
      | none => rfl
      | some o =>
        have := (frs r hr').2
        rw [s0 r o e] at this
        cases this
    have hfM : fillM al ps b k 18 [] [] = firstT al ps k b := fillM_firstT G.good (by
      have := G.cells
      have e1 : al.length * (b + 1) = b * al.length + al.length := by rw [Nat.mul_add, Nat.mul_one, Nat.mul_comm]
      omega)
    have hc0 : cells al.length [] [] = List.replicate al.length [] := by
      have hne := G.ser.ne
      rw [cells_lt (show ([] : Tab).length < al.length from hne)]
      show [] :: List.replicate (al.length - 1) [] = _
      rw [← List.replicate_succ, show al.length - 1 + 1 = al.length by omega]
    have S : FS C H1 x a pa rl rs al ps b (cells al.length [] []) := by
      refine ⟨⟨dx, hx1⟩, TabT.ts (same_ts s1) ha, PrsT.ts (same_ts s1) hp, hrl, ndr, nrl, ?_⟩
      rw [hc0]
      refine ⟨by rw [List.length_replicate]; exact lrs, fun i r z h1 h2 => ?_⟩
      have ez : z = [] := List.eq_of_mem_replicate (List.mem_of_getElem? h2)
      subst ez
      exact (frs r (List.mem_of_getElem? h1)).1
    have Y : Pre al k b [] [] := ⟨Nat.zero_le _, Nat.zero_le _, by simp, by simp, fun _ => rfl⟩
    have hneed : need al b [] [] ≤ 18 := by
      unfold need
      have := G.cells
      have e1 : al.length * (b + 1) = b * al.length + al.length := by rw [Nat.mul_add, Nat.mul_one, Nat.mul_comm]
      simp only [List.length_nil, Nat.sub_zero]
      omega
    have sr : ∀ H', Sr rs H1 H' → Same H H' := fun H' s' q o e => s' q o (fun hm => by rw [nrs q hm] at e; cases e) (s1 q o e)
    refine ⟨_, rfl, x, dx, _, rfl, hx1, fl_fill, x, a, pa, rl, rs, al, ps, k, b, [], [], rfl, S, G, Y, by simp, hneed, fun H2 t s2 S2 e2 => ?_, fun H2 s2 S2 e2 => ?_⟩
    · refine ⟨true, rfl, iteF ?_⟩
      rw [hfM] at e2
      obtain ⟨dx2, hx2⟩ := S2.ins
      have ht5 : t.length ≤ 1000 := by
        rw [← S2.rows.1, lrs]
        omega
      refine ⟨_, rfl, x, C, dx2, _, _, rfl, hx2, Z.cl, Z.nR, fl_r, rl, rfl, ⟨_, SqL.of S2.rlh⟩, fun D hD => lc_list (K := K) (a := rl) (xs := rs.map V.ref) (fun i H3 => Same H2 H3 ∧ i ≤ t.length ∧ ∃ qs : List Addr, H3 D = some (.lst (qs.map V.ref)) ∧ All2 (RowT H3) qs (t.take i))
        ⟨same_new hD, Nat.zero_le _, [], upd_same, All2.nil⟩ (fun i H3 _ p => SqL.of (p.1 _ _ S2.rlh)) (fun i y H3 hy p => ?_) (fun H3 p => ?_)⟩
      · obtain ⟨s3, hi, qs, e3, a3⟩ := p
        obtain ⟨r, rfl, hr1⟩ := ref_item hy
        have hit : i < t.length := by rw [← S2.rows.1]; exact (List.getElem?_eq_some_iff.mp hr1).1
        have hrow : LstI H2 r t[i] := S2.rows.2 i r _ hr1 (List.getElem?_eq_getElem hit)
        have hrow3 : LstI H3 r t[i] := s3 _ _ hrow
        refine ⟨rfl, tYes_of ?_⟩
        refine iteT ?_
        refine ⟨_, rfl, r, _, rfl, .inl ⟨SqL.of hrow3, fun l hl => ?_⟩⟩
        have nDl : D ≠ l := ne_of_none e3 hl
        have lq : qs.length = i := by rw [a3.1, List.length_take]; omega
        have et : t.take (i + 1) = t.take i ++ [t[i]] := by rw [List.take_add_one, List.getElem?_eq_getElem hit]; rfl
        have e4 : (upd H3 l (.tup (t[i].map iv))) D = some (.lst (qs.map V.ref)) := by rw [upd_ne nDl]; exact e3
        refine ⟨_, e4, by rw [List.length_map, lq]; exact Nat.lt_of_lt_of_le hit (Nat.le_trans ht5 (by decide)), ?_⟩
        have ts : TS H3 (upd (upd H3 l (.tup (t[i].map iv))) D (.lst (qs.map V.ref ++ [.ref l]))) := (TS.new hl).trans (TS.lst e4)
        refine ⟨same_upd (same_upd s3 (s3.free hl)) hD, hit, qs ++ [l], by rw [upd_same, List.map_append]; rfl, ?_⟩
        rw [et]
        refine (a3.mono fun _ _ z => RowT.ts ts z).snoc ?_
        exact TS.lst e4 _ _ upd_same
      · obtain ⟨s3, hi, qs, e3, a3⟩ := p
        rw [List.length_map, S2.rows.1, List.take_length] at a3
        refine ⟨D, _, rfl, .inl ⟨SqL.of e3, fun l hl => ?_⟩⟩
        refine q2 _ l t (same_upd ((sr H2 s2).trans s3) (((sr H2 s2).trans s3).free hl)) e2 ⟨qs, upd_same, a3.mono fun _ _ z => RowT.ts (TS.new hl) z⟩
    · refine ⟨false, rfl, iteT ?_⟩
      rw [hfM] at e2
      exact q1 H2 (sr H2 s2) e2
theorem ok_first_table (D : DefAt K mg "first_table" s_first_table ["allocations", "pairs"]) (C_check_search : Callee P w K mg base "check_search" 6 ["allocations", "pairs"] sp_check_search)
    (C_table_keeping : Callee P w K mg base "table_keeping" 22 ["allocations", "pairs"] (sp_table K)) : Callee P w K mg base "first_table" 23 ["allocations", "pairs"] (sp_table K) := by
  refine D.callee fun f fd F => F.ok sc_first_table (fun vs H Q E h => ?_) (fun cdv A outer s H vs Q E hr h => ?_)
  · obtain ⟨_, _, _, _, _, _, rfl, _⟩ := h
    rfl
  · obtain ⟨a, pa, al, ps, k, b, rfl, ha, hp, G, q1, q2⟩ := h
    refine ⟨_, (pss_cons (ps_expr (pe_cd C_check_search (hr.mono (by omega)) (by rfl) (pa_cons (pv 0) (pa_cons (pv 1) pa_nil))))
        (pss_one (ps_ret (pe_cd C_table_keeping (hr.mono (by omega)) (by rfl) (pa_cons (pv 0) (pa_cons (pv 1) pa_nil)))))), ?_⟩
    refine ⟨_, rfl, _, rfl, a, pa, al, ps, k, b, rfl, ha, hp, G, fun H1 s1 => ?_⟩
    exact ⟨_, rfl, _, rfl, a, pa, al, ps, k, b, rfl, TabT.ts (same_ts s1) ha, PrsT.ts (same_ts s1) hp, G, fun H' s' e => q1 H' (s1.trans s') e, fun H' q t s' e h => q2 H' q t (s1.trans s') e h⟩
end
end Ft

namespace Ft
open PySem PySem.Spec PyProof.Rows L2
/-! ### the law's stream, its comparison -/
abbrev s_l_stream : Stmt := topS 25
theorem sc_l_stream : FnScope ["_law_script"] ["_law_script"] (defScope s_l_stream) := ⟨rfl, rfl, rfl, by decide +kernel, rfl, by decide +kernel, by decide +kernel⟩
abbrev s_l_next : Stmt := topS 26
theorem sc_l_next : FnScope ["_law_stream_here", "_law_many", "_law_k", "_law_cell", "_law_digit"] ["_law_stream_here", "_law_many"] (defScope s_l_next) := ⟨rfl, rfl, rfl, by decide +kernel, rfl, by decide +kernel, by decide +kernel⟩
abbrev s_l_is_integer : Stmt := topS 27
theorem sc_l_is_integer : FnScope ["_law_actual"] ["_law_actual"] (defScope s_l_is_integer) := ⟨rfl, rfl, rfl, by decide +kernel, rfl, by decide +kernel, by decide +kernel⟩
abbrev s_l_equal : Stmt := topS 28
theorem sc_l_equal : FnScope ["_law_actual", "_law_due", "_law_at"] ["_law_actual", "_law_due"] (defScope s_l_equal) := ⟨rfl, rfl, rfl, by decide +kernel, rfl, by decide +kernel, by decide +kernel⟩
theorem at_intI {ns : List Int} {k : Int} (h0 : 0 ≤ k) (h : k < ns.length) : atI (ns.map V.int) k = some (.int (ns.getD k.toNat 0)) := by
  have hk : k.toNat < ns.length := by omega
  refine at_of (j := k.toNat) (by omega) ?_
  rw [List.getElem?_map, List.getElem?_eq_getElem hk, List.getD_eq_getElem?_getD, List.getElem?_eq_getElem hk]
  rfl
/-- [True for i in range(n)] -/
theorem lc_allR {n : Nat} {D : Addr} {te : TE} {vs : List Nat} {σ : L2.St} {H1 : Hp} {Qd : Hp → Prop} {j : Nat} (hD : H1 D = none) (hn : n ≤ 1000)
    (hw : ∀ x, wipe ((wipe σ vs).set j (some x)) vs = wipe σ vs)
    (hs : ∀ (i : Nat) (H : Hp) (Q : VK), i < n → Same H1 H → (∀ H4, Same H H4 → Q (.bl true) H4) → te ((wipe σ vs).set j (some (iv i))) H Q)
    (hd : ∀ H, Same H1 H → H D = some (.lst (List.replicate n (V.bl true))) → Qd H) :
    ∃ W : Nat → Nat → Hp → Prop, (∃ m, W 0 m (upd H1 D (.lst []))) ∧ ∀ i m H, W i m H →
      ((Itr 0 n).stop i H ∧ Qd H) ∨ ((Itr 0 n).go i H ∧ ∃ Nx : Hp → Prop, (∀ H', Nx H' → ∃ m', m' < m ∧ W (i + 1) m' H') ∧ ∀ x H', (Itr 0 n).yld i H x H' → gName j x (wipe σ vs) H' fun σ2 H2 => wipe σ2 vs = wipe σ vs ∧ tYes σ2 H2 fun b H3 =>
        if b = true then te σ2 H3 fun y H4 => ∃ acc, H4 D = some (.lst acc) ∧ acc.length < sizeLine ∧ Nx (upd H4 D (.lst (acc ++ [y]))) else Nx H3) := by
  refine lc_range (lo := 0) (n := n) (fun i H => Same H1 H ∧ H D = some (.lst (List.replicate i (V.bl true)))) ⟨same_new hD, upd_same⟩ (fun i H hi p => ?_) (fun H p => hd H p.1 p.2)
  obtain ⟨s, eD⟩ := p
  refine ⟨hw _, ?_⟩
  unfold tYes
  refine iteT ?_
  have e0 : V.int (0 + (i : Int)) = iv i := by rw [Int.zero_add]
  rw [e0]
  refine hs i H _ hi s fun H4 s4 => ⟨_, s4 _ _ eD, ?_, ?_, ?_⟩
  · rw [List.length_replicate]
    exact Nat.lt_of_lt_of_le hi (Nat.le_trans hn (by decide))
  · exact same_upd (s.trans s4) hD
  · rw [upd_same, List.replicate_succ']
section
variable {P : Program} {w : World} {K : PySem.W.Frag} {mg : Str → Option Value} {base : Heap}
def sp_stream (K : PySem.W.Frag) : Sp := fun vs H Q _ => ∃ (a : Addr) (ns : List Int), vs = [.ref a] ∧ SqL K H a (ns.map V.int) ∧ ns.length ≤ 63 ∧ ∀ H' S L, Same H H' → H S = none → H L = none → Strm H' S L → Q (.ref S) H'
theorem ok_stream (D : DefAt K mg "_law_stream" s_l_stream ["_law_script"]) (T : Bt mg) : Callee P w K mg base "_law_stream" 1 ["_law_script"] (sp_stream K) := by
  refine D.callee fun f fd F => F.ok sc_l_stream (fun vs H Q E h => ?_) (fun cdv A outer s H vs Q E hr h => ?_)
  · obtain ⟨_, _, rfl, _⟩ := h
    rfl
  · obtain ⟨a, ns, rfl, hS, hn, q⟩ := h
    refine ⟨_, (pss_one (ps_ret (pe_lst (pa_cons (pe_callTy (r := rLstOf K) call_lstOf (by rfl) T.list bt_list (pa_cons (pv 0) pa_nil)) (pa_cons pe_int (pa_cons pe_int pa_nil)))))), ?_⟩
    refine ⟨_, rfl, a, _, rfl, .inl hS, fun L hL => ⟨by show 3 ≤ sizeLine; decide, fun S hS2 => ?_⟩⟩
    have nLS : L ≠ S := fun e => by
      subst e
      rw [upd_same] at hS2
      cases hS2
    have fS : H S = none := by
      rw [upd_ne nLS.symm] at hS2
      exact hS2
    refine q _ S L (same_upd (same_new hL) fS) fS hL ⟨0, 0, ns, upd_same, by rw [upd_ne nLS, upd_same], nLS, by decide, hn⟩
def sp_next : Sp := fun vs H Q _ => ∃ (S L : Addr) (m : Nat), vs = [.ref S, iv m] ∧ Strm H S L ∧ 0 < m ∧ m ≤ 1000 ∧ ∀ H' d, Sx S H H' → Strm H' S L → d < m → Q (iv d) H'
theorem ok_next (D : DefAt K mg "_law_next" s_l_next ["_law_stream_here", "_law_many"]) (T : Bt mg) : Callee P w K mg base "_law_next" 1 ["_law_stream_here", "_law_many"] sp_next := by
  refine D.callee fun f fd F => F.ok sc_l_next (fun vs H Q E h => ?_) (fun cdv A outer s H vs Q E hr h => ?_)
  · obtain ⟨_, _, _, rfl, _⟩ := h
    rfl
  · obtain ⟨S, L, m, rfl, ⟨c, k, ns, e1, e2, nLS, hk, hl⟩, hm, hm2, q⟩ := h
    refine ⟨_, (C8.pss_cut (ps_if (pt_cmpR op_eq (pe_ix (r := rIxL K) ix_list (pv 0) pe_int (fun _ _ => rfl)) pe_int (nomark _)) (pss_cons (ps_set (i := 2) sc_l_next.nd rfl (.inl rfl) (pe_ix (r := rIxL K) ix_list (pv 0) pe_int (fun _ _ => rfl)))
        (pss_cons (ps_set (i := 3) sc_l_next.nd rfl (.inl rfl) (pe_op op_add pe_int (pv 2)))
        (C8.pss_cut (ps_if (pt_cmpR op_lt (pv 2) (pe_callB (r := rLenS K) call_lenS (by rfl) T.len PySem.boot_len (pa_cons (pe_ix (r := rIxL K) ix_list (pv 0) pe_int (fun _ _ => rfl)) pa_nil)) (nomark _)) (pss_one (ps_set (i := 3) sc_l_next.nd rfl (.inl rfl) (pe_callB call_abs (by rfl) T.abs bt_abs (pa_cons (pe_ix (r := rIxL K) ix_list (pe_ix (r := rIxL K) ix_list (pv 0) pe_int (fun _ _ => rfl)) (pv 2) (fun _ _ => rfl)) pa_nil)))) pss_nil)
        (C8.pss_cut (ps_if (pt_cmpR op_lt (pv 3) (pe_op op_pow pe_int pe_int) (nomark _)) (pss_cons (ps_set (i := 3) sc_l_next.nd rfl (.inl rfl) (pe_op op_modN (pe_callTy call_int1 (by rfl) T.int bt_int (pa_cons (pe_op op_add (pe_op op_add (pe_op op_mul (pv 3) pe_int) (pe_op op_mul (pv 2) pe_int)) pe_int) pa_nil)) pe_int))
        (pss_one (ps_set (i := 3) sc_l_next.nd rfl (.inl rfl) (pe_op op_add (pe_op op_mul (pe_op op_modN (pe_callTy call_int1 (by rfl) T.int bt_int (pa_cons (pe_op op_add (pe_op op_mul (pv 3) pe_int) pe_int) pa_nil)) pe_int) pe_int) (pv 3))))) pss_nil)
        (pss_cons (ps_asg (pv 3) (pg_sub (pv 0) pe_int set_list))
        (pss_one (ps_asg (pe_op op_add (pv 2) pe_int) (pg_sub (pv 0) pe_int set_list)))))))) pss_nil)
        (pss_cons (ps_set (i := 4) sc_l_next.nd rfl (.inl rfl) (pe_op op_modN (pe_callTy call_int1 (by rfl) T.int bt_int (pa_cons (pe_ix (r := rIxL K) ix_list (pv 0) pe_int (fun _ _ => rfl)) pa_nil)) (pv 1)))
        (pss_cons (ps_asg (pe_op op_fdivN (pe_ix (r := rIxL K) ix_list (pv 0) pe_int (fun _ _ => rfl)) (pv 1)) (pg_sub (pv 0) pe_int set_list))
        (pss_one (ps_ret (pv 4)))))), ?_⟩
    refine ⟨fun σ' H' => (∃ x2 x3, σ' = [some (.ref S), some (iv m), x2, x3, none]) ∧ ∃ c' k' : Int, H' S = some (.lst [.ref L, .int c', .int k']) ∧ 0 ≤ k' ∧ Sx S H H', ?_, ?_⟩
    · refine ⟨_, rfl, S, _, _, _, rfl, rfl, SqL.of e1, atI_nat (j := 1) rfl, rfl, _, rfl, ite2 (fun _ => ?_) (fun _ => ⟨⟨_, _, rfl⟩, c, k, e1, hk, Sx.refl S H⟩)⟩
      refine ⟨_, rfl, S, _, _, _, rfl, rfl, SqL.of e1, atI_nat (j := 2) rfl, ?_⟩
      refine ⟨_, rfl, _, _, rfl, rfl, ?_⟩
      refine ⟨fun σ' H' => H' = H ∧ ∃ c3 : Int, σ' = [some (.ref S), some (iv m), some (.int k), some (.int c3), none], ?_, ?_⟩
      · refine ⟨_, rfl, _, rfl, S, _, _, _, rfl, rfl, SqL.of e1, atI_nat (j := 0) rfl, L, _, rfl, .inl (SqL.of e2), _, _, rfl, rfl, _, rfl, ite2 (fun h => ?_) (fun _ => ⟨rfl, _, rfl⟩)⟩
        have hlt : k < ns.length := by
          have := of_decide_eq_true h
          rw [List.length_map] at this
          exact this
        exact ⟨_, rfl, S, _, _, _, rfl, rfl, SqL.of e1, atI_nat (j := 0) rfl, _, rfl, L, _, _, _, rfl, rfl, SqL.of e2, at_intI hk hlt, _, rfl, rfl, _, rfl⟩
      · rintro σ' H' ⟨rfl, c3, rfl⟩
        refine ⟨fun σ' H'' => H'' = H' ∧ ∃ c4 : Int, σ' = [some (.ref S), some (iv m), some (.int k), some (.int c4), none], ?_, ?_⟩
        · refine ⟨_, rfl, _, _, rfl, rfl, ⟨by decide, by decide, by decide⟩, _, _, rfl, rfl, _, rfl, ite2 (fun _ => ?_) (fun _ => ⟨rfl, _, rfl⟩)⟩
          refine ⟨_, rfl, _, _, rfl, rfl, .inr ⟨by decide, by decide⟩, _, rfl, _, _, rfl, rfl, .inr ⟨by decide, by decide⟩, _, _, rfl, rfl, _, _, rfl, rfl, .inl ⟨_, rfl, _, _, rfl, rfl, (show (2147483647 : Int) ≠ 0 by decide), ?_⟩⟩
          exact ⟨_, rfl, _, _, rfl, rfl, .inr ⟨by decide, by decide⟩, _, _, rfl, rfl, .inl ⟨_, rfl, _, _, rfl, rfl, (show (2147483647 : Int) ≠ 0 by decide), _, _, rfl, rfl, .inr ⟨by decide, by decide⟩, _, rfl, _, _, rfl, rfl, rfl, _, rfl⟩⟩
        · rintro σ' H'' ⟨rfl, c4, rfl⟩
          refine ⟨_, rfl, _, rfl, S, _, 1, 1, rfl, rfl, e1, rfl, ?_⟩
          refine ⟨_, rfl, _, _, rfl, rfl, _, rfl, S, [.ref L, .int c4, .int k], 2, 2, rfl, rfl, upd_same, rfl, ?_⟩
          refine ⟨⟨_, _, rfl⟩, c4, k + 1, upd_same, by omega, fun b o n e => ?_⟩
          rw [upd_ne n, upd_ne n]
          exact e
    · rintro σ' H' ⟨⟨x2, x3, rfl⟩, c', k', e1', hk', s1⟩
      have hm0 : (m : Int) ≠ 0 := by omega
      refine ⟨_, rfl, S, _, _, _, rfl, rfl, SqL.of e1', atI_nat (j := 1) rfl, .inl ⟨_, rfl, _, rfl, _, _, rfl, rfl, hm0, ?_⟩⟩
      refine ⟨_, rfl, S, _, _, _, rfl, rfl, SqL.of e1', atI_nat (j := 1) rfl, _, rfl, _, _, rfl, rfl, ⟨hm0, by omega⟩, _, rfl, S, _, 1, 1, rfl, rfl, e1', rfl, ?_⟩
      have ef : c'.fmod (m : Int) = ((c' % (m : Int)).toNat : Int) := by
        rw [Int.fmod_eq_emod_of_nonneg _ (by omega)]
        have := Int.emod_nonneg c' hm0
        omega
      have hlt : (c' % (m : Int)).toNat < m := by
        have := Int.emod_lt_of_pos c' (show (0 : Int) < m by omega)
        have := Int.emod_nonneg c' hm0
        omega
      refine ⟨_, rfl, q_int (Q := Q) ef (q _ _ (s1.trans fun b o n e => ?_) ⟨_, k', ns, upd_same, ?_, nLS, hk', hl⟩ hlt)⟩
      · rw [upd_ne n]
        exact e
      · rw [upd_ne nLS]
        exact s1 _ _ nLS e2
def sp_is_integer : Sp := fun vs H Q _ => ∃ i : Int, vs = [.int i] ∧ Q (.bl true) H
theorem ok_is_integer (D : DefAt K mg "_law_is_integer" s_l_is_integer ["_law_actual"]) (T : Bt mg) : Callee P w K mg base "_law_is_integer" 1 ["_law_actual"] sp_is_integer := by
  refine D.callee fun f fd F => F.ok sc_l_is_integer (fun vs H Q E h => ?_) (fun cdv A outer s H vs Q E hr h => ?_)
  · obtain ⟨_, rfl, _⟩ := h
    rfl
  · obtain ⟨i, rfl, q⟩ := h
    refine ⟨_, (pss_one (ps_ret (pe_and (pe_callB (r := rIsi K) call_isi (by rfl) T.isinstance bt_isinstance (pa_cons (pv 0) (pa_cons (pe_bltn (v := .ty "int") (by rfl) T.int bt_int rfl) pa_nil))) (pe_one (pe_not (pe_callB (r := rIsi K) call_isi (by rfl) T.isinstance bt_isinstance (pa_cons (pv 0) (pa_cons (pe_bltn (v := .ty "bool") (by rfl) T.bool bt_bool rfl) pa_nil)))))))), ?_⟩
    refine ⟨_, rfl, .int i, .ty "int", .type "int", .type "int", true, rfl, .ty "int", .base (.int _), kit_ty (by decide +kernel), true, rfl, iteT ?_⟩
    exact ⟨_, rfl, .int i, .ty "bool", .type "int", .type "bool", false, rfl, .ty "bool", .base (.int _), kit_ty (by decide +kernel), false, rfl, q⟩
/-- two values that are the same data, at most so deep -/
def Rep : Nat → Hp → V → V → Prop
  | 0, _, x, y => ∃ i : Nat, x = iv i ∧ y = iv i
  | n + 1, H, x, y => ∃ (a c : Addr) (xs ys : List V), x = .ref a ∧ y = .ref c ∧ H a = some (.tup xs) ∧ H c = some (.tup ys) ∧ xs.length = ys.length ∧ ys.length ≤ 1000 ∧ ∀ (i : Nat) (u v : V), xs[i]? = some u → ys[i]? = some v → Rep n H u v
theorem Rep.same : ∀ {n : Nat} {H H' : Hp} {x y : V}, Same H H' → Rep n H x y → Rep n H' x y
  | 0, _, _, _, _, _, h => h
  | n + 1, H, H', x, y, s, h => by
    obtain ⟨a, c, xs, ys, e1, e2, h1, h2, l1, l2, h3⟩ := h
    exact ⟨a, c, xs, ys, e1, e2, s _ _ h1, s _ _ h2, l1, l2, fun i u v hu hv => Rep.same s (h3 i u v hu hv)⟩
def sp_equal (n : Nat) : Sp := fun vs H Q _ => ∃ x y : V, vs = [x, y] ∧ ((x = .non ∧ y = .non) ∨ Rep n H x y) ∧ ∀ H', Same H H' → Q (.bl true) H'
theorem ok_equal (D : DefAt K mg "_law_equal" s_l_equal ["_law_actual", "_law_due"]) (T : Bt mg) (C_l_is_integer : Callee P w K mg base "_law_is_integer" 1 ["_law_actual"] sp_is_integer) :
    ∀ n : Nat, Callee P w K mg base "_law_equal" (n + 3) ["_law_actual", "_law_due"] (sp_equal n) := by
  have all : ∀ (n : Nat) (C_l_equal : Callee P w K mg base "_law_equal" (n + 2) ["_law_actual", "_law_due"] (fun vs H Q E => 0 < n ∧ sp_equal (n - 1) vs H Q E)), Callee P w K mg base "_law_equal" (n + 3) ["_law_actual", "_law_due"] (sp_equal n) := fun n C_l_equal => by
    refine D.callee fun f fd F => F.ok (k := n + 2) sc_l_equal (fun vs H Q E h => ?_) (fun cdv A outer s H vs Q E hr h => ?_)
    · obtain ⟨_, _, rfl, _⟩ := h
      rfl
    · obtain ⟨x, y, rfl, hxy, q⟩ := h
      refine ⟨_, (pss_cons (ps_if (pt_cmpR op_isN (pv 1) pe_non (nomark _)) (pss_one (ps_ret (pe_cmpR op_isN (pv 0) pe_non (nomark _)))) pss_nil)
          (pss_cons (ps_if (pt_val (pe_callB (r := rIsi K) call_isi (by rfl) T.isinstance bt_isinstance (pa_cons (pv 1) (pa_cons (pe_bltn (v := .ty "bool") (by rfl) T.bool bt_bool rfl) pa_nil)))) (pss_one (ps_ret (pe_and (pe_callB (r := rIsi K) call_isi (by rfl) T.isinstance bt_isinstance (pa_cons (pv 0) (pa_cons (pe_bltn (v := .ty "bool") (by rfl) T.bool bt_bool rfl) pa_nil))) (pe_one (pe_cmpR op_eq (pv 0) (pv 1) (nomark _)))))) pss_nil)
          (pss_cons (ps_if (pt_val (pe_callB (r := rIsi K) call_isi (by rfl) T.isinstance bt_isinstance (pa_cons (pv 1) (pa_cons (pe_bltn (v := .ty "int") (by rfl) T.int bt_int rfl) pa_nil)))) (pss_one (ps_ret (pe_and (pe_cd C_l_is_integer (hr.mono (by omega)) (by rfl) (pa_cons (pv 0) pa_nil)) (pe_one (pe_cmpR op_eq (pv 0) (pv 1) (nomark _)))))) pss_nil)
          (pss_cons (ps_if (pt_val (pe_callB (r := rIsi K) call_isi (by rfl) T.isinstance bt_isinstance (pa_cons (pv 1) (pa_cons (pe_bltn (v := .ty "str") (by rfl) T.str bt_str rfl) pa_nil)))) (pss_one (ps_ret (pe_and (pe_callB (r := rIsi K) call_isi (by rfl) T.isinstance bt_isinstance (pa_cons (pv 0) (pa_cons (pe_bltn (v := .ty "str") (by rfl) T.str bt_str rfl) pa_nil))) (pe_one (pe_cmpR op_eq (pv 0) (pv 1) (nomark _)))))) pss_nil)
          (pss_cons (ps_if (PW.pt (pw_and (pt_val (pe_callB (r := rIsi K) call_isi (by rfl) T.isinstance bt_isinstance (pa_cons (pv 1) (pa_cons (pe_bltn (v := .ty "tuple") (by rfl) T.tuple bt_tuple rfl) pa_nil)))) (pw_and1 (pt_not (pt_val (pe_callB (r := rIsi K) call_isi (by rfl) T.isinstance bt_isinstance (pa_cons (pv 0) (pa_cons (pe_bltn (v := .ty "tuple") (by rfl) T.tuple bt_tuple rfl) pa_nil)))))))) (pss_one (ps_ret pe_bl)) pss_nil)
          (pss_cons (ps_if (PW.pt (pw_and (pt_val (pe_callB (r := rIsi K) call_isi (by rfl) T.isinstance bt_isinstance (pa_cons (pv 1) (pa_cons (pe_bltn (v := .ty "list") (by rfl) T.list bt_list rfl) pa_nil)))) (pw_and1 (pt_not (pt_val (pe_callB (r := rIsi K) call_isi (by rfl) T.isinstance bt_isinstance (pa_cons (pv 0) (pa_cons (pe_bltn (v := .ty "list") (by rfl) T.list bt_list rfl) pa_nil)))))))) (pss_one (ps_ret pe_bl)) pss_nil)
          (pss_cons (ps_if (pt_cmpR op_ne (pe_callB (r := rLenS K) call_lenS (by rfl) T.len PySem.boot_len (pa_cons (pv 0) pa_nil)) (pe_callB (r := rLenS K) call_lenS (by rfl) T.len PySem.boot_len (pa_cons (pv 1) pa_nil)) (nomark _)) (pss_one (ps_ret pe_bl)) pss_nil)
          (pss_one (ps_ret (pe_callB (r := rAll K) (cr_all rfl) (by rfl) T.all bt_all (pa_cons (pe_lc (own := [("_law_at", 2)]) (g := gName 2) (tt := tYes) rfl sc_l_equal.nd (pi_range1 (by rfl) T.range (pa_cons (pe_callB (r := rLenS K) call_lenS (by rfl) T.len PySem.boot_len (pa_cons (pv 1) pa_nil)) pa_nil)) (blkOk_by (own := [("_law_at", 2)]) (N := ["_law_actual", "_law_due", "_law_at"]) (sc := defScope s_l_equal) (by decide +kernel)) (fun _ _ _ _ _ => (pg_name (i := 2) sc_l_equal.nd rfl (Or.inl rfl))) (fun _ _ _ _ _ => pts_nil) (fun _ _ _ _ _ => (pe_cd C_l_equal (hr.mono (by omega)) (by rfl) (pa_cons (pe_ix (r := rIxT K) ix_tup (pv 0) (pv 2) (fun _ _ => rfl)) (pa_cons (pe_ix (r := rIxT K) ix_tup (pv 1) (pv 2) (fun _ _ => rfl)) pa_nil))))) pa_nil))))))))))), ?_⟩
      rcases hxy with ⟨rfl, rfl⟩ | hxy
      · refine ⟨_, rfl, rfl, true, congrArg V.bl (decide_eq_true rfl), iteT ?_⟩
        exact ⟨_, rfl, rfl, q_true (Q := Q) rfl (q H (Same.refl H))⟩
      · cases n with
        | zero =>
          obtain ⟨i, rfl, rfl⟩ := hxy
          refine ⟨_, rfl, rfl, false, congrArg V.bl (decide_eq_false (fun z => nomatch z)), iteF ?_⟩
          refine ⟨_, rfl, .int _, .ty "bool", .type "int", .type "bool", false, rfl, .ty "bool", .base (.int _), kit_ty (by decide +kernel), false, rfl, iteF ?_⟩
          refine ⟨_, rfl, .int _, .ty "int", .type "int", .type "int", true, rfl, .ty "int", .base (.int _), kit_ty (by decide +kernel), true, rfl, iteT ?_⟩
          exact ⟨_, rfl, _, rfl, true, rfl, iteT ⟨_, rfl, _, rfl, rfl, q_true (Q := Q) rfl (q H (Same.refl H))⟩⟩
        | succ n =>
          obtain ⟨a, c, xs, ys, rfl, rfl, ha, hc, l1, l2, h3⟩ := hxy
          refine ⟨_, rfl, rfl, false, congrArg V.bl (decide_eq_false (fun z => nomatch z)), iteF ?_⟩
          refine ⟨_, rfl, .ref c, .ty "bool", .type "tuple", .type "bool", false, rfl, .ty "bool", .base (.tup hc), kit_ty (by decide +kernel), false, rfl, iteF ?_⟩
          refine ⟨_, rfl, .ref c, .ty "int", .type "tuple", .type "int", false, rfl, .ty "int", .base (.tup hc), kit_ty (by decide +kernel), false, rfl, iteF ?_⟩
          refine ⟨_, rfl, .ref c, .ty "str", .type "tuple", .type "str", false, rfl, .ty "str", .base (.tup hc), kit_ty (by decide +kernel), false, rfl, iteF ?_⟩
          refine ⟨_, rfl, .ref c, .ty "tuple", .type "tuple", .type "tuple", true, rfl, .ty "tuple", .base (.tup hc), kit_ty (by decide +kernel), true, rfl, iteT ⟨_, rfl, .ref a, .ty "tuple", .type "tuple", .type "tuple", true, rfl, .ty "tuple", .base (.tup ha), kit_ty (by decide +kernel), true, rfl, iteF ?_⟩⟩
          refine ⟨_, rfl, .ref c, .ty "list", .type "tuple", .type "list", false, rfl, .ty "list", .base (.tup hc), kit_ty (by decide +kernel), false, rfl, iteF (iteF ?_)⟩
          refine ⟨_, rfl, a, _, rfl, .inr (SqT.of ha), _, rfl, c, _, rfl, .inr (SqT.of hc), rfl, _, rfl, iteNS (by rw [l1]) ?_⟩
          refine ⟨_, rfl, c, _, rfl, .inr (SqT.of hc), (ys.length : Int), rfl, by omega, by omega, fun D2 hD2 => lc_allR (n := ys.length) (j := 2) hD2 l2 (fun _ => rfl) (fun i H1 Q1 hi s1 q1 => ?_) fun H1 s1 eD => ?_⟩
          · have hx : i < xs.length := by omega
            have ux : atI xs (i : Int) = some xs[i] := atI_nat (List.getElem?_eq_getElem hx)
            have uy : atI ys (i : Int) = some ys[i] := atI_nat (List.getElem?_eq_getElem hi)
            refine ⟨_, rfl, _, rfl, a, _, _, _, rfl, rfl, SqT.of (s1 _ _ ha), ux, _, rfl, _, rfl, c, _, _, _, rfl, rfl, SqT.of (s1 _ _ hc), uy, Nat.succ_pos n, _, _, rfl, .inr ?_, q1⟩
            exact Rep.same s1 (h3 i _ _ (List.getElem?_eq_getElem hx) (List.getElem?_eq_getElem hi))
          · exact ⟨D2, List.replicate _ true, rfl, SqL.of (by rw [List.map_replicate, eD]), q_bl (Q := Q) (all_repl _) (q H1 s1)⟩
  intro n
  induction n with
  | zero =>
    refine all 0 ?_
    obtain ⟨f, fd, F, hm, hb⟩ := D.ex
    refine ⟨f, fd, F.ok (k := 1) sc_l_equal (fun vs H Q E h => absurd h.1 (Nat.lt_irrefl _)) (fun cdv A outer s H vs Q E hr h => absurd h.1 (Nat.lt_irrefl _)), hm, F.kp, hb⟩
  | succ n ih =>
    refine all (n + 1) ?_
    obtain ⟨f, fd, G, hm, hk, hb⟩ := ih
    exact ⟨f, fd, G.imp fun vs H Q E h => h.2, hm, hk, hb⟩
end
end Ft

namespace Ft
open PySem PySem.Spec PyProof.Rows L2
/-! ### drawn allocations -/
abbrev s_l_allocation : Stmt := topS 29
theorem sc_l_allocation : FnScope ["_law_stream_here", "_law_variants", "_law_buckets", "_law_shares", "_law_bucket", "_law_variant"] ["_law_stream_here", "_law_variants", "_law_buckets"] (defScope s_l_allocation) := ⟨rfl, rfl, rfl, by decide +kernel, rfl, by decide +kernel, by decide +kernel⟩
abbrev s_l_near : Stmt := topS 30
theorem sc_l_near : FnScope ["_law_stream_here", "_law_allocation_here", "_law_shares", "_law_turn", "_law_old", "_law_new"] ["_law_stream_here", "_law_allocation_here"] (defScope s_l_near) := ⟨rfl, rfl, rfl, by decide +kernel, rfl, by decide +kernel, by decide +kernel⟩
abbrev s_l_series : Stmt := topS 31
theorem sc_l_series : FnScope ["_law_stream_here", "_law_variants", "_law_buckets", "_law_many", "_law_found", "_law_turn"] ["_law_stream_here", "_law_variants", "_law_buckets", "_law_many"] (defScope s_l_series) := ⟨rfl, rfl, rfl, by decide +kernel, rfl, by decide +kernel, by decide +kernel⟩
theorem ixN_nat {n d : Nat} (h : d < n) : ixN n (d : Int) = some d := by
  unfold ixN
  rw [if_pos (by omega), if_pos (by omega)]
  rfl
theorem sum_setN : ∀ {xs : List Nat} {d y : Nat}, d < xs.length → (xs.set d y).sum + xs.getD d 0 = xs.sum + y
  | x :: xs, 0, y, _ => by
    show (y :: xs).sum + x = (x :: xs).sum + y
    rw [List.sum_cons, List.sum_cons]
    omega
  | x :: xs, d + 1, y, h => by
    have ih := sum_setN (xs := xs) (d := d) (y := y) (by simpa using h)
    show (x :: xs.set d y).sum + xs.getD d 0 = (x :: xs).sum + y
    rw [List.sum_cons, List.sum_cons]
    omega
theorem sum_zeros : ∀ k : Nat, (List.replicate k 0).sum = 0
  | 0 => rfl
  | k + 1 => by
    rw [List.replicate_succ, List.sum_cons, sum_zeros k]
theorem set_iv {xs : List Nat} {d y : Nat} {z : Int} (e : z = (y : Int)) : (xs.map iv).set d (.int z) = (xs.set d y).map iv := by
  rw [e, List.map_set]
theorem getD_set {xs : List Nat} {d e y : Nat} (h : d < xs.length) : (xs.set d y).getD e 0 = if d = e then y else xs.getD e 0 := by
  rw [List.getD_eq_getElem?_getD, List.getD_eq_getElem?_getD]
  by_cases q : d = e
  · subst q
    rw [if_pos rfl, List.getElem?_set_self h]
    rfl
  · rw [if_neg q, List.getElem?_set_ne q]
section
variable {P : Program} {w : World} {K : PySem.W.Frag} {mg : Str → Option Value} {base : Heap}
def sp_allocation : Sp := fun vs H Q _ => ∃ (S L : Addr) (k b : Nat), vs = [.ref S, iv k, iv b] ∧ Strm H S L ∧ 1 ≤ k ∧ k ≤ 5 ∧ b ≤ 20 ∧ ∀ H' a xs, Sx S H H' → Strm H' S L → RowT H' a xs → xs.length = k → xs.sum = b → Q (.ref a) H'
theorem ok_allocation (D : DefAt K mg "_law_allocation" s_l_allocation ["_law_stream_here", "_law_variants", "_law_buckets"]) (T : Bt mg) (C_l_next : Callee P w K mg base "_law_next" 1 ["_law_stream_here", "_law_many"] sp_next) :
    Callee P w K mg base "_law_allocation" 2 ["_law_stream_here", "_law_variants", "_law_buckets"] sp_allocation := by
  refine D.callee fun f fd F => F.ok sc_l_allocation (fun vs H Q E h => ?_) (fun cdv A outer s H vs Q E hr h => ?_)
  · obtain ⟨_, _, _, _, rfl, _⟩ := h
    rfl
  · obtain ⟨S, L, k, b, rfl, st, k1, k5, b20, q⟩ := h
    refine ⟨_, (pss_cons (ps_setLc (i := 3) (own := [("_law_variant", 5)]) (g := gName 5) (tt := tYes) rfl sc_l_allocation.nd rfl rfl (sw_true rfl rfl rfl (by decide +kernel)) (pi_range1 (by rfl) T.range (pa_cons (pv 1) pa_nil)) (blkOk_by (own := [("_law_variant", 5)]) (N := ["_law_stream_here", "_law_variants", "_law_buckets", "_law_shares", "_law_bucket", "_law_variant"]) (sc := defScope s_l_allocation) (by decide +kernel)) (fun _ _ _ _ _ => (pg_name (i := 5) sc_l_allocation.nd rfl (Or.inl rfl))) (fun _ _ _ _ _ => pts_nil) (fun _ _ _ _ _ => pe_int))
        (pss_cons (ps_for PassesOwn.never rfl (pi_range1 (by rfl) T.range (pa_cons (pv 2) pa_nil)) (pg_name (i := 4) sc_l_allocation.nd rfl (.inl rfl)) (pss_cons (ps_set (i := 5) sc_l_allocation.nd rfl (.inl rfl) (pe_cd C_l_next (hr.mono (by omega)) (by rfl) (pa_cons (pv 0) (pa_cons (pv 1) pa_nil))))
        (pss_one (ps_asg (pe_op op_add (pe_ix (r := rIxL K) ix_list (pv 3) (pv 5) (fun _ _ => rfl)) pe_int) (pg_sub (pv 3) (pv 5) set_list)))))
        (pss_one (ps_ret (pe_callTy (r := rTupOf K) call_tupOf (by rfl) T.tuple bt_tuple (pa_cons (pv 3) pa_nil)))))), ?_⟩
    refine ⟨_, rfl, (k : Int), rfl, by omega, by omega, fun D hD => lc_range (lo := 0) (n := k) (fun i H1 => Same H H1 ∧ H1 D = some (.lst (List.replicate i (iv 0)))) ⟨same_new hD, upd_same⟩ (fun i H1 hi p => ?_) (fun H1 p => ?_)⟩
    · refine ⟨rfl, tYes_of ?_⟩
      refine iteT ?_
      refine ⟨_, p.2, by rw [List.length_replicate]; exact Nat.lt_of_lt_of_le hi (Nat.le_trans k5 (by decide)), same_upd p.1 hD, ?_⟩
      rw [upd_same, List.replicate_succ']
      rfl
    · have nD := st.ne hD
      refine ⟨_, rfl, (b : Int), rfl, by omega, by omega, for_range (lo := 0) (n := b) (fun i σ H2 => (∃ x4 x5, σ = [some (.ref S), some (iv k), some (iv b), some (.ref D), x4, x5]) ∧ Sx S H H2 ∧ Strm H2 S L ∧ ∃ xs, LstI H2 D xs ∧ xs.length = k ∧ xs.sum = i)
        ⟨⟨none, none, rfl⟩, same_sx p.1, st.same p.1, List.replicate k 0, ?_, List.length_replicate .., ?_⟩ (fun i σ H2 hi ⟨⟨x4, x5, eσ⟩, s2, st2, xs, hx, lx, sx⟩ => ?_) (fun σ H2 ⟨⟨x4, x5, eσ⟩, s2, st2, xs, hx, lx, sx⟩ => ?_)⟩
      · unfold LstI
        rw [List.map_replicate]
        exact p.2
      · exact sum_zeros k
      · subst eσ
        refine ⟨_, rfl, _, rfl, S, L, k, rfl, st2, k1, by omega, fun H3 d s3 st3 hd => ?_⟩
        have hx3 : LstI H3 D xs := s3 _ _ nD.1 hx
        have hdx : d < xs.length := by rw [lx]; exact hd
        refine ⟨_, rfl, _, rfl, D, _, _, _, rfl, rfl, SqL.of hx3, at_iv hdx, _, _, rfl, rfl, _, rfl, _, rfl, D, _, _, d, rfl, rfl, hx3, ixN_nat (by rw [List.length_map]; exact hdx), ?_⟩
        rw [set_iv (y := xs.getD d 0 + 1) (by omega)]
        refine ⟨⟨_, _, rfl⟩, (s2.trans s3).upd hD, st3.upd nD, _, upd_same, by rw [List.length_set]; exact lx, ?_⟩
        have := sum_setN (xs := xs) (d := d) (y := xs.getD d 0 + 1) hdx
        omega
      · subst eσ
        refine ⟨_, rfl, D, _, rfl, .inl ⟨SqL.of hx, fun l hl => ?_⟩⟩
        exact q _ l xs (s2.upd (s2.free st2 hl)) (st2.upd (st2.ne hl)) upd_same lx sx
def sp_near : Sp := fun vs H Q _ => ∃ (S L a : Addr) (xs : Row), vs = [.ref S, .ref a] ∧ Strm H S L ∧ RowT H a xs ∧ 1 ≤ xs.length ∧ xs.length ≤ 5 ∧ ∀ H' c ys, Sx S H H' → Strm H' S L → RowT H' c ys → ys.length = xs.length → ys.sum = xs.sum → Q (.ref c) H'
theorem ok_near (D : DefAt K mg "_law_near" s_l_near ["_law_stream_here", "_law_allocation_here"]) (T : Bt mg) (C_l_next : Callee P w K mg base "_law_next" 1 ["_law_stream_here", "_law_many"] sp_next) :
    Callee P w K mg base "_law_near" 2 ["_law_stream_here", "_law_allocation_here"] sp_near := by
  refine D.callee fun f fd F => F.ok sc_l_near (fun vs H Q E h => ?_) (fun cdv A outer s H vs Q E hr h => ?_)
  · obtain ⟨_, _, _, _, rfl, _⟩ := h
    rfl
  · obtain ⟨S, L, a, xs, rfl, st, ha, k1, k5, q⟩ := h
    refine ⟨_, (pss_cons (ps_set (i := 2) sc_l_near.nd rfl (.inl rfl) (pe_callTy (r := rLstOf K) call_lstOf (by rfl) T.list bt_list (pa_cons (pv 1) pa_nil)))
        (pss_cons (ps_for PassesOwn.never rfl (pi_range1 (by rfl) T.range (pa_cons (pe_cd C_l_next (hr.mono (by omega)) (by rfl) (pa_cons (pv 0) (pa_cons pe_int pa_nil))) pa_nil)) (pg_name (i := 3) sc_l_near.nd rfl (.inl rfl)) (pss_cons (ps_set (i := 4) sc_l_near.nd rfl (.inl rfl) (pe_cd C_l_next (hr.mono (by omega)) (by rfl) (pa_cons (pv 0) (pa_cons (pe_callB (r := rLenS K) call_lenS (by rfl) T.len PySem.boot_len (pa_cons (pv 2) pa_nil)) pa_nil))))
        (pss_cons (ps_set (i := 5) sc_l_near.nd rfl (.inl rfl) (pe_cd C_l_next (hr.mono (by omega)) (by rfl) (pa_cons (pv 0) (pa_cons (pe_callB (r := rLenS K) call_lenS (by rfl) T.len PySem.boot_len (pa_cons (pv 2) pa_nil)) pa_nil))))
        (pss_one (ps_if (pt_cmpR op_gt (pe_ix (r := rIxL K) ix_list (pv 2) (pv 4) (fun _ _ => rfl)) pe_int (nomark _)) (pss_cons (ps_asg (pe_op op_sub (pe_ix (r := rIxL K) ix_list (pv 2) (pv 4) (fun _ _ => rfl)) pe_int) (pg_sub (pv 2) (pv 4) set_list))
        (pss_one (ps_asg (pe_op op_add (pe_ix (r := rIxL K) ix_list (pv 2) (pv 5) (fun _ _ => rfl)) pe_int) (pg_sub (pv 2) (pv 5) set_list)))) pss_nil)))))
        (pss_one (ps_ret (pe_callTy (r := rTupOf K) call_tupOf (by rfl) T.tuple bt_tuple (pa_cons (pv 2) pa_nil)))))), ?_⟩
    refine ⟨_, rfl, a, _, rfl, .inr (SqT.of ha), fun D hD => ?_⟩
    have nD := st.ne hD
    refine ⟨_, rfl, S, L, 3, rfl, st.upd nD, by decide, by decide, fun H1 t s1 st1 ht => ⟨(t : Int), rfl, by omega, by omega, for_range (lo := 0) (n := t) (fun i σ H2 => (∃ x3 x4 x5, σ = [some (.ref S), some (.ref a), some (.ref D), x3, x4, x5]) ∧ Sx S H H2 ∧ Strm H2 S L ∧
      ∃ ys, LstI H2 D ys ∧ ys.length = xs.length ∧ ys.sum = xs.sum) ⟨⟨none, none, none, rfl⟩, ((Sx.refl S H).upd hD).trans s1, st1, xs, s1 _ _ nD.1 upd_same, rfl, rfl⟩ (fun i σ H2 hi ⟨⟨x3, x4, x5, eσ⟩, s2, st2, ys, hy, ly, sy⟩ => ?_) (fun σ H2 ⟨⟨x3, x4, x5, eσ⟩, s2, st2, ys, hy, ly, sy⟩ => ?_)⟩⟩
    · subst eσ
      have lym : (ys.map iv).length = xs.length := by rw [List.length_map, ly]
      refine ⟨_, rfl, _, rfl, D, _, rfl, .inl (SqL.of hy), ?_⟩
      rw [lym]
      refine ⟨S, L, xs.length, rfl, st2, k1, by omega, fun H3 o s3 st3 ho => ?_⟩
      have hy3 : LstI H3 D ys := s3 _ _ nD.1 hy
      refine ⟨_, rfl, _, rfl, D, _, rfl, .inl (SqL.of hy3), ?_⟩
      rw [lym]
      refine ⟨S, L, xs.length, rfl, st3, k1, by omega, fun H4 n s4 st4 hn => ?_⟩
      have hy4 : LstI H4 D ys := s4 _ _ nD.1 hy3
      have ho2 : o < ys.length := by rw [ly]; exact ho
      have hn2 : n < ys.length := by rw [ly]; exact hn
      have s24 := (s2.trans s3).trans s4
      refine ⟨_, rfl, _, rfl, D, _, _, _, rfl, rfl, SqL.of hy4, at_iv ho2, _, _, rfl, rfl, _, rfl, ite2 (fun h => ?_) (fun _ => ⟨⟨_, _, _, rfl⟩, s24, st4, ys, hy4, ly, sy⟩)⟩
      have hpos : 0 < ys.getD o 0 := by
        have := of_decide_eq_true h
        omega
      refine ⟨_, rfl, _, rfl, D, _, _, _, rfl, rfl, SqL.of hy4, at_iv ho2, _, _, rfl, rfl, _, rfl, _, rfl, D, _, _, o, rfl, rfl, hy4, ixN_nat (by rw [List.length_map]; exact ho2), ?_⟩
      rw [set_iv (y := ys.getD o 0 - 1) (by omega)]
      have hn3 : n < (ys.set o (ys.getD o 0 - 1)).length := by rw [List.length_set]; exact hn2
      have hz : LstI (upd H4 D (.lst ((ys.set o (ys.getD o 0 - 1)).map iv))) D (ys.set o (ys.getD o 0 - 1)) := upd_same
      refine ⟨_, rfl, _, rfl, D, _, _, _, rfl, rfl, SqL.of hz, at_iv hn3, _, _, rfl, rfl, _, rfl, _, rfl, D, _, _, n, rfl, rfl, hz, ixN_nat (by rw [List.length_map]; exact hn3), ?_⟩
      rw [set_iv (y := (ys.set o (ys.getD o 0 - 1)).getD n 0 + 1) (by omega), upd_upd]
      refine ⟨⟨_, _, _, rfl⟩, s24.upd hD, st4.upd nD, _, upd_same, by rw [List.length_set, List.length_set]; exact ly, ?_⟩
      have e1 := sum_setN (xs := ys) (d := o) (y := ys.getD o 0 - 1) ho2
      have e2 := sum_setN (xs := ys.set o (ys.getD o 0 - 1)) (d := n) (y := (ys.set o (ys.getD o 0 - 1)).getD n 0 + 1) hn3
      omega
    · subst eσ
      refine ⟨_, rfl, D, _, rfl, .inl ⟨SqL.of hy, fun l hl => ?_⟩⟩
      exact q _ l ys (s2.upd (s2.free st2 hl)) (st2.upd (st2.ne hl)) upd_same ly sy
def sp_series : Sp := fun vs H Q _ => ∃ (S L : Addr) (k b n : Nat), vs = [.ref S, iv k, iv b, iv n] ∧ Strm H S L ∧ 1 ≤ k ∧ k ≤ 5 ∧ b ≤ 20 ∧ 1 ≤ n ∧ n ≤ 5 ∧
  ∀ H' a al, Sx S H H' → Strm H' S L → TabT H' a al → al.length = n → (∀ x ∈ al, x.length = k ∧ x.sum = b) → Q (.ref a) H'
theorem ok_series (D : DefAt K mg "_law_series" s_l_series ["_law_stream_here", "_law_variants", "_law_buckets", "_law_many"]) (T : Bt mg) (C_l_next : Callee P w K mg base "_law_next" 1 ["_law_stream_here", "_law_many"] sp_next)
    (C_l_allocation : Callee P w K mg base "_law_allocation" 2 ["_law_stream_here", "_law_variants", "_law_buckets"] sp_allocation) (C_l_near : Callee P w K mg base "_law_near" 2 ["_law_stream_here", "_law_allocation_here"] sp_near) :
    Callee P w K mg base "_law_series" 3 ["_law_stream_here", "_law_variants", "_law_buckets", "_law_many"] sp_series := by
  refine D.callee fun f fd F => F.ok sc_l_series (fun vs H Q E h => ?_) (fun cdv A outer s H vs Q E hr h => ?_)
  · obtain ⟨_, _, _, _, _, rfl, _⟩ := h
    rfl
  · obtain ⟨S, L, k, b, n, rfl, st, k1, k5, b20, n1, n5, q⟩ := h
    refine ⟨_, (pss_cons (ps_set (i := 4) sc_l_series.nd rfl (.inl rfl) (pe_lst (pa_cons (pe_cd C_l_allocation (hr.mono (by omega)) (by rfl) (pa_cons (pv 0) (pa_cons (pv 1) (pa_cons (pv 2) pa_nil)))) pa_nil)))
        (pss_cons (ps_for PassesOwn.never rfl (pi_range1 (by rfl) T.range (pa_cons (pe_op op_sub (pv 3) pe_int) pa_nil)) (pg_name (i := 5) sc_l_series.nd rfl (.inl rfl)) (pss_one (ps_if (pt_cmpR op_eq (pe_cd C_l_next (hr.mono (by omega)) (by rfl) (pa_cons (pv 0) (pa_cons pe_int pa_nil))) pe_int (nomark _)) (pss_one (ps_expr (pe_bm PySem.F.plainAttrs_list PySem.F.slot_list_append PySem.F.type_list_append mt_append (pv 4) (pa_cons (pe_cd C_l_near (hr.mono (by omega)) (by rfl) (pa_cons (pv 0) (pa_cons (pe_ix (r := rIxL K) ix_list (pv 4) (pe_cd C_l_next (hr.mono (by omega)) (by rfl) (pa_cons (pv 0) (pa_cons (pe_callB (r := rLenS K) call_lenS (by rfl) T.len PySem.boot_len (pa_cons (pv 4) pa_nil)) pa_nil))) (fun _ _ => rfl)) pa_nil))) pa_nil)))) (pss_one (ps_expr (pe_bm PySem.F.plainAttrs_list PySem.F.slot_list_append PySem.F.type_list_append mt_append (pv 4) (pa_cons (pe_cd C_l_allocation (hr.mono (by omega)) (by rfl) (pa_cons (pv 0) (pa_cons (pv 1) (pa_cons (pv 2) pa_nil)))) pa_nil)))))))
        (pss_one (ps_ret (pe_callTy (r := rTupOf K) call_tupOf (by rfl) T.tuple bt_tuple (pa_cons (pv 4) pa_nil)))))), ?_⟩
    refine ⟨_, rfl, _, rfl, _, rfl, S, L, k, b, rfl, st, k1, k5, b20, fun H1 a0 x0 s1 st1 h0 l0 u0 => ⟨by show 1 ≤ sizeLine; decide, fun D hD => ?_⟩⟩
    have nD := st1.ne hD
    have fD : H D = none := s1.free st1 hD
    have ej : (((n : Int) - 1).toNat : Nat) = n - 1 := by omega
    refine ⟨_, rfl, _, _, rfl, rfl, (n : Int) - 1, rfl, by omega, by omega, for_range (lo := 0) (n := ((n : Int) - 1).toNat) (fun i σ H2 => (∃ x5, σ = [some (.ref S), some (iv k), some (iv b), some (iv n), some (.ref D), x5]) ∧ Sx S H H2 ∧ Strm H2 S L ∧
      ∃ as al, H2 D = some (.lst (as.map V.ref)) ∧ All2 (RowT H2) as al ∧ al.length = i + 1 ∧ ∀ x ∈ al, x.length = k ∧ x.sum = b)
      ⟨⟨none, rfl⟩, s1.upd fD, st1.upd nD, [a0], [x0], upd_same, All2.nil.snoc (TS.new hD _ _ h0), rfl, fun x hx => by rw [List.mem_singleton.mp hx]; exact ⟨l0, u0⟩⟩
      (fun i σ H2 hi ⟨⟨x5, eσ⟩, s2, st2, as, al, h2, a2, l2, m2⟩ => ?_) (fun σ H2 ⟨⟨x5, eσ⟩, s2, st2, as, al, h2, a2, l2, m2⟩ => ?_)⟩
    · subst eσ
      rw [ej] at hi
      have las : as.length = al.length := a2.1
      -- what a new row does
      have push : ∀ (H5 : Hp) (c : Addr) (ys : Row), Sx S H2 H5 → Strm H5 S L → RowT H5 c ys → ys.length = k → ys.sum = b →
          (Sx S H (upd H5 D (.lst (as.map V.ref ++ [.ref c]))) ∧ Strm (upd H5 D (.lst (as.map V.ref ++ [.ref c]))) S L ∧ ∃ as' al', (upd H5 D (.lst (as.map V.ref ++ [.ref c]))) D = some (.lst (as'.map V.ref)) ∧ All2 (RowT (upd H5 D (.lst (as.map V.ref ++ [.ref c])))) as' al' ∧ al'.length = i + 1 + 1 ∧ ∀ x ∈ al', x.length = k ∧ x.sum = b) := fun H5 c ys s5 st5 hy ly sy => by
        have h5 : H5 D = some (.lst (as.map V.ref)) := s5 _ _ nD.1 h2
        refine ⟨(s2.trans s5).upd fD, st5.upd nD, as ++ [c], al ++ [ys], by rw [upd_same, List.map_append]; rfl, ?_, by rw [List.length_append, l2]; rfl, fun x hx => ?_⟩
        · refine (a2.mono fun _ _ z => RowT.ts ((s5.tsm st2).trans (TS.lst h5)) z).snoc ?_
          exact TS.lst h5 _ _ hy
        · rcases List.mem_append.mp hx with hx | hx
          · exact m2 x hx
          · rw [List.mem_singleton.mp hx]
            exact ⟨ly, sy⟩
      have size : (as.map V.ref).length < sizeLine := by
        rw [List.length_map, las, l2]
        exact Nat.lt_of_lt_of_le (show i + 1 < 1000 by omega) (by decide)
      refine ⟨_, rfl, S, L, 2, rfl, st2, by decide, by decide, fun H3 d s3 st3 hd => ⟨rfl, _, rfl, ite2 (fun _ => ?_) (fun _ => ?_)⟩⟩
      · have h3 : H3 D = some (.lst (as.map V.ref)) := s3 _ _ nD.1 h2
        refine ⟨_, rfl, .inl ⟨rfl, _, SqL.of h3⟩, _, rfl, _, rfl, _, rfl, _, rfl, D, _, rfl, .inl (SqL.of h3), ?_⟩
        rw [List.length_map, las, l2]
        refine ⟨S, L, i + 1, rfl, st3, by omega, by omega, fun H4 g s4 st4 hg => ?_⟩
        have h4 : H4 D = some (.lst (as.map V.ref)) := s4 _ _ nD.1 h3
        have a4 := a2.mono fun _ _ z => RowT.ts ((s3.tsm st2).trans (s4.tsm st3)) z
        obtain ⟨c, hc, rc⟩ := a4.get (i := g) (by rw [l2]; exact hg) []
        obtain ⟨lc, sc⟩ := m2 _ (getD_mem (d := []) (show g < al.length by rw [l2]; exact hg))
        refine ⟨D, _, _, _, rfl, rfl, SqL.of h4, at_ref hc, S, L, c, al.getD g [], rfl, st4, rc, by rw [lc]; exact k1, by rw [lc]; exact k5, fun H5 c5 ys s5 st5 hy ly sy => ?_⟩
        have h5 : H5 D = some (.lst (as.map V.ref)) := s5 _ _ nD.1 h4
        obtain ⟨p1, p2, p3⟩ := push H5 c5 ys ((s3.trans s4).trans s5) st5 hy (ly.trans lc) (sy.trans sc)
        exact ⟨D, _, _, rfl, rfl, h5, size, ⟨_, rfl⟩, p1, p2, p3⟩
      · have h3 : H3 D = some (.lst (as.map V.ref)) := s3 _ _ nD.1 h2
        refine ⟨_, rfl, .inl ⟨rfl, _, SqL.of h3⟩, _, rfl, _, rfl, _, rfl, S, L, k, b, rfl, st3, k1, k5, b20, fun H5 c5 ys s5 st5 hy ly sy => ?_⟩
        have h5 : H5 D = some (.lst (as.map V.ref)) := s5 _ _ nD.1 h3
        obtain ⟨p1, p2, p3⟩ := push H5 c5 ys (s3.trans s5) st5 hy ly sy
        exact ⟨D, _, _, rfl, rfl, h5, size, ⟨_, rfl⟩, p1, p2, p3⟩
    · subst eσ
      refine ⟨_, rfl, D, _, rfl, .inl ⟨SqL.of h2, fun l hl => ?_⟩⟩
      refine q _ l al (s2.upd (s2.free st2 hl)) (st2.upd (st2.ne hl)) ⟨as, upd_same, a2.mono fun _ _ z => RowT.ts (TS.new hl) z⟩ (by rw [l2, ej]; omega) m2
end
end Ft

/-! Tuples whose object is known to have no dict of its own: t.count(n) needs that; at a def's return they are thawed. -/
namespace Ft
open PySem PySem.Spec PyProof.Rows L2
def FrzT (H : Hp) (a : Addr) (xs : List V) : Prop := ∃ o : Obj, o.dict = none ∧ H a = some (.frz o (.tup xs))
theorem FrzT.sqt {K : PySem.W.Frag} {H : Hp} {a : Addr} {xs : List V} (h : FrzT H a xs) : SqT K H a xs := let ⟨o, _, e⟩ := h; .inl (.inr ⟨o, e⟩)
theorem FrzT.same {H H' : Hp} {a : Addr} {xs : List V} (s : Same H H') (h : FrzT H a xs) : FrzT H' a xs := let ⟨o, d, e⟩ := h; ⟨o, d, s _ _ e⟩
theorem FrzT.lst {H : Hp} {l a : Addr} {xs ys : List V} {u : HO} (e : H l = some (.lst ys)) (h : FrzT H a xs) : FrzT (upd H l u) a xs := by
  obtain ⟨o, d, q⟩ := h
  refine ⟨o, d, ?_⟩
  rw [upd_ne (ne_of q e (fun z => nomatch z))]
  exact q
/-- (a, b, ..), its object known -/
def tTupF (t : TA) : TE := fun σ H Q => t σ H fun xs H1 => xs.length ≤ sizeLine ∧ ∀ (p : Addr) (o : Obj), H1 p = none → o.dict = none → Q (.ref p) (upd H1 p (.frz o (.tup xs)))
/-- t + u, its object known -/
def rCatF (K : PySem.W.Frag) : R2 := fun x y H Q => ∃ a b xs ys, x = .ref a ∧ y = .ref b ∧ SqT K H a xs ∧ SqT K H b ys ∧ xs.length + ys.length ≤ sizeLine ∧ ys ≠ [] ∧
  (xs = [] → Q (.ref b) H) ∧ (xs ≠ [] → ∀ (p : Addr) (o : Obj), H p = none → o.dict = none → Q (.ref p) (upd H p (.frz o (.tup (xs ++ ys)))))
/-- t.count(n) -/
def tCntF (to ta : TE) : TE := fun σ H Q => to σ H fun x H1 => ∃ (a : Addr) (ns : List Int), x = .ref a ∧ FrzT H1 a (ns.map V.int) ∧ ta σ H1 fun y H2 => ∃ k : Int, [y] = [V.int k] ∧ FrzT H2 a (ns.map V.int) ∧ Q (.int (ns.count k : Nat)) H2
section
variable {X : Cx}
theorem pe_tupF {es : List Expr} {x1 : Nat} {pos : Pos} {t : TA} (h : PA X es t) : PE X (.Tuple es x1 pos) (tTupF t) := by
  constructor
  intro pins s σ H Q I hq
  refine wpAny_Tuple_spliced (thn (h.run pos pins s σ H _ I hq) fun us s1 hx => ?_)
  obtain ⟨xs, H1, I1, r, z, q⟩ := hx
  have hz : us.length ≤ sizeLine := by rw [← r.length]; exact z
  have hn : H1 s1.heap.objs.size = none := I1.hok.fresh (Nat.le_refl _)
  have new : (s1.heap.push ({ cls := .type "tuple", data := .seq us.toArray } : Obj)).get? s1.heap.objs.size = some { cls := .type "tuple", data := .seq us.toArray } := Heap.get?_push_size _ rfl
  exact ⟨hz, .ref s1.heap.objs.size, _, I1.laid (t' := s1.toks) (o := .frz { cls := .type "tuple", data := .seq us.toArray } (.tup xs)) (fun b u e => Heap.get?_push_of_some _ e) (Nat.le_refl _) ⟨new, z, us, r, _, new, rfl, _, rfl⟩, rfl, q _ _ hn rfl⟩
theorem op_catF : OpR X (binaryOp .Add) (rCatF X.K) := by
  intro pins s σ H x y v u Q I rx ry h
  obtain ⟨a, b, xs, ys, rfl, rfl, ha, hb, hz, hy, q0, q1⟩ := h
  cases rx
  cases ry
  obtain ⟨is, r1, p1, _⟩ := I.tuple ha
  obtain ⟨js, r2, p2, _⟩ := I.tuple hb
  by_cases hx : xs = []
  · subst hx
    cases r1
    exact cat_tup0 p1 p2 ⟨.ref b, H, I, rfl, q0 rfl⟩
  · have hl : is.length + js.length ≤ sizeLine := by rw [← r1.length, ← r2.length]; exact hz
    refine HT.cat_tup p1 p2 (fun z => hx (r1.nil_iff.mp z)) (fun z => absurd (r2.nil_iff.mp z) hy) (fun _ => ?_) hl
    have new : (s.heap.push ({ cls := .type "tuple", data := .seq (is ++ js).toArray } : Obj)).get? s.heap.objs.size = some { cls := .type "tuple", data := .seq (is ++ js).toArray } := Heap.get?_push_size _ rfl
    exact ⟨.ref s.heap.objs.size, _, I.laid (t' := s.toks) (o := .frz { cls := .type "tuple", data := .seq (is ++ js).toArray } (.tup (xs ++ ys))) (fun c ob e => Heap.get?_push_of_some _ e) (Nat.le_refl _)
      ⟨new, by rw [List.length_append]; exact hz, is ++ js, r1.append r2, _, new, rfl, _, rfl⟩, rfl, q1 hx _ _ (I.hok.fresh (Nat.le_refl _)) rfl⟩
theorem pe_cntF {o e : Expr} {apos cpos : Pos} {to ta : TE} (ho : PE X o to) (he : PE X e ta) (hbase : attributeBase o "count" X.env (eval o X.env) = eval o X.env := by rfl)
    (hfew : ((backTo cpos (starEach [e] X.env)).all (fun x => !x.1) && (backToKw cpos (keywordEach [] X.env)).all (fun x => x.1.isSome) && decide ([e].length + ([] : List Keyword).length + (if ([] : List Keyword).isEmpty then 0 else 1) < 30)) = true := by rfl)
    (hline : (apos.endLine == cpos.line) = true := by rfl) (hs : starEach [e] X.env = (false, eval e X.env) :: starEach [] X.env := by rfl) (hp : (backTo cpos (starEach [] X.env)).any (·.1) = false := by rfl) :
    PE X (.Call (.Attribute o "count" apos) [e] [] cpos) (tCntF to ta) := by
  constructor
  intro pins s σ H Q I h
  refine wpAny_Call_method_late hbase hfew hline rfl (thn (ho.run pins s σ H _ I h) fun v s1 hx => ?_)
  obtain ⟨x, H1, I1, r1, a, ns, rfl, ⟨ob, hd, ea⟩, q1⟩ := hx
  cases r1
  obtain ⟨eo, hz, its, rv, ob', eo', hc, n, hdt⟩ := (show ObjOk X.prog X.w H1 s1.heap a (.frz ob (.tup (ns.map V.int))) from I1.hok a _ ea)
  have e0 : ob' = ob := Option.some.inj (eo'.symm.trans eo)
  subst e0
  refine ⟨"tuple", "tuple.count", PySem.F.plainAttrs_tuple, PySem.F.slot_tuple_count, PySem.F.type_tuple_count, ⟨ob', eo, hc⟩, fun b eb => ?_, ?_⟩
  · cases eb
    exact ⟨ob', eo, hd⟩
  · have hA := (pa_cons he pa_nil hs).run cpos pins s1 σ H1 (fun xs H2 => ∃ k : Int, xs = [.int k] ∧ FrzT H2 a (ns.map V.int) ∧ Q (.int (ns.count k : Nat)) H2) I1 ?_
    · rw [hs] at hA ⊢
      refine Calls.callWith_builtin (by show (false || (backTo cpos (starEach [] X.env)).any (·.1)) = false; rw [hp] <;> rfl) (Calls.evalArgs_plain ?_)
      refine thn hA fun us s2 hy => ?_
      obtain ⟨vs, H2, I2, r2, k, rfl, f2, q2⟩ := hy
      exact mt_tcount pins s2 σ H2 (.ref a) [.int k] (.ref a) us Q I2 rfl r2 ⟨a, ns, k, rfl, rfl, f2.sqt, q2⟩
    · exact q1
end
/-- new known tuples become tuples -/
def thaw (H0 H : Hp) : Hp := fun b => match H0 b with
  | some _ => H b
  | none => match H b with
    | some (.frz _ (.tup xs)) => some (.tup xs)
    | o => o
section
variable {H0 H : Hp} {b : Addr}
theorem thaw_old {o : HO} (h : H0 b = some o) : thaw H0 H b = H b := by
  unfold thaw
  rw [h]
theorem thaw_none (h : H b = none) : thaw H0 H b = none := by
  unfold thaw
  rw [h]
  cases H0 b <;> rfl
theorem thaw_new {o : Obj} {xs : List V} (h0 : H0 b = none) (h : H b = some (.frz o (.tup xs))) : thaw H0 H b = some (.tup xs) := by
  unfold thaw
  rw [h0, h]
theorem thaw_keep {u : HO} (h : H b = some u) (n : ∀ o xs, u ≠ .frz o (.tup xs)) : thaw H0 H b = some u := by
  unfold thaw
  rw [h]
  cases H0 b with
  | some _ => rfl
  | none =>
    cases u with
    | frz o w =>
      cases w with
      | tup xs => exact absurd rfl (n o xs)
      | _ => rfl
    | _ => rfl
theorem thaw_cases {u : HO} (h : thaw H0 H b = some u) : H b = some u ∨ ∃ o xs, H b = some (.frz o (.tup xs)) ∧ u = .tup xs := by
  unfold thaw at h
  cases e0 : H0 b with
  | some _ =>
    rw [e0] at h
    exact .inl h
  | none =>
    rw [e0] at h
    simp only at h
    split at h
    · rename_i o xs e
      exact .inr ⟨o, xs, e, (Option.some.inj h).symm⟩
    · exact .inl h
theorem same_thaw (s : L2.Same H0 H) : L2.Same H0 (Ft.thaw H0 H) := fun c o e => by
  rw [thaw_old e]
  exact s c o e
end
section
variable {X : Cx} {pins : List (Addr × Obj)} {σ : L2.St} {H : Hp} {s : Shared}
theorem inv_thaw (I : Inv X pins σ H s) : Inv X pins σ (thaw X.H_0 H) s where
  ok := I.ok
  os := I.os
  bare := I.bare
  base := ⟨I.base.keep, I.base.slot, fun b o q n hx => thaw_none (I.base.free b o q n hx), I.base.there, fun b xs q => by rw [thaw_old q]; exact I.base.tups b xs q, fun b o u q => by rw [thaw_old q]; exact I.base.frzs b o u q,
    fun b ps q => by rw [thaw_old q]; exact I.base.tbls b ps q⟩
  loc := I.loc
  cell := I.cell
  free := thaw_none I.free
  freeC := fun x c h => thaw_none (I.freeC x c h)
  pin := fun p hp => let ⟨a, b, c⟩ := I.pin p hp; ⟨a, thaw_none b, c⟩
  hok := fun a o e => by
    have st : ∀ u : HO, ObjOk X.prog X.w H s.heap a u → ObjOk X.prog X.w (thaw X.H_0 H) s.heap a u := fun u z =>
      z.stay (fun b v _ q => q) (fun b q => thaw_keep q fun _ _ q => by cases q) fun b xs q => thaw_keep q fun _ _ q => by cases q
    rcases thaw_cases e with q | ⟨ob, xs, q, rfl⟩
    · exact st o (I.hok a o q)
    · have z : ObjOk X.prog X.w H s.heap a (.frz ob (.tup xs)) := I.hok a _ q
      exact st _ z.2
  len := I.len
def tThaw (H0 : Hp) (te : TE) : TE := fun σ H Q => te σ H fun v H1 => Q v (thaw H0 H1)
theorem pe_thaw {e : Expr} {te : TE} {H0 : Hp} (h0 : X.H_0 = H0) (h : PE X e te) : PE X e (tThaw H0 te) := by
  constructor
  intro pins s σ H Q I hq
  subst h0
  exact thn (h.run pins s σ H _ I hq) fun u s1 ⟨v, H1, I1, r, q⟩ => ⟨v, _, inv_thaw I1, r, q⟩
end
end Ft

namespace Ft
open PySem PySem.Spec PyProof.Rows L2
/-! ### all assignments; transfer and churn; the kept pairs -/
abbrev s_l_assignments : Stmt := topS 32
theorem sc_l_assignments : FnScope ["_law_allocation_here", "_law_rows", "_law_bucket", "_law_longer", "_law_row", "_law_variant"] ["_law_allocation_here"] (defScope s_l_assignments) := ⟨rfl, rfl, rfl, by decide +kernel, rfl, by decide +kernel, by decide +kernel⟩
abbrev s_l_transfer : Stmt := topS 33
theorem sc_l_transfer : FnScope ["_law_first_here", "_law_second", "_law_a", "_law_b"] ["_law_first_here", "_law_second"] (defScope s_l_transfer) := ⟨rfl, rfl, rfl, by decide +kernel, rfl, by decide +kernel, by decide +kernel⟩
abbrev s_l_churn : Stmt := topS 34
theorem sc_l_churn : FnScope ["_law_first_here", "_law_second", "_law_at"] ["_law_first_here", "_law_second"] (defScope s_l_churn) := ⟨rfl, rfl, rfl, by decide +kernel, rfl, by decide +kernel, by decide +kernel⟩
abbrev s_l_kept : Stmt := topS 37
theorem sc_l_kept : FnScope ["_law_allocations", "_law_pairs_here", "_law_table", "_law_found", "_law_at", "_law_i", "_law_j"] ["_law_allocations", "_law_pairs_here", "_law_table"] (defScope s_l_kept) := ⟨rfl, rfl, rfl, by decide +kernel, rfl, by decide +kernel, by decide +kernel⟩
theorem flat_len {α β : Type} {f : α → List β} {c : Nat} : ∀ {l : List α}, (∀ x ∈ l, (f x).length ≤ c) → (l.flatMap f).length ≤ l.length * c
  | [], _ => by simp
  | x :: l, h => by
    rw [List.flatMap_cons, List.length_append, List.length_cons, Nat.succ_mul]
    have h1 := h x (List.mem_cons_self ..)
    have h2 := flat_len (l := l) fun y hy => h y (List.mem_cons_of_mem _ hy)
    omega
theorem part_len {k : Nat} {a row : Row} (v : Nat) : ((List.range v).flatMap fun u => if row.count u < a.getD u 0 then [row ++ [u]] else []).length ≤ v := by
  have := flat_len (l := List.range v) (f := fun u => if row.count u < a.getD u 0 then [row ++ [u]] else []) (c := 1) fun x _ => by
    split
    · exact Nat.le_refl _
    · exact Nat.zero_le _
  rw [List.length_range, Nat.mul_one] at this
  exact this
theorem asg_len {k : Nat} {a : Row} : ∀ m : Nat, (asg k a m).length ≤ k ^ m
  | 0 => Nat.le_refl _
  | m + 1 => by
    refine Nat.le_trans (flat_len (c := k) fun row _ => part_len (k := k) k) ?_
    rw [Nat.pow_succ]
    exact Nat.mul_le_mul_right _ (asg_len m)
theorem pow_le8 {k m : Nat} (hk : k ≤ 5) (hm : m ≤ 8) : k ^ m ≤ 390625 := by
  have h1 : k ^ m ≤ 5 ^ m := Nat.pow_le_pow_left hk m
  have h2 : 5 ^ m ≤ 5 ^ 8 := Nat.pow_le_pow_right (by decide) hm
  exact Nat.le_trans h1 (Nat.le_trans h2 (by decide))
section
variable {P : Program} {w : World} {K : PySem.W.Frag} {mg : Str → Option Value} {base : Heap}
def RowF (H0 H : Hp) (a : Addr) (xs : List Nat) : Prop := H0 a = none ∧ FrzT H a (xs.map iv)
theorem RowF.same {H0 H H' : Hp} {a : Addr} {xs : List Nat} (s : Same H H') (h : RowF H0 H a xs) : RowF H0 H' a xs := ⟨h.1, FrzT.same s h.2⟩
theorem RowF.lst {H0 H : Hp} {l a : Addr} {ys : List V} {u : HO} {xs : List Nat} (e : H l = some (.lst ys)) (h : RowF H0 H a xs) : RowF H0 (upd H l u) a xs := ⟨h.1, FrzT.lst e h.2⟩
def sp_assignments : Sp := fun vs H Q _ => ∃ (a : Addr) (xs : Row) (k b : Nat), vs = [.ref a] ∧ RowT H a xs ∧ xs.length = k ∧ xs.sum = b ∧ k ≤ 5 ∧ b ≤ 8 ∧
  ∀ H' p as, Same H H' → H p = none → H' p = some (.lst (as.map V.ref)) → All2 (RowT H') as (asg k xs b) → Q (.ref p) H'
theorem ok_assignments (D : DefAt K mg "_law_assignments" s_l_assignments ["_law_allocation_here"]) (T : Bt mg) : Callee P w K mg base "_law_assignments" 1 ["_law_allocation_here"] sp_assignments := by
  refine D.callee fun f fd F => F.ok sc_l_assignments (fun vs H Q E h => ?_) (fun cdv A outer s H vs Q E hr h => ?_)
  · obtain ⟨_, _, _, _, rfl, _⟩ := h
    rfl
  · obtain ⟨a, xs, k, b, rfl, ha, hk, hb, k5, b8, q⟩ := h
    refine ⟨_, (pss_cons (ps_set (i := 1) sc_l_assignments.nd rfl (.inl rfl) (pe_lst (pa_cons (pe_tupF pa_nil) pa_nil)))
        (pss_cons (ps_for PassesOwn.never rfl (pi_range1 (by rfl) T.range (pa_cons (pe_callB (r := rSumT K) (cr_sumT rfl) (by rfl) T.sum bt_sum (pa_cons (pv 0) pa_nil)) pa_nil)) (pg_name (i := 2) sc_l_assignments.nd rfl (.inl rfl)) (pss_cons (ps_set (i := 3) sc_l_assignments.nd rfl (.inl rfl) (pe_lst pa_nil))
        (pss_cons (ps_for PassesOwn.never rfl (pi_list (pv 1)) (pg_name (i := 4) sc_l_assignments.nd rfl (.inl rfl)) (pss_one (ps_for PassesOwn.never rfl (pi_range1 (by rfl) T.range (pa_cons (pe_callB (r := rLenS K) call_lenS (by rfl) T.len PySem.boot_len (pa_cons (pv 0) pa_nil)) pa_nil)) (pg_name (i := 5) sc_l_assignments.nd rfl (.inl rfl)) (pss_one (ps_if (pt_cmpR op_lt (pe_cntF (pv 4) (pv 5)) (pe_ix (r := rIxT K) ix_tup (pv 0) (pv 5) (fun _ _ => rfl)) (nomark _)) (pss_one (ps_expr (pe_bm PySem.F.plainAttrs_list PySem.F.slot_list_append PySem.F.type_list_append mt_append (pv 3) (pa_cons (pe_op (r := rCatF K) op_catF (pv 4) (pe_tupF (pa_cons (pv 5) pa_nil))) pa_nil)))) pss_nil)))))
        (pss_one (ps_set (i := 1) sc_l_assignments.nd rfl (.inl rfl) (pv 3))))))
        (pss_one (ps_ret (pe_thaw (H0 := H) rfl (pv 1)))))), ?_⟩
    refine ⟨Nat.zero_le _, fun t o0 ht d0 => ⟨by show 1 ≤ sizeLine; decide, fun R0 hR0 => ?_⟩⟩
    have nt : t ≠ R0 := fun e => by
      rw [e, upd_same] at hR0
      cases hR0
    have fR0 : H R0 = none := by
      rw [upd_ne nt.symm] at hR0
      exact hR0
    generalize hH1 : upd (upd H t (.frz o0 (.tup []))) R0 (.lst [.ref t]) = H1
    have s1 : Same H H1 := by
      rw [← hH1]
      exact same_upd (same_new ht) fR0
    have e1 : H1 R0 = some (.lst ([t].map V.ref)) := by
      rw [← hH1, upd_same]
      rfl
    have r1 : RowF H H1 t [] := ⟨ht, o0, d0, by rw [← hH1, upd_ne nt, upd_same]; rfl⟩
    have ha1 : RowT H1 a xs := s1 _ _ ha
    refine ⟨_, rfl, a, _, rfl, SqT.of (by rw [← iv_map]; exact ha1), ?_⟩
    rw [sum_cast, hb]
    refine ⟨(b : Int), rfl, by omega, by omega, for_range (lo := 0) (n := b) (fun i σ H2 => ∃ (R : Addr) (as : List Addr) (x2 x3 x4 x5 : Option V), σ = [some (.ref a), some (.ref R), x2, x3, x4, x5] ∧ Same H H2 ∧ H R = none ∧ H2 R = some (.lst (as.map V.ref)) ∧ All2 (RowF H H2) as (asg k xs i))
      ⟨R0, [t], none, none, none, none, rfl, s1, fR0, e1, All2.nil.snoc r1⟩ (fun i σ H2 hi ⟨R, as, x2, x3, x4, x5, eσ, s2, fR, e2, a2⟩ => ?_) (fun σ H2 ⟨R, as, x2, x3, x4, x5, eσ, s2, fR, e2, a2⟩ => ?_)⟩
    · subst eσ
      have hA : (asg k xs i).length ≤ 390625 := Nat.le_trans (asg_len i) (pow_le8 k5 (by omega))
      have hA2 : (asg k xs (i + 1)).length ≤ 390625 := Nat.le_trans (asg_len (i + 1)) (pow_le8 k5 (by omega))
      refine ⟨Nat.zero_le _, fun D hD => ?_⟩
      have fD : H D = none := s2.free hD
      have nDR : D ≠ R := fun e => by
        rw [e, e2] at hD
        cases hD
      have ha2 : RowT H2 a xs := s2 _ _ ha
      have e2' : (upd H2 D (.lst [])) R = some (.lst (as.map V.ref)) := by
        rw [upd_ne nDR.symm]
        exact e2
      refine ⟨_, rfl, R, rfl, ⟨_, SqL.of e2'⟩, for_list (K := K) (a := R) (xs := as.map V.ref) (fun j σ H3 => (∃ (x4 x5 : Option V), σ = [some (.ref a), some (.ref R), some (.int (0 + (i : Int))), some (.ref D), x4, x5]) ∧ Same H2 H3 ∧ j ≤ (asg k xs i).length ∧
        ∃ ds, H3 D = some (.lst (ds.map V.ref)) ∧ All2 (RowF H H3) ds (((asg k xs i).take j).flatMap (asgStep k xs)))
        ⟨⟨x4, x5, rfl⟩, same_new hD, Nat.zero_le _, [], upd_same, All2.nil⟩ (fun j σ H3 _ p => SqL.of (p.2.1 _ _ e2)) (fun j x σ H3 hx ⟨⟨y4, y5, eσ⟩, s3, hj, ds, e3, a3⟩ => ?_) (fun σ H3 ⟨⟨y4, y5, eσ⟩, s3, hj, ds, e3, a3⟩ => ?_)⟩
      · subst eσ
        obtain ⟨c, rfl, hc⟩ := ref_item hx
        have hja : j < (asg k xs i).length := by rw [← a2.1]; exact (List.getElem?_eq_some_iff.mp hc).1
        have hrow2 : RowF H H2 c (asg k xs i)[j] := a2.2 j c _ hc (List.getElem?_eq_getElem hja)
        generalize hrr : (asg k xs i)[j] = row at hrow2
        have et : ((asg k xs i).take (j + 1)).flatMap (asgStep k xs) = ((asg k xs i).take j).flatMap (asgStep k xs) ++ asgStep k xs row := by
          rw [List.take_add_one, List.getElem?_eq_getElem hja, hrr, List.flatMap_append]
          simp
        have hbd : (((asg k xs i).take j).flatMap (asgStep k xs)).length ≤ 390625 * 5 := by
          refine Nat.le_trans (flat_len (c := k) fun row _ => part_len (k := k) k) ?_
          rw [List.length_take]
          exact Nat.mul_le_mul (by omega) k5
        refine ⟨_, rfl, a, _, rfl, .inr (SqT.of (s3 _ _ ha2)), ?_⟩
        rw [List.length_map, hk]
        refine ⟨(k : Int), rfl, by omega, by omega, for_range (lo := 0) (n := k) (fun v σ H4 => (∃ (x5 : Option V), σ = [some (.ref a), some (.ref R), some (.int (0 + (i : Int))), some (.ref D), some (.ref c), x5]) ∧ Same H2 H4 ∧
          ∃ ds, H4 D = some (.lst (ds.map V.ref)) ∧ All2 (RowF H H4) ds (((asg k xs i).take j).flatMap (asgStep k xs) ++ (List.range v).flatMap fun u => if row.count u < xs.getD u 0 then [row ++ [u]] else []))
          ⟨⟨y5, rfl⟩, s3, ds, e3, by simpa using a3⟩ (fun v σ H4 hv ⟨⟨z5, eσ⟩, s4, es, e4, a4⟩ => ?_) (fun σ H4 ⟨⟨z5, eσ⟩, s4, es, e4, a4⟩ => ?_)⟩
        · subst eσ
          have e0 : V.int (0 + (v : Int)) = iv v := by rw [Int.zero_add]
          rw [e0]
          have hrow4 : RowF H H4 c row := RowF.same s4 hrow2
          have ha4 : RowT H4 a xs := s4 _ _ ha2
          have hrow4' : FrzT H4 c ((row.map fun n : Nat => (n : Int)).map V.int) := by
            rw [← iv_map]
            exact hrow4.2
          have hvx : v < xs.length := by rw [hk]; exact hv
          refine ⟨_, rfl, c, _, rfl, hrow4', _, rfl, (v : Int), rfl, hrow4', _, rfl, _, rfl, a, _, _, _, rfl, rfl, SqT.of ha4, at_iv hvx, _, _, rfl, rfl, _, rfl, ?_⟩
          rw [count_cast]
          have er : (List.range (v + 1)).flatMap (fun u => if row.count u < xs.getD u 0 then [row ++ [u]] else []) = (List.range v).flatMap (fun u => if row.count u < xs.getD u 0 then [row ++ [u]] else []) ++ (if row.count v < xs.getD v 0 then [row ++ [v]] else []) := by
            rw [List.range_succ, List.flatMap_append]
            simp
          refine ite2 (fun h => ?_) (fun h => ?_)
          · have hlt : row.count v < xs.getD v 0 := by
              have := of_decide_eq_true h
              omega
            have size : (es.map V.ref).length < sizeLine := by
              rw [List.length_map, a4.1, List.length_append]
              have := part_len (k := k) (a := xs) (row := row) v
              exact Nat.lt_of_lt_of_le (show _ < 16000000 by omega) (by decide)
            -- a longer row is pushed
            have push : ∀ (H5 : Hp) (u : Addr), Same H4 H5 → RowF H H5 u (row ++ [v]) → H5 D = some (.lst (es.map V.ref)) ∧ Same H2 (upd H5 D (.lst (es.map V.ref ++ [.ref u]))) ∧
                ∃ ds, (upd H5 D (.lst (es.map V.ref ++ [.ref u]))) D = some (.lst (ds.map V.ref)) ∧ All2 (RowF H (upd H5 D (.lst (es.map V.ref ++ [.ref u])))) ds (((asg k xs i).take j).flatMap (asgStep k xs) ++ (List.range (v + 1)).flatMap fun u => if row.count u < xs.getD u 0 then [row ++ [u]] else []) := fun H5 u s5 hu => by
              have e5 : H5 D = some (.lst (es.map V.ref)) := s5 _ _ e4
              refine ⟨e5, same_upd (s4.trans s5) hD, es ++ [u], by rw [upd_same, List.map_append]; rfl, ?_⟩
              rw [er, if_pos hlt, ← List.append_assoc]
              exact (a4.mono fun _ _ z => RowF.lst e5 (RowF.same s5 z)).snoc (RowF.lst e5 hu)
            have hlen : (row.map iv).length ≤ 8 := by
              have hm : row ∈ asg k xs i := by rw [← hrr]; exact List.getElem_mem hja
              rw [asg_eq] at hm
              obtain ⟨s', e', l', _⟩ := mem_rows hm
              rw [e', List.nil_append, List.length_map, l']
              omega
            refine ⟨_, rfl, .inl ⟨rfl, _, SqL.of e4⟩, _, rfl, _, rfl, (by show 1 ≤ sizeLine; decide), fun u o hu du => ?_⟩
            have su : Same H4 (upd H4 u (.frz o (.tup [iv v]))) := same_new hu
            refine ⟨c, u, row.map iv, [iv v], rfl, rfl, FrzT.sqt (FrzT.same su hrow4.2), .inl (.inr ⟨o, upd_same⟩), (Nat.le_trans (Nat.succ_le_succ hlen) (by decide)), (by simp), fun hnil => ?_, fun hne p o' hp dp => ?_⟩
            · have en : row = [] := List.map_eq_nil_iff.mp hnil
              obtain ⟨p1, p2, p3⟩ := push _ u su ⟨(s2.trans s4).free hu, o, du, by rw [upd_same, en]; rfl⟩
              exact ⟨D, _, _, rfl, rfl, p1, size, ⟨_, rfl⟩, p2, p3⟩
            · obtain ⟨p1, p2, p3⟩ := push _ p (su.trans (same_new hp)) ⟨(s2.trans (s4.trans su)).free hp, o', dp, by rw [upd_same, List.map_append]⟩
              exact ⟨D, _, _, rfl, rfl, p1, size, ⟨_, rfl⟩, p2, p3⟩
          · have hn : ¬ row.count v < xs.getD v 0 := fun z => h (decide_eq_true (by omega))
            refine ⟨⟨_, rfl⟩, s4, es, e4, ?_⟩
            rw [er, if_neg hn, List.append_nil]
            exact a4
        · subst eσ
          refine ⟨⟨_, _, rfl⟩, s4, hja, es, e4, ?_⟩
          rw [et]
          exact a4
      · subst eσ
        refine ⟨_, rfl, D, ds, _, _, _, _, rfl, s2.trans s3, fD, e3, ?_⟩
        rw [List.length_map, a2.1, List.take_length] at a3
        exact a3
    · subst eσ
      refine ⟨_, rfl, q _ R as (same_thaw s2) fR (thaw_keep e2 fun _ _ z => by cases z) ⟨a2.1, fun j c row hc hrow => ?_⟩⟩
      obtain ⟨h0, o, d, e⟩ := a2.2 j c row hc hrow
      exact thaw_new h0 e
end
end Ft

namespace Ft
open PySem PySem.Spec PyProof.Rows L2
theorem filter_succ (p : Nat → Bool) (i : Nat) : (List.range (i + 1)).filter p = (List.range i).filter p ++ (if p i = true then [i] else []) := by
  rw [List.range_succ, List.filter_append]
  congr 1
  by_cases h : p i = true
  · rw [if_pos h, List.filter_cons_of_pos h]
    rfl
  · rw [if_neg h, List.filter_cons_of_neg h]
    rfl
section
variable {P : Program} {w : World} {K : PySem.W.Frag} {mg : Str → Option Value} {base : Heap}
def sp_transfer : Sp := fun vs H Q _ => ∃ (a c : Addr) (A B : Row), vs = [.ref a, .ref c] ∧ RowT H a A ∧ RowT H c B ∧ A.length = B.length ∧ A.length ≤ 1000 ∧ ∀ H', Same H H' → Q (iv (transfer A B)) H'
theorem ok_transfer (D : DefAt K mg "_law_transfer" s_l_transfer ["_law_first_here", "_law_second"]) (T : Bt mg) : Callee P w K mg base "_law_transfer" 1 ["_law_first_here", "_law_second"] sp_transfer := by
  refine D.callee fun f fd F => F.ok sc_l_transfer (fun vs H Q E h => ?_) (fun cdv A outer s H vs Q E hr h => ?_)
  · obtain ⟨_, _, _, _, rfl, _⟩ := h
    rfl
  · obtain ⟨a, c, A0, B0, rfl, ha, hc, hl, hn, q⟩ := h
    refine ⟨_, (pss_one (ps_ret (pe_callB (r := rSum K) (cr_sum rfl) (by rfl) T.sum bt_sum (pa_cons (pe_lc (own := [("_law_a", 2), ("_law_b", 3)]) (g := gTup K 2 (gCons (gName 2) (gCons (gName 3) gNil))) (tt := tYes) rfl sc_l_transfer.nd (RZ.pi_zipA (by rfl) T.zip (pa_cons (pv 0) (pa_cons (pv 1) pa_nil))) (blkOk_by (own := [("_law_a", 2), ("_law_b", 3)]) (N := ["_law_first_here", "_law_second", "_law_a", "_law_b"]) (sc := defScope s_l_transfer) (by decide +kernel)) (fun _ _ _ _ _ => (pg_tup rfl (pgs_cons (pg_name (i := 2) sc_l_transfer.nd rfl (Or.inl rfl)) (pgs_cons (pg_name (i := 3) sc_l_transfer.nd rfl (Or.inl rfl)) pgs_nil)))) (fun _ _ _ _ _ => pts_nil) (fun _ _ _ _ _ => (pe_callB (call_max2 rfl) (by rfl) T.max bt_max (pa_cons pe_int (pa_cons (pe_op op_sub (pv 2) (pv 3)) pa_nil))))) pa_nil)))), ?_⟩
    refine ⟨_, rfl, _, rfl, a, c, A0.map iv, B0.map iv, rfl, .inr ⟨SqT.of ha, SqT.of hc, fun D hD => lc_zipT (by rw [List.length_map, List.length_map, hl]) (fun i H1 => Same H H1 ∧ i ≤ A0.length ∧ H1 D = some (.lst (((A0.zip B0).take i).map fun p => iv (p.1 - p.2))))
      ⟨same_new hD, Nat.zero_le _, upd_same⟩ (fun i H1 p => ⟨SqT.of (p.1 _ _ ha), SqT.of (p.1 _ _ hc)⟩) (fun i x y p H1 hx hy h1 hp => ?_) fun H1 h1 => ?_⟩⟩
    · obtain ⟨s1, hi, e1⟩ := h1
      obtain ⟨m, rfl, hm⟩ := iv_item hx
      obtain ⟨n, rfl, hn2⟩ := iv_item hy
      have hiA : i < A0.length := (List.getElem?_eq_some_iff.mp hm).1
      have nDp : D ≠ p := ne_of_none e1 hp
      refine ⟨p, _, rfl, SqT.of upd_same, rfl, _, _, rfl, _, _, rfl, rfl, rfl, tYes_of ?_⟩
      refine iteT ?_
      refine ⟨_, rfl, _, rfl, _, _, rfl, rfl, 0, _, rfl, ?_⟩
      have ev : (if (m : Int) - (n : Int) > 0 then (m : Int) - (n : Int) else 0) = ((m - n : Nat) : Int) := by
        split <;> omega
      rw [ev]
      have lz : ((A0.zip B0).take i).length = i := by
        rw [List.length_take, List.length_zip]
        omega
      refine ⟨_, by rw [upd_ne nDp]; exact e1, by rw [List.length_map, lz]; exact Nat.lt_of_lt_of_le hiA (Nat.le_trans hn (by decide)), same_upd (same_upd s1 (s1.free hp)) hD, hiA, ?_⟩
      have ez : (A0.zip B0)[i]? = some (m, n) := by
        rw [List.getElem?_zip_eq_some]
        exact ⟨hm, hn2⟩
      rw [upd_same, List.take_add_one, ez, List.map_append]
      rfl
    · obtain ⟨s1, _, e1⟩ := h1
      have lz : (A0.map iv).length = (A0.zip B0).length := by rw [List.length_map, List.length_zip]; omega
      rw [lz, List.take_length] at e1
      have em : ((A0.zip B0).map fun p => iv (p.1 - p.2)) = ((((A0.zip B0).map fun p => p.1 - p.2)).map fun n : Nat => (n : Int)).map V.int := by
        rw [List.map_map, List.map_map]
        rfl
      refine ⟨D, _, rfl, SqL.of (by rw [e1, em]), ?_⟩
      rw [sum_cast]
      exact q H1 s1
def sp_churn : Sp := fun vs H Q _ => ∃ (a c : Addr) (x y : Row), vs = [.ref a, .ref c] ∧ RowT H a x ∧ RowT H c y ∧ x.length = y.length ∧ x.length ≤ 1000 ∧ ∀ H', Same H H' → Q (iv (churn x y)) H'
theorem ok_churn (D : DefAt K mg "_law_churn" s_l_churn ["_law_first_here", "_law_second"]) (T : Bt mg) : Callee P w K mg base "_law_churn" 1 ["_law_first_here", "_law_second"] sp_churn := by
  refine D.callee fun f fd F => F.ok sc_l_churn (fun vs H Q E h => ?_) (fun cdv A outer s H vs Q E hr h => ?_)
  · obtain ⟨_, _, _, _, rfl, _⟩ := h
    rfl
  · obtain ⟨a, c, x, y, rfl, ha, hc, hl, hn, q⟩ := h
    refine ⟨_, (pss_one (ps_ret (pe_callB (r := rLenS K) call_lenS (by rfl) T.len PySem.boot_len (pa_cons (pe_lc (own := [("_law_at", 2)]) (g := gName 2) rfl sc_l_churn.nd (pi_range1 (by rfl) T.range (pa_cons (pe_callB (r := rLenS K) call_lenS (by rfl) T.len PySem.boot_len (pa_cons (pv 0) pa_nil)) pa_nil)) (blkOk_by (own := [("_law_at", 2)]) (N := ["_law_first_here", "_law_second", "_law_at"]) (sc := defScope s_l_churn) (by decide +kernel)) (fun _ _ _ _ _ => (pg_name (i := 2) sc_l_churn.nd rfl (Or.inl rfl))) (fun _ _ _ _ _ => (pts_one (pt_cmpR op_ne (pe_ix (r := rIxT K) ix_tup (pv 0) (pv 2) (fun _ _ => rfl)) (pe_ix (r := rIxT K) ix_tup (pv 1) (pv 2) (fun _ _ => rfl)) (nomark _)))) (fun _ _ _ _ _ => (pv 2))) pa_nil)))), ?_⟩
    refine ⟨_, rfl, a, _, rfl, .inr (SqT.of ha), ?_⟩
    rw [List.length_map]
    refine ⟨(x.length : Int), rfl, by omega, by omega, fun D hD => lc_range (lo := 0) (n := x.length) (fun i H1 => Same H H1 ∧ H1 D = some (.lst (((List.range i).filter fun c => decide (x.getD c 0 ≠ y.getD c 0)).map iv)))
      ⟨same_new hD, upd_same⟩ (fun i H1 hi h1 => ?_) fun H1 h1 => ?_⟩
    · obtain ⟨s1, e1⟩ := h1
      have e0 : V.int (0 + (i : Int)) = iv i := by rw [Int.zero_add]
      rw [e0]
      have hy : i < y.length := by omega
      have es : (List.range (i + 1)).filter (fun c => decide (x.getD c 0 ≠ y.getD c 0)) = (List.range i).filter (fun c => decide (x.getD c 0 ≠ y.getD c 0)) ++ (if x.getD i 0 ≠ y.getD i 0 then [i] else []) := by
        rw [filter_succ]
        congr 1
        by_cases z : x.getD i 0 ≠ y.getD i 0
        · rw [if_pos z, if_pos (decide_eq_true z)]
        · rw [if_neg z, if_neg (fun w => z (of_decide_eq_true w))]
      refine ⟨rfl, _, rfl, _, rfl, a, _, _, _, rfl, rfl, SqT.of (s1 _ _ ha), at_iv hi, _, rfl, _, rfl, c, _, _, _, rfl, rfl, SqT.of (s1 _ _ hc), at_iv hy, rfl, _, rfl, ?_⟩
      by_cases z : x.getD i 0 = y.getD i 0
      · refine iteNS (by rw [z]) ⟨s1, ?_⟩
        rw [es, if_neg (fun n => n z), List.append_nil]
        exact e1
      · have nz : decide (iv (x.getD i 0) = iv (y.getD i 0)) = false := decide_eq_false fun e => z (by have := V.int.inj e; omega)
        rw [nz]
        refine iteT ?_
        refine ⟨_, rfl, _, e1, ?_, same_upd s1 hD, ?_⟩
        · rw [List.length_map]
          refine Nat.lt_of_le_of_lt (List.length_filter_le _ _) ?_
          rw [List.length_range]
          exact Nat.lt_of_lt_of_le hi (Nat.le_trans hn (by decide))
        · rw [upd_same, es, if_pos z, List.map_append]
          rfl
    · obtain ⟨s1, e1⟩ := h1
      refine ⟨D, _, rfl, .inl (SqL.of e1), ?_⟩
      rw [List.length_map]
      exact q H1 s1
def sp_kept : Sp := fun vs H Q _ => ∃ (a pa t : Addr) (al : List Row) (ps : List (Nat × Nat)) (tab : Tab) (k b : Nat), vs = [.ref a, .ref pa, .ref t] ∧ TabT H a al ∧ PrsT H pa ps ∧ TabT H t tab ∧ tab.length = al.length ∧ (∀ p ∈ ps, p.1 < p.2 ∧ p.2 < al.length) ∧
  (∀ x ∈ al, x.length = k) ∧ (∀ x ∈ tab, x.length = b) ∧ k ≤ 1000 ∧ b ≤ 1000 ∧ ps.length ≤ 1000 ∧ ∀ H' p, Same H H' → RowT H' p (keptL al ps tab) → Q (.ref p) H'
theorem ok_kept (D : DefAt K mg "_law_kept" s_l_kept ["_law_allocations", "_law_pairs_here", "_law_table"]) (T : Bt mg) (C_l_churn : Callee P w K mg base "_law_churn" 1 ["_law_first_here", "_law_second"] sp_churn)
    (C_l_transfer : Callee P w K mg base "_law_transfer" 1 ["_law_first_here", "_law_second"] sp_transfer) : Callee P w K mg base "_law_kept" 2 ["_law_allocations", "_law_pairs_here", "_law_table"] sp_kept := by
  refine D.callee fun f fd F => F.ok sc_l_kept (fun vs H Q E h => ?_) (fun cdv A outer s H vs Q E hr h => ?_)
  · obtain ⟨_, _, _, _, _, _, _, _, rfl, _⟩ := h
    rfl
  · obtain ⟨a, pa, t, al, ps, tab, k, b, rfl, ⟨as, ha, hal⟩, ⟨qs, hp, hps⟩, ⟨ts, ht, htb⟩, hl, hpr, hk, hb, k3, b3, p3, q⟩ := h
    refine ⟨_, (pss_cons (ps_set (i := 3) sc_l_kept.nd rfl (.inl rfl) (pe_lst pa_nil))
        (pss_cons (ps_for PassesOwn.never rfl (pi_range1 (by rfl) T.range (pa_cons (pe_callB (r := rLenS K) call_lenS (by rfl) T.len PySem.boot_len (pa_cons (pv 1) pa_nil)) pa_nil)) (pg_name (i := 4) sc_l_kept.nd rfl (.inl rfl)) (pss_cons (ps_asg (pe_ix (r := rIxT K) ix_tup (pv 1) (pv 4) (fun _ _ => rfl)) (pg_tup rfl (pgs_cons (pg_name (i := 5) sc_l_kept.nd rfl (.inl rfl)) (pgs_cons (pg_name (i := 6) sc_l_kept.nd rfl (.inl rfl)) pgs_nil))))
        (pss_one (ps_if (pt_cmpR op_eq (pe_cd C_l_churn (hr.mono (by omega)) (by rfl) (pa_cons (pe_ix (r := rIxT K) ix_tup (pv 2) (pv 5) (fun _ _ => rfl)) (pa_cons (pe_ix (r := rIxT K) ix_tup (pv 2) (pv 6) (fun _ _ => rfl)) pa_nil))) (pe_cd C_l_transfer (hr.mono (by omega)) (by rfl) (pa_cons (pe_ix (r := rIxT K) ix_tup (pv 0) (pv 5) (fun _ _ => rfl)) (pa_cons (pe_ix (r := rIxT K) ix_tup (pv 0) (pv 6) (fun _ _ => rfl)) pa_nil))) (nomark _)) (pss_one (ps_expr (pe_bm PySem.F.plainAttrs_list PySem.F.slot_list_append PySem.F.type_list_append mt_append (pv 3) (pa_cons (pv 4) pa_nil)))) pss_nil))))
        (pss_one (ps_ret (pe_callTy (r := rTupOf K) call_tupOf (by rfl) T.tuple bt_tuple (pa_cons (pv 3) pa_nil)))))), ?_⟩
    refine ⟨Nat.zero_le _, fun D hD => ?_⟩
    have s0 := same_new (o := .lst []) hD
    refine ⟨_, rfl, pa, _, rfl, .inr (SqT.of (s0 _ _ hp)), ?_⟩
    rw [List.length_map, hps.1]
    refine ⟨(ps.length : Int), rfl, by omega, by omega, for_range (lo := 0) (n := ps.length) (fun i σ H1 => (∃ x4 x5 x6, σ = [some (.ref a), some (.ref pa), some (.ref t), some (.ref D), x4, x5, x6]) ∧ Same H H1 ∧ LstI H1 D ((List.range i).filter fun i => keptB al tab (ps.getD i (0, 0))))
      ⟨⟨none, none, none, rfl⟩, s0, upd_same⟩ (fun i σ H1 hi ⟨⟨x4, x5, x6, eσ⟩, s1, e1⟩ => ?_) (fun σ H1 ⟨⟨x4, x5, x6, eσ⟩, s1, e1⟩ => ?_)⟩
    · subst eσ
      have e0 : V.int (0 + (i : Int)) = iv i := by rw [Int.zero_add]
      rw [e0]
      obtain ⟨c, hc, rc⟩ := hps.get hi (0, 0)
      generalize hz : ps.getD i (0, 0) = z at rc
      have mz : z ∈ ps := by rw [← hz]; exact getD_mem hi
      obtain ⟨h12, h2n⟩ := hpr z mz
      have h1n : z.1 < al.length := by omega
      obtain ⟨a1, ha1, ra1⟩ := hal.get h1n []
      obtain ⟨a2, ha2, ra2⟩ := hal.get h2n []
      obtain ⟨t1, ht1, rt1⟩ := htb.get (show z.1 < tab.length by omega) []
      obtain ⟨t2, ht2, rt2⟩ := htb.get (show z.2 < tab.length by omega) []
      have lt1 := hb _ (getD_mem (d := []) (show z.1 < tab.length by omega))
      have lt2 := hb _ (getD_mem (d := []) (show z.2 < tab.length by omega))
      have la1 := hk _ (getD_mem (d := []) h1n)
      have la2 := hk _ (getD_mem (d := []) h2n)
      have es : (List.range (i + 1)).filter (fun i => keptB al tab (ps.getD i (0, 0))) = (List.range i).filter (fun i => keptB al tab (ps.getD i (0, 0))) ++ (if keptB al tab z = true then [i] else []) := by
        rw [filter_succ, hz]
      have rc1 : RowT H1 c [z.1, z.2] := s1 _ _ rc
      refine ⟨_, rfl, _, rfl, pa, _, _, _, rfl, rfl, SqT.of (s1 _ _ hp), at_ref hc, c, [iv z.1, iv z.2], rfl, SqT.of rc1, rfl, iv z.1, [iv z.2], rfl, iv z.2, [], rfl, rfl, ?_⟩
      refine ⟨_, rfl, _, rfl, t, _, _, _, rfl, rfl, SqT.of (s1 _ _ ht), at_ref ht1, _, rfl, _, rfl, t, _, _, _, rfl, rfl, SqT.of (s1 _ _ ht), at_ref ht2, t1, t2, tab.getD z.1 [], tab.getD z.2 [], rfl, RowT.ts (same_ts s1) rt1, RowT.ts (same_ts s1) rt2, by rw [lt1, lt2], by rw [lt1]; exact b3, fun H2 s2 => ?_⟩
      have s12 := s1.trans s2
      refine ⟨_, rfl, _, rfl, a, _, _, _, rfl, rfl, SqT.of (s12 _ _ ha), at_ref ha1, _, rfl, _, rfl, a, _, _, _, rfl, rfl, SqT.of (s12 _ _ ha), at_ref ha2, a1, a2, al.getD z.1 [], al.getD z.2 [], rfl, RowT.ts (same_ts s12) ra1, RowT.ts (same_ts s12) ra2, by rw [la1, la2], by rw [la1]; exact k3, fun H3 s3 => ⟨rfl, _, rfl, ite2 (fun h => ?_) (fun h => ?_)⟩⟩
      · have y : keptB al tab z = true := by
          unfold keptB
          have := V.int.inj (of_decide_eq_true h)
          exact decide_eq_true (by omega)
        have e3 : LstI H3 D _ := s3 _ _ (s2 _ _ e1)
        refine ⟨_, rfl, .inl ⟨rfl, _, SqL.of e3⟩, _, rfl, D, _, _, rfl, rfl, e3, ?_, ⟨_, _, _, rfl⟩, same_upd (s12.trans s3) hD, ?_⟩
        · rw [List.length_map]
          refine Nat.lt_of_le_of_lt (List.length_filter_le _ _) ?_
          rw [List.length_range]
          exact Nat.lt_of_lt_of_le (Nat.lt_of_lt_of_le hi p3) (by decide)
        · unfold LstI
          rw [upd_same, es, if_pos y, List.map_append]
          rfl
      · have y : ¬ keptB al tab z = true := by
          intro y
          unfold keptB at y
          have := of_decide_eq_true y
          exact h (by rw [this]; exact decide_eq_true rfl)
        refine ⟨⟨_, _, _, rfl⟩, s12.trans s3, ?_⟩
        rw [es, if_neg y, List.append_nil]
        exact s3 _ _ (s2 _ _ e1)
    · subst eσ
      refine ⟨_, rfl, D, _, rfl, .inl ⟨SqL.of e1, fun l hl => ?_⟩⟩
      exact q _ l (same_upd s1 (s1.free hl)) upd_same
end
end Ft

namespace Ft
open PySem PySem.Spec PyProof.Rows L2
/-! ### all pairs, drawn pairs, all tables -/
abbrev s_l_all_pairs : Stmt := topS 35
theorem sc_l_all_pairs : FnScope ["_law_many", "_law_found", "_law_i", "_law_j"] ["_law_many"] (defScope s_l_all_pairs) := ⟨rfl, rfl, rfl, by decide +kernel, rfl, by decide +kernel, by decide +kernel⟩
abbrev s_l_pairs : Stmt := topS 36
theorem sc_l_pairs : FnScope ["_law_stream_here", "_law_many", "_law_most", "_law_left", "_law_found", "_law_turn"] ["_law_stream_here", "_law_many", "_law_most"] (defScope s_l_pairs) := ⟨rfl, rfl, rfl, by decide +kernel, rfl, by decide +kernel, by decide +kernel⟩
abbrev s_l_tables : Stmt := topS 38
theorem sc_l_tables : FnScope ["_law_allocations", "_law_rows", "_law_allocation_here", "_law_longer", "_law_row", "_law_one"] ["_law_allocations"] (defScope s_l_tables) := ⟨rfl, rfl, rfl, by decide +kernel, rfl, by decide +kernel, by decide +kernel⟩
def allPairs (m : Nat) : List (Nat × Nat) := (List.range m).flatMap fun i => (List.range (m - (i + 1))).map fun j => (i, i + 1 + j)
theorem allPairs_ok : ∀ m, m ≤ 5 → (allPairs m).Nodup ∧ (∀ p ∈ allPairs m, p.1 < p.2 ∧ p.2 < m) ∧ (allPairs m).length ≤ 10 := fun m hm => by
  have h : ∀ m : _root_.Fin 6, (allPairs m.val).Nodup ∧ (∀ p ∈ allPairs m.val, p.1 < p.2 ∧ p.2 < m.val) ∧ (allPairs m.val).length ≤ 10 := by decide +kernel
  exact h ⟨m, by omega⟩
theorem All2.eraseIdx {α : Type} {R : Addr → α → Prop} {as : List Addr} {xs : List α} (h : All2 R as xs) (g : Nat) : All2 R (as.eraseIdx g) (xs.eraseIdx g) := by
  refine ⟨?_, fun i a x h1 h2 => ?_⟩
  · rw [List.length_eraseIdx, List.length_eraseIdx, h.1]
  · rw [List.getElem?_eraseIdx] at h1 h2
    split at h1
    · rename_i hi
      rw [if_pos hi] at h2
      exact h.2 i a x h1 h2
    · rename_i hi
      rw [if_neg hi] at h2
      exact h.2 _ a x h1 h2
theorem map_erase {α β : Type} (f : α → β) : ∀ (l : List α) (g : Nat), (l.map f).eraseIdx g = (l.eraseIdx g).map f
  | [], _ => rfl
  | _ :: _, 0 => rfl
  | x :: l, g + 1 => by
    show f x :: (l.map f).eraseIdx g = f x :: (l.eraseIdx g).map f
    rw [map_erase f l g]
theorem perm_erase {α : Type} : ∀ {l : List α} {g : Nat} (h : g < l.length), (l[g] :: l.eraseIdx g).Perm l
  | x :: l, 0, _ => List.Perm.refl _
  | x :: l, g + 1, h => by
    have hg : g < l.length := by simpa using h
    have ih := perm_erase (l := l) (g := g) hg
    exact (List.Perm.swap x l[g] (l.eraseIdx g)).trans (ih.cons x)
section
variable {P : Program} {w : World} {K : PySem.W.Frag} {mg : Str → Option Value} {base : Heap}
def sp_all_pairs : Sp := fun vs H Q _ => ∃ m : Nat, vs = [iv m] ∧ m ≤ 5 ∧ ∀ H' D as, Same H H' → H D = none → H' D = some (.lst (as.map V.ref)) → All2 (PairT H') as (allPairs m) → Q (.ref D) H'
theorem ok_all_pairs (D : DefAt K mg "_law_all_pairs" s_l_all_pairs ["_law_many"]) (T : Bt mg) : Callee P w K mg base "_law_all_pairs" 1 ["_law_many"] sp_all_pairs := by
  refine D.callee fun f fd F => F.ok sc_l_all_pairs (fun vs H Q E h => ?_) (fun cdv A outer s H vs Q E hr h => ?_)
  · obtain ⟨_, rfl, _⟩ := h
    rfl
  · obtain ⟨m, rfl, hm, q⟩ := h
    refine ⟨_, (pss_cons (ps_set (i := 1) sc_l_all_pairs.nd rfl (.inl rfl) (pe_lst pa_nil))
        (pss_cons (ps_for PassesOwn.never rfl (pi_range1 (by rfl) T.range (pa_cons (pv 0) pa_nil)) (pg_name (i := 2) sc_l_all_pairs.nd rfl (.inl rfl)) (pss_one (ps_for PassesOwn.never rfl (pi_range2 (by rfl) T.range (pa_cons (pe_op op_add (pv 2) pe_int) (pa_cons (pv 0) pa_nil))) (pg_name (i := 3) sc_l_all_pairs.nd rfl (.inl rfl)) (pss_one (ps_expr (pe_bm PySem.F.plainAttrs_list PySem.F.slot_list_append PySem.F.type_list_append mt_append (pv 1) (pa_cons (pe_tup (pa_cons (pv 2) (pa_cons (pv 3) pa_nil))) pa_nil)))))))
        (pss_one (ps_ret (pv 1))))), ?_⟩
    refine ⟨Nat.zero_le _, fun D hD => ?_⟩
    refine ⟨_, rfl, (m : Int), rfl, by omega, by omega, for_range (lo := 0) (n := m) (fun i σ H1 => (∃ x2 x3, σ = [some (iv m), some (.ref D), x2, x3]) ∧ Same H H1 ∧ ∃ as, H1 D = some (.lst (as.map V.ref)) ∧ All2 (PairT H1) as ((List.range i).flatMap fun i => (List.range (m - (i + 1))).map fun j => (i, i + 1 + j)))
      ⟨⟨none, none, rfl⟩, same_new hD, [], upd_same, All2.nil⟩ (fun i σ H1 hi ⟨⟨x2, x3, eσ⟩, s1, as, e1, a1⟩ => ?_) (fun σ H1 ⟨⟨x2, x3, eσ⟩, s1, as, e1, a1⟩ => ?_)⟩
    · subst eσ
      have e0 : V.int (0 + (i : Int)) = iv i := by rw [Int.zero_add]
      rw [e0]
      have eN : ((m : Int) - ((i : Int) + 1)).toNat = m - (i + 1) := by omega
      refine ⟨_, rfl, _, _, rfl, rfl, _, rfl, (i : Int) + 1, (m : Int), rfl, ⟨by omega, by omega, by omega, by omega⟩, for_range (lo := (i : Int) + 1) (n := ((m : Int) - ((i : Int) + 1)).toNat) (fun v σ H2 => (∃ x3, σ = [some (iv m), some (.ref D), some (iv i), x3]) ∧ Same H H2 ∧
        ∃ ds, H2 D = some (.lst (ds.map V.ref)) ∧ All2 (PairT H2) ds ((List.range i).flatMap (fun i => (List.range (m - (i + 1))).map fun j => (i, i + 1 + j)) ++ (List.range v).map fun j => (i, i + 1 + j)))
        ⟨⟨x3, rfl⟩, s1, as, e1, by simpa using a1⟩ (fun v σ H2 hv ⟨⟨y3, eσ⟩, s2, ds, e2, a2⟩ => ?_) (fun σ H2 ⟨⟨y3, eσ⟩, s2, ds, e2, a2⟩ => ?_)⟩
      · subst eσ
        rw [eN] at hv
        have ev : V.int ((i : Int) + 1 + (v : Int)) = iv (i + 1 + v) := congrArg V.int (by omega)
        rw [ev]
        refine ⟨_, rfl, .inl ⟨rfl, _, SqL.of e2⟩, _, rfl, _, rfl, (by show 2 ≤ sizeLine; decide), fun u hu => ?_⟩
        have su : Same H2 (upd H2 u (.tup [iv i, iv (i + 1 + v)])) := same_new hu
        have e3 := su _ _ e2
        have hlen : ds.length ≤ 100 := by
          rw [a2.1, List.length_append, List.length_map, List.length_range]
          have := flat_len (l := List.range i) (f := fun i => (List.range (m - (i + 1))).map fun j => (i, i + 1 + j)) (c := 5) fun x _ => by
            rw [List.length_map, List.length_range]
            omega
          rw [List.length_range] at this
          omega
        refine ⟨D, _, _, rfl, rfl, e3, by rw [List.length_map]; exact Nat.lt_of_le_of_lt hlen (by decide), ⟨_, rfl⟩, same_upd (s2.trans su) hD, ds ++ [u], by rw [upd_same, List.map_append]; rfl, ?_⟩
        rw [List.range_succ, List.map_append, ← List.append_assoc]
        exact (a2.mono fun _ _ z => PairT.ts ((same_ts su).trans (TS.lst e3)) z).snoc (TS.lst e3 _ _ upd_same)
      · subst eσ
        refine ⟨⟨_, _, rfl⟩, s2, ds, e2, ?_⟩
        rw [List.range_succ, List.flatMap_append]
        rw [eN] at a2
        simpa using a2
    · subst eσ
      exact ⟨_, rfl, q H1 D as s1 hD e1 a1⟩
def sp_pairs : Sp := fun vs H Q _ => ∃ (S L : Addr) (m : Nat), vs = [.ref S, iv m, iv 6] ∧ Strm H S L ∧ m ≤ 5 ∧ ∀ H' a ps rest, Sx S H H' → Strm H' S L → PrsT H' a ps → (ps ++ rest).Perm (allPairs m) → Q (.ref a) H'
theorem ok_pairs (D : DefAt K mg "_law_pairs" s_l_pairs ["_law_stream_here", "_law_many", "_law_most"]) (T : Bt mg) (C_l_next : Callee P w K mg base "_law_next" 1 ["_law_stream_here", "_law_many"] sp_next)
    (C_l_all_pairs : Callee P w K mg base "_law_all_pairs" 1 ["_law_many"] sp_all_pairs) : Callee P w K mg base "_law_pairs" 2 ["_law_stream_here", "_law_many", "_law_most"] sp_pairs := by
  refine D.callee fun f fd F => F.ok sc_l_pairs (fun vs H Q E h => ?_) (fun cdv A outer s H vs Q E hr h => ?_)
  · obtain ⟨_, _, _, rfl, _⟩ := h
    rfl
  · obtain ⟨S, L, m, rfl, st, hm, q⟩ := h
    refine ⟨_, (pss_cons (ps_set (i := 3) sc_l_pairs.nd rfl (.inl rfl) (pe_cd C_l_all_pairs (hr.mono (by omega)) (by rfl) (pa_cons (pv 1) pa_nil)))
        (pss_cons (ps_set (i := 4) sc_l_pairs.nd rfl (.inl rfl) (pe_lst pa_nil))
        (pss_cons (ps_for PassesOwn.never rfl (pi_range1 (by rfl) T.range (pa_cons (pe_callB (call_min2 rfl) (by rfl) T.min bt_min (pa_cons (pv 2) (pa_cons (pe_callB (r := rLenS K) call_lenS (by rfl) T.len PySem.boot_len (pa_cons (pv 3) pa_nil)) pa_nil))) pa_nil)) (pg_name (i := 5) sc_l_pairs.nd rfl (.inl rfl)) (pss_one (ps_if (pt_cmpR op_gt (pe_cd C_l_next (hr.mono (by omega)) (by rfl) (pa_cons (pv 0) (pa_cons pe_int pa_nil))) pe_int (nomark _)) (pss_one (ps_expr (pe_bm PySem.F.plainAttrs_list PySem.F.slot_list_append PySem.F.type_list_append mt_append (pv 4) (pa_cons (pe_bm PySem.F.plainAttrs_list PySem.F.slot_list_pop PySem.F.type_list_pop mt_popAt (pv 3) (pa_cons (pe_cd C_l_next (hr.mono (by omega)) (by rfl) (pa_cons (pv 0) (pa_cons (pe_callB (r := rLenS K) call_lenS (by rfl) T.len PySem.boot_len (pa_cons (pv 3) pa_nil)) pa_nil))) pa_nil)) pa_nil)))) pss_nil)))
        (pss_one (ps_ret (pe_callTy (r := rTupOf K) call_tupOf (by rfl) T.tuple bt_tuple (pa_cons (pv 4) pa_nil))))))), ?_⟩
    obtain ⟨_, _, hap⟩ := allPairs_ok m hm
    refine ⟨_, rfl, m, rfl, hm, fun H1 B as s1 fB eB aB => ?_⟩
    have nB := st.ne fB
    have st1 := st.same s1
    refine ⟨Nat.zero_le _, fun D hD => ?_⟩
    have nD := st1.ne hD
    have fD : H D = none := s1.free hD
    have nBD : B ≠ D := ne_of_none eB hD
    have eB2 : (upd H1 D (.lst [])) B = some (.lst (as.map V.ref)) := by rw [upd_ne nBD]; exact eB
    refine ⟨_, rfl, _, rfl, B, _, rfl, .inl (SqL.of eB2), ?_⟩
    rw [List.length_map, aB.1]
    refine ⟨_, _, rfl, ?_⟩
    generalize hz : (if ((allPairs m).length : Int) < ((6 : Nat) : Int) then ((allPairs m).length : Int) else ((6 : Nat) : Int)) = z
    have z0 : 0 ≤ z ∧ z ≤ (allPairs m).length ∧ z ≤ 6 := by
      rw [← hz]
      split <;> omega
    refine ⟨z, rfl, by omega, by omega, for_range (lo := 0) (n := z.toNat) (fun i σ H2 => (∃ x5, σ = [some (.ref S), some (iv m), some (iv 6), some (.ref B), some (.ref D), x5]) ∧ Sx S H H2 ∧ Strm H2 S L ∧
      ∃ ls fs lp fp, H2 B = some (.lst (ls.map V.ref)) ∧ All2 (PairT H2) ls lp ∧ H2 D = some (.lst (fs.map V.ref)) ∧ All2 (PairT H2) fs fp ∧ (fp ++ lp).Perm (allPairs m) ∧ (allPairs m).length ≤ lp.length + i)
      ⟨⟨none, rfl⟩, (same_sx s1).upd fD, st1.upd nD, as, [], allPairs m, [], eB2, aB.mono fun _ _ z => PairT.ts (TS.new hD) z, upd_same, All2.nil, List.Perm.refl _, Nat.le_refl _⟩
      (fun i σ H2 hi ⟨⟨x5, eσ⟩, s2, st2, ls, fs, lp, fp, e2, a2, g2, b2, pm, hl⟩ => ?_) (fun σ H2 ⟨⟨x5, eσ⟩, s2, st2, ls, fs, lp, fp, e2, a2, g2, b2, pm, hl⟩ => ?_)⟩
    · subst eσ
      have hpm := pm.length_eq
      rw [List.length_append] at hpm
      refine ⟨_, rfl, S, L, 4, rfl, st2, by decide, by decide, fun H3 d s3 st3 hd => ⟨_, _, rfl, rfl, _, rfl, ite2 (fun _ => ?_) (fun _ => ?_)⟩⟩
      · have e3 := s3 _ _ nB.1 e2
        have g3 := s3 _ _ nD.1 g2
        refine ⟨_, rfl, .inl ⟨rfl, _, SqL.of g3⟩, _, rfl, .inl ⟨rfl, _, SqL.of e3⟩, _, rfl, _, rfl, B, _, rfl, .inl (SqL.of e3), ?_⟩
        rw [List.length_map, a2.1]
        refine ⟨S, L, lp.length, rfl, st3, by omega, by omega, fun H4 g s4 st4 hg => ?_⟩
        have e4 := s4 _ _ nB.1 e3
        have g4 := s4 _ _ nD.1 g3
        have ts : TS H2 H4 := (s3.tsm st2).trans (s4.tsm st3)
        have a4 := a2.mono fun _ _ z => PairT.ts ts z
        have b4 := b2.mono fun _ _ z => PairT.ts ts z
        have hgl : g < ls.length := by rw [a2.1]; exact hg
        have hu : ls[g]? = some ls[g] := List.getElem?_eq_getElem hgl
        have hp : PairT H4 ls[g] lp[g] := a4.2 g _ _ hu (List.getElem?_eq_getElem hg)
        have er : (ls.map V.ref).eraseIdx g = (ls.eraseIdx g).map V.ref := map_erase V.ref ls g
        refine ⟨B, _, (g : Int), g, .ref ls[g], rfl, rfl, e4, by omega, by omega, (ixN_seq (ixN_nat (by rw [List.length_map]; exact hgl))).1, by rw [List.getElem?_map, hu]; rfl, ?_⟩
        rw [er]
        have g5 : (upd H4 B (.lst ((ls.eraseIdx g).map V.ref))) D = some (.lst (fs.map V.ref)) := by rw [upd_ne nBD.symm]; exact g4
        have ts2 : TS H4 (upd (upd H4 B (.lst ((ls.eraseIdx g).map V.ref))) D (.lst (fs.map V.ref ++ [.ref ls[g]]))) := (TS.lst e4).trans (TS.lst g5)
        refine ⟨D, _, _, rfl, rfl, g5, by rw [List.length_map, b2.1]; exact Nat.lt_of_le_of_lt (show fp.length ≤ 100 by omega) (by decide), ⟨_, rfl⟩, (((s2.trans s3).trans s4).upd fB).upd fD, (st4.upd nB).upd nD,
          ls.eraseIdx g, fs ++ [ls[g]], lp.eraseIdx g, fp ++ [lp[g]], by rw [upd_ne nBD, upd_same], (a4.mono fun _ _ z => PairT.ts ts2 z).eraseIdx g, by rw [upd_same, List.map_append]; rfl, (b4.mono fun _ _ z => PairT.ts ts2 z).snoc (PairT.ts ts2 hp), ?_, ?_⟩
        · refine List.Perm.trans ?_ pm
          rw [List.append_assoc]
          exact List.Perm.append_left fp (perm_erase hg)
        · have := List.length_eraseIdx_of_lt hg
          omega
      · have ts : TS H2 H3 := s3.tsm st2
        exact ⟨⟨_, rfl⟩, s2.trans s3, st3, ls, fs, lp, fp, s3 _ _ nB.1 e2, a2.mono fun _ _ z => PairT.ts ts z, s3 _ _ nD.1 g2, b2.mono fun _ _ z => PairT.ts ts z, pm, by omega⟩
    · subst eσ
      refine ⟨_, rfl, D, _, rfl, .inl ⟨SqL.of g2, fun l hl2 => ?_⟩⟩
      exact q _ l fp lp (s2.upd (s2.free st2 hl2)) (st2.upd (st2.ne hl2)) ⟨fs, upd_same, b2.mono fun _ _ z => PairT.ts (TS.new hl2) z⟩ pm
theorem step_len {k b : Nat} {rows : List Tab} {a : Row} : (tabStep k b rows a).length ≤ rows.length * k ^ b := flat_len fun row _ => by
  rw [List.length_map]
  exact asg_len b
theorem fold_len {k b : Nat} : ∀ (n : Nat) (al : List Row), al.length = n → (al.foldl (tabStep k b) [[]]).length ≤ (k ^ b) ^ n
  | 0, al, h => by
    have : al = [] := List.length_eq_zero_iff.mp h
    subst this
    exact Nat.le_refl _
  | n + 1, al, h => by
    have hne : al ≠ [] := fun e => by
      subst e
      cases h
    have e := (List.dropLast_concat_getLast hne).symm
    have hl : al.dropLast.length = n := by rw [List.length_dropLast, h]; rfl
    generalize al.dropLast = r at e hl
    generalize al.getLast hne = z at e
    subst e
    rw [List.foldl_append, Nat.pow_succ]
    exact Nat.le_trans step_len (Nat.mul_le_mul_right _ (fold_len n r hl))
def sp_tables : Sp := fun vs H Q _ => ∃ (a : Addr) (al : List Row) (k b : Nat), vs = [.ref a] ∧ TabT H a al ∧ (∀ x ∈ al, x.length = k ∧ x.sum = b) ∧ k ≤ 5 ∧ b ≤ 8 ∧ b * al.length ≤ 8 ∧ al.length ≤ 5 ∧
  ∀ H' p as, Same H H' → H p = none → H' p = some (.lst (as.map V.ref)) → All2 (TabT H') as (tabsL k b al) → Q (.ref p) H'
theorem ok_tables (D : DefAt K mg "_law_tables" s_l_tables ["_law_allocations"]) (T : Bt mg) (C_l_assignments : Callee P w K mg base "_law_assignments" 1 ["_law_allocation_here"] sp_assignments) :
    Callee P w K mg base "_law_tables" 2 ["_law_allocations"] sp_tables := by
  refine D.callee fun f fd F => F.ok sc_l_tables (fun vs H Q E h => ?_) (fun cdv A outer s H vs Q E hr h => ?_)
  · obtain ⟨_, _, _, _, rfl, _⟩ := h
    rfl
  · obtain ⟨a, al, k, b, rfl, ⟨as, ha, hal⟩, hx, k5, b8, hb8, n5, q⟩ := h
    refine ⟨_, (pss_cons (ps_set (i := 1) sc_l_tables.nd rfl (.inl rfl) (pe_lst (pa_cons (pe_tup pa_nil) pa_nil)))
        (pss_cons (ps_for PassesOwn.never rfl (pi_tup (pv 0)) (pg_name (i := 2) sc_l_tables.nd rfl (.inl rfl)) (pss_cons (ps_set (i := 3) sc_l_tables.nd rfl (.inl rfl) (pe_lst pa_nil))
        (pss_cons (ps_for PassesOwn.never rfl (pi_list (pv 1)) (pg_name (i := 4) sc_l_tables.nd rfl (.inr rfl)) (pss_one (ps_set (i := 3) sc_l_tables.nd rfl (.inl rfl) (pe_op op_cat (pv 3) (pe_lc (own := [("_law_one", 5)]) (g := gName 5) (tt := tYes) rfl sc_l_tables.nd (pi_list (pe_cd C_l_assignments (hr.mono (by omega)) (by rfl) (pa_cons (pv 2) pa_nil))) (blkOk_by (own := [("_law_one", 5)]) (N := ["_law_allocations", "_law_rows", "_law_allocation_here", "_law_longer", "_law_row", "_law_one"]) (sc := defScope s_l_tables) (by decide +kernel)) (fun _ _ _ _ _ => (pg_name (i := 5) sc_l_tables.nd rfl (Or.inl rfl))) (fun _ _ _ _ _ => pts_nil) (fun _ _ _ _ _ => (pe_op (r := rCatA K) op_catA (pv 4) (pe_tup (pa_cons (pv 5) pa_nil)))))))))
        (pss_one (ps_set (i := 1) sc_l_tables.nd rfl (.inl rfl) (pv 3))))))
        (pss_one (ps_ret (pv 1))))), ?_⟩
    refine ⟨Nat.zero_le _, fun t ht => ⟨by show 1 ≤ sizeLine; decide, fun R0 hR0 => ?_⟩⟩
    have nt : t ≠ R0 := fun e => by
      rw [e, upd_same] at hR0
      cases hR0
    have fR0 : H R0 = none := by
      rw [upd_ne nt.symm] at hR0
      exact hR0
    generalize hH1 : upd (upd H t (.tup [])) R0 (.lst [.ref t]) = H1
    have s1 : Same H H1 := by
      rw [← hH1]
      exact same_upd (same_new ht) fR0
    have e1 : H1 R0 = some (.lst ([t].map V.ref)) := by
      rw [← hH1, upd_same]
      rfl
    have r1 : TabT H1 t [] := ⟨[], by rw [← hH1, upd_ne nt, upd_same]; rfl, All2.nil⟩
    refine ⟨_, rfl, a, rfl, ⟨_, SqT.of (s1 _ _ ha)⟩, for_tup (K := K) (a := a) (xs := as.map V.ref) (fun i σ H2 => ∃ (R : Addr) (rs : List Addr) (x2 x3 x4 x5 : Option V), σ = [some (.ref a), some (.ref R), x2, x3, x4, x5] ∧ Same H H2 ∧ H R = none ∧ H2 R = some (.lst (rs.map V.ref)) ∧
      All2 (TabT H2) rs ((al.take i).foldl (tabStep k b) [[]])) ⟨R0, [t], none, none, none, none, rfl, s1, fR0, e1, All2.nil.snoc r1⟩ (fun i σ H2 _ ⟨_, _, _, _, _, _, _, s2, _⟩ => SqT.of (s2 _ _ ha))
      (fun i x σ H2 hxi ⟨R, rs, x2, x3, x4, x5, eσ, s2, fR, e2, a2⟩ => ?_) (fun σ H2 ⟨R, rs, x2, x3, x4, x5, eσ, s2, fR, e2, a2⟩ => ?_)⟩
    · subst eσ
      obtain ⟨c, rfl, hc⟩ := ref_item hxi
      have hi : i < al.length := by rw [← hal.1]; exact (List.getElem?_eq_some_iff.mp hc).1
      have hrow : RowT H c al[i] := hal.2 i c _ hc (List.getElem?_eq_getElem hi)
      obtain ⟨lx, sx⟩ := hx _ (List.getElem_mem hi)
      have et : (al.take (i + 1)).foldl (tabStep k b) [[]] = tabStep k b ((al.take i).foldl (tabStep k b) [[]]) al[i] := by
        rw [List.take_add_one, List.getElem?_eq_getElem hi]
        show (al.take i ++ [al[i]]).foldl _ _ = _
        rw [List.foldl_append]
        rfl
      have hpow : (k ^ b) ^ (i + 1) ≤ 390625 := by
        rw [← Nat.pow_mul]
        refine pow_le8 k5 (Nat.le_trans (Nat.mul_le_mul_left b (show i + 1 ≤ al.length from hi)) hb8)
      generalize hA : (al.take i).foldl (tabStep k b) [[]] = A at a2 et
      have lA : A.length * k ^ b ≤ 390625 := by
        refine Nat.le_trans (Nat.mul_le_mul_right _ ?_) (by rw [← Nat.pow_succ]; exact hpow)
        rw [← hA]
        exact fold_len i _ (by rw [List.length_take]; omega)
      generalize hxr : al[i] = xr at hrow lx sx et
      refine ⟨Nat.zero_le _, fun D0 hD0 => ?_⟩
      have e2' : (upd H2 D0 (.lst [])) R = some (.lst (rs.map V.ref)) := same_new hD0 _ _ e2
      refine ⟨_, rfl, R, rfl, ⟨_, SqL.of e2'⟩, for_list (K := K) (a := R) (xs := rs.map V.ref) (fun j σ H3 => ∃ (D : Addr) (ds : List Addr) (x4 x5 : Option V), σ = [some (.ref a), some (.ref R), some (.ref c), some (.ref D), x4, x5] ∧ Same H2 H3 ∧ H D = none ∧ j ≤ A.length ∧ H3 D = some (.lst (ds.map V.ref)) ∧
        All2 (TabT H3) ds ((A.take j).flatMap fun row => (asg k xr b).map fun one => row ++ [one]))
        ⟨D0, [], x4, x5, rfl, same_new hD0, s2.free hD0, Nat.zero_le _, upd_same, All2.nil⟩ (fun j σ H3 _ ⟨_, _, _, _, _, s3, _⟩ => SqL.of (s3 _ _ e2)) (fun j x σ H3 hxj ⟨D, ds, y4, y5, eσ, s3, fD, hj, e3, a3⟩ => ?_) (fun σ H3 ⟨D, ds, y4, y5, eσ, s3, fD, hj, e3, a3⟩ => ?_)⟩
      · subst eσ
        obtain ⟨r, rfl, hr2⟩ := ref_item hxj
        have hjA : j < A.length := by rw [← a2.1]; exact (List.getElem?_eq_some_iff.mp hr2).1
        obtain ⟨ras, er, hra⟩ := a2.2 j r _ hr2 (List.getElem?_eq_getElem hjA)
        have etj : (A.take (j + 1)).flatMap (fun row => (asg k xr b).map fun one => row ++ [one]) = (A.take j).flatMap (fun row => (asg k xr b).map fun one => row ++ [one]) ++ (asg k xr b).map fun one => A[j] ++ [one] := by
          rw [List.take_add_one, List.getElem?_eq_getElem hjA, List.flatMap_append]
          simp
        have hlr : ras.length ≤ 5 := by
          rw [hra.1]
          have hm : A[j] ∈ A := List.getElem_mem hjA
          generalize A[j] = row at hm
          rw [← hA, show (al.take i).foldl (tabStep k b) [[]] = tabsL k b (al.take i) from rfl, tabsL_eq] at hm
          obtain ⟨u, eu, lu, _⟩ := mem_tabs hm
          rw [eu, List.nil_append, lu, List.length_take]
          omega
        generalize A[j] = row at hra etj
        -- the longer rows
        refine ⟨_, rfl, _, rfl, c, xr, k, b, rfl, RowT.ts (same_ts (s2.trans s3)) hrow, lx, sx, k5, b8, fun H4 p ps s4 fp ep ap => ⟨p, rfl, ⟨_, SqL.of ep⟩, fun E0 hE => lc_list (K := K) (a := p) (xs := ps.map V.ref) (fun v H5 => Same H4 H5 ∧ v ≤ (asg k xr b).length ∧
          ∃ es, H5 E0 = some (.lst (es.map V.ref)) ∧ All2 (TabT H5) es (((asg k xr b).take v).map fun one => row ++ [one])) ⟨same_new hE, Nat.zero_le _, [], upd_same, All2.nil⟩ (fun v H5 _ h5 => SqL.of (h5.1 _ _ ep)) (fun v x H5 hxv h5 => ?_) fun H5 h5 => ?_⟩⟩
        · obtain ⟨s5, hv, es, e5, a5⟩ := h5
          obtain ⟨o, rfl, ho⟩ := ref_item hxv
          have hvA : v < (asg k xr b).length := by rw [← ap.1]; exact (List.getElem?_eq_some_iff.mp ho).1
          have ho4 : RowT H4 o (asg k xr b)[v] := ap.2 v o _ ho (List.getElem?_eq_getElem hvA)
          have etv : ((asg k xr b).take (v + 1)).map (fun one => row ++ [one]) = ((asg k xr b).take v).map (fun one => row ++ [one]) ++ [row ++ [(asg k xr b)[v]]] := by
            rw [List.take_add_one, List.getElem?_eq_getElem hvA, List.map_append]
            rfl
          have size : (es.map V.ref).length < sizeLine := by
            rw [List.length_map, a5.1, List.length_map, List.length_take]
            have h1 := asg_len (k := k) (a := xr) b
            have h2 := pow_le8 k5 b8
            exact Nat.lt_of_le_of_lt (show _ ≤ 390625 by omega) (by decide)
          have s25 : Same H2 H5 := (s3.trans s4).trans s5
          have er5 := s25 _ _ er
          have push : ∀ (H6 : Hp) (u : Addr), Same H5 H6 → H6 u = some (.tup ((ras ++ [o]).map V.ref)) → H6 E0 = some (.lst (es.map V.ref)) ∧ Same H4 (upd H6 E0 (.lst (es.map V.ref ++ [.ref u]))) ∧
              ∃ es', (upd H6 E0 (.lst (es.map V.ref ++ [.ref u]))) E0 = some (.lst (es'.map V.ref)) ∧ All2 (TabT (upd H6 E0 (.lst (es.map V.ref ++ [.ref u])))) es' (((asg k xr b).take (v + 1)).map fun one => row ++ [one]) := fun H6 u s6 hu => by
            have e6 := s6 _ _ e5
            have ts6 : TS H6 (upd H6 E0 (.lst (es.map V.ref ++ [.ref u]))) := TS.lst e6
            refine ⟨e6, same_upd (s5.trans s6) hE, es ++ [u], by rw [upd_same, List.map_append]; rfl, ?_⟩
            rw [etv]
            refine (a5.mono fun _ _ z => TabT.ts ((same_ts s6).trans ts6) z).snoc ⟨ras ++ [o], ts6 _ _ hu, ?_⟩
            exact (hra.mono fun _ _ z => RowT.ts ((same_ts (s25.trans s6)).trans ts6) z).snoc (RowT.ts ((same_ts (s5.trans s6)).trans ts6) ho4)
          refine ⟨rfl, tYes_of ?_⟩
          refine iteT ?_
          refine ⟨_, rfl, _, rfl, (by show 1 ≤ sizeLine; decide), fun u hu => ?_⟩
          have su : Same H5 (upd H5 u (.tup [.ref o])) := same_new hu
          refine ⟨r, u, ras.map V.ref, [.ref o], rfl, rfl, SqT.of (su _ _ er5), SqT.of upd_same, ?_, fun hnil => ?_, fun _ hn => absurd hn (by simp), fun _ _ p6 hp6 => ?_⟩
          · rw [List.length_map]
            exact Nat.le_trans (Nat.succ_le_succ hlr) (by decide)
          · have en : ras = [] := List.map_eq_nil_iff.mp hnil
            obtain ⟨p1, p2, p3⟩ := push _ u su (by rw [upd_same, en]; rfl)
            exact ⟨_, p1, size, p2, hvA, p3⟩
          · obtain ⟨p1, p2, p3⟩ := push _ p6 (su.trans (same_new hp6)) (by rw [upd_same, List.map_append])
            exact ⟨_, p1, size, p2, hvA, p3⟩
        · obtain ⟨s5, hv, es, e5, a5⟩ := h5
          rw [List.length_map, ap.1, List.take_length] at a5
          have e35 := s5 _ _ (s4 _ _ e3)
          have l1 : ds.length + es.length ≤ 390625 * 2 := by
            rw [a3.1, a5.1, List.length_map, Nat.mul_two]
            refine Nat.add_le_add (Nat.le_trans (flat_len (c := k ^ b) fun x _ => ?_) ?_) (Nat.le_trans (asg_len b) (pow_le8 k5 b8))
            · rw [List.length_map]
              exact asg_len b
            · rw [List.length_take]
              exact Nat.le_trans (Nat.mul_le_mul_right _ (Nat.min_le_right _ _)) lA
          refine ⟨D, E0, _, _, rfl, rfl, e35, e5, ?_, fun D2 hD2 => ?_⟩
          · rw [List.length_map, List.length_map]
            exact Nat.le_trans l1 (by decide)
          · have s15 : Same H2 H5 := (s3.trans s4).trans s5
            have fD2 : H D2 = none := (s2.trans s15).free hD2
            refine ⟨D2, ds ++ es, _, _, rfl, same_upd s15 (s15.free hD2), fD2, hjA, by rw [upd_same, List.map_append], ?_⟩
            rw [etj]
            have ts2 : TS H5 (upd H5 D2 (.lst (ds.map V.ref ++ es.map V.ref))) := TS.new hD2
            exact (a3.mono fun _ _ z => TabT.ts ((same_ts (s4.trans s5)).trans ts2) z).append (a5.mono fun _ _ z => TabT.ts ts2 z)
      · subst eσ
        refine ⟨_, rfl, D, ds, _, _, _, _, rfl, s2.trans s3, fD, e3, ?_⟩
        rw [List.length_map, a2.1, List.take_length] at a3
        rw [et]
        exact a3
    · subst eσ
      rw [List.length_map, hal.1, List.take_length] at a2
      exact ⟨_, rfl, q H2 R rs s2 fR e2 a2⟩
end
end Ft

namespace Ft
open PySem PySem.Spec PyProof.Rows L2
/-! ### the plans -/
abbrev s_l_small_plan : Stmt := topS 39
theorem sc_l_small_plan : FnScope ["_law_stream_here", "_law_variants", "_law_buckets", "_law_many", "_law_allocations"] ["_law_stream_here"] (defScope s_l_small_plan) := ⟨rfl, rfl, rfl, by decide +kernel, rfl, by decide +kernel, by decide +kernel⟩
abbrev s_l_ring_plan : Stmt := topS 40
theorem sc_l_ring_plan : FnScope ["_law_stream_here", "_law_rows", "_law_many", "_law_at", "_law_pairs_here", "_law_shift", "_law_variant"] ["_law_stream_here"] (defScope s_l_ring_plan) := ⟨rfl, rfl, rfl, by decide +kernel, rfl, by decide +kernel, by decide +kernel⟩
abbrev s_l_plan : Stmt := topS 41
theorem sc_l_plan : FnScope ["_law_stream_here"] ["_law_stream_here"] (defScope s_l_plan) := ⟨rfl, rfl, rfl, by decide +kernel, rfl, by decide +kernel, by decide +kernel⟩
def sizes : List (Nat × Nat) := [(2, 4), (3, 3), (2, 3), (2, 4), (1, 4), (4, 2), (3, 2), (0, 3)]
theorem sizes_ok : ∀ z ∈ sizes, z.1 ≤ 4 ∧ 2 ≤ z.2 ∧ z.2 ≤ 4 ∧ z.1 * z.2 ≤ 12 ∧ z.1 * (z.2 - 1) ≤ 8 := by decide
theorem ring_ok : ∀ d s, d < 2 → s < 3 + 2 * d → PlanOk (ringRows (3 + 2 * d)) (rot s (ringPs (3 + 2 * d))) (3 + 2 * d) 2 := fun d s hd hs => by
  have cases2 : d = 0 ∨ d = 1 := by omega
  rcases cases2 with rfl | rfl
  · have G := ring3 s hs
    have nd : ∀ s : _root_.Fin 3, (rot s.val (ringPs 3)).Nodup ∧ (rot s.val (ringPs 3)).length ≤ 15 := by decide
    obtain ⟨n1, n2⟩ := nd ⟨s, hs⟩
    exact ⟨⟨G.ne, by decide, by decide, by decide, G.len, G.sum⟩, by decide, by decide, by decide, G.pr, n1, n2, by decide, by decide, .inl (by decide)⟩
  · have G := ring5 s hs
    have nd : ∀ s : _root_.Fin 5, (rot s.val (ringPs 5)).Nodup ∧ (rot s.val (ringPs 5)).length ≤ 15 := by decide
    obtain ⟨n1, n2⟩ := nd ⟨s, hs⟩
    exact ⟨⟨G.ne, by decide, by decide, by decide, G.len, G.sum⟩, by decide, by decide, by decide, G.pr, n1, n2, by decide, by decide, .inr (ring5_none s hs)⟩
theorem cut_from (xs : List V) (s : Nat) (h : s ≤ xs.length) : cutV xs (some (s : Int)) none = xs.drop s := by
  unfold cutV
  rw [HT.sIx_nat, HT.sIx_none, Nat.min_eq_left h]
  exact List.take_of_length_le (by rw [List.length_drop]; exact Nat.le_refl _)
theorem cut_to (xs : List V) (s : Nat) (h : s ≤ xs.length) : cutV xs none (some (s : Int)) = xs.take s := by
  unfold cutV
  rw [HT.sIx_nat, HT.sIx_none, Nat.min_eq_left h, Nat.sub_zero]
  rfl
def PlanT (H : Hp) (q : Addr) (al : List Row) (ps : List (Nat × Nat)) : Prop := ∃ a pa, H q = some (.tup [.ref a, .ref pa]) ∧ TabT H a al ∧ PrsT H pa ps
section
variable {P : Program} {w : World} {K : PySem.W.Frag} {mg : Str → Option Value} {base : Heap}
def sp_plan : Sp := fun vs H Q _ => ∃ (S L : Addr), vs = [.ref S] ∧ Strm H S L ∧ ∀ H' q al ps k b, Sx S H H' → Strm H' S L → PlanT H' q al ps → PlanOk al ps k b → Q (.ref q) H'
theorem ok_small_plan (D : DefAt K mg "_law_small_plan" s_l_small_plan ["_law_stream_here"]) (T : Bt mg) (C_l_next : Callee P w K mg base "_law_next" 1 ["_law_stream_here", "_law_many"] sp_next)
    (C_l_series : Callee P w K mg base "_law_series" 3 ["_law_stream_here", "_law_variants", "_law_buckets", "_law_many"] sp_series) (C_l_pairs : Callee P w K mg base "_law_pairs" 2 ["_law_stream_here", "_law_many", "_law_most"] sp_pairs) :
    Callee P w K mg base "_law_small_plan" 4 ["_law_stream_here"] sp_plan := by
  refine D.callee fun f fd F => F.ok sc_l_small_plan (fun vs H Q E h => ?_) (fun cdv A outer s H vs Q E hr h => ?_)
  · obtain ⟨_, _, rfl, _⟩ := h
    rfl
  · obtain ⟨S, L, rfl, st, q⟩ := h
    refine ⟨_, (pss_cons (ps_set (i := 1) sc_l_small_plan.nd rfl (.inl rfl) (pe_op op_add pe_int (pe_cd C_l_next (hr.mono (by omega)) (by rfl) (pa_cons (pv 0) (pa_cons pe_int pa_nil)))))
        (pss_cons (ps_asg (pe_ix (r := rIxL K) ix_list (pe_lst (pa_cons (pe_tup (pa_cons pe_int (pa_cons pe_int pa_nil))) (pa_cons (pe_tup (pa_cons pe_int (pa_cons pe_int pa_nil))) (pa_cons (pe_tup (pa_cons pe_int (pa_cons pe_int pa_nil))) (pa_cons (pe_tup (pa_cons pe_int (pa_cons pe_int pa_nil))) (pa_cons (pe_tup (pa_cons pe_int (pa_cons pe_int pa_nil))) (pa_cons (pe_tup (pa_cons pe_int (pa_cons pe_int pa_nil))) (pa_cons (pe_tup (pa_cons pe_int (pa_cons pe_int pa_nil))) (pa_cons (pe_tup (pa_cons pe_int (pa_cons pe_int pa_nil))) pa_nil))))))))) (pe_cd C_l_next (hr.mono (by omega)) (by rfl) (pa_cons (pv 0) (pa_cons pe_int pa_nil))) (fun _ _ => rfl)) (pg_tup rfl (pgs_cons (pg_name (i := 2) sc_l_small_plan.nd rfl (.inl rfl)) (pgs_cons (pg_name (i := 3) sc_l_small_plan.nd rfl (.inl rfl)) pgs_nil))))
        (pss_cons (ps_set (i := 4) sc_l_small_plan.nd rfl (.inl rfl) (pe_cd C_l_series (hr.mono (by omega)) (by rfl) (pa_cons (pv 0) (pa_cons (pv 1) (pa_cons (pv 2) (pa_cons (pv 3) pa_nil))))))
        (pss_one (ps_ret (pe_tup (pa_cons (pv 4) (pa_cons (pe_cd C_l_pairs (hr.mono (by omega)) (by rfl) (pa_cons (pv 0) (pa_cons (pv 3) (pa_cons pe_int pa_nil)))) pa_nil)))))))), ?_⟩
    refine ⟨_, rfl, S, L, 3, rfl, st, by decide, by decide, fun H1 d s1 st1 hd => ⟨_, _, rfl, rfl, ?_⟩⟩
    have e0 : V.int (2 + (d : Int)) = iv (2 + d) := congrArg V.int (by omega)
    dsimp only
    rw [e0]
    have two : 2 ≤ sizeLine := by decide
    refine ⟨two, fun t1 h1 => ⟨two, fun t2 h2 => ⟨two, fun t3 h3 => ⟨two, fun t4 h4 => ⟨two, fun t5 h5 => ⟨two, fun t6 h6 => ⟨two, fun t7 h7 => ⟨two, fun t8 h8 => ⟨by show 8 ≤ sizeLine; decide, fun B hB => ?_⟩⟩⟩⟩⟩⟩⟩⟩⟩
    have sB := same_new (o := .lst [.ref t1, .ref t2, .ref t3, .ref t4, .ref t5, .ref t6, .ref t7, .ref t8]) hB
    have s17 := (((((((same_new (o := .tup [.int 2, .int 4]) h1).trans (same_new (o := .tup [.int 3, .int 3]) h2)).trans (same_new (o := .tup [.int 2, .int 3]) h3)).trans (same_new (o := .tup [.int 2, .int 4]) h4)).trans (same_new (o := .tup [.int 1, .int 4]) h5)).trans (same_new (o := .tup [.int 4, .int 2]) h6)).trans (same_new (o := .tup [.int 3, .int 2]) h7)).trans (same_new (o := .tup [.int 0, .int 3]) h8)
    have all0 : All2 (PairT (upd (upd (upd (upd (upd (upd (upd (upd H1 t1 (.tup [.int 2, .int 4])) t2 (.tup [.int 3, .int 3])) t3 (.tup [.int 2, .int 3])) t4 (.tup [.int 2, .int 4])) t5 (.tup [.int 1, .int 4])) t6 (.tup [.int 4, .int 2])) t7 (.tup [.int 3, .int 2])) t8 (.tup [.int 0, .int 3])))
        [t1, t2, t3, t4, t5, t6, t7, t8] sizes := by
      have a1 : All2 (PairT (upd H1 t1 (.tup [.int 2, .int 4]))) [t1] [(2, 4)] := All2.nil.snoc (show PairT _ t1 (2, 4) from upd_same)
      have a2 : All2 (PairT _) [t1, t2] [(2, 4), (3, 3)] := (a1.mono fun _ _ z => PairT.ts (TS.new (o := .tup [.int 3, .int 3]) h2) z).snoc (show PairT _ t2 (3, 3) from upd_same)
      have a3 : All2 (PairT _) [t1, t2, t3] [(2, 4), (3, 3), (2, 3)] := (a2.mono fun _ _ z => PairT.ts (TS.new (o := .tup [.int 2, .int 3]) h3) z).snoc (show PairT _ t3 (2, 3) from upd_same)
      have a4 : All2 (PairT _) [t1, t2, t3, t4] [(2, 4), (3, 3), (2, 3), (2, 4)] := (a3.mono fun _ _ z => PairT.ts (TS.new (o := .tup [.int 2, .int 4]) h4) z).snoc (show PairT _ t4 (2, 4) from upd_same)
      have a5 : All2 (PairT _) [t1, t2, t3, t4, t5] [(2, 4), (3, 3), (2, 3), (2, 4), (1, 4)] := (a4.mono fun _ _ z => PairT.ts (TS.new (o := .tup [.int 1, .int 4]) h5) z).snoc (show PairT _ t5 (1, 4) from upd_same)
      have a6 : All2 (PairT _) [t1, t2, t3, t4, t5, t6] [(2, 4), (3, 3), (2, 3), (2, 4), (1, 4), (4, 2)] := (a5.mono fun _ _ z => PairT.ts (TS.new (o := .tup [.int 4, .int 2]) h6) z).snoc (show PairT _ t6 (4, 2) from upd_same)
      have a7 : All2 (PairT _) [t1, t2, t3, t4, t5, t6, t7] [(2, 4), (3, 3), (2, 3), (2, 4), (1, 4), (4, 2), (3, 2)] := (a6.mono fun _ _ z => PairT.ts (TS.new (o := .tup [.int 3, .int 2]) h7) z).snoc (show PairT _ t7 (3, 2) from upd_same)
      exact (a7.mono fun _ _ z => PairT.ts (TS.new (o := .tup [.int 0, .int 3]) h8) z).snoc (show PairT _ t8 (0, 3) from upd_same)
    generalize upd (upd (upd (upd (upd (upd (upd (upd H1 t1 (.tup [.int 2, .int 4])) t2 (.tup [.int 3, .int 3])) t3 (.tup [.int 2, .int 3])) t4 (.tup [.int 2, .int 4])) t5 (.tup [.int 1, .int 4])) t6 (.tup [.int 4, .int 2])) t7 (.tup [.int 3, .int 2])) t8 (.tup [.int 0, .int 3]) = H2 at hB sB s17 all0 ⊢
    have stB := (st1.same s17).same sB
    refine ⟨_, rfl, S, L, 8, rfl, stB, by decide, by decide, fun H3 g s3 st3 hg => ?_⟩
    have nB := (st1.same s17).ne hB
    have eB : H3 B = some (.lst ([t1, t2, t3, t4, t5, t6, t7, t8].map V.ref)) := s3 _ _ nB.1 upd_same
    have all3 : All2 (PairT H3) [t1, t2, t3, t4, t5, t6, t7, t8] sizes := all0.mono fun _ _ z => PairT.ts ((same_ts sB).trans (s3.tsm stB)) z
    obtain ⟨c, hc, rc⟩ := all3.get (i := g) hg (0, 0)
    have mz : sizes.getD g (0, 0) ∈ sizes := getD_mem hg
    generalize sizes.getD g (0, 0) = z at rc mz
    obtain ⟨b4, n2, n4, cl, fw⟩ := sizes_ok z mz
    refine ⟨B, _, _, _, rfl, rfl, SqL.of eB, at_ref hc, c, [iv z.1, iv z.2], rfl, SqT.of rc, rfl, iv z.1, [iv z.2], rfl, iv z.2, [], rfl, rfl, ?_⟩
    have s13 : Sx S H H3 := ((s1.trans (same_sx s17)).trans (same_sx sB)).trans s3
    refine ⟨_, rfl, _, rfl, _, rfl, _, rfl, S, L, 2 + d, z.1, z.2, rfl, st3, by omega, by omega, by omega, by omega, by omega, fun H4 a al s4 st4 ha hl hm => ?_⟩
    refine ⟨_, rfl, _, rfl, _, rfl, S, L, z.2, rfl, st4, by omega, fun H5 pa ps rest s5 st5 hp pm => ⟨two, fun q1 hq1 => ?_⟩⟩
    obtain ⟨nd, pr, ln⟩ := allPairs_ok z.2 (by omega)
    have hsub : ∀ p ∈ ps, p ∈ allPairs z.2 := fun p hp => pm.mem_iff.mp (List.mem_append_left _ hp)
    have hnd : (ps ++ rest).Nodup := pm.nodup_iff.mpr nd
    have hle := pm.length_eq
    rw [List.length_append] at hle
    refine q _ q1 al ps (2 + d) z.1 (((s13.trans s4).trans s5).upd (((s13.trans s4).trans s5).free st5 hq1)) (st5.upd (st5.ne hq1)) ⟨a, pa, upd_same, TabT.ts ((s5.tsm st4).trans (TS.new hq1)) ha, PrsT.ts (TS.new hq1) hp⟩ ?_
    refine ⟨⟨by omega, by omega, by omega, by omega, fun x hx => (hm x hx).1, fun x hx => (hm x hx).2⟩, by omega, by omega, by rw [hl]; exact cl, fun p hp => ?_, (List.nodup_append.mp hnd).1, by omega, by omega, by rw [hl]; exact fw, .inl (by omega)⟩
    have := pr p (hsub p hp)
    rw [hl]
    exact this
end
end Ft

namespace Ft
open PySem PySem.Spec PyProof.Rows L2
section
variable {P : Program} {w : World} {K : PySem.W.Frag} {mg : Str → Option Value} {base : Heap}
theorem ring_bit (m i v : Nat) : (if v = i ∨ v = (i + 1) % m then (1 : Nat) else 0) = if v = i then 1 else if v = (i + 1) % m then 1 else 0 := by
  by_cases h : v = i
  · rw [if_pos (.inl h), if_pos h]
  · rw [if_neg h]
    by_cases h2 : v = (i + 1) % m
    · rw [if_pos (.inr h2), if_pos h2]
    · rw [if_neg (fun z => z.elim h h2), if_neg h2]
theorem ok_ring_plan (D : DefAt K mg "_law_ring_plan" s_l_ring_plan ["_law_stream_here"]) (T : Bt mg) (C_l_next : Callee P w K mg base "_law_next" 1 ["_law_stream_here", "_law_many"] sp_next) :
    Callee P w K mg base "_law_ring_plan" 4 ["_law_stream_here"] sp_plan := by
  refine D.callee fun f fd F => F.ok (k := 3) sc_l_ring_plan (fun vs H Q E h => ?_) (fun cdv A outer s H vs Q E hr h => ?_)
  · obtain ⟨_, _, rfl, _⟩ := h
    rfl
  · obtain ⟨S, L, rfl, st, q⟩ := h
    refine ⟨_, (pss_cons (ps_set (i := 1) sc_l_ring_plan.nd rfl (.inl rfl) (pe_lst pa_nil))
        (pss_cons (ps_set (i := 2) sc_l_ring_plan.nd rfl (.inr rfl) (pe_op op_add pe_int (pe_op op_mul pe_int (pe_cd C_l_next (hr.mono (by omega)) (by rfl) (pa_cons (pv 0) (pa_cons pe_int pa_nil))))))
        (pss_cons (ps_for PassesOwn.never rfl (pi_range1 (by rfl) T.range (pa_cons (pv 2) pa_nil)) (pg_name (i := 3) sc_l_ring_plan.nd rfl (.inr rfl)) (pss_one (ps_expr (pe_bm PySem.F.plainAttrs_list PySem.F.slot_list_append PySem.F.type_list_append mt_append (pv 1) (pa_cons (pe_callTy (r := rTupOf K) call_tupOf (by rfl) T.tuple bt_tuple (pa_cons (pe_lc (own := [("_law_variant", 6)]) (g := gName 6) (tt := tYes) rfl sc_l_ring_plan.nd (pi_range1 (by rfl) T.range (pa_cons (pv 2) pa_nil)) (blkOk_by (own := [("_law_variant", 6)]) (N := ["_law_stream_here", "_law_rows", "_law_many", "_law_at", "_law_pairs_here", "_law_shift", "_law_variant"]) (sc := defScope s_l_ring_plan) (by decide +kernel)) (fun _ _ _ _ _ => (pg_name (i := 6) sc_l_ring_plan.nd rfl (Or.inl rfl))) (fun _ _ _ _ _ => pts_nil) (fun _ _ _ _ _ => (pe_callTy call_int1 (by rfl) T.int bt_int (pa_cons (pe_or (pe_cmpR op_eq (pv 6) (pv 3) (nomark _)) (pe_one (pe_cmpR op_eq (pv 6) (pe_op op_modN (pe_op op_add (pv 3) pe_int) (pv 2)) (nomark _)))) pa_nil)))) pa_nil)) pa_nil)))))
        (pss_cons (ps_set (i := 4) sc_l_ring_plan.nd rfl (.inl rfl) (pe_op op_cat (pe_lc (own := [("_law_at", 3)]) (g := gName 3) (tt := tYes) rfl sc_l_ring_plan.nd (pi_range1 (by rfl) T.range (pa_cons (pe_op op_sub (pv 2) pe_int) pa_nil)) (blkOk_by (own := [("_law_at", 3)]) (N := ["_law_stream_here", "_law_rows", "_law_many", "_law_at", "_law_pairs_here", "_law_shift", "_law_variant"]) (sc := defScope s_l_ring_plan) (by decide +kernel)) (fun _ _ _ _ _ => (pg_name (i := 3) sc_l_ring_plan.nd rfl (Or.inl rfl))) (fun _ _ _ _ _ => pts_nil) (fun _ _ _ _ _ => (pe_tup (pa_cons (pv 3) (pa_cons (pe_op op_add (pv 3) pe_int) pa_nil))))) (pe_lst (pa_cons (pe_tup (pa_cons pe_int (pa_cons (pe_op op_sub (pv 2) pe_int) pa_nil))) pa_nil))))
        (pss_cons (ps_set (i := 5) sc_l_ring_plan.nd rfl (.inl rfl) (pe_cd C_l_next (hr.mono (by omega)) (by rfl) (pa_cons (pv 0) (pa_cons (pv 2) pa_nil))))
        (pss_one (ps_ret (pe_tup (pa_cons (pe_callTy (r := rTupOf K) call_tupOf (by rfl) T.tuple bt_tuple (pa_cons (pv 1) pa_nil)) (pa_cons (pe_callTy (r := rTupOf K) call_tupOf (by rfl) T.tuple bt_tuple (pa_cons (pe_op op_cat (pe_slice (r := rSlL K) sl_list (pv 4) (po_some (pv 5)) po_none) (pe_slice (r := rSlL K) sl_list (pv 4) po_none (po_some (pv 5)))) pa_nil)) pa_nil)))))))))), ?_⟩
    refine ⟨Nat.zero_le _, fun D hD => ?_⟩
    have nD := st.ne hD
    have stD := st.upd (o := .lst []) nD
    refine ⟨_, rfl, S, L, 2, rfl, stD, by decide, by decide, fun H1 d s1 st1 hd => ⟨_, _, rfl, rfl, .inl ⟨by decide, by decide⟩, _, _, rfl, rfl, ?_⟩⟩
    have e0 : V.int (3 + 2 * (d : Int)) = iv (3 + 2 * d) := congrArg V.int (by omega)
    dsimp only
    rw [e0]
    have hm5 : 3 + 2 * d ≤ 5 := by omega
    have hRing := fun sh => ring_ok d sh hd
    have hm3 : 3 ≤ 3 + 2 * d := Nat.le_add_right _ _
    generalize 3 + 2 * d = m at hm5 hRing hm3 ⊢
    have s1' : Sx S H H1 := ((Sx.refl S H).upd hD).trans s1
    refine ⟨_, rfl, (m : Int), rfl, by omega, by omega, for_range (lo := 0) (n := m) (fun i σ H2 => (∃ x3 x4 x5 x6, σ = [some (.ref S), some (.ref D), some (iv m), x3, x4, x5, x6]) ∧ Sx S H H2 ∧ Strm H2 S L ∧ ∃ as, H2 D = some (.lst (as.map V.ref)) ∧ All2 (RowT H2) as ((List.range i).map (ringRow m)))
      ⟨⟨none, none, none, none, rfl⟩, s1', st1, [], s1 _ _ nD.1 upd_same, All2.nil⟩ (fun i σ H2 hi ⟨⟨x3, x4, x5, x6, eσ⟩, s2, st2, as, e2, a2⟩ => ?_) (fun σ H2 ⟨⟨x3, x4, x5, x6, eσ⟩, s2, st2, as, e2, a2⟩ => ?_)⟩
    · subst eσ
      have ei : V.int (0 + (i : Int)) = iv i := by rw [Int.zero_add]
      rw [ei]
      have hmod : ((i : Int) + 1).fmod (m : Int) = (((i + 1) % m : Nat) : Int) := by
        rw [Int.fmod_eq_emod_of_nonneg _ (by omega)]
        exact (Int.natCast_emod (i + 1) m).symm
      refine ⟨_, rfl, .inl ⟨rfl, _, SqL.of e2⟩, _, rfl, (m : Int), rfl, by omega, by omega, fun E1 hE => lc_range (lo := 0) (n := m) (fun v H3 => Same H2 H3 ∧ H3 E1 = some (.lst (((List.range v).map fun u => if u = i ∨ u = (i + 1) % m then 1 else 0).map iv)))
        ⟨same_new hE, upd_same⟩ (fun v H3 hv h3 => ?_) fun H3 h3 => ?_⟩
      · obtain ⟨s3, e3⟩ := h3
        have ev : V.int (0 + (v : Int)) = iv v := by rw [Int.zero_add]
        rw [ev]
        have es : ((List.range (v + 1)).map fun u => if u = i ∨ u = (i + 1) % m then 1 else 0).map iv = ((List.range v).map fun u => if u = i ∨ u = (i + 1) % m then 1 else 0).map iv ++ [iv (if v = i ∨ v = (i + 1) % m then 1 else 0)] := by
          rw [List.range_succ, List.map_append, List.map_append]
          rfl
        have size : (((List.range v).map fun u => if u = i ∨ u = (i + 1) % m then (1 : Nat) else 0).map iv).length < sizeLine := by
          rw [List.length_map, List.length_map, List.length_range]
          exact Nat.lt_of_lt_of_le (show v < 1000 by omega) (by decide)
        have fin : ∀ z : V, z = iv (if v = i ∨ v = (i + 1) % m then 1 else 0) → ∃ acc, H3 E1 = some (.lst acc) ∧ acc.length < sizeLine ∧ Same H2 (upd H3 E1 (.lst (acc ++ [z]))) ∧
            (upd H3 E1 (.lst (acc ++ [z]))) E1 = some (.lst (((List.range (v + 1)).map fun u => if u = i ∨ u = (i + 1) % m then 1 else 0).map iv)) := fun z hz => by
          refine ⟨_, e3, size, same_upd s3 hE, ?_⟩
          rw [upd_same, es, hz]
        refine ⟨rfl, tYes_of ?_⟩
        refine iteT ?_
        refine ⟨_, rfl, _, rfl, rfl, _, rfl, ite2 (fun h => ?_) (fun h => ?_)⟩
        · have hvi : v = i := by
            have := V.int.inj (of_decide_eq_true h)
            omega
          refine .inr ⟨true, rfl, fin _ ?_⟩
          rw [ring_bit, if_pos hvi]
          rfl
        · have hvi : ¬ v = i := fun z => h (by rw [z]; exact decide_eq_true rfl)
          refine ⟨_, rfl, _, rfl, _, _, rfl, rfl, _, rfl, _, _, rfl, rfl, (show (m : Int) ≠ 0 by omega), rfl, .inr ⟨_, rfl, fin _ ?_⟩⟩
          show V.int (if decide (iv v = V.int (((i : Int) + 1).fmod (m : Int))) = true then 1 else 0) = _
          rw [ring_bit, if_neg hvi]
          by_cases h2 : v = (i + 1) % m
          · have hd2 : decide (iv v = V.int (((i : Int) + 1).fmod (m : Int))) = true := decide_eq_true (by rw [hmod, ← h2])
            rw [hd2, if_pos h2]
            rfl
          · have hd2 : decide (iv v = V.int (((i : Int) + 1).fmod (m : Int))) = false := decide_eq_false fun z => h2 (by rw [hmod] at z; have := V.int.inj z; omega)
            rw [hd2, if_neg h2]
            rfl
      · obtain ⟨s3, e3⟩ := h3
        refine ⟨E1, _, rfl, .inl ⟨SqL.of e3, fun l hl => ?_⟩⟩
        have nDl : D ≠ l := ne_of_none (s3 _ _ e2) hl
        have e4 : (upd H3 l (.tup (((List.range m).map fun u => if u = i ∨ u = (i + 1) % m then 1 else 0).map iv))) D = some (.lst (as.map V.ref)) := by
          rw [upd_ne nDl]
          exact s3 _ _ e2
        have ts4 : TS H2 (upd (upd H3 l (.tup (((List.range m).map fun u => if u = i ∨ u = (i + 1) % m then 1 else 0).map iv))) D (.lst (as.map V.ref ++ [.ref l]))) := ((same_ts s3).trans (TS.new hl)).trans (TS.lst e4)
        have s13 : Sx S H H3 := s2.trans (same_sx s3)
        have st3 := st2.same s3
        refine ⟨D, _, _, rfl, rfl, e4, ?_, ⟨_, _, _, _, rfl⟩, (s13.upd (s13.free st3 hl)).upd hD, (st3.upd (st3.ne hl)).upd nD, as ++ [l], by rw [upd_same, List.map_append]; rfl, ?_⟩
        · rw [List.length_map, a2.1, List.length_map, List.length_range]
          exact Nat.lt_of_lt_of_le (show i < 1000 by omega) (by decide)
        · rw [List.range_succ, List.map_append]
          exact (a2.mono fun _ _ z => RowT.ts ts4 z).snoc (TS.lst e4 _ _ upd_same)
    · subst eσ
      have ej : (((m : Int) - 1).toNat : Nat) = m - 1 := by omega
      -- the pairs that go round
      refine ⟨_, rfl, _, _, rfl, rfl, (m : Int) - 1, rfl, by omega, by omega, fun E1 hE => lc_range (lo := 0) (n := ((m : Int) - 1).toNat) (fun v H3 => Same H2 H3 ∧ ∃ es, H3 E1 = some (.lst (es.map V.ref)) ∧ All2 (PairT H3) es ((List.range v).map fun i => (i, i + 1)))
        ⟨same_new hE, [], upd_same, All2.nil⟩ (fun v H3 hv h3 => ?_) fun H3 h3 => ?_⟩
      · obtain ⟨s3, es, e3, a3⟩ := h3
        rw [ej] at hv
        have ev : V.int (0 + (v : Int)) = iv v := by rw [Int.zero_add]
        rw [ev]
        refine ⟨rfl, tYes_of ?_⟩
        refine iteT ?_
        refine ⟨_, rfl, _, rfl, _, _, rfl, rfl, (by show 2 ≤ sizeLine; decide), fun u hu => ?_⟩
        have nE : E1 ≠ u := ne_of_none e3 hu
        have e4 : (upd H3 u (.tup [iv v, .int ((v : Int) + 1)])) E1 = some (.lst (es.map V.ref)) := by
          rw [upd_ne nE]
          exact e3
        refine ⟨_, e4, ?_, same_upd (same_upd s3 (s3.free hu)) hE, es ++ [u], by rw [upd_same, List.map_append]; rfl, ?_⟩
        · rw [List.length_map, a3.1, List.length_map, List.length_range]
          exact Nat.lt_of_lt_of_le (show v < 1000 by omega) (by decide)
        · rw [List.range_succ, List.map_append]
          exact (a3.mono fun _ _ z => PairT.ts ((TS.new hu).trans (TS.lst e4)) z).snoc (TS.lst e4 _ _ upd_same)
      · obtain ⟨s3, es, e3, a3⟩ := h3
        rw [ej] at a3
        have em1 : V.int ((m : Int) - 1) = iv (m - 1) := congrArg V.int (by omega)
        refine ⟨_, rfl, _, _, rfl, rfl, (by show 2 ≤ sizeLine; decide), fun u hu => ⟨(by show 1 ≤ sizeLine; decide), fun G hG => ?_⟩⟩
        generalize hH4 : upd (upd H3 u (.tup [V.int 0, V.int ((m : Int) - 1)])) G (.lst [.ref u]) = H4
        have hp4 : PairT H4 u (0, m - 1) := by
          have nuG : u ≠ G := fun z => by
            rw [z, upd_same] at hG
            cases hG
          show H4 u = some (.tup [iv 0, iv (m - 1)])
          rw [← hH4, upd_ne nuG, upd_same, em1]
          rfl
        have s34 : Same H3 H4 := by
          rw [← hH4]
          exact (same_new hu).trans (same_new hG)
        have eG : H4 G = some (.lst ([u].map V.ref)) := by
          rw [← hH4, upd_same]
          rfl
        have e4 := s34 _ _ e3
        have les : es.length = m - 1 := by rw [a3.1, List.length_map, List.length_range]
        refine ⟨E1, G, _, _, rfl, rfl, e4, eG, ?_, fun N hN => ?_⟩
        · rw [List.length_map, les]
          exact Nat.le_trans (show m - 1 + 1 ≤ 1000 by omega) (by decide)
        · have s24 : Same H2 H4 := s3.trans s34
          have s14 : Sx S H H4 := s2.trans (same_sx s24)
          have st4 := st2.same s24
          have fN : H N = none := s14.free st4 hN
          have nN := st4.ne hN
          have sN := same_new (o := .lst (es.map V.ref ++ [u].map V.ref)) hN
          have st5 := st4.same sN
          refine ⟨_, rfl, _, rfl, S, L, m, rfl, st5, by omega, by omega, fun H5 sh s5 st5' hsh => ?_⟩
          have eN : H5 N = some (.lst ((es ++ [u]).map V.ref)) := by
            have := s5 _ _ nN.1 upd_same
            rw [List.map_append]
            exact this
          have eD5 : H5 D = some (.lst (as.map V.ref)) := s5 _ _ nD.1 (sN _ _ (s24 _ _ e2))
          have ts25 : TS H2 H5 := ((same_ts s24).trans (same_ts sN)).trans (s5.tsm st5)
          have ts45 : TS H4 H5 := (same_ts sN).trans (s5.tsm st5)
          have aR : All2 (RowT H5) as (ringRows m) := a2.mono fun _ _ z => RowT.ts ts25 z
          have aP : All2 (PairT H5) (es ++ [u]) (ringPs m) := (a3.mono fun _ _ z => PairT.ts ((same_ts s34).trans ts45) z).snoc (PairT.ts ts45 hp4)
          have lN : ((es ++ [u]).map V.ref).length = m := by
            rw [List.length_map, List.length_append, les, List.length_singleton]
            omega
          have s15 : Sx S H H5 := (s14.trans (same_sx sN)).trans s5
          -- the two tuples
          refine ⟨_, rfl, D, _, rfl, .inl ⟨SqL.of eD5, fun t1 ht1 => ?_⟩⟩
          have sT1 := same_new (o := .tup (as.map V.ref)) ht1
          have eN1 := sT1 _ _ eN
          refine ⟨_, rfl, _, rfl, _, rfl, N, _, rfl, SqL.of eN1, fun p1 hp1 => ?_⟩
          rw [cut_from _ _ (by rw [lN]; omega)]
          have sP1 := same_new (o := .lst (((es ++ [u]).map V.ref).drop sh)) hp1
          have eN2 := sP1 _ _ eN1
          refine ⟨_, rfl, _, rfl, _, rfl, N, _, rfl, SqL.of eN2, fun p2 hp2 => ?_⟩
          rw [cut_to _ _ (by rw [lN]; omega)]
          have sP2 := same_new (o := .lst (((es ++ [u]).map V.ref).take sh)) hp2
          refine ⟨p1, p2, _, _, rfl, rfl, sP2 _ _ upd_same, upd_same, ?_, fun p3 hp3 => ?_⟩
          · rw [List.length_drop, List.length_take, lN]
            exact Nat.le_trans (show m - sh + min sh m ≤ 1000 by omega) (by decide)
          · have sP3 := same_new (o := .lst (((es ++ [u]).map V.ref).drop sh ++ ((es ++ [u]).map V.ref).take sh)) hp3
            refine ⟨p3, _, rfl, .inl ⟨SqL.of upd_same, fun t2 ht2 => ⟨(by show 2 ≤ sizeLine; decide), fun q1 hq1 => ?_⟩⟩⟩
            have sT2 := same_new (o := .tup (((es ++ [u]).map V.ref).drop sh ++ ((es ++ [u]).map V.ref).take sh)) ht2
            have sQ := same_new (o := .tup [.ref t1, .ref t2]) hq1
            have all5 : Same H5 _ := ((((sT1.trans sP1).trans sP2).trans sP3).trans sT2).trans sQ
            have eT1 := ((((sP1.trans sP2).trans sP3).trans sT2).trans sQ) _ _ (upd_same (H := H5) (a := t1) (o := .tup (as.map V.ref)))
            have eT2 := sQ _ _ (upd_same (a := t2) (o := .tup (((es ++ [u]).map V.ref).drop sh ++ ((es ++ [u]).map V.ref).take sh)))
            refine q _ q1 (ringRows m) (rot sh (ringPs m)) m 2 (s15.trans (same_sx all5)) (st5'.same all5) ⟨t1, t2, upd_same, ⟨as, eT1, aR.mono fun _ _ z => RowT.ts (same_ts all5) z⟩, ⟨(es ++ [u]).drop sh ++ (es ++ [u]).take sh, ?_, ?_⟩⟩ (hRing sh hsh)
            · have em : ((es ++ [u]).drop sh ++ (es ++ [u]).take sh).map V.ref = ((es ++ [u]).map V.ref).drop sh ++ ((es ++ [u]).map V.ref).take sh := by
                rw [List.map_append (l₁ := (es ++ [u]).drop sh), List.map_drop, List.map_take]
              rw [em]
              exact eT2
            · have aP' : All2 (PairT _) (es ++ [u]) (ringPs m) := aP.mono fun _ _ z => PairT.ts (same_ts all5) z
              exact (aP'.drop sh).append (aP'.take sh)
theorem ok_plan (D : DefAt K mg "_law_plan" s_l_plan ["_law_stream_here"]) (T : Bt mg) (C_l_next : Callee P w K mg base "_law_next" 1 ["_law_stream_here", "_law_many"] sp_next) (C_l_ring_plan : Callee P w K mg base "_law_ring_plan" 4 ["_law_stream_here"] sp_plan)
    (C_l_small_plan : Callee P w K mg base "_law_small_plan" 4 ["_law_stream_here"] sp_plan) : Callee P w K mg base "_law_plan" 5 ["_law_stream_here"] sp_plan := by
  refine D.callee fun f fd F => F.ok sc_l_plan (fun vs H Q E h => ?_) (fun cdv A outer s H vs Q E hr h => ?_)
  · obtain ⟨_, _, rfl, _⟩ := h
    rfl
  · obtain ⟨S, L, rfl, st, q⟩ := h
    refine ⟨_, (pss_cons (ps_if (pt_cmpR op_eq (pe_cd C_l_next (hr.mono (by omega)) (by rfl) (pa_cons (pv 0) (pa_cons pe_int pa_nil))) pe_int (nomark _)) (pss_one (ps_ret (pe_cd C_l_ring_plan (hr.mono (by omega)) (by rfl) (pa_cons (pv 0) pa_nil)))) pss_nil)
        (pss_one (ps_ret (pe_cd C_l_small_plan (hr.mono (by omega)) (by rfl) (pa_cons (pv 0) pa_nil))))), ?_⟩
    refine ⟨_, rfl, S, L, 6, rfl, st, by decide, by decide, fun H1 d s1 st1 hd => ⟨rfl, _, rfl, ite2 (fun _ => ?_) (fun _ => ?_)⟩⟩
    · exact ⟨_, rfl, S, L, rfl, st1, fun H2 q1 al ps k b s2 st2 hp G => q H2 q1 al ps k b (s1.trans s2) st2 hp G⟩
    · exact ⟨_, rfl, S, L, rfl, st1, fun H2 q1 al ps k b s2 st2 hp G => q H2 q1 al ps k b (s1.trans s2) st2 hp G⟩
end
end Ft

namespace Ft
open PySem PySem.Spec PyProof.Rows L2
/-! ### the law's own search; the law -/
abbrev s_l_first : Stmt := topS 42
theorem sc_l_first : FnScope ["_law_allocations", "_law_pairs_here", "_law_rows", "_law_starts", "_law_start", "_law_row"] ["_law_allocations", "_law_pairs_here"] (defScope s_l_first) := ⟨rfl, rfl, rfl, by decide +kernel, rfl, by decide +kernel, by decide +kernel⟩
abbrev s_law : Stmt := topS 43
theorem sc_law : FnScope ["_law_script", "_law_stream_here", "_law_allocations", "_law_pairs_here"] ["_law_script"] (defScope s_law) := ⟨rfl, rfl, rfl, by decide +kernel, rfl, by decide +kernel, by decide +kernel⟩
theorem tab_rows {k b : Nat} {al : List Row} {t : Tab} (h : t ∈ tabsFrom k b al []) : t.length = al.length ∧ ∀ r ∈ t, r.length = b := by
  obtain ⟨u, eu, lu, hu⟩ := mem_tabs h
  rw [List.nil_append] at eu
  subst eu
  refine ⟨lu, fun r hr => ?_⟩
  obtain ⟨n, hn, e⟩ := List.getElem_of_mem hr
  have hm := hu n (by omega)
  have e1 : t.getD n [] = r := by
    rw [List.getD_eq_getElem?_getD, List.getElem?_eq_getElem hn, ← e]
    rfl
  rw [e1] at hm
  obtain ⟨_, e2, l2, _⟩ := mem_rows hm
  rw [e2, List.nil_append, l2]
theorem find_part {α : Type} {p : α → Bool} : ∀ {l : List α} {j : Nat} {x : α}, (∀ y ∈ l.take j, p y = false) → l[j]? = some x → p x = true → l.find? p = some x
  | [], _, _, _, h, _ => by cases h
  | z :: l, 0, x, _, h, hp => by
    have e : z = x := Option.some.inj h
    subst e
    rw [List.find?_cons, hp]
  | z :: l, j + 1, x, hn, h, hp => by
    have hz : p z = false := hn z (List.mem_cons_self ..)
    rw [List.find?_cons, hz]
    exact find_part (fun y hy => hn y (List.mem_cons_of_mem _ hy)) h hp
theorem some_part {α β : Type} {f : α → Option β} : ∀ {l : List α} {j : Nat} {x : α} {z : β}, (∀ y ∈ l.take j, f y = none) → l[j]? = some x → f x = some z → l.findSome? f = some z
  | [], _, _, _, _, h, _ => by cases h
  | y :: l, 0, x, _, _, h, hp => by
    have e : y = x := Option.some.inj h
    subst e
    rw [List.findSome?_cons, hp]
  | y :: l, j + 1, x, _, hn, h, hp => by
    have hz : f y = none := hn y (List.mem_cons_self ..)
    rw [List.findSome?_cons, hz]
    exact some_part (fun u hu => hn u (List.mem_cons_of_mem _ hu)) h hp
section
variable {P : Program} {w : World} {K : PySem.W.Frag} {mg : Str → Option Value} {base : Heap}
def sp_first (K : PySem.W.Frag) : Sp := fun vs H Q _ => ∃ (a pa : Addr) (al : List Row) (ps : List (Nat × Nat)) (k b : Nat), vs = [.ref a, .ref pa] ∧ TabT H a al ∧ PrsT H pa ps ∧ PlanOk al ps k b ∧
  (∀ H', Same H H' → lawFirst al ps k b = none → Q .non H') ∧ (∀ H' q t, Same H H' → lawFirst al ps k b = some t → TabT H' q t → Q (.ref q) H')
theorem ok_first (D : DefAt K mg "_law_first" s_l_first ["_law_allocations", "_law_pairs_here"]) (T : Bt mg) (C_l_tables : Callee P w K mg base "_law_tables" 2 ["_law_allocations"] sp_tables)
    (C_l_assignments : Callee P w K mg base "_law_assignments" 1 ["_law_allocation_here"] sp_assignments) (C_l_kept : Callee P w K mg base "_law_kept" 2 ["_law_allocations", "_law_pairs_here", "_law_table"] sp_kept) :
    Callee P w K mg base "_law_first" 3 ["_law_allocations", "_law_pairs_here"] (sp_first K) := by
  refine D.callee fun f fd F => F.ok sc_l_first (fun vs H Q E h => ?_) (fun cdv A outer s H vs Q E hr h => ?_)
  · obtain ⟨_, _, _, _, _, _, rfl, _⟩ := h
    rfl
  · obtain ⟨a, pa, al, ps, k, b, rfl, ⟨as, ha, hal⟩, ⟨qs, hp, hps⟩, G, q1, q2⟩ := h
    refine ⟨_, (pss_cons (ps_set (i := 2) sc_l_first.nd rfl (.inl rfl) (pe_cd C_l_tables (hr.mono (by omega)) (by rfl) (pa_cons (pe_slice (r := rSlA K) sl_tupA (pv 0) (po_some pe_int) po_none) pa_nil)))
        (pss_cons (ps_set (i := 3) sc_l_first.nd rfl (.inl rfl) (pe_cd C_l_assignments (hr.mono (by omega)) (by rfl) (pa_cons (pe_ix (r := rIxT K) ix_tup (pv 0) pe_int (fun _ _ => rfl)) pa_nil)))
        (C8.pss_cut (ps_if (pt_cmpR op_gt (pe_callB (r := rLenS K) call_lenS (by rfl) T.len PySem.boot_len (pa_cons (pv 0) pa_nil)) pe_int (nomark _)) (pss_one (ps_set (i := 3) sc_l_first.nd rfl (.inl rfl) (pe_slice (r := rSlL K) sl_list (pv 3) po_none (po_some pe_int)))) pss_nil)
        (pss_cons (ps_for PassesOwn.never rfl (pi_list (pv 3)) (pg_name (i := 4) sc_l_first.nd rfl (.inl rfl)) (pss_one (ps_for PassesOwn.never rfl (pi_list (pv 2)) (pg_name (i := 5) sc_l_first.nd rfl (.inl rfl)) (pss_one (ps_if (pt_cmpR op_eq (pe_callB (r := rLenS K) call_lenS (by rfl) T.len PySem.boot_len (pa_cons (pe_cd C_l_kept (hr.mono (by omega)) (by rfl) (pa_cons (pv 0) (pa_cons (pv 1) (pa_cons (pe_op (r := rCatA K) op_catA (pe_tup (pa_cons (pv 4) pa_nil)) (pv 5)) pa_nil)))) pa_nil)) (pe_callB (r := rLenS K) call_lenS (by rfl) T.len PySem.boot_len (pa_cons (pv 1) pa_nil)) (nomark _)) (pss_one (ps_ret (pe_op (r := rCatA K) op_catA (pe_tup (pa_cons (pv 4) pa_nil)) (pv 5)))) pss_nil)))))
        (pss_one (ps_ret pe_non)))))), ?_⟩
    have lal : (as.map V.ref).length = al.length := by rw [List.length_map, hal.1]
    have n2 := G.n2
    have n5 := G.n5
    have e10 : HT.sIx (as.map V.ref).length 0 (some (1 : Int)) = 1 := by
      rw [show (1 : Int) = ((1 : Nat) : Int) from rfl, HT.sIx_nat, lal]
      omega
    refine ⟨_, rfl, _, rfl, a, _, rfl, SqT.of ha, fun hw => absurd hw.1 (by rw [e10]; decide), fun _ p1 hp1 => ?_⟩
    have ec : cutV (as.map V.ref) (some (1 : Int)) none = (as.drop 1).map V.ref := by
      rw [show (1 : Int) = ((1 : Nat) : Int) from rfl, cut_from _ _ (by rw [lal]; omega), List.map_drop]
    rw [ec]
    have s1 := same_new (o := .tup ((as.drop 1).map V.ref)) hp1
    have etl : al.tail = al.drop 1 := List.drop_one.symm
    have ltl : al.tail.length = al.length - 1 := List.length_tail
    have htl : TabT (upd H p1 (.tup ((as.drop 1).map V.ref))) p1 al.tail := ⟨as.drop 1, upd_same, by rw [etl]; exact (hal.mono fun _ _ z => RowT.ts (TS.new hp1) z).drop 1⟩
    refine ⟨p1, al.tail, k, b, rfl, htl, fun x hx => ⟨G.ser.len x (List.mem_of_mem_tail hx), G.ser.sum x (List.mem_of_mem_tail hx)⟩, G.ser.k5, G.b8, by rw [ltl]; exact G.few, by omega, fun H2 R rs s2 fR eR aR => ?_⟩
    have s12 := s1.trans s2
    obtain ⟨a0, h0, r0⟩ := hal.get G.ser.ne []
    have m0 : al.getD 0 [] ∈ al := getD_mem G.ser.ne
    refine ⟨_, rfl, a, _, _, _, rfl, rfl, SqT.of (s12 _ _ ha), at_ref h0, a0, al.getD 0 [], k, b, rfl, RowT.ts (same_ts s12) r0, G.ser.len _ m0, G.ser.sum _ m0, G.ser.k5, G.b8, fun H3 St ss s3 fS eS aS => ?_⟩
    have s13 := s12.trans s3
    -- the starts
    generalize hstarts : (if al.length > 4 then (asg k (al.getD 0 []) b).take 1 else asg k (al.getD 0 []) b) = starts
    have hL : lawFirst al ps k b = firstL (lawKeeps al ps) starts (tabsL k b al.tail) := by
      rw [← hstarts]
      rfl
    have mstarts : ∀ x ∈ starts, x ∈ rowsFrom k (al.getD 0 []) b [] := fun x hx => by
      rw [← hstarts] at hx
      rw [← asg_eq]
      split at hx
      · exact List.mem_of_mem_take hx
      · exact hx
    refine ⟨fun σ' H4 => ∃ (St : Addr) (ss : List Addr), σ' = [some (.ref a), some (.ref pa), some (.ref R), some (.ref St), none, none] ∧ Same H3 H4 ∧ H4 St = some (.lst (ss.map V.ref)) ∧ All2 (RowT H4) ss starts, ?_, ?_⟩
    · refine ⟨_, rfl, a, _, rfl, .inr (SqT.of (s13 _ _ ha)), _, _, rfl, rfl, _, rfl, ?_⟩
      rw [lal]
      refine ite2 (fun h => ?_) (fun h => ?_)
      · have h4 : al.length > 4 := by
          have := of_decide_eq_true h
          omega
        rw [if_pos h4] at hstarts
        refine ⟨_, rfl, _, rfl, St, _, rfl, SqL.of eS, fun p2 hp2 => ?_⟩
        have ec2 : cutV (ss.map V.ref) none (some (1 : Int)) = (ss.take 1).map V.ref := by
          unfold cutV
          rw [show (1 : Int) = ((1 : Nat) : Int) from rfl, HT.sIx_nat, HT.sIx_none, Nat.sub_zero, List.map_take]
          show (ss.map V.ref).take (min 1 _) = _
          by_cases z : (ss.map V.ref).length = 0
          · have : ss.map V.ref = [] := List.length_eq_zero_iff.mp z
            rw [this]
            rfl
          · rw [Nat.min_eq_left (by omega)]
        rw [ec2]
        refine ⟨p2, ss.take 1, rfl, same_new hp2, upd_same, ?_⟩
        rw [← hstarts]
        exact (aS.mono fun _ _ z => RowT.ts (TS.new hp2) z).take 1
      · have h4 : ¬ al.length > 4 := fun z => h (decide_eq_true (by omega))
        rw [if_neg h4] at hstarts
        refine ⟨St, ss, rfl, Same.refl H3, eS, ?_⟩
        rw [← hstarts]
        exact aS
    · rintro σ' H4 ⟨St, ss, rfl, s4, eS, aS⟩
      have s14 := s13.trans s4
      have eR4 := s4 _ _ (s3 _ _ eR)
      have aR4 : All2 (TabT H4) rs (tabsL k b al.tail) := aR.mono fun _ _ z => TabT.ts (same_ts (s3.trans s4)) z
      -- start by start
      refine ⟨_, rfl, St, rfl, ⟨_, SqL.of eS⟩, for_list (K := K) (a := St) (xs := ss.map V.ref) (fun i σ H5 => (∃ x4 x5, σ = [some (.ref a), some (.ref pa), some (.ref R), some (.ref St), x4, x5]) ∧ Same H4 H5 ∧
        ∀ s ∈ starts.take i, ((tabsL k b al.tail).find? fun r => lawKeeps al ps (s :: r)).map (s :: ·) = none) ⟨⟨none, none, rfl⟩, Same.refl H4, by simp⟩ (fun i σ H5 _ p => SqL.of (p.2.1 _ _ eS)) (fun i x σ H5 hx ⟨⟨x4, x5, eσ⟩, s5, ih⟩ => ?_) (fun σ H5 ⟨⟨x4, x5, eσ⟩, s5, ih⟩ => ?_)⟩
      · subst eσ
        obtain ⟨c, rfl, hc⟩ := ref_item hx
        have hi : i < starts.length := by rw [← aS.1]; exact (List.getElem?_eq_some_iff.mp hc).1
        have hstart : starts[i]? = some starts[i] := List.getElem?_eq_getElem hi
        have rc : RowT H4 c starts[i] := aS.2 i c _ hc hstart
        have mst := mstarts _ (List.getElem_mem hi)
        have et : starts.take (i + 1) = starts.take i ++ [starts[i]] := by rw [List.take_add_one, hstart]; rfl
        generalize starts[i] = st at hstart rc mst et
        obtain ⟨_, est, lst, _⟩ := mem_rows mst
        have lst' : st.length = b := by rw [est, List.nil_append, lst]
        -- row by row
        refine ⟨_, rfl, R, rfl, ⟨_, SqL.of (s5 _ _ eR4)⟩, for_list (K := K) (a := R) (xs := rs.map V.ref) (fun j σ H6 => (∃ x5, σ = [some (.ref a), some (.ref pa), some (.ref R), some (.ref St), some (.ref c), x5]) ∧ Same H4 H6 ∧
          ∀ r ∈ (tabsL k b al.tail).take j, lawKeeps al ps (st :: r) = false) ⟨⟨x5, rfl⟩, s5, by simp⟩ (fun j σ H6 _ p => SqL.of (p.2.1 _ _ eR4)) (fun j x σ H6 hx2 ⟨⟨y5, eσ⟩, s6, jh⟩ => ?_) (fun σ H6 ⟨⟨y5, eσ⟩, s6, jh⟩ => ?_)⟩
        · subst eσ
          obtain ⟨g, rfl, hg⟩ := ref_item hx2
          have hj : j < (tabsL k b al.tail).length := by rw [← aR4.1]; exact (List.getElem?_eq_some_iff.mp hg).1
          have hrow : (tabsL k b al.tail)[j]? = some (tabsL k b al.tail)[j] := List.getElem?_eq_getElem hj
          have rg : TabT H4 g (tabsL k b al.tail)[j] := aR4.2 j g _ hg hrow
          have mrow : (tabsL k b al.tail)[j] ∈ tabsFrom k b al.tail [] := by
            rw [← tabsL_eq]
            exact List.getElem_mem hj
          have etr : (tabsL k b al.tail).take (j + 1) = (tabsL k b al.tail).take j ++ [(tabsL k b al.tail)[j]] := by rw [List.take_add_one, hrow]; rfl
          generalize (tabsL k b al.tail)[j] = row at hrow rg mrow etr
          obtain ⟨ras, eg, hra⟩ := rg
          obtain ⟨lu, hu⟩ := tab_rows mrow
          have lrow : row.length = al.length - 1 := by rw [lu, ltl]
          have lras : ras.length = al.length - 1 := by rw [hra.1, lrow]
          have hne : ras.map V.ref ≠ [] := fun z => by
            have := congrArg List.length z
            rw [List.length_map, lras, List.length_nil] at this
            omega
          have hrows : ∀ x ∈ st :: row, x.length = b := fun x hx => by
            rcases List.mem_cons.mp hx with rfl | hx
            · exact lst'
            · exact hu x hx
          -- the table of the start and the row
          have joined : ∀ (H7 : Hp) (v : Addr), Same H4 H7 → H7 v = some (.tup ([V.ref c] ++ ras.map V.ref)) → TabT H7 v (st :: row) := fun H7 v s7 hv =>
            ⟨c :: ras, hv, All2.cons (RowT.ts (same_ts s7) rc) (hra.mono fun _ _ z => RowT.ts (same_ts s7) z)⟩
          have size : ([V.ref c] : List V).length + (ras.map V.ref).length ≤ sizeLine := by
            rw [List.length_map, lras, List.length_singleton]
            exact Nat.le_trans (show 1 + (al.length - 1) ≤ 1000 by omega) (by decide)
          refine ⟨_, rfl, _, rfl, _, rfl, (by show 1 ≤ sizeLine; decide), fun v1 hv1 => ?_⟩
          have sv1 := same_new (o := .tup [.ref c]) hv1
          refine ⟨_, rfl, v1, g, [.ref c], ras.map V.ref, rfl, rfl, SqT.of upd_same, SqT.of (sv1 _ _ (s6 _ _ eg)), size, fun z => absurd z (by simp), fun _ z => absurd z hne, fun _ _ v2 hv2 => ?_⟩
          have sv2 := sv1.trans (same_new (o := .tup ([V.ref c] ++ ras.map V.ref)) hv2)
          have s47 := s6.trans sv2
          have s17 := s14.trans s47
          refine ⟨a, pa, v2, al, ps, st :: row, k, b, rfl, TabT.ts (same_ts s17) ⟨as, ha, hal⟩, PrsT.ts (same_ts s17) ⟨qs, hp, hps⟩, joined _ v2 s47 upd_same, by rw [List.length_cons, lrow]; omega, G.pr, G.ser.len, hrows, by have := G.ser.k5; omega, by have := G.b8; omega, by have := G.pl; omega, fun H8 v3 s8 hv3 => ?_⟩
          have s48 := s47.trans s8
          have s18 := s17.trans s8
          refine ⟨v3, _, rfl, .inr (SqT.of hv3), _, rfl, pa, _, rfl, .inr (SqT.of (s18 _ _ hp)), rfl, _, rfl, ?_⟩
          rw [List.length_map, List.length_map, hps.1]
          refine ite2 (fun h => ?_) (fun h => ?_)
          · have hk : lawKeeps al ps (st :: row) = true := by
              have := V.int.inj (of_decide_eq_true h)
              exact decide_eq_true (by omega)
            refine ⟨_, rfl, (by show 1 ≤ sizeLine; decide), fun v4 hv4 => ?_⟩
            have sv4 := same_new (o := .tup [.ref c]) hv4
            refine ⟨_, rfl, v4, g, [.ref c], ras.map V.ref, rfl, rfl, SqT.of upd_same, SqT.of (sv4 _ _ (s48 _ _ eg)), size, fun z => absurd z (by simp), fun _ z => absurd z hne, fun _ _ v5 hv5 => ?_⟩
            have sv5 := sv4.trans (same_new (o := .tup ([V.ref c] ++ ras.map V.ref)) hv5)
            refine q2 _ v5 (st :: row) (s18.trans sv5) ?_ (joined _ v5 (s48.trans sv5) upd_same)
            rw [hL]
            exact some_part ih hstart (by rw [find_part jh hrow hk]; rfl)
          · have hk : lawKeeps al ps (st :: row) = false := by
              refine decide_eq_false fun z => h ?_
              rw [z]
              exact decide_eq_true rfl
            refine ⟨⟨_, rfl⟩, s48, fun r hr' => ?_⟩
            rw [etr] at hr'
            rcases List.mem_append.mp hr' with hr' | hr'
            · exact jh r hr'
            · rw [List.mem_singleton.mp hr']
              exact hk
        · subst eσ
          refine ⟨⟨_, _, rfl⟩, s6, fun x hx => ?_⟩
          rw [et] at hx
          rcases List.mem_append.mp hx with hx | hx
          · exact ih x hx
          · rw [List.mem_singleton.mp hx]
            have hn : (tabsL k b al.tail).find? (fun r => lawKeeps al ps (st :: r)) = none := by
              rw [List.find?_eq_none]
              intro r hr'
              rw [jh r (by rw [List.length_map, aR4.1, List.take_length]; exact hr')]
              decide
            rw [hn]
            rfl
      · subst eσ
        refine q1 H5 (s14.trans s5) ?_
        rw [hL]
        unfold firstL
        rw [List.findSome?_eq_none_iff]
        intro x hx
        exact ih x (by rw [List.length_map, aS.1, List.take_length]; exact hx)
theorem rep_tab {H : Hp} {x y : Addr} {t : Tab} (h1 : TabT H x t) (h2 : TabT H y t) (hn : t.length ≤ 1000) (hr : ∀ r ∈ t, r.length ≤ 1000) : Rep 2 H (.ref x) (.ref y) := by
  obtain ⟨as, e1, a1⟩ := h1
  obtain ⟨cs, e2, a2⟩ := h2
  refine ⟨x, y, _, _, rfl, rfl, e1, e2, by rw [List.length_map, List.length_map, a1.1, a2.1], by rw [List.length_map, a2.1]; exact hn, fun i u v hu hv => ?_⟩
  obtain ⟨a, rfl, ha⟩ := ref_item hu
  obtain ⟨c, rfl, hc⟩ := ref_item hv
  have hi : i < t.length := by rw [← a1.1]; exact (List.getElem?_eq_some_iff.mp ha).1
  have g1 : RowT H a t[i] := a1.2 i a _ ha (List.getElem?_eq_getElem hi)
  have g2 : RowT H c t[i] := a2.2 i c _ hc (List.getElem?_eq_getElem hi)
  refine ⟨a, c, _, _, rfl, rfl, g1, g2, rfl, by rw [List.length_map]; exact hr _ (List.getElem_mem hi), fun j u v hu hv => ?_⟩
  rw [hu] at hv
  cases hv
  obtain ⟨n, rfl, _⟩ := iv_item hu
  exact ⟨n, rfl, rfl⟩
def sp_law (K : PySem.W.Frag) : Sp := fun vs H Q _ => ∃ (a : Addr) (ns : List Int), vs = [.ref a] ∧ SqL K H a (ns.map V.int) ∧ ns.length ≤ 63 ∧ ∀ H', Q (.bl true) H'
theorem ok_law {f : Addr} {fd : FuncData} (F : Fun K "law" "law" s_law f fd) (C_l_stream : Callee P w K mg base "_law_stream" 1 ["_law_script"] (sp_stream K)) (C_l_plan : Callee P w K mg base "_law_plan" 5 ["_law_stream_here"] sp_plan)
    (C_first_table : Callee P w K mg base "first_table" 23 ["allocations", "pairs"] (sp_table K)) (C_l_first : Callee P w K mg base "_law_first" 3 ["_law_allocations", "_law_pairs_here"] (sp_first K))
    (C_l_equal : Callee P w K mg base "_law_equal" 5 ["_law_actual", "_law_due"] (sp_equal 2)) : FnOk P w K mg base CX0 24 f fd ["_law_script"] (sp_law K) := by
  refine F.ok sc_law (fun vs H Q E h => ?_) (fun cdv A outer s H vs Q E hr h => ?_)
  · obtain ⟨_, _, rfl, _⟩ := h
    rfl
  · obtain ⟨a, ns, rfl, hS, hn, q⟩ := h
    refine ⟨_, (pss_cons (ps_set (i := 1) sc_law.nd rfl (.inl rfl) (pe_cd C_l_stream (hr.mono (by omega)) (by rfl) (pa_cons (pv 0) pa_nil)))
        (pss_cons (ps_asg (pe_cd C_l_plan (hr.mono (by omega)) (by rfl) (pa_cons (pv 1) pa_nil)) (pg_tup rfl (pgs_cons (pg_name (i := 2) sc_law.nd rfl (.inl rfl)) (pgs_cons (pg_name (i := 3) sc_law.nd rfl (.inl rfl)) pgs_nil))))
        (pss_one (ps_ret (pe_cd C_l_equal (hr.mono (by omega)) (by rfl) (pa_cons (pe_cd C_first_table (hr.mono (by omega)) (by rfl) (pa_cons (pv 2) (pa_cons (pv 3) pa_nil))) (pa_cons (pe_cd C_l_first (hr.mono (by omega)) (by rfl) (pa_cons (pv 2) (pa_cons (pv 3) pa_nil))) pa_nil))))))), ?_⟩
    refine ⟨_, rfl, a, ns, rfl, hS, hn, fun H1 S L s1 fS fL st => ?_⟩
    refine ⟨_, rfl, S, L, rfl, st, fun H2 p al ps k b s2 st2 hpl G => ?_⟩
    obtain ⟨a1, pa, ep, ta, tp⟩ := hpl
    refine ⟨p, [.ref a1, .ref pa], rfl, SqT.of ep, rfl, .ref a1, [.ref pa], rfl, .ref pa, [], rfl, rfl, ?_⟩
    have hEq := lawFirst_eq G.good G.ok
    refine ⟨_, rfl, _, rfl, a1, pa, al, ps, k, b, rfl, ta, tp, G, fun H3 s3 e3 => ?_, fun H3 p3 t s3 e3 h3 => ?_⟩
    · refine ⟨_, rfl, _, rfl, a1, pa, al, ps, k, b, rfl, TabT.ts (same_ts s3) ta, PrsT.ts (same_ts s3) tp, G, fun H4 s4 e4 => ?_, fun H4 p4 t4 s4 e4 h4 => ?_⟩
      · exact ⟨_, _, rfl, .inl ⟨rfl, rfl⟩, fun H5 s5 => q H5⟩
      · rw [hEq, e3] at e4
        cases e4
    · refine ⟨_, rfl, _, rfl, a1, pa, al, ps, k, b, rfl, TabT.ts (same_ts s3) ta, PrsT.ts (same_ts s3) tp, G, fun H4 s4 e4 => ?_, fun H4 p4 t4 s4 e4 h4 => ?_⟩
      · rw [hEq, e3] at e4
        cases e4
      · rw [hEq, e3] at e4
        cases e4
        have mt : t ∈ tabsFrom k b al [] := List.mem_of_find?_eq_some e3
        obtain ⟨lu, hu⟩ := tab_rows mt
        refine ⟨_, _, rfl, .inr (rep_tab (TabT.ts (same_ts s4) h3) h4 (by have := G.n5; omega) fun r hr' => ?_), fun H5 s5 => q H5⟩
        have := hu r hr'
        have := G.b8
        omega
end
end Ft

namespace Ft
open PySem PySem.Spec PyProof.Rows L2
/-! ### what the top has written -/
structure Top (K : PySem.W.Frag) (mg : Str → Option Value) (C : Addr) : Prop where
  bt : Bt mg
  ks : Ks mg
  z : ClF K C
  i_init : InitAt K mg "Filling" C "Filling.__init__" s_init ["self", "allocations", "pairs"]
  m_fits : MethAt K C "fits" "Filling.fits" s_fits ["self", "at", "variant"]
  m_fill : MethAt K C "fill" "Filling.fill" s_fill ["self", "at"]
  d_is_whole : DefAt K mg "is_whole" s_is_whole ["value"]
  d_is_between : DefAt K mg "is_between" s_is_between ["value", "low", "high"]
  d_is_allocation : DefAt K mg "is_allocation" s_is_allocation ["value", "variants", "buckets"]
  d_is_series : DefAt K mg "is_series" s_is_series ["value", "most"]
  d_check_series : DefAt K mg "check_series" s_check_series ["allocations", "most"]
  d_is_needless : DefAt K mg "is_needless" s_is_needless ["before", "behind", "old", "new"]
  d_is_pair : DefAt K mg "is_pair" s_is_pair ["value", "many"]
  d_check_plan : DefAt K mg "check_plan" s_check_plan ["allocations", "pairs"]
  d_check_search : DefAt K mg "check_search" s_check_search ["allocations", "pairs"]
  d_table_keeping : DefAt K mg "table_keeping" s_table_keeping ["allocations", "pairs"]
  d_first_table : DefAt K mg "first_table" s_first_table ["allocations", "pairs"]
  d_l_stream : DefAt K mg "_law_stream" s_l_stream ["_law_script"]
  d_l_next : DefAt K mg "_law_next" s_l_next ["_law_stream_here", "_law_many"]
  d_l_is_integer : DefAt K mg "_law_is_integer" s_l_is_integer ["_law_actual"]
  d_l_equal : DefAt K mg "_law_equal" s_l_equal ["_law_actual", "_law_due"]
  d_l_allocation : DefAt K mg "_law_allocation" s_l_allocation ["_law_stream_here", "_law_variants", "_law_buckets"]
  d_l_near : DefAt K mg "_law_near" s_l_near ["_law_stream_here", "_law_allocation_here"]
  d_l_series : DefAt K mg "_law_series" s_l_series ["_law_stream_here", "_law_variants", "_law_buckets", "_law_many"]
  d_l_assignments : DefAt K mg "_law_assignments" s_l_assignments ["_law_allocation_here"]
  d_l_transfer : DefAt K mg "_law_transfer" s_l_transfer ["_law_first_here", "_law_second"]
  d_l_churn : DefAt K mg "_law_churn" s_l_churn ["_law_first_here", "_law_second"]
  d_l_all_pairs : DefAt K mg "_law_all_pairs" s_l_all_pairs ["_law_many"]
  d_l_pairs : DefAt K mg "_law_pairs" s_l_pairs ["_law_stream_here", "_law_many", "_law_most"]
  d_l_kept : DefAt K mg "_law_kept" s_l_kept ["_law_allocations", "_law_pairs_here", "_law_table"]
  d_l_tables : DefAt K mg "_law_tables" s_l_tables ["_law_allocations"]
  d_l_small_plan : DefAt K mg "_law_small_plan" s_l_small_plan ["_law_stream_here"]
  d_l_ring_plan : DefAt K mg "_law_ring_plan" s_l_ring_plan ["_law_stream_here"]
  d_l_plan : DefAt K mg "_law_plan" s_l_plan ["_law_stream_here"]
  d_l_first : DefAt K mg "_law_first" s_l_first ["_law_allocations", "_law_pairs_here"]
section
variable {P : Program} {w : World} {K : PySem.W.Frag} {mg : Str → Option Value} {base : Heap}
theorem chain {C f : Addr} {fd : FuncData} (T : Top K mg C) (F : Fun K "law" "law" s_law f fd) : FnOk P w K mg base CX0 24 f fd ["_law_script"] (sp_law K) := by
  have C_is_whole := ok_is_whole (P := P) (w := w) (base := base) T.d_is_whole T.bt
  have C_is_between := ok_is_between (P := P) (w := w) (base := base) T.d_is_between T.bt C_is_whole
  have C_is_allocation := ok_is_allocation (P := P) (w := w) (base := base) T.d_is_allocation T.bt C_is_whole
  have C_is_series := ok_is_series (P := P) (w := w) (base := base) T.d_is_series T.bt T.ks C_is_between C_is_allocation
  have C_check_series := ok_check_series (P := P) (w := w) (base := base) T.d_check_series C_is_series
  have C_is_needless := ok_is_needless (P := P) (w := w) (base := base) T.d_is_needless 
  have C_is_pair := ok_is_pair (P := P) (w := w) (base := base) T.d_is_pair T.bt C_is_between
  have C_check_plan := ok_check_plan (P := P) (w := w) (base := base) T.d_check_plan T.bt T.ks C_check_series C_is_pair
  have C_check_search := ok_check_search (P := P) (w := w) (base := base) T.d_check_search T.bt T.ks C_check_plan
  have C_init := ok_init (P := P) (w := w) (base := base) T.i_init T.bt T.z
  have C_fits := ok_fits (P := P) (w := w) (base := base) T.m_fits T.bt T.z C_is_needless
  have C_fill := ok_fill (P := P) (w := w) (base := base) T.m_fill T.bt T.z C_fits
  have C_table_keeping := ok_table_keeping (P := P) (w := w) (base := base) T.d_table_keeping T.bt T.z C_init (C_fill 18)
  have C_first_table := ok_first_table (P := P) (w := w) (base := base) T.d_first_table C_check_search C_table_keeping
  have C_l_stream := ok_stream (P := P) (w := w) (base := base) T.d_l_stream T.bt
  have C_l_next := ok_next (P := P) (w := w) (base := base) T.d_l_next T.bt
  have C_l_is_integer := ok_is_integer (P := P) (w := w) (base := base) T.d_l_is_integer T.bt
  have C_l_equal := ok_equal (P := P) (w := w) (base := base) T.d_l_equal T.bt C_l_is_integer
  have C_l_allocation := ok_allocation (P := P) (w := w) (base := base) T.d_l_allocation T.bt C_l_next
  have C_l_near := ok_near (P := P) (w := w) (base := base) T.d_l_near T.bt C_l_next
  have C_l_series := ok_series (P := P) (w := w) (base := base) T.d_l_series T.bt C_l_next C_l_allocation C_l_near
  have C_l_assignments := ok_assignments (P := P) (w := w) (base := base) T.d_l_assignments T.bt
  have C_l_transfer := ok_transfer (P := P) (w := w) (base := base) T.d_l_transfer T.bt
  have C_l_churn := ok_churn (P := P) (w := w) (base := base) T.d_l_churn T.bt
  have C_l_kept := ok_kept (P := P) (w := w) (base := base) T.d_l_kept T.bt C_l_churn C_l_transfer
  have C_l_all_pairs := ok_all_pairs (P := P) (w := w) (base := base) T.d_l_all_pairs T.bt
  have C_l_pairs := ok_pairs (P := P) (w := w) (base := base) T.d_l_pairs T.bt C_l_next C_l_all_pairs
  have C_l_tables := ok_tables (P := P) (w := w) (base := base) T.d_l_tables T.bt C_l_assignments
  have C_l_small_plan := ok_small_plan (P := P) (w := w) (base := base) T.d_l_small_plan T.bt C_l_next C_l_series C_l_pairs
  have C_l_ring_plan := ok_ring_plan (P := P) (w := w) (base := base) T.d_l_ring_plan T.bt C_l_next
  have C_l_plan := ok_plan (P := P) (w := w) (base := base) T.d_l_plan T.bt C_l_next C_l_ring_plan C_l_small_plan
  have C_l_first := ok_first (P := P) (w := w) (base := base) T.d_l_first T.bt C_l_tables C_l_assignments C_l_kept
  exact ok_law F C_l_stream C_l_plan C_first_table C_l_first (C_l_equal 2)
end
section
variable {K : PySem.W.Frag} {mg : Str → Option Value} {h : Heap} {x qual : Str} {st : Stmt} {ps : List Str} {f C : Addr} {oc kV dc pm cd ct : Value} {od an : Option Addr} {sl : Array (Option Value)}
theorem def_mk (X : K.In h) (G : h.Ns mainGlobals mg) (a : PySem.W.nsIn K mainGlobals x = some (some (.ref f))) (l : K.lookup f = some ⟨oc, od, .func (PySem.W.fnOf x x (defArgs st) (defBody st) (defScope st) .none kV dc pm an cd ct), sl⟩)
    (c : PySem.W.codeIn K cd x = true) (k : PySem.W.keepIn K (.ref f) = true)
    (b : ∀ (kV doc pm : Value) (an : Option Addr) (cdv ct : Value) (us : List Value), us.length = ps.length → bindArgs (PySem.W.fnOf x x (defArgs st) (defBody st) (defScope st) .none kV doc pm an cdv ct) ⟨us, []⟩ = pure (ps.zip us)) : DefAt K mg x st ps :=
  ⟨f, _, fun_mk l c k, PySem.W.mg_of X G a, (fun_mk l c k).binds b⟩
theorem meth_mk (a : PySem.W.findIn K (.ref C) x = some (some (.ref f))) (i : PySem.W.isFn K (.ref f) = true) (l : K.lookup f = some ⟨oc, od, .func (PySem.W.fnOf x qual (defArgs st) (defBody st) (defScope st) .none kV dc pm an cd ct), sl⟩)
    (c : PySem.W.codeIn K cd qual = true) (k : PySem.W.keepIn K (.ref f) = true)
    (b : ∀ (kV doc pm : Value) (an : Option Addr) (cdv ct : Value) (us : List Value), us.length = ps.length → bindArgs (PySem.W.fnOf x qual (defArgs st) (defBody st) (defScope st) .none kV doc pm an cdv ct) ⟨us, []⟩ = pure (ps.zip us)) : MethAt K C x qual st ps :=
  ⟨f, _, fun_mk l c k, ⟨a, i, k⟩, (fun_mk l c k).binds b⟩
theorem init_mk {y : Str} (hm : mg y = some (.ref C)) (m : PySem.W.makesIn K C = true) (kc : PySem.W.keepIn K (.ref C) = true) (a : PySem.W.findIn K (.ref C) "__init__" = some (some (.ref f))) (i : PySem.W.isFn K (.ref f) = true)
    (l : K.lookup f = some ⟨oc, od, .func (PySem.W.fnOf "__init__" qual (defArgs st) (defBody st) (defScope st) .none kV dc pm an cd ct), sl⟩) (c : PySem.W.codeIn K cd qual = true) (k : PySem.W.keepIn K (.ref f) = true)
    (b : ∀ (kV doc pm : Value) (an : Option Addr) (cdv ct : Value) (us : List Value), us.length = ps.length → bindArgs (PySem.W.fnOf "__init__" qual (defArgs st) (defBody st) (defScope st) .none kV doc pm an cdv ct) ⟨us, []⟩ = pure (ps.zip us)) : InitAt K mg y C qual st ps :=
  ⟨f, _, fun_mk l c k, hm, ⟨m, a, i, kc⟩, (fun_mk l c k).binds b⟩
end
theorem b_is_whole : ∀ (kV doc pm : Value) (an : Option Addr) (cdv ct : Value) (us : List Value), us.length = (["value"] : List Str).length → bindArgs (PySem.W.fnOf "is_whole" "is_whole" (defArgs s_is_whole) (defBody s_is_whole) (defScope s_is_whole) .none kV doc pm an cdv ct) ⟨us, []⟩ = pure ((["value"] : List Str).zip us) :=
  fun _ _ _ _ _ _ us hl => match us, hl with | [_], _ => rfl
theorem b_is_between : ∀ (kV doc pm : Value) (an : Option Addr) (cdv ct : Value) (us : List Value), us.length = (["value", "low", "high"] : List Str).length → bindArgs (PySem.W.fnOf "is_between" "is_between" (defArgs s_is_between) (defBody s_is_between) (defScope s_is_between) .none kV doc pm an cdv ct) ⟨us, []⟩ = pure ((["value", "low", "high"] : List Str).zip us) :=
  fun _ _ _ _ _ _ us hl => match us, hl with | [_, _, _], _ => rfl
theorem b_is_allocation : ∀ (kV doc pm : Value) (an : Option Addr) (cdv ct : Value) (us : List Value), us.length = (["value", "variants", "buckets"] : List Str).length → bindArgs (PySem.W.fnOf "is_allocation" "is_allocation" (defArgs s_is_allocation) (defBody s_is_allocation) (defScope s_is_allocation) .none kV doc pm an cdv ct) ⟨us, []⟩ = pure ((["value", "variants", "buckets"] : List Str).zip us) :=
  fun _ _ _ _ _ _ us hl => match us, hl with | [_, _, _], _ => rfl
theorem b_is_series : ∀ (kV doc pm : Value) (an : Option Addr) (cdv ct : Value) (us : List Value), us.length = (["value", "most"] : List Str).length → bindArgs (PySem.W.fnOf "is_series" "is_series" (defArgs s_is_series) (defBody s_is_series) (defScope s_is_series) .none kV doc pm an cdv ct) ⟨us, []⟩ = pure ((["value", "most"] : List Str).zip us) :=
  fun _ _ _ _ _ _ us hl => match us, hl with | [_, _], _ => rfl
theorem b_check_series : ∀ (kV doc pm : Value) (an : Option Addr) (cdv ct : Value) (us : List Value), us.length = (["allocations", "most"] : List Str).length → bindArgs (PySem.W.fnOf "check_series" "check_series" (defArgs s_check_series) (defBody s_check_series) (defScope s_check_series) .none kV doc pm an cdv ct) ⟨us, []⟩ = pure ((["allocations", "most"] : List Str).zip us) :=
  fun _ _ _ _ _ _ us hl => match us, hl with | [_, _], _ => rfl
theorem b_is_needless : ∀ (kV doc pm : Value) (an : Option Addr) (cdv ct : Value) (us : List Value), us.length = (["before", "behind", "old", "new"] : List Str).length → bindArgs (PySem.W.fnOf "is_needless" "is_needless" (defArgs s_is_needless) (defBody s_is_needless) (defScope s_is_needless) .none kV doc pm an cdv ct) ⟨us, []⟩ = pure ((["before", "behind", "old", "new"] : List Str).zip us) :=
  fun _ _ _ _ _ _ us hl => match us, hl with | [_, _, _, _], _ => rfl
theorem b_is_pair : ∀ (kV doc pm : Value) (an : Option Addr) (cdv ct : Value) (us : List Value), us.length = (["value", "many"] : List Str).length → bindArgs (PySem.W.fnOf "is_pair" "is_pair" (defArgs s_is_pair) (defBody s_is_pair) (defScope s_is_pair) .none kV doc pm an cdv ct) ⟨us, []⟩ = pure ((["value", "many"] : List Str).zip us) :=
  fun _ _ _ _ _ _ us hl => match us, hl with | [_, _], _ => rfl
theorem b_check_plan : ∀ (kV doc pm : Value) (an : Option Addr) (cdv ct : Value) (us : List Value), us.length = (["allocations", "pairs"] : List Str).length → bindArgs (PySem.W.fnOf "check_plan" "check_plan" (defArgs s_check_plan) (defBody s_check_plan) (defScope s_check_plan) .none kV doc pm an cdv ct) ⟨us, []⟩ = pure ((["allocations", "pairs"] : List Str).zip us) :=
  fun _ _ _ _ _ _ us hl => match us, hl with | [_, _], _ => rfl
theorem b_check_search : ∀ (kV doc pm : Value) (an : Option Addr) (cdv ct : Value) (us : List Value), us.length = (["allocations", "pairs"] : List Str).length → bindArgs (PySem.W.fnOf "check_search" "check_search" (defArgs s_check_search) (defBody s_check_search) (defScope s_check_search) .none kV doc pm an cdv ct) ⟨us, []⟩ = pure ((["allocations", "pairs"] : List Str).zip us) :=
  fun _ _ _ _ _ _ us hl => match us, hl with | [_, _], _ => rfl
theorem b_table_keeping : ∀ (kV doc pm : Value) (an : Option Addr) (cdv ct : Value) (us : List Value), us.length = (["allocations", "pairs"] : List Str).length → bindArgs (PySem.W.fnOf "table_keeping" "table_keeping" (defArgs s_table_keeping) (defBody s_table_keeping) (defScope s_table_keeping) .none kV doc pm an cdv ct) ⟨us, []⟩ = pure ((["allocations", "pairs"] : List Str).zip us) :=
  fun _ _ _ _ _ _ us hl => match us, hl with | [_, _], _ => rfl
theorem b_first_table : ∀ (kV doc pm : Value) (an : Option Addr) (cdv ct : Value) (us : List Value), us.length = (["allocations", "pairs"] : List Str).length → bindArgs (PySem.W.fnOf "first_table" "first_table" (defArgs s_first_table) (defBody s_first_table) (defScope s_first_table) .none kV doc pm an cdv ct) ⟨us, []⟩ = pure ((["allocations", "pairs"] : List Str).zip us) :=
  fun _ _ _ _ _ _ us hl => match us, hl with | [_, _], _ => rfl
theorem b_l_stream : ∀ (kV doc pm : Value) (an : Option Addr) (cdv ct : Value) (us : List Value), us.length = (["_law_script"] : List Str).length → bindArgs (PySem.W.fnOf "_law_stream" "_law_stream" (defArgs s_l_stream) (defBody s_l_stream) (defScope s_l_stream) .none kV doc pm an cdv ct) ⟨us, []⟩ = pure ((["_law_script"] : List Str).zip us) :=
  fun _ _ _ _ _ _ us hl => match us, hl with | [_], _ => rfl
theorem b_l_next : ∀ (kV doc pm : Value) (an : Option Addr) (cdv ct : Value) (us : List Value), us.length = (["_law_stream_here", "_law_many"] : List Str).length → bindArgs (PySem.W.fnOf "_law_next" "_law_next" (defArgs s_l_next) (defBody s_l_next) (defScope s_l_next) .none kV doc pm an cdv ct) ⟨us, []⟩ = pure ((["_law_stream_here", "_law_many"] : List Str).zip us) :=
  fun _ _ _ _ _ _ us hl => match us, hl with | [_, _], _ => rfl
theorem b_l_is_integer : ∀ (kV doc pm : Value) (an : Option Addr) (cdv ct : Value) (us : List Value), us.length = (["_law_actual"] : List Str).length → bindArgs (PySem.W.fnOf "_law_is_integer" "_law_is_integer" (defArgs s_l_is_integer) (defBody s_l_is_integer) (defScope s_l_is_integer) .none kV doc pm an cdv ct) ⟨us, []⟩ = pure ((["_law_actual"] : List Str).zip us) :=
  fun _ _ _ _ _ _ us hl => match us, hl with | [_], _ => rfl
theorem b_l_equal : ∀ (kV doc pm : Value) (an : Option Addr) (cdv ct : Value) (us : List Value), us.length = (["_law_actual", "_law_due"] : List Str).length → bindArgs (PySem.W.fnOf "_law_equal" "_law_equal" (defArgs s_l_equal) (defBody s_l_equal) (defScope s_l_equal) .none kV doc pm an cdv ct) ⟨us, []⟩ = pure ((["_law_actual", "_law_due"] : List Str).zip us) :=
  fun _ _ _ _ _ _ us hl => match us, hl with | [_, _], _ => rfl
theorem b_l_allocation : ∀ (kV doc pm : Value) (an : Option Addr) (cdv ct : Value) (us : List Value), us.length = (["_law_stream_here", "_law_variants", "_law_buckets"] : List Str).length → bindArgs (PySem.W.fnOf "_law_allocation" "_law_allocation" (defArgs s_l_allocation) (defBody s_l_allocation) (defScope s_l_allocation) .none kV doc pm an cdv ct) ⟨us, []⟩ = pure ((["_law_stream_here", "_law_variants", "_law_buckets"] : List Str).zip us) :=
  fun _ _ _ _ _ _ us hl => match us, hl with | [_, _, _], _ => rfl
theorem b_l_near : ∀ (kV doc pm : Value) (an : Option Addr) (cdv ct : Value) (us : List Value), us.length = (["_law_stream_here", "_law_allocation_here"] : List Str).length → bindArgs (PySem.W.fnOf "_law_near" "_law_near" (defArgs s_l_near) (defBody s_l_near) (defScope s_l_near) .none kV doc pm an cdv ct) ⟨us, []⟩ = pure ((["_law_stream_here", "_law_allocation_here"] : List Str).zip us) :=
  fun _ _ _ _ _ _ us hl => match us, hl with | [_, _], _ => rfl
theorem b_l_series : ∀ (kV doc pm : Value) (an : Option Addr) (cdv ct : Value) (us : List Value), us.length = (["_law_stream_here", "_law_variants", "_law_buckets", "_law_many"] : List Str).length → bindArgs (PySem.W.fnOf "_law_series" "_law_series" (defArgs s_l_series) (defBody s_l_series) (defScope s_l_series) .none kV doc pm an cdv ct) ⟨us, []⟩ = pure ((["_law_stream_here", "_law_variants", "_law_buckets", "_law_many"] : List Str).zip us) :=
  fun _ _ _ _ _ _ us hl => match us, hl with | [_, _, _, _], _ => rfl
theorem b_l_assignments : ∀ (kV doc pm : Value) (an : Option Addr) (cdv ct : Value) (us : List Value), us.length = (["_law_allocation_here"] : List Str).length → bindArgs (PySem.W.fnOf "_law_assignments" "_law_assignments" (defArgs s_l_assignments) (defBody s_l_assignments) (defScope s_l_assignments) .none kV doc pm an cdv ct) ⟨us, []⟩ = pure ((["_law_allocation_here"] : List Str).zip us) :=
  fun _ _ _ _ _ _ us hl => match us, hl with | [_], _ => rfl
theorem b_l_transfer : ∀ (kV doc pm : Value) (an : Option Addr) (cdv ct : Value) (us : List Value), us.length = (["_law_first_here", "_law_second"] : List Str).length → bindArgs (PySem.W.fnOf "_law_transfer" "_law_transfer" (defArgs s_l_transfer) (defBody s_l_transfer) (defScope s_l_transfer) .none kV doc pm an cdv ct) ⟨us, []⟩ = pure ((["_law_first_here", "_law_second"] : List Str).zip us) :=
  fun _ _ _ _ _ _ us hl => match us, hl with | [_, _], _ => rfl
theorem b_l_churn : ∀ (kV doc pm : Value) (an : Option Addr) (cdv ct : Value) (us : List Value), us.length = (["_law_first_here", "_law_second"] : List Str).length → bindArgs (PySem.W.fnOf "_law_churn" "_law_churn" (defArgs s_l_churn) (defBody s_l_churn) (defScope s_l_churn) .none kV doc pm an cdv ct) ⟨us, []⟩ = pure ((["_law_first_here", "_law_second"] : List Str).zip us) :=
  fun _ _ _ _ _ _ us hl => match us, hl with | [_, _], _ => rfl
theorem b_l_all_pairs : ∀ (kV doc pm : Value) (an : Option Addr) (cdv ct : Value) (us : List Value), us.length = (["_law_many"] : List Str).length → bindArgs (PySem.W.fnOf "_law_all_pairs" "_law_all_pairs" (defArgs s_l_all_pairs) (defBody s_l_all_pairs) (defScope s_l_all_pairs) .none kV doc pm an cdv ct) ⟨us, []⟩ = pure ((["_law_many"] : List Str).zip us) :=
  fun _ _ _ _ _ _ us hl => match us, hl with | [_], _ => rfl
theorem b_l_pairs : ∀ (kV doc pm : Value) (an : Option Addr) (cdv ct : Value) (us : List Value), us.length = (["_law_stream_here", "_law_many", "_law_most"] : List Str).length → bindArgs (PySem.W.fnOf "_law_pairs" "_law_pairs" (defArgs s_l_pairs) (defBody s_l_pairs) (defScope s_l_pairs) .none kV doc pm an cdv ct) ⟨us, []⟩ = pure ((["_law_stream_here", "_law_many", "_law_most"] : List Str).zip us) :=
  fun _ _ _ _ _ _ us hl => match us, hl with | [_, _, _], _ => rfl
theorem b_l_kept : ∀ (kV doc pm : Value) (an : Option Addr) (cdv ct : Value) (us : List Value), us.length = (["_law_allocations", "_law_pairs_here", "_law_table"] : List Str).length → bindArgs (PySem.W.fnOf "_law_kept" "_law_kept" (defArgs s_l_kept) (defBody s_l_kept) (defScope s_l_kept) .none kV doc pm an cdv ct) ⟨us, []⟩ = pure ((["_law_allocations", "_law_pairs_here", "_law_table"] : List Str).zip us) :=
  fun _ _ _ _ _ _ us hl => match us, hl with | [_, _, _], _ => rfl
theorem b_l_tables : ∀ (kV doc pm : Value) (an : Option Addr) (cdv ct : Value) (us : List Value), us.length = (["_law_allocations"] : List Str).length → bindArgs (PySem.W.fnOf "_law_tables" "_law_tables" (defArgs s_l_tables) (defBody s_l_tables) (defScope s_l_tables) .none kV doc pm an cdv ct) ⟨us, []⟩ = pure ((["_law_allocations"] : List Str).zip us) :=
  fun _ _ _ _ _ _ us hl => match us, hl with | [_], _ => rfl
theorem b_l_small_plan : ∀ (kV doc pm : Value) (an : Option Addr) (cdv ct : Value) (us : List Value), us.length = (["_law_stream_here"] : List Str).length → bindArgs (PySem.W.fnOf "_law_small_plan" "_law_small_plan" (defArgs s_l_small_plan) (defBody s_l_small_plan) (defScope s_l_small_plan) .none kV doc pm an cdv ct) ⟨us, []⟩ = pure ((["_law_stream_here"] : List Str).zip us) :=
  fun _ _ _ _ _ _ us hl => match us, hl with | [_], _ => rfl
theorem b_l_ring_plan : ∀ (kV doc pm : Value) (an : Option Addr) (cdv ct : Value) (us : List Value), us.length = (["_law_stream_here"] : List Str).length → bindArgs (PySem.W.fnOf "_law_ring_plan" "_law_ring_plan" (defArgs s_l_ring_plan) (defBody s_l_ring_plan) (defScope s_l_ring_plan) .none kV doc pm an cdv ct) ⟨us, []⟩ = pure ((["_law_stream_here"] : List Str).zip us) :=
  fun _ _ _ _ _ _ us hl => match us, hl with | [_], _ => rfl
theorem b_l_plan : ∀ (kV doc pm : Value) (an : Option Addr) (cdv ct : Value) (us : List Value), us.length = (["_law_stream_here"] : List Str).length → bindArgs (PySem.W.fnOf "_law_plan" "_law_plan" (defArgs s_l_plan) (defBody s_l_plan) (defScope s_l_plan) .none kV doc pm an cdv ct) ⟨us, []⟩ = pure ((["_law_stream_here"] : List Str).zip us) :=
  fun _ _ _ _ _ _ us hl => match us, hl with | [_], _ => rfl
theorem b_l_first : ∀ (kV doc pm : Value) (an : Option Addr) (cdv ct : Value) (us : List Value), us.length = (["_law_allocations", "_law_pairs_here"] : List Str).length → bindArgs (PySem.W.fnOf "_law_first" "_law_first" (defArgs s_l_first) (defBody s_l_first) (defScope s_l_first) .none kV doc pm an cdv ct) ⟨us, []⟩ = pure ((["_law_allocations", "_law_pairs_here"] : List Str).zip us) :=
  fun _ _ _ _ _ _ us hl => match us, hl with | [_, _], _ => rfl
theorem b_init : ∀ (kV doc pm : Value) (an : Option Addr) (cdv ct : Value) (us : List Value), us.length = (["self", "allocations", "pairs"] : List Str).length → bindArgs (PySem.W.fnOf "__init__" "Filling.__init__" (defArgs s_init) (defBody s_init) (defScope s_init) .none kV doc pm an cdv ct) ⟨us, []⟩ = pure ((["self", "allocations", "pairs"] : List Str).zip us) :=
  fun _ _ _ _ _ _ us hl => match us, hl with | [_, _, _], _ => rfl
theorem b_fits : ∀ (kV doc pm : Value) (an : Option Addr) (cdv ct : Value) (us : List Value), us.length = (["self", "at", "variant"] : List Str).length → bindArgs (PySem.W.fnOf "fits" "Filling.fits" (defArgs s_fits) (defBody s_fits) (defScope s_fits) .none kV doc pm an cdv ct) ⟨us, []⟩ = pure ((["self", "at", "variant"] : List Str).zip us) :=
  fun _ _ _ _ _ _ us hl => match us, hl with | [_, _, _], _ => rfl
theorem b_fill : ∀ (kV doc pm : Value) (an : Option Addr) (cdv ct : Value) (us : List Value), us.length = (["self", "at"] : List Str).length → bindArgs (PySem.W.fnOf "fill" "Filling.fill" (defArgs s_fill) (defBody s_fill) (defScope s_fill) .none kV doc pm an cdv ct) ⟨us, []⟩ = pure ((["self", "at"] : List Str).zip us) :=
  fun _ _ _ _ _ _ us hl => match us, hl with | [_, _], _ => rfl
theorem law_mk {l : PySem.W.OpenLaw} {w : World} {K : PySem.W.Frag} {h : Heap} {mg : Str → Option Value} {fa C f : Addr} {oc kV dc pm cd ct : Value} {od an : Option Addr} {sl : Array (Option Value)} (X : K.In h) (G : h.Ns mainGlobals mg) (hfa : mg "law" = some (.ref fa))
    (a : PySem.W.nsIn K mainGlobals "law" = some (some (.ref f))) (lk : K.lookup f = some ⟨oc, od, .func (PySem.W.fnOf "law" "law" (defArgs s_law) (defBody s_law) (defScope s_law) .none kV dc pm an cd ct), sl⟩) (c : PySem.W.codeIn K cd "law" = true) (k : PySem.W.keepIn K (.ref f) = true)
    (T : Top K mg C) : ∃ fd : FuncData, (∀ (s : Shared) (v : Value), BindsTo s fd ⟨[v], []⟩ [("_law_script", v)]) ∧ ∀ base : Heap, K.In base → base.Ns mainGlobals mg → FnOk l.prog w K mg base CX0 24 fa fd ["_law_script"] (sp_law K) := by
  have e := hfa.symm.trans (PySem.W.mg_of X G a)
  cases e
  exact ⟨PySem.W.fnOf "law" "law" (defArgs s_law) (defBody s_law) (defScope s_law) .none kV dc pm an cd ct, fun s v => .of_eq rfl, fun base _ _ => chain T (fun_mk (st := s_law) lk c k)⟩
theorem walk {l : PySem.W.OpenLaw} {q : Program} {loose : List Str} {XP : (Str → Option Value) → Heap → Prop} {YP : World → Heap → Prop} {d : DefRec} {K : Params → PySem.W.Frag} (hn : l.most = some 63) (hdf : d.params.defaults = [])
    (hY : ∀ (w : World) (h : Heap), YP w h → (K w.params).In h)
    (F : ∀ (w : World) (mg : Str → Option Value) (fa : Addr) (h : Heap), (K w.params).In h → h.Ns mainGlobals mg → mg d.name = some (.ref fa) →
      ∃ fd : FuncData, (∀ (s : Shared) (u : Value), BindsTo s fd ⟨[u], []⟩ [("_law_script", u)]) ∧ ∀ base : Heap, (K w.params).In base → base.Ns mainGlobals mg → FnOk l.prog w (K w.params) mg base CX0 24 fa fd ["_law_script"] (sp_law (K w.params))) :
    PySem.W.WalkO q loose XP YP l.row.toRowW d [] (fun f vs => PySem.call f vs) :=
  L2.walk_of (n := 63) (k := 24) (x := "_law_script") (CX := fun _ => CX0) (sp := fun w => sp_law (K w.params)) hn (by decide) hdf ⟨rfl, by decide, by decide⟩ hY F (fun _ _ a ns hl _ hS => ⟨a, ns, rfl, hS, hl, fun _ => rfl⟩) fun _ _ _ _ _ z => z
end Ft

open PySem PySem.W PyProof.Rows in
set_option maxRecDepth 100000 in
set_option maxHeartbeats 0 in
theorem PySem.Challenge.cw_leastmoved_k39_whole_first_tables_holds : PySem.Challenge.rw_leastmoved_k39_whole_first_tables.Holds := by
  w_on; o_law; k_head; (case hw => w_witness2)
  k_fill
  refine Ft.walk (l := PySem.Challenge.rw_leastmoved_k39_whole_first_tables) rfl rfl (fun w h Y => PySem.W.kIn_of Y) ?F
  case F =>
    intro w mg fa h KX G hmg
    refine' Ft.law_mk KX G hmg ?a ?lk ?c ?k ?T
    (case a => k_is)
    (case lk => k_is)
    (case c => k_is)
    (case k => k_is)
    case T =>
      refine' Ft.Top.mk ?bt ?ks ?z ?ii ?mf ?ml ?d0 ?d1 ?d2 ?d3 ?d4 ?d5 ?d6 ?d7 ?d8 ?d9 ?d10 ?d11 ?d12 ?d13 ?d14 ?d15 ?d16 ?d17 ?d18 ?d19 ?d20 ?d21 ?d22 ?d23 ?d24 ?d25 ?d26 ?d27 ?d28
      (case bt => exact ⟨PySem.W.mg_none_of KX G (by k_is), PySem.W.mg_none_of KX G (by k_is), PySem.W.mg_none_of KX G (by k_is), PySem.W.mg_none_of KX G (by k_is), PySem.W.mg_none_of KX G (by k_is), PySem.W.mg_none_of KX G (by k_is), PySem.W.mg_none_of KX G (by k_is), PySem.W.mg_none_of KX G (by k_is), PySem.W.mg_none_of KX G (by k_is), PySem.W.mg_none_of KX G (by k_is), PySem.W.mg_none_of KX G (by k_is), PySem.W.mg_none_of KX G (by k_is), PySem.W.mg_none_of KX G (by k_is), PySem.W.mg_none_of KX G (by k_is)⟩)
      (case ks => exact ⟨⟨_, PySem.W.mg_of KX G (by k_is)⟩, ⟨_, PySem.W.mg_of KX G (by k_is)⟩, ⟨_, PySem.W.mg_of KX G (by k_is)⟩, ⟨_, PySem.W.mg_of KX G (by k_is)⟩, ⟨_, PySem.W.mg_of KX G (by k_is)⟩⟩)
      case ii =>
        refine' Ft.init_mk (PySem.W.mg_of KX G ?aC) ?m ?kc ?a ?i ?l ?c ?k Ft.b_init
        (case aC => k_is)
        (case m => k_is)
        (case kc => k_is)
        (case a => k_is)
        (case i => k_is)
        (case l => k_is)
        (case c => k_is)
        (case k => k_is)
      case z => exact ⟨⟨by k_is, by k_is, by k_is, by k_is⟩, (by unfold L2.NoAttr; k_is), (by unfold L2.NoAttr; k_is), (by unfold L2.NoAttr; k_is), (by unfold L2.NoAttr; k_is)⟩
      case mf =>
        refine' Ft.meth_mk ?a ?i ?l ?c ?k Ft.b_fits
        (case a => k_is)
        (case i => k_is)
        (case l => k_is)
        (case c => k_is)
        (case k => k_is)
      case ml =>
        refine' Ft.meth_mk ?a ?i ?l ?c ?k Ft.b_fill
        (case a => k_is)
        (case i => k_is)
        (case l => k_is)
        (case c => k_is)
        (case k => k_is)
      case d0 =>
        refine' Ft.def_mk KX G ?a ?l ?c ?k Ft.b_is_whole
        (case a => k_is)
        (case l => k_is)
        (case c => k_is)
        (case k => k_is)
      case d1 =>
        refine' Ft.def_mk KX G ?a ?l ?c ?k Ft.b_is_between
        (case a => k_is)
        (case l => k_is)
        (case c => k_is)
        (case k => k_is)
      case d2 =>
        refine' Ft.def_mk KX G ?a ?l ?c ?k Ft.b_is_allocation
        (case a => k_is)
        (case l => k_is)
        (case c => k_is)
        (case k => k_is)
      case d3 =>
        refine' Ft.def_mk KX G ?a ?l ?c ?k Ft.b_is_series
        (case a => k_is)
        (case l => k_is)
        (case c => k_is)
        (case k => k_is)
      case d4 =>
        refine' Ft.def_mk KX G ?a ?l ?c ?k Ft.b_check_series
        (case a => k_is)
        (case l => k_is)
        (case c => k_is)
        (case k => k_is)
      case d5 =>
        refine' Ft.def_mk KX G ?a ?l ?c ?k Ft.b_is_needless
        (case a => k_is)
        (case l => k_is)
        (case c => k_is)
        (case k => k_is)
      case d6 =>
        refine' Ft.def_mk KX G ?a ?l ?c ?k Ft.b_is_pair
        (case a => k_is)
        (case l => k_is)
        (case c => k_is)
        (case k => k_is)
      case d7 =>
        refine' Ft.def_mk KX G ?a ?l ?c ?k Ft.b_check_plan
        (case a => k_is)
        (case l => k_is)
        (case c => k_is)
        (case k => k_is)
      case d8 =>
        refine' Ft.def_mk KX G ?a ?l ?c ?k Ft.b_check_search
        (case a => k_is)
        (case l => k_is)
        (case c => k_is)
        (case k => k_is)
      case d9 =>
        refine' Ft.def_mk KX G ?a ?l ?c ?k Ft.b_table_keeping
        (case a => k_is)
        (case l => k_is)
        (case c => k_is)
        (case k => k_is)
      case d10 =>
        refine' Ft.def_mk KX G ?a ?l ?c ?k Ft.b_first_table
        (case a => k_is)
        (case l => k_is)
        (case c => k_is)
        (case k => k_is)
      case d11 =>
        refine' Ft.def_mk KX G ?a ?l ?c ?k Ft.b_l_stream
        (case a => k_is)
        (case l => k_is)
        (case c => k_is)
        (case k => k_is)
      case d12 =>
        refine' Ft.def_mk KX G ?a ?l ?c ?k Ft.b_l_next
        (case a => k_is)
        (case l => k_is)
        (case c => k_is)
        (case k => k_is)
      case d13 =>
        refine' Ft.def_mk KX G ?a ?l ?c ?k Ft.b_l_is_integer
        (case a => k_is)
        (case l => k_is)
        (case c => k_is)
        (case k => k_is)
      case d14 =>
        refine' Ft.def_mk KX G ?a ?l ?c ?k Ft.b_l_equal
        (case a => k_is)
        (case l => k_is)
        (case c => k_is)
        (case k => k_is)
      case d15 =>
        refine' Ft.def_mk KX G ?a ?l ?c ?k Ft.b_l_allocation
        (case a => k_is)
        (case l => k_is)
        (case c => k_is)
        (case k => k_is)
      case d16 =>
        refine' Ft.def_mk KX G ?a ?l ?c ?k Ft.b_l_near
        (case a => k_is)
        (case l => k_is)
        (case c => k_is)
        (case k => k_is)
      case d17 =>
        refine' Ft.def_mk KX G ?a ?l ?c ?k Ft.b_l_series
        (case a => k_is)
        (case l => k_is)
        (case c => k_is)
        (case k => k_is)
      case d18 =>
        refine' Ft.def_mk KX G ?a ?l ?c ?k Ft.b_l_assignments
        (case a => k_is)
        (case l => k_is)
        (case c => k_is)
        (case k => k_is)
      case d19 =>
        refine' Ft.def_mk KX G ?a ?l ?c ?k Ft.b_l_transfer
        (case a => k_is)
        (case l => k_is)
        (case c => k_is)
        (case k => k_is)
      case d20 =>
        refine' Ft.def_mk KX G ?a ?l ?c ?k Ft.b_l_churn
        (case a => k_is)
        (case l => k_is)
        (case c => k_is)
        (case k => k_is)
      case d21 =>
        refine' Ft.def_mk KX G ?a ?l ?c ?k Ft.b_l_all_pairs
        (case a => k_is)
        (case l => k_is)
        (case c => k_is)
        (case k => k_is)
      case d22 =>
        refine' Ft.def_mk KX G ?a ?l ?c ?k Ft.b_l_pairs
        (case a => k_is)
        (case l => k_is)
        (case c => k_is)
        (case k => k_is)
      case d23 =>
        refine' Ft.def_mk KX G ?a ?l ?c ?k Ft.b_l_kept
        (case a => k_is)
        (case l => k_is)
        (case c => k_is)
        (case k => k_is)
      case d24 =>
        refine' Ft.def_mk KX G ?a ?l ?c ?k Ft.b_l_tables
        (case a => k_is)
        (case l => k_is)
        (case c => k_is)
        (case k => k_is)
      case d25 =>
        refine' Ft.def_mk KX G ?a ?l ?c ?k Ft.b_l_small_plan
        (case a => k_is)
        (case l => k_is)
        (case c => k_is)
        (case k => k_is)
      case d26 =>
        refine' Ft.def_mk KX G ?a ?l ?c ?k Ft.b_l_ring_plan
        (case a => k_is)
        (case l => k_is)
        (case c => k_is)
        (case k => k_is)
      case d27 =>
        refine' Ft.def_mk KX G ?a ?l ?c ?k Ft.b_l_plan
        (case a => k_is)
        (case l => k_is)
        (case c => k_is)
        (case k => k_is)
      case d28 =>
        refine' Ft.def_mk KX G ?a ?l ?c ?k Ft.b_l_first
        (case a => k_is)
        (case l => k_is)
        (case c => k_is)
        (case k => k_is)
#print axioms PySem.Challenge.cw_leastmoved_k39_whole_first_tables_holds

