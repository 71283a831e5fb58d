import PyProof.Rows.All
import Wide.All
import OpenK.AllK
import Wide.FinOn
import HandS.ForMost
import KE.KDictKeyed
import KE.KeyNested
import KE.KDictItemsList
import KE.KDictDisplayH
import HandS.ListItems
import HandS.DictComp
import HandS.Evl
import HandS.IsInst
import KE.DataCmp
import PyProof.ReprRoads
import HandS.Steps
import PyProof.MinMaxWalk
import PyProof.WalkInts
import KE.SortData
import PySem.Challenge.RW_quotedback_k59_whole_first_list_that_par
set_option Elab.async false
set_option linter.all false
set_option maxRecDepth 100000
set_option maxHeartbeats 4000000
/-! Patterns and rows of filters, in plain Lean. -/
set_option autoImplicit false
namespace QB

abbrev Ln := List Nat

inductive Ent where
  | one (c : Nat)
  | any
  | lot
  | of (neg : Bool) (rs : List (Nat × Nat))

def Ent.isLot : Ent → Bool
  | .lot => true
  | _ => false
def Ent.takes (c : Nat) : Ent → Bool
  | .one d => decide (d = c)
  | .of neg rs => (rs.any fun r => decide (r.1 ≤ c) && decide (c ≤ r.2)) != neg
  | .any => true
  | .lot => true
abbrev Pat := List Ent

def lotAt (p : Pat) (i : Nat) : Bool := match p[i]? with
  | some e => e.isLot
  | none => false
def takesAt (p : Pat) (i c : Nat) : Bool := match p[i]? with
  | some e => e.takes c
  | none => false

def clo (p : Pat) (S : Nat → Bool) : Nat → Bool
  | 0 => S 0
  | j + 1 => S (j + 1) || (clo p S j && lotAt p j)
def mv (p : Pat) (R : Nat → Bool) (c : Nat) : Nat → Bool
  | 0 => lotAt p 0 && R 0
  | j + 1 => (lotAt p (j + 1) && R (j + 1)) || (!lotAt p j && R j && takesAt p j c)
def st0 : Nat → Bool := fun j => decide (j = 0)
def reachF (p : Pat) (w : Ln) : Nat → Bool := w.foldl (fun R c => clo p (mv p R c)) (clo p st0)
def meets (p : Pat) (w : Ln) : Bool := reachF p w p.length

/-! the program's own way: vectors -/
def vec (p : Pat) (R : Nat → Bool) : List Bool := (List.range (p.length + 1)).map R
def sr (p : Pat) : List Bool := vec p (clo p st0)
def adv (p : Pat) (r : List Bool) (c : Nat) : List Bool := vec p (clo p (mv p (fun i => r.getD i false) c))

theorem vec_len (p : Pat) (R : Nat → Bool) : (vec p R).length = p.length + 1 := by simp [vec]
theorem vec_get (p : Pat) (R : Nat → Bool) (i : Nat) (h : i ≤ p.length) : (vec p R).getD i false = R i := by
  have h' : i < p.length + 1 := by omega
  simp [vec, List.getD_eq_getElem?_getD, List.getElem?_map, List.getElem?_range, h']
theorem vec_last (p : Pat) (R : Nat → Bool) : (vec p R).getLastD false = R p.length := by
  simp [vec, List.range_succ, List.getLastD_eq_getLast?]
theorem vec_ext (p : Pat) (R R' : Nat → Bool) (h : ∀ i, i ≤ p.length → R i = R' i) : vec p R = vec p R' := by
  refine List.map_congr_left fun i hi => h i ?_
  have := List.mem_range.mp hi
  omega
theorem clo_ext (p : Pat) (S S' : Nat → Bool) (n : Nat) (h : ∀ i, i ≤ n → S i = S' i) : ∀ j, j ≤ n → clo p S j = clo p S' j
  | 0, hj => h 0 hj
  | j + 1, hj => by
    show (S (j + 1) || (clo p S j && lotAt p j)) = (S' (j + 1) || (clo p S' j && lotAt p j))
    rw [h (j + 1) hj, clo_ext p S S' n h j (by omega)]
theorem mv_ext (p : Pat) (R R' : Nat → Bool) (c n : Nat) (h : ∀ i, i ≤ n → R i = R' i) : ∀ j, j ≤ n → mv p R c j = mv p R' c j
  | 0, hj => by
    show (lotAt p 0 && R 0) = (lotAt p 0 && R' 0)
    rw [h 0 hj]
  | j + 1, hj => by
    show ((lotAt p (j + 1) && R (j + 1)) || (!lotAt p j && R j && takesAt p j c)) = ((lotAt p (j + 1) && R' (j + 1)) || (!lotAt p j && R' j && takesAt p j c))
    rw [h (j + 1) hj, h j (by omega)]
theorem adv_vec (p : Pat) (R : Nat → Bool) (c : Nat) : adv p (vec p R) c = vec p (clo p (mv p R c)) := by
  refine vec_ext p _ _ fun i hi => clo_ext p _ _ p.length (fun j hj => mv_ext p _ _ c p.length (fun k hk => vec_get p R k hk) j hj) i hi
theorem fold_adv (p : Pat) (t : Nat → Nat) : ∀ (w : Ln) (R : Nat → Bool), w.foldl (fun r c => adv p r (t c)) (vec p R) = vec p ((w.map t).foldl (fun R c => clo p (mv p R c)) R)
  | [], R => rfl
  | c :: w, R => by
    show w.foldl (fun r c => adv p r (t c)) (adv p (vec p R) (t c)) = _
    rw [adv_vec]
    exact fold_adv p t w _
theorem run_adv (p : Pat) (t : Nat → Nat) (w : Ln) : w.foldl (fun r c => adv p r (t c)) (sr p) = vec p (reachF p (w.map t)) := fold_adv p t w _
/-- only what the entries take matters -/
theorem adv_takes (p : Pat) (r : List Bool) (c c' : Nat) (h : ∀ e ∈ p, e.takes c = e.takes c') : adv p r c = adv p r c' := by
  have hm : ∀ j, takesAt p j c = takesAt p j c' := fun j => by
    unfold takesAt
    cases e : p[j]? with
    | none => rfl
    | some x => exact h x (List.mem_of_getElem? e)
  have : mv p (fun i => r.getD i false) c = mv p (fun i => r.getD i false) c' := by
    funext j
    cases j with
    | zero => rfl
    | succ j =>
      show ((lotAt p (j + 1) && _) || (!lotAt p j && _ && takesAt p j c)) = ((lotAt p (j + 1) && _) || (!lotAt p j && _ && takesAt p j c'))
      rw [hm]
  unfold adv
  rw [this]
theorem adv_head (p : Pat) (r : List Bool) (c : Nat) : ∃ v, adv p r c = (lotAt p 0 && r.getD 0 false) :: v ∧ v.length = p.length := by
  refine ⟨(List.range p.length).map (fun i => clo p (mv p (fun i => r.getD i false) c) (i + 1)), ?_, by simp⟩
  unfold adv vec
  rw [List.range_succ_eq_map, List.map_cons, List.map_map]
  rfl
theorem sr_head (p : Pat) : ∃ v, sr p = true :: v := by
  unfold sr vec
  rw [List.range_succ_eq_map, List.map_cons]
  exact ⟨_, rfl⟩

/-! the loops of the program as folds -/
/-- start_reach: what stands behind i entries -/
theorem sr_take (p : Pat) (i : Nat) (hi : i < p.length) : ((List.range (i + 2)).map (clo p st0)) = ((List.range (i + 1)).map (clo p st0)) ++ [((List.range (i + 1)).map (clo p st0)).getLastD false && (lotAt p i)] := by
  rw [List.range_succ (n := i + 1), List.map_append]
  congr 1
  rw [List.range_succ, List.map_append]
  simp [clo, st0, List.getLastD_eq_getLast?]
/-- advanced: the vector while place i is at work. Two writings a turn -/
def advA (p : Pat) (r : List Bool) (c : Nat) (i : Nat) (after : List Bool) : List Bool :=
  if r.getD i false && takesAt p i c then after.set (if lotAt p i then i else i + 1) true else after
def advB (p : Pat) (i : Nat) (after : List Bool) : List Bool :=
  if after.getD i false && lotAt p i then after.set (i + 1) true else after
def advT (p : Pat) (r : List Bool) (c : Nat) (i : Nat) (after : List Bool) : List Bool := advB p i (advA p r c i after)
/-- what stands at j behind the turns below i -/
def advAt (p : Pat) (r : List Bool) (c : Nat) (i j : Nat) : Bool :=
  if j < i then clo p (mv p (fun k => r.getD k false) c) j
  else if j = i then (match i with
    | 0 => false
    | k + 1 => (!lotAt p k && r.getD k false && takesAt p k c) || (clo p (mv p (fun k => r.getD k false) c) k && lotAt p k))
  else false
theorem lot_takes (p : Pat) (i c : Nat) (h : lotAt p i = true) : takesAt p i c = true := by
  unfold lotAt at h
  unfold takesAt
  cases e : p[i]? with
  | none => rw [e] at h; cases h
  | some x =>
    rw [e] at h
    cases x with
    | lot => rfl
    | one d => cases h
    | any => cases h
    | of a b => cases h
theorem getD_set (l : List Bool) (i j : Nat) (b : Bool) : (l.set i b).getD j false = if i = j ∧ j < l.length then b else l.getD j false := by
  simp only [List.getD_eq_getElem?_getD, List.getElem?_set]
  by_cases h : i = j
  · subst h
    by_cases h2 : i < l.length
    · simp [h2]
    · have : l[i]? = none := List.getElem?_eq_none_iff.mpr (by omega)
      simp [h2, this]
  · simp [h]
theorem advA_len (p : Pat) (r : List Bool) (c i : Nat) (a : List Bool) : (advA p r c i a).length = a.length := by
  unfold advA
  split <;> simp
theorem advB_len (p : Pat) (i : Nat) (a : List Bool) : (advB p i a).length = a.length := by
  unfold advB
  split <;> simp
theorem advT_at (p : Pat) (r : List Bool) (c i : Nat) (a : List Bool) (hi : i < p.length) (hl : a.length = p.length + 1) (ha : ∀ j, j ≤ p.length → a.getD j false = advAt p r c i j) :
    ∀ j, j ≤ p.length → (advT p r c i a).getD j false = advAt p r c (i + 1) j := by
  -- behind the first writing
  have hA : ∀ j, j ≤ p.length → (advA p r c i a).getD j false = if j = i then clo p (mv p (fun k => r.getD k false) c) i else if j = i + 1 then (!lotAt p i && r.getD i false && takesAt p i c) else advAt p r c i j := by
    intro j hj
    have hai := ha i (by omega)
    have hai1 := ha (i + 1) (by omega)
    have z1 : advAt p r c i (i + 1) = false := by
      unfold advAt
      rw [if_neg (by omega), if_neg (by omega)]
    have z0 : clo p (mv p (fun k => r.getD k false) c) i = ((lotAt p i && r.getD i false) || advAt p r c i i) := by
      unfold advAt
      rw [if_neg (by omega), if_pos rfl]
      cases i with
      | zero =>
        show (lotAt p 0 && r.getD 0 false) = _
        simp
      | succ k =>
        show (((lotAt p (k + 1) && r.getD (k + 1) false) || (!lotAt p k && r.getD k false && takesAt p k c)) || (clo p (mv p (fun k => r.getD k false) c) k && lotAt p k)) = ((lotAt p (k + 1) && r.getD (k + 1) false) || ((!lotAt p k && r.getD k false && takesAt p k c) || (clo p (mv p (fun k => r.getD k false) c) k && lotAt p k)))
        rw [Bool.or_assoc]
    unfold advA
    by_cases hc : (r.getD i false && takesAt p i c) = true
    · rw [if_pos hc, getD_set]
      have hr : r.getD i false = true := by
        cases h : r.getD i false with
        | true => rfl
        | false => rw [h] at hc; cases hc
      have ht : takesAt p i c = true := by
        rw [hr] at hc
        exact hc
      by_cases hlot : lotAt p i = true
      · rw [if_pos hlot]
        by_cases hji : j = i
        · subst hji
          rw [if_pos ⟨rfl, by omega⟩, if_pos rfl, z0, hlot, hr]
          rfl
        · rw [if_neg (fun z => hji z.1.symm), if_neg hji]
          by_cases hj1 : j = i + 1
          · subst hj1
            rw [if_pos rfl, hai1, z1, hlot]
            rfl
          · rw [if_neg hj1]
            exact ha j hj
      · rw [if_neg hlot]
        have hlf : lotAt p i = false := by simpa using hlot
        by_cases hji : j = i
        · subst hji
          rw [if_neg (fun z => by omega), if_pos rfl, z0, hlf, hai]
          simp
        · rw [if_neg hji]
          by_cases hj1 : j = i + 1
          · subst hj1
            rw [if_pos ⟨rfl, by omega⟩, if_pos rfl, hlf, hr, ht]
            rfl
          · rw [if_neg (fun z => hj1 z.1.symm), if_neg hj1]
            exact ha j hj
    · rw [if_neg hc]
      have hcf : (r.getD i false && takesAt p i c) = false := by simpa using hc
      by_cases hji : j = i
      · subst hji
        rw [if_pos rfl, z0]
        have : (lotAt p j && r.getD j false) = false := by
          cases hlot : lotAt p j with
          | false => rfl
          | true =>
            rw [lot_takes p j c hlot] at hcf
            cases h : r.getD j false with
            | false => rfl
            | true => rw [h] at hcf; cases hcf
        rw [this, hai]
        simp
      · rw [if_neg hji]
        by_cases hj1 : j = i + 1
        · subst hj1
          rw [if_pos rfl, hai1, z1, Bool.and_assoc, hcf]
          simp
        · rw [if_neg hj1]
          exact ha j hj
  intro j hj
  have hB : advT p r c i a = advB p i (advA p r c i a) := rfl
  rw [hB]
  have hi0 := hA i (by omega)
  rw [if_pos rfl] at hi0
  have fin : ∀ x, (if j = i then clo p (mv p (fun k => r.getD k false) c) i else if j = i + 1 then x else advAt p r c i j) = if j = i then clo p (mv p (fun k => r.getD k false) c) j else if j = i + 1 then x else advAt p r c i j := by
    intro x
    by_cases hji : j = i
    · rw [if_pos hji, if_pos hji, hji]
    · rw [if_neg hji, if_neg hji]
  have tgt : advAt p r c (i + 1) j = if j = i then clo p (mv p (fun k => r.getD k false) c) j else if j = i + 1 then ((!lotAt p i && r.getD i false && takesAt p i c) || (clo p (mv p (fun k => r.getD k false) c) i && lotAt p i)) else advAt p r c i j := by
    by_cases hji : j = i
    · rw [if_pos hji]
      unfold advAt
      rw [if_pos (by omega)]
    · rw [if_neg hji]
      by_cases hj1 : j = i + 1
      · rw [if_pos hj1]
        unfold advAt
        rw [if_neg (by omega), if_pos hj1]
      · rw [if_neg hj1]
        unfold advAt
        by_cases hlt : j < i
        · rw [if_pos (by omega), if_pos hlt]
        · rw [if_neg (by omega), if_neg (by omega), if_neg hlt, if_neg hji]
  rw [tgt, ← fin]
  unfold advB
  by_cases hc : ((advA p r c i a).getD i false && lotAt p i) = true
  · rw [if_pos hc, getD_set, advA_len, hA j hj]
    rw [hi0] at hc
    by_cases hji : j = i
    · rw [if_neg (fun z => by omega), if_pos hji, if_pos hji]
    · rw [if_neg hji, if_neg hji]
      by_cases hj1 : j = i + 1
      · rw [if_pos ⟨hj1.symm, by omega⟩, if_pos hj1, hc]
        simp
      · rw [if_neg (fun z => hj1 z.1.symm), if_neg hj1, if_neg hj1]
  · rw [if_neg hc, hA j hj]
    rw [hi0] at hc
    have hcf : (clo p (mv p (fun k => r.getD k false) c) i && lotAt p i) = false := by simpa using hc
    rw [hcf, Bool.or_false]
/-- the vector behind the turns below i -/
def advUp (p : Pat) (r : List Bool) (c : Nat) : Nat → List Bool
  | 0 => List.replicate (p.length + 1) false
  | i + 1 => advT p r c i (advUp p r c i)
theorem advUp_len (p : Pat) (r : List Bool) (c : Nat) : ∀ i, (advUp p r c i).length = p.length + 1
  | 0 => by simp [advUp]
  | i + 1 => by
    show (advB p i (advA p r c i (advUp p r c i))).length = _
    rw [advB_len, advA_len, advUp_len p r c i]
theorem advUp_at (p : Pat) (r : List Bool) (c : Nat) : ∀ i, i ≤ p.length → ∀ j, j ≤ p.length → (advUp p r c i).getD j false = advAt p r c i j
  | 0, _, j, hj => by
    unfold advUp advAt
    rw [if_neg (by omega)]
    have : (List.replicate (p.length + 1) false).getD j false = false := by
      simp only [List.getD_eq_getElem?_getD, List.getElem?_replicate]
      split <;> rfl
    rw [this]
    split <;> rfl
  | i + 1, hi, j, hj => advT_at p r c i _ (by omega) (advUp_len p r c i) (fun j hj => advUp_at p r c i (by omega) j hj) j hj
theorem advUp_eq (p : Pat) (r : List Bool) (c : Nat) : advUp p r c p.length = adv p r c := by
  have h1 := advUp_len p r c p.length
  have h2 : (adv p r c).length = p.length + 1 := vec_len _ _
  refine List.ext_getElem? fun j => ?_
  by_cases hj : j ≤ p.length
  · have e1 := advUp_at p r c p.length (Nat.le_refl _) j hj
    have e2 : (adv p r c).getD j false = clo p (mv p (fun i => r.getD i false) c) j := vec_get _ _ _ hj
    have e3 : advAt p r c p.length j = clo p (mv p (fun i => r.getD i false) c) j := by
      unfold advAt
      by_cases hlt : j < p.length
      · rw [if_pos hlt]
      · have : j = p.length := by omega
        rw [if_neg hlt, if_pos this]
        subst this
        cases hp : p.length with
        | zero =>
          show false = (lotAt p 0 && r.getD 0 false)
          have : lotAt p 0 = false := by
            unfold lotAt
            rw [List.getElem?_eq_none_iff.mpr (by omega)]
          rw [this]
          rfl
        | succ k =>
          show _ = (((lotAt p (k + 1) && r.getD (k + 1) false) || (!lotAt p k && r.getD k false && takesAt p k c)) || (clo p (mv p (fun i => r.getD i false) c) k && lotAt p k))
          have : lotAt p (k + 1) = false := by
            unfold lotAt
            rw [List.getElem?_eq_none_iff.mpr (by omega)]
          rw [this]
          simp
    have hlt1 : j < (advUp p r c p.length).length := by omega
    have hlt2 : j < (adv p r c).length := by omega
    rw [List.getD_eq_getElem?_getD, List.getElem?_eq_getElem hlt1] at e1
    rw [List.getD_eq_getElem?_getD, List.getElem?_eq_getElem hlt2] at e2
    rw [List.getElem?_eq_getElem hlt1, List.getElem?_eq_getElem hlt2]
    simp only [Option.getD_some] at e1 e2
    rw [e1, e2, e3]
  · rw [List.getElem?_eq_none_iff.mpr (by omega), List.getElem?_eq_none_iff.mpr (by omega)]
end QB

/-! Searches by layers, in plain Lean. -/
set_option autoImplicit false
namespace QB

/-! ### orders -/
section
variable {α : Type} (lt : α → α → Prop)
def lexlt : List α → List α → Prop
  | a :: u, b :: v => lt a b ∨ (a = b ∧ lexlt u v)
  | [], _ :: _ => True
  | _, [] => False
/-- shorter, or as long and ahead -/
def slt (u v : List α) : Prop := u.length < v.length ∨ (u.length = v.length ∧ lexlt lt u v)
def sle (u v : List α) : Prop := u = v ∨ slt lt u v
variable {lt}
theorem lexlt_trans (tr : ∀ a b c, lt a b → lt b c → lt a c) : ∀ u v w : List α, lexlt lt u v → lexlt lt v w → lexlt lt u w
  | [], [], _, h, _ => by cases h
  | [], _ :: _, [], _, h => by cases h
  | [], _ :: _, _ :: _, _, _ => True.intro
  | _ :: _, [], _, h, _ => by cases h
  | _ :: _, _ :: _, [], _, h => by cases h
  | a :: u, b :: v, c :: w, h1, h2 => by
    rcases h1 with h1 | ⟨rfl, h1⟩
    · rcases h2 with h2 | ⟨rfl, _⟩
      · exact .inl (tr a b c h1 h2)
      · exact .inl h1
    · rcases h2 with h2 | ⟨rfl, h2⟩
      · exact .inl h2
      · exact .inr ⟨rfl, lexlt_trans tr u v w h1 h2⟩
theorem lexlt_irrefl (ir : ∀ a, ¬ lt a a) : ∀ u : List α, ¬ lexlt lt u u
  | [], h => by cases h
  | a :: u, h => by
    rcases h with h | ⟨_, h⟩
    · exact ir a h
    · exact lexlt_irrefl ir u h
theorem slt_trans (tr : ∀ a b c, lt a b → lt b c → lt a c) {u v w : List α} (h1 : slt lt u v) (h2 : slt lt v w) : slt lt u w := by
  rcases h1 with h1 | ⟨e1, h1⟩
  · rcases h2 with h2 | ⟨e2, _⟩
    · exact .inl (Nat.lt_trans h1 h2)
    · exact .inl (by omega)
  · rcases h2 with h2 | ⟨e2, h2⟩
    · exact .inl (by omega)
    · exact .inr ⟨e1.trans e2, lexlt_trans tr u v w h1 h2⟩
theorem slt_irrefl (ir : ∀ a, ¬ lt a a) (u : List α) (h : slt lt u u) : False := by
  rcases h with h | ⟨_, h⟩
  · omega
  · exact lexlt_irrefl ir u h
theorem sle_trans (tr : ∀ a b c, lt a b → lt b c → lt a c) {u v w : List α} (h1 : sle lt u v) (h2 : sle lt v w) : sle lt u w := by
  rcases h1 with rfl | h1
  · exact h2
  · rcases h2 with rfl | h2
    · exact .inr h1
    · exact .inr (slt_trans tr h1 h2)
theorem slt_of_slt_sle (tr : ∀ a b c, lt a b → lt b c → lt a c) {u v w : List α} (h1 : slt lt u v) (h2 : sle lt v w) : slt lt u w := by
  rcases h2 with rfl | h2
  · exact h1
  · exact slt_trans tr h1 h2
theorem slt_of_sle_slt (tr : ∀ a b c, lt a b → lt b c → lt a c) {u v w : List α} (h1 : sle lt u v) (h2 : slt lt v w) : slt lt u w := by
  rcases h1 with rfl | h1
  · exact h2
  · exact slt_trans tr h1 h2
theorem lexlt_app : ∀ (u v x y : List α), u.length = v.length → lexlt lt u v → lexlt lt (u ++ x) (v ++ y)
  | [], [], _, _, _, h => by cases h
  | [], _ :: _, _, _, h, _ => by cases h
  | _ :: _, [], _, _, h, _ => by cases h
  | a :: u, b :: v, x, y, e, h => by
    rcases h with h | ⟨rfl, h⟩
    · exact .inl h
    · exact .inr ⟨rfl, lexlt_app u v x y (by simpa using e) h⟩
theorem lexlt_same : ∀ (u x y : List α), lexlt lt x y → lexlt lt (u ++ x) (u ++ y)
  | [], _, _, h => h
  | _ :: u, x, y, h => .inr ⟨rfl, lexlt_same u x y h⟩
theorem lexlt_snoc (u : List α) {a b : α} (h : lt a b) : lexlt lt (u ++ [a]) (u ++ [b]) := lexlt_same u [a] [b] (.inl h)
/-- the same letter behind -/
theorem sle_snoc {u v : List α} (h : sle lt u v) (a : α) : sle lt (u ++ [a]) (v ++ [a]) := by
  rcases h with rfl | h
  · exact .inl rfl
  · refine .inr ?_
    rcases h with h | ⟨e, h⟩
    · exact .inl (by simp; omega)
    · exact .inr ⟨by simp [e], lexlt_app u v [a] [a] e h⟩
/-- pointwise at most -/
theorem sle_map (f : α → α) : ∀ u : List α, (∀ a ∈ u, f a = a ∨ lt (f a) a) → sle lt (u.map f) u := by
  have go : ∀ u : List α, (∀ a ∈ u, f a = a ∨ lt (f a) a) → u.map f = u ∨ lexlt lt (u.map f) u := by
    intro u
    induction u with
    | nil => exact fun _ => .inl rfl
    | cons a u ih =>
      intro hf
      rcases hf a List.mem_cons_self with e | h
      · rcases ih (fun b hb => hf b (List.mem_cons_of_mem _ hb)) with e2 | h2
        · exact .inl (by rw [List.map_cons, e, e2])
        · exact .inr (.inr ⟨e, h2⟩)
      · exact .inr (.inl h)
  intro u hu
  rcases go u hu with e | h
  · exact .inl e
  · exact .inr (.inr ⟨by simp, h⟩)
/-- two lists of the same length, place by place at most -/
theorem sle_zip : ∀ u v : List α, u.length = v.length → (∀ (i : Nat) (a b : α), u[i]? = some a → v[i]? = some b → a = b ∨ lt a b) → sle lt u v := by
  have go : ∀ u v : List α, u.length = v.length → (∀ (i : Nat) (a b : α), u[i]? = some a → v[i]? = some b → a = b ∨ lt a b) → u = v ∨ lexlt lt u v := by
    intro u
    induction u with
    | nil =>
      intro v e _
      cases v with
      | nil => exact .inl rfl
      | cons b v => cases e
    | cons a u ih =>
      intro v e h
      cases v with
      | nil => cases e
      | cons b v =>
        have h0 := h 0 a b rfl rfl
        have ht := ih v (by simpa using e) fun i x y hx hy => h (i + 1) x y hx hy
        rcases h0 with rfl | h0
        · rcases ht with rfl | ht
          · exact .inl rfl
          · exact .inr (.inr ⟨rfl, ht⟩)
        · exact .inr (.inl h0)
  intro u v e h
  rcases go u v e h with e2 | h2
  · exact .inl e2
  · exact .inr (.inr ⟨e, h2⟩)
end

/-! ### the first of each key -/
section
variable {κ β : Type} [DecidableEq κ]
def dedupe (seen : List κ) : List (κ × β) → List (κ × β)
  | [] => []
  | x :: ps => if x.1 ∈ seen then dedupe seen ps else x :: dedupe (seen ++ [x.1]) ps
theorem dedupe_mem : ∀ (ps : List (κ × β)) (seen : List κ) (x : κ × β), x ∈ dedupe seen ps → x ∈ ps ∧ x.1 ∉ seen
  | [], _, _, h => by cases h
  | y :: ps, seen, x, h => by
    unfold dedupe at h
    by_cases hy : y.1 ∈ seen
    · rw [if_pos hy] at h
      obtain ⟨a, b⟩ := dedupe_mem ps seen x h
      exact ⟨List.mem_cons_of_mem _ a, b⟩
    · rw [if_neg hy] at h
      rcases List.mem_cons.mp h with rfl | h
      · exact ⟨List.mem_cons_self, hy⟩
      · obtain ⟨a, b⟩ := dedupe_mem ps _ x h
        exact ⟨List.mem_cons_of_mem _ a, fun z => b (List.mem_append_left _ z)⟩
theorem dedupe_sub : ∀ (ps : List (κ × β)) (seen : List κ), (dedupe seen ps).Sublist ps
  | [], _ => List.Sublist.slnil
  | y :: ps, seen => by
    unfold dedupe
    split
    · exact List.Sublist.cons _ (dedupe_sub ps seen)
    · exact List.Sublist.cons_cons _ (dedupe_sub ps _)
theorem dedupe_nodup : ∀ (ps : List (κ × β)) (seen : List κ), seen.Nodup → (seen ++ (dedupe seen ps).map (·.1)).Nodup
  | [], seen, h => by simpa [dedupe] using h
  | y :: ps, seen, h => by
    unfold dedupe
    split
    · exact dedupe_nodup ps seen h
    · rename_i hy
      have h' : (seen ++ [y.1]).Nodup := List.nodup_append.mpr ⟨h, by simp, fun a ha b hb => by
        have : b = y.1 := by simpa using hb
        rw [this]
        exact fun e => hy (e ▸ ha)⟩
      have := dedupe_nodup ps (seen ++ [y.1]) h'
      rw [List.append_assoc] at this
      exact this
theorem dedupe_hit (R : κ × β → κ × β → Prop) : ∀ (ps : List (κ × β)) (seen : List κ), ps.Pairwise R → ∀ x ∈ ps, x.1 ∈ seen ∨ ∃ y ∈ dedupe seen ps, y.1 = x.1 ∧ (y = x ∨ R y x)
  | [], _, _, _, h => by cases h
  | y :: ps, seen, hp, x, hx => by
    obtain ⟨h1, h2⟩ := List.pairwise_cons.mp hp
    unfold dedupe
    by_cases hy : y.1 ∈ seen
    · rw [if_pos hy]
      rcases List.mem_cons.mp hx with rfl | hx
      · exact .inl hy
      · exact dedupe_hit R ps seen h2 x hx
    · rw [if_neg hy]
      rcases List.mem_cons.mp hx with rfl | hx
      · exact .inr ⟨x, List.mem_cons_self, rfl, .inl rfl⟩
      · rcases dedupe_hit R ps (seen ++ [y.1]) h2 x hx with h | ⟨z, hz, e, h⟩
        · rcases List.mem_append.mp h with h | h
          · exact .inl h
          · have : x.1 = y.1 := by simpa using h
            exact .inr ⟨y, List.mem_cons_self, this.symm, .inr (h1 x hx)⟩
        · exact .inr ⟨z, List.mem_cons_of_mem _ hz, e, h⟩
theorem dedupe_cons (seen : List κ) (y : κ × β) (ps : List (κ × β)) : dedupe seen (y :: ps) = if y.1 ∈ seen then dedupe seen ps else y :: dedupe (seen ++ [y.1]) ps := rfl
theorem dedupe_app : ∀ (ps qs : List (κ × β)) (seen : List κ), dedupe seen (ps ++ qs) = dedupe seen ps ++ dedupe (seen ++ (dedupe seen ps).map (·.1)) qs
  | [], qs, seen => by
    show dedupe seen qs = [] ++ dedupe (seen ++ []) qs
    rw [List.append_nil, List.nil_append]
  | y :: ps, qs, seen => by
    rw [List.cons_append, dedupe_cons, dedupe_cons]
    by_cases hy : y.1 ∈ seen
    · rw [if_pos hy, if_pos hy]
      exact dedupe_app ps qs seen
    · rw [if_neg hy, if_neg hy, dedupe_app ps qs (seen ++ [y.1])]
      simp only [List.map_cons, List.cons_append, List.append_assoc, List.singleton_append, List.nil_append]
theorem dedupe_one (seen : List κ) (x : κ × β) : dedupe seen [x] = if x.1 ∈ seen then [] else [x] := rfl
theorem dedupe_snoc (ps : List (κ × β)) (seen : List κ) (x : κ × β) : dedupe seen (ps ++ [x]) = dedupe seen ps ++ (if x.1 ∈ seen ++ (dedupe seen ps).map (·.1) then [] else [x]) := by
  rw [dedupe_app, dedupe_one]
end

/-! ### the search -/
section
variable {S α : Type} [DecidableEq S] (δ : S → α → S) (A : List α) (s0 : S)
def cand (layer : List (S × List α)) : List (S × List α) := layer.flatMap fun x => A.map fun a => (δ x.1 a, x.2 ++ [a])
def bfs : Nat → List S × List (S × List α)
  | 0 => ([s0], [(s0, [])])
  | n + 1 => ((bfs n).1 ++ (dedupe (bfs n).1 (cand δ A (bfs n).2)).map (·.1), dedupe (bfs n).1 (cand δ A (bfs n).2))
/-- the layers below N, in order -/
def visits (N : Nat) : List (S × List α) := (List.range N).flatMap fun n => (bfs δ A s0 n).2
def run (u : List α) : S := u.foldl δ s0
theorem run_snoc (u : List α) (a : α) : run δ s0 (u ++ [a]) = δ (run δ s0 u) a := by simp [run]
theorem visits_succ (N : Nat) : visits δ A s0 (N + 1) = visits δ A s0 N ++ (bfs δ A s0 N).2 := by
  unfold visits
  rw [List.range_succ, List.flatMap_append]
  simp
theorem seen_visits : ∀ n, (bfs δ A s0 n).1 = (visits δ A s0 (n + 1)).map (·.1)
  | 0 => by simp [visits, bfs]
  | n + 1 => by
    rw [visits_succ, List.map_append, ← seen_visits n]
    rfl
variable {δ A s0}
theorem mem_cand {layer : List (S × List α)} {y : S × List α} : y ∈ cand δ A layer ↔ ∃ x ∈ layer, ∃ a ∈ A, y = (δ x.1 a, x.2 ++ [a]) := by
  unfold cand
  simp only [List.mem_flatMap, List.mem_map]
  constructor
  · rintro ⟨x, hx, a, ha, rfl⟩
    exact ⟨x, hx, a, ha, rfl⟩
  · rintro ⟨x, hx, a, ha, rfl⟩
    exact ⟨x, hx, a, ha, rfl⟩
theorem layer_word : ∀ n, ∀ x ∈ (bfs δ A s0 n).2, x.2.length = n ∧ x.1 = run δ s0 x.2 ∧ ∀ a ∈ x.2, a ∈ A
  | 0, x, h => by
    have : x = (s0, []) := by simpa [bfs] using h
    subst this
    exact ⟨rfl, rfl, fun a z => by cases z⟩
  | n + 1, x, h => by
    obtain ⟨hc, _⟩ := dedupe_mem _ _ _ h
    obtain ⟨y, hy, a, ha, rfl⟩ := mem_cand.mp hc
    obtain ⟨e1, e2, e3⟩ := layer_word n y hy
    refine ⟨by simp [e1], ?_, fun b hb => ?_⟩
    · show δ y.1 a = run δ s0 (y.2 ++ [a])
      rw [run_snoc, ← e2]
    · rcases List.mem_append.mp hb with z | z
      · exact e3 b z
      · have : b = a := by simpa using z
        rw [this]
        exact ha
theorem visits_word {N : Nat} {x : S × List α} (h : x ∈ visits δ A s0 N) : x.2.length < N ∧ x.1 = run δ s0 x.2 ∧ ∀ a ∈ x.2, a ∈ A := by
  unfold visits at h
  obtain ⟨n, hn, hx⟩ := List.mem_flatMap.mp h
  obtain ⟨e1, e2, e3⟩ := layer_word n x hx
  exact ⟨by rw [e1]; exact List.mem_range.mp hn, e2, e3⟩
variable {lt : α → α → Prop}
abbrev wlt (lt : α → α → Prop) (x y : S × List α) : Prop := slt lt x.2 y.2
theorem cand_sorted {n : Nat} (hA : A.Pairwise lt) : ∀ layer : List (S × List α), (∀ x ∈ layer, x.2.length = n) → layer.Pairwise (wlt lt) → (cand δ A layer).Pairwise (wlt lt)
  | [], _, _ => by simp [cand]
  | x :: layer, hl, hp => by
    obtain ⟨h1, h2⟩ := List.pairwise_cons.mp hp
    have ih := cand_sorted hA layer (fun y hy => hl y (List.mem_cons_of_mem _ hy)) h2
    show (A.map (fun a => (δ x.1 a, x.2 ++ [a])) ++ cand δ A layer).Pairwise (wlt lt)
    refine List.pairwise_append.mpr ⟨?_, ih, ?_⟩
    · refine List.Pairwise.map _ (fun a b h => ?_) hA
      exact .inr ⟨by simp, lexlt_snoc x.2 h⟩
    · intro y hy z hz
      obtain ⟨a, ha, rfl⟩ := List.mem_map.mp hy
      obtain ⟨x', hx', b, hb, rfl⟩ := mem_cand.mp hz
      have e1 := hl x List.mem_cons_self
      have e2 := hl x' (List.mem_cons_of_mem _ hx')
      have h := h1 x' hx'
      rcases h with h | ⟨_, h⟩
      · omega
      · refine .inr ⟨by simp [e1, e2], lexlt_app _ _ _ _ (by rw [e1, e2]) h⟩
theorem layer_sorted (hA : A.Pairwise lt) : ∀ n, (bfs δ A s0 n).2.Pairwise (wlt lt)
  | 0 => by simp [bfs]
  | n + 1 => List.Pairwise.sublist (dedupe_sub _ _) (cand_sorted (n := n) hA _ (fun x hx => (layer_word n x hx).1) (layer_sorted hA n))
theorem visits_sorted (hA : A.Pairwise lt) : ∀ N, (visits δ A s0 N).Pairwise (wlt lt)
  | 0 => by simp [visits]
  | N + 1 => by
    rw [visits_succ]
    refine List.pairwise_append.mpr ⟨visits_sorted hA N, layer_sorted hA N, fun x hx y hy => .inl ?_⟩
    have := (visits_word hx).1
    have := (layer_word N y hy).1
    omega
/-- each word's end is met by a word that is at most it -/
theorem visits_least (tr : ∀ a b c, lt a b → lt b c → lt a c) (hA : A.Pairwise lt) : ∀ (n : Nat) (u : List α), u.length ≤ n → (∀ a ∈ u, a ∈ A) → ∃ x ∈ visits δ A s0 (n + 1), x.1 = run δ s0 u ∧ sle lt x.2 u
  | 0, u, hu, _ => by
    have : u = [] := List.length_eq_zero_iff.mp (by omega)
    subst this
    refine ⟨(s0, []), ?_, rfl, .inl rfl⟩
    rw [visits_succ]
    simp [bfs, visits]
  | n + 1, u, hu, ha => by
    by_cases hl : u.length ≤ n
    · obtain ⟨x, hx, e, l⟩ := visits_least tr hA n u hl ha
      refine ⟨x, ?_, e, l⟩
      rw [visits_succ]
      exact List.mem_append_left _ hx
    · have hne : u ≠ [] := by
        rintro rfl
        simp at hl
      obtain ⟨v, a, rfl⟩ : ∃ v a, u = v ++ [a] := ⟨u.dropLast, u.getLast hne, (List.dropLast_concat_getLast hne).symm⟩
      have hvl : v.length = n := by
        simp at hu hl
        omega
      obtain ⟨x, hx, e, l⟩ := visits_least tr hA n v (by omega) fun b hb => ha b (List.mem_append_left _ hb)
      have haA : a ∈ A := ha a (List.mem_append_right _ (by simp))
      have hxw := visits_word hx
      have key : run δ s0 (v ++ [a]) = δ x.1 a := by rw [run_snoc, ← e]
      by_cases hxl : x.2.length < n
      · -- shorter: found ahead
        obtain ⟨y, hy, e2, l2⟩ := visits_least tr hA n (x.2 ++ [a]) (by simp; omega) fun b hb => by
          rcases List.mem_append.mp hb with z | z
          · exact hxw.2.2 b z
          · have : b = a := by simpa using z
            rw [this]
            exact haA
        refine ⟨y, ?_, ?_, sle_trans tr l2 (sle_snoc l a)⟩
        · rw [visits_succ]
          exact List.mem_append_left _ hy
        · rw [e2, run_snoc, ← hxw.2.1, key]
      · -- in the last layer
        have hxn : x ∈ (bfs δ A s0 n).2 := by
          rw [visits_succ] at hx
          rcases List.mem_append.mp hx with z | z
          · exact absurd (visits_word z).1 hxl
          · exact z
        have hc : (δ x.1 a, x.2 ++ [a]) ∈ cand δ A (bfs δ A s0 n).2 := mem_cand.mpr ⟨x, hxn, a, haA, rfl⟩
        rcases dedupe_hit (wlt lt) _ (bfs δ A s0 n).1 (cand_sorted (n := n) hA _ (fun x hx => (layer_word n x hx).1) (layer_sorted hA n)) _ hc with h | ⟨y, hy, e2, l2⟩
        · rw [seen_visits] at h
          obtain ⟨y, hy, e2⟩ := List.mem_map.mp h
          refine ⟨y, ?_, ?_, .inr (.inl ?_)⟩
          · rw [visits_succ]
            exact List.mem_append_left _ hy
          · rw [e2, key]
          · have := (visits_word hy).1
            simp
            omega
        · refine ⟨y, ?_, ?_, ?_⟩
          · rw [visits_succ]
            exact List.mem_append_right _ hy
          · rw [e2, key]
          · refine sle_trans tr ?_ (sle_snoc l a)
            rcases l2 with rfl | l2
            · exact .inl rfl
            · exact .inr l2
/-! ### the end -/
theorem layer_stays {n : Nat} (h : (bfs δ A s0 n).2 = []) : ∀ k, (bfs δ A s0 (n + k)).2 = []
  | 0 => h
  | k + 1 => by
    show dedupe (bfs δ A s0 (n + k)).1 (cand δ A (bfs δ A s0 (n + k)).2) = []
    rw [layer_stays h k]
    rfl
theorem seen_grows : ∀ n, (bfs δ A s0 n).2 ≠ [] → n + 1 ≤ (bfs δ A s0 n).1.length
  | 0, _ => by simp [bfs]
  | n + 1, h => by
    have hn : (bfs δ A s0 n).2 ≠ [] := fun z => h (layer_stays z 1)
    have ih := seen_grows n hn
    have e : (bfs δ A s0 (n + 1)).1 = (bfs δ A s0 n).1 ++ (bfs δ A s0 (n + 1)).2.map (·.1) := rfl
    rw [e, List.length_append, List.length_map]
    have : 0 < (bfs δ A s0 (n + 1)).2.length := List.length_pos_iff.mpr h
    omega
theorem seen_nodup : ∀ n, (bfs δ A s0 n).1.Nodup
  | 0 => by simp [bfs]
  | n + 1 => dedupe_nodup _ _ (seen_nodup n)
theorem seen_in {U : List S} (h0 : s0 ∈ U) (hU : ∀ s ∈ U, ∀ a ∈ A, δ s a ∈ U) : ∀ n, ∀ s ∈ (bfs δ A s0 n).1, s ∈ U := by
  have word : ∀ u : List α, (∀ a ∈ u, a ∈ A) → run δ s0 u ∈ U := by
    have go : ∀ (u : List α) (s : S), s ∈ U → (∀ a ∈ u, a ∈ A) → u.foldl δ s ∈ U := by
      intro u
      induction u with
      | nil => exact fun s hs _ => hs
      | cons a u ih => exact fun s hs ha => ih (δ s a) (hU s hs a (ha a List.mem_cons_self)) fun b hb => ha b (List.mem_cons_of_mem _ hb)
    exact fun u hu => go u s0 h0 hu
  intro n s hs
  rw [seen_visits] at hs
  obtain ⟨x, hx, rfl⟩ := List.mem_map.mp hs
  obtain ⟨_, e, ha⟩ := visits_word hx
  rw [e]
  exact word x.2 ha
theorem nodup_len {S : Type} [DecidableEq S] : ∀ (l U : List S), l.Nodup → (∀ s ∈ l, s ∈ U) → l.length ≤ U.length
  | [], _, _, _ => Nat.zero_le _
  | a :: l, U, hn, hs => by
    obtain ⟨h1, h2⟩ := List.nodup_cons.mp hn
    have ha := hs a List.mem_cons_self
    have := nodup_len l (U.erase a) h2 fun s hsl => (List.mem_erase_of_ne (fun (e : s = a) => h1 (by rw [← e]; exact hsl))).mpr (hs s (List.mem_cons_of_mem _ hsl))
    rw [List.length_erase_of_mem ha] at this
    have : 0 < U.length := List.length_pos_of_mem ha
    simp only [List.length_cons]
    omega
theorem seen_bound {U : List S} (h0 : s0 ∈ U) (hU : ∀ s ∈ U, ∀ a ∈ A, δ s a ∈ U) (n : Nat) : (bfs δ A s0 n).1.length ≤ U.length :=
  nodup_len _ _ (seen_nodup n) (seen_in h0 hU n)
theorem layer_end {U : List S} (h0 : s0 ∈ U) (hU : ∀ s ∈ U, ∀ a ∈ A, δ s a ∈ U) {n : Nat} (hn : U.length ≤ n) : (bfs δ A s0 n).2 = [] := by
  have h1 : (bfs δ A s0 U.length).2 = [] := by
    refine Classical.byContradiction fun h => ?_
    have a := seen_grows U.length h
    have b := seen_bound (A := A) h0 hU U.length
    omega
  obtain ⟨k, rfl⟩ : ∃ k, n = U.length + k := ⟨n - U.length, by omega⟩
  exact layer_stays h1 k
theorem visits_end {n : Nat} (h : (bfs δ A s0 n).2 = []) : ∀ k, visits δ A s0 (n + k) = visits δ A s0 n
  | 0 => rfl
  | k + 1 => by
    show visits δ A s0 (n + k + 1) = _
    rw [visits_succ, layer_stays h k, List.append_nil, visits_end h k]
/-- every word, when all layers are below N -/
theorem visits_all (tr : ∀ a b c, lt a b → lt b c → lt a c) (hA : A.Pairwise lt) {N : Nat} (hN : (bfs δ A s0 N).2 = []) (u : List α) (hu : ∀ a ∈ u, a ∈ A) : ∃ x ∈ visits δ A s0 N, x.1 = run δ s0 u ∧ sle lt x.2 u := by
  obtain ⟨x, hx, e, l⟩ := visits_least (s0 := s0) (δ := δ) tr hA (N + u.length) u (by omega) hu
  refine ⟨x, ?_, e, l⟩
  have : N + u.length + 1 = N + (u.length + 1) := by omega
  rw [this, visits_end hN] at hx
  exact hx
end
end QB

/-! Rows of filters, and what the two searches find. -/
set_option autoImplicit false
namespace QB

inductive Fil where
  | keep (p : Pat)
  | drop (p : Pat)
  | swap (ps : List (Nat × Nat))
  | first (n : Nat)
abbrev Row := List Fil
def swapF (ps : List (Nat × Nat)) (c : Nat) : Nat := match ps.find? (fun q => decide (q.1 = c)) with
  | some q => q.2
  | none => c
def pass : Fil → List Ln → List Ln
  | .keep p, L => L.filter (meets p)
  | .drop p, L => L.filter fun x => !meets p x
  | .swap ps, L => L.map fun x => x.map (swapF ps)
  | .first n, L => L.take n
def written (r : Row) (L : List Ln) : List Ln := r.foldl (fun L f => pass f L) L

/-! line by line -/
def firsts : Row → List Nat
  | [] => []
  | .first n :: r => n :: firsts r
  | .keep _ :: r => firsts r
  | .drop _ :: r => firsts r
  | .swap _ :: r => firsts r
def strm : Row → List Nat → Ln → Option Ln × List Nat
  | [], l, x => (some x, l)
  | .keep p :: r, l, x => if meets p x = true then strm r l x else (none, l)
  | .drop p :: r, l, x => if meets p x = true then (none, l) else strm r l x
  | .swap ps :: r, l, x => strm r l (x.map (swapF ps))
  | .first _ :: _, [], _ => (none, [])
  | .first _ :: _, 0 :: l, _ => (none, 0 :: l)
  | .first _ :: r, (k + 1) :: l, x => ((strm r l x).1, k :: (strm r l x).2)
def writ : Row → List Nat → List Ln → List Ln
  | [], _, L => L
  | .keep p :: r, l, L => writ r l (L.filter (meets p))
  | .drop p :: r, l, L => writ r l (L.filter fun x => !meets p x)
  | .swap ps :: r, l, L => writ r l (L.map fun x => x.map (swapF ps))
  | .first _ :: _, [], _ => []
  | .first _ :: r, k :: l, L => writ r l (L.take k)
theorem writ_firsts : ∀ (r : Row) (L : List Ln), writ r (firsts r) L = written r L
  | [], _ => rfl
  | .keep p :: r, L => writ_firsts r _
  | .drop p :: r, L => writ_firsts r _
  | .swap ps :: r, L => writ_firsts r _
  | .first n :: r, L => writ_firsts r _
theorem writ_nil : ∀ (r : Row) (l : List Nat), writ r l [] = []
  | [], _ => rfl
  | .keep p :: r, l => writ_nil r l
  | .drop p :: r, l => writ_nil r l
  | .swap ps :: r, l => writ_nil r l
  | .first n :: r, [] => rfl
  | .first n :: r, k :: l => by
    show writ r l (List.take k []) = []
    rw [List.take_nil]
    exact writ_nil r l
theorem writ_zero : ∀ (r : Row) (l : List Nat) (L : List Ln), L = [] → writ r l L = [] := fun r l L e => by rw [e, writ_nil]
theorem writ_cons : ∀ (r : Row) (l : List Nat) (x : Ln) (L : List Ln), writ r l (x :: L) = (strm r l x).1.toList ++ writ r (strm r l x).2 L
  | [], _, _, _ => rfl
  | .keep p :: r, l, x, L => by
    show writ r l (List.filter (meets p) (x :: L)) = _
    by_cases h : meets p x = true
    · rw [List.filter_cons_of_pos h, writ_cons r l x]
      show _ = (if meets p x = true then strm r l x else (none, l)).1.toList ++ writ (.keep p :: r) (if meets p x = true then strm r l x else (none, l)).2 L
      rw [if_pos h]
      rfl
    · rw [List.filter_cons_of_neg h]
      show _ = (if meets p x = true then strm r l x else (none, l)).1.toList ++ writ (.keep p :: r) (if meets p x = true then strm r l x else (none, l)).2 L
      rw [if_neg h]
      rfl
  | .drop p :: r, l, x, L => by
    show writ r l (List.filter (fun x => !meets p x) (x :: L)) = _
    by_cases h : meets p x = true
    · rw [List.filter_cons_of_neg (by simp [h])]
      show _ = (if meets p x = true then (none, l) else strm r l x).1.toList ++ writ (.drop p :: r) (if meets p x = true then (none, l) else strm r l x).2 L
      rw [if_pos h]
      rfl
    · rw [List.filter_cons_of_pos (by simp [h]), writ_cons r l x]
      show _ = (if meets p x = true then (none, l) else strm r l x).1.toList ++ writ (.drop p :: r) (if meets p x = true then (none, l) else strm r l x).2 L
      rw [if_neg h]
      rfl
  | .swap ps :: r, l, x, L => by
    show writ r l (x.map (swapF ps) :: L.map fun x => x.map (swapF ps)) = _
    rw [writ_cons r l]
    rfl
  | .first n :: r, [], x, L => rfl
  | .first n :: r, 0 :: l, x, L => by
    show writ r l [] = [] ++ writ r l (L.take 0)
    rw [List.take_zero]
    rfl
  | .first n :: r, (k + 1) :: l, x, L => by
    show writ r l (x :: L.take k) = _
    rw [writ_cons r l]
    rfl

/-! steps and tests -/
inductive Stp where
  | test (i : Nat) (truth : Bool)
  | first (n : Nat)
abbrev Tests := List (Pat × (Nat → Nat))
def stR : Row → Nat → (Nat → Nat) → List Stp × Tests × (Nat → Nat)
  | [], _, t => ([], [], t)
  | .keep p :: r, n, t => (.test n true :: (stR r (n + 1) t).1, (p, t) :: (stR r (n + 1) t).2.1, (stR r (n + 1) t).2.2)
  | .drop p :: r, n, t => (.test n false :: (stR r (n + 1) t).1, (p, t) :: (stR r (n + 1) t).2.1, (stR r (n + 1) t).2.2)
  | .swap ps :: r, n, t => stR r n fun c => swapF ps (t c)
  | .first k :: r, n, t => (.first k :: (stR r n t).1, (stR r n t).2.1, (stR r n t).2.2)
def put : List Stp → List Bool → List Nat → Bool × List Nat
  | [], _, l => (true, l)
  | .test i t :: s, tr, l => if tr.getD i false = t then put s tr l else (false, l)
  | .first _ :: _, _, [] => (false, [])
  | .first _ :: _, _, 0 :: l => (false, 0 :: l)
  | .first _ :: s, tr, (k + 1) :: l => ((put s tr l).1, k :: (put s tr l).2)
theorem put_strm (T : Tests) (x : Ln) (tr : List Bool) (htr : ∀ i q, T[i]? = some q → tr.getD i false = meets q.1 (x.map q.2)) : ∀ (r : Row) (n : Nat) (t : Nat → Nat) (l : List Nat),
    (∀ i q, (stR r n t).2.1[i]? = some q → T[n + i]? = some q) →
    put (stR r n t).1 tr l = ((strm r l (x.map t)).1.isSome, (strm r l (x.map t)).2) ∧ ∀ y, (strm r l (x.map t)).1 = some y → y = x.map (stR r n t).2.2
  | [], n, t, l, _ => ⟨rfl, fun y e => (Option.some.inj e).symm⟩
  | .keep p :: r, n, t, l, h => by
    have h0 := h 0 (p, t) rfl
    have ht := htr n (p, t) h0
    have ih := put_strm T x tr htr r (n + 1) t l fun i q e => by
      have := h (i + 1) q e
      rw [← this]
      congr 1
      omega
    show put (.test n true :: (stR r (n + 1) t).1) tr l = ((if meets p (x.map t) = true then strm r l (x.map t) else (none, l)).1.isSome, (if meets p (x.map t) = true then strm r l (x.map t) else (none, l)).2) ∧
      ∀ y, (if meets p (x.map t) = true then strm r l (x.map t) else (none, l)).1 = some y → y = x.map (stR r (n + 1) t).2.2
    show (if tr.getD n false = true then put (stR r (n + 1) t).1 tr l else (false, l)) = _ ∧ _
    rw [ht]
    by_cases hm : meets p (x.map t) = true
    · rw [if_pos hm, if_pos hm]
      exact ih
    · rw [if_neg hm, if_neg hm]
      exact ⟨rfl, fun y e => by cases e⟩
  | .drop p :: r, n, t, l, h => by
    have h0 := h 0 (p, t) rfl
    have ht := htr n (p, t) h0
    have ih := put_strm T x tr htr r (n + 1) t l fun i q e => by
      have := h (i + 1) q e
      rw [← this]
      congr 1
      omega
    show put (.test n false :: (stR r (n + 1) t).1) tr l = ((if meets p (x.map t) = true then (none, l) else strm r l (x.map t)).1.isSome, (if meets p (x.map t) = true then (none, l) else strm r l (x.map t)).2) ∧
      ∀ y, (if meets p (x.map t) = true then (none, l) else strm r l (x.map t)).1 = some y → y = x.map (stR r (n + 1) t).2.2
    show (if tr.getD n false = false then put (stR r (n + 1) t).1 tr l else (false, l)) = _ ∧ _
    rw [ht]
    by_cases hm : meets p (x.map t) = true
    · rw [if_pos hm, if_neg (by rw [hm]; decide)]
      exact ⟨rfl, fun y e => by cases e⟩
    · rw [if_neg hm, if_pos (by simpa using hm)]
      exact ih
  | .swap ps :: r, n, t, l, h => by
    have ih := put_strm T x tr htr r n (fun c => swapF ps (t c)) l h
    have e : (x.map t).map (swapF ps) = x.map fun c => swapF ps (t c) := by rw [List.map_map]; rfl
    show put (stR r n fun c => swapF ps (t c)).1 tr l = ((strm r l ((x.map t).map (swapF ps))).1.isSome, (strm r l ((x.map t).map (swapF ps))).2) ∧ ∀ y, (strm r l ((x.map t).map (swapF ps))).1 = some y → y = x.map (stR r n fun c => swapF ps (t c)).2.2
    rw [e]
    exact ih
  | .first k :: r, n, t, [], h => ⟨rfl, fun y e => by cases e⟩
  | .first k :: r, n, t, 0 :: l, h => ⟨rfl, fun y e => by cases e⟩
  | .first k :: r, n, t, (j + 1) :: l, h => by
    have ih := put_strm T x tr htr r n t l h
    refine ⟨?_, ih.2⟩
    show ((put (stR r n t).1 tr l).1, j :: (put (stR r n t).1 tr l).2) = _
    rw [ih.1]
    rfl

/-! the first search: lines -/
def sgs : List Nat := ((List.range 95).map (· + 32)).filter (fun c => decide (c ≠ 37))
def Sgn (c : Nat) : Prop := 32 ≤ c ∧ c ≤ 126 ∧ c ≠ 37
theorem mem_sgs {c : Nat} : c ∈ sgs ↔ Sgn c := by
  unfold sgs Sgn
  rw [List.mem_filter, List.mem_map, decide_eq_true_iff]
  constructor
  · rintro ⟨⟨a, ha, rfl⟩, h⟩
    have := List.mem_range.mp ha
    omega
  · rintro ⟨h1, h2, h3⟩
    exact ⟨⟨c - 32, List.mem_range.mpr (by omega), by omega⟩, h3⟩
theorem sgs_sorted : sgs.Pairwise (· < ·) := by
  unfold sgs
  exact List.Pairwise.filter _ (List.Pairwise.map _ (fun a b (h : a < b) => by omega) List.pairwise_lt_range)
def step1 (T : Tests) (m : Nat → Bool) (s : List (List Bool) × Bool) (c : Nat) : List (List Bool) × Bool := ((T.zip s.1).map fun x => adv x.1.1 x.2 (x.1.2 c), s.2 || m c)
def start1 (T : Tests) : List (List Bool) × Bool := (T.map fun q => sr q.1, false)
def key1 (s : List (List Bool) × Bool) : List Bool := s.1.map (fun r => r.getLastD false) ++ [s.2]
def takesKey (T : Tests) (m : Nat → Bool) (c : Nat) : List Bool := (T.flatMap fun q => q.1.map fun e => e.takes (q.2 c)) ++ [m c]
def reps (T : Tests) (m : Nat → Bool) : List Nat := (dedupe [] (sgs.map fun c => (takesKey T m c, c))).map (·.2)
def tl (T : Tests) : Nat := (T.map fun q => q.1.length).sum
def bnd1 (T : Tests) : Nat := 1 + 2 * 2 ^ tl T
def vis1 (T : Tests) (m : Nat → Bool) : List ((List (List Bool) × Bool) × Ln) := visits (step1 T m) (reps T m) (start1 T) (bnd1 T)
def classes (T : Tests) (m : Nat → Bool) : List (List Bool × Ln) := dedupe [] ((vis1 T m).map fun x => (key1 x.1, x.2))
def trv (T : Tests) (m : Nat → Bool) (x : Ln) : List Bool := T.map (fun q => meets q.1 (x.map q.2)) ++ [x.any m]

theorem run1 (T : Tests) (m : Nat → Bool) (x : Ln) : run (step1 T m) (start1 T) x = (T.map (fun q => vec q.1 (reachF q.1 (x.map q.2))), x.any m) := by
  have go : ∀ (x : Ln) (g : Pat × (Nat → Nat) → List Bool) (b : Bool), x.foldl (step1 T m) (T.map g, b) = (T.map (fun q => x.foldl (fun r c => adv q.1 r (q.2 c)) (g q)), b || x.any m) := by
    intro x
    induction x with
    | nil => intro g b; simp
    | cons c x ih =>
      intro g b
      have e : step1 T m (T.map g, b) c = (T.map (fun q => adv q.1 (g q) (q.2 c)), b || m c) := by
        unfold step1
        congr 1
        rw [List.zip_map_right, List.map_map]
        have : ∀ T : Tests, (T.zip T).map (fun x => adv x.1.1 (g x.2) (x.1.2 c)) = T.map fun q => adv q.1 (g q) (q.2 c) := by
          intro T
          induction T with
          | nil => rfl
          | cons q T ih => simp [List.zip_cons_cons, ih]
        exact this T
      show x.foldl (step1 T m) (step1 T m (T.map g, b) c) = _
      rw [e, ih]
      simp [Bool.or_assoc]
  have h := go x (fun q => sr q.1) false
  unfold run start1
  rw [h]
  congr 1
  refine List.map_congr_left fun q _ => ?_
  exact run_adv q.1 q.2 x
theorem key_run1 (T : Tests) (m : Nat → Bool) (x : Ln) : key1 (run (step1 T m) (start1 T) x) = trv T m x := by
  rw [run1]
  unfold key1 trv
  rw [List.map_map]
  congr 1
  refine List.map_congr_left fun q _ => ?_
  exact vec_last _ _
theorem flat_eq {α : Type} (f g : α → List Bool) : ∀ T : List α, (∀ q ∈ T, (f q).length = (g q).length) → T.flatMap f = T.flatMap g → ∀ q ∈ T, f q = g q
  | [], _, _, _, h => by cases h
  | a :: T, hl, e, q, hq => by
    rw [List.flatMap_cons, List.flatMap_cons] at e
    obtain ⟨e1, e2⟩ := List.append_inj e (hl a List.mem_cons_self)
    rcases List.mem_cons.mp hq with rfl | hq
    · exact e1
    · exact flat_eq f g T (fun q hq => hl q (List.mem_cons_of_mem _ hq)) e2 q hq
theorem takesKey_step {T : Tests} {m : Nat → Bool} {c c' : Nat} (h : takesKey T m c = takesKey T m c') (s : List (List Bool) × Bool) : step1 T m s c = step1 T m s c' := by
  unfold takesKey at h
  have hl : (T.flatMap fun q => q.1.map fun e => e.takes (q.2 c)).length = (T.flatMap fun q => q.1.map fun e => e.takes (q.2 c')).length := by
    have := congrArg List.length h
    simpa using this
  obtain ⟨h1, h2⟩ := List.append_inj h hl
  have hm : m c = m c' := by simpa using h2
  have hq := flat_eq (fun q : Pat × (Nat → Nat) => q.1.map fun e => e.takes (q.2 c)) (fun q => q.1.map fun e => e.takes (q.2 c')) T (fun q _ => by simp) h1
  unfold step1
  rw [hm]
  congr 1
  refine List.map_congr_left fun x hx => ?_
  have hxT : x.1 ∈ T := (List.of_mem_zip hx).1
  refine adv_takes _ _ _ _ fun e he => ?_
  have := hq x.1 hxT
  exact List.map_inj_left.mp this e he
/-- each sign's first like it -/
theorem reps_hit (T : Tests) (m : Nat → Bool) (c : Nat) (hc : Sgn c) : ∃ d ∈ reps T m, takesKey T m d = takesKey T m c ∧ (d = c ∨ d < c) := by
  have hp : (sgs.map fun c => (takesKey T m c, c)).Pairwise (fun x y : List Bool × Nat => x.2 < y.2) := List.Pairwise.map _ (fun a b h => h) sgs_sorted
  rcases dedupe_hit (fun x y => x.2 < y.2) _ [] hp (takesKey T m c, c) (List.mem_map.mpr ⟨c, mem_sgs.mpr hc, rfl⟩) with h | ⟨y, hy, e, h⟩
  · cases h
  · obtain ⟨hy', _⟩ := dedupe_mem _ _ _ hy
    obtain ⟨d, hd, rfl⟩ := List.mem_map.mp hy'
    refine ⟨d, List.mem_map.mpr ⟨_, hy, rfl⟩, e, ?_⟩
    rcases h with h | h
    · exact .inl (congrArg Prod.snd h)
    · exact .inr h
theorem reps_sgn {T : Tests} {m : Nat → Bool} {c : Nat} (h : c ∈ reps T m) : Sgn c := by
  obtain ⟨y, hy, rfl⟩ := List.mem_map.mp h
  obtain ⟨hy', _⟩ := dedupe_mem _ _ _ hy
  obtain ⟨d, hd, rfl⟩ := List.mem_map.mp hy'
  exact mem_sgs.mp hd
theorem reps_sorted (T : Tests) (m : Nat → Bool) : (reps T m).Pairwise (· < ·) := by
  unfold reps
  have hp : (sgs.map fun c => (takesKey T m c, c)).Pairwise (fun x y : List Bool × Nat => x.2 < y.2) := List.Pairwise.map _ (fun a b h => h) sgs_sorted
  exact List.Pairwise.map _ (fun a b h => h) (List.Pairwise.sublist (dedupe_sub _ _) hp)

/-! how many states there are -/
def allB : Nat → List (List Bool)
  | 0 => [[]]
  | n + 1 => (allB n).flatMap fun v => [false :: v, true :: v]
theorem mem_allB : ∀ (v : List Bool), v ∈ allB v.length
  | [] => by simp [allB]
  | b :: v => by
    show b :: v ∈ (allB v.length).flatMap fun v => [false :: v, true :: v]
    refine List.mem_flatMap.mpr ⟨v, mem_allB v, ?_⟩
    cases b <;> simp
theorem len_flat2 {α β : Type} (f : α → List β) (k : Nat) : ∀ l : List α, (∀ x ∈ l, (f x).length = k) → (l.flatMap f).length = k * l.length
  | [], _ => by simp
  | a :: l, h => by
    rw [List.flatMap_cons, List.length_append, h a List.mem_cons_self, len_flat2 f k l fun x hx => h x (List.mem_cons_of_mem _ hx), List.length_cons, Nat.mul_succ, Nat.add_comm]
theorem len_allB : ∀ n, (allB n).length = 2 ^ n
  | 0 => rfl
  | n + 1 => by
    show ((allB n).flatMap fun v => [false :: v, true :: v]).length = _
    rw [len_flat2 _ 2 _ (fun _ _ => rfl), len_allB n, Nat.pow_succ, Nat.mul_comm]
def vecs (p : Pat) : List (List Bool) := (allB p.length).map fun v => lotAt p 0 :: v
def prodV : Tests → List (List (List Bool))
  | [] => [[]]
  | q :: T => (vecs q.1).flatMap fun v => (prodV T).map fun r => v :: r
theorem len_prodV : ∀ T : Tests, (prodV T).length = 2 ^ tl T
  | [] => rfl
  | q :: T => by
    show ((vecs q.1).flatMap fun v => (prodV T).map fun r => v :: r).length = _
    rw [len_flat2 _ (prodV T).length _ (fun _ _ => by simp), len_prodV T]
    unfold vecs tl
    rw [List.length_map, len_allB, List.map_cons, List.sum_cons, Nat.pow_add, Nat.mul_comm]
theorem mem_prodV : ∀ (T : Tests) (rs : List (List Bool)), rs.length = T.length → (∀ (i : Nat) (q : Pat × (Nat → Nat)) (r : List Bool), T[i]? = some q → rs[i]? = some r → r ∈ vecs q.1) → rs ∈ prodV T
  | [], [], _, _ => by simp [prodV]
  | [], _ :: _, h, _ => by cases h
  | _ :: _, [], h, _ => by cases h
  | q :: T, r :: rs, h, hv => by
    show r :: rs ∈ (vecs q.1).flatMap fun v => (prodV T).map fun r => v :: r
    refine List.mem_flatMap.mpr ⟨r, hv 0 q r rfl rfl, List.mem_map.mpr ⟨rs, mem_prodV T rs (by simpa using h) fun i q r h1 h2 => hv (i + 1) q r h1 h2, rfl⟩⟩
theorem of_prodV : ∀ (T : Tests) (rs : List (List Bool)), rs ∈ prodV T → rs.length = T.length ∧ ∀ (i : Nat) (q : Pat × (Nat → Nat)) (r : List Bool), T[i]? = some q → rs[i]? = some r → r ∈ vecs q.1
  | [], rs, h => by
    have : rs = [] := by simpa [prodV] using h
    subst this
    exact ⟨rfl, fun i q r h1 _ => by simp at h1⟩
  | q :: T, rs, h => by
    obtain ⟨v, hv, hr⟩ := List.mem_flatMap.mp (show rs ∈ (vecs q.1).flatMap fun v => (prodV T).map fun r => v :: r from h)
    obtain ⟨r, hr', rfl⟩ := List.mem_map.mp hr
    obtain ⟨e, ih⟩ := of_prodV T r hr'
    refine ⟨by simp [e], fun i q' r' h1 h2 => ?_⟩
    cases i with
    | zero =>
      have e1 : q = q' := by simpa using h1
      have e2 : v = r' := by simpa using h2
      rw [← e1, ← e2]
      exact hv
    | succ i => exact ih i q' r' (by simpa using h1) (by simpa using h2)
def all1 (T : Tests) : List (List (List Bool) × Bool) := start1 T :: (prodV T).flatMap fun r => [(r, false), (r, true)]
theorem len_all1 (T : Tests) : (all1 T).length = bnd1 T := by
  unfold all1 bnd1
  rw [List.length_cons, len_flat2 _ 2 _ (fun _ _ => rfl), len_prodV, Nat.add_comm]
theorem step_all1 (T : Tests) (m : Nat → Bool) (s : List (List Bool) × Bool) (hs : s ∈ all1 T) (c : Nat) : step1 T m s c ∈ all1 T := by
  have hh : s.1.length = T.length ∧ ∀ (i : Nat) (q : Pat × (Nat → Nat)) (r : List Bool), T[i]? = some q → s.1[i]? = some r → (lotAt q.1 0 && r.getD 0 false) = lotAt q.1 0 := by
    rcases List.mem_cons.mp hs with rfl | hs
    · refine ⟨by simp [start1], fun i q r h1 h2 => ?_⟩
      have : r = sr q.1 := by
        simp [start1, List.getElem?_map, h1] at h2
        exact h2.symm
      obtain ⟨v, e⟩ := sr_head q.1
      rw [this, e]
      simp
    · obtain ⟨rs, hrs, hr⟩ := List.mem_flatMap.mp hs
      obtain ⟨e, h⟩ := of_prodV T rs hrs
      have e1 : s.1 = rs := by
        rcases List.mem_cons.mp hr with rfl | hr
        · rfl
        · rcases List.mem_cons.mp hr with rfl | hr
          · rfl
          · cases hr
      rw [e1]
      refine ⟨e, fun i q r h1 h2 => ?_⟩
      obtain ⟨v, _, rfl⟩ := List.mem_map.mp (h i q r h1 h2)
      simp
  obtain ⟨hl, hh⟩ := hh
  refine List.mem_cons_of_mem _ (List.mem_flatMap.mpr ⟨((T.zip s.1).map fun x => adv x.1.1 x.2 (x.1.2 c)), mem_prodV T _ (by simp [hl]) fun i q r h1 h2 => ?_, ?_⟩)
  · rw [List.getElem?_map] at h2
    cases hz : (T.zip s.1)[i]? with
    | none => rw [hz] at h2; cases h2
    | some x =>
      rw [hz] at h2
      have e : adv x.1.1 x.2 (x.1.2 c) = r := by simpa using h2
      obtain ⟨g1, g2⟩ := List.getElem?_zip_eq_some.mp hz
      rw [h1] at g1
      have eq1 : q = x.1 := Option.some.inj g1
      obtain ⟨v, ev, lv⟩ := adv_head x.1.1 x.2 (x.1.2 c)
      rw [← e, ev, ← eq1, hh i q x.2 h1 g2]
      refine List.mem_map.mpr ⟨v, ?_, rfl⟩
      rw [eq1, ← lv]
      exact mem_allB v
  · unfold step1
    cases (s.2 || m c) <;> simp
theorem end1 (T : Tests) (m : Nat → Bool) : (bfs (step1 T m) (reps T m) (start1 T) (bnd1 T)).2 = [] :=
  layer_end (U := all1 T) List.mem_cons_self (fun s hs c _ => step_all1 T m s hs c) (Nat.le_of_eq (len_all1 T))
theorem bound1 (T : Tests) (m : Nat → Bool) (n : Nat) : (bfs (step1 T m) (reps T m) (start1 T) n).1.length ≤ bnd1 T := by
  rw [← len_all1]
  exact seen_bound (U := all1 T) List.mem_cons_self (fun s hs c _ => step_all1 T m s hs c) n

/-! what the classes are -/
theorem nlt_tr : ∀ a b c : Nat, a < b → b < c → a < c := fun _ _ _ h1 h2 => Nat.lt_trans h1 h2
def Sln (x : Ln) : Prop := ∀ c ∈ x, Sgn c
theorem class_word {T : Tests} {m : Nat → Bool} {a : List Bool × Ln} (h : a ∈ classes T m) : Sln a.2 ∧ a.1 = trv T m a.2 := by
  obtain ⟨h1, _⟩ := dedupe_mem _ _ _ h
  obtain ⟨x, hx, rfl⟩ := List.mem_map.mp h1
  obtain ⟨_, e, hw⟩ := visits_word hx
  refine ⟨fun c hc => reps_sgn (hw c hc), ?_⟩
  show key1 x.1 = trv T m x.2
  rw [e, key_run1]
theorem classes_sorted (T : Tests) (m : Nat → Bool) : (classes T m).Pairwise fun a b => slt (· < ·) a.2 b.2 := by
  unfold classes
  refine List.Pairwise.sublist (dedupe_sub _ _) (List.Pairwise.map _ (fun a b h => h) (visits_sorted (lt := (· < ·)) (reps_sorted T m) _))
theorem class_hit (T : Tests) (m : Nat → Bool) (x : Ln) (hx : Sln x) : ∃ a ∈ classes T m, a.1 = trv T m x ∧ sle (· < ·) a.2 x := by
  -- the line of representatives
  have hrep : ∀ c, ∃ d, Sgn c → d ∈ reps T m ∧ takesKey T m d = takesKey T m c ∧ (d = c ∨ d < c) := fun c => by
    by_cases hc : Sgn c
    · obtain ⟨d, h1, h2, h3⟩ := reps_hit T m c hc
      exact ⟨d, fun _ => ⟨h1, h2, h3⟩⟩
    · exact ⟨0, fun h => absurd h hc⟩
  let f : Nat → Nat := fun c => Classical.choose (hrep c)
  have hf : ∀ c, Sgn c → f c ∈ reps T m ∧ takesKey T m (f c) = takesKey T m c ∧ (f c = c ∨ f c < c) := fun c hc => Classical.choose_spec (hrep c) hc
  have hrun : ∀ (x : Ln) (s : List (List Bool) × Bool), Sln x → (x.map f).foldl (step1 T m) s = x.foldl (step1 T m) s := by
    intro x
    induction x with
    | nil => exact fun _ _ => rfl
    | cons c x ih =>
      intro s h
      show (x.map f).foldl (step1 T m) (step1 T m s (f c)) = x.foldl (step1 T m) (step1 T m s c)
      rw [takesKey_step (hf c (h c List.mem_cons_self)).2.1 s]
      exact ih _ fun d hd => h d (List.mem_cons_of_mem _ hd)
  have hl : sle (· < ·) (x.map f) x := sle_map f x fun c hc => (hf c (hx c hc)).2.2
  obtain ⟨y, hy, e, l⟩ := visits_all nlt_tr (reps_sorted T m) (end1 T m) (x.map f) (fun c hc => by
    obtain ⟨d, hd, rfl⟩ := List.mem_map.mp hc
    exact (hf d (hx d hd)).1)
  have ek : key1 y.1 = trv T m x := by
    rw [e, ← key_run1]
    unfold run
    rw [hrun x _ hx]
  have hpw : ((vis1 T m).map fun x => (key1 x.1, x.2)).Pairwise (fun a b : List Bool × Ln => slt (· < ·) a.2 b.2) := List.Pairwise.map _ (fun a b h => h) (visits_sorted (lt := (· < ·)) (reps_sorted T m) (bnd1 T))
  rcases dedupe_hit (fun a b : List Bool × Ln => slt (· < ·) a.2 b.2) _ [] hpw (key1 y.1, y.2) (List.mem_map.mpr ⟨y, hy, rfl⟩) with h | ⟨a, ha, ea, h⟩
  · cases h
  · refine ⟨a, ha, ea.trans ek, ?_⟩
    have : sle (· < ·) a.2 y.2 := by
      rcases h with rfl | h
      · exact .inl rfl
      · exact .inr h
    exact sle_trans nlt_tr this (sle_trans nlt_tr l hl)

/-! the second search: lists -/
abbrev Cl := List Bool × Ln
def step2 (s1 s2 : List Stp) (st : List Nat × List Nat) (a : Cl) : List Nat × List Nat := ((put s1 a.1 st.1).2, (put s2 a.1 st.2).2)
def flag (s1 s2 : List Stp) (st : List Nat × List Nat) (a : Cl) : Bool := ((put s1 a.1 st.1).1 != (put s2 a.1 st.2).1) || ((put s1 a.1 st.1).1 && a.1.getLastD false)
def below : List Nat → List (List Nat)
  | [] => [[]]
  | n :: l => (List.range (n + 1)).flatMap fun k => (below l).map fun r => k :: r
def bl : List Nat → Nat
  | [] => 1
  | n :: l => (n + 1) * bl l
theorem len_below : ∀ l, (below l).length = bl l
  | [] => rfl
  | n :: l => by
    show ((List.range (n + 1)).flatMap fun k => (below l).map fun r => k :: r).length = _
    rw [len_flat2 _ (below l).length _ (fun _ _ => by simp), len_below l, List.length_range, Nat.mul_comm]
    rfl
def leL : List Nat → List Nat → Prop
  | [], [] => True
  | a :: x, b :: y => a ≤ b ∧ leL x y
  | [], _ :: _ => False
  | _ :: _, [] => False
theorem mem_below : ∀ (x l : List Nat), leL x l → x ∈ below l
  | [], [], _ => by simp [below]
  | a :: x, b :: l, h => by
    show a :: x ∈ (List.range (b + 1)).flatMap fun k => (below l).map fun r => k :: r
    exact List.mem_flatMap.mpr ⟨a, List.mem_range.mpr (by have := h.1; omega), List.mem_map.mpr ⟨x, mem_below x l h.2, rfl⟩⟩
  | [], _ :: _, h => h.elim
  | _ :: _, [], h => h.elim
theorem of_below : ∀ (l x : List Nat), x ∈ below l → leL x l
  | [], x, h => by
    have : x = [] := by simpa [below] using h
    rw [this]
    exact True.intro
  | n :: l, x, h => by
    obtain ⟨k, hk, hx⟩ := List.mem_flatMap.mp (show x ∈ (List.range (n + 1)).flatMap fun k => (below l).map fun r => k :: r from h)
    obtain ⟨r, hr, rfl⟩ := List.mem_map.mp hx
    exact ⟨by have := List.mem_range.mp hk; omega, of_below l r hr⟩
theorem leL_refl : ∀ l, leL l l
  | [] => True.intro
  | _ :: l => ⟨Nat.le_refl _, leL_refl l⟩
theorem leL_trans : ∀ x y z, leL x y → leL y z → leL x z
  | [], [], [], _, _ => True.intro
  | _ :: x, _ :: y, _ :: z, h1, h2 => ⟨Nat.le_trans h1.1 h2.1, leL_trans x y z h1.2 h2.2⟩
  | [], _ :: _, _, h, _ => h.elim
  | _ :: _, [], _, h, _ => h.elim
  | [], [], _ :: _, _, h => h.elim
  | _ :: _, _ :: _, [], _, h => h.elim
theorem put_le : ∀ (s : List Stp) (tr : List Bool) (l : List Nat), leL (put s tr l).2 l
  | [], _, l => leL_refl l
  | .test i t :: s, tr, l => by
    show leL (if tr.getD i false = t then put s tr l else (false, l)).2 l
    split
    · exact put_le s tr l
    · exact leL_refl l
  | .first _ :: _, _, [] => True.intro
  | .first _ :: _, _, 0 :: l => leL_refl _
  | .first _ :: s, tr, (k + 1) :: l => ⟨Nat.le_succ k, put_le s tr l⟩
def all2 (f1 f2 : List Nat) : List (List Nat × List Nat) := (below f1).flatMap fun x => (below f2).map fun y => (x, y)
def bnd2 (f1 f2 : List Nat) : Nat := bl f2 * bl f1
theorem len_all2 (f1 f2 : List Nat) : (all2 f1 f2).length = bnd2 f1 f2 := by
  unfold all2 bnd2
  rw [len_flat2 _ (below f2).length _ (fun _ _ => by simp), len_below, len_below]
theorem mem_all2 {f1 f2 : List Nat} {s : List Nat × List Nat} : s ∈ all2 f1 f2 ↔ leL s.1 f1 ∧ leL s.2 f2 := by
  unfold all2
  rw [List.mem_flatMap]
  constructor
  · rintro ⟨x, hx, h⟩
    obtain ⟨y, hy, rfl⟩ := List.mem_map.mp h
    exact ⟨of_below _ _ hx, of_below _ _ hy⟩
  · rintro ⟨h1, h2⟩
    exact ⟨s.1, mem_below _ _ h1, List.mem_map.mpr ⟨s.2, mem_below _ _ h2, rfl⟩⟩
theorem step_all2 (s1 s2 : List Stp) {f1 f2 : List Nat} (st : List Nat × List Nat) (h : st ∈ all2 f1 f2) (a : Cl) : step2 s1 s2 st a ∈ all2 f1 f2 := by
  obtain ⟨h1, h2⟩ := mem_all2.mp h
  exact mem_all2.mpr ⟨leL_trans _ _ _ (put_le s1 a.1 st.1) h1, leL_trans _ _ _ (put_le s2 a.1 st.2) h2⟩
theorem end2 (s1 s2 : List Stp) (A : List Cl) (f1 f2 : List Nat) : (bfs (step2 s1 s2) A (f1, f2) (bnd2 f1 f2)).2 = [] :=
  layer_end (U := all2 f1 f2) (mem_all2.mpr ⟨leL_refl _, leL_refl _⟩) (fun s hs a _ => step_all2 s1 s2 s hs a) (Nat.le_of_eq (len_all2 f1 f2))
theorem bound2 (s1 s2 : List Stp) (A : List Cl) (f1 f2 : List Nat) (n : Nat) : (bfs (step2 s1 s2) A (f1, f2) n).1.length ≤ bnd2 f1 f2 := by
  rw [← len_all2]
  exact seen_bound (U := all2 f1 f2) (mem_all2.mpr ⟨leL_refl _, leL_refl _⟩) (fun s hs a _ => step_all2 s1 s2 s hs a) n
/-- what is looked at, in order -/
def looks (A : List Cl) (vis : List ((List Nat × List Nat) × List Cl)) : List (((List Nat × List Nat) × List Cl) × Cl) := vis.flatMap fun x => A.map fun a => (x, a)
def partingOf (s1 s2 : List Stp) (A : List Cl) (vis : List ((List Nat × List Nat) × List Cl)) : Option (List Ln) := ((looks A vis).find? fun z => flag s1 s2 z.1.1 z.2).map fun z => z.1.2.map (·.2) ++ [z.2.2]

/-! both together -/
structure Both where
  s1 : List Stp
  s2 : List Stp
  T : Tests
  t1 : Nat → Nat
  t2 : Nat → Nat
def both (one other : Row) : Both :=
  ⟨(stR one 0 id).1, (stR other (stR one 0 id).2.1.length id).1, (stR one 0 id).2.1 ++ (stR other (stR one 0 id).2.1.length id).2.1, (stR one 0 id).2.2, (stR other (stR one 0 id).2.1.length id).2.2⟩
def Both.m (b : Both) : Nat → Bool := fun c => decide (b.t1 c ≠ b.t2 c)
def Both.A (b : Both) : List Cl := classes b.T b.m
def vis2 (one other : Row) : List ((List Nat × List Nat) × List Cl) := visits (step2 (both one other).s1 (both one other).s2) (both one other).A (firsts one, firsts other) (bnd2 (firsts one) (firsts other))
def parting (one other : Row) : Option (List Ln) := partingOf (both one other).s1 (both one other).s2 (both one other).A (vis2 one other)

theorem trv_get (T : Tests) (m : Nat → Bool) (x : Ln) (i : Nat) (q : Pat × (Nat → Nat)) (h : T[i]? = some q) : (trv T m x).getD i false = meets q.1 (x.map q.2) := by
  have hi : i < T.length := (List.getElem?_eq_some_iff.mp h).1
  unfold trv
  rw [List.getD_eq_getElem?_getD, List.getElem?_append_left (by simpa using hi), List.getElem?_map, h]
  rfl
theorem put_both (one other : Row) (x : Ln) (l1 l2 : List Nat) :
    (put (both one other).s1 (trv (both one other).T (both one other).m x) l1 = ((strm one l1 x).1.isSome, (strm one l1 x).2) ∧ ∀ y, (strm one l1 x).1 = some y → y = x.map (both one other).t1) ∧
    (put (both one other).s2 (trv (both one other).T (both one other).m x) l2 = ((strm other l2 x).1.isSome, (strm other l2 x).2) ∧ ∀ y, (strm other l2 x).1 = some y → y = x.map (both one other).t2) := by
  have a := put_strm (both one other).T x (trv (both one other).T (both one other).m x) (fun i q h => trv_get _ _ x i q h) one 0 id l1 (fun i q h => by
    rw [Nat.zero_add]
    have hi : i < (stR one 0 id).2.1.length := (List.getElem?_eq_some_iff.mp h).1
    show ((stR one 0 id).2.1 ++ _)[i]? = some q
    rw [List.getElem?_append_left hi]
    exact h)
  have b := put_strm (both one other).T x (trv (both one other).T (both one other).m x) (fun i q h => trv_get _ _ x i q h) other (stR one 0 id).2.1.length id l2 (fun i q h => by
    show ((stR one 0 id).2.1 ++ _)[(stR one 0 id).2.1.length + i]? = some q
    rw [List.getElem?_append_right (Nat.le_add_right _ _), Nat.add_sub_cancel_left]
    exact h)
  rw [List.map_id] at a b
  exact ⟨a, b⟩
theorem flag_iff (one other : Row) (x : Ln) (y : Ln) (st : List Nat × List Nat) : flag (both one other).s1 (both one other).s2 st (trv (both one other).T (both one other).m x, y) = true ↔ (strm one st.1 x).1 ≠ (strm other st.2 x).1 := by
  obtain ⟨⟨a1, a2⟩, b1, b2⟩ := put_both one other x st.1 st.2
  unfold flag
  show (((put (both one other).s1 (trv (both one other).T (both one other).m x) st.1).1 != (put (both one other).s2 (trv (both one other).T (both one other).m x) st.2).1) || ((put (both one other).s1 (trv (both one other).T (both one other).m x) st.1).1 && (trv (both one other).T (both one other).m x).getLastD false)) = true ↔ _
  rw [a1, b1]
  have hl : (trv (both one other).T (both one other).m x).getLastD false = x.any (both one other).m := by simp [trv, List.getLastD_eq_getLast?]
  rw [hl]
  cases h1 : (strm one st.1 x).1 with
  | none =>
    cases h2 : (strm other st.2 x).1 with
    | none => simp
    | some v => simp
  | some u =>
    cases h2 : (strm other st.2 x).1 with
    | none => simp
    | some v =>
      have eu := a2 u h1
      have ev := b2 v h2
      rw [eu, ev]
      simp only [Option.isSome_some, bne_self_eq_false, Bool.false_or, Bool.true_and, ne_eq, Option.some.injEq]
      rw [List.any_eq_true]
      constructor
      · rintro ⟨c, hc, h⟩ e
        have := List.map_inj_left.mp e c hc
        simp [Both.m] at h
        exact h this
      · intro h
        refine Classical.byContradiction fun hn => h (List.map_congr_left fun c hc => ?_)
        refine Classical.byContradiction fun hne => hn ⟨c, hc, ?_⟩
        simp [Both.m, hne]
def stepL (one other : Row) (st : List Nat × List Nat) (x : Ln) : List Nat × List Nat := ((strm one st.1 x).2, (strm other st.2 x).2)
theorem step2_trv (one other : Row) (x y : Ln) (st : List Nat × List Nat) : step2 (both one other).s1 (both one other).s2 st (trv (both one other).T (both one other).m x, y) = stepL one other st x := by
  obtain ⟨⟨a1, _⟩, b1, _⟩ := put_both one other x st.1 st.2
  unfold step2 stepL
  show ((put (both one other).s1 (trv (both one other).T (both one other).m x) st.1).2, (put (both one other).s2 (trv (both one other).T (both one other).m x) st.2).2) = _
  rw [a1, b1]
/-- where the rows part, a first step at which they do -/
theorem first_flag (one other : Row) : ∀ (L : List Ln) (st : List Nat × List Nat), writ one st.1 L ≠ writ other st.2 L → ∃ P x R, L = P ++ x :: R ∧ (strm one (P.foldl (stepL one other) st).1 x).1 ≠ (strm other (P.foldl (stepL one other) st).2 x).1
  | [], st, h => absurd (by rw [writ_nil, writ_nil]) h
  | x :: L, st, h => by
    by_cases hx : (strm one st.1 x).1 = (strm other st.2 x).1
    · rw [writ_cons, writ_cons, hx] at h
      have h' : writ one (stepL one other st x).1 L ≠ writ other (stepL one other st x).2 L := fun e => h (congrArg _ e)
      obtain ⟨P, y, R, e, hy⟩ := first_flag one other L (stepL one other st x) h'
      exact ⟨x :: P, y, R, by rw [e]; rfl, hy⟩
    · exact ⟨[], x, L, rfl, hx⟩
/-- no step before, one at the end: they part -/
theorem parts_of (one other : Row) (x : Ln) : ∀ (P : List Ln) (st : List Nat × List Nat), (∀ P1 y P2, P = P1 ++ y :: P2 → (strm one (P1.foldl (stepL one other) st).1 y).1 = (strm other (P1.foldl (stepL one other) st).2 y).1) →
    (strm one (P.foldl (stepL one other) st).1 x).1 ≠ (strm other (P.foldl (stepL one other) st).2 x).1 → writ one st.1 (P ++ [x]) ≠ writ other st.2 (P ++ [x])
  | [], st, _, h => by
    show writ one st.1 [x] ≠ writ other st.2 [x]
    rw [writ_cons, writ_cons, writ_nil, writ_nil, List.append_nil, List.append_nil]
    intro e
    refine h ?_
    show (strm one st.1 x).1 = (strm other st.2 x).1
    cases h1 : (strm one st.1 x).1 with
    | none =>
      rw [h1] at e
      cases h2 : (strm other st.2 x).1 with
      | none => rfl
      | some v => rw [h2] at e; cases e
    | some u =>
      rw [h1] at e
      cases h2 : (strm other st.2 x).1 with
      | none => rw [h2] at e; cases e
      | some v =>
        rw [h2] at e
        have : u = v := by simpa using e
        rw [this]
  | y :: P, st, h0, h => by
    show writ one st.1 (y :: (P ++ [x])) ≠ writ other st.2 (y :: (P ++ [x]))
    have h00 : (strm one st.1 y).1 = (strm other st.2 y).1 := h0 [] y P rfl
    rw [writ_cons, writ_cons, h00]
    intro e
    exact parts_of one other x P (stepL one other st y) (fun P1 z P2 e => h0 (y :: P1) z P2 (by rw [e]; rfl)) h (List.append_cancel_left e)

abbrev rlt : List Ln → List Ln → Prop := slt (slt (· < ·))
theorem sl_tr : ∀ a b c : Ln, slt (· < ·) a b → slt (· < ·) b c → slt (· < ·) a c := fun _ _ _ h1 h2 => slt_trans nlt_tr h1 h2
abbrev clt (a b : Cl) : Prop := slt (· < ·) a.2 b.2
theorem cl_tr : ∀ a b c : Cl, clt a b → clt b c → clt a c := fun _ _ _ h1 h2 => slt_trans nlt_tr h1 h2
theorem lex_map : ∀ u v : List Cl, lexlt clt u v → lexlt (slt (· < ·)) (u.map (·.2)) (v.map (·.2))
  | [], [], h => by cases h
  | [], _ :: _, _ => True.intro
  | _ :: _, [], h => by cases h
  | a :: u, b :: v, h => by
    rcases h with h | ⟨rfl, h⟩
    · exact .inl h
    · exact .inr ⟨rfl, lex_map u v h⟩
theorem sle_lines {u v : List Cl} (h : sle clt u v) : sle (slt (· < ·)) (u.map (·.2)) (v.map (·.2)) := by
  rcases h with rfl | h | ⟨e, h⟩
  · exact .inl rfl
  · exact .inr (.inl (by simpa using h))
  · exact .inr (.inr ⟨by simpa using e, lex_map u v h⟩)
theorem looks_sorted {A : List Cl} (hA : A.Pairwise clt) : ∀ vis : List ((List Nat × List Nat) × List Cl), vis.Pairwise (wlt clt) → (looks A vis).Pairwise fun y z => slt clt (y.1.2 ++ [y.2]) (z.1.2 ++ [z.2])
  | [], _ => by simp [looks]
  | x :: vis, h => by
    obtain ⟨h1, h2⟩ := List.pairwise_cons.mp h
    show (A.map (fun a => (x, a)) ++ looks A vis).Pairwise _
    refine List.pairwise_append.mpr ⟨?_, looks_sorted hA vis h2, ?_⟩
    · exact List.Pairwise.map _ (fun a b h => .inr ⟨by simp, lexlt_snoc x.2 h⟩) hA
    · intro y hy z hz
      obtain ⟨a, _, rfl⟩ := List.mem_map.mp hy
      obtain ⟨x', hx', hz⟩ := List.mem_flatMap.mp hz
      obtain ⟨b, _, rfl⟩ := List.mem_map.mp hz
      rcases h1 x' hx' with h | ⟨e, h⟩
      · exact .inl (by simp; omega)
      · exact .inr ⟨by simp [e], lexlt_app _ _ _ _ e h⟩
def Slst (L : List Ln) : Prop := ∀ x ∈ L, Sln x

section
variable (one other : Row)
/-- a list's letters: its classes -/
theorem letters (L : List Ln) (hL : Slst L) : ∃ u : List Cl, u.length = L.length ∧ (∀ a ∈ u, a ∈ (both one other).A) ∧ (∀ (i : Nat) (a : Cl) (x : Ln), u[i]? = some a → L[i]? = some x → a.1 = trv (both one other).T (both one other).m x ∧ sle (· < ·) a.2 x) := by
  induction L with
  | nil => exact ⟨[], rfl, fun a h => (by cases h), fun i a x h => (by simp at h)⟩
  | cons x L ih =>
    obtain ⟨u, h1, h2, h3⟩ := ih fun y hy => hL y (List.mem_cons_of_mem _ hy)
    obtain ⟨a, ha, e, l⟩ := class_hit (both one other).T (both one other).m x (hL x List.mem_cons_self)
    refine ⟨a :: u, by simp [h1], fun b hb => ?_, fun i b y hb hy => ?_⟩
    · rcases List.mem_cons.mp hb with rfl | hb
      · exact ha
      · exact h2 b hb
    · cases i with
      | zero =>
        have e1 : a = b := by simpa using hb
        have e2 : x = y := by simpa using hy
        rw [← e1, ← e2]
        exact ⟨e, l⟩
      | succ i => exact h3 i b y (by simpa using hb) (by simpa using hy)
theorem run_letters : ∀ (L : List Ln) (u : List Cl) (st : List Nat × List Nat), u.length = L.length → (∀ (i : Nat) (a : Cl) (x : Ln), u[i]? = some a → L[i]? = some x → a.1 = trv (both one other).T (both one other).m x) →
    u.foldl (step2 (both one other).s1 (both one other).s2) st = L.foldl (stepL one other) st
  | [], [], _, _, _ => rfl
  | [], _ :: _, _, h, _ => by cases h
  | _ :: _, [], _, h, _ => by cases h
  | x :: L, a :: u, st, h, ha => by
    have e := ha 0 a x rfl rfl
    show u.foldl _ (step2 _ _ st a) = L.foldl _ (stepL one other st x)
    have e2 : step2 (both one other).s1 (both one other).s2 st a = stepL one other st x := by
      rw [← step2_trv one other x a.2 st, ← e]
    rw [e2]
    exact run_letters L u _ (by simpa using h) fun i b y hb hy => ha (i + 1) b y hb hy
/-- a list that the rows part: one is looked at that is flagged, and at most it -/
theorem look_of (L : List Ln) (hL : Slst L) (h : written one L ≠ written other L) : ∃ z ∈ looks (both one other).A (vis2 one other), flag (both one other).s1 (both one other).s2 z.1.1 z.2 = true ∧ sle (slt (· < ·)) (z.1.2.map (·.2) ++ [z.2.2]) L := by
  rw [← writ_firsts, ← writ_firsts] at h
  obtain ⟨P, x, R, rfl, hx⟩ := first_flag one other L (firsts one, firsts other) h
  have hP : Slst P := fun y hy => hL y (List.mem_append_left _ hy)
  have hxs : Sln x := hL x (List.mem_append_right _ List.mem_cons_self)
  obtain ⟨u, u1, u2, u3⟩ := letters one other P hP
  obtain ⟨a, ha, ea, la⟩ := class_hit (both one other).T (both one other).m x hxs
  have er := run_letters one other P u (firsts one, firsts other) u1 fun i b y hb hy => (u3 i b y hb hy).1
  obtain ⟨z, hz, ez, lz⟩ := visits_all cl_tr (classes_sorted (both one other).T (both one other).m) (end2 (both one other).s1 (both one other).s2 (both one other).A (firsts one) (firsts other)) u u2
  refine ⟨(z, a), List.mem_flatMap.mpr ⟨z, hz, List.mem_map.mpr ⟨a, ha, rfl⟩⟩, ?_, ?_⟩
  · have e0 : a = (trv (both one other).T (both one other).m x, a.2) := by rw [← ea]
    show flag _ _ z.1 a = true
    rw [e0, flag_iff, ez]
    unfold run
    rw [er]
    exact hx
  · have l1 : sle (slt (· < ·)) (z.2.map (·.2) ++ [a.2]) (u.map (·.2) ++ [a.2]) := sle_snoc (sle_lines lz) a.2
    have l2 : sle (slt (· < ·)) (u.map (·.2) ++ [a.2]) (P ++ [x]) := by
      refine sle_zip _ _ (by simp [u1]) fun i b y hb hy => ?_
      by_cases hi : i < P.length
      · rw [List.getElem?_append_left (by simp [u1, hi]), List.getElem?_map] at hb
        rw [List.getElem?_append_left hi] at hy
        cases hu : u[i]? with
        | none => rw [hu] at hb; cases hb
        | some w =>
          rw [hu] at hb
          have : w.2 = b := by simpa using hb
          rw [← this]
          exact (u3 i w y hu hy).2
      · rw [List.getElem?_append_right (by simp [u1]; omega)] at hb
        rw [List.getElem?_append_right (by omega)] at hy
        have z1 : (List.map (fun x : Cl => x.2) u).length = P.length := by simp [u1]
        rw [z1] at hb
        cases hk : i - P.length with
        | zero =>
          rw [hk] at hb hy
          have e1 : a.2 = b := by simpa using hb
          have e2 : x = y := by simpa using hy
          rw [← e1, ← e2]
          exact la
        | succ k =>
          rw [hk] at hb
          simp at hb
    have l3 : sle (slt (· < ·)) (P ++ [x]) (P ++ x :: R) := by
      cases R with
      | nil => exact .inl rfl
      | cons y R => exact .inr (.inl (by simp))
    exact sle_trans sl_tr l1 (sle_trans sl_tr l2 l3)
theorem parting_none (h : parting one other = none) (L : List Ln) (hL : Slst L) : written one L = written other L := by
  refine Classical.byContradiction fun hn => ?_
  obtain ⟨z, hz, hf, _⟩ := look_of one other L hL hn
  unfold parting partingOf at h
  rw [Option.map_eq_none_iff] at h
  have := List.find?_eq_none.mp h z hz
  exact this hf
theorem parting_some {t : List Ln} (h : parting one other = some t) : t ≠ [] ∧ Slst t ∧ written one t ≠ written other t ∧ ∀ L, Slst L → rlt L t → written one L = written other L := by
  unfold parting partingOf at h
  obtain ⟨z, hz, rfl⟩ := Option.map_eq_some_iff.mp h
  obtain ⟨hf, as, bs, eL, hb⟩ := List.find?_eq_some_iff_append.mp hz
  have hzm : z ∈ looks (both one other).A (vis2 one other) := by rw [eL]; simp
  obtain ⟨x, hx, hzx⟩ := List.mem_flatMap.mp hzm
  obtain ⟨a, ha, rfl⟩ := List.mem_map.mp hzx
  have hsort := looks_sorted (classes_sorted (both one other).T (both one other).m) (vis2 one other) (visits_sorted (classes_sorted (both one other).T (both one other).m) _)
  obtain ⟨_, ew, hw⟩ := visits_word hx
  -- what is flagged comes behind, or is it
  have least : ∀ y ∈ looks (both one other).A (vis2 one other), flag (both one other).s1 (both one other).s2 y.1.1 y.2 = true → sle (slt (· < ·)) (x.2.map (·.2) ++ [a.2]) (y.1.2.map (·.2) ++ [y.2.2]) := by
    intro y hy hfy
    have hsort' : (as ++ (x, a) :: bs).Pairwise fun y z => slt clt (y.1.2 ++ [y.2]) (z.1.2 ++ [z.2]) := by
      rw [← eL]
      exact hsort
    rw [eL] at hy
    rcases List.mem_append.mp hy with hy | hy
    · have := hb y hy
      rw [hfy] at this
      cases this
    · rcases List.mem_cons.mp hy with rfl | hy
      · exact .inl rfl
      · have h1 := (List.pairwise_cons.mp (List.pairwise_append.mp hsort').2.1).1 y hy
        have h2 := sle_lines (.inr h1)
        simpa using h2
  have hmin : ∀ L, Slst L → rlt L (x.2.map (·.2) ++ [a.2]) → written one L = written other L := by
    intro L hL hlt
    refine Classical.byContradiction fun hn => ?_
    obtain ⟨y, hy, hfy, ly⟩ := look_of one other L hL hn
    have h1 := sle_trans sl_tr (least y hy hfy) ly
    have h2 := slt_of_slt_sle sl_tr hlt h1
    exact slt_irrefl (fun b hb => slt_irrefl (fun n hn => Nat.lt_irrefl n hn) b hb) L h2
  refine ⟨by simp, fun y hy => ?_, ?_, hmin⟩
  · rcases List.mem_append.mp hy with hy | hy
    · obtain ⟨b, hb, rfl⟩ := List.mem_map.mp hy
      exact (class_word (hw b hb)).1
    · have : y = a.2 := by simpa using hy
      rw [this]
      exact (class_word ha).1
  · -- it is parted
    have eu : ∀ (u : List Cl), (∀ b ∈ u, b ∈ (both one other).A) → ∀ st, u.foldl (step2 (both one other).s1 (both one other).s2) st = (u.map (·.2)).foldl (stepL one other) st := fun u hu st =>
      run_letters one other (u.map (·.2)) u st (by simp) fun i b y hb hy => by
        rw [List.getElem?_map, hb] at hy
        have : b.2 = y := by simpa using hy
        rw [← this]
        exact (class_word (hu b (List.mem_of_getElem? hb))).2
    show written one (x.2.map (·.2) ++ [a.2]) ≠ written other (x.2.map (·.2) ++ [a.2])
    rw [← writ_firsts, ← writ_firsts]
    refine parts_of one other a.2 (x.2.map (·.2)) (firsts one, firsts other) (fun P1 y P2 e => ?_) ?_
    · -- a step ahead would have been met ahead
      refine Classical.byContradiction fun hne => ?_
      obtain ⟨u1, u2, e1, e2, e3⟩ := List.map_eq_append_iff.mp e
      obtain ⟨b, u3, e4, e5, e6⟩ := List.map_eq_cons_iff.mp e3
      have hu1 : ∀ c ∈ u1, c ∈ (both one other).A := fun c hc => hw c (by rw [e1]; exact List.mem_append_left _ hc)
      have hbA : b ∈ (both one other).A := hw b (by rw [e1, e4]; simp)
      have hcw := class_word hbA
      obtain ⟨v, hv, ev, lv⟩ := visits_all cl_tr (classes_sorted (both one other).T (both one other).m) (end2 (both one other).s1 (both one other).s2 (both one other).A (firsts one) (firsts other)) u1 hu1
      have hfl : flag (both one other).s1 (both one other).s2 v.1 b = true := by
        have e0 : b = (trv (both one other).T (both one other).m b.2, b.2) := by rw [← hcw.2]
        rw [e0, flag_iff, ev]
        unfold run
        rw [eu u1 hu1, e2, e5]
        exact hne
      have hle : sle (slt (· < ·)) (x.2.map (·.2) ++ [a.2]) (v.2.map (·.2) ++ [b.2]) := least (v, b) (List.mem_flatMap.mpr ⟨v, hv, List.mem_map.mpr ⟨b, hbA, rfl⟩⟩) hfl
      have hlen : v.2.length ≤ u1.length := by
        rcases lv with h | h | ⟨h, _⟩
        · rw [h]
          exact Nat.le_refl _
        · omega
        · omega
      have hlen2 : (x.2.map (·.2) ++ [a.2]).length ≤ (v.2.map (·.2) ++ [b.2]).length := by
        rcases hle with h | h | ⟨h, _⟩
        · rw [h]
          exact Nat.le_refl _
        · omega
        · omega
      rw [e1, e4] at hlen2
      simp at hlen2
      omega
    · have e0 : a = (trv (both one other).T (both one other).m a.2, a.2) := by rw [← (class_word ha).2]
      have hf' : flag (both one other).s1 (both one other).s2 x.1 a = true := hf
      rw [e0, flag_iff, ew] at hf'
      unfold run at hf'
      rw [eu x.2 hw] at hf'
      exact hf'
end
end QB

/-! Dicts whose keys are nested tuples, over the hand layer. -/
namespace QN
open PySem PySem.Spec PyProof.Rows L2

mutual
def nk : PyData → NestedKey
  | .none => .none
  | .bool b => .num (if b = true then 1 else 0)
  | .int i => .num i
  | .str x => .text x
  | .list _ => .none
  | .tuple ds => .tup (nks ds)
  | .dict _ => .none
def nks : List PyData → List NestedKey
  | [] => []
  | d :: ds => nk d :: nks ds
end
mutual
def keyish : PyData → Bool
  | .none => true
  | .bool _ => true
  | .int _ => true
  | .str _ => true
  | .list _ => false
  | .tuple ds => keyishs ds
  | .dict _ => false
def keyishs : List PyData → Bool
  | [] => true
  | d :: ds => keyish d && keyishs ds
end
section
variable {X : Cx} {pins : List (Addr × Obj)} {σ : L2.St} {H : Hp} {s : Shared}
mutual
theorem dp_nested (I : Inv X pins σ H s) : ∀ (d : PyData) (v : V) (u : Value), keyish d = true → Dp X.K H v d → RelV v u → NestedIs s.heap (nk d) u
  | .none, _, _, _, h, r => by
    cases h
    cases r
    exact NestedIs.none
  | .bool b, _, _, _, h, r => by
    cases h
    cases r
    exact NestedIs.bool rfl
  | .int i, _, _, _, h, r => by
    cases h
    obtain ⟨t, rfl⟩ := r
    exact NestedIs.int i t
  | .str x, _, _, _, h, r => by
    cases h
    obtain ⟨t, rfl⟩ := r
    exact NestedIs.text x t
  | .list ds, _, _, k, _, _ => by cases k
  | .tuple ds, _, _, k, h, r => by
    cases h with
    | tup hs ha =>
      cases r
      obtain ⟨its, rv, ⟨o, ho, hc, n, hd⟩, _⟩ := I.tuple hs
      exact NestedIs.tup ho hc hd (dp_nesteds I ds _ its k ha rv)
  | .dict _, _, _, k, _, _ => by cases k
theorem dp_nesteds (I : Inv X pins σ H s) : ∀ (ds : List PyData) (vs : List V) (us : List Value), keyishs ds = true → DpAll X.K H vs ds → Vals vs us → NestedAll s.heap (nks ds) us
  | [], _, _, _, h, r => by
    cases h
    cases r
    exact NestedAll.nil
  | d :: ds, _, _, k, h, r => by
    have k' : (keyish d && keyishs ds) = true := k
    rw [Bool.and_eq_true] at k'
    cases h with
    | cons h1 h2 =>
      cases r with
      | cons r1 r2 => exact NestedAll.cons (dp_nested I d _ _ k'.1 h1 r1) (dp_nesteds I ds _ _ k'.2 h2 r2)
end
end

mutual
theorem dp_mono {K : PySem.W.Frag} {G G' : Hp} (e : ∀ a o, G a = some o → G' a = some o) : ∀ (d : PyData) (v : V), Dp K G v d → Dp K G' v d
  | .none, _, h => by
    cases h
    exact .non
  | .bool b, _, h => by
    cases h
    exact .bl b
  | .int i, _, h => by
    cases h
    exact .int i
  | .str x, _, h => by
    cases h
    exact .str x
  | .list ds, _, h => by
    cases h with
    | lst hs ha =>
      refine .lst ?_ (dp_monos e ds _ ha)
      rcases hs with (h | ⟨o, h⟩) | h
      · exact .inl (.inl (e _ _ h))
      · exact .inl (.inr ⟨o, e _ _ h⟩)
      · exact .inr h
  | .tuple ds, _, h => by
    cases h with
    | tup hs ha =>
      refine .tup ?_ (dp_monos e ds _ ha)
      rcases hs with (h | ⟨o, h⟩) | h
      · exact .inl (.inl (e _ _ h))
      · exact .inl (.inr ⟨o, e _ _ h⟩)
      · exact .inr h
  | .dict _, _, h => by cases h
theorem dp_monos {K : PySem.W.Frag} {G G' : Hp} (e : ∀ a o, G a = some o → G' a = some o) : ∀ (ds : List PyData) (vs : List V), DpAll K G vs ds → DpAll K G' vs ds
  | [], _, h => by
    cases h
    exact .nil
  | d :: ds, _, h => by
    cases h with
    | cons h1 h2 => exact .cons (dp_mono e d _ h1) (dp_monos e ds _ h2)
end

/-- b is the key k, read in G -/
def KeyAt (R : PyData → Prop) (K : PySem.W.Frag) (G : Hp) (b : Addr) (k : NestedKey) : Prop := ∃ d, Dp K G (.ref b) d ∧ keyish d = true ∧ nk d = k ∧ k.depth ≤ 8 ∧ R d
theorem KeyAt.mono {R : PyData → Prop} {K : PySem.W.Frag} {G G' : Hp} (e : ∀ a o, G a = some o → G' a = some o) {b : Addr} {k : NestedKey} (h : KeyAt R K G b k) : KeyAt R K G' b k :=
  let ⟨d, h1, h2⟩ := h
  ⟨d, dp_mono e d _ h1, h2⟩
theorem KeyAt.is {R : PyData → Prop} {X : Cx} {pins : List (Addr × Obj)} {σ : L2.St} {H : Hp} {s : Shared} (I : Inv X pins σ H s) {b : Addr} {k : NestedKey} (h : KeyAt R X.K H b k) : (nestedKind X.prog X.w).is s.heap k b := by
  obtain ⟨d, h1, h2, h3, h4, _⟩ := h
  refine ⟨?_, h4⟩
  rw [← h3]
  exact dp_nested I d _ _ h2 h1 rfl

/-- the dict's entries against the keys and values that one speaks of -/
abbrev NE (R : PyData → Prop) (K : PySem.W.Frag) (G : Hp) : List (NestedKey × V) → List (NestedKey × Addr × Value) → Prop := Paired fun p q => p.1 = q.1 ∧ KeyAt R K G q.2.1 p.1 ∧ RelV p.2 q.2.2
section
variable {K : PySem.W.Frag} {G G' : Hp}
theorem NE.mono {R : PyData → Prop} (e : ∀ a o, G a = some o → G' a = some o) {kvs : List (NestedKey × V)} {xs : List (NestedKey × Addr × Value)} (r : NE R K G kvs xs) : NE R K G' kvs xs :=
  Paired.mapP r fun _ _ z => ⟨z.1, z.2.1.mono e, z.2.2⟩
theorem NE.val {R : PyData → Prop} {kvs : List (NestedKey × V)} {xs : List (NestedKey × Addr × Value)} (r : NE R K G kvs xs) (k : NestedKey) : RelO (valV kvs k) ((atKey xs k).map (·.2)) := by
  induction r with
  | nil => exact True.intro
  | @cons p q ps qs h t ih =>
    obtain ⟨h1, _, h2⟩ := h
    by_cases e : p.1 = k
    · have e' : q.1 = k := h1.symm.trans e
      have b : atKey (q :: qs) k = some q.2 := by simp [atKey, List.find?_cons, e']
      rw [valV_pos e, b]; exact h2
    · have e' : ¬ q.1 = k := fun z => e (h1.trans z)
      have b : atKey (q :: qs) k = atKey qs k := by simp [atKey, List.find?_cons, e']
      rw [valV_neg e, b]; exact ih
theorem NE.repl {R : PyData → Prop} {kvs : List (NestedKey × V)} {xs : List (NestedKey × Addr × Value)} (r : NE R K G kvs xs) (k : NestedKey) {y : V} {u : Value} (ry : RelV y u) :
    NE R K G (kvs.map fun kv => if kv.1 = k then (kv.1, y) else kv) (xs.map (putAt k u)) := by
  induction r with
  | nil => exact .nil
  | @cons p q ps qs h t ih =>
    rw [List.map_cons, List.map_cons]
    refine .cons ?_ ih
    obtain ⟨h1, h2, h3⟩ := h
    unfold putAt
    by_cases e : p.1 = k
    · rw [if_pos e, if_pos (h1.symm.trans e)]; exact ⟨h1, h2, ry⟩
    · rw [if_neg e, if_neg (fun z => e (h1.trans z))]; exact ⟨h1, h2, h3⟩
theorem NE.put {R : PyData → Prop} {kvs : List (NestedKey × V)} {xs : List (NestedKey × Addr × Value)} (r : NE R K G kvs xs) (k : NestedKey) {b : Addr} {y : V} {u : Value} (hb : KeyAt R K G b k) (ry : RelV y u) :
    NE R K G (putK kvs k y) (storedH xs k b u) := by
  have e : (kvs.any fun kv => decide (kv.1 = k)) = (atKey xs k).isSome := by
    rw [valV_any, (r.val k).isSome_eq, Option.isSome_map]
  unfold putK storedH
  rw [e]
  by_cases q : (atKey xs k).isSome = true
  · rw [if_pos q, if_pos q]; exact r.repl k ry
  · rw [if_neg q, if_neg q]; exact Paired.snoc r ⟨rfl, hb, ry⟩
end

/-- the dict's own object, its entries xs -/
def ndO (P : Program) (w : World) (d : Addr) (xs : List (NestedKey × Addr × Value)) : HO := .ext fun h =>
  (∃ o es ep, h.get? d = some o ∧ o.ExactDict ∧ o.data = .dict es ep ∧ es.toList = xs.map (entryOfKey (nestedKind P w))) ∧ (xs.map (·.1)).Nodup ∧ xs.length ≤ sizeLine ∧ (d == sysModules) = false
theorem ndO_ok {P : Program} {w : World} {H : Hp} {h : Heap} {d : Addr} {xs : List (NestedKey × Addr × Value)} {o : Obj} {es : Array DictEntry} {ep : Nat} (h1 : h.get? d = some o) (h2 : o.ExactDict) (h3 : o.data = .dict es ep) (h4 : es.toList = xs.map (entryOfKey (nestedKind P w)))
    (h5 : (xs.map (·.1)).Nodup) (h6 : xs.length ≤ sizeLine) (h7 : (d == sysModules) = false) : ObjOk P w H h d (ndO P w d xs) :=
  ⟨⟨⟨o, es, ep, h1, h2, h3, h4⟩, h5, h6, h7⟩, ⟨o, h1⟩, fun g1 g2 ⟨⟨o, es, ep, e, r⟩, q⟩ k => ⟨⟨o, es, ep, k o e, r⟩, q⟩⟩
/-- at d a dict of the keys and values kvs, its keys read in G -/
def Nd (R : PyData → Prop) (P : Program) (w : World) (K : PySem.W.Frag) (G H : Hp) (d : Addr) (kvs : List (NestedKey × V)) : Prop := ∃ xs, H d = some (ndO P w d xs) ∧ NE R K G kvs xs
theorem Nd.mono {R : PyData → Prop} {P : Program} {w : World} {K : PySem.W.Frag} {G G' H H' : Hp} {d : Addr} {kvs : List (NestedKey × V)} (h : Nd R P w K G H d kvs) (e : ∀ a o, G a = some o → G' a = some o) (k : ∀ o, H d = some o → H' d = some o) : Nd R P w K G' H' d kvs :=
  let ⟨xs, h1, h2⟩ := h
  ⟨xs, k _ h1, h2.mono e⟩
section
variable {X : Cx} {pins : List (Addr × Obj)} {σ : L2.St} {G H : Hp} {s : Shared} {d b : Addr} {kvs : List (NestedKey × V)} {xs : List (NestedKey × Addr × Value)} {k : NestedKey}
theorem ne_all {R : PyData → Prop} (I : Inv X pins σ H s) (r : NE R X.K H kvs xs) : ∀ x ∈ xs, (nestedKind X.prog X.w).is s.heap x.1 x.2.1 := by
  induction r with
  | nil => exact fun x hx => nomatch hx
  | @cons p q ps qs hq t ih =>
    intro x hx
    rcases List.mem_cons.mp hx with e | hx
    · subst e
      rw [← hq.1]
      exact hq.2.1.is I
    · exact ih x hx
theorem nd_dict {R : PyData → Prop} (I : Inv X pins σ H s) (h : H d = some (ndO X.prog X.w d xs)) (r : NE R X.K H kvs xs) : s.heap.DictOfH (nestedKind X.prog X.w) d xs ∧ xs.length ≤ sizeLine ∧ (d == sysModules) = false := by
  obtain ⟨⟨⟨o, es, ep, h1, h2, h3, h4⟩, h5, h6, h7⟩, _⟩ := (show ObjOk X.prog X.w H s.heap d (ndO X.prog X.w d xs) from I.hok d _ h)
  exact ⟨⟨o, es, ep, h1, h2, h3, h4, ne_all I r, h5⟩, h6, h7⟩
theorem nd_typeIs (I : Inv X pins σ H s) (h : H d = some (ndO X.prog X.w d xs)) : s.TypeIs (.ref d) "dict" ∧ ∀ b, Value.ref d = .ref b → ∃ ob, s.heap.get? b = some ob ∧ ob.dict = none := by
  obtain ⟨⟨⟨o, es, ep, h1, h2, h3, h4⟩, _⟩, _⟩ := (show ObjOk X.prog X.w H s.heap d (ndO X.prog X.w d xs) from I.hok d _ h)
  refine ⟨⟨o, h1, h2.1⟩, fun b q => ?_⟩
  cases q
  exact ⟨o, h1, h2.2.1⟩
end

/-! ### the rules -/
def tNNew (P : Program) (w : World) : TE := fun _ H Q => ∀ p, H p = none → Q (.ref p) (upd H p (ndO P w p []))
section
variable {X : Cx} {pos : Pos}
theorem pe_nnew : PE X (.Dict [] [] pos) (tNNew X.prog X.w) := ⟨fun pins s σ H Q I h =>
  wpAny_Dict_empty ⟨.ref s.heap.objs.size, _, I.laid (a := s.heap.objs.size) (o := ndO X.prog X.w s.heap.objs.size []) (t' := s.toks) (fun _ _ q => Heap.get?_push_of_some _ q) (Nat.le_refl _)
    (ndO_ok (es := #[]) (ep := 0) (Heap.get?_push_size _ rfl) ⟨rfl, rfl, rfl⟩ rfl rfl List.nodup_nil (Nat.zero_le _) (beq_eq_false_iff_ne.mpr (Ne.symm (Nat.ne_of_lt I.big)))), rfl, h _ (I.hok.fresh (Nat.le_refl _))⟩⟩

/-- what is asked at a look-up -/
def NGet (P : Program) (w : World) (K : PySem.W.Frag) (H : Hp) (a b : Addr) (r : Option V) : Prop := ∃ (R : PyData → Prop) (G : Hp) (kvs : List (NestedKey × V)) (k : NestedKey), (∀ a o, G a = some o → H a = some o) ∧ Nd R P w K G H a kvs ∧ KeyAt R K G b k ∧ valV kvs k = r
def rNIn (P : Program) (w : World) (K : PySem.W.Frag) : R2 := fun x y H Q => ∃ (a b : Addr) (r : Option V), x = .ref b ∧ y = .ref a ∧ NGet P w K H a b r ∧ Q (.bl r.isSome) H
def rNNotIn (P : Program) (w : World) (K : PySem.W.Frag) : R2 := fun x y H Q => ∃ (a b : Addr) (r : Option V), x = .ref b ∧ y = .ref a ∧ NGet P w K H a b r ∧ Q (.bl (!r.isSome)) H
theorem op_nin (hu : X.A.units + 64 < cLine) : OpR X (compareOp .In) (rNIn X.prog X.w X.K) := by
  intro pins s σ H x y v u Q I rx ry ⟨a, b, r, ex, ey, ⟨R, G, kvs, k, e, ⟨xs, hx, ne⟩, hk, hr⟩, q⟩
  subst ex ey
  obtain rfl : v = Value.ref b := rx
  obtain rfl : u = Value.ref a := ry
  obtain ⟨hm, hz, hd⟩ := nd_dict I hx (ne.mono e)
  refine wpAny_in_heap (knd := nestedKind X.prog X.w) (by show X.A.in1.units + 8 < cLine; have : X.A.in1.units = X.A.units + 1 := rfl; omega) ((hk.mono e).is I) hd hm ?_
  have hs := (ne.val k).isSome_eq
  rw [Option.isSome_map] at hs
  rw [← hs, hr]
  exact ⟨.bl r.isSome, H, I.tok _, rfl, q⟩
theorem op_nnotin (hu : X.A.units + 64 < cLine) : OpR X (compareOp .NotIn) (rNNotIn X.prog X.w X.K) := by
  intro pins s σ H x y v u Q I rx ry ⟨a, b, r, ex, ey, ⟨R, G, kvs, k, e, ⟨xs, hx, ne⟩, hk, hr⟩, q⟩
  subst ex ey
  obtain rfl : v = Value.ref b := rx
  obtain rfl : u = Value.ref a := ry
  obtain ⟨hm, hz, hd⟩ := nd_dict I hx (ne.mono e)
  refine wpAny_notIn_heap (knd := nestedKind X.prog X.w) (by show X.A.in1.units + 8 < cLine; have : X.A.in1.units = X.A.units + 1 := rfl; omega) ((hk.mono e).is I) hd hm ?_
  have hs := (ne.val k).isSome_eq
  rw [Option.isSome_map] at hs
  rw [← hs, hr]
  exact ⟨.bl (!r.isSome), H, I.tok _, rfl, q⟩
def rNGet (P : Program) (w : World) (K : PySem.W.Frag) : R2 := fun x y H Q => ∃ (a b : Addr) (v : V), x = .ref a ∧ y = .ref b ∧ NGet P w K H a b (some v) ∧ Q v H
theorem pe_nget {a b : Expr} {ta tb : TE} (hu : X.A.units + 64 < cLine) (ho : PE X a ta) (hi : PE X b tb) (hs : NoSl b) : PE X (.Subscript a b pos) (tOp (rNGet X.prog X.w X.K) ta tb) := by
  refine ⟨fun pins s σ H Q I h => ?_⟩
  refine subD_of PySem.F.slot_dict_getitem.lookup hs (thn (ho.run pins s σ H _ I h) fun u s1 ⟨x, H1, I1, rx, q1⟩ => thn (hi.run pins s1 σ H1 _ I1 q1) fun iv s2 ⟨y, H2, I2, ry, a', b', v, ex, ey, ⟨R, G, kvs, k, e, ⟨xs, hx, ne⟩, hk, hr⟩, q2⟩ => ?_)
  subst ex ey
  obtain rfl : u = Value.ref a' := rx
  obtain rfl : iv = Value.ref b' := ry
  obtain ⟨hm, hz, hd⟩ := nd_dict I2 hx (ne.mono e)
  refine ⟨(nd_typeIs I2 hx).1, ?_⟩
  obtain ⟨w', hw, rw'⟩ := RelO.some_of (v := v) (o := (atKey xs k).map (·.2)) (by rw [← hr]; exact ne.val k)
  obtain ⟨p, hp, hp2⟩ := Option.map_eq_some_iff.mp hw
  refine wpAny_getItem_heap (knd := nestedKind X.prog X.w) (by show X.A.in1.units + 8 < cLine; have : X.A.in1.units = X.A.units + 1 := rfl; omega) ((hk.mono e).is I2) hm hp ?_
  rw [hp2]
  exact ⟨v, H2, I2.tok _, rw', q2⟩
/-- d[k] = v -/
def rNSet (P : Program) (w : World) (K : PySem.W.Frag) : V → V → V → Hp → (Hp → Prop) → Prop := fun o i v H Q => ∃ (R : PyData → Prop) (a b : Addr) (G : Hp) (kvs : List (NestedKey × V)) (k : NestedKey), o = .ref a ∧ i = .ref b ∧ (∀ a o, G a = some o → H a = some o) ∧ Nd R P w K G H a kvs ∧ KeyAt R K G b k ∧ kvs.length < sizeLine ∧
  ∀ xs', NE R K G (putK kvs k v) xs' → Q (upd H a (ndO P w a xs'))
theorem set_nd (hu : X.A.units + 64 < cLine) : PSet X (rNSet X.prog X.w X.K) := by
  intro pins s σ H o i v ov iv u Q I ro ri rv ⟨R, a, b, G, kvs, k, eo, ei, e, ⟨xs, hx, ne⟩, hk, hl, q⟩
  subst eo ei
  obtain rfl : ov = Value.ref a := ro
  obtain rfl : iv = Value.ref b := ri
  obtain ⟨hm, hz, hd⟩ := nd_dict I hx (ne.mono e)
  have hlen : kvs.length = xs.length := Paired.length ne
  refine wpAny_setItem_heap (knd := nestedKind X.prog X.w) (hsz := hz) (by show X.A.in1.units + 8 < cLine; have : X.A.in1.units = X.A.units + 1 := rfl; omega) ((hk.mono e).is I) hm fun h' dd' hs => ?_
  have ne' := ne.put k hk rv
  have hl' : (storedH xs k b u).length ≤ sizeLine := by
    rw [← Paired.length ne']
    have := length_putK kvs k v
    omega
  obtain ⟨ob, es, ep, g1, g2, g3, g4, _, g5⟩ := dd'
  exact ⟨_, d_write I (by rw [hx]; exact True.intro) hs ⟨ob, g1⟩ (ndO_ok g1 g2 g3 g4 g5 hl' hd), q _ ne'⟩
/-- d.setdefault(k, v) -/
def rNSetD (P : Program) (w : World) (K : PySem.W.Frag) (a b : Addr) (v : V) (H : Hp) (Q : VK) : Prop := ∃ (R : PyData → Prop) (G : Hp) (kvs : List (NestedKey × V)) (k : NestedKey), (∀ a o, G a = some o → H a = some o) ∧ Nd R P w K G H a kvs ∧ KeyAt R K G b k ∧ kvs.length < sizeLine ∧
  (∀ z, valV kvs k = some z → Q z H) ∧ (valV kvs k = none → ∀ xs', NE R K G (putK kvs k v) xs' → Q v (upd H a (ndO P w a xs')))
def tNSetD (P : Program) (w : World) (K : PySem.W.Frag) (td ty tx : TE) : TE := fun σ H Q => td σ H fun x H1 => ∃ a xs, x = .ref a ∧ H1 a = some (ndO P w a xs) ∧ ty σ H1 fun y H2 => tx σ H2 fun z H3 => ∃ b, y = .ref b ∧ rNSetD P w K a b z H3 Q
theorem pe_nsetd {o e f : Expr} {apos cpos : Pos} {td ty tx : TE} (hu : X.A.units + 64 < cLine) (ho : PE X o td) (he : PE X e ty) (hf : PE X f tx) (m : M2 X o "setdefault" apos e f cpos) : PE X (.Call (.Attribute o "setdefault" apos) [e, f] [] cpos) (tNSetD X.prog X.w X.K td ty tx) := by
  refine ⟨fun pins s σ H Q I h => ?_⟩
  refine wpAny_Call_method m.base m.few m.line PySem.F.plainAttrs_dict PySem.F.slot_dict_setdefault PySem.F.type_dict_setdefault (thn (ho.run pins s σ H _ I h) fun u s1 ⟨x, H1, I1, rx, a, ys, ex, d, q1⟩ => ?_)
  subst ex
  obtain rfl : u = Value.ref a := rx
  obtain ⟨t1, t2⟩ := nd_typeIs I1 d
  refine ⟨t1, t2, ?_⟩
  rw [m.trees]
  refine Calls.callWith_builtin rfl (Calls.evalArgs_plain (Calls.spliced_cons (thn (he.run pins s1 σ H1 _ I1 q1) fun iv s2 ⟨y, H2, I2, ry, q2⟩ =>
    Calls.spliced_cons (thn (hf.run pins s2 σ H2 _ I2 q2) fun fv s3 ⟨z, H3, I3, rz, b, ey, ⟨R, G, kvs, k, e, ⟨xs, hx, ne⟩, hk, hl, q3, q4⟩⟩ => Calls.spliced_nil ?_))))
  subst ey
  obtain rfl : iv = Value.ref b := ry
  obtain ⟨hm, hz, hd⟩ := nd_dict I3 hx (ne.mono e)
  have hlen : kvs.length = xs.length := Paired.length ne
  refine call_setdefault_heap (knd := nestedKind X.prog X.w) (hsz := hz) (by show X.A.in1.units + 8 < cLine; have : X.A.in1.units = X.A.units + 1 := rfl; omega) ((hk.mono e).is I3) hd hm (fun p hp => ?_) fun hn h' dd' hs => ?_
  · have r := ne.val k
    rw [hp] at r
    cases hv : valV kvs k with
    | none => rw [hv] at r; exact r.elim
    | some zv =>
      rw [hv] at r
      exact ⟨zv, H3, I3.tok _, r, q3 zv hv⟩
  · have r := ne.val k
    rw [hn] at r
    have hv : valV kvs k = none := by
      cases hv : valV kvs k with
      | none => rfl
      | some zv => rw [hv] at r; exact r.elim
    have ne' := ne.put k hk rz
    have hl' : (storedH xs k b fv).length ≤ sizeLine := by
      rw [← Paired.length ne']
      have := length_putK kvs k z
      omega
    obtain ⟨ob, es, ep, g1, g2, g3, g4, _, g5⟩ := dd'
    exact ⟨z, _, d_write I3 (by rw [hx]; exact True.intro) hs ⟨ob, g1⟩ (ndO_ok g1 g2 g3 g4 g5 hl' hd), rz, q4 hv _ ne'⟩
end

/-! ### {k: v}, one entry -/
def tNDisp1 (P : Program) (w : World) (K : PySem.W.Frag) (tk tv : TE) : TE := fun σ H Q => ∀ p, H p = none → tk σ (upd H p (ndO P w p [])) fun y H1 => tv σ H1 fun z H2 =>
  ∃ (R : PyData → Prop) (b : Addr) (G : Hp) (k : NestedKey), y = .ref b ∧ (∀ a o, G a = some o → H2 a = some o) ∧ H2 p = some (ndO P w p []) ∧ KeyAt R K G b k ∧ ∀ xs', NE R K G [(k, z)] xs' → Q (.ref p) (upd H2 p (ndO P w p xs'))
section
variable {X : Cx} {pos : Pos}
theorem pe_ndisp1 {k v : Expr} {tk tv : TE} (hu : X.A.units + 64 < cLine) (hk : PE X k tk) (hv : PE X v tv) : PE X (.Dict [some k] [v] pos) (tNDisp1 X.prog X.w X.K tk tv) := by
  refine ⟨fun pins s σ H Q I q => ?_⟩
  have hn := I.hok.fresh (Nat.le_refl s.heap.objs.size)
  have hs0 : (s.heap.objs.size == sysModules) = false := beq_eq_false_iff_ne.mpr (Ne.symm (Nat.ne_of_lt I.big))
  have I1 := I.laid (a := s.heap.objs.size) (o := ndO X.prog X.w s.heap.objs.size []) (h' := s.heap.push { cls := .type "dict", data := .dict #[] }) (t' := s.toks) (fun _ _ q => Heap.get?_push_of_some _ q) (Nat.le_refl _)
    (ndO_ok (es := #[]) (ep := 0) (Heap.get?_push_size _ rfl) ⟨rfl, rfl, rfl⟩ rfl rfl List.nodup_nil (Nat.zero_le _) hs0)
  rw [arm_eval_Dict, zip_pairTrees [some k] [v] X.env pos rfl rfl, dictDisplay_pairs (pairTrees [some k] [v] X.env pos) (by intro e; cases e) (by show 1 < 17; decide)]
  refine wpAny_bind (wpAny_standAt (wpAny_bind (wpAny_subDictH (knd := nestedKind X.prog X.w) (Q := fun d s' => wpAny _ _ (pure (Value.ref d)) _ _ s') (by show X.A.units + 8 < cLine; omega) (by show 1 ≤ 15; decide) ?_)))
  refine pairTrees_cons_walk (thn (hk.run pins _ σ _ _ I1 (q _ hn)) fun u s1 ⟨y, H1, I2, ry, q1⟩ => thn (hv.run pins s1 σ H1 _ I2 q1) fun w2 s2 ⟨z, H2, I3, rz, R, b, G, kk, ey, e, hp, hkey, q2⟩ => pairTrees_nil_walk ?_)
  subst ey
  obtain rfl : u = Value.ref b := ry
  obtain ⟨hm, _, _⟩ := nd_dict (R := R) (kvs := []) I3 hp .nil
  refine ⟨[(kk, b, w2)], ⟨rfl, rfl, (hkey.mono e).is I3, True.intro⟩, hm, fun h' tk dd' hs => wpAny_pure ?_⟩
  have est : storedAllH [] [(kk, b, w2)] = [(kk, b, w2)] := rfl
  rw [est] at dd'
  obtain ⟨ob, es, ep, g1, g2, g3, g4, _, g5⟩ := dd'
  exact ⟨.ref s.heap.objs.size, _, d_write I3 (by rw [hp]; exact True.intro) hs ⟨ob, g1⟩ (ndO_ok g1 g2 g3 g4 g5 (by show 1 ≤ sizeLine; decide) hs0), rfl, q2 _ (.cons ⟨rfl, hkey, rz⟩ .nil)⟩
end

/-! ### list(d.values()), list(d.items()) -/
def rNVals (P : Program) (w : World) (K : PySem.W.Frag) : V → Hp → VK → Prop := fun x H Q => ∃ (R : PyData → Prop) (d : Addr) (G : Hp) (kvs : List (NestedKey × V)), x = .ref d ∧ (∀ a o, G a = some o → H a = some o) ∧ Nd R P w K G H d kvs ∧
  ∀ p, H p = none → Q (.ref p) (upd H p (.lst (kvs.map (·.2))))
def tNVals (P : Program) (w : World) (K : PySem.W.Frag) (te : TE) : TE := fun σ H Q => te σ H fun x H1 => rNVals P w K x H1 Q
/-- the pairs are new tuples at ts -/
def rNItems (P : Program) (w : World) (K : PySem.W.Frag) : V → Hp → VK → Prop := fun x H Q => ∃ (R : PyData → Prop) (d : Addr) (G : Hp) (kvs : List (NestedKey × V)), x = .ref d ∧ (∀ a o, G a = some o → H a = some o) ∧ Nd R P w K G H d kvs ∧
  ∀ (H' : Hp) (p : Addr) (ts : List Addr), (∀ b o, H b = some o → H' b = some o) → H p = none → (∀ t ∈ ts, H t = none) → p ∉ ts → H' p = some (.lst (ts.map V.ref)) →
    Paired (fun (t : Addr) (q : NestedKey × V) => ∃ b, KeyAt R K G b q.1 ∧ H' t = some (.tup [.ref b, q.2])) ts kvs → Q (.ref p) H'
def tNItems (P : Program) (w : World) (K : PySem.W.Frag) (te : TE) : TE := fun σ H Q => te σ H fun x H1 => rNItems P w K x H1 Q
section
variable {X : Cx} {e : Expr} {te : TE} {p apos cpos pos : Pos}
theorem nd_raw {h : Heap} {P : Program} {w : World} {d : Addr} {xs : List (NestedKey × Addr × Value)} {o : Obj} {es : Array DictEntry} {ep : Nat} (h1 : h.get? d = some o) (h2 : o.ExactDict) (h3 : o.data = .dict es ep) (h4 : es.toList = xs.map (entryOfKey (nestedKind P w))) :
    h.DictRaw d es ep ∧ es.size = xs.length ∧ ∀ i (hi : i < es.size), ∃ y, xs[i]? = some y ∧ es[i].key = .ref y.2.1 ∧ es[i].val = y.2.2 := by
  refine ⟨⟨o, h1, h2, h3⟩, size_of_entries h4, fun i hi => ?_⟩
  have e := entry_at h4 i
  rw [Array.getElem?_eq_getElem hi] at e
  cases hx : xs[i]? with
  | none => rw [hx] at e; cases e
  | some y =>
    rw [hx] at e
    have e' : es[i] = entryOfKey (nestedKind P w) y := Option.some.inj e
    exact ⟨y, rfl, by rw [e'] <;> rfl, by rw [e'] <;> rfl⟩
theorem pe_nvals (hc : X.calm = true) (he : PE X e te) (hg : Gl X "list") (hm : X.mg "list" = none) (hv : bootBuiltins "list" = some (.type "list")) (hbase : attributeBase e "values" X.env (eval e X.env) = eval e X.env := by rfl) (hline : (apos.endLine == cpos.line) = true := by rfl)
    (hs : starEach [.Call (.Attribute e "values" apos) [] [] cpos] X.env = (false, eval (.Call (.Attribute e "values" apos) [] [] cpos) X.env) :: starEach [] X.env := by rfl) :
    PE X (.Call (.Name "list" p) [.Call (.Attribute e "values" apos) [] [] cpos] [] pos) (tNVals X.prog X.w X.K te) := by
  refine ⟨fun pins s σ H Q I hq => ?_⟩
  refine wpAny_Call_Name_kw (ld_blt I hg hm hv ?_)
  refine PyProof.Rows.callWith_type1 ?_ hs rfl
  rw [hs]
  show wpAny _ _ (spliced ((false, eval (.Call (.Attribute e "values" apos) [] [] cpos) X.env) :: backTo pos (starEach [] X.env))) _ _ s
  refine Calls.spliced_cons ?_
  refine wpAny_Call_method (T := "dict") (id := "dict.values") hbase rfl hline F.plainAttrs_dict F.slot_dict_values F.type_dict_values (thn (he.run pins s σ H _ I hq) fun u s1 ⟨x, H1, I1, rx, R, d, G, kvs, ex, eG, ⟨xs, hx, ne⟩, q⟩ => ?_)
  subst ex
  obtain rfl : u = Value.ref d := rx
  obtain ⟨⟨⟨o, es, ep, h1, h2, h3, h4⟩, h5, h6, h7⟩, _⟩ := (show ObjOk X.prog X.w H1 s1.heap d (ndO X.prog X.w d xs) from I1.hok d _ hx)
  obtain ⟨raw, hsz, hent⟩ := nd_raw h1 h2 h3 h4
  have lk : kvs.length = xs.length := Paired.length ne
  have I2 : Inv X pins σ H1 { s1 with heap := s1.heap.push { cls := .type "dict_values", data := .fields #[.ref d] } } := I1.kept (t' := s1.toks) fun b ob q => Heap.get?_push_of_some _ q
  refine ⟨raw.typeIs, (nd_typeIs I1 hx).2, ?_⟩
  show wpAny _ _ (callWith cpos (.builtin "dict.values") [.ref d] [] []) _ X.xe s1
  refine method_meetsIn F.slot_dict_values F.entry_dict_values rfl (PySem.evalArgs_none ⟨rfl, raw.typeIs, F.args_dict_values_1 _, _, meets_dict_values_raw d h7, ⟨es, ep, raw⟩, ?_⟩)
  refine Calls.spliced_nil ?_
  refine PySem.W.kdl_call (KdlSrc.rawValues (r := s1.heap.objs.size) (d := d) (es := es) (ep := ep)) (I1.ok.hd hc) ⟨⟨_, Heap.get?_push_size _ rfl, rfl, rfl⟩, raw.push _⟩ (by omega) fun h' tk acc c hk hS hacc => ?_
  refine ⟨.ref _, _, I2.laid (t' := tk) hk (Nat.le_refl _) (show ObjOk X.prog X.w _ _ _ (.lst (kvs.map (·.2))) from ⟨by rw [List.length_map]; omega, acc.toList, c, ?_, by rw [Array.toArray_toList]; exact hS⟩), rfl, q _ (I2.hok.fresh (Nat.le_refl _))⟩
  obtain ⟨hsize, hget⟩ := hacc
  -- the values, place by place
  have go : ∀ (kvs : List (NestedKey × V)) (xs : List (NestedKey × Addr × Value)) (vs : List Value), NE R X.K G kvs xs → vs.length = xs.length → (∀ (j : Nat) v y, vs[j]? = some v → xs[j]? = some y → v = y.2.2) → Vals (kvs.map (·.2)) vs := by
    intro kvs
    induction kvs with
    | nil =>
      intro xs vs ne hl _
      cases ne
      cases vs with
      | nil => exact .nil
      | cons v vs => simp at hl
    | cons q kvs ih =>
      intro xs vs ne hl hv
      cases ne with
      | @cons _ y _ ys hq t =>
        cases vs with
        | nil => simp at hl
        | cons v vs =>
          rw [List.map_cons]
          have e0 := hv 0 v y rfl rfl
          refine .cons (by rw [e0]; exact hq.2.2) (ih ys vs t (by simpa using hl) fun j v' y' a b => hv (j + 1) v' y' (by simpa using a) (by simpa using b))
  refine go kvs xs acc.toList ne (by rw [Array.length_toList, hsize, hsz]) fun j v y a b => ?_
  obtain ⟨hi, e1⟩ := hget j v (by simpa using a)
  obtain ⟨y', e2, _, e3⟩ := hent j hi
  rw [b] at e2
  cases e2
  rw [e1, e3]
def hd0 (o : Obj) : Option Addr := match o.data with
  | .seq ws _ => (match ws[0]? with
    | some (Value.ref b) => some b
    | _ => none)
  | _ => none
theorem nitems_laid {R : PyData → Prop} {pins : List (Addr × Obj)} {σ : L2.St} {G H : Hp} {s : Shared} {h' : Heap} {tk : Nat} {kvs : List (NestedKey × V)} {xs : List (NestedKey × Addr × Value)} {es : Array DictEntry} {acc : Array Value} {c : Nat} {as : List Addr} (I : Inv X pins σ H s) (eG : ∀ a o, G a = some o → H a = some o) (ne : NE R X.K G kvs xs) (hz : xs.length ≤ sizeLine)
    (hsz : es.size = xs.length) (hent : ∀ i (hi : i < es.size), ∃ y, xs[i]? = some y ∧ es[i].key = .ref y.2.1 ∧ es[i].val = y.2.2)
    (hk : ∀ b o, s.heap.get? b = some o → h'.get? b = some o) (hS : h'.get? s.heap.objs.size = some { cls := .type "list", dict := none, data := .seq acc c, slots := #[] }) (hl : as.length = es.size) (hG : PySem.W.DilG es s.heap.objs.size h' as) (hacc : acc.toList = as.map Value.ref) :
    ∃ H' : Hp, (∀ b o, H b = some o → H' b = some o) ∧ H s.heap.objs.size = none ∧ (∀ t ∈ as, H t = none) ∧ s.heap.objs.size ∉ as ∧ H' s.heap.objs.size = some (.lst (as.map V.ref)) ∧
      Paired (fun (t : Addr) (q : NestedKey × V) => ∃ b, KeyAt R X.K G b q.1 ∧ H' t = some (.tup [.ref b, q.2])) as kvs ∧ Inv X pins σ H' { s with heap := h', toks := tk } := by
  have hSn : s.heap.objs.size ∉ as := fun z => Nat.lt_irrefl _ (hG.above _ z)
  have nd : as.Nodup := List.Pairwise.imp (fun {a b} (h : a < b) => Nat.ne_of_lt h) hG.rise
  have new : ∀ t ∈ as, H t = none := fun t ht => I.hok.fresh (Nat.le_of_lt (hG.above t ht))
  have newS : H s.heap.objs.size = none := I.hok.fresh (Nat.le_refl _)
  have lk : kvs.length = xs.length := Paired.length ne
  -- what stands at the j-th place
  have at_ : ∀ (j : Nat) (t : Addr), as[j]? = some t → ∃ (q : NestedKey × V) (b : Addr) (v : Value), kvs[j]? = some q ∧ KeyAt R X.K G b q.1 ∧ RelV q.2 v ∧ h'.get? t = some { cls := .type "tuple", data := .seq #[.ref b, v] } := fun j t ht => by
    obtain ⟨hj, e1⟩ := hG.pairs j t ht
    obtain ⟨y, e2, e3, e4⟩ := hent j hj
    have : ∀ (kvs : List (NestedKey × V)) (xs : List (NestedKey × Addr × Value)), NE R X.K G kvs xs → ∀ (j : Nat) (y : NestedKey × Addr × Value), xs[j]? = some y → ∃ q : NestedKey × V, kvs[j]? = some q ∧ q.1 = y.1 ∧ KeyAt R X.K G y.2.1 q.1 ∧ RelV q.2 y.2.2 := by
      intro kvs xs r
      induction r with
      | nil => intro j y h; simp at h
      | @cons p q ps qs hq t ih =>
        intro j y h
        cases j with
        | zero =>
          have : q = y := by simpa using h
          subst this
          exact ⟨p, rfl, hq.1, hq.2.1, hq.2.2⟩
        | succ j => exact ih j y (by simpa using h)
    obtain ⟨q, g1, g2, g3, g4⟩ := this kvs xs ne j y e2
    rw [e3, e4] at e1
    exact ⟨q, y.2.1, y.2.2, g1, g3, g4, e1⟩
  -- the new heap
  let at1 : Addr → Option HO := fun t => match as.findIdx? (· == t) with
    | some j => (match kvs[j]?, (h'.get? t).bind hd0 with
      | some q, some b => some (.tup [.ref b, q.2])
      | _, _ => none)
    | none => none
  have at1_of : ∀ (j : Nat) (t : Addr) (q : NestedKey × V) (b : Addr) (v : Value), as[j]? = some t → kvs[j]? = some q → h'.get? t = some { cls := .type "tuple", data := .seq #[.ref b, v] } → at1 t = some (.tup [.ref b, q.2]) := by
    intro j t q b v h1 h2 h3
    have hidx : as.findIdx? (· == t) = some j := by
      obtain ⟨hj, ej⟩ := List.getElem?_eq_some_iff.mp h1
      rw [List.findIdx?_eq_some_iff_getElem]
      refine ⟨hj, by simp [ej], fun i hi => ?_⟩
      have hne : as[i] ≠ t := fun e => by
        have := (List.getElem_inj nd (h₀ := (by omega : i < as.length)) (h₁ := hj)).mp (e.trans ej.symm)
        omega
      simpa using hne
    have hb : (h'.get? t).bind hd0 = some b := by rw [h3] <;> rfl
    show (match as.findIdx? (· == t) with
      | some j => (match kvs[j]?, (h'.get? t).bind hd0 with
        | some q, some b => some (HO.tup [.ref b, q.2])
        | _, _ => none)
      | none => none) = _
    rw [hidx]
    show (match kvs[j]?, (h'.get? t).bind hd0 with
        | some q, some b => some (HO.tup [.ref b, q.2])
        | _, _ => none) = _
    rw [h2, hb]
  refine ⟨fun b => if b ∈ as then at1 b else if b = s.heap.objs.size then some (.lst (as.map V.ref)) else H b, ?_, newS, new, hSn, ?_, ?_, ?_⟩
  · intro b o e
    show (if b ∈ as then _ else _) = _
    rw [if_neg (fun z => by rw [new b z] at e; cases e), if_neg (fun z => by rw [z, newS] at e; cases e)]
    exact e
  · show (if s.heap.objs.size ∈ as then _ else _) = _
    rw [if_neg hSn, if_pos rfl]
  · -- the pairs
    have go : ∀ (ts : List Addr) (ks : List (NestedKey × V)) (n : Nat), ts = as.drop n → ks = kvs.drop n → ts.length = ks.length →
        Paired (fun (t : Addr) (q : NestedKey × V) => ∃ b, KeyAt R X.K G b q.1 ∧ (if t ∈ as then at1 t else if t = s.heap.objs.size then some (.lst (as.map V.ref)) else H t) = some (.tup [.ref b, q.2])) ts ks := by
      intro ts
      induction ts with
      | nil =>
        intro ks n _ _ hl
        cases ks with
        | nil => exact .nil
        | cons _ _ => cases hl
      | cons t ts ih =>
        intro ks n ht hks hl
        cases ks with
        | nil => cases hl
        | cons q ks =>
          have e1 : as[n]? = some t := by
            have := congrArg (fun l => l[0]?) ht
            simpa [List.getElem?_drop] using this.symm
          have e2 : kvs[n]? = some q := by
            have := congrArg (fun l => l[0]?) hks
            simpa [List.getElem?_drop] using this.symm
          obtain ⟨q', b, v, g1, g2, g3, g4⟩ := at_ n t e1
          rw [e2] at g1
          cases g1
          refine .cons ⟨b, g2, ?_⟩ (ih ks (n + 1) ?_ ?_ (by simpa using hl))
          · rw [if_pos (List.mem_of_getElem? e1)]
            exact at1_of n t q b v e1 e2 g4
          · rw [← List.drop_drop, ← ht]
            rfl
          · rw [← List.drop_drop, ← hks]
            rfl
    exact go as kvs 0 rfl rfl (by omega)
  · have low : ∀ b o, s.heap.get? b = some o → b ∉ as ∧ b ≠ s.heap.objs.size := fun b o e => ⟨fun z => absurd (Heap.lt_size e) (Nat.not_lt.mpr (Nat.le_of_lt (hG.above b z))), Nat.ne_of_lt (Heap.lt_size e)⟩
    have kp : ∀ b u, H b = some u → (if b ∈ as then at1 b else if b = s.heap.objs.size then some (HO.lst (as.map V.ref)) else H b) = some u := fun b u e => by
      rw [if_neg (fun z => by rw [new b z] at e; cases e), if_neg (fun z => by rw [z, newS] at e; cases e)]
      exact e
    refine I.call' (ch := []) rfl ⟨fun b o q _ _ _ => hk b o q, fun b o q _ _ _ => ⟨o.slots, hk b o q⟩, fun b o q n _ => ?_, fun b o q _ => ⟨o, hk b o q⟩, fun b xs q => kp b _ q, fun b o u q => kp b _ q, fun b ps q => ⟨#[], by rw [kp b _ q]; simp⟩⟩ (fun b u q => ?_) I.bare fun b z => by simp at z
    · obtain ⟨z1, z2⟩ := low b o q
      show (if b ∈ as then _ else _) = _
      rw [if_neg z1, if_neg z2]
      exact n
    · have q' : (if b ∈ as then at1 b else if b = s.heap.objs.size then some (HO.lst (as.map V.ref)) else H b) = some u := q
      by_cases hb : b ∈ as
      · rw [if_pos hb] at q'
        obtain ⟨j, hj⟩ := List.mem_iff_getElem?.mp hb
        obtain ⟨qk, a, v, g1, g2, g3, g4⟩ := at_ j b hj
        rw [at1_of j b qk a v hj g1 g4] at q'
        cases q'
        exact ⟨by show 2 ≤ sizeLine; decide, [.ref a, v], .cons rfl (.cons g3 .nil), ⟨_, g4, rfl, _, rfl⟩⟩
      · rw [if_neg hb] at q'
        by_cases hb2 : b = s.heap.objs.size
        · rw [if_pos hb2] at q'
          cases q'
          rw [hb2]
          refine ⟨by rw [List.length_map]; omega, acc.toList, c, by rw [hacc]; exact LiI.vals_refs as, ?_⟩
          rw [Array.toArray_toList]
          exact hS
        · rw [if_neg hb2] at q'
          exact (I.hok b u q').stay (fun d v _ y => hk d v y) (fun d y => kp d _ y) fun d xs y => kp d _ y
theorem pe_nitems (hc : X.calm = true) (he : PE X e te) (hg : Gl X "list") (hm : X.mg "list" = none) (hv : bootBuiltins "list" = some (.type "list")) (hbase : attributeBase e "items" X.env (eval e X.env) = eval e X.env := by rfl) (hline : (apos.endLine == cpos.line) = true := by rfl)
    (hs : starEach [.Call (.Attribute e "items" apos) [] [] cpos] X.env = (false, eval (.Call (.Attribute e "items" apos) [] [] cpos) X.env) :: starEach [] X.env := by rfl) :
    PE X (.Call (.Name "list" p) [.Call (.Attribute e "items" apos) [] [] cpos] [] pos) (tNItems X.prog X.w X.K te) := by
  refine ⟨fun pins s σ H Q I hq => ?_⟩
  refine wpAny_Call_Name_kw (ld_blt I hg hm hv ?_)
  refine PyProof.Rows.callWith_type1 ?_ hs rfl
  rw [hs]
  show wpAny _ _ (spliced ((false, eval (.Call (.Attribute e "items" apos) [] [] cpos) X.env) :: backTo pos (starEach [] X.env))) _ _ s
  refine Calls.spliced_cons ?_
  refine wpAny_Call_method (T := "dict") (id := "dict.items") hbase rfl hline F.plainAttrs_dict F.slot_dict_items F.type_dict_items (thn (he.run pins s σ H _ I hq) fun u s1 ⟨x, H1, I1, rx, R, d, G, kvs, ex, eG, ⟨xs, hx, ne⟩, q⟩ => ?_)
  subst ex
  obtain rfl : u = Value.ref d := rx
  obtain ⟨⟨⟨o, es, ep, h1, h2, h3, h4⟩, h5, h6, h7⟩, _⟩ := (show ObjOk X.prog X.w H1 s1.heap d (ndO X.prog X.w d xs) from I1.hok d _ hx)
  obtain ⟨raw, hsz, hent⟩ := nd_raw h1 h2 h3 h4
  have I2 : Inv X pins σ H1 { s1 with heap := s1.heap.push { cls := .type "dict_items", data := .fields #[.ref d] } } := I1.kept (t' := s1.toks) fun b ob q => Heap.get?_push_of_some _ q
  refine ⟨raw.typeIs, (nd_typeIs I1 hx).2, ?_⟩
  show wpAny _ _ (callWith cpos (.builtin "dict.items") [.ref d] [] []) _ X.xe s1
  refine method_meetsIn F.slot_dict_items F.entry_dict_items rfl (PySem.evalArgs_none ⟨rfl, raw.typeIs, F.args_dict_items_1 _, _, meets_dict_items_raw d h7, ⟨es, ep, raw⟩, ?_⟩)
  refine Calls.spliced_nil ?_
  refine PySem.W.dil_call (r := s1.heap.objs.size) (d := d) (es := es) (ep := ep) (I1.ok.hd hc) ⟨_, Heap.get?_push_size _ rfl, rfl, rfl⟩ (raw.push _) (by omega) fun h' tk acc c as hk hS hl hG hacc => ?_
  obtain ⟨H', k1, k2, k3, k4, k5, k6, J⟩ := nitems_laid (tk := tk) I2 eG ne h6 hsz hent hk hS hl hG hacc
  exact ⟨.ref _, H', J, rfl, q H' _ as k1 k2 k3 k4 k5 k6⟩
end
/-- name = {..} on one line, the name a local -/
theorem ps_setDc {X : Cx} {i : Nat} {y : Str} {py : Pos} {kx vx tg iter : Expr} {ifs : List Expr} {scope : Scope} {own : List (Str × Nat)} {pos spos : Pos} {wi : TI} {g : TG} {tt : TT} {tk tv : TE} (hc : X.calm = true) (hN : X.N.Nodup) (hy : X.N[i]? = some y) (hyl : X.env.scope.names.lookup y = some .local)
    (hsw : swapsWith (.DictComp kx vx [⟨tg, iter, ifs, 0⟩] scope pos) (some (.Name y py)) spos.line X.env = pure true) (hi : PI X tg iter wi) (ok : BlkOk X.N X.env.scope scope own)
    (hg : ∀ (s : Shared) (H : Hp) (C : Addr) (cl : List (Str × Addr)) (fp : List Addr), PG (X.blk s H scope (compEnvC scope cl C X.env) fp) tg g) (ht : ∀ (s : Shared) (H : Hp) (C : Addr) (cl : List (Str × Addr)) (fp : List Addr), PTs (X.blk s H scope (compEnvC scope cl C X.env) fp) ifs tt)
    (hk : ∀ (s : Shared) (H : Hp) (C : Addr) (cl : List (Str × Addr)) (fp : List Addr), PE (X.blk s H scope (compEnvC scope cl C X.env) fp) kx tk)
    (he : ∀ (s : Shared) (H : Hp) (C : Addr) (cl : List (Str × Addr)) (fp : List Addr), PE (X.blk s H scope (compEnvC scope cl C X.env) fp) vx tv) (hs : ∀ x, foldedSetIterable iter X.env x = pure x := by intro _; rfl) :
    PS X (.Assign [.Name y py] (.DictComp kx vx [⟨tg, iter, ifs, 0⟩] scope pos) spos) (tAsg (tDc wi g tt tk tv (own.map (·.2))) (gName i)) := by
  refine ⟨fun pins s σ H D I h => ?_⟩
  rw [exec_Assign_Name_used _ _ _ _ hsw]
  refine wpAny_bind (wpAny_standAt (wpAny_bind ?_))
  show wpAny _ X.A (do let _ ← comprehension (.DictComp kx vx [⟨tg, iter, ifs, 0⟩] scope pos) scope X.env (firstIterPos [⟨tg, iter, ifs, 0⟩] pos) newDict false (eval iter X.env) (some (assign (.Name y py) X.env))) _ _ s
  have h : tDc wi g tt tk tv (own.map (·.2)) σ H (fun x H1 => gName i x σ H1 D.nx) := h
  refine wpAny_bind (thn (dc_core (Qf := fun _ s' => SP X pins D .next s') hc hN I hi ok hg ht hk he hs h fun L C s' m H' I' q hn f => ?_) fun _ s' hq => wpAny_pure (wpAny_pure hq))
  show wpAny _ _ (assign (.Name y py) X.env (.ref L)) _ _ _
  refine wpAny_assign_Name (store_ok2 (v := V.ref L) I' hN hy (.inl hyl) rfl (fun s2 I2 ⟨a, sb, ha⟩ => ?_) (.inr hyl))
  obtain ⟨f0, f1, f2, f3, f4, f5⟩ := f
  have haC : C ≠ a := by
    rcases ha with z | z
    · rw [z]; exact f1
    · exact fun e => f4 y a z e.symm
  refine ⟨m, hn.sameBut sb haC, fun h3 sb3 => ?_⟩
  exact ⟨_, H', I2.turned (t' := s2.toks) (fun b o hb e => (sb3.2 b hb).trans e) f0 f1 f3 f4 f5, q⟩
theorem sw_trueD {kx vx : Expr} {gs : List Comprehension} {scope : Scope} {pos py : Pos} {y : Str} {l : Nat} {env : Env} (hk : env.scope.kind = .function) (hy : env.scope.names.lookup y = some .local) (hl : (py.line == pos.line) = true)
    (ha : (scope.names.any fun (n, k) => n == y && (k == .local || k == .cell)) = false) : swapsWith (.DictComp kx vx gs scope pos) (some (.Name y py)) l env = pure true := by
  have ky : env.kindOf y = some .local := hy
  have hb : env.blockKind = .function := by unfold Env.blockKind; rw [hk]; rfl
  unfold swapsWith
  simp only [hb, ky, ha, Expr.pos, hl]
  rfl
end QN

/-! Views: what an expression needs of the heap, and what it adds. -/
namespace QV
open PySem L2 Evl

/-- what is said of a value, read in a view; it stays in a larger one -/
structure Pd (α : Type) where
  p : Hp → α → Prop
  mono : ∀ {G G' : Hp} {v : α}, Ex G G' → p G v → p G' v
def is {α : Type} (x : α) : Pd α := ⟨fun _ v => v = x, fun _ h => h⟩
def any {α : Type} : Pd α := ⟨fun _ _ => True, fun _ h => h⟩
def dat (K : PySem.W.Frag) (d : PyData) : Pd V := ⟨fun G v => Dp K G v d, fun e h => QN.dp_mono e d _ h⟩
def dats (K : PySem.W.Frag) (ds : List PyData) : Pd (List V) := ⟨fun G vs => DpAll K G vs ds, fun e h => QN.dp_monos e ds _ h⟩
def some_ {α β : Type} (f : β → Pd α) : Pd α := ⟨fun G v => ∃ b, (f b).p G v, fun e ⟨b, h⟩ => ⟨b, (f b).mono e h⟩⟩
def both_ {α : Type} (c : Prop) (f : Pd α) : Pd α := ⟨fun G v => c ∧ f.p G v, fun e ⟨a, h⟩ => ⟨a, f.mono e h⟩⟩
def conj {α : Type} (f g : Pd α) : Pd α := ⟨fun G v => f.p G v ∧ g.p G v, fun e ⟨a, h⟩ => ⟨f.mono e a, g.mono e h⟩⟩
/-- some datum of a kind -/
def datR (K : PySem.W.Frag) (R : PyData → Prop) : Pd V := some_ fun d => both_ (R d) (dat K d)
def intR (R : Int → Prop) : Pd V := ⟨fun _ v => ∃ i, R i ∧ v = .int i, fun _ h => h⟩
def lstP (K : PySem.W.Frag) (B : Pd (List V)) : Pd V := ⟨fun G v => ∃ a xs, v = .ref a ∧ SqL K G a xs ∧ B.p G xs, fun e ⟨a, xs, h1, h2, h3⟩ => ⟨a, xs, h1, ex_l e h2, B.mono e h3⟩⟩
def tupP (K : PySem.W.Frag) (B : Pd (List V)) : Pd V := ⟨fun G v => ∃ a xs, v = .ref a ∧ SqT K G a xs ∧ B.p G xs, fun e ⟨a, xs, h1, h2, h3⟩ => ⟨a, xs, h1, ex_t e h2, B.mono e h3⟩⟩
def consP (A : Pd V) (B : Pd (List V)) : Pd (List V) := ⟨fun G vs => ∃ x xs, vs = x :: xs ∧ A.p G x ∧ B.p G xs, fun e ⟨x, xs, h1, h2, h3⟩ => ⟨x, xs, h1, A.mono e h2, B.mono e h3⟩⟩
def dK (kvs : List (Key × V)) : Pd V := ⟨fun G v => ∃ a, v = .ref a ∧ G a = some (.dK kvs), fun e ⟨a, h1, h2⟩ => ⟨a, h1, e a _ h2⟩⟩

theorem dp_int {K : PySem.W.Frag} {G : Hp} {v : V} {i : Int} (h : Dp K G v (.int i)) : v = .int i := by cases h; rfl
theorem dp_str {K : PySem.W.Frag} {G : Hp} {v : V} {x : Str} (h : Dp K G v (.str x)) : v = .str x := by cases h; rfl
theorem dp_bool {K : PySem.W.Frag} {G : Hp} {v : V} {b : Bool} (h : Dp K G v (.bool b)) : v = .bl b := by cases h; rfl
theorem dp_none {K : PySem.W.Frag} {G : Hp} {v : V} (h : Dp K G v .none) : v = .non := by cases h; rfl
theorem dp_list {K : PySem.W.Frag} {G : Hp} {v : V} {ds : List PyData} (h : Dp K G v (.list ds)) : ∃ a xs, v = .ref a ∧ SqL K G a xs ∧ DpAll K G xs ds := by
  cases h with
  | lst h1 h2 => exact ⟨_, _, rfl, h1, h2⟩
theorem dp_tup {K : PySem.W.Frag} {G : Hp} {v : V} {ds : List PyData} (h : Dp K G v (.tuple ds)) : ∃ a xs, v = .ref a ∧ SqT K G a xs ∧ DpAll K G xs ds := by
  cases h with
  | tup h1 h2 => exact ⟨_, _, rfl, h1, h2⟩
theorem da_len {K : PySem.W.Frag} {G : Hp} : ∀ {vs : List V} {ds : List PyData}, DpAll K G vs ds → vs.length = ds.length
  | _, [], h => by cases h; rfl
  | _, d :: ds, h => by
    cases h with
    | cons _ h2 => simp only [List.length_cons, da_len h2]
theorem da_get {K : PySem.W.Frag} {G : Hp} : ∀ {ds : List PyData} {vs : List V}, DpAll K G vs ds → ∀ {i : Nat} {v : V}, vs[i]? = some v → ∃ d, ds[i]? = some d ∧ Dp K G v d
  | [], _, h, i, v, e => by cases h; simp at e
  | d :: ds, _, h, i, v, e => by
    cases h with
    | @cons x xs _ _ h1 h2 =>
      cases i with
      | zero =>
        have : x = v := by simpa using e
        subst this
        exact ⟨d, rfl, h1⟩
      | succ i => exact da_get h2 (by simpa using e)
theorem da_at {K : PySem.W.Frag} {G : Hp} {ds : List PyData} {vs : List V} (h : DpAll K G vs ds) {i : Nat} {d : PyData} (e : ds[i]? = some d) : ∃ v, vs[i]? = some v ∧ Dp K G v d := by
  have hi : i < ds.length := (List.getElem?_eq_some_iff.mp e).1
  have hl := da_len h
  cases hv : vs[i]? with
  | none =>
    have := List.getElem?_eq_none_iff.mp hv
    omega
  | some v =>
    obtain ⟨d', e', h'⟩ := da_get h hv
    rw [e] at e'
    cases e'
    exact ⟨v, rfl, h'⟩
theorem da_of {K : PySem.W.Frag} {G : Hp} : ∀ {vs : List V} {ds : List PyData}, vs.length = ds.length → (∀ (i : Nat) v d, vs[i]? = some v → ds[i]? = some d → Dp K G v d) → DpAll K G vs ds
  | [], [], _, _ => .nil
  | [], _ :: _, h, _ => by cases h
  | _ :: _, [], h, _ => by cases h
  | v :: vs, d :: ds, h, hv => .cons (hv 0 v d rfl rfl) (da_of (by simpa using h) fun i v d a b => hv (i + 1) v d (by simpa using a) (by simpa using b))
theorem da_app {K : PySem.W.Frag} {G : Hp} : ∀ {ds : List PyData} {vs : List V}, DpAll K G vs ds → ∀ {es : List PyData} {us : List V}, DpAll K G us es → DpAll K G (vs ++ us) (ds ++ es)
  | [], _, h, _, _, h' => by cases h; exact h'
  | _ :: _, _, h, _, _, h' => by
    cases h with
    | cons h1 h2 => exact .cons h1 (da_app h2 h')
theorem da_snoc {K : PySem.W.Frag} {G : Hp} {ds : List PyData} {vs : List V} (h : DpAll K G vs ds) {d : PyData} {v : V} (hv : Dp K G v d) : DpAll K G (vs ++ [v]) (ds ++ [d]) := da_app h (.cons hv .nil)
theorem da_drop {K : PySem.W.Frag} {G : Hp} : ∀ {ds : List PyData} {vs : List V} (n : Nat), DpAll K G vs ds → DpAll K G (vs.drop n) (ds.drop n)
  | _, _, 0, h => h
  | [], _, n + 1, h => by cases h; exact .nil
  | _ :: _, _, n + 1, h => by
    cases h with
    | cons h1 h2 => exact da_drop n h2
theorem da_take {K : PySem.W.Frag} {G : Hp} : ∀ {ds : List PyData} {vs : List V} (n : Nat), DpAll K G vs ds → DpAll K G (vs.take n) (ds.take n)
  | _, _, 0, h => .nil
  | [], _, n + 1, h => by cases h; exact .nil
  | _ :: _, _, n + 1, h => by
    cases h with
    | cons h1 h2 => exact .cons h1 (da_take n h2)
theorem da_map {K : PySem.W.Frag} {G : Hp} {α : Type} (f : α → V) (g : α → PyData) : ∀ (l : List α), (∀ x ∈ l, Dp K G (f x) (g x)) → DpAll K G (l.map f) (l.map g)
  | [], _ => .nil
  | x :: l, h => .cons (h x List.mem_cons_self) (da_map f g l fun y hy => h y (List.mem_cons_of_mem _ hy))

/-! ### views -/
structure Nv (M : List Addr) (G H G2 H2 : Hp) : Prop where
  hh : ∀ a o, a ∉ M → H a = some o → H2 a = some o
  th : ∀ a, H a ≠ none → H2 a ≠ none
  gg : Ex G G2
  gh : Ex G2 H2
  av : ∀ a, G a = none → H a ≠ none → G2 a = none
theorem Nv.refl {M : List Addr} {G H : Hp} (e : Ex G H) : Nv M G H G H := ⟨fun _ _ _ h => h, fun _ h => h, Ex.refl G, e, fun _ h _ => h⟩
theorem Nv.trans {M : List Addr} {G H G1 H1 G2 H2 : Hp} (a : Nv M G H G1 H1) (b : Nv M G1 H1 G2 H2) : Nv M G H G2 H2 :=
  ⟨fun x o hx h => b.hh x o hx (a.hh x o hx h), fun x h => b.th x (a.th x h), a.gg.trans b.gg, b.gh, fun x h1 h2 => b.av x (a.av x h1 h2) (a.th x h2)⟩
theorem Nv.mono {M M' : List Addr} {G H G2 H2 : Hp} (a : Nv M G H G2 H2) (h : ∀ x ∈ M, x ∈ M') : Nv M' G H G2 H2 := ⟨fun x o hx => a.hh x o fun z => hx (h x z), a.th, a.gg, a.gh, a.av⟩
theorem Nv.ex {G H G2 H2 : Hp} (a : Nv [] G H G2 H2) : Ex H H2 := fun x o h => a.hh x o (by simp) h
/-- further steps, the things at L being new since H0, or of M -/
theorem Nv.step {M L : List Addr} {G0 H0 G H G2 H2 : Hp} (a : Nv M G0 H0 G H) (b : Nv L G H G2 H2) (hl : ∀ x ∈ L, x ∈ M ∨ H0 x = none) : Nv M G0 H0 G2 H2 :=
  ⟨fun x o hx h => b.hh x o (fun z => (hl x z).elim hx fun n => by rw [n] at h; cases h) (a.hh x o hx h), fun x h => b.th x (a.th x h), a.gg.trans b.gg, b.gh, fun x h1 h2 => b.av x (a.av x h1 h2) (a.th x h2)⟩
theorem Nv.loc {M : List Addr} {G H G2 H2 : Hp} (a : Nv M G H G2 H2) {l : Addr} {o : HO} (hl : l ∉ M) (h1 : G l = none) (h2 : H l = some o) : G2 l = none ∧ H2 l = some o :=
  ⟨a.av l h1 (by rw [h2]; simp), a.hh l o hl h2⟩
theorem Nv.new {M : List Addr} {G H G2 H2 : Hp} (a : Nv M G H G2 H2) {p : Addr} (h : H2 p = none) : H p = none := by
  cases e : H p with
  | none => rfl
  | some o => exact absurd h (a.th p (by rw [e]; simp))
/-- the view of a new thing -/
theorem Nv.add {M : List Addr} {G H G2 H2 : Hp} {p : Addr} {o : HO} (a : Nv M G H G2 H2) (h : H p = none) (h2 : H2 p = some o) (n : G2 p = none) : Nv M G H (upd G2 p o) H2 :=
  ⟨a.hh, a.th, a.gg.trans (Ex.new n), fun x u e => by
    by_cases hx : x = p
    · subst hx
      rw [upd_same] at e
      cases e
      exact h2
    · rw [upd_ne hx] at e
      exact a.gh x u e, fun x h1 h3 => by
    rw [upd_ne (fun z => h3 (by rw [z]; exact h))]
    exact a.av x h1 h3⟩
/-- a new thing laid, and in the view -/
theorem Nv.lay {M : List Addr} {G H : Hp} {p : Addr} {o : HO} (e : Ex G H) (h : H p = none) : Nv M G H (upd G p o) (upd H p o) := by
  have n : G p = none := fresh_back e h
  refine ⟨fun x u _ q => Ex.new h x u q, fun x q => ?_, Ex.new n, fun x u q => ?_, fun x h1 h2 => ?_⟩
  · by_cases hx : x = p
    · rw [hx, upd_same]
      simp
    · rw [upd_ne hx]
      exact q
  · by_cases hx : x = p
    · subst hx
      rw [upd_same] at q ⊢
      exact q
    · rw [upd_ne hx] at q ⊢
      exact e x u q
  · rw [upd_ne (fun z => h2 (by rw [z]; exact h))]
    exact h1
/-- a new thing laid, outside of the view -/
theorem Nv.put {M : List Addr} {G H : Hp} {p : Addr} {o : HO} (e : Ex G H) (h : H p = none) : Nv M G H G (upd H p o) := by
  refine ⟨fun x u _ q => Ex.new h x u q, fun x q => ?_, Ex.refl G, e.trans (Ex.new h), fun x h1 _ => h1⟩
  by_cases hx : x = p
  · rw [hx, upd_same]
    simp
  · rw [upd_ne hx]
    exact q
/-- a thing outside of the view changed -/
theorem Nv.chg {G H : Hp} {p : Addr} {o : HO} (e : Ex G H) (h : G p = none) : Nv [p] G H G (upd H p o) := by
  refine ⟨fun x u hx q => ?_, fun x q => ?_, Ex.refl G, Ex.mut e h, fun x h1 _ => h1⟩
  · rw [upd_ne (fun z => hx (by rw [z]; simp))]
    exact q
  · by_cases hx : x = p
    · rw [hx, upd_same]
      simp
    · rw [upd_ne hx]
      exact q

structure At (M : List Addr) (G H : Hp) : Prop where
  ex : Ex G H
  mm : ∀ a ∈ M, G a = none ∧ H a ≠ none
theorem At.nv {M : List Addr} {G H G2 H2 : Hp} (a : At M G H) (n : Nv M G H G2 H2) : At M G2 H2 := ⟨n.gh, fun x hx => ⟨n.av x (a.mm x hx).1 (a.mm x hx).2, n.th x (a.mm x hx).2⟩⟩
theorem At.pure {G H : Hp} (e : Ex G H) : At [] G H := ⟨e, fun _ z => nomatch z⟩
theorem At.one {G H : Hp} {p : Addr} {o : HO} (e : Ex G H) (h1 : G p = none) (h2 : H p = some o) : At [p] G H := ⟨e, fun x hx => by
  have : x = p := by simpa using hx
  subst this
  exact ⟨h1, by rw [h2]; simp⟩⟩
/-- S hangs on the view and on the things at M -/
def Stb (M : List Addr) (S : Hp → Hp → Prop) : Prop := ∀ {G H G2 H2 : Hp}, Ex G G2 → (∀ a ∈ M, H2 a = H a) → S G H → S G2 H2
abbrev Tr : Hp → Hp → Prop := fun _ _ => True
theorem stb_tr {M : List Addr} : Stb M Tr := fun _ _ h => h
theorem At.eq {M L : List Addr} {G H G2 H2 : Hp} (a : At M G H) (n : Nv L G H G2 H2) (d : ∀ x ∈ M, x ∉ L) : ∀ x ∈ M, H2 x = H x := fun x hx => by
  cases e : H x with
  | none => exact absurd e (a.mm x hx).2
  | some o => exact n.hh x o (d x hx) e
theorem At.new {M : List Addr} {G H : Hp} {p : Addr} {o : HO} (a : At M G H) (h : H p = none) : ∀ x ∈ M, upd H p o x = H x := fun x hx => upd_ne fun z => (a.mm x hx).2 (by rw [z]; exact h)
theorem Stb.nv {M : List Addr} {S : Hp → Hp → Prop} (st : Stb M S) {G H G2 H2 : Hp} (a : At M G H) (n : Nv [] G H G2 H2) (s : S G H) : S G2 H2 := st n.gg (a.eq n fun _ _ z => nomatch z) s

/-- f, read from the view G (or a larger one), gives a C; it may change the things at M, for which S leads to S' -/
def Ez {α : Type} (M : List Addr) (S S' : Hp → Hp → Prop) (f : Hp → (α → Hp → Prop) → Prop) (G : Hp) (C : Pd α) : Prop :=
  ∀ G1 H, Ex G G1 → At M G1 H → S G1 H → ∀ Q : α → Hp → Prop, (∀ v G2 H2, Nv M G1 H G2 H2 → S' G2 H2 → C.p G2 v → Q v H2) → f H Q
abbrev Pz {α : Type} (f : Hp → (α → Hp → Prop) → Prop) (G : Hp) (C : Pd α) : Prop := Ez [] Tr Tr f G C

section
variable {α β : Type} {M : List Addr} {S S' S1 S2 : Hp → Hp → Prop} {G G' : Hp} {C A B : Pd α}
theorem Ez.mono {f : Hp → (α → Hp → Prop) → Prop} (h : Ez M S S' f G C) (e : Ex G G') : Ez M S S' f G' C := fun G1 H e1 a s Q q => h G1 H (e.trans e1) a s Q q
/-- a pure one, where other things stand -/
theorem Ez.lift {f : Hp → (α → Hp → Prop) → Prop} (h : Pz f G C) (st : Stb M S) : Ez M S S f G C := fun G1 H e a s Q q =>
  h G1 H e (At.pure a.ex) True.intro Q fun v G2 H2 n _ c => q v G2 H2 (n.mono fun _ z => nomatch z) (st.nv a n s) c
theorem Ez.to {f : Hp → (α → Hp → Prop) → Prop} {C' : Pd α} (h : Ez M S S' f G C) (k : ∀ G' v, Ex G G' → C.p G' v → C'.p G' v) : Ez M S S' f G C' := fun G1 H e a s Q q => h G1 H e a s Q fun v G2 H2 n s2 c => q v G2 H2 n s2 (k G2 v (e.trans n.gg) c)
theorem Ez.bind {f : Hp → (α → Hp → Prop) → Prop} {g : α → Hp → (β → Hp → Prop) → Prop} {D : Pd β} (h : Ez M S S1 f G C) (k : ∀ x G', Ex G G' → C.p G' x → Ez M S1 S2 (g x) G' D) : Ez M S S2 (fun H Q => f H fun x H1 => g x H1 Q) G D :=
  fun G1 H e a s Q q => h G1 H e a s _ fun x G2 H2 n1 s1 c => k x G2 (e.trans n1.gg) c G2 H2 (Ex.refl G2) (a.nv n1) s1 Q fun v G3 H3 n2 s2 d => q v G3 H3 (n1.trans n2) s2 d
theorem Ez.ret {x : α} (h : C.p G x) : Ez M S S (fun H Q => Q x H) G C := fun G1 H e a s Q q => q x G1 H (Nv.refl a.ex) s (C.mono e h)
end

/-! ### expressions -/
section
variable {K : PySem.W.Frag} {M : List Addr} {S S' S1 S2 S3 : Hp → Hp → Prop} {σ : L2.St} {G : Hp} {ta tb te : TE} {t u : TT} {A B C : Pd V}
theorem z_var {i : Nat} {v : V} (h : σ[i]? = some (some v)) (c : C.p G v) : Ez M S S (tVar i σ) G C := fun G1 H e0 a s Q q => ⟨v, h, q v G1 H (Nv.refl a.ex) s (C.mono e0 c)⟩
theorem z_c {v : V} (c : C.p G v) : Ez M S S (tC v σ) G C := fun G1 H e0 a s Q q => q v G1 H (Nv.refl a.ex) s (C.mono e0 c)
theorem z_op {r : R2} (ha : Ez M S S1 (ta σ) G A) (hb : Ez M S1 S2 (tb σ) G B) (hr : ∀ x y G', Ex G G' → A.p G' x → B.p G' y → Ez M S2 S3 (r x y) G' C) : Ez M S S3 (tOp r ta tb σ) G C :=
  Ez.bind (g := fun x H Q => tb σ H fun y H2 => r x y H2 Q) ha fun x G1 e1 a => Ez.bind (g := fun y H Q => r x y H Q) (hb.mono e1) fun y G2 e2 b => hr x y G2 (e1.trans e2) (A.mono e2 a) b
theorem z_un {r : V → Hp → VK → Prop} (ha : Ez M S S1 (ta σ) G A) (hr : ∀ x G', Ex G G' → A.p G' x → Ez M S1 S2 (r x) G' C) : Ez M S S2 (tUn r ta σ) G C := Ez.bind (g := r) ha hr
theorem z_I0 {g : Int → Int → V} {i j : Int} (c : C.p G (g i j)) : Ez M S S (rI0 g (.int i) (.int j)) G C := fun G1 H e0 a s Q q => ⟨i, j, rfl, rfl, q _ G1 H (Nv.refl a.ex) s (C.mono e0 c)⟩
theorem z_I {c0 : Int → Int → Prop} {g : Int → Int → V} {i j : Int} (h : c0 i j) (c : C.p G (g i j)) : Ez M S S (rI c0 g (.int i) (.int j)) G C := fun G1 H e0 a s Q q => ⟨i, j, rfl, rfl, h, q _ G1 H (Nv.refl a.ex) s (C.mono e0 c)⟩
theorem z_eq {x y : V} (h : scal x y = true) (c : C.p G (.bl (decide (x = y)))) : Ez M S S (rEq x y) G C := fun G1 H e0 a s Q q => ⟨h, q _ G1 H (Nv.refl a.ex) s (C.mono e0 c)⟩
theorem z_ne {x y : V} (h : scal x y = true) (c : C.p G (.bl (!decide (x = y)))) : Ez M S S (rNe x y) G C := fun G1 H e0 a s Q q => ⟨h, q _ G1 H (Nv.refl a.ex) s (C.mono e0 c)⟩
theorem z_ixL {p : Addr} {xs : List V} {i : Int} {v : V} (h : SqL K G p xs) (ha : atI xs i = some v) (c : C.p G v) : Ez M S S (rIxL K (.ref p) (.int i)) G C := fun G1 H e0 a s Q q => ⟨p, xs, i, v, rfl, rfl, ex_l (e0.trans a.ex) h, ha, q v G1 H (Nv.refl a.ex) s (C.mono e0 c)⟩
theorem z_ixT {p : Addr} {xs : List V} {i : Int} {v : V} (h : SqT K G p xs) (ha : atI xs i = some v) (c : C.p G v) : Ez M S S (rIxT K (.ref p) (.int i)) G C := fun G1 H e0 a s Q q => ⟨p, xs, i, v, rfl, rfl, ex_t (e0.trans a.ex) h, ha, q v G1 H (Nv.refl a.ex) s (C.mono e0 c)⟩
theorem z_ixS {x : Str} {i : Int} {c : Nat} (h : x.length ≤ sizeLine) (ha : atI x.cps.toList i = some c) (k : C.p G (.str ⟨#[c]⟩)) : Ez M S S (rIxS (.str x) (.int i)) G C := fun G1 H e0 a s Q q => ⟨x, i, c, rfl, rfl, h, ha, q _ G1 H (Nv.refl a.ex) s (C.mono e0 k)⟩
/-- a list outside of the view, by what S says -/
theorem z_ixM {p : Addr} {i : Int} (h : ∀ G1 H, Ex G G1 → S G1 H → ∃ xs v, H p = some (.lst xs) ∧ atI xs i = some v ∧ C.p G1 v) : Ez M S S (rIxL K (.ref p) (.int i)) G C := fun G1 H e0 a s Q q => by
  obtain ⟨xs, v, h1, h2, h3⟩ := h G1 H e0 s
  exact ⟨p, xs, i, v, rfl, rfl, SqL.of h1, h2, q v G1 H (Nv.refl a.ex) s h3⟩
/-- an item of data -/
theorem z_ixDL {ds : List PyData} {i : Nat} {d : PyData} (ha : Ez M S S1 (ta σ) G (dat K (.list ds))) (hb : Ez M S1 S2 (tb σ) G (is (.int (i : Int)))) (h : ds[i]? = some d) : Ez M S S2 (tOp (rIxL K) ta tb σ) G (dat K d) :=
  z_op ha hb fun x y G' e a b => by
    obtain ⟨p, xs, rfl, hs, hd⟩ := dp_list a
    have hb' : y = .int (i : Int) := b
    subst hb'
    obtain ⟨v, hv, hd'⟩ := da_at hd h
    exact z_ixL hs (atI_nat hv) hd'
theorem z_ixDT {ds : List PyData} {i : Nat} {d : PyData} (ha : Ez M S S1 (ta σ) G (dat K (.tuple ds))) (hb : Ez M S1 S2 (tb σ) G (is (.int (i : Int)))) (h : ds[i]? = some d) : Ez M S S2 (tOp (rIxT K) ta tb σ) G (dat K d) :=
  z_op ha hb fun x y G' e a b => by
    obtain ⟨p, xs, rfl, hs, hd⟩ := dp_tup a
    have hb' : y = .int (i : Int) := b
    subst hb'
    obtain ⟨v, hv, hd'⟩ := da_at hd h
    exact z_ixT hs (atI_nat hv) hd'
theorem z_int {i : Int} {te : TE} (h : Ez M S S1 (te σ) G (dat K (.int i))) : Ez M S S1 (te σ) G (is (.int i)) := h.to fun _ _ _ c => dp_int c
theorem z_str {x : Str} {te : TE} (h : Ez M S S1 (te σ) G (dat K (.str x))) : Ez M S S1 (te σ) G (is (.str x)) := h.to fun _ _ _ c => dp_str c
theorem z_bool {b : Bool} {te : TE} (h : Ez M S S1 (te σ) G (dat K (.bool b))) : Ez M S S1 (te σ) G (is (.bl b)) := h.to fun _ _ _ c => dp_bool c
theorem dat_str {x : Str} {te : TE} (h : Ez M S S1 (te σ) G (is (.str x))) : Ez M S S1 (te σ) G (dat K (.str x)) := h.to fun _ _ _ c => by
  have c' : _ = V.str x := c
  rw [c']
  exact Dp.str x
theorem dat_int {i : Int} {te : TE} (h : Ez M S S1 (te σ) G (is (.int i))) : Ez M S S1 (te σ) G (dat K (.int i)) := h.to fun _ _ _ c => by
  have c' : _ = V.int i := c
  rw [c']
  exact Dp.int i
theorem dat_bool {b : Bool} {te : TE} (h : Ez M S S1 (te σ) G (is (.bl b))) : Ez M S S1 (te σ) G (dat K (.bool b)) := h.to fun _ _ _ c => by
  have c' : _ = V.bl b := c
  rw [c']
  exact Dp.bl b
/-- ops on known scalars -/
theorem z_opE {r : R2} {x y z : V} (ha : Ez M S S1 (ta σ) G (is x)) (hb : Ez M S1 S2 (tb σ) G (is y)) (hr : ∀ G', Ez M S2 S2 (r x y) G' (is z)) : Ez M S S2 (tOp r ta tb σ) G (is z) :=
  z_op ha hb fun x' y' G' e a b => by
    have a' : x' = x := a
    have b' : y' = y := b
    subst a' b'
    exact hr G'
theorem z_opI {g : Int → Int → V} {i j : Int} {z : V} (ha : Ez M S S1 (ta σ) G (is (.int i))) (hb : Ez M S1 S2 (tb σ) G (is (.int j))) (e : g i j = z) : Ez M S S2 (tOp (rI0 g) ta tb σ) G (is z) := z_opE ha hb fun _ => z_I0 e
theorem z_opC {c0 : Int → Int → Prop} {g : Int → Int → V} {i j : Int} {z : V} (ha : Ez M S S1 (ta σ) G (is (.int i))) (hb : Ez M S1 S2 (tb σ) G (is (.int j))) (h : c0 i j) (e : g i j = z) : Ez M S S2 (tOp (rI c0 g) ta tb σ) G (is z) := z_opE ha hb fun _ => z_I h e
theorem z_opEq {x y : V} {b : Bool} (ha : Ez M S S1 (ta σ) G (is x)) (hb : Ez M S1 S2 (tb σ) G (is y)) (h : scal x y = true) (e : decide (x = y) = b) : Ez M S S2 (tOp rEq ta tb σ) G (is (.bl b)) := z_opE ha hb fun _ => z_eq h (congrArg V.bl e)
theorem z_opNe {x y : V} {b : Bool} (ha : Ez M S S1 (ta σ) G (is x)) (hb : Ez M S1 S2 (tb σ) G (is y)) (h : scal x y = true) (e : (!decide (x = y)) = b) : Ez M S S2 (tOp rNe ta tb σ) G (is (.bl b)) := z_opE ha hb fun _ => z_ne h (congrArg V.bl e)

/-! tests -/
theorem zt_test {b : Bool} (h : Ez M S S1 (te σ) G (is (.bl b))) : Ez M S S1 (tTest te σ) G (is b) := Ez.bind (g := fun (x : V) H' (Q : Bool → Hp → Prop) => ∃ k, x = .bl k ∧ Q k H') (D := is b) h fun x G' _ c => fun G1 H e0 a s Q q => ⟨b, (show x = V.bl b from c), q b G1 H (Nv.refl a.ex) s rfl⟩
theorem zt_B {b : Bool} (h : Ez M S S1 (te σ) G (is (.bl b))) : Ez M S S1 (tB te σ) G (is b) := Ez.bind (g := fun (x : V) H' (Q : Bool → Hp → Prop) => ∃ k, x = .bl k ∧ Q k H') (D := is b) h fun x G' _ c => fun G1 H e0 a s Q q => ⟨b, (show x = V.bl b from c), q b G1 H (Nv.refl a.ex) s rfl⟩
theorem zt_and {a b : Bool} (h1 : Ez M S S1 (t σ) G (is a)) (h2 : a = true → Ez M S1 S1 (u σ) G (is b)) : Ez M S S1 (tAnd t u σ) G (is (a && b)) := Ez.bind (g := fun c H1 Q => if c = true then u σ H1 Q else Q false H1) (C := is a) h1 fun x G' e c => by
  have c' : x = a := c
  subst c'
  cases x with
  | true => exact fun G1 H e0 at' s Q q => (L2.iteT ((h2 rfl).mono e G1 H e0 at' s Q q))
  | false => exact fun G1 H e0 at' s Q q => (L2.iteF (q _ G1 H (Nv.refl at'.ex) s rfl))
theorem zt_or {a b : Bool} (h1 : Ez M S S1 (t σ) G (is a)) (h2 : a = false → Ez M S1 S1 (u σ) G (is b)) : Ez M S S1 (tOr t u σ) G (is (a || b)) := Ez.bind (g := fun c H1 Q => if c = true then Q true H1 else u σ H1 Q) (C := is a) h1 fun x G' e c => by
  have c' : x = a := c
  subst c'
  cases x with
  | true => exact fun G1 H e0 at' s Q q => (L2.iteT (q _ G1 H (Nv.refl at'.ex) s rfl))
  | false => exact fun G1 H e0 at' s Q q => (L2.iteF ((h2 rfl).mono e G1 H e0 at' s Q q))
theorem zt_not {a : Bool} (h1 : Ez M S S1 (t σ) G (is a)) : Ez M S S1 (tNot t σ) G (is (!a)) := Ez.bind (g := fun c H1 Q => Q (!c) H1) (C := is a) h1 fun x G' e c => by
  have c' : x = a := c
  subst c'
  exact fun G1 H e0 at' s Q q => q _ G1 H (Nv.refl at'.ex) s rfl
theorem z_andV {a b : Bool} (h1 : Ez M S S1 (ta σ) G (is (.bl a))) (h2 : a = true → Ez M S1 S1 (tb σ) G (is (.bl b))) : Ez M S S1 (tAndV ta tb σ) G (is (.bl (a && b))) := Ez.bind (g := fun x H1 Q => ∃ c, x = .bl c ∧ if c = true then tb σ H1 Q else Q (.bl false) H1) h1 fun x G' e c => fun G1 H e0 at' s Q q => ⟨a, (show x = V.bl a from c), by
  cases a with
  | true => exact L2.iteT ((h2 rfl).mono e G1 H e0 at' s Q q)
  | false => exact L2.iteF (q _ G1 H (Nv.refl at'.ex) s rfl)⟩
theorem z_orV {a b : Bool} (h1 : Ez M S S1 (ta σ) G (is (.bl a))) (h2 : a = false → Ez M S1 S1 (tb σ) G (is (.bl b))) : Ez M S S1 (tOrV ta tb σ) G (is (.bl (a || b))) := Ez.bind (g := fun x H1 Q => ∃ c, x = .bl c ∧ if c = true then Q (.bl true) H1 else tb σ H1 Q) h1 fun x G' e c => fun G1 H e0 at' s Q q => ⟨a, (show x = V.bl a from c), by
  cases a with
  | true => exact L2.iteT (q _ G1 H (Nv.refl at'.ex) s rfl)
  | false => exact L2.iteF ((h2 rfl).mono e G1 H e0 at' s Q q)⟩
theorem z_if {b : Bool} (h : Ez M S S1 (t σ) G (is b)) (h1 : b = true → Ez M S1 S2 (ta σ) G C) (h2 : b = false → Ez M S1 S2 (tb σ) G C) : Ez M S S2 (tIf t ta tb σ) G C := Ez.bind (g := fun c H1 Q => if c = true then ta σ H1 Q else tb σ H1 Q) (C := is b) h fun x G' e c => by
  have c' : x = b := c
  subst c'
  cases x with
  | true => exact fun G1 H e0 at' s Q q => (L2.iteT ((h1 rfl).mono e G1 H e0 at' s Q q))
  | false => exact fun G1 H e0 at' s Q q => (L2.iteF ((h2 rfl).mono e G1 H e0 at' s Q q))
theorem z_is {x y : V} {te : TE} (h : Ez M S S1 (te σ) G (is x)) (e : x = y) : Ez M S S1 (te σ) G (is y) := e ▸ h
theorem zt_is {a b : Bool} {t : TT} (h : Ez M S S1 (t σ) G (is a)) (e : a = b) : Ez M S S1 (t σ) G (is b) := e ▸ h

/-! argument lists, displays -/
theorem z_nil : Ez M S S (tNil σ) G (is []) := fun G1 H e0 a s Q q => q [] G1 H (Nv.refl a.ex) s rfl
theorem z_nilD : Ez M S S (tNil σ) G (dats K []) := fun G1 H e0 a s Q q => q [] G1 H (Nv.refl a.ex) s .nil
theorem z_consG {tr : TA} {B : Pd (List V)} {D : Pd (List V)} (h : Ez M S S1 (te σ) G A) (hr : Ez M S1 S2 (tr σ) G B) (k : ∀ G' x xs, Ex G G' → A.p G' x → B.p G' xs → D.p G' (x :: xs)) : Ez M S S2 (tCons te tr σ) G D :=
  Ez.bind (g := fun x H Q => tr σ H fun xs H2 => Q (x :: xs) H2) h fun x G1 e1 a => Ez.bind (g := fun xs H Q => Q (x :: xs) H) (hr.mono e1) fun xs G2 e2 b => Ez.ret (k G2 x xs (e1.trans e2) (A.mono e2 a) b)
theorem z_cons {tr : TA} {B : Pd (List V)} (h : Ez M S S1 (te σ) G A) (hr : Ez M S1 S2 (tr σ) G B) : Ez M S S2 (tCons te tr σ) G (consP A B) := z_consG h hr fun G' x xs _ a b => ⟨x, xs, rfl, a, b⟩
theorem z_consD {tr : TA} {d : PyData} {ds : List PyData} (h : Ez M S S1 (te σ) G (dat K d)) (hr : Ez M S1 S2 (tr σ) G (dats K ds)) : Ez M S S2 (tCons te tr σ) G (dats K (d :: ds)) := z_consG h hr fun G' x xs _ a b => DpAll.cons a b
theorem z_tup {ta : TA} {B : Pd (List V)} (h : Ez M S S1 (ta σ) G B) (st : Stb M S1) (hl : ∀ G' xs, B.p G' xs → xs.length ≤ sizeLine) : Ez M S S1 (tTup ta σ) G (tupP K B) :=
  Ez.bind (g := fun (xs : List V) (H1 : Hp) (Q : VK) => xs.length ≤ sizeLine ∧ ∀ p, H1 p = none → Q (.ref p) (upd H1 p (.tup xs))) (D := tupP K B) h fun xs G' e b => fun G1 H e0 a s Q q => ⟨hl G' xs b, fun p hp => q (.ref p) _ _ (Nv.lay a.ex hp) (st (Ex.new (fresh_back a.ex hp)) (a.new hp) s) ⟨p, xs, rfl, SqT.of upd_same, B.mono (e0.trans (Ex.new (fresh_back a.ex hp))) b⟩⟩
theorem tupP_dat {G' : Hp} {v : V} {ds : List PyData} (h : (tupP K (dats K ds)).p G' v) : (dat K (.tuple ds)).p G' v := by
  obtain ⟨a, xs, rfl, h1, h2⟩ := h
  exact Dp.tup h1 h2
theorem lstP_dat {G' : Hp} {v : V} {ds : List PyData} (h : (lstP K (dats K ds)).p G' v) : (dat K (.list ds)).p G' v := by
  obtain ⟨a, xs, rfl, h1, h2⟩ := h
  exact Dp.lst h1 h2
theorem z_tupD {ta : TA} {ds : List PyData} (h : Ez M S S1 (ta σ) G (dats K ds)) (st : Stb M S1) (hl : ds.length ≤ 1000 := by decide) : Ez M S S1 (tTup ta σ) G (dat K (.tuple ds)) :=
  (z_tup h st fun G' xs b => by
    rw [da_len b]
    exact Nat.le_trans hl (by decide)).to fun _ _ _ c => tupP_dat c
/-- a new list, not yet in the view -/
def Lz {M : List Addr} (S S' : Hp → Hp → Prop) (f : Hp → VK → Prop) (G : Hp) (B : Pd (List V)) : Prop :=
  ∀ G1 H, Ex G G1 → At M G1 H → S G1 H → ∀ Q : VK, (∀ p xs G2 H2, Nv M G1 H G2 H2 → H p = none → G2 p = none → H2 p = some (.lst xs) → S' G2 H2 → B.p G2 xs → Q (.ref p) H2) → f H Q
theorem Lz.ez {f : Hp → VK → Prop} {B : Pd (List V)} (h : Lz (M := M) S S1 f G B) (st : Stb M S1) : Ez M S S1 f G (lstP K B) := fun G1 H e0 a s Q q =>
  h G1 H e0 a s Q fun p xs G2 H2 n hp gp h2 s2 b => q _ _ _ (n.add hp h2 gp) (st (Ex.new gp) (fun _ _ => rfl) s2) ⟨p, xs, rfl, SqL.of upd_same, B.mono (Ex.new gp) b⟩
theorem Lz.dat {f : Hp → VK → Prop} {ds : List PyData} (h : Lz (M := M) S S1 f G (dats K ds)) (st : Stb M S1) : Ez M S S1 f G (dat K (.list ds)) := (h.ez st).to fun _ _ _ c => lstP_dat c
theorem Lz.lift {f : Hp → VK → Prop} {B : Pd (List V)} (h : Lz (M := []) Tr Tr f G B) (st : Stb M S) : Lz (M := M) S S f G B := fun G1 H e0 a s Q q =>
  h G1 H e0 (At.pure a.ex) True.intro Q fun p xs G2 H2 n hp gp h2 _ b => q p xs G2 H2 (n.mono fun _ z => nomatch z) hp gp h2 (st.nv a n s) b
theorem Lz.to {f : Hp → VK → Prop} {B B' : Pd (List V)} (h : Lz (M := M) S S1 f G B) (k : ∀ G' xs, Ex G G' → B.p G' xs → B'.p G' xs) : Lz (M := M) S S1 f G B' := fun G1 H e0 a s Q q => h G1 H e0 a s Q fun p xs G2 H2 n hp gp h2 s2 b => q p xs G2 H2 n hp gp h2 s2 (k G2 xs (e0.trans n.gg) b)
theorem l_lst {ta : TA} {B : Pd (List V)} (h : Ez M S S1 (ta σ) G B) (st : Stb M S1) (hl : ∀ G' xs, B.p G' xs → xs.length ≤ sizeLine) : Lz (M := M) S S1 (tLst ta σ) G B := fun G1 H e0 a s Q q =>
  h G1 H e0 a s _ fun xs G2 H2 n s1 b => ⟨hl G2 xs b, fun p hp => q p xs G2 _ (n.trans (Nv.put n.gh hp)) (n.new hp) (fresh_back n.gh hp) upd_same (st (Ex.refl _) ((a.nv n).new hp) s1) b⟩
theorem l_lstD {ta : TA} {ds : List PyData} (h : Ez M S S1 (ta σ) G (dats K ds)) (st : Stb M S1) (hl : ds.length ≤ 1000 := by decide) : Lz (M := M) S S1 (tLst ta σ) G (dats K ds) := l_lst h st fun G' xs b => by
  rw [da_len b]
  exact Nat.le_trans hl (by decide)

/-! calls -/
theorem z_cb {r : List V → Hp → VK → Prop} {ta : TA} {B : Pd (List V)} (h : Ez M S S1 (ta σ) G B) (hr : ∀ vs G', Ex G G' → B.p G' vs → Ez M S1 S2 (r vs) G' C) : Ez M S S2 (tCB r ta σ) G C := Ez.bind (g := r) h hr
/-- a pure def's promise -/
def spP (pre : List V → Hp → Pd V → Prop) : Sp := fun vs H Q _ => ∃ G C, Ex G H ∧ pre vs G C ∧ ∀ v G2 H2, Nv [] G H G2 H2 → C.p G2 v → Q v H2
theorem z_call {pre : List V → Hp → Pd V → Prop} {dvs : List V} {E : XK} {ta : TA} {B : Pd (List V)} (h : Ez M S S1 (ta σ) G B) (st : Stb M S1) (hp : ∀ vs G', Ex G G' → B.p G' vs → pre (vs ++ dvs) G' C) : Ez M S S1 (tCall (spP pre) dvs E ta σ) G C := fun G1 H e0 a s Q q =>
  h G1 H e0 a s _ fun vs G2 H2 n s2 b => ⟨G2, C, n.gh, hp vs G2 (e0.trans n.gg) b, fun v G3 H3 n3 c => q v G3 H3 (n.trans (n3.mono fun _ z => nomatch z)) (st.nv (a.nv n) n3 s2) c⟩
/-- a def that changes the things at M -/
def spM (pre : List V → List Addr → Hp → (Hp → Hp → Prop) → (Hp → Hp → Prop) → Pd V → Prop) : Sp := fun vs H Q _ => ∃ M G S S' C, At M G H ∧ S G H ∧ pre vs M G S S' C ∧ ∀ v G2 H2, Nv M G H G2 H2 → S' G2 H2 → C.p G2 v → Q v H2
theorem z_callM {pre : List V → List Addr → Hp → (Hp → Hp → Prop) → (Hp → Hp → Prop) → Pd V → Prop} {L : List Addr} {dvs : List V} {E : XK} {ta : TA} {B : Pd (List V)} (h : Ez M S S1 (ta σ) G B) (hL : ∀ x ∈ L, x ∈ M)
    (hp : ∀ vs G', Ex G G' → B.p G' vs → ∃ T T', (∀ G H, Ex G' G → S1 G H → T G H) ∧ (∀ G'', Ex G' G'' → pre (vs ++ dvs) L G'' T T' C) ∧ ∀ G1 H1 G2 H2, S1 G1 H1 → Nv L G1 H1 G2 H2 → T' G2 H2 → S2 G2 H2) : Ez M S S2 (tCall (spM pre) dvs E ta σ) G C := fun G1 H e0 a s Q q =>
  h G1 H e0 a s _ fun vs G2 H2 n s2 b => by
    obtain ⟨T, T', h1, h2, h3⟩ := hp vs G2 (e0.trans n.gg) b
    exact ⟨L, G2, T, T', C, ⟨n.gh, fun x hx => (a.nv n).mm x (hL x hx)⟩, h1 G2 H2 (Ex.refl G2) s2, h2 G2 (Ex.refl G2), fun v G3 H3 n3 s' c => q v G3 H3 (n.trans (n3.mono hL)) (h3 G2 H2 G3 H3 s2 n3 s') c⟩
end
end QV

/-! Further rules of operators: max and min of two texts, order of nested data, repr of data, a list's item by value. -/
namespace QW
open PySem PySem.Spec PyProof.Rows L2

theorem op_inS {X : Cx} : OpR X (compareOp .In) rInS := op_in_sign
theorem op_notInS {X : Cx} : OpR X (compareOp .NotIn) rNotInS := op_notIn_sign
/-- data in order -/
def rLtD (K : PySem.W.Frag) : R2 := fun x y H Q => ∃ d e, Dp K H x d ∧ Dp K H y e ∧ PySem.W.alike d e = true ∧ d ≠ .none ∧ d.depth ≤ 8 ∧ Q (.bl (PySem.W.dataLt d e)) H
theorem op_ltD {X : Cx} (hu : X.A.units + 64 < cLine) : OpR X (compareOp .Lt) (rLtD X.K) := by
  intro pins s σ H x y v u Q I rx ry h
  obtain ⟨d, e, hd, he, al, nn, dp, q⟩ := h
  obtain ⟨as, r1⟩ := Dp.reads I d x v hd rx
  obtain ⟨bs, r2⟩ := Dp.reads I e y u he ry
  exact PySem.W.lt_data r1 r2 al nn (by have := Nat.min_le_left d.depth e.depth; omega) ⟨.bl _, H, I, rfl, q⟩
/-- repr of a list, where no other repr runs -/
def rRepr (K : PySem.W.Frag) : List V → Hp → VK → Prop := fun vs H Q => ∃ a d, vs = [.ref a] ∧ Dp K H (.ref a) d ∧ d.showable = true ∧ d.hasDict = false ∧ d.depth ≤ 16 ∧ d.shown.length ≤ sizeLine ∧ Q (.str d.shown) H
theorem call_reprD {X : Cx} (hu : X.A.units + 64 < cLine) (hg : X.A.guards = some []) : CallR X (.builtin "repr") (rRepr X.K) := by
  intro pins s σ H xs us Q I r h
  obtain ⟨a, d, rfl, hd, h1, h2, h3, h4, q⟩ := h
  obtain ⟨u, rfl, ru⟩ := vals1 r
  obtain rfl : u = Value.ref a := ru
  obtain ⟨as, rd⟩ := Dp.reads I d (.ref a) (.ref a) hd rfl
  exact repr_of_reads' rd h1 (fun z => by rw [h2] at z; cases z) hg (by omega) (fun _ _ e => e) (fun h' t tk k => ⟨.str d.shown, H, I.kept k, ⟨_, rfl⟩, q⟩) h4

/-! ### max and min of two texts -/
theorem rich_gt (prog : Program) (w : World) (A : Around) (E : Value → Shared → Prop) (Q : Value → Shared → Prop) (s : Shared) (x y : Str) (t u : Tok) (h : Q (.bool (decide (y.cps.toList < x.cps.toList))) s) : wpAny (model prog w) A (richCompare .Gt (.str x t) (.str y u)) Q E s :=
  (PySem.P.gt_str h : wpAny (model prog w) A (compareOp .Gt (.str x t) (.str y u)) Q E s)
theorem rich_lt (prog : Program) (w : World) (A : Around) (E : Value → Shared → Prop) (Q : Value → Shared → Prop) (s : Shared) (x y : Str) (t u : Tok) (h : Q (.bool (decide (x.cps.toList < y.cps.toList))) s) : wpAny (model prog w) A (richCompare .Lt (.str x t) (.str y u)) Q E s :=
  (PyProof.Rows.lt_str h : wpAny (model prog w) A (compareOp .Lt (.str x t) (.str y u)) Q E s)
section
variable {prog : Program} {w : World} {A : Around} {E : Value → Shared → Prop} {s : Shared}
theorem cmp_strs {op : CmpOp} {p : Str → Str → Bool} (rule : ∀ (x y : Str) (t u : Tok) (Q : Value → Shared → Prop) (E : Value → Shared → Prop) (s : Shared), Q (.bool (p x y)) s → wpAny (model prog w) A (richCompare op (.str x t) (.str y u)) Q E s)
    (x y : Str) (t u : Tok) : CmpOf prog w A op (fun i v => (#[Value.str x t, Value.str y u])[i]? = some v) (fun i j => p (if i = 0 then x else y) (if j = 0 then x else y)) := by
  intro i j vi vj s Q E hi hj h
  have at2 : ∀ (i : Nat) (v : Value), (#[Value.str x t, Value.str y u])[i]? = some v → ∃ tk, v = .str (if i = 0 then x else y) tk := by
    intro i v h
    match i, h with
    | 0, h =>
      have : Value.str x t = v := by simpa using h
      exact ⟨t, this.symm⟩
    | 1, h =>
      have : Value.str y u = v := by simpa using h
      exact ⟨u, this.symm⟩
    | k + 2, h => simp at h
  obtain ⟨t1, rfl⟩ := at2 i vi hi
  obtain ⟨t2, rfl⟩ := at2 j vj hj
  exact rule _ _ t1 t2 Q E s h
theorem two_texts {x y : Str} {t u : Tok} {Q : Value → Shared → Prop} {id : String} {op : CmpOp} {p : Str → Str → Bool} (hh : A.handled = none)
    (hcmp : CmpOf prog w A.in1 op (fun i v => (#[Value.str x t, Value.str y u])[i]? = some v) (fun i j => p (if i = 0 then x else y) (if j = 0 then x else y)))
    (call2 : wpAny (model prog w) A.in1 (pyIter (.ref s.heap.objs.size)) (fun it s₂ => ∃ I fp wr n P St bt, it = .ref I ∧ Walks prog w A.in1 I fp wr n P St ∧ St 0 s₂.heap ∧ (∀ b ∈ fp, b < s₂.heap.objs.size) ∧ 0 < n ∧ CmpOf prog w A.in1 op P bt ∧
      ∀ v h' tk, P (argBest bt (n - 1)) v → (∀ b o, b ∉ wr → s₂.heap.get? b = some o → h'.get? b = some o) → Q v { s₂ with heap := h', toks := tk }) E
      { s with heap := s.heap.push { cls := .type "tuple", data := .seq #[.str x t, .str y u] } } → wpAny (model prog w) A (call (.builtin id) [.str x t, .str y u]) Q E s)
    (h : ∀ h' tk, (∀ c o, s.heap.get? c = some o → h'.get? c = some o) → Q (if p y x = true then .str y u else .str x t) { s with heap := h', toks := tk }) :
    wpAny (model prog w) A (call (.builtin id) [.str x t, .str y u]) Q E s := by
  have hT : (s.heap.push { cls := .type "tuple", data := .seq #[.str x t, .str y u] }).IsTuple s.heap.objs.size #[.str x t, .str y u] := ⟨_, Heap.get?_push_size _ rfl, rfl, 0, rfl⟩
  refine call2 (wpAny_pyIter_tuple hT ?_)
  have hsz : (s.heap.push { cls := .type "tuple", data := .seq #[.str x t, .str y u] }).objs.size = s.heap.objs.size + 1 := Heap.size_push ..
  refine ⟨_, [_, s.heap.objs.size], [_], _, _, _, _, rfl, Walks.tuple (A := A.in1) hh _ s.heap.objs.size (by rw [hsz]; exact Nat.ne_of_lt (Nat.lt_succ_self _)) #[.str x t, .str y u],
    ⟨⟨_, Heap.get?_push_size _ rfl, rfl, rfl⟩, hT.push _⟩, fun c hc => ?_, by simp, hcmp, fun v h' tk hP hk => ?_⟩
  · show c < ((s.heap.push _).push _).objs.size
    rw [Heap.size_push, hsz]
    simp only [List.mem_cons, List.not_mem_nil, or_false] at hc
    rcases hc with rfl | rfl
    · rw [hsz]
      exact Nat.lt_succ_self _
    · exact Nat.lt_succ_of_lt (Nat.lt_succ_self _)
  · have hold : ∀ c o, s.heap.get? c = some o → h'.get? c = some o := fun c o e => by
      refine hk c o (fun hm => ?_) (Heap.get?_push_of_some _ (Heap.get?_push_of_some _ e))
      have e1 : c = (s.heap.push { cls := .type "tuple", data := .seq #[.str x t, .str y u] }).objs.size := by simpa using hm
      have hlt := Heap.lt_size e
      rw [e1, hsz] at hlt
      exact Nat.lt_irrefl _ (Nat.lt_of_succ_lt hlt)
    have q := h h' tk hold
    have hb : argBest (fun i j => p (if i = 0 then x else y) (if j = 0 then x else y)) 1 = if p y x = true then 1 else 0 := by
      show (if p (if 0 + 1 = 0 then x else y) (if argBest _ 0 = 0 then x else y) = true then 0 + 1 else argBest _ 0) = _
      rfl
    have hP' : (#[Value.str x t, Value.str y u])[argBest (fun i j => p (if i = 0 then x else y) (if j = 0 then x else y)) 1]? = some v := hP
    rw [hb] at hP'
    have hv : v = if p y x = true then Value.str y u else Value.str x t := by
      by_cases hpy : p y x = true
      · rw [if_pos hpy] at hP' ⊢
        simpa using hP'.symm
      · rw [if_neg hpy] at hP' ⊢
        simpa using hP'.symm
    rw [hv]
    exact q
end
section
variable {X : Cx}
theorem call_maxS (hc : X.calm = true) : CallR X (.builtin "max") (fun xs H Q => ∃ i j, xs = [.str i, .str j] ∧ Q (.str (if decide (i.cps.toList < j.cps.toList) = true then j else i)) H) := by
  intro pins s σ H xs us Q I r h
  obtain ⟨i, j, rfl, q⟩ := h
  obtain ⟨u, w', rfl, ⟨t, rfl⟩, ⟨t', rfl⟩⟩ := vals2 r
  refine two_texts (op := .Gt) (p := fun x y => decide (y.cps.toList < x.cps.toList)) (I.ok.hd hc) (cmp_strs (fun x y t u Q E s h => rich_gt _ _ _ E Q s x y t u h) i j t t') call_max_two fun h' tk k => ⟨_, H, I.kept k, ?_, q⟩
  by_cases hj : decide (i.cps.toList < j.cps.toList) = true
  · rw [if_pos hj, if_pos hj]; exact ⟨_, rfl⟩
  · rw [if_neg hj, if_neg hj]; exact ⟨_, rfl⟩
theorem call_minS (hc : X.calm = true) : CallR X (.builtin "min") (fun xs H Q => ∃ i j, xs = [.str i, .str j] ∧ Q (.str (if decide (j.cps.toList < i.cps.toList) = true then j else i)) H) := by
  intro pins s σ H xs us Q I r h
  obtain ⟨i, j, rfl, q⟩ := h
  obtain ⟨u, w', rfl, ⟨t, rfl⟩, ⟨t', rfl⟩⟩ := vals2 r
  refine two_texts (op := .Lt) (p := fun x y => decide (x.cps.toList < y.cps.toList)) (I.ok.hd hc) (cmp_strs (fun x y t u Q E s h => rich_lt _ _ _ E Q s x y t u h) i j t t') call_min_two fun h' tk k => ⟨_, H, I.kept k, ?_, q⟩
  by_cases hj : decide (j.cps.toList < i.cps.toList) = true
  · rw [if_pos hj, if_pos hj]; exact ⟨_, rfl⟩
  · rw [if_neg hj, if_neg hj]; exact ⟨_, rfl⟩
/-- xs[i], by values, 0 ≤ i -/
def rGetL (K : PySem.W.Frag) : V → V → Hp → VK → Prop := fun o i H Q => ∃ p xs k v, o = .ref p ∧ i = .int ((k : Nat) : Int) ∧ SqL K H p xs ∧ xs.length ≤ 1000000 ∧ xs[k]? = some v ∧ Q v H
theorem get_list : PGet X (rGetL X.K) := by
  intro pins s σ H o i ov iv Q I ro ri h
  obtain ⟨p, xs, k, v, rfl, rfl, hq, hz, hv, q⟩ := h
  cases ro
  obtain ⟨t, rfl⟩ := ri
  obtain ⟨its, r, pl, _⟩ := I.list hq
  obtain ⟨u, hu, ru⟩ := r.get hv
  have hk := (List.getElem?_eq_some_iff.mp hv).1
  exact wpAny_getItem_list pl.isList (by omega) (by omega) (x := u) (by simpa using hu) ⟨v, H, I, ru, q⟩
end

/-! ### a def that asks for no guards -/
end QW

/-! The text by places, and what its top leaves. -/
namespace QT
open PySem PySem.Spec PyProof.Rows L2
def top (i : Nat) : Stmt := PySem.Challenge.pw_quotedback_k59_whole_first_list_that_par.main.body.getD i (.Pass ⟨0, 0, 0, 0⟩)
def N_is_sign1 : List Str := ["thing"]
def P_is_sign1 : List Str := ["thing"]
abbrev s_is_sign1 : Stmt := top 7
theorem sc_is_sign1 : FnScope N_is_sign1 P_is_sign1 (defScope s_is_sign1) := ⟨rfl, rfl, rfl, by decide +kernel, rfl, by decide +kernel, by decide +kernel⟩
def N_is_range : List Str := ["thing"]
def P_is_range : List Str := ["thing"]
abbrev s_is_range : Stmt := top 9
theorem sc_is_range : FnScope N_is_range P_is_range (defScope s_is_range) := ⟨rfl, rfl, rfl, by decide +kernel, rfl, by decide +kernel, by decide +kernel⟩
def N_is_entry : List Str := ["entry", "part"]
def P_is_entry : List Str := ["entry"]
abbrev s_is_entry : Stmt := top 10
theorem sc_is_entry : FnScope N_is_entry P_is_entry (defScope s_is_entry) := ⟨rfl, rfl, rfl, by decide +kernel, rfl, by decide +kernel, by decide +kernel⟩
def N_is_pattern : List Str := ["pattern", "entry"]
def P_is_pattern : List Str := ["pattern"]
abbrev s_is_pattern : Stmt := top 11
theorem sc_is_pattern : FnScope N_is_pattern P_is_pattern (defScope s_is_pattern) := ⟨rfl, rfl, rfl, by decide +kernel, rfl, by decide +kernel, by decide +kernel⟩
def N_takes : List Str := ["entry", "sign", "inside", "first", "last"]
def P_takes : List Str := ["entry", "sign"]
abbrev s_takes : Stmt := top 14
theorem sc_takes : FnScope N_takes P_takes (defScope s_takes) := ⟨rfl, rfl, rfl, by decide +kernel, rfl, by decide +kernel, by decide +kernel⟩
def N_start_reach : List Str := ["pattern", "reach", "entry"]
def P_start_reach : List Str := ["pattern"]
abbrev s_start_reach : Stmt := top 15
theorem sc_start_reach : FnScope N_start_reach P_start_reach (defScope s_start_reach) := ⟨rfl, rfl, rfl, by decide +kernel, rfl, by decide +kernel, by decide +kernel⟩
def N_advanced : List Str := ["pattern", "reach", "sign", "after", "place", "entry"]
def P_advanced : List Str := ["pattern", "reach", "sign"]
abbrev s_advanced : Stmt := top 16
theorem sc_advanced : FnScope N_advanced P_advanced (defScope s_advanced) := ⟨rfl, rfl, rfl, by decide +kernel, rfl, by decide +kernel, by decide +kernel⟩
def N_steps_of : List Str := ["row", "tests", "table", "steps", "entry", "pairs", "sign", "other"]
def P_steps_of : List Str := ["row", "tests"]
abbrev s_steps_of : Stmt := top 17
theorem sc_steps_of : FnScope N_steps_of P_steps_of (defScope s_steps_of) := ⟨rfl, rfl, rfl, by decide +kernel, rfl, by decide +kernel, by decide +kernel⟩
def N_sign_classes : List Str := ["tests", "marked", "found", "sign", "key", "pattern", "table", "entry"]
def P_sign_classes : List Str := ["tests", "marked"]
abbrev s_sign_classes : Stmt := top 18
theorem sc_sign_classes : FnScope N_sign_classes P_sign_classes (defScope s_sign_classes) := ⟨rfl, rfl, rfl, by decide +kernel, rfl, by decide +kernel, by decide +kernel⟩
def N_after_sign : List Str := ["tests", "state", "sign", "marked", "caches", "reaches", "place", "pattern", "table", "key"]
def P_after_sign : List Str := ["tests", "state", "sign", "marked", "caches"]
abbrev s_after_sign : Stmt := top 19
theorem sc_after_sign : FnScope N_after_sign P_after_sign (defScope s_after_sign) := ⟨rfl, rfl, rfl, by decide +kernel, rfl, by decide +kernel, by decide +kernel⟩
def N_start_state : List Str := ["tests", "pattern", "table"]
def P_start_state : List Str := ["tests"]
abbrev s_start_state : Stmt := top 20
theorem sc_start_state : FnScope N_start_state P_start_state (defScope s_start_state) := ⟨rfl, rfl, rfl, by decide +kernel, rfl, by decide +kernel, by decide +kernel⟩
def N_line_classes : List Str := ["tests", "marked", "signs", "caches", "start", "seen", "found", "layer", "following", "state", "line", "sign", "after", "test", "reach"]
def P_line_classes : List Str := ["tests", "marked"]
abbrev s_line_classes : Stmt := top 21
theorem sc_line_classes : FnScope N_line_classes P_line_classes (defScope s_line_classes) := ⟨rfl, rfl, rfl, by decide +kernel, rfl, by decide +kernel, by decide +kernel⟩
def N_numbers_of : List Str := ["steps", "kind", "number", "truth"]
def P_numbers_of : List Str := ["steps"]
abbrev s_numbers_of : Stmt := top 22
theorem sc_numbers_of : FnScope N_numbers_of P_numbers_of (defScope s_numbers_of) := ⟨rfl, rfl, rfl, by decide +kernel, rfl, by decide +kernel, by decide +kernel⟩
def N_put_through : List Str := ["steps", "truths", "left", "rest", "place", "kind", "number", "truth"]
def P_put_through : List Str := ["steps", "truths", "left"]
abbrev s_put_through : Stmt := top 23
theorem sc_put_through : FnScope N_put_through P_put_through (defScope s_put_through) := ⟨rfl, rfl, rfl, by decide +kernel, rfl, by decide +kernel, by decide +kernel⟩
def N_parting_lines : List Str := ["one", "other", "tests", "one_steps", "one_table", "other_steps", "other_table", "marked", "classes", "start", "seen", "layer", "following", "state", "lines", "truths", "line", "written", "one_left", "other_written", "other_left", "after", "sign"]
def P_parting_lines : List Str := ["one", "other"]
abbrev s_parting_lines : Stmt := top 24
theorem sc_parting_lines : FnScope N_parting_lines P_parting_lines (defScope s_parting_lines) := ⟨rfl, rfl, rfl, by decide +kernel, rfl, by decide +kernel, by decide +kernel⟩
def N_is_sign2 : List Str := ["text"]
def P_is_sign2 : List Str := ["text"]
abbrev s_is_sign2 : Stmt := top 28
theorem sc_is_sign2 : FnScope N_is_sign2 P_is_sign2 (defScope s_is_sign2) := ⟨rfl, rfl, rfl, by decide +kernel, rfl, by decide +kernel, by decide +kernel⟩
def N_is_pairs : List Str := ["pairs", "firsts", "pair"]
def P_is_pairs : List Str := ["pairs"]
abbrev s_is_pairs : Stmt := top 30
theorem sc_is_pairs : FnScope N_is_pairs P_is_pairs (defScope s_is_pairs) := ⟨rfl, rfl, rfl, by decide +kernel, rfl, by decide +kernel, by decide +kernel⟩
def N_is_filter : List Str := ["entry"]
def P_is_filter : List Str := ["entry"]
abbrev s_is_filter : Stmt := top 31
theorem sc_is_filter : FnScope N_is_filter P_is_filter (defScope s_is_filter) := ⟨rfl, rfl, rfl, by decide +kernel, rfl, by decide +kernel, by decide +kernel⟩
def N_is_row : List Str := ["row", "entry"]
def P_is_row : List Str := ["row"]
abbrev s_is_row : Stmt := top 32
theorem sc_is_row : FnScope N_is_row P_is_row (defScope s_is_row) := ⟨rfl, rfl, rfl, by decide +kernel, rfl, by decide +kernel, by decide +kernel⟩
def N_check_compared : List Str := ["row", "entry"]
def P_check_compared : List Str := ["row"]
abbrev s_check_compared : Stmt := top 33
theorem sc_check_compared : FnScope N_check_compared P_check_compared (defScope s_check_compared) := ⟨rfl, rfl, rfl, by decide +kernel, rfl, by decide +kernel, by decide +kernel⟩
def N_first_parted : List Str := ["one", "other"]
def P_first_parted : List Str := ["one", "other"]
abbrev s_first_parted : Stmt := top 34
theorem sc_first_parted : FnScope N_first_parted P_first_parted (defScope s_first_parted) := ⟨rfl, rfl, rfl, by decide +kernel, rfl, by decide +kernel, by decide +kernel⟩
def N_alike : List Str := ["one", "other"]
def P_alike : List Str := ["one", "other"]
abbrev s_alike : Stmt := top 35
theorem sc_alike : FnScope N_alike P_alike (defScope s_alike) := ⟨rfl, rfl, rfl, by decide +kernel, rfl, by decide +kernel, by decide +kernel⟩
def N_law_signs : List Str := ["_law_signs_here"]
def P_law_signs : List Str := []
abbrev s_law_signs : Stmt := top 37
theorem sc_law_signs : FnScope N_law_signs P_law_signs (defScope s_law_signs) := ⟨rfl, rfl, rfl, by decide +kernel, rfl, by decide +kernel, by decide +kernel⟩
def N_law_cell : List Str := ["_law_script", "_law_k"]
def P_law_cell : List Str := ["_law_script", "_law_k"]
abbrev s_law_cell : Stmt := top 38
theorem sc_law_cell : FnScope N_law_cell P_law_cell (defScope s_law_cell) := ⟨rfl, rfl, rfl, by decide +kernel, rfl, by decide +kernel, by decide +kernel⟩
def N_law_hand : List Str := ["_law_cell_here"]
def P_law_hand : List Str := ["_law_cell_here"]
abbrev s_law_hand : Stmt := top 39
theorem sc_law_hand : FnScope N_law_hand P_law_hand (defScope s_law_hand) := ⟨rfl, rfl, rfl, by decide +kernel, rfl, by decide +kernel, by decide +kernel⟩
def N_law_take : List Str := ["_law_hand_here", "_law_many", "_law_found", "_law_k", "_law_mixed"]
def P_law_take : List Str := ["_law_hand_here", "_law_many"]
abbrev s_law_take : Stmt := top 40
theorem sc_law_take : FnScope N_law_take P_law_take (defScope s_law_take) := ⟨rfl, rfl, rfl, by decide +kernel, rfl, by decide +kernel, by decide +kernel⟩
def N_law_letters : List Str := ["_law_hand_here", "_law_start", "_law_step", "_law_k"]
def P_law_letters : List Str := ["_law_hand_here"]
abbrev s_law_letters : Stmt := top 41
theorem sc_law_letters : FnScope N_law_letters P_law_letters (defScope s_law_letters) := ⟨rfl, rfl, rfl, by decide +kernel, rfl, by decide +kernel, by decide +kernel⟩
def N_law_sign : List Str := ["_law_hand_here", "_law_letters_here", "_law_k"]
def P_law_sign : List Str := ["_law_hand_here", "_law_letters_here"]
abbrev s_law_sign : Stmt := top 42
theorem sc_law_sign : FnScope N_law_sign P_law_sign (defScope s_law_sign) := ⟨rfl, rfl, rfl, by decide +kernel, rfl, by decide +kernel, by decide +kernel⟩
def N_law_range : List Str := ["_law_hand_here", "_law_letters_here", "_law_one", "_law_other"]
def P_law_range : List Str := ["_law_hand_here", "_law_letters_here"]
abbrev s_law_range : Stmt := top 43
theorem sc_law_range : FnScope N_law_range P_law_range (defScope s_law_range) := ⟨rfl, rfl, rfl, by decide +kernel, rfl, by decide +kernel, by decide +kernel⟩
def N_law_entry : List Str := ["_law_hand_here", "_law_letters_here", "_law_kind", "_law_many", "_law_k"]
def P_law_entry : List Str := ["_law_hand_here", "_law_letters_here"]
abbrev s_law_entry : Stmt := top 44
theorem sc_law_entry : FnScope N_law_entry P_law_entry (defScope s_law_entry) := ⟨rfl, rfl, rfl, by decide +kernel, rfl, by decide +kernel, by decide +kernel⟩
def N_law_pattern : List Str := ["_law_hand_here", "_law_letters_here", "_law_most", "_law_many", "_law_k"]
def P_law_pattern : List Str := ["_law_hand_here", "_law_letters_here", "_law_most"]
abbrev s_law_pattern : Stmt := top 45
theorem sc_law_pattern : FnScope N_law_pattern P_law_pattern (defScope s_law_pattern) := ⟨rfl, rfl, rfl, by decide +kernel, rfl, by decide +kernel, by decide +kernel⟩
def N_law_pairs : List Str := ["_law_hand_here", "_law_letters_here", "_law_pairs_here", "_law_many", "_law_wide", "_law_start", "_law_k", "_law_sign_here", "_law_pair"]
def P_law_pairs : List Str := ["_law_hand_here", "_law_letters_here"]
abbrev s_law_pairs : Stmt := top 46
theorem sc_law_pairs : FnScope N_law_pairs P_law_pairs (defScope s_law_pairs) := ⟨rfl, rfl, rfl, by decide +kernel, rfl, by decide +kernel, by decide +kernel⟩
def N_law_fits : List Str := ["_law_entry_here", "_law_sign_here", "_law_part"]
def P_law_fits : List Str := ["_law_entry_here", "_law_sign_here"]
abbrev s_law_fits : Stmt := top 47
theorem sc_law_fits : FnScope N_law_fits P_law_fits (defScope s_law_fits) := ⟨rfl, rfl, rfl, by decide +kernel, rfl, by decide +kernel, by decide +kernel⟩
def N_law_meets : List Str := ["_law_pattern_here", "_law_text", "_law_size", "_law_places", "_law_k", "_law_reached", "_law_place"]
def P_law_meets : List Str := ["_law_pattern_here", "_law_text"]
abbrev s_law_meets : Stmt := top 48
theorem sc_law_meets : FnScope N_law_meets P_law_meets (defScope s_law_meets) := ⟨rfl, rfl, rfl, by decide +kernel, rfl, by decide +kernel, by decide +kernel⟩
def N_law_swapped : List Str := ["_law_line_here", "_law_pairs_here", "_law_found", "_law_sign_here", "_law_others", "_law_pair"]
def P_law_swapped : List Str := ["_law_line_here", "_law_pairs_here"]
abbrev s_law_swapped : Stmt := top 49
theorem sc_law_swapped : FnScope N_law_swapped P_law_swapped (defScope s_law_swapped) := ⟨rfl, rfl, rfl, by decide +kernel, rfl, by decide +kernel, by decide +kernel⟩
def N_law_passed : List Str := ["_law_entry_here", "_law_lines_here", "_law_kind", "_law_found", "_law_k", "_law_line_here"]
def P_law_passed : List Str := ["_law_entry_here", "_law_lines_here"]
abbrev s_law_passed : Stmt := top 50
theorem sc_law_passed : FnScope N_law_passed P_law_passed (defScope s_law_passed) := ⟨rfl, rfl, rfl, by decide +kernel, rfl, by decide +kernel, by decide +kernel⟩
def N_law_written : List Str := ["_law_row_here", "_law_lines_here", "_law_entry_here"]
def P_law_written : List Str := ["_law_row_here", "_law_lines_here"]
abbrev s_law_written : Stmt := top 51
theorem sc_law_written : FnScope N_law_written P_law_written (defScope s_law_written) := ⟨rfl, rfl, rfl, by decide +kernel, rfl, by decide +kernel, by decide +kernel⟩
def N_law_line : List Str := ["_law_hand_here", "_law_letters_here", "_law_many", "_law_k"]
def P_law_line : List Str := ["_law_hand_here", "_law_letters_here"]
abbrev s_law_line : Stmt := top 52
theorem sc_law_line : FnScope N_law_line P_law_line (defScope s_law_line) := ⟨rfl, rfl, rfl, by decide +kernel, rfl, by decide +kernel, by decide +kernel⟩
def N_law_lines : List Str := ["_law_script", "_law_start", "_law_most", "_law_letters_here", "_law_lines_here", "_law_hand_here", "_law_k", "_law_cell_here"]
def P_law_lines : List Str := ["_law_script", "_law_start", "_law_most", "_law_letters_here"]
abbrev s_law_lines : Stmt := top 53
theorem sc_law_lines : FnScope N_law_lines P_law_lines (defScope s_law_lines) := ⟨rfl, rfl, rfl, by decide +kernel, rfl, by decide +kernel, by decide +kernel⟩
def N_law_filter : List Str := ["_law_hand_here", "_law_letters_here", "_law_budget", "_law_kind", "_law_pattern_here"]
def P_law_filter : List Str := ["_law_hand_here", "_law_letters_here", "_law_budget"]
abbrev s_law_filter : Stmt := top 54
theorem sc_law_filter : FnScope N_law_filter P_law_filter (defScope s_law_filter) := ⟨rfl, rfl, rfl, by decide +kernel, rfl, by decide +kernel, by decide +kernel⟩
def N_law_row : List Str := ["_law_hand_here", "_law_letters_here", "_law_most", "_law_tuples", "_law_budget", "_law_k"]
def P_law_row : List Str := ["_law_hand_here", "_law_letters_here", "_law_most", "_law_tuples"]
abbrev s_law_row : Stmt := top 55
theorem sc_law_row : FnScope N_law_row P_law_row (defScope s_law_row) := ⟨rfl, rfl, rfl, by decide +kernel, rfl, by decide +kernel, by decide +kernel⟩
def N_law_pool : List Str := ["_law_hand_here", "_law_letters_here", "_law_singles", "_law_pool_here", "_law_sign_here", "_law_j"]
def P_law_pool : List Str := ["_law_hand_here", "_law_letters_here"]
abbrev s_law_pool : Stmt := top 56
theorem sc_law_pool : FnScope N_law_pool P_law_pool (defScope s_law_pool) := ⟨rfl, rfl, rfl, by decide +kernel, rfl, by decide +kernel, by decide +kernel⟩
def N_law_rank : List Str := ["_law_lines_here", "_law_line_here"]
def P_law_rank : List Str := ["_law_lines_here"]
abbrev s_law_rank : Stmt := top 57
theorem sc_law_rank : FnScope N_law_rank P_law_rank (defScope s_law_rank) := ⟨rfl, rfl, rfl, by decide +kernel, rfl, by decide +kernel, by decide +kernel⟩
def N_law_changed : List Str := ["_law_hand_here", "_law_letters_here", "_law_row_here", "_law_kind", "_law_budget", "_law_place"]
def P_law_changed : List Str := ["_law_hand_here", "_law_letters_here", "_law_row_here"]
abbrev s_law_changed : Stmt := top 58
theorem sc_law_changed : FnScope N_law_changed P_law_changed (defScope s_law_changed) := ⟨rfl, rfl, rfl, by decide +kernel, rfl, by decide +kernel, by decide +kernel⟩
def N_law_parts : List Str := ["_law_one", "_law_other", "_law_lines_here"]
def P_law_parts : List Str := ["_law_one", "_law_other", "_law_lines_here"]
abbrev s_law_parts : Stmt := top 59
theorem sc_law_parts : FnScope N_law_parts P_law_parts (defScope s_law_parts) := ⟨rfl, rfl, rfl, by decide +kernel, rfl, by decide +kernel, by decide +kernel⟩
def N_law_is_list : List Str := ["_law_told", "_law_line_here"]
def P_law_is_list : List Str := ["_law_told"]
abbrev s_law_is_list : Stmt := top 60
theorem sc_law_is_list : FnScope N_law_is_list P_law_is_list (defScope s_law_is_list) := ⟨rfl, rfl, rfl, by decide +kernel, rfl, by decide +kernel, by decide +kernel⟩
def N_law : List Str := ["_law_script", "_law_hand_here", "_law_letters_here", "_law_one", "_law_other", "_law_before", "_law_told", "_law_same", "_law_pool_here", "_law_lists", "_law_j", "_law_line_here", "_law_ahead", "_law_lines_here"]
def P_law : List Str := ["_law_script"]
abbrev s_law : Stmt := top 61
theorem sc_law : FnScope N_law P_law (defScope s_law) := ⟨rfl, rfl, rfl, by decide +kernel, rfl, by decide +kernel, by decide +kernel⟩
def marksT : Str := "\n !\"#$&'()*+,-./0123456789:;<=>?@ABCDEFGHIJKLMNOPQRSTUVWXYZ[\\]^_`abcdefghijklmnopqrstuvwxyz{|}~"
def lineT : Str := " !\"#$&'()*+,-./0123456789:;<=>?@ABCDEFGHIJKLMNOPQRSTUVWXYZ[\\]^_`abcdefghijklmnopqrstuvwxyz{|}~"
def plainV : List V := [.str "order", .str "once", .str "count", .str "number"]
def comparedV : List V := [.str "keep", .str "drop", .str "swap", .str "first"]
/-- the module's own names -/
structure Bi (K : PySem.W.Frag) (mg : Str → Option Value) where
  SIGNS_marks : Σ' t : Tok, mg "SIGNS_marks" = some (.str marksT t)
  SIGNS_linetests : Σ' t : Tok, mg "SIGNS_linetests" = some (.str lineT t)
  PLAIN : Σ' a : Addr, mg "PLAIN" = some (.ref a) ∧ ∀ H, SqT K H a plainV
  COMPARED : Σ' a : Addr, mg "COMPARED" = some (.ref a) ∧ ∀ H, SqT K H a comparedV
  len_ : mg "len" = none
  isinstance_ : mg "isinstance" = none
  int_ : mg "int" = none
  str_ : mg "str" = none
  list_ : mg "list" = none
  tuple_ : mg "tuple" = none
  bool_ : mg "bool" = none
  any_ : mg "any" = none
  all_ : mg "all" = none
  range_ : mg "range" = none
  enumerate_ : mg "enumerate" = none
  min_ : mg "min" = none
  max_ : mg "max" = none
  sorted_ : mg "sorted" = none
  repr_ : mg "repr" = none
/-- a def that is called -/
structure Callee (P : Program) (w : World) (K : PySem.W.Frag) (mg : Str → Option Value) (base : Heap) (k : Nat) (x : Str) (ps : List Str) (sp : Sp) where
  f : Addr
  fd : FuncData
  ok : FnOk P w K mg base CX0 k f fd ps sp
  m : mg x = some (.ref f)
  kp : PySem.W.keepIn K (.ref f) = true
  b : Binds K fd ps []
end QT

/-! The rules again, what they read named apart from the context (a comprehension's context is another). -/
namespace QU
open PySem PySem.Spec PyProof.Rows L2
section
variable {X : Cx} {K : PySem.W.Frag} {P : Program} {w : World}
theorem ixL (h : X.K = K) : IxR X (rIxL K) := h ▸ ix_list
theorem ixT (h : X.K = K) : IxR X (rIxT K) := h ▸ ix_tup
theorem opIn (h : X.K = K) : OpR X (compareOp .In) (rIn K false) := h ▸ op_in_seq
theorem opNin (h : X.K = K) : OpR X (compareOp .NotIn) (rIn K true) := h ▸ op_notIn_seq
def rLenS (K : PySem.W.Frag) : List V → Hp → VK → Prop := fun xs H Q => ∃ p ys, xs = [.ref p] ∧ (SqL K H p ys ∨ SqT K H p ys) ∧ Q (.int ys.length) H
def rLstOf (K : PySem.W.Frag) : List V → Hp → VK → Prop := fun xs H Q => ∃ p ys, xs = [.ref p] ∧ (SqL K H p ys ∨ SqT K H p ys) ∧ ∀ l, H l = none → Q (.ref l) (upd H l (.lst ys))
def rTupOf (K : PySem.W.Frag) : List V → Hp → VK → Prop := fun xs H Q => ∃ p ys, xs = [.ref p] ∧ ((SqL K H p ys ∧ ∀ l, H l = none → Q (.ref l) (upd H l (.tup ys))) ∨ (SqT K H p ys ∧ Q (.ref p) H))
def rJoin (K : PySem.W.Frag) : V → List V → Hp → VK → Prop := fun x xs H Q => ∃ a p, ∃ ys : List Str, x = .str a ∧ xs = [.ref p] ∧ (SqL K H p (ys.map V.str) ∨ SqT K H p (ys.map V.str)) ∧
      (ys.map (·.length)).sum + ys.length * a.length ≤ 16777216 ∧ Q (.str (Txt.join a ys)) H
theorem lenS (h : X.K = K) : CallR X (.builtin "len") (rLenS K) := h ▸ call_len_seq
theorem lstOf (h : X.K = K) : CallR X (.type "list") (rLstOf K) := h ▸ call_list_of
theorem tupOf (h : X.K = K) : CallR X (.type "tuple") (rTupOf K) := h ▸ call_tuple_of
theorem anyR (h : X.K = K) (hc : X.calm = true) : CallR X (.builtin "any") (rAny K) := h ▸ cr_any hc
theorem allR (h : X.K = K) (hc : X.calm = true) : CallR X (.builtin "all") (rAll K) := h ▸ cr_all hc
theorem eqD (h : X.K = K) (hu : X.A.units + 64 < cLine) : OpR X (compareOp .Eq) (rEqD K) := h ▸ op_eqD hu
theorem neD (h : X.K = K) (hu : X.A.units + 64 < cLine) : OpR X (compareOp .NotEq) (rNeD K) := h ▸ op_neD hu
theorem ltD (h : X.K = K) (hu : X.A.units + 64 < cLine) : OpR X (compareOp .Lt) (QW.rLtD K) := h ▸ QW.op_ltD hu
theorem isiR (h : X.K = K) : CallR X (.builtin "isinstance") (rIsi K) := h ▸ call_isi
theorem srtS (h : X.K = K) : CallR X (.builtin "sorted") (rSortedS K) := h ▸ cr_sortedS
theorem slL (h : X.K = K) : SlR X (rSlL K) := h ▸ sl_list
theorem piL {tg l : Expr} {tl : TE} (h : X.K = K) (hl : PE X l tl) : PI X tg l (iList K tl) := h ▸ pi_list hl
theorem piT {tg l : Expr} {tl : TE} (h : X.K = K) (hl : PE X l tl) : PI X tg l (iTup K tl) := h ▸ pi_tup hl
theorem pgT {es : List Expr} {k : Nat} {t : TGs} {n : Nat} {pos : Pos} (hK : X.K = K) (hc : X.calm = true) (h : PGs X es t) (hn : (assignEach es X.env).length = n := by rfl) (hst : (assignEach es X.env).findIdx? (·.1) = none := by rfl) : PG X (.Tuple es k pos) (gTup K n t) := hK ▸ pg_tup hc h hn hst
theorem piE {e : Expr} {ta : TA} {p pos tpos : Pos} {elts : List Expr} {kk : Nat} (h : X.K = K) (hg : Gl X "enumerate") (hm : X.mg "enumerate" = none) (ha : PA X [e] ta) (hs : starEach [e] X.env = [(false, eval e X.env)] := by rfl) :
    PI X (.Tuple elts kk tpos) (.Call (.Name "enumerate" p) [e] [] pos) (iEnum K ta) := h ▸ pi_enum hg hm ha hs
theorem joinR {o e : Expr} {to te : TE} {apos pos : Pos} (h : X.K = K) (ho : PE X o to) (he : PE X e te) (hs : starEach [e] X.env = [(false, eval e X.env)] := by rfl) (hbase : attributeBase o "join" X.env (eval o X.env) = eval o X.env := by rfl) (hline : (apos.endLine == pos.line) = true := by rfl) :
    PE X (.Call (.Attribute o "join" apos) [e] [] pos) (tM1 (rJoin K) to te) := h ▸ pe_join ho he hs hbase hline
theorem nnew {pos : Pos} (hP : X.prog = P) (hw : X.w = w) : PE X (.Dict [] [] pos) (QN.tNNew P w) := hP ▸ hw ▸ QN.pe_nnew
end
end QU

/-! Statements, walks and comprehensions over views. -/
namespace QX
open PySem L2 Evl QV
abbrev Hf : Type := Hp → Hp → Prop

/-! ### values in view -/
def allP (n : Nat) (B : Nat → Pd V) : Pd (List V) := ⟨fun G xs => xs.length = n ∧ ∀ (i : Nat) x, xs[i]? = some x → (B i).p G x, fun e ⟨a, h⟩ => ⟨a, fun i x q => (B i).mono e (h i x q)⟩⟩
def itD (K : PySem.W.Frag) (ds : List PyData) (i : Nat) : Pd V := some_ fun d => both_ (ds[i]? = some d) (dat K d)
theorem all_dats {K : PySem.W.Frag} {ds : List PyData} {G : Hp} {xs : List V} (h : DpAll K G xs ds) : (allP ds.length (itD K ds)).p G xs := ⟨da_len h, fun i x q => da_get h q⟩
theorem dats_all {K : PySem.W.Frag} {ds : List PyData} {G : Hp} {xs : List V} (h : (allP ds.length (itD K ds)).p G xs) : DpAll K G xs ds := da_of h.1 fun i v d q e => by
  obtain ⟨d', e', h'⟩ := h.2 i v q
  rw [e] at e'
  cases e'
  exact h'
section
variable {K : PySem.W.Frag} {M : List Addr} {S S1 : Hf} {G : Hp} {f : Hp → VK → Prop}
theorem z_lst {ds : List PyData} (h : Ez M S S1 f G (dat K (.list ds))) : Ez M S S1 f G (lstP K (allP ds.length (itD K ds))) := h.to fun _ _ _ c => by
  obtain ⟨a, xs, rfl, h1, h2⟩ := dp_list c
  exact ⟨a, xs, rfl, h1, all_dats h2⟩
theorem z_tpl {ds : List PyData} (h : Ez M S S1 f G (dat K (.tuple ds))) : Ez M S S1 f G (tupP K (allP ds.length (itD K ds))) := h.to fun _ _ _ c => by
  obtain ⟨a, xs, rfl, h1, h2⟩ := dp_tup c
  exact ⟨a, xs, rfl, h1, all_dats h2⟩
theorem p_lst {ds : List PyData} {v : V} (c : Dp K G v (.list ds)) : (lstP K (allP ds.length (itD K ds))).p G v := by
  obtain ⟨a, xs, rfl, h1, h2⟩ := dp_list c
  exact ⟨a, xs, rfl, h1, all_dats h2⟩
theorem p_tpl {ds : List PyData} {v : V} (c : Dp K G v (.tuple ds)) : (tupP K (allP ds.length (itD K ds))).p G v := by
  obtain ⟨a, xs, rfl, h1, h2⟩ := dp_tup c
  exact ⟨a, xs, rfl, h1, all_dats h2⟩
end
/-- bools -/
theorem da_bools {K : PySem.W.Frag} {G : Hp} : ∀ {bs : List Bool} {xs : List V}, DpAll K G xs (bs.map .bool) → xs = bs.map V.bl
  | [], _, h => by cases h; rfl
  | b :: bs, _, h => by
    cases h with
    | cons h1 h2 =>
      rw [da_bools h2, dp_bool h1]
      rfl
theorem da_strs {K : PySem.W.Frag} {G : Hp} : ∀ {bs : List Str} {xs : List V}, DpAll K G xs (bs.map .str) → xs = bs.map V.str
  | [], _, h => by cases h; rfl
  | b :: bs, _, h => by
    cases h with
    | cons h1 h2 =>
      rw [da_strs h2, dp_str h1]
      rfl
theorem da_ints {K : PySem.W.Frag} {G : Hp} : ∀ {bs : List Int} {xs : List V}, DpAll K G xs (bs.map .int) → xs = bs.map V.int
  | [], _, h => by cases h; rfl
  | b :: bs, _, h => by
    cases h with
    | cons h1 h2 =>
      rw [da_ints h2, dp_int h1]
      rfl
theorem bools_da {K : PySem.W.Frag} {G : Hp} (bs : List Bool) : DpAll K G (bs.map V.bl) (bs.map .bool) := da_map _ _ _ fun b _ => Dp.bl b
theorem strs_da {K : PySem.W.Frag} {G : Hp} (bs : List Str) : DpAll K G (bs.map V.str) (bs.map .str) := da_map _ _ _ fun b _ => Dp.str b
theorem ints_da {K : PySem.W.Frag} {G : Hp} (bs : List Int) : DpAll K G (bs.map V.int) (bs.map .int) := da_map _ _ _ fun b _ => Dp.int b

/-! ### a local list -/
structure Lc (H0 G H : Hp) (l : Addr) (xs : List V) : Prop where
  new : H0 l = none
  out : G l = none
  val : H l = some (.lst xs)
theorem Lc.nv {H0 G H G2 H2 : Hp} {l : Addr} {xs : List V} {M : List Addr} (a : Lc H0 G H l xs) (n : Nv M G H G2 H2) (hl : l ∉ M := by simp) : Lc H0 G2 H2 l xs :=
  ⟨a.new, (n.loc hl a.out a.val).1, (n.loc hl a.out a.val).2⟩
theorem Lc.ne {H0 G H : Hp} {l l2 : Addr} {xs : List V} (a : Lc H0 G H l xs) (h : H l2 = none) : l ≠ l2 := fun e => by
  have := a.val
  rw [e, h] at this
  cases this
theorem Lc.close {M : List Addr} {G0 H0 G H : Hp} {l : Addr} {xs : List V} (a : Lc H0 G H l xs) (n : Nv M G0 H0 G H) : Nv M G0 H0 (upd G l (.lst xs)) H := n.add a.new a.val a.out
theorem Lc.ex {H0 G H : Hp} {l : Addr} {xs : List V} (a : Lc H0 G H l xs) (e : Ex G H) : Ex (upd G l (.lst xs)) H := fun x o h => by
  by_cases hx : x = l
  · subst hx
    rw [upd_same] at h
    cases h
    exact a.val
  · rw [upd_ne hx] at h
    exact e x o h
theorem Lc.gg {H0 G H : Hp} {l : Addr} {xs : List V} (a : Lc H0 G H l xs) : Ex G (upd G l (.lst xs)) := Ex.new a.out
theorem Lc.sq {K : PySem.W.Frag} {H0 G H : Hp} {l : Addr} {xs : List V} (a : Lc H0 G H l xs) : SqL K (upd G l (.lst xs)) l xs := SqL.of upd_same
theorem Lc.dat {K : PySem.W.Frag} {H0 G H : Hp} {l : Addr} {xs : List V} {ds : List PyData} (a : Lc H0 G H l xs) (h : DpAll K G xs ds) : Dp K (upd G l (.lst xs)) (.ref l) (.list ds) := Dp.lst a.sq (QN.dp_monos a.gg _ _ h)
theorem Lc.is {H0 G H : Hp} {l : Addr} {xs ys : List V} (a : Lc H0 G H l xs) (e : xs = ys) : Lc H0 G H l ys := e ▸ a
/-- another local stays, one closed -/
theorem Lc.also {H0 G H : Hp} {l l2 : Addr} {xs ys : List V} (a : Lc H0 G H l xs) (h : l ≠ l2) : Lc H0 (upd G l2 (.lst ys)) H l xs := ⟨a.new, by rw [upd_ne h]; exact a.out, a.val⟩

/-! ### running a reading -/
section
variable {α : Type} {M M0 : List Addr} {S S1 : Hf} {G0 H0 G H : Hp} {C : Pd α} {f : Hp → (α → Hp → Prop) → Prop} {Q : α → Hp → Prop}
abbrev Sub (M M0 : List Addr) (H0 : Hp) : Prop := ∀ x ∈ M, x ∈ M0 ∨ H0 x = none
theorem sub0 : Sub [] M0 H0 := fun _ z => nomatch z
theorem subM : Sub M M H0 := fun _ z => .inl z
theorem Ez.run (h : Ez M S S1 f G C) (n : Nv M0 G0 H0 G H) (hM : Sub M M0 H0) (a : At M G H) (s : S G H)
    (k : ∀ v G2 H2, Nv M G H G2 H2 → Nv M0 G0 H0 G2 H2 → At M G2 H2 → S1 G2 H2 → C.p G2 v → Q v H2) : f H Q :=
  h G H (Ex.refl G) a s Q fun v G2 H2 n2 s2 c => k v G2 H2 n2 (n.step n2 hM) (a.nv n2) s2 c
theorem Pz.run (h : Pz f G C) (n : Nv M0 G0 H0 G H) (k : ∀ v G2 H2, Nv [] G H G2 H2 → Nv M0 G0 H0 G2 H2 → C.p G2 v → Q v H2) : f H Q :=
  h G H (Ex.refl G) (At.pure n.gh) True.intro Q fun v G2 H2 n2 _ c => k v G2 H2 n2 (n.step n2 sub0) c
theorem Lz.run {f : Hp → VK → Prop} {B : Pd (List V)} {Q : VK} (h : Lz (M := M) S S1 f G B) (n : Nv M0 G0 H0 G H) (hM : Sub M M0 H0) (a : At M G H) (s : S G H)
    (k : ∀ l xs G2 H2, Nv M G H G2 H2 → Nv M0 G0 H0 G2 H2 → At M G2 H2 → S1 G2 H2 → H l = none → Lc H0 G2 H2 l xs → B.p G2 xs → Q (.ref l) H2) : f H Q :=
  h G H (Ex.refl G) a s Q fun l xs G2 H2 n2 hn gn hv s2 b => k l xs G2 H2 n2 (n.step n2 hM) (a.nv n2) s2 hn ⟨n.new hn, gn, hv⟩ b
/-- a reading that sees a local list, giving what does not hang on it -/
theorem Pz.peek {l : Addr} {xs : List V} {x : α} (h : Pz f (upd G l (.lst xs)) (is x)) : Ez [] (fun _ H => H l = some (.lst xs)) (fun _ H => H l = some (.lst xs)) f G (is x) := fun G1 H e a s Q q => by
  by_cases gl : G1 l = none
  · have e1 : Ex (upd G1 l (.lst xs)) H := fun y o hy => by
      by_cases hx : y = l
      · subst hx
        rw [upd_same] at hy
        cases hy
        exact s
      · rw [upd_ne hx] at hy
        exact a.ex y o hy
    have e2 : Ex (upd G l (.lst xs)) (upd G1 l (.lst xs)) := fun y o hy => by
      by_cases hx : y = l
      · subst hx
        rw [upd_same] at hy ⊢
        exact hy
      · rw [upd_ne hx] at hy ⊢
        exact e y o hy
    refine h _ H e2 (At.pure e1) True.intro Q fun v G2 H2 n _ c => ?_
    have c' : v = x := c
    refine q v (fun y => if y = l then none else G2 y) H2 ⟨n.hh, n.th, fun y o hy => ?_, fun y o hy => ?_, fun y h1 h2 => ?_⟩ (n.ex l _ s) c'
    · have hyl : y ≠ l := fun z => by rw [z, gl] at hy; cases hy
      show (if y = l then none else G2 y) = some o
      rw [if_neg hyl]
      exact n.gg y o (by rw [upd_ne hyl]; exact hy)
    · by_cases hyl : y = l
      · subst hyl
        simp at hy
      · have hy' : (if y = l then none else G2 y) = some o := hy
        rw [if_neg hyl] at hy'
        exact n.gh y o hy'
    · show (if y = l then none else G2 y) = none
      by_cases hyl : y = l
      · rw [if_pos hyl]
      · rw [if_neg hyl]
        exact n.av y (by rw [upd_ne hyl]; exact h1) h2
  · cases e3 : G1 l with
    | none => exact absurd e3 gl
    | some o =>
      have e4 := a.ex l o e3
      rw [s] at e4
      cases e4
      have e2 : Ex (upd G l (.lst xs)) G1 := fun y o hy => by
        by_cases hx : y = l
        · subst hx
          rw [upd_same] at hy
          cases hy
          exact e3
        · rw [upd_ne hx] at hy
          exact e y o hy
      exact h G1 H e2 (At.pure a.ex) True.intro Q fun v G2 H2 n _ c => q v G2 H2 n (n.ex l _ s) c
theorem Pz.runPeek {l : Addr} {xs : List V} {x : α} (h : Pz f (upd G l (.lst xs)) (is x)) (lc : Lc H0 G H l xs) (n : Nv M0 G0 H0 G H)
    (k : ∀ G2 H2, Nv [] G H G2 H2 → Nv M0 G0 H0 G2 H2 → Q x H2) : f H Q :=
  Ez.run (Pz.peek h) n sub0 (At.pure n.gh) lc.val fun v G2 H2 n2 n3 _ _ c => by
    have c' : v = x := c
    rw [c']
    exact k G2 H2 n2 n3
end

/-! ### statements -/
section
variable {K : PySem.W.Frag} {M M0 : List Addr} {S S1 : Hf} {G0 H0 G H : Hp} {C : Pd V} {D : Ends} {σ : L2.St} {te : TE} {t : TT} {tu tw : TS}
theorem s_seq (h : tu { D with nx := tw D } σ H) : tSeq tu tw D σ H := h
theorem s_asg {i : Nat} (h : Pz (te σ) G C) (n : Nv M0 G0 H0 G H) (k : ∀ v G2 H2, Nv [] G H G2 H2 → Nv M0 G0 H0 G2 H2 → C.p G2 v → D.nx (σ.set i (some v)) H2) : tAsg te (gName i) D σ H := Pz.run h n k
theorem s_asgM {i : Nat} (h : Ez M S S1 (te σ) G C) (n : Nv M0 G0 H0 G H) (hM : Sub M M0 H0) (a : At M G H) (s : S G H) (k : ∀ v G2 H2, Nv M G H G2 H2 → Nv M0 G0 H0 G2 H2 → At M G2 H2 → S1 G2 H2 → C.p G2 v → D.nx (σ.set i (some v)) H2) : tAsg te (gName i) D σ H := Ez.run h n hM a s k
theorem s_asgL {i : Nat} {B : Pd (List V)} (h : Lz (M := M) S S1 (te σ) G B) (n : Nv M0 G0 H0 G H) (hM : Sub M M0 H0) (a : At M G H) (s : S G H)
    (k : ∀ l xs G2 H2, Nv M G H G2 H2 → Nv M0 G0 H0 G2 H2 → At M G2 H2 → S1 G2 H2 → H l = none → Lc H0 G2 H2 l xs → B.p G2 xs → D.nx (σ.set i (some (.ref l))) H2) : tAsg te (gName i) D σ H := Lz.run h n hM a s k
theorem s_ret (h : Pz (te σ) G C) (n : Nv M0 G0 H0 G H) (k : ∀ v G2 H2, Nv M0 G0 H0 G2 H2 → C.p G2 v → D.rt v H2) : tRet te D σ H := Pz.run h n fun v G2 H2 _ n2 c => k v G2 H2 n2 c
theorem s_retM (h : Ez M S S1 (te σ) G C) (n : Nv M0 G0 H0 G H) (hM : Sub M M0 H0) (a : At M G H) (s : S G H) (k : ∀ v G2 H2, Nv M0 G0 H0 G2 H2 → S1 G2 H2 → C.p G2 v → D.rt v H2) : tRet te D σ H := Ez.run h n hM a s fun v G2 H2 _ n2 _ s2 c => k v G2 H2 n2 s2 c
theorem s_if {b : Bool} (h : Pz (t σ) G (is b)) (n : Nv M0 G0 H0 G H) (k1 : b = true → ∀ G2 H2, Nv [] G H G2 H2 → Nv M0 G0 H0 G2 H2 → tu D σ H2) (k2 : b = false → ∀ G2 H2, Nv [] G H G2 H2 → Nv M0 G0 H0 G2 H2 → tw D σ H2) : tIfS t tu tw D σ H :=
  Pz.run (Q := fun b H1 => if b = true then tu D σ H1 else tw D σ H1) h n fun v G2 H2 n1 n2 c => by
    have c' : v = b := c
    subst c'
    cases v with
    | true => exact L2.iteT (k1 rfl G2 H2 n1 n2)
    | false => exact L2.iteF (k2 rfl G2 H2 n1 n2)
theorem s_ifM {B : Pd Bool} (h : Ez M S S1 (t σ) G B) (n : Nv M0 G0 H0 G H) (hM : Sub M M0 H0) (a : At M G H) (s : S G H) (k : ∀ b G2 H2, Nv M G H G2 H2 → Nv M0 G0 H0 G2 H2 → At M G2 H2 → S1 G2 H2 → B.p G2 b → (b = true → tu D σ H2) ∧ (b = false → tw D σ H2)) : tIfS t tu tw D σ H :=
  Ez.run (Q := fun b H1 => if b = true then tu D σ H1 else tw D σ H1) h n hM a s fun v G2 H2 n1 n2 a2 s2 c => by
    obtain ⟨k1, k2⟩ := k v G2 H2 n1 n2 a2 s2 c
    cases v with
    | true => exact L2.iteT (k1 rfl)
    | false => exact L2.iteF (k2 rfl)
theorem s_drop (h : Pz (te σ) G C) (n : Nv M0 G0 H0 G H) (k : ∀ v G2 H2, Nv [] G H G2 H2 → Nv M0 G0 H0 G2 H2 → C.p G2 v → D.nx σ H2) : tDrop te D σ H := Pz.run h n k
theorem s_dropM (h : Ez M S S1 (te σ) G C) (n : Nv M0 G0 H0 G H) (hM : Sub M M0 H0) (a : At M G H) (s : S G H) (k : ∀ v G2 H2, Nv M G H G2 H2 → Nv M0 G0 H0 G2 H2 → At M G2 H2 → S1 G2 H2 → C.p G2 v → D.nx σ H2) : tDrop te D σ H := Ez.run h n hM a s k
/-- a local list longer by one -/
theorem Lc.app {l : Addr} {xs : List V} {v : V} (lc : Lc H0 G H l xs) (n : Nv M0 G0 H0 G H) : Nv [l] G H G (upd H l (.lst (xs ++ [v]))) ∧ Nv M0 G0 H0 G (upd H l (.lst (xs ++ [v]))) ∧ Lc H0 G (upd H l (.lst (xs ++ [v]))) l (xs ++ [v]) :=
  have c := Nv.chg (o := HO.lst (xs ++ [v])) n.gh lc.out
  ⟨c, n.step c fun x hx => .inr (by
    have : x = l := by simpa using hx
    rw [this]
    exact lc.new), lc.new, lc.out, upd_same⟩
theorem Lc.put {l : Addr} {xs ys : List V} (lc : Lc H0 G H l xs) (n : Nv M0 G0 H0 G H) : Nv [l] G H G (upd H l (.lst ys)) ∧ Nv M0 G0 H0 G (upd H l (.lst ys)) ∧ Lc H0 G (upd H l (.lst ys)) l ys :=
  have c := Nv.chg (o := HO.lst ys) n.gh lc.out
  ⟨c, n.step c fun x hx => .inr (by
    have : x = l := by simpa using hx
    rw [this]
    exact lc.new), lc.new, lc.out, upd_same⟩
theorem s_app {i : Nat} {l : Addr} {xs : List V} (hi : σ[i]? = some (some (.ref l))) (lc : Lc H0 G H l xs) (hz : xs.length < sizeLine) (h : Ez M S S1 (te σ) G C) (n : Nv M0 G0 H0 G H) (hM : Sub M M0 H0) (a : At M G H) (s : S G H) (hl : l ∉ M)
    (k : ∀ v G2 H2, Nv (l :: M) G H G2 H2 → Nv M0 G0 H0 G2 H2 → At M G2 H2 → (∃ H3, S1 G2 H3 ∧ At M G2 H3 ∧ ∀ x ∈ M, H2 x = H3 x) → Lc H0 G2 H2 l (xs ++ [v]) → C.p G2 v → D.nx σ H2) :
    tDrop (tBM K "list" rAppend (tVar i) (tCons te tNil)) D σ H :=
  ⟨.ref l, hi, .inl ⟨rfl, xs, SqL.of lc.val⟩, Ez.run (Q := fun v H2 => rAppend (.ref l) [v] H2 fun _ H3 => D.nx σ H3) h n hM a s fun v G2 H2 n1 n2 a2 s2 c => by
    have lc2 := lc.nv n1 hl
    obtain ⟨q1, q2, q3⟩ := lc2.app (v := v) n2
    have hd : ∀ x ∈ M, x ∉ [l] := fun x hx hx2 => by
      have : x = l := by simpa using hx2
      exact hl (this ▸ hx)
    exact ⟨l, xs, v, rfl, rfl, lc2.val, hz, k v G2 _ ((n1.mono fun x hx => List.mem_cons_of_mem _ hx).trans (q1.mono fun x hx => by
      have : x = l := by simpa using hx
      rw [this]
      exact List.mem_cons_self)) q2 ⟨q1.gh, fun x hx => ⟨(a2.mm x hx).1, q1.th x (a2.mm x hx).2⟩⟩ ⟨H2, s2, a2, a2.eq q1 hd⟩ q3 c⟩⟩
end
end QX

/-! Loops and comprehensions over views. -/
namespace QX
open PySem L2 Evl QV

/-! ### what is walked -/
structure Wks (J : It) (G : Hp) (n : Nat) (B : Nat → Pd V) : Prop where
  go : ∀ i H, i < n → Ex G H → J.go i H
  stop : ∀ H, Ex G H → J.stop n H
  yld : ∀ i G1 H x H', i < n → Ex G G1 → Ex G1 H → J.yld i H x H' → ∃ G', Nv [] G1 H G' H' ∧ (B i).p G' x
def Wk (M : List Addr) (S S1 : Hf) (N : Nat → (Nat → Pd V) → Prop) (wi : TI) (σ : L2.St) (G : Hp) : Prop :=
  ∀ G1 H, Ex G G1 → At M G1 H → S G1 H → ∀ R : It → Hp → Prop, (∀ J n B G2 H2, Nv M G1 H G2 H2 → S1 G2 H2 → N n B → Wks J G2 n B → R J H2) → wi σ H R
abbrev as (n : Nat) (B : Nat → Pd V) : Nat → (Nat → Pd V) → Prop := fun n' B' => n' = n ∧ B' = B
def chP (x : Str) (i : Nat) : Pd V := ⟨fun _ v => ∃ c, x.cps[i]? = some c ∧ v = .str ⟨#[c]⟩, fun _ h => h⟩
def numP (i : Nat) : Pd V := is (.int (i : Nat))
section
variable {K : PySem.W.Frag} {M : List Addr} {S S1 : Hf} {σ : L2.St} {G : Hp} {te : TE} {n : Nat} {B : Nat → Pd V}
theorem wks_list {a : Addr} {xs : List V} (h : SqL K G a xs) (hb : (allP n B).p G xs) : Wks (Itl K a) G n B where
  go := fun i H hi e => ⟨xs, xs[i]'(by rw [hb.1]; exact hi), ex_l e h, by rw [List.getElem?_eq_getElem]⟩
  stop := fun H e => ⟨xs, ex_l e h, by rw [hb.1]; exact Nat.le_refl _⟩
  yld := fun i G1 H x H' hi e1 e2 y => by
    obtain ⟨e, y⟩ := y
    subst e
    exact ⟨G1, Nv.refl e2, (B i).mono e1 (hb.2 i x (y xs (ex_l (e1.trans e2) h)))⟩
theorem wks_tup {a : Addr} {xs : List V} (h : SqT K G a xs) (hb : (allP n B).p G xs) : Wks (Itt K a) G n B where
  go := fun i H hi e => ⟨xs, xs[i]'(by rw [hb.1]; exact hi), ex_t e h, by rw [List.getElem?_eq_getElem]⟩
  stop := fun H e => ⟨xs, ex_t e h, by rw [hb.1]; exact Nat.le_refl _⟩
  yld := fun i G1 H x H' hi e1 e2 y => by
    obtain ⟨e, y⟩ := y
    subst e
    exact ⟨G1, Nv.refl e2, (B i).mono e1 (hb.2 i x (y xs (ex_t (e1.trans e2) h)))⟩
theorem wk_list (h : Ez M S S1 (te σ) G (lstP K (allP n B))) : Wk M S S1 (as n B) (iList K te) σ G := fun G1 H e a s R r =>
  h G1 H e a s _ fun v G2 H2 n2 s2 ⟨p, xs, hv, h1, h2⟩ => ⟨p, hv, ⟨xs, ex_l n2.gh h1⟩, r _ n B G2 H2 n2 s2 ⟨rfl, rfl⟩ (wks_list h1 h2)⟩
theorem wk_tup (h : Ez M S S1 (te σ) G (tupP K (allP n B))) : Wk M S S1 (as n B) (iTup K te) σ G := fun G1 H e a s R r =>
  h G1 H e a s _ fun v G2 H2 n2 s2 ⟨p, xs, hv, h1, h2⟩ => ⟨p, hv, ⟨xs, ex_t n2.gh h1⟩, r _ n B G2 H2 n2 s2 ⟨rfl, rfl⟩ (wks_tup h1 h2)⟩
theorem wk_str {x : Str} (h : Ez M S S1 (te σ) G (is (.str x))) : Wk M S S1 (as x.cps.size (chP x)) (iStr te) σ G := fun G1 H e a s R r =>
  h G1 H e a s _ fun v G2 H2 n2 s2 c => ⟨x, c, r _ _ _ G2 H2 n2 s2 ⟨rfl, rfl⟩
    ⟨fun i H hi _ => hi, fun H _ => Nat.le_refl _, fun i G1 H v H' hi e1 e2 y => by
      obtain ⟨e, y⟩ := y
      subst e
      exact ⟨G1, Nv.refl e2, y⟩⟩⟩
theorem wk_range {R : Int → Prop} (h : Ez M S S1 (te σ) G (intR R)) (hR : ∀ j, R j → -(2 ^ 62) ≤ j ∧ j < 2 ^ 62) : Wk M S S1 (fun n B => (∃ j, R j ∧ n = j.toNat) ∧ B = numP) (iRng1 (tCons te tNil)) σ G := fun G1 H e a s Q r =>
  h G1 H e a s _ fun v G2 H2 n2 s2 ⟨j, hj, hv⟩ => ⟨j, by rw [hv], (hR j hj).1, (hR j hj).2, r _ _ _ G2 H2 n2 s2 ⟨⟨j, hj, rfl⟩, rfl⟩
    ⟨fun i H hi _ => hi, fun H _ => Nat.le_refl _, fun i G1 H v H' hi e1 e2 y => by
      obtain ⟨e, y⟩ := y
      subst e
      refine ⟨G1, Nv.refl e2, ?_⟩
      show v = .int (i : Nat)
      rw [y, Int.zero_add]⟩⟩
/-- a range of a known number -/
theorem wk_rangeN {n : Nat} (h : Ez M S S1 (te σ) G (is (.int (n : Nat)))) (hn : n < 2 ^ 62) : Wk M S S1 (as n numP) (iRng1 (tCons te tNil)) σ G := fun G1 H e a s Q r =>
  wk_range (R := fun j => j = (n : Nat)) (h.to fun _ v _ c => ⟨_, rfl, c⟩) (fun j hj => by omega) G1 H e a s Q fun J n' B G2 H2 n2 s2 ⟨⟨j, hj, hn'⟩, hB⟩ w => by
    have : n' = n := by rw [hn', hj]; rfl
    exact r J n' B G2 H2 n2 s2 ⟨this, hB⟩ w
def pairP (K : PySem.W.Frag) (i : Nat) (P : Pd V) : Pd V := tupP K (consP (numP i) (consP P (is [])))
theorem wk_enum (h : Ez M S S1 (te σ) G (lstP K (allP n B))) : Wk M S S1 (as n fun i => pairP K i (B i)) (iEnum K (tCons te tNil)) σ G := fun G1 H e a s R r =>
  h G1 H e a s _ fun v G2 H2 n2 s2 ⟨p, xs, hv, h1, h2⟩ => ⟨p, xs, by rw [hv], ex_l n2.gh h1, r _ _ _ G2 H2 n2 s2 ⟨rfl, rfl⟩
    ⟨fun i H hi e => ⟨xs, xs[i]'(by rw [h2.1]; exact hi), ex_l e h1, by rw [List.getElem?_eq_getElem]⟩, fun H e => ⟨xs, ex_l e h1, by rw [h2.1]; exact Nat.le_refl _⟩, fun i G1 H v H' hi e1 e2 ⟨T, x, hv, hT, hH, hx⟩ => by
      subst hv hH
      refine ⟨_, Nv.lay e2 hT, T, _, rfl, SqT.of upd_same, ⟨_, _, rfl, rfl, ⟨_, _, rfl, ?_, rfl⟩⟩⟩
      exact (B i).mono (e1.trans (Ex.new (fresh_back e2 hT))) (h2.2 i x (hx xs (ex_l (e1.trans e2) h1)))⟩⟩
end

/-! ### for -/
/-- the loop's invariant, by the turn, the slots, the view and the heap -/
def For (M0 : List Addr) (G0 H0 : Hp) (n : Nat) (B : Nat → Pd V) (g : TG) (tb : TS) (D : Ends) (σ : L2.St) (G H : Hp) : Prop :=
  ∃ I : Nat → L2.St → Hp → Hp → Prop, I 0 σ G H ∧
    (∀ i σ1 G1 H1 x G2 H2, i < n → Nv M0 G0 H0 G1 H1 → Ex G G1 → I i σ1 G1 H1 → Nv [] G1 H1 G2 H2 → Nv M0 G0 H0 G2 H2 → (B i).p G2 x →
      g x σ1 H2 fun σ2 H3 => tb { D with nx := fun σ' H' => ∃ G', Nv M0 G0 H0 G' H' ∧ Ex G1 G' ∧ I (i + 1) σ' G' H', ct := fun σ' H' => ∃ G', Nv M0 G0 H0 G' H' ∧ Ex G1 G' ∧ I (i + 1) σ' G' H', bk := D.nx } σ2 H3) ∧
    ∀ σ1 G1 H1, Nv M0 G0 H0 G1 H1 → Ex G G1 → I n σ1 G1 H1 → D.nx σ1 H1
section
variable {K : PySem.W.Frag} {M M0 : List Addr} {S S1 : Hf} {σ : L2.St} {G0 H0 G H : Hp} {D : Ends} {wi : TI} {g : TG} {tb : TS} {N : Nat → (Nat → Pd V) → Prop}
theorem s_for (h : Wk M S S1 N wi σ G) (nv : Nv M0 G0 H0 G H) (hM : Sub M M0 H0) (a : At M G H) (s : S G H)
    (k : ∀ n B G2 H2, Nv M G H G2 H2 → Nv M0 G0 H0 G2 H2 → At M G2 H2 → S1 G2 H2 → N n B → For M0 G0 H0 n B g tb D σ G2 H2) : tFor wi g tb D σ H :=
  h G H (Ex.refl G) a s _ fun J n B G2 H2 n2 s2 hN w => by
    obtain ⟨I, i0, step, done⟩ := k n B G2 H2 n2 (nv.step n2 hM) (a.nv n2) s2 hN
    refine ⟨fun i m σ1 H1 => m = n - i ∧ i ≤ n ∧ ∃ G1, Nv M0 G0 H0 G1 H1 ∧ Ex G2 G1 ∧ I i σ1 G1 H1, ⟨n, by simp, Nat.zero_le _, G2, nv.step n2 hM, Ex.refl G2, i0⟩, ?_⟩
    rintro i m σ1 H1 ⟨rfl, hi, G1, n1, e1, q⟩
    by_cases hlt : i < n
    · refine .inr ⟨w.go i H1 hlt (e1.trans n1.gh), fun σ' H' => ∃ G', Nv M0 G0 H0 G' H' ∧ Ex G1 G' ∧ I (i + 1) σ' G' H', fun σ' H' ⟨G', p1, p2, p3⟩ => ⟨n - (i + 1), by omega, rfl, hlt, G', p1, e1.trans p2, p3⟩, fun x H' y => ?_⟩
      obtain ⟨G3, n3, b⟩ := w.yld i G1 H1 x H' hlt e1 n1.gh y
      exact step i σ1 G1 H1 x G3 H' hlt n1 e1 q n3 (n1.step n3 sub0) b
    · have : i = n := by omega
      subst this
      exact .inl ⟨w.stop H1 (e1.trans n1.gh), done σ1 G1 H1 n1 e1 q⟩
/-- targets -/
theorem g_two {i j : Nat} {A B : Pd V} {x : V} {Q : L2.St → Hp → Prop} (h : (tupP K (consP A (consP B (is [])))).p G x) (e : Ex G H) (k : ∀ a b, A.p G a → B.p G b → Q ((σ.set i (some a)).set j (some b)) H) : gTup K 2 (gCons (gName i) (gCons (gName j) gNil)) x σ H Q := by
  obtain ⟨p, xs, rfl, h1, a, ys, rfl, ha, b, zs, rfl, hb, hz⟩ := h
  have hz' : zs = [] := hz
  subst hz'
  exact ⟨p, _, rfl, ex_t e h1, rfl, a, _, rfl, b, _, rfl, rfl, k a b ha hb⟩
theorem g_three {i j l : Nat} {A B C : Pd V} {x : V} {Q : L2.St → Hp → Prop} (h : (tupP K (consP A (consP B (consP C (is []))))).p G x) (e : Ex G H) (k : ∀ a b c, A.p G a → B.p G b → C.p G c → Q (((σ.set i (some a)).set j (some b)).set l (some c)) H) :
    gTup K 3 (gCons (gName i) (gCons (gName j) (gCons (gName l) gNil))) x σ H Q := by
  obtain ⟨p, xs, rfl, h1, a, ys, rfl, ha, b, zs, rfl, hb, c, us, rfl, hc, hz⟩ := h
  have hz' : us = [] := hz
  subst hz'
  exact ⟨p, _, rfl, ex_t e h1, rfl, a, _, rfl, b, _, rfl, c, _, rfl, rfl, k a b c ha hb hc⟩
theorem tup2_of {d1 d2 : PyData} {x : V} (h : Dp K G x (.tuple [d1, d2])) : (tupP K (consP (dat K d1) (consP (dat K d2) (is [])))).p G x := by
  obtain ⟨a, xs, rfl, h1, h2⟩ := dp_tup h
  cases h2 with
  | cons a1 a2 =>
    cases a2 with
    | cons b1 b2 =>
      cases b2
      exact ⟨a, _, rfl, h1, _, _, rfl, a1, _, _, rfl, b1, rfl⟩
theorem tup3_of {d1 d2 d3 : PyData} {x : V} (h : Dp K G x (.tuple [d1, d2, d3])) : (tupP K (consP (dat K d1) (consP (dat K d2) (consP (dat K d3) (is []))))).p G x := by
  obtain ⟨a, xs, rfl, h1, h2⟩ := dp_tup h
  cases h2 with
  | cons a1 a2 =>
    cases a2 with
    | cons b1 b2 =>
      cases b2 with
      | cons c1 c2 =>
        cases c2
        exact ⟨a, _, rfl, h1, _, _, rfl, a1, _, _, rfl, b1, _, _, rfl, c1, rfl⟩
end

/-! ### list comprehensions -/
/-- as Ez, what it leaves and what it gives tied by a thing unseen -/
def Ezg {α γ : Type} (M : List Addr) (S : Hf) (S' : γ → Hf) (f : Hp → (α → Hp → Prop) → Prop) (G : Hp) (C : γ → Pd α) : Prop :=
  ∀ G1 H, Ex G G1 → At M G1 H → S G1 H → ∀ Q : α → Hp → Prop, (∀ c v G2 H2, Nv M G1 H G2 H2 → S' c G2 H2 → (C c).p G2 v → Q v H2) → f H Q
theorem Ez.g {α : Type} {M : List Addr} {S S' : Hf} {f : Hp → (α → Hp → Prop) → Prop} {G : Hp} {C : Pd α} (h : Ez M S S' f G C) : Ezg (γ := Unit) M S (fun _ => S') f G (fun _ => C) := fun G1 H e a s Q q => h G1 H e a s Q fun v G2 H2 n s2 c => q () v G2 H2 n s2 c
/-- a turn: what is appended, if anything -/
def turn (g : TG) (tt : TT) (te : TE) (vs : List Nat) (x : V) (σ : L2.St) : Hp → (Option V → Hp → Prop) → Prop := fun H Q => g x (wipe σ vs) H fun σ2 H2 => wipe σ2 vs = wipe σ vs ∧ tt σ2 H2 fun b H3 => if b = true then te σ2 H3 fun y H4 => Q (some y) H4 else Q none H3
def optP (A : Pd (List V)) (acc : List V) : Pd (Option V) := ⟨fun G o => A.p G (acc ++ o.toList), fun e h => A.mono e h⟩
section
variable {K : PySem.W.Frag} {M : List Addr} {S : Hf} {σ : L2.St} {G : Hp} {wi : TI} {g : TG} {tt : TT} {te : TE} {vs : List Nat} {N : Nat → (Nat → Pd V) → Prop} {R : Pd (List V)} {S2 : Hf}
/-- A: what is gathered, by the turn -/
theorem l_lcg {γ : Type} {S1 : Hf} (h : Wk M S S1 N wi σ G) (hn : ∀ n B, N n B → n ≤ 1000000) (k : ∀ n B G1, Ex G G1 → N n B → ∃ (Sx : Nat → γ → Hf) (A : Nat → γ → Pd (List V)), (∀ G H, S1 G H → Ex G1 G → ∃ c, Sx 0 c G H ∧ (A 0 c).p G1 []) ∧ (∀ i c, Stb M (Sx i c)) ∧ (∀ c G H, Sx n c G H → S2 G H) ∧ (∀ c G' xs, Ex G1 G' → (A n c).p G' xs → R.p G' xs) ∧
      ∀ i c x acc G2, i < n → Ex G1 G2 → (B i).p G2 x → (A i c).p G2 acc → Ezg M (Sx i c) (Sx (i + 1)) (turn g tt te vs x σ) G2 (fun c => optP (A (i + 1) c) acc)) : Lz (M := M) S S2 (tLc wi g tt te vs σ) G R := fun G1 H e a s Q q =>
  h G1 H e a s _ fun J n B G2 H2 n2 s1 hN w D hD => by
    obtain ⟨Sx, A, sx0, st, sxn, an, step⟩ := k n B G2 (e.trans n2.gg) hN
    obtain ⟨c0, sx0, a0⟩ := sx0 G2 H2 s1 (Ex.refl _)
    have hn' := hn n B hN
    have gD := fresh_back n2.gh hD
    refine ⟨fun i m H' => m = n - i ∧ i ≤ n ∧ ∃ G' acc c, Nv M G2 H2 G' H' ∧ G' D = none ∧ H' D = some (.lst acc) ∧ acc.length ≤ i ∧ Sx i c G' H' ∧ (A i c).p G' acc,
      ⟨n, by simp, Nat.zero_le _, G2, [], c0, (Nv.put n2.gh hD), gD, upd_same, Nat.le_refl _, st 0 c0 (Ex.refl _) ((a.nv n2).new hD) sx0, a0⟩, ?_⟩
    rintro i m H' ⟨rfl, hi, G', acc, c, nn, g1, h1, hl, sx, aa⟩
    have aN : At M G' H' := (a.nv n2).nv nn
    by_cases hlt : i < n
    · refine .inr ⟨w.go i H' hlt (nn.gg.trans nn.gh), fun H' => ∃ G' acc c, Nv M G2 H2 G' H' ∧ G' D = none ∧ H' D = some (.lst acc) ∧ acc.length ≤ i + 1 ∧ Sx (i + 1) c G' H' ∧ (A (i + 1) c).p G' acc,
        fun H' p => ⟨n - (i + 1), by omega, rfl, hlt, p⟩, fun x H'' y => ?_⟩
      obtain ⟨G3, n3, b⟩ := w.yld i G' H' x H'' hlt nn.gg nn.gh y
      have hDM : D ∉ M := fun hm => ((a.nv n2).mm D hm).2 hD
      have nn3 := nn.step n3 sub0
      have d3 := n3.loc (by simp) g1 h1
      have aN3 : At M G3 H'' := aN.nv (n3.mono fun _ z => nomatch z)
      exact step i c x acc G3 hlt (nn.gg.trans n3.gg) b ((A i c).mono n3.gg aa) G3 H'' (Ex.refl _) aN3 (Stb.nv (st i c) aN n3 sx) (fun o H4 => match o with
        | some y => ∃ acc, H4 D = some (.lst acc) ∧ acc.length < sizeLine ∧ ∃ G' acc' c, Nv M G2 H2 G' (upd H4 D (.lst (acc ++ [y]))) ∧ G' D = none ∧ (upd H4 D (.lst (acc ++ [y]))) D = some (.lst acc') ∧ acc'.length ≤ i + 1 ∧ Sx (i + 1) c G' (upd H4 D (.lst (acc ++ [y]))) ∧ (A (i + 1) c).p G' acc'
        | none => ∃ G' acc c, Nv M G2 H2 G' H4 ∧ G' D = none ∧ H4 D = some (.lst acc) ∧ acc.length ≤ i + 1 ∧ Sx (i + 1) c G' H4 ∧ (A (i + 1) c).p G' acc) fun c' o G4 H4 n4 s4 c4 => by
          have c4 : (A (i + 1) c').p G4 (acc ++ o.toList) := c4
          have m1 := nn3.trans n4
          obtain ⟨m2, m3⟩ := n4.loc hDM d3.1 d3.2
          cases o with
          | none =>
            rw [Option.toList_none, List.append_nil] at c4
            exact ⟨G4, acc, c', m1, m2, m3, by omega, s4, c4⟩
          | some y =>
            have ch := Nv.chg (o := HO.lst (acc ++ [y])) m1.gh m2
            have aN5 : At M G4 H4 := (a.nv n2).nv m1
            refine ⟨acc, m3, Nat.lt_of_le_of_lt hl (Nat.lt_of_lt_of_le hlt (Nat.le_trans hn' (by decide))), G4, acc ++ [y], c', m1.step ch fun z hz => ?_, m2, upd_same, by rw [List.length_append, List.length_singleton]; omega, (st (i + 1) c') (Ex.refl _) (aN5.eq ch fun z hz hz2 => ?_) s4, c4⟩
            · have : z = D := by simpa using hz
              exact .inr (this ▸ hD)
            · have : z = D := by simpa using hz2
              exact hDM (this ▸ hz)
    · have : i = n := by omega
      subst this
      exact .inl ⟨w.stop H' (nn.gg.trans nn.gh), q D acc G' H' (n2.trans nn) (n2.new hD) g1 h1 (sxn _ _ _ sx) (an _ _ _ nn.gg aa)⟩
/-- what a turn gives: a datum, or nothing -/
def oD (K : PySem.W.Frag) : Option PyData → Pd (Option V)
  | none => is none
  | some d => ⟨fun G o => ∃ v, o = some v ∧ Dp K G v d, fun e ⟨v, h1, h2⟩ => ⟨v, h1, QN.dp_mono e _ _ h2⟩⟩
theorem l_flt {n : Nat} {B : Nat → Pd V} (f : Nat → Option PyData) (h : Wk [] Tr Tr (as n B) wi σ G) (hn : n ≤ 1000000)
    (k : ∀ i x G1, i < n → Ex G G1 → (B i).p G1 x → Pz (turn g tt te vs x σ) G1 (oD K (f i))) : Lz (M := []) Tr Tr (tLc wi g tt te vs σ) G (dats K ((List.range n).filterMap f)) :=
  l_lcg (γ := Unit) h (fun n' B' ⟨e, _⟩ => e ▸ hn) fun n' B' G1 e1 ⟨en, eB⟩ => by
    subst en eB
    refine ⟨fun _ _ => Tr, fun i _ => dats K ((List.range i).filterMap f), fun _ _ h _ => ⟨(), h, DpAll.nil⟩, fun _ _ => stb_tr, fun _ _ _ h => h, fun _ _ _ _ h => h, fun i _ x acc G2 hi e2 b aa => ?_⟩
    refine Ez.g (Ez.to (k i x G2 hi (e1.trans e2) b) fun G3 o e3 c => ?_)
    show DpAll K G3 (acc ++ o.toList) ((List.range (i + 1)).filterMap f)
    rw [List.range_succ, List.filterMap_append]
    have aa' : DpAll K G3 acc ((List.range i).filterMap f) := QN.dp_monos e3 _ _ aa
    cases hf : f i with
    | none =>
      rw [hf] at c
      have c' : o = none := c
      subst c'
      simpa [hf] using aa'
    | some d =>
      rw [hf] at c
      obtain ⟨v, rfl, hv⟩ := c
      simpa [hf] using da_snoc aa' hv
theorem filterMap_range {α β : Type} (l : List α) (f : α → Option β) : (List.range l.length).filterMap (fun i => l[i]?.bind f) = l.filterMap f := by
  induction l with
  | nil => rfl
  | cons a l ih =>
    rw [List.length_cons, List.range_succ_eq_map, List.filterMap_cons, List.filterMap_map, List.filterMap_cons, ← ih]
    rfl
/-- the turns of one name, of three names -/
theorem turn_name {j : Nat} {x : V} {b : Bool} {d : PyData} (hw : wipe ((wipe σ vs).set j (some x)) vs = wipe σ vs) (ht : Pz (tt ((wipe σ vs).set j (some x))) G (is b)) (he : b = true → Pz (te ((wipe σ vs).set j (some x))) G (dat K d)) : Pz (turn (gName j) tt te vs x σ) G (oD K (if b = true then some d else none)) := fun G1 H e a s Q q => by
  refine ⟨hw, ht G1 H e a s _ fun v G2 H2 n s2 c => ?_⟩
  have c' : v = b := c
  subst c'
  cases v with
  | true =>
    rw [if_pos rfl] at q ⊢
    exact (he rfl) G2 H2 (e.trans n.gg) (a.nv n) s2 _ fun y G3 H3 n3 s3 c3 => q (some y) G3 H3 (n.trans n3) s3 ⟨y, rfl, c3⟩
  | false =>
    rw [if_neg Bool.false_ne_true] at q ⊢
    exact q none G2 H2 n s2 rfl
theorem turn_all {j : Nat} {x : V} {d : PyData} (hw : wipe ((wipe σ vs).set j (some x)) vs = wipe σ vs) (he : Pz (te ((wipe σ vs).set j (some x))) G (dat K d)) : Pz (turn (gName j) tYes te vs x σ) G (oD K (some d)) := fun G1 H e a s Q q => by
  refine ⟨hw, ?_⟩
  show (if true = true then te ((wipe σ vs).set j (some x)) H (fun y H4 => Q (some y) H4) else Q none H)
  rw [if_pos rfl]
  exact he G1 H e a s _ fun y G3 H3 n3 s3 c3 => q (some y) G3 H3 n3 s3 ⟨y, rfl, c3⟩
/-- each item a thing, pure -/
theorem l_map {n : Nat} {B : Nat → Pd V} {j : Nat} {C : Nat → Pd V} (h : Wk [] Tr Tr (as n B) wi σ G) (hn : n ≤ 1000000) (hw : ∀ x, wipe ((wipe σ vs).set j (some x)) vs = wipe σ vs)
    (k : ∀ i x G1, i < n → Ex G G1 → (B i).p G1 x → Pz (te ((wipe σ vs).set j (some x))) G1 (C i)) : Lz (M := []) Tr Tr (tLc wi (gName j) tYes te vs σ) G (allP n C) :=
  l_lcg (γ := Unit) h (fun n' B' ⟨e, _⟩ => e ▸ hn) fun n' B' G1 e1 ⟨en, eB⟩ => by
    subst en eB
    refine ⟨fun _ _ => Tr, fun i _ => allP i C, fun _ _ h _ => ⟨(), h, ⟨rfl, fun i x q => by simp at q⟩⟩, fun _ _ => stb_tr, fun _ _ _ h => h, fun _ _ _ _ h => h, fun i _ x acc G2 hi e2 b aa => Ez.g ?_⟩
    intro G3 H3 e3 a3 s3 Q q
    refine ⟨hw x, ?_⟩
    show (if true = true then te ((wipe σ vs).set j (some x)) H3 (fun y H4 => Q (some y) H4) else Q none H3)
    rw [if_pos rfl]
    refine k i x G3 hi ((e1.trans e2).trans e3) ((B' i).mono e3 b) G3 H3 (Ex.refl _) a3 s3 _ fun v G4 H4 n4 s4 c4 => q (some v) G4 H4 n4 s4 ⟨?_, fun i' x' q' => ?_⟩
    · rw [Option.toList_some, List.length_append, aa.1]
      rfl
    · rw [Option.toList_some] at q'
      by_cases hi' : i' < acc.length
      · rw [List.getElem?_append_left hi'] at q'
        exact (C i').mono (e3.trans n4.gg) (aa.2 i' x' q')
      · rw [List.getElem?_append_right (by omega)] at q'
        have h0 : i' - acc.length = 0 := by
          cases hh : i' - acc.length with
          | zero => rfl
          | succ m => rw [hh] at q'; simp at q'
        have : i' = i := by rw [← aa.1]; omega
        subst this
        rw [h0] at q'
        have : v = x' := by simpa using q'
        subst this
        exact c4
/-- drawn items: each of a kind -/
def gens (K : PySem.W.Frag) (N : Nat → Prop) (P : PyData → Prop) : Pd (List V) := some_ fun ds => both_ (N ds.length ∧ ∀ d ∈ ds, P d) (dats K ds)
theorem l_gen {S1 : Hf} {P : PyData → Prop} {j : Nat} (Sx : Nat → Hf) (h : Wk M S S1 N wi σ G) (hn : ∀ n B, N n B → n ≤ 1000000) (hS : ∀ G H, S1 G H → Sx 0 G H) (st : ∀ i, Stb M (Sx i)) (hS2 : ∀ n B, N n B → ∀ G H, Sx n G H → S2 G H) (hw : ∀ x, wipe ((wipe σ vs).set j (some x)) vs = wipe σ vs)
    (k : ∀ n B i x G1, N n B → i < n → Ex G G1 → (B i).p G1 x → Ez M (Sx i) (Sx (i + 1)) (te ((wipe σ vs).set j (some x))) G1 (datR K P)) : Lz (M := M) S S2 (tLc wi (gName j) tYes te vs σ) G (gens K (fun n => ∃ B, N n B) P) :=
  l_lcg (γ := Unit) h hn fun n B G1 e1 hN => by
    refine ⟨fun i _ => Sx i, fun i _ => some_ fun ds => both_ (ds.length = i ∧ ∀ d ∈ ds, P d) (dats K ds), fun G H h _ => ⟨(), hS G H h, ⟨[], ⟨rfl, fun _ z => nomatch z⟩, DpAll.nil⟩⟩, fun i _ => st i, fun _ => hS2 n B hN, fun _ G' xs _ ⟨ds, ⟨h1, h2⟩, h3⟩ => ⟨ds, ⟨⟨B, h1 ▸ hN⟩, h2⟩, h3⟩, fun i _ x acc G2 hi e2 b aa => Ez.g ?_⟩
    obtain ⟨ds, ⟨l1, l2⟩, l3⟩ := aa
    intro G3 H3 e3 a3 s3 Q q
    refine ⟨hw x, ?_⟩
    show (if true = true then te ((wipe σ vs).set j (some x)) H3 (fun y H4 => Q (some y) H4) else Q none H3)
    rw [if_pos rfl]
    refine k n B i x G3 hN hi ((e1.trans e2).trans e3) ((B i).mono e3 b) G3 H3 (Ex.refl _) a3 s3 _ fun v G4 H4 n4 s4 ⟨d, hd, hv⟩ => q (some v) G4 H4 n4 s4 ⟨ds ++ [d], ⟨?_, fun d' hd' => ?_⟩, da_snoc (QN.dp_monos (e3.trans n4.gg) _ _ l3) hv⟩
    · rw [List.length_append, l1]
      rfl
    · rcases List.mem_append.mp hd' with z | z
      · exact l2 d' z
      · have : d' = d := by simpa using z
        rw [this]
        exact hd
end

/-! ### dict comprehensions, two clauses -/
def dcAcc (f : Nat → Option (Key × V)) : Nat → List (Key × V)
  | 0 => []
  | i + 1 => match f i with
    | none => dcAcc f i
    | some kz => putK (dcAcc f i) kz.1 kz.2
theorem dcAcc_len (f : Nat → Option (Key × V)) : ∀ n, (dcAcc f n).length ≤ n
  | 0 => Nat.le_refl _
  | n + 1 => by
    have ih := dcAcc_len f n
    unfold dcAcc
    split
    · omega
    · have := length_putK (dcAcc f n) (by assumption : Key × V).1 (by assumption : Key × V).2
      omega
def turnD (g : TG) (tt : TT) (tk tv : TE) (vs : List Nat) (x : V) (σ : L2.St) : Hp → (Option (V × V) → Hp → Prop) → Prop := fun H Q => g x (wipe σ vs) H fun σ2 H2 => wipe σ2 vs = wipe σ vs ∧ tt σ2 H2 fun b H3 => if b = true then tk σ2 H3 fun y H4 => tv σ2 H4 fun z H5 => Q (some (y, z)) H5 else Q none H3
section
variable {K : PySem.W.Frag} {σ : L2.St} {G : Hp} {wi : TI} {g : TG} {tt : TT} {tk tv : TE} {vs : List Nat}
theorem z_dc {n : Nat} {B : Nat → Pd V} (f : Nat → Option (Key × V)) (h : Wk [] Tr Tr (as n B) wi σ G) (hn : n ≤ 1000000)
    (k : ∀ i x G1, i < n → Ex G G1 → (B i).p G1 x → Pz (turnD g tt tk tv vs x σ) G1 (is ((f i).map fun kz => (kV kz.1, kz.2)))) : Pz (tDc wi g tt tk tv vs σ) G (dK (dcAcc f n)) := fun G1 H e a s Q q =>
  h G1 H e a s _ fun J n' B' G2 H2 n2 s1 ⟨en, eB⟩ w D hD => by
    subst en eB
    have gD := fresh_back n2.gh hD
    refine ⟨fun i m H' => m = n' - i ∧ i ≤ n' ∧ ∃ G', Nv [] G2 H2 G' H' ∧ G' D = none ∧ H' D = some (.dK (dcAcc f i)),
      ⟨n', by simp, Nat.zero_le _, G2, (Nv.put n2.gh hD), gD, upd_same⟩, ?_⟩
    rintro i m H' ⟨rfl, hi, G', nn, g1, h1⟩
    by_cases hlt : i < n'
    · refine .inr ⟨w.go i H' hlt (nn.gg.trans nn.gh), fun H' => ∃ G', Nv [] G2 H2 G' H' ∧ G' D = none ∧ H' D = some (.dK (dcAcc f (i + 1))),
        fun H' p => ⟨n' - (i + 1), by omega, rfl, hlt, p⟩, fun x H'' y => ?_⟩
      obtain ⟨G3, n3, b⟩ := w.yld i G' H' x H'' hlt nn.gg nn.gh y
      have nn3 := nn.step n3 sub0
      have d3 := n3.loc (by simp) g1 h1
      exact k i x G3 hlt (((e.trans n2.gg).trans nn.gg).trans n3.gg) b G3 H'' (Ex.refl _) (At.pure n3.gh) True.intro (fun o H5 => match o with
        | some (y, z) => ∃ kvs k, y = kV k ∧ H5 D = some (.dK kvs) ∧ kvs.length < sizeLine ∧ ∃ G', Nv [] G2 H2 G' (upd H5 D (.dK (putK kvs k z))) ∧ G' D = none ∧ (upd H5 D (.dK (putK kvs k z))) D = some (.dK (dcAcc f (i + 1)))
        | none => ∃ G', Nv [] G2 H2 G' H5 ∧ G' D = none ∧ H5 D = some (.dK (dcAcc f (i + 1)))) fun o G4 H4 n4 s4 c4 => by
          have c4 : o = _ := c4
          obtain ⟨m2, m3⟩ := n4.loc (by simp) d3.1 d3.2
          have m1 := nn3.trans n4
          have hd : dcAcc f (i + 1) = match f i with
            | none => dcAcc f i
            | some kz => putK (dcAcc f i) kz.1 kz.2 := rfl
          cases hf : f i with
          | none =>
            rw [hf] at c4 hd
            subst c4
            rw [hd]
            exact ⟨G4, m1, m2, m3⟩
          | some kz =>
            rw [hf] at c4 hd
            subst c4
            rw [hd]
            refine ⟨dcAcc f i, kz.1, rfl, m3, Nat.lt_of_le_of_lt (dcAcc_len f i) (Nat.lt_of_lt_of_le hlt (Nat.le_trans hn (by decide))), G4, m1.step (Nv.chg m1.gh m2) fun z hz => ?_, m2, upd_same⟩
            have : z = D := by simpa using hz
            exact .inr (this ▸ hD)
    · have : i = n' := by omega
      subst this
      exact .inl ⟨w.stop H' (nn.gg.trans nn.gh), q _ _ _ ((n2.trans nn).add (n2.new hD) h1 g1) True.intro ⟨D, rfl, upd_same⟩⟩
theorem yes_ {σ : L2.St} {H : Hp} {Q : Bool → Hp → Prop} (h : Q true H) : tYes σ H Q := h
/-- two clauses, the second source a list of the first's item -/
theorem l_lc2 {n : Nat} {B : Nat → Pd V} {wi1 : TI} {g1 : TG} {tt1 : TT} {te : TE} {vs1 : List Nat} {A : Nat → List PyData} (h : Wk [] Tr Tr (as n B) wi σ G) (hn : n ≤ 1000000)
    (k : ∀ i x H G1, i < n → Ex G G1 → (B i).p G1 x → Ex G1 H → ∀ Q : L2.St → Hp → Prop, (∀ σ2, wipe σ2 vs = wipe σ vs → (∃ (m : Nat) (B1 : Nat → Pd V) (d : Nat → PyData), m ≤ 1000 ∧ A i = (List.range m).map d ∧ Wk [] Tr Tr (as m B1) wi1 σ2 G1 ∧
      ∀ j y G2, j < m → Ex G1 G2 → (B1 j).p G2 y → Pz (turn g1 tt1 te vs1 y σ2) G2 (oD K (some (d j)))) → Q σ2 H) → g x (wipe σ vs) H Q) (hA : ∀ i, i < n → (((List.range i).map A).flatten).length + (A i).length ≤ 100000) :
    Lz (M := []) Tr Tr (tLc2 wi g tYes wi1 g1 tt1 te vs vs1 σ) G (dats K ((List.range n).map A).flatten) := fun G1 H e a s Q q =>
  h G1 H e a s _ fun J n' B' G2 H2 n2 s1 ⟨en, eB⟩ w D hD => by
    subst en eB
    have gD := fresh_back n2.gh hD
    refine ⟨fun i m H' => m = n' - i ∧ i ≤ n' ∧ ∃ G' acc, Nv [] G2 H2 G' H' ∧ G' D = none ∧ H' D = some (.lst acc) ∧ DpAll K G' acc ((List.range i).map A).flatten,
      ⟨n', by simp, Nat.zero_le _, G2, [], (Nv.put n2.gh hD), gD, upd_same, DpAll.nil⟩, ?_⟩
    rintro i m H' ⟨rfl, hi, G', acc, nn, g1', h1, hd⟩
    by_cases hlt : i < n'
    · refine .inr ⟨w.go i H' hlt (nn.gg.trans nn.gh), fun H' => ∃ G' acc, Nv [] G2 H2 G' H' ∧ G' D = none ∧ H' D = some (.lst acc) ∧ DpAll K G' acc ((List.range (i + 1)).map A).flatten,
        fun H' p => ⟨n' - (i + 1), by omega, rfl, hlt, p⟩, fun x H'' y => ?_⟩
      obtain ⟨G3, n3, b⟩ := w.yld i G' H' x H'' hlt nn.gg nn.gh y
      have nn3 := nn.step n3 sub0
      have d3 := n3.loc (by simp) g1' h1
      refine k i x H'' G3 hlt (((e.trans n2.gg).trans nn.gg).trans n3.gg) b n3.gh _ fun σ2 hw ⟨mm, B1, d, hm, hAi, wk1, body⟩ => ⟨hw, ?_⟩
      refine yes_ ?_
      rw [if_pos rfl]
      refine wk1 G3 H'' (Ex.refl _) (At.pure n3.gh) True.intro _ fun J1 m1 B1' G4 H4 n4 _ ⟨em, eB1⟩ w1 => ?_
      subst em eB1
      have d4 := n4.loc (by simp) d3.1 d3.2
      refine ⟨fun j m' H' => m' = m1 - j ∧ j ≤ m1 ∧ ∃ G' acc, Nv [] G2 H2 G' H' ∧ Ex G4 G' ∧ G' D = none ∧ H' D = some (.lst acc) ∧ DpAll K G' acc (((List.range i).map A).flatten ++ (List.range j).map d),
        ⟨m1, by simp, Nat.zero_le _, G4, acc, nn3.trans n4, Ex.refl _, d4.1, d4.2, by
          rw [List.range_zero, List.map_nil, List.append_nil]
          exact QN.dp_monos (n3.gg.trans n4.gg) _ _ hd⟩, ?_⟩
      rintro j m' H5 ⟨rfl, hj, G5, acc5, nn5, e45, g5, h5, hd5⟩
      by_cases hlt1 : j < m1
      · refine .inr ⟨w1.go j H5 hlt1 (e45.trans nn5.gh), fun H' => ∃ G' acc, Nv [] G2 H2 G' H' ∧ Ex G4 G' ∧ G' D = none ∧ H' D = some (.lst acc) ∧ DpAll K G' acc (((List.range i).map A).flatten ++ (List.range (j + 1)).map d),
          fun H' p => ⟨m1 - (j + 1), by omega, rfl, hlt1, p⟩, fun x5 H6 y5 => ?_⟩
        obtain ⟨G6, n6, b6⟩ := w1.yld j G5 H5 x5 H6 hlt1 e45 nn5.gh y5
        have nn6 := nn5.step n6 sub0
        have d6 := n6.loc (by simp) g5 h5
        have hlen : acc5.length < sizeLine := by
          have hA' := hA i hlt
          rw [da_len hd5, List.length_append, List.length_map, List.length_range]
          rw [hAi, List.length_map, List.length_range] at hA'
          have : (100000 : Nat) < sizeLine := by decide
          omega
        exact body j x5 G6 hlt1 ((n4.gg.trans e45).trans n6.gg) b6 G6 H6 (Ex.refl _) (At.pure n6.gh) True.intro (fun o H7 => match o with
          | some y => ∃ acc, H7 D = some (.lst acc) ∧ acc.length < sizeLine ∧ ∃ G' acc', Nv [] G2 H2 G' (upd H7 D (.lst (acc ++ [y]))) ∧ Ex G4 G' ∧ G' D = none ∧ (upd H7 D (.lst (acc ++ [y]))) D = some (.lst acc') ∧ DpAll K G' acc' (((List.range i).map A).flatten ++ (List.range (j + 1)).map d)
          | none => ∃ G' acc, Nv [] G2 H2 G' H7 ∧ Ex G4 G' ∧ G' D = none ∧ H7 D = some (.lst acc) ∧ DpAll K G' acc (((List.range i).map A).flatten ++ (List.range (j + 1)).map d)) fun o G7 H7 n7 _ ⟨v, hv, c7⟩ => by
            subst hv
            obtain ⟨m2, m3⟩ := n7.loc (by simp) d6.1 d6.2
            have m1' := nn6.trans n7
            refine ⟨acc5, m3, hlen, G7, acc5 ++ [v], m1'.step (Nv.chg m1'.gh m2) fun z hz => ?_, (e45.trans n6.gg).trans n7.gg, m2, upd_same, ?_⟩
            · have : z = D := by simpa using hz
              exact .inr (this ▸ hD)
            · rw [List.range_succ, List.map_append, List.map_singleton, ← List.append_assoc]
              exact da_snoc (QN.dp_monos (n6.gg.trans n7.gg) _ _ hd5) c7
      · have : j = m1 := by omega
        subst this
        refine .inl ⟨w1.stop H5 (e45.trans nn5.gh), G5, acc5, nn5, g5, h5, ?_⟩
        rw [List.range_succ, List.map_append, List.flatten_append, List.map_singleton, List.flatten_singleton, hAi]
        exact hd5
    · have : i = n' := by omega
      subst this
      exact .inl ⟨w.stop H' (nn.gg.trans nn.gh), q D acc G' H' (n2.trans nn) (n2.new hD) g1' h1 True.intro hd⟩
end
end QX

/-! Readings of operators, methods and calls over views. -/
namespace QX
open PySem L2 Evl QV QU
/-- a list of the heap's own -/
def exP (B : Pd (List V)) : Pd V := ⟨fun G v => ∃ a xs, v = .ref a ∧ G a = some (.lst xs) ∧ B.p G xs, fun e ⟨a, xs, h1, h2, h3⟩ => ⟨a, xs, h1, e a _ h2, B.mono e h3⟩⟩
section
variable {K : PySem.W.Frag} {M : List Addr} {S S1 S2 : Hf} {σ : L2.St} {G : Hp} {ta tb tc te td ty : TE} {tl th : TO} {A C : Pd V} {B : Pd (List V)}
theorem lstP_ex {v : V} (h : (exP B).p G v) : (lstP K B).p G v := by
  obtain ⟨a, xs, h1, h2, h3⟩ := h
  exact ⟨a, xs, h1, SqL.of h2, h3⟩
theorem dat_ex {v : V} {ds : List PyData} (h : (exP (dats K ds)).p G v) : Dp K G v (.list ds) := lstP_dat (lstP_ex h)
theorem Lz.exact {f : Hp → VK → Prop} (h : Lz (M := M) S S1 f G B) (st : Stb M S1) : Ez M S S1 f G (exP B) := fun G1 H e0 a s Q q =>
  h G1 H e0 a s Q fun p xs G2 H2 n hp gp h2 s2 b => q _ _ _ (n.add hp h2 gp) (st (Ex.new gp) (fun _ _ => rfl) s2) ⟨p, xs, rfl, upd_same, B.mono (Ex.new gp) b⟩
theorem Lc.exact {H0 G H : Hp} {l : Addr} {xs : List V} (a : Lc H0 G H l xs) (h : B.p G xs) : (exP B).p (upd G l (.lst xs)) (.ref l) := ⟨l, xs, rfl, upd_same, B.mono a.gg h⟩
theorem Ez.lk {f : Hp → VK → Prop} {x : V} (h : Ez M S S1 f G (is x)) {y : V} (e : x = y) : Ez M S S1 f G (is y) := e ▸ h

theorem z_neg {i : Int} {z : V} (h : Ez M S S1 (te σ) G (is (.int i))) (e : V.int (-i) = z) : Ez M S S1 (tUn (rU fun i => .int (-i)) te σ) G (is z) := z_un h fun x G' _ c => fun G1 H e0 a s Q q => ⟨i, c, q _ G1 H (Nv.refl a.ex) s e⟩
theorem z_notV {b : Bool} (h : Ez M S S1 (te σ) G (is (.bl b))) : Ez M S S1 (tNotV te σ) G (is (.bl (!b))) := Ez.bind (g := fun (x : V) (H1 : Hp) (Q : VK) => ∃ c, x = V.bl c ∧ Q (.bl (!c)) H1) h fun x G' _ c => fun G1 H e0 a s Q q => ⟨b, (show x = V.bl b from c), q _ G1 H (Nv.refl a.ex) s rfl⟩
/-- truth -/
def truP (K : PySem.W.Frag) (b : Bool) : Pd V := ⟨fun G v => ∀ H, Ex G H → TruV K v H b, fun e h H e2 => h H (e.trans e2)⟩
theorem zt_tru {b : Bool} (h : Ez M S S1 (te σ) G (truP K b)) : Ez M S S1 (fun H (Q : Bool → Hp → Prop) => te σ H fun x H' => ∃ k, TruV K x H' k ∧ Q k H') G (is b) := Ez.bind (g := fun x H' Q => ∃ k, TruV K x H' k ∧ Q k H') h fun x G' _ c => fun G1 H e0 a s Q q => ⟨b, c H (e0.trans a.ex), q _ G1 H (Nv.refl a.ex) s rfl⟩
theorem tru_list {n : Nat} {P : Nat → Pd V} {v : V} (h : (lstP K (allP n P)).p G v) : (truP K (!decide (n = 0))).p G v := by
  obtain ⟨a, xs, rfl, h1, h2, _⟩ := h
  refine fun H e => .inl ⟨xs, ex_l e h1, ?_⟩
  cases xs with
  | nil => simp at h2; simp [← h2]
  | cons x xs => simp at h2; simp [← h2]
theorem tru_tup {n : Nat} {P : Nat → Pd V} {v : V} (h : (tupP K (allP n P)).p G v) : (truP K (!decide (n = 0))).p G v := by
  obtain ⟨a, xs, rfl, h1, h2, _⟩ := h
  refine fun H e => .inr (.inl ⟨xs, ex_t e h1, ?_⟩)
  cases xs with
  | nil => simp at h2; simp [← h2]
  | cons x xs => simp at h2; simp [← h2]

/-! len, any, all, tuple, list, int -/
theorem z_len1 {ds : List PyData} (h : Ez M S S1 (te σ) G (dat K (.list ds))) : Ez M S S1 (tCB (QU.rLenS K) (tCons te tNil) σ) G (is (.int (ds.length : Nat))) :=
  Ez.bind (g := fun x H Q => QU.rLenS K [x] H Q) h fun x G' _ c => fun G1 H e0 a s Q q => by
    obtain ⟨p, xs, rfl, h1, h2⟩ := dp_list c
    exact ⟨p, xs, rfl, .inl (ex_l (e0.trans a.ex) h1), q _ G1 H (Nv.refl a.ex) s (by rw [da_len h2]; rfl)⟩
theorem z_lenP {n : Nat} {P : Nat → Pd V} (h : Ez M S S1 (te σ) G (lstP K (allP n P))) : Ez M S S1 (tCB (QU.rLenS K) (tCons te tNil) σ) G (is (.int (n : Nat))) :=
  Ez.bind (g := fun x H Q => QU.rLenS K [x] H Q) h fun x G' _ c => fun G1 H e0 a s Q q => by
    obtain ⟨p, xs, rfl, h1, h2⟩ := c
    exact ⟨p, xs, rfl, .inl (ex_l (e0.trans a.ex) h1), q _ G1 H (Nv.refl a.ex) s (by rw [h2.1]; rfl)⟩
theorem z_lenT {ds : List PyData} (h : Ez M S S1 (te σ) G (dat K (.tuple ds))) : Ez M S S1 (tCB (QU.rLenS K) (tCons te tNil) σ) G (is (.int (ds.length : Nat))) :=
  Ez.bind (g := fun x H Q => QU.rLenS K [x] H Q) h fun x G' _ c => fun G1 H e0 a s Q q => by
    obtain ⟨p, xs, rfl, h1, h2⟩ := dp_tup c
    exact ⟨p, xs, rfl, .inr (ex_t (e0.trans a.ex) h1), q _ G1 H (Nv.refl a.ex) s (by rw [da_len h2]; rfl)⟩
abbrev rLenStr : List V → Hp → VK → Prop := fun xs H Q => ∃ z : Str, xs = [.str z] ∧ z.length ≤ sizeLine ∧ Q (.int z.length) H
theorem z_lenS {z : Str} (h : Ez M S S1 (te σ) G (is (.str z))) (hz : z.length ≤ sizeLine) : Ez M S S1 (tCB rLenStr (tCons te tNil) σ) G (is (.int (z.length : Nat))) :=
  Ez.bind (g := fun x H Q => rLenStr [x] H Q) h fun x G' _ c => fun G1 H e0 a s Q q => ⟨z, by rw [show x = _ from c], hz, q _ G1 H (Nv.refl a.ex) s rfl⟩
theorem z_any {bs : List Bool} {r : Bool} (h : Ez M S S1 (te σ) G (dat K (.list (bs.map .bool)))) (e : bs.any id = r) : Ez M S S1 (tCB (rAny K) (tCons te tNil) σ) G (is (.bl r)) :=
  Ez.bind (g := fun x H Q => rAny K [x] H Q) h fun x G' _ c => fun G1 H e0 a s Q q => by
    obtain ⟨p, xs, rfl, h1, h2⟩ := dp_list c
    have := da_bools h2
    subst this
    exact ⟨p, bs, rfl, ex_l (e0.trans a.ex) h1, q _ G1 H (Nv.refl a.ex) s (by rw [e]; rfl)⟩
theorem z_all {bs : List Bool} {r : Bool} (h : Ez M S S1 (te σ) G (dat K (.list (bs.map .bool)))) (e : bs.all id = r) : Ez M S S1 (tCB (rAll K) (tCons te tNil) σ) G (is (.bl r)) :=
  Ez.bind (g := fun x H Q => rAll K [x] H Q) h fun x G' _ c => fun G1 H e0 a s Q q => by
    obtain ⟨p, xs, rfl, h1, h2⟩ := dp_list c
    have := da_bools h2
    subst this
    exact ⟨p, bs, rfl, ex_l (e0.trans a.ex) h1, q _ G1 H (Nv.refl a.ex) s (by rw [e]; rfl)⟩
/-- tuple(list) -/
theorem z_tupOf {ds : List PyData} (h : Ez M S S1 (te σ) G (dat K (.list ds))) (st : Stb M S1) : Ez M S S1 (tCB (rTupOf K) (tCons te tNil) σ) G (dat K (.tuple ds)) :=
  Ez.bind (g := fun x H Q => rTupOf K [x] H Q) h fun x G' _ c => fun G1 H e0 a s Q q => by
    obtain ⟨p, xs, rfl, h1, h2⟩ := dp_list c
    refine ⟨p, xs, rfl, .inl ⟨ex_l (e0.trans a.ex) h1, fun l hl => q _ _ _ (Nv.lay a.ex hl) (st (Ex.new (fresh_back a.ex hl)) (a.new hl) s) ?_⟩⟩
    exact Dp.tup (SqT.of upd_same) (QN.dp_monos (e0.trans (Ex.new (fresh_back a.ex hl))) _ _ h2)
/-- list(tuple): a new list -/
theorem l_lstOf {ds : List PyData} (h : Ez M S S1 (te σ) G (dat K (.tuple ds))) (st : Stb M S1) : Lz (M := M) S S1 (tCB (rLstOf K) (tCons te tNil) σ) G (dats K ds) := fun G1 H e0 a s Q q =>
  h G1 H e0 a s _ fun x G2 H2 n s2 c => by
    obtain ⟨p, xs, rfl, h1, h2⟩ := dp_tup c
    exact ⟨p, xs, rfl, .inr (ex_t n.gh h1), fun l hl => q l xs G2 _ (n.trans (Nv.put n.gh hl)) (n.new hl) (fresh_back n.gh hl) upd_same (st (Ex.refl _) ((a.nv n).new hl) s2) h2⟩
abbrev rInt1 : List V → Hp → VK → Prop := fun xs H Q => (∃ i, xs = [.int i] ∧ Q (.int i) H) ∨ ∃ k, xs = [.bl k] ∧ Q (.int (if k then 1 else 0)) H
theorem z_int1 {R : Int → Prop} (h : Ez M S S1 (te σ) G (intR R)) : Ez M S S1 (tCB rInt1 (tCons te tNil) σ) G (intR R) :=
  Ez.bind (g := fun x H Q => rInt1 [x] H Q) h fun x G' _ ⟨i, hi, e⟩ => fun G1 H e0 a s Q q => .inl ⟨i, by rw [e], q _ G1 H (Nv.refl a.ex) s ⟨i, hi, rfl⟩⟩
/-- isinstance -/
def tyP (K : PySem.W.Frag) (t : String) : Pd V := ⟨fun G v => ∀ H, Ex G H → TyX K H v (.type t), fun e h H e2 => h H (e.trans e2)⟩
theorem ty_list {P : Pd (List V)} {v : V} (h : (lstP K P).p G v) : (tyP K "list").p G v := by
  obtain ⟨a, xs, rfl, h1, _⟩ := h
  intro H e
  rcases ex_l e h1 with q | ⟨o, its, n, hk, hc, _⟩
  · rcases q with q | ⟨o, q⟩
    · exact .base (.lst q)
    · exact .base (.frz q)
  · exact .kList hk hc
theorem ty_tup {P : Pd (List V)} {v : V} (h : (tupP K P).p G v) : (tyP K "tuple").p G v := by
  obtain ⟨a, xs, rfl, h1, _⟩ := h
  intro H e
  rcases ex_t e h1 with q | ⟨o, its, n, hk, hc, _⟩
  · rcases q with q | ⟨o, q⟩
    · exact .base (.tup q)
    · exact .fTuple q
  · exact .kTuple hk hc
theorem ty_str {x : Str} {v : V} (h : (is (V.str x)).p G v) : (tyP K "str").p G v := fun H _ => by
  rw [show v = _ from h]
  exact .base (.str x)
theorem ty_int {x : Int} {v : V} (h : (is (V.int x)).p G v) : (tyP K "int").p G v := fun H _ => by
  rw [show v = _ from h]
  exact .base (.int x)
theorem ty_bl {x : Bool} {v : V} (h : (is (V.bl x)).p G v) : (tyP K "bool").p G v := fun H _ => by
  rw [show v = _ from h]
  exact .base (.bl x)
theorem ty_non {v : V} (h : (is V.non).p G v) : (tyP K "NoneType").p G v := fun H _ => by
  rw [show v = _ from h]
  exact .base .non
theorem z_isi {t u : String} {b : Bool} (h : Ez M S S1 (te σ) G (tyP K t)) (e : kitB t u = some b) : Ez M S S1 (tCB (rIsi K) (tCons te (tCons (tC (.ty u)) tNil)) σ) G (is (.bl b)) :=
  Ez.bind (g := fun x H Q => rIsi K [x, .ty u] H Q) h fun x G' _ c => fun G1 H e0 a s Q q => ⟨x, .ty u, .type t, .type u, b, rfl, .ty u, c H (e0.trans a.ex), kit_ty e, q _ G1 H (Nv.refl a.ex) s rfl⟩

/-! in, texts -/
theorem z_inS {c : Nat} {z : Str} {b : Bool} (ha : Ez M S S1 (ta σ) G (is (.str ⟨#[c]⟩))) (hb : Ez M S1 S2 (tb σ) G (is (.str z))) (e : decide (c ∈ z.cps.toList) = b) : Ez M S S2 (tOp rInS ta tb σ) G (is (.bl b)) :=
  z_opE ha hb fun G' => fun G1 H e0 a s Q q => ⟨c, z, rfl, rfl, q _ G1 H (Nv.refl a.ex) s (by rw [e]; rfl)⟩
theorem z_notInS {c : Nat} {z : Str} {b : Bool} (ha : Ez M S S1 (ta σ) G (is (.str ⟨#[c]⟩))) (hb : Ez M S1 S2 (tb σ) G (is (.str z))) (e : (!decide (c ∈ z.cps.toList)) = b) : Ez M S S2 (tOp rNotInS ta tb σ) G (is (.bl b)) :=
  z_opE ha hb fun G' => fun G1 H e0 a s Q q => ⟨c, z, rfl, rfl, q _ G1 H (Nv.refl a.ex) s (by rw [e]; rfl)⟩
theorem z_inL {neg : Bool} {x : V} {xs : List V} {b : Bool} (ha : Ez M S S1 (ta σ) G (is x)) (hb : Ez M S1 S2 (tb σ) G (lstP K (is xs))) (fx : flatV x = true) (fs : xs.all flatV = true) (e : (if neg then !inV x xs else inV x xs) = b) : Ez M S S2 (tOp (rIn K neg) ta tb σ) G (is (.bl b)) :=
  z_op ha hb fun x' y G' e1 a b => fun G1 H e0 at' s Q q => by
    obtain ⟨p, ys, rfl, h1, h2⟩ := b
    have h2 : ys = xs := h2
    have a : x' = x := a
    subst h2 a
    exact ⟨p, ys, rfl, .inl (ex_l (e0.trans at'.ex) h1), fx, fs, q _ G1 H (Nv.refl at'.ex) s (by rw [e]; rfl)⟩
theorem z_inT {neg : Bool} {x : V} {xs : List V} {b : Bool} (ha : Ez M S S1 (ta σ) G (is x)) (hb : Ez M S1 S2 (tb σ) G (tupP K (is xs))) (fx : flatV x = true) (fs : xs.all flatV = true) (e : (if neg then !inV x xs else inV x xs) = b) : Ez M S S2 (tOp (rIn K neg) ta tb σ) G (is (.bl b)) :=
  z_op ha hb fun x' y G' e1 a b => fun G1 H e0 at' s Q q => by
    obtain ⟨p, ys, rfl, h1, h2⟩ := b
    have h2 : ys = xs := h2
    have a : x' = x := a
    subst h2 a
    exact ⟨p, ys, rfl, .inr (ex_t (e0.trans at'.ex) h1), fx, fs, q _ G1 H (Nv.refl at'.ex) s (by rw [e]; rfl)⟩
theorem z_disp {x : V} {xs : List V} {tr : TA} (h : Ez M S S1 (te σ) G (is x)) (hr : Ez M S1 S2 (tr σ) G (is xs)) : Ez M S S2 (tCons te tr σ) G (is (x :: xs)) := z_consG h hr fun G' x' xs' _ a b => by
  rw [show x' = x from a, show xs' = xs from b]
  rfl
abbrev rAddS : R2 := fun x y H Q => ∃ i j : Str, x = .str i ∧ y = .str j ∧ i.length + j.length ≤ sizeLine ∧ Q (.str (i ++ j)) H
theorem z_addS {x y z : Str} (ha : Ez M S S1 (ta σ) G (is (.str x))) (hb : Ez M S1 S2 (tb σ) G (is (.str y))) (hz : x.length + y.length ≤ sizeLine) (e : x ++ y = z) : Ez M S S2 (tOp rAddS ta tb σ) G (is (.str z)) :=
  z_opE ha hb fun G' => fun G1 H e0 a s Q q => ⟨x, y, rfl, rfl, hz, q _ G1 H (Nv.refl a.ex) s (by rw [e]; rfl)⟩
abbrev rLeS : R2 := fun x y H Q => ∃ i j : Str, x = .str i ∧ y = .str j ∧ Q (.bl (!decide (j.cps.toList < i.cps.toList))) H
theorem z_leS {x y : Str} {b : Bool} (ha : Ez M S S1 (ta σ) G (is (.str x))) (hb : Ez M S1 S2 (tb σ) G (is (.str y))) (e : (!decide (y.cps.toList < x.cps.toList)) = b) : Ez M S S2 (tOp rLeS ta tb σ) G (is (.bl b)) :=
  z_opE ha hb fun G' => fun G1 H e0 a s Q q => ⟨x, y, rfl, rfl, q _ G1 H (Nv.refl a.ex) s (by rw [e]; rfl)⟩
theorem z_chainS {x y z : Str} {b : Bool} (ha : Ez M S S (ta σ) G (is (.str x))) (hb : Ez M S S (tb σ) G (is (.str y))) (hc : Ez M S S (tc σ) G (is (.str z))) (e : ((!decide (y.cps.toList < x.cps.toList)) && !decide (z.cps.toList < y.cps.toList)) = b) : Ez M S S (tChain rLeS rLeS ta tb tc σ) G (is (.bl b)) := fun G1 H e0 a s Q q =>
  ha G1 H e0 a s _ fun v G2 H2 n2 s2 c2 => hb G2 H2 (e0.trans n2.gg) (a.nv n2) s2 _ fun u G3 H3 n3 s3 c3 => by
    have c2 : v = _ := c2
    have c3 : u = _ := c3
    subst c2 c3
    refine ⟨x, y, rfl, rfl, _, rfl, ?_⟩
    cases hk : decide (y.cps.toList < x.cps.toList) with
    | true =>
      rw [hk] at e
      exact L2.iteF (q _ G3 H3 (n2.trans n3) s3 (by rw [← e]; rfl))
    | false =>
      rw [hk] at e
      exact L2.iteT (hc G3 H3 ((e0.trans n2.gg).trans n3.gg) ((a.nv n2).nv n3) s3 _ fun w G4 H4 n4 s4 c4 => by
        have c4 : w = _ := c4
        subst c4
        exact ⟨y, z, rfl, rfl, q _ G4 H4 ((n2.trans n3).trans n4) s4 (by rw [← e]; rfl)⟩)
/-- list + list -/
theorem l_cat {B2 B3 : Pd (List V)} (ha : Ez M S S1 (ta σ) G (exP B)) (hb : Ez M S1 S2 (tb σ) G (exP B2)) (st : Stb M S2) (hl : ∀ G' xs ys, B.p G' xs → B2.p G' ys → xs.length + ys.length ≤ sizeLine ∧ B3.p G' (xs ++ ys)) : Lz (M := M) S S2 (tOp rCat ta tb σ) G B3 := fun G1 H e0 a s Q q =>
  ha G1 H e0 a s _ fun v G2 H2 n2 s2 c2 => hb G2 H2 (e0.trans n2.gg) (a.nv n2) s2 _ fun u G3 H3 n3 s3 c3 => by
    obtain ⟨p, xs, rfl, h1, h2⟩ := (exP B).mono n3.gg c2
    obtain ⟨r, ys, rfl, h3, h4⟩ := c3
    have nn := n2.trans n3
    obtain ⟨l1, l2⟩ := hl G3 xs ys h2 h4
    exact ⟨p, r, xs, ys, rfl, rfl, n3.gh _ _ h1, n3.gh _ _ h3, l1, fun l hn => q l _ G3 _ (nn.trans (Nv.put n3.gh hn)) (nn.new hn) (fresh_back n3.gh hn) upd_same (st (Ex.refl _) ((a.nv nn).new hn) s3) l2⟩
theorem l_catD {d1 d2 : List PyData} (ha : Ez M S S1 (ta σ) G (exP (dats K d1))) (hb : Ez M S1 S2 (tb σ) G (exP (dats K d2))) (st : Stb M S2) (hl : d1.length + d2.length ≤ sizeLine) : Lz (M := M) S S2 (tOp rCat ta tb σ) G (dats K (d1 ++ d2)) :=
  l_cat ha hb st fun G' xs ys h1 h2 => ⟨by rw [da_len h1, da_len h2]; exact hl, da_app h1 h2⟩
theorem l_rep {xs : List V} {k : Int} (ha : Ez M S S1 (ta σ) G (exP (is xs))) (hb : Ez M S1 S2 (tb σ) G (is (.int k))) (st : Stb M S2) (hk : -(2 ^ 63) ≤ k ∧ k < 2 ^ 63) (hz : xs.length * k.toNat ≤ sizeLine) : Lz (M := M) S S2 (tOp rRep ta tb σ) G (is (List.replicate k.toNat xs).flatten) := fun G1 H e0 a s Q q =>
  ha G1 H e0 a s _ fun v G2 H2 n2 s2 c2 => hb G2 H2 (e0.trans n2.gg) (a.nv n2) s2 _ fun u G3 H3 n3 s3 c3 => by
    obtain ⟨p, xs', rfl, h1, h2⟩ := (exP (is xs)).mono n3.gg c2
    have h2 : xs' = xs := h2
    have c3 : u = _ := c3
    subst h2 c3
    have nn := n2.trans n3
    exact ⟨p, k, xs', rfl, rfl, n3.gh _ _ h1, hk.1, hk.2, hz, fun l hn => q l _ G3 _ (nn.trans (Nv.put n3.gh hn)) (nn.new hn) (fresh_back n3.gh hn) upd_same (st (Ex.refl _) ((a.nv nn).new hn) s3) rfl⟩
theorem Lz.iz {f : Hp → VK → Prop} {x y : List V} (h : Lz (M := M) S S1 f G (is x)) (e : x = y) : Lz (M := M) S S1 f G (is y) := e ▸ h
/-- slices of lists -/
def optIs (o : Option Int) : Pd (Option Int) := is o
theorem zo_none : Ez M S S (tNoPart σ) G (is none) := fun G1 H e0 a s Q q => q _ G1 H (Nv.refl a.ex) s rfl
theorem zo_some {i : Int} (h : Ez M S S1 (te σ) G (is (.int i))) : Ez M S S1 (tPart te σ) G (is (some i)) := Ez.bind (g := fun (x : V) (H1 : Hp) (Q : Option Int → Hp → Prop) => ∃ i, x = V.int i ∧ Q (some i) H1) (D := is (some i)) h fun x G' _ c => fun G1 H e0 a s Q q => ⟨i, (show x = V.int i from c), q _ G1 H (Nv.refl a.ex) s rfl⟩
theorem l_slice {S3 : Hf} {lo hi : Option Int} {B2 : Pd (List V)} (h : Ez M S S1 (te σ) G (lstP K B)) (h1 : Ez M S1 S2 (tl σ) G (is lo)) (h2 : Ez M S2 S3 (th σ) G (is hi)) (st : Stb M S3) (hB : ∀ G' xs, B.p G' xs → B2.p G' (cutV xs lo hi)) : Lz (M := M) S S3 (tSl (rSlL K) te tl th σ) G B2 := fun G1 H e0 a s Q q =>
  h G1 H e0 a s _ fun v G2 H2 n2 s2 c2 => h1 G2 H2 (e0.trans n2.gg) (a.nv n2) s2 _ fun l G3 H3 n3 s3 c3 => h2 G3 H3 ((e0.trans n2.gg).trans n3.gg) ((a.nv n2).nv n3) s3 _ fun u G4 H4 n4 s4 c4 => by
    obtain ⟨p, xs, rfl, q1, q2⟩ := (lstP K B).mono (n3.gg.trans n4.gg) c2
    have c3 : l = lo := c3
    have c4 : u = hi := c4
    subst c3 c4
    have nn := (n2.trans n3).trans n4
    exact ⟨p, xs, rfl, ex_l n4.gh q1, fun r hn => q r _ G4 _ (nn.trans (Nv.put n4.gh hn)) (nn.new hn) (fresh_back n4.gh hn) upd_same (st (Ex.refl _) ((a.nv nn).new hn) s4) (hB G4 xs q2)⟩
theorem da_cut {G : Hp} {xs : List V} {ds : List PyData} (h : DpAll K G xs ds) (lo hi : Option Int) : DpAll K G (cutV xs lo hi) ((ds.drop (HT.sIx ds.length 0 lo)).take (HT.sIx ds.length ds.length hi - HT.sIx ds.length 0 lo)) := by
  unfold cutV
  rw [da_len h]
  exact da_take _ (da_drop _ h)
/-- dicts of scalars -/
theorem z_dget {kvs : List (Key × V)} {k : Key} {y v : V} (hd : Ez M S S1 (td σ) G (dK kvs)) (hy : Ez M S1 S2 (ty σ) G (is y)) (hk : y = kV k) (h : valV kvs k = some v) : Ez M S S2 (tDGet td ty σ) G (is v) := fun G1 H e0 a s Q q =>
  hd G1 H e0 a s _ fun x G2 H2 n2 s2 ⟨p, hx, hp⟩ => hy G2 H2 (e0.trans n2.gg) (a.nv n2) s2 _ fun y' G3 H3 n3 s3 c3 => by
    have c3 : y' = y := c3
    subst c3
    exact ⟨p, v, hx, .inl ⟨kvs, k, .inl (n3.gh _ _ (n3.gg _ _ hp)), hk, h.symm⟩, q _ G3 H3 (n2.trans n3) s3 rfl⟩
theorem z_din {kvs : List (Key × V)} {k : Key} {y : V} {b : Bool} (hy : Ez M S S1 (ty σ) G (is y)) (hd : Ez M S1 S2 (td σ) G (dK kvs)) (hk : y = kV k) (h : (valV kvs k).isSome = b) : Ez M S S2 (tDIn ty td σ) G (is (.bl b)) := fun G1 H e0 a s Q q =>
  hy G1 H e0 a s _ fun y' G2 H2 n2 s2 c2 => hd G2 H2 (e0.trans n2.gg) (a.nv n2) s2 _ fun x G3 H3 n3 s3 ⟨p, hx, hp⟩ => by
    have c2 : y' = y := c2
    subst c2
    exact ⟨p, _, hx, .inl ⟨kvs, k, .inl (n3.gh _ _ hp), hk, rfl⟩, q _ G3 H3 (n2.trans n3) s3 (by rw [h]; rfl)⟩
theorem z_join {ys : List Str} {x : Str} {r : Str} (ha : Ez M S S1 (ta σ) G (is (.str x))) (hb : Ez M S1 S2 (tb σ) G (dat K (.list (ys.map .str)))) (hz : (ys.map (·.length)).sum + ys.length * x.length ≤ 16777216) (e : Txt.join x ys = r) : Ez M S S2 (tM1 (rJoin K) ta tb σ) G (is (.str r)) := fun G1 H e0 a s Q q =>
  ha G1 H e0 a s _ fun v G2 H2 n2 s2 c2 => ⟨⟨x, c2⟩, hb G2 H2 (e0.trans n2.gg) (a.nv n2) s2 _ fun u G3 H3 n3 s3 c3 => by
    obtain ⟨p, xs, rfl, h1, h2⟩ := dp_list c3
    have := da_strs h2
    subst this
    exact ⟨x, p, ys, c2, rfl, .inl (ex_l n3.gh h1), hz, q _ G3 H3 (n2.trans n3) s3 (by rw [e]; rfl)⟩⟩
theorem z_isN {x : V} {b : Bool} (h : Ez M S S1 (te σ) G (is x)) (e : decide (x = .non) = b) : Ez M S S1 (tOp (fun x y H Q => y = .non ∧ Q (.bl (decide (x = .non))) H) te (tC .non) σ) G (is (.bl b)) :=
  z_opE h (z_c rfl) fun G' => fun G1 H e0 a s Q q => ⟨rfl, q _ G1 H (Nv.refl a.ex) s (by rw [e]; rfl)⟩
end
end QX

/-! How the mathematics stands as data. -/
namespace QD
open PySem L2 Evl QV QU QX QB QT
def chr (c : Nat) : Str := ⟨#[c]⟩
def lnS (l : Ln) : Str := ⟨l.toArray⟩
def rngD (r : Nat × Nat) : PyData := .tuple [.str (chr r.1), .str (chr r.2)]
def entF : Ent → List PyData
  | .one c => [.str "one", .str (chr c)]
  | .any => [.str "any"]
  | .lot => [.str "lot"]
  | .of neg rs => [.str "of", .bool neg, .list (rs.map rngD)]
def entD (e : Ent) : PyData := .tuple (entF e)
def patD (p : Pat) : PyData := .list (p.map entD)
def filF : Fil → List PyData
  | .keep p => [.str "keep", patD p]
  | .drop p => [.str "drop", patD p]
  | .swap ps => [.str "swap", .list (ps.map rngD)]
  | .first n => [.str "first", .int n]
def filD (f : Fil) : PyData := .tuple (filF f)
def rowD (r : Row) : PyData := .list (r.map filD)
def lineD (l : Ln) : PyData := .str (lnS l)
def linesD (L : List Ln) : PyData := .list (L.map lineD)
def boolsD (b : List Bool) : PyData := .tuple (b.map .bool)

def Mk (c : Nat) : Prop := c = 10 ∨ Sgn c
def EntOk : Ent → Prop
  | .one c => Sgn c
  | .any => True
  | .lot => True
  | .of _ rs => rs ≠ [] ∧ rs.length ≤ 6 ∧ ∀ r ∈ rs, Mk r.1 ∧ Mk r.2 ∧ r.1 ≤ r.2
def PatOk (p : Pat) : Prop := ∀ e ∈ p, EntOk e
def FilOk : Fil → Prop
  | .keep p => PatOk p ∧ p.length ≤ 3
  | .drop p => PatOk p ∧ p.length ≤ 3
  | .swap ps => ps ≠ [] ∧ ps.length ≤ 26 ∧ (ps.map (·.1)).Nodup ∧ ∀ r ∈ ps, Sgn r.1 ∧ Sgn r.2
  | .first n => n ≤ 3
def RowOk (r : Row) : Prop := ∀ f ∈ r, FilOk f

theorem marks_cps : marksT.cps.toList = 10 :: sgs := by decide +kernel
theorem line_cps : lineT.cps.toList = sgs := by decide +kernel
theorem in_marks {c : Nat} (h : Mk c) : decide (c ∈ marksT.cps.toList) = true := by
  rw [marks_cps]
  apply decide_eq_true
  rcases h with h | h
  · exact List.mem_cons.mpr (.inl h)
  · exact List.mem_cons.mpr (.inr (mem_sgs.mpr h))
theorem in_line {c : Nat} (h : Sgn c) : decide (c ∈ lineT.cps.toList) = true := by
  rw [line_cps]
  exact decide_eq_true (mem_sgs.mpr h)
theorem chr_inj {c d : Nat} : chr c = chr d ↔ c = d := by
  unfold chr
  constructor
  · intro h
    injection h with h
    simpa using h
  · intro h
    rw [h]
theorem eq_chr (c d : Nat) : decide (V.str (chr c) = V.str (chr d)) = decide (c = d) := by
  by_cases h : c = d
  · subst h
    simp
  · rw [decide_eq_false h]
    apply decide_eq_false
    intro e
    injection e with e
    exact h (chr_inj.mp e)
theorem le_chr (c d : Nat) : (!decide ((chr d).cps.toList < (chr c).cps.toList)) = decide (c ≤ d) := by
  have : ((chr d).cps.toList < (chr c).cps.toList) ↔ d < c := by
    unfold chr
    simp [List.cons_lt_cons_iff]
  by_cases h : d < c
  · rw [decide_eq_true (this.mpr h), decide_eq_false (by omega)]
    rfl
  · rw [decide_eq_false (fun q => h (this.mp q)), decide_eq_true (by omega)]
    rfl

/-! ### ifs whose test is known -/
section
variable {K : PySem.W.Frag} {M M0 : List Addr} {G0 H0 G H : Hp} {D : Ends} {σ : L2.St} {t : TT} {tu tw : TS}
theorem s_ifT (h : Pz (t σ) G (is true)) (n : Nv M0 G0 H0 G H) (k : ∀ G2 H2, Nv [] G H G2 H2 → Nv M0 G0 H0 G2 H2 → tu D σ H2) : tIfS t tu tw D σ H := s_if h n (fun _ => k) fun z => by cases z
theorem s_ifF (h : Pz (t σ) G (is false)) (n : Nv M0 G0 H0 G H) (k : ∀ G2 H2, Nv [] G H G2 H2 → Nv M0 G0 H0 G2 H2 → tw D σ H2) : tIfS t tu tw D σ H := s_if h n (fun z => by cases z) fun _ => k
end
/-- the tag of a tuple against a text -/
theorem zt_tag {K : PySem.W.Frag} {M : List Addr} {S : Hf} {σ : L2.St} {G : Hp} {i : Nat} {v : V} {t u : Str} {ds : List PyData} {b : Bool} (hi : σ[i]? = some (some v)) (hv : Dp K G v (.tuple (.str t :: ds))) (e : decide (V.str t = V.str u) = b) :
    Ez M S S (tTest (tOp rEq (tOp (rIxT K) (tVar i) (tC (.int 0))) (tC (.str u))) σ) G (is b) :=
  zt_test (z_opEq (z_str (z_ixDT (ds := .str t :: ds) (i := 0) (z_var hi hv) (z_c rfl) rfl)) (z_c rfl) rfl e)
theorem zt_tagN {K : PySem.W.Frag} {M : List Addr} {S : Hf} {σ : L2.St} {G : Hp} {i : Nat} {v : V} {t u : Str} {ds : List PyData} {b : Bool} (hi : σ[i]? = some (some v)) (hv : Dp K G v (.tuple (.str t :: ds))) (e : (!decide (V.str t = V.str u)) = b) :
    Ez M S S (tTest (tOp rNe (tOp (rIxT K) (tVar i) (tC (.int 0))) (tC (.str u))) σ) G (is b) :=
  zt_test (z_opNe (z_str (z_ixDT (ds := .str t :: ds) (i := 0) (z_var hi hv) (z_c rfl) rfl)) (z_c rfl) rfl e)
def tagOf : Ent → Str
  | .one _ => "one"
  | .any => "any"
  | .lot => "lot"
  | .of _ _ => "of"
def restOf (e : Ent) : List PyData := (entF e).drop 1
theorem entD_tag (e : Ent) : entD e = .tuple (.str (tagOf e) :: restOf e) := by cases e <;> rfl
theorem lot_tag : (e : Ent) → decide (V.str (tagOf e) = V.str "lot") = e.isLot
  | .one _ => (by decide +kernel : decide (V.str "one" = V.str "lot") = false)
  | .any => (by decide +kernel : decide (V.str "any" = V.str "lot") = false)
  | .lot => (by decide +kernel : decide (V.str "lot" = V.str "lot") = true)
  | .of _ _ => (by decide +kernel : decide (V.str "of" = V.str "lot") = false)
end QD

/-! Comprehensions over data. -/
namespace QD
open PySem L2 Evl QV QU QX QB QT
section
variable {K : PySem.W.Frag} {M M0 : List Addr} {G0 H0 G H : Hp} {D : Ends} {σ : L2.St} {tl te : TE} {tt : TT} {g : TG} {vs : List Nat} {α : Type}
theorem s_next (h : D.nx σ H) : tNext D σ H := h
/-- over a list of data -/
theorem l_fm (l : List α) (d : α → PyData) (r : α → Option PyData) (h : Ez [] Tr Tr (tl σ) G (dat K (.list (l.map d)))) (hn : l.length ≤ 1000000)
    (k : ∀ a x G1, a ∈ l → Ex G G1 → Dp K G1 x (d a) → Pz (turn g tt te vs x σ) G1 (oD K (r a))) : Lz (M := []) Tr Tr (tLc (iList K tl) g tt te vs σ) G (dats K (l.filterMap r)) :=
  Lz.to (l_flt (fun i => l[i]?.bind r) (wk_list (z_lst h)) (by rw [List.length_map]; exact hn) fun i x G1 hi e ⟨d', hd', hx⟩ => by
    rw [List.getElem?_map] at hd'
    obtain ⟨a, ha, rfl⟩ := Option.map_eq_some_iff.mp hd'
    rw [ha]
    exact k a x G1 (List.mem_of_getElem? ha) e hx) fun G' xs _ c => by
      rw [List.length_map, filterMap_range] at c
      exact c
/-- over a text -/
theorem l_fmS (x : Str) (r : Nat → Option PyData) (h : Ez [] Tr Tr (tl σ) G (is (.str x))) (hn : x.cps.size ≤ 1000000)
    (k : ∀ c G1, c ∈ x.cps.toList → Ex G G1 → Pz (turn g tt te vs (.str (chr c)) σ) G1 (oD K (r c))) : Lz (M := []) Tr Tr (tLc (iStr tl) g tt te vs σ) G (dats K (x.cps.toList.filterMap r)) :=
  Lz.to (l_flt (fun i => x.cps.toList[i]?.bind r) (wk_str h) hn fun i v G1 hi e ⟨c, hc, hx⟩ => by
    have hc' : x.cps.toList[i]? = some c := by rw [Array.getElem?_toList]; exact hc
    rw [hc', hx]
    exact k c G1 (List.mem_of_getElem? hc') e) fun G' xs _ c => by
      have : x.cps.size = x.cps.toList.length := by simp
      rw [this, filterMap_range] at c
      exact c
/-- over a range -/
theorem l_fmR (n : Nat) (r : Nat → Option PyData) (h : Ez [] Tr Tr (tl σ) G (is (.int (n : Nat)))) (hn : n ≤ 1000000)
    (k : ∀ i G1, i < n → Ex G G1 → Pz (turn g tt te vs (.int (i : Nat)) σ) G1 (oD K (r i))) : Lz (M := []) Tr Tr (tLc (iRng1 (tCons tl tNil)) g tt te vs σ) G (dats K ((List.range n).filterMap r)) :=
  l_flt r (wk_rangeN h (by omega)) hn fun i v G1 hi e hx => by
    have hx : v = .int (i : Nat) := hx
    rw [hx]
    exact k i G1 hi e
theorem fm_some (l : List α) (r : α → PyData) : l.filterMap (fun a => some (r a)) = l.map r := by
  rw [← List.filterMap_eq_map]
  rfl
theorem turn_two {i j : Nat} {x : V} {A B : Pd V} {b : Bool} {d : PyData} (hx : (tupP K (consP A (consP B (is [])))).p G x) (hw : ∀ u v, wipe (((wipe σ vs).set i (some u)).set j (some v)) vs = wipe σ vs)
    (ht : ∀ u v G1, Ex G G1 → A.p G1 u → B.p G1 v → Pz (tt (((wipe σ vs).set i (some u)).set j (some v))) G1 (is b)) (he : b = true → ∀ u v G1, Ex G G1 → A.p G1 u → B.p G1 v → Pz (te (((wipe σ vs).set i (some u)).set j (some v))) G1 (dat K d)) :
    Pz (turn (gTup K 2 (gCons (gName i) (gCons (gName j) gNil))) tt te vs x σ) G (oD K (if b = true then some d else none)) := fun G1 H e a s Q q =>
  g_two ((tupP K _).mono e hx) a.ex fun u v hu hv => ⟨hw u v, ht u v G1 e hu hv G1 H (Ex.refl _) a s _ fun bb G2 H2 n s2 c => by
    have c' : bb = b := c
    subst c'
    cases bb with
    | true =>
      rw [if_pos rfl] at q ⊢
      exact he rfl u v G2 (e.trans n.gg) (A.mono n.gg hu) (B.mono n.gg hv) G2 H2 (Ex.refl _) (a.nv n) s2 _ fun y G3 H3 n3 s3 c3 => q (some y) G3 H3 (n.trans n3) s3 ⟨y, rfl, c3⟩
    | false =>
      rw [if_neg Bool.false_ne_true] at q ⊢
      exact q none G2 H2 n s2 rfl⟩
theorem turn_twoA {i j : Nat} {x : V} {A B : Pd V} {d : PyData} (hx : (tupP K (consP A (consP B (is [])))).p G x) (hw : ∀ u v, wipe (((wipe σ vs).set i (some u)).set j (some v)) vs = wipe σ vs)
    (he : ∀ u v G1, Ex G G1 → A.p G1 u → B.p G1 v → Pz (te (((wipe σ vs).set i (some u)).set j (some v))) G1 (dat K d)) :
    Pz (turn (gTup K 2 (gCons (gName i) (gCons (gName j) gNil))) tYes te vs x σ) G (oD K (some d)) := turn_two (b := true) hx hw (fun u v G1 _ _ _ => fun G2 H e a s Q q => q true G2 H (Nv.refl a.ex) s rfl) fun _ => he
theorem turn_three {i j l : Nat} {x : V} {A B C : Pd V} {b : Bool} {d : PyData} (hx : (tupP K (consP A (consP B (consP C (is []))))).p G x) (hw : ∀ u v w, wipe ((((wipe σ vs).set i (some u)).set j (some v)).set l (some w)) vs = wipe σ vs)
    (ht : ∀ u v w G1, Ex G G1 → A.p G1 u → B.p G1 v → C.p G1 w → Pz (tt ((((wipe σ vs).set i (some u)).set j (some v)).set l (some w))) G1 (is b)) (he : b = true → ∀ u v w G1, Ex G G1 → A.p G1 u → B.p G1 v → C.p G1 w → Pz (te ((((wipe σ vs).set i (some u)).set j (some v)).set l (some w))) G1 (dat K d)) :
    Pz (turn (gTup K 3 (gCons (gName i) (gCons (gName j) (gCons (gName l) gNil)))) tt te vs x σ) G (oD K (if b = true then some d else none)) := fun G1 H e a s Q q =>
  g_three ((tupP K _).mono e hx) a.ex fun u v w hu hv hww => ⟨hw u v w, ht u v w G1 e hu hv hww G1 H (Ex.refl _) a s _ fun bb G2 H2 n s2 c => by
    have c' : bb = b := c
    subst c'
    cases bb with
    | true =>
      rw [if_pos rfl] at q ⊢
      exact he rfl u v w G2 (e.trans n.gg) (A.mono n.gg hu) (B.mono n.gg hv) (C.mono n.gg hww) G2 H2 (Ex.refl _) (a.nv n) s2 _ fun y G3 H3 n3 s3 c3 => q (some y) G3 H3 (n.trans n3) s3 ⟨y, rfl, c3⟩
    | false =>
      rw [if_neg Bool.false_ne_true] at q ⊢
      exact q none G2 H2 n s2 rfl⟩
theorem zt_yes : Pz (tYes σ) G (is true) := fun G2 H e a s Q q => q true G2 H (Nv.refl a.ex) s rfl

/-! ### a statement ahead of others -/
variable {S S1 : Hf} {C : Pd V} {t : TT} {tu tw tv : TS}
theorem q_asg {i : Nat} (h : Pz (te σ) G C) (n : Nv M0 G0 H0 G H) (k : ∀ v G2 H2, Nv [] G H G2 H2 → Nv M0 G0 H0 G2 H2 → C.p G2 v → tw D (σ.set i (some v)) H2) : tSeq (tAsg te (gName i)) tw D σ H := Pz.run h n k
theorem q_asgM {i : Nat} (h : Ez M S S1 (te σ) G C) (n : Nv M0 G0 H0 G H) (hM : Sub M M0 H0) (a : At M G H) (s : S G H) (k : ∀ v G2 H2, Nv M G H G2 H2 → Nv M0 G0 H0 G2 H2 → At M G2 H2 → S1 G2 H2 → C.p G2 v → tw D (σ.set i (some v)) H2) : tSeq (tAsg te (gName i)) tw D σ H := Ez.run h n hM a s k
theorem q_asgL {i : Nat} {B : Pd (List V)} (h : Lz (M := []) Tr Tr (te σ) G B) (n : Nv M0 G0 H0 G H)
    (k : ∀ l xs G2 H2, Nv [] G H G2 H2 → Nv M0 G0 H0 G2 H2 → H l = none → Lc H0 G2 H2 l xs → B.p G2 xs → tw D (σ.set i (some (.ref l))) H2) : tSeq (tAsg te (gName i)) tw D σ H := Lz.run h n sub0 (At.pure n.gh) True.intro fun l xs G2 H2 n1 n2 _ _ h1 h2 h3 => k l xs G2 H2 n1 n2 h1 h2 h3
theorem q_skip (h : Pz (t σ) G (is false)) (n : Nv M0 G0 H0 G H) (k : ∀ G2 H2, Nv [] G H G2 H2 → Nv M0 G0 H0 G2 H2 → tw D σ H2) : tSeq (tIfS t tu tNext) tw D σ H := s_ifF h n k
theorem q_then (h : Pz (t σ) G (is true)) (n : Nv M0 G0 H0 G H) (k : ∀ G2 H2, Nv [] G H G2 H2 → Nv M0 G0 H0 G2 H2 → tu { D with nx := tw D } σ H2) : tSeq (tIfS t tu tv) tw D σ H := s_ifT h n k
theorem q_else (h : Pz (t σ) G (is false)) (n : Nv M0 G0 H0 G H) (k : ∀ G2 H2, Nv [] G H G2 H2 → Nv M0 G0 H0 G2 H2 → tv { D with nx := tw D } σ H2) : tSeq (tIfS t tu tv) tw D σ H := s_ifF h n k
theorem q_if {b : Bool} (h : Pz (t σ) G (is b)) (n : Nv M0 G0 H0 G H) (k1 : b = true → ∀ G2 H2, Nv [] G H G2 H2 → Nv M0 G0 H0 G2 H2 → tu { D with nx := tw D } σ H2) (k2 : b = false → ∀ G2 H2, Nv [] G H G2 H2 → Nv M0 G0 H0 G2 H2 → tw D σ H2) : tSeq (tIfS t tu tNext) tw D σ H := s_if h n k1 k2
theorem q_app {i : Nat} {l : Addr} {xs : List V} (hi : σ[i]? = some (some (.ref l))) (lc : Lc H0 G H l xs) (hz : xs.length < sizeLine) (h : Pz (te σ) G C) (n : Nv M0 G0 H0 G H)
    (k : ∀ v G2 H2, Nv [l] G H G2 H2 → Nv M0 G0 H0 G2 H2 → Lc H0 G2 H2 l (xs ++ [v]) → C.p G2 v → tw D σ H2) : tSeq (tDrop (tBM K "list" rAppend (tVar i) (tCons te tNil))) tw D σ H :=
  s_app hi lc hz h n sub0 (At.pure n.gh) True.intro (by simp) fun v G2 H2 n1 n2 _ _ lc2 c => k v G2 H2 n1 n2 lc2 c
theorem e_app {i : Nat} {l : Addr} {xs : List V} (hi : σ[i]? = some (some (.ref l))) (lc : Lc H0 G H l xs) (hz : xs.length < sizeLine) (h : Pz (te σ) G C) (n : Nv M0 G0 H0 G H)
    (k : ∀ v G2 H2, Nv [l] G H G2 H2 → Nv M0 G0 H0 G2 H2 → Lc H0 G2 H2 l (xs ++ [v]) → C.p G2 v → D.nx σ H2) : tDrop (tBM K "list" rAppend (tVar i) (tCons te tNil)) D σ H :=
  s_app hi lc hz h n sub0 (At.pure n.gh) True.intro (by simp) fun v G2 H2 n1 n2 _ _ lc2 c => k v G2 H2 n1 n2 lc2 c
/-- calls by their arguments -/
theorem z_call1 {pre : List V → Hp → Pd V → Prop} {E : XK} {A : Pd V} {t1 : TE} (h : Ez M S S1 (t1 σ) G A) (st : Stb M S1) (hp : ∀ x G', Ex G G' → A.p G' x → pre [x] G' C) : Ez M S S1 (tCall (spP pre) [] E (tCons t1 tNil) σ) G C :=
  z_call (B := consP A (is [])) (z_cons h z_nil) st fun vs G' e ⟨x, xs, hv, hx, hs⟩ => by
    have hs : xs = [] := hs
    subst hv hs
    exact hp x G' e hx
theorem z_call2 {pre : List V → Hp → Pd V → Prop} {E : XK} {A B : Pd V} {S2 : Hf} {t1 t2 : TE} (h : Ez M S S1 (t1 σ) G A) (h2 : Ez M S1 S2 (t2 σ) G B) (st : Stb M S2) (hp : ∀ x y G', Ex G G' → A.p G' x → B.p G' y → pre [x, y] G' C) : Ez M S S2 (tCall (spP pre) [] E (tCons t1 (tCons t2 tNil)) σ) G C :=
  z_call (B := consP A (consP B (is []))) (z_cons h (z_cons h2 z_nil)) st fun vs G' e ⟨x, xs, hv, hx, y, ys, hv2, hy, hs⟩ => by
    have hs : ys = [] := hs
    subst hv hv2 hs
    exact hp x y G' e hx hy
theorem z_call3 {pre : List V → Hp → Pd V → Prop} {E : XK} {A B D : Pd V} {S2 S3 : Hf} {t1 t2 t3 : TE} (h : Ez M S S1 (t1 σ) G A) (h2 : Ez M S1 S2 (t2 σ) G B) (h3 : Ez M S2 S3 (t3 σ) G D) (st : Stb M S3) (hp : ∀ x y z G', Ex G G' → A.p G' x → B.p G' y → D.p G' z → pre [x, y, z] G' C) : Ez M S S3 (tCall (spP pre) [] E (tCons t1 (tCons t2 (tCons t3 tNil))) σ) G C :=
  z_call (B := consP A (consP B (consP D (is [])))) (z_cons h (z_cons h2 (z_cons h3 z_nil))) st fun vs G' e ⟨x, xs, hv, hx, y, ys, hv2, hy, z, zs, hv3, hz, hs⟩ => by
    have hs : zs = [] := hs
    subst hv hv2 hv3 hs
    exact hp x y z G' e hx hy hz
theorem z_call0 {pre : List V → Hp → Pd V → Prop} {E : XK} (st : Stb M S) (hp : ∀ G', Ex G G' → pre [] G' C) : Ez M S S (tCall (spP pre) [] E tNil σ) G C :=
  z_call (B := is []) z_nil st fun vs G' e hs => by
    have hs : vs = [] := hs
    subst hs
    exact hp G' e
/-- all(f(x) for x in list) where each says yes -/
theorem z_allD {α : Type} {j : Nat} (l : List α) (d : α → PyData) (h : Ez [] Tr Tr (tl σ) G (dat K (.list (l.map d)))) (hn : l.length ≤ 1000000) (hw : ∀ x, wipe ((wipe σ vs).set j (some x)) vs = wipe σ vs)
    (k : ∀ a x G1, a ∈ l → Ex G G1 → Dp K G1 x (d a) → Pz (te ((wipe σ vs).set j (some x))) G1 (is (.bl true))) : Pz (tCB (rAll K) (tCons (tLc (iList K tl) (gName j) tYes te vs) tNil) σ) G (is (.bl true)) :=
  z_all (bs := l.map fun _ => true) (Lz.dat (Lz.to (l_fm l d (fun _ => some (.bool true)) h hn fun a x G1 ha e hx => turn_all (hw x) (dat_bool (k a x G1 ha e hx))) fun G' xs _ c => by
    rw [fm_some] at c
    rw [List.map_map]
    exact c) stb_tr) (by simp)
theorem z_anyN {α : Type} {j : Nat} (l : List α) (d : α → PyData) (h : Ez [] Tr Tr (tl σ) G (dat K (.list (l.map d)))) (hn : l.length ≤ 1000000) (hw : ∀ x, wipe ((wipe σ vs).set j (some x)) vs = wipe σ vs)
    (k : ∀ a x G1, a ∈ l → Ex G G1 → Dp K G1 x (d a) → Pz (te ((wipe σ vs).set j (some x))) G1 (is (.bl false))) : Pz (tCB (rAny K) (tCons (tLc (iList K tl) (gName j) tYes te vs) tNil) σ) G (is (.bl false)) :=
  z_any (bs := l.map fun _ => false) (Lz.dat (Lz.to (l_fm l d (fun _ => some (.bool false)) h hn fun a x G1 ha e hx => turn_all (hw x) (dat_bool (k a x G1 ha e hx))) fun G' xs _ c => by
    rw [fm_some] at c
    rw [List.map_map]
    exact c) stb_tr) (by simp)
/-- both ways lead to mid -/
theorem q_ifS {b : Bool} (mid : Hp → Hp → Prop) (h : Pz (t σ) G (is b)) (n : Nv M0 G0 H0 G H) (k1 : b = true → ∀ G2 H2, Nv [] G H G2 H2 → Nv M0 G0 H0 G2 H2 → (∀ G' H', mid G' H' → tw D σ H') → tu { D with nx := tw D } σ H2) (k2 : b = false → ∀ G2 H2, Nv [] G H G2 H2 → Nv M0 G0 H0 G2 H2 → mid G2 H2)
    (k3 : ∀ G' H', mid G' H' → tw D σ H') : tSeq (tIfS t tu tNext) tw D σ H := s_if h n (fun hb G2 H2 a2 n2 => k1 hb G2 H2 a2 n2 k3) fun hb G2 H2 a2 n2 => k3 G2 H2 (k2 hb G2 H2 a2 n2)
/-- the value read with the local list in view -/
theorem e_appK {i : Nat} {l : Addr} {xs : List V} {x : V} (hi : σ[i]? = some (some (.ref l))) (lc : Lc H0 G H l xs) (hz : xs.length < sizeLine) (h : Pz (te σ) (upd G l (.lst xs)) (is x)) (n : Nv M0 G0 H0 G H)
    (k : ∀ G2 H2, Nv [l] G H G2 H2 → Nv M0 G0 H0 G2 H2 → Lc H0 G2 H2 l (xs ++ [x]) → D.nx σ H2) : tDrop (tBM K "list" rAppend (tVar i) (tCons te tNil)) D σ H :=
  s_app hi lc hz (Pz.peek h) n sub0 (At.pure n.gh) lc.val (by simp) fun v G2 H2 n1 n2 _ _ lc2 c => k G2 H2 n1 n2 ((show v = x from c) ▸ lc2)
/-- xs[i] of the local list -/
theorem z_ixK {ta tb : TE} {l : Addr} {xs : List V} {i : Int} {v : V} (ha : Pz (ta σ) G (is (.ref l))) (hb : Pz (tb σ) G (is (.int i))) (h : SqL K G l xs) (e : atI xs i = some v) : Pz (tOp (rIxL K) ta tb σ) G (is v) :=
  z_op ha hb fun x y G' e1 a b => by
    have a : x = _ := a
    have b : y = _ := b
    subst a b
    exact z_ixL (ex_l e1 h) e rfl
/-- xs[i] = v of the local list -/
theorem e_setK {ti : TE} {j : Nat} {i : Nat} {k : Int} {l : Addr} {xs : List V} {x : V} (h : Pz (te σ) (upd G l (.lst xs)) (is x)) (hi : σ[i]? = some (some (.ref l))) (hk : Pz (ti σ) (upd G l (.lst xs)) (is (.int k))) (lc : Lc H0 G H l xs) (hj : ixN xs.length k = some j) (n : Nv M0 G0 H0 G H)
    (kk : ∀ G2 H2, Nv [l] G H G2 H2 → Nv M0 G0 H0 G2 H2 → Lc H0 G2 H2 l (xs.set j x) → D.nx σ H2) : tAsg te (gSub (tVar i) ti rSetL) D σ H :=
  Pz.runPeek (Q := fun v H1 => gSub (tVar i) ti rSetL v σ H1 D.nx) h lc n fun G2 H2 a2 n2 => ⟨.ref l, hi, by
    have lc2 := lc.nv a2
    have hk2 : Pz (ti σ) (upd G2 l (.lst xs)) (is (.int k)) := Ez.mono hk fun y o hy => by
      by_cases hx : y = l
      · subst hx
        rw [upd_same] at hy ⊢
        exact hy
      · rw [upd_ne hx] at hy ⊢
        exact a2.gg y o hy
    refine Pz.runPeek (Q := fun i H2 => rSetL (.ref l) i x H2 fun H3 => D.nx σ H3) hk2 lc2 n2 fun G3 H3 a3 n3 => ?_
    have lc3 := lc2.nv a3
    obtain ⟨q1, q2, q3⟩ := lc3.put (ys := xs.set j x) n3
    exact ⟨l, xs, k, j, rfl, rfl, lc3.val, hj, kk G3 _ (((a2.trans a3).mono fun x hx => by cases hx).trans q1) q2 q3⟩⟩
theorem z_peek {α : Type} {f : Hp → (α → Hp → Prop) → Prop} {x : α} {l : Addr} {xs : List V} (h : Pz f G (is x)) (lc : G l = none) : Pz f (upd G l (.lst xs)) (is x) := Ez.mono h (Ex.new lc)
/-- a test read with the local list in view -/
theorem s_ifK {t : TT} {tu tw : TS} {l : Addr} {xs : List V} {b : Bool} (h : Pz (t σ) (upd G l (.lst xs)) (is b)) (lc : Lc H0 G H l xs) (n : Nv M0 G0 H0 G H)
    (k1 : b = true → ∀ G2 H2, Nv [] G H G2 H2 → Nv M0 G0 H0 G2 H2 → tu D σ H2) (k2 : b = false → ∀ G2 H2, Nv [] G H G2 H2 → Nv M0 G0 H0 G2 H2 → tw D σ H2) : tIfS t tu tw D σ H :=
  Pz.runPeek (Q := fun b H1 => if b = true then tu D σ H1 else tw D σ H1) h lc n fun G2 H2 a2 n2 => by
    cases b with
    | true => exact L2.iteT (k1 rfl G2 H2 a2 n2)
    | false => exact L2.iteF (k2 rfl G2 H2 a2 n2)
/-- a loop, its source pure -/
theorem s_forP {wi : TI} {n : Nat} {B : Nat → Pd V} {tb : TS} (h : Wk [] Tr Tr (as n B) wi σ G) (nv : Nv M0 G0 H0 G H) (I : Nat → L2.St → Hp → Hp → Prop) (i0 : ∀ G2 H2, Nv [] G H G2 H2 → Nv M0 G0 H0 G2 H2 → I 0 σ G2 H2)
    (step : ∀ i σ1 G1 H1 x G2 H2, i < n → Nv M0 G0 H0 G1 H1 → Ex G G1 → I i σ1 G1 H1 → Nv [] G1 H1 G2 H2 → Nv M0 G0 H0 G2 H2 → (B i).p G2 x →
      g x σ1 H2 fun σ2 H3 => tb { D with nx := fun σ' H' => ∃ G', Nv M0 G0 H0 G' H' ∧ Ex G1 G' ∧ I (i + 1) σ' G' H', ct := fun σ' H' => ∃ G', Nv M0 G0 H0 G' H' ∧ Ex G1 G' ∧ I (i + 1) σ' G' H', bk := D.nx } σ2 H3)
    (done : ∀ σ1 G1 H1, Nv M0 G0 H0 G1 H1 → Ex G G1 → I n σ1 G1 H1 → D.nx σ1 H1) : tFor wi g tb D σ H :=
  s_for h nv sub0 (At.pure nv.gh) True.intro fun n' B' G2 H2 n1 n2 _ _ ⟨en, eB⟩ => by
    subst en eB
    exact ⟨I, i0 G2 H2 n1 n2, fun i σ1 G1 H1 x G3 H3 hi a1 a2 => step i σ1 G1 H1 x G3 H3 hi a1 (n1.gg.trans a2), fun σ1 G1 H1 a1 a2 => done σ1 G1 H1 a1 (n1.gg.trans a2)⟩
theorem q_forP {wi : TI} {n : Nat} {B : Nat → Pd V} {tb : TS} (h : Wk [] Tr Tr (as n B) wi σ G) (nv : Nv M0 G0 H0 G H) (I : Nat → L2.St → Hp → Hp → Prop) (i0 : ∀ G2 H2, Nv [] G H G2 H2 → Nv M0 G0 H0 G2 H2 → I 0 σ G2 H2)
    (step : ∀ i σ1 G1 H1 x G2 H2, i < n → Nv M0 G0 H0 G1 H1 → Ex G G1 → I i σ1 G1 H1 → Nv [] G1 H1 G2 H2 → Nv M0 G0 H0 G2 H2 → (B i).p G2 x →
      g x σ1 H2 fun σ2 H3 => tb { D with nx := fun σ' H' => ∃ G', Nv M0 G0 H0 G' H' ∧ Ex G1 G' ∧ I (i + 1) σ' G' H', ct := fun σ' H' => ∃ G', Nv M0 G0 H0 G' H' ∧ Ex G1 G' ∧ I (i + 1) σ' G' H', bk := tw D } σ2 H3)
    (done : ∀ σ1 G1 H1, Nv M0 G0 H0 G1 H1 → Ex G G1 → I n σ1 G1 H1 → tw D σ1 H1) : tSeq (tFor wi g tb) tw D σ H :=
  s_forP (D := { D with nx := tw D }) h nv I i0 step done
end
section
variable {K : PySem.W.Frag} {M : List Addr} {S S1 : Hf} {G : Hp} {f : Hp → VK → Prop} {ds : List PyData}
theorem z_tyL (h : Ez M S S1 f G (dat K (.list ds))) : Ez M S S1 f G (tyP K "list") := h.to fun _ _ _ c => ty_list (p_lst c)
theorem z_tyT (h : Ez M S S1 f G (dat K (.tuple ds))) : Ez M S S1 f G (tyP K "tuple") := h.to fun _ _ _ c => ty_tup (p_tpl c)
theorem z_tyS {x : Str} (h : Ez M S S1 f G (dat K (.str x))) : Ez M S S1 f G (tyP K "str") := h.to fun _ _ _ c => ty_str (dp_str c)
theorem z_tyI {x : Int} (h : Ez M S S1 f G (dat K (.int x))) : Ez M S S1 f G (tyP K "int") := h.to fun _ _ _ c => ty_int (dp_int c)
theorem z_tyB {x : Bool} (h : Ez M S S1 f G (dat K (.bool x))) : Ez M S S1 f G (tyP K "bool") := h.to fun _ _ _ c => ty_bl (dp_bool c)
theorem z_truL (h : Ez M S S1 f G (dat K (.list ds))) : Ez M S S1 f G (truP K (!decide (ds.length = 0))) := h.to fun _ _ _ c => tru_list (p_lst c)
theorem z_truT (h : Ez M S S1 f G (dat K (.tuple ds))) : Ez M S S1 f G (truP K (!decide (ds.length = 0))) := h.to fun _ _ _ c => tru_tup (p_tpl c)
theorem z_eqD {M : List Addr} {S S1 S2 : Hf} {σ : L2.St} {ta tb : TE} {d e : PyData} {b : Bool} (ha : Ez M S S1 (ta σ) G (dat K d)) (hb : Ez M S1 S2 (tb σ) G (dat K e)) (h1 : SeqAt.shaped d = true) (h2 : SeqAt.shaped e = true) (h : PyData.eqv d e = b) : Ez M S S2 (tOp (rEqD K) ta tb σ) G (is (.bl b)) :=
  z_op ha hb fun x y G' e1 a b' => fun G1 H e0 at' s Q q => ⟨d, e, QN.dp_mono (e0.trans at'.ex) _ _ a, QN.dp_mono (e0.trans at'.ex) _ _ b', h1, h2, q _ G1 H (Nv.refl at'.ex) s (by rw [h]; rfl)⟩
theorem z_neD {M : List Addr} {S S1 S2 : Hf} {σ : L2.St} {ta tb : TE} {d e : PyData} {b : Bool} (ha : Ez M S S1 (ta σ) G (dat K d)) (hb : Ez M S1 S2 (tb σ) G (dat K e)) (h1 : SeqAt.shaped d = true) (h2 : SeqAt.shaped e = true) (h : (!PyData.eqv d e) = b) : Ez M S S2 (tOp (rNeD K) ta tb σ) G (is (.bl b)) :=
  z_op ha hb fun x y G' e1 a b' => fun G1 H e0 at' s Q q => ⟨d, e, QN.dp_mono (e0.trans at'.ex) _ _ a, QN.dp_mono (e0.trans at'.ex) _ _ b', h1, h2, q _ G1 H (Nv.refl at'.ex) s (by rw [h]; rfl)⟩
/-- t[i] of a tuple that is held in a slot -/
theorem z_fld {σ : L2.St} {i n : Nat} {v : V} {d : PyData} (hi : σ[i]? = some (some v)) (hv : Dp K G v (.tuple ds)) (h : ds[n]? = some d) : Ez M S S (tOp (rIxT K) (tVar i) (tC (.int (n : Nat))) σ) G (dat K d) := z_ixDT (z_var hi hv) (z_c rfl) h
end
end QD

/-! Data that may be compared. -/
namespace QD
open PySem L2 Evl QV QU QX QB QT
def Shp (n : Nat) (d : PyData) : Prop := d.canLay0 = true ∧ d.depth ≤ n
theorem shp_str {n : Nat} {x : Str} (h : ∀ c ∈ x.cps.toList, c ≤ 1000) : Shp n (.str x) := by
  refine ⟨?_, by simp [PyData.depth]⟩
  show PyData.strOk x = true
  unfold PyData.strOk
  rw [← Array.all_toList, List.all_eq_true]
  intro c hc
  have := h c hc
  simp
  omega
theorem shp_int {n : Nat} {i : Int} : Shp n (.int i) := ⟨by simp [PyData.canLay0], by simp [PyData.depth]⟩
theorem shp_bool {n : Nat} {i : Bool} : Shp n (.bool i) := ⟨by simp [PyData.canLay0], by simp [PyData.depth]⟩
theorem shp_all {n : Nat} : ∀ {ds : List PyData}, (∀ d ∈ ds, Shp n d) → PyData.canLayAll0 ds = true ∧ PyData.depthAll ds ≤ n
  | [], _ => by simp [PyData.canLayAll0, PyData.depthAll]
  | d :: ds, h => by
    have h1 := h d List.mem_cons_self
    have h2 := shp_all fun x hx => h x (List.mem_cons_of_mem _ hx)
    simp only [PyData.canLayAll0, PyData.depthAll, h1.1, h2.1, Bool.and_self, true_and]
    have := h1.2
    have := h2.2
    omega
theorem shp_list {n : Nat} {ds : List PyData} (h : ∀ d ∈ ds, Shp n d) : Shp (n + 1) (.list ds) := by
  have := shp_all h
  refine ⟨by simp only [PyData.canLay0]; exact this.1, ?_⟩
  simp only [PyData.depth]
  omega
theorem shp_tup {n : Nat} {ds : List PyData} (h : ∀ d ∈ ds, Shp n d) : Shp (n + 1) (.tuple ds) := by
  have := shp_all h
  refine ⟨by simp only [PyData.canLay0]; exact this.1, ?_⟩
  simp only [PyData.depth]
  omega
theorem Shp.ok {n : Nat} {d : PyData} (h : Shp n d) (hn : n ≤ 64) : SeqAt.shaped d = true := by
  unfold SeqAt.shaped
  rw [h.1, decide_eq_true (Nat.le_trans h.2 hn)]
  rfl
theorem mk_le {c : Nat} (h : Mk c) : c ≤ 126 := by
  rcases h with h | h
  · omega
  · exact h.2.1
theorem shp_chr {n c : Nat} (h : c ≤ 126) : Shp n (.str (chr c)) := shp_str fun d hd => by
  have : d = c := by simpa [chr] using hd
  omega
theorem shp_lit {n : Nat} (x : Str) (h : (x.cps.toList.all fun c => decide (c ≤ 1000)) = true) : Shp n (.str x) := shp_str fun c hc => by
  have := List.all_eq_true.mp h c hc
  simpa using this
theorem shp_rng {r : Nat × Nat} (h1 : r.1 ≤ 126) (h2 : r.2 ≤ 126) : Shp 1 (rngD r) := shp_tup fun d hd => by
  rcases List.mem_cons.mp hd with rfl | hd
  · exact shp_chr h1
  · rcases List.mem_cons.mp hd with rfl | hd
    · exact shp_chr h2
    · cases hd
theorem shp_rngs {rs : List (Nat × Nat)} (h : ∀ r ∈ rs, r.1 ≤ 126 ∧ r.2 ≤ 126) : Shp 2 (.list (rs.map rngD)) := shp_list fun d hd => by
  obtain ⟨r, hr, rfl⟩ := List.mem_map.mp hd
  exact shp_rng (h r hr).1 (h r hr).2
theorem shp_ent {e : Ent} (h : EntOk e) : Shp 3 (entD e) := by
  unfold entD
  refine shp_tup fun d hd => ?_
  cases e with
  | one c =>
    rcases List.mem_cons.mp hd with rfl | hd
    · exact shp_lit _ (by decide +kernel)
    · have : d = .str (chr c) := by simpa using hd
      rw [this]
      exact shp_chr h.2.1
  | any =>
    have : d = .str "any" := by simpa [entF] using hd
    rw [this]
    exact shp_lit _ (by decide +kernel)
  | lot =>
    have : d = .str "lot" := by simpa [entF] using hd
    rw [this]
    exact shp_lit _ (by decide +kernel)
  | of neg rs =>
    rcases List.mem_cons.mp hd with rfl | hd
    · exact shp_lit _ (by decide +kernel)
    · rcases List.mem_cons.mp hd with rfl | hd
      · exact shp_bool
      · have : d = .list (rs.map rngD) := by simpa using hd
        rw [this]
        exact shp_rngs fun r hr => ⟨mk_le (h.2.2 r hr).1, mk_le (h.2.2 r hr).2.1⟩
theorem len_chr {c : Nat} : (chr c).length ≤ sizeLine := Nat.le_trans (show (chr c).length ≤ 1 from Nat.le_refl _) (by decide)
theorem inV_chr (a : Nat) (l : List Nat) : inV (.str (chr a)) (l.map fun c => V.str (chr c)) = decide (a ∈ l) := by
  unfold inV
  rw [List.any_map, Bool.eq_iff_iff, List.any_eq_true, decide_eq_true_iff]
  constructor
  · rintro ⟨c, hc, h⟩
    have h : (chr c == chr a) = true := h
    have : c = a := chr_inj.mp (by simpa using h)
    exact this ▸ hc
  · intro h
    exact ⟨a, h, by show (chr a == chr a) = true; simp⟩
section
variable {K : PySem.W.Frag} {M0 : List Addr} {G0 H0 G H : Hp} {D : Ends} {σ : L2.St} {t : TT} {tu tw : TS}
theorem q_skipK {l : Addr} {xs : List V} (h : Pz (t σ) (upd G l (.lst xs)) (is false)) (lc : Lc H0 G H l xs) (n : Nv M0 G0 H0 G H) (k : ∀ G2 H2, Nv [] G H G2 H2 → Nv M0 G0 H0 G2 H2 → tw D σ H2) : tSeq (tIfS t tu tNext) tw D σ H :=
  s_ifK (D := { D with nx := tw D }) h lc n (fun z => by cases z) fun _ => k
end
theorem zt_truE {K : PySem.W.Frag} {M : List Addr} {S S1 : Hf} {σ : L2.St} {G : Hp} {te : TE} {b b2 : Bool} (h : Ez M S S1 (te σ) G (truP K b)) (e : b = b2) : Ez M S S1 (fun H (Q : Bool → Hp → Prop) => te σ H fun x H' => ∃ k, TruV K x H' k ∧ Q k H') G (is b2) := e ▸ zt_tru h
theorem not_take {ps : List (Nat × Nat)} (h : (ps.map fun q => q.1).Nodup) {i : Nat} {r : Nat × Nat} (e : ps[i]? = some r) : r.1 ∉ (ps.take i).map fun q => q.1 := by
  obtain ⟨hi, hr⟩ := List.getElem?_eq_some_iff.mp e
  have h1 : ps = ps.take i ++ r :: ps.drop (i + 1) := by
    rw [← hr, List.getElem_cons_drop hi, List.take_append_drop]
  rw [h1, List.map_append, List.map_cons, List.nodup_append] at h
  intro hm
  exact h.2.2 _ hm _ List.mem_cons_self rfl
theorem eqv_nil {d : PyData} {ds : List PyData} : PyData.eqv (.tuple (d :: ds)) (.tuple []) = false := by simp [PyData.eqv, PyData.eqvAll]
theorem eqv_nilL {d : PyData} {ds : List PyData} : PyData.eqv (.list (d :: ds)) (.list []) = false := by simp [PyData.eqv, PyData.eqvAll]
end QD

/-! Tests, steps, states as they stand. -/
namespace QD
open PySem L2 Evl QV QU QX QB QT
/-- the item at i, of a list of things -/
def itP {α : Type} (l : List α) (f : α → Pd V) (i : Nat) : Pd V := some_ fun a => both_ (l[i]? = some a) (f a)
def lsP {α : Type} (K : PySem.W.Frag) (l : List α) (f : α → Pd V) : Pd V := lstP K (allP l.length (itP l f))
def tabK (t : Nat → Nat) : List (Key × V) := sgs.map fun c => (.inr (chr c), .str (chr (t c)))
def mrkK (m : Nat → Bool) : List (Key × V) := (sgs.filter m).map fun c => (.inr (chr c), .bl true)
def testP (K : PySem.W.Frag) (q : Pat × (Nat → Nat)) : Pd V := tupP K (consP (dat K (patD q.1)) (consP (dK (tabK q.2)) (is [])))
def testsP (K : PySem.W.Frag) (T : Tests) : Pd V := lsP K T (testP K)
def stD (s : List (List Bool) × Bool) : PyData := .tuple [.tuple (s.1.map boolsD), .bool s.2]
def stpD : Stp → PyData
  | .test i t => .tuple [.str "test", .int i, .bool t]
  | .first n => .tuple [.str "first", .int n, .bool true]
def stepsD (s : List Stp) : PyData := .list (s.map stpD)
def natD (n : Nat) : PyData := .int n
def natsD (l : List Nat) : PyData := .tuple (l.map natD)
/-- tests that are sound: patterns' entries and their number -/
def TOk (T : Tests) : Prop := T.length ≤ 100 ∧ ∀ q ∈ T, PatOk q.1 ∧ q.1.length ≤ 3 ∧ ∀ c, Sgn c → Sgn (q.2 c)
section
variable {K : PySem.W.Frag} {M M0 : List Addr} {G0 H0 G H : Hp} {D : Ends} {σ : L2.St} {tl te : TE} {tt : TT} {g : TG} {vs : List Nat} {α : Type}
theorem l_fmP (l : List α) (d : α → Pd V) (r : α → Option PyData) (h : Ez [] Tr Tr (tl σ) G (lsP K l d)) (hn : l.length ≤ 1000000)
    (k : ∀ a x G1, a ∈ l → Ex G G1 → (d a).p G1 x → Pz (turn g tt te vs x σ) G1 (oD K (r a))) : Lz (M := []) Tr Tr (tLc (iList K tl) g tt te vs σ) G (dats K (l.filterMap r)) :=
  Lz.to (l_flt (fun i => l[i]?.bind r) (wk_list h) hn fun i x G1 hi e ⟨a, ha, hx⟩ => by
    rw [ha]
    exact k a x G1 (List.mem_of_getElem? ha) e hx) fun G' xs _ c => by
      rw [filterMap_range] at c
      exact c
theorem valV_map {l : List Nat} {f : Nat → V} (hl : l.Nodup) {c : Nat} (h : c ∈ l) : valV (l.map fun c => ((Sum.inr (chr c) : Key), f c)) (.inr (chr c)) = some (f c) := by
  induction l with
  | nil => cases h
  | cons a l ih =>
    obtain ⟨h1, h2⟩ := List.nodup_cons.mp hl
    rw [List.map_cons]
    by_cases e : a = c
    · subst e
      unfold valV
      simp
    · rcases List.mem_cons.mp h with z | z
      · exact absurd z.symm e
      · have := ih h2 z
        unfold valV at this ⊢
        rw [List.find?_cons_of_neg]
        · exact this
        · simp [chr_inj, e]
theorem valV_none {l : List Nat} {f : Nat → V} {c : Nat} (h : c ∉ l) : valV (l.map fun c => ((Sum.inr (chr c) : Key), f c)) (.inr (chr c)) = none := by
  induction l with
  | nil => rfl
  | cons a l ih =>
    rw [List.map_cons]
    have h1 : a ≠ c := fun e => h (e ▸ List.mem_cons_self)
    have := ih fun z => h (List.mem_cons_of_mem _ z)
    unfold valV at this ⊢
    rw [List.find?_cons_of_neg]
    · exact this
    · simp [chr_inj, h1]
theorem sgs_nodup : sgs.Nodup := sgs_sorted.imp fun h e => by omega
theorem tab_get {t : Nat → Nat} {c : Nat} (h : Sgn c) : valV (tabK t) (.inr (chr c)) = some (.str (chr (t c))) := valV_map sgs_nodup (mem_sgs.mpr h)
theorem mrk_get {m : Nat → Bool} {c : Nat} (h : Sgn c) : (valV (mrkK m) (.inr (chr c))).isSome = m c := by
  by_cases hm : m c = true
  · have : c ∈ sgs.filter m := List.mem_filter.mpr ⟨mem_sgs.mpr h, hm⟩
    unfold mrkK
    rw [valV_map (f := fun _ => V.bl true) (List.Pairwise.filter _ sgs_nodup) this, hm]
    rfl
  · have : c ∉ sgs.filter m := fun z => hm (List.mem_filter.mp z).2
    unfold mrkK
    rw [valV_none (f := fun _ => V.bl true) this]
    simp at hm
    rw [hm]
    rfl
end
end QD

/-! Dicts of texts: reading, comprehensions, the locked walk. -/
namespace QD
open PySem L2 Evl QV QU QX QB QT
/-- a dict that may be locked -/
def rdK (kvs : List (Key × V)) : Pd V := ⟨fun G v => ∃ a, v = .ref a ∧ Rd G a (.dK kvs), fun e ⟨a, h1, h2⟩ => ⟨a, h1, ex_rd e h2⟩⟩
def frzP (od : Obj) (kvs : List (Key × V)) : Pd V := ⟨fun G v => ∃ a, v = .ref a ∧ G a = some (.frz od (.dK kvs)), fun e ⟨a, h1, h2⟩ => ⟨a, h1, e _ _ h2⟩⟩
section
variable {K : PySem.W.Frag} {M M0 : List Addr} {S S1 S2 S3 : Hf} {G0 H0 G H : Hp} {D : Ends} {σ : L2.St} {td ty tx tk tv te : TE} {tt : TT} {g : TG} {vs : List Nat} {kvs : List (Key × V)}
theorem dK_rd {v : V} (h : (dK kvs).p G v) : (rdK kvs).p G v := by
  obtain ⟨a, h1, h2⟩ := h
  exact ⟨a, h1, .inl h2⟩
theorem z_rd (h : Ez M S S1 (te σ) G (dK kvs)) : Ez M S S1 (te σ) G (rdK kvs) := h.to fun _ _ _ c => dK_rd c
theorem z_dget2 {k : Key} {y z r : V} (hd : Ez M S S1 (td σ) G (rdK kvs)) (hy : Ez M S1 S2 (ty σ) G (is y)) (hz : Ez M S2 S3 (tx σ) G (is z)) (hk : y = kV k) (h : (valV kvs k).getD z = r) : Ez M S S3 (tDGet2 td ty tx σ) G (is r) := fun G1 H e0 a s Q q =>
  hd G1 H e0 a s _ fun x G2 H2 n2 s2 ⟨p, hx, hp⟩ => ⟨p, hx, .inl ⟨kvs, ex_rd n2.gh hp⟩, hy G2 H2 (e0.trans n2.gg) (a.nv n2) s2 _ fun y' G3 H3 n3 s3 c3 => hz G3 H3 ((e0.trans n2.gg).trans n3.gg) ((a.nv n2).nv n3) s3 _ fun z' G4 H4 n4 s4 c4 => by
    have c3 : y' = y := c3
    have c4 : z' = z := c4
    subst c3 c4
    exact ⟨_, .inl ⟨kvs, k, ex_rd n4.gh (ex_rd (n3.gg.trans n4.gg) hp), hk, rfl⟩, q _ G4 H4 ((n2.trans n3).trans n4) s4 (by rw [h]; rfl)⟩⟩
/-- d.items(), d locked -/
theorem wk_items {od : Obj} (h : Ez M S S1 (td σ) G (frzP od kvs)) : Wk M S S1 (as kvs.length (itP kvs fun kv => tupP K (consP (is (kV kv.1)) (consP (is kv.2) (is []))))) (iItems td) σ G := fun G1 H e a s R r =>
  h G1 H e a s _ fun v G2 H2 n2 s2 ⟨d, hv, hd⟩ => ⟨d, od, kvs, hv, n2.gh _ _ hd, r _ _ _ G2 H2 n2 s2 ⟨rfl, rfl⟩
    ⟨fun i H hi e => ⟨e _ _ hd, hi⟩, fun H e => ⟨e _ _ hd, Nat.le_refl _⟩, fun i G1 H x H' hi e1 e2 ⟨T, k, v, h1, hx, hT, hH⟩ => by
      subst hx hH
      exact ⟨_, Nv.lay e2 hT, (k, v), h1, T, _, rfl, SqT.of upd_same, _, _, rfl, rfl, _, _, rfl, rfl, rfl⟩⟩⟩
/-- name = {.. for .. in d.items()} -/
theorem q_lockdc {i : Nat} {d : Addr} {kvs' : List (Key × V)} (hd : G d = some (.dK kvs)) (h : ∀ od, Pz (te σ) (upd G d (.frz od (.dK kvs))) (dK kvs')) (n : Nv M0 G0 H0 G H)
    (k : ∀ v G2 H2, Nv [] G H G2 H2 → Nv M0 G0 H0 G2 H2 → (dK kvs').p G2 v → D.nx (σ.set i (some v)) H2) : tLock (tAsg te (gName i)) D σ H := by
  refine ⟨d, .dK kvs, n.gh _ _ hd, True.intro, fun od => ?_⟩
  have e1 : Ex (upd G d (.frz od (.dK kvs))) (upd H d (.frz od (.dK kvs))) := fun a o ha => by
    by_cases hx : a = d
    · subst hx
      rw [upd_same] at ha ⊢
      exact ha
    · rw [upd_ne hx] at ha ⊢
      exact n.gh a o ha
  refine h od _ _ (Ex.refl _) (At.pure e1) True.intro _ fun v G2 H2 n2 _ ⟨b, hv, hb⟩ => ?_
  have hdd : H2 d = some (.frz od (.dK kvs)) := n2.hh d _ (by simp) upd_same
  have gdd : G2 d = some (.frz od (.dK kvs)) := n2.gg d _ upd_same
  refine ⟨hdd, ?_⟩
  have nn : Nv [] G H (upd G2 d (.dK kvs)) (upd H2 d (.dK kvs)) := by
    refine ⟨fun a o _ ha => ?_, fun a ha => ?_, fun a o ha => ?_, fun a o ha => ?_, fun a h1 h2 => ?_⟩
    · by_cases hx : a = d
      · subst hx
        rw [n.gh _ _ hd] at ha
        rw [upd_same]
        exact ha
      · rw [upd_ne hx]
        exact n2.hh a o (by simp) (by rw [upd_ne hx]; exact ha)
    · by_cases hx : a = d
      · subst hx
        rw [upd_same]
        simp
      · rw [upd_ne hx]
        exact n2.th a (by rw [upd_ne hx]; exact ha)
    · by_cases hx : a = d
      · subst hx
        rw [hd] at ha
        rw [upd_same]
        exact ha
      · rw [upd_ne hx]
        exact n2.gg a o (by rw [upd_ne hx]; exact ha)
    · by_cases hx : a = d
      · subst hx
        rw [upd_same] at ha ⊢
        exact ha
      · rw [upd_ne hx] at ha ⊢
        exact n2.gh a o ha
    · have hx : a ≠ d := fun z => by rw [z, hd] at h1; cases h1
      rw [upd_ne hx]
      exact n2.av a (by rw [upd_ne hx]; exact h1) (by rw [upd_ne hx]; exact h2)
  refine k v _ _ nn (n.step nn sub0) ⟨b, hv, ?_⟩
  have hbd : b ≠ d := fun z => by rw [z, gdd] at hb; cases hb
  rw [upd_ne hbd]
  exact hb
/-- turns -/
theorem turnD_name {j : Nat} {x : V} {b : Bool} {k : Key} {v : V} (hw : wipe ((wipe σ vs).set j (some x)) vs = wipe σ vs) (ht : Pz (tt ((wipe σ vs).set j (some x))) G (is b)) (hk : b = true → Pz (tk ((wipe σ vs).set j (some x))) G (is (kV k))) (hv : b = true → Pz (tv ((wipe σ vs).set j (some x))) G (is v)) :
    Pz (turnD (gName j) tt tk tv vs x σ) G (is (if b = true then some (kV k, v) else none)) := fun G1 H e a s Q q => by
  refine ⟨hw, ht G1 H e a s _ fun bb G2 H2 n s2 c => ?_⟩
  have c' : bb = b := c
  subst c'
  cases bb with
  | true =>
    rw [if_pos rfl] at q ⊢
    exact hk rfl G2 H2 (e.trans n.gg) (a.nv n) s2 _ fun y G3 H3 n3 s3 c3 => hv rfl G3 H3 ((e.trans n.gg).trans n3.gg) ((a.nv n).nv n3) s3 _ fun z G4 H4 n4 s4 c4 => by
      have c3 : y = _ := c3
      have c4 : z = _ := c4
      subst c3 c4
      exact q _ G4 H4 ((n.trans n3).trans n4) s4 rfl
  | false =>
    rw [if_neg Bool.false_ne_true] at q ⊢
    exact q none G2 H2 n s2 rfl
theorem turnD_two {i j : Nat} {x u w v : V} {k : Key} (hx : (tupP K (consP (is u) (consP (is w) (is [])))).p G x) (hw : wipe (((wipe σ vs).set i (some u)).set j (some w)) vs = wipe σ vs)
    (hk : ∀ G1, Ex G G1 → Pz (tk (((wipe σ vs).set i (some u)).set j (some w))) G1 (is (kV k))) (hv : ∀ G1, Ex G G1 → Pz (tv (((wipe σ vs).set i (some u)).set j (some w))) G1 (is v)) :
    Pz (turnD (gTup K 2 (gCons (gName i) (gCons (gName j) gNil))) tYes tk tv vs x σ) G (is (some (kV k, v))) := fun G1 H e a s Q q =>
  g_two ((tupP K _).mono e hx) a.ex fun u' w' hu' hw' => by
    have hu' : u' = u := hu'
    have hw' : w' = w := hw'
    subst hu' hw'
    refine ⟨hw, yes_ ?_⟩
    rw [if_pos rfl]
    exact hk G1 e G1 H (Ex.refl _) a s _ fun y G3 H3 n3 s3 c3 => hv G3 (e.trans n3.gg) G3 H3 (Ex.refl _) (a.nv n3) s3 _ fun z G4 H4 n4 s4 c4 => by
      have c3 : y = _ := c3
      have c4 : z = _ := c4
      subst c3 c4
      exact q _ G4 H4 (n3.trans n4) s4 rfl
theorem fm_some' {α β : Type} (l : List α) (r : α → β) : l.filterMap (fun a => some (r a)) = l.map r := by
  rw [← List.filterMap_eq_map]
  rfl
/-! what is gathered, the keys apart -/
theorem putK_new {k : Key} {v : V} (h : k ∉ kvs.map (·.1)) : putK kvs k v = kvs ++ [(k, v)] := by
  unfold putK
  rw [if_neg]
  intro hm
  obtain ⟨p, hp, hp2⟩ := List.any_eq_true.mp hm
  exact h (List.mem_map.mpr ⟨p, hp, of_decide_eq_true hp2⟩)
theorem dcAcc_eq {α : Type} (l : List α) (f : α → Option (Key × V)) (h : ((l.filterMap f).map (·.1)).Nodup) : dcAcc (fun i => l[i]?.bind f) l.length = l.filterMap f := by
  have main : ∀ i, i ≤ l.length → dcAcc (fun i => l[i]?.bind f) i = (l.take i).filterMap f := by
    intro i
    induction i with
    | zero => intro _; rfl
    | succ i ih =>
      intro hi
      have hi' : i < l.length := hi
      have e1 : l.take (i + 1) = l.take i ++ [l[i]] := by rw [List.take_succ, List.getElem?_eq_getElem hi']; rfl
      unfold dcAcc
      rw [ih (by omega), List.getElem?_eq_getElem hi', e1, List.filterMap_append]
      show (match f l[i] with
        | none => (l.take i).filterMap f
        | some kz => putK ((l.take i).filterMap f) kz.1 kz.2) = _
      cases hf : f l[i] with
      | none => simp [hf]
      | some kz =>
        show putK _ _ _ = _
        have hnew : kz.1 ∉ ((l.take i).filterMap f).map (·.1) := by
          have e2 : l = l.take i ++ l[i] :: l.drop (i + 1) := by rw [List.getElem_cons_drop hi', List.take_append_drop]
          rw [e2, List.filterMap_append, List.map_append, List.filterMap_cons, hf] at h
          intro hm
          exact (List.nodup_append.mp h).2.2 _ hm _ List.mem_cons_self rfl
        rw [putK_new hnew]
        simp [hf]
  rw [main _ (Nat.le_refl _), List.take_length]
theorem keys_nodup {l : List Nat} (h : l.Nodup) (f : Nat → V) : ((l.map fun c => ((Sum.inr (chr c) : Key), f c)).map (·.1)).Nodup := by
  rw [List.map_map]
  exact List.Pairwise.map _ (fun a b hab e => hab (chr_inj.mp (Sum.inr.inj e))) h
/-- over a text -/
theorem z_dcS {tl : TE} (x : Str) (f : Nat → Option (Key × V)) (h : Ez [] Tr Tr (tl σ) G (is (.str x))) (hn : x.cps.size ≤ 1000000) (hnd : ((x.cps.toList.filterMap f).map (·.1)).Nodup)
    (k : ∀ c G1, c ∈ x.cps.toList → Ex G G1 → Pz (turnD g tt tk tv vs (.str (chr c)) σ) G1 (is ((f c).map fun kz => (kV kz.1, kz.2)))) : Pz (tDc (iStr tl) g tt tk tv vs σ) G (dK (x.cps.toList.filterMap f)) := by
  have := z_dc (g := g) (tt := tt) (tk := tk) (tv := tv) (vs := vs) (fun i => x.cps.toList[i]?.bind f) (wk_str h) hn fun i v G1 hi e ⟨c, hc, hx⟩ => by
    have hc' : x.cps.toList[i]? = some c := by rw [Array.getElem?_toList]; exact hc
    rw [hc', hx]
    exact k c G1 (List.mem_of_getElem? hc') e
  have e1 : x.cps.size = x.cps.toList.length := by simp
  rw [e1, dcAcc_eq _ _ hnd] at this
  exact this
/-- over a list of data -/
theorem z_dcL {α : Type} {tl : TE} (l : List α) (d : α → PyData) (f : α → Key × V) (h : Ez [] Tr Tr (tl σ) G (dat K (.list (l.map d)))) (hn : l.length ≤ 1000000) (hnd : ((l.map f).map (·.1)).Nodup)
    (k : ∀ a x G1, a ∈ l → Ex G G1 → Dp K G1 x (d a) → Pz (turnD g tt tk tv vs x σ) G1 (is (some (kV (f a).1, (f a).2)))) : Pz (tDc (iList K tl) g tt tk tv vs σ) G (dK (l.map f)) := by
  have := z_dc (g := g) (tt := tt) (tk := tk) (tv := tv) (vs := vs) (fun i => l[i]?.bind fun a => some (f a)) (wk_list (z_lst h)) (by rw [List.length_map]; exact hn) fun i x G1 hi e ⟨d', hd', hx⟩ => by
    rw [List.getElem?_map] at hd'
    obtain ⟨a, ha, rfl⟩ := Option.map_eq_some_iff.mp hd'
    rw [ha]
    exact k a x G1 (List.mem_of_getElem? ha) e hx
  rw [List.length_map, dcAcc_eq l (fun a => some (f a)) (by rw [fm_some']; exact hnd), fm_some'] at this
  exact this
/-- over the items of a locked dict -/
theorem z_dcI {od : Obj} (f : Key × V → Key × V) (h : Ez [] Tr Tr (td σ) G (frzP od kvs)) (hn : kvs.length ≤ 1000000) (hnd : ((kvs.map f).map (·.1)).Nodup)
    (k : ∀ a x G1, a ∈ kvs → Ex G G1 → (tupP K (consP (is (kV a.1)) (consP (is a.2) (is [])))).p G1 x → Pz (turnD g tt tk tv vs x σ) G1 (is (some (kV (f a).1, (f a).2)))) : Pz (tDc (iItems td) g tt tk tv vs σ) G (dK (kvs.map f)) := by
  have := z_dc (g := g) (tt := tt) (tk := tk) (tv := tv) (vs := vs) (fun i => kvs[i]?.bind fun a => some (f a)) (wk_items (K := K) h) hn fun i x G1 hi e ⟨a, ha, hx⟩ => by
    rw [ha]
    exact k a x G1 (List.mem_of_getElem? ha) e hx
  rw [dcAcc_eq kvs (fun a => some (f a)) (by rw [fm_some']; exact hnd), fm_some'] at this
  exact this
theorem s_retN {C : Pd V} (h : Pz (te σ) G C) (n : Nv M0 G0 H0 G H) (k : ∀ v G2 H2, Nv [] G H G2 H2 → Nv M0 G0 H0 G2 H2 → C.p G2 v → D.rt v H2) : tRet te D σ H := Pz.run h n k
/-- a thing of others' longer by one -/
theorem e_appM {C : Pd V} {i : Nat} {l : Addr} {xs : List V} (hi : σ[i]? = some (some (.ref l))) (hg : G l = none) (hv : H l = some (.lst xs)) (own : l ∈ M0 ∨ H0 l = none) (hz : xs.length < sizeLine) (h : Pz (te σ) G C) (n : Nv M0 G0 H0 G H)
    (k : ∀ v G2 H2, Nv [l] G H G2 H2 → Nv M0 G0 H0 G2 H2 → G2 l = none → H2 l = some (.lst (xs ++ [v])) → C.p G2 v → D.nx σ H2) : tDrop (tBM K "list" rAppend (tVar i) (tCons te tNil)) D σ H :=
  ⟨.ref l, hi, .inl ⟨rfl, xs, SqL.of hv⟩, Pz.run (Q := fun v H2 => rAppend (.ref l) [v] H2 fun _ H3 => D.nx σ H3) h n fun v G2 H2 n1 n2 c => by
    obtain ⟨g2, h2⟩ := n1.loc (by simp) hg hv
    have ch := Nv.chg (o := HO.lst (xs ++ [v])) n2.gh g2
    exact ⟨l, xs, v, rfl, rfl, h2, hz, k v G2 _ ((n1.mono fun _ z => nomatch z).trans ch) (n2.step ch fun x hx => by
      have : x = l := by simpa using hx
      rw [this]
      exact own) g2 upd_same c⟩⟩
/-- len of a list outside of the view -/
theorem z_lenM {p : Addr} {xs : List V} {i : Nat} (hi : σ[i]? = some (some (.ref p))) (h : ∀ G H, S G H → H p = some (.lst xs)) : Ez M S S (tCB (QU.rLenS K) (tCons (tVar i) tNil) σ) G (is (.int (xs.length : Nat))) := fun G1 H e a s Q q =>
  ⟨.ref p, hi, p, xs, rfl, .inl (SqL.of (h G1 H s)), q _ G1 H (Nv.refl a.ex) s rfl⟩
theorem itP_snoc {α : Type} {l : List α} {f : α → Pd V} {xs : List V} {a : α} {v : V} (h : (allP l.length (itP l f)).p G xs) (hv : (f a).p G v) : (allP (l ++ [a]).length (itP (l ++ [a]) f)).p G (xs ++ [v]) := by
  refine ⟨by rw [List.length_append, List.length_append, h.1]; rfl, fun i x q => ?_⟩
  by_cases hi : i < xs.length
  · rw [List.getElem?_append_left hi] at q
    obtain ⟨b, hb, hx⟩ := h.2 i x q
    refine ⟨b, ?_, hx⟩
    rw [List.getElem?_append_left (by rw [← h.1]; exact hi)]
    exact hb
  · rw [List.getElem?_append_right (by omega)] at q
    have h0 : i - xs.length = 0 := by
      cases hh : i - xs.length with
      | zero => rfl
      | succ m => rw [hh] at q; simp at q
    rw [h0] at q
    have : v = x := by simpa using q
    subst this
    refine ⟨a, ?_, hv⟩
    have hi' : i = l.length := by rw [← h.1]; omega
    rw [hi']
    simp
end
end QD

/-! Dicts with tuple keys over views. -/
namespace QD
open PySem L2 Evl QV QU QX QB QT QN
structure KyE (κ : Type) (kd : κ → PyData) : Prop where
  tup : ∀ k, ∃ ds, kd k = .tuple ds
  key : ∀ k, keyish (kd k) = true
  dep : ∀ k, (nk (kd k)).depth ≤ 8
  inj : ∀ a b, nk (kd a) = nk (kd b) → a = b
/-- the data that stand as keys -/
def keyR {κ : Type} (kd : κ → PyData) : PyData → Prop := fun d => ∃ k, d = kd k
def nkv {κ : Type} (kd : κ → PyData) (l : List (κ × V)) : List (NestedKey × V) := l.map fun x => (nk (kd x.1), x.2)
section
variable {κ : Type} {kd : κ → PyData}
theorem nkv_none (E : KyE κ kd) {l : List (κ × V)} {k : κ} (h : k ∉ l.map (·.1)) : valV (nkv kd l) (nk (kd k)) = none := by
  induction l with
  | nil => rfl
  | cons x l ih =>
    have h1 : x.1 ≠ k := fun e => h (by rw [← e]; exact List.mem_cons_self)
    show valV ((nk (kd x.1), x.2) :: nkv kd l) _ = _
    rw [valV_neg (fun e => h1 (E.inj _ _ e))]
    exact ih fun z => h (List.mem_cons_of_mem _ z)
theorem nkv_some (E : KyE κ kd) {l : List (κ × V)} {k : κ} (h : k ∈ l.map (·.1)) : ∃ v, (k, v) ∈ l ∧ valV (nkv kd l) (nk (kd k)) = some v := by
  induction l with
  | nil => cases h
  | cons x l ih =>
    show ∃ v, _ ∧ valV ((nk (kd x.1), x.2) :: nkv kd l) _ = _
    by_cases e : x.1 = k
    · refine ⟨x.2, by rw [← e]; exact List.mem_cons_self, ?_⟩
      rw [valV_pos (by rw [e])]
    · rw [valV_neg (fun z => e (E.inj _ _ z))]
      rcases List.mem_cons.mp h with z | z
      · exact absurd z.symm e
      · obtain ⟨v, h1, h2⟩ := ih z
        exact ⟨v, List.mem_cons_of_mem _ h1, h2⟩
theorem nkv_put (E : KyE κ kd) {l : List (κ × V)} {k : κ} {v : V} (h : k ∉ l.map (·.1)) : putK (nkv kd l) (nk (kd k)) v = nkv kd (l ++ [(k, v)]) := by
  unfold putK
  rw [if_neg]
  · unfold nkv
    rw [List.map_append]
    rfl
  · intro hm
    obtain ⟨p, hp, hp2⟩ := List.any_eq_true.mp hm
    obtain ⟨x, hx, rfl⟩ := List.mem_map.mp hp
    exact h (List.mem_map.mpr ⟨x, hx, E.inj _ _ (of_decide_eq_true hp2)⟩)
end
/-! keys -/
theorem nks_len : ∀ (ds es : List PyData), nks ds = nks es → ds.length = es.length
  | [], [], _ => rfl
  | [], _ :: _, h => by simp [nks] at h
  | _ :: _, [], h => by simp [nks] at h
  | d :: ds, e :: es, h => by
    have h' : nk d :: nks ds = nk e :: nks es := by simpa [nks] using h
    have := nks_len ds es (List.cons.inj h').2
    simp [this]
theorem nks_map {α : Type} (f : α → PyData) : ∀ (l m : List α), (∀ a b, nk (f a) = nk (f b) → a = b) → nks (l.map f) = nks (m.map f) → l = m
  | [], [], _, _ => rfl
  | [], _ :: _, _, h => by simp [nks] at h
  | _ :: _, [], _, h => by simp [nks] at h
  | a :: l, b :: m, hf, h => by
    have h' : nk (f a) :: nks (l.map f) = nk (f b) :: nks (m.map f) := by simpa [nks] using h
    obtain ⟨h1, h2⟩ := List.cons.inj h'
    rw [hf a b h1, nks_map f l m hf h2]
theorem nk_tup (ds : List PyData) : nk (.tuple ds) = .tup (nks ds) := by simp [nk]
theorem nk_bool {a b : Bool} (h : nk (.bool a) = nk (.bool b)) : a = b := by
  simp only [nk] at h
  cases a <;> cases b <;> simp_all
theorem nk_nat {a b : Nat} (h : nk (natD a) = nk (natD b)) : a = b := by
  unfold natD at h
  simp only [nk] at h
  injection h with h
  omega
theorem nk_chr {a b : Nat} (h : nk (.str (chr a)) = nk (.str (chr b))) : a = b := by
  simp only [nk] at h
  injection h with h
  exact chr_inj.mp h
theorem tup_inj {ds es : List PyData} (h : nk (.tuple ds) = nk (.tuple es)) : nks ds = nks es := by
  rw [nk_tup, nk_tup] at h
  injection h
theorem nk_bools {a b : List Bool} (h : nk (boolsD a) = nk (boolsD b)) : a = b := nks_map _ _ _ (fun _ _ => nk_bool) (tup_inj h)
theorem nk_nats {a b : List Nat} (h : nk (natsD a) = nk (natsD b)) : a = b := nks_map _ _ _ (fun _ _ => nk_nat) (tup_inj h)
theorem nks_two {a b c d : PyData} (h : nks [a, b] = nks [c, d]) : nk a = nk c ∧ nk b = nk d := by
  have h' : [nk a, nk b] = [nk c, nk d] := by simpa [nks] using h
  injection h' with h1 h2
  injection h2 with h2 _
  exact ⟨h1, h2⟩
theorem key_all {ds : List PyData} (h : ∀ d ∈ ds, keyish d = true) : keyishs ds = true := by
  induction ds with
  | nil => simp [keyishs]
  | cons d ds ih =>
    simp only [keyishs, Bool.and_eq_true]
    exact ⟨h d List.mem_cons_self, ih fun x hx => h x (List.mem_cons_of_mem _ hx)⟩
theorem key_tup {ds : List PyData} (h : ∀ d ∈ ds, keyish d = true) : keyish (.tuple ds) = true := by
  simp only [keyish]
  exact key_all h
theorem key_map {α : Type} (l : List α) (f : α → PyData) (h : ∀ a, keyish (f a) = true) : keyish (.tuple (l.map f)) = true := key_tup fun d hd => by
  obtain ⟨a, _, rfl⟩ := List.mem_map.mp hd
  exact h a
theorem dep_all {n : Nat} {ds : List PyData} (h : ∀ d ∈ ds, (nk d).depth ≤ n) : NestedKey.depthAll (nks ds) ≤ n := by
  induction ds with
  | nil => simp [nks, NestedKey.depthAll]
  | cons d ds ih =>
    simp only [nks, NestedKey.depthAll]
    have := h d List.mem_cons_self
    have := ih fun x hx => h x (List.mem_cons_of_mem _ hx)
    omega
theorem dep_tup {n : Nat} {ds : List PyData} (h : ∀ d ∈ ds, (nk d).depth ≤ n) : (nk (.tuple ds)).depth ≤ n + 1 := by
  rw [nk_tup]
  simp only [NestedKey.depth]
  have := dep_all h
  omega
theorem dep_map {α : Type} {n : Nat} (l : List α) (f : α → PyData) (h : ∀ a, (nk (f a)).depth ≤ n) : (nk (.tuple (l.map f))).depth ≤ n + 1 := dep_tup fun d hd => by
  obtain ⟨a, _, rfl⟩ := List.mem_map.mp hd
  exact h a
theorem key_bools (a : List Bool) : keyish (boolsD a) = true := key_map a _ fun _ => by simp [keyish]
theorem key_nats (a : List Nat) : keyish (natsD a) = true := key_map a _ fun _ => by simp [keyish, natD]
theorem dep_bools (a : List Bool) : (nk (boolsD a)).depth ≤ 1 := dep_map (n := 0) a _ fun _ => by simp [nk, NestedKey.depth]
theorem dep_nats (a : List Nat) : (nk (natsD a)).depth ≤ 1 := dep_map (n := 0) a _ fun _ => by simp [nk, natD, NestedKey.depth]
theorem two_all {a b : PyData} {p : PyData → Prop} (h1 : p a) (h2 : p b) : ∀ d ∈ [a, b], p d := fun d hd => by
  rcases List.mem_cons.mp hd with rfl | hd
  · exact h1
  · rcases List.mem_cons.mp hd with rfl | hd
    · exact h2
    · cases hd
theorem kyB : KyE (List Bool) boolsD := ⟨fun _ => ⟨_, rfl⟩, key_bools, fun k => Nat.le_trans (dep_bools k) (by decide), fun _ _ => nk_bools⟩
theorem kyS : KyE (List (List Bool) × Bool) stD := ⟨fun _ => ⟨_, rfl⟩, fun k => key_tup (two_all (key_map _ _ key_bools) (by simp [keyish])),
  fun k => Nat.le_trans (dep_tup (n := 2) (two_all (dep_map _ _ dep_bools) (by simp [nk, NestedKey.depth]))) (by decide),
  fun a b h => by
    obtain ⟨h1, h2⟩ := nks_two (tup_inj h)
    have e1 := nks_map _ _ _ (fun _ _ => nk_bools) (tup_inj h1)
    have e2 := nk_bool h2
    exact Prod.ext e1 e2⟩
def ckD (k : List Bool × Nat) : PyData := .tuple [boolsD k.1, .str (chr k.2)]
theorem kyC : KyE (List Bool × Nat) ckD := ⟨fun _ => ⟨_, rfl⟩, fun k => key_tup (two_all (key_bools _) (by simp [keyish])),
  fun k => Nat.le_trans (dep_tup (n := 1) (two_all (dep_bools _) (by simp [nk, NestedKey.depth]))) (by decide),
  fun a b h => by
    obtain ⟨h1, h2⟩ := nks_two (tup_inj h)
    exact Prod.ext (nk_bools h1) (nk_chr h2)⟩
def s2D (k : List Nat × List Nat) : PyData := .tuple [natsD k.1, natsD k.2]
theorem kyN : KyE (List Nat × List Nat) s2D := ⟨fun _ => ⟨_, rfl⟩, fun k => key_tup (two_all (key_nats _) (key_nats _)),
  fun k => Nat.le_trans (dep_tup (n := 1) (two_all (dep_nats _) (dep_nats _))) (by decide),
  fun a b h => by
    obtain ⟨h1, h2⟩ := nks_two (tup_inj h)
    exact Prod.ext (nk_nats h1) (nk_nats h2)⟩

section
variable {P : Program} {w : World} {K : PySem.W.Frag} {M M0 : List Addr} {S S1 S2 : Hf} {G0 H0 G H : Hp} {D : Ends} {σ : L2.St} {ta tb te to ti ty tx : TE} {κ : Type} {kd : κ → PyData} {l : List (κ × V)} {k : κ}
theorem key_at (E : KyE κ kd) {v : V} (h : Dp K G v (kd k)) : ∃ b, v = .ref b ∧ KeyAt (keyR kd) K G b (nk (kd k)) := by
  obtain ⟨ds, hd⟩ := E.tup k
  have h' := h
  rw [hd] at h'
  obtain ⟨b, xs, rfl, _⟩ := dp_tup h'
  exact ⟨b, rfl, kd k, h, E.key k, rfl, E.dep k, k, rfl⟩
/-- a dict of one's own -/
structure Nl (P : Program) (w : World) (K : PySem.W.Frag) (kd : κ → PyData) (M0 : List Addr) (H0 G H : Hp) (p : Addr) (l : List (κ × V)) : Prop where
  own : p ∈ M0 ∨ H0 p = none
  out : G p = none
  val : Nd (keyR kd) P w K G H p (nkv kd l)
theorem Nl.nv {L : List Addr} {G2 H2 : Hp} {p : Addr} (a : Nl P w K kd M0 H0 G H p l) (n : Nv L G H G2 H2) (hp : p ∉ L := by simp) : Nl P w K kd M0 H0 G2 H2 p l := by
  obtain ⟨xs, h1, h2⟩ := a.val
  obtain ⟨q1, q2⟩ := n.loc hp a.out h1
  exact ⟨a.own, q1, xs, q2, h2.mono n.gg⟩
theorem Nl.there {p : Addr} (a : Nl P w K kd M0 H0 G H p l) : H p ≠ none := by
  obtain ⟨xs, h1, _⟩ := a.val
  rw [h1]
  simp
theorem q_nnew {tw : TS} {i : Nat} (n : Nv M0 G0 H0 G H) (k : ∀ p H2, Nv [] G H G H2 → Nv M0 G0 H0 G H2 → H p = none → Nl P w K kd M0 H0 G H2 p [] → tw D (σ.set i (some (.ref p))) H2) : tSeq (tAsg (tNNew P w) (gName i)) tw D σ H := fun p hp =>
  k p _ (Nv.put n.gh hp) (n.trans (Nv.put n.gh hp)) hp ⟨.inr (n.new hp), fresh_back n.gh hp, [], upd_same, .nil⟩
/-- d.setdefault(k, v) -/
theorem e_nsetd (E : KyE κ kd) {i : Nat} {p : Addr} {v : V} (hi : σ[i]? = some (some (.ref p))) (a : Nl P w K kd M0 H0 G H p l) (hty : Pz (ty σ) G (dat K (kd k))) (htx : Pz (tx σ) G (is v)) (hl : l.length < sizeLine) (n : Nv M0 G0 H0 G H)
    (k1 : k ∈ l.map (·.1) → ∀ G2 H2, Nv [p] G H G2 H2 → Nv M0 G0 H0 G2 H2 → Nl P w K kd M0 H0 G2 H2 p l → D.nx σ H2)
    (k2 : k ∉ l.map (·.1) → ∀ G2 H2, Nv [p] G H G2 H2 → Nv M0 G0 H0 G2 H2 → Nl P w K kd M0 H0 G2 H2 p (l ++ [(k, v)]) → D.nx σ H2) : tDrop (tNSetD P w K (tVar i) ty tx) D σ H := by
  obtain ⟨xs, hx, ne⟩ := a.val
  refine ⟨.ref p, hi, p, xs, rfl, hx, ?_⟩
  refine Pz.run (Q := fun y H2 => tx σ H2 fun z H3 => ∃ b, y = .ref b ∧ rNSetD P w K p b z H3 fun _ H4 => D.nx σ H4) hty n fun y G2 H2 n1 m1 cy => ?_
  refine Pz.run (Q := fun z H3 => ∃ b, y = .ref b ∧ rNSetD P w K p b z H3 fun _ H4 => D.nx σ H4) (Ez.mono htx n1.gg) m1 fun z G3 H3 n2 m2 cz => ?_
  have cz : z = v := cz
  subst cz
  obtain ⟨b, rfl, hb⟩ := key_at E (QN.dp_mono n2.gg _ _ cy)
  have nn : Nv [] G H G3 H3 := n1.trans n2
  have a3 := a.nv nn
  have np : Nv [p] G H G3 H3 := nn.mono fun _ z => nomatch z
  refine ⟨b, rfl, keyR kd, G3, nkv kd l, nk (kd k), m2.gh, a3.val, hb, by unfold nkv; rw [List.length_map]; exact hl, fun u hu => ?_, fun hu xs' ne' => ?_⟩
  · by_cases hk : k ∈ l.map (·.1)
    · exact k1 hk G3 H3 np m2 a3
    · rw [nkv_none E hk] at hu
      cases hu
  · have hk : k ∉ l.map (·.1) := fun hk => by
      obtain ⟨u, _, hu2⟩ := nkv_some E hk
      rw [hu2] at hu
      cases hu
    rw [nkv_put E hk] at ne'
    have ch := Nv.chg (o := ndO P w p xs') m2.gh a3.out
    refine k2 hk G3 _ (np.trans ch) (m2.step ch fun x hx' => ?_) ⟨a.own, a3.out, xs', upd_same, ne'⟩
    have : x = p := by simpa using hx'
    rw [this]
    exact a.own
/-- d[k] = v, the key new -/
theorem e_nset (E : KyE κ kd) {p : Addr} {R : Pd V} (hv : Ez M S S1 (te σ) G R) (ho : ∀ v G1, Ex G G1 → R.p G1 v → Ez M S1 S1 (to σ) G1 (is (.ref p))) (hk : ∀ v G1, Ex G G1 → R.p G1 v → Ez M S1 S1 (ti σ) G1 (dat K (kd k)))
    (hn : ∀ v G1 H1, R.p G1 v → S1 G1 H1 → Nv M G H G1 H1 → Nl P w K kd M0 H0 G1 H1 p l ∧ k ∉ l.map (·.1)) (hl : l.length < sizeLine) (n : Nv M0 G0 H0 G H) (hM : Sub M M0 H0) (a : At M G H) (s : S G H)
    (kk : ∀ v G2 H2, Nv (p :: M) G H G2 H2 → Nv M0 G0 H0 G2 H2 → R.p G2 v → Nl P w K kd M0 H0 G2 H2 p (l ++ [(k, v)]) → D.nx σ H2) : tAsg te (gSub to ti (rNSet P w K)) D σ H :=
  Ez.run (Q := fun v H1 => gSub to ti (rNSet P w K) v σ H1 D.nx) hv n hM a s fun v G1 H1 n1 m1 a1 s1 c1 =>
    Ez.run (Q := fun o H2 => ti σ H2 fun i H3 => rNSet P w K o i v H3 fun H4 => D.nx σ H4) (ho v G1 n1.gg c1) m1 hM a1 s1 fun o G2 H2 n2 m2 a2 s2 c2 => by
      have c2 : o = .ref p := c2
      subst c2
      refine Ez.run (Q := fun i H3 => rNSet P w K (.ref p) i v H3 fun H4 => D.nx σ H4) (hk v G2 (n1.gg.trans n2.gg) (R.mono n2.gg c1)) m2 hM a2 s2 fun i G3 H3 n3 m3 a3 s3 c3 => ?_
      obtain ⟨b, rfl, hb⟩ := key_at E c3
      have c3' := R.mono (n2.gg.trans n3.gg) c1
      have nn := (n1.trans n2).trans n3
      obtain ⟨ln, hk'⟩ := hn v G3 H3 c3' s3 nn
      refine ⟨keyR kd, p, b, G3, nkv kd l, nk (kd k), rfl, rfl, m3.gh, ln.val, hb, by unfold nkv; rw [List.length_map]; exact hl, fun xs' ne' => ?_⟩
      rw [nkv_put E hk'] at ne'
      have ch := Nv.chg (o := ndO P w p xs') m3.gh ln.out
      refine kk v G3 _ ((nn.mono fun x hx => List.mem_cons_of_mem _ hx).trans (ch.mono fun x hx => ?_)) (m3.step ch fun x hx => ?_) c3' ⟨ln.own, ln.out, xs', upd_same, ne'⟩
      · have : x = p := by simpa using hx
        rw [this]
        exact List.mem_cons_self
      · have : x = p := by simpa using hx
        rw [this]
        exact ln.own
/-- key not in d, d of S -/
theorem z_nnotin (E : KyE κ kd) {p : Addr} {b : Bool} (ha : Ez M S S (ta σ) G (dat K (kd k))) (hb : Ez M S S (tb σ) G (is (.ref p))) (h : ∀ G1 H, Ex G G1 → S G1 H → Nd (keyR kd) P w K G1 H p (nkv kd l)) (hx : b = true ↔ k ∉ l.map (·.1)) : Ez M S S (tOp (rNNotIn P w K) ta tb σ) G (is (.bl b)) := fun G1 H e0 a s Q q =>
  ha G1 H e0 a s _ fun v G2 H2 n2 s2 c2 => hb G2 H2 (e0.trans n2.gg) (a.nv n2) s2 _ fun u G3 H3 n3 s3 c3 => by
    have c3 : u = .ref p := c3
    subst c3
    obtain ⟨bb, rfl, hbb⟩ := key_at E (QN.dp_mono n3.gg _ _ c2)
    refine ⟨p, bb, valV (nkv kd l) (nk (kd k)), rfl, rfl, ⟨keyR kd, G3, nkv kd l, nk (kd k), n3.gh, h G3 H3 ((e0.trans n2.gg).trans n3.gg) s3, hbb, rfl⟩, q _ G3 H3 (n2.trans n3) s3 ?_⟩
    show V.bl _ = V.bl b
    congr 1
    by_cases hk : k ∈ l.map (·.1)
    · obtain ⟨u, _, hu⟩ := nkv_some E hk
      rw [hu]
      cases b with
      | false => rfl
      | true => exact absurd hk (hx.mp rfl)
    · rw [nkv_none E hk, hx.mpr hk]
      rfl
/-- d[k], d of S -/
theorem z_nget (E : KyE κ kd) {p : Addr} {C : Pd V} (ha : Ez M S S (ta σ) G (is (.ref p))) (hb : Ez M S S (tb σ) G (dat K (kd k))) (h : ∀ G1 H, Ex G G1 → S G1 H → Nd (keyR kd) P w K G1 H p (nkv kd l) ∧ k ∈ l.map (·.1) ∧ ∀ v, (k, v) ∈ l → C.p G1 v) : Ez M S S (tOp (rNGet P w K) ta tb σ) G C := fun G1 H e0 a s Q q =>
  ha G1 H e0 a s _ fun u G2 H2 n2 s2 c2 => hb G2 H2 (e0.trans n2.gg) (a.nv n2) s2 _ fun v G3 H3 n3 s3 c3 => by
    have c2 : u = .ref p := c2
    subst c2
    obtain ⟨bb, rfl, hbb⟩ := key_at E c3
    obtain ⟨h1, h2, h3⟩ := h G3 H3 ((e0.trans n2.gg).trans n3.gg) s3
    obtain ⟨z, hz1, hz2⟩ := nkv_some E h2
    exact ⟨p, bb, z, rfl, rfl, ⟨keyR kd, G3, nkv kd l, nk (kd k), n3.gh, h1, hbb, hz2⟩, q _ G3 H3 (n2.trans n3) s3 (h3 z hz1)⟩
/-- both ways lead to mid, things of S in sight -/
theorem q_ifSM {t : TT} {tu tw : TS} {b : Bool} (mid : Hp → Hp → Prop) (h : Ez M S S1 (t σ) G (is b)) (n : Nv M0 G0 H0 G H) (hM : Sub M M0 H0) (a : At M G H) (s : S G H)
    (k1 : b = true → ∀ G2 H2, Nv M G H G2 H2 → Nv M0 G0 H0 G2 H2 → At M G2 H2 → S1 G2 H2 → (∀ G' H', mid G' H' → tw D σ H') → tu { D with nx := tw D } σ H2) (k2 : b = false → ∀ G2 H2, Nv M G H G2 H2 → Nv M0 G0 H0 G2 H2 → At M G2 H2 → S1 G2 H2 → mid G2 H2)
    (k3 : ∀ G' H', mid G' H' → tw D σ H') : tSeq (tIfS t tu tNext) tw D σ H :=
  s_ifM (D := { D with nx := tw D }) h n hM a s fun b' G2 H2 n1 n2 a2 s2 c => by
    have c : b' = b := c
    subst c
    exact ⟨fun hb => k1 hb G2 H2 n1 n2 a2 s2 k3, fun hb => k3 G2 H2 (k2 hb G2 H2 n1 n2 a2 s2)⟩
theorem z_ixLs {xs : List V} {i : Int} {v : V} (ha : Ez M S S1 (ta σ) G (lstP K (is xs))) (hb : Ez M S1 S2 (tb σ) G (is (.int i))) (e : atI xs i = some v) : Ez M S S2 (tOp (rIxL K) ta tb σ) G (is v) :=
  z_op ha hb fun x y G' e1 ⟨p, ys, hx, h1, h2⟩ b => by
    have b : y = _ := b
    have h2 : ys = xs := h2
    subst hx b h2
    exact z_ixL h1 e rfl
theorem pair_it {α : Type} {l : List α} {f : α → Pd V} {i : Nat} {x : V} (h : (pairP K i (itP l f i)).p G x) : ∃ a, l[i]? = some a ∧ (pairP K i (f a)).p G x := by
  obtain ⟨p, xs, rfl, h1, a, ys, h2, ha, b, zs, h3, ⟨c, hc, hb⟩, hz⟩ := h
  exact ⟨c, hc, p, xs, rfl, h1, a, ys, h2, ha, b, zs, h3, hb, hz⟩
/-- {k: v} -/
theorem q_ndisp {tw : TS} (E : KyE κ kd) {i : Nat} {v : V} (hk : Pz (ta σ) G (dat K (kd k))) (hv : Pz (tb σ) G (is v)) (n : Nv M0 G0 H0 G H) (kk : ∀ p G2 H2, Nv [] G H G2 H2 → Nv M0 G0 H0 G2 H2 → H p = none → Nl P w K kd M0 H0 G2 H2 p [(k, v)] → tw D (σ.set i (some (.ref p))) H2) : tSeq (tAsg (tNDisp1 P w K ta tb) (gName i)) tw D σ H := fun p hp => by
  have gp := fresh_back n.gh hp
  have m0 := Nv.put (M := M0) (o := ndO P w p []) n.gh hp
  have m00 := Nv.put (M := []) (o := ndO P w p []) n.gh hp
  refine Pz.run (Q := fun y H1 => tb σ H1 fun z H2 => ∃ (R : PyData → Prop) (b : Addr) (G : Hp) (k : NestedKey), y = .ref b ∧ (∀ a o, G a = some o → H2 a = some o) ∧ H2 p = some (ndO P w p []) ∧ KeyAt R K G b k ∧ ∀ xs', NE R K G [(k, z)] xs' → (fun x H1 => gName i x σ H1 (tw D)) (.ref p) (upd H2 p (ndO P w p xs'))) hk (n.trans m0) fun y G1 H1 n1 m1 cy => ?_
  refine Pz.run (Q := fun z H2 => ∃ (R : PyData → Prop) (b : Addr) (G : Hp) (k : NestedKey), y = .ref b ∧ (∀ a o, G a = some o → H2 a = some o) ∧ H2 p = some (ndO P w p []) ∧ KeyAt R K G b k ∧ ∀ xs', NE R K G [(k, z)] xs' → (fun x H1 => gName i x σ H1 (tw D)) (.ref p) (upd H2 p (ndO P w p xs'))) (Ez.mono hv n1.gg) m1 fun z G2 H2 n2 m2 cz => ?_
  have cz : z = v := cz
  subst cz
  obtain ⟨b, rfl, hb⟩ := key_at E (QN.dp_mono n2.gg _ _ cy)
  obtain ⟨q1, q2⟩ := (n1.trans n2).loc (by simp) gp upd_same
  refine ⟨keyR kd, b, G2, nk (kd k), rfl, m2.gh, q2, hb, fun xs' ne' => ?_⟩
  have ch := Nv.chg (o := ndO P w p xs') m2.gh q1
  have all : Nv [p] G H G2 (upd H2 p (ndO P w p xs')) := (m00.mono fun _ z => nomatch z).trans (((n1.trans n2).mono fun _ z => nomatch z).trans ch)
  have all' : Nv [] G H G2 (upd H2 p (ndO P w p xs')) := ⟨fun a o _ ha => all.hh a o (fun z => by
    have : a = p := by simpa using z
    rw [this, hp] at ha
    cases ha) ha, all.th, all.gg, all.gh, all.av⟩
  exact kk p G2 _ all' (n.trans (all'.mono fun _ z => nomatch z)) hp ⟨.inr (n.new hp), q1, xs', upd_same, ne'⟩
end
end QD

/-! While, new dicts, dicts in view. -/
namespace QD
open PySem L2 Evl QV QU QX QB QT QN
/-- a dict that stays, in view -/
def ndP (R : PyData → Prop) (P : Program) (w : World) (K : PySem.W.Frag) (kvs : List (NestedKey × V)) : Pd V := ⟨fun G v => ∃ p xs, v = .ref p ∧ G p = some (ndO P w p xs) ∧ NE R K G kvs xs, fun e ⟨p, xs, h1, h2, h3⟩ => ⟨p, xs, h1, e _ _ h2, h3.mono e⟩⟩
section
variable {P : Program} {w : World} {K : PySem.W.Frag} {M M0 : List Addr} {G0 H0 G H : Hp} {D : Ends} {σ : L2.St} {c : TT} {tb tw : TS} {κ : Type} {kd : κ → PyData} {l : List (κ × V)}
theorem Nl.close {p : Addr} (a : Nl P w K kd M0 H0 G H p l) (hp : H0 p = none) (n : Nv M0 G0 H0 G H) : ∃ o, Nv M0 G0 H0 (upd G p o) H ∧ (ndP (keyR kd) P w K (nkv kd l)).p (upd G p o) (.ref p) := by
  obtain ⟨xs, h1, h2⟩ := a.val
  exact ⟨ndO P w p xs, n.add hp h1 a.out, p, xs, rfl, upd_same, h2.mono (Ex.new a.out)⟩
theorem q_while (I : Nat → L2.St → Hp → Hp → Prop) (bnd n0 : Nat) (i0 : I n0 σ G H) (nv : Nv M0 G0 H0 G H)
    (step : ∀ n σ1 G1 H1, Nv M0 G0 H0 G1 H1 → I n σ1 G1 H1 → ∃ b, Pz (c σ1) G1 (is b) ∧ (b = true → n < bnd ∧ ∀ G2 H2, Nv [] G1 H1 G2 H2 → Nv M0 G0 H0 G2 H2 →
      tb { D with nx := fun σ' H' => ∃ G', Nv M0 G0 H0 G' H' ∧ I (n + 1) σ' G' H', ct := fun σ' H' => ∃ G', Nv M0 G0 H0 G' H' ∧ I (n + 1) σ' G' H', bk := tw D } σ1 H2) ∧
      (b = false → ∀ G2 H2, Nv [] G1 H1 G2 H2 → Nv M0 G0 H0 G2 H2 → tw D σ1 H2)) : tSeq (tWhile c tb) tw D σ H := by
  refine ⟨fun m σ1 H1 => ∃ n G1, m = bnd - n ∧ Nv M0 G0 H0 G1 H1 ∧ I n σ1 G1 H1, ⟨bnd - n0, n0, G, rfl, nv, i0⟩, ?_⟩
  rintro m σ1 H1 ⟨n, G1, rfl, n1, h1⟩
  obtain ⟨b, hc, ht, hf⟩ := step n σ1 G1 H1 n1 h1
  refine Pz.run (Q := fun b H2 => if b = true then ∃ N : L2.St → Hp → Prop, (∀ σ' H', N σ' H' → ∃ m', m' < bnd - n ∧ ∃ n G1, m' = bnd - n ∧ Nv M0 G0 H0 G1 H' ∧ I n σ' G1 H') ∧ tb { D with nx := N, ct := N, bk := tw D } σ1 H2 else tw D σ1 H2) hc n1 fun v G2 H2 a2 n2 cv => ?_
  have cv : v = b := cv
  subst cv
  cases v with
  | true =>
    obtain ⟨hlt, hb⟩ := ht rfl
    exact L2.iteT ⟨_, fun σ' H' ⟨G', m1, m2⟩ => ⟨bnd - (n + 1), by omega, n + 1, G', rfl, m1, m2⟩, hb G2 H2 a2 n2⟩
  | false => exact L2.iteF (hf rfl G2 H2 a2 n2)
/-- [{} for .. in ..] -/
theorem q_newdicts {R : PyData → Prop} {wi : TI} {n : Nat} {B : Nat → Pd V} {i j : Nat} {vs : List Nat} (h : Wk [] Tr Tr (as n B) wi σ G) (hn : n ≤ 1000000) (hw : ∀ x, wipe ((wipe σ vs).set j (some x)) vs = wipe σ vs) (nv : Nv M0 G0 H0 G H)
    (k : ∀ (p : Addr) (ds : List Addr) G2 H2, Nv [] G H G2 H2 → Nv M0 G0 H0 G2 H2 → ds.length = n → ds.Nodup → (∀ d ∈ ds, H d = none ∧ G2 d = none ∧ Nd R P w K G2 H2 d []) → (lstP K (is (ds.map V.ref))).p G2 (.ref p) → tw D (σ.set i (some (.ref p))) H2) :
    tSeq (tAsg (tLc wi (gName j) tYes (tNNew P w) vs) (gName i)) tw D σ H :=
  h G H (Ex.refl G) (At.pure nv.gh) True.intro _ fun J n' B' G1 H1 n1 _ ⟨en, eB⟩ wk Dd hD => by
    subst en eB
    have gD := fresh_back n1.gh hD
    refine ⟨fun i m H' => m = n' - i ∧ i ≤ n' ∧ ∃ (G' : Hp) (ds : List Addr), Nv [] G1 H1 G' H' ∧ G' Dd = none ∧ H' Dd = some (.lst (ds.map V.ref)) ∧ ds.length = i ∧ ds.Nodup ∧ ∀ d ∈ ds, H1 d = none ∧ G' d = none ∧ H' d = some (ndO P w d []) ∧ d ≠ Dd,
      ⟨n', by simp, Nat.zero_le _, G1, [], Nv.put n1.gh hD, gD, upd_same, rfl, List.nodup_nil, fun _ z => nomatch z⟩, ?_⟩
    rintro i' m H' ⟨rfl, hi, G', ds, nn, g1, h1, hl, hnd, hds⟩
    by_cases hlt : i' < n'
    · refine .inr ⟨wk.go i' H' hlt (nn.gg.trans nn.gh), fun H' => ∃ (G' : Hp) (ds : List Addr), Nv [] G1 H1 G' H' ∧ G' Dd = none ∧ H' Dd = some (.lst (ds.map V.ref)) ∧ ds.length = i' + 1 ∧ ds.Nodup ∧ ∀ d ∈ ds, H1 d = none ∧ G' d = none ∧ H' d = some (ndO P w d []) ∧ d ≠ Dd,
        fun H' p => ⟨n' - (i' + 1), by omega, rfl, hlt, p⟩, fun x H'' y => ?_⟩
      obtain ⟨G3, n3, b⟩ := wk.yld i' G' H' x H'' hlt nn.gg nn.gh y
      have nn3 := nn.step n3 sub0
      have d3 := n3.loc (by simp) g1 h1
      refine ⟨hw x, yes_ ?_⟩
      rw [if_pos rfl]
      intro q hq
      have m1 := Nv.put (M := []) (o := ndO P w q []) n3.gh hq
      have nn4 := nn3.trans m1
      have hqD : Dd ≠ q := fun z => by rw [z, hq] at d3; cases d3.2
      have d4 := m1.loc (by simp) d3.1 d3.2
      have hq1 : H1 q = none := nn3.new hq
      have gq : G3 q = none := fresh_back n3.gh hq
      have hqd : q ∉ ds := fun z => by
        have := (hds q z).2.2.1
        exact n3.th q (by rw [this]; simp) hq
      have chg := Nv.chg (o := HO.lst (ds.map V.ref ++ [.ref q])) m1.gh d4.1
      refine ⟨ds.map V.ref, d4.2, ?_, G3, ds ++ [q], nn4.step chg fun z hz => ?_, d4.1, ?_, ?_, ?_, fun d hd => ?_⟩
      · rw [List.length_map, hl]
        exact Nat.lt_of_lt_of_le hlt (Nat.le_trans hn (by decide))
      · have : z = Dd := by simpa using hz
        exact .inr (this ▸ hD)
      · rw [upd_same, List.map_append]
        rfl
      · rw [List.length_append, hl]
        rfl
      · rw [List.nodup_append]
        refine ⟨hnd, by simp, fun a ha b hb e => ?_⟩
        have : b = q := by simpa using hb
        exact hqd (this ▸ e ▸ ha)
      · rcases List.mem_append.mp hd with z | z
        · obtain ⟨e1, e2, e3, e4⟩ := hds d z
          have hdq : d ≠ q := fun y => hqd (y ▸ z)
          obtain ⟨f1, f2⟩ := n3.loc (by simp) e2 e3
          exact ⟨e1, f1, by rw [upd_ne e4, upd_ne hdq]; exact f2, e4⟩
        · have : d = q := by simpa using z
          subst this
          exact ⟨hq1, gq, by rw [upd_ne (Ne.symm hqD)]; exact upd_same, Ne.symm hqD⟩
    · have : i' = n' := by omega
      subst this
      refine .inl ⟨wk.stop H' (nn.gg.trans nn.gh), ?_⟩
      have all := (n1.trans nn).add (n1.new hD) h1 g1
      refine k Dd ds _ _ all (nv.step all sub0) hl hnd (fun d hd => ?_) ⟨Dd, _, rfl, SqL.of upd_same, rfl⟩
      obtain ⟨e1, e2, e3, e4⟩ := hds d hd
      exact ⟨n1.new e1, by rw [upd_ne e4]; exact e2, [], e3, .nil⟩
/-- a, b = .. -/
theorem q_asgGM {te : TE} {g : TG} {S S1 : Hf} {C : Pd V} (h : Ez M S S1 (te σ) G C) (n : Nv M0 G0 H0 G H) (hM : Sub M M0 H0) (a : At M G H) (s : S G H) (k : ∀ v G2 H2, Nv M G H G2 H2 → Nv M0 G0 H0 G2 H2 → At M G2 H2 → S1 G2 H2 → C.p G2 v → g v σ H2 (tw D)) : tSeq (tAsg te g) tw D σ H :=
  Ez.run (Q := fun v H1 => g v σ H1 (tw D)) h n hM a s k
theorem q_asgG {te : TE} {g : TG} {C : Pd V} (h : Pz (te σ) G C) (n : Nv M0 G0 H0 G H) (k : ∀ v G2 H2, Nv [] G H G2 H2 → Nv M0 G0 H0 G2 H2 → C.p G2 v → g v σ H2 (tw D)) : tSeq (tAsg te g) tw D σ H :=
  Pz.run (Q := fun v H1 => g v σ H1 (tw D)) h n k
/-- list(d.items()), the keys bools, the values texts -/
def clD (a : List Bool × QB.Ln) : PyData := .tuple [boolsD a.1, lineD a.2]
theorem z_nitems {te : TE} {A : List (List Bool × QB.Ln)} (h : Pz (te σ) G (ndP (keyR boolsD) P w K (nkv boolsD (A.map fun a => (a.1, V.str (lnS a.2)))))) : Pz (tNItems P w K te σ) G (dat K (.list (A.map clD))) := fun G1 H e a s Q q =>
  h G1 H e a s _ fun x G2 H2 n2 s2 ⟨d, xs, hx, hd, ne⟩ => by
    refine ⟨keyR boolsD, d, G2, _, hx, n2.gh, ⟨xs, n2.gh _ _ hd, ne⟩, fun H' p ts k1 k2 k3 k4 k5 k6 => ?_⟩
    let G' : Hp := fun b => if b ∈ ts then H' b else if b = p then H' b else G2 b
    have g2 : ∀ b, G2 b ≠ none → b ∉ ts ∧ b ≠ p := fun b hb => by
      have : H2 b ≠ none := by
        cases z : G2 b with
        | none => exact absurd z hb
        | some o => rw [n2.gh b o z]; simp
      exact ⟨fun z => this (k3 b z), fun z => this (z ▸ k2)⟩
    have gold : ∀ b, b ∉ ts → b ≠ p → G' b = G2 b := fun b h1 h2 => by
      show (if b ∈ ts then H' b else if b = p then H' b else G2 b) = _
      rw [if_neg h1, if_neg h2]
    have gts : ∀ b, b ∈ ts → G' b = H' b := fun b h1 => by
      show (if b ∈ ts then H' b else if b = p then H' b else G2 b) = _
      rw [if_pos h1]
    have gp : G' p = H' p := by
      show (if p ∈ ts then H' p else if p = p then H' p else G2 p) = _
      rw [if_neg k4, if_pos rfl]
    have egg : Ex G2 G' := fun b o hb => by
      obtain ⟨h1, h2⟩ := g2 b (by rw [hb]; simp)
      rw [gold b h1 h2]
      exact hb
    have nn : Nv [] G2 H2 G' H' := by
      refine ⟨fun b o _ hb => k1 b o hb, fun b hb => ?_, egg, fun b o hb => ?_, fun b h1 h2 => ?_⟩
      · cases z : H2 b with
        | none => exact absurd z hb
        | some o => rw [k1 b o z]; simp
      · by_cases h1 : b ∈ ts
        · rw [gts b h1] at hb
          exact hb
        · by_cases h2 : b = p
          · subst h2
            rw [gp] at hb
            exact hb
          · rw [gold b h1 h2] at hb
            exact k1 b o (n2.gh b o hb)
      · have h3 : b ∉ ts := fun z => h2 (k3 b z)
        have h4 : b ≠ p := fun z => h2 (z ▸ k2)
        rw [gold b h3 h4]
        exact h1
    refine q (.ref p) G' H' (n2.trans nn) True.intro (Dp.lst (SqL.of (by rw [gp]; exact k5)) ?_)
    have main : ∀ (A : List (List Bool × QB.Ln)) (us : List Addr), (∀ t ∈ us, t ∈ ts) → Paired (fun (t : Addr) (q : NestedKey × V) => ∃ b, KeyAt (keyR boolsD) K G2 b q.1 ∧ H' t = some (.tup [.ref b, q.2])) us (nkv boolsD (A.map fun a => (a.1, V.str (lnS a.2)))) → DpAll K G' (us.map V.ref) (A.map clD) := by
      intro A
      induction A with
      | nil =>
        intro us _ hp
        cases hp
        exact DpAll.nil
      | cons a A ih =>
        intro us hus hp
        cases hp with
        | @cons t _ us' _ h1 h2 =>
          obtain ⟨b, ⟨dd, hd1, hd2, hd3, hd4, k0, hk0⟩, hb⟩ := h1
          refine DpAll.cons ?_ (ih us' (fun z hz => hus z (List.mem_cons_of_mem _ hz)) h2)
          have hk : k0 = a.1 := kyB.inj _ _ (by rw [← hk0]; exact hd3)
          subst hk
          rw [hk0] at hd1
          exact Dp.tup (SqT.of (by rw [gts t (hus t List.mem_cons_self)]; exact hb)) (DpAll.cons (QN.dp_mono egg _ _ hd1) (DpAll.cons (Dp.str _) DpAll.nil))
    exact main A ts (fun _ h => h) k6
/-- setdefault, both outcomes named -/
theorem e_nsetd1 {ty tx : TE} {k : κ} (E : KyE κ kd) {i : Nat} {p : Addr} {v : V} {l2 : List (κ × V)} (hi : σ[i]? = some (some (.ref p))) (a : Nl P w K kd M0 H0 G H p l) (hty : Pz (ty σ) G (dat K (kd k))) (htx : Pz (tx σ) G (is v)) (hl : l.length < sizeLine) (n : Nv M0 G0 H0 G H)
    (h1 : k ∈ l.map (·.1) → l2 = l) (h2 : k ∉ l.map (·.1) → l2 = l ++ [(k, v)]) (kk : ∀ G2 H2, Nv [p] G H G2 H2 → Nv M0 G0 H0 G2 H2 → Nl P w K kd M0 H0 G2 H2 p l2 → tw D σ H2) : tSeq (tDrop (tNSetD P w K (tVar i) ty tx)) tw D σ H :=
  e_nsetd (D := { D with nx := tw D }) E hi a hty htx hl n (fun hm G2 H2 n1 n2 a2 => kk G2 H2 n1 n2 (h1 hm ▸ a2)) fun hm G2 H2 n1 n2 a2 => kk G2 H2 n1 n2 (h2 hm ▸ a2)
/-- d[k] = a scalar, the key new -/
theorem q_nset {te to ti : TE} {k : κ} (E : KyE κ kd) {p : Addr} {v : V} (hv : Pz (te σ) G (is v)) (ho : Pz (to σ) G (is (.ref p))) (hk : Pz (ti σ) G (dat K (kd k))) (a : Nl P w K kd M0 H0 G H p l) (hn : k ∉ l.map (·.1)) (hl : l.length < sizeLine) (n : Nv M0 G0 H0 G H)
    (kk : ∀ G2 H2, Nv [p] G H G2 H2 → Nv M0 G0 H0 G2 H2 → Nl P w K kd M0 H0 G2 H2 p (l ++ [(k, v)]) → tw D σ H2) : tSeq (tAsg te (gSub to ti (rNSet P w K))) tw D σ H :=
  e_nset (D := { D with nx := tw D }) E (M := []) (S := Tr) (S1 := Tr) (R := is v) hv (fun _ _ e _ => Ez.mono ho e) (fun _ _ e _ => Ez.mono hk e) (fun _ _ _ _ _ n1 => ⟨a.nv n1, hn⟩) hl n sub0 (At.pure n.gh) True.intro fun u G2 H2 n1 n2 c a2 => kk G2 H2 n1 n2 ((show u = v from c) ▸ a2)
/-- over a tuple of data -/
theorem l_fmT {tl te : TE} {tt : TT} {g : TG} {vs : List Nat} {α : Type} (l : List α) (d : α → PyData) (r : α → Option PyData) (h : Ez [] Tr Tr (tl σ) G (dat K (.tuple (l.map d)))) (hn : l.length ≤ 1000000)
    (k : ∀ a x G1, a ∈ l → Ex G G1 → Dp K G1 x (d a) → Pz (turn g tt te vs x σ) G1 (oD K (r a))) : Lz (M := []) Tr Tr (tLc (iTup K tl) g tt te vs σ) G (dats K (l.filterMap r)) :=
  Lz.to (l_flt (fun i => l[i]?.bind r) (wk_tup (z_tpl h)) (by rw [List.length_map]; exact hn) fun i x G1 hi e ⟨d', hd', hx⟩ => by
    rw [List.getElem?_map] at hd'
    obtain ⟨a, ha, rfl⟩ := Option.map_eq_some_iff.mp hd'
    rw [ha]
    exact k a x G1 (List.mem_of_getElem? ha) e hx) fun G' xs _ c => by
      rw [List.length_map, filterMap_range] at c
      exact c
/-- the last item of a tuple -/
theorem z_lastT {ta tb : TE} {ds : List PyData} {d : PyData} (ha : Pz (ta σ) G (dat K (.tuple (ds ++ [d])))) (hb : Pz (tb σ) G (is (.int (-1)))) : Pz (tOp (rIxT K) ta tb σ) G (dat K d) :=
  z_op ha hb fun x y G' e a b => by
    obtain ⟨p, xs, rfl, hs, hd⟩ := dp_tup a
    have hb' : y = .int (-1) := b
    subst hb'
    have hl := da_len hd
    rw [List.length_append, List.length_singleton] at hl
    obtain ⟨v, hv, hd'⟩ := da_at hd (i := ds.length) (d := d) (by simp)
    have hx : xs = xs.take ds.length ++ [v] := by
      have : xs = xs.take ds.length ++ xs.drop ds.length := (List.take_append_drop _ _).symm
      rw [List.drop_eq_getElem_cons (by omega), List.drop_of_length_le (by omega)] at this
      rw [List.getElem?_eq_getElem (by omega)] at hv
      rw [Option.some.inj hv] at this
      exact this
    refine z_ixT (v := v) hs ?_ hd'
    rw [hx]
    exact atI_last _ _
end
end QD

/-! The patterns' defs. -/
namespace QP
open PySem PySem.Spec PyProof.Rows L2 Evl QV QU QX QB QT QD
variable {P : Program} {w : World} {K : PySem.W.Frag} {mg : Str → Option Value} {base : Heap}
def sp_takes (K : PySem.W.Frag) : Sp := spP fun vs G C => ∃ en c v, vs = [v, .str (chr c)] ∧ Dp K G v (entD en) ∧ EntOk en ∧ C = is (.bl (en.takes c))
theorem p_takes (B : Bi K mg) {f : Addr} {fd : FuncData} (F : Fun K "takes" "takes" s_takes f fd) : FnOk P w K mg base CX0 1 f fd P_takes (sp_takes K) := by
  refine F.ok sc_takes (fun vs H Q E ⟨G, C, _, ⟨en, c, v, e, _⟩, _⟩ => by rw [e]; rfl) fun cdv A outer s H vs Q E hr h => ?_
  have nd := sc_takes.nd
  have hu := hu_of hr
  have hu6 := hr.units
  refine ⟨_, (pss_cons (ps_if (pt_cmpR op_eq (pe_ix (QU.ixT (K := K) rfl) (pv 0) pe_int (fun _ _ => rfl)) pe_str (nomark _)) (pss_one (ps_ret (pe_cmpR op_eq (pe_ix (QU.ixT (K := K) rfl) (pv 0) pe_int (fun _ _ => rfl)) (pv 1) (nomark _)))) pss_nil)
      (pss_cons (ps_if (pt_cmpR op_eq (pe_ix (QU.ixT (K := K) rfl) (pv 0) pe_int (fun _ _ => rfl)) pe_str (nomark _)) (pss_cons (ps_set (i := 2) nd rfl (.inl rfl) (pe_callB (QU.anyR (K := K) rfl rfl) (by rfl) B.any_ (by decide +kernel) (pa_cons (pe_lc (own := [("first", 3), ("last", 4)]) rfl nd (QU.piL (K := K) rfl (pe_ix (QU.ixT (K := K) rfl) (pv 0) pe_int (fun _ _ => rfl))) (blkOk_by (own := [("first", 3), ("last", 4)]) (N := N_takes) (sc := defScope s_takes) (by decide +kernel)) (fun _ _ _ _ _ => (QU.pgT (K := K) (n := 2) rfl rfl (pgs_cons (pg_name (i := 3) nd rfl (.inl rfl)) (pgs_cons (pg_name (i := 4) nd rfl (.inl rfl)) pgs_nil)))) (fun _ _ _ _ _ => pts_nil) (fun _ _ _ _ _ => (pe_chain op_le_str op_le_str (pv 3) (pv 1) (pv 4)))) pa_nil)))
      (pss_one (ps_ret (pe_cmpR op_ne (pv 2) (pe_ix (QU.ixT (K := K) rfl) (pv 0) pe_int (fun _ _ => rfl)) (nomark _))))) pss_nil)
      (pss_one (ps_ret pe_bl)))), ?_⟩
  obtain ⟨G, C, e, ⟨en, c, v, rfl, hv, hok, rfl⟩, k⟩ := h
  have n0 : Nv [] G H G H := Nv.refl e
  cases en with
  | one d =>
    refine q_then (zt_tag (t := "one") rfl hv (by decide +kernel)) n0 fun G1 H1 a1 n1 => ?_
    refine s_ret (z_opEq (z_str (z_ixDT (i := 1) (z_var rfl (QN.dp_mono n1.gg _ _ hv)) (z_c rfl) rfl)) (z_var rfl rfl) rfl (eq_chr d c)) n1 fun v G2 H2 n2 c2 => k v G2 H2 n2 c2
  | any =>
    refine q_skip (zt_tag (t := "any") rfl hv (by decide +kernel)) n0 fun G1 H1 a1 n1 => ?_
    refine q_skip (zt_tag (t := "any") rfl (QN.dp_mono n1.gg _ _ hv) (by decide +kernel)) n1 fun G2 H2 a2 n2 => ?_
    exact s_ret (z_c rfl) n2 k
  | lot =>
    refine q_skip (zt_tag (t := "lot") rfl hv (by decide +kernel)) n0 fun G1 H1 a1 n1 => ?_
    refine q_skip (zt_tag (t := "lot") rfl (QN.dp_mono n1.gg _ _ hv) (by decide +kernel)) n1 fun G2 H2 a2 n2 => ?_
    exact s_ret (z_c rfl) n2 k
  | of neg rs =>
    refine q_skip (zt_tag (t := "of") rfl hv (by decide +kernel)) n0 fun G1 H1 a1 n1 => ?_
    refine q_then (zt_tag (t := "of") rfl (QN.dp_mono n1.gg _ _ hv) (by decide +kernel)) n1 fun G2 H2 a2 n2 => ?_
    have hv2 := QN.dp_mono n2.gg _ _ hv
    refine q_asg (C := is (.bl (rs.any fun r => decide (r.1 ≤ c) && decide (c ≤ r.2)))) (z_any (bs := rs.map fun r => decide (r.1 ≤ c) && decide (c ≤ r.2)) (Lz.dat (Lz.to (l_fm rs rngD (fun r => some (.bool (decide (r.1 ≤ c) && decide (c ≤ r.2)))) (z_ixDT (i := 2) (z_var rfl hv2) (z_c rfl) rfl) (Nat.le_trans hok.2.1 (by decide)) fun r x G3 hr3 e3 hx => turn_twoA (tup2_of hx) (fun _ _ => rfl) fun u v G4 e4 hu hv => ?_) fun G' xs _ c => ?_) stb_tr) (by rw [List.any_map]; rfl)) n2 fun v G3 H3 a3 n3 c3 => ?_
    · exact dat_bool (z_chainS (z_var rfl (dp_str hu)) (z_var rfl rfl) (z_var rfl (dp_str hv)) (by rw [le_chr, le_chr]))
    · rw [fm_some] at c
      rw [List.map_map]
      exact c
    · have c3 : v = _ := c3
      subst c3
      exact s_ret (z_opNe (z_var rfl rfl) (z_bool (z_ixDT (i := 1) (z_var rfl (QN.dp_mono n3.gg _ _ hv)) (z_c rfl) rfl)) rfl rfl) n3 fun v G2 H2 n2 c2 => k v G2 H2 n2 (by
        have c2 : v = _ := c2
        rw [c2]
        show V.bl _ = V.bl _
        congr 1
        show _ = ((rs.any fun r => decide (r.1 ≤ c) && decide (c ≤ r.2)) != neg)
        cases (rs.any fun r => decide (r.1 ≤ c) && decide (c ≤ r.2)) <;> cases neg <;> rfl)

theorem map_range_snoc {α β : Type} (f : Nat → α) (g : α → β) (n : Nat) : ((List.range (n + 1)).map f).map g = ((List.range n).map f).map g ++ [g (f n)] := by
  rw [List.range_succ, List.map_append, List.map_append]
  rfl
def sp_start_reach (K : PySem.W.Frag) : Sp := spP fun vs G C => ∃ p v, vs = [v] ∧ Dp K G v (patD p) ∧ p.length ≤ 1000 ∧ C = dat K (boolsD (sr p))
theorem p_start_reach (B : Bi K mg) {f : Addr} {fd : FuncData} (F : Fun K "start_reach" "start_reach" s_start_reach f fd) : FnOk P w K mg base CX0 1 f fd P_start_reach (sp_start_reach K) := by
  refine F.ok sc_start_reach (fun vs H Q E ⟨G, C, _, ⟨p, v, e, _⟩, _⟩ => by rw [e]; rfl) fun cdv A outer s H vs Q E hr h => ?_
  have nd := sc_start_reach.nd
  have hu := hu_of hr
  have hu6 := hr.units
  refine ⟨_, (pss_cons (ps_set (i := 1) nd rfl (.inl rfl) (pe_lst (pa_cons pe_bl pa_nil)))
      (pss_cons (ps_for PassesOwn.never rfl (QU.piL (K := K) rfl (pv 0)) (pg_name (i := 2) nd rfl (.inl rfl)) (pss_one (ps_expr (pe_bm PySem.F.plainAttrs_list PySem.F.slot_list_append PySem.F.type_list_append mt_append (pv 1) (pa_cons (pe_and (pe_ix (QU.ixL (K := K) rfl) (pv 1) (pe_un un_neg pe_int) (fun _ _ => rfl)) (pe_one (pe_cmpR op_eq (pe_ix (QU.ixT (K := K) rfl) (pv 2) pe_int (fun _ _ => rfl)) pe_str (nomark _)))) pa_nil)))))
      (pss_one (ps_ret (pe_callTy (QU.tupOf (K := K) rfl) (by rfl) B.tuple_ (by decide +kernel) (pa_cons (pv 1) pa_nil)))))), ?_⟩
  obtain ⟨G, C, e, ⟨p, v, rfl, hv, hl, rfl⟩, k⟩ := h
  have n0 : Nv [] G H G H := Nv.refl e
  refine q_asgL (B := is [.bl true]) (l_lst (z_disp (z_c rfl) z_nil) stb_tr fun G' xs b => by rw [show xs = _ from b]; decide) n0 fun l xs G1 H1 a1 n1 hl1 lc b => ?_
  have b : xs = _ := b
  subst b
  have hv1 := QN.dp_mono n1.gg _ _ hv
  refine q_forP (n := p.length) (wk_list (z_lst (z_var rfl hv1)) |> fun h => by rw [List.length_map] at h; exact h) n1 (fun i σ G2 H2 => ∃ y, σ = [some v, some (.ref l), y] ∧ Lc H G2 H2 l (((List.range (i + 1)).map (clo p st0)).map V.bl)) (fun G2 H2 a2 n2 => ⟨none, rfl, lc.nv a2⟩) (fun i σ G2 H2 x G3 H3 hi n2 e2 ⟨y, hσ, lc2⟩ a3 n3 hx => ?_) fun σ G2 H2 n2 e2 ⟨y, hσ, lc2⟩ => ?_
  · subst hσ
    obtain ⟨d, hd, hx⟩ := hx
    rw [List.getElem?_map] at hd
    obtain ⟨en, he, rfl⟩ := Option.map_eq_some_iff.mp hd
    have lc3 := lc2.nv a3
    have hlast : ((List.range (i + 1)).map (clo p st0)).map V.bl = ((List.range i).map (clo p st0)).map V.bl ++ [.bl (clo p st0 i)] := map_range_snoc _ _ _
    have hlot : lotAt p i = en.isLot := by unfold lotAt; rw [he]
    show tDrop _ _ [some v, some (.ref l), some x] H3
    refine e_appK (x := .bl (clo p st0 i && lotAt p i)) rfl lc3 (by simp; exact Nat.lt_of_lt_of_le (by omega : i + 1 < 2000) (by decide)) (z_andV (z_ixK (i := -1) (z_var rfl rfl) (z_neg (z_c rfl) rfl) lc3.sq (by rw [hlast]; exact atI_last _ _)) fun _ => ?_) n3 fun G4 H4 a4 n4 lc4 => ⟨G4, n4, a3.gg.trans a4.gg, _, rfl, ?_⟩
    · rw [entD_tag] at hx
      rw [hlot, ← lot_tag]
      exact z_opEq (z_str (z_ixDT (i := 0) (z_var rfl (QN.dp_mono lc3.gg _ _ hx)) (z_c rfl) rfl)) (z_c rfl) rfl rfl
    · refine lc4.is ?_
      rw [map_range_snoc _ _ (i + 1)]
      rfl
  · subst hσ
    refine s_ret (z_tupOf (ds := (sr p).map .bool) (z_var rfl (lc2.dat ?_)) stb_tr) (lc2.close n2) k
    show DpAll K G2 (((List.range (p.length + 1)).map (clo p st0)).map V.bl) _
    exact bools_da _

def sp_advanced (K : PySem.W.Frag) : Sp := spP fun vs G C => ∃ p r c v u, vs = [v, u, .str (chr c)] ∧ Dp K G v (patD p) ∧ Dp K G u (boolsD r) ∧ PatOk p ∧ p.length ≤ 1000 ∧ r.length = p.length + 1 ∧ C = dat K (boolsD (adv p r c))
theorem getD_at {l : List Bool} {i : Nat} (h : i < l.length) : (l.map PyData.bool)[i]? = some (.bool (l.getD i false)) := by
  rw [List.getElem?_map, List.getElem?_eq_getElem h, List.getD_eq_getElem?_getD, List.getElem?_eq_getElem h]
  rfl
theorem getD_atV {l : List Bool} {i : Nat} (h : i < l.length) : (l.map V.bl)[i]? = some (.bl (l.getD i false)) := by
  rw [List.getElem?_map, List.getElem?_eq_getElem h, List.getD_eq_getElem?_getD, List.getElem?_eq_getElem h]
  rfl
theorem ixN_nat {n i : Nat} (h : i < n) : ixN n ((i : Nat) : Int) = some i := by
  unfold ixN
  rw [if_pos (by omega), if_pos (by omega)]
  rfl
theorem p_advanced (B : Bi K mg) {f : Addr} {fd : FuncData} (F : Fun K "advanced" "advanced" s_advanced f fd) (c_takes : Callee P w K mg base 1 "takes" P_takes (sp_takes K)) : FnOk P w K mg base CX0 2 f fd P_advanced (sp_advanced K) := by
  refine F.ok sc_advanced (fun vs H Q E ⟨G, C, _, ⟨p, r, c, v, u, e, _⟩, _⟩ => by rw [e]; rfl) fun cdv A outer s H vs Q E hr h => ?_
  have nd := sc_advanced.nd
  have hu := hu_of hr
  have hu6 := hr.units
  refine ⟨_, (pss_cons (ps_set (i := 3) nd rfl (.inl rfl) (pe_op op_rep (pe_lst (pa_cons pe_bl pa_nil)) (pe_op op_add (pe_callB (QU.lenS (K := K) rfl) (by rfl) B.len_ (by decide +kernel) (pa_cons (pv 0) pa_nil)) pe_int)))
      (pss_cons (ps_for PassesOwn.never rfl (QU.piE (K := K) rfl (by rfl) B.enumerate_ (pa_cons (pv 0) pa_nil)) (QU.pgT (K := K) (n := 2) rfl rfl (pgs_cons (pg_name (i := 4) nd rfl (.inl rfl)) (pgs_cons (pg_name (i := 5) nd rfl (.inl rfl)) pgs_nil))) (pss_cons (ps_if (pw_and (pt_val (pe_ix (QU.ixT (K := K) rfl) (pv 1) (pv 4) (fun _ _ => rfl))) (pw_and1 (pt_val (pe_call c_takes.ok (hr.mono (by decide)) (by rfl) c_takes.m c_takes.kp c_takes.b .nil pass0 (pa_cons (pv 5) (pa_cons (pv 2) pa_nil)))))).pt (pss_one (ps_asg pe_bl (pg_sub (pv 3) (pe_ifExp (pt_cmpR op_eq (pe_ix (QU.ixT (K := K) rfl) (pv 5) pe_int (fun _ _ => rfl)) pe_str (nomark _)) (pv 4) (pe_op op_add (pv 4) pe_int)) set_list))) pss_nil)
      (pss_one (ps_if (pw_and (pt_val (pe_ix (QU.ixL (K := K) rfl) (pv 3) (pv 4) (fun _ _ => rfl))) (pw_and1 (pt_cmpR op_eq (pe_ix (QU.ixT (K := K) rfl) (pv 5) pe_int (fun _ _ => rfl)) pe_str (nomark _)))).pt (pss_one (ps_asg pe_bl (pg_sub (pv 3) (pe_op op_add (pv 4) pe_int) set_list))) pss_nil))))
      (pss_one (ps_ret (pe_callTy (QU.tupOf (K := K) rfl) (by rfl) B.tuple_ (by decide +kernel) (pa_cons (pv 3) pa_nil)))))), ?_⟩
  obtain ⟨G, C, e, ⟨p, r, c, v, u, rfl, hv, hr', hok, hl, hrl, rfl⟩, k⟩ := h
  have n0 : Nv [] G H G H := Nv.refl e
  have hplen : ((p.map entD).length : Nat) = p.length := List.length_map _
  refine q_asgL (B := is ((List.replicate (p.length + 1) false).map V.bl)) (l_rep (xs := [.bl false]) (k := ((p.length + 1 : Nat) : Int)) (Lz.exact (l_lst (z_disp (z_c rfl) z_nil) stb_tr fun G' xs b => by rw [show xs = _ from b]; decide) stb_tr) (z_opI (z_len1 (ds := p.map entD) (z_var rfl hv)) (z_c rfl) (by rw [hplen]; rfl)) stb_tr (by omega) (by simp; exact Nat.le_trans (by omega : p.length + 1 ≤ 2000) (by decide)) |> fun h => Lz.iz h (by simp [List.flatten_replicate_singleton])) n0 fun l xs G1 H1 a1 n1 hl1 lc b => ?_
  have b : xs = _ := b
  subst b
  have hv1 := QN.dp_mono n1.gg _ _ hv
  have hwk := wk_enum (z_lst (K := K) (M := []) (S := Tr) (S1 := Tr) (f := tVar 0 [some v, some u, some (.str (chr c)), some (.ref l), none, none]) (z_var rfl hv1))
  rw [hplen] at hwk
  refine q_forP (n := p.length) hwk n1 (fun i σ G2 H2 => ∃ y z, σ = [some v, some u, some (.str (chr c)), some (.ref l), y, z] ∧ Lc H G2 H2 l ((advUp p r c i).map V.bl)) (fun G2 H2 a2 n2 => ⟨none, none, rfl, lc.nv a2⟩) (fun i σ G2 H2 x G3 H3 hi n2 e2 ⟨y, z, hσ, lc2⟩ a3 n3 hx => ?_) fun σ G2 H2 n2 e2 ⟨y, z, hσ, lc2⟩ => ?_
  · subst hσ
    have lc3 := lc2.nv a3
    refine g_two hx n3.gh fun pl en hpl hen => ?_
    have hpl : pl = .int (i : Nat) := hpl
    subst hpl
    obtain ⟨d, hd, hx⟩ := hen
    rw [List.getElem?_map] at hd
    obtain ⟨et, he, rfl⟩ := Option.map_eq_some_iff.mp hd
    have hlot : lotAt p i = et.isLot := by unfold lotAt; rw [he]
    have htk : takesAt p i c = et.takes c := by unfold takesAt; rw [he]
    have heok : EntOk et := hok et (List.mem_of_getElem? he)
    have hr3 := QN.dp_mono n3.gg _ _ hr'
    show tSeq _ _ _ [some v, some u, some (.str (chr c)), some (.ref l), some (.int (i : Nat)), some en] H3
    refine q_ifS (b := r.getD i false && takesAt p i c) (fun G4 H4 => Nv [] G H G4 H4 ∧ Ex G3 G4 ∧ Lc H G4 H4 l ((advA p r c i (advUp p r c i)).map V.bl)) (zt_and (zt_B (z_bool (z_ixDT (z_var rfl hr3) (z_var rfl rfl) (getD_at (by omega))))) fun _ => zt_B (z_call (B := consP (dat K (entD et)) (is [.str (chr c)])) (z_cons (z_var rfl hx) (z_disp (z_var rfl rfl) z_nil)) stb_tr fun vs' G' e' ⟨x1, xs1, hx1, hx2, hx3⟩ => ?_)) n3 (fun hb G4 H4 a4 n4 next => ?_) (fun hb G4 H4 a4 n4 => ⟨n4, a4.gg, (lc3.nv a4).is (by unfold advA; rw [if_neg (by rw [hb]; exact Bool.false_ne_true)])⟩) fun G4 H4 ⟨n4, e4, lc4⟩ => ?_
    · have hx3 : xs1 = _ := hx3
      subst hx1 hx3
      exact ⟨et, c, x1, rfl, hx2, heok, by rw [htk]⟩
    · have lc4 := lc3.nv a4
      have hx4 := QN.dp_mono a4.gg _ _ hx
      have hx5 := QN.dp_mono lc4.gg _ _ hx4
      rw [entD_tag] at hx5
      have hix : ixN ((advUp p r c i).map V.bl).length (((if lotAt p i then i else i + 1 : Nat) : Nat) : Int) = some (if lotAt p i then i else i + 1) := ixN_nat (by rw [List.length_map, advUp_len]; split <;> omega)
      refine e_setK (x := .bl true) (k := (((if lotAt p i then i else i + 1 : Nat) : Nat) : Int)) (z_c rfl) rfl (z_if (b := lotAt p i) (hlot ▸ lot_tag et ▸ zt_tag (t := tagOf et) rfl hx5 rfl) (fun hb => z_var rfl ?_) (fun hb => z_opI (z_var rfl rfl) (z_c rfl) ?_)) lc4 hix n4 fun G5 H5 a5 n5 lc5 => next G5 H5 ⟨n5, a4.gg.trans a5.gg, lc5.is ?_⟩
      · rw [hb]
        rfl
      · rw [hb]
        rfl
      · unfold advA
        rw [if_pos hb, ← List.map_set]
    · have hx4 := QN.dp_mono e4 _ _ hx
      have hx5 := QN.dp_mono lc4.gg _ _ hx4
      rw [entD_tag] at hx5
      have hal : (advA p r c i (advUp p r c i)).length = p.length + 1 := by rw [advA_len, advUp_len]
      refine s_ifK (b := (advA p r c i (advUp p r c i)).getD i false && lotAt p i) (zt_and (zt_B (z_ixK (z_var rfl rfl) (z_var rfl rfl) lc4.sq (atI_nat (getD_atV (by omega))))) fun _ => hlot ▸ lot_tag et ▸ zt_tag (t := tagOf et) rfl hx5 rfl) lc4 n4 (fun hb G5 H5 a5 n5 => ?_) (fun hb G5 H5 a5 n5 => ?_)
      · have lc5 := lc4.nv a5
        refine e_setK (x := .bl true) (k := ((i + 1 : Nat) : Int)) (z_c rfl) rfl (z_opI (z_var rfl rfl) (z_c rfl) rfl) lc5 (ixN_nat (by rw [List.length_map]; omega)) n5 fun G6 H6 a6 n6 lc6 => ⟨G6, n6, ((a3.gg.trans e4).trans a5.gg).trans a6.gg, _, _, rfl, lc6.is ?_⟩
        show _ = (advT p r c i (advUp p r c i)).map V.bl
        unfold advT advB
        rw [if_pos hb, List.map_set]
      · refine ⟨G5, n5, (a3.gg.trans e4).trans a5.gg, _, _, rfl, (lc4.nv a5).is ?_⟩
        show _ = (advT p r c i (advUp p r c i)).map V.bl
        unfold advT advB
        rw [if_neg (by rw [hb]; exact Bool.false_ne_true)]
  · subst hσ
    refine s_ret (z_tupOf (ds := (adv p r c).map .bool) (z_var rfl (lc2.dat ?_)) stb_tr) (lc2.close n2) k
    rw [advUp_eq]
    exact bools_da _
end QP

/-! The checks' defs, of patterns. -/
namespace QP
open PySem PySem.Spec PyProof.Rows L2 Evl QV QU QX QB QT QD
variable {P : Program} {w : World} {K : PySem.W.Frag} {mg : Str → Option Value} {base : Heap}
def sp_sign (R : Nat → Prop) : Sp := spP fun vs G C => ∃ c, vs = [.str (chr c)] ∧ R c ∧ C = is (.bl true)
theorem p_is_sign1 (B : Bi K mg) {f : Addr} {fd : FuncData} (F : Fun K "is_sign" "is_sign" s_is_sign1 f fd) : FnOk P w K mg base CX0 1 f fd P_is_sign1 (sp_sign Mk) := by
  refine F.ok sc_is_sign1 (fun vs H Q E ⟨G, C, _, ⟨c, e, _⟩, _⟩ => by rw [e]; rfl) fun cdv A outer s H vs Q E hr h => ?_
  have nd := sc_is_sign1.nd
  have hu := hu_of hr
  have hu6 := hr.units
  refine ⟨_, (pss_one (ps_ret (pe_and (pe_callB (QU.isiR (K := K) rfl) (by rfl) B.isinstance_ (by decide +kernel) (pa_cons (pv 0) (pa_cons (pe_bltn (v := .ty "str") (by rfl) B.str_ (by decide +kernel) rfl) pa_nil))) (pe_and (pe_cmpR op_eq (pe_callB call_len_str (by rfl) B.len_ (by decide +kernel) (pa_cons (pv 0) pa_nil)) pe_int (nomark _)) (pe_one (pe_cmpR QW.op_inS (pv 0) (pe_glob (v := .str marksT) (by rfl) B.SIGNS_marks.2 ⟨_, rfl⟩) (by rfl))))))), ?_⟩
  obtain ⟨G, C, e, ⟨c, rfl, hc, rfl⟩, k⟩ := h
  exact s_ret (z_andV (z_isi (t := "str") (b := true) (z_tyS (dat_str (z_var rfl rfl))) (by decide +kernel)) fun _ => z_andV (z_opEq (z_lenS (z_var rfl rfl) len_chr) (z_c rfl) rfl (by show decide (V.int 1 = V.int 1) = true; decide +kernel)) fun _ => z_inS (z_var rfl rfl) (z_c rfl) (in_marks hc)) (Nv.refl e) k
theorem p_is_sign2 (B : Bi K mg) {f : Addr} {fd : FuncData} (F : Fun K "is_sign" "is_sign" s_is_sign2 f fd) : FnOk P w K mg base CX0 1 f fd P_is_sign2 (sp_sign Sgn) := by
  refine F.ok sc_is_sign2 (fun vs H Q E ⟨G, C, _, ⟨c, e, _⟩, _⟩ => by rw [e]; rfl) fun cdv A outer s H vs Q E hr h => ?_
  have nd := sc_is_sign2.nd
  have hu := hu_of hr
  have hu6 := hr.units
  refine ⟨_, (pss_one (ps_ret (pe_and (pe_callB (QU.isiR (K := K) rfl) (by rfl) B.isinstance_ (by decide +kernel) (pa_cons (pv 0) (pa_cons (pe_bltn (v := .ty "str") (by rfl) B.str_ (by decide +kernel) rfl) pa_nil))) (pe_and (pe_cmpR op_eq (pe_callB call_len_str (by rfl) B.len_ (by decide +kernel) (pa_cons (pv 0) pa_nil)) pe_int (nomark _)) (pe_one (pe_cmpR QW.op_inS (pv 0) (pe_glob (v := .str lineT) (by rfl) B.SIGNS_linetests.2 ⟨_, rfl⟩) (by rfl))))))), ?_⟩
  obtain ⟨G, C, e, ⟨c, rfl, hc, rfl⟩, k⟩ := h
  exact s_ret (z_andV (z_isi (t := "str") (b := true) (z_tyS (dat_str (z_var rfl rfl))) (by decide +kernel)) fun _ => z_andV (z_opEq (z_lenS (z_var rfl rfl) len_chr) (z_c rfl) rfl (by show decide (V.int 1 = V.int 1) = true; decide +kernel)) fun _ => z_inS (z_var rfl rfl) (z_c rfl) (in_line hc)) (Nv.refl e) k
def sp_is_range (K : PySem.W.Frag) : Sp := spP fun vs G C => ∃ r v, vs = [v] ∧ Dp K G v (rngD r) ∧ Mk r.1 ∧ Mk r.2 ∧ r.1 ≤ r.2 ∧ C = is (.bl true)
theorem p_is_range (B : Bi K mg) {f : Addr} {fd : FuncData} (F : Fun K "is_range" "is_range" s_is_range f fd) (c_is_sign_patterns : Callee P w K mg base 1 "is_sign_patterns" P_is_sign1 (sp_sign Mk)) : FnOk P w K mg base CX0 2 f fd P_is_range (sp_is_range K) := by
  refine F.ok sc_is_range (fun vs H Q E ⟨G, C, _, ⟨r, v, e, _⟩, _⟩ => by rw [e]; rfl) fun cdv A outer s H vs Q E hr h => ?_
  have nd := sc_is_range.nd
  have hu := hu_of hr
  have hu6 := hr.units
  refine ⟨_, (pss_cons (ps_if (pw_or (pt_not (pt_val (pe_callB (QU.isiR (K := K) rfl) (by rfl) B.isinstance_ (by decide +kernel) (pa_cons (pv 0) (pa_cons (pe_bltn (v := .ty "tuple") (by rfl) B.tuple_ (by decide +kernel) rfl) pa_nil))))) (pw_or1 (pt_cmpR op_ne (pe_callB (QU.lenS (K := K) rfl) (by rfl) B.len_ (by decide +kernel) (pa_cons (pv 0) pa_nil)) pe_int (nomark _)))).pt (pss_one (ps_ret pe_bl)) pss_nil)
      (pss_one (ps_ret (pe_and (pe_call c_is_sign_patterns.ok (hr.mono (by decide)) (by rfl) c_is_sign_patterns.m c_is_sign_patterns.kp c_is_sign_patterns.b .nil pass0 (pa_cons (pe_ix (QU.ixT (K := K) rfl) (pv 0) pe_int (fun _ _ => rfl)) pa_nil)) (pe_and (pe_call c_is_sign_patterns.ok (hr.mono (by decide)) (by rfl) c_is_sign_patterns.m c_is_sign_patterns.kp c_is_sign_patterns.b .nil pass0 (pa_cons (pe_ix (QU.ixT (K := K) rfl) (pv 0) pe_int (fun _ _ => rfl)) pa_nil)) (pe_one (pe_cmpR op_le_str (pe_ix (QU.ixT (K := K) rfl) (pv 0) pe_int (fun _ _ => rfl)) (pe_ix (QU.ixT (K := K) rfl) (pv 0) pe_int (fun _ _ => rfl)) (nomark _)))))))), ?_⟩
  obtain ⟨G, C, e, ⟨r, v, rfl, hv, h1, h2, h3, rfl⟩, k⟩ := h
  have n0 : Nv [] G H G H := Nv.refl e
  refine q_skip (zt_or (a := false) (b := false) (zt_not (a := true) (zt_B (z_isi (t := "tuple") (z_tyT (z_var rfl hv)) (by decide +kernel)))) fun _ => zt_test (z_opNe (z_lenT (z_var rfl hv)) (z_c rfl) rfl (by show (!decide (V.int 2 = V.int 2)) = false; decide +kernel))) n0 fun G1 H1 a1 n1 => ?_
  have hv1 := QN.dp_mono n1.gg _ _ hv
  refine s_ret (z_andV (a := true) (z_call1 (z_fld (n := 0) rfl hv1 rfl) stb_tr fun x G' _ hx => ⟨r.1, by rw [dp_str hx], h1, rfl⟩) fun _ => z_andV (a := true) (b := true) (z_call1 (z_fld (n := 1) rfl hv1 rfl) stb_tr fun x G' _ hx => ⟨r.2, by rw [dp_str hx], h2, rfl⟩) fun _ =>
    z_leS (z_str (z_fld (n := 0) rfl hv1 rfl)) (z_str (z_fld (n := 1) rfl hv1 rfl)) (by rw [le_chr, decide_eq_true h3])) n1 k
def sp_is_entry (K : PySem.W.Frag) : Sp := spP fun vs G C => ∃ en v, vs = [v] ∧ Dp K G v (entD en) ∧ EntOk en ∧ C = is (.bl true)
theorem p_is_entry (B : Bi K mg) {f : Addr} {fd : FuncData} (F : Fun K "is_entry" "is_entry" s_is_entry f fd) (c_is_sign_patterns : Callee P w K mg base 1 "is_sign_patterns" P_is_sign1 (sp_sign Mk)) (c_is_range : Callee P w K mg base 2 "is_range" P_is_range (sp_is_range K)) : FnOk P w K mg base CX0 3 f fd P_is_entry (sp_is_entry K) := by
  refine F.ok sc_is_entry (fun vs H Q E ⟨G, C, _, ⟨r, v, e, _⟩, _⟩ => by rw [e]; rfl) fun cdv A outer s H vs Q E hr h => ?_
  have nd := sc_is_entry.nd
  have hu := hu_of hr
  have hu6 := hr.units
  refine ⟨_, (pss_cons (ps_if (pw_or (pt_not (pt_val (pe_callB (QU.isiR (K := K) rfl) (by rfl) B.isinstance_ (by decide +kernel) (pa_cons (pv 0) (pa_cons (pe_bltn (v := .ty "tuple") (by rfl) B.tuple_ (by decide +kernel) rfl) pa_nil))))) (pw_or1 (pt_cmpR (QU.eqD (K := K) rfl hu6) (pv 0) (pe_tup pa_nil) (nomark _)))).pt (pss_one (ps_ret pe_bl)) pss_nil)
      (pss_cons (ps_if (pt_cmpR (QU.opIn (K := K) rfl) (pe_ix (QU.ixT (K := K) rfl) (pv 0) pe_int (fun _ _ => rfl)) (pe_tup (pa_cons pe_str (pa_cons pe_str pa_nil))) (by rfl)) (pss_one (ps_ret (pe_cmpR op_eq (pe_callB (QU.lenS (K := K) rfl) (by rfl) B.len_ (by decide +kernel) (pa_cons (pv 0) pa_nil)) pe_int (nomark _)))) pss_nil)
      (pss_cons (ps_if (pt_cmpR op_eq (pe_ix (QU.ixT (K := K) rfl) (pv 0) pe_int (fun _ _ => rfl)) pe_str (nomark _)) (pss_one (ps_ret (pe_and (pe_cmpR op_eq (pe_callB (QU.lenS (K := K) rfl) (by rfl) B.len_ (by decide +kernel) (pa_cons (pv 0) pa_nil)) pe_int (nomark _)) (pe_one (pe_call c_is_sign_patterns.ok (hr.mono (by decide)) (by rfl) c_is_sign_patterns.m c_is_sign_patterns.kp c_is_sign_patterns.b .nil pass0 (pa_cons (pe_ix (QU.ixT (K := K) rfl) (pv 0) pe_int (fun _ _ => rfl)) pa_nil)))))) pss_nil)
      (pss_cons (ps_if (pw_or (pt_cmpR op_ne (pe_ix (QU.ixT (K := K) rfl) (pv 0) pe_int (fun _ _ => rfl)) pe_str (nomark _)) (pw_or (pt_cmpR op_ne (pe_callB (QU.lenS (K := K) rfl) (by rfl) B.len_ (by decide +kernel) (pa_cons (pv 0) pa_nil)) pe_int (nomark _)) (pw_or1 (pt_not (pt_val (pe_callB (QU.isiR (K := K) rfl) (by rfl) B.isinstance_ (by decide +kernel) (pa_cons (pe_ix (QU.ixT (K := K) rfl) (pv 0) pe_int (fun _ _ => rfl)) (pa_cons (pe_bltn (v := .ty "bool") (by rfl) B.bool_ (by decide +kernel) rfl) pa_nil)))))))).pt (pss_one (ps_ret pe_bl)) pss_nil)
      (pss_one (ps_ret (pe_and (pe_callB (QU.isiR (K := K) rfl) (by rfl) B.isinstance_ (by decide +kernel) (pa_cons (pe_ix (QU.ixT (K := K) rfl) (pv 0) pe_int (fun _ _ => rfl)) (pa_cons (pe_bltn (v := .ty "list") (by rfl) B.list_ (by decide +kernel) rfl) pa_nil))) (pe_and (pe_cmpR (QU.neD (K := K) rfl hu6) (pe_ix (QU.ixT (K := K) rfl) (pv 0) pe_int (fun _ _ => rfl)) (pe_lst pa_nil) (nomark _)) (pe_one (pe_callB (QU.allR (K := K) rfl rfl) (by rfl) B.all_ (by decide +kernel) (pa_cons (pe_lc (own := [("part", 1)]) rfl nd (QU.piL (K := K) rfl (pe_ix (QU.ixT (K := K) rfl) (pv 0) pe_int (fun _ _ => rfl))) (blkOk_by (own := [("part", 1)]) (N := N_is_entry) (sc := defScope s_is_entry) (by decide +kernel)) (fun _ _ _ _ _ => (pg_name (i := 1) nd rfl (.inl rfl))) (fun _ _ _ _ _ => pts_nil) (fun _ _ _ _ _ => (pe_call c_is_range.ok (hr.mono (by decide)) (by rfl) c_is_range.m c_is_range.kp c_is_range.b .nil pass0 (pa_cons (pv 1) pa_nil)))) pa_nil))))))))))), ?_⟩
  obtain ⟨G, C, e, ⟨en, v, rfl, hv, hok, rfl⟩, k⟩ := h
  have n0 : Nv [] G H G H := Nv.refl e
  refine q_skip (zt_or (a := false) (b := false) (zt_not (a := true) (zt_B (z_isi (t := "tuple") (z_tyT (z_var rfl hv)) (by decide +kernel)))) fun _ => zt_test (z_eqD (z_var rfl hv) (z_tupD z_nilD stb_tr) ((shp_ent hok).ok (by decide)) (by decide +kernel) (by rw [entD_tag]; exact eqv_nil))) n0 fun G1 H1 a1 n1 => ?_
  have hv1 := QN.dp_mono n1.gg _ _ hv
  have two : ∀ {G : Hp} {σ : L2.St} {b : Bool} {t x y : Str} {ds : List PyData}, σ[0]? = some (some v) → Dp K G v (.tuple (.str t :: ds)) → inV (.str t) [.str x, .str y] = b →
      Pz (tTest (tOp (rIn K false) (tOp (rIxT K) (tVar 0) (tC (.int 0))) (tTup (tCons (tC (.str x)) (tCons (tC (.str y)) tNil)))) σ) G (is b) := fun hσ hd hb =>
    zt_test (z_inT (z_str (z_fld (n := 0) hσ hd rfl)) (z_tup (z_disp (z_c rfl) (z_disp (z_c rfl) z_nil)) stb_tr fun G' xs b => by rw [show xs = _ from b]; show 2 ≤ sizeLine; decide) rfl rfl hb)
  cases en with
  | any =>
    refine q_then (two rfl hv1 (by decide +kernel)) n1 fun G2 H2 a2 n2 => ?_
    exact s_ret (z_opEq (z_lenT (ds := entF .any) (z_var rfl (QN.dp_mono n2.gg _ _ hv))) (z_c rfl) rfl (by decide +kernel)) n2 k
  | lot =>
    refine q_then (two rfl hv1 (by decide +kernel)) n1 fun G2 H2 a2 n2 => ?_
    exact s_ret (z_opEq (z_lenT (ds := entF .lot) (z_var rfl (QN.dp_mono n2.gg _ _ hv))) (z_c rfl) rfl (by decide +kernel)) n2 k
  | one c =>
    refine q_skip (two rfl hv1 (by decide +kernel)) n1 fun G2 H2 a2 n2 => ?_
    refine q_then (zt_tag (t := "one") rfl (QN.dp_mono n2.gg _ _ hv) (by decide +kernel)) n2 fun G3 H3 a3 n3 => ?_
    have hv3 := QN.dp_mono n3.gg _ _ hv
    exact s_ret (z_andV (a := true) (b := true) (z_opEq (z_lenT (ds := entF (.one c)) (z_var rfl hv3)) (z_c rfl) rfl (by show decide (V.int 2 = V.int 2) = true; decide +kernel)) fun _ => z_call1 (z_fld (n := 1) rfl hv3 rfl) stb_tr fun x G' _ hx => ⟨c, by rw [dp_str hx], .inr hok, rfl⟩) n3 k
  | of neg rs =>
    refine q_skip (two rfl hv1 (by decide +kernel)) n1 fun G2 H2 a2 n2 => ?_
    refine q_skip (zt_tag (t := "of") rfl (QN.dp_mono n2.gg _ _ hv) (by decide +kernel)) n2 fun G3 H3 a3 n3 => ?_
    have hv3 := QN.dp_mono n3.gg _ _ hv
    refine q_skip (zt_or (a := false) (b := false) (zt_tagN (t := "of") rfl hv3 (by decide +kernel)) fun _ => zt_or (a := false) (b := false) (zt_test (z_opNe (z_lenT (ds := entF (.of neg rs)) (z_var rfl hv3)) (z_c rfl) rfl (by show (!decide (V.int 3 = V.int 3)) = false; decide +kernel))) fun _ => zt_not (a := true) (zt_B (z_isi (t := "bool") (z_tyB (z_fld (n := 1) rfl hv3 rfl)) (by decide +kernel)))) n3 fun G4 H4 a4 n4 => ?_
    have hv4 := QN.dp_mono n4.gg _ _ hv
    have hs : Shp 2 (.list (rs.map rngD)) := shp_rngs fun r hr => ⟨mk_le (hok.2.2 r hr).1, mk_le (hok.2.2 r hr).2.1⟩
    exact s_ret (z_andV (a := true) (z_isi (t := "list") (z_tyL (z_fld (n := 2) rfl hv4 rfl)) (by decide +kernel)) fun _ => z_andV (a := true) (b := true) (z_neD (z_fld (n := 2) rfl hv4 rfl) (Lz.dat (l_lstD z_nilD stb_tr) stb_tr) (hs.ok (by decide)) (by decide +kernel) (by
      cases rs with
      | nil => exact absurd rfl hok.1
      | cons r rs => rw [List.map_cons, eqv_nilL]; rfl)) fun _ => z_allD rs rngD (z_fld (n := 2) rfl hv4 rfl) (Nat.le_trans hok.2.1 (by decide)) (fun _ => rfl) fun r x G5 hr' e5 hx =>
        z_call1 (A := dat K (rngD r)) (z_var rfl hx) stb_tr fun x G' _ hx => ⟨r, x, rfl, hx, (hok.2.2 r hr').1, (hok.2.2 r hr').2.1, (hok.2.2 r hr').2.2, rfl⟩) n4 k
def sp_is_pattern (K : PySem.W.Frag) : Sp := spP fun vs G C => ∃ p v, vs = [v] ∧ Dp K G v (patD p) ∧ PatOk p ∧ p.length ≤ 1000 ∧ C = is (.bl true)
theorem p_is_pattern (B : Bi K mg) {f : Addr} {fd : FuncData} (F : Fun K "is_pattern" "is_pattern" s_is_pattern f fd) (c_is_entry : Callee P w K mg base 3 "is_entry" P_is_entry (sp_is_entry K)) : FnOk P w K mg base CX0 4 f fd P_is_pattern (sp_is_pattern K) := by
  refine F.ok sc_is_pattern (fun vs H Q E ⟨G, C, _, ⟨r, v, e, _⟩, _⟩ => by rw [e]; rfl) fun cdv A outer s H vs Q E hr h => ?_
  have nd := sc_is_pattern.nd
  have hu := hu_of hr
  have hu6 := hr.units
  refine ⟨_, (pss_one (ps_ret (pe_and (pe_callB (QU.isiR (K := K) rfl) (by rfl) B.isinstance_ (by decide +kernel) (pa_cons (pv 0) (pa_cons (pe_bltn (v := .ty "list") (by rfl) B.list_ (by decide +kernel) rfl) pa_nil))) (pe_one (pe_callB (QU.allR (K := K) rfl rfl) (by rfl) B.all_ (by decide +kernel) (pa_cons (pe_lc (own := [("entry", 1)]) rfl nd (QU.piL (K := K) rfl (pv 0)) (blkOk_by (own := [("entry", 1)]) (N := N_is_pattern) (sc := defScope s_is_pattern) (by decide +kernel)) (fun _ _ _ _ _ => (pg_name (i := 1) nd rfl (.inl rfl))) (fun _ _ _ _ _ => pts_nil) (fun _ _ _ _ _ => (pe_call c_is_entry.ok (hr.mono (by decide)) (by rfl) c_is_entry.m c_is_entry.kp c_is_entry.b .nil pass0 (pa_cons (pv 1) pa_nil)))) pa_nil)))))), ?_⟩
  obtain ⟨G, C, e, ⟨p, v, rfl, hv, hok, hl, rfl⟩, k⟩ := h
  exact s_ret (z_andV (a := true) (b := true) (z_isi (t := "list") (z_tyL (z_var rfl hv)) (by decide +kernel)) fun _ => z_allD p entD (z_var rfl hv) (Nat.le_trans hl (by decide)) (fun _ => rfl) fun en x G5 he e5 hx =>
    z_call1 (A := dat K (entD en)) (z_var rfl hx) stb_tr fun x G' _ hx => ⟨en, x, rfl, hx, hok en he, rfl⟩) (Nv.refl e) k
end QP

/-! The checks' defs, of rows. -/
namespace QP
open PySem PySem.Spec PyProof.Rows L2 Evl QV QU QX QB QT QD
variable {P : Program} {w : World} {K : PySem.W.Frag} {mg : Str → Option Value} {base : Heap}
def sp_is_pairs (K : PySem.W.Frag) : Sp := spP fun vs G C => ∃ ps v, vs = [v] ∧ Dp K G v (.list (ps.map rngD)) ∧ FilOk (.swap ps) ∧ C = is (.bl true)
theorem p_is_pairs (B : Bi K mg) {f : Addr} {fd : FuncData} (F : Fun K "is_pairs" "is_pairs" s_is_pairs f fd) (c_is_sign_filters : Callee P w K mg base 1 "is_sign_filters" P_is_sign2 (sp_sign Sgn)) : FnOk P w K mg base CX0 2 f fd P_is_pairs (sp_is_pairs K) := by
  refine F.ok sc_is_pairs (fun vs H Q E ⟨G, C, _, ⟨r, v, e, _⟩, _⟩ => by rw [e]; rfl) fun cdv A outer s H vs Q E hr h => ?_
  have nd := sc_is_pairs.nd
  have hu := hu_of hr
  have hu6 := hr.units
  refine ⟨_, (pss_cons (ps_if (pw_or (pt_not (pt_val (pe_callB (QU.isiR (K := K) rfl) (by rfl) B.isinstance_ (by decide +kernel) (pa_cons (pv 0) (pa_cons (pe_bltn (v := .ty "list") (by rfl) B.list_ (by decide +kernel) rfl) pa_nil))))) (pw_or1 (pt_not (pt_truth (pv 0) (by intro _; rfl))))).pt (pss_one (ps_ret pe_bl)) pss_nil)
      (pss_cons (ps_set (i := 1) nd rfl (.inl rfl) (pe_lst pa_nil))
      (pss_cons (ps_for PassesOwn.never rfl (QU.piL (K := K) rfl (pv 0)) (pg_name (i := 2) nd rfl (.inl rfl)) (pss_cons (ps_if (pw_or (pt_not (pt_val (pe_callB (QU.isiR (K := K) rfl) (by rfl) B.isinstance_ (by decide +kernel) (pa_cons (pv 2) (pa_cons (pe_bltn (v := .ty "tuple") (by rfl) B.tuple_ (by decide +kernel) rfl) pa_nil))))) (pw_or1 (pt_cmpR op_ne (pe_callB (QU.lenS (K := K) rfl) (by rfl) B.len_ (by decide +kernel) (pa_cons (pv 2) pa_nil)) pe_int (nomark _)))).pt (pss_one (ps_ret pe_bl)) pss_nil)
      (pss_cons (ps_if (pw_or (pt_not (pt_val (pe_call c_is_sign_filters.ok (hr.mono (by decide)) (by rfl) c_is_sign_filters.m c_is_sign_filters.kp c_is_sign_filters.b .nil pass0 (pa_cons (pe_ix (QU.ixT (K := K) rfl) (pv 2) pe_int (fun _ _ => rfl)) pa_nil)))) (pw_or (pt_not (pt_val (pe_call c_is_sign_filters.ok (hr.mono (by decide)) (by rfl) c_is_sign_filters.m c_is_sign_filters.kp c_is_sign_filters.b .nil pass0 (pa_cons (pe_ix (QU.ixT (K := K) rfl) (pv 2) pe_int (fun _ _ => rfl)) pa_nil)))) (pw_or1 (pt_cmpR (QU.opIn (K := K) rfl) (pe_ix (QU.ixT (K := K) rfl) (pv 2) pe_int (fun _ _ => rfl)) (pv 1) (by rfl))))).pt (pss_one (ps_ret pe_bl)) pss_nil)
      (pss_one (ps_expr (pe_bm PySem.F.plainAttrs_list PySem.F.slot_list_append PySem.F.type_list_append mt_append (pv 1) (pa_cons (pe_ix (QU.ixT (K := K) rfl) (pv 2) pe_int (fun _ _ => rfl)) pa_nil)))))))
      (pss_one (ps_ret pe_bl))))), ?_⟩
  obtain ⟨G, C, e, ⟨ps, v, rfl, hv, hok, rfl⟩, k⟩ := h
  have n0 : Nv [] G H G H := Nv.refl e
  have hne : decide ((ps.map rngD).length = 0) = false := by
    rw [List.length_map]
    cases ps with
    | nil => exact absurd rfl hok.1
    | cons a l => rfl
  refine q_skip (zt_or (a := false) (b := false) (zt_not (a := true) (zt_B (z_isi (t := "list") (z_tyL (z_var rfl hv)) (by decide +kernel)))) fun _ => zt_not (a := true) (zt_truE (z_truL (z_var rfl hv)) (by rw [hne]; rfl))) n0 fun G1 H1 a1 n1 => ?_
  refine q_asgL (B := is []) (l_lst z_nil stb_tr fun G' xs b => by rw [show xs = _ from b]; decide) n1 fun l xs G2 H2 a2 n2 hl2 lc b => ?_
  have b : xs = _ := b
  subst b
  have hv2 := QN.dp_mono n2.gg _ _ hv
  refine q_forP (n := (ps.map rngD).length) (wk_list (z_lst (z_var rfl hv2))) n2 (fun i σ G3 H3 => ∃ y, σ = [some v, some (.ref l), y] ∧ Lc H G3 H3 l ((((ps.take i).map (·.1))).map fun c => V.str (chr c))) (fun G3 H3 a3 n3 => ⟨none, rfl, lc.nv a3⟩) (fun i σ G3 H3 x G4 H4 hi n3 e3 ⟨y, hσ, lc3⟩ a4 n4 hx => ?_) fun σ G3 H3 n3 e3 ⟨y, hσ, lc3⟩ => ?_
  · subst hσ
    obtain ⟨d, hd, hx⟩ := hx
    rw [List.getElem?_map] at hd
    obtain ⟨r, hr', rfl⟩ := Option.map_eq_some_iff.mp hd
    have hmem := List.mem_of_getElem? hr'
    have hs := hok.2.2.2 r hmem
    show tSeq _ _ _ [some v, some (.ref l), some x] H4
    refine q_skip (zt_or (a := false) (b := false) (zt_not (a := true) (zt_B (z_isi (t := "tuple") (z_tyT (z_var rfl hx)) (by decide +kernel)))) fun _ => zt_test (z_opNe (z_lenT (z_var rfl hx)) (z_c rfl) rfl (by show (!decide (V.int 2 = V.int 2)) = false; decide +kernel))) n4 fun G5 H5 a5 n5 => ?_
    have lc5 := (lc3.nv a4).nv a5
    have hx5 := QN.dp_mono a5.gg _ _ hx
    have hx6 := QN.dp_mono lc5.gg _ _ hx5
    refine q_skipK (zt_or (a := false) (b := false) (zt_not (a := true) (zt_B (z_call1 (z_fld (n := 0) rfl hx6 rfl) stb_tr fun x G' _ hx => ⟨r.1, by rw [dp_str hx], hs.1, rfl⟩))) fun _ => zt_or (a := false) (b := false) (zt_not (a := true) (zt_B (z_call1 (z_fld (n := 1) rfl hx6 rfl) stb_tr fun x G' _ hx => ⟨r.2, by rw [dp_str hx], hs.2, rfl⟩))) fun _ =>
      zt_test (z_inL (xs := ((ps.take i).map (fun q : Nat × Nat => q.1)).map fun c => V.str (chr c)) (z_str (z_fld (n := 0) rfl hx6 rfl)) (z_var rfl ⟨l, _, rfl, lc5.sq, rfl⟩) rfl (by rw [List.all_map]; exact List.all_eq_true.mpr fun _ _ => rfl) (by
        show inV _ _ = false
        rw [inV_chr]
        apply decide_eq_false
        exact not_take hok.2.2.1 hr'))) lc5 n5 fun G6 H6 a6 n6 => ?_
    have lc6 := lc5.nv a6
    have hlen : ps.length ≤ 26 := hok.2.1
    refine e_app rfl lc6 (by
      rw [List.length_map, List.length_map, List.length_take]
      exact Nat.lt_of_le_of_lt (Nat.le_trans (Nat.min_le_right _ _) hlen) (by decide)) (z_str (z_fld (n := 0) rfl (QN.dp_mono a6.gg _ _ hx5) rfl)) n6 fun u G7 H7 a7 n7 lc7 hu7 => ⟨G7, n7, ((a4.gg.trans a5.gg).trans a6.gg).trans a7.gg, _, rfl, lc7.is ?_⟩
    rw [show u = _ from hu7]
    have : ps.take (i + 1) = ps.take i ++ [r] := by
      rw [List.take_succ, hr']
      rfl
    rw [this, List.map_append, List.map_append]
    rfl
  · subst hσ
    exact s_ret (z_c rfl) n3 k
def sp_is_filter (K : PySem.W.Frag) : Sp := spP fun vs G C => ∃ fl v, vs = [v] ∧ Dp K G v (filD fl) ∧ FilOk fl ∧ C = is (.bl true)
def ftag : Fil → Str
  | .keep _ => "keep"
  | .drop _ => "drop"
  | .swap _ => "swap"
  | .first _ => "first"
def farg : Fil → PyData
  | .keep p => patD p
  | .drop p => patD p
  | .swap ps => .list (ps.map rngD)
  | .first n => .int n
theorem filD_eq (f : Fil) : filD f = .tuple [.str (ftag f), farg f] := by cases f <;> rfl
theorem zt_in2 {G : Hp} {σ : L2.St} {b : Bool} {t x y : Str} {ds : List PyData} {v : V} {i : Nat} (hσ : σ[i]? = some (some v)) (hd : Dp K G v (.tuple (.str t :: ds))) (hb : inV (.str t) [.str x, .str y] = b) :
    Pz (tTest (tOp (rIn K false) (tOp (rIxT K) (tVar i) (tC (.int 0))) (tTup (tCons (tC (.str x)) (tCons (tC (.str y)) tNil)))) σ) G (is b) :=
  zt_test (z_inT (z_str (z_fld (n := 0) hσ hd rfl)) (z_tup (z_disp (z_c rfl) (z_disp (z_c rfl) z_nil)) stb_tr fun G' xs b => by rw [show xs = _ from b]; show 2 ≤ sizeLine; decide) rfl rfl hb)
theorem p_is_filter (B : Bi K mg) {f : Addr} {fd : FuncData} (F : Fun K "is_filter" "is_filter" s_is_filter f fd) (c_is_pattern : Callee P w K mg base 4 "is_pattern" P_is_pattern (sp_is_pattern K)) (c_is_pairs : Callee P w K mg base 2 "is_pairs" P_is_pairs (sp_is_pairs K)) : FnOk P w K mg base CX0 5 f fd P_is_filter (sp_is_filter K) := by
  refine F.ok sc_is_filter (fun vs H Q E ⟨G, C, _, ⟨r, v, e, _⟩, _⟩ => by rw [e]; rfl) fun cdv A outer s H vs Q E hr h => ?_
  have nd := sc_is_filter.nd
  have hu := hu_of hr
  have hu6 := hr.units
  refine ⟨_, (pss_cons (ps_if (pw_or (pt_not (pt_val (pe_callB (QU.isiR (K := K) rfl) (by rfl) B.isinstance_ (by decide +kernel) (pa_cons (pv 0) (pa_cons (pe_bltn (v := .ty "tuple") (by rfl) B.tuple_ (by decide +kernel) rfl) pa_nil))))) (pw_or (pt_not (pt_truth (pv 0) (by intro _; rfl))) (pw_or1 (pt_not (pt_val (pe_callB (QU.isiR (K := K) rfl) (by rfl) B.isinstance_ (by decide +kernel) (pa_cons (pe_ix (QU.ixT (K := K) rfl) (pv 0) pe_int (fun _ _ => rfl)) (pa_cons (pe_bltn (v := .ty "str") (by rfl) B.str_ (by decide +kernel) rfl) pa_nil)))))))).pt (pss_one (ps_ret pe_bl)) pss_nil)
      (pss_cons (ps_if (pt_cmpR (QU.opIn (K := K) rfl) (pe_ix (QU.ixT (K := K) rfl) (pv 0) pe_int (fun _ _ => rfl)) (pe_glob (v := .ref B.PLAIN.1) (by rfl) B.PLAIN.2.1 rfl) (by rfl)) (pss_one (ps_ret (pe_cmpR op_eq (pe_callB (QU.lenS (K := K) rfl) (by rfl) B.len_ (by decide +kernel) (pa_cons (pv 0) pa_nil)) pe_int (nomark _)))) pss_nil)
      (pss_cons (ps_if (pt_cmpR op_ne (pe_callB (QU.lenS (K := K) rfl) (by rfl) B.len_ (by decide +kernel) (pa_cons (pv 0) pa_nil)) pe_int (nomark _)) (pss_one (ps_ret pe_bl)) pss_nil)
      (pss_cons (ps_if (pt_cmpR (QU.opIn (K := K) rfl) (pe_ix (QU.ixT (K := K) rfl) (pv 0) pe_int (fun _ _ => rfl)) (pe_tup (pa_cons pe_str (pa_cons pe_str pa_nil))) (by rfl)) (pss_one (ps_ret (pe_and (pe_callB (QU.isiR (K := K) rfl) (by rfl) B.isinstance_ (by decide +kernel) (pa_cons (pe_ix (QU.ixT (K := K) rfl) (pv 0) pe_int (fun _ _ => rfl)) (pa_cons (pe_bltn (v := .ty "list") (by rfl) B.list_ (by decide +kernel) rfl) pa_nil))) (pe_one (pe_call c_is_pattern.ok (hr.mono (by decide)) (by rfl) c_is_pattern.m c_is_pattern.kp c_is_pattern.b .nil pass0 (pa_cons (pe_ix (QU.ixT (K := K) rfl) (pv 0) pe_int (fun _ _ => rfl)) pa_nil)))))) pss_nil)
      (pss_cons (ps_if (pt_cmpR (QU.opIn (K := K) rfl) (pe_ix (QU.ixT (K := K) rfl) (pv 0) pe_int (fun _ _ => rfl)) (pe_tup (pa_cons pe_str (pa_cons pe_str pa_nil))) (by rfl)) (pss_one (ps_ret (pe_and (pe_callB (QU.isiR (K := K) rfl) (by rfl) B.isinstance_ (by decide +kernel) (pa_cons (pe_ix (QU.ixT (K := K) rfl) (pv 0) pe_int (fun _ _ => rfl)) (pa_cons (pe_bltn (v := .ty "int") (by rfl) B.int_ (by decide +kernel) rfl) pa_nil))) (pe_and (pe_not (pe_callB (QU.isiR (K := K) rfl) (by rfl) B.isinstance_ (by decide +kernel) (pa_cons (pe_ix (QU.ixT (K := K) rfl) (pv 0) pe_int (fun _ _ => rfl)) (pa_cons (pe_bltn (v := .ty "bool") (by rfl) B.bool_ (by decide +kernel) rfl) pa_nil)))) (pe_one (pe_cmpR op_ge (pe_ix (QU.ixT (K := K) rfl) (pv 0) pe_int (fun _ _ => rfl)) pe_int (nomark _))))))) pss_nil)
      (pss_one (ps_ret (pe_and (pe_cmpR op_eq (pe_ix (QU.ixT (K := K) rfl) (pv 0) pe_int (fun _ _ => rfl)) pe_str (nomark _)) (pe_one (pe_call c_is_pairs.ok (hr.mono (by decide)) (by rfl) c_is_pairs.m c_is_pairs.kp c_is_pairs.b .nil pass0 (pa_cons (pe_ix (QU.ixT (K := K) rfl) (pv 0) pe_int (fun _ _ => rfl)) pa_nil))))))))))), ?_⟩
  obtain ⟨G, C, e, ⟨fl, v, rfl, hv, hok, rfl⟩, k⟩ := h
  have n0 : Nv [] G H G H := Nv.refl e
  rw [filD_eq] at hv
  refine q_skip (zt_or (a := false) (b := false) (zt_not (a := true) (zt_B (z_isi (t := "tuple") (z_tyT (z_var rfl hv)) (by decide +kernel)))) fun _ => zt_or (a := false) (b := false) (zt_not (a := true) (zt_truE (z_truT (z_var rfl hv)) rfl)) fun _ => zt_not (a := true) (zt_B (z_isi (t := "str") (z_tyS (z_fld (n := 0) rfl hv rfl)) (by decide +kernel)))) n0 fun G1 H1 a1 n1 => ?_
  have hv1 := QN.dp_mono n1.gg _ _ hv
  refine q_skip (zt_test (z_inT (xs := plainV) (z_str (z_fld (n := 0) rfl hv1 rfl)) (z_c ⟨B.PLAIN.1, plainV, rfl, B.PLAIN.2.2 _, rfl⟩) rfl rfl (by
    cases fl
    · exact (by decide +kernel : inV (V.str "keep") plainV = false)
    · exact (by decide +kernel : inV (V.str "drop") plainV = false)
    · exact (by decide +kernel : inV (V.str "swap") plainV = false)
    · exact (by decide +kernel : inV (V.str "first") plainV = false)))) n1 fun G2 H2 a2 n2 => ?_
  have hv2 := QN.dp_mono n2.gg _ _ hv
  refine q_skip (zt_test (z_opNe (z_lenT (z_var rfl hv2)) (z_c rfl) rfl (by show (!decide (V.int 2 = V.int 2)) = false; decide +kernel))) n2 fun G3 H3 a3 n3 => ?_
  have hv3 := QN.dp_mono n3.gg _ _ hv
  cases fl with
  | keep p =>
    refine q_then (zt_in2 (t := "keep") rfl hv3 (by decide +kernel)) n3 fun G4 H4 a4 n4 => ?_
    have hv4 := QN.dp_mono n4.gg _ _ hv
    exact s_ret (z_andV (a := true) (b := true) (z_isi (t := "list") (z_tyL (z_fld (n := 1) rfl hv4 rfl)) (by decide +kernel)) fun _ => z_call1 (z_fld (n := 1) rfl hv4 rfl) stb_tr fun x G' _ hx => ⟨p, x, rfl, hx, hok.1, Nat.le_trans hok.2 (by decide), rfl⟩) n4 k
  | drop p =>
    refine q_then (zt_in2 (t := "drop") rfl hv3 (by decide +kernel)) n3 fun G4 H4 a4 n4 => ?_
    have hv4 := QN.dp_mono n4.gg _ _ hv
    exact s_ret (z_andV (a := true) (b := true) (z_isi (t := "list") (z_tyL (z_fld (n := 1) rfl hv4 rfl)) (by decide +kernel)) fun _ => z_call1 (z_fld (n := 1) rfl hv4 rfl) stb_tr fun x G' _ hx => ⟨p, x, rfl, hx, hok.1, Nat.le_trans hok.2 (by decide), rfl⟩) n4 k
  | first m =>
    refine q_skip (zt_in2 (t := "first") rfl hv3 (by decide +kernel)) n3 fun G4 H4 a4 n4 => ?_
    refine q_then (zt_in2 (t := "first") rfl (QN.dp_mono n4.gg _ _ hv) (by decide +kernel)) n4 fun G5 H5 a5 n5 => ?_
    have hv5 := QN.dp_mono n5.gg _ _ hv
    exact s_ret (z_andV (a := true) (b := true) (z_isi (t := "int") (z_tyI (z_fld (n := 1) rfl hv5 rfl)) (by decide +kernel)) fun _ => z_andV (a := true) (b := true) (z_is (z_notV (b := false) (z_isi (t := "int") (z_tyI (z_fld (n := 1) rfl hv5 rfl)) (by decide +kernel))) rfl) fun _ =>
      z_opI (z_int (z_fld (n := 1) rfl hv5 rfl)) (z_c rfl) (by show V.bl _ = V.bl true; rw [decide_eq_true (Int.natCast_nonneg m)])) n5 k
  | swap ps =>
    refine q_skip (zt_in2 (t := "swap") rfl hv3 (by decide +kernel)) n3 fun G4 H4 a4 n4 => ?_
    refine q_skip (zt_in2 (t := "swap") rfl (QN.dp_mono n4.gg _ _ hv) (by decide +kernel)) n4 fun G5 H5 a5 n5 => ?_
    have hv5 := QN.dp_mono n5.gg _ _ hv
    exact s_ret (z_andV (a := true) (b := true) (z_opEq (x := .str "swap") (z_str (z_fld (n := 0) rfl hv5 rfl)) (z_c rfl) rfl (by decide +kernel)) fun _ => z_call1 (z_fld (n := 1) rfl hv5 rfl) stb_tr fun x G' _ hx => ⟨ps, x, rfl, hx, hok, rfl⟩) n5 k
def sp_is_row (K : PySem.W.Frag) : Sp := spP fun vs G C => ∃ r v, vs = [v] ∧ Dp K G v (rowD r) ∧ RowOk r ∧ r.length ≤ 1000 ∧ C = is (.bl true)
theorem p_is_row (B : Bi K mg) {f : Addr} {fd : FuncData} (F : Fun K "is_row" "is_row" s_is_row f fd) (c_is_filter : Callee P w K mg base 5 "is_filter" P_is_filter (sp_is_filter K)) : FnOk P w K mg base CX0 6 f fd P_is_row (sp_is_row K) := by
  refine F.ok sc_is_row (fun vs H Q E ⟨G, C, _, ⟨r, v, e, _⟩, _⟩ => by rw [e]; rfl) fun cdv A outer s H vs Q E hr h => ?_
  have nd := sc_is_row.nd
  have hu := hu_of hr
  have hu6 := hr.units
  refine ⟨_, (pss_one (ps_ret (pe_and (pe_callB (QU.isiR (K := K) rfl) (by rfl) B.isinstance_ (by decide +kernel) (pa_cons (pv 0) (pa_cons (pe_bltn (v := .ty "list") (by rfl) B.list_ (by decide +kernel) rfl) pa_nil))) (pe_one (pe_callB (QU.allR (K := K) rfl rfl) (by rfl) B.all_ (by decide +kernel) (pa_cons (pe_lc (own := [("entry", 1)]) rfl nd (QU.piL (K := K) rfl (pv 0)) (blkOk_by (own := [("entry", 1)]) (N := N_is_row) (sc := defScope s_is_row) (by decide +kernel)) (fun _ _ _ _ _ => (pg_name (i := 1) nd rfl (.inl rfl))) (fun _ _ _ _ _ => pts_nil) (fun _ _ _ _ _ => (pe_call c_is_filter.ok (hr.mono (by decide)) (by rfl) c_is_filter.m c_is_filter.kp c_is_filter.b .nil pass0 (pa_cons (pv 1) pa_nil)))) pa_nil)))))), ?_⟩
  obtain ⟨G, C, e, ⟨r, v, rfl, hv, hok, hl, rfl⟩, k⟩ := h
  exact s_ret (z_andV (a := true) (b := true) (z_isi (t := "list") (z_tyL (z_var rfl hv)) (by decide +kernel)) fun _ => z_allD r filD (z_var rfl hv) (Nat.le_trans hl (by decide)) (fun _ => rfl) fun fl x G5 he e5 hx =>
    z_call1 (A := dat K (filD fl)) (z_var rfl hx) stb_tr fun x G' _ hx => ⟨fl, x, rfl, hx, hok fl he, rfl⟩) (Nv.refl e) k
def sp_check (K : PySem.W.Frag) : Sp := spP fun vs G C => ∃ r v, vs = [v] ∧ Dp K G v (rowD r) ∧ RowOk r ∧ r.length ≤ 1000 ∧ C = is .non
theorem p_check_compared (B : Bi K mg) {f : Addr} {fd : FuncData} (F : Fun K "check_compared" "check_compared" s_check_compared f fd) (c_is_row : Callee P w K mg base 6 "is_row" P_is_row (sp_is_row K)) : FnOk P w K mg base CX0 7 f fd P_check_compared (sp_check K) := by
  refine F.ok sc_check_compared (fun vs H Q E ⟨G, C, _, ⟨r, v, e, _⟩, _⟩ => by rw [e]; rfl) fun cdv A outer s H vs Q E hr h => ?_
  have nd := sc_check_compared.nd
  have hu := hu_of hr
  have hu6 := hr.units
  refine ⟨_, (pss_one (ps_if (pw_or (pt_not (pt_val (pe_call c_is_row.ok (hr.mono (by decide)) (by rfl) c_is_row.m c_is_row.kp c_is_row.b .nil pass0 (pa_cons (pv 0) pa_nil)))) (pw_or1 (pt_val (pe_callB (QU.anyR (K := K) rfl rfl) (by rfl) B.any_ (by decide +kernel) (pa_cons (pe_lc (own := [("entry", 1)]) rfl nd (QU.piL (K := K) rfl (pv 0)) (blkOk_by (own := [("entry", 1)]) (N := N_check_compared) (sc := defScope s_check_compared) (by decide +kernel)) (fun _ _ _ _ _ => (pg_name (i := 1) nd rfl (.inl rfl))) (fun _ _ _ _ _ => pts_nil) (fun _ _ _ _ _ => (pe_cmpR (QU.opNin (K := K) rfl) (pe_ix (QU.ixT (K := K) rfl) (pv 1) pe_int (fun _ _ => rfl)) (pe_glob (v := .ref B.COMPARED.1) (by rfl) B.COMPARED.2.1 rfl) (by rfl)))) pa_nil))))).pt (pss_one ps_never) pss_nil)), ?_⟩
  obtain ⟨G, C, e, ⟨r, v, rfl, hv, hok, hl, rfl⟩, k⟩ := h
  refine s_ifF (zt_or (a := false) (b := false) (zt_not (a := true) (zt_B (z_call1 (A := dat K (rowD r)) (z_var rfl hv) stb_tr fun x G' _ hx => ⟨r, x, rfl, hx, hok, hl, rfl⟩))) fun _ => zt_B (z_anyN r filD (z_var rfl hv) (Nat.le_trans hl (by decide)) (fun _ => rfl) fun fl x G5 he e5 hx => ?_)) (Nv.refl e) fun G1 H1 a1 n1 => k _ _ _ n1 rfl
  rw [filD_eq] at hx
  exact z_inT (xs := comparedV) (z_str (z_fld (n := 0) rfl hx rfl)) (z_c ⟨B.COMPARED.1, comparedV, rfl, B.COMPARED.2.2 _, rfl⟩) rfl rfl (by
    cases fl
    · exact (by decide +kernel : (!inV (V.str "keep") comparedV) = false)
    · exact (by decide +kernel : (!inV (V.str "drop") comparedV) = false)
    · exact (by decide +kernel : (!inV (V.str "swap") comparedV) = false)
    · exact (by decide +kernel : (!inV (V.str "first") comparedV) = false))
end QP

/-! Steps and states. -/
namespace QP
open PySem PySem.Spec PyProof.Rows L2 Evl QV QU QX QB QT QD
variable {P : Program} {w : World} {K : PySem.W.Frag} {mg : Str → Option Value} {base : Heap}
def sp_start_state (K : PySem.W.Frag) : Sp := spP fun vs G C => ∃ T v, vs = [v] ∧ (testsP K T).p G v ∧ TOk T ∧ C = dat K (stD (start1 T))
theorem p_start_state (B : Bi K mg) {f : Addr} {fd : FuncData} (F : Fun K "start_state" "start_state" s_start_state f fd) (c_start_reach : Callee P w K mg base 1 "start_reach" P_start_reach (sp_start_reach K)) : FnOk P w K mg base CX0 2 f fd P_start_state (sp_start_state K) := by
  refine F.ok sc_start_state (fun vs H Q E ⟨G, C, _, ⟨r, v, e, _⟩, _⟩ => by rw [e]; rfl) fun cdv A outer s H vs Q E hr h => ?_
  have nd := sc_start_state.nd
  have hu := hu_of hr
  have hu6 := hr.units
  refine ⟨_, (pss_one (ps_ret (pe_tup (pa_cons (pe_callTy (QU.tupOf (K := K) rfl) (by rfl) B.tuple_ (by decide +kernel) (pa_cons (pe_lc (own := [("pattern", 1), ("table", 2)]) rfl nd (QU.piL (K := K) rfl (pv 0)) (blkOk_by (own := [("pattern", 1), ("table", 2)]) (N := N_start_state) (sc := defScope s_start_state) (by decide +kernel)) (fun _ _ _ _ _ => (QU.pgT (K := K) (n := 2) rfl rfl (pgs_cons (pg_name (i := 1) nd rfl (.inl rfl)) (pgs_cons (pg_name (i := 2) nd rfl (.inl rfl)) pgs_nil)))) (fun _ _ _ _ _ => pts_nil) (fun _ _ _ _ _ => (pe_call c_start_reach.ok (hr.mono (by decide)) (by rfl) c_start_reach.m c_start_reach.kp c_start_reach.b .nil pass0 (pa_cons (pv 1) pa_nil)))) pa_nil)) (pa_cons pe_bl pa_nil))))), ?_⟩
  obtain ⟨G, C, e, ⟨T, v, rfl, hv, hok, rfl⟩, k⟩ := h
  refine s_ret (z_tupD (ds := [.tuple ((T.map fun q => sr q.1).map boolsD), .bool false]) (z_consD (z_tupOf (Lz.dat (Lz.to (l_fmP T (testP K) (fun q => some (boolsD (sr q.1))) (z_var rfl hv) (Nat.le_trans hok.1 (by decide)) fun q x G1 hq e1 hx => turn_twoA hx (fun _ _ => rfl) fun u t G2 e2 hu' ht => z_call1 (A := dat K (patD q.1)) (z_var rfl hu') stb_tr fun x G' _ hx => ⟨q.1, x, rfl, hx, Nat.le_trans (hok.2 q hq).2.1 (by decide), rfl⟩) fun G' xs _ c => by
    rw [fm_some] at c
    rw [List.map_map]
    exact c) stb_tr) stb_tr) (z_consD (dat_bool (z_c rfl)) z_nilD)) stb_tr (by show 2 ≤ 1000; decide)) (Nv.refl e) k
def firstN : Stp → Option Nat
  | .test _ _ => none
  | .first n => some n
def sp_numbers_of (K : PySem.W.Frag) : Sp := spP fun vs G C => ∃ s v, vs = [v] ∧ Dp K G v (stepsD s) ∧ s.length ≤ 1000 ∧ C = dat K (natsD (s.filterMap firstN))
theorem p_numbers_of (B : Bi K mg) {f : Addr} {fd : FuncData} (F : Fun K "numbers_of" "numbers_of" s_numbers_of f fd) : FnOk P w K mg base CX0 1 f fd P_numbers_of (sp_numbers_of K) := by
  refine F.ok sc_numbers_of (fun vs H Q E ⟨G, C, _, ⟨r, v, e, _⟩, _⟩ => by rw [e]; rfl) fun cdv A outer s H vs Q E hr h => ?_
  have nd := sc_numbers_of.nd
  have hu := hu_of hr
  have hu6 := hr.units
  refine ⟨_, (pss_one (ps_ret (pe_callTy (QU.tupOf (K := K) rfl) (by rfl) B.tuple_ (by decide +kernel) (pa_cons (pe_lc (own := [("kind", 1), ("number", 2), ("truth", 3)]) rfl nd (QU.piL (K := K) rfl (pv 0)) (blkOk_by (own := [("kind", 1), ("number", 2), ("truth", 3)]) (N := N_numbers_of) (sc := defScope s_numbers_of) (by decide +kernel)) (fun _ _ _ _ _ => (QU.pgT (K := K) (n := 3) rfl rfl (pgs_cons (pg_name (i := 1) nd rfl (.inl rfl)) (pgs_cons (pg_name (i := 2) nd rfl (.inl rfl)) (pgs_cons (pg_name (i := 3) nd rfl (.inl rfl)) pgs_nil))))) (fun _ _ _ _ _ => (pts_one (pt_cmpR op_eq (pv 1) pe_str (nomark _)))) (fun _ _ _ _ _ => (pv 2))) pa_nil)))), ?_⟩
  obtain ⟨G, C, e, ⟨s, v, rfl, hv, hl, rfl⟩, k⟩ := h
  refine s_ret (z_tupOf (Lz.dat (Lz.to (l_fm s stpD (fun q => (firstN q).map natD) (z_var rfl hv) (Nat.le_trans hl (by decide)) fun q x G1 hq e1 hx => ?_) fun G' xs _ c => by
    rw [← List.map_filterMap] at c
    exact c) stb_tr) stb_tr) (Nv.refl e) k
  cases q with
  | test i t =>
    exact turn_three (b := false) (d := natD 0) (tup3_of hx) (fun _ _ _ => rfl) (fun u v w G2 _ hu hv hw => zt_test (z_opEq (x := .str "test") (z_var rfl (dp_str hu)) (z_c rfl) rfl (by decide +kernel))) fun z => by cases z
  | first n =>
    exact turn_three (b := true) (d := natD n) (tup3_of hx) (fun _ _ _ => rfl) (fun u v w G2 _ hu hv hw => zt_test (z_opEq (x := .str "first") (z_var rfl (dp_str hu)) (z_c rfl) rfl (by decide +kernel))) fun _ u v w G2 _ hu hv hw => z_var rfl hv
/-- the steps fit the truths and the numbers -/
def Fits (n : Nat) : List Stp → List Nat → Prop
  | [], [] => True
  | [], _ :: _ => False
  | .test i _ :: s, l => i < n ∧ Fits n s l
  | .first _ :: _, [] => False
  | .first _ :: s, _ :: l => Fits n s l
theorem Fits.nil {n : Nat} {l : List Nat} (h : Fits n [] l) : l = [] := by
  cases l with
  | nil => rfl
  | cons a l => exact h.elim
theorem Fits.len {n : Nat} : ∀ {s : List Stp} {l : List Nat}, Fits n s l → l.length ≤ s.length
  | [], _, h => by rw [h.nil]; exact Nat.le_refl _
  | .test i t :: s, l, h => Nat.le_succ_of_le (Fits.len h.2)
  | .first k :: s, [], h => Nat.zero_le _
  | .first k :: s, a :: l, h => by
    have : Fits n s l := h
    exact Nat.succ_le_succ (Fits.len this)
def sp_put_through (K : PySem.W.Frag) : Sp := spP fun vs G C => ∃ s tr l v u y, vs = [v, u, y] ∧ Dp K G v (stepsD s) ∧ Dp K G u (boolsD tr) ∧ Dp K G y (natsD l) ∧ s.length ≤ 1000 ∧ Fits tr.length s l ∧ C = dat K (.tuple [.bool (put s tr l).1, natsD (put s tr l).2])
theorem z_pair {K : PySem.W.Frag} {G H0 H : Hp} {σ : L2.St} {i : Nat} {l : Addr} {xs : List V} {b : Bool} {ds : List PyData} (lc : Lc H0 G H l xs) (hi : σ[i]? = some (some (.ref l))) (h : DpAll K G xs ds) :
    Pz (tTup (tCons (tC (.bl b)) (tCons (tCB (QU.rTupOf K) (tCons (tVar i) tNil)) tNil)) σ) (upd G l (.lst xs)) (dat K (.tuple [.bool b, .tuple ds])) :=
  z_tupD (z_consD (dat_bool (z_c rfl)) (z_consD (z_tupOf (z_var hi (lc.dat h)) stb_tr) z_nilD)) stb_tr (by show 2 ≤ 1000; decide)
theorem p_put_through (B : Bi K mg) {f : Addr} {fd : FuncData} (F : Fun K "put_through" "put_through" s_put_through f fd) : FnOk P w K mg base CX0 1 f fd P_put_through (sp_put_through K) := by
  refine F.ok sc_put_through (fun vs H Q E ⟨G, C, _, ⟨s, tr, l, v, u, y, e, _⟩, _⟩ => by rw [e]; rfl) fun cdv A outer s H vs Q E hr h => ?_
  have nd := sc_put_through.nd
  have hu := hu_of hr
  have hu6 := hr.units
  refine ⟨_, (pss_cons (ps_set (i := 3) nd rfl (.inl rfl) (pe_callTy (QU.lstOf (K := K) rfl) (by rfl) B.list_ (by decide +kernel) (pa_cons (pv 2) pa_nil)))
      (pss_cons (ps_set (i := 4) nd rfl (.inl rfl) pe_int)
      (pss_cons (ps_for PassesOwn.never rfl (QU.piL (K := K) rfl (pv 0)) (QU.pgT (K := K) (n := 3) rfl rfl (pgs_cons (pg_name (i := 5) nd rfl (.inl rfl)) (pgs_cons (pg_name (i := 6) nd rfl (.inl rfl)) (pgs_cons (pg_name (i := 7) nd rfl (.inl rfl)) pgs_nil)))) (pss_one (ps_if (pt_cmpR op_eq (pv 5) pe_str (nomark _)) (pss_one (ps_if (pt_cmpR op_ne (pe_ix (QU.ixT (K := K) rfl) (pv 1) (pv 6) (fun _ _ => rfl)) (pv 7) (nomark _)) (pss_one (ps_ret (pe_tup (pa_cons pe_bl (pa_cons (pe_callTy (QU.tupOf (K := K) rfl) (by rfl) B.tuple_ (by decide +kernel) (pa_cons (pv 3) pa_nil)) pa_nil))))) pss_nil)) (pss_one (ps_if (pt_cmpR op_eq (pe_ix (QU.ixL (K := K) rfl) (pv 3) (pv 4) (fun _ _ => rfl)) pe_int (nomark _)) (pss_one (ps_ret (pe_tup (pa_cons pe_bl (pa_cons (pe_callTy (QU.tupOf (K := K) rfl) (by rfl) B.tuple_ (by decide +kernel) (pa_cons (pv 3) pa_nil)) pa_nil))))) (pss_cons (ps_augS (pv 3) (pv 4) QW.get_list pe_int ip_sub set_list)
      (pss_one (ps_aug (i := 4) nd rfl (.inl rfl) pe_int ip_add))))))))
      (pss_one (ps_ret (pe_tup (pa_cons pe_bl (pa_cons (pe_callTy (QU.tupOf (K := K) rfl) (by rfl) B.tuple_ (by decide +kernel) (pa_cons (pv 3) pa_nil)) pa_nil)))))))), ?_⟩
  obtain ⟨G, C, e, ⟨s, tr, l, v, u, y, rfl, hv, hu', hy, hl, hfit, rfl⟩, k⟩ := h
  have n0 : Nv [] G H G H := Nv.refl e
  refine q_asgL (B := dats K (l.map natD)) (l_lstOf (z_var rfl hy) stb_tr) n0 fun a xs G1 H1 a1 n1 hl1 lc hxs => ?_
  refine q_asg (C := is (.int ((0 : Nat) : Int))) (z_c rfl) n1 fun w0 G2 H2 a2 n2 hw0 => ?_
  rw [show w0 = _ from hw0]
  have hv2 := QN.dp_mono n2.gg _ _ hv
  refine q_forP (n := (s.map stpD).length) (wk_list (z_lst (z_var rfl hv2))) n2 (fun i σ G3 H3 => ∃ (pre rem : List Nat) (p q r : Option V) (ys : List V), σ = [some v, some u, some y, some (.ref a), some (.int (pre.length : Nat)), p, q, r] ∧ Lc H G3 H3 a ys ∧ DpAll K G3 ys ((pre ++ rem).map natD) ∧
      Fits tr.length (s.drop i) rem ∧ put s tr l = ((put (s.drop i) tr rem).1, pre ++ (put (s.drop i) tr rem).2) ∧ (pre ++ rem).length = l.length)
    (fun G3 H3 a3 n3 => ⟨[], l, none, none, none, xs, rfl, (lc.nv a2).nv a3, QN.dp_monos (a2.gg.trans a3.gg) _ _ hxs, hfit, rfl, rfl⟩) (fun i σ G3 H3 x G4 H4 hi n3 e3 ⟨pre, rem, p, q, r, ys, hσ, lc3, hys, hf3, hput, hlen⟩ a4 n4 hx => ?_) fun σ G3 H3 n3 e3 ⟨pre, rem, p, q, r, ys, hσ, lc3, hys, hf3, hput, hlen⟩ => ?_
  · subst hσ
    obtain ⟨d, hd, hx⟩ := hx
    rw [List.getElem?_map] at hd
    obtain ⟨st, hst, rfl⟩ := Option.map_eq_some_iff.mp hd
    have hi' : i < s.length := by rw [List.length_map] at hi; exact hi
    have hdrop : s.drop i = st :: s.drop (i + 1) := by
      rw [← List.getElem_cons_drop hi']
      congr 1
      rw [List.getElem?_eq_getElem hi'] at hst
      exact Option.some.inj hst
    rw [hdrop] at hf3 hput
    have lc4 := lc3.nv a4
    have hys4 := QN.dp_monos a4.gg _ _ hys
    have hu4 := QN.dp_mono n4.gg _ _ hu'
    cases st with
    | test j t =>
      refine g_three (tup3_of hx) n4.gh fun k1 k2 k3 h1 h2 h3 => ?_
      have h2 : k2 = _ := dp_int h2
      have h3 : k3 = _ := dp_bool h3
      subst h2 h3
      show tIfS _ _ _ _ [some v, some u, some y, some (.ref a), some (.int (pre.length : Nat)), some k1, some (.int (j : Nat)), some (.bl t)] H4
      refine s_ifT (zt_test (z_opEq (x := .str "test") (z_var rfl (dp_str h1)) (z_c rfl) rfl (by decide +kernel))) n4 fun G5 H5 a5 n5 => ?_
      have hj : j < tr.length := hf3.1
      refine s_if (b := !decide (V.bl (tr.getD j false) = V.bl t)) (zt_test (z_opNe (z_bool (z_ixDT (z_var rfl (QN.dp_mono a5.gg _ _ hu4)) (z_var rfl rfl) (getD_at hj))) (z_var rfl rfl) rfl rfl)) n5 (fun hb G6 H6 a6 n6 => ?_) fun hb G6 H6 a6 n6 => ?_
      · have lc6 := (lc4.nv a5).nv a6
        have hne : tr.getD j false ≠ t := fun z => by rw [z] at hb; simp at hb
        refine s_ret (z_pair lc6 rfl (QN.dp_monos (a5.gg.trans a6.gg) _ _ hys4)) (lc6.close n6) fun v' G7 H7 n7 c7 => k v' G7 H7 n7 ?_
        have hp : put (.test j t :: s.drop (i + 1)) tr rem = (false, rem) := by
          unfold put
          rw [if_neg hne]
        rw [hput, hp]
        exact c7
      · have heq : tr.getD j false = t := by
          cases h7 : tr.getD j false <;> cases t <;> rw [h7] at hb <;> first | rfl | (exfalso; revert hb; decide +kernel)
        refine s_next ⟨G6, n6, (a4.gg.trans a5.gg).trans a6.gg, pre, rem, _, _, _, ys, rfl, (lc4.nv a5).nv a6, QN.dp_monos (a5.gg.trans a6.gg) _ _ hys4, hf3.2, ?_, hlen⟩
        rw [hput]
        have hp : put (.test j t :: s.drop (i + 1)) tr rem = put (s.drop (i + 1)) tr rem := by
          conv => lhs; unfold put
          rw [if_pos heq]
        rw [hp]
    | first m =>
      refine g_three (tup3_of hx) n4.gh fun k1 k2 k3 h1 h2 h3 => ?_
      have h2 : k2 = _ := dp_int h2
      have h3 : k3 = _ := dp_bool h3
      subst h2 h3
      show tIfS _ _ _ _ [some v, some u, some y, some (.ref a), some (.int (pre.length : Nat)), some k1, some (.int (m : Nat)), some (.bl true)] H4
      refine s_ifF (zt_test (z_opEq (x := .str "first") (z_var rfl (dp_str h1)) (z_c rfl) rfl (by decide +kernel))) n4 fun G5 H5 a5 n5 => ?_
      cases rem with
      | nil => exact hf3.elim
      | cons b rem =>
        have lc5 := lc4.nv a5
        have hys5 := QN.dp_monos a5.gg _ _ hys4
        have hdat : ((pre ++ b :: rem).map natD)[pre.length]? = some (natD b) := by
          rw [List.getElem?_map, List.getElem?_append_right (Nat.le_refl _), Nat.sub_self]
          rfl
        obtain ⟨bv, hbv, hbd⟩ := da_at hys5 hdat
        have hbd : bv = .int (b : Nat) := dp_int hbd
        subst hbd
        have hyl : ys.length = l.length := by rw [da_len hys5, List.length_map, hlen]
        have hll : l.length ≤ 1000 := Nat.le_trans hfit.len hl
        refine s_ifK (b := decide (V.int (b : Nat) = V.int 0)) (zt_test (z_opEq (z_ixK (z_var rfl rfl) (z_var rfl rfl) lc5.sq (atI_nat hbv)) (z_c rfl) rfl rfl)) lc5 n5 (fun hb G6 H6 a6 n6 => ?_) fun hb G6 H6 a6 n6 => ?_
        · have lc6 := lc5.nv a6
          have hb0 : b = 0 := by
            have := of_decide_eq_true hb
            injection this with this
            omega
          subst hb0
          refine s_ret (z_pair lc6 rfl (QN.dp_monos a6.gg _ _ hys5)) (lc6.close n6) fun v' G7 H7 n7 c7 => k v' G7 H7 n7 ?_
          rw [hput]
          exact c7
        · have lc6 := lc5.nv a6
          have hb0 : b ≠ 0 := fun z => by
            have := of_decide_eq_false hb
            rw [z] at this
            exact this rfl
          obtain ⟨b', rfl⟩ : ∃ b', b = b' + 1 := ⟨b - 1, by omega⟩
          obtain ⟨q1, q2, q3⟩ := lc6.put (ys := ys.set pre.length (.int (b' : Nat))) n6
          have hpl : pre.length < ys.length := (List.getElem?_eq_some_iff.mp hbv).1
          refine ⟨.ref a, rfl, .int (pre.length : Nat), rfl, ⟨a, ys, pre.length, .int ((b' + 1 : Nat) : Int), rfl, rfl, SqL.of lc6.val, by omega, hbv, ?_⟩⟩
          refine ⟨((b' + 1 : Nat) : Int), 1, rfl, rfl, a, ys, (pre.length : Nat), pre.length, rfl, rfl, lc6.val, ixN_nat hpl, ?_⟩
          have hz : V.int (((b' + 1 : Nat) : Int) - 1) = V.int (b' : Nat) := by congr 1; omega
          rw [hz]
          refine ⟨.int (pre.length : Nat), rfl, (pre.length : Nat), 1, rfl, rfl, G6, q2, ((a4.gg.trans a5.gg).trans a6.gg), pre ++ [b'], rem, some k1, some (.int (m : Nat)), some (.bl true), _, ?_, q3, ?_, hf3, ?_, ?_⟩
          · show [some v, some u, some y, some (.ref a), some (.int ((pre.length : Nat) + 1)), some k1, some (.int (m : Nat)), some (.bl true)] = _
            rw [List.length_append, List.length_singleton]
            rfl
          · have hm : (pre ++ [b'] ++ rem).map natD = ((pre ++ (b' + 1) :: rem).map natD).set pre.length (natD b') := by
              rw [← List.map_set]
              congr 1
              rw [List.set_append_right _ _ (Nat.le_refl _), Nat.sub_self]
              simp
            rw [hm]
            refine da_of (by rw [List.length_set, List.length_set, da_len hys5]) fun i' v' d' h1' h2' => ?_
            by_cases hii : pre.length = i'
            · subst hii
              rw [List.getElem?_set_self hpl] at h1'
              rw [List.getElem?_set_self (by rw [← da_len hys5]; exact hpl)] at h2'
              cases h1'
              cases h2'
              exact Dp.int _
            · rw [List.getElem?_set_ne hii] at h1' h2'
              obtain ⟨d'', e'', g''⟩ := da_get (QN.dp_monos a6.gg _ _ hys5) h1'
              rw [h2'] at e''
              cases e''
              exact g''
          · rw [hput]
            show ((put (s.drop (i + 1)) tr rem).1, pre ++ b' :: (put (s.drop (i + 1)) tr rem).2) = _
            rw [List.append_assoc]
            rfl
          · rw [← hlen]
            simp
            try omega
  · subst hσ
    rw [List.length_map, List.drop_length] at hf3 hput
    have hr0 := hf3.nil
    subst hr0
    refine s_ret (z_pair lc3 rfl hys) (lc3.close n3) fun v' G7 H7 n7 c7 => k v' G7 H7 n7 ?_
    rw [hput]
    exact c7
end QP

/-! The steps of a row. -/
namespace QP
open PySem PySem.Spec PyProof.Rows L2 Evl QV QU QX QB QT QD
variable {P : Program} {w : World} {K : PySem.W.Frag} {mg : Str → Option Value} {base : Heap}
/-- the tests that stand at p -/
def tsAt (K : PySem.W.Frag) (p : Addr) (T : Tests) : Hf := fun G H => ∃ xs, H p = some (.lst xs) ∧ (allP T.length (itP T (testP K))).p G xs
theorem tsAt_stb {p : Addr} {T : Tests} : Stb [p] (tsAt K p T) := fun {G H G2 H2} e hm ⟨xs, h1, h2⟩ => ⟨xs, by rw [hm p (by simp)]; exact h1, (allP T.length (itP T (testP K))).mono e h2⟩
def sp_steps_of (K : PySem.W.Frag) : Sp := spM fun vs M G S S' C => ∃ r T p v, vs = [v, .ref p] ∧ M = [p] ∧ Dp K G v (rowD r) ∧ RowOk r ∧ r.length ≤ 100 ∧ T.length ≤ 100 ∧ S = tsAt K p T ∧ S' = tsAt K p (T ++ (stR r T.length id).2.1) ∧
  C = tupP K (consP (dat K (stepsD (stR r T.length id).1)) (consP (dK (tabK (stR r T.length id).2.2)) (is [])))
theorem swap_get {ps : List (Nat × Nat)} {c : Nat} : (valV (ps.map fun q => ((Sum.inr (chr q.1) : Key), V.str (chr q.2))) (.inr (chr c))).getD (.str (chr c)) = .str (chr (swapF ps c)) := by
  unfold swapF
  induction ps with
  | nil => rfl
  | cons q ps ih =>
    rw [List.map_cons, List.find?_cons]
    by_cases h : q.1 = c
    · rw [valV_pos (by rw [h]), decide_eq_true h]
      rfl
    · rw [valV_neg (fun e => h (chr_inj.mp (Sum.inr.inj e))), decide_eq_false h]
      exact ih
theorem swapF_sgn {ps : List (Nat × Nat)} {c : Nat} (h : ∀ r ∈ ps, Sgn r.1 ∧ Sgn r.2) (hc : Sgn c) : Sgn (swapF ps c) := by
  unfold swapF
  cases e : ps.find? (fun q => decide (q.1 = c)) with
  | none => exact hc
  | some q => exact (h q (List.mem_of_find?_eq_some e)).2
theorem tup2_rng {G : Hp} {x : V} {r : Nat × Nat} (h : Dp K G x (rngD r)) : (tupP K (consP (is (.str (chr r.1))) (consP (is (.str (chr r.2))) (is [])))).p G x := by
  obtain ⟨a, xs, h1, h2, u, us, h3, h4, v, ws, h5, h6, h7⟩ := tup2_of h
  exact ⟨a, xs, h1, h2, u, us, h3, dp_str h4, v, ws, h5, dp_str h6, h7⟩
theorem zt_ftag {M : List Addr} {S : Hf} {σ : L2.St} {G : Hp} {i : Nat} {v : V} {f : Fil} {t u : Str} {b : Bool} (hi : σ[i]? = some (some v)) (hv : Dp K G v (filD f)) (ht : ftag f = t) (e : decide (V.str t = V.str u) = b) :
    Ez M S S (tTest (tOp rEq (tOp (rIxT K) (tVar i) (tC (.int 0))) (tC (.str u))) σ) G (is b) := by
  rw [filD_eq, ht] at hv
  exact zt_tag hi hv e
theorem p_steps_of (B : Bi K mg) {f : Addr} {fd : FuncData} (F : Fun K "steps_of" "steps_of" s_steps_of f fd) : FnOk P w K mg base CX0 1 f fd P_steps_of (sp_steps_of K) := by
  refine F.ok sc_steps_of (fun vs H Q E ⟨M, G, S, S', C, _, _, ⟨r, T, p, v, e, _⟩, _⟩ => by rw [e]; rfl) fun cdv A outer s H vs Q E hr h => ?_
  have nd := sc_steps_of.nd
  have hu := hu_of hr
  have hu6 := hr.units
  refine ⟨_, (pss_cons (QN.ps_setDc (i := 2) (own := [("sign", 6)]) rfl nd rfl rfl (QN.sw_trueD rfl rfl rfl (by decide +kernel)) (pi_str (pe_glob (v := .str lineT) (by rfl) B.SIGNS_linetests.2 ⟨_, rfl⟩)) (blkOk_by (own := [("sign", 6)]) (N := N_steps_of) (sc := defScope s_steps_of) (by decide +kernel)) (fun _ _ _ _ _ => (pg_name (i := 6) nd rfl (.inl rfl))) (fun _ _ _ _ _ => pts_nil) (fun _ _ _ _ _ => (pv 6)) (fun _ _ _ _ _ => (pv 6)))
      (pss_cons (ps_set (i := 3) nd rfl (.inl rfl) (pe_lst pa_nil))
      (pss_cons (ps_for PassesOwn.never rfl (QU.piL (K := K) rfl (pv 0)) (pg_name (i := 4) nd rfl (.inl rfl)) (pss_one (ps_if (pt_cmpR op_eq (pe_ix (QU.ixT (K := K) rfl) (pv 4) pe_int (fun _ _ => rfl)) pe_str (nomark _)) (pss_cons (ps_set (i := 5) nd rfl (.inr rfl) (pe_dc (own := [("sign", 6), ("other", 7)]) rfl nd (QU.piL (K := K) rfl (pe_ix (QU.ixT (K := K) rfl) (pv 4) pe_int (fun _ _ => rfl))) (blkOk_by (own := [("sign", 6), ("other", 7)]) (N := N_steps_of) (sc := defScope s_steps_of) (by decide +kernel)) (fun _ _ _ _ _ => (QU.pgT (K := K) (n := 2) rfl rfl (pgs_cons (pg_name (i := 6) nd rfl (.inl rfl)) (pgs_cons (pg_name (i := 7) nd rfl (.inl rfl)) pgs_nil)))) (fun _ _ _ _ _ => pts_nil) (fun _ _ _ _ _ => (pv 6)) (fun _ _ _ _ _ => (pv 7))))
      (pss_one (ps_lock (QN.ps_setDc (i := 2) (own := [("sign", 6), ("other", 7)]) rfl nd rfl rfl (QN.sw_trueD rfl rfl rfl (by decide +kernel)) (pi_items (pv 2)) (blkOk_by (own := [("sign", 6), ("other", 7)]) (N := N_steps_of) (sc := defScope s_steps_of) (by decide +kernel)) (fun _ _ _ _ _ => (QU.pgT (K := K) (n := 2) rfl rfl (pgs_cons (pg_name (i := 6) nd rfl (.inl rfl)) (pgs_cons (pg_name (i := 7) nd rfl (.inl rfl)) pgs_nil)))) (fun _ _ _ _ _ => pts_nil) (fun _ _ _ _ _ => (pv 6)) (fun _ _ _ _ _ => (pe_dget2 hu (pv 5) (pv 7) (pv 7) ⟨by rfl, by rfl, by rfl, by rfl⟩)))))) (pss_one (ps_if (pt_cmpR op_eq (pe_ix (QU.ixT (K := K) rfl) (pv 4) pe_int (fun _ _ => rfl)) pe_str (nomark _)) (pss_one (ps_expr (pe_bm PySem.F.plainAttrs_list PySem.F.slot_list_append PySem.F.type_list_append mt_append (pv 3) (pa_cons (pe_tup (pa_cons pe_str (pa_cons (pe_ix (QU.ixT (K := K) rfl) (pv 4) pe_int (fun _ _ => rfl)) (pa_cons pe_bl pa_nil)))) pa_nil)))) (pss_cons (ps_expr (pe_bm PySem.F.plainAttrs_list PySem.F.slot_list_append PySem.F.type_list_append mt_append (pv 3) (pa_cons (pe_tup (pa_cons pe_str (pa_cons (pe_callB (QU.lenS (K := K) rfl) (by rfl) B.len_ (by decide +kernel) (pa_cons (pv 1) pa_nil)) (pa_cons (pe_cmpR op_eq (pe_ix (QU.ixT (K := K) rfl) (pv 4) pe_int (fun _ _ => rfl)) pe_str (nomark _)) pa_nil)))) pa_nil)))
      (pss_one (ps_expr (pe_bm PySem.F.plainAttrs_list PySem.F.slot_list_append PySem.F.type_list_append mt_append (pv 1) (pa_cons (pe_tup (pa_cons (pe_ix (QU.ixT (K := K) rfl) (pv 4) pe_int (fun _ _ => rfl)) (pa_cons (pv 2) pa_nil))) pa_nil))))))))))
      (pss_one (ps_ret (pe_tup (pa_cons (pv 3) (pa_cons (pv 2) pa_nil)))))))), ?_⟩
  obtain ⟨M, G, S, S', C, aM, hS, ⟨r, T, p, v, rfl, rfl, hv, hok, hrl, hTl, rfl, rfl, rfl⟩, k⟩ := h
  obtain ⟨xs, hp, hxs⟩ := hS
  have n0 : Nv [p] G H G H := Nv.refl aM.ex
  have gp : G p = none := (aM.mm p (by simp)).1
  refine q_asg (C := dK (tabK id)) (Ez.to (z_dcS lineT (fun c => some (.inr (chr c), .str (chr c))) (z_c rfl) (by decide +kernel) (by rw [fm_some', line_cps]; exact keys_nodup sgs_nodup _) fun c G1 hc e1 => turnD_name (b := true) (k := .inr (chr c)) rfl zt_yes (fun _ => z_var rfl rfl) fun _ => z_var rfl rfl) fun G' v' e' c' => by
    rw [fm_some', line_cps] at c'
    exact c') n0 fun tb G1 H1 a1 n1 htb => ?_
  obtain ⟨p1a, p1b⟩ := a1.loc (by simp) gp hp
  refine q_asgL (B := is []) (l_lst z_nil stb_tr fun G' xs b => by rw [show xs = _ from b]; decide) n1 fun sl ys G2 H2 a2 n2 hl2 lc b => ?_
  rw [show ys = _ from b] at lc
  obtain ⟨p2a, p2b⟩ := a2.loc (by simp) p1a p1b
  have hp0 : H p ≠ none := by rw [hp]; simp
  have hslp : sl ≠ p := fun z => hp0 (z ▸ lc.new)
  have hv2 := QN.dp_mono n2.gg _ _ hv
  refine q_forP (n := r.length) (wk_list (z_lst (z_var rfl hv2)) |> fun h => by rw [List.length_map] at h; exact h) n2 (fun i σ G3 H3 => ∃ (ss : List Stp) (ad : Tests) (t : Nat → Nat) (tb x4 : V) (x5 : Option V) (ys zs : List V), (∃ y4, σ = [some v, some (.ref p), some tb, some (.ref sl), y4, x5, none, none]) ∧ Lc H G3 H3 sl ys ∧ DpAll K G3 ys (ss.map stpD) ∧ G3 p = none ∧ H3 p = some (.lst zs) ∧ (allP (T ++ ad).length (itP (T ++ ad) (testP K))).p G3 zs ∧
      (dK (tabK t)).p G3 tb ∧ ss.length ≤ i ∧ ad.length ≤ i ∧
      stR r T.length id = (ss ++ (stR (r.drop i) (T.length + ad.length) t).1, ad ++ (stR (r.drop i) (T.length + ad.length) t).2.1, (stR (r.drop i) (T.length + ad.length) t).2.2))
    (fun G3 H3 a3 n3 => ⟨[], [], id, tb, .non, none, [], xs, ⟨none, rfl⟩, lc.nv a3, DpAll.nil, (a3.loc (by simp) p2a p2b).1, (a3.loc (by simp) p2a p2b).2, by
      rw [List.append_nil]
      exact Pd.mono _ ((a1.gg.trans a2.gg).trans a3.gg) hxs, Pd.mono _ (a2.gg.trans a3.gg) htb, Nat.le_refl _, Nat.le_refl _, rfl⟩) (fun i σ G3 H3 x G4 H4 hi n3 e3 ⟨ss, ad, t, tb, x4, x5, ys, zs, ⟨y4, hσ⟩, lc3, hys, p3a, p3b, hzs, htb3, hss, had, hst⟩ a4 n4 hx => ?_) fun σ G3 H3 n3 e3 ⟨ss, ad, t, tb, x4, x5, ys, zs, ⟨y4, hσ⟩, lc3, hys, p3a, p3b, hzs, htb3, hss, had, hst⟩ => ?_
  · subst hσ
    obtain ⟨d, hd, hx⟩ := hx
    rw [List.getElem?_map] at hd
    obtain ⟨fl, hfl, rfl⟩ := Option.map_eq_some_iff.mp hd
    have hfok := hok fl (List.mem_of_getElem? hfl)
    have hdrop : r.drop i = fl :: r.drop (i + 1) := by
      rw [← List.getElem_cons_drop hi]
      congr 1
      rw [List.getElem?_eq_getElem hi] at hfl
      exact Option.some.inj hfl
    rw [hdrop] at hst
    have lc4 := lc3.nv a4
    have hys4 := QN.dp_monos a4.gg _ _ hys
    obtain ⟨p4a, p4b⟩ := a4.loc (by simp) p3a p3b
    have hzs4 := Pd.mono (allP (T ++ ad).length (itP (T ++ ad) (testP K))) a4.gg hzs
    have htb4 := Pd.mono (dK (tabK t)) a4.gg htb3
    have hi100 : i ≤ 100 := by omega
    show tIfS _ _ _ _ [some v, some (.ref p), some tb, some (.ref sl), some x, x5, none, none] H4
    cases fl with
    | swap ps =>
      refine s_ifT (zt_ftag (t := "swap") (f := .swap ps) rfl hx rfl (by decide +kernel)) n4 fun G5 H5 a5 n5 => ?_
      have hpk : (((ps.map fun q => ((Sum.inr (chr q.1) : Key), V.str (chr q.2))).map (·.1)).Nodup) := by
        have h1 := hfok.2.2.1
        have e1 : (ps.map fun q => ((Sum.inr (chr q.1) : Key), V.str (chr q.2))).map (·.1) = (ps.map fun q => q.1).map fun c => (Sum.inr (chr c) : Key) := by
          rw [List.map_map, List.map_map]
          rfl
        rw [e1]
        exact List.Pairwise.map _ (fun a b hab e => hab (chr_inj.mp (Sum.inr.inj e))) h1
      refine q_asg (C := dK (ps.map fun q => ((Sum.inr (chr q.1) : Key), V.str (chr q.2)))) (z_dcL ps rngD (fun q => (.inr (chr q.1), .str (chr q.2))) (z_ixDT (i := 1) (z_var rfl (QN.dp_mono a5.gg _ _ hx)) (z_c rfl) rfl) (Nat.le_trans hfok.2.1 (by decide)) hpk fun q x6 G6 hq e6 hx6 => ?_) n5 fun pv G6 H6 a6 n6 hpv => ?_
      · exact turnD_two (tup2_rng hx6) rfl (fun _ _ => z_var rfl rfl) fun _ _ => z_var rfl rfl
      obtain ⟨tba, rfl, htba⟩ := Pd.mono (dK (tabK t)) (a5.gg.trans a6.gg) htb4
      let fz : Key × V → Key × V := fun a => (a.1, match a.2 with
        | .str s => (valV (ps.map fun q => ((Sum.inr (chr q.1) : Key), V.str (chr q.2))) (.inr s)).getD (.str s)
        | x => x)
      have hfz : (tabK t).map fz = tabK fun c => swapF ps (t c) := by
        unfold tabK
        rw [List.map_map]
        refine List.map_congr_left fun c _ => ?_
        show ((Sum.inr (chr c) : Key), _) = _
        congr 1
        exact swap_get
      refine q_lockdc (kvs' := tabK fun c => swapF ps (t c)) htba (fun od => ?_) n6 fun nv G7 H7 a7 n7 hnv => ?_
      · rw [← hfz]
        refine z_dcI (K := K) fz (z_var rfl ⟨tba, rfl, upd_same⟩) (by show (tabK t).length ≤ _; unfold tabK; rw [List.length_map]; decide +kernel) (by rw [hfz]; exact keys_nodup sgs_nodup _) fun a x8 G8 ha e8 hx8 => ?_
        obtain ⟨c, hc, rfl⟩ := List.mem_map.mp ha
        refine turnD_two hx8 rfl (fun _ _ => z_var rfl rfl) fun G9 e9 => z_dget2 (z_var rfl (Pd.mono (rdK _) (e8.trans e9) ?_)) (z_var rfl rfl) (z_var rfl rfl) rfl rfl
        obtain ⟨pa, rfl, hpa⟩ := hpv
        by_cases hx9 : pa = tba
        · subst hx9
          rw [htba] at hpa
          exact ⟨pa, rfl, .inr ⟨od, by rw [← HO.dK.inj (Option.some.inj hpa)]; exact upd_same⟩⟩
        · exact ⟨pa, rfl, .inl (by rw [upd_ne hx9]; exact hpa)⟩
      · have e47 := (a5.gg.trans a6.gg).trans a7.gg
        obtain ⟨p7a, p7b⟩ := ((a5.trans a6).trans a7).loc (by simp) p4a p4b
        refine ⟨G7, n7, a4.gg.trans e47, ss, ad, fun c => swapF ps (t c), nv, x4, some pv, ys, zs, ⟨_, rfl⟩, ((lc4.nv a5).nv a6).nv a7, QN.dp_monos e47 _ _ hys4, p7a, p7b, Pd.mono _ e47 hzs4, hnv, by omega, by omega, ?_⟩
        rw [hst]
        rfl
    | first m =>
      refine s_ifF (zt_ftag (t := "first") (f := .first m) rfl hx rfl (by decide +kernel)) n4 fun G5 H5 a5 n5 => ?_
      refine s_ifT (zt_ftag (t := "first") (f := .first m) rfl (QN.dp_mono a5.gg _ _ hx) rfl (by decide +kernel)) n5 fun G6 H6 a6 n6 => ?_
      have e46 := a5.gg.trans a6.gg
      obtain ⟨p6a, p6b⟩ := (a5.trans a6).loc (by simp) p4a p4b
      have lc6 := (lc4.nv a5).nv a6
      refine e_app rfl lc6 (by rw [da_len hys4, List.length_map]; exact Nat.lt_of_le_of_lt hss (Nat.lt_of_le_of_lt hi100 (by decide))) (z_tupD (ds := [.str "first", natD m, .bool true]) (z_consD (dat_str (z_c rfl)) (z_consD (z_ixDT (i := 1) (z_var rfl (QN.dp_mono e46 _ _ hx)) (z_c rfl) rfl) (z_consD (dat_bool (z_c rfl)) z_nilD))) stb_tr (by show 3 ≤ 1000; decide)) n6 fun u G7 H7 a7 n7 lc7 hu7 => ?_
      obtain ⟨p7a, p7b⟩ := a7.loc (by simpa using fun z : p = sl => hslp z.symm) p6a p6b
      have e47 := e46.trans a7.gg
      refine ⟨G7, n7, a4.gg.trans e47, ss ++ [.first m], ad, t, tb, x4, x5, _, zs, ⟨_, rfl⟩, lc7, ?_, p7a, p7b, Pd.mono _ e47 hzs4, Pd.mono _ e47 htb4, by rw [List.length_append, List.length_singleton]; omega, by omega, ?_⟩
      · rw [List.map_append]
        exact da_snoc (QN.dp_monos e47 _ _ hys4) hu7
      · rw [hst]
        show (ss ++ (Stp.first m :: _), ad ++ _, _) = _
        rw [List.append_assoc]
        rfl
    | keep pt =>
      refine s_ifF (zt_ftag (t := "keep") (f := .keep pt) rfl hx rfl (by decide +kernel)) n4 fun G5 H5 a5 n5 => ?_
      refine s_ifF (zt_ftag (t := "keep") (f := .keep pt) rfl (QN.dp_mono a5.gg _ _ hx) rfl (by decide +kernel)) n5 fun G6 H6 a6 n6 => ?_
      have e46 := a5.gg.trans a6.gg
      have hx6 := QN.dp_mono e46 _ _ hx
      obtain ⟨p6a, p6b⟩ := (a5.trans a6).loc (by simp) p4a p4b
      have lc6 := (lc4.nv a5).nv a6
      have hzl : zs.length = T.length + ad.length := by rw [hzs4.1, List.length_append]
      refine s_app (M := [p]) (S := fun _ H => H p = some (.lst zs)) (S1 := fun _ H => H p = some (.lst zs)) (C := dat K (stpD (.test (T.length + ad.length) true))) rfl lc6 (by rw [da_len hys4, List.length_map]; exact Nat.lt_of_le_of_lt hss (Nat.lt_of_le_of_lt hi100 (by decide))) (z_tupD (ds := [.str "test", natD (T.length + ad.length), .bool true]) (z_consD (dat_str (z_c rfl)) (z_consD (dat_int (z_is (z_lenM rfl fun _ _ h => h) (by rw [hzl]))) (z_consD (dat_bool (z_opEq (z_str (z_ixDT (i := 0) (z_var rfl hx6) (z_c rfl) rfl)) (z_c rfl) rfl (by decide +kernel))) z_nilD))) (fun {G H G2 H2} _ hm h => by rw [hm p (by simp)]; exact h) (by show 3 ≤ 1000; decide)) n6 (fun z hz => .inl hz) (At.one n6.gh p6a p6b) p6b (by simpa using hslp) fun u G7 H7 a7 n7 at7 ⟨H7', hs7, _, hm7⟩ lc7 hu7 => ?_
      have p7b : H7 p = some (.lst zs) := by rw [hm7 p (by simp)]; exact hs7
      have p7a : G7 p = none := (at7.mm p (by simp)).1
      have e47 := e46.trans a7.gg
      refine e_appM (C := testP K (pt, t)) rfl p7a p7b (.inl (by simp)) (by rw [hzl]; exact Nat.lt_of_le_of_lt (by omega : T.length + ad.length ≤ 200) (by decide)) (z_tup (z_cons (z_ixDT (i := 1) (z_var rfl (QN.dp_mono e47 _ _ hx)) (z_c rfl) rfl) (z_cons (z_var rfl (Pd.mono (dK (tabK t)) e47 htb4)) z_nil)) stb_tr fun G' xs' ⟨x1, xs1, e1, _, x2, xs2, e2, _, e3⟩ => by
        have e3 : xs2 = [] := e3
        rw [e1, e2, e3]
        show 2 ≤ sizeLine
        decide) n7 fun u2 G8 H8 a8 n8 p8a p8b hu8 => ?_
      have e48 := e47.trans a8.gg
      refine ⟨G8, n8, a4.gg.trans e48, ss ++ [.test (T.length + ad.length) true], ad ++ [(pt, t)], t, tb, x4, x5, _, _, ⟨_, rfl⟩, lc7.nv a8 (by simpa using hslp), ?_, p8a, p8b, ?_, Pd.mono _ e48 htb4, by rw [List.length_append, List.length_singleton]; omega, by rw [List.length_append, List.length_singleton]; omega, ?_⟩
      · rw [List.map_append]
        exact da_snoc (QN.dp_monos e48 _ _ hys4) (QN.dp_mono a8.gg _ _ hu7)
      · rw [← List.append_assoc]
        exact itP_snoc (Pd.mono _ e48 hzs4) hu8
      · rw [hst]
        show (ss ++ (Stp.test (T.length + ad.length) true :: _), ad ++ ((pt, t) :: _), _) = _
        rw [List.append_assoc, List.append_assoc, List.length_append, List.length_singleton]
        rfl
    | drop pt =>
      refine s_ifF (zt_ftag (t := "drop") (f := .drop pt) rfl hx rfl (by decide +kernel)) n4 fun G5 H5 a5 n5 => ?_
      refine s_ifF (zt_ftag (t := "drop") (f := .drop pt) rfl (QN.dp_mono a5.gg _ _ hx) rfl (by decide +kernel)) n5 fun G6 H6 a6 n6 => ?_
      have e46 := a5.gg.trans a6.gg
      have hx6 := QN.dp_mono e46 _ _ hx
      obtain ⟨p6a, p6b⟩ := (a5.trans a6).loc (by simp) p4a p4b
      have lc6 := (lc4.nv a5).nv a6
      have hzl : zs.length = T.length + ad.length := by rw [hzs4.1, List.length_append]
      refine s_app (M := [p]) (S := fun _ H => H p = some (.lst zs)) (S1 := fun _ H => H p = some (.lst zs)) (C := dat K (stpD (.test (T.length + ad.length) false))) rfl lc6 (by rw [da_len hys4, List.length_map]; exact Nat.lt_of_le_of_lt hss (Nat.lt_of_le_of_lt hi100 (by decide))) (z_tupD (ds := [.str "test", natD (T.length + ad.length), .bool false]) (z_consD (dat_str (z_c rfl)) (z_consD (dat_int (z_is (z_lenM rfl fun _ _ h => h) (by rw [hzl]))) (z_consD (dat_bool (z_opEq (z_str (z_ixDT (i := 0) (z_var rfl hx6) (z_c rfl) rfl)) (z_c rfl) rfl (by decide +kernel))) z_nilD))) (fun {G H G2 H2} _ hm h => by rw [hm p (by simp)]; exact h) (by show 3 ≤ 1000; decide)) n6 (fun z hz => .inl hz) (At.one n6.gh p6a p6b) p6b (by simpa using hslp) fun u G7 H7 a7 n7 at7 ⟨H7', hs7, _, hm7⟩ lc7 hu7 => ?_
      have p7b : H7 p = some (.lst zs) := by rw [hm7 p (by simp)]; exact hs7
      have p7a : G7 p = none := (at7.mm p (by simp)).1
      have e47 := e46.trans a7.gg
      refine e_appM (C := testP K (pt, t)) rfl p7a p7b (.inl (by simp)) (by rw [hzl]; exact Nat.lt_of_le_of_lt (by omega : T.length + ad.length ≤ 200) (by decide)) (z_tup (z_cons (z_ixDT (i := 1) (z_var rfl (QN.dp_mono e47 _ _ hx)) (z_c rfl) rfl) (z_cons (z_var rfl (Pd.mono (dK (tabK t)) e47 htb4)) z_nil)) stb_tr fun G' xs' ⟨x1, xs1, e1, _, x2, xs2, e2, _, e3⟩ => by
        have e3 : xs2 = [] := e3
        rw [e1, e2, e3]
        show 2 ≤ sizeLine
        decide) n7 fun u2 G8 H8 a8 n8 p8a p8b hu8 => ?_
      have e48 := e47.trans a8.gg
      refine ⟨G8, n8, a4.gg.trans e48, ss ++ [.test (T.length + ad.length) false], ad ++ [(pt, t)], t, tb, x4, x5, _, _, ⟨_, rfl⟩, lc7.nv a8 (by simpa using hslp), ?_, p8a, p8b, ?_, Pd.mono _ e48 htb4, by rw [List.length_append, List.length_singleton]; omega, by rw [List.length_append, List.length_singleton]; omega, ?_⟩
      · rw [List.map_append]
        exact da_snoc (QN.dp_monos e48 _ _ hys4) (QN.dp_mono a8.gg _ _ hu7)
      · rw [← List.append_assoc]
        exact itP_snoc (Pd.mono _ e48 hzs4) hu8
      · rw [hst]
        show (ss ++ (Stp.test (T.length + ad.length) false :: _), ad ++ ((pt, t) :: _), _) = _
        rw [List.append_assoc, List.append_assoc, List.length_append, List.length_singleton]
        rfl
  · subst hσ
    rw [List.drop_length] at hst
    have hst' : stR r T.length id = (ss, ad, t) := by
      rw [hst]
      show (ss ++ [], ad ++ [], t) = _
      rw [List.append_nil, List.append_nil]
    rw [hst'] at k
    refine s_retN (C := tupP K (consP (dat K (stepsD ss)) (consP (dK (tabK t)) (is [])))) (z_tup (z_cons (z_var rfl (lc3.dat hys)) (z_cons (z_var rfl (Pd.mono _ lc3.gg htb3)) z_nil)) stb_tr fun G' xs' ⟨x1, xs1, e1, _, x2, xs2, e2, _, e3⟩ => by
      have e3 : xs2 = [] := e3
      rw [e1, e2, e3]
      show 2 ≤ sizeLine
      decide) (lc3.close n3) fun v' G7 H7 a7 n7 c7 => k v' G7 H7 n7 ?_ c7
    have p3c : upd G3 sl (.lst ys) p = none := by rw [upd_ne (fun z => hslp z.symm)]; exact p3a
    obtain ⟨p7a, p7b⟩ := a7.loc (by simp) p3c p3b
    exact ⟨zs, p7b, Pd.mono _ (lc3.gg.trans a7.gg) hzs⟩
end QP

/-! The classes of signs. -/
namespace QP
open PySem PySem.Spec PyProof.Rows L2 Evl QV QU QX QB QT QD
variable {P : Program} {w : World} {K : PySem.W.Frag} {mg : Str → Option Value} {base : Heap}
theorem flat_range {α β : Type} (l : List α) (f : α → List β) : ((List.range l.length).map fun i => (l[i]?.map f).getD []).flatten = l.flatMap f := by
  induction l with
  | nil => rfl
  | cons a l ih =>
    rw [List.length_cons, List.range_succ_eq_map, List.map_cons, List.map_map, List.flatten_cons, List.flatMap_cons, ← ih]
    rfl
theorem map_range_at {α β : Type} (l : List α) (f : α → β) (z : β) : (List.range l.length).map (fun i => (l[i]?.map f).getD z) = l.map f := by
  induction l with
  | nil => rfl
  | cons a l ih =>
    rw [List.length_cons, List.range_succ_eq_map, List.map_cons, List.map_map, List.map_cons, ← ih]
    rfl
def sp_sign_classes (K : PySem.W.Frag) : Sp := spP fun vs G C => ∃ T m v u, vs = [v, u] ∧ (testsP K T).p G v ∧ TOk T ∧ (dK (mrkK m)).p G u ∧ C = dat K (.list ((reps T m).map fun c => .str (chr c)))
theorem p_sign_classes (B : Bi K mg) {f : Addr} {fd : FuncData} (F : Fun K "sign_classes" "sign_classes" s_sign_classes f fd) (c_takes : Callee P w K mg base 1 "takes" P_takes (sp_takes K)) : FnOk P w K mg base CX0 2 f fd P_sign_classes (sp_sign_classes K) := by
  refine F.ok sc_sign_classes (fun vs H Q E ⟨G, C, _, ⟨T, m, v, u, e, _⟩, _⟩ => by rw [e]; rfl) fun cdv A outer s H vs Q E hr h => ?_
  have nd := sc_sign_classes.nd
  have hu := hu_of hr
  have hu6 := hr.units
  refine ⟨_, (pss_cons (ps_set (i := 2) nd rfl (.inl rfl) (QU.nnew (P := P) (w := w) rfl rfl))
      (pss_cons (ps_for PassesOwn.never rfl (pi_str (pe_glob (v := .str lineT) (by rfl) B.SIGNS_linetests.2 ⟨_, rfl⟩)) (pg_name (i := 3) nd rfl (.inr rfl)) (pss_cons (ps_setLc2 (i := 4) (own := [("pattern", 5), ("table", 6), ("entry", 7)]) rfl nd rfl rfl (sw_true rfl rfl rfl (by decide +kernel)) (QU.piL (K := K) rfl (pv 0)) (blkOk_by (own := [("pattern", 5), ("table", 6), ("entry", 7)]) (N := N_sign_classes) (sc := defScope s_sign_classes) (by decide +kernel)) (vs1 := [7]) (by decide) (fun _ _ _ _ _ => (QU.pgT (K := K) (n := 2) rfl rfl (pgs_cons (pg_name (i := 5) nd rfl (.inl rfl)) (pgs_cons (pg_name (i := 6) nd rfl (.inl rfl)) pgs_nil)))) (fun _ _ _ _ _ => pts_nil) (fun _ _ _ _ _ => (QU.piL (K := K) rfl (pv 5))) (fun _ _ _ _ _ => (pg_name (i := 7) nd rfl (.inl rfl))) (fun _ _ _ _ _ => pts_nil) (fun _ _ _ _ _ => (pe_call c_takes.ok (hr.mono (by decide)) (by rfl) c_takes.m c_takes.kp c_takes.b .nil pass0 (pa_cons (pv 7) (pa_cons (pe_dget hu (pv 6) (pv 3) (fun _ _ => rfl)) pa_nil)))))
      (pss_one (ps_expr (QN.pe_nsetd hu6 (pv 2) (pe_callTy (QU.tupOf (K := K) rfl) (by rfl) B.tuple_ (by decide +kernel) (pa_cons (pe_op op_cat (pv 4) (pe_lst (pa_cons (pe_cmp (pc_din hu (pv 3) (pv 1)) (by rfl)) pa_nil))) pa_nil)) (pv 3) ⟨by rfl, by rfl, by rfl, by rfl⟩)))))
      (pss_one (ps_ret (QN.pe_nvals rfl (pv 2) (by rfl) B.list_ (by decide +kernel)))))), ?_⟩
  obtain ⟨G, C, e, ⟨T, m, v, u, rfl, hv, hok, hm, rfl⟩, k⟩ := h
  have n0 : Nv [] G H G H := Nv.refl e
  refine q_nnew (K := K) (kd := boolsD) (κ := List Bool) n0 fun p H1 a1 n1 hp ln => ?_
  refine q_forP (wk_str (x := lineT) (z_c rfl)) n1 (fun i σ G2 H2 => ∃ y3 y4, σ = [some v, some u, some (.ref p), y3, y4, none, none, none] ∧ Nl P w K boolsD [] H G2 H2 p ((dedupe [] ((sgs.take i).map fun c => (takesKey T m c, c))).map fun x => (x.1, V.str (chr x.2)))) (fun G2 H2 a2 n2 => ⟨none, none, rfl, ln.nv a2⟩) (fun i σ G2 H2 x G3 H3 hi n2 e2 ⟨y3, y4, hσ, ln2⟩ a3 n3 hx => ?_) fun σ G2 H2 n2 e2 ⟨y3, y4, hσ, ln2⟩ => ?_
  · subst hσ
    obtain ⟨c, hc, rfl⟩ := hx
    have hc' : sgs[i]? = some c := by rw [← line_cps, Array.getElem?_toList]; exact hc
    have hcs : Sgn c := mem_sgs.mp (List.mem_of_getElem? hc')
    have ln3 := ln2.nv a3
    have hv3 := Pd.mono (testsP K T) n3.gg hv
    have hm3 := Pd.mono (dK (mrkK m)) n3.gg hm
    have hTl : T.length ≤ 100 := hok.1
    show tSeq _ _ _ [some v, some u, some (.ref p), some (.str (chr c)), y4, none, none, none] H3
    refine q_asgL (B := dats K (T.flatMap fun q => q.1.map fun e => .bool (e.takes (q.2 c)))) (Lz.to (l_lc2 (n := T.length) (A := fun i => (T[i]?.map fun (q : Pat × (Nat → Nat)) => q.1.map fun e => PyData.bool (e.takes (q.2 c))).getD []) (wk_list (z_var rfl hv3)) (Nat.le_trans hTl (by decide)) (fun i x H4 G4 hi4 e4 hx4 e44 Q4 q4 => ?_) fun i hi4 => ?_) fun G' xs _ c' => by
      rw [flat_range] at c'
      exact c') n3 fun kl xs G4 H4 a4 n4 hkl lc hxs => ?_
    · obtain ⟨q, hq, hx4⟩ := hx4
      refine g_two hx4 e44 fun pa ta hpa hta => q4 _ rfl ⟨(q.1.map entD).length, itD K (q.1.map entD), fun j => ((q.1)[j]?.map fun e => PyData.bool (e.takes (q.2 c))).getD .none, ?_, ?_, wk_list (z_lst (z_var rfl hpa)), fun j y G5 hj e5 hy => ?_⟩
      · rw [List.length_map]
        exact Nat.le_trans (hok.2 q (List.mem_of_getElem? hq)).2.1 (by decide)
      · show (T[i]?.map _).getD [] = _
        rw [hq, List.length_map, map_range_at]
        rfl
      · obtain ⟨d, hd, hy⟩ := hy
        rw [List.getElem?_map] at hd
        obtain ⟨en, hen, rfl⟩ := Option.map_eq_some_iff.mp hd
        show Pz _ G5 (oD K (some (((q.1)[j]?.map fun e => PyData.bool (e.takes (q.2 c))).getD .none)))
        rw [hen]
        exact turn_all rfl (dat_bool (z_call2 (A := dat K (entD en)) (z_var rfl hy) (z_dget (z_var rfl (Pd.mono _ e5 hta)) (z_var rfl rfl) rfl (tab_get hcs)) stb_tr fun x6 y6 G6 _ hx6 hy6 => ⟨en, q.2 c, x6, by rw [show y6 = _ from hy6], hx6, (hok.2 q (List.mem_of_getElem? hq)).1 en (List.mem_of_getElem? hen), rfl⟩))
    · have hone : ∀ i : Nat, ((T[i]?.map fun (q : Pat × (Nat → Nat)) => q.1.map fun e => PyData.bool (e.takes (q.2 c))).getD []).length ≤ 3 := fun i => by
        cases hq : T[i]? with
        | none => exact Nat.zero_le _
        | some q =>
          show (q.1.map _).length ≤ 3
          rw [List.length_map]
          exact (hok.2 q (List.mem_of_getElem? hq)).2.1
      have hsum : ∀ n : Nat, (((List.range n).map fun i => (T[i]?.map fun (q : Pat × (Nat → Nat)) => q.1.map fun e => PyData.bool (e.takes (q.2 c))).getD []).flatten).length ≤ 3 * n := fun n => by
        induction n with
        | zero => exact Nat.le_refl _
        | succ n ih =>
          rw [List.range_succ, List.map_append, List.flatten_append, List.length_append, List.map_singleton, List.flatten_singleton]
          have := hone n
          omega
      have h1 := hsum i
      have h2 := hone i
      have : i < T.length := hi4
      show _ + ((T[i]?.map fun (q : Pat × (Nat → Nat)) => q.1.map fun e => PyData.bool (e.takes (q.2 c))).getD []).length ≤ _
      omega
    · have ln4 := ln3.nv a4
      have hnkl : kl ≠ p := fun z => by
        have := ln3.there
        rw [← z] at this
        exact this hkl
      have lnc : Nl P w K boolsD [] H (upd G4 kl (.lst xs)) H4 p _ := ⟨ln4.own, by rw [upd_ne (Ne.symm hnkl)]; exact ln4.out, ln4.val.mono lc.gg fun _ h => h⟩
      have hlen : (T.flatMap fun q => q.1.map fun e => PyData.bool (e.takes (q.2 c))).length ≤ 300 := by
        have : ∀ T : Tests, (∀ q ∈ T, q.1.length ≤ 3) → (T.flatMap fun q => q.1.map fun e => PyData.bool (e.takes (q.2 c))).length ≤ 3 * T.length := fun T => by
          induction T with
          | nil => intro _; exact Nat.le_refl _
          | cons q T ih =>
            intro h
            have h1 := ih fun x hx => h x (List.mem_cons_of_mem _ hx)
            have h2 := h q List.mem_cons_self
            rw [List.flatMap_cons, List.length_append, List.length_map, List.length_cons]
            omega
        have := this T fun q hq => (hok.2 q hq).2.1
        omega
      have hkey : boolsD (takesKey T m c) = .tuple ((T.flatMap fun q => q.1.map fun e => PyData.bool (e.takes (q.2 c))) ++ [.bool (m c)]) := by
        unfold boolsD takesKey
        rw [List.map_append, List.map_flatMap]
        simp [List.map_map, Function.comp_def]
      have hnext : (sgs.take (i + 1)).map (fun c => (takesKey T m c, c)) = (sgs.take i).map (fun c => (takesKey T m c, c)) ++ [(takesKey T m c, c)] := by
        rw [List.take_succ, hc', List.map_append]
        rfl
      have hlk : ∀ x : List Bool, x ∈ ((dedupe [] ((sgs.take i).map fun c => (takesKey T m c, c))).map fun x => (x.1, V.str (chr x.2))).map (·.1) ↔ x ∈ [] ++ (dedupe [] ((sgs.take i).map fun c => (takesKey T m c, c))).map (·.1) := fun x => by
        rw [List.nil_append, List.map_map]
        rfl
      refine e_nsetd (k := takesKey T m c) kyB (v := .str (chr c)) rfl lnc (hkey ▸ z_tupOf (Lz.dat (l_catD (z_var rfl (lc.exact hxs)) (Lz.exact (l_lstD (z_consD (dat_bool (z_din (z_var rfl rfl) (z_var rfl (Pd.mono _ (a4.gg.trans lc.gg) hm3)) (k := .inr (chr c)) rfl (mrk_get hcs))) z_nilD) stb_tr (by show 1 ≤ 1000; decide)) stb_tr) stb_tr (by show _ + 1 ≤ _; exact Nat.le_trans (Nat.add_le_add_right hlen 1) (by decide))) stb_tr) stb_tr) (z_var rfl rfl) ?_ (lc.close n4) (fun hmem G5 H5 a5 n5 ln5 => ⟨G5, n5, ((a3.gg.trans a4.gg).trans lc.gg).trans a5.gg, _, _, rfl, ?_⟩) fun hmem G5 H5 a5 n5 ln5 => ⟨G5, n5, ((a3.gg.trans a4.gg).trans lc.gg).trans a5.gg, _, _, rfl, ?_⟩
      · rw [List.length_map]
        refine Nat.lt_of_le_of_lt (List.Sublist.length_le (dedupe_sub _ _)) ?_
        rw [List.length_map, List.length_take]
        exact Nat.lt_of_le_of_lt (Nat.min_le_right _ _) (by decide +kernel)
      · rw [hnext, dedupe_snoc, if_pos ((hlk _).mp hmem), List.append_nil]
        exact ln5
      · rw [hnext, dedupe_snoc, if_neg (fun z => hmem ((hlk _).mpr z)), List.map_append]
        exact ln5
  · subst hσ
    have hall : sgs.take lineT.cps.size = sgs := List.take_of_length_le (by decide +kernel)
    rw [hall] at ln2
    refine ⟨.ref p, rfl, _, p, G2, _, rfl, n2.gh, ln2.val, fun q hq => k _ _ _ (n2.trans (Nv.lay n2.gh hq)) ?_⟩
    refine Dp.lst (SqL.of upd_same) ?_
    unfold nkv reps
    rw [List.map_map, List.map_map, List.map_map]
    exact da_map _ _ _ fun x _ => Dp.str _
end QP

/-! A state behind a sign. -/
namespace QP
open PySem PySem.Spec PyProof.Rows L2 Evl QV QU QX QB QT QD
variable {P : Program} {w : World} {K : PySem.W.Frag} {mg : Str → Option Value} {base : Heap}
abbrev CKey := List Bool × Nat
/-- a cache holds what it should -/
structure COk (K : PySem.W.Frag) (G : Hp) (q : Pat × (Nat → Nat)) (l : List (CKey × V)) : Prop where
  nod : (l.map (·.1)).Nodup
  dom : ∀ k ∈ l.map (·.1), k.1.length = q.1.length + 1 ∧ Sgn k.2
  val : ∀ k v, (k, v) ∈ l → Dp K G v (boolsD (adv q.1 k.1 (q.2 k.2)))
theorem COk.mono {G G2 : Hp} {q : Pat × (Nat → Nat)} {l : List (CKey × V)} (h : COk K G q l) (e : Ex G G2) : COk K G2 q l := ⟨h.nod, h.dom, fun k v hm => QN.dp_mono e _ _ (h.val k v hm)⟩
theorem COk.len {G : Hp} {q : Pat × (Nat → Nat)} {l : List (CKey × V)} (h : COk K G q l) (hq : q.1.length ≤ 3) : l.length ≤ 1600 := by
  have h1 : l.length = (l.map (·.1)).length := (List.length_map _).symm
  rw [h1]
  have h2 : (l.map (·.1)).length ≤ ((QB.allB (q.1.length + 1)).flatMap fun r => sgs.map fun c => ((r, c) : CKey)).length := nodup_len _ _ h.nod fun k hk => by
    obtain ⟨a, b⟩ := h.dom k hk
    refine List.mem_flatMap.mpr ⟨k.1, ?_, List.mem_map.mpr ⟨k.2, mem_sgs.mpr b, rfl⟩⟩
    rw [← a]
    exact mem_allB _
  have h3 : ∀ L : List (List Bool), (L.flatMap fun r => sgs.map fun c => ((r, c) : CKey)).length = L.length * 94 := fun L => by
    induction L with
    | nil => rfl
    | cons a L ih =>
      rw [List.flatMap_cons, List.length_append, List.length_map, ih, List.length_cons]
      have : sgs.length = 94 := by decide +kernel
      omega
  rw [h3, len_allB] at h2
  have h4 : 2 ^ (q.1.length + 1) ≤ 2 ^ 4 := Nat.pow_le_pow_right (by decide) (by omega)
  omega
theorem COk.put {G : Hp} {q : Pat × (Nat → Nat)} {l : List (CKey × V)} (h : COk K G q l) {k : CKey} {v : V} (hk : k ∉ l.map (·.1)) (hd : k.1.length = q.1.length + 1 ∧ Sgn k.2) (hv : Dp K G v (boolsD (adv q.1 k.1 (q.2 k.2)))) : COk K G q (l ++ [(k, v)]) where
  nod := by
    rw [List.map_append, List.nodup_append]
    refine ⟨h.nod, by simp, fun a ha b hb e => ?_⟩
    have : b = k := by simpa using hb
    exact hk (this ▸ e ▸ ha)
  dom := fun x hx => by
    rw [List.map_append] at hx
    rcases List.mem_append.mp hx with z | z
    · exact h.dom x z
    · have : x = k := by simpa using z
      rw [this]
      exact hd
  val := fun x y hx => by
    rcases List.mem_append.mp hx with z | z
    · exact h.val x y z
    · have : (x, y) = (k, v) := by simpa using z
      obtain ⟨rfl, rfl⟩ := Prod.mk.inj this
      exact hv
/-- the caches at ds, one a test -/
def cch (P : Program) (w : World) (K : PySem.W.Frag) (ds : List Addr) (T : Tests) : Hf := fun G H => ∀ (j : Nat) d q, ds[j]? = some d → T[j]? = some q → ∃ l, QN.Nd (keyR ckD) P w K G H d (nkv ckD l) ∧ COk K G q l
theorem cch_stb {ds : List Addr} {T : Tests} : Stb ds (cch P w K ds T) := fun {G H G2 H2} e hm h j d q hd hq => by
  obtain ⟨l, h1, h2⟩ := h j d q hd hq
  exact ⟨l, h1.mono e fun o ho => by rw [hm d (List.mem_of_getElem? hd)]; exact ho, h2.mono e⟩
/-- a state of the tests -/
def StOk (T : Tests) (s : List (List Bool) × Bool) : Prop := s.1.length = T.length ∧ ∀ (i : Nat) q r, T[i]? = some q → s.1[i]? = some r → r.length = q.1.length + 1
def sp_after_sign (P : Program) (w : World) (K : PySem.W.Frag) : Sp := spM fun vs M G S S' C => ∃ T m s c ds v st mk ca, vs = [v, st, .str (chr c), mk, ca] ∧ M = ds ∧ ds.Nodup ∧ ds.length = T.length ∧ (testsP K T).p G v ∧ TOk T ∧ Dp K G st (stD s) ∧ StOk T s ∧ Sgn c ∧ (dK (mrkK m)).p G mk ∧
  (lstP K (is (ds.map V.ref))).p G ca ∧ S = cch P w K ds T ∧ S' = cch P w K ds T ∧ C = dat K (stD (step1 T m s c))
theorem At.one' {G H : Hp} {p : Addr} (e : Ex G H) (h1 : G p = none) (h2 : H p ≠ none) : At [p] G H := ⟨e, fun x hx => by
  have : x = p := by simpa using hx
  subst this
  exact ⟨h1, h2⟩⟩
theorem g_enum2 {G H : Hp} {σ : L2.St} {i j l n : Nat} {A B : Pd V} {x : V} {Q : L2.St → Hp → Prop} (h : (pairP K n (tupP K (consP A (consP B (is []))))).p G x) (e : Ex G H) (k : ∀ a b, A.p G a → B.p G b → Q (((σ.set i (some (.int (n : Nat)))).set j (some a)).set l (some b)) H) :
    gTup K 2 (gCons (gName i) (gCons (gTup K 2 (gCons (gName j) (gCons (gName l) gNil))) gNil)) x σ H Q := by
  obtain ⟨p, xs, rfl, h1, a, ys, rfl, ha, b, zs, rfl, hb, hz⟩ := h
  have hz : zs = [] := hz
  have ha : a = .int (n : Nat) := ha
  subst hz ha
  exact ⟨p, _, rfl, ex_t e h1, rfl, _, _, rfl, b, _, rfl, g_two hb e fun a b ha hb => ⟨rfl, k a b ha hb⟩⟩
theorem p_after_sign (B : Bi K mg) {f : Addr} {fd : FuncData} (F : Fun K "after_sign" "after_sign" s_after_sign f fd) (c_advanced : Callee P w K mg base 2 "advanced" P_advanced (sp_advanced K)) : FnOk P w K mg base CX0 3 f fd P_after_sign (sp_after_sign P w K) := by
  refine F.ok sc_after_sign (fun vs H Q E ⟨M, G, S, S', C, _, _, ⟨T, m, s, c, ds, v, st, mk, ca, e, _⟩, _⟩ => by rw [e]; rfl) fun cdv A outer s H vs Q E hr h => ?_
  have nd := sc_after_sign.nd
  have hu := hu_of hr
  have hu6 := hr.units
  refine ⟨_, (pss_cons (ps_set (i := 5) nd rfl (.inl rfl) (pe_lst pa_nil))
      (pss_cons (ps_for PassesOwn.never rfl (QU.piE (K := K) rfl (by rfl) B.enumerate_ (pa_cons (pv 0) pa_nil)) (QU.pgT (K := K) (n := 2) rfl rfl (pgs_cons (pg_name (i := 6) nd rfl (.inl rfl)) (pgs_cons (QU.pgT (K := K) (n := 2) rfl rfl (pgs_cons (pg_name (i := 7) nd rfl (.inl rfl)) (pgs_cons (pg_name (i := 8) nd rfl (.inl rfl)) pgs_nil))) pgs_nil))) (pss_cons (ps_set (i := 9) nd rfl (.inl rfl) (pe_tup (pa_cons (pe_ix (QU.ixT (K := K) rfl) (pe_ix (QU.ixT (K := K) rfl) (pv 1) pe_int (fun _ _ => rfl)) (pv 6) (fun _ _ => rfl)) (pa_cons (pv 2) pa_nil))))
      (pss_cons (ps_if (pt_cmpR (QN.op_nnotin hu6) (pv 9) (pe_ix (QU.ixL (K := K) rfl) (pv 4) (pv 6) (fun _ _ => rfl)) (by rfl)) (pss_one (ps_asg (pe_call c_advanced.ok (hr.mono (by decide)) (by rfl) c_advanced.m c_advanced.kp c_advanced.b .nil pass0 (pa_cons (pv 7) (pa_cons (pe_ix (QU.ixT (K := K) rfl) (pv 9) pe_int (fun _ _ => rfl)) (pa_cons (pe_dget hu (pv 8) (pv 2) (fun _ _ => rfl)) pa_nil)))) (pg_sub (pe_ix (QU.ixL (K := K) rfl) (pv 4) (pv 6) (fun _ _ => rfl)) (pv 9) (QN.set_nd hu6)))) pss_nil)
      (pss_one (ps_expr (pe_bm PySem.F.plainAttrs_list PySem.F.slot_list_append PySem.F.type_list_append mt_append (pv 5) (pa_cons (QN.pe_nget hu6 (pe_ix (QU.ixL (K := K) rfl) (pv 4) (pv 6) (fun _ _ => rfl)) (pv 9) (fun _ _ => rfl)) pa_nil)))))))
      (pss_one (ps_ret (pe_tup (pa_cons (pe_callTy (QU.tupOf (K := K) rfl) (by rfl) B.tuple_ (by decide +kernel) (pa_cons (pv 5) pa_nil)) (pa_cons (pe_or (pe_ix (QU.ixT (K := K) rfl) (pv 1) pe_int (fun _ _ => rfl)) (pe_one (pe_cmp (pc_din hu (pv 2) (pv 3)) (by rfl)))) pa_nil))))))), ?_⟩
  obtain ⟨M, G, S, S', C, aM, hS, ⟨T, m, s, c, ds, v, st, mk, ca, rfl, rfl, hnd, hdl, hv, hok, hst, hso, hc, hmk, hca, rfl, rfl, rfl⟩, k⟩ := h
  have n0 : Nv M G H G H := Nv.refl aM.ex
  have hTl : T.length ≤ 100 := hok.1
  refine q_asgL (B := is []) (l_lst z_nil stb_tr fun G' xs b => by rw [show xs = _ from b]; decide) n0 fun sl ys G1 H1 a1 n1 hl1 lc b => ?_
  rw [show ys = _ from b] at lc
  have hv1 := Pd.mono (testsP K T) n1.gg hv
  refine q_forP (wk_enum (z_var rfl hv1)) n1 (fun i σ G2 H2 => ∃ ys y6 y7 y8 y9, σ = [some v, some st, some (.str (chr c)), some mk, some ca, some (.ref sl), y6, y7, y8, y9] ∧ Lc H G2 H2 sl ys ∧ DpAll K G2 ys (((T.zip s.1).take i).map fun x => boolsD (adv x.1.1 x.2 (x.1.2 c))) ∧ At M G2 H2 ∧ cch P w K M T G2 H2)
    (fun G2 H2 a2 n2 => ⟨[], none, none, none, none, rfl, lc.nv a2, DpAll.nil, aM.nv n2, Stb.nv cch_stb aM (a1.trans a2) hS⟩) (fun i σ G2 H2 x G3 H3 hi n2 e2 ⟨ys, y6, y7, y8, y9, hσ, lc2, hys, aM2, hS2⟩ a3 n3 hx => ?_) fun σ G2 H2 n2 e2 ⟨ys, y6, y7, y8, y9, hσ, lc2, hys, aM2, hS2⟩ => ?_
  · subst hσ
    have lc3 := lc2.nv a3
    have hys3 := QN.dp_monos a3.gg _ _ hys
    have aM3 := aM2.nv (a3.mono (M' := M) fun _ z => nomatch z)
    have hS3 := Stb.nv cch_stb aM2 a3 hS2
    obtain ⟨q, hq, hx⟩ := pair_it hx
    have hqok := hok.2 q (List.mem_of_getElem? hq)
    have hiT : i < T.length := hi
    obtain ⟨r, hr'⟩ : ∃ r, s.1[i]? = some r := ⟨s.1[i]'(by rw [hso.1]; exact hiT), List.getElem?_eq_getElem _⟩
    obtain ⟨d, hd⟩ : ∃ d, M[i]? = some d := ⟨M[i]'(by rw [hdl]; exact hiT), List.getElem?_eq_getElem _⟩
    have hrl := hso.2 i q r hq hr'
    have hdM : d ∈ M := List.mem_of_getElem? hd
    have hds : d ≠ sl := fun z => (aM.mm d hdM).2 (z ▸ lc.new)
    refine g_enum2 hx n3.gh fun pa ta hpa hta => ?_
    show tSeq _ _ _ [some v, some st, some (.str (chr c)), some mk, some ca, some (.ref sl), some (.int (i : Nat)), some pa, some ta, y9] H3
    refine q_asg (C := dat K (ckD (r, c))) (z_tupD (ds := [boolsD r, .str (chr c)]) (z_consD (z_ixDT (z_ixDT (i := 0) (z_var rfl (QN.dp_mono n3.gg _ _ hst)) (z_c rfl) rfl) (z_var rfl rfl) (by rw [List.getElem?_map, hr']; rfl)) (z_consD (dat_str (z_var rfl rfl)) z_nilD)) stb_tr (by show 2 ≤ 1000; decide)) n3 fun ky G4 H4 a4 n4 hky => ?_
    have aM4 := aM3.nv (a4.mono (M' := M) fun _ z => nomatch z)
    have hS4 := Stb.nv cch_stb aM3 a4 hS3
    have lc4 := lc3.nv a4
    obtain ⟨l, hl1, hl2⟩ := hS4 i d q hd hq
    have hl4 : l.length ≤ 1600 := hl2.len hqok.2.1
    have hoth : ∀ j d', j ≠ i → M[j]? = some d' → d' ≠ d := fun j d' hj hd' z => by
      subst z
      exact hj ((List.getElem?_inj (List.getElem?_eq_some_iff.mp hd').1 hnd).mp (hd'.trans hd.symm))
    have hrest : ∀ j d' q', j ≠ i → M[j]? = some d' → T[j]? = some q' → ∃ l, QN.Nd (keyR ckD) P w K G4 H4 d' (nkv ckD l) ∧ COk K G4 q' l := fun j d' q' _ h1 h2 => hS4 j d' q' h1 h2
    have keep : ∀ (G5 H5 G6 H6 : Hp) (L : List Addr), (∀ x ∈ L, x = d ∨ x = sl) → Nv L G5 H5 G6 H6 → (∀ j d' q', j ≠ i → M[j]? = some d' → T[j]? = some q' → ∃ l, QN.Nd (keyR ckD) P w K G5 H5 d' (nkv ckD l) ∧ COk K G5 q' l) →
        ∀ j d' q', j ≠ i → M[j]? = some d' → T[j]? = some q' → ∃ l, QN.Nd (keyR ckD) P w K G6 H6 d' (nkv ckD l) ∧ COk K G6 q' l := fun G5 H5 G6 H6 L hL nn h j d' q' hj h1 h2 => by
      obtain ⟨l', e1, e2⟩ := h j d' q' hj h1 h2
      have hd'M : d' ∈ M := List.mem_of_getElem? h1
      refine ⟨l', e1.mono nn.gg fun o ho => nn.hh d' o (fun z => ?_) ho, e2.mono nn.gg⟩
      rcases hL d' z with z | z
      · exact hoth j d' hj h1 z
      · exact (aM.mm d' hd'M).2 (z ▸ lc.new)
    have hdsub : Sub [d] M H := fun x hx => .inl (by
      have : x = d := by simpa using hx
      exact this ▸ hdM)
    have hdat4 : At [d] G4 H4 := At.one' n4.gh (aM4.mm d hdM).1 (aM4.mm d hdM).2
    have hcix : atI (M.map V.ref) ((i : Nat) : Int) = some (.ref d) := atI_nat (by rw [List.getElem?_map, hd]; rfl)
    refine q_ifSM (M := [d]) (S := fun G H => QN.Nd (keyR ckD) P w K G H d (nkv ckD l)) (S1 := fun G H => QN.Nd (keyR ckD) P w K G H d (nkv ckD l)) (b := !(decide ((r, c) ∈ l.map (·.1))))
      (fun G' H' => Nv M G H G' H' ∧ Ex G4 G' ∧ Lc H G' H' sl ys ∧ (∃ l', Nl P w K ckD M H G' H' d l' ∧ COk K G' q l' ∧ (r, c) ∈ l'.map (·.1)) ∧ ∀ j d' q', j ≠ i → M[j]? = some d' → T[j]? = some q' → ∃ l, QN.Nd (keyR ckD) P w K G' H' d' (nkv ckD l) ∧ COk K G' q' l)
      (zt_test (z_nnotin (k := ((r, c) : CKey)) kyC (z_var rfl hky) (z_ixLs (z_var rfl (Pd.mono _ n4.gg hca)) (z_var rfl rfl) hcix) (fun _ _ _ h => h) (by simp))) n4 hdsub hdat4 hl1
      (fun hb G5 H5 a5 n5 at5 s5 next => ?_) (fun hb G5 H5 a5 n5 at5 s5 => ⟨n5, a5.gg, lc4.nv a5 (by simpa using Ne.symm hds), ⟨l, ⟨.inl hdM, (at5.mm d (by simp)).1, s5⟩, hl2.mono a5.gg, by simpa using hb⟩, keep _ _ _ _ _ (fun x hx => .inl (by simpa using hx)) a5 hrest⟩) fun G5 H5 ⟨n5, e45, lc5, ⟨l', ln5, ck5, hm5⟩, rest5⟩ => ?_
    · have hnk : (r, c) ∉ l.map (·.1) := by simpa using hb
      have lc5 := lc4.nv a5 (by simpa using Ne.symm hds)
      have hck5 := hl2.mono a5.gg
      refine e_nset kyC (k := ((r, c) : CKey)) (p := d) (l := l) (M := []) (S := Tr) (S1 := Tr) (R := dat K (boolsD (adv q.1 r (q.2 c)))) (z_call3 (A := dat K (patD q.1)) (z_var rfl (Pd.mono _ (a4.gg.trans a5.gg) hpa)) (z_ixDT (i := 0) (d := boolsD r) (z_var rfl (QN.dp_mono a5.gg _ _ hky)) (z_c rfl) rfl) (z_dget (z_var rfl (Pd.mono _ (a4.gg.trans a5.gg) hta)) (z_var rfl rfl) rfl (tab_get hc)) stb_tr fun x y z G' _ hx hy hz => ⟨q.1, r, q.2 c, x, y, by rw [show z = _ from hz], hx, hy, hqok.1, Nat.le_trans hqok.2.1 (by decide), hrl, rfl⟩)
        (fun u G6 e6 _ => z_ixLs (z_var rfl (Pd.mono _ (n5.gg.trans e6) hca)) (z_var rfl rfl) hcix) (fun u G6 e6 _ => z_var rfl (QN.dp_mono (a5.gg.trans e6) _ _ hky)) (fun u G6 H6 hu6 _ n6 => ⟨Nl.nv ⟨.inl hdM, (at5.mm d (by simp)).1, s5⟩ n6, hnk⟩) (Nat.lt_of_le_of_lt hl4 (by decide)) n5 sub0 (At.pure n5.gh) True.intro fun u G6 H6 a6 n6 hu6 ln6 => next G6 H6 ⟨n6, a5.gg.trans a6.gg, lc5.nv a6 (by simpa using Ne.symm hds), ⟨l ++ [((r, c), u)], ln6, ?_, by simp⟩, ?_⟩
      · exact (hck5.mono a6.gg).put hnk ⟨hrl, hc⟩ hu6
      · exact keep _ _ _ _ _ (fun x hx => .inl (by simpa using hx)) (a5.trans a6) hrest
    · have hys5 := QN.dp_monos (a4.gg.trans e45) _ _ hys3
      have hyl : ys.length ≤ 100 := by
        rw [da_len hys, List.length_map, List.length_take]
        exact Nat.le_trans (Nat.min_le_left _ _) (by omega)
      have hz1 : (T.zip s.1).take (i + 1) = (T.zip s.1).take i ++ [(q, r)] := by
        have : (T.zip s.1)[i]? = some (q, r) := by
          rw [List.getElem?_zip_eq_some]
          exact ⟨hq, hr'⟩
        rw [List.take_succ, this]
        rfl
      refine s_app (M := [d]) (S := fun G H => QN.Nd (keyR ckD) P w K G H d (nkv ckD l')) (S1 := fun G H => QN.Nd (keyR ckD) P w K G H d (nkv ckD l')) (C := dat K (boolsD (adv q.1 r (q.2 c)))) rfl lc5 (Nat.lt_of_le_of_lt hyl (by decide)) (z_nget kyC (k := ((r, c) : CKey)) (z_ixLs (z_var rfl (Pd.mono _ n5.gg hca)) (z_var rfl rfl) hcix) (z_var rfl (QN.dp_mono e45 _ _ hky)) fun G1 H1 e1 s1 => ⟨s1, hm5, fun v hv => (ck5.mono e1).val _ _ hv⟩) n5 hdsub (At.one' n5.gh ln5.out ln5.there) ln5.val (by simpa using Ne.symm hds) fun u G6 H6 a6 n6 at6 ⟨H7, s7, at7, hm7⟩ lc6 hu6 => ?_
      have keep6 := keep _ _ _ _ _ (fun x hx => by
        rcases List.mem_cons.mp hx with rfl | hx
        · exact .inr rfl
        · exact .inl (by simpa using hx)) a6 rest5
      refine ⟨G6, n6, ((a3.gg.trans a4.gg).trans e45).trans a6.gg, ys ++ [u], _, _, _, _, rfl, lc6, ?_, ⟨n6.gh, fun x hx => ?_⟩, fun j d' q' hd' hq' => ?_⟩
      · rw [hz1, List.map_append]
        exact da_snoc (QN.dp_monos a6.gg _ _ hys5) hu6
      · by_cases hxd : x = d
        · subst hxd
          exact at6.mm x (by simp)
        · have hx4 := aM4.mm x hx
          have h5 : G5 x = none ∧ H5 x ≠ none := ⟨n5.av x (aM.mm x hx).1 (aM.mm x hx).2, n5.th x (aM.mm x hx).2⟩
          exact ⟨n6.av x (aM.mm x hx).1 (aM.mm x hx).2, n6.th x (aM.mm x hx).2⟩
      · by_cases hj : j = i
        · subst hj
          rw [hd] at hd'
          rw [hq] at hq'
          cases hd'
          cases hq'
          refine ⟨l', QN.Nd.mono s7 (Ex.refl _) fun o ho => ?_, ck5.mono a6.gg⟩
          rw [hm7 d (by simp)]
          exact ho
        · exact keep6 j d' q' hj hd' hq'
  · subst hσ
    rw [List.take_of_length_le (by rw [List.length_zip, hso.1, Nat.min_self]; exact Nat.le_refl _)] at hys
    have lcx := lc2.close n2
    have hstx := QN.dp_mono (n2.gg.trans lc2.gg) _ _ hst
    refine s_retM (M := M) (S := cch P w K M T) (S1 := cch P w K M T) (C := dat K (stD (step1 T m s c))) (Ez.lift (z_tupD (ds := [.tuple (((T.zip s.1).map fun x => adv x.1.1 x.2 (x.1.2 c)).map boolsD), .bool (s.2 || m c)]) (z_consD (z_tupOf (z_var rfl (lc2.dat (by rw [List.map_map]; exact hys))) stb_tr) (z_consD (dat_bool (z_orV (z_bool (z_ixDT (i := 1) (z_var rfl hstx) (z_c rfl) rfl)) fun _ => z_din (k := .inr (chr c)) (z_var rfl rfl) (z_var rfl (Pd.mono _ (n2.gg.trans lc2.gg) hmk)) rfl (mrk_get hc))) z_nilD)) stb_tr (by show 2 ≤ 1000; decide)) cch_stb) lcx subM ⟨lcx.gh, fun x hx => ⟨lcx.av x (aM.mm x hx).1 (aM.mm x hx).2, lcx.th x (aM.mm x hx).2⟩⟩ (cch_stb lc2.gg (fun _ _ => rfl) hS2) k
end QP

/-! The classes of lines. -/
namespace QP
open PySem PySem.Spec PyProof.Rows L2 Evl QV QU QX QB QT QD
variable {P : Program} {w : World} {K : PySem.W.Frag} {mg : Str → Option Value} {base : Heap}
abbrev S1t := List (List Bool) × Bool
abbrev bf (T : Tests) (m : Nat → Bool) (n : Nat) := bfs (step1 T m) (reps T m) (start1 T) n
abbrev vz (T : Tests) (m : Nat → Bool) (n : Nat) := visits (step1 T m) (reps T m) (start1 T) n
def fk (L : List (S1t × QB.Ln)) : List (List Bool × V) := (dedupe [] (L.map fun x => (key1 x.1, x.2))).map fun x => (x.1, V.str (lnS x.2))
def sk {κ : Type} (L : List κ) : List (κ × V) := L.map fun s => (s, V.bl true)
def slD (x : S1t × QB.Ln) : PyData := .tuple [stD x.1, lineD x.2]
theorem fk_keys (L : List (S1t × QB.Ln)) (k : List Bool) : k ∈ (fk L).map (·.1) ↔ k ∈ [] ++ (dedupe [] (L.map fun x => (key1 x.1, x.2))).map (·.1) := by
  unfold fk
  rw [List.nil_append, List.map_map]
  rfl
theorem fk_in {L : List (S1t × QB.Ln)} {x : S1t × QB.Ln} (h : key1 x.1 ∈ (fk L).map (·.1)) : fk (L ++ [x]) = fk L := by
  have h' := (fk_keys L _).mp h
  unfold fk
  rw [List.map_append, List.map_singleton, dedupe_snoc, if_pos h', List.append_nil]
theorem fk_new {L : List (S1t × QB.Ln)} {x : S1t × QB.Ln} (h : key1 x.1 ∉ (fk L).map (·.1)) : fk (L ++ [x]) = fk L ++ [(key1 x.1, .str (lnS x.2))] := by
  have h' := fun z => h ((fk_keys L _).mpr z)
  unfold fk
  rw [List.map_append, List.map_singleton, dedupe_snoc, if_neg h', List.map_append]
  rfl
theorem fk_len (L : List (S1t × QB.Ln)) : (fk L).length ≤ L.length := by
  unfold fk
  rw [List.length_map]
  exact Nat.le_trans (List.Sublist.length_le (dedupe_sub _ _)) (by rw [List.length_map]; exact Nat.le_refl _)
theorem sk_keys {κ : Type} (L : List κ) : (sk L).map (·.1) = L := by
  unfold sk
  rw [List.map_map]
  exact List.map_id _
theorem sk_len {κ : Type} (L : List κ) : (sk L).length = L.length := List.length_map _
theorem sk_app {κ : Type} (L : List κ) (a : κ) : sk (L ++ [a]) = sk L ++ [(a, .bl true)] := by
  unfold sk
  rw [List.map_append]
  rfl
theorem stok_start (T : Tests) : StOk T (start1 T) := by
  refine ⟨List.length_map _, fun i q r hq hr => ?_⟩
  have : (start1 T).1[i]? = some (sr q.1) := by
    show (T.map fun q => sr q.1)[i]? = _
    rw [List.getElem?_map, hq]
    rfl
  rw [this] at hr
  cases hr
  exact vec_len _ _
theorem stok_step {T : Tests} {m : Nat → Bool} {s : S1t} {c : Nat} (h : StOk T s) : StOk T (step1 T m s c) := by
  refine ⟨?_, fun i q r hq hr => ?_⟩
  · show ((T.zip s.1).map _).length = _
    rw [List.length_map, List.length_zip, h.1, Nat.min_self]
  · have hr : ((T.zip s.1).map fun x => adv x.1.1 x.2 (x.1.2 c))[i]? = some r := hr
    rw [List.getElem?_map] at hr
    obtain ⟨x, hx, rfl⟩ := Option.map_eq_some_iff.mp hr
    rw [List.getElem?_zip_eq_some] at hx
    rw [hq] at hx
    have : q = x.1 := Option.some.inj hx.1
    rw [← this]
    exact vec_len _ _
theorem stok_run {T : Tests} {m : Nat → Bool} (u : List Nat) : StOk T (run (step1 T m) (start1 T) u) := by
  have : ∀ (u : List Nat) (s : S1t), StOk T s → StOk T (u.foldl (step1 T m) s) := fun u => by
    induction u with
    | nil => exact fun s h => h
    | cons a u ih => exact fun s h => ih _ (stok_step h)
  exact this u _ (stok_start T)
theorem bf_nil {T : Tests} {m : Nat → Bool} {n : Nat} (h : bnd1 T ≤ n) : (bf T m n).2 = [] := by
  obtain ⟨k, rfl⟩ : ∃ k, n = bnd1 T + k := ⟨n - bnd1 T, by omega⟩
  exact layer_stays (end1 T m) k
theorem vz_end {T : Tests} {m : Nat → Bool} {n : Nat} (h : (bf T m n).2 = []) : vz T m n = vis1 T m := by
  unfold vis1
  rcases Nat.le_total n (bnd1 T) with hl | hl
  · obtain ⟨k, hk⟩ : ∃ k, bnd1 T = n + k := ⟨bnd1 T - n, by omega⟩
    rw [hk]
    exact (visits_end h k).symm
  · obtain ⟨k, hk⟩ : ∃ k, n = bnd1 T + k := ⟨n - bnd1 T, by omega⟩
    rw [hk]
    exact visits_end (end1 T m) k
theorem lnS_app (a : QB.Ln) (c : Nat) : lnS a ++ chr c = lnS (a ++ [c]) := by
  show (⟨a.toArray ++ #[c]⟩ : Str) = ⟨(a ++ [c]).toArray⟩
  simp
theorem lnS_len (a : QB.Ln) : (lnS a).length = a.length := by
  show a.toArray.size = a.length
  simp
theorem last_split {r : List Bool} (h : r ≠ []) : r = r.dropLast ++ [r.getLastD false] := by
  rw [List.getLastD_eq_getLast?, List.getLast?_eq_some_getLast h]
  exact (List.dropLast_concat_getLast h).symm
theorem vz_succ (T : Tests) (m : Nat → Bool) (n : Nat) : vz T m (n + 1) = vz T m n ++ (bf T m n).2 := visits_succ _ _ _ n
theorem vz_len (T : Tests) (m : Nat → Bool) (n i : Nat) : (vz T m n ++ (bf T m n).2.take i).length ≤ bnd1 T := by
  have h1 := bound1 T m n
  have h2 : (vz T m (n + 1)).length = (bf T m n).1.length := by
    show _ = (bfs (step1 T m) (reps T m) (start1 T) n).1.length
    rw [seen_visits, List.length_map]
  have h3 := vz_succ T m n
  rw [h3, List.length_append] at h2
  rw [List.length_append, List.length_take]
  have := Nat.min_le_right i (bf T m n).2.length
  have h4 : (bfs (step1 T m) (reps T m) (start1 T) n).1.length = (bf T m n).1.length := rfl
  omega
theorem dedupe_pre {κ β : Type} [DecidableEq κ] (s : List κ) (ps qs : List (κ × β)) : (dedupe s ps).length ≤ (dedupe s (ps ++ qs)).length := by
  rw [dedupe_app, List.length_append]
  exact Nat.le_add_right _ _
def sp_line_classes (P : Program) (w : World) (K : PySem.W.Frag) : Sp := spP fun vs G C => ∃ T m v u, vs = [v, u] ∧ (testsP K T).p G v ∧ TOk T ∧ bnd1 T ≤ 1000000 ∧ (dK (mrkK m)).p G u ∧ C = ndP (keyR boolsD) P w K (nkv boolsD ((classes T m).map fun a => (a.1, V.str (lnS a.2))))
theorem p_line_classes (B : Bi K mg) {f : Addr} {fd : FuncData} (F : Fun K "line_classes" "line_classes" s_line_classes f fd) (c_after_sign : Callee P w K mg base 3 "after_sign" P_after_sign (sp_after_sign P w K)) (c_start_state : Callee P w K mg base 2 "start_state" P_start_state (sp_start_state K)) (c_sign_classes : Callee P w K mg base 2 "sign_classes" P_sign_classes (sp_sign_classes K)) : FnOk P w K mg base CX0 4 f fd P_line_classes (sp_line_classes P w K) := by
  refine F.ok sc_line_classes (fun vs H Q E ⟨G, C, _, ⟨T, m, v, u, e, _⟩, _⟩ => by rw [e]; rfl) fun cdv A outer s H vs Q E hr h => ?_
  have nd := sc_line_classes.nd
  have hu := hu_of hr
  have hu6 := hr.units
  refine ⟨_, (pss_cons (ps_set (i := 2) nd rfl (.inl rfl) (pe_call c_sign_classes.ok (hr.mono (by decide)) (by rfl) c_sign_classes.m c_sign_classes.kp c_sign_classes.b .nil pass0 (pa_cons (pv 0) (pa_cons (pv 1) pa_nil))))
      (pss_cons (ps_setLc (i := 3) (own := [("test", 13)]) rfl nd rfl rfl (sw_true rfl rfl rfl (by decide +kernel)) (QU.piL (K := K) rfl (pv 0)) (blkOk_by (own := [("test", 13)]) (N := N_line_classes) (sc := defScope s_line_classes) (by decide +kernel)) (fun _ _ _ _ _ => (pg_name (i := 13) nd rfl (.inl rfl))) (fun _ _ _ _ _ => pts_nil) (fun _ _ _ _ _ => (QU.nnew (P := P) (w := w) rfl rfl)))
      (pss_cons (ps_set (i := 4) nd rfl (.inl rfl) (pe_call c_start_state.ok (hr.mono (by decide)) (by rfl) c_start_state.m c_start_state.kp c_start_state.b .nil pass0 (pa_cons (pv 0) pa_nil)))
      (pss_cons (ps_set (i := 5) nd rfl (.inl rfl) (QN.pe_ndisp1 hu6 (pv 4) pe_bl))
      (pss_cons (ps_set (i := 6) nd rfl (.inl rfl) (QU.nnew (P := P) (w := w) rfl rfl))
      (pss_cons (ps_set (i := 7) nd rfl (.inl rfl) (pe_lst (pa_cons (pe_tup (pa_cons (pv 4) (pa_cons pe_str pa_nil))) pa_nil)))
      (pss_cons (ps_while PassesOwn.never (pt_truth (pv 7) (by intro _; rfl)) (pss_cons (ps_set (i := 8) nd rfl (.inl rfl) (pe_lst pa_nil))
      (pss_cons (ps_for PassesOwn.never rfl (QU.piL (K := K) rfl (pv 7)) (QU.pgT (K := K) (n := 2) rfl rfl (pgs_cons (pg_name (i := 9) nd rfl (.inl rfl)) (pgs_cons (pg_name (i := 10) nd rfl (.inl rfl)) pgs_nil))) (pss_cons (ps_expr (QN.pe_nsetd hu6 (pv 6) (pe_callTy (QU.tupOf (K := K) rfl) (by rfl) B.tuple_ (by decide +kernel) (pa_cons (pe_op op_cat (pe_lc (own := [("reach", 14)]) rfl nd (QU.piT (K := K) rfl (pe_ix (QU.ixT (K := K) rfl) (pv 9) pe_int (fun _ _ => rfl))) (blkOk_by (own := [("reach", 14)]) (N := N_line_classes) (sc := defScope s_line_classes) (by decide +kernel)) (fun _ _ _ _ _ => (pg_name (i := 14) nd rfl (.inl rfl))) (fun _ _ _ _ _ => pts_nil) (fun _ _ _ _ _ => (pe_ix (QU.ixT (K := K) rfl) (pv 14) (pe_un un_neg pe_int) (fun _ _ => rfl)))) (pe_lst (pa_cons (pe_ix (QU.ixT (K := K) rfl) (pv 9) pe_int (fun _ _ => rfl)) pa_nil))) pa_nil)) (pv 10) ⟨by rfl, by rfl, by rfl, by rfl⟩))
      (pss_one (ps_for PassesOwn.never rfl (QU.piL (K := K) rfl (pv 2)) (pg_name (i := 11) nd rfl (.inl rfl)) (pss_cons (ps_set (i := 12) nd rfl (.inl rfl) (pe_call c_after_sign.ok (hr.mono (by decide)) (by rfl) c_after_sign.m c_after_sign.kp c_after_sign.b .nil pass0 (pa_cons (pv 0) (pa_cons (pv 9) (pa_cons (pv 11) (pa_cons (pv 1) (pa_cons (pv 3) pa_nil)))))))
      (pss_one (ps_if (pt_cmpR (QN.op_nnotin hu6) (pv 12) (pv 5) (by rfl)) (pss_cons (ps_asg pe_bl (pg_sub (pv 5) (pv 12) (QN.set_nd hu6)))
      (pss_one (ps_expr (pe_bm PySem.F.plainAttrs_list PySem.F.slot_list_append PySem.F.type_list_append mt_append (pv 8) (pa_cons (pe_tup (pa_cons (pv 12) (pa_cons (pe_op op_add_str (pv 10) (pv 11)) pa_nil))) pa_nil))))) pss_nil)))))))
      (pss_one (ps_set (i := 7) nd rfl (.inl rfl) (pv 8))))))
      (pss_one (ps_ret (pv 6)))))))))), ?_⟩
  obtain ⟨G, C, e, ⟨T, m, v, u, rfl, hv, hok, hb, hm, rfl⟩, k⟩ := h
  have n0 : Nv [] G H G H := Nv.refl e
  have hTl : T.length ≤ 100 := hok.1
  refine q_asg (C := dat K (.list ((reps T m).map fun c => .str (chr c)))) (z_call2 (A := testsP K T) (B := dK (mrkK m)) (z_var rfl hv) (z_var rfl hm) stb_tr fun x y G' _ hx hy => ⟨T, m, x, y, rfl, hx, hok, hy, rfl⟩) n0 fun sg G1 H1 a1 n1 hsg => ?_
  refine q_newdicts (R := keyR ckD) (K := K) (wk_list (z_var rfl (Pd.mono (testsP K T) n1.gg hv))) (Nat.le_trans hTl (by decide)) (fun _ => rfl) n1 fun ca ds G2 H2 a2 n2 hdl hdn hds hca => ?_
  refine q_asg (C := dat K (stD (start1 T))) (z_call1 (A := testsP K T) (z_var rfl (Pd.mono _ n2.gg hv)) stb_tr fun x G' _ hx => ⟨T, x, rfl, hx, hok, rfl⟩) n2 fun st G3 H3 a3 n3 hst => ?_
  refine q_ndisp (kd := stD) (k := start1 T) (v := .bl true) kyS (z_var rfl hst) (z_c rfl) n3 fun ps G4 H4 a4 n4 hps lps => ?_
  refine q_nnew (K := K) (kd := boolsD) (κ := List Bool) n4 fun pf H5 a5 n5 hpf lpf => ?_
  refine q_asg (C := dat K (.list ((bf T m 0).2.map slD))) (Lz.dat (l_lstD (z_consD (z_tupD (ds := [stD (start1 T), lineD []]) (z_consD (z_var rfl (QN.dp_mono (a4.gg.trans a5.gg) _ _ hst)) (z_consD (dat_str (z_c rfl)) z_nilD)) stb_tr (by show 2 ≤ 1000; decide)) z_nilD) stb_tr (by show 1 ≤ 1000; decide)) stb_tr) n5 fun ly G6 H6 a6 n6 hly => ?_
  have hd6 : ∀ d ∈ ds, H d = none ∧ G6 d = none ∧ QN.Nd (keyR ckD) P w K G6 H6 d [] := fun d hd => by
    obtain ⟨e1, e2, e3⟩ := hds d hd
    obtain ⟨xs, f1, f2⟩ := e3
    obtain ⟨g1, g2⟩ := (((a3.trans a4).trans a5).trans a6).loc (by simp) e2 f1
    exact ⟨n1.new e1, g1, xs, g2, f2.mono (((a3.gg.trans a4.gg).trans a5.gg).trans a6.gg)⟩
  have hpsd : ps ∉ ds := fun z => by
    obtain ⟨xs, f1, f2⟩ := (hds ps z).2.2
    exact a3.th ps (by rw [f1]; simp) hps
  have hpfd : pf ∉ ds := fun z => by
    obtain ⟨xs, f1, f2⟩ := (hds pf z).2.2
    exact (a3.trans a4).th pf (by rw [f1]; simp) hpf
  have hpsf : ps ≠ pf := fun z => lps.there (z ▸ hpf)
  have hps0 : H ps = none := n3.new hps
  have hpf0 : H pf = none := n4.new hpf
  have hsubps : Sub [ps] [] H := fun x hx => .inr (by
    have : x = ps := by simpa using hx
    exact this ▸ hps0)
  have hsub : Sub ds [] H := fun x hx => .inr (hd6 x hx).1
  refine QD.q_while (fun n σ G7 H7 => ∃ ly y8 y9 y10 y11 y12, σ = [some v, some u, some sg, some (.ref ca), some st, some (.ref ps), some (.ref pf), some ly, y8, y9, y10, y11, y12, none, none] ∧ Ex G6 G7 ∧ Dp K G7 ly (.list ((bf T m n).2.map slD)) ∧
      Nl P w K stD [] H G7 H7 ps (sk (bf T m n).1) ∧ Nl P w K boolsD [] H G7 H7 pf (fk (vz T m n)) ∧ cch P w K ds T G7 H7 ∧ At ds G7 H7) (bnd1 T) 0 ⟨ly, none, none, none, none, none, rfl, Ex.refl _, hly, (lps.nv a5).nv a6, lpf.nv a6, fun j d q hd hq => ⟨[], (hd6 d (List.mem_of_getElem? hd)).2.2, ⟨List.nodup_nil, (fun _ z => nomatch z), fun _ _ z => nomatch z⟩⟩, ⟨n6.gh, fun x hx => ⟨(hd6 x hx).2.1, by
        obtain ⟨xs, f1, _⟩ := (hd6 x hx).2.2
        rw [f1]
        simp⟩⟩⟩ n6 fun n σ G7 H7 n7 ⟨ly, y8, y9, y10, y11, y12, hσ, e67, hly, lps, lpf, hcc, hat⟩ => ⟨!decide ((bf T m n).2 = []), ?_, fun hbt => ⟨?_, fun G8 H8 a8 n8 => ?_⟩, fun hbf G8 H8 a8 n8 => ?_⟩
  · subst hσ
    refine zt_truE (z_truL (z_var rfl hly)) ?_
    rw [List.length_map]
    cases (bf T m n).2 <;> rfl
  · refine Nat.lt_of_not_le fun h => ?_
    rw [bf_nil h] at hbt
    revert hbt
    decide
  · subst hσ
    refine q_asgL (B := is []) (l_lst z_nil stb_tr fun G' xs b => by rw [show xs = _ from b]; decide) n8 fun fl xs G9 H9 a9 n9 hfl lc b => ?_
    rw [show xs = _ from b] at lc
    have a79 := a8.trans a9
    have hflp : fl ≠ ps := fun z => (lps.nv a8).there (z ▸ hfl)
    have hflf : fl ≠ pf := fun z => (lpf.nv a8).there (z ▸ hfl)
    have hfld : fl ∉ ds := fun z => ((hat.nv (a8.mono (M' := ds) fun _ z => nomatch z)).mm fl z).2 hfl
    have hly9 := QN.dp_mono a79.gg _ _ hly
    have hlen1 : ∀ qs : List (S1t × QB.Ln), (dedupe (bf T m n).1 qs).length ≤ bnd1 T ∨ True := fun _ => .inr trivial
    have hseen : ∀ ps' qs, cand (step1 T m) (reps T m) (bf T m n).2 = ps' ++ qs → ((bf T m n).1 ++ (dedupe (bf T m n).1 ps').map (·.1)).length ≤ bnd1 T := fun ps' qs hpq => by
      have h1 := bound1 T m (n + 1)
      have h2 : (bfs (step1 T m) (reps T m) (start1 T) (n + 1)).1 = (bf T m n).1 ++ (dedupe (bf T m n).1 (cand (step1 T m) (reps T m) (bf T m n).2)).map (·.1) := rfl
      rw [h2, hpq, List.length_append, List.length_map] at h1
      rw [List.length_append, List.length_map]
      have := dedupe_pre (bf T m n).1 ps' qs
      omega
    refine q_forP (n := (bf T m n).2.length) (wk_list (z_lst (z_var rfl hly9)) |> fun h => by rw [List.length_map] at h; exact h) n9 (fun i σ G10 H10 => ∃ y9 y10 y11 y12 ys, σ = [some v, some u, some sg, some (.ref ca), some st, some (.ref ps), some (.ref pf), some ly, some (.ref fl), y9, y10, y11, y12, none, none] ∧ Ex G9 G10 ∧
        Lc H G10 H10 fl ys ∧ DpAll K G10 ys ((dedupe (bf T m n).1 (cand (step1 T m) (reps T m) ((bf T m n).2.take i))).map slD) ∧ Nl P w K stD [] H G10 H10 ps (sk ((bf T m n).1 ++ (dedupe (bf T m n).1 (cand (step1 T m) (reps T m) ((bf T m n).2.take i))).map (·.1))) ∧
        Nl P w K boolsD [] H G10 H10 pf (fk (vz T m n ++ (bf T m n).2.take i)) ∧ cch P w K ds T G10 H10 ∧ At ds G10 H10)
      (fun G10 H10 a10 n10 => ⟨_, _, _, _, [], rfl, a10.gg, lc.nv a10, DpAll.nil, by
        show Nl P w K stD [] H G10 H10 ps (sk ((bf T m n).1 ++ []))
        rw [List.append_nil]
        exact (lps.nv a79).nv a10, by
        rw [List.take_zero, List.append_nil]
        exact (lpf.nv a79).nv a10, Stb.nv cch_stb hat (a79.trans a10) hcc, hat.nv ((a79.trans a10).mono fun _ z => nomatch z)⟩) (fun i σ G10 H10 x G11 H11 hi n10 e10 ⟨y9, y10, y11, y12, ys, hσ, e910, lc, hys, lps, lpf, hcc, hat⟩ a11 n11 hx => ?_) fun σ G10 H10 n10 e10 ⟨y9, y10, y11, y12, ys, hσ, e910, lc, hys, lps, lpf, hcc, hat⟩ => ?_
    · subst hσ
      obtain ⟨d, hd, hx⟩ := hx
      rw [List.getElem?_map] at hd
      obtain ⟨xx, hxx, rfl⟩ := Option.map_eq_some_iff.mp hd
      have hmem := List.mem_of_getElem? hxx
      obtain ⟨hw1, hw2, hw3⟩ := layer_word n xx hmem
      have hso : StOk T xx.1 := hw2 ▸ stok_run xx.2
      have hnb : n < bnd1 T := Nat.lt_of_not_le fun h => by rw [bf_nil h] at hmem; cases hmem
      refine g_two (tup2_of hx) n11.gh fun k1 k2 hk1 hk2 => ?_
      have hk2 : k2 = .str (lnS xx.2) := dp_str hk2
      subst hk2
      show tSeq _ _ _ [some v, some u, some sg, some (.ref ca), some st, some (.ref ps), some (.ref pf), some ly, some (.ref fl), some k1, some (.str (lnS xx.2)), y11, y12, none, none] H11
      have hkey : boolsD (key1 xx.1) = .tuple ((xx.1.1.map fun r => PyData.bool (r.getLastD false)) ++ [.bool xx.1.2]) := by
        unfold boolsD key1
        rw [List.map_append, List.map_map]
        rfl
      have hs1l : xx.1.1.length ≤ 100 := by rw [hso.1]; exact hTl
      have htake : (bf T m n).2.take (i + 1) = (bf T m n).2.take i ++ [xx] := by
        rw [List.take_succ, hxx]
        rfl
      refine e_nsetd1 (l2 := fk (vz T m n ++ (bf T m n).2.take i ++ [xx])) kyB (k := key1 xx.1) (v := .str (lnS xx.2)) rfl (lpf.nv a11) (hkey ▸ z_tupOf (Lz.dat (l_catD (Lz.exact (Lz.to (l_fmT xx.1.1 boolsD (fun r => some (.bool (r.getLastD false))) (z_ixDT (i := 0) (z_var rfl hk1) (z_c rfl) rfl) (Nat.le_trans hs1l (by decide)) fun r x G14 hr e14 hx14 => turn_all rfl (z_lastT (ds := r.dropLast.map PyData.bool) (z_var rfl ?_) (z_neg (z_c rfl) rfl))) fun G' xs _ c => by
        rw [fm_some'] at c
        exact c) stb_tr) (Lz.exact (l_lstD (z_consD (z_ixDT (i := 1) (z_var rfl hk1) (z_c rfl) rfl) z_nilD) stb_tr (by show 1 ≤ 1000; decide)) stb_tr) stb_tr (by rw [List.length_map]; show _ + 1 ≤ _; exact Nat.le_trans (Nat.add_le_add_right hs1l 1) (by decide))) stb_tr) stb_tr) (z_var rfl rfl) (Nat.lt_of_le_of_lt (Nat.le_trans (fk_len _) (Nat.le_trans (vz_len T m n i) hb)) (by decide)) n11 (fun hm => fk_in hm) (fun hm => fk_new hm) fun G12 H12 a12 n12 lpf12 => ?_
      · have hrl : r ≠ [] := fun z => by
          obtain ⟨j, hj, hj2⟩ := List.getElem_of_mem hr
          obtain ⟨q, hq⟩ : ∃ q, T[j]? = some q := ⟨T[j]'(by rw [← hso.1]; exact hj), List.getElem?_eq_getElem _⟩
          have := hso.2 j q r hq (by rw [List.getElem?_eq_getElem hj, hj2])
          rw [z] at this
          cases this
        have h14 : Dp K G14 x (boolsD r) := hx14
        unfold boolsD at h14
        have e15 : r.map PyData.bool = r.dropLast.map PyData.bool ++ [.bool (r.getLastD false)] := by
          conv => lhs; rw [last_split hrl]
          rw [List.map_append]
          rfl
        rw [e15] at h14
        exact h14
      have at11 := hat.nv (a11.mono (M' := ds) fun _ z => nomatch z)
      have cc11 := Stb.nv cch_stb hat a11 hcc
      have hnpf : ∀ x ∈ ds, x ∉ [pf] := fun x hx z => hpfd ((by simpa using z : x = pf) ▸ hx)
      have lps12 := (lps.nv a11).nv a12 (by simpa using hpsf)
      have lc12 := (lc.nv a11).nv a12 (by simpa using hflf)
      have at12 : At ds G12 H12 := ⟨n12.gh, fun x hx => by
        have h1 := at11.mm x hx
        exact ⟨a12.av x h1.1 h1.2, a12.th x h1.2⟩⟩
      have cc12 : cch P w K ds T G12 H12 := cch_stb a12.gg (at11.eq a12 hnpf) cc11
      have hys12 := QN.dp_monos (a11.gg.trans a12.gg) _ _ hys
      have hk12 := QN.dp_mono a12.gg _ _ hk1
      have hsg12 := QN.dp_mono ((((((a2.gg.trans a3.gg).trans a4.gg).trans a5.gg).trans a6.gg).trans e67).trans (((a79.gg.trans e910).trans a11.gg).trans a12.gg)) _ _ hsg
      refine s_forP (n := (reps T m).length) (wk_list (z_lst (z_var rfl hsg12)) |> fun h => by rw [List.length_map] at h; exact h) n12 (fun j σ G13 H13 => ∃ y11 y12 ys, σ = [some v, some u, some sg, some (.ref ca), some st, some (.ref ps), some (.ref pf), some ly, some (.ref fl), some k1, some (.str (lnS xx.2)), y11, y12, none, none] ∧ Ex G12 G13 ∧
          Lc H G13 H13 fl ys ∧ DpAll K G13 ys ((dedupe (bf T m n).1 (cand (step1 T m) (reps T m) ((bf T m n).2.take i) ++ ((reps T m).take j).map fun a => (step1 T m xx.1 a, xx.2 ++ [a]))).map slD) ∧
          Nl P w K stD [] H G13 H13 ps (sk ((bf T m n).1 ++ (dedupe (bf T m n).1 (cand (step1 T m) (reps T m) ((bf T m n).2.take i) ++ ((reps T m).take j).map fun a => (step1 T m xx.1 a, xx.2 ++ [a]))).map (·.1))) ∧
          Nl P w K boolsD [] H G13 H13 pf (fk (vz T m n ++ (bf T m n).2.take i ++ [xx])) ∧ cch P w K ds T G13 H13 ∧ At ds G13 H13)
        (fun G13 H13 a13 n13 => ⟨_, _, ys, rfl, a13.gg, lc12.nv a13, by
          rw [List.take_zero, List.map_nil, List.append_nil]
          exact QN.dp_monos a13.gg _ _ hys12, by
          rw [List.take_zero, List.map_nil, List.append_nil]
          exact lps12.nv a13, lpf12.nv a13, Stb.nv cch_stb at12 a13 cc12, at12.nv (a13.mono fun _ z => nomatch z)⟩) (fun j σ G13 H13 x G14 H14 hj n13 e13 ⟨y11, y12, ys, hσ, e1213, lc, hys, lps, lpf, hcc, hat⟩ a14 n14 hx => ?_) fun σ G13 H13 n13 e13 ⟨y11, y12, ys, hσ, e1213, lc, hys, lps, lpf, hcc, hat⟩ => ?_
      · subst hσ
        obtain ⟨d, hd, hx⟩ := hx
        rw [List.getElem?_map] at hd
        obtain ⟨c, hc, rfl⟩ := Option.map_eq_some_iff.mp hd
        have hcs : Sgn c := reps_sgn (List.mem_of_getElem? hc)
        have hxc : x = .str (chr c) := dp_str hx
        subst hxc
        have at14 := hat.nv (a14.mono (M' := ds) fun _ z => nomatch z)
        have cc14 := Stb.nv cch_stb hat a14 hcc
        have e214 := ((((((((a3.gg.trans a4.gg).trans a5.gg).trans a6.gg).trans e67).trans ((a79.gg.trans e910).trans a11.gg)).trans a12.gg).trans e1213).trans a14.gg)
        show tSeq _ _ _ [some v, some u, some sg, some (.ref ca), some st, some (.ref ps), some (.ref pf), some ly, some (.ref fl), some k1, some (.str (lnS xx.2)), some (.str (chr c)), y12, none, none] H14
        refine q_asgM (M := ds) (S := cch P w K ds T) (S1 := cch P w K ds T) (C := dat K (stD (step1 T m xx.1 c))) (z_callM (L := ds) (B := consP (testsP K T) (consP (dat K (stD xx.1)) (consP (is (.str (chr c))) (consP (dK (mrkK m)) (consP (lstP K (is (ds.map V.ref))) (is [])))))) (Ez.lift (z_cons (z_var rfl (Pd.mono (testsP K T) n14.gg hv)) (z_cons (z_var rfl (QN.dp_mono (e1213.trans a14.gg) _ _ hk12)) (z_cons (z_var rfl rfl) (z_cons (z_var rfl (Pd.mono (dK (mrkK m)) n14.gg hm)) (z_cons (z_var rfl (Pd.mono (lstP K (is (ds.map V.ref))) e214 hca)) z_nil))))) cch_stb) (fun _ h => h) fun vs G' e' hvs => ?_) n14 hsub at14 cc14 fun af G15 H15 a15 n15 at15 cc15 haf => ?_
        · obtain ⟨x1, xs1, rfl, h1, x2, xs2, rfl, h2, x3, xs3, rfl, h3, x4, xs4, rfl, h4, x5, xs5, rfl, h5, h6⟩ := hvs
          have h3 : x3 = _ := h3
          have h6 : xs5 = [] := h6
          subst h3 h6
          exact ⟨cch P w K ds T, cch P w K ds T, fun _ _ _ h => h, fun G'' e'' => ⟨T, m, xx.1, c, ds, x1, x2, x4, x5, rfl, rfl, hdn, hdl, Pd.mono (testsP K T) e'' h1, hok, QN.dp_mono e'' _ _ h2, hso, hcs, Pd.mono (dK (mrkK m)) e'' h4, Pd.mono (lstP K (is (ds.map V.ref))) e'' h5, rfl, rfl, rfl⟩, fun _ _ _ _ _ _ h => h⟩
        · have lps15 := (lps.nv a14).nv a15 hpsd
          have lpf15 := (lpf.nv a14).nv a15 hpfd
          have lc15 := (lc.nv a14).nv a15 hfld
          have hys15 := QN.dp_monos (a14.gg.trans a15.gg) _ _ hys
          have hnext : ((reps T m).take (j + 1)).map (fun a => (step1 T m xx.1 a, xx.2 ++ [a])) = ((reps T m).take j).map (fun a => (step1 T m xx.1 a, xx.2 ++ [a])) ++ [(step1 T m xx.1 c, xx.2 ++ [c])] := by
            rw [List.take_succ, hc, List.map_append]
            rfl
          have hpre : ∃ qs, cand (step1 T m) (reps T m) (bf T m n).2 = (cand (step1 T m) (reps T m) ((bf T m n).2.take i) ++ ((reps T m).take j).map fun a => (step1 T m xx.1 a, xx.2 ++ [a])) ++ qs := by
            have h1 : (bf T m n).2 = (bf T m n).2.take i ++ xx :: (bf T m n).2.drop (i + 1) := by
              have hi' := (List.getElem?_eq_some_iff.mp hxx).1
              have h2 : (bf T m n).2[i] = xx := (List.getElem?_eq_some_iff.mp hxx).2
              rw [← h2, List.getElem_cons_drop hi', List.take_append_drop]
            refine ⟨((reps T m).drop j).map (fun a => (step1 T m xx.1 a, xx.2 ++ [a])) ++ cand (step1 T m) (reps T m) ((bf T m n).2.drop (i + 1)), ?_⟩
            conv => lhs; rw [h1]
            unfold cand
            rw [List.flatMap_append, List.flatMap_cons, List.append_assoc, ← List.append_assoc (((reps T m).take j).map _), ← List.map_append, List.take_append_drop]
          obtain ⟨qs, hqs⟩ := hpre
          have hslen := hseen _ _ hqs
          have hat15 : At [ps] G15 H15 := At.one' n15.gh lps15.out lps15.there
          refine s_ifM (M := [ps]) (S := fun G H => QN.Nd (keyR stD) P w K G H ps (nkv stD (sk ((bf T m n).1 ++ (dedupe (bf T m n).1 (cand (step1 T m) (reps T m) ((bf T m n).2.take i) ++ ((reps T m).take j).map fun a => (step1 T m xx.1 a, xx.2 ++ [a]))).map (·.1))))) (S1 := fun G H => QN.Nd (keyR stD) P w K G H ps (nkv stD (sk ((bf T m n).1 ++ (dedupe (bf T m n).1 (cand (step1 T m) (reps T m) ((bf T m n).2.take i) ++ ((reps T m).take j).map fun a => (step1 T m xx.1 a, xx.2 ++ [a]))).map (·.1))))) (B := is (!decide (step1 T m xx.1 c ∈ (bf T m n).1 ++ (dedupe (bf T m n).1 (cand (step1 T m) (reps T m) ((bf T m n).2.take i) ++ ((reps T m).take j).map fun a => (step1 T m xx.1 a, xx.2 ++ [a]))).map (·.1))))
            (zt_test (z_nnotin (k := step1 T m xx.1 c) kyS (z_var rfl haf) (z_var rfl rfl) (fun _ _ _ h => h) (by rw [sk_keys]; simp))) n15 hsubps hat15 lps15.val fun bb G16 H16 a16 n16 at16 s16 hbb => ⟨fun hbt => ?_, fun hbf => ?_⟩
          · have hbb : bb = _ := hbb
            have hnm : step1 T m xx.1 c ∉ (bf T m n).1 ++ (dedupe (bf T m n).1 (cand (step1 T m) (reps T m) ((bf T m n).2.take i) ++ ((reps T m).take j).map fun a => (step1 T m xx.1 a, xx.2 ++ [a]))).map (·.1) := by
              rw [hbt] at hbb
              simpa using hbb.symm
            have lps16 : Nl P w K stD [] H G16 H16 ps _ := ⟨lps15.own, (at16.mm ps (by simp)).1, s16⟩
            have haf16 := QN.dp_mono a16.gg _ _ haf
            have hps1 : ∀ x ∈ ds, x ∉ [ps] := fun x hx z => hpsd ((by simpa using z : x = ps) ▸ hx)
            refine q_nset kyS (k := step1 T m xx.1 c) (v := .bl true) (z_c rfl) (z_var rfl rfl) (z_var rfl haf16) lps16 (by rw [sk_keys]; exact hnm) (by rw [sk_len]; exact Nat.lt_of_le_of_lt (Nat.le_trans hslen hb) (by decide)) n16 fun G17 H17 a17 n17 lps17 => ?_
            have a157 := a16.trans a17
            have lc17 := lc15.nv a157 (by simpa using hflp)
            refine e_app rfl lc17 (by
              rw [da_len hys15, List.length_map]
              have h1 := hslen
              rw [List.length_append, List.length_map] at h1
              exact Nat.lt_of_le_of_lt (by omega : _ ≤ 1000000) (by decide)) (z_tupD (ds := [stD (step1 T m xx.1 c), lineD (xx.2 ++ [c])]) (z_consD (z_var rfl (QN.dp_mono a17.gg _ _ haf16)) (z_consD (dat_str (z_addS (z_var rfl rfl) (z_var rfl rfl) (by
                rw [lnS_len, hw1]
                show n + 1 ≤ _
                exact Nat.le_trans (by omega : n + 1 ≤ 1000001) (by decide)) (lnS_app _ _))) z_nilD)) stb_tr (by show 2 ≤ 1000; decide)) n17 fun u2 G18 H18 a18 n18 lc18 hu18 => ⟨G18, n18, ((a14.gg.trans a15.gg).trans a157.gg).trans a18.gg, _, _, _, rfl, (((e1213.trans a14.gg).trans a15.gg).trans a157.gg).trans a18.gg, lc18, ?_, ?_, (lpf15.nv a157 (by simpa using Ne.symm hpsf)).nv a18 (by simpa using Ne.symm hflf), ?_, ?_⟩
            · rw [hnext, ← List.append_assoc, dedupe_snoc, if_neg hnm, List.map_append]
              exact da_snoc (QN.dp_monos (a157.gg.trans a18.gg) _ _ hys15) hu18
            · rw [hnext, ← List.append_assoc, dedupe_snoc, if_neg hnm, List.map_append, ← List.append_assoc, List.map_singleton, sk_app]
              exact lps17.nv a18 (by simpa using Ne.symm hflp)
            · refine cch_stb a18.gg ?_ (cch_stb a157.gg (at15.eq a157 hps1) cc15)
              intro x hx
              have h1 := at15.mm x hx
              have h2 := a157.th x h1.2
              cases hxo : H17 x with
              | none => exact absurd hxo h2
              | some o => exact a18.hh x o (by simpa using fun z : x = fl => hfld (z ▸ hx)) hxo
            · exact ⟨n18.gh, fun x hx => ⟨(a18.av x (a157.av x (at15.mm x hx).1 (at15.mm x hx).2) (a157.th x (at15.mm x hx).2)), a18.th x (a157.th x (at15.mm x hx).2)⟩⟩
          · have hbb : bb = _ := hbb
            have hmm : step1 T m xx.1 c ∈ (bf T m n).1 ++ (dedupe (bf T m n).1 (cand (step1 T m) (reps T m) ((bf T m n).2.take i) ++ ((reps T m).take j).map fun a => (step1 T m xx.1 a, xx.2 ++ [a]))).map (·.1) := by
              rw [hbf] at hbb
              simpa using hbb.symm
            have hps1 : ∀ x ∈ ds, x ∉ [ps] := fun x hx z => hpsd ((by simpa using z : x = ps) ▸ hx)
            refine s_next ⟨G16, n16, (a14.gg.trans a15.gg).trans a16.gg, _, _, _, rfl, ((e1213.trans a14.gg).trans a15.gg).trans a16.gg, lc15.nv a16 (by simpa using hflp), ?_, ?_, lpf15.nv a16 (by simpa using Ne.symm hpsf), cch_stb a16.gg (at15.eq a16 hps1) cc15, ⟨n16.gh, fun x hx => ⟨a16.av x (at15.mm x hx).1 (at15.mm x hx).2, a16.th x (at15.mm x hx).2⟩⟩⟩
            · rw [hnext, ← List.append_assoc, dedupe_snoc, if_pos hmm, List.append_nil]
              exact QN.dp_monos a16.gg _ _ hys15
            · rw [hnext, ← List.append_assoc, dedupe_snoc, if_pos hmm, List.append_nil]
              exact ⟨lps15.own, (at16.mm ps (by simp)).1, s16⟩
      · subst hσ
        have hcand : cand (step1 T m) (reps T m) ((bf T m n).2.take (i + 1)) = cand (step1 T m) (reps T m) ((bf T m n).2.take i) ++ (reps T m).map fun a => (step1 T m xx.1 a, xx.2 ++ [a]) := by
          rw [htake]
          unfold cand
          rw [List.flatMap_append]
          simp
        rw [List.take_length, ← hcand] at hys lps
        refine ⟨G13, n13, (a11.gg.trans a12.gg).trans e1213, _, _, _, _, ys, rfl, (((e910.trans a11.gg).trans a12.gg).trans e1213), lc, hys, lps, ?_, hcc, hat⟩
        rw [htake, ← List.append_assoc]
        exact lpf
    · subst hσ
      rw [List.take_length] at hys lps lpf
      refine s_asg (C := dat K (.list ((bf T m (n + 1)).2.map slD))) (z_var rfl (lc.dat hys)) (lc.close n10) fun ly' G11 H11 a11 n11 hly' => ⟨G11, n11, ly', _, _, _, _, _, rfl, ?_⟩
      have lpsc : Nl P w K stD [] H (upd G10 fl (.lst ys)) H10 ps _ := ⟨lps.own, by rw [upd_ne (Ne.symm hflp)]; exact lps.out, lps.val.mono lc.gg fun _ h => h⟩
      have lpfc : Nl P w K boolsD [] H (upd G10 fl (.lst ys)) H10 pf _ := ⟨lpf.own, by rw [upd_ne (Ne.symm hflf)]; exact lpf.out, lpf.val.mono lc.gg fun _ h => h⟩
      have hatc : At ds (upd G10 fl (.lst ys)) H10 := ⟨lc.ex n10.gh, fun x hx => ⟨by rw [upd_ne (fun z : x = fl => hfld (z ▸ hx))]; exact (hat.mm x hx).1, (hat.mm x hx).2⟩⟩
      refine ⟨(((e67.trans a79.gg).trans e910).trans lc.gg).trans a11.gg, hly', lpsc.nv a11, ?_, Stb.nv cch_stb hatc a11 (cch_stb lc.gg (fun _ _ => rfl) hcc), hatc.nv (a11.mono fun _ z => nomatch z)⟩
      rw [vz_succ]
      exact lpfc.nv a11
  · subst hσ
    have hnil : (bf T m n).2 = [] := by simpa using hbf
    rw [vz_end hnil] at lpf
    obtain ⟨o, m1, m2⟩ := (lpf.nv a8).close hpf0 n8
    exact s_ret (z_var rfl m2) m1 k
end QP

/-! More of the mathematics: steps, fits, what is found first. -/
namespace QP
open QB QD
theorem stR_len : ∀ (r : QB.Row) (n : Nat) (t : Nat → Nat), (stR r n t).1.length ≤ r.length ∧ (stR r n t).2.1.length ≤ r.length
  | [], _, _ => ⟨Nat.le_refl _, Nat.le_refl _⟩
  | .keep p :: r, n, t => by
    have := stR_len r (n + 1) t
    exact ⟨Nat.succ_le_succ this.1, Nat.succ_le_succ this.2⟩
  | .drop p :: r, n, t => by
    have := stR_len r (n + 1) t
    exact ⟨Nat.succ_le_succ this.1, Nat.succ_le_succ this.2⟩
  | .swap ps :: r, n, t => by
    have := stR_len r n fun c => swapF ps (t c)
    exact ⟨Nat.le_succ_of_le this.1, Nat.le_succ_of_le this.2⟩
  | .first k :: r, n, t => by
    have := stR_len r n t
    exact ⟨Nat.succ_le_succ this.1, Nat.le_succ_of_le this.2⟩
theorem swapF_sgn' {ps : List (Nat × Nat)} {c : Nat} (h : ∀ r ∈ ps, Sgn r.1 ∧ Sgn r.2) (hc : Sgn c) : Sgn (swapF ps c) := by
  unfold swapF
  cases e : ps.find? (fun q => decide (q.1 = c)) with
  | none => exact hc
  | some q => exact (h q (List.mem_of_find?_eq_some e)).2
theorem stR_ok : ∀ (r : QB.Row) (n : Nat) (t : Nat → Nat), RowOk r → (∀ c, Sgn c → Sgn (t c)) → (∀ q ∈ (stR r n t).2.1, PatOk q.1 ∧ q.1.length ≤ 3 ∧ ∀ c, Sgn c → Sgn (q.2 c)) ∧ ∀ c, Sgn c → Sgn ((stR r n t).2.2 c)
  | [], _, _, _, ht => ⟨(fun _ z => nomatch z), ht⟩
  | .keep p :: r, n, t, h, ht => by
    have h1 := h (.keep p) List.mem_cons_self
    have ih := stR_ok r (n + 1) t (fun f hf => h f (List.mem_cons_of_mem _ hf)) ht
    refine ⟨fun q hq => ?_, ih.2⟩
    rcases List.mem_cons.mp hq with z | z
    · rw [z]
      exact ⟨h1.1, h1.2, ht⟩
    · exact ih.1 q z
  | .drop p :: r, n, t, h, ht => by
    have h1 := h (.drop p) List.mem_cons_self
    have ih := stR_ok r (n + 1) t (fun f hf => h f (List.mem_cons_of_mem _ hf)) ht
    refine ⟨fun q hq => ?_, ih.2⟩
    rcases List.mem_cons.mp hq with z | z
    · rw [z]
      exact ⟨h1.1, h1.2, ht⟩
    · exact ih.1 q z
  | .swap ps :: r, n, t, h, ht => stR_ok r n (fun c => swapF ps (t c)) (fun f hf => h f (List.mem_cons_of_mem _ hf)) fun c hc => swapF_sgn' (h (.swap ps) List.mem_cons_self).2.2.2 (ht c hc)
  | .first k :: r, n, t, h, ht => stR_ok r n t (fun f hf => h f (List.mem_cons_of_mem _ hf)) ht
theorem stR_firsts : ∀ (r : QB.Row) (n : Nat) (t : Nat → Nat), (stR r n t).1.filterMap firstN = firsts r
  | [], _, _ => rfl
  | .keep p :: r, n, t => stR_firsts r (n + 1) t
  | .drop p :: r, n, t => stR_firsts r (n + 1) t
  | .swap ps :: r, n, t => stR_firsts r n _
  | .first k :: r, n, t => congrArg (k :: ·) (stR_firsts r n t)
theorem stR_fits : ∀ (r : QB.Row) (n : Nat) (t : Nat → Nat) (N : Nat) (l : List Nat), n + (stR r n t).2.1.length ≤ N → l.length = (firsts r).length → Fits N (stR r n t).1 l
  | [], _, _, _, [], _, _ => True.intro
  | [], _, _, _, _ :: _, _, h => by cases h
  | .keep p :: r, n, t, N, l, h, hl => by
    have h : n + ((stR r (n + 1) t).2.1.length + 1) ≤ N := h
    exact ⟨by omega, stR_fits r (n + 1) t N l (by omega) hl⟩
  | .drop p :: r, n, t, N, l, h, hl => by
    have h : n + ((stR r (n + 1) t).2.1.length + 1) ≤ N := h
    exact ⟨by omega, stR_fits r (n + 1) t N l (by omega) hl⟩
  | .swap ps :: r, n, t, N, l, h, hl => stR_fits r n _ N l h hl
  | .first k :: r, n, t, N, [], h, hl => by cases hl
  | .first k :: r, n, t, N, a :: l, h, hl => stR_fits r n t N l h (by simpa [firsts] using hl)
theorem put_len : ∀ (s : List Stp) (tr : List Bool) (l : List Nat), (put s tr l).2.length = l.length
  | [], _, l => rfl
  | .test i t :: s, tr, l => by
    unfold put
    split
    · exact put_len s tr l
    · rfl
  | .first _ :: _, _, [] => rfl
  | .first _ :: _, _, 0 :: l => rfl
  | .first _ :: s, tr, (k + 1) :: l => by
    have := put_len s tr l
    show (put s tr l).2.length + 1 = l.length + 1
    rw [this]
theorem tok_both {one other : QB.Row} (h1 : RowOk one) (h2 : RowOk other) (l1 : one.length ≤ 50) (l2 : other.length ≤ 50) : TOk (both one other).T := by
  have a1 := stR_ok one 0 id h1 (fun _ h => h)
  have a2 := stR_ok other (stR one 0 id).2.1.length id h2 (fun _ h => h)
  have b1 := (stR_len one 0 id).2
  have b2 := (stR_len other (stR one 0 id).2.1.length id).2
  refine ⟨?_, fun q hq => ?_⟩
  · show ((stR one 0 id).2.1 ++ (stR other (stR one 0 id).2.1.length id).2.1).length ≤ 100
    rw [List.length_append]
    omega
  · rcases List.mem_append.mp (show q ∈ (stR one 0 id).2.1 ++ (stR other (stR one 0 id).2.1.length id).2.1 from hq) with z | z
    · exact a1.1 q z
    · exact a2.1 q z
/-- the second search -/
abbrev bg (one other : QB.Row) (n : Nat) := bfs (step2 (both one other).s1 (both one other).s2) (both one other).A (firsts one, firsts other) n
abbrev vw (one other : QB.Row) (n : Nat) := visits (step2 (both one other).s1 (both one other).s2) (both one other).A (firsts one, firsts other) n
abbrev fg (one other : QB.Row) (x : (List Nat × List Nat) × List Cl) (a : Cl) : Bool := flag (both one other).s1 (both one other).s2 x.1 a
theorem bg_nil {one other : QB.Row} {n : Nat} (h : bnd2 (firsts one) (firsts other) ≤ n) : (bg one other n).2 = [] := by
  obtain ⟨k, rfl⟩ : ∃ k, n = bnd2 (firsts one) (firsts other) + k := ⟨n - bnd2 (firsts one) (firsts other), by omega⟩
  exact layer_stays (end2 _ _ _ _ _) k
theorem vw_succ (one other : QB.Row) (n : Nat) : vw one other (n + 1) = vw one other n ++ (bg one other n).2 := visits_succ _ _ _ n
theorem vw_end {one other : QB.Row} {n : Nat} (h : (bg one other n).2 = []) : vw one other n = vis2 one other := by
  unfold vis2
  rcases Nat.le_total n (bnd2 (firsts one) (firsts other)) with hl | hl
  · obtain ⟨k, hk⟩ : ∃ k, bnd2 (firsts one) (firsts other) = n + k := ⟨bnd2 (firsts one) (firsts other) - n, by omega⟩
    rw [hk]
    exact (visits_end h k).symm
  · obtain ⟨k, hk⟩ : ∃ k, n = bnd2 (firsts one) (firsts other) + k := ⟨n - bnd2 (firsts one) (firsts other), by omega⟩
    rw [hk]
    exact visits_end (end2 _ _ _ _ _) k
theorem vw_pre (one other : QB.Row) (n : Nat) : ∀ k, ∃ rest, vw one other (n + k) = vw one other n ++ rest
  | 0 => ⟨[], (List.append_nil _).symm⟩
  | k + 1 => by
    obtain ⟨rest, h⟩ := vw_pre one other n k
    exact ⟨rest ++ (bg one other (n + k)).2, by rw [← Nat.add_assoc, vw_succ, h, List.append_assoc]⟩
theorem looks_app (A : List Cl) (x y : List ((List Nat × List Nat) × List Cl)) : looks A (x ++ y) = looks A x ++ looks A y := List.flatMap_append
theorem part_none {one other : QB.Row} {n : Nat} (h : (bg one other n).2 = []) (hf : ∀ z ∈ looks (both one other).A (vw one other n), fg one other z.1 z.2 = false) : parting one other = none := by
  unfold parting partingOf
  rw [← vw_end h, Option.map_eq_none_iff, List.find?_eq_none]
  intro z hz
  have := hf z hz
  rw [show flag (both one other).s1 (both one other).s2 z.1.1 z.2 = false from this]
  simp
theorem part_some {one other : QB.Row} {n i j : Nat} {x : (List Nat × List Nat) × List Cl} {a : Cl} (hx : (bg one other n).2[i]? = some x) (ha : (both one other).A[j]? = some a) (hf : ∀ z ∈ looks (both one other).A (vw one other n ++ (bg one other n).2.take i), fg one other z.1 z.2 = false)
    (hf2 : ∀ b ∈ (both one other).A.take j, fg one other x b = false) (ht : fg one other x a = true) : parting one other = some (x.2.map (·.2) ++ [a.2]) := by
  have hn : n < bnd2 (firsts one) (firsts other) := Nat.lt_of_not_le fun h => by
    rw [bg_nil h] at hx
    simp at hx
  obtain ⟨rest, hr⟩ := vw_pre one other (n + 1) (bnd2 (firsts one) (firsts other) - (n + 1))
  have hN : n + 1 + (bnd2 (firsts one) (firsts other) - (n + 1)) = bnd2 (firsts one) (firsts other) := by omega
  rw [hN, vw_succ] at hr
  have h1 : (bg one other n).2 = (bg one other n).2.take i ++ x :: (bg one other n).2.drop (i + 1) := by
    have hi' := (List.getElem?_eq_some_iff.mp hx).1
    have h2 : (bg one other n).2[i] = x := (List.getElem?_eq_some_iff.mp hx).2
    rw [← h2, List.getElem_cons_drop hi', List.take_append_drop]
  have h2 : (both one other).A = (both one other).A.take j ++ a :: (both one other).A.drop (j + 1) := by
    have hi' := (List.getElem?_eq_some_iff.mp ha).1
    have h2 : (both one other).A[j] = a := (List.getElem?_eq_some_iff.mp ha).2
    rw [← h2, List.getElem_cons_drop hi', List.take_append_drop]
  have hv : vis2 one other = (vw one other n ++ (bg one other n).2.take i) ++ (x :: (bg one other n).2.drop (i + 1) ++ rest) := by
    show vw one other _ = _
    rw [hr]
    conv => lhs; rw [h1]
    simp [List.append_assoc]
  have hxl : ∀ L : List Cl, looks L [x] = L.map fun a => (x, a) := fun L => by simp [looks]
  have hfind : (looks (both one other).A (vis2 one other)).find? (fun z => flag (both one other).s1 (both one other).s2 z.1.1 z.2) = some (x, a) := by
    rw [hv, looks_app, List.find?_append]
    have e1 : (looks (both one other).A (vw one other n ++ (bg one other n).2.take i)).find? (fun z => flag (both one other).s1 (both one other).s2 z.1.1 z.2) = none := by
      rw [List.find?_eq_none]
      intro z hz
      rw [show flag (both one other).s1 (both one other).s2 z.1.1 z.2 = false from hf z hz]
      simp
    rw [e1, Option.none_or]
    have e2 : looks (both one other).A (x :: (bg one other n).2.drop (i + 1) ++ rest) = ((both one other).A.take j).map (fun b => (x, b)) ++ ((x, a) :: (((both one other).A.drop (j + 1)).map (fun b => (x, b)) ++ looks (both one other).A ((bg one other n).2.drop (i + 1) ++ rest))) := by
      have e3 : x :: (bg one other n).2.drop (i + 1) ++ rest = [x] ++ ((bg one other n).2.drop (i + 1) ++ rest) := rfl
      rw [e3, looks_app, hxl]
      conv => lhs; arg 1; rw [h2]
      rw [List.map_append, List.map_cons, List.append_assoc]
      rfl
    rw [e2, List.find?_append]
    have e4 : (((both one other).A.take j).map (fun b => (x, b))).find? (fun z => flag (both one other).s1 (both one other).s2 z.1.1 z.2) = none := by
      rw [List.find?_eq_none]
      intro z hz
      obtain ⟨b, hb, rfl⟩ := List.mem_map.mp hz
      rw [show flag (both one other).s1 (both one other).s2 x.1 b = false from hf2 b hb]
      simp
    rw [e4, Option.none_or, List.find?_cons]
    rw [show flag (both one other).s1 (both one other).s2 x.1 a = true from ht]
  unfold parting partingOf
  rw [hfind]
  rfl
theorem run2_len {one other : QB.Row} (u : List Cl) : (run (step2 (both one other).s1 (both one other).s2) (firsts one, firsts other) u).1.length = (firsts one).length ∧ (run (step2 (both one other).s1 (both one other).s2) (firsts one, firsts other) u).2.length = (firsts other).length := by
  have : ∀ (u : List Cl) (s : List Nat × List Nat), (u.foldl (step2 (both one other).s1 (both one other).s2) s).1.length = s.1.length ∧ (u.foldl (step2 (both one other).s1 (both one other).s2) s).2.length = s.2.length := fun u => by
    induction u with
    | nil => exact fun s => ⟨rfl, rfl⟩
    | cons a u ih =>
      intro s
      have := ih (step2 (both one other).s1 (both one other).s2 s a)
      rw [List.foldl_cons, this.1, this.2]
      exact ⟨put_len _ _ _, put_len _ _ _⟩
  exact this u _
theorem fits_one {one other : QB.Row} {l : List Nat} (N : Nat) (hN : (both one other).T.length ≤ N) (h : l.length = (firsts one).length) : Fits N (both one other).s1 l := by
  have hT : (both one other).T.length = (stR one 0 id).2.1.length + (stR other (stR one 0 id).2.1.length id).2.1.length := List.length_append
  exact stR_fits one 0 id N l (by omega) h
theorem fits_other {one other : QB.Row} {l : List Nat} (N : Nat) (hN : (both one other).T.length ≤ N) (h : l.length = (firsts other).length) : Fits N (both one other).s2 l := by
  have hT : (both one other).T.length = (stR one 0 id).2.1.length + (stR other (stR one 0 id).2.1.length id).2.1.length := List.length_append
  exact stR_fits other _ id N l (by omega) h
end QP

/-! The first list of lines that parts. -/
namespace QP
open PySem PySem.Spec PyProof.Rows L2 Evl QV QU QX QB QT QD
variable {P : Program} {w : World} {K : PySem.W.Frag} {mg : Str → Option Value} {base : Heap}
def partD (o : Option (List QB.Ln)) : PyData := match o with
  | none => .none
  | some t => linesD t
abbrev S2t := (List Nat × List Nat) × List Cl
def ly2P (K : PySem.W.Frag) (x : S2t) : Pd V := tupP K (consP (dat K (s2D x.1)) (consP (exP (dats K (x.2.map fun a => lineD a.2))) (is [])))
theorem mrk_fm {m : Nat → Bool} : sgs.filterMap (fun c => if m c = true then some ((Sum.inr (chr c) : Key), V.bl true) else none) = mrkK m := by
  unfold mrkK
  induction sgs with
  | nil => rfl
  | cons a l ih =>
    rw [List.filterMap_cons, List.filter_cons]
    by_cases h : m a = true
    · rw [if_pos h, if_pos h, List.map_cons, ih]
    · rw [if_neg h, if_neg h, ih]
structure Sized (one other : QB.Row) : Prop where
  o1 : RowOk one
  o2 : RowOk other
  l1 : one.length ≤ 50
  l2 : other.length ≤ 50
  b1 : bnd1 (both one other).T ≤ 1000000
  b2 : bnd2 (firsts one) (firsts other) ≤ 1000000
def sp_parting_lines (K : PySem.W.Frag) : Sp := spP fun vs G C => ∃ one other v u, vs = [v, u] ∧ Dp K G v (rowD one) ∧ Dp K G u (rowD other) ∧ Sized one other ∧ C = dat K (partD (parting one other))
theorem p_parting_lines (B : Bi K mg) {f : Addr} {fd : FuncData} (F : Fun K "parting_lines" "parting_lines" s_parting_lines f fd) (c_steps_of : Callee P w K mg base 1 "steps_of" P_steps_of (sp_steps_of K)) (c_line_classes : Callee P w K mg base 4 "line_classes" P_line_classes (sp_line_classes P w K)) (c_numbers_of : Callee P w K mg base 1 "numbers_of" P_numbers_of (sp_numbers_of K)) (c_put_through : Callee P w K mg base 1 "put_through" P_put_through (sp_put_through K)) :
    FnOk P w K mg base CX0 5 f fd P_parting_lines (sp_parting_lines K) := by
  refine F.ok sc_parting_lines (fun vs H Q E ⟨G, C, _, ⟨one, other, v, u, e, _⟩, _⟩ => by rw [e]; rfl) fun cdv A outer s H vs Q E hr h => ?_
  have nd := sc_parting_lines.nd
  have hu := hu_of hr
  have hu6 := hr.units
  refine ⟨_, (pss_cons (ps_set (i := 2) nd rfl (.inl rfl) (pe_lst pa_nil))
      (pss_cons (ps_asg (pe_call c_steps_of.ok (hr.mono (by decide)) (by rfl) c_steps_of.m c_steps_of.kp c_steps_of.b .nil pass0 (pa_cons (pv 0) (pa_cons (pv 2) pa_nil))) (QU.pgT (K := K) (n := 2) rfl rfl (pgs_cons (pg_name (i := 3) nd rfl (.inl rfl)) (pgs_cons (pg_name (i := 4) nd rfl (.inr rfl)) pgs_nil))))
      (pss_cons (ps_asg (pe_call c_steps_of.ok (hr.mono (by decide)) (by rfl) c_steps_of.m c_steps_of.kp c_steps_of.b .nil pass0 (pa_cons (pv 1) (pa_cons (pv 2) pa_nil))) (QU.pgT (K := K) (n := 2) rfl rfl (pgs_cons (pg_name (i := 5) nd rfl (.inl rfl)) (pgs_cons (pg_name (i := 6) nd rfl (.inr rfl)) pgs_nil))))
      (pss_cons (QN.ps_setDc (i := 7) (own := [("sign", 22)]) rfl nd rfl rfl (QN.sw_trueD rfl rfl rfl (by decide +kernel)) (pi_str (pe_glob (v := .str lineT) (by rfl) B.SIGNS_linetests.2 ⟨_, rfl⟩)) (blkOk_by (own := [("sign", 22)]) (N := N_parting_lines) (sc := defScope s_parting_lines) (by decide +kernel)) (fun _ _ _ _ _ => (pg_name (i := 22) nd rfl (.inl rfl))) (fun _ _ _ _ _ => (pts_one (pt_cmpR op_ne (pe_dget hu (pv 4) (pv 22) (fun _ _ => rfl)) (pe_dget hu (pv 6) (pv 22) (fun _ _ => rfl)) (nomark _)))) (fun _ _ _ _ _ => (pv 22)) (fun _ _ _ _ _ => pe_bl))
      (pss_cons (ps_set (i := 8) nd rfl (.inl rfl) (QN.pe_nitems rfl (pe_call c_line_classes.ok (hr.mono (by decide)) (by rfl) c_line_classes.m c_line_classes.kp c_line_classes.b .nil pass0 (pa_cons (pv 2) (pa_cons (pv 7) pa_nil))) (by rfl) B.list_ (by decide +kernel)))
      (pss_cons (ps_set (i := 9) nd rfl (.inl rfl) (pe_tup (pa_cons (pe_call c_numbers_of.ok (hr.mono (by decide)) (by rfl) c_numbers_of.m c_numbers_of.kp c_numbers_of.b .nil pass0 (pa_cons (pv 3) pa_nil)) (pa_cons (pe_call c_numbers_of.ok (hr.mono (by decide)) (by rfl) c_numbers_of.m c_numbers_of.kp c_numbers_of.b .nil pass0 (pa_cons (pv 5) pa_nil)) pa_nil))))
      (pss_cons (ps_set (i := 10) nd rfl (.inl rfl) (QN.pe_ndisp1 hu6 (pv 9) pe_bl))
      (pss_cons (ps_set (i := 11) nd rfl (.inl rfl) (pe_lst (pa_cons (pe_tup (pa_cons (pv 9) (pa_cons (pe_lst pa_nil) pa_nil))) pa_nil)))
      (pss_cons (ps_while PassesOwn.never (pt_truth (pv 11) (by intro _; rfl)) (pss_cons (ps_set (i := 12) nd rfl (.inl rfl) (pe_lst pa_nil))
      (pss_cons (ps_for PassesOwn.never rfl (QU.piL (K := K) rfl (pv 11)) (QU.pgT (K := K) (n := 2) rfl rfl (pgs_cons (pg_name (i := 13) nd rfl (.inl rfl)) (pgs_cons (pg_name (i := 14) nd rfl (.inl rfl)) pgs_nil))) (pss_one (ps_for PassesOwn.never rfl (QU.piL (K := K) rfl (pv 8)) (QU.pgT (K := K) (n := 2) rfl rfl (pgs_cons (pg_name (i := 15) nd rfl (.inl rfl)) (pgs_cons (pg_name (i := 16) nd rfl (.inl rfl)) pgs_nil))) (pss_cons (ps_asg (pe_call c_put_through.ok (hr.mono (by decide)) (by rfl) c_put_through.m c_put_through.kp c_put_through.b .nil pass0 (pa_cons (pv 3) (pa_cons (pv 15) (pa_cons (pe_ix (QU.ixT (K := K) rfl) (pv 13) pe_int (fun _ _ => rfl)) pa_nil)))) (QU.pgT (K := K) (n := 2) rfl rfl (pgs_cons (pg_name (i := 17) nd rfl (.inl rfl)) (pgs_cons (pg_name (i := 18) nd rfl (.inl rfl)) pgs_nil))))
      (pss_cons (ps_asg (pe_call c_put_through.ok (hr.mono (by decide)) (by rfl) c_put_through.m c_put_through.kp c_put_through.b .nil pass0 (pa_cons (pv 5) (pa_cons (pv 15) (pa_cons (pe_ix (QU.ixT (K := K) rfl) (pv 13) pe_int (fun _ _ => rfl)) pa_nil)))) (QU.pgT (K := K) (n := 2) rfl rfl (pgs_cons (pg_name (i := 19) nd rfl (.inl rfl)) (pgs_cons (pg_name (i := 20) nd rfl (.inl rfl)) pgs_nil))))
      (pss_cons (ps_if (pw_or (pt_cmpR op_ne (pv 17) (pv 19) (nomark _)) (pw_or1 (pw_and (pt_val (pv 17)) (pw_and1 (pt_val (pe_ix (QU.ixT (K := K) rfl) (pv 15) (pe_un un_neg pe_int) (fun _ _ => rfl))))).pt)).pt (pss_one (ps_ret (pe_op op_cat (pv 14) (pe_lst (pa_cons (pv 16) pa_nil))))) pss_nil)
      (pss_cons (ps_set (i := 21) nd rfl (.inl rfl) (pe_tup (pa_cons (pv 18) (pa_cons (pv 20) pa_nil))))
      (pss_one (ps_if (pt_cmpR (QN.op_nnotin hu6) (pv 21) (pv 10) (by rfl)) (pss_cons (ps_asg pe_bl (pg_sub (pv 10) (pv 21) (QN.set_nd hu6)))
      (pss_one (ps_expr (pe_bm PySem.F.plainAttrs_list PySem.F.slot_list_append PySem.F.type_list_append mt_append (pv 12) (pa_cons (pe_tup (pa_cons (pv 21) (pa_cons (pe_op op_cat (pv 14) (pe_lst (pa_cons (pv 16) pa_nil))) pa_nil))) pa_nil))))) pss_nil)))))))))
      (pss_one (ps_set (i := 11) nd rfl (.inl rfl) (pv 12))))))
      (pss_one (ps_ret pe_non))))))))))), ?_⟩
  obtain ⟨G, C, e, ⟨one, other, v, u, rfl, hv, hu', hz, rfl⟩, k⟩ := h
  have n0 : Nv [] G H G H := Nv.refl e
  have hok := tok_both hz.o1 hz.o2 hz.l1 hz.l2
  refine q_asgL (B := is []) (l_lst z_nil stb_tr fun G' xs b => by rw [show xs = _ from b]; decide) n0 fun tp xs G1 H1 a1 n1 htp lc b => ?_
  rw [show xs = _ from b] at lc
  have hsub : Sub [tp] [] H := fun x hx => .inr (by
    have : x = tp := by simpa using hx
    exact this ▸ lc.new)
  refine q_asgGM (M := [tp]) (S := tsAt K tp []) (S1 := tsAt K tp ([] ++ (stR one 0 id).2.1)) (C := tupP K (consP (dat K (stepsD (stR one 0 id).1)) (consP (dK (tabK (stR one 0 id).2.2)) (is [])))) (z_callM (L := [tp]) (B := consP (dat K (rowD one)) (consP (is (.ref tp)) (is []))) (Ez.lift (z_cons (z_var rfl (QN.dp_mono n1.gg _ _ hv)) (z_cons (z_var rfl rfl) z_nil)) tsAt_stb) (fun _ h => h) fun vs G' e' hvs => ?_) n1 hsub (At.one n1.gh lc.out lc.val) ⟨[], lc.val, rfl, fun i x q => by simp at q⟩ fun x2 G2 H2 a2 n2 at2 s2 hx2 => ?_
  · obtain ⟨x1, xs1, rfl, h1, x2, xs2, rfl, h2, h3⟩ := hvs
    have h2 : x2 = _ := h2
    have h3 : xs2 = [] := h3
    subst h2 h3
    exact ⟨tsAt K tp [], tsAt K tp ([] ++ (stR one 0 id).2.1), fun _ _ _ h => h, fun G'' e'' => ⟨one, [], tp, x1, rfl, rfl, QN.dp_mono e'' _ _ h1, hz.o1, Nat.le_trans hz.l1 (by decide), Nat.zero_le _, rfl, rfl, rfl⟩, fun _ _ _ _ _ _ h => h⟩
  refine g_two hx2 n2.gh fun s1v t1v hs1 ht1 => ?_
  have hT1 : (stR one 0 id).2.1.length ≤ 50 := Nat.le_trans (stR_len one 0 id).2 hz.l1
  refine q_asgGM (M := [tp]) (S := tsAt K tp ([] ++ (stR one 0 id).2.1)) (S1 := tsAt K tp (both one other).T) (C := tupP K (consP (dat K (stepsD (both one other).s2)) (consP (dK (tabK (both one other).t2)) (is [])))) (z_callM (L := [tp]) (B := consP (dat K (rowD other)) (consP (is (.ref tp)) (is []))) (Ez.lift (z_cons (z_var rfl (QN.dp_mono n2.gg _ _ hu')) (z_cons (z_var rfl rfl) z_nil)) tsAt_stb) (fun _ h => h) fun vs G' e' hvs => ?_) n2 hsub at2 s2 fun x3 G3 H3 a3 n3 at3 s3 hx3 => ?_
  · obtain ⟨x1, xs1, rfl, h1, x2, xs2, rfl, h2, h3⟩ := hvs
    have h2 : x2 = _ := h2
    have h3 : xs2 = [] := h3
    subst h2 h3
    exact ⟨tsAt K tp ([] ++ (stR one 0 id).2.1), tsAt K tp (both one other).T, fun _ _ _ h => h, fun G'' e'' => ⟨other, (stR one 0 id).2.1, tp, x1, rfl, rfl, QN.dp_mono e'' _ _ h1, hz.o2, Nat.le_trans hz.l2 (by decide), Nat.le_trans hT1 (by decide), rfl, rfl, rfl⟩, fun _ _ _ _ _ _ h => h⟩
  refine g_two hx3 n3.gh fun s2v t2v hs2 ht2 => ?_
  obtain ⟨zs, hzs1, hzs2⟩ := s3
  have lct : Lc H G3 H3 tp zs := ⟨lc.new, (at3.mm tp (by simp)).1, hzs1⟩
  have n4 := lct.close n3
  have htests : (testsP K (both one other).T).p (upd G3 tp (.lst zs)) (.ref tp) := ⟨tp, zs, rfl, lct.sq, Pd.mono _ lct.gg hzs2⟩
  have ht1' := Pd.mono (dK (tabK (both one other).t1)) (a3.gg.trans lct.gg) ht1
  have ht2' := Pd.mono (dK (tabK (both one other).t2)) lct.gg ht2
  have hs1' := Pd.mono (dat K (stepsD (both one other).s1)) (a3.gg.trans lct.gg) hs1
  have hs2' := Pd.mono (dat K (stepsD (both one other).s2)) lct.gg hs2
  generalize hG4 : upd G3 tp (.lst zs) = G4 at n4 htests ht1' ht2' hs1' hs2'
  refine q_asg (C := dK (mrkK (both one other).m)) (Ez.to (z_dcS lineT (fun c => if (both one other).m c = true then some (.inr (chr c), .bl true) else none) (z_c rfl) (by decide +kernel) (by rw [line_cps, mrk_fm]; exact keys_nodup (List.Pairwise.filter _ sgs_nodup) _) fun c G5 hc e5 => ?_) fun G' v' e' c' => by
    rw [line_cps, mrk_fm] at c'
    exact c') n4 fun mk G5 H5 a5 n5 hmk => ?_
  · have hcs : Sgn c := mem_sgs.mp (line_cps ▸ hc)
    have := turnD_name (j := 22) (b := (both one other).m c) (k := .inr (chr c)) (v := .bl true) (x := .str (chr c)) (σ := [some v, some u, some (.ref tp), some s1v, some t1v, some s2v, some t2v, none, none, none, none, none, none, none, none, none, none, none, none, none, none, none, none]) (vs := [22]) (tt := tTest (tOp rNe (tDGet (tVar 4) (tVar 22)) (tDGet (tVar 6) (tVar 22)))) (tk := tVar 22) (tv := tC (.bl true)) (G := G5) rfl (zt_test (z_opNe (z_dget (z_var rfl (Pd.mono _ e5 ht1')) (z_var rfl rfl) rfl (tab_get hcs)) (z_dget (z_var rfl (Pd.mono _ e5 ht2')) (z_var rfl rfl) rfl (tab_get hcs)) rfl (by
      rw [eq_chr]
      unfold Both.m
      simp))) (fun _ => z_var rfl rfl) fun _ => z_c rfl
    refine Ez.to this fun G' o _ ho => ?_
    show o = _
    rw [show o = _ from ho]
    by_cases hm : (both one other).m c = true
    · rw [if_pos hm, if_pos hm]
      rfl
    · rw [if_neg hm, if_neg hm]
      rfl
  refine q_asg (C := dat K (.list ((both one other).A.map clD))) (z_nitems (z_call2 (A := testsP K (both one other).T) (B := dK (mrkK (both one other).m)) (z_var rfl (Pd.mono (testsP K (both one other).T) a5.gg htests)) (z_var rfl hmk) stb_tr fun x y G' _ hx hy => ⟨(both one other).T, (both one other).m, x, y, rfl, hx, hok, hz.b1, hy, rfl⟩)) n5 fun cl G6 H6 a6 n6 hcl => ?_
  have hs1l : (both one other).s1.length ≤ 1000 := Nat.le_trans (stR_len one 0 id).1 (Nat.le_trans hz.l1 (by decide))
  have hs2l : (both one other).s2.length ≤ 1000 := Nat.le_trans (stR_len other _ id).1 (Nat.le_trans hz.l2 (by decide))
  have hf1 : (both one other).s1.filterMap firstN = firsts one := stR_firsts one 0 id
  have hf2 : (both one other).s2.filterMap firstN = firsts other := stR_firsts other _ id
  have e46 := a5.gg.trans a6.gg
  refine q_asg (C := dat K (s2D (firsts one, firsts other))) (z_tupD (ds := [natsD (firsts one), natsD (firsts other)]) (z_consD (z_call1 (A := dat K (stepsD (both one other).s1)) (z_var rfl (Pd.mono (dat K (stepsD (both one other).s1)) e46 hs1')) stb_tr fun x G' _ hx => ⟨_, x, rfl, hx, hs1l, by rw [hf1]⟩) (z_consD (z_call1 (A := dat K (stepsD (both one other).s2)) (z_var rfl (Pd.mono (dat K (stepsD (both one other).s2)) e46 hs2')) stb_tr fun x G' _ hx => ⟨_, x, rfl, hx, hs2l, by rw [hf2]⟩) z_nilD)) stb_tr (by show 2 ≤ 1000; decide)) n6 fun st G7 H7 a7 n7 hst => ?_
  refine q_ndisp (kd := s2D) (k := (firsts one, firsts other)) (v := .bl true) kyN (z_var rfl hst) (z_c rfl) n7 fun ps G8 H8 a8 n8 hps lps => ?_
  have hps0 : H ps = none := n7.new hps
  have hsubps : Sub [ps] [] H := fun x hx => .inr (by
    have : x = ps := by simpa using hx
    exact this ▸ hps0)
  refine q_asg (C := lsP K (bg one other 0).2 (ly2P K)) (Ez.to (Lz.ez (K := K) (l_lst (B := consP (ly2P K ((firsts one, firsts other), [])) (is [])) (z_cons (z_tup (z_cons (z_var rfl (QN.dp_mono a8.gg _ _ hst)) (z_cons (Lz.exact (l_lstD (ds := []) z_nilD stb_tr (by show 0 ≤ 1000; decide)) stb_tr) z_nil)) stb_tr fun G' xs' ⟨x1, xs1, e1, _, x2, xs2, e2, _, e3⟩ => by
    have e3 : xs2 = [] := e3
    rw [e1, e2, e3]
    show 2 ≤ sizeLine
    decide) z_nil) stb_tr fun G' xs' ⟨x1, xs1, e1, _, e2⟩ => by
      have e2 : xs1 = [] := e2
      rw [e1, e2]
      show 1 ≤ sizeLine
      decide) stb_tr) fun G' v' _ hc => by
    obtain ⟨p', xs', h1, h2, x1, xs1, e1, h3, e2⟩ := hc
    have e2 : xs1 = [] := e2
    subst e1 e2
    refine ⟨p', _, h1, h2, rfl, fun i x q => ?_⟩
    cases i with
    | zero =>
      have : x1 = x := by simpa using q
      subst this
      exact ⟨_, rfl, h3⟩
    | succ i => simp at q) n8 fun ly G9 H9 a9 n9 hly => ?_
  refine QD.q_while (fun n σ G10 H10 => ∃ ly y12 y13 y14 y15 y16 y17 y18 y19 y20 y21, σ = [some v, some u, some (.ref tp), some s1v, some t1v, some s2v, some t2v, some mk, some cl, some st, some (.ref ps), some ly, y12, y13, y14, y15, y16, y17, y18, y19, y20, y21, none] ∧ Ex G9 G10 ∧ (lsP K (bg one other n).2 (ly2P K)).p G10 ly ∧
      Nl P w K s2D [] H G10 H10 ps (sk (bg one other n).1) ∧ ∀ z ∈ looks (both one other).A (vw one other n), fg one other z.1 z.2 = false) (bnd2 (firsts one) (firsts other)) 0 ⟨ly, none, none, none, none, none, none, none, none, none, none, rfl, Ex.refl _, hly, lps.nv a9, fun z hz => by cases hz⟩ n9 fun n σ G10 H10 n10 ⟨ly, y12, y13, y14, y15, y16, y17, y18, y19, y20, y21, hσ, e910, hly, lps, hno⟩ => ⟨!decide ((bg one other n).2 = []), ?_, fun hbt => ⟨?_, fun G11 H11 a11 n11 => ?_⟩, fun hbf G11 H11 a11 n11 => ?_⟩
  · subst hσ
    refine zt_truE ((z_var rfl hly : Pz (tVar 11 _) G10 (lsP K (bg one other n).2 (ly2P K))).to fun _ _ _ c => tru_list c) ?_
    cases (bg one other n).2 <;> rfl
  · refine Nat.lt_of_not_le fun h => ?_
    rw [bg_nil h] at hbt
    revert hbt
    decide
  · subst hσ
    have hnb : n < bnd2 (firsts one) (firsts other) := Nat.lt_of_not_le fun h => by
      rw [bg_nil h] at hbt
      revert hbt
      decide
    refine q_asgL (B := is []) (l_lst z_nil stb_tr fun G' xs b => by rw [show xs = _ from b]; decide) n11 fun fl xs G12 H12 a12 n12 hfl lc b => ?_
    rw [show xs = _ from b] at lc
    have a112 := a11.trans a12
    have hflp : fl ≠ ps := fun z => (lps.nv a11).there (z ▸ hfl)
    have hly12 := Pd.mono (lsP K (bg one other n).2 (ly2P K)) a112.gg hly
    have hseen : ∀ ps' qs, cand (step2 (both one other).s1 (both one other).s2) (both one other).A (bg one other n).2 = ps' ++ qs → ((bg one other n).1 ++ (dedupe (bg one other n).1 ps').map (·.1)).length ≤ bnd2 (firsts one) (firsts other) := fun ps' qs hpq => by
      have h1 := bound2 (both one other).s1 (both one other).s2 (both one other).A (firsts one) (firsts other) (n + 1)
      have h2 : (bfs (step2 (both one other).s1 (both one other).s2) (both one other).A (firsts one, firsts other) (n + 1)).1 = (bg one other n).1 ++ (dedupe (bg one other n).1 (cand (step2 (both one other).s1 (both one other).s2) (both one other).A (bg one other n).2)).map (·.1) := rfl
      rw [h2, hpq, List.length_append, List.length_map] at h1
      rw [List.length_append, List.length_map]
      have := dedupe_pre (bg one other n).1 ps' qs
      omega
    refine q_forP (n := (bg one other n).2.length) (wk_list (z_var rfl hly12)) n12 (fun i σ G13 H13 => ∃ y13 y14 y15 y16 y17 y18 y19 y20 y21 ys, σ = [some v, some u, some (.ref tp), some s1v, some t1v, some s2v, some t2v, some mk, some cl, some st, some (.ref ps), some ly, some (.ref fl), y13, y14, y15, y16, y17, y18, y19, y20, y21, none] ∧ Ex G12 G13 ∧
        Lc H G13 H13 fl ys ∧ (allP (dedupe (bg one other n).1 (cand (step2 (both one other).s1 (both one other).s2) (both one other).A ((bg one other n).2.take i))).length (itP (dedupe (bg one other n).1 (cand (step2 (both one other).s1 (both one other).s2) (both one other).A ((bg one other n).2.take i))) (ly2P K))).p G13 ys ∧
        Nl P w K s2D [] H G13 H13 ps (sk ((bg one other n).1 ++ (dedupe (bg one other n).1 (cand (step2 (both one other).s1 (both one other).s2) (both one other).A ((bg one other n).2.take i))).map (·.1))) ∧ ∀ z ∈ looks (both one other).A (vw one other n ++ (bg one other n).2.take i), fg one other z.1 z.2 = false)
      (fun G13 H13 a13 n13 => ⟨_, _, _, _, _, _, _, _, _, [], rfl, a13.gg, lc.nv a13, ⟨rfl, fun i x q => by simp at q⟩, by
        show Nl P w K s2D [] H G13 H13 ps (sk ((bg one other n).1 ++ []))
        rw [List.append_nil]
        exact (lps.nv a112).nv a13, by
        rw [List.take_zero, List.append_nil]
        exact hno⟩) (fun i σ G13 H13 x G14 H14 hi n13 e13 ⟨y13, y14, y15, y16, y17, y18, y19, y20, y21, ys, hσ, e1213, lc, hys, lps, hno⟩ a14 n14 hx => ?_) fun σ G13 H13 n13 e13 ⟨y13, y14, y15, y16, y17, y18, y19, y20, y21, ys, hσ, e1213, lc, hys, lps, hno⟩ => ?_
    · subst hσ
      obtain ⟨xx, hxx, hx⟩ := hx
      have hmem := List.mem_of_getElem? hxx
      obtain ⟨hw1, hw2, hw3⟩ := layer_word n xx hmem
      obtain ⟨hq1, hq2⟩ := run2_len (one := one) (other := other) xx.2
      rw [← hw2] at hq1 hq2
      refine g_two hx n14.gh fun k1 k2 hk1 hk2 => ?_
      show tFor _ _ _ _ [some v, some u, some (.ref tp), some s1v, some t1v, some s2v, some t2v, some mk, some cl, some st, some (.ref ps), some ly, some (.ref fl), some k1, some k2, y15, y16, y17, y18, y19, y20, y21, none] H14
      have htake : (bg one other n).2.take (i + 1) = (bg one other n).2.take i ++ [xx] := by
        rw [List.take_succ, hxx]
        rfl
      have e714 := ((((a8.gg.trans a9.gg).trans e910).trans a112.gg).trans e1213).trans a14.gg
      have e614 := a7.gg.trans e714
      have hcl14 := QN.dp_mono e614 _ _ hcl
      refine s_forP (n := (both one other).A.length) (wk_list (z_lst (z_var rfl hcl14)) |> fun h => by rw [List.length_map] at h; exact h) n14 (fun j σ G15 H15 => ∃ y15 y16 y17 y18 y19 y20 y21 ys, σ = [some v, some u, some (.ref tp), some s1v, some t1v, some s2v, some t2v, some mk, some cl, some st, some (.ref ps), some ly, some (.ref fl), some k1, some k2, y15, y16, y17, y18, y19, y20, y21, none] ∧ Ex G14 G15 ∧
          Lc H G15 H15 fl ys ∧ (allP (dedupe (bg one other n).1 (cand (step2 (both one other).s1 (both one other).s2) (both one other).A ((bg one other n).2.take i) ++ ((both one other).A.take j).map fun a => (step2 (both one other).s1 (both one other).s2 xx.1 a, xx.2 ++ [a]))).length (itP (dedupe (bg one other n).1 (cand (step2 (both one other).s1 (both one other).s2) (both one other).A ((bg one other n).2.take i) ++ ((both one other).A.take j).map fun a => (step2 (both one other).s1 (both one other).s2 xx.1 a, xx.2 ++ [a]))) (ly2P K))).p G15 ys ∧
          Nl P w K s2D [] H G15 H15 ps (sk ((bg one other n).1 ++ (dedupe (bg one other n).1 (cand (step2 (both one other).s1 (both one other).s2) (both one other).A ((bg one other n).2.take i) ++ ((both one other).A.take j).map fun a => (step2 (both one other).s1 (both one other).s2 xx.1 a, xx.2 ++ [a]))).map (·.1))) ∧ ∀ b ∈ (both one other).A.take j, fg one other xx b = false)
        (fun G15 H15 a15 n15 => ⟨_, _, _, _, _, _, _, ys, rfl, a15.gg, (lc.nv a14).nv a15, by
          rw [List.take_zero, List.map_nil, List.append_nil]
          exact Pd.mono (allP _ _) (a14.gg.trans a15.gg) hys, by
          rw [List.take_zero, List.map_nil, List.append_nil]
          exact (lps.nv a14).nv a15, fun b hb => by rw [List.take_zero] at hb; cases hb⟩) (fun j σ G15 H15 x G16 H16 hj n15 e15 ⟨y15, y16, y17, y18, y19, y20, y21, ys, hσ, e1415, lc, hys, lps, hno2⟩ a16 n16 hx => ?_) fun σ G15 H15 n15 e15 ⟨y15, y16, y17, y18, y19, y20, y21, ys, hσ, e1415, lc, hys, lps, hno2⟩ => ?_
      · subst hσ
        obtain ⟨d, hd, hx⟩ := hx
        rw [List.getElem?_map] at hd
        obtain ⟨a, ha, rfl⟩ := Option.map_eq_some_iff.mp hd
        have hcw := class_word (List.mem_of_getElem? ha)
        have hal : a.1.length = (both one other).T.length + 1 := by
          rw [hcw.2]
          unfold trv
          rw [List.length_append, List.length_map]
          rfl
        have lc16 := lc.nv a16
        have lps16 := lps.nv a16
        have hys16 := Pd.mono (allP _ _) a16.gg hys
        refine g_two (tup2_of hx) n16.gh fun k3 k4 hk3 hk4 => ?_
        have hk4 : k4 = .str (lnS a.2) := dp_str hk4
        subst hk4
        show tSeq _ _ _ [some v, some u, some (.ref tp), some s1v, some t1v, some s2v, some t2v, some mk, some cl, some st, some (.ref ps), some ly, some (.ref fl), some k1, some k2, some k3, some (.str (lnS a.2)), y17, y18, y19, y20, y21, none] H16
        have e416 := e46.trans (e614.trans (e1415.trans a16.gg))
        have hk116 := QN.dp_mono (e1415.trans a16.gg) _ _ hk1
        have hk216 := Pd.mono (exP (dats K (xx.2.map fun a => lineD a.2))) (e1415.trans a16.gg) hk2
        refine q_asgG (C := dat K (.tuple [.bool (put (both one other).s1 a.1 xx.1.1).1, natsD (put (both one other).s1 a.1 xx.1.1).2])) (z_call3 (A := dat K (stepsD (both one other).s1)) (B := dat K (boolsD a.1)) (D := dat K (natsD xx.1.1)) (z_var rfl (Pd.mono (dat K (stepsD (both one other).s1)) e416 hs1')) (z_var rfl hk3) (z_ixDT (i := 0) (z_var rfl hk116) (z_c rfl) rfl) stb_tr fun x y z G' _ hx hy hz' => ⟨_, _, _, x, y, z, rfl, hx, hy, hz', hs1l, fits_one _ (by rw [hal]; exact Nat.le_succ _) hq1, rfl⟩) n16 fun r1 G17 H17 a17 n17 hr1 => ?_
        refine g_two (tup2_of hr1) n17.gh fun w1 l1 hw1' hl1' => ?_
        have hw1' : w1 = _ := dp_bool hw1'
        subst hw1'
        refine q_asgG (C := dat K (.tuple [.bool (put (both one other).s2 a.1 xx.1.2).1, natsD (put (both one other).s2 a.1 xx.1.2).2])) (z_call3 (A := dat K (stepsD (both one other).s2)) (B := dat K (boolsD a.1)) (D := dat K (natsD xx.1.2)) (z_var rfl (Pd.mono (dat K (stepsD (both one other).s2)) (e416.trans a17.gg) hs2')) (z_var rfl (QN.dp_mono a17.gg _ _ hk3)) (z_ixDT (i := 1) (z_var rfl (QN.dp_mono a17.gg _ _ hk116)) (z_c rfl) rfl) stb_tr fun x y z G' _ hx hy hz' => ⟨_, _, _, x, y, z, rfl, hx, hy, hz', hs2l, fits_other _ (by rw [hal]; exact Nat.le_succ _) hq2, rfl⟩) n17 fun r2 G18 H18 a18 n18 hr2 => ?_
        refine g_two (tup2_of hr2) n18.gh fun w2 l2 hw2' hl2' => ?_
        have hw2' : w2 = _ := dp_bool hw2'
        subst hw2'
        have a1618 := a17.trans a18
        have hane : a.1 ≠ [] := fun z => by rw [z] at hal; cases hal
        have hlast : boolsD a.1 = .tuple (a.1.dropLast.map PyData.bool ++ [.bool (a.1.getLastD false)]) := by
          unfold boolsD
          conv => lhs; rw [last_split hane]
          rw [List.map_append]
          rfl
        have hk318 := QN.dp_mono a1618.gg _ _ hk3
        rw [hlast] at hk318
        have hk218 := Pd.mono (exP (dats K (xx.2.map fun a => lineD a.2))) a1618.gg hk216
        have hxl : (xx.2.map fun a : Cl => lineD a.2).length ≤ 1000000 := by
          rw [List.length_map, hw1]
          exact Nat.le_trans (Nat.le_of_lt hnb) hz.b2
        have hll : (xx.2.map fun a : Cl => lineD a.2) ++ [lineD a.2] = (xx.2 ++ [a]).map fun a => lineD a.2 := by
          rw [List.map_append]
          rfl
        refine q_if (b := fg one other xx a) (zt_is (zt_or (a := (put (both one other).s1 a.1 xx.1.1).1 != (put (both one other).s2 a.1 xx.1.2).1) (b := (put (both one other).s1 a.1 xx.1.1).1 && a.1.getLastD false) (zt_test (z_opNe (z_var rfl rfl) (z_var rfl rfl) rfl (by cases (put (both one other).s1 a.1 xx.1.1).1 <;> cases (put (both one other).s2 a.1 xx.1.2).1 <;> rfl))) fun _ => zt_and (zt_B (z_var rfl rfl)) fun _ => zt_B (z_bool (z_lastT (z_var rfl hk318) (z_neg (z_c rfl) rfl)))) rfl) n18 (fun hb G19 H19 a19 n19 => ?_) fun hb G19 H19 a19 n19 => ?_
        · refine s_ret (Lz.dat (l_catD (z_var rfl (Pd.mono (exP (dats K (xx.2.map fun a => lineD a.2))) a19.gg hk218)) (Lz.exact (l_lstD (z_consD (dat_str (z_var rfl rfl)) z_nilD) stb_tr (by show 1 ≤ 1000; decide)) stb_tr) stb_tr (by show _ + 1 ≤ _; exact Nat.le_trans (Nat.add_le_add_right hxl 1) (by decide))) stb_tr) n19 fun v' G20 H20 n20 c20 => k v' G20 H20 n20 ?_
          rw [part_some hxx ha hno hno2 hb]
          show Dp K G20 v' (.list ((xx.2.map (·.2) ++ [a.2]).map lineD))
          rw [List.map_append, List.map_map]
          exact c20
        · have a1619 := a1618.trans a19
          refine q_asg (C := dat K (s2D (step2 (both one other).s1 (both one other).s2 xx.1 a))) (z_tupD (ds := [natsD (put (both one other).s1 a.1 xx.1.1).2, natsD (put (both one other).s2 a.1 xx.1.2).2]) (z_consD (z_var rfl (QN.dp_mono (a18.gg.trans a19.gg) _ _ hl1')) (z_consD (z_var rfl (QN.dp_mono a19.gg _ _ hl2')) z_nilD)) stb_tr (by show 2 ≤ 1000; decide)) n19 fun af G20 H20 a20 n20 haf => ?_
          have a1620 := a1619.trans a20
          have lps20 := lps16.nv a1620
          have lc20 := lc16.nv a1620
          have hys20 := Pd.mono (allP _ _) a1620.gg hys16
          have hnext : ((both one other).A.take (j + 1)).map (fun a => (step2 (both one other).s1 (both one other).s2 xx.1 a, xx.2 ++ [a])) = ((both one other).A.take j).map (fun a => (step2 (both one other).s1 (both one other).s2 xx.1 a, xx.2 ++ [a])) ++ [(step2 (both one other).s1 (both one other).s2 xx.1 a, xx.2 ++ [a])] := by
            rw [List.take_succ, ha, List.map_append]
            rfl
          have hno3 : ∀ b ∈ (both one other).A.take (j + 1), fg one other xx b = false := fun b hb' => by
            rw [List.take_succ, ha] at hb'
            rcases List.mem_append.mp hb' with q | q
            · exact hno2 b q
            · have : b = a := by simpa using q
              rw [this]
              exact hb
          have hpre : ∃ qs, cand (step2 (both one other).s1 (both one other).s2) (both one other).A (bg one other n).2 = (cand (step2 (both one other).s1 (both one other).s2) (both one other).A ((bg one other n).2.take i) ++ ((both one other).A.take j).map fun a => (step2 (both one other).s1 (both one other).s2 xx.1 a, xx.2 ++ [a])) ++ qs := by
            have h1 : (bg one other n).2 = (bg one other n).2.take i ++ xx :: (bg one other n).2.drop (i + 1) := by
              have hi' := (List.getElem?_eq_some_iff.mp hxx).1
              have h2 : (bg one other n).2[i] = xx := (List.getElem?_eq_some_iff.mp hxx).2
              rw [← h2, List.getElem_cons_drop hi', List.take_append_drop]
            refine ⟨((both one other).A.drop j).map (fun a => (step2 (both one other).s1 (both one other).s2 xx.1 a, xx.2 ++ [a])) ++ cand (step2 (both one other).s1 (both one other).s2) (both one other).A ((bg one other n).2.drop (i + 1)), ?_⟩
            conv => lhs; rw [h1]
            unfold cand
            rw [List.flatMap_append, List.flatMap_cons, List.append_assoc, ← List.append_assoc (((both one other).A.take j).map _), ← List.map_append, List.take_append_drop]
          obtain ⟨qs, hqs⟩ := hpre
          have hslen := hseen _ _ hqs
          refine s_ifM (M := [ps]) (S := fun G H => QN.Nd (keyR s2D) P w K G H ps (nkv s2D (sk ((bg one other n).1 ++ (dedupe (bg one other n).1 (cand (step2 (both one other).s1 (both one other).s2) (both one other).A ((bg one other n).2.take i) ++ ((both one other).A.take j).map fun a => (step2 (both one other).s1 (both one other).s2 xx.1 a, xx.2 ++ [a]))).map (·.1))))) (S1 := fun G H => QN.Nd (keyR s2D) P w K G H ps (nkv s2D (sk ((bg one other n).1 ++ (dedupe (bg one other n).1 (cand (step2 (both one other).s1 (both one other).s2) (both one other).A ((bg one other n).2.take i) ++ ((both one other).A.take j).map fun a => (step2 (both one other).s1 (both one other).s2 xx.1 a, xx.2 ++ [a]))).map (·.1))))) (B := is (!decide (step2 (both one other).s1 (both one other).s2 xx.1 a ∈ (bg one other n).1 ++ (dedupe (bg one other n).1 (cand (step2 (both one other).s1 (both one other).s2) (both one other).A ((bg one other n).2.take i) ++ ((both one other).A.take j).map fun a => (step2 (both one other).s1 (both one other).s2 xx.1 a, xx.2 ++ [a]))).map (·.1))))
            (zt_test (z_nnotin (k := step2 (both one other).s1 (both one other).s2 xx.1 a) kyN (z_var rfl haf) (z_var rfl rfl) (fun _ _ _ h => h) (by rw [sk_keys]; simp))) n20 hsubps (At.one' n20.gh lps20.out lps20.there) lps20.val fun bb G21 H21 a21 n21 at21 s21 hbb => ⟨fun hbt => ?_, fun hbf => ?_⟩
          · have hbb : bb = _ := hbb
            have hnm : step2 (both one other).s1 (both one other).s2 xx.1 a ∉ (bg one other n).1 ++ (dedupe (bg one other n).1 (cand (step2 (both one other).s1 (both one other).s2) (both one other).A ((bg one other n).2.take i) ++ ((both one other).A.take j).map fun a => (step2 (both one other).s1 (both one other).s2 xx.1 a, xx.2 ++ [a]))).map (·.1) := by
              rw [hbt] at hbb
              simpa using hbb.symm
            have lps21 : Nl P w K s2D [] H G21 H21 ps _ := ⟨lps20.own, (at21.mm ps (by simp)).1, s21⟩
            have haf21 := QN.dp_mono a21.gg _ _ haf
            refine q_nset kyN (k := step2 (both one other).s1 (both one other).s2 xx.1 a) (v := .bl true) (z_c rfl) (z_var rfl rfl) (z_var rfl haf21) lps21 (by rw [sk_keys]; exact hnm) (by rw [sk_len]; exact Nat.lt_of_le_of_lt (Nat.le_trans hslen hz.b2) (by decide)) n21 fun G22 H22 a22 n22 lps22 => ?_
            have a2022 := a21.trans a22
            have lc22 := lc20.nv a2022 (by simpa using hflp)
            have hk222 := Pd.mono (exP (dats K (xx.2.map fun a => lineD a.2))) ((a19.gg.trans a20.gg).trans a2022.gg) hk218
            refine e_app (C := ly2P K (step2 (both one other).s1 (both one other).s2 xx.1 a, xx.2 ++ [a])) rfl lc22 (by
              rw [hys20.1]
              have h1 := hslen
              rw [List.length_append, List.length_map] at h1
              have h2 := hz.b2
              exact Nat.lt_of_le_of_lt (by omega : _ ≤ 1000000) (by decide)) (z_tup (z_cons (z_var rfl (QN.dp_mono a22.gg _ _ haf21)) (z_cons (Lz.exact (Lz.to (l_catD (z_var rfl hk222) (Lz.exact (l_lstD (z_consD (dat_str (z_var rfl rfl)) z_nilD) stb_tr (by show 1 ≤ 1000; decide)) stb_tr) stb_tr (by show _ + 1 ≤ _; exact Nat.le_trans (Nat.add_le_add_right hxl 1) (by decide))) fun G' xs' _ c' => by
                show DpAll K G' xs' ((xx.2 ++ [a]).map fun a => lineD a.2)
                rw [← hll]
                exact c') stb_tr) z_nil)) stb_tr fun G' xs' ⟨x1, xs1, e1, _, x2, xs2, e2, _, e3⟩ => by
              have e3 : xs2 = [] := e3
              rw [e1, e2, e3]
              show 2 ≤ sizeLine
              decide) n22 fun u2 G23 H23 a23 n23 lc23 hu23 => ⟨G23, n23, ((a16.gg.trans a1620.gg).trans a2022.gg).trans a23.gg, _, _, _, _, _, _, _, _, rfl, (((e1415.trans a16.gg).trans a1620.gg).trans a2022.gg).trans a23.gg, lc23, ?_, ?_, hno3⟩
            · rw [hnext, ← List.append_assoc, dedupe_snoc, if_neg hnm]
              exact itP_snoc (Pd.mono (allP _ _) (a2022.gg.trans a23.gg) hys20) hu23
            · rw [hnext, ← List.append_assoc, dedupe_snoc, if_neg hnm, List.map_append, ← List.append_assoc, List.map_singleton, sk_app]
              exact lps22.nv a23 (by simpa using Ne.symm hflp)
          · have hbb : bb = _ := hbb
            have hmm : step2 (both one other).s1 (both one other).s2 xx.1 a ∈ (bg one other n).1 ++ (dedupe (bg one other n).1 (cand (step2 (both one other).s1 (both one other).s2) (both one other).A ((bg one other n).2.take i) ++ ((both one other).A.take j).map fun a => (step2 (both one other).s1 (both one other).s2 xx.1 a, xx.2 ++ [a]))).map (·.1) := by
              rw [hbf] at hbb
              simpa using hbb.symm
            refine s_next ⟨G21, n21, (a16.gg.trans a1620.gg).trans a21.gg, _, _, _, _, _, _, _, _, rfl, ((e1415.trans a16.gg).trans a1620.gg).trans a21.gg, lc20.nv a21 (by simpa using hflp), ?_, ?_, hno3⟩
            · rw [hnext, ← List.append_assoc, dedupe_snoc, if_pos hmm, List.append_nil]
              exact Pd.mono (allP _ _) a21.gg hys20
            · rw [hnext, ← List.append_assoc, dedupe_snoc, if_pos hmm, List.append_nil]
              exact ⟨lps20.own, (at21.mm ps (by simp)).1, s21⟩
      · subst hσ
        have hcand : cand (step2 (both one other).s1 (both one other).s2) (both one other).A ((bg one other n).2.take (i + 1)) = cand (step2 (both one other).s1 (both one other).s2) (both one other).A ((bg one other n).2.take i) ++ (both one other).A.map fun a => (step2 (both one other).s1 (both one other).s2 xx.1 a, xx.2 ++ [a]) := by
          rw [htake]
          unfold cand
          rw [List.flatMap_append]
          simp
        rw [List.take_length] at hys lps hno2
        rw [← hcand] at hys lps
        refine ⟨G15, n15, a14.gg.trans e1415, _, _, _, _, _, _, _, _, _, ys, rfl, (e1213.trans a14.gg).trans e1415, lc, hys, lps, fun z hz' => ?_⟩
        rw [htake, ← List.append_assoc, looks_app] at hz'
        rcases List.mem_append.mp hz' with q | q
        · exact hno z q
        · have : z ∈ (both one other).A.map fun b => (xx, b) := by simpa [looks] using q
          obtain ⟨b, hb, rfl⟩ := List.mem_map.mp this
          exact hno2 b hb
    · subst hσ
      rw [List.take_length] at hys lps hno
      refine s_asg (C := lsP K (bg one other (n + 1)).2 (ly2P K)) (z_var rfl ⟨fl, ys, rfl, lc.sq, Pd.mono (allP _ _) lc.gg hys⟩) (lc.close n13) fun ly' G14 H14 a14 n14 hly' => ⟨G14, n14, ly', _, _, _, _, _, _, _, _, _, _, rfl, ((e910.trans a112.gg).trans e1213).trans (lc.gg.trans a14.gg), hly', ?_, ?_⟩
      · have lpsc : Nl P w K s2D [] H (upd G13 fl (.lst ys)) H13 ps _ := ⟨lps.own, by rw [upd_ne (Ne.symm hflp)]; exact lps.out, lps.val.mono lc.gg fun _ h => h⟩
        exact lpsc.nv a14
      · rw [vw_succ]
        exact hno
  · subst hσ
    have hnil : (bg one other n).2 = [] := by simpa using hbf
    refine s_ret (C := is V.non) (z_c rfl) n11 fun v' G12 H12 n12 c12 => k v' G12 H12 n12 ?_
    rw [part_none hnil hno]
    rw [show v' = _ from c12]
    exact Dp.non
end QP

/-! first_parted, alike. -/
namespace QP
open PySem PySem.Spec PyProof.Rows L2 Evl QV QU QX QB QT QD
variable {P : Program} {w : World} {K : PySem.W.Frag} {mg : Str → Option Value} {base : Heap}
theorem q_drop {M0 : List Addr} {G0 H0 G H : Hp} {D : Ends} {σ : L2.St} {te : TE} {tw : TS} {C : Pd V} (h : Pz (te σ) G C) (n : Nv M0 G0 H0 G H) (k : ∀ v G2 H2, Nv [] G H G2 H2 → Nv M0 G0 H0 G2 H2 → C.p G2 v → tw D σ H2) : tSeq (tDrop te) tw D σ H := Pz.run h n k
theorem p_first_parted (B : Bi K mg) {f : Addr} {fd : FuncData} (F : Fun K "first_parted" "first_parted" s_first_parted f fd) (c_check_compared : Callee P w K mg base 7 "check_compared" P_check_compared (sp_check K)) (c_parting_lines : Callee P w K mg base 5 "parting_lines" P_parting_lines (sp_parting_lines K)) : FnOk P w K mg base CX0 8 f fd P_first_parted (sp_parting_lines K) := by
  refine F.ok sc_first_parted (fun vs H Q E ⟨G, C, _, ⟨one, other, v, u, e, _⟩, _⟩ => by rw [e]; rfl) fun cdv A outer s H vs Q E hr h => ?_
  have nd := sc_first_parted.nd
  have hu := hu_of hr
  have hu6 := hr.units
  refine ⟨_, (pss_cons (ps_expr (pe_call c_check_compared.ok (hr.mono (by decide)) (by rfl) c_check_compared.m c_check_compared.kp c_check_compared.b .nil pass0 (pa_cons (pv 0) pa_nil)))
      (pss_cons (ps_expr (pe_call c_check_compared.ok (hr.mono (by decide)) (by rfl) c_check_compared.m c_check_compared.kp c_check_compared.b .nil pass0 (pa_cons (pv 1) pa_nil)))
      (pss_one (ps_ret (pe_call c_parting_lines.ok (hr.mono (by decide)) (by rfl) c_parting_lines.m c_parting_lines.kp c_parting_lines.b .nil pass0 (pa_cons (pv 0) (pa_cons (pv 1) pa_nil))))))), ?_⟩
  obtain ⟨G, C, e, ⟨one, other, v, u, rfl, hv, hu', hz, rfl⟩, k⟩ := h
  have n0 : Nv [] G H G H := Nv.refl e
  refine q_drop (C := is .non) (z_call1 (A := dat K (rowD one)) (z_var rfl hv) stb_tr fun x G' _ hx => ⟨one, x, rfl, hx, hz.o1, Nat.le_trans hz.l1 (by decide), rfl⟩) n0 fun _ G1 H1 a1 n1 _ => ?_
  refine q_drop (C := is .non) (z_call1 (A := dat K (rowD other)) (z_var rfl (QN.dp_mono n1.gg _ _ hu')) stb_tr fun x G' _ hx => ⟨other, x, rfl, hx, hz.o2, Nat.le_trans hz.l2 (by decide), rfl⟩) n1 fun _ G2 H2 a2 n2 _ => ?_
  exact s_ret (z_call2 (A := dat K (rowD one)) (B := dat K (rowD other)) (z_var rfl (QN.dp_mono n2.gg _ _ hv)) (z_var rfl (QN.dp_mono n2.gg _ _ hu')) stb_tr fun x y G' _ hx hy => ⟨one, other, x, y, rfl, hx, hy, hz, rfl⟩) n2 k
def sp_alike (K : PySem.W.Frag) : Sp := spP fun vs G C => ∃ one other v u, vs = [v, u] ∧ Dp K G v (rowD one) ∧ Dp K G u (rowD other) ∧ Sized one other ∧ C = is (.bl (parting one other).isNone)
theorem partD_non {G : Hp} {v : V} {o : Option (List QB.Ln)} (h : Dp K G v (partD o)) : decide (v = .non) = o.isNone := by
  cases o with
  | none =>
    have h : v = .non := dp_none h
    rw [h]
    rfl
  | some t =>
    obtain ⟨a, xs, rfl, _⟩ := dp_list h
    rfl
theorem p_alike (B : Bi K mg) {f : Addr} {fd : FuncData} (F : Fun K "alike" "alike" s_alike f fd) (c_first_parted : Callee P w K mg base 8 "first_parted" P_first_parted (sp_parting_lines K)) : FnOk P w K mg base CX0 9 f fd P_alike (sp_alike K) := by
  refine F.ok sc_alike (fun vs H Q E ⟨G, C, _, ⟨one, other, v, u, e, _⟩, _⟩ => by rw [e]; rfl) fun cdv A outer s H vs Q E hr h => ?_
  have nd := sc_alike.nd
  have hu := hu_of hr
  have hu6 := hr.units
  refine ⟨_, (pss_one (ps_ret (pe_cmpR op_isN (pe_call c_first_parted.ok (hr.mono (by decide)) (by rfl) c_first_parted.m c_first_parted.kp c_first_parted.b .nil pass0 (pa_cons (pv 0) (pa_cons (pv 1) pa_nil))) pe_non (nomark _)))), ?_⟩
  obtain ⟨G, C, e, ⟨one, other, v, u, rfl, hv, hu', hz, rfl⟩, k⟩ := h
  have n0 : Nv [] G H G H := Nv.refl e
  refine s_ret (z_op (A := dat K (partD (parting one other))) (B := is .non) (z_call2 (A := dat K (rowD one)) (B := dat K (rowD other)) (z_var rfl hv) (z_var rfl hu') stb_tr fun x y G' _ hx hy => ⟨one, other, x, y, rfl, hx, hy, hz, rfl⟩) (z_c rfl) fun x y G' e1 a b => fun G1 H e0 a' s Q q => ⟨b, q _ G1 H (Nv.refl a'.ex) s (by rw [partD_non a]; rfl)⟩) n0 k
end QP

/-! The hand that draws. -/
namespace QD
open PySem L2 Evl QV QU QX QB QT
/-- the list at p, as it stands -/
def St (p : Addr) (xs : List V) : Hf := fun _ H => H p = some (.lst xs)
theorem st_stb {p : Addr} {xs : List V} {M : List Addr} (h : p ∈ M) : Stb M (St p xs) := fun {G H G2 H2} _ hm s => by
  show H2 p = _
  rw [hm p h]
  exact s
/-- the hand at p, n draws on at most -/
def HandOk (n : Nat) (xs : List V) : Prop := ∃ (h : Int) (k : Int) (b : Bool) (m : Int), xs = [.int h, .int k, .bl b, .int m] ∧ 0 ≤ k ∧ k ≤ n ∧ (b = false → 0 ≤ h ∧ h < 10 ^ 18) ∧ 0 ≤ m ∧ m < 2 ^ 31
def Hd (p : Addr) (n : Nat) : Hf := fun _ H => ∃ xs, H p = some (.lst xs) ∧ HandOk n xs
theorem hd_stb {p : Addr} {n : Nat} {M : List Addr} (h : p ∈ M) : Stb M (Hd p n) := fun {G H G2 H2} _ hm ⟨xs, s, hx⟩ => ⟨xs, by rw [hm p h]; exact s, hx⟩
theorem Hd.le {p : Addr} {n n' : Nat} (h : n ≤ n') {G H : Hp} (s : Hd p n G H) : Hd p n' G H := by
  obtain ⟨xs, h1, a, k, b, m, h2, h3, h4, h5⟩ := s
  exact ⟨xs, h1, a, k, b, m, h2, h3, by omega, h5⟩
/-- a new list, not in view, as a def's result -/
def spN (pre : List V → Hp → Pd (List V) → Prop) : Sp := fun vs H Q _ => ∃ G B, Ex G H ∧ pre vs G B ∧ ∀ p xs G2 H2, Nv [] G H G2 H2 → H p = none → G2 p = none → H2 p = some (.lst xs) → B.p G2 xs → Q (.ref p) H2
section
variable {K : PySem.W.Frag} {M M0 : List Addr} {S S1 S2 S3 : Hf} {G0 H0 G H : Hp} {D : Ends} {σ : L2.St} {ta tb te ti : TE} {tw : TS} {C : Pd V}
theorem l_callN1 {pre : List V → Hp → Pd (List V) → Prop} {E : XK} {A : Pd V} {B : Pd (List V)} {t1 : TE} (h : Pz (t1 σ) G A) (hp : ∀ x G', Ex G G' → A.p G' x → pre [x] G' B) : Lz (M := []) Tr Tr (tCall (spN pre) [] E (tCons t1 tNil) σ) G B := fun G1 H e0 a s Q q =>
  h G1 H e0 a s _ fun v G2 H2 n s2 c => ⟨G2, B, n.gh, hp v G2 (e0.trans n.gg) c, fun p xs G3 H3 n3 h1 h2 h3 b => q p xs G3 H3 (n.trans n3) (n.new h1) h2 h3 True.intro b⟩
/-- item j of the list at p -/
theorem z_at {p : Addr} {xs : List V} {i j : Nat} {v : V} (hi : σ[i]? = some (some (.ref p))) (h : xs[j]? = some v) : Ez M (St p xs) (St p xs) (tOp (rIxL K) (tVar i) (tC (.int (j : Nat))) σ) G (is v) := fun G1 H e a s Q q =>
  ⟨.ref p, hi, p, xs, (j : Nat), v, rfl, rfl, SqL.of s, atI_nat h, q v G1 H (Nv.refl a.ex) s rfl⟩
theorem z_int1e {i : Int} (h : Ez M S S1 (te σ) G (is (.int i))) : Ez M S S1 (tCB rInt1 (tCons te tNil) σ) G (is (.int i)) :=
  Ez.bind (g := fun x H Q => rInt1 [x] H Q) h fun x G' _ e => fun G1 H e0 a s Q q => .inl ⟨i, by rw [show x = _ from e], q _ G1 H (Nv.refl a.ex) s rfl⟩
theorem e_setM {p : Addr} {xs : List V} {x : V} {i j : Nat} (hi : σ[i]? = some (some (.ref p))) (hj : j < xs.length) (hM : Sub [p] M0 H0) (a : At [p] G H) (hv : H p = some (.lst xs)) (h : Ez [p] (St p xs) (St p xs) (te σ) G (is x)) (n : Nv M0 G0 H0 G H)
    (k : ∀ G2 H2, Nv [p] G H G2 H2 → Nv M0 G0 H0 G2 H2 → At [p] G2 H2 → H2 p = some (.lst (xs.set j x)) → D.nx σ H2) : tAsg te (gSub (tVar i) (tC (.int (j : Nat))) rSetL) D σ H :=
  Ez.run (Q := fun v H1 => gSub (tVar i) (tC (.int (j : Nat))) rSetL v σ H1 D.nx) h n hM a hv fun v G2 H2 n1 n2 a2 s2 c => by
    have c : v = x := c
    subst c
    have ch := Nv.chg (o := HO.lst (xs.set j v)) n2.gh (a2.mm p (by simp)).1
    exact ⟨.ref p, hi, p, xs, (j : Nat), j, rfl, rfl, s2, by unfold ixN; rw [if_pos (by omega), if_pos (by omega)]; rfl, k G2 _ (n1.trans ch) (n2.step ch hM) ⟨ch.gh, fun y hy => ⟨(a2.mm y hy).1, ch.th y (a2.mm y hy).2⟩⟩ upd_same⟩
theorem q_setM {p : Addr} {xs : List V} {x : V} {i j : Nat} (hi : σ[i]? = some (some (.ref p))) (hj : j < xs.length) (hM : Sub [p] M0 H0) (a : At [p] G H) (hv : H p = some (.lst xs)) (h : Ez [p] (St p xs) (St p xs) (te σ) G (is x)) (n : Nv M0 G0 H0 G H)
    (k : ∀ G2 H2, Nv [p] G H G2 H2 → Nv M0 G0 H0 G2 H2 → At [p] G2 H2 → H2 p = some (.lst (xs.set j x)) → tw D σ H2) : tSeq (tAsg te (gSub (tVar i) (tC (.int (j : Nat))) rSetL)) tw D σ H := e_setM (D := { D with nx := tw D }) hi hj hM a hv h n k
theorem z_intR {R : Int → Prop} {i : Int} (h : Ez M S S1 (te σ) G (is (.int i))) (hR : R i) : Ez M S S1 (te σ) G (intR R) := h.to fun _ v _ c => (⟨i, hR, c⟩ : ∃ j, R j ∧ v = V.int j)
theorem z_datR {R : PyData → Prop} {d : PyData} (h : Ez M S S1 (te σ) G (dat K d)) (hR : R d) : Ez M S S1 (te σ) G (datR K R) := h.to fun _ v _ c => (⟨d, hR, c⟩ : ∃ d, R d ∧ Dp K _ v d)
theorem tru_bl {b : Bool} {v : V} (h : (is (V.bl b)).p G v) : (truP K b).p G v := fun H _ => by
  rw [show v = _ from h]
  rfl
theorem zt_truB {b : Bool} (h : Ez M S S1 (te σ) G (is (.bl b))) : Ez M S S1 (fun H (Q : Bool → Hp → Prop) => te σ H fun x H' => ∃ k, TruV K x H' k ∧ Q k H') G (is b) := zt_truE (K := K) (h.to fun _ _ _ c => tru_bl c) rfl
/-- a def that changes the list at p, called with p first -/
theorem z_callP1 {pre : List V → List Addr → Hp → Hf → Hf → Pd V → Prop} {E : XK} {p : Addr} {i : Nat} (hi : σ[i]? = some (some (.ref p))) (hp : p ∈ M) (st : Stb M S)
    (h : ∀ G', Ex G G' → ∃ T T', (∀ G H, S G H → T G H) ∧ pre [.ref p] [p] G' T T' C ∧ ∀ G1 H1 G2 H2, S G1 H1 → Nv [p] G1 H1 G2 H2 → T' G2 H2 → S1 G2 H2) : Ez M S S1 (tCall (spM pre) [] E (tCons (tVar i) tNil) σ) G C := fun G1 H e a s Q q =>
  ⟨.ref p, hi, by
    obtain ⟨T, T', h1, h2, h3⟩ := h G1 e
    exact ⟨[p], G1, T, T', C, ⟨a.ex, fun x hx => a.mm x ((by simpa using hx : x = p) ▸ hp)⟩, h1 _ _ s, h2, fun v G2 H2 n t c => q v G2 H2 (n.mono fun x hx => (by simpa using hx : x = p) ▸ hp) (h3 _ _ _ _ s n t) c⟩⟩
end
end QD

/-! What draws: signs, hands. -/
namespace QP
open PySem PySem.Spec PyProof.Rows L2 Evl QV QU QX QB QT QD
variable {P : Program} {w : World} {K : PySem.W.Frag} {mg : Str → Option Value} {base : Heap}
def sp_law_signs : Sp := spP fun vs G C => vs = [] ∧ C = is (.str lineT)
theorem p_law_signs (B : Bi K mg) {f : Addr} {fd : FuncData} (F : Fun K "_law_signs" "_law_signs" s_law_signs f fd) : FnOk P w K mg base CX0 1 f fd P_law_signs sp_law_signs := by
  refine F.ok sc_law_signs (fun vs H Q E ⟨G, C, _, ⟨e, _⟩, _⟩ => by rw [e]; rfl) fun cdv A outer s H vs Q E hr h => ?_
  have nd := sc_law_signs.nd
  have hu := hu_of hr
  have hu6 := hr.units
  refine ⟨_, (pss_cons (ps_set (i := 0) nd rfl (.inl rfl) pe_str)
      (pss_one (ps_ret (pe_op op_add_str (pv 0) pe_str)))), ?_⟩
  obtain ⟨G, C, e, ⟨rfl, rfl⟩, k⟩ := h
  have n0 : Nv [] G H G H := Nv.refl e
  refine q_asg (C := is _) (z_c rfl) n0 fun v G1 H1 a1 n1 c1 => ?_
  rw [show v = _ from c1]
  exact s_ret (z_addS (z_var rfl rfl) (z_c rfl) (by decide +kernel) (by decide +kernel)) n1 k
def sp_law_cell (K : PySem.W.Frag) : Sp := spP fun vs G C => ∃ (ns : List Int) (i : Nat) (v : V), vs = [v, .int i] ∧ Dp K G v (.list (ns.map .int)) ∧ C = intR fun _ => True
theorem p_law_cell (B : Bi K mg) {f : Addr} {fd : FuncData} (F : Fun K "_law_cell" "_law_cell" s_law_cell f fd) : FnOk P w K mg base CX0 1 f fd P_law_cell (sp_law_cell K) := by
  refine F.ok sc_law_cell (fun vs H Q E ⟨G, C, _, ⟨ns, i, v, e, _⟩, _⟩ => by rw [e]; rfl) fun cdv A outer s H vs Q E hr h => ?_
  have nd := sc_law_cell.nd
  have hu := hu_of hr
  have hu6 := hr.units
  refine ⟨_, (pss_cons (ps_if (pt_cmpR op_lt (pv 1) (pe_callB (QU.lenS (K := K) rfl) (by rfl) B.len_ (by decide +kernel) (pa_cons (pv 0) pa_nil)) (nomark _)) (pss_one (ps_ret (pe_ix (QU.ixL (K := K) rfl) (pv 0) (pv 1) (fun _ _ => rfl)))) pss_nil)
      (pss_one (ps_ret pe_int))), ?_⟩
  obtain ⟨G, C, e, ⟨ns, i, v, rfl, hv, rfl⟩, k⟩ := h
  have n0 : Nv [] G H G H := Nv.refl e
  refine q_if (b := decide ((i : Int) < ((ns.map PyData.int).length : Nat))) (zt_test (z_opI (z_var rfl rfl) (z_len1 (z_var rfl hv)) rfl)) n0 (fun hb G1 H1 a1 n1 => ?_) fun hb G1 H1 a1 n1 => ?_
  · have hlt : i < ns.length := by
      have := of_decide_eq_true hb
      rw [List.length_map] at this
      omega
    exact QX.s_ret (C := intR fun _ => True) (z_intR (z_int (z_ixDL (d := .int ns[i]) (z_var rfl (QN.dp_mono n1.gg _ _ hv)) (z_var rfl rfl) (by rw [List.getElem?_map, List.getElem?_eq_getElem hlt]; rfl))) True.intro) n1 k
  · exact QX.s_ret (C := intR fun _ => True) (z_c ⟨_, True.intro, rfl⟩) n1 k
def handP (n : Nat) : Pd (List V) := ⟨fun _ xs => HandOk n xs, fun _ h => h⟩
def sp_law_hand : Sp := spN fun vs G B => ∃ i : Int, vs = [.int i] ∧ B = handP 0
theorem p_law_hand (B : Bi K mg) {f : Addr} {fd : FuncData} (F : Fun K "_law_hand" "_law_hand" s_law_hand f fd) : FnOk P w K mg base CX0 1 f fd P_law_hand sp_law_hand := by
  refine F.ok sc_law_hand (fun vs H Q E ⟨G, C, _, ⟨i, e, _⟩, _⟩ => by rw [e]; rfl) fun cdv A outer s H vs Q E hr h => ?_
  have nd := sc_law_hand.nd
  have hu := hu_of hr
  have hu6 := hr.units
  refine ⟨_, (pss_cons (ps_if (pt_cmpR op_ge (pv 0) (pe_op op_pow pe_int pe_int) (nomark _)) (pss_one (ps_ret (pe_lst (pa_cons (pv 0) (pa_cons pe_int (pa_cons pe_bl (pa_cons (pe_op op_modN (pe_callTy call_int1 (by rfl) B.int_ (by decide +kernel) (pa_cons (pv 0) pa_nil)) pe_int) pa_nil))))))) pss_nil)
      (pss_one (ps_ret (pe_lst (pa_cons (pe_op op_modN (pe_callTy call_int1 (by rfl) B.int_ (by decide +kernel) (pa_cons (pv 0) pa_nil)) (pe_op op_pow pe_int pe_int)) (pa_cons pe_int (pa_cons pe_bl (pa_cons pe_int pa_nil)))))))), ?_⟩
  obtain ⟨G, C, e, ⟨i, rfl, rfl⟩, k⟩ := h
  have n0 : Nv [] G H G H := Nv.refl e
  have hp : Pz (tOp (rI CPow fun i j => .int (i ^ j.toNat)) (tC (.int 10)) (tC (.int 18)) [some (V.int i)]) G (is (.int (10 ^ 18))) := z_opC (z_c rfl) (z_c rfl) ⟨by decide, by decide, by decide⟩ (by decide +kernel)
  refine q_if (b := decide ((10 : Int) ^ 18 ≤ i)) (zt_test (z_opI (z_var rfl rfl) hp rfl)) n0 (fun hb G1 H1 a1 n1 => ?_) fun hb G1 H1 a1 n1 => ?_
  · exact Lz.run (B := is [.int i, .int 0, .bl true, .int (i.fmod 2147483647)]) (l_lst (z_disp (z_var rfl rfl) (z_disp (z_c rfl) (z_disp (z_c rfl) (z_disp (z_opC (z_int1e (z_var rfl rfl)) (z_c rfl) (by decide) rfl) z_nil)))) stb_tr fun G' xs b => by rw [show xs = _ from b]; show 4 ≤ sizeLine; decide) n1 sub0 (At.pure n1.gh) True.intro fun l xs G2 H2 a2 n2 _ _ hl lc b => k l xs G2 H2 n2 lc.new lc.out lc.val (by
      rw [show xs = _ from b]
      refine ⟨_, _, _, _, rfl, Int.le_refl _, Int.le_refl _, (fun z => by cases z), ?_, ?_⟩
      · exact Int.fmod_nonneg_of_pos _ (by decide)
      · exact Int.lt_trans (Int.fmod_lt_of_pos _ (by decide)) (by decide))
  · refine Lz.run (B := is [.int (i.fmod (10 ^ 18)), .int 0, .bl false, .int 0]) (l_lst (z_disp (z_opC (z_int1e (z_var rfl rfl)) (Ez.mono hp n1.gg) (by decide) rfl) (z_disp (z_c rfl) (z_disp (z_c rfl) (z_disp (z_c rfl) z_nil)))) stb_tr fun G' xs b => by rw [show xs = _ from b]; show 4 ≤ sizeLine; decide) n1 sub0 (At.pure n1.gh) True.intro fun l xs G2 H2 a2 n2 _ _ hl lc b => k l xs G2 H2 n2 lc.new lc.out lc.val (by
      rw [show xs = _ from b]
      exact ⟨_, _, _, _, rfl, Int.le_refl _, Int.le_refl _, fun _ => ⟨Int.fmod_nonneg_of_pos _ (by decide), Int.fmod_lt_of_pos _ (by decide)⟩, by decide, by decide⟩)
def sp_law_take : Sp := spM fun vs M G S S' C => ∃ p r n, vs = [.ref p, .int r] ∧ M = [p] ∧ 0 < r ∧ r < 1000 ∧ n ≤ 1000000000 ∧ S = Hd p n ∧ S' = Hd p (n + 1) ∧ C = intR fun i => 0 ≤ i ∧ i < r
theorem p_law_take (B : Bi K mg) {f : Addr} {fd : FuncData} (F : Fun K "_law_take" "_law_take" s_law_take f fd) : FnOk P w K mg base CX0 1 f fd P_law_take sp_law_take := by
  refine F.ok sc_law_take (fun vs H Q E ⟨M, G, S, S', C, _, _, ⟨p, r, n, e, _⟩, _⟩ => by rw [e]; rfl) fun cdv A outer s H vs Q E hr h => ?_
  have nd := sc_law_take.nd
  have hu := hu_of hr
  have hu6 := hr.units
  refine ⟨_, (pss_cons (ps_if (pw_and (pt_truth (pe_ix (QU.ixL (K := K) rfl) (pv 0) pe_int (fun _ _ => rfl)) (by intro _; rfl)) (pw_and1 (pt_cmpR op_gt (pe_ix (QU.ixL (K := K) rfl) (pv 0) pe_int (fun _ _ => rfl)) pe_int (nomark _)))).pt (pss_cons (ps_set (i := 2) nd rfl (.inl rfl) (pe_op op_modN (pe_callTy call_int1 (by rfl) B.int_ (by decide +kernel) (pa_cons (pe_ix (QU.ixL (K := K) rfl) (pv 0) pe_int (fun _ _ => rfl)) pa_nil)) (pv 1)))
      (pss_cons (ps_asg (pe_op op_fdivN (pe_ix (QU.ixL (K := K) rfl) (pv 0) pe_int (fun _ _ => rfl)) (pv 1)) (pg_sub (pv 0) pe_int set_list))
      (pss_one (ps_ret (pv 2))))) pss_nil)
      (pss_cons (ps_if (pt_truth (pe_ix (QU.ixL (K := K) rfl) (pv 0) pe_int (fun _ _ => rfl)) (by intro _; rfl)) (pss_cons (ps_asg (pe_ix (QU.ixL (K := K) rfl) (pv 0) pe_int (fun _ _ => rfl)) (pg_sub (pv 0) pe_int set_list))
      (pss_one (ps_asg pe_bl (pg_sub (pv 0) pe_int set_list)))) pss_nil)
      (pss_cons (ps_asg (pe_op op_add (pe_ix (QU.ixL (K := K) rfl) (pv 0) pe_int (fun _ _ => rfl)) pe_int) (pg_sub (pv 0) pe_int set_list))
      (pss_cons (ps_set (i := 3) nd rfl (.inl rfl) (pe_ix (QU.ixL (K := K) rfl) (pv 0) pe_int (fun _ _ => rfl)))
      (pss_cons (ps_set (i := 4) nd rfl (.inl rfl) (pe_op op_modN (pe_callTy call_int1 (by rfl) B.int_ (by decide +kernel) (pa_cons (pe_op op_add (pe_op op_add (pe_op op_add (pe_op op_mul (pe_op op_add (pe_ix (QU.ixL (K := K) rfl) (pv 0) pe_int (fun _ _ => rfl)) pe_int) (pe_op op_add (pe_ix (QU.ixL (K := K) rfl) (pv 0) pe_int (fun _ _ => rfl)) (pe_op op_mul pe_int (pv 3)))) (pe_op op_mul (pe_op op_mul (pe_op op_mul pe_int (pv 3)) (pv 3)) (pv 3))) (pe_op op_mul pe_int (pe_ix (QU.ixL (K := K) rfl) (pv 0) pe_int (fun _ _ => rfl)))) (pv 3)) pa_nil)) pe_int))
      (pss_cons (ps_set (i := 4) nd rfl (.inl rfl) (pe_op op_modN (pe_callTy call_int1 (by rfl) B.int_ (by decide +kernel) (pa_cons (pe_op op_add (pe_op op_add (pe_op op_mul (pv 4) (pv 4)) (pe_op op_mul (pe_op op_mul pe_int (pv 3)) (pv 3))) (pv 4)) pa_nil)) pe_int))
      (pss_one (ps_ret (pe_op op_modN (pe_callTy call_int1 (by rfl) B.int_ (by decide +kernel) (pa_cons (pe_op op_fdivN (pv 4) pe_int) pa_nil)) (pv 1)))))))))), ?_⟩
  obtain ⟨M, G, S, S', C, aM, hS, ⟨p, r, n, rfl, rfl, hr0, hr1, hn, rfl, rfl, rfl⟩, k⟩ := h
  obtain ⟨xs, hp, hh, kk, b, m, rfl, hk0, hk1, hbf, hm0, hm1⟩ := hS
  have n0 : Nv [p] G H G H := Nv.refl aM.ex
  have hrne : r ≠ 0 := by omega
  have hlen4 : ∀ (a b c d : V), ([a, b, c, d] : List V).length = 4 := fun _ _ _ _ => rfl
  refine q_ifSM (M := [p]) (S := St p [.int hh, .int kk, .bl b, .int m]) (S1 := St p [.int hh, .int kk, .bl b, .int m]) (b := b && decide (0 < hh)) (fun G' H' => Nv [p] G H G' H' ∧ At [p] G' H' ∧ H' p = some (.lst [.int hh, .int kk, .bl b, .int m])) (zt_and (zt_truB (z_at (j := 2) rfl rfl)) fun _ => zt_test (z_opI (z_at (j := 0) rfl rfl) (z_c rfl) rfl)) n0 subM aM hp (fun hb G1 H1 a1 n1 at1 s1 _ => ?_) (fun hb G1 H1 a1 n1 at1 s1 => ⟨n1, at1, s1⟩) fun G1 H1 ⟨n1, at1, s1⟩ => ?_
  · refine q_asgM (M := [p]) (S := St p _) (S1 := St p _) (C := is (.int (hh.fmod r))) (z_opC (z_int1e (z_at (j := 0) rfl rfl)) (z_var rfl rfl) hrne rfl) n1 subM at1 s1 fun v2 G2 H2 a2 n2 at2 s2 hv2 => ?_
    rw [show v2 = _ from hv2]
    refine q_setM (j := 0) rfl (by rw [hlen4]; decide) subM at2 s2 (z_opC (z_at (j := 0) rfl rfl) (z_var rfl rfl) ⟨hrne, by omega⟩ rfl) n2 fun G3 H3 a3 n3 at3 s3 => ?_
    refine QX.s_retM (M := [p]) (S := St p _) (S1 := St p _) (C := is (.int (hh.fmod r))) (z_var rfl rfl) n3 subM at3 s3 fun v4 G4 H4 n4 s4 hv4 => k v4 G4 H4 n4 ⟨_, s4, _, _, _, _, rfl, hk0, by omega, fun z => ?_, hm0, hm1⟩ ⟨_, ⟨Int.fmod_nonneg_of_pos _ hr0, Int.fmod_lt_of_pos _ hr0⟩, hv4⟩
    rw [z] at hb
    cases hb
  · refine q_ifSM (M := [p]) (S := St p [.int hh, .int kk, .bl b, .int m]) (S1 := St p [.int hh, .int kk, .bl b, .int m]) (b := b) (fun G' H' => Nv [p] G H G' H' ∧ At [p] G' H' ∧ ∃ h' b', H' p = some (.lst [.int h', .int kk, .bl b', .int m]) ∧ 0 ≤ h' ∧ h' < 10 ^ 18) (zt_truB (z_at (j := 2) rfl rfl)) n1 subM at1 s1 (fun hb G2 H2 a2 n2 at2 s2 next => ?_) (fun hb G2 H2 a2 n2 at2 s2 => ⟨n2, at2, hh, b, s2, (hbf hb).1, (hbf hb).2⟩) fun G2 H2 ⟨n2, at2, h', b', s2, hh0, hh1⟩ => ?_
    · refine q_setM (j := 0) rfl (by rw [hlen4]; decide) subM at2 s2 (z_at (j := 3) rfl rfl) n2 fun G3 H3 a3 n3 at3 s3 => ?_
      refine e_setM (j := 2) (x := .bl false) rfl (by show 2 < 4; decide) subM at3 s3 (z_c rfl) n3 fun G4 H4 a4 n4 at4 s4 => next G4 H4 ⟨n4, at4, m, false, s4, hm0, by
        have : (2 : Int) ^ 31 < 10 ^ 18 := by decide
        omega⟩
    · refine q_setM (j := 1) (x := .int (kk + 1)) rfl (by rw [hlen4]; decide) subM at2 s2 (z_opI (z_at (j := 1) rfl rfl) (z_c rfl) rfl) n2 fun G3 H3 a3 n3 at3 s3 => ?_
      have s3 : H3 p = some (.lst [.int h', .int (kk + 1), .bl b', .int m]) := s3
      refine q_asgM (M := [p]) (S := St p [.int h', .int (kk + 1), .bl b', .int m]) (S1 := St p [.int h', .int (kk + 1), .bl b', .int m]) (C := is (.int (kk + 1))) (z_at (j := 1) rfl rfl) n3 subM at3 s3 fun v4 G4 H4 a4 n4 at4 s4 hv4 => ?_
      rw [show v4 = _ from hv4]
      have hkn : kk + 1 ≤ 1000000001 := by omega
      have c64 : (1000000001 : Int) < 2 ^ 64 := by decide
      have d64 : (10 : Int) ^ 18 + 3 < 2 ^ 64 := by decide
      refine q_asgM (M := [p]) (S := St p [.int h', .int (kk + 1), .bl b', .int m]) (S1 := St p [.int h', .int (kk + 1), .bl b', .int m]) (C := intR fun i => 0 ≤ i ∧ i < 2147483629) (z_intR (z_opC (z_int1e (z_opI (z_opI (z_opI (z_opC (z_opI (z_at (j := 0) rfl rfl) (z_c rfl) rfl) (z_opI (z_at (j := 0) rfl rfl) (z_opC (z_c rfl) (z_var rfl rfl) (.inl (by decide)) rfl) rfl) (.inl ⟨by omega, by omega⟩) rfl) (z_opC (z_opC (z_opC (z_c rfl) (z_var rfl rfl) (.inl (by decide)) rfl) (z_var rfl rfl) (.inr ⟨by omega, by omega⟩) rfl) (z_var rfl rfl) (.inr ⟨by omega, by omega⟩) rfl) rfl) (z_opC (z_c rfl) (z_at (j := 0) rfl rfl) (.inl (by decide)) rfl) rfl) (z_var rfl rfl) rfl)) (z_c rfl) (by decide) rfl) ⟨Int.fmod_nonneg_of_pos _ (by decide), Int.fmod_lt_of_pos _ (by decide)⟩) n4 subM at4 s4 fun v5 G5 H5 a5 n5 at5 s5 ⟨m1, ⟨hm10, hm11⟩, hv5⟩ => ?_
      rw [hv5]
      refine q_asgM (M := [p]) (S := St p [.int h', .int (kk + 1), .bl b', .int m]) (S1 := St p [.int h', .int (kk + 1), .bl b', .int m]) (C := intR fun i => 0 ≤ i ∧ i < 2147483587) (z_intR (z_opC (z_int1e (z_opI (z_opI (z_opC (z_var rfl rfl) (z_var rfl rfl) (.inl ⟨by omega, by omega⟩) rfl) (z_opC (z_opC (z_c rfl) (z_var rfl rfl) (.inl (by decide)) rfl) (z_var rfl rfl) (.inr ⟨by omega, by omega⟩) rfl) rfl) (z_var rfl rfl) rfl)) (z_c rfl) (by decide) rfl) ⟨Int.fmod_nonneg_of_pos _ (by decide), Int.fmod_lt_of_pos _ (by decide)⟩) n5 subM at5 s5 fun v6 G6 H6 a6 n6 at6 s6 ⟨m2, ⟨hm20, hm21⟩, hv6⟩ => ?_
      rw [hv6]
      refine QX.s_retM (M := [p]) (S := St p [.int h', .int (kk + 1), .bl b', .int m]) (S1 := St p [.int h', .int (kk + 1), .bl b', .int m]) (C := intR fun i => 0 ≤ i ∧ i < r) (z_intR (z_opC (z_int1e (z_opC (z_var rfl rfl) (z_c rfl) ⟨by decide, by decide⟩ rfl)) (z_var rfl rfl) hrne rfl) ⟨Int.fmod_nonneg_of_pos _ hr0, Int.fmod_lt_of_pos _ hr0⟩) n6 subM at6 s6 fun v7 G7 H7 n7 s7 hv7 => k v7 G7 H7 n7 ⟨_, s7, _, _, _, _, rfl, by omega, by omega, fun _ => ⟨hh0, hh1⟩, hm0, hm1⟩ hv7
end QP

/-! Drawn numbers and signs. -/
namespace QD
open PySem L2 Evl QV QU QX QB QT
def sgnP : Pd V := some_ fun c => both_ (Sgn c) (is (.str (chr c)))
def boolP : Pd V := some_ fun b => is (.bl b)
/-- letters: twelve signs, the first three apart -/
structure LetOk (L : Str) : Prop where
  len : L.cps.size = 12
  sgn : ∀ c ∈ L.cps.toList, Sgn c
  dif : ∀ (i j : Nat), i < j → j < 3 → L.cps.toList[i]? ≠ L.cps.toList[j]?
def letP : Pd V := some_ fun L => both_ (LetOk L) (is (.str L))
section
variable {K : PySem.W.Frag} {M M0 : List Addr} {S S1 S2 S3 : Hf} {G0 H0 G H : Hp} {D : Ends} {σ : L2.St} {ta tb te ti : TE} {tw : TS} {C : Pd V} {R R1 R2 : Int → Prop}
theorem z_opRR {g : Int → Int → Int} {Q0 : Int → Prop} (ha : Ez M S S1 (ta σ) G (intR R1)) (hb : Ez M S1 S2 (tb σ) G (intR R2)) (h : ∀ i j, R1 i → R2 j → Q0 (g i j)) : Ez M S S2 (tOp (rI0 fun i j => .int (g i j)) ta tb σ) G (intR Q0) :=
  z_op ha hb fun x y G' e ⟨i, hi, hx⟩ ⟨j, hj, hy⟩ => fun G1 H e0 a s Q q => ⟨i, j, hx, hy, q _ G1 H (Nv.refl a.ex) s ⟨_, h i j hi hj, rfl⟩⟩
theorem z_isR {i : Int} (h : Ez M S S1 (te σ) G (is (.int i))) : Ez M S S1 (te σ) G (intR fun j => j = i) := z_intR h rfl
theorem z_modR {m : Int} (ha : Ez M S S1 (ta σ) G (intR R)) (hm : 0 < m) : Ez M S S1 (tOp (rI (fun _ j => j ≠ 0) fun i j => .int (i.fmod j)) ta (tC (.int m)) σ) G (intR fun i => 0 ≤ i ∧ i < m) :=
  z_op (B := is (.int m)) ha (z_c rfl) fun x y G' e ⟨i, hi, hx⟩ hy => fun G1 H e0 a s Q q => ⟨i, m, hx, hy, by omega, q _ G1 H (Nv.refl a.ex) s ⟨_, ⟨Int.fmod_nonneg_of_pos _ hm, Int.fmod_lt_of_pos _ hm⟩, rfl⟩⟩
theorem z_cmpR {g : Int → Int → Bool} (ha : Ez M S S1 (ta σ) G (intR R1)) (hb : Ez M S1 S2 (tb σ) G (intR R2)) : Ez M S S2 (tOp (rI0 fun i j => .bl (g i j)) ta tb σ) G boolP :=
  z_op ha hb fun x y G' e ⟨i, hi, hx⟩ ⟨j, hj, hy⟩ => fun G1 H e0 a s Q q => ⟨i, j, hx, hy, q _ G1 H (Nv.refl a.ex) s ⟨_, rfl⟩⟩
theorem z_eqR (ha : Ez M S S1 (ta σ) G (intR R1)) (hb : Ez M S1 S2 (tb σ) G (intR R2)) : Ez M S S2 (tOp rEq ta tb σ) G boolP :=
  z_op ha hb fun x y G' e ⟨i, hi, hx⟩ ⟨j, hj, hy⟩ => fun G1 H e0 a s Q q => by
    subst hx hy
    exact ⟨rfl, q _ G1 H (Nv.refl a.ex) s ⟨_, rfl⟩⟩
theorem zt_anyB (h : Ez M S S1 (te σ) G boolP) : Ez M S S1 (tTest te σ) G (any : Pd Bool) := Ez.bind (g := fun (x : V) H' (Q : Bool → Hp → Prop) => ∃ k, x = .bl k ∧ Q k H') (D := any) h fun x G' _ ⟨b, c⟩ => fun G1 H e0 a s Q q => ⟨b, (show x = V.bl b from c), q b G1 H (Nv.refl a.ex) s trivial⟩
/-- a sign of a text of signs -/
theorem z_pick {x : Str} (hx : Ez M S S1 (ta σ) G (is (.str x))) (hi : Ez M S1 S2 (tb σ) G (intR fun i => 0 ≤ i ∧ i < (x.cps.size : Nat))) (hz : x.length ≤ sizeLine) (hs : ∀ c ∈ x.cps.toList, Sgn c) : Ez M S S2 (tOp rIxS ta tb σ) G sgnP :=
  z_op hx hi fun u y G' e a ⟨i, ⟨h0, h1⟩, hy⟩ => by
    have a : u = _ := a
    subst a hy
    have hlt : i.toNat < x.cps.toList.length := by simp; omega
    have hat : atI x.cps.toList i = some x.cps.toList[i.toNat] := by
      have h := atI_nat (List.getElem?_eq_getElem hlt)
      rw [Int.toNat_of_nonneg h0] at h
      exact h
    exact z_ixS hz hat ⟨_, hs _ (List.getElem_mem hlt), rfl⟩
theorem line_size : lineT.cps.size = 94 := by decide +kernel
theorem line_sgn : ∀ c ∈ lineT.cps.toList, Sgn c := fun c hc => mem_sgs.mp (line_cps ▸ hc)
theorem line_len : lineT.length ≤ sizeLine := by decide +kernel
/-- a call by arguments, the first the list at p -/
theorem z_callP2 {pre : List V → List Addr → Hp → Hf → Hf → Pd V → Prop} {E : XK} {p : Addr} {i : Nat} {A : Pd V} (hi : σ[i]? = some (some (.ref p))) (hp : p ∈ M) (ht : Pz (te σ) G A) (st : Stb M S)
    (h : ∀ x G', Ex G G' → A.p G' x → ∃ T T', (∀ G H, S G H → T G H) ∧ pre [.ref p, x] [p] G' T T' C ∧ ∀ G1 H1 G2 H2, S G1 H1 → Nv [p] G1 H1 G2 H2 → T' G2 H2 → S1 G2 H2) : Ez M S S1 (tCall (spM pre) [] E (tCons (tVar i) (tCons te tNil)) σ) G C := fun G1 H e a s Q q =>
  ⟨.ref p, hi, Ez.lift (M := M) ht st G1 H e a s _ fun x G2 H2 n s2 hx => by
    obtain ⟨T, T', h1, h2, h3⟩ := h x G2 (e.trans n.gg) hx
    exact ⟨[p], G2, T, T', C, ⟨n.gh, fun y hy => (a.nv n).mm y ((by simpa using hy : y = p) ▸ hp)⟩, h1 _ _ s2, h2, fun v G3 H3 n3 t c => q v G3 H3 (n.trans (n3.mono fun y hy => (by simpa using hy : y = p) ▸ hp)) (h3 _ _ _ _ s2 n3 t) c⟩⟩
theorem z_callP3 {pre : List V → List Addr → Hp → Hf → Hf → Pd V → Prop} {E : XK} {p : Addr} {i : Nat} {A B : Pd V} {te2 : TE} (hi : σ[i]? = some (some (.ref p))) (hp : p ∈ M) (ht : Pz (te σ) G A) (ht2 : Pz (te2 σ) G B) (st : Stb M S)
    (h : ∀ x y G', Ex G G' → A.p G' x → B.p G' y → ∃ T T', (∀ G H, S G H → T G H) ∧ pre [.ref p, x, y] [p] G' T T' C ∧ ∀ G1 H1 G2 H2, S G1 H1 → Nv [p] G1 H1 G2 H2 → T' G2 H2 → S1 G2 H2) : Ez M S S1 (tCall (spM pre) [] E (tCons (tVar i) (tCons te (tCons te2 tNil))) σ) G C := fun G1 H e a s Q q =>
  ⟨.ref p, hi, Ez.lift (M := M) ht st G1 H e a s _ fun x G2 H2 n s2 hx => Ez.lift (M := M) ht2 st G2 H2 (e.trans n.gg) (a.nv n) s2 _ fun y G3 H3 n3 s3 hy => by
    obtain ⟨T, T', h1, h2, h3⟩ := h x y G3 ((e.trans n.gg).trans n3.gg) (A.mono n3.gg hx) hy
    exact ⟨[p], G3, T, T', C, ⟨n3.gh, fun z hz => ((a.nv n).nv n3).mm z ((by simpa using hz : z = p) ▸ hp)⟩, h1 _ _ s3, h2, fun v G4 H4 n4 t c => q v G4 H4 ((n.trans n3).trans (n4.mono fun z hz => (by simpa using hz : z = p) ▸ hp)) (h3 _ _ _ _ s3 n4 t) c⟩⟩
/-- drawn items, each of a kind by its place -/
def gensI (K : PySem.W.Frag) (n : Nat) (P : Nat → PyData → Prop) : Pd (List V) := some_ fun ds => both_ (ds.length = n ∧ ∀ (j : Nat) d, ds[j]? = some d → P j d) (dats K ds)
theorem l_genI {S1 : Hf} {P : Nat → PyData → Prop} {wi : TI} {n : Nat} {B : Nat → Pd V} {vs : List Nat} {j : Nat} (Sx : Nat → Hf) (h : Wk M S S1 (as n B) wi σ G) (hn : n ≤ 1000000) (hS : ∀ G H, S1 G H → Sx 0 G H) (st : ∀ i, Stb M (Sx i)) (hS2 : ∀ G H, Sx n G H → S2 G H) (hw : ∀ x, wipe ((wipe σ vs).set j (some x)) vs = wipe σ vs)
    (k : ∀ i x G1, i < n → Ex G G1 → (B i).p G1 x → Ez M (Sx i) (Sx (i + 1)) (te ((wipe σ vs).set j (some x))) G1 (datR K (P i))) : Lz (M := M) S S2 (tLc wi (gName j) tYes te vs σ) G (gensI K n P) :=
  l_lcg (γ := Unit) h (fun n' B' ⟨e, _⟩ => e ▸ hn) fun n' B' G1 e1 ⟨en, eB⟩ => by
    subst en eB
    refine ⟨fun i _ => Sx i, fun i _ => gensI K i P, fun G H h _ => ⟨(), hS G H h, ⟨[], ⟨rfl, fun j d q => by simp at q⟩, DpAll.nil⟩⟩, fun i _ => st i, fun _ => hS2, fun _ _ _ _ h => h, fun i _ x acc G2 hi e2 b aa => Ez.g ?_⟩
    obtain ⟨ds, ⟨l1, l2⟩, l3⟩ := aa
    intro G3 H3 e3 a3 s3 Q q
    refine ⟨hw x, yes_ ?_⟩
    rw [if_pos rfl]
    refine k i x G3 hi ((e1.trans e2).trans e3) ((B' i).mono e3 b) G3 H3 (Ex.refl _) a3 s3 _ fun v G4 H4 n4 s4 ⟨d, hd, hv⟩ => q (some v) G4 H4 n4 s4 ⟨ds ++ [d], ⟨?_, fun j' d' hd' => ?_⟩, da_snoc (QN.dp_monos (e3.trans n4.gg) _ _ l3) hv⟩
    · rw [List.length_append, l1]
      rfl
    · by_cases hj : j' < ds.length
      · rw [List.getElem?_append_left hj] at hd'
        exact l2 j' d' hd'
      · rw [List.getElem?_append_right (by omega)] at hd'
        have h0 : j' - ds.length = 0 := by
          cases hh : j' - ds.length with
          | zero => rfl
          | succ m => rw [hh] at hd'; simp at hd'
        rw [h0] at hd'
        have e5 : d = d' := by simpa using hd'
        have e6 : j' = i := by omega
        rw [← e5, e6]
        exact hd
/-! texts of signs -/
theorem join_chr (l : List Nat) : Txt.join Str.empty (l.map chr) = lnS l := by
  rw [TL.join_eq]
  have h1 : (Str.join Str.empty (l.map chr)).cps.toList = l := by
    have h2 := TL.tl_join Str.empty (l.map chr)
    have h3 : ∀ l : List Nat, TL.joinL [] ((l.map chr).map TL.tl) = l := fun l => by
      induction l with
      | nil => rfl
      | cons a l ih =>
        cases l with
        | nil => rfl
        | cons b l =>
          show a :: TL.joinL [] (((b :: l).map chr).map TL.tl) = _
          rw [ih]
    have h4 : TL.tl Str.empty = [] := rfl
    rw [h4, h3] at h2
    exact h2
  have h5 : ∀ (x : Str) (l : List Nat), x.cps.toList = l → x = lnS l := fun x l h => by
    subst h
    rfl
  exact h5 _ _ h1
end
end QD

/-! What draws: letters, signs, entries, patterns. -/
namespace QP
open PySem PySem.Spec PyProof.Rows L2 Evl QV QU QX QB QT QD
variable {P : Program} {w : World} {K : PySem.W.Frag} {mg : Str → Option Value} {base : Heap}
/-- a draw -/
theorem z_take {M : List Addr} {S S1 : Hf} {G : Hp} {σ : L2.St} {te : TE} {E : XK} {p : Addr} {i n : Nat} {r : Int} (hi : σ[i]? = some (some (.ref p))) (hp : p ∈ M) (ht : Pz (te σ) G (is (.int r))) (st : Stb M S) (hr : 0 < r ∧ r < 1000) (hn : n ≤ 1000000000)
    (h1 : ∀ G H, S G H → Hd p n G H) (h2 : ∀ G1 H1 G2 H2, S G1 H1 → Nv [p] G1 H1 G2 H2 → Hd p (n + 1) G2 H2 → S1 G2 H2) : Ez M S S1 (tCall sp_law_take [] E (tCons (tVar i) (tCons te tNil)) σ) G (intR fun i => 0 ≤ i ∧ i < r) :=
  z_callP2 hi hp ht st fun x G' _ hx => ⟨Hd p n, Hd p (n + 1), h1, ⟨p, r, n, by rw [show x = _ from hx], rfl, hr.1, hr.2, hn, rfl, rfl, rfl⟩, h2⟩
theorem z_take1 {G : Hp} {σ : L2.St} {te : TE} {E : XK} {p : Addr} {i n : Nat} {r : Int} (hi : σ[i]? = some (some (.ref p))) (ht : Pz (te σ) G (is (.int r))) (hr : 0 < r ∧ r < 1000) (hn : n ≤ 1000000000) : Ez [p] (Hd p n) (Hd p (n + 1)) (tCall sp_law_take [] E (tCons (tVar i) (tCons te tNil)) σ) G (intR fun i => 0 ≤ i ∧ i < r) :=
  z_take hi (by simp) ht (hd_stb (by simp)) hr hn (fun _ _ h => h) fun _ _ _ _ _ _ h => h
def lettersOf (a st : Nat) : List Nat := (List.range 12).map fun i => sgs.getD ((a + i * st) % 94) 0
theorem sgs_len : sgs.length = 94 := by decide +kernel
theorem sgs_at {j : Nat} (h : j < 94) : sgs[j]? = some (sgs.getD j 0) := by
  rw [List.getD_eq_getElem?_getD, List.getElem?_eq_getElem (by rw [sgs_len]; exact h)]
  rfl
theorem sgs_atS {j : Nat} (h : j < 94) : Sgn (sgs.getD j 0) := mem_sgs.mp (List.mem_of_getElem? (sgs_at h))
theorem lettersOf_ok {a st : Nat} (h1 : 1 ≤ st) (h2 : st ≤ 5) : LetOk (lnS (lettersOf a st)) := by
  have hat : ∀ i, i < 12 → (lnS (lettersOf a st)).cps.toList[i]? = some (sgs.getD ((a + i * st) % 94) 0) := fun i hi => by
    show (lettersOf a st).toArray.toList[i]? = _
    unfold lettersOf
    simp [hi]
  refine ⟨by show (lettersOf a st).toArray.size = 12; simp [lettersOf], fun c hc => ?_, fun i j hij hj => ?_⟩
  · have hc : c ∈ lettersOf a st := by simpa [lnS] using hc
    obtain ⟨i, _, rfl⟩ := List.mem_map.mp hc
    exact sgs_atS (Nat.mod_lt _ (by decide))
  · rw [hat i (by omega), hat j (by omega)]
    intro e
    have e := Option.some.inj e
    have hi94 : (a + i * st) % 94 < 94 := Nat.mod_lt _ (by decide)
    have hj94 : (a + j * st) % 94 < 94 := Nat.mod_lt _ (by decide)
    have e2 : (a + i * st) % 94 = (a + j * st) % 94 := by
      have h3 := sgs_at hi94
      have h4 := sgs_at hj94
      rw [e] at h3
      exact (List.getElem?_inj (by rw [sgs_len]; exact hi94) sgs_nodup).mp (h3.trans h4.symm)
    have h5 : j * st = i * st + (j - i) * st := by rw [← Nat.add_mul]; congr 1; omega
    have h6 : (j - i) * st ≤ 2 * 5 := Nat.mul_le_mul (by omega) h2
    have h7 : 1 * 1 ≤ (j - i) * st := Nat.mul_le_mul (by omega) h1
    rw [h5] at e2
    omega
def sp_law_letters : Sp := spM fun vs M G S S' C => ∃ p n, vs = [.ref p] ∧ M = [p] ∧ n ≤ 100000000 ∧ S = Hd p n ∧ S' = Hd p (n + 2) ∧ C = letP
theorem p_law_letters (B : Bi K mg) {f : Addr} {fd : FuncData} (F : Fun K "_law_letters" "_law_letters" s_law_letters f fd) (c__law_take : Callee P w K mg base 1 "_law_take" P_law_take sp_law_take) (c__law_signs : Callee P w K mg base 1 "_law_signs" P_law_signs sp_law_signs) : FnOk P w K mg base CX0 2 f fd P_law_letters sp_law_letters := by
  refine F.ok sc_law_letters (fun vs H Q E ⟨M, G, S, S', C, _, _, ⟨p, n, e, _⟩, _⟩ => by rw [e]; rfl) fun cdv A outer s H vs Q E hr h => ?_
  have nd := sc_law_letters.nd
  have hu := hu_of hr
  have hu6 := hr.units
  refine ⟨_, (pss_cons (ps_set (i := 1) nd rfl (.inr rfl) (pe_call c__law_take.ok (hr.mono (by decide)) (by rfl) c__law_take.m c__law_take.kp c__law_take.b .nil pass0 (pa_cons (pv 0) (pa_cons pe_int pa_nil))))
      (pss_cons (ps_set (i := 2) nd rfl (.inr rfl) (pe_op op_add pe_int (pe_call c__law_take.ok (hr.mono (by decide)) (by rfl) c__law_take.m c__law_take.kp c__law_take.b .nil pass0 (pa_cons (pv 0) (pa_cons pe_int pa_nil)))))
      (pss_one (ps_ret (QU.joinR (K := K) rfl pe_str (pe_lc (own := [("_law_k", 3)]) rfl nd (pi_range1 (by rfl) B.range_ (pa_cons pe_int pa_nil)) (blkOk_by (own := [("_law_k", 3)]) (N := N_law_letters) (sc := defScope s_law_letters) (by decide +kernel)) (fun _ _ _ _ _ => (pg_name (i := 3) nd rfl (.inl rfl))) (fun _ _ _ _ _ => pts_nil) (fun _ _ _ _ _ => (pe_ix ix_str (pe_call0 c__law_signs.ok (hr.mono (by decide)) (by rfl) c__law_signs.m c__law_signs.kp c__law_signs.b .nil pass0) (pe_op op_modN (pe_callTy call_int1 (by rfl) B.int_ (by decide +kernel) (pa_cons (pe_op op_add (pv 1) (pe_op op_mul (pv 3) (pv 2))) pa_nil)) pe_int) (fun _ _ => rfl))))))))), ?_⟩
  obtain ⟨M, G, S, S', C, aM, hS, ⟨p, n, rfl, rfl, hn, rfl, rfl, rfl⟩, k⟩ := h
  have n0 : Nv [p] G H G H := Nv.refl aM.ex
  refine q_asgM (M := [p]) (S := Hd p n) (S1 := Hd p (n + 1)) (C := intR fun i => 0 ≤ i ∧ i < 94) (z_take1 rfl (z_c rfl) (by decide) (by omega)) n0 subM aM hS fun v1 G1 H1 a1 n1 at1 s1 ⟨i1, ⟨h10, h11⟩, hv1⟩ => ?_
  rw [hv1]
  refine q_asgM (M := [p]) (S := Hd p (n + 1)) (S1 := Hd p (n + 2)) (C := intR fun i => 1 ≤ i ∧ i ≤ 5) (z_opRR (R1 := fun j => j = 1) (z_isR (z_c rfl)) (z_take1 rfl (z_c rfl) (by decide) (by omega)) fun i j hi hj => by omega) n1 subM at1 s1 fun v2 G2 H2 a2 n2 at2 s2 ⟨i2, ⟨h20, h21⟩, hv2⟩ => ?_
  rw [hv2]
  obtain ⟨a, rfl⟩ : ∃ a : Nat, i1 = a := ⟨i1.toNat, by omega⟩
  obtain ⟨st, rfl⟩ : ∃ a : Nat, i2 = a := ⟨i2.toNat, by omega⟩
  have hel : ∀ i : Nat, i < 12 → (((a : Int) + (i : Int) * (st : Int))).fmod 94 = (((a + i * st) % 94 : Nat) : Int) := fun i _ => by
    rw [Int.fmod_eq_emod_of_nonneg _ (by decide)]
    push_cast
    rfl
  refine QX.s_retM (M := [p]) (S := Hd p (n + 2)) (S1 := Hd p (n + 2)) (C := letP) (Ez.lift (Ez.to (z_join (x := Str.empty) (ys := (lettersOf a st).map chr) (z_c rfl) (Lz.dat (Lz.to (l_fmR 12 (fun i => some (.str (chr (sgs.getD ((a + i * st) % 94) 0)))) (z_c rfl) (by decide) fun i G3 hi e3 => turn_all rfl (dat_str (z_opE (z_call0 stb_tr fun G' _ => ⟨rfl, rfl⟩) (z_opC (z_int1e (z_opI (z_var rfl rfl) (z_opC (z_var rfl rfl) (z_var rfl rfl) (.inl ⟨by omega, by omega⟩) rfl) rfl)) (z_c rfl) (by decide) (by rw [hel i hi])) fun G' => z_ixS line_len (by
    rw [line_cps]
    exact atI_nat (sgs_at (Nat.mod_lt _ (by decide)))) rfl))) fun G' xs _ c => by
      rw [fm_some'] at c
      unfold lettersOf
      rw [List.map_map, List.map_map]
      exact c) stb_tr) (by simp [lettersOf, chr, Str.empty, Str.length, Function.comp_def]; decide +kernel) (join_chr _)) fun _ v _ c => (⟨_, lettersOf_ok (by omega) (by omega), c⟩ : ∃ L, LetOk L ∧ v = .str L)) (hd_stb (by simp))) n2 subM at2 s2 k
def sp_law_sign : Sp := spM fun vs M G S S' C => ∃ p n L, vs = [.ref p, .str L] ∧ LetOk L ∧ M = [p] ∧ n ≤ 100000000 ∧ S = Hd p n ∧ S' = Hd p (n + 2) ∧ C = sgnP
theorem let_len {L : Str} (h : LetOk L) : L.length ≤ sizeLine := by
  show L.cps.size ≤ _
  rw [h.len]
  decide
theorem p_law_sign (B : Bi K mg) {f : Addr} {fd : FuncData} (F : Fun K "_law_sign" "_law_sign" s_law_sign f fd) (c__law_take : Callee P w K mg base 1 "_law_take" P_law_take sp_law_take) (c__law_signs : Callee P w K mg base 1 "_law_signs" P_law_signs sp_law_signs) : FnOk P w K mg base CX0 2 f fd P_law_sign sp_law_sign := by
  refine F.ok sc_law_sign (fun vs H Q E ⟨M, G, S, S', C, _, _, ⟨p, n, L, e, _⟩, _⟩ => by rw [e]; rfl) fun cdv A outer s H vs Q E hr h => ?_
  have nd := sc_law_sign.nd
  have hu := hu_of hr
  have hu6 := hr.units
  refine ⟨_, (pss_cons (ps_set (i := 2) nd rfl (.inl rfl) (pe_call c__law_take.ok (hr.mono (by decide)) (by rfl) c__law_take.m c__law_take.kp c__law_take.b .nil pass0 (pa_cons (pv 0) (pa_cons pe_int pa_nil))))
      (pss_cons (ps_if (pt_cmpR op_lt (pv 2) pe_int (nomark _)) (pss_one (ps_ret (pe_ix ix_str (pv 1) (pe_op op_modN (pe_callTy call_int1 (by rfl) B.int_ (by decide +kernel) (pa_cons (pv 2) pa_nil)) pe_int) (fun _ _ => rfl)))) pss_nil)
      (pss_cons (ps_if (pt_cmpR op_eq (pv 2) pe_int (nomark _)) (pss_one (ps_ret (pe_ix ix_str (pv 1) (pe_call c__law_take.ok (hr.mono (by decide)) (by rfl) c__law_take.m c__law_take.kp c__law_take.b .nil pass0 (pa_cons (pv 0) (pa_cons pe_int pa_nil))) (fun _ _ => rfl)))) pss_nil)
      (pss_one (ps_ret (pe_ix ix_str (pe_call0 c__law_signs.ok (hr.mono (by decide)) (by rfl) c__law_signs.m c__law_signs.kp c__law_signs.b .nil pass0) (pe_call c__law_take.ok (hr.mono (by decide)) (by rfl) c__law_take.m c__law_take.kp c__law_take.b .nil pass0 (pa_cons (pv 0) (pa_cons pe_int pa_nil))) (fun _ _ => rfl))))))), ?_⟩
  obtain ⟨M, G, S, S', C, aM, hS, ⟨p, n, L, rfl, hL, rfl, hn, rfl, rfl, rfl⟩, k⟩ := h
  have n0 : Nv [p] G H G H := Nv.refl aM.ex
  have hls := hL.len
  refine q_asgM (M := [p]) (S := Hd p n) (S1 := Hd p (n + 1)) (C := intR fun i => 0 ≤ i ∧ i < 8) (z_take1 rfl (z_c rfl) (by decide) (by omega)) n0 subM aM hS fun v1 G1 H1 a1 n1 at1 s1 ⟨i1, ⟨h10, h11⟩, hv1⟩ => ?_
  rw [hv1]
  have stp : ∀ m, Stb [p] (Hd p m) := fun m => hd_stb (by simp)
  refine q_ifSM (M := [p]) (S := Hd p (n + 1)) (S1 := Hd p (n + 1)) (b := decide (i1 < 6)) (fun G' H' => Nv [p] G H G' H' ∧ At [p] G' H' ∧ Hd p (n + 1) G' H') (Ez.lift (zt_test (z_opI (z_var rfl rfl) (z_c rfl) rfl)) (stp _)) n1 subM at1 s1 (fun hb G2 H2 a2 n2 at2 s2 _ => ?_) (fun hb G2 H2 a2 n2 at2 s2 => ⟨n2, at2, s2⟩) fun G2 H2 ⟨n2, at2, s2⟩ => ?_
  · refine QX.s_retM (M := [p]) (S := Hd p (n + 1)) (S1 := Hd p (n + 1)) (C := sgnP) (Ez.lift (z_pick (z_var rfl rfl) (Ez.to (z_modR (z_int1 (z_isR (z_var rfl rfl))) (by decide : (0 : Int) < 3)) fun _ v _ ⟨j, hj, hv⟩ => (⟨j, ⟨hj.1, by rw [hls]; omega⟩, hv⟩ : ∃ j : Int, (0 ≤ j ∧ j < (L.cps.size : Nat)) ∧ v = .int j)) (let_len hL) hL.sgn) (stp _)) n2 subM at2 s2 fun v G3 H3 n3 s3 c => k v G3 H3 n3 (s3.le (by omega)) c
  · refine q_ifSM (M := [p]) (S := Hd p (n + 1)) (S1 := Hd p (n + 1)) (b := decide (V.int i1 = V.int 6)) (fun G' H' => Nv [p] G H G' H' ∧ At [p] G' H' ∧ Hd p (n + 1) G' H') (Ez.lift (zt_test (z_opEq (z_var rfl rfl) (z_c rfl) rfl rfl)) (stp _)) n2 subM at2 s2 (fun hb G3 H3 a3 n3 at3 s3 _ => ?_) (fun hb G3 H3 a3 n3 at3 s3 => ⟨n3, at3, s3⟩) fun G3 H3 ⟨n3, at3, s3⟩ => ?_
    · exact QX.s_retM (M := [p]) (S := Hd p (n + 1)) (S1 := Hd p (n + 2)) (C := sgnP) (z_pick (z_var rfl rfl) (Ez.to (z_take1 rfl (z_c rfl) (by decide : (0 : Int) < 12 ∧ (12 : Int) < 1000) (by omega)) fun _ v _ ⟨j, hj, hv⟩ => (⟨j, ⟨hj.1, by rw [hls]; omega⟩, hv⟩ : ∃ j : Int, (0 ≤ j ∧ j < (L.cps.size : Nat)) ∧ v = .int j)) (let_len hL) hL.sgn) n3 subM at3 s3 k
    · exact QX.s_retM (M := [p]) (S := Hd p (n + 1)) (S1 := Hd p (n + 2)) (C := sgnP) (z_pick (Ez.lift (z_call0 (C := is (.str lineT)) stb_tr fun G' _ => ⟨rfl, rfl⟩) (stp _)) (Ez.to (z_take1 rfl (z_c rfl) (by decide : (0 : Int) < 94 ∧ (94 : Int) < 1000) (by omega)) fun _ v _ ⟨j, hj, hv⟩ => (⟨j, ⟨hj.1, by rw [line_size]; omega⟩, hv⟩ : ∃ j : Int, (0 ≤ j ∧ j < (lineT.cps.size : Nat)) ∧ v = .int j)) line_len line_sgn) n3 subM at3 s3 k
end QP

/-! What draws: ranges, entries, patterns. -/
namespace QP
open PySem PySem.Spec PyProof.Rows L2 Evl QV QU QX QB QT QD
variable {P : Program} {w : World} {K : PySem.W.Frag} {mg : Str → Option Value} {base : Heap}
theorem z_signG {M : List Addr} {S S1 : Hf} {G : Hp} {σ : L2.St} {te : TE} {E : XK} {p : Addr} {i n : Nat} {L : Str} (hi : σ[i]? = some (some (.ref p))) (hp : p ∈ M) (ht : Pz (te σ) G (is (.str L))) (hL : LetOk L) (st : Stb M S) (hn : n ≤ 100000000)
    (h1 : ∀ G H, S G H → Hd p n G H) (h2 : ∀ G1 H1 G2 H2, S G1 H1 → Nv [p] G1 H1 G2 H2 → Hd p (n + 2) G2 H2 → S1 G2 H2) : Ez M S S1 (tCall sp_law_sign [] E (tCons (tVar i) (tCons te tNil)) σ) G sgnP :=
  z_callP2 hi hp ht st fun x G' _ hx => ⟨Hd p n, Hd p (n + 2), h1, ⟨p, n, L, by rw [show x = _ from hx], hL, rfl, hn, rfl, rfl, rfl⟩, h2⟩
theorem z_sign {G : Hp} {σ : L2.St} {te : TE} {E : XK} {p : Addr} {i n : Nat} {L : Str} (hi : σ[i]? = some (some (.ref p))) (ht : Pz (te σ) G (is (.str L))) (hL : LetOk L) (hn : n ≤ 100000000) : Ez [p] (Hd p n) (Hd p (n + 2)) (tCall sp_law_sign [] E (tCons (tVar i) (tCons te tNil)) σ) G sgnP :=
  z_signG hi (by simp) ht hL (hd_stb (by simp)) hn (fun _ _ h => h) fun _ _ _ _ _ _ h => h
theorem q_ifU {M M0 : List Addr} {S S1 : Hf} {G0 H0 G H : Hp} {D : Ends} {σ : L2.St} {t : TT} {tu tw : TS} {B : Pd Bool} (mid : L2.St → Hp → Hp → Prop) (h : Ez M S S1 (t σ) G B) (n : Nv M0 G0 H0 G H) (hM : Sub M M0 H0) (a : At M G H) (s : S G H)
    (k1 : ∀ G2 H2, Nv M G H G2 H2 → Nv M0 G0 H0 G2 H2 → At M G2 H2 → S1 G2 H2 → (∀ σ' G' H', mid σ' G' H' → tw D σ' H') → tu { D with nx := tw D } σ H2) (k2 : ∀ G2 H2, Nv M G H G2 H2 → Nv M0 G0 H0 G2 H2 → At M G2 H2 → S1 G2 H2 → mid σ G2 H2)
    (k3 : ∀ σ' G' H', mid σ' G' H' → tw D σ' H') : tSeq (tIfS t tu tNext) tw D σ H :=
  s_ifM (D := { D with nx := tw D }) h n hM a s fun b' G2 H2 n1 n2 a2 s2 c => ⟨fun _ => k1 G2 H2 n1 n2 a2 s2 k3, fun _ => k3 _ G2 H2 (k2 G2 H2 n1 n2 a2 s2)⟩
theorem lt_chr (a b : Nat) : decide ((chr a).cps.toList < (chr b).cps.toList) = decide (a < b) := by
  have := le_chr b a
  cases h1 : decide ((chr a).cps.toList < (chr b).cps.toList) <;> rw [h1] at this
  · have h2 : decide (b ≤ a) = true := this.symm
    exact (decide_eq_false (by have := of_decide_eq_true h2; omega)).symm
  · have h2 : decide (b ≤ a) = false := this.symm
    exact (decide_eq_true (by have := of_decide_eq_false h2; omega)).symm
abbrev rMinS : List V → Hp → VK → Prop := fun xs H Q => ∃ i j : Str, xs = [.str i, .str j] ∧ Q (.str (if decide (j.cps.toList < i.cps.toList) = true then j else i)) H
abbrev rMaxS : List V → Hp → VK → Prop := fun xs H Q => ∃ i j : Str, xs = [.str i, .str j] ∧ Q (.str (if decide (i.cps.toList < j.cps.toList) = true then j else i)) H
theorem z_minS {M : List Addr} {S : Hf} {G : Hp} {σ : L2.St} {ta tb : TE} {a b : Nat} (ha : Ez M S S (ta σ) G (is (.str (chr a)))) (hb : Ez M S S (tb σ) G (is (.str (chr b)))) : Ez M S S (tCB rMinS (tCons ta (tCons tb tNil)) σ) G (is (.str (chr (min a b)))) := fun G1 H e at' s Q q =>
  ha G1 H e at' s _ fun x G2 H2 n2 s2 hx => hb G2 H2 (e.trans n2.gg) (at'.nv n2) s2 _ fun y G3 H3 n3 s3 hy => ⟨chr a, chr b, by rw [show x = _ from hx, show y = _ from hy], q _ G3 H3 (n2.trans n3) s3 (by
    rw [lt_chr]
    show V.str _ = V.str _
    by_cases h : b < a
    · rw [decide_eq_true h, if_pos rfl, Nat.min_eq_right (by omega)]
    · rw [decide_eq_false h, if_neg Bool.false_ne_true, Nat.min_eq_left (by omega)])⟩
theorem z_maxS {M : List Addr} {S : Hf} {G : Hp} {σ : L2.St} {ta tb : TE} {a b : Nat} (ha : Ez M S S (ta σ) G (is (.str (chr a)))) (hb : Ez M S S (tb σ) G (is (.str (chr b)))) : Ez M S S (tCB rMaxS (tCons ta (tCons tb tNil)) σ) G (is (.str (chr (max a b)))) := fun G1 H e at' s Q q =>
  ha G1 H e at' s _ fun x G2 H2 n2 s2 hx => hb G2 H2 (e.trans n2.gg) (at'.nv n2) s2 _ fun y G3 H3 n3 s3 hy => ⟨chr a, chr b, by rw [show x = _ from hx, show y = _ from hy], q _ G3 H3 (n2.trans n3) s3 (by
    rw [lt_chr]
    show V.str _ = V.str _
    by_cases h : a < b
    · rw [decide_eq_true h, if_pos rfl, Nat.max_eq_right (by omega)]
    · rw [decide_eq_false h, if_neg Bool.false_ne_true, Nat.max_eq_left (by omega)])⟩
def rngOk (r : Nat × Nat) : Prop := Mk r.1 ∧ Mk r.2 ∧ r.1 ≤ r.2
def rngsP (K : PySem.W.Frag) : Pd V := datR K fun d => ∃ r, d = rngD r ∧ rngOk r
def sp_law_range (K : PySem.W.Frag) : Sp := spM fun vs M G S S' C => ∃ p n L, vs = [.ref p, .str L] ∧ LetOk L ∧ M = [p] ∧ n ≤ 10000000 ∧ S = Hd p n ∧ S' = Hd p (n + 5) ∧ C = rngsP K
theorem p_law_range (B : Bi K mg) {f : Addr} {fd : FuncData} (F : Fun K "_law_range" "_law_range" s_law_range f fd) (c__law_take : Callee P w K mg base 1 "_law_take" P_law_take sp_law_take) (c__law_sign : Callee P w K mg base 2 "_law_sign" P_law_sign sp_law_sign) : FnOk P w K mg base CX0 3 f fd P_law_range (sp_law_range K) := by
  refine F.ok sc_law_range (fun vs H Q E ⟨M, G, S, S', C, _, _, ⟨p, n, L, e, _⟩, _⟩ => by rw [e]; rfl) fun cdv A outer s H vs Q E hr h => ?_
  have nd := sc_law_range.nd
  have hu := hu_of hr
  have hu6 := hr.units
  refine ⟨_, (pss_cons (ps_set (i := 2) nd rfl (.inl rfl) (pe_call c__law_sign.ok (hr.mono (by decide)) (by rfl) c__law_sign.m c__law_sign.kp c__law_sign.b .nil pass0 (pa_cons (pv 0) (pa_cons (pv 1) pa_nil))))
      (pss_cons (ps_set (i := 3) nd rfl (.inl rfl) (pe_call c__law_sign.ok (hr.mono (by decide)) (by rfl) c__law_sign.m c__law_sign.kp c__law_sign.b .nil pass0 (pa_cons (pv 0) (pa_cons (pv 1) pa_nil))))
      (pss_cons (ps_if (pt_cmpR op_eq (pe_call c__law_take.ok (hr.mono (by decide)) (by rfl) c__law_take.m c__law_take.kp c__law_take.b .nil pass0 (pa_cons (pv 0) (pa_cons pe_int pa_nil))) pe_int (nomark _)) (pss_one (ps_set (i := 2) nd rfl (.inl rfl) pe_str)) pss_nil)
      (pss_one (ps_ret (pe_tup (pa_cons (pe_callB (QW.call_minS rfl) (by rfl) B.min_ (by decide +kernel) (pa_cons (pv 2) (pa_cons (pv 3) pa_nil))) (pa_cons (pe_callB (QW.call_maxS rfl) (by rfl) B.max_ (by decide +kernel) (pa_cons (pv 2) (pa_cons (pv 3) pa_nil))) pa_nil)))))))), ?_⟩
  obtain ⟨M, G, S, S', C, aM, hS, ⟨p, n, L, rfl, hL, rfl, hn, rfl, rfl, rfl⟩, k⟩ := h
  have n0 : Nv [p] G H G H := Nv.refl aM.ex
  have stp : ∀ m, Stb [p] (Hd p m) := fun m => hd_stb (by simp)
  refine q_asgM (M := [p]) (S := Hd p n) (S1 := Hd p (n + 2)) (C := sgnP) (z_sign rfl (z_var rfl rfl) hL (by omega)) n0 subM aM hS fun v1 G1 H1 a1 n1 at1 s1 ⟨ca, hca, hv1⟩ => ?_
  rw [show v1 = _ from hv1]
  refine q_asgM (M := [p]) (S := Hd p (n + 2)) (S1 := Hd p (n + 4)) (C := sgnP) (z_sign rfl (z_var rfl rfl) hL (by omega)) n1 subM at1 s1 fun v2 G2 H2 a2 n2 at2 s2 ⟨cb, hcb, hv2⟩ => ?_
  rw [show v2 = _ from hv2]
  refine q_ifU (M := [p]) (S := Hd p (n + 4)) (S1 := Hd p (n + 5)) (B := any) (fun σ' G' H' => Nv [p] G H G' H' ∧ At [p] G' H' ∧ Hd p (n + 5) G' H' ∧ ∃ a, Mk a ∧ σ' = [some (.ref p), some (.str L), some (.str (chr a)), some (.str (chr cb))]) (zt_anyB (z_eqR (z_take1 rfl (z_c rfl) (by decide : (0 : Int) < 16 ∧ (16 : Int) < 1000) (by omega)) (z_isR (z_c rfl)))) n2 subM at2 s2 (fun G3 H3 a3 n3 at3 s3 next => ?_) (fun G3 H3 a3 n3 at3 s3 => ⟨n3, at3, s3, ca, .inr hca, rfl⟩) fun σ' G3 H3 ⟨n3, at3, s3, a, ha, hσ⟩ => ?_
  · exact s_asgM (M := [p]) (S := Hd p (n + 5)) (S1 := Hd p (n + 5)) (C := is (.str (chr 10))) (z_c rfl) n3 subM at3 s3 fun v4 G4 H4 a4 n4 at4 s4 hv4 => next _ G4 H4 ⟨n4, at4, s4, 10, .inl rfl, by rw [show v4 = _ from hv4]; rfl⟩
  · subst hσ
    refine QX.s_retM (M := [p]) (S := Hd p (n + 5)) (S1 := Hd p (n + 5)) (C := rngsP K) (z_datR (d := rngD (min a cb, max a cb)) (z_tupD (z_consD (dat_str (z_minS (z_var rfl rfl) (z_var rfl rfl))) (z_consD (dat_str (z_maxS (z_var rfl rfl) (z_var rfl rfl))) z_nilD)) (stp _) (by show 2 ≤ 1000; decide)) ⟨_, rfl, ?_, ?_, ?_⟩) n3 subM at3 s3 k
    · show Mk (min a cb)
      rcases Nat.le_total a cb with h | h
      · rw [Nat.min_eq_left h]; exact ha
      · rw [Nat.min_eq_right h]; exact .inr hcb
    · show Mk (max a cb)
      rcases Nat.le_total a cb with h | h
      · rw [Nat.max_eq_right h]; exact .inr hcb
      · rw [Nat.max_eq_left h]; exact ha
    · show min a cb ≤ max a cb
      omega
theorem all_map {α : Type} {d : α → PyData} {R : α → Prop} : ∀ {ds : List PyData}, (∀ x ∈ ds, ∃ a, x = d a ∧ R a) → ∃ l : List α, ds = l.map d ∧ ∀ a ∈ l, R a
  | [], _ => ⟨[], rfl, fun _ z => nomatch z⟩
  | x :: ds, h => by
    obtain ⟨a, rfl, ha⟩ := h x List.mem_cons_self
    obtain ⟨l, rfl, hl⟩ := all_map fun y hy => h y (List.mem_cons_of_mem _ hy)
    exact ⟨a :: l, rfl, fun b hb => by
      rcases List.mem_cons.mp hb with rfl | z
      · exact ha
      · exact hl b z⟩
/-- a drawn list in view -/
theorem gens_dat {α : Type} {G : Hp} {v : V} {N : Nat → Prop} {d : α → PyData} {R : α → Prop} (h : (lstP K (gens K N fun x => ∃ a, x = d a ∧ R a)).p G v) : ∃ l : List α, Dp K G v (.list (l.map d)) ∧ N l.length ∧ ∀ a ∈ l, R a := by
  obtain ⟨p, xs, rfl, h1, ds, ⟨h2, h3⟩, h4⟩ := h
  obtain ⟨l, rfl, hl⟩ := all_map h3
  rw [List.length_map] at h2
  exact ⟨l, Dp.lst h1 h4, h2, hl⟩
def entsP (K : PySem.W.Frag) : Pd V := datR K fun d => ∃ e, d = entD e ∧ EntOk e
def sp_law_entry (K : PySem.W.Frag) : Sp := spM fun vs M G S S' C => ∃ p n L, vs = [.ref p, .str L] ∧ LetOk L ∧ M = [p] ∧ n ≤ 1000000 ∧ S = Hd p n ∧ S' = Hd p (n + 40) ∧ C = entsP K
theorem p_law_entry (B : Bi K mg) {f : Addr} {fd : FuncData} (F : Fun K "_law_entry" "_law_entry" s_law_entry f fd) (c__law_take : Callee P w K mg base 1 "_law_take" P_law_take sp_law_take) (c__law_sign : Callee P w K mg base 2 "_law_sign" P_law_sign sp_law_sign) (c__law_range : Callee P w K mg base 3 "_law_range" P_law_range (sp_law_range K)) : FnOk P w K mg base CX0 4 f fd P_law_entry (sp_law_entry K) := by
  refine F.ok sc_law_entry (fun vs H Q E ⟨M, G, S, S', C, _, _, ⟨p, n, L, e, _⟩, _⟩ => by rw [e]; rfl) fun cdv A outer s H vs Q E hr h => ?_
  have nd := sc_law_entry.nd
  have hu := hu_of hr
  have hu6 := hr.units
  refine ⟨_, (pss_cons (ps_set (i := 2) nd rfl (.inl rfl) (pe_call c__law_take.ok (hr.mono (by decide)) (by rfl) c__law_take.m c__law_take.kp c__law_take.b .nil pass0 (pa_cons (pv 0) (pa_cons pe_int pa_nil))))
      (pss_cons (ps_if (pt_cmpR op_lt (pv 2) pe_int (nomark _)) (pss_one (ps_ret (pe_tup (pa_cons pe_str (pa_cons (pe_call c__law_sign.ok (hr.mono (by decide)) (by rfl) c__law_sign.m c__law_sign.kp c__law_sign.b .nil pass0 (pa_cons (pv 0) (pa_cons (pv 1) pa_nil))) pa_nil))))) pss_nil)
      (pss_cons (ps_if (pt_cmpR op_eq (pv 2) pe_int (nomark _)) (pss_one (ps_ret (pe_tup (pa_cons pe_str pa_nil)))) pss_nil)
      (pss_cons (ps_if (pt_cmpR op_lt (pv 2) pe_int (nomark _)) (pss_one (ps_ret (pe_tup (pa_cons pe_str pa_nil)))) pss_nil)
      (pss_cons (ps_set (i := 3) nd rfl (.inl rfl) (pe_op op_add pe_int (pe_call c__law_take.ok (hr.mono (by decide)) (by rfl) c__law_take.m c__law_take.kp c__law_take.b .nil pass0 (pa_cons (pv 0) (pa_cons pe_int pa_nil)))))
      (pss_cons (ps_if (pt_cmpR op_eq (pe_call c__law_take.ok (hr.mono (by decide)) (by rfl) c__law_take.m c__law_take.kp c__law_take.b .nil pass0 (pa_cons (pv 0) (pa_cons pe_int pa_nil))) pe_int (nomark _)) (pss_one (ps_set (i := 3) nd rfl (.inl rfl) (pe_op op_add (pe_op op_add (pv 3) pe_int) (pe_call c__law_take.ok (hr.mono (by decide)) (by rfl) c__law_take.m c__law_take.kp c__law_take.b .nil pass0 (pa_cons (pv 0) (pa_cons pe_int pa_nil)))))) pss_nil)
      (pss_one (ps_ret (pe_tup (pa_cons pe_str (pa_cons (pe_cmpR op_eq (pv 2) pe_int (nomark _)) (pa_cons (pe_lc (own := [("_law_k", 4)]) rfl nd (pi_range1 (by rfl) B.range_ (pa_cons (pv 3) pa_nil)) (blkOk_by (own := [("_law_k", 4)]) (N := N_law_entry) (sc := defScope s_law_entry) (by decide +kernel)) (fun _ _ _ _ _ => (pg_name (i := 4) nd rfl (.inl rfl))) (fun _ _ _ _ _ => pts_nil) (fun _ _ _ _ _ => (pe_call c__law_range.ok (hr.mono (by decide)) (by rfl) c__law_range.m c__law_range.kp c__law_range.b .nil pass0 (pa_cons (pv 0) (pa_cons (pv 1) pa_nil))))) pa_nil)))))))))))), ?_⟩
  obtain ⟨M, G, S, S', C, aM, hS, ⟨p, n, L, rfl, hL, rfl, hn, rfl, rfl, rfl⟩, k⟩ := h
  have n0 : Nv [p] G H G H := Nv.refl aM.ex
  have stp : ∀ m, Stb [p] (Hd p m) := fun m => hd_stb (by simp)
  refine q_asgM (M := [p]) (S := Hd p n) (S1 := Hd p (n + 1)) (C := intR fun i => 0 ≤ i ∧ i < 8) (z_take1 rfl (z_c rfl) (by decide) (by omega)) n0 subM aM hS fun v1 G1 H1 a1 n1 at1 s1 ⟨i1, ⟨h10, h11⟩, hv1⟩ => ?_
  rw [hv1]
  refine q_ifSM (M := [p]) (S := Hd p (n + 1)) (S1 := Hd p (n + 1)) (b := decide (i1 < 3)) (fun G' H' => Nv [p] G H G' H' ∧ At [p] G' H' ∧ Hd p (n + 1) G' H') (Ez.lift (zt_test (z_opI (z_var rfl rfl) (z_c rfl) rfl)) (stp _)) n1 subM at1 s1 (fun hb G2 H2 a2 n2 at2 s2 _ => ?_) (fun hb G2 H2 a2 n2 at2 s2 => ⟨n2, at2, s2⟩) fun G2 H2 ⟨n2, at2, s2⟩ => ?_
  · refine QX.s_retM (M := [p]) (S := Hd p (n + 1)) (S1 := Hd p (n + 3)) (C := tupP K (consP (is (.str "one")) (consP sgnP (is [])))) (z_tup (z_cons (z_c rfl) (z_cons (z_sign rfl (z_var rfl rfl) hL (by omega)) z_nil)) (stp _) fun G' xs' ⟨x1, xs1, e1, _, x2, xs2, e2, _, e3⟩ => by
      have e3 : xs2 = [] := e3
      rw [e1, e2, e3]
      show 2 ≤ sizeLine
      decide) n2 subM at2 s2 fun v G3 H3 n3 s3 hc => k v G3 H3 n3 (s3.le (by omega)) ?_
    obtain ⟨pp, xs, rfl, q1, x1, xs1, rfl, q2, x2, xs2, rfl, ⟨c, hc, q3⟩, q4⟩ := hc
    have q2 : x1 = _ := q2
    have q3 : x2 = _ := q3
    have q4 : xs2 = [] := q4
    subst q2 q3 q4
    exact ⟨entD (.one c), ⟨.one c, rfl, hc⟩, Dp.tup q1 (.cons (.str _) (.cons (.str _) .nil))⟩
  · refine q_ifSM (M := [p]) (S := Hd p (n + 1)) (S1 := Hd p (n + 1)) (b := decide (V.int i1 = V.int 3)) (fun G' H' => Nv [p] G H G' H' ∧ At [p] G' H' ∧ Hd p (n + 1) G' H') (Ez.lift (zt_test (z_opEq (z_var rfl rfl) (z_c rfl) rfl rfl)) (stp _)) n2 subM at2 s2 (fun hb G3 H3 a3 n3 at3 s3 _ => ?_) (fun hb G3 H3 a3 n3 at3 s3 => ⟨n3, at3, s3⟩) fun G3 H3 ⟨n3, at3, s3⟩ => ?_
    · exact QX.s_retM (M := [p]) (S := Hd p (n + 1)) (S1 := Hd p (n + 1)) (C := entsP K) (z_datR (d := entD .any) (z_tupD (z_consD (dat_str (z_c rfl)) z_nilD) (stp _) (by show 1 ≤ 1000; decide)) ⟨.any, rfl, True.intro⟩) n3 subM at3 s3 fun v G4 H4 n4 s4 hc => k v G4 H4 n4 (s4.le (by omega)) hc
    · refine q_ifSM (M := [p]) (S := Hd p (n + 1)) (S1 := Hd p (n + 1)) (b := decide (i1 < 6)) (fun G' H' => Nv [p] G H G' H' ∧ At [p] G' H' ∧ Hd p (n + 1) G' H') (Ez.lift (zt_test (z_opI (z_var rfl rfl) (z_c rfl) rfl)) (stp _)) n3 subM at3 s3 (fun hb G4 H4 a4 n4 at4 s4 _ => ?_) (fun hb G4 H4 a4 n4 at4 s4 => ⟨n4, at4, s4⟩) fun G4 H4 ⟨n4, at4, s4⟩ => ?_
      · exact QX.s_retM (M := [p]) (S := Hd p (n + 1)) (S1 := Hd p (n + 1)) (C := entsP K) (z_datR (d := entD .lot) (z_tupD (z_consD (dat_str (z_c rfl)) z_nilD) (stp _) (by show 1 ≤ 1000; decide)) ⟨.lot, rfl, True.intro⟩) n4 subM at4 s4 fun v G4 H4 n4 s4 hc => k v G4 H4 n4 (s4.le (by omega)) hc
      · refine q_asgM (M := [p]) (S := Hd p (n + 1)) (S1 := Hd p (n + 2)) (C := intR fun i => 1 ≤ i ∧ i ≤ 2) (z_opRR (R1 := fun j => j = 1) (z_isR (z_c rfl)) (z_take1 rfl (z_c rfl) (by decide : (0 : Int) < 2 ∧ (2 : Int) < 1000) (by omega)) fun i j hi hj => by omega) n4 subM at4 s4 fun v5 G5 H5 a5 n5 at5 s5 ⟨i5, h5, hv5⟩ => ?_
        rw [hv5]
        refine q_ifU (M := [p]) (S := Hd p (n + 2)) (S1 := Hd p (n + 3)) (B := any) (fun σ' G' H' => Nv [p] G H G' H' ∧ At [p] G' H' ∧ Hd p (n + 4) G' H' ∧ ∃ i : Int, 1 ≤ i ∧ i ≤ 6 ∧ σ' = [some (.ref p), some (.str L), some (.int i1), some (.int i), none]) (zt_anyB (z_eqR (z_take1 rfl (z_c rfl) (by decide : (0 : Int) < 4 ∧ (4 : Int) < 1000) (by omega)) (z_isR (z_c rfl)))) n5 subM at5 s5 (fun G6 H6 a6 n6 at6 s6 next => ?_) (fun G6 H6 a6 n6 at6 s6 => ⟨n6, at6, s6.le (by omega), i5, by omega, by omega, rfl⟩) fun σ' G6 H6 ⟨n6, at6, s6, i6, h60, h61, hσ⟩ => ?_
        · refine s_asgM (M := [p]) (S := Hd p (n + 3)) (S1 := Hd p (n + 4)) (C := intR fun i => 1 ≤ i ∧ i ≤ 6) (z_opRR (R1 := fun j => j = i5 + 1) (z_isR (z_opI (z_var rfl rfl) (z_c rfl) rfl)) (z_take1 rfl (z_c rfl) (by decide : (0 : Int) < 4 ∧ (4 : Int) < 1000) (by omega)) fun i j hi hj => by omega) n6 subM at6 s6 fun v7 G7 H7 a7 n7 at7 s7 ⟨i7, h7, hv7⟩ => next _ G7 H7 ⟨n7, at7, s7, i7, h7.1, h7.2, by rw [hv7]; rfl⟩
        · subst hσ
          obtain ⟨many, rfl⟩ : ∃ a : Nat, i6 = a := ⟨i6.toNat, by omega⟩
          have hgen : Lz (M := [p]) (Hd p (n + 4)) (Hd p (n + 34)) (tLc (iRng1 (tCons (tVar 3) tNil)) (gName 4) tYes (tCall (sp_law_range K) [] E0 (tCons (tVar 0) (tCons (tVar 1) tNil))) [4] [some (.ref p), some (.str L), some (.int i1), some (.int (many : Nat)), none]) G6 (gens K (fun n => ∃ B, as many numP n B) fun x => ∃ a, x = rngD a ∧ rngOk a) :=
            l_gen (fun i => Hd p (n + 4 + 5 * i)) (wk_rangeN (Ez.lift (z_var rfl rfl) (stp _)) (by omega)) (fun n' B' ⟨h, _⟩ => by omega) (fun _ _ h => h) (fun _ => stp _) (fun n' B' ⟨h, _⟩ G H s => s.le (by omega)) (fun _ => rfl) fun n' B' i x G7 ⟨h, _⟩ hi e7 hx =>
              z_callP2 (A := is (.str L)) rfl (by simp) (z_var rfl rfl) (stp _) fun y G' _ hy => ⟨Hd p (n + 4 + 5 * i), Hd p (n + 4 + 5 * i + 5), fun _ _ h => h, ⟨p, n + 4 + 5 * i, L, by rw [show y = _ from hy], hL, rfl, by omega, rfl, rfl, rfl⟩, fun _ _ _ _ _ _ h => h⟩
          refine QX.s_retM (M := [p]) (S := Hd p (n + 4)) (S1 := Hd p (n + 34)) (C := tupP K (consP (is (.str "of")) (consP (is (.bl (decide (V.int i1 = V.int 7)))) (consP (lstP K (gens K (fun n => ∃ B, as many numP n B) fun x => ∃ a, x = rngD a ∧ rngOk a)) (is []))))) (z_tup (z_cons (z_c rfl) (z_cons (z_opEq (z_var rfl rfl) (z_c rfl) rfl rfl) (z_cons (Lz.ez hgen (stp _)) z_nil))) (stp _) fun G' xs' ⟨x1, xs1, e1, _, x2, xs2, e2, _, x3, xs3, e3, _, e4⟩ => by
            have e4 : xs3 = [] := e4
            rw [e1, e2, e3, e4]
            show 3 ≤ sizeLine
            decide) n6 subM at6 s6 fun v G7 H7 n7 s7 hc => k v G7 H7 n7 (s7.le (by omega)) ?_
          obtain ⟨pp, xs, rfl, q1, x1, xs1, rfl, q2, x2, xs2, rfl, q3, x3, xs3, rfl, q4, q5⟩ := hc
          have q2 : x1 = _ := q2
          have q3 : x2 = _ := q3
          have q5 : xs3 = [] := q5
          subst q2 q3 q5
          obtain ⟨rs, hrs1, ⟨_, hrs2, _⟩, hrs3⟩ := gens_dat q4
          exact ⟨entD (.of (decide (V.int i1 = V.int 7)) rs), ⟨_, rfl, fun z => by rw [z] at hrs2; simp at hrs2; omega, by omega, hrs3⟩, Dp.tup q1 (.cons (.str _) (.cons (.bl _) (.cons hrs1 .nil)))⟩
def sp_law_pattern (K : PySem.W.Frag) : Sp := spM fun vs M G S S' C => ∃ p n L m, vs = [.ref p, .str L, .int (m : Nat)] ∧ LetOk L ∧ m ≤ 3 ∧ M = [p] ∧ n ≤ 100000 ∧ S = Hd p n ∧ S' = Hd p (n + 200) ∧ C = datR K fun d => ∃ pt : Pat, d = patD pt ∧ PatOk pt ∧ pt.length ≤ m
theorem p_law_pattern (B : Bi K mg) {f : Addr} {fd : FuncData} (F : Fun K "_law_pattern" "_law_pattern" s_law_pattern f fd) (c__law_take : Callee P w K mg base 1 "_law_take" P_law_take sp_law_take) (c__law_entry : Callee P w K mg base 4 "_law_entry" P_law_entry (sp_law_entry K)) : FnOk P w K mg base CX0 5 f fd P_law_pattern (sp_law_pattern K) := by
  refine F.ok sc_law_pattern (fun vs H Q E ⟨M, G, S, S', C, _, _, ⟨p, n, L, m, e, _⟩, _⟩ => by rw [e]; rfl) fun cdv A outer s H vs Q E hr h => ?_
  have nd := sc_law_pattern.nd
  have hu := hu_of hr
  have hu6 := hr.units
  refine ⟨_, (pss_cons (ps_set (i := 3) nd rfl (.inl rfl) (pe_call c__law_take.ok (hr.mono (by decide)) (by rfl) c__law_take.m c__law_take.kp c__law_take.b .nil pass0 (pa_cons (pv 0) (pa_cons (pe_op op_add (pv 2) pe_int) pa_nil))))
      (pss_one (ps_ret (pe_lc (own := [("_law_k", 4)]) rfl nd (pi_range1 (by rfl) B.range_ (pa_cons (pv 3) pa_nil)) (blkOk_by (own := [("_law_k", 4)]) (N := N_law_pattern) (sc := defScope s_law_pattern) (by decide +kernel)) (fun _ _ _ _ _ => (pg_name (i := 4) nd rfl (.inl rfl))) (fun _ _ _ _ _ => pts_nil) (fun _ _ _ _ _ => (pe_call c__law_entry.ok (hr.mono (by decide)) (by rfl) c__law_entry.m c__law_entry.kp c__law_entry.b .nil pass0 (pa_cons (pv 0) (pa_cons (pv 1) pa_nil)))))))), ?_⟩
  obtain ⟨M, G, S, S', C, aM, hS, ⟨p, n, L, m, rfl, hL, hm, rfl, hn, rfl, rfl, rfl⟩, k⟩ := h
  have n0 : Nv [p] G H G H := Nv.refl aM.ex
  have stp : ∀ m, Stb [p] (Hd p m) := fun m => hd_stb (by simp)
  refine q_asgM (M := [p]) (S := Hd p n) (S1 := Hd p (n + 1)) (C := intR fun i => 0 ≤ i ∧ i < (m : Int) + 1) (z_take1 rfl (z_opI (z_var rfl rfl) (z_c rfl) rfl) (by omega) (by omega)) n0 subM aM hS fun v1 G1 H1 a1 n1 at1 s1 ⟨i1, ⟨h10, h11⟩, hv1⟩ => ?_
  rw [hv1]
  obtain ⟨many, rfl⟩ : ∃ a : Nat, i1 = a := ⟨i1.toNat, by omega⟩
  have hgen : Lz (M := [p]) (Hd p (n + 1)) (Hd p (n + 200)) (tLc (iRng1 (tCons (tVar 3) tNil)) (gName 4) tYes (tCall (sp_law_entry K) [] E0 (tCons (tVar 0) (tCons (tVar 1) tNil))) [4] [some (.ref p), some (.str L), some (.int (m : Nat)), some (.int (many : Nat)), none]) G1 (gens K (fun n => ∃ B, as many numP n B) fun x => ∃ a, x = entD a ∧ EntOk a) :=
    l_gen (fun i => Hd p (n + 1 + 40 * i)) (wk_rangeN (Ez.lift (z_var rfl rfl) (stp _)) (by omega)) (fun n' B' ⟨h, _⟩ => by omega) (fun _ _ h => h) (fun _ => stp _) (fun n' B' ⟨h, _⟩ G H s => s.le (by omega)) (fun _ => rfl) fun n' B' i x G7 ⟨h, _⟩ hi e7 hx =>
      z_callP2 (A := is (.str L)) rfl (by simp) (z_var rfl rfl) (stp _) fun y G' _ hy => ⟨Hd p (n + 1 + 40 * i), Hd p (n + 1 + 40 * i + 40), fun _ _ h => h, ⟨p, n + 1 + 40 * i, L, by rw [show y = _ from hy], hL, rfl, by omega, rfl, rfl, rfl⟩, fun _ _ _ _ _ _ h => h⟩
  refine QX.s_retM (M := [p]) (S := Hd p (n + 1)) (S1 := Hd p (n + 200)) (Lz.ez (K := K) hgen (stp _)) n1 subM at1 s1 fun v G2 H2 n2 s2 hc => k v G2 H2 n2 s2 ?_
  obtain ⟨l, h1, ⟨_, h2, _⟩, h3⟩ := gens_dat hc
  exact ⟨patD l, ⟨l, rfl, h3, by omega⟩, h1⟩
end QP

/-! What draws: pairs. -/
namespace QP
open PySem PySem.Spec PyProof.Rows L2 Evl QV QU QX QB QT QD
variable {P : Program} {w : World} {K : PySem.W.Frag} {mg : Str → Option Value} {base : Heap}
def prsP (K : PySem.W.Frag) : Pd V := datR K fun d => ∃ ps, d = .list (ps.map rngD) ∧ FilOk (.swap ps)
def sp_law_pairs (K : PySem.W.Frag) : Sp := spM fun vs M G S S' C => ∃ p n L, vs = [.ref p, .str L] ∧ LetOk L ∧ M = [p] ∧ n ≤ 1000000 ∧ S = Hd p n ∧ S' = Hd p (n + 200) ∧ C = prsP K
theorem all_mapI {P : Nat → Nat × Nat → Prop} : ∀ {ds : List PyData} {i : Nat}, (∀ (j : Nat) d, ds[j]? = some d → ∃ a, d = rngD a ∧ P (i + j) a) → ∃ l : List (Nat × Nat), ds = l.map rngD ∧ ∀ (j : Nat) a, l[j]? = some a → P (i + j) a
  | [], _, _ => ⟨[], rfl, fun j a q => by simp at q⟩
  | x :: ds, i, h => by
    obtain ⟨a, rfl, ha⟩ := h 0 x rfl
    obtain ⟨l, rfl, hl⟩ := all_mapI (ds := ds) (i := i + 1) (P := P) fun j d q => by
      obtain ⟨a', h1, h2⟩ := h (j + 1) d (by simpa using q)
      exact ⟨a', h1, by rw [Nat.add_assoc, Nat.add_comm 1 j]; exact h2⟩
    refine ⟨a :: l, rfl, fun j b hb => ?_⟩
    cases j with
    | zero =>
      have : a = b := by simpa using hb
      subst this
      exact ha
    | succ j =>
      have := hl j b (by simpa using hb)
      rw [Nat.add_assoc, Nat.add_comm 1 j] at this
      exact this
theorem p_law_pairs (B : Bi K mg) {f : Addr} {fd : FuncData} (F : Fun K "_law_pairs" "_law_pairs" s_law_pairs f fd) (c__law_take : Callee P w K mg base 1 "_law_take" P_law_take sp_law_take) (c__law_sign : Callee P w K mg base 2 "_law_sign" P_law_sign sp_law_sign) (c__law_signs : Callee P w K mg base 1 "_law_signs" P_law_signs sp_law_signs) : FnOk P w K mg base CX0 3 f fd P_law_pairs (sp_law_pairs K) := by
  refine F.ok sc_law_pairs (fun vs H Q E ⟨M, G, S, S', C, _, _, ⟨p, n, L, e, _⟩, _⟩ => by rw [e]; rfl) fun cdv A outer s H vs Q E hr h => ?_
  have nd := sc_law_pairs.nd
  have hu := hu_of hr
  have hu6 := hr.units
  refine ⟨_, (pss_cons (ps_set (i := 2) nd rfl (.inl rfl) (pe_lst pa_nil))
      (pss_cons (ps_set (i := 3) nd rfl (.inl rfl) (pe_op op_add pe_int (pe_call c__law_take.ok (hr.mono (by decide)) (by rfl) c__law_take.m c__law_take.kp c__law_take.b .nil pass0 (pa_cons (pv 0) (pa_cons pe_int pa_nil)))))
      (pss_cons (ps_set (i := 4) nd rfl (.inl rfl) (pe_call c__law_take.ok (hr.mono (by decide)) (by rfl) c__law_take.m c__law_take.kp c__law_take.b .nil pass0 (pa_cons (pv 0) (pa_cons pe_int pa_nil))))
      (pss_cons (ps_if (pt_cmpR op_eq (pv 4) pe_int (nomark _)) (pss_cons (ps_set (i := 5) nd rfl (.inr rfl) (pe_call c__law_take.ok (hr.mono (by decide)) (by rfl) c__law_take.m c__law_take.kp c__law_take.b .nil pass0 (pa_cons (pv 0) (pa_cons pe_int pa_nil))))
      (pss_one (ps_ret (pe_lc (own := [("_law_k", 6)]) rfl nd (pi_range1 (by rfl) B.range_ (pa_cons pe_int pa_nil)) (blkOk_by (own := [("_law_k", 6)]) (N := N_law_pairs) (sc := defScope s_law_pairs) (by decide +kernel)) (fun _ _ _ _ _ => (pg_name (i := 6) nd rfl (.inl rfl))) (fun _ _ _ _ _ => pts_nil) (fun _ _ _ _ _ => (pe_tup (pa_cons (pe_ix ix_str (pe_call0 c__law_signs.ok (hr.mono (by decide)) (by rfl) c__law_signs.m c__law_signs.kp c__law_signs.b .nil pass0) (pe_op op_modN (pe_callTy call_int1 (by rfl) B.int_ (by decide +kernel) (pa_cons (pe_op op_add (pv 5) (pv 6)) pa_nil)) pe_int) (fun _ _ => rfl)) (pa_cons (pe_call c__law_sign.ok (hr.mono (by decide)) (by rfl) c__law_sign.m c__law_sign.kp c__law_sign.b .nil pass0 (pa_cons (pv 0) (pa_cons (pv 1) pa_nil))) pa_nil)))))))) pss_nil)
      (pss_cons (ps_if (pt_cmpR op_gt (pv 4) pe_int (nomark _)) (pss_one (ps_set (i := 3) nd rfl (.inl rfl) pe_int)) pss_nil)
      (pss_cons (ps_for PassesOwn.never rfl (pi_range1 (by rfl) B.range_ (pa_cons (pv 3) pa_nil)) (pg_name (i := 6) nd rfl (.inl rfl)) (pss_cons (ps_set (i := 7) nd rfl (.inl rfl) (pe_call c__law_sign.ok (hr.mono (by decide)) (by rfl) c__law_sign.m c__law_sign.kp c__law_sign.b .nil pass0 (pa_cons (pv 0) (pa_cons (pv 1) pa_nil))))
      (pss_cons (ps_if (pt_cmpR op_eq (pv 3) pe_int (nomark _)) (pss_one (ps_set (i := 7) nd rfl (.inl rfl) (pe_ix ix_str (pv 1) (pe_call c__law_take.ok (hr.mono (by decide)) (by rfl) c__law_take.m c__law_take.kp c__law_take.b .nil pass0 (pa_cons (pv 0) (pa_cons pe_int pa_nil))) (fun _ _ => rfl)))) pss_nil)
      (pss_one (ps_if (pt_cmpR (QU.opNin (K := K) rfl) (pv 7) (pe_lc (own := [("_law_pair", 8)]) rfl nd (QU.piL (K := K) rfl (pv 2)) (blkOk_by (own := [("_law_pair", 8)]) (N := N_law_pairs) (sc := defScope s_law_pairs) (by decide +kernel)) (fun _ _ _ _ _ => (pg_name (i := 8) nd rfl (.inl rfl))) (fun _ _ _ _ _ => pts_nil) (fun _ _ _ _ _ => (pe_ix (QU.ixT (K := K) rfl) (pv 8) pe_int (fun _ _ => rfl)))) (by rfl)) (pss_one (ps_expr (pe_bm PySem.F.plainAttrs_list PySem.F.slot_list_append PySem.F.type_list_append mt_append (pv 2) (pa_cons (pe_tup (pa_cons (pv 7) (pa_cons (pe_call c__law_sign.ok (hr.mono (by decide)) (by rfl) c__law_sign.m c__law_sign.kp c__law_sign.b .nil pass0 (pa_cons (pv 0) (pa_cons (pv 1) pa_nil))) pa_nil))) pa_nil)))) pss_nil)))))
      (pss_one (ps_ret (pv 2))))))))), ?_⟩
  obtain ⟨M, G, S, S', C, aM, hS, ⟨p, n, L, rfl, hL, rfl, hn, rfl, rfl, rfl⟩, k⟩ := h
  have n0 : Nv [p] G H G H := Nv.refl aM.ex
  have stp : ∀ m, Stb [p] (Hd p m) := fun m => hd_stb (by simp)
  refine q_asgL (B := is []) (l_lst z_nil stb_tr fun G' xs b => by rw [show xs = _ from b]; decide) n0 fun l xs G1 H1 a1 n1 hl1 lc b => ?_
  rw [show xs = _ from b] at lc
  have hlp : l ≠ p := fun z => (aM.mm p (by simp)).2 (z ▸ lc.new)
  have hlp' : l ∉ [p] := by simpa using hlp
  have at1 := aM.nv (a1.mono (M' := [p]) fun _ z => nomatch z)
  have s1 := Stb.nv (stp n) aM a1 hS
  refine q_asgM (M := [p]) (S := Hd p n) (S1 := Hd p (n + 1)) (C := intR fun i => 1 ≤ i ∧ i ≤ 3) (z_opRR (R1 := fun j => j = 1) (z_isR (z_c rfl)) (z_take1 rfl (z_c rfl) (by decide : (0 : Int) < 3 ∧ (3 : Int) < 1000) (by omega)) fun i j hi hj => by omega) n1 subM at1 s1 fun v2 G2 H2 a2 n2 at2 s2 ⟨i2, h2, hv2⟩ => ?_
  rw [hv2]
  refine q_asgM (M := [p]) (S := Hd p (n + 1)) (S1 := Hd p (n + 2)) (C := intR fun i => 0 ≤ i ∧ i < 12) (z_take1 rfl (z_c rfl) (by decide : (0 : Int) < 12 ∧ (12 : Int) < 1000) (by omega)) n2 subM at2 s2 fun v3 G3 H3 a3 n3 at3 s3 ⟨i3, h3, hv3⟩ => ?_
  rw [hv3]
  have lc3 := (lc.nv a2 hlp').nv a3 hlp'
  refine q_ifSM (M := [p]) (S := Hd p (n + 2)) (S1 := Hd p (n + 2)) (b := decide (V.int i3 = V.int 11)) (fun G' H' => Nv [p] G H G' H' ∧ At [p] G' H' ∧ Hd p (n + 2) G' H' ∧ Lc H G' H' l []) (Ez.lift (zt_test (z_opEq (z_var rfl rfl) (z_c rfl) rfl rfl)) (stp _)) n3 subM at3 s3 (fun hb G4 H4 a4 n4 at4 s4 _ => ?_) (fun hb G4 H4 a4 n4 at4 s4 => ⟨n4, at4, s4, lc3.nv a4 hlp'⟩) fun G4 H4 ⟨n4, at4, s4, lc4⟩ => ?_
  · refine q_asgM (M := [p]) (S := Hd p (n + 2)) (S1 := Hd p (n + 3)) (C := intR fun i => 0 ≤ i ∧ i < 94) (z_take1 rfl (z_c rfl) (by decide : (0 : Int) < 94 ∧ (94 : Int) < 1000) (by omega)) n4 subM at4 s4 fun v5 G5 H5 a5 n5 at5 s5 ⟨i5, h5, hv5⟩ => ?_
    rw [hv5]
    obtain ⟨a, rfl⟩ : ∃ a : Nat, i5 = a := ⟨i5.toNat, by omega⟩
    have hel : ∀ i : Nat, ((a : Int) + (i : Int)).fmod 94 = (((a + i) % 94 : Nat) : Int) := fun i => by
      rw [Int.fmod_eq_emod_of_nonneg _ (by decide)]
      push_cast
      rfl
    refine QX.s_retM (M := [p]) (S := Hd p (n + 3)) (S1 := Hd p (n + 55)) (C := lstP K (gensI K 26 fun j d => ∃ r, d = rngD r ∧ r.1 = sgs.getD ((a + j) % 94) 0 ∧ Sgn r.2)) (Lz.ez (l_genI (fun i => Hd p (n + 3 + 2 * i)) (wk_rangeN (n := 26) (z_c rfl) (by decide)) (by decide) (fun _ _ h => h) (fun _ => stp _) (fun _ _ h => h.le (by omega)) (fun _ => rfl) fun i x G6 hi e6 hx => by
      have hx : x = .int (i : Nat) := hx
      subst hx
      refine Ez.to (z_tup (K := K) (B := consP (is (.str (chr (sgs.getD ((a + i) % 94) 0)))) (consP sgnP (is []))) (z_cons (Ez.lift (z_opE (z_call0 stb_tr fun G' _ => ⟨rfl, rfl⟩) (z_opC (z_int1e (z_opI (z_var rfl rfl) (z_var rfl rfl) rfl)) (z_c rfl) (by decide) (by rw [hel i])) fun G' => z_ixS line_len (by
        rw [line_cps]
        exact atI_nat (sgs_at (Nat.mod_lt _ (by decide)))) rfl) (stp _)) (z_cons (z_sign rfl (z_var rfl rfl) hL (by omega)) z_nil)) (stp _) fun G' xs' ⟨x1, xs1, e1, _, x2, xs2, e2, _, e3⟩ => by
          have e3 : xs2 = [] := e3
          rw [e1, e2, e3]
          show 2 ≤ sizeLine
          decide) fun G' v' _ hc => ?_
      obtain ⟨pp, xs, rfl, q1, x1, xs1, rfl, q2, x2, xs2, rfl, ⟨c, hc, q3⟩, q4⟩ := hc
      have q2 : x1 = _ := q2
      have q3 : x2 = _ := q3
      have q4 : xs2 = [] := q4
      subst q2 q3 q4
      exact ⟨rngD (sgs.getD ((a + i) % 94) 0, c), ⟨_, rfl, rfl, hc⟩, Dp.tup q1 (.cons (.str _) (.cons (.str _) .nil))⟩) (stp _)) n5 subM at5 s5 fun v G6 H6 n6 s6 hc => k v G6 H6 n6 (s6.le (by omega)) ?_
    obtain ⟨pp, xs, rfl, q1, ds, ⟨q2, q3⟩, q4⟩ := hc
    obtain ⟨ps, rfl, hps⟩ := all_mapI (i := 0) (P := fun j r => r.1 = sgs.getD ((a + j) % 94) 0 ∧ Sgn r.2) fun j d hd => by
      obtain ⟨r, h1, h2⟩ := q3 j d hd
      exact ⟨r, h1, by rw [Nat.zero_add]; exact h2⟩
    rw [List.length_map] at q2
    have hfst : ∀ (j : Nat) r, ps[j]? = some r → r.1 = sgs.getD ((a + j) % 94) 0 ∧ Sgn r.2 := fun j r h => by
      have := hps j r h
      rw [Nat.zero_add] at this
      exact this
    refine ⟨.list (ps.map rngD), ⟨ps, rfl, (fun z => by rw [z] at q2; cases q2), by omega, ?_, fun r hr => ?_⟩, Dp.lst q1 q4⟩
    · show (ps.map fun q => q.1).Nodup
      have e1 : (ps.map fun q => q.1) = (List.range 26).map fun j => sgs.getD ((a + j) % 94) 0 := by
        refine List.ext_getElem? fun j => ?_
        rw [List.getElem?_map, List.getElem?_map]
        by_cases hj : j < 26
        · rw [List.getElem?_eq_getElem (by omega : j < ps.length), List.getElem?_range hj]
          exact congrArg some (hfst j _ (List.getElem?_eq_getElem _)).1
        · rw [List.getElem?_eq_none (by omega), List.getElem?_eq_none (by simp; omega)]
          rfl
      rw [e1]
      refine List.Pairwise.map _ (fun i j (hij : i ≠ j ∧ i < 26 ∧ j < 26) e => ?_) (List.Pairwise.imp_of_mem (fun hi hj hne => ⟨hne, List.mem_range.mp hi, List.mem_range.mp hj⟩) List.nodup_range)
      have hi94 : (a + i) % 94 < 94 := Nat.mod_lt _ (by decide)
      have hj94 : (a + j) % 94 < 94 := Nat.mod_lt _ (by decide)
      have h3 := sgs_at hi94
      have h4 := sgs_at hj94
      rw [e] at h3
      have e2 := (List.getElem?_inj (by rw [sgs_len]; exact hi94) sgs_nodup).mp (h3.trans h4.symm)
      omega
    · obtain ⟨j, hj, hj2⟩ := List.getElem_of_mem hr
      have := hfst j r (by rw [List.getElem?_eq_getElem hj, hj2])
      exact ⟨by rw [this.1]; exact sgs_atS (Nat.mod_lt _ (by decide)), this.2⟩
  · refine q_ifU (M := [p]) (S := Hd p (n + 2)) (S1 := Hd p (n + 2)) (B := is (decide ((8 : Int) < i3))) (fun σ' G' H' => Nv [p] G H G' H' ∧ At [p] G' H' ∧ Hd p (n + 2) G' H' ∧ Lc H G' H' l [] ∧ ∃ many : Nat, 1 ≤ many ∧ many ≤ 16 ∧ σ' = [some (.ref p), some (.str L), some (.ref l), some (.int (many : Nat)), some (.int i3), none, none, none, none]) (Ez.lift (zt_test (z_opI (z_var rfl rfl) (z_c rfl) rfl)) (stp _)) n4 subM at4 s4 (fun G5 H5 a5 n5 at5 s5 next => ?_) (fun G5 H5 a5 n5 at5 s5 => ⟨n5, at5, s5, lc4.nv a5 hlp', i2.toNat, by omega, by omega, by
      have : ((i2.toNat : Nat) : Int) = i2 := by omega
      rw [this]
      rfl⟩) fun σ' G5 H5 ⟨n5, at5, s5, lc5, many, hm1, hm2, hσ⟩ => ?_
    · exact s_asgM (M := [p]) (S := Hd p (n + 2)) (S1 := Hd p (n + 2)) (C := is (.int 16)) (z_c rfl) n5 subM at5 s5 fun v6 G6 H6 a6 n6 at6 s6 hv6 => next _ G6 H6 ⟨n6, at6, s6, (lc4.nv a5 hlp').nv a6 hlp', 16, by decide, by decide, by rw [show v6 = _ from hv6]; rfl⟩
    · subst hσ
      refine q_forP (wk_rangeN (n := many) (z_var rfl rfl) (by omega)) n5 (fun i σ G6 H6 => ∃ y6 y7 ps ys, σ = [some (.ref p), some (.str L), some (.ref l), some (.int (many : Nat)), some (.int i3), none, y6, y7, none] ∧ At [p] G6 H6 ∧ Hd p (n + 2 + 5 * i) G6 H6 ∧ Lc H G6 H6 l ys ∧ DpAll K G6 ys (ps.map rngD) ∧ (1 ≤ i → ps ≠ []) ∧ ps.length ≤ i ∧ (ps.map fun q : Nat × Nat => q.1).Nodup ∧ ∀ r ∈ ps, Sgn r.1 ∧ Sgn r.2)
        (fun G6 H6 a6 n6 => ⟨none, none, [], [], rfl, at5.nv (a6.mono fun _ z => nomatch z), Stb.nv (stp _) at5 a6 s5, lc5.nv a6, DpAll.nil, fun z => by omega, Nat.le_refl _, List.nodup_nil, fun _ z => nomatch z⟩) (fun i σ G6 H6 x G7 H7 hi n6 e6 ⟨y6, y7, ps, ys, hσ, at6, s6, lc6, hys, hne, hlen, hnd, hsg⟩ a7 n7 hx => ?_) fun σ G6 H6 n6 e6 ⟨y6, y7, ps, ys, hσ, at6, s6, lc6, hys, hne, hlen, hnd, hsg⟩ => ?_
      · subst hσ
        have hx : x = .int (i : Nat) := hx
        subst hx
        have at7 := at6.nv (a7.mono (M' := [p]) fun _ z => nomatch z)
        have s7 := Stb.nv (stp _) at6 a7 s6
        have lc7 := lc6.nv a7
        have hys7 := QN.dp_monos a7.gg _ _ hys
        show tSeq _ _ _ [some (.ref p), some (.str L), some (.ref l), some (.int (many : Nat)), some (.int i3), none, some (.int (i : Nat)), y7, none] H7
        refine q_asgM (M := [p]) (S := Hd p (n + 2 + 5 * i)) (S1 := Hd p (n + 2 + 5 * i + 2)) (C := sgnP) (z_sign rfl (z_var rfl rfl) hL (by omega)) n7 subM at7 s7 fun v8 G8 H8 a8 n8 at8 s8 ⟨c8, hc8, hv8⟩ => ?_
        rw [show v8 = _ from hv8]
        have lc8 := lc7.nv a8 hlp'
        refine q_ifU (M := [p]) (S := Hd p (n + 2 + 5 * i + 2)) (S1 := Hd p (n + 2 + 5 * i + 2)) (B := is (decide (V.int (many : Nat) = V.int 16))) (fun σ' G' H' => Nv [p] G H G' H' ∧ Ex G8 G' ∧ At [p] G' H' ∧ Hd p (n + 2 + 5 * i + 3) G' H' ∧ Lc H G' H' l ys ∧ ∃ c, Sgn c ∧ σ' = [some (.ref p), some (.str L), some (.ref l), some (.int (many : Nat)), some (.int i3), none, some (.int (i : Nat)), some (.str (chr c)), none]) (Ez.lift (zt_test (z_opEq (z_var rfl rfl) (z_c rfl) rfl rfl)) (stp _)) n8 subM at8 s8 (fun G9 H9 a9 n9 at9 s9 next => ?_) (fun G9 H9 a9 n9 at9 s9 => ⟨n9, a9.gg, at9, s9.le (by omega), lc8.nv a9 hlp', c8, hc8, rfl⟩) fun σ' G9 H9 ⟨n9, e89, at9, s9, lc9, c, hc, hσ⟩ => ?_
        · exact s_asgM (M := [p]) (S := Hd p (n + 2 + 5 * i + 2)) (S1 := Hd p (n + 2 + 5 * i + 3)) (C := sgnP) (z_pick (z_var rfl rfl) (Ez.to (z_take1 rfl (z_c rfl) (by decide : (0 : Int) < 12 ∧ (12 : Int) < 1000) (by omega)) fun _ v _ ⟨j, hj, hv⟩ => (⟨j, ⟨hj.1, by rw [hL.len]; omega⟩, hv⟩ : ∃ j : Int, (0 ≤ j ∧ j < (L.cps.size : Nat)) ∧ v = .int j)) (let_len hL) hL.sgn) n9 subM at9 s9 fun v10 G10 H10 a10 n10 at10 s10 ⟨c10, hc10, hv10⟩ => next _ G10 H10 ⟨n10, a9.gg.trans a10.gg, at10, s10, (lc8.nv a9 hlp').nv a10 hlp', c10, hc10, by rw [show v10 = _ from hv10]; rfl⟩
        · subst hσ
          have hys9 := QN.dp_monos (a8.gg.trans e89) _ _ hys7
          have e69 := (a7.gg.trans a8.gg).trans e89
          refine s_ifK (b := !decide (c ∈ ps.map fun q => q.1)) (zt_test (z_inL (neg := true) (x := .str (chr c)) (xs := (ps.map fun q : Nat × Nat => q.1).map fun c => V.str (chr c)) (z_var rfl rfl) (Ez.to (Lz.ez (K := K) (l_fm ps rngD (fun r => some (.str (chr r.1))) (z_var rfl (lc9.dat hys9)) (by omega) fun r x10 G10 hr e10 hx10 => turn_all rfl (z_fld (n := 0) rfl hx10 rfl)) stb_tr) fun G' v' _ hcv => by
            obtain ⟨pp, xs, hv, q1, q2⟩ := hcv
            rw [fm_some'] at q2
            have : ps.map (fun r => PyData.str (chr r.1)) = ((ps.map fun q => q.1).map chr).map .str := by simp [List.map_map, Function.comp_def]
            rw [this] at q2
            exact ⟨pp, xs, hv, q1, by rw [da_strs q2]; show _ = _; simp [List.map_map, Function.comp_def]⟩) rfl (by rw [List.all_map]; exact List.all_eq_true.mpr fun _ _ => rfl) (by
              show (!inV _ _) = _
              rw [inV_chr]))) lc9 n9 (fun hb G10 H10 a10 n10 => ?_) fun hb G10 H10 a10 n10 => ?_
          · have hnot : c ∉ ps.map fun q => q.1 := by simpa using hb
            have lc10 := lc9.nv a10
            have hys10 := QN.dp_monos a10.gg _ _ hys9
            refine s_app (M := [p]) (S := Hd p (n + 2 + 5 * i + 3)) (S1 := Hd p (n + 2 + 5 * i + 5)) (C := tupP K (consP (is (.str (chr c))) (consP sgnP (is [])))) rfl lc10 (by rw [da_len hys10, List.length_map]; exact Nat.lt_of_le_of_lt (by omega : ps.length ≤ 16) (by decide)) (z_tup (z_cons (z_var rfl rfl) (z_cons (z_sign rfl (z_var rfl rfl) hL (by omega)) z_nil)) (stp _) fun G' xs' ⟨x1, xs1, e1, _, x2, xs2, e2, _, e3⟩ => by
              have e3 : xs2 = [] := e3
              rw [e1, e2, e3]
              show 2 ≤ sizeLine
              decide) n10 subM (at9.nv (a10.mono fun _ z => nomatch z)) (Stb.nv (stp _) at9 a10 s9) hlp' fun v11 G11 H11 a11 n11 at11 ⟨H12, s12, _, hm12⟩ lc11 hv11 => ?_
            obtain ⟨pp, xs, rfl, q1, x1, xs1, rfl, q2, x2, xs2, rfl, ⟨c2, hc2, q3⟩, q4⟩ := hv11
            have q2 : x1 = _ := q2
            have q3 : x2 = _ := q3
            have q4 : xs2 = [] := q4
            subst q2 q3 q4
            refine ⟨G11, n11, (e69.trans a10.gg).trans a11.gg, _, _, ps ++ [(c, c2)], _, rfl, at11, stp _ (Ex.refl _) hm12 s12, lc11, ?_, fun _ => by simp, by rw [List.length_append, List.length_singleton]; omega, ?_, fun r hr => ?_⟩
            · rw [List.map_append]
              exact da_snoc (QN.dp_monos a11.gg _ _ hys10) (Dp.tup q1 (.cons (.str _) (.cons (.str _) .nil)))
            · rw [List.map_append, List.nodup_append]
              refine ⟨hnd, by simp, fun a ha b hb e => ?_⟩
              have : b = c := by simpa using hb
              exact hnot (this ▸ e ▸ ha)
            · rcases List.mem_append.mp hr with z | z
              · exact hsg r z
              · have : r = (c, c2) := by simpa using z
                rw [this]
                exact ⟨hc, hc2⟩
          · have hin : c ∈ ps.map fun q => q.1 := by simpa using hb
            refine s_next ⟨G10, n10, e69.trans a10.gg, _, _, ps, ys, rfl, at9.nv (a10.mono fun _ z => nomatch z), (Stb.nv (stp _) at9 a10 s9).le (by omega), lc9.nv a10, QN.dp_monos a10.gg _ _ hys9, (fun _ z => by rw [z] at hin; cases hin), by omega, hnd, hsg⟩
      · subst hσ
        have n7 := lc6.close n6
        have hok : FilOk (.swap ps) := ⟨hne hm1, by omega, hnd, hsg⟩
        have hdp := lc6.dat hys
        refine k (.ref l) _ H6 n7 ?_ ⟨_, ⟨ps, rfl, hok⟩, hdp⟩ |> fun h => ⟨.ref l, rfl, h⟩
        exact (stp _ lc6.gg (fun _ _ => rfl) s6 : Hd p (n + 2 + 5 * many) _ H6).le (by omega)
end QP

/-! The budget; slices of data; results tied to what they leave. -/
namespace QD
open PySem L2 Evl QV QU QX QB QT
def Hb (p q : Addr) (n b : Nat) : Hf := fun G H => Hd p n G H ∧ H q = some (.lst [.int (b : Nat)])
theorem hb_stb {p q : Addr} {n b : Nat} {M : List Addr} (h : p ∈ M) (h2 : q ∈ M) : Stb M (Hb p q n b) := fun {G H G2 H2} e hm ⟨s1, s2⟩ => ⟨hd_stb h e hm s1, by rw [hm q h2]; exact s2⟩
theorem Hb.nvp {p q : Addr} {n n' b : Nat} {G H G2 H2 : Hp} (hpq : q ≠ p) (s : Hb p q n b G H) (nn : Nv [p] G H G2 H2) (h : Hd p n' G2 H2) : Hb p q n' b G2 H2 := ⟨h, nn.hh q _ (by simpa using hpq) s.2⟩
theorem Hb.le {p q : Addr} {n n' b : Nat} (h : n ≤ n') {G H : Hp} (s : Hb p q n b G H) : Hb p q n' b G H := ⟨s.1.le h, s.2⟩
/-- a def that changes things, its result tied to what it leaves by a number -/
def spG (pre : List V → List Addr → Hp → Hf → (Nat → Hf) → (Nat → Pd V) → Prop) : Sp := fun vs H Q _ => ∃ M G S S' C, At M G H ∧ S G H ∧ pre vs M G S S' C ∧ ∀ c v G2 H2, Nv M G H G2 H2 → S' c G2 H2 → (C c).p G2 v → Q v H2
section
variable {K : PySem.W.Frag} {M M0 : List Addr} {S S1 S2 S3 : Hf} {G0 H0 G H : Hp} {D : Ends} {σ : L2.St} {ta tb te te2 ti : TE} {tw : TS} {C : Pd V} {tl th : TO}
theorem zg_call {pre : List V → List Addr → Hp → Hf → (Nat → Hf) → (Nat → Pd V) → Prop} {E : XK} {L : List Addr} {ta : TA} {B : Pd (List V)} {SS : Nat → Hf} {CC : Nat → Pd V} (h : Pz (ta σ) G B) (st : Stb M S) (hL : ∀ x ∈ L, x ∈ M)
    (hp : ∀ vs G', Ex G G' → B.p G' vs → pre vs L G' S SS CC) : Ezg M S (fun c => fun G2 H2 => SS c G2 H2) (tCall (spG pre) [] E ta σ) G CC := fun G1 H e a s Q q =>
  Ez.lift (M := M) h st G1 H e a s _ fun vs G2 H2 n s2 hv => ⟨L, G2, S, SS, CC, ⟨n.gh, fun x hx => (a.nv n).mm x (hL x hx)⟩, s2, by rw [List.append_nil]; exact hp vs G2 (e.trans n.gg) hv, fun c v G3 H3 n3 t cc => q c v G3 H3 (n.trans (n3.mono hL)) t cc⟩
/-- a number unseen forgotten -/
theorem Ezg.ez {γ α : Type} {S' : γ → Hf} {CC : γ → Pd α} {f : Hp → (α → Hp → Prop) → Prop} {C : Pd α} (h : Ezg M S S' f G CC) (h1 : ∀ c G H, S' c G H → S1 G H) (h2 : ∀ c G' v, (CC c).p G' v → C.p G' v) : Ez M S S1 f G C := fun G1 H e a s Q q => h G1 H e a s Q fun c v G2 H2 n t cc => q v G2 H2 n (h1 c _ _ t) (h2 c _ _ cc)
theorem z_callP3S {pre : List V → List Addr → Hp → Hf → Hf → Pd V → Prop} {E : XK} {p : Addr} {i : Nat} {A B : Pd V} (hi : σ[i]? = some (some (.ref p))) (hp : p ∈ M) (ht : Ez M S S (te σ) G A) (ht2 : Ez M S S (te2 σ) G B)
    (h : ∀ x y G', Ex G G' → A.p G' x → B.p G' y → ∃ T T', (∀ G H, S G H → T G H) ∧ pre [.ref p, x, y] [p] G' T T' C ∧ ∀ G1 H1 G2 H2, S G1 H1 → Nv [p] G1 H1 G2 H2 → T' G2 H2 → S1 G2 H2) : Ez M S S1 (tCall (spM pre) [] E (tCons (tVar i) (tCons te (tCons te2 tNil))) σ) G C := fun G1 H e a s Q q =>
  ⟨.ref p, hi, ht G1 H e a s _ fun x G2 H2 n s2 hx => ht2 G2 H2 (e.trans n.gg) (a.nv n) s2 _ fun y G3 H3 n3 s3 hy => by
    obtain ⟨T, T', h1, h2, h3⟩ := h x y G3 ((e.trans n.gg).trans n3.gg) (A.mono n3.gg hx) hy
    exact ⟨[p], G3, T, T', C, ⟨n3.gh, fun z hz => ((a.nv n).nv n3).mm z ((by simpa using hz : z = p) ▸ hp)⟩, h1 _ _ s3, h2, fun v G4 H4 n4 t c => q v G4 H4 ((n.trans n3).trans (n4.mono fun z hz => (by simpa using hz : z = p) ▸ hp)) (h3 _ _ _ _ s3 n4 t) c⟩⟩
/-- item j of a list of S -/
theorem z_atS {p : Addr} {xs : List V} {i j : Nat} {v : V} (hi : σ[i]? = some (some (.ref p))) (hS : ∀ G H, S G H → H p = some (.lst xs)) (h : xs[j]? = some v) : Ez M S S (tOp (rIxL K) (tVar i) (tC (.int (j : Nat))) σ) G (is v) := fun G1 H e a s Q q =>
  ⟨.ref p, hi, p, xs, (j : Nat), v, rfl, rfl, SqL.of (hS _ _ s), atI_nat h, q v G1 H (Nv.refl a.ex) s rfl⟩
abbrev rMin2 : List V → Hp → VK → Prop := fun xs H Q => ∃ i j : Int, xs = [.int i, .int j] ∧ Q (.int (if j < i then j else i)) H
theorem z_min2 {i j k : Int} (ha : Ez M S S1 (ta σ) G (is (.int i))) (hb : Ez M S1 S2 (tb σ) G (is (.int j))) (e : (if j < i then j else i) = k) : Ez M S S2 (tCB rMin2 (tCons ta (tCons tb tNil)) σ) G (is (.int k)) := fun G1 H e0 at' s Q q =>
  ha G1 H e0 at' s _ fun x G2 H2 n2 s2 hx => hb G2 H2 (e0.trans n2.gg) (at'.nv n2) s2 _ fun y G3 H3 n3 s3 hy => ⟨i, j, by rw [show x = _ from hx, show y = _ from hy], q _ G3 H3 (n2.trans n3) s3 (by rw [e]; rfl)⟩
/-! slices -/
theorem z_lstD {ds : List PyData} {f : Hp → VK → Prop} (h : Ez M S S1 f G (dat K (.list ds))) : Ez M S S1 f G (lstP K (dats K ds)) := h.to fun _ _ _ c => by
  obtain ⟨a, xs, rfl, h1, h2⟩ := dp_list c
  exact ⟨a, xs, rfl, h1, h2⟩
theorem cut_to {α : Type} (ds : List α) (k : Nat) : (ds.drop (HT.sIx ds.length 0 none)).take (HT.sIx ds.length ds.length (some (k : Nat)) - HT.sIx ds.length 0 none) = ds.take k := by
  rw [HT.sIx_none, HT.sIx_nat, List.drop_zero, Nat.sub_zero]
  by_cases h : k ≤ ds.length
  · rw [Nat.min_eq_left h]
  · rw [Nat.min_eq_right (by omega), List.take_length, List.take_of_length_le (by omega)]
theorem cut_from {α : Type} (ds : List α) (k : Nat) : (ds.drop (HT.sIx ds.length 0 (some (k : Nat)))).take (HT.sIx ds.length ds.length none - HT.sIx ds.length 0 (some (k : Nat))) = ds.drop k := by
  rw [HT.sIx_none, HT.sIx_nat]
  by_cases h : k ≤ ds.length
  · rw [Nat.min_eq_left h, List.take_of_length_le (by rw [List.length_drop]; exact Nat.le_refl _)]
  · rw [Nat.min_eq_right (by omega), List.drop_length, List.drop_of_length_le (by omega)]
    simp
theorem cut_mid {α : Type} (ds : List α) (a b : Nat) : (ds.drop (HT.sIx ds.length 0 (some (a : Nat)))).take (HT.sIx ds.length ds.length (some (b : Nat)) - HT.sIx ds.length 0 (some (a : Nat))) = (ds.drop a).take (b - a) := by
  rw [HT.sIx_nat, HT.sIx_nat]
  by_cases h : a ≤ ds.length
  · rw [Nat.min_eq_left h]
    by_cases h2 : b ≤ ds.length
    · rw [Nat.min_eq_left h2]
    · rw [show min b ds.length = ds.length from Nat.min_eq_right (by omega), List.take_of_length_le (by rw [List.length_drop]; omega), List.take_of_length_le (by rw [List.length_drop]; omega)]
  · rw [show min a ds.length = ds.length from Nat.min_eq_right (by omega), List.drop_length, List.drop_of_length_le (by omega)]
    simp
theorem l_to {ds : List PyData} {k : Nat} (h : Ez M S S1 (te σ) G (dat K (.list ds))) (h2 : Ez M S1 S2 (ti σ) G (is (.int (k : Nat)))) (st : Stb M S2) : Lz (M := M) S S2 (tSl (rSlL K) te tNoPart (tPart ti) σ) G (dats K (ds.take k)) :=
  l_slice (z_lstD h) zo_none (zo_some h2) st fun G' xs hx => by rw [← cut_to]; exact da_cut hx _ _
theorem l_from {ds : List PyData} {k : Nat} (h : Ez M S S1 (te σ) G (dat K (.list ds))) (h2 : Ez M S1 S2 (ti σ) G (is (.int (k : Nat)))) (st : Stb M S2) : Lz (M := M) S S2 (tSl (rSlL K) te (tPart ti) tNoPart σ) G (dats K (ds.drop k)) :=
  l_slice (z_lstD h) (zo_some h2) zo_none st fun G' xs hx => by rw [← cut_from]; exact da_cut hx _ _
theorem l_mid {ds : List PyData} {a b : Nat} (h : Ez M S S1 (te σ) G (dat K (.list ds))) (h2 : Ez M S1 S2 (ti σ) G (is (.int (a : Nat)))) (h3 : Ez M S2 S3 (te2 σ) G (is (.int (b : Nat)))) (st : Stb M S3) : Lz (M := M) S S3 (tSl (rSlL K) te (tPart ti) (tPart te2) σ) G (dats K ((ds.drop a).take (b - a))) :=
  l_slice (z_lstD h) (zo_some h2) (zo_some h3) st fun G' xs hx => by rw [← cut_mid]; exact da_cut hx _ _
end
end QD

/-! What draws: filters, rows. -/
namespace QP
open PySem PySem.Spec PyProof.Rows L2 Evl QV QU QX QB QT QD
variable {P : Program} {w : World} {K : PySem.W.Frag} {mg : Str → Option Value} {base : Heap}
def fsize : Fil → Nat
  | .keep p => p.length
  | .drop p => p.length
  | .swap _ => 0
  | .first _ => 0
def rsize (r : QB.Row) : Nat := (r.map fsize).sum
def sp_law_filter (K : PySem.W.Frag) : Sp := spG fun vs M G S S' C => ∃ p q n b L, vs = [.ref p, .str L, .ref q] ∧ q ≠ p ∧ LetOk L ∧ M = [p, q] ∧ n ≤ 50000 ∧ b ≤ 1000 ∧ S = Hb p q n b ∧ S' = (fun c => Hb p q (n + 300) c) ∧ C = fun c => datR K fun d => ∃ fl, d = filD fl ∧ FilOk fl ∧ fsize fl + c = b
theorem p_law_filter (B : Bi K mg) {f : Addr} {fd : FuncData} (F : Fun K "_law_filter" "_law_filter" s_law_filter f fd) (c__law_take : Callee P w K mg base 1 "_law_take" P_law_take sp_law_take) (c__law_pattern : Callee P w K mg base 5 "_law_pattern" P_law_pattern (sp_law_pattern K)) (c__law_pairs : Callee P w K mg base 3 "_law_pairs" P_law_pairs (sp_law_pairs K)) : FnOk P w K mg base CX0 6 f fd P_law_filter (sp_law_filter K) := by
  refine F.ok sc_law_filter (fun vs H Q E ⟨M, G, S, S', C, _, _, ⟨p, q, n, b, L, e, _⟩, _⟩ => by rw [e]; rfl) fun cdv A outer s H vs Q E hr h => ?_
  have nd := sc_law_filter.nd
  have hu := hu_of hr
  have hu6 := hr.units
  refine ⟨_, (pss_cons (ps_set (i := 3) nd rfl (.inl rfl) (pe_call c__law_take.ok (hr.mono (by decide)) (by rfl) c__law_take.m c__law_take.kp c__law_take.b .nil pass0 (pa_cons (pv 0) (pa_cons pe_int pa_nil))))
      (pss_cons (ps_if (pt_cmpR op_lt (pv 3) pe_int (nomark _)) (pss_cons (ps_set (i := 4) nd rfl (.inl rfl) (pe_call c__law_pattern.ok (hr.mono (by decide)) (by rfl) c__law_pattern.m c__law_pattern.kp c__law_pattern.b .nil pass0 (pa_cons (pv 0) (pa_cons (pv 1) (pa_cons (pe_callB (call_min2 rfl) (by rfl) B.min_ (by decide +kernel) (pa_cons pe_int (pa_cons (pe_ix (QU.ixL (K := K) rfl) (pv 2) pe_int (fun _ _ => rfl)) pa_nil))) pa_nil)))))
      (pss_cons (ps_asg (pe_op op_sub (pe_ix (QU.ixL (K := K) rfl) (pv 2) pe_int (fun _ _ => rfl)) (pe_callB (QU.lenS (K := K) rfl) (by rfl) B.len_ (by decide +kernel) (pa_cons (pv 4) pa_nil))) (pg_sub (pv 2) pe_int set_list))
      (pss_one (ps_ret (pe_tup (pa_cons (pe_ix (QU.ixL (K := K) rfl) (pe_lst (pa_cons pe_str (pa_cons pe_str pa_nil))) (pe_op op_modN (pe_callTy call_int1 (by rfl) B.int_ (by decide +kernel) (pa_cons (pv 3) pa_nil)) pe_int) (fun _ _ => rfl)) (pa_cons (pv 4) pa_nil))))))) pss_nil)
      (pss_cons (ps_if (pt_cmpR op_lt (pv 3) pe_int (nomark _)) (pss_one (ps_ret (pe_tup (pa_cons pe_str (pa_cons (pe_call c__law_take.ok (hr.mono (by decide)) (by rfl) c__law_take.m c__law_take.kp c__law_take.b .nil pass0 (pa_cons (pv 0) (pa_cons pe_int pa_nil))) pa_nil))))) pss_nil)
      (pss_one (ps_ret (pe_tup (pa_cons pe_str (pa_cons (pe_call c__law_pairs.ok (hr.mono (by decide)) (by rfl) c__law_pairs.m c__law_pairs.kp c__law_pairs.b .nil pass0 (pa_cons (pv 0) (pa_cons (pv 1) pa_nil))) pa_nil)))))))), ?_⟩
  obtain ⟨M, G, S, S', C, aM, hS, ⟨p, q, n, b, L, rfl, hqp, hL, rfl, hn, hbb, rfl, rfl, rfl⟩, k⟩ := h
  have n0 : Nv [p, q] G H G H := Nv.refl aM.ex
  have stb : ∀ m c, Stb [p, q] (Hb p q m c) := fun m c => hb_stb (by simp) (by simp)
  refine q_asgM (M := [p, q]) (S := Hb p q n b) (S1 := Hb p q (n + 1) b) (C := intR fun i => 0 ≤ i ∧ i < 7) (z_take rfl (by simp) (z_c rfl) (stb _ _) (by decide) (by omega) (fun _ _ h => h.1) fun _ _ _ _ s nn h => s.nvp hqp nn h) n0 subM aM hS fun v1 G1 H1 a1 n1 at1 s1 ⟨i1, ⟨h10, h11⟩, hv1⟩ => ?_
  rw [hv1]
  refine q_ifSM (M := [p, q]) (S := Hb p q (n + 1) b) (S1 := Hb p q (n + 1) b) (b := decide (i1 < 4)) (fun G' H' => Nv [p, q] G H G' H' ∧ At [p, q] G' H' ∧ Hb p q (n + 1) b G' H') (Ez.lift (zt_test (z_opI (z_var rfl rfl) (z_c rfl) rfl)) (stb _ _)) n1 subM at1 s1 (fun hb G2 H2 a2 n2 at2 s2 _ => ?_) (fun hb G2 H2 a2 n2 at2 s2 => ⟨n2, at2, s2⟩) fun G2 H2 ⟨n2, at2, s2⟩ => ?_
  · have hmin : (if (b : Int) < 3 then (b : Int) else 3) = ((min 3 b : Nat) : Int) := by
      by_cases h : b < 3
      · rw [if_pos (by omega), Nat.min_eq_right (by omega)]
      · rw [if_neg (by omega), Nat.min_eq_left (by omega)]
        rfl
    refine q_asgM (M := [p, q]) (S := Hb p q (n + 1) b) (S1 := Hb p q (n + 201) b) (C := datR K fun d => ∃ pt : Pat, d = patD pt ∧ PatOk pt ∧ pt.length ≤ min 3 b) (z_callP3S (A := is (.str L)) (B := is (.int ((min 3 b : Nat) : Int))) rfl (by simp) (z_var rfl rfl) (z_min2 (z_c rfl) (z_atS (j := 0) rfl (fun _ _ h => h.2) rfl) hmin) fun x y G' _ hx hy => ⟨Hd p (n + 1), Hd p (n + 201), fun _ _ h => h.1, ⟨p, n + 1, L, min 3 b, by rw [show x = _ from hx, show y = _ from hy], hL, by omega, rfl, by omega, rfl, rfl, rfl⟩, fun _ _ _ _ s nn h => s.nvp hqp nn h⟩) n2 subM at2 s2 fun v3 G3 H3 a3 n3 at3 s3 hc3 => ?_
    obtain ⟨d3, ⟨pt, rfl, hpt, hpl⟩, hv3⟩ := hc3
    have hsub : Sub [q] [p, q] H := fun x hx => .inl (by
      have : x = q := by simpa using hx
      rw [this]
      simp)
    refine q_setM (p := q) (j := 0) (x := .int ((b - pt.length : Nat) : Int)) rfl (by show 0 < 1; decide) hsub (At.one' n3.gh (at3.mm q (by simp)).1 (at3.mm q (by simp)).2) s3.2 (z_opI (z_at (j := 0) rfl rfl) (z_len1 (ds := pt.map entD) (z_var rfl hv3)) (by
      rw [List.length_map]
      show V.int _ = V.int _
      congr 1
      omega)) n3 fun G4 H4 a4 n4 at4 s4 => ?_
    have s4 : H4 q = some (.lst [.int ((b - pt.length : Nat) : Int)]) := s4
    have at4' : At [p, q] G4 H4 := ⟨n4.gh, fun x hx => ⟨a4.av x (at3.mm x hx).1 (at3.mm x hx).2, a4.th x (at3.mm x hx).2⟩⟩
    have hb4 : Hb p q (n + 201) (b - pt.length) G4 H4 := by
      obtain ⟨⟨xs, h1, h2⟩, _⟩ := s3
      exact ⟨⟨xs, a4.hh p _ (by simpa using Ne.symm hqp) h1, h2⟩, s4⟩
    have hkd : ∃ bb : Bool, i1.fmod 2 = if bb = true then 0 else 1 := by
      have h1 := Int.fmod_nonneg_of_pos i1 (by decide : (0 : Int) < 2)
      have h2 := Int.fmod_lt_of_pos i1 (by decide : (0 : Int) < 2)
      by_cases h : i1.fmod 2 = 0
      · exact ⟨true, h⟩
      · exact ⟨false, by rw [if_neg Bool.false_ne_true]; omega⟩
    obtain ⟨bb, hbb2⟩ := hkd
    have hfl : ∃ fl, filD fl = .tuple [.str (if bb = true then "keep" else "drop"), patD pt] ∧ FilOk fl ∧ fsize fl = pt.length := by
      cases bb with
      | true => exact ⟨.keep pt, rfl, ⟨hpt, by omega⟩, rfl⟩
      | false => exact ⟨.drop pt, rfl, ⟨hpt, by omega⟩, rfl⟩
    obtain ⟨fl, hf1, hf2, hf3⟩ := hfl
    refine QX.s_retM (M := [p, q]) (S := Hb p q (n + 201) (b - pt.length)) (S1 := Hb p q (n + 201) (b - pt.length)) (C := dat K (.tuple [.str (if bb = true then "keep" else "drop"), patD pt])) (Ez.lift (z_tupD (z_consD (dat_str (z_ixLs (xs := [.str "keep", .str "drop"]) (i := if bb = true then 0 else 1) (Lz.ez (l_lst (z_disp (z_c rfl) (z_disp (z_c rfl) z_nil)) stb_tr fun G' xs b => by rw [show xs = _ from b]; show 2 ≤ sizeLine; decide) stb_tr) (z_opC (z_int1e (z_var rfl rfl)) (z_c rfl) (by decide) (by rw [hbb2])) (by cases bb <;> rfl))) (z_consD (z_var rfl (QN.dp_mono a4.gg _ _ hv3)) z_nilD)) stb_tr (by show 2 ≤ 1000; decide)) (stb _ _)) n4 subM at4' hb4 fun v5 G5 H5 n5 s5 hv5 => k (b - pt.length) v5 G5 H5 n5 (s5.le (by omega)) ⟨_, ⟨fl, rfl, hf2, by omega⟩, by rw [hf1]; exact hv5⟩
  · refine q_ifSM (M := [p, q]) (S := Hb p q (n + 1) b) (S1 := Hb p q (n + 1) b) (b := decide (i1 < 6)) (fun G' H' => Nv [p, q] G H G' H' ∧ At [p, q] G' H' ∧ Hb p q (n + 1) b G' H') (Ez.lift (zt_test (z_opI (z_var rfl rfl) (z_c rfl) rfl)) (stb _ _)) n2 subM at2 s2 (fun hb G3 H3 a3 n3 at3 s3 _ => ?_) (fun hb G3 H3 a3 n3 at3 s3 => ⟨n3, at3, s3⟩) fun G3 H3 ⟨n3, at3, s3⟩ => ?_
    · refine QX.s_retM (M := [p, q]) (S := Hb p q (n + 1) b) (S1 := Hb p q (n + 2) b) (C := tupP K (consP (is (.str "first")) (consP (intR fun i => 0 ≤ i ∧ i < 4) (is [])))) (z_tup (z_cons (z_c rfl) (z_cons (z_take rfl (by simp) (z_c rfl) (stb _ _) (by decide : (0 : Int) < 4 ∧ (4 : Int) < 1000) (by omega) (fun _ _ h => h.1) fun _ _ _ _ s nn h => s.nvp hqp nn h) z_nil)) (stb _ _) fun G' xs' ⟨x1, xs1, e1, _, x2, xs2, e2, _, e3⟩ => by
        have e3 : xs2 = [] := e3
        rw [e1, e2, e3]
        show 2 ≤ sizeLine
        decide) n3 subM at3 s3 fun v4 G4 H4 n4 s4 hc => k b v4 G4 H4 n4 (s4.le (by omega)) ?_
      obtain ⟨pp, xs, rfl, q1, x1, xs1, rfl, q2, x2, xs2, rfl, ⟨j, hj, q3⟩, q4⟩ := hc
      have q2 : x1 = _ := q2
      have q4 : xs2 = [] := q4
      subst q2 q3 q4
      refine ⟨filD (.first j.toNat), ⟨.first j.toNat, rfl, by show j.toNat ≤ 3; omega, Nat.zero_add _⟩, Dp.tup q1 (.cons (.str _) (.cons ?_ .nil))⟩
      have : j = ((j.toNat : Nat) : Int) := by omega
      rw [this]
      exact Dp.int _
    · refine QX.s_retM (M := [p, q]) (S := Hb p q (n + 1) b) (S1 := Hb p q (n + 201) b) (C := tupP K (consP (is (.str "swap")) (consP (prsP K) (is [])))) (z_tup (z_cons (z_c rfl) (z_cons (z_callP2 (A := is (.str L)) rfl (by simp) (z_var rfl rfl) (stb _ _) fun x G' _ hx => ⟨Hd p (n + 1), Hd p (n + 201), fun _ _ h => h.1, ⟨p, n + 1, L, by rw [show x = _ from hx], hL, rfl, by omega, rfl, rfl, rfl⟩, fun _ _ _ _ s nn h => s.nvp hqp nn h⟩) z_nil)) (stb _ _) fun G' xs' ⟨x1, xs1, e1, _, x2, xs2, e2, _, e3⟩ => by
        have e3 : xs2 = [] := e3
        rw [e1, e2, e3]
        show 2 ≤ sizeLine
        decide) n3 subM at3 s3 fun v4 G4 H4 n4 s4 hc => k b v4 G4 H4 n4 (s4.le (by omega)) ?_
      obtain ⟨pp, xs, rfl, q1, x1, xs1, rfl, q2, x2, xs2, rfl, ⟨d, ⟨ps, rfl, hps⟩, q3⟩, q4⟩ := hc
      have q2 : x1 = _ := q2
      have q4 : xs2 = [] := q4
      subst q2 q4
      exact ⟨filD (.swap ps), ⟨.swap ps, rfl, hps, Nat.zero_add _⟩, Dp.tup q1 (.cons (.str _) (.cons q3 .nil))⟩
end QP

/-! What draws: rows. -/
namespace QP
open PySem PySem.Spec PyProof.Rows L2 Evl QV QU QX QB QT QD
variable {P : Program} {w : World} {K : PySem.W.Frag} {mg : Str → Option Value} {base : Heap}
def rowsP (K : PySem.W.Frag) (len size : Nat) : Pd V := datR K fun d => ∃ r : QB.Row, d = rowD r ∧ RowOk r ∧ r.length ≤ len ∧ rsize r ≤ size
theorem rsize_app (a b : QB.Row) : rsize (a ++ b) = rsize a + rsize b := by
  unfold rsize
  rw [List.map_append, List.sum_append]
def sp_law_row (K : PySem.W.Frag) : Sp := spM fun vs M G S S' C => ∃ p n L most tup, vs = [.ref p, .str L, .int (most : Nat), .int (tup : Nat)] ∧ LetOk L ∧ most ≤ 4 ∧ tup ≤ 1000 ∧ M = [p] ∧ n ≤ 10000 ∧ S = Hd p n ∧ S' = Hd p (n + 2000) ∧ C = rowsP K most tup
theorem p_law_row (B : Bi K mg) {f : Addr} {fd : FuncData} (F : Fun K "_law_row" "_law_row" s_law_row f fd) (c__law_take : Callee P w K mg base 1 "_law_take" P_law_take sp_law_take) (c__law_filter : Callee P w K mg base 6 "_law_filter" P_law_filter (sp_law_filter K)) : FnOk P w K mg base CX0 7 f fd P_law_row (sp_law_row K) := by
  refine F.ok sc_law_row (fun vs H Q E ⟨M, G, S, S', C, _, _, ⟨p, n, L, most, tup, e, _⟩, _⟩ => by rw [e]; rfl) fun cdv A outer s H vs Q E hr h => ?_
  have nd := sc_law_row.nd
  have hu := hu_of hr
  have hu6 := hr.units
  refine ⟨_, (pss_cons (ps_set (i := 4) nd rfl (.inr rfl) (pe_lst (pa_cons (pv 3) pa_nil)))
      (pss_one (ps_ret (pe_lc (own := [("_law_k", 5)]) rfl nd (pi_range1 (by rfl) B.range_ (pa_cons (pe_call c__law_take.ok (hr.mono (by decide)) (by rfl) c__law_take.m c__law_take.kp c__law_take.b .nil pass0 (pa_cons (pv 0) (pa_cons (pe_op op_add (pv 2) pe_int) pa_nil))) pa_nil)) (blkOk_by (own := [("_law_k", 5)]) (N := N_law_row) (sc := defScope s_law_row) (by decide +kernel)) (fun _ _ _ _ _ => (pg_name (i := 5) nd rfl (.inl rfl))) (fun _ _ _ _ _ => pts_nil) (fun _ _ _ _ _ => (pe_call c__law_filter.ok (hr.mono (by decide)) (by rfl) c__law_filter.m c__law_filter.kp c__law_filter.b .nil pass0 (pa_cons (pv 0) (pa_cons (pv 1) (pa_cons (pv 4) pa_nil))))))))), ?_⟩
  obtain ⟨M, G, S, S', C, aM, hS, ⟨p, n, L, most, tup, rfl, hL, hm, ht, rfl, hn, rfl, rfl, rfl⟩, k⟩ := h
  have n0 : Nv [p] G H G H := Nv.refl aM.ex
  refine q_asgL (B := is [.int (tup : Nat)]) (l_lst (z_disp (z_var rfl rfl) z_nil) stb_tr fun G' xs b => by rw [show xs = _ from b]; show 1 ≤ sizeLine; decide) n0 fun q xs G1 H1 a1 n1 hq1 lc b => ?_
  rw [show xs = _ from b] at lc
  have hqp : q ≠ p := fun z => (aM.mm p (by simp)).2 (z ▸ lc.new)
  have stb : ∀ m c, Stb [p, q] (Hb p q m c) := fun m c => hb_stb (by simp) (by simp)
  have aP := aM.nv (a1.mono (M' := [p]) fun _ z => nomatch z)
  have at1 : At [p, q] G1 H1 := ⟨n1.gh, fun x hx => by
    rcases List.mem_cons.mp hx with rfl | hx
    · exact aP.mm x (by simp)
    · have : x = q := by simpa using hx
      rw [this]
      exact ⟨lc.out, by rw [lc.val]; simp⟩⟩
  have s1 : Hb p q n tup G1 H1 := ⟨Stb.nv (hd_stb (by simp)) aM a1 hS, lc.val⟩
  have hsub : Sub [p, q] [p] H := fun x hx => by
    rcases List.mem_cons.mp hx with rfl | hx
    · exact .inl (by simp)
    · have : x = q := by simpa using hx
      rw [this]
      exact .inr lc.new
  have hlc : Lz (M := [p, q]) (Hb p q n tup) (Hd p (n + 2000)) (tLc (iRng1 (tCons (tCall sp_law_take [] E0 (tCons (tVar 0) (tCons (tOp (rI0 fun i j => .int (i + j)) (tVar 2) (tC (.int 1))) tNil))) tNil)) (gName 5) tYes (tCall (sp_law_filter K) [] E0 (tCons (tVar 0) (tCons (tVar 1) (tCons (tVar 4) tNil)))) [5] [some (.ref p), some (.str L), some (.int (most : Nat)), some (.int (tup : Nat)), some (.ref q), none]) G1 (some_ fun r : QB.Row => both_ (RowOk r ∧ r.length ≤ most ∧ rsize r ≤ tup) (dats K (r.map filD))) :=
    l_lcg (γ := Nat) (S1 := Hb p q (n + 1) tup) (wk_range (R := fun i => 0 ≤ i ∧ i < (most : Int) + 1) (z_take rfl (by simp) (z_opI (z_var rfl rfl) (z_c rfl) rfl) (stb _ _) (by omega) (by omega) (fun _ _ h => h.1) fun _ _ _ _ s nn h => s.nvp hqp nn h) fun j hj => by omega) (fun n' B' ⟨⟨j, hj, h⟩, _⟩ => by omega) fun n' B' G2 e2 ⟨⟨j, hj, hn'⟩, hB⟩ => by
      refine ⟨fun i c => Hb p q (n + 1 + 300 * i) c, fun i c => some_ fun r : QB.Row => both_ (r.length = i ∧ RowOk r ∧ rsize r + c = tup) (dats K (r.map filD)), fun G H h _ => ⟨tup, h, [], ⟨rfl, (fun _ z => nomatch z), Nat.zero_add _⟩, DpAll.nil⟩, fun i c => stb _ _, fun c G H h => h.1.le (by omega), fun c G' xs _ ⟨r, ⟨h1, h2, h3⟩, h4⟩ => ⟨r, ⟨h2, by omega, by omega⟩, h4⟩, fun i c x acc G3 hi e3 hx aa => ?_⟩
      obtain ⟨r, ⟨h1, h2, h3⟩, h4⟩ := aa
      intro G4 H4 e4 a4 s4 Q q'
      refine ⟨rfl, yes_ ?_⟩
      rw [if_pos rfl]
      refine zg_call (L := [p, q]) (CC := fun c2 => datR K fun d => ∃ fl, d = filD fl ∧ FilOk fl ∧ fsize fl + c2 = c) (SS := fun c2 => Hb p q (n + 1 + 300 * i + 300) c2) (B := consP (is (.ref p)) (consP (is (.str L)) (consP (is (.ref q)) (is [])))) (z_cons (z_var rfl rfl) (z_cons (z_var rfl rfl) (z_cons (z_var rfl rfl) z_nil))) (stb _ _) (fun _ h => h) (fun vs G' e' ⟨x1, xs1, hv1, h1, x2, xs2, hv2, h2, x3, xs3, hv3, h3, h4⟩ => by
        have h1 : x1 = _ := h1
        have h2 : x2 = _ := h2
        have h3 : x3 = _ := h3
        have h4 : xs3 = [] := h4
        subst h1 h2 h3 h4
        exact ⟨p, q, n + 1 + 300 * i, c, L, by rw [hv1, hv2, hv3], hqp, hL, rfl, by omega, by omega, rfl, rfl, rfl⟩) G4 H4 (Ex.refl _) a4 s4 _ fun c2 v G5 H5 n5 t5 ⟨d, ⟨fl, hfl1, hfl2, hfl3⟩, hv⟩ => q' c2 (some v) G5 H5 n5 (t5.le (by omega)) ⟨r ++ [fl], ⟨by rw [List.length_append, h1]; rfl, fun f hf => ?_, ?_⟩, ?_⟩
      · rcases List.mem_append.mp hf with z | z
        · exact h2 f z
        · have : f = fl := by simpa using z
          rw [this]
          exact hfl2
      · rw [rsize_app]
        have : rsize [fl] = fsize fl := by simp [rsize]
        omega
      · rw [List.map_append]
        have hv' : Dp K G5 v d := hv
        rw [hfl1] at hv'
        exact da_snoc (QN.dp_monos (e4.trans n5.gg) _ _ h4) hv'
  refine QX.s_retM (M := [p, q]) (S := Hb p q n tup) (S1 := Hd p (n + 2000)) (Lz.ez (K := K) hlc (hd_stb (by simp))) n1 hsub at1 s1 fun v G2 H2 n2 s2 hc => k v G2 H2 n2 s2 ?_
  obtain ⟨pp, xs, rfl, q1, r, ⟨q2, q3, q4⟩, q5⟩ := hc
  exact ⟨rowD r, ⟨r, rfl, q2, q3, q4⟩, Dp.lst q1 q5⟩
def sp_law_changed (K : PySem.W.Frag) : Sp := spM fun vs M G S S' C => ∃ p n L r v, vs = [.ref p, .str L, v] ∧ LetOk L ∧ Dp K G v (rowD r) ∧ RowOk r ∧ r.length ≤ 4 ∧ rsize r ≤ 6 ∧ M = [p] ∧ n ≤ 1000 ∧ S = Hd p n ∧ S' = Hd p (n + 3000) ∧ C = rowsP K 5 10
theorem rok_take {r : QB.Row} (h : RowOk r) (k : Nat) : RowOk (r.take k) := fun f hf => h f (List.mem_of_mem_take hf)
theorem rok_drop {r : QB.Row} (h : RowOk r) (k : Nat) : RowOk (r.drop k) := fun f hf => h f (List.mem_of_mem_drop hf)
theorem rok_app {a b : QB.Row} (h1 : RowOk a) (h2 : RowOk b) : RowOk (a ++ b) := fun f hf => by
  rcases List.mem_append.mp hf with z | z
  · exact h1 f z
  · exact h2 f z
theorem rsize_split (r : QB.Row) (k : Nat) : rsize (r.take k) + rsize (r.drop k) = rsize r := by
  rw [← rsize_app, List.take_append_drop]
theorem rsize_one {r : QB.Row} (h : RowOk r) (k : Nat) : rsize ((r.drop k).take 1) ≤ 3 := by
  cases hd : (r.drop k).take 1 with
  | nil => exact Nat.zero_le _
  | cons f l =>
    have hl : l = [] := by
      have : ((r.drop k).take 1).length ≤ 1 := by rw [List.length_take]; exact Nat.min_le_left _ _
      rw [hd] at this
      cases l with
      | nil => rfl
      | cons _ _ => simp at this
    subst hl
    have hf : f ∈ r := List.mem_of_mem_drop (List.mem_of_mem_take (by rw [hd]; simp : f ∈ (r.drop k).take 1))
    have := h f hf
    cases f with
    | keep p => exact Nat.le_trans (by simp [rsize, fsize]) this.2
    | drop p => exact Nat.le_trans (by simp [rsize, fsize]) this.2
    | swap ps => simp [rsize, fsize]
    | first m => simp [rsize, fsize]
theorem drop_split (r : QB.Row) (k : Nat) : r.drop k = (r.drop k).take 1 ++ r.drop (k + 1) := by
  conv => lhs; rw [← List.take_append_drop 1 (r.drop k)]
  rw [List.drop_drop]
theorem lot_ok : RowOk [.keep [.lot]] := fun f hf => by
  have : f = .keep [.lot] := by simpa using hf
  rw [this]
  exact ⟨fun e he => by
    have : e = .lot := by simpa using he
    rw [this]
    exact True.intro, by decide⟩
theorem p_law_changed (B : Bi K mg) {f : Addr} {fd : FuncData} (F : Fun K "_law_changed" "_law_changed" s_law_changed f fd) (c__law_take : Callee P w K mg base 1 "_law_take" P_law_take sp_law_take) (c__law_row : Callee P w K mg base 7 "_law_row" P_law_row (sp_law_row K)) (c__law_filter : Callee P w K mg base 6 "_law_filter" P_law_filter (sp_law_filter K)) : FnOk P w K mg base CX0 8 f fd P_law_changed (sp_law_changed K) := by
  refine F.ok sc_law_changed (fun vs H Q E ⟨M, G, S, S', C, _, _, ⟨p, n, L, r, v, e, _⟩, _⟩ => by rw [e]; rfl) fun cdv A outer s H vs Q E hr h => ?_
  have nd := sc_law_changed.nd
  have hu := hu_of hr
  have hu6 := hr.units
  refine ⟨_, (pss_cons (ps_set (i := 3) nd rfl (.inl rfl) (pe_call c__law_take.ok (hr.mono (by decide)) (by rfl) c__law_take.m c__law_take.kp c__law_take.b .nil pass0 (pa_cons (pv 0) (pa_cons pe_int pa_nil))))
      (pss_cons (ps_set (i := 4) nd rfl (.inl rfl) (pe_lst (pa_cons pe_int pa_nil)))
      (pss_cons (ps_if (pt_cmpR op_eq (pv 3) pe_int (nomark _)) (pss_one (ps_ret (pe_call c__law_row.ok (hr.mono (by decide)) (by rfl) c__law_row.m c__law_row.kp c__law_row.b .nil pass0 (pa_cons (pv 0) (pa_cons (pv 1) (pa_cons pe_int (pa_cons pe_int pa_nil))))))) pss_nil)
      (pss_cons (ps_if (pw_or (pt_cmpR op_eq (pv 3) pe_int (nomark _)) (pw_or1 (pt_not (pt_truth (pv 2) (by intro _; rfl))))).pt (pss_cons (ps_set (i := 5) nd rfl (.inl rfl) (pe_call c__law_take.ok (hr.mono (by decide)) (by rfl) c__law_take.m c__law_take.kp c__law_take.b .nil pass0 (pa_cons (pv 0) (pa_cons (pe_op op_add (pe_callB (QU.lenS (K := K) rfl) (by rfl) B.len_ (by decide +kernel) (pa_cons (pv 2) pa_nil)) pe_int) pa_nil))))
      (pss_one (ps_ret (pe_op op_cat (pe_op op_cat (pe_slice (QU.slL (K := K) rfl) (pv 2) po_none (po_some (pv 5))) (pe_lst (pa_cons (pe_tup (pa_cons pe_str (pa_cons (pe_lst (pa_cons (pe_tup (pa_cons pe_str pa_nil)) pa_nil)) pa_nil))) pa_nil))) (pe_slice (QU.slL (K := K) rfl) (pv 2) (po_some (pv 5)) po_none))))) pss_nil)
      (pss_cons (ps_set (i := 5) nd rfl (.inl rfl) (pe_call c__law_take.ok (hr.mono (by decide)) (by rfl) c__law_take.m c__law_take.kp c__law_take.b .nil pass0 (pa_cons (pv 0) (pa_cons (pe_callB (QU.lenS (K := K) rfl) (by rfl) B.len_ (by decide +kernel) (pa_cons (pv 2) pa_nil)) pa_nil))))
      (pss_cons (ps_if (pt_cmpR op_eq (pv 3) pe_int (nomark _)) (pss_one (ps_ret (pe_op op_cat (pe_slice (QU.slL (K := K) rfl) (pv 2) po_none (po_some (pv 5))) (pe_slice (QU.slL (K := K) rfl) (pv 2) (po_some (pe_op op_add (pv 5) pe_int)) po_none)))) pss_nil)
      (pss_cons (ps_if (pt_cmpR op_eq (pv 3) pe_int (nomark _)) (pss_one (ps_ret (pe_op op_cat (pe_op op_cat (pe_op op_cat (pe_slice (QU.slL (K := K) rfl) (pv 2) po_none (po_some (pv 5))) (pe_slice (QU.slL (K := K) rfl) (pv 2) (po_some (pe_op op_add (pv 5) pe_int)) (po_some (pe_op op_add (pv 5) pe_int)))) (pe_slice (QU.slL (K := K) rfl) (pv 2) (po_some (pv 5)) (po_some (pe_op op_add (pv 5) pe_int)))) (pe_slice (QU.slL (K := K) rfl) (pv 2) (po_some (pe_op op_add (pv 5) pe_int)) po_none)))) pss_nil)
      (pss_cons (ps_if (pt_cmpR op_eq (pv 3) pe_int (nomark _)) (pss_one (ps_ret (pe_op op_cat (pe_slice (QU.slL (K := K) rfl) (pv 2) po_none (po_some (pe_op op_add (pv 5) pe_int))) (pe_slice (QU.slL (K := K) rfl) (pv 2) (po_some (pv 5)) po_none)))) pss_nil)
      (pss_one (ps_ret (pe_op op_cat (pe_op op_cat (pe_slice (QU.slL (K := K) rfl) (pv 2) po_none (po_some (pv 5))) (pe_lst (pa_cons (pe_call c__law_filter.ok (hr.mono (by decide)) (by rfl) c__law_filter.m c__law_filter.kp c__law_filter.b .nil pass0 (pa_cons (pv 0) (pa_cons (pv 1) (pa_cons (pv 4) pa_nil)))) pa_nil))) (pe_slice (QU.slL (K := K) rfl) (pv 2) (po_some (pe_op op_add (pv 5) pe_int)) po_none)))))))))))), ?_⟩
  obtain ⟨M, G, S, S', C, aM, hS, ⟨p, n, L, r, v, rfl, hL, hv, hok, hrl, hrs, rfl, hn, rfl, rfl, rfl⟩, k⟩ := h
  have n0 : Nv [p] G H G H := Nv.refl aM.ex
  have stp : ∀ m, Stb [p] (Hd p m) := fun m => hd_stb (by simp)
  have hlen : (r.map filD).length = r.length := List.length_map _
  refine q_asgM (M := [p]) (S := Hd p n) (S1 := Hd p (n + 1)) (C := intR fun i => 0 ≤ i ∧ i < 6) (z_take1 rfl (z_c rfl) (by decide) (by omega)) n0 subM aM hS fun v1 G1 H1 a1 n1 at1 s1 ⟨i1, ⟨h10, h11⟩, hv1⟩ => ?_
  rw [hv1]
  refine q_asgL (B := is [.int 4]) (l_lst (z_disp (z_c rfl) z_nil) stb_tr fun G' xs b => by rw [show xs = _ from b]; show 1 ≤ sizeLine; decide) n1 fun q xs G2 H2 a2 n2 hq2 lc b => ?_
  rw [show xs = _ from b] at lc
  have hqp : q ≠ p := fun z => (aM.mm p (by simp)).2 (z ▸ lc.new)
  have hqp' : q ∉ [p] := by simpa using hqp
  have at2 := at1.nv (a2.mono (M' := [p]) fun _ z => nomatch z)
  have s2 := Stb.nv (stp _) at1 a2 s1
  refine q_ifSM (M := [p]) (S := Hd p (n + 1)) (S1 := Hd p (n + 1)) (b := decide (V.int i1 = V.int 0)) (fun G' H' => Nv [p] G H G' H' ∧ At [p] G' H' ∧ Hd p (n + 1) G' H' ∧ Lc H G' H' q [.int 4]) (Ez.lift (zt_test (z_opEq (z_var rfl rfl) (z_c rfl) rfl rfl)) (stp _)) n2 subM at2 s2 (fun hb G3 H3 a3 n3 at3 s3 _ => ?_) (fun hb G3 H3 a3 n3 at3 s3 => ⟨n3, at3, s3, lc.nv a3 hqp'⟩) fun G3 H3 ⟨n3, at3, s3, lc3⟩ => ?_
  · refine QX.s_retM (M := [p]) (S := Hd p (n + 1)) (S1 := Hd p (n + 2001)) (C := rowsP K 4 10) (z_callM (L := [p]) (B := consP (is (.ref p)) (consP (is (.str L)) (consP (is (.int 4)) (consP (is (.int 10)) (is []))))) (Ez.lift (z_cons (z_var rfl rfl) (z_cons (z_var rfl rfl) (z_cons (z_c rfl) (z_cons (z_c rfl) z_nil)))) (stp _)) (fun _ h => h) fun vs G' e' hvs => ?_) n3 subM at3 s3 fun v4 G4 H4 n4 s4 hc => k v4 G4 H4 n4 (s4.le (by omega)) ?_
    · obtain ⟨x1, xs1, rfl, h1, x2, xs2, rfl, h2, x3, xs3, rfl, h3, x4, xs4, rfl, h4, h5⟩ := hvs
      have h1 : x1 = _ := h1
      have h2 : x2 = _ := h2
      have h3 : x3 = _ := h3
      have h4 : x4 = _ := h4
      have h5 : xs4 = [] := h5
      subst h1 h2 h3 h4 h5
      exact ⟨Hd p (n + 1), Hd p (n + 2001), fun _ _ _ h => h, fun G'' e'' => ⟨p, n + 1, L, 4, 10, rfl, hL, by decide, by decide, rfl, by omega, rfl, rfl, rfl⟩, fun _ _ _ _ _ _ h => h⟩
    · obtain ⟨d, ⟨r', hd, h1, h2, h3⟩, h4⟩ := hc
      exact ⟨d, ⟨r', hd, h1, by omega, h3⟩, h4⟩
  · have hv3 := QN.dp_mono n3.gg _ _ hv
    refine q_ifSM (M := [p]) (S := Hd p (n + 1)) (S1 := Hd p (n + 1)) (b := decide (V.int i1 = V.int 1) || decide (r.length = 0)) (fun G' H' => Nv [p] G H G' H' ∧ At [p] G' H' ∧ Hd p (n + 1) G' H' ∧ Lc H G' H' q [.int 4] ∧ 0 < r.length) (Ez.lift (zt_or (zt_test (z_opEq (z_var rfl rfl) (z_c rfl) rfl rfl)) fun _ => zt_is (zt_not (zt_truE (z_truL (z_var rfl hv3)) rfl)) (by rw [hlen, Bool.not_not])) (stp _)) n3 subM at3 s3 (fun hb G4 H4 a4 n4 at4 s4 _ => ?_) (fun hb G4 H4 a4 n4 at4 s4 => ⟨n4, at4, s4, lc3.nv a4 hqp', by
      rw [Bool.or_eq_false_iff] at hb
      have := of_decide_eq_false hb.2
      omega⟩) fun G4 H4 ⟨n4, at4, s4, lc4, hr0⟩ => ?_
    · refine q_asgM (M := [p]) (S := Hd p (n + 1)) (S1 := Hd p (n + 2)) (C := intR fun i => 0 ≤ i ∧ i < (r.length : Int) + 1) (z_take1 rfl (z_opI (z_len1 (z_var rfl (QN.dp_mono n4.gg _ _ hv))) (z_c rfl) (by rw [hlen])) (by omega) (by omega)) n4 subM at4 s4 fun v5 G5 H5 a5 n5 at5 s5 ⟨i5, h5, hv5⟩ => ?_
      rw [hv5]
      obtain ⟨pl, rfl⟩ : ∃ a : Nat, i5 = a := ⟨i5.toNat, by omega⟩
      have hv5 := QN.dp_mono n5.gg _ _ hv
      refine QX.s_retM (M := [p]) (S := Hd p (n + 2)) (S1 := Hd p (n + 2)) (C := rowsP K 5 10) (Ez.lift (z_datR (d := rowD (r.take pl ++ [.keep [.lot]] ++ r.drop pl)) (Ez.to (Lz.dat (l_catD (Lz.exact (l_catD (Lz.exact (l_to (z_var rfl hv5) (z_var rfl rfl) stb_tr) stb_tr) (Lz.exact (l_lstD (ds := [filD (.keep [.lot])]) (z_consD (z_tupD (ds := [.str "keep", patD [.lot]]) (z_consD (dat_str (z_c rfl)) (z_consD (Lz.dat (l_lstD (ds := [entD .lot]) (z_consD (z_tupD (ds := [.str "lot"]) (z_consD (dat_str (z_c rfl)) z_nilD) stb_tr (by show 1 ≤ 1000; decide)) z_nilD) stb_tr (by show 1 ≤ 1000; decide)) stb_tr) z_nilD)) stb_tr (by show 2 ≤ 1000; decide)) z_nilD) stb_tr (by show 1 ≤ 1000; decide)) stb_tr) stb_tr (by rw [List.length_take, hlen]; show _ + 1 ≤ _; exact Nat.le_trans (by omega : _ ≤ 10) (by decide))) stb_tr) (Lz.exact (l_from (z_var rfl hv5) (z_var rfl rfl) stb_tr) stb_tr) stb_tr (by rw [List.length_append, List.length_take, List.length_drop, hlen]; show _ + 1 + _ ≤ _; exact Nat.le_trans (by omega : _ ≤ 20) (by decide))) stb_tr) fun G' v' _ c' => by
        show Dp K G' v' (.list _)
        rw [List.map_append, List.map_append, List.map_take, List.map_drop]
        exact c') ⟨_, rfl, rok_app (rok_app (rok_take hok _) lot_ok) (rok_drop hok _), ?_, ?_⟩) (stp _)) n5 subM at5 s5 fun v6 G6 H6 n6 s6 hc => k v6 G6 H6 n6 (s6.le (by omega)) hc
      · rw [List.length_append, List.length_append, List.length_take, List.length_drop]
        show _ + 1 + _ ≤ 5
        omega
      · rw [rsize_app, rsize_app]
        have := rsize_split r pl
        have : rsize [Fil.keep [.lot]] = 1 := rfl
        omega
    · refine q_asgM (M := [p]) (S := Hd p (n + 1)) (S1 := Hd p (n + 2)) (C := intR fun i => 0 ≤ i ∧ i < (r.length : Int)) (z_take1 rfl (z_is (z_len1 (z_var rfl (QN.dp_mono n4.gg _ _ hv))) (by rw [hlen])) (by omega) (by omega)) n4 subM at4 s4 fun v5 G5 H5 a5 n5 at5 s5 ⟨i5, h5, hv5⟩ => ?_
      rw [hv5]
      obtain ⟨pl, rfl⟩ : ∃ a : Nat, i5 = a := ⟨i5.toNat, by omega⟩
      have lc5 := lc4.nv a5 hqp'
      have hp1 : V.int ((pl : Nat) + 1) = V.int ((pl + 1 : Nat) : Int) := rfl
      have fit : ∀ m : Nat, m ≤ 100 → m ≤ sizeLine := fun m h => Nat.le_trans h (by decide)
      have ltake : ∀ m, ((r.map filD).take m).length ≤ 4 := fun m => by
        rw [List.length_take, hlen]
        exact Nat.le_trans (Nat.min_le_right _ _) hrl
      have ldrop : ∀ m, ((r.map filD).drop m).length ≤ 4 := fun m => by
        rw [List.length_drop, hlen]
        omega
      have lmid : ∀ m m2, (((r.map filD).drop m).take m2).length ≤ 4 := fun m m2 => by
        rw [List.length_take]
        exact Nat.le_trans (Nat.min_le_right _ _) (ldrop m)
      refine q_ifSM (M := [p]) (S := Hd p (n + 2)) (S1 := Hd p (n + 2)) (b := decide (V.int i1 = V.int 2)) (fun G' H' => Nv [p] G H G' H' ∧ At [p] G' H' ∧ Hd p (n + 2) G' H' ∧ Lc H G' H' q [.int 4]) (Ez.lift (zt_test (z_opEq (z_var rfl rfl) (z_c rfl) rfl rfl)) (stp _)) n5 subM at5 s5 (fun hb G6 H6 a6 n6 at6 s6 _ => ?_) (fun hb G6 H6 a6 n6 at6 s6 => ⟨n6, at6, s6, lc5.nv a6 hqp'⟩) fun G6 H6 ⟨n6, at6, s6, lc6⟩ => ?_
      · have hv6 := QN.dp_mono n6.gg _ _ hv
        refine QX.s_retM (M := [p]) (S := Hd p (n + 2)) (S1 := Hd p (n + 2)) (C := rowsP K 5 10) (Ez.lift (z_datR (d := rowD (r.take pl ++ r.drop (pl + 1))) (Ez.to (Lz.dat (l_catD (Lz.exact (l_to (z_var rfl hv6) (z_var rfl rfl) stb_tr) stb_tr) (Lz.exact (l_from (k := pl + 1) (z_var rfl hv6) (z_opI (z_var rfl rfl) (z_c rfl) hp1) stb_tr) stb_tr) stb_tr (fit _ (by have := ltake pl; have := ldrop (pl + 1); omega))) stb_tr) fun G' v' _ c' => by
          show Dp K G' v' (.list _)
          rw [List.map_append, List.map_take, List.map_drop]
          exact c') ⟨_, rfl, rok_app (rok_take hok _) (rok_drop hok _), ?_, ?_⟩) (stp _)) n6 subM at6 s6 fun v7 G7 H7 n7 s7 hc => k v7 G7 H7 n7 (s7.le (by omega)) hc
        · rw [List.length_append, List.length_take, List.length_drop]
          omega
        · rw [rsize_app]
          have h1 := rsize_split r pl
          have h2 : rsize (r.drop pl) = rsize ((r.drop pl).take 1) + rsize (r.drop (pl + 1)) := by
            conv => lhs; rw [drop_split r pl]
            rw [rsize_app]
          omega
      · refine q_ifSM (M := [p]) (S := Hd p (n + 2)) (S1 := Hd p (n + 2)) (b := decide (V.int i1 = V.int 3)) (fun G' H' => Nv [p] G H G' H' ∧ At [p] G' H' ∧ Hd p (n + 2) G' H' ∧ Lc H G' H' q [.int 4]) (Ez.lift (zt_test (z_opEq (z_var rfl rfl) (z_c rfl) rfl rfl)) (stp _)) n6 subM at6 s6 (fun hb G7 H7 a7 n7 at7 s7 _ => ?_) (fun hb G7 H7 a7 n7 at7 s7 => ⟨n7, at7, s7, lc6.nv a7 hqp'⟩) fun G7 H7 ⟨n7, at7, s7, lc7⟩ => ?_
        · have hv7 := QN.dp_mono n7.gg _ _ hv
          have hp2 : V.int ((pl : Nat) + 2) = V.int ((pl + 2 : Nat) : Int) := rfl
          refine QX.s_retM (M := [p]) (S := Hd p (n + 2)) (S1 := Hd p (n + 2)) (C := rowsP K 5 10) (Ez.lift (z_datR (d := rowD (r.take pl ++ (r.drop (pl + 1)).take 1 ++ (r.drop pl).take 1 ++ r.drop (pl + 2))) (Ez.to (Lz.dat (l_catD (Lz.exact (l_catD (Lz.exact (l_catD (Lz.exact (l_to (z_var rfl hv7) (z_var rfl rfl) stb_tr) stb_tr) (Lz.exact (l_mid (a := pl + 1) (b := pl + 2) (z_var rfl hv7) (z_opI (z_var rfl rfl) (z_c rfl) hp1) (z_opI (z_var rfl rfl) (z_c rfl) hp2) stb_tr) stb_tr) stb_tr (fit _ (by have := ltake pl; have := lmid (pl + 1) (pl + 2 - (pl + 1)); omega))) stb_tr) (Lz.exact (l_mid (a := pl) (b := pl + 1) (z_var rfl hv7) (z_var rfl rfl) (z_opI (z_var rfl rfl) (z_c rfl) hp1) stb_tr) stb_tr) stb_tr (fit _ (by rw [List.length_append]; have := ltake pl; have := lmid (pl + 1) (pl + 2 - (pl + 1)); have := lmid pl (pl + 1 - pl); omega))) stb_tr) (Lz.exact (l_from (k := pl + 2) (z_var rfl hv7) (z_opI (z_var rfl rfl) (z_c rfl) hp2) stb_tr) stb_tr) stb_tr (fit _ (by rw [List.length_append, List.length_append]; have := ltake pl; have := lmid (pl + 1) (pl + 2 - (pl + 1)); have := lmid pl (pl + 1 - pl); have := ldrop (pl + 2); omega))) stb_tr) fun G' v' _ c' => by
            show Dp K G' v' (.list _)
            have e1 : pl + 2 - (pl + 1) = 1 := by omega
            have e2 : pl + 1 - pl = 1 := by omega
            rw [e1, e2] at c'
            rw [List.map_append, List.map_append, List.map_append, List.map_take, List.map_take, List.map_take, List.map_drop, List.map_drop, List.map_drop]
            exact c') ⟨_, rfl, rok_app (rok_app (rok_app (rok_take hok _) (rok_take (rok_drop hok _) _)) (rok_take (rok_drop hok _) _)) (rok_drop hok _), ?_, ?_⟩) (stp _)) n7 subM at7 s7 fun v8 G8 H8 n8 s8 hc => k v8 G8 H8 n8 (s8.le (by omega)) hc
          · rw [List.length_append, List.length_append, List.length_append, List.length_take, List.length_take, List.length_take, List.length_drop, List.length_drop, List.length_drop]
            omega
          · rw [rsize_app, rsize_app, rsize_app]
            have h1 := rsize_split r pl
            have h2 : rsize (r.drop pl) = rsize ((r.drop pl).take 1) + rsize (r.drop (pl + 1)) := by
              conv => lhs; rw [drop_split r pl]
              rw [rsize_app]
            have h3 : rsize (r.drop (pl + 1)) = rsize ((r.drop (pl + 1)).take 1) + rsize (r.drop (pl + 2)) := by
              conv => lhs; rw [drop_split r (pl + 1)]
              rw [rsize_app]
            omega
        · refine q_ifSM (M := [p]) (S := Hd p (n + 2)) (S1 := Hd p (n + 2)) (b := decide (V.int i1 = V.int 4)) (fun G' H' => Nv [p] G H G' H' ∧ At [p] G' H' ∧ Hd p (n + 2) G' H' ∧ Lc H G' H' q [.int 4]) (Ez.lift (zt_test (z_opEq (z_var rfl rfl) (z_c rfl) rfl rfl)) (stp _)) n7 subM at7 s7 (fun hb G8 H8 a8 n8 at8 s8 _ => ?_) (fun hb G8 H8 a8 n8 at8 s8 => ⟨n8, at8, s8, lc7.nv a8 hqp'⟩) fun G8 H8 ⟨n8, at8, s8, lc8⟩ => ?_
          · have hv8 := QN.dp_mono n8.gg _ _ hv
            refine QX.s_retM (M := [p]) (S := Hd p (n + 2)) (S1 := Hd p (n + 2)) (C := rowsP K 5 10) (Ez.lift (z_datR (d := rowD (r.take (pl + 1) ++ r.drop pl)) (Ez.to (Lz.dat (l_catD (Lz.exact (l_to (k := pl + 1) (z_var rfl hv8) (z_opI (z_var rfl rfl) (z_c rfl) hp1) stb_tr) stb_tr) (Lz.exact (l_from (z_var rfl hv8) (z_var rfl rfl) stb_tr) stb_tr) stb_tr (fit _ (by have := ltake (pl + 1); have := ldrop pl; omega))) stb_tr) fun G' v' _ c' => by
              show Dp K G' v' (.list _)
              rw [List.map_append, List.map_take, List.map_drop]
              exact c') ⟨_, rfl, rok_app (rok_take hok _) (rok_drop hok _), ?_, ?_⟩) (stp _)) n8 subM at8 s8 fun v9 G9 H9 n9 s9 hc => k v9 G9 H9 n9 (s9.le (by omega)) hc
            · rw [List.length_append, List.length_take, List.length_drop]
              omega
            · rw [rsize_app]
              have h1 := rsize_split r (pl + 1)
              have h2 : rsize (r.drop pl) = rsize ((r.drop pl).take 1) + rsize (r.drop (pl + 1)) := by
                conv => lhs; rw [drop_split r pl]
                rw [rsize_app]
              have h3 := rsize_one hok pl
              omega
          · have hv8 := QN.dp_mono n8.gg _ _ hv
            have stb : ∀ m c, Stb [p, q] (Hb p q m c) := fun m c => hb_stb (by simp) (by simp)
            have sth : ∀ m, Stb [p, q] (Hd p m) := fun m => hd_stb (by simp)
            have at8' : At [p, q] G8 H8 := ⟨n8.gh, fun x hx => by
              rcases List.mem_cons.mp hx with rfl | hx
              · exact at8.mm x (by simp)
              · have : x = q := by simpa using hx
                rw [this]
                exact ⟨lc8.out, by rw [lc8.val]; simp⟩⟩
            have hsub : Sub [p, q] [p] H := fun x hx => by
              rcases List.mem_cons.mp hx with rfl | hx
              · exact .inl (by simp)
              · have : x = q := by simpa using hx
                rw [this]
                exact .inr lc8.new
            have hfil : ∀ σ : L2.St, σ[0]? = some (some (.ref p)) → σ[1]? = some (some (.str L)) → σ[4]? = some (some (.ref q)) → Ez [p, q] (Hb p q (n + 2) 4) (Hd p (n + 302)) (tCall (sp_law_filter K) [] E0 (tCons (tVar 0) (tCons (tVar 1) (tCons (tVar 4) tNil))) σ) G8 (datR K fun d => ∃ fl, d = filD fl ∧ FilOk fl) := fun σ g0 g1 g4 =>
              Ezg.ez (zg_call (L := [p, q]) (CC := fun c2 => datR K fun d => ∃ fl, d = filD fl ∧ FilOk fl ∧ fsize fl + c2 = 4) (SS := fun c2 => Hb p q (n + 302) c2) (B := consP (is (.ref p)) (consP (is (.str L)) (consP (is (.ref q)) (is [])))) (z_cons (z_var g0 rfl) (z_cons (z_var g1 rfl) (z_cons (z_var g4 rfl) z_nil))) (stb _ _) (fun _ h => h) fun vs G' e' hvs => by
                obtain ⟨x1, xs1, hv1, h1, x2, xs2, hv2, h2, x3, xs3, hv3, h3, h4⟩ := hvs
                have h1 : x1 = _ := h1
                have h2 : x2 = _ := h2
                have h3 : x3 = _ := h3
                have h4 : xs3 = [] := h4
                subst h1 h2 h3 h4
                exact ⟨p, q, n + 2, 4, L, by rw [hv1, hv2, hv3], hqp, hL, rfl, by omega, by decide, rfl, rfl, rfl⟩) (fun c G H h => h.1) fun c G' v ⟨d, ⟨fl, h1, h2, h3⟩, h4⟩ => ⟨d, ⟨fl, h1, h2⟩, h4⟩
            refine QX.s_retM (M := [p, q]) (S := Hb p q (n + 2) 4) (S1 := Hd p (n + 302)) (C := rowsP K 5 10) (Ez.to (Lz.ez (K := K) (l_cat (B3 := some_ fun fl : Fil => both_ (FilOk fl) (dats K ((r.take pl ++ [fl] ++ r.drop (pl + 1)).map filD))) (B := some_ fun fl : Fil => both_ (FilOk fl) (dats K ((r.take pl ++ [fl]).map filD))) (B2 := dats K ((r.map filD).drop (pl + 1))) (Lz.exact (l_cat (B := dats K ((r.map filD).take pl)) (B2 := consP (datR K fun d => ∃ fl, d = filD fl ∧ FilOk fl) (is [])) (Lz.exact (l_to (z_var rfl hv8) (z_var rfl rfl) (stb _ _)) (stb _ _)) (Lz.exact (l_lst (z_cons (hfil _ rfl rfl rfl) z_nil) (sth _) fun G' xs' ⟨x1, xs1, e1, _, e2⟩ => by
                have e2 : xs1 = [] := e2
                rw [e1, e2]
                show 1 ≤ sizeLine
                decide) (sth _)) (sth _) fun G' xs ys hx ⟨x1, xs1, e1, ⟨d, ⟨fl, hd, hf⟩, hx1⟩, e2⟩ => by
                  have e2 : xs1 = [] := e2
                  subst e1 e2 hd
                  refine ⟨fit _ (by rw [da_len hx]; have := ltake pl; show _ + 1 ≤ _; omega), fl, hf, ?_⟩
                  rw [List.map_append, List.map_take]
                  exact da_snoc hx hx1) (sth _)) (Lz.exact (l_from (k := pl + 1) (z_var rfl hv8) (z_opI (z_var rfl rfl) (z_c rfl) hp1) (sth _)) (sth _)) (sth _) fun G' xs ys ⟨fl, hf, hx⟩ hy => by
                    refine ⟨fit _ (by
                      rw [da_len hx, da_len hy, List.length_map, List.length_append, List.length_take]
                      have := ldrop (pl + 1)
                      show min pl r.length + 1 + _ ≤ _
                      omega), fl, hf, ?_⟩
                    rw [List.map_append, List.map_drop]
                    exact da_app hx hy) (sth _)) fun G' v' _ hc => by
                      obtain ⟨pp, xs, rfl, q1, fl, hf, hx⟩ := hc
                      refine ⟨rowD (r.take pl ++ [fl] ++ r.drop (pl + 1)), ⟨_, rfl, rok_app (rok_app (rok_take hok _) fun f hf' => ?_) (rok_drop hok _), ?_, ?_⟩, Dp.lst q1 hx⟩
                      · have : f = fl := by simpa using hf'
                        rw [this]
                        exact hf
                      · rw [List.length_append, List.length_append, List.length_take, List.length_drop]
                        show min pl r.length + 1 + (r.length - (pl + 1)) ≤ 5
                        omega
                      · rw [rsize_app, rsize_app]
                        have h1 := rsize_split r pl
                        have h2 : rsize (r.drop pl) = rsize ((r.drop pl).take 1) + rsize (r.drop (pl + 1)) := by
                          conv => lhs; rw [drop_split r pl]
                          rw [rsize_app]
                        have h3 : rsize [fl] ≤ 3 := by
                          have : RowOk [fl] := fun f hf' => by
                            have : f = fl := by simpa using hf'
                            rw [this]
                            exact hf
                          exact rsize_one this 0
                        omega) n8 hsub at8' ⟨s8, lc8.val⟩ fun v9 G9 H9 n9 s9 hc => k v9 G9 H9 n9 (s9.le (by omega)) hc
end QP

/-! What a row writes, by the law: entries, patterns. -/
namespace QP
open PySem PySem.Spec PyProof.Rows L2 Evl QV QU QX QB QT QD
variable {P : Program} {w : World} {K : PySem.W.Frag} {mg : Str → Option Value} {base : Heap}
theorem p_law_fits (B : Bi K mg) {f : Addr} {fd : FuncData} (F : Fun K "_law_fits" "_law_fits" s_law_fits f fd) : FnOk P w K mg base CX0 1 f fd P_law_fits (sp_takes K) := by
  refine F.ok sc_law_fits (fun vs H Q E ⟨G, C, _, ⟨en, c, v, e, _⟩, _⟩ => by rw [e]; rfl) fun cdv A outer s H vs Q E hr h => ?_
  have nd := sc_law_fits.nd
  have hu := hu_of hr
  have hu6 := hr.units
  refine ⟨_, (pss_cons (ps_if (pt_cmpR op_eq (pe_ix (QU.ixT (K := K) rfl) (pv 0) pe_int (fun _ _ => rfl)) pe_str (nomark _)) (pss_one (ps_ret (pe_cmpR op_eq (pe_ix (QU.ixT (K := K) rfl) (pv 0) pe_int (fun _ _ => rfl)) (pv 1) (nomark _)))) pss_nil)
      (pss_cons (ps_if (pt_cmpR op_eq (pe_ix (QU.ixT (K := K) rfl) (pv 0) pe_int (fun _ _ => rfl)) pe_str (nomark _)) (pss_one (ps_ret (pe_cmpR op_ne (pe_callB (QU.anyR (K := K) rfl rfl) (by rfl) B.any_ (by decide +kernel) (pa_cons (pe_lc (own := [("_law_part", 2)]) rfl nd (QU.piL (K := K) rfl (pe_ix (QU.ixT (K := K) rfl) (pv 0) pe_int (fun _ _ => rfl))) (blkOk_by (own := [("_law_part", 2)]) (N := N_law_fits) (sc := defScope s_law_fits) (by decide +kernel)) (fun _ _ _ _ _ => (pg_name (i := 2) nd rfl (.inl rfl))) (fun _ _ _ _ _ => pts_nil) (fun _ _ _ _ _ => (pe_and (pe_cmpR op_le_str (pe_ix (QU.ixT (K := K) rfl) (pv 2) pe_int (fun _ _ => rfl)) (pv 1) (nomark _)) (pe_one (pe_cmpR op_le_str (pv 1) (pe_ix (QU.ixT (K := K) rfl) (pv 2) pe_int (fun _ _ => rfl)) (nomark _)))))) pa_nil)) (pe_ix (QU.ixT (K := K) rfl) (pv 0) pe_int (fun _ _ => rfl)) (nomark _)))) pss_nil)
      (pss_one (ps_ret pe_bl)))), ?_⟩
  obtain ⟨G, C, e, ⟨en, c, v, rfl, hv, hok, rfl⟩, k⟩ := h
  have n0 : Nv [] G H G H := Nv.refl e
  cases en with
  | one d =>
    refine q_then (zt_tag (t := "one") rfl hv (by decide +kernel)) n0 fun G1 H1 a1 n1 => ?_
    refine s_ret (z_opEq (z_str (z_ixDT (i := 1) (z_var rfl (QN.dp_mono n1.gg _ _ hv)) (z_c rfl) rfl)) (z_var rfl rfl) rfl (eq_chr d c)) n1 fun v G2 H2 n2 c2 => k v G2 H2 n2 c2
  | any =>
    refine q_skip (zt_tag (t := "any") rfl hv (by decide +kernel)) n0 fun G1 H1 a1 n1 => ?_
    refine q_skip (zt_tag (t := "any") rfl (QN.dp_mono n1.gg _ _ hv) (by decide +kernel)) n1 fun G2 H2 a2 n2 => ?_
    exact s_ret (z_c rfl) n2 k
  | lot =>
    refine q_skip (zt_tag (t := "lot") rfl hv (by decide +kernel)) n0 fun G1 H1 a1 n1 => ?_
    refine q_skip (zt_tag (t := "lot") rfl (QN.dp_mono n1.gg _ _ hv) (by decide +kernel)) n1 fun G2 H2 a2 n2 => ?_
    exact s_ret (z_c rfl) n2 k
  | of neg rs =>
    refine q_skip (zt_tag (t := "of") rfl hv (by decide +kernel)) n0 fun G1 H1 a1 n1 => ?_
    refine q_then (zt_tag (t := "of") rfl (QN.dp_mono n1.gg _ _ hv) (by decide +kernel)) n1 fun G2 H2 a2 n2 => ?_
    have hv2 := QN.dp_mono n2.gg _ _ hv
    refine s_ret (C := is (.bl (!decide (V.bl (rs.any fun r => decide (r.1 ≤ c) && decide (c ≤ r.2)) = V.bl neg)))) (z_opNe (z_any (bs := rs.map fun r => decide (r.1 ≤ c) && decide (c ≤ r.2)) (Lz.dat (Lz.to (l_fm rs rngD (fun r => some (.bool (decide (r.1 ≤ c) && decide (c ≤ r.2)))) (z_ixDT (i := 2) (z_var rfl hv2) (z_c rfl) rfl) (Nat.le_trans hok.2.1 (by decide)) fun r x G3 hr3 e3 hx => turn_all rfl (dat_bool (z_andV (z_leS (z_str (z_fld (n := 0) rfl hx rfl)) (z_var rfl rfl) (le_chr _ _)) fun _ => z_leS (z_var rfl rfl) (z_str (z_fld (n := 1) rfl hx rfl)) (le_chr _ _)))) fun G' xs _ c => by
      rw [fm_some] at c
      rw [List.map_map]
      exact c) stb_tr) (by rw [List.any_map]; rfl)) (z_bool (z_ixDT (i := 1) (z_var rfl hv2) (z_c rfl) rfl)) rfl rfl) n2 fun v G2 H2 n2 c2 => k v G2 H2 n2 (by
        have c2 : v = _ := c2
        rw [c2]
        show V.bl _ = V.bl _
        congr 1
        show _ = ((rs.any fun r => decide (r.1 ≤ c) && decide (c ≤ r.2)) != neg)
        cases (rs.any fun r => decide (r.1 ≤ c) && decide (c ≤ r.2)) <;> cases neg <;> rfl)
/-! the places -/
def rchL (p : Pat) (R : Nat → Bool) (n : Nat) : List Nat := (List.range n).filter R
theorem mem_rch {p : Pat} {R : Nat → Bool} {n j : Nat} : j ∈ rchL p R n ↔ j < n ∧ R j = true := by
  unfold rchL
  rw [List.mem_filter, List.mem_range]
def plcA (p : Pat) (l : List Nat) : List Nat := (l.filter fun j => decide (j < p.length) && !lotAt p j).map (· + 1)
def plcB (p : Pat) (c : Nat) (l : List Nat) : List Nat := l.filter fun j => takesAt p (j - 1) c
def plcC (p : Pat) (l : List Nat) : List Nat := l.filter fun j => decide (j < p.length) && lotAt p j
theorem plc_next (p : Pat) (R : Nat → Bool) (c j : Nat) (hj : j ≤ p.length) : decide (j ∈ plcB p c (plcA p (rchL p R (p.length + 1))) ++ plcC p (rchL p R (p.length + 1))) = mv p R c j := by
  have hiff : j ∈ plcB p c (plcA p (rchL p R (p.length + 1))) ++ plcC p (rchL p R (p.length + 1)) ↔ mv p R c j = true := by
    rw [List.mem_append]
    unfold plcA plcB plcC
    simp only [List.mem_filter, List.mem_map, mem_rch, Bool.and_eq_true, decide_eq_true_iff, Bool.not_eq_true']
    cases j with
    | zero =>
      show _ ↔ (lotAt p 0 && R 0) = true
      rw [Bool.and_eq_true]
      constructor
      · rintro (⟨⟨i, _, h⟩, _⟩ | ⟨⟨h1, h2⟩, h3, h4⟩)
        · omega
        · exact ⟨h4, h2⟩
      · rintro ⟨h1, h2⟩
        refine .inr ⟨⟨by omega, h2⟩, ?_, h1⟩
        refine Nat.lt_of_not_le fun h => ?_
        unfold lotAt at h1
        rw [List.getElem?_eq_none (by omega)] at h1
        cases h1
    | succ j =>
      show _ ↔ ((lotAt p (j + 1) && R (j + 1)) || (!lotAt p j && R j && takesAt p j c)) = true
      simp only [Bool.or_eq_true, Bool.and_eq_true, Bool.not_eq_true']
      constructor
      · rintro (⟨⟨i, ⟨⟨h1, h2⟩, h3, h4⟩, h5⟩, h6⟩ | ⟨⟨h1, h2⟩, h3, h4⟩)
        · have : i = j := by omega
          subst this
          exact .inr ⟨⟨h4, h2⟩, h6⟩
        · exact .inl ⟨h4, h2⟩
      · rintro (⟨h1, h2⟩ | ⟨⟨h1, h2⟩, h3⟩)
        · refine .inr ⟨⟨by omega, h2⟩, ?_, h1⟩
          refine Nat.lt_of_not_le fun h => ?_
          unfold lotAt at h1
          rw [List.getElem?_eq_none (by omega)] at h1
          cases h1
        · exact .inl ⟨⟨j, ⟨⟨by omega, h2⟩, by omega, h1⟩, rfl⟩, h3⟩
  cases h : mv p R c j with
  | true => exact decide_eq_true (hiff.mpr h)
  | false => exact decide_eq_false fun z => by rw [hiff.mp z] at h; cases h
theorem reach_take (p : Pat) (wd : QB.Ln) (k c : Nat) (h : wd[k]? = some c) : reachF p (wd.take (k + 1)) = clo p (mv p (reachF p (wd.take k)) c) := by
  unfold reachF
  rw [List.take_succ, h, List.foldl_append]
  rfl
theorem da_nats {G : Hp} : ∀ {l : List Nat} {xs : List V}, DpAll K G xs (l.map natD) → xs = l.map fun (n : Nat) => V.int n
  | [], _, h => by cases h; rfl
  | a :: l, _, h => by
    cases h with
    | cons h1 h2 =>
      have e1 := dp_int h1
      rw [e1, da_nats h2]
      rfl
theorem nats_da {G : Hp} (l : List Nat) : DpAll K G (l.map fun (n : Nat) => V.int n) (l.map natD) := da_map _ _ _ fun b _ => Dp.int _
theorem inV_nat (a : Nat) (l : List Nat) : inV (.int (a : Nat)) (l.map fun (n : Nat) => V.int n) = decide (a ∈ l) := by
  unfold inV
  rw [List.any_map, Bool.eq_iff_iff, List.any_eq_true, decide_eq_true_iff]
  constructor
  · rintro ⟨c, hc, h⟩
    have h : ((c : Int) == (a : Int)) = true := h
    have : c = a := by
      have := beq_iff_eq.mp h
      omega
    exact this ▸ hc
  · intro h
    exact ⟨a, h, by show ((a : Int) == (a : Int)) = true; simp⟩
theorem fm_if {l : List Nat} {b : Nat → Bool} {g : Nat → Nat} : l.filterMap (fun j => if b j = true then some (natD (g j)) else none) = ((l.filter b).map g).map natD := by
  induction l with
  | nil => rfl
  | cons a l ih =>
    rw [List.filterMap_cons, List.filter_cons]
    by_cases h : b a = true
    · rw [if_pos h, if_pos h, List.map_cons, List.map_cons, ih]
    · rw [if_neg h, if_neg h, ih]
def sp_law_meets (K : PySem.W.Frag) : Sp := spP fun vs G C => ∃ p wd v, vs = [v, .str (lnS wd)] ∧ Dp K G v (patD p) ∧ PatOk p ∧ p.length ≤ 1000 ∧ wd.length ≤ 1000000 ∧ C = is (.bl (meets p wd))
theorem z_entTag {M : List Addr} {S : Hf} {σ : L2.St} {G : Hp} {i : Nat} {v : V} {p : Pat} {ti : TE} {j : Nat} {e : Ent} (hi : σ[i]? = some (some v)) (hv : Dp K G v (patD p)) (hj : Ez M S S (ti σ) G (is (.int (j : Nat)))) (he : p[j]? = some e) :
    Ez M S S (tOp (rIxT K) (tOp (rIxL K) (tVar i) ti) (tC (.int 0)) σ) G (is (.str (tagOf e))) := by
  have h := z_ixDL (K := K) (ds := p.map entD) (d := entD e) (z_var hi hv) hj (by rw [List.getElem?_map, he]; rfl)
  rw [entD_tag] at h
  exact z_str (z_ixDT (i := 0) h (z_c rfl) rfl)
theorem p_law_meets (B : Bi K mg) {f : Addr} {fd : FuncData} (F : Fun K "_law_meets" "_law_meets" s_law_meets f fd) (c__law_fits : Callee P w K mg base 1 "_law_fits" P_law_fits (sp_takes K)) : FnOk P w K mg base CX0 2 f fd P_law_meets (sp_law_meets K) := by
  refine F.ok sc_law_meets (fun vs H Q E ⟨G, C, _, ⟨p, wd, v, e, _⟩, _⟩ => by rw [e]; rfl) fun cdv A outer s H vs Q E hr h => ?_
  have nd := sc_law_meets.nd
  have hu := hu_of hr
  have hu6 := hr.units
  refine ⟨_, (pss_cons (ps_set (i := 2) nd rfl (.inr rfl) (pe_callB (QU.lenS (K := K) rfl) (by rfl) B.len_ (by decide +kernel) (pa_cons (pv 0) pa_nil)))
      (pss_cons (ps_set (i := 3) nd rfl (.inl rfl) (pe_lst (pa_cons pe_int pa_nil)))
      (pss_cons (ps_for PassesOwn.never rfl (pi_range1 (by rfl) B.range_ (pa_cons (pe_op op_add (pe_callB call_len_str (by rfl) B.len_ (by decide +kernel) (pa_cons (pv 1) pa_nil)) pe_int) pa_nil)) (pg_name (i := 4) nd rfl (.inr rfl)) (pss_cons (ps_set (i := 5) nd rfl (.inl rfl) (pe_lst pa_nil))
      (pss_cons (ps_for PassesOwn.never rfl (pi_range1 (by rfl) B.range_ (pa_cons (pe_op op_add (pv 2) pe_int) pa_nil)) (pg_name (i := 6) nd rfl (.inl rfl)) (pss_one (ps_if (pw_or (pt_cmpR (QU.opIn (K := K) rfl) (pv 6) (pv 3) (by rfl)) (pw_or1 (pw_and (pt_cmpR op_gt (pv 6) pe_int (nomark _)) (pw_and (pt_cmpR (QU.opIn (K := K) rfl) (pe_op op_sub (pv 6) pe_int) (pv 5) (by rfl)) (pw_and1 (pt_cmpR op_eq (pe_ix (QU.ixT (K := K) rfl) (pe_ix (QU.ixL (K := K) rfl) (pv 0) (pe_op op_sub (pv 6) pe_int) (fun _ _ => rfl)) pe_int (fun _ _ => rfl)) pe_str (nomark _))))).pt)).pt (pss_one (ps_expr (pe_bm PySem.F.plainAttrs_list PySem.F.slot_list_append PySem.F.type_list_append mt_append (pv 5) (pa_cons (pv 6) pa_nil)))) pss_nil)))
      (pss_cons (ps_if (pt_cmpR op_eq (pv 4) (pe_callB call_len_str (by rfl) B.len_ (by decide +kernel) (pa_cons (pv 1) pa_nil)) (nomark _)) (pss_one (ps_ret (pe_cmpR (QU.opIn (K := K) rfl) (pv 2) (pv 5) (by rfl)))) pss_nil)
      (pss_cons (ps_setLc (i := 3) (own := [("_law_place", 6)]) rfl nd rfl rfl (sw_true rfl rfl rfl (by decide +kernel)) (QU.piL (K := K) rfl (pv 5)) (blkOk_by (own := [("_law_place", 6)]) (N := N_law_meets) (sc := defScope s_law_meets) (by decide +kernel)) (fun _ _ _ _ _ => (pg_name (i := 6) nd rfl (.inl rfl))) (fun _ _ _ _ _ => (pts_one (pw_and (pt_cmpR op_lt (pv 6) (pv 2) (nomark _)) (pw_and1 (pt_cmpR op_ne (pe_ix (QU.ixT (K := K) rfl) (pe_ix (QU.ixL (K := K) rfl) (pv 0) (pv 6) (fun _ _ => rfl)) pe_int (fun _ _ => rfl)) pe_str (nomark _)))).pt)) (fun _ _ _ _ _ => (pe_op op_add (pv 6) pe_int)))
      (pss_cons (ps_setLc (i := 3) (own := [("_law_place", 6)]) rfl nd rfl rfl (sw_true rfl rfl rfl (by decide +kernel)) (QU.piL (K := K) rfl (pv 3)) (blkOk_by (own := [("_law_place", 6)]) (N := N_law_meets) (sc := defScope s_law_meets) (by decide +kernel)) (fun _ _ _ _ _ => (pg_name (i := 6) nd rfl (.inl rfl))) (fun _ _ _ _ _ => (pts_one (pt_val (pe_call c__law_fits.ok (hr.mono (by decide)) (by rfl) c__law_fits.m c__law_fits.kp c__law_fits.b .nil pass0 (pa_cons (pe_ix (QU.ixL (K := K) rfl) (pv 0) (pe_op op_sub (pv 6) pe_int) (fun _ _ => rfl)) (pa_cons (pe_ix ix_str (pv 1) (pv 4) (fun _ _ => rfl)) pa_nil)))))) (fun _ _ _ _ _ => (pv 6)))
      (pss_one (ps_set (i := 3) nd rfl (.inl rfl) (pe_op op_cat (pv 3) (pe_lc (own := [("_law_place", 6)]) rfl nd (QU.piL (K := K) rfl (pv 5)) (blkOk_by (own := [("_law_place", 6)]) (N := N_law_meets) (sc := defScope s_law_meets) (by decide +kernel)) (fun _ _ _ _ _ => (pg_name (i := 6) nd rfl (.inl rfl))) (fun _ _ _ _ _ => (pts_one (pw_and (pt_cmpR op_lt (pv 6) (pv 2) (nomark _)) (pw_and1 (pt_cmpR op_eq (pe_ix (QU.ixT (K := K) rfl) (pe_ix (QU.ixL (K := K) rfl) (pv 0) (pv 6) (fun _ _ => rfl)) pe_int (fun _ _ => rfl)) pe_str (nomark _)))).pt)) (fun _ _ _ _ _ => (pv 6))))))))))))
      (pss_one (ps_ret pe_bl))))), ?_⟩
  obtain ⟨G, C, e, ⟨p, wd, v, rfl, hv, hok, hpl, hwl, rfl⟩, k⟩ := h
  have n0 : Nv [] G H G H := Nv.refl e
  have hplen : ((p.map entD).length : Nat) = p.length := List.length_map _
  have hwS : (lnS wd).length ≤ sizeLine := by rw [lnS_len]; exact Nat.le_trans hwl (by decide)
  refine q_asg (C := is (.int (p.length : Nat))) (z_is (z_len1 (ds := p.map entD) (z_var rfl hv)) (by rw [hplen])) n0 fun v1 G1 H1 a1 n1 hv1 => ?_
  rw [show v1 = _ from hv1]
  refine q_asg (C := dat K (.list ([0].map natD))) (Lz.dat (l_lstD (z_consD (dat_int (z_c rfl)) z_nilD) stb_tr (by show 1 ≤ 1000; decide)) stb_tr) n1 fun v2 G2 H2 a2 n2 hv2 => ?_
  refine q_forP (wk_rangeN (n := wd.length + 1) (z_opI (z_lenS (z_var rfl rfl) hwS) (z_c rfl) (by rw [lnS_len]; rfl)) (by omega)) n2 (fun i σ G3 H3 => ∃ (pv : V) (y4 y5 y6 : Option V) (pls : List Nat), σ = [some v, some (.str (lnS wd)), some (.int (p.length : Nat)), some pv, y4, y5, y6] ∧ i ≤ wd.length ∧ Dp K G3 pv (.list (pls.map natD)) ∧ pls.length ≤ 3000 ∧ ∀ j, j ≤ p.length → clo p (fun j => decide (j ∈ pls)) j = reachF p (wd.take i) j)
    (fun G3 H3 a3 n3 => ⟨v2, none, none, none, [0], rfl, Nat.zero_le _, Pd.mono (dat K (.list ([0].map natD))) a3.gg hv2, by decide, fun j hj => by
      rw [List.take_zero]
      refine clo_ext p _ _ p.length (fun i _ => ?_) j hj
      show decide (i ∈ [0]) = decide (i = 0)
      simp⟩) (fun i σ G3 H3 x G4 H4 hi n3 e3 ⟨pv, y4, y5, y6, pls, hσ, hil, hpv, hpn, hclo⟩ a4 n4 hx => ?_) fun σ G3 H3 n3 e3 ⟨pv, y4, y5, y6, pls, hσ, hil, hpv, hpn, hclo⟩ => ?_
  · subst hσ
    have hx : x = .int (i : Nat) := hx
    subst hx
    have hv4 := QN.dp_mono n4.gg _ _ hv
    have hpv4 := QN.dp_mono a4.gg _ _ hpv
    generalize hR : reachF p (wd.take i) = R at hclo
    show tSeq _ _ _ [some v, some (.str (lnS wd)), some (.int (p.length : Nat)), some pv, some (.int (i : Nat)), y5, y6] H4
    refine q_asgL (B := is []) (l_lst z_nil stb_tr fun G' xs b => by rw [show xs = _ from b]; decide) n4 fun l xs G5 H5 a5 n5 hl5 lc b => ?_
    rw [show xs = _ from b] at lc
    refine q_forP (wk_rangeN (n := p.length + 1) (z_opI (z_var rfl rfl) (z_c rfl) rfl) (by omega)) n5 (fun j σ G6 H6 => ∃ y6, σ = [some v, some (.str (lnS wd)), some (.int (p.length : Nat)), some pv, some (.int (i : Nat)), some (.ref l), y6] ∧ Lc H G6 H6 l ((rchL p R j).map fun (n : Nat) => V.int n)) (fun G6 H6 a6 n6 => ⟨y6, rfl, lc.nv a6⟩) (fun j σ G6 H6 x G7 H7 hj n6 e6 ⟨y6', hσ, lc6⟩ a7 n7 hx => ?_) fun σ G6 H6 n6 e6 ⟨y6', hσ, lc6⟩ => ?_
    · subst hσ
      have hx : x = .int (j : Nat) := hx
      subst hx
      have lc7 := lc6.nv a7
      have hv7 := QN.dp_mono n7.gg _ _ hv
      have hpv7 := QN.dp_mono ((a5.gg.trans e6).trans a7.gg) _ _ hpv4
      have hv8 := QN.dp_mono lc7.gg _ _ hv7
      have hpv8 := QN.dp_mono lc7.gg _ _ hpv7
      have hRj : R j = (decide (j ∈ pls) || (decide (0 < j) && (decide (j - 1 ∈ rchL p R j) && lotAt p (j - 1)))) := by
        rw [← hclo j (by omega)]
        cases j with
        | zero => simp [clo]
        | succ j =>
          show (decide (j + 1 ∈ pls) || (clo p (fun j => decide (j ∈ pls)) j && lotAt p j)) = _
          rw [hclo j (by omega)]
          have : decide (j + 1 - 1 ∈ rchL p R (j + 1)) = R j := by
            rw [Nat.add_sub_cancel]
            cases hRj : R j with
            | true => exact decide_eq_true (mem_rch.mpr ⟨Nat.lt_succ_self j, hRj⟩)
            | false => exact decide_eq_false fun z => by rw [(mem_rch.mp z).2] at hRj; cases hRj
          rw [this, Nat.add_sub_cancel]
          simp
      have hflat : ∀ l : List Nat, (l.map fun (n : Nat) => V.int n).all flatV = true := fun l => by rw [List.all_map]; exact List.all_eq_true.mpr fun _ _ => rfl
      show tIfS _ _ _ _ [some v, some (.str (lnS wd)), some (.int (p.length : Nat)), some pv, some (.int (i : Nat)), some (.ref l), some (.int (j : Nat))] H7
      have hsub1 : 0 < j → V.int ((j : Nat) - 1) = V.int ((j - 1 : Nat) : Int) := fun h => by
        congr 1
        omega
      refine s_ifK (b := R j) (zt_is (zt_or (a := decide (j ∈ pls)) (b := decide (0 < j) && (decide (j - 1 ∈ rchL p R j) && lotAt p (j - 1))) (zt_test (z_inL (neg := false) (xs := pls.map fun (n : Nat) => V.int n) (z_var rfl rfl) (Ez.to (z_lstD (z_var rfl hpv8)) fun G' v' _ hc => by
        obtain ⟨pp, xs, h1, h2, h3⟩ := hc
        exact ⟨pp, xs, h1, h2, da_nats h3⟩) rfl (hflat _) (by
          show inV _ _ = _
          rw [inV_nat]))) fun _ => zt_and (a := decide (0 < j)) (b := decide (j - 1 ∈ rchL p R j) && lotAt p (j - 1)) (zt_is (zt_test (z_opI (z_var rfl rfl) (z_c rfl) rfl)) (by
            by_cases h : 0 < j
            · rw [decide_eq_true h, decide_eq_true (by omega)]
            · rw [decide_eq_false h, decide_eq_false (by omega)])) fun h0 => ?_) hRj.symm) lc7 n7 (fun hb G8 H8 a8 n8 => ?_) fun hb G8 H8 a8 n8 => ?_
      · have h0 := of_decide_eq_true h0
        have hjl : j - 1 < p.length := by omega
        refine zt_and (zt_test (z_inL (neg := false) (xs := (rchL p R j).map fun (n : Nat) => V.int n) (z_opI (z_var rfl rfl) (z_c rfl) (hsub1 h0)) (z_var rfl ⟨l, _, rfl, lc7.sq, rfl⟩) rfl (hflat _) (by
          show inV _ _ = _
          rw [inV_nat]))) fun _ => zt_is (zt_test (z_opEq (z_entTag (e := p[j - 1]) rfl hv8 (z_opI (z_var rfl rfl) (z_c rfl) (hsub1 h0)) (List.getElem?_eq_getElem hjl)) (z_c rfl) rfl (lot_tag _))) (by
            unfold lotAt
            rw [List.getElem?_eq_getElem hjl])
      · have lc8 := lc7.nv a8
        refine e_app (C := is (.int (j : Nat))) rfl lc8 (by
          rw [List.length_map]
          unfold rchL
          refine Nat.lt_of_le_of_lt (List.length_filter_le _ _) ?_
          rw [List.length_range]
          exact Nat.lt_of_lt_of_le (by omega : j < 2000) (by decide)) (z_var rfl rfl) n8 fun u G9 H9 a9 n9 lc9 hu9 => ⟨G9, n9, (a7.gg.trans a8.gg).trans a9.gg, _, rfl, lc9.is ?_⟩
        rw [show u = _ from hu9]
        unfold rchL
        rw [List.range_succ, List.filter_append, List.map_append]
        simp [hb]
      · refine s_next ⟨G8, n8, a7.gg.trans a8.gg, _, rfl, (lc7.nv a8).is ?_⟩
        unfold rchL
        rw [List.range_succ, List.filter_append, List.map_append]
        simp [hb]
    · subst hσ
      have e56 : Ex G5 G6 := e6
      have hv6 := QN.dp_mono n6.gg _ _ hv
      have hpv6 := QN.dp_mono (a5.gg.trans e56) _ _ hpv4
      have hflat : ∀ l : List Nat, (l.map fun (n : Nat) => V.int n).all flatV = true := fun l => by rw [List.all_map]; exact List.all_eq_true.mpr fun _ _ => rfl
      have n7 := lc6.close n6
      have hrd := lc6.dat (nats_da (K := K) (rchL p R (p.length + 1)))
      have hv7 := QN.dp_mono lc6.gg _ _ hv6
      generalize hG7 : upd G6 l (.lst ((rchL p R (p.length + 1)).map fun (n : Nat) => V.int n)) = G7 at n7 hrd hv7
      have e67 : Ex G6 G7 := hG7 ▸ lc6.gg
      refine q_if (b := decide (V.int (i : Nat) = V.int (wd.length : Nat))) (zt_test (z_opEq (z_var rfl rfl) (z_is (z_lenS (z_var rfl rfl) hwS) (by rw [lnS_len])) rfl rfl)) n7 (fun hb G8 H8 a8 n8 => ?_) fun hb G8 H8 a8 n8 => ?_
      · have hiw : i = wd.length := by
          have := of_decide_eq_true hb
          injection this with this
          omega
        refine s_ret (z_inL (neg := false) (b := meets p wd) (xs := (rchL p R (p.length + 1)).map fun (n : Nat) => V.int n) (z_var rfl rfl) (Ez.to (z_lstD (z_var rfl (QN.dp_mono a8.gg _ _ hrd))) fun G' v' _ hc => by
          obtain ⟨pp, xs, h1, h2, h3⟩ := hc
          exact ⟨pp, xs, h1, h2, da_nats h3⟩) rfl (hflat _) (by
            show inV _ _ = _
            rw [inV_nat]
            unfold meets
            have hRw : reachF p wd = R := by rw [← hR, hiw, List.take_length]
            rw [hRw]
            cases hRj : R p.length with
            | true => exact decide_eq_true (mem_rch.mpr ⟨Nat.lt_succ_self _, hRj⟩)
            | false => exact decide_eq_false fun z => by rw [(mem_rch.mp z).2] at hRj; cases hRj)) n8 k
      · have hiw : i < wd.length := by
          have h1 := of_decide_eq_false hb
          have : i ≠ wd.length := fun z => h1 (by rw [z])
          omega
        obtain ⟨c, hc⟩ : ∃ c, wd[i]? = some c := ⟨wd[i], List.getElem?_eq_getElem hiw⟩
        have hrl : (rchL p R (p.length + 1)).length ≤ p.length + 1 := by
          unfold rchL
          exact Nat.le_trans (List.length_filter_le _ _) (by rw [List.length_range]; exact Nat.le_refl _)
        have hal : (plcA p (rchL p R (p.length + 1))).length ≤ p.length + 1 := by
          unfold plcA
          rw [List.length_map]
          exact Nat.le_trans (List.length_filter_le _ _) hrl
        have hbl : (plcB p c (plcA p (rchL p R (p.length + 1)))).length ≤ p.length + 1 := Nat.le_trans (List.length_filter_le _ _) hal
        have hcl : (plcC p (rchL p R (p.length + 1))).length ≤ p.length + 1 := Nat.le_trans (List.length_filter_le _ _) hrl
        have hv8 := QN.dp_mono a8.gg _ _ hv7
        have hrd8 := QN.dp_mono a8.gg _ _ hrd
        refine q_asg (C := dat K (.list ((plcA p (rchL p R (p.length + 1))).map natD))) (Lz.dat (Lz.to (l_fm (rchL p R (p.length + 1)) natD (fun j => if (decide (j < p.length) && !lotAt p j) = true then some (natD (j + 1)) else none) (z_var rfl hrd8) (by omega) fun j x G9 hj e9 hx => turn_name rfl (zt_and (a := decide (j < p.length)) (b := !lotAt p j) (zt_is (zt_test (z_opI (z_var rfl (dp_int hx)) (z_var rfl rfl) rfl)) (by
          by_cases h : j < p.length
          · rw [decide_eq_true h, decide_eq_true (by omega)]
          · rw [decide_eq_false h, decide_eq_false (by omega)])) fun h0 => ?_) fun _ => dat_int (z_opI (z_var rfl (dp_int hx)) (z_c rfl) rfl)) fun G' xs _ c' => by
            rw [fm_if] at c'
            exact c') stb_tr) n8 fun v9 G9 H9 a9 n9 hv9 => ?_
        · have hjl := of_decide_eq_true h0
          exact zt_test (z_opNe (z_entTag (e := p[j]) rfl (QN.dp_mono e9 _ _ hv8) (z_var rfl (dp_int hx)) (List.getElem?_eq_getElem hjl)) (z_c rfl) rfl (by
            rw [lot_tag]
            unfold lotAt
            rw [List.getElem?_eq_getElem hjl]))
        · have hv9' := QN.dp_mono a9.gg _ _ hv8
          refine q_asg (C := exP (dats K ((plcB p c (plcA p (rchL p R (p.length + 1)))).map natD))) (Lz.exact (Lz.to (l_fm (plcA p (rchL p R (p.length + 1))) natD (fun j => if takesAt p (j - 1) c = true then some (natD j) else none) (z_var rfl hv9) (by omega) fun j x G10 hj e10 hx => ?_) fun G' xs _ c' => by
            have e1 := fm_if (l := plcA p (rchL p R (p.length + 1))) (b := fun j => takesAt p (j - 1) c) (g := fun j => j)
            rw [List.map_id'] at e1
            rw [e1] at c'
            exact c') stb_tr) n9 fun v10 G10 H10 a10 n10 hv10 => ?_
          · obtain ⟨j0, hj0, rfl⟩ := List.mem_map.mp hj
            have hj1 : j0 < p.length := by
              have := (List.mem_filter.mp hj0).2
              rw [Bool.and_eq_true] at this
              exact of_decide_eq_true this.1
            have hsub : V.int (((j0 + 1 : Nat) : Int) - 1) = V.int (j0 : Nat) := by
              congr 1
              omega
            refine turn_name rfl (zt_B (z_call2 (A := dat K (entD p[j0])) (B := is (.str (chr c))) (z_ixDL (i := j0) (z_var rfl (QN.dp_mono e10 _ _ hv9')) (z_opI (z_var rfl (dp_int hx)) (z_c rfl) hsub) (by rw [List.getElem?_map, List.getElem?_eq_getElem hj1]; rfl)) (z_opE (z_var rfl rfl) (z_var rfl rfl) fun G' => z_ixS hwS (atI_nat (by show wd.toArray.toList[i]? = some c; simpa using hc)) rfl) stb_tr fun x' y' G' _ hx' hy' => ⟨p[j0], c, x', by rw [show y' = _ from hy'], hx', hok _ (List.getElem_mem hj1), by
              congr 2
              show takesAt p (j0 + 1 - 1) c = _
              unfold takesAt
              rw [Nat.add_sub_cancel, List.getElem?_eq_getElem hj1]⟩)) fun _ => z_var rfl hx
          · have hrd10 := QN.dp_mono (a9.gg.trans a10.gg) _ _ hrd8
            have hv11 := QN.dp_mono a10.gg _ _ hv9'
            refine s_asg (C := dat K (.list ((plcB p c (plcA p (rchL p R (p.length + 1))) ++ plcC p (rchL p R (p.length + 1))).map natD))) (Ez.to (Lz.dat (l_catD (d2 := (plcC p (rchL p R (p.length + 1))).map natD) (z_var rfl hv10) (Lz.exact (Lz.to (l_fm (rchL p R (p.length + 1)) natD (fun j => if (decide (j < p.length) && lotAt p j) = true then some (natD j) else none) (z_var rfl hrd10) (by omega) fun j x G11 hj e11 hx => turn_name rfl (zt_and (a := decide (j < p.length)) (b := lotAt p j) (zt_is (zt_test (z_opI (z_var rfl (dp_int hx)) (z_var rfl rfl) rfl)) (by
              by_cases h : j < p.length
              · rw [decide_eq_true h, decide_eq_true (by omega)]
              · rw [decide_eq_false h, decide_eq_false (by omega)])) fun h0 => ?_) fun _ => z_var rfl hx) fun G' xs _ c' => by
                have e1 := fm_if (l := rchL p R (p.length + 1)) (b := fun j => decide (j < p.length) && lotAt p j) (g := fun j => j)
                rw [List.map_id'] at e1
                rw [e1] at c'
                exact c') stb_tr) stb_tr (by rw [List.length_map, List.length_map]; exact Nat.le_trans (by omega : _ ≤ 3000) (by decide))) stb_tr) fun G' v' _ c' => by
                  rw [List.map_append]
                  exact c') n10 fun v12 G12 H12 a12 n12 hv12 => ⟨G12, n12, ((((a4.gg.trans a5.gg).trans e56).trans e67).trans (a8.gg.trans a9.gg)).trans (a10.gg.trans a12.gg), v12, _, _, _, _, rfl, by omega, hv12, by rw [List.length_append]; omega, fun j hj => ?_⟩
            · have hjl := of_decide_eq_true h0
              exact zt_is (zt_test (z_opEq (z_entTag (e := p[j]) rfl (QN.dp_mono e11 _ _ hv11) (z_var rfl (dp_int hx)) (List.getElem?_eq_getElem hjl)) (z_c rfl) rfl (lot_tag _))) (by
                unfold lotAt
                rw [List.getElem?_eq_getElem hjl])
            · rw [reach_take p wd i c hc, hR]
              exact clo_ext p _ _ p.length (fun j hj => plc_next p R c j hj) j hj
  · omega
end QP

/-! What a row writes, by the law: swaps, filters, rows. -/
namespace QP
open PySem PySem.Spec PyProof.Rows L2 Evl QV QU QX QB QT QD
variable {P : Program} {w : World} {K : PySem.W.Frag} {mg : Str → Option Value} {base : Heap}
theorem swap_head (ps : List (Nat × Nat)) (c : Nat) : (ps.filterMap (fun r => if decide (r.1 = c) = true then some (PyData.str (chr r.2)) else none) ++ [.str (chr c)])[0]? = some (.str (chr (swapF ps c))) := by
  unfold swapF
  induction ps with
  | nil => rfl
  | cons q ps ih =>
    rw [List.filterMap_cons, List.find?_cons]
    by_cases h : q.1 = c
    · rw [decide_eq_true h, if_pos rfl]
      rfl
    · rw [decide_eq_false h, if_neg Bool.false_ne_true]
      exact ih
def sp_law_swapped (K : PySem.W.Frag) : Sp := spP fun vs G C => ∃ ps wd v, vs = [.str (lnS wd), v] ∧ Dp K G v (.list (ps.map rngD)) ∧ ps.length ≤ 1000 ∧ wd.length ≤ 1000000 ∧ C = is (.str (lnS (wd.map (swapF ps))))
theorem p_law_swapped (B : Bi K mg) {f : Addr} {fd : FuncData} (F : Fun K "_law_swapped" "_law_swapped" s_law_swapped f fd) : FnOk P w K mg base CX0 1 f fd P_law_swapped (sp_law_swapped K) := by
  refine F.ok sc_law_swapped (fun vs H Q E ⟨G, C, _, ⟨ps, wd, v, e, _⟩, _⟩ => by rw [e]; rfl) fun cdv A outer s H vs Q E hr h => ?_
  have nd := sc_law_swapped.nd
  have hu := hu_of hr
  have hu6 := hr.units
  refine ⟨_, (pss_cons (ps_set (i := 2) nd rfl (.inl rfl) pe_str)
      (pss_cons (ps_for PassesOwn.never rfl (pi_str (pv 0)) (pg_name (i := 3) nd rfl (.inr rfl)) (pss_cons (ps_setLc (i := 4) (own := [("_law_pair", 5)]) rfl nd rfl rfl (sw_true rfl rfl rfl (by decide +kernel)) (QU.piL (K := K) rfl (pv 1)) (blkOk_by (own := [("_law_pair", 5)]) (N := N_law_swapped) (sc := defScope s_law_swapped) (by decide +kernel)) (fun _ _ _ _ _ => (pg_name (i := 5) nd rfl (.inl rfl))) (fun _ _ _ _ _ => (pts_one (pt_cmpR op_eq (pe_ix (QU.ixT (K := K) rfl) (pv 5) pe_int (fun _ _ => rfl)) (pv 3) (nomark _)))) (fun _ _ _ _ _ => (pe_ix (QU.ixT (K := K) rfl) (pv 5) pe_int (fun _ _ => rfl))))
      (pss_one (ps_set (i := 2) nd rfl (.inl rfl) (pe_op op_add_str (pv 2) (pe_ix (QU.ixL (K := K) rfl) (pe_op op_cat (pv 4) (pe_lst (pa_cons (pv 3) pa_nil))) pe_int (fun _ _ => rfl)))))))
      (pss_one (ps_ret (pv 2))))), ?_⟩
  obtain ⟨G, C, e, ⟨ps, wd, v, rfl, hv, hpl, hwl, rfl⟩, k⟩ := h
  have n0 : Nv [] G H G H := Nv.refl e
  refine q_asg (C := is (.str (lnS []))) (z_c rfl) n0 fun v1 G1 H1 a1 n1 hv1 => ?_
  rw [show v1 = _ from hv1]
  have hsz : (lnS wd).cps.size = wd.length := by show wd.toArray.size = _; simp
  refine q_forP (n := wd.length) (wk_str (x := lnS wd) (z_var rfl rfl) |> fun h => by rw [hsz] at h; exact h) n1 (fun i σ G2 H2 => ∃ y3 y4, σ = [some (.str (lnS wd)), some v, some (.str (lnS ((wd.take i).map (swapF ps)))), y3, y4, none]) (fun G2 H2 a2 n2 => ⟨none, none, rfl⟩) (fun i σ G2 H2 x G3 H3 hi n2 e2 ⟨y3, y4, hσ⟩ a3 n3 hx => ?_) fun σ G2 H2 n2 e2 ⟨y3, y4, hσ⟩ => ?_
  · subst hσ
    obtain ⟨c, hc, rfl⟩ := hx
    have hc' : wd[i]? = some c := by
      have : wd.toArray[i]? = some c := hc
      simpa using this
    have hv3 := QN.dp_mono n3.gg _ _ hv
    show tSeq _ _ _ [some (.str (lnS wd)), some v, some (.str (lnS ((wd.take i).map (swapF ps)))), some (.str (chr c)), y4, none] H3
    refine q_asg (C := exP (dats K (ps.filterMap (fun r => if decide (r.1 = c) = true then some (PyData.str (chr r.2)) else none)))) (Lz.exact (l_fm ps rngD (fun r => if decide (r.1 = c) = true then some (PyData.str (chr r.2)) else none) (z_var rfl hv3) (Nat.le_trans hpl (by decide)) fun r x G4 hr' e4 hx => turn_name rfl (zt_test (z_opEq (z_str (z_fld (n := 0) rfl hx rfl)) (z_var rfl rfl) rfl (eq_chr _ _))) fun _ => z_fld (n := 1) rfl hx rfl) stb_tr) n3 fun v4 G4 H4 a4 n4 hv4 => ?_
    refine s_asg (C := is (.str (lnS ((wd.take i).map (swapF ps)) ++ chr (swapF ps c)))) (z_addS (z_var rfl rfl) (z_str (z_ixDL (i := 0) (Lz.dat (l_catD (z_var rfl hv4) (Lz.exact (l_lstD (ds := [.str (chr c)]) (z_consD (dat_str (z_var rfl rfl)) z_nilD) stb_tr (by show 1 ≤ 1000; decide)) stb_tr) stb_tr (by
      show _ + 1 ≤ _
      exact Nat.le_trans (Nat.add_le_add_right (Nat.le_trans (List.length_filterMap_le _ _) hpl) 1) (by decide))) stb_tr) (z_c rfl) (swap_head ps c))) (by
        rw [lnS_len, List.length_map, List.length_take]
        show _ + 1 ≤ _
        exact Nat.le_trans (by omega : _ ≤ 1000001) (by decide)) rfl) n4 fun v5 G5 H5 a5 n5 hv5 => ⟨G5, n5, (a3.gg.trans a4.gg).trans a5.gg, some (.str (chr c)), some v4, ?_⟩
    rw [show v5 = _ from hv5, lnS_app]
    have : (wd.take i).map (swapF ps) ++ [swapF ps c] = (wd.take (i + 1)).map (swapF ps) := by
      rw [List.take_succ, hc', List.map_append]
      rfl
    rw [this]
    rfl
  · subst hσ
    rw [List.take_length]
    exact s_ret (z_var rfl rfl) n2 k
/-- lists of lines that are sound -/
def LOk (L : List QB.Ln) : Prop := L.length ≤ 1000000 ∧ ∀ x ∈ L, x.length ≤ 1000000 ∧ Sln x
theorem pass_snoc (fl : Fil) (l : List QB.Ln) (x : QB.Ln) : pass fl (l ++ [x]) = pass fl l ++ pass fl (match fl with | .first n => if l.length < n then [x] else [] | _ => [x]) := by
  cases fl with
  | keep p => exact List.filter_append ..
  | drop p => exact List.filter_append ..
  | swap ps => exact List.map_append
  | first n =>
    show (l ++ [x]).take n = l.take n ++ (if l.length < n then [x] else []).take n
    rw [List.take_append]
    congr 1
    by_cases h : l.length < n
    · rw [if_pos h, List.take_of_length_le (by simp; omega), List.take_of_length_le (by simp; omega)]
    · rw [if_neg h]
      have : n - l.length = 0 := by omega
      rw [this]
      simp
theorem pass_ok {fl : Fil} (hf : FilOk fl) {L : List QB.Ln} (h : LOk L) : LOk (pass fl L) := by
  cases fl with
  | keep p => exact ⟨Nat.le_trans (List.length_filter_le _ _) h.1, fun x hx => h.2 x (List.mem_filter.mp hx).1⟩
  | drop p => exact ⟨Nat.le_trans (List.length_filter_le _ _) h.1, fun x hx => h.2 x (List.mem_filter.mp hx).1⟩
  | swap ps =>
    refine ⟨by show (L.map _).length ≤ _; rw [List.length_map]; exact h.1, fun x hx => ?_⟩
    obtain ⟨y, hy, rfl⟩ := List.mem_map.mp (show x ∈ L.map fun x => x.map (swapF ps) from hx)
    obtain ⟨h1, h2⟩ := h.2 y hy
    refine ⟨by rw [List.length_map]; exact h1, fun c hc => ?_⟩
    obtain ⟨d, hd, rfl⟩ := List.mem_map.mp hc
    exact swapF_sgn' hf.2.2.2 (h2 d hd)
  | first n => exact ⟨by show (L.take n).length ≤ _; rw [List.length_take]; exact Nat.le_trans (Nat.min_le_right _ _) h.1, fun x hx => h.2 x (List.mem_of_mem_take hx)⟩
def sp_law_passed (K : PySem.W.Frag) : Sp := spP fun vs G C => ∃ fl L v u, vs = [v, u] ∧ Dp K G v (filD fl) ∧ Dp K G u (linesD L) ∧ FilOk fl ∧ LOk L ∧ C = dat K (linesD (pass fl L))
theorem p_law_passed (B : Bi K mg) {f : Addr} {fd : FuncData} (F : Fun K "_law_passed" "_law_passed" s_law_passed f fd) (c__law_swapped : Callee P w K mg base 1 "_law_swapped" P_law_swapped (sp_law_swapped K)) (c__law_meets : Callee P w K mg base 2 "_law_meets" P_law_meets (sp_law_meets K)) : FnOk P w K mg base CX0 3 f fd P_law_passed (sp_law_passed K) := by
  refine F.ok sc_law_passed (fun vs H Q E ⟨G, C, _, ⟨fl, L, v, u, e, _⟩, _⟩ => by rw [e]; rfl) fun cdv A outer s H vs Q E hr h => ?_
  have nd := sc_law_passed.nd
  have hu := hu_of hr
  have hu6 := hr.units
  refine ⟨_, (pss_cons (ps_set (i := 2) nd rfl (.inl rfl) (pe_ix (QU.ixT (K := K) rfl) (pv 0) pe_int (fun _ _ => rfl)))
      (pss_cons (ps_set (i := 3) nd rfl (.inl rfl) (pe_lst pa_nil))
      (pss_cons (ps_for PassesOwn.never rfl (pi_range1 (by rfl) B.range_ (pa_cons (pe_callB (QU.lenS (K := K) rfl) (by rfl) B.len_ (by decide +kernel) (pa_cons (pv 1) pa_nil)) pa_nil)) (pg_name (i := 4) nd rfl (.inl rfl)) (pss_cons (ps_set (i := 5) nd rfl (.inl rfl) (pe_ix (QU.ixL (K := K) rfl) (pv 1) (pv 4) (fun _ _ => rfl)))
      (pss_one (ps_if (pt_cmpR op_eq (pv 2) pe_str (nomark _)) (pss_one (ps_expr (pe_bm PySem.F.plainAttrs_list PySem.F.slot_list_append PySem.F.type_list_append mt_append (pv 3) (pa_cons (pe_call c__law_swapped.ok (hr.mono (by decide)) (by rfl) c__law_swapped.m c__law_swapped.kp c__law_swapped.b .nil pass0 (pa_cons (pv 5) (pa_cons (pe_ix (QU.ixT (K := K) rfl) (pv 0) pe_int (fun _ _ => rfl)) pa_nil))) pa_nil)))) (pss_one (ps_if (pt_cmpR op_eq (pv 2) pe_str (nomark _)) (pss_one (ps_expr (pe_bm PySem.F.plainAttrs_list PySem.F.slot_list_append PySem.F.type_list_append mt_append (pv 3) (pa_cons (pe_op op_add_str (pe_op op_add_str (pe_callTy call_str_int (by rfl) B.str_ (by decide +kernel) (pa_cons (pe_op op_add (pv 4) pe_int) pa_nil)) pe_str) (pv 5)) pa_nil)))) (pss_one (ps_if (pw_or (pt_cmpR op_eq (pv 2) pe_str (nomark _)) (pw_or1 (pt_cmpR op_eq (pv 2) pe_str (nomark _)))).pt (pss_one (ps_if (pt_cmpR op_eq (pe_call c__law_meets.ok (hr.mono (by decide)) (by rfl) c__law_meets.m c__law_meets.kp c__law_meets.b .nil pass0 (pa_cons (pe_ix (QU.ixT (K := K) rfl) (pv 0) pe_int (fun _ _ => rfl)) (pa_cons (pv 5) pa_nil))) (pe_cmpR op_eq (pv 2) pe_str (nomark _)) (nomark _)) (pss_one (ps_expr (pe_bm PySem.F.plainAttrs_list PySem.F.slot_list_append PySem.F.type_list_append mt_append (pv 3) (pa_cons (pv 5) pa_nil)))) pss_nil)) (pss_one (ps_if (pt_cmpR op_eq (pv 2) pe_str (nomark _)) (pss_one (ps_if (pt_cmpR op_lt (pv 4) (pe_ix (QU.ixT (K := K) rfl) (pv 0) pe_int (fun _ _ => rfl)) (nomark _)) (pss_one (ps_expr (pe_bm PySem.F.plainAttrs_list PySem.F.slot_list_append PySem.F.type_list_append mt_append (pv 3) (pa_cons (pv 5) pa_nil)))) pss_nil)) (pss_one (ps_if (pt_cmpR op_eq (pv 2) pe_str (nomark _)) (pss_one (ps_if (pt_cmpR op_ge (pv 4) (pe_op op_sub (pe_callB (QU.lenS (K := K) rfl) (by rfl) B.len_ (by decide +kernel) (pa_cons (pv 1) pa_nil)) (pe_ix (QU.ixT (K := K) rfl) (pv 0) pe_int (fun _ _ => rfl))) (nomark _)) (pss_one (ps_expr (pe_bm PySem.F.plainAttrs_list PySem.F.slot_list_append PySem.F.type_list_append mt_append (pv 3) (pa_cons (pv 5) pa_nil)))) pss_nil)) (pss_one (ps_if (pw_or (pt_cmpR op_ne (pv 2) pe_str (nomark _)) (pw_or (pt_cmpR op_eq (pv 4) pe_int (nomark _)) (pw_or1 (pt_cmpR op_ne (pe_ix (QU.ixL (K := K) rfl) (pv 1) (pe_op op_sub (pv 4) pe_int) (fun _ _ => rfl)) (pv 5) (nomark _))))).pt (pss_one (ps_expr (pe_bm PySem.F.plainAttrs_list PySem.F.slot_list_append PySem.F.type_list_append mt_append (pv 3) (pa_cons (pv 5) pa_nil)))) pss_nil))))))))))))))
      (pss_cons (ps_if (pt_cmpR op_eq (pv 2) pe_str (nomark _)) (pss_one (ps_ret (pe_callB (QU.srtS (K := K) rfl) (by rfl) B.sorted_ (by decide +kernel) (pa_cons (pv 3) pa_nil)))) pss_nil)
      (pss_cons (ps_if (pt_cmpR op_eq (pv 2) pe_str (nomark _)) (pss_one (ps_ret (pe_lst (pa_cons (pe_callTy call_str_int (by rfl) B.str_ (by decide +kernel) (pa_cons (pe_callB (QU.lenS (K := K) rfl) (by rfl) B.len_ (by decide +kernel) (pa_cons (pv 1) pa_nil)) pa_nil)) pa_nil)))) pss_nil)
      (pss_one (ps_ret (pv 3)))))))), ?_⟩
  obtain ⟨G, C, e, ⟨fl, L, v, u, rfl, hv, hL, hok, hLok, rfl⟩, k⟩ := h
  have n0 : Nv [] G H G H := Nv.refl e
  have hLl : (L.map lineD).length = L.length := List.length_map _
  rw [filD_eq] at hv
  refine q_asg (C := is (.str (ftag fl))) (z_str (z_fld (n := 0) rfl hv rfl)) n0 fun v1 G1 H1 a1 n1 hv1 => ?_
  rw [show v1 = _ from hv1]
  refine q_asgL (B := is []) (l_lst z_nil stb_tr fun G' xs b => by rw [show xs = _ from b]; decide) n1 fun l xs G2 H2 a2 n2 hl2 lc b => ?_
  rw [show xs = _ from b] at lc
  refine q_forP (wk_rangeN (n := L.length) (z_is (z_len1 (z_var rfl (QN.dp_mono n2.gg _ _ hL))) (by rw [hLl])) (by have := hLok.1; omega)) n2 (fun i σ G3 H3 => ∃ y4 y5 ys, σ = [some v, some u, some (.str (ftag fl)), some (.ref l), y4, y5] ∧ Lc H G3 H3 l ys ∧ DpAll K G3 ys ((pass fl (L.take i)).map lineD)) (fun G3 H3 a3 n3 => ⟨none, none, [], rfl, lc.nv a3, by
    have : pass fl (L.take 0) = [] := by cases fl <;> simp [pass]
    rw [this]
    exact DpAll.nil⟩) (fun i σ G3 H3 x G4 H4 hi n3 e3 ⟨y4, y5, ys, hσ, lc3, hys⟩ a4 n4 hx => ?_) fun σ G3 H3 n3 e3 ⟨y4, y5, ys, hσ, lc3, hys⟩ => ?_
  · subst hσ
    have hx : x = .int (i : Nat) := hx
    subst hx
    have hLi : L[i]? = some L[i] := List.getElem?_eq_getElem hi
    have hlok := hLok.2 L[i] (List.getElem_mem hi)
    have hsnoc : L.take (i + 1) = L.take i ++ [L[i]] := by
      rw [List.take_succ, hLi]
      rfl
    have htl : (L.take i).length = i := by rw [List.length_take]; omega
    have hps := pass_snoc fl (L.take i) L[i]
    rw [← hsnoc, htl] at hps
    show tSeq _ _ _ [some v, some u, some (.str (ftag fl)), some (.ref l), some (.int (i : Nat)), y5] H4
    refine q_asg (C := is (.str (lnS L[i]))) (z_str (z_ixDL (z_var rfl (QN.dp_mono n4.gg _ _ hL)) (z_var rfl rfl) (by rw [List.getElem?_map, hLi]; rfl))) n4 fun v5 G5 H5 a5 n5 hv5 => ?_
    rw [show v5 = _ from hv5]
    have lc5 := (lc3.nv a4).nv a5
    have hys5 := QN.dp_monos (a4.gg.trans a5.gg) _ _ hys
    have hv5' := QN.dp_mono n5.gg _ _ hv
    have e35 := a4.gg.trans a5.gg
    have hyl : ys.length < sizeLine := by
      rw [da_len hys, List.length_map]
      have h1 : (pass fl (L.take i)).length ≤ 1000000 := (pass_ok hok ⟨by rw [htl]; have := hLok.1; omega, fun x hx => hLok.2 x (List.mem_of_mem_take hx)⟩).1
      exact Nat.lt_of_le_of_lt h1 (by decide)
    have tg : ∀ {σ : L2.St} {G : Hp} {t u : Str} {b : Bool}, σ[2]? = some (some (.str t)) → decide (V.str t = V.str u) = b → Pz (tTest (tOp rEq (tVar 2) (tC (.str u))) σ) G (is b) := fun hσ hb => zt_test (z_opEq (z_var hσ rfl) (z_c rfl) rfl hb)
    cases fl with
    | swap ps =>
      refine s_ifT (tg (t := "swap") rfl (by decide +kernel)) n5 fun G6 H6 a6 n6 => ?_
      refine e_app (C := is (.str (lnS (L[i].map (swapF ps))))) rfl (lc5.nv a6) hyl (z_call2 (A := is (.str (lnS L[i]))) (B := dat K (.list (ps.map rngD))) (z_var rfl rfl) (z_fld (n := 1) rfl (QN.dp_mono a6.gg _ _ hv5') rfl) stb_tr fun x y G' _ hx hy => ⟨ps, L[i], y, by rw [show x = _ from hx], hy, Nat.le_trans hok.2.1 (by decide), hlok.1, rfl⟩) n6 fun u' G7 H7 a7 n7 lc7 hu7 => ⟨G7, n7, (e35.trans a6.gg).trans a7.gg, _, _, _, rfl, lc7, ?_⟩
      rw [hps, List.map_append]
      exact da_snoc (QN.dp_monos (a6.gg.trans a7.gg) _ _ hys5) (by rw [show u' = _ from hu7]; exact Dp.str _)
    | keep p =>
      refine s_ifF (tg (t := "keep") rfl (by decide +kernel)) n5 fun G6 H6 a6 n6 => ?_
      refine s_ifF (tg (t := "keep") rfl (by decide +kernel)) n6 fun G7 H7 a7 n7 => ?_
      refine s_ifT (zt_or (a := true) (b := true) (tg (t := "keep") rfl (by decide +kernel)) fun z => by cases z) n7 fun G8 H8 a8 n8 => ?_
      have e58 := (a6.gg.trans a7.gg).trans a8.gg
      have lc8 := ((lc5.nv a6).nv a7).nv a8
      refine s_if (b := meets p L[i]) (zt_is (zt_test (z_opEq (x := .bl (meets p L[i])) (y := .bl true) (z_call2 (A := dat K (patD p)) (B := is (.str (lnS L[i]))) (z_fld (n := 1) rfl (QN.dp_mono e58 _ _ hv5') rfl) (z_var rfl rfl) stb_tr fun x y G' _ hx hy => ⟨p, L[i], x, by rw [show y = _ from hy], hx, hok.1, Nat.le_trans hok.2 (by decide), hlok.1, rfl⟩) (z_opEq (x := .str "keep") (z_var rfl rfl) (z_c rfl) rfl (by decide +kernel)) rfl rfl)) (by cases meets p L[i] <;> decide +kernel)) n8 (fun hb G9 H9 a9 n9 => ?_) fun hb G9 H9 a9 n9 => ?_
      · refine e_app (C := is (.str (lnS L[i]))) rfl (lc8.nv a9) hyl (z_var rfl rfl) n9 fun u' G10 H10 a10 n10 lc10 hu10 => ⟨G10, n10, ((e35.trans e58).trans a9.gg).trans a10.gg, _, _, _, rfl, lc10, ?_⟩
        rw [hps, List.map_append]
        have : pass (.keep p) [L[i]] = [L[i]] := by simp [pass, hb]
        show DpAll K _ _ (_ ++ (pass (.keep p) [L[i]]).map lineD)
        rw [this]
        exact da_snoc (QN.dp_monos ((e58.trans a9.gg).trans a10.gg) _ _ hys5) (by rw [show u' = _ from hu10]; exact Dp.str _)
      · refine s_next ⟨G9, n9, (e35.trans e58).trans a9.gg, _, _, _, rfl, lc8.nv a9, ?_⟩
        rw [hps, List.map_append]
        have : pass (.keep p) [L[i]] = [] := by simp [pass, hb]
        show DpAll K _ _ (_ ++ (pass (.keep p) [L[i]]).map lineD)
        rw [this]
        simpa using QN.dp_monos (e58.trans a9.gg) _ _ hys5
    | drop p =>
      refine s_ifF (tg (t := "drop") rfl (by decide +kernel)) n5 fun G6 H6 a6 n6 => ?_
      refine s_ifF (tg (t := "drop") rfl (by decide +kernel)) n6 fun G7 H7 a7 n7 => ?_
      refine s_ifT (zt_or (a := false) (b := true) (tg (t := "drop") rfl (by decide +kernel)) fun _ => tg (t := "drop") rfl (by decide +kernel)) n7 fun G8 H8 a8 n8 => ?_
      have e58 := (a6.gg.trans a7.gg).trans a8.gg
      have lc8 := ((lc5.nv a6).nv a7).nv a8
      refine s_if (b := !meets p L[i]) (zt_is (zt_test (z_opEq (x := .bl (meets p L[i])) (y := .bl false) (z_call2 (A := dat K (patD p)) (B := is (.str (lnS L[i]))) (z_fld (n := 1) rfl (QN.dp_mono e58 _ _ hv5') rfl) (z_var rfl rfl) stb_tr fun x y G' _ hx hy => ⟨p, L[i], x, by rw [show y = _ from hy], hx, hok.1, Nat.le_trans hok.2 (by decide), hlok.1, rfl⟩) (z_opEq (x := .str "drop") (z_var rfl rfl) (z_c rfl) rfl (by decide +kernel)) rfl rfl)) (by cases meets p L[i] <;> decide +kernel)) n8 (fun hb G9 H9 a9 n9 => ?_) fun hb G9 H9 a9 n9 => ?_
      · have hb : meets p L[i] = false := by simpa using hb
        refine e_app (C := is (.str (lnS L[i]))) rfl (lc8.nv a9) hyl (z_var rfl rfl) n9 fun u' G10 H10 a10 n10 lc10 hu10 => ⟨G10, n10, ((e35.trans e58).trans a9.gg).trans a10.gg, _, _, _, rfl, lc10, ?_⟩
        rw [hps, List.map_append]
        have : pass (.drop p) [L[i]] = [L[i]] := by simp [pass, hb]
        show DpAll K _ _ (_ ++ (pass (.drop p) [L[i]]).map lineD)
        rw [this]
        exact da_snoc (QN.dp_monos ((e58.trans a9.gg).trans a10.gg) _ _ hys5) (by rw [show u' = _ from hu10]; exact Dp.str _)
      · have hb : meets p L[i] = true := by simpa using hb
        refine s_next ⟨G9, n9, (e35.trans e58).trans a9.gg, _, _, _, rfl, lc8.nv a9, ?_⟩
        rw [hps, List.map_append]
        have : pass (.drop p) [L[i]] = [] := by simp [pass, hb]
        show DpAll K _ _ (_ ++ (pass (.drop p) [L[i]]).map lineD)
        rw [this]
        simpa using QN.dp_monos (e58.trans a9.gg) _ _ hys5
    | first m =>
      refine s_ifF (tg (t := "first") rfl (by decide +kernel)) n5 fun G6 H6 a6 n6 => ?_
      refine s_ifF (tg (t := "first") rfl (by decide +kernel)) n6 fun G7 H7 a7 n7 => ?_
      refine s_ifF (zt_or (a := false) (b := false) (tg (t := "first") rfl (by decide +kernel)) fun _ => tg (t := "first") rfl (by decide +kernel)) n7 fun G8 H8 a8 n8 => ?_
      refine s_ifT (tg (t := "first") rfl (by decide +kernel)) n8 fun G9 H9 a9 n9 => ?_
      have e59 := ((a6.gg.trans a7.gg).trans a8.gg).trans a9.gg
      have lc9 := (((lc5.nv a6).nv a7).nv a8).nv a9
      refine s_if (b := decide (i < m)) (zt_is (zt_test (z_opI (z_var rfl rfl) (z_int (z_fld (n := 1) (d := .int (m : Nat)) rfl (QN.dp_mono e59 _ _ hv5') rfl)) rfl)) (by
        by_cases h : i < m
        · rw [decide_eq_true h, decide_eq_true (by omega)]
        · rw [decide_eq_false h, decide_eq_false (by omega)])) n9 (fun hb G10 H10 a10 n10 => ?_) fun hb G10 H10 a10 n10 => ?_
      · have hb := of_decide_eq_true hb
        refine e_app (C := is (.str (lnS L[i]))) rfl (lc9.nv a10) hyl (z_var rfl rfl) n10 fun u' G11 H11 a11 n11 lc11 hu11 => ⟨G11, n11, ((e35.trans e59).trans a10.gg).trans a11.gg, _, _, _, rfl, lc11, ?_⟩
        rw [hps, List.map_append]
        have : pass (.first m) (if i < m then [L[i]] else []) = [L[i]] := by
          rw [if_pos hb]
          show [L[i]].take m = _
          rw [List.take_of_length_le (by simp; omega)]
        show DpAll K _ _ (_ ++ (pass (.first m) (if i < m then [L[i]] else [])).map lineD)
        rw [this]
        exact da_snoc (QN.dp_monos ((e59.trans a10.gg).trans a11.gg) _ _ hys5) (by rw [show u' = _ from hu11]; exact Dp.str _)
      · have hb := of_decide_eq_false hb
        refine s_next ⟨G10, n10, (e35.trans e59).trans a10.gg, _, _, _, rfl, lc9.nv a10, ?_⟩
        rw [hps, List.map_append]
        have : pass (.first m) (if i < m then [L[i]] else []) = [] := by
          rw [if_neg hb]
          show [].take m = _
          simp
        show DpAll K _ _ (_ ++ (pass (.first m) (if i < m then [L[i]] else [])).map lineD)
        rw [this]
        simpa using QN.dp_monos (e59.trans a10.gg) _ _ hys5
  · subst hσ
    rw [List.take_length] at hys
    have tf : ∀ {σ : L2.St} {G : Hp} {u : Str}, σ[2]? = some (some (.str (ftag fl))) → (u = "order" ∨ u = "count") → Pz (tTest (tOp rEq (tVar 2) (tC (.str u))) σ) G (is false) := fun hσ hu => zt_test (z_opEq (z_var hσ rfl) (z_c rfl) rfl (by
      rcases hu with rfl | rfl
      · cases fl
        · exact (by decide +kernel : decide (V.str "keep" = V.str "order") = false)
        · exact (by decide +kernel : decide (V.str "drop" = V.str "order") = false)
        · exact (by decide +kernel : decide (V.str "swap" = V.str "order") = false)
        · exact (by decide +kernel : decide (V.str "first" = V.str "order") = false)
      · cases fl
        · exact (by decide +kernel : decide (V.str "keep" = V.str "count") = false)
        · exact (by decide +kernel : decide (V.str "drop" = V.str "count") = false)
        · exact (by decide +kernel : decide (V.str "swap" = V.str "count") = false)
        · exact (by decide +kernel : decide (V.str "first" = V.str "count") = false)))
    refine q_skip (tf rfl (.inl rfl)) n3 fun G4 H4 a4 n4 => ?_
    refine q_skip (tf rfl (.inr rfl)) n4 fun G5 H5 a5 n5 => ?_
    have lc5 := (lc3.nv a4).nv a5
    exact s_ret (z_var rfl (lc5.dat (QN.dp_monos (a4.gg.trans a5.gg) _ _ hys))) (lc5.close n5) k
theorem written_snoc (r : QB.Row) (f : Fil) (L : List QB.Ln) : written (r ++ [f]) L = pass f (written r L) := by
  unfold written
  rw [List.foldl_append]
  rfl
theorem written_ok {r : QB.Row} (hr : RowOk r) {L : List QB.Ln} (h : LOk L) : LOk (written r L) := by
  unfold written
  induction r generalizing L with
  | nil => exact h
  | cons f r ih => exact ih (fun g hg => hr g (List.mem_cons_of_mem _ hg)) (pass_ok (hr f List.mem_cons_self) h)
def sp_law_written (K : PySem.W.Frag) : Sp := spP fun vs G C => ∃ r L v u, vs = [v, u] ∧ Dp K G v (rowD r) ∧ Dp K G u (linesD L) ∧ RowOk r ∧ r.length ≤ 1000 ∧ LOk L ∧ C = dat K (linesD (written r L))
theorem p_law_written (B : Bi K mg) {f : Addr} {fd : FuncData} (F : Fun K "_law_written" "_law_written" s_law_written f fd) (c__law_passed : Callee P w K mg base 3 "_law_passed" P_law_passed (sp_law_passed K)) : FnOk P w K mg base CX0 4 f fd P_law_written (sp_law_written K) := by
  refine F.ok sc_law_written (fun vs H Q E ⟨G, C, _, ⟨r, L, v, u, e, _⟩, _⟩ => by rw [e]; rfl) fun cdv A outer s H vs Q E hr h => ?_
  have nd := sc_law_written.nd
  have hu := hu_of hr
  have hu6 := hr.units
  refine ⟨_, (pss_cons (ps_for PassesOwn.never rfl (QU.piL (K := K) rfl (pv 0)) (pg_name (i := 2) nd rfl (.inl rfl)) (pss_one (ps_set (i := 1) nd rfl (.inl rfl) (pe_call c__law_passed.ok (hr.mono (by decide)) (by rfl) c__law_passed.m c__law_passed.kp c__law_passed.b .nil pass0 (pa_cons (pv 2) (pa_cons (pv 1) pa_nil))))))
      (pss_one (ps_ret (pv 1)))), ?_⟩
  obtain ⟨G, C, e, ⟨r, L, v, u, rfl, hv, hL, hok, hrl, hLok, rfl⟩, k⟩ := h
  have n0 : Nv [] G H G H := Nv.refl e
  refine q_forP (n := r.length) (wk_list (z_lst (z_var rfl hv)) |> fun h => by rw [List.length_map] at h; exact h) n0 (fun i σ G1 H1 => ∃ x1 y2, σ = [some v, some x1, y2] ∧ Dp K G1 x1 (linesD (written (r.take i) L))) (fun G1 H1 a1 n1 => ⟨u, none, rfl, QN.dp_mono a1.gg _ _ hL⟩) (fun i σ G1 H1 x G2 H2 hi n1 e1 ⟨x1, y2, hσ, hx1⟩ a2 n2 hx => ?_) fun σ G1 H1 n1 e1 ⟨x1, y2, hσ, hx1⟩ => ?_
  · subst hσ
    obtain ⟨d, hd, hx⟩ := hx
    rw [List.getElem?_map] at hd
    obtain ⟨fl, hfl, rfl⟩ := Option.map_eq_some_iff.mp hd
    refine s_asg (C := dat K (linesD (pass fl (written (r.take i) L)))) (z_call2 (A := dat K (filD fl)) (B := dat K (linesD (written (r.take i) L))) (z_var rfl hx) (z_var rfl (QN.dp_mono a2.gg _ _ hx1)) stb_tr fun x y G' _ hx hy => ⟨fl, _, x, y, rfl, hx, hy, hok fl (List.mem_of_getElem? hfl), written_ok (fun g hg => hok g (List.mem_of_mem_take hg)) hLok, rfl⟩) n2 fun v3 G3 H3 a3 n3 hv3 => ⟨G3, n3, a2.gg.trans a3.gg, v3, _, rfl, ?_⟩
    rw [List.take_succ, hfl]
    show Dp K G3 v3 (linesD (written (r.take i ++ [fl]) L))
    rw [written_snoc]
    exact hv3
  · subst hσ
    rw [List.take_length] at hx1
    exact s_ret (z_var rfl hx1) n1 k
end QP

/-! Parted or not, ranks, lists of lines, drawn lines. -/
namespace QP
open PySem PySem.Spec PyProof.Rows L2 Evl QV QU QX QB QT QD
variable {P : Program} {w : World} {K : PySem.W.Frag} {mg : Str → Option Value} {base : Heap}
theorem shp_lines {L : List QB.Ln} (h : Slst L) : Shp 1 (linesD L) := shp_list fun d hd => by
  obtain ⟨x, hx, rfl⟩ := List.mem_map.mp hd
  exact shp_str fun c hc => by
    have hc : c ∈ x := by simpa [lnS] using hc
    have := (h x hx c hc).2.1
    omega
theorem lnS_inj {a b : QB.Ln} (h : lnS a = lnS b) : a = b := by
  unfold lnS at h
  injection h with h
  simpa using h
theorem eqv_lines : ∀ (A B : List QB.Ln), PyData.eqvAll (A.map lineD) (B.map lineD) = decide (A = B)
  | [], [] => by simp [PyData.eqvAll]
  | [], _ :: _ => by simp [PyData.eqvAll]
  | _ :: _, [] => by simp [PyData.eqvAll]
  | a :: A, b :: B => by
    rw [List.map_cons, List.map_cons, PyData.eqvAll, eqv_lines A B]
    have : PyData.eqv (lineD a) (lineD b) = decide (a = b) := by
      show (lnS a == lnS b) = _
      by_cases h : a = b
      · rw [h, decide_eq_true rfl]
        simp
      · rw [decide_eq_false h]
        exact beq_eq_false_iff_ne.mpr fun z => h (lnS_inj z)
    rw [this]
    by_cases h : a = b <;> by_cases h2 : A = B <;> simp [h, h2]
theorem lok_slst {L : List QB.Ln} (h : LOk L) : Slst L := fun x hx => (h.2 x hx).2
def sp_law_parts (K : PySem.W.Frag) : Sp := spP fun vs G C => ∃ one other L v u y, vs = [v, u, y] ∧ Dp K G v (rowD one) ∧ Dp K G u (rowD other) ∧ Dp K G y (linesD L) ∧ RowOk one ∧ RowOk other ∧ one.length ≤ 1000 ∧ other.length ≤ 1000 ∧ LOk L ∧ C = is (.bl (!decide (written one L = written other L)))
theorem p_law_parts (B : Bi K mg) {f : Addr} {fd : FuncData} (F : Fun K "_law_parts" "_law_parts" s_law_parts f fd) (c__law_written : Callee P w K mg base 4 "_law_written" P_law_written (sp_law_written K)) : FnOk P w K mg base CX0 5 f fd P_law_parts (sp_law_parts K) := by
  refine F.ok sc_law_parts (fun vs H Q E ⟨G, C, _, ⟨one, other, L, v, u, y, e, _⟩, _⟩ => by rw [e]; rfl) fun cdv A outer s H vs Q E hr h => ?_
  have nd := sc_law_parts.nd
  have hu := hu_of hr
  have hu6 := hr.units
  refine ⟨_, (pss_one (ps_ret (pe_cmpR (QU.neD (K := K) rfl hu6) (pe_call c__law_written.ok (hr.mono (by decide)) (by rfl) c__law_written.m c__law_written.kp c__law_written.b .nil pass0 (pa_cons (pv 0) (pa_cons (pv 2) pa_nil))) (pe_call c__law_written.ok (hr.mono (by decide)) (by rfl) c__law_written.m c__law_written.kp c__law_written.b .nil pass0 (pa_cons (pv 1) (pa_cons (pv 2) pa_nil))) (nomark _)))), ?_⟩
  obtain ⟨G, C, e, ⟨one, other, L, v, u, y, rfl, hv, hu', hy, ho1, ho2, hl1, hl2, hL, rfl⟩, k⟩ := h
  have n0 : Nv [] G H G H := Nv.refl e
  refine s_ret (z_neD (d := linesD (written one L)) (e := linesD (written other L)) (z_call2 (A := dat K (rowD one)) (B := dat K (linesD L)) (z_var rfl hv) (z_var rfl hy) stb_tr fun x z G' _ hx hz => ⟨one, L, x, z, rfl, hx, hz, ho1, hl1, hL, rfl⟩) (z_call2 (A := dat K (rowD other)) (B := dat K (linesD L)) (z_var rfl hu') (z_var rfl hy) stb_tr fun x z G' _ hx hz => ⟨other, L, x, z, rfl, hx, hz, ho2, hl2, hL, rfl⟩) ((shp_lines (lok_slst (written_ok ho1 hL))).ok (by decide)) ((shp_lines (lok_slst (written_ok ho2 hL))).ok (by decide)) (by
    show (!PyData.eqv (.list _) (.list _)) = _
    rw [PyData.eqv, eqv_lines])) n0 k
def rankD (L : List QB.Ln) : PyData := .tuple [natD L.length, .list (L.map fun l => .tuple [natD l.length, lineD l])]
def sp_law_rank (K : PySem.W.Frag) : Sp := spP fun vs G C => ∃ L v, vs = [v] ∧ Dp K G v (linesD L) ∧ LOk L ∧ C = dat K (rankD L)
theorem p_law_rank (B : Bi K mg) {f : Addr} {fd : FuncData} (F : Fun K "_law_rank" "_law_rank" s_law_rank f fd) : FnOk P w K mg base CX0 1 f fd P_law_rank (sp_law_rank K) := by
  refine F.ok sc_law_rank (fun vs H Q E ⟨G, C, _, ⟨L, v, e, _⟩, _⟩ => by rw [e]; rfl) fun cdv A outer s H vs Q E hr h => ?_
  have nd := sc_law_rank.nd
  have hu := hu_of hr
  have hu6 := hr.units
  refine ⟨_, (pss_one (ps_ret (pe_tup (pa_cons (pe_callB (QU.lenS (K := K) rfl) (by rfl) B.len_ (by decide +kernel) (pa_cons (pv 0) pa_nil)) (pa_cons (pe_lc (own := [("_law_line_here", 1)]) rfl nd (QU.piL (K := K) rfl (pv 0)) (blkOk_by (own := [("_law_line_here", 1)]) (N := N_law_rank) (sc := defScope s_law_rank) (by decide +kernel)) (fun _ _ _ _ _ => (pg_name (i := 1) nd rfl (.inl rfl))) (fun _ _ _ _ _ => pts_nil) (fun _ _ _ _ _ => (pe_tup (pa_cons (pe_callB call_len_str (by rfl) B.len_ (by decide +kernel) (pa_cons (pv 1) pa_nil)) (pa_cons (pv 1) pa_nil))))) pa_nil))))), ?_⟩
  obtain ⟨G, C, e, ⟨L, v, rfl, hv, hL, rfl⟩, k⟩ := h
  have n0 : Nv [] G H G H := Nv.refl e
  refine s_ret (z_tupD (z_consD (dat_int (z_is (z_len1 (z_var rfl hv)) (by rw [List.length_map]))) (z_consD (Lz.dat (Lz.to (l_fm L lineD (fun l => some (.tuple [natD l.length, lineD l])) (z_var rfl hv) hL.1 fun l x G1 hl e1 hx => turn_all rfl (z_tupD (z_consD (dat_int (z_is (z_lenS (z_var rfl (dp_str hx)) (by rw [lnS_len]; exact Nat.le_trans (hL.2 l hl).1 (by decide))) (by rw [lnS_len]))) (z_consD (z_var rfl hx) z_nilD)) stb_tr (by show 2 ≤ 1000; decide))) fun G' xs _ c => by
    rw [fm_some'] at c
    exact c) stb_tr) z_nilD)) stb_tr (by show 2 ≤ 1000; decide)) n0 k
def sp_law_is_list (K : PySem.W.Frag) : Sp := spP fun vs G C => ∃ L v, vs = [v] ∧ Dp K G v (linesD L) ∧ LOk L ∧ C = is (.bl true)
theorem p_law_is_list (B : Bi K mg) {f : Addr} {fd : FuncData} (F : Fun K "_law_is_list" "_law_is_list" s_law_is_list f fd) : FnOk P w K mg base CX0 1 f fd P_law_is_list (sp_law_is_list K) := by
  refine F.ok sc_law_is_list (fun vs H Q E ⟨G, C, _, ⟨L, v, e, _⟩, _⟩ => by rw [e]; rfl) fun cdv A outer s H vs Q E hr h => ?_
  have nd := sc_law_is_list.nd
  have hu := hu_of hr
  have hu6 := hr.units
  refine ⟨_, (pss_cons (ps_if (pt_not (pt_val (pe_callB (QU.isiR (K := K) rfl) (by rfl) B.isinstance_ (by decide +kernel) (pa_cons (pv 0) (pa_cons (pe_bltn (v := .ty "list") (by rfl) B.list_ (by decide +kernel) rfl) pa_nil))))) (pss_one (ps_ret pe_bl)) pss_nil)
      (pss_one (ps_ret (pe_callB (QU.allR (K := K) rfl rfl) (by rfl) B.all_ (by decide +kernel) (pa_cons (pe_lc (own := [("_law_line_here", 1)]) rfl nd (QU.piL (K := K) rfl (pv 0)) (blkOk_by (own := [("_law_line_here", 1)]) (N := N_law_is_list) (sc := defScope s_law_is_list) (by decide +kernel)) (fun _ _ _ _ _ => (pg_name (i := 1) nd rfl (.inl rfl))) (fun _ _ _ _ _ => pts_nil) (fun _ _ _ _ _ => (pe_and (pe_callB (QU.isiR (K := K) rfl) (by rfl) B.isinstance_ (by decide +kernel) (pa_cons (pv 1) (pa_cons (pe_bltn (v := .ty "str") (by rfl) B.str_ (by decide +kernel) rfl) pa_nil))) (pe_one (pe_cmpR QW.op_notInS pe_str (pv 1) (by rfl)))))) pa_nil))))), ?_⟩
  obtain ⟨G, C, e, ⟨L, v, rfl, hv, hL, rfl⟩, k⟩ := h
  have n0 : Nv [] G H G H := Nv.refl e
  refine q_skip (zt_not (a := true) (zt_B (z_isi (t := "list") (z_tyL (z_var rfl hv)) (by decide +kernel)))) n0 fun G1 H1 a1 n1 => ?_
  refine s_ret (z_allD L lineD (z_var rfl (QN.dp_mono n1.gg _ _ hv)) hL.1 (fun _ => rfl) fun l x G2 hl e2 hx => z_andV (a := true) (b := true) (z_isi (t := "str") (z_tyS (z_var rfl hx)) (by decide +kernel)) fun _ => z_notInS (c := 10) (z := lnS l) (z_c rfl) (z_var rfl (dp_str hx)) ?_) n1 k
  have : decide (10 ∈ (lnS l).cps.toList) = false := decide_eq_false fun hm => by
    have hm : 10 ∈ l := by simpa [lnS] using hm
    have := ((hL.2 l hl).2 10 hm).1
    omega
  rw [this]
  rfl
/-! drawn lines -/
def lneOk (n : Nat) (x : QB.Ln) : Prop := Sln x ∧ x.length ≤ n
def lneP (n : Nat) : Pd V := some_ fun l => both_ (lneOk n l) (is (.str (lnS l)))
theorem sum_chr : ∀ cs : List Nat, ((cs.map chr).map (·.length)).sum = cs.length
  | [] => rfl
  | a :: l => by
    rw [List.map_cons, List.map_cons, List.sum_cons, sum_chr l, List.length_cons]
    show 1 + _ = _
    omega
theorem z_joinG {M : List Addr} {S S1 S2 : Hf} {σ : L2.St} {G : Hp} {ta tb : TE} {R : List Nat → Prop} (ha : Ez M S S1 (ta σ) G (is (.str Str.empty))) (hb : Ez M S1 S2 (tb σ) G (some_ fun cs : List Nat => both_ (R cs) (dat K (.list ((cs.map chr).map .str))))) (hz : ∀ cs, R cs → cs.length ≤ 1000) : Ez M S S2 (tM1 (rJoin K) ta tb σ) G (some_ fun cs : List Nat => both_ (R cs) (is (.str (lnS cs)))) := fun G1 H e0 a s Q q =>
  ha G1 H e0 a s _ fun v G2 H2 n2 s2 c2 => ⟨⟨_, c2⟩, hb G2 H2 (e0.trans n2.gg) (a.nv n2) s2 _ fun u G3 H3 n3 s3 c3 => by
    obtain ⟨cs, hr, c3⟩ := c3
    obtain ⟨p, xs, rfl, h1, h2⟩ := dp_list c3
    have := da_strs h2
    subst this
    refine ⟨Str.empty, p, cs.map chr, c2, rfl, .inl (ex_l n3.gh h1), ?_, q _ G3 H3 (n2.trans n3) s3 ⟨cs, hr, by rw [join_chr]; rfl⟩⟩
    rw [sum_chr, List.length_map]
    have := hz cs hr
    show cs.length + cs.length * 0 ≤ 16777216
    omega⟩
def sp_law_line (K : PySem.W.Frag) : Sp := spM fun vs M G S S' C => ∃ p n L, vs = [.ref p, .str L] ∧ LetOk L ∧ M = [p] ∧ n ≤ 1000000 ∧ S = Hd p n ∧ S' = Hd p (n + 60) ∧ C = lneP 16
theorem p_law_line (B : Bi K mg) {f : Addr} {fd : FuncData} (F : Fun K "_law_line" "_law_line" s_law_line f fd) (c__law_take : Callee P w K mg base 1 "_law_take" P_law_take sp_law_take) (c__law_sign : Callee P w K mg base 2 "_law_sign" P_law_sign sp_law_sign) : FnOk P w K mg base CX0 3 f fd P_law_line (sp_law_line K) := by
  refine F.ok sc_law_line (fun vs H Q E ⟨M, G, S, S', C, _, _, ⟨p, n, L, e, _⟩, _⟩ => by rw [e]; rfl) fun cdv A outer s H vs Q E hr h => ?_
  have nd := sc_law_line.nd
  have hu := hu_of hr
  have hu6 := hr.units
  refine ⟨_, (pss_cons (ps_set (i := 2) nd rfl (.inl rfl) (pe_call c__law_take.ok (hr.mono (by decide)) (by rfl) c__law_take.m c__law_take.kp c__law_take.b .nil pass0 (pa_cons (pv 0) (pa_cons pe_int pa_nil))))
      (pss_cons (ps_if (pt_cmpR op_eq (pe_call c__law_take.ok (hr.mono (by decide)) (by rfl) c__law_take.m c__law_take.kp c__law_take.b .nil pass0 (pa_cons (pv 0) (pa_cons pe_int pa_nil))) pe_int (nomark _)) (pss_one (ps_set (i := 2) nd rfl (.inl rfl) (pe_op op_add (pe_op op_add (pv 2) pe_int) (pe_call c__law_take.ok (hr.mono (by decide)) (by rfl) c__law_take.m c__law_take.kp c__law_take.b .nil pass0 (pa_cons (pv 0) (pa_cons pe_int pa_nil)))))) pss_nil)
      (pss_one (ps_ret (QU.joinR (K := K) rfl pe_str (pe_lc (own := [("_law_k", 3)]) rfl nd (pi_range1 (by rfl) B.range_ (pa_cons (pv 2) pa_nil)) (blkOk_by (own := [("_law_k", 3)]) (N := N_law_line) (sc := defScope s_law_line) (by decide +kernel)) (fun _ _ _ _ _ => (pg_name (i := 3) nd rfl (.inl rfl))) (fun _ _ _ _ _ => pts_nil) (fun _ _ _ _ _ => (pe_call c__law_sign.ok (hr.mono (by decide)) (by rfl) c__law_sign.m c__law_sign.kp c__law_sign.b .nil pass0 (pa_cons (pv 0) (pa_cons (pv 1) pa_nil)))))))))), ?_⟩
  obtain ⟨M, G, S, S', C, aM, hS, ⟨p, n, L, rfl, hL, rfl, hn, rfl, rfl, rfl⟩, k⟩ := h
  have n0 : Nv [p] G H G H := Nv.refl aM.ex
  have stp : ∀ m, Stb [p] (Hd p m) := fun m => hd_stb (by simp)
  refine q_asgM (M := [p]) (S := Hd p n) (S1 := Hd p (n + 1)) (C := intR fun i => 0 ≤ i ∧ i < 5) (z_take1 rfl (z_c rfl) (by decide) (by omega)) n0 subM aM hS fun v1 G1 H1 a1 n1 at1 s1 ⟨i1, h1, hv1⟩ => ?_
  rw [hv1]
  refine q_ifU (M := [p]) (S := Hd p (n + 1)) (S1 := Hd p (n + 2)) (B := any) (fun σ' G' H' => Nv [p] G H G' H' ∧ At [p] G' H' ∧ Hd p (n + 3) G' H' ∧ ∃ many : Nat, many ≤ 16 ∧ σ' = [some (.ref p), some (.str L), some (.int (many : Nat)), none]) (zt_anyB (z_eqR (z_take1 rfl (z_c rfl) (by decide : (0 : Int) < 9 ∧ (9 : Int) < 1000) (by omega)) (z_isR (z_c rfl)))) n1 subM at1 s1 (fun G2 H2 a2 n2 at2 s2 next => ?_) (fun G2 H2 a2 n2 at2 s2 => ⟨n2, at2, s2.le (by omega), i1.toNat, by omega, by
    have : ((i1.toNat : Nat) : Int) = i1 := by omega
    rw [this]
    rfl⟩) fun σ' G2 H2 ⟨n2, at2, s2, many, hm, hσ⟩ => ?_
  · refine s_asgM (M := [p]) (S := Hd p (n + 2)) (S1 := Hd p (n + 3)) (C := intR fun i => 0 ≤ i ∧ i ≤ 16) (z_opRR (R1 := fun j => j = i1 + 1) (z_isR (z_opI (z_var rfl rfl) (z_c rfl) rfl)) (z_take1 rfl (z_c rfl) (by decide : (0 : Int) < 12 ∧ (12 : Int) < 1000) (by omega)) fun i j hi hj => by omega) n2 subM at2 s2 fun v3 G3 H3 a3 n3 at3 s3 ⟨i3, h3, hv3⟩ => next _ G3 H3 ⟨n3, at3, s3, i3.toNat, by omega, by
      have : ((i3.toNat : Nat) : Int) = i3 := by omega
      rw [this, hv3]
      rfl⟩
  · subst hσ
    have hgen : Lz (M := [p]) (Hd p (n + 3)) (Hd p (n + 60)) (tLc (iRng1 (tCons (tVar 2) tNil)) (gName 3) tYes (tCall sp_law_sign [] E0 (tCons (tVar 0) (tCons (tVar 1) tNil))) [3] [some (.ref p), some (.str L), some (.int (many : Nat)), none]) G2 (gens K (fun n => ∃ B, as many numP n B) fun x => ∃ a, x = (fun c => PyData.str (chr c)) a ∧ Sgn a) :=
      l_gen (fun i => Hd p (n + 3 + 2 * i)) (wk_rangeN (Ez.lift (z_var rfl rfl) (stp _)) (by omega)) (fun n' B' ⟨h, _⟩ => by omega) (fun _ _ h => h) (fun _ => stp _) (fun n' B' ⟨h, _⟩ G H s => s.le (by omega)) (fun _ => rfl) fun n' B' i x G7 ⟨h, _⟩ hi e7 hx =>
        Ez.to (z_sign rfl (z_var rfl rfl) hL (by omega)) fun G' v' _ ⟨c, hc, hv⟩ => ⟨.str (chr c), ⟨c, rfl, hc⟩, by rw [show v' = _ from hv]; exact Dp.str _⟩
    refine QX.s_retM (M := [p]) (S := Hd p (n + 3)) (S1 := Hd p (n + 60)) (C := lneP 16) (z_joinG (R := lneOk 16) (z_c rfl) (Ez.to (Lz.ez (K := K) hgen (stp _)) fun G' v' _ hc => ?_) fun cs h => Nat.le_trans h.2 (by decide)) n2 subM at2 s2 k
    obtain ⟨l, hl1, ⟨_, hl2, _⟩, hl3⟩ := gens_dat hc
    exact ⟨l, ⟨hl3, by omega⟩, by rw [List.map_map]; exact hl1⟩
end QP

/-! A drawn list of lines. -/
namespace QP
open PySem PySem.Spec PyProof.Rows L2 Evl QV QU QX QB QT QD
variable {P : Program} {w : World} {K : PySem.W.Frag} {mg : Str → Option Value} {base : Heap}
def lnV (x : QB.Ln) : V := .str (lnS x)
/-- hand and list, both out of view -/
def HL (h l : Addr) (n : Nat) (xs : List V) : Hf := fun G H => Hd h n G H ∧ H l = some (.lst xs)
theorem hl_stb {h l : Addr} {n : Nat} {xs : List V} : Stb [h, l] (HL h l n xs) := fun {G H G2 H2} e hm ⟨s1, s2⟩ => ⟨hd_stb (M := [h]) (by simp) e (fun a ha => hm a (by simp at ha; simp [ha])) s1, by rw [hm l (by simp)]; exact s2⟩
theorem zt_more {G : Hp} {σ : L2.St} {E : XK} {h l : Addr} {xs : List V} {n i j : Nat} (hi : σ[i]? = some (some (.ref l))) (hj : σ[j]? = some (some (.ref h))) (ne : l ≠ h) (hn : n ≤ 1000000) :
    Ez [h, l] (HL h l n xs) (HL h l (n + 1) xs) (tAnd (fun σ H (Q : Bool → Hp → Prop) => tVar i σ H fun x H' => ∃ k, TruV K x H' k ∧ Q k H') (tTest (tOp rEq (tCall sp_law_take [] E (tCons (tVar j) (tCons (tC (.int 4)) tNil))) (tC (.int 3)))) σ) G (⟨fun _ b => b = true → xs ≠ [], fun _ h => h⟩ : Pd Bool) := fun G1 H e a s Q q => by
  refine ⟨.ref l, hi, ?_⟩
  cases xs with
  | nil => exact ⟨false, .inl ⟨[], SqL.of s.2, rfl⟩, L2.iteF (q false G1 H (Nv.refl a.ex) ⟨s.1.le (by omega), s.2⟩ fun z => by cases z)⟩
  | cons x xs =>
    refine ⟨true, .inl ⟨x :: xs, SqL.of s.2, rfl⟩, L2.iteT ?_⟩
    refine (zt_anyB (z_eqR (z_take (S := HL h l n (x :: xs)) (S1 := HL h l (n + 1) (x :: xs)) hj (by simp) (z_c rfl) hl_stb (by decide : (0 : Int) < 4 ∧ (4 : Int) < 1000) (by omega) (fun _ _ h => h.1) fun G1 H1 G2 H2 s nv t => ⟨t, nv.hh l _ (by simp [ne]) s.2⟩) (z_isR (z_c rfl)))) G1 H e a s Q fun v G2 H2 n2 s2 _ => q v G2 H2 n2 s2 fun _ z => by cases z
theorem z_lawline {G : Hp} {σ : L2.St} {te : TE} {E : XK} {p : Addr} {i n : Nat} {L : Str} (hi : σ[i]? = some (some (.ref p))) (ht : Pz (te σ) G (is (.str L))) (hL : LetOk L) (hn : n ≤ 1000000) : Ez [p] (Hd p n) (Hd p (n + 60)) (tCall (sp_law_line K) [] E (tCons (tVar i) (tCons te tNil)) σ) G (lneP 16) :=
  z_callP2 hi (by simp) ht (hd_stb (by simp)) fun x G' _ hx => ⟨Hd p n, Hd p (n + 60), fun _ _ h => h, ⟨p, n, L, by rw [show x = _ from hx], hL, rfl, hn, rfl, rfl, rfl⟩, fun _ _ _ _ _ _ h => h⟩
theorem turn_line {D : Ends} {G0 H0 G H : Hp} {σ : L2.St} {E E2 : XK} {h l : Addr} {LL : List QB.Ln} {n i j m : Nat} {L : Str} (hi : σ[i]? = some (some (.ref l))) (hj : σ[j]? = some (some (.ref h))) (hm : σ[m]? = some (some (.str L))) (hL : LetOk L) (ne : l ≠ h) (hn : n ≤ 100000) (own : H0 h = none)
    (nv : Nv [] G0 H0 G H) (lc : Lc H0 G H l (LL.map lnV)) (at1 : At [h] G H) (hd : Hd h n G H) (ok : ∀ x ∈ LL, lneOk 16 x) (hz : LL.length < 1000)
    (next : ∀ (LL' : List QB.Ln) G2 H2, Nv [] G0 H0 G2 H2 → Ex G G2 → Lc H0 G2 H2 l (LL'.map lnV) → At [h] G2 H2 → Hd h (n + 100) G2 H2 → (∀ x ∈ LL', lneOk 16 x) → LL'.length = LL.length + 1 → D.nx σ H2) :
    tIfS (tAnd (fun σ H (Q : Bool → Hp → Prop) => tVar i σ H fun x H' => ∃ k, TruV K x H' k ∧ Q k H') (tTest (tOp rEq (tCall sp_law_take [] E (tCons (tVar j) (tCons (tC (.int 4)) tNil))) (tC (.int 3)))))
      (tDrop (tBM K "list" rAppend (tVar i) (tCons (tOp (rIxL K) (tVar i) (tUn (rU fun i => .int (-i)) (tC (.int 1)))) tNil)))
      (tDrop (tBM K "list" rAppend (tVar i) (tCons (tCall (sp_law_line K) [] E2 (tCons (tVar j) (tCons (tVar m) tNil))) tNil))) D σ H := by
  have hzz : (LL.map lnV).length < sizeLine := by rw [List.length_map]; exact Nat.lt_of_lt_of_le hz (by decide)
  refine s_ifM (M := [h, l]) (S := HL h l n (LL.map lnV)) (S1 := HL h l (n + 1) (LL.map lnV)) (zt_more hi hj ne (by omega)) nv (fun x hx => .inr ?_) ⟨at1.ex, fun x hx => ?_⟩ ⟨hd, lc.val⟩ fun b G1 H1 a1 n1 at2 ⟨s1, v1⟩ hb => ⟨fun e => ?_, fun e => ?_⟩
  · simp at hx
    rcases hx with rfl | rfl
    · exact own
    · exact lc.new
  · simp at hx
    rcases hx with rfl | rfl
    · exact at1.mm _ (by simp)
    · exact ⟨lc.out, by rw [lc.val]; simp⟩
  · have lc1 : Lc H0 G1 H1 l (LL.map lnV) := ⟨lc.new, (at2.mm l (by simp)).1, v1⟩
    have hne : LL ≠ [] := fun z => hb e (by rw [z]; rfl)
    have hl : LL = LL.dropLast ++ [LL.getLast hne] := (List.dropLast_concat_getLast hne).symm
    have hat : atI (LL.map lnV) (-1) = some (lnV (LL.getLast hne)) := by
      conv => lhs; rw [hl, List.map_append]
      exact atI_last _ _
    refine e_appK (x := lnV (LL.getLast hne)) hi lc1 hzz (z_ixK (l := l) (z_var hi rfl) (z_neg (z_c rfl) rfl) lc1.sq hat) n1 fun G2 H2 a2 n2 lc2 => ?_
    refine next (LL ++ [LL.getLast hne]) G2 H2 n2 (a1.gg.trans a2.gg) (by rw [List.map_append]; exact lc2) ⟨a2.gh, fun x hx => ?_⟩ ?_ (fun x hx => ?_) (by simp)
    · simp at hx
      subst hx
      exact ⟨a2.av _ (at2.mm _ (by simp)).1 (at2.mm _ (by simp)).2, a2.th _ (at2.mm _ (by simp)).2⟩
    · obtain ⟨xs, q1, q2⟩ := s1
      exact Hd.le (n := n + 1) (by omega) ⟨xs, a2.hh h _ (by simp [Ne.symm ne]) q1, q2⟩
    · rcases List.mem_append.mp hx with hx | hx
      · exact ok x hx
      · simp at hx
        subst hx
        exact ok _ (List.getLast_mem hne)
  · have lc1 : Lc H0 G1 H1 l (LL.map lnV) := ⟨lc.new, (at2.mm l (by simp)).1, v1⟩
    refine s_app (M := [h]) (S := Hd h (n + 1)) (S1 := Hd h (n + 61)) hi lc1 hzz (z_lawline hj (z_var hm rfl) hL (by omega)) n1 (fun x hx => .inr ?_) ⟨at2.ex, fun x hx => at2.mm x (by simp at hx; simp [hx])⟩ s1 (by simp [ne]) fun v G2 H2 a2 n2 at3 ⟨H3, s3, at4, e3⟩ lc2 ⟨x, hx, hv⟩ => ?_
    · simp at hx
      subst hx
      exact own
    · refine next (LL ++ [x]) G2 H2 n2 (a1.gg.trans a2.gg) (by rw [List.map_append]; rw [show v = lnV x from hv] at lc2; exact lc2) at3 ?_ (fun y hy => ?_) (by simp)
      · obtain ⟨xs, q1, q2⟩ := s3
        exact Hd.le (n := n + 61) (by omega) ⟨xs, by rw [e3 h (by simp)]; exact q1, q2⟩
      · rcases List.mem_append.mp hy with hy | hy
        · exact ok y hy
        · simp at hy
          subst hy
          exact hx
def sp_law_lines (K : PySem.W.Frag) : Sp := spP fun vs G C => ∃ (ns : List Int) (L : Str) (v : V), vs = [v, .int 2, .int 6, .str L] ∧ Dp K G v (.list (ns.map .int)) ∧ LetOk L ∧ C = some_ fun LL : List QB.Ln => both_ (LL.length ≤ 70 ∧ ∀ x ∈ LL, lneOk 16 x) (dat K (linesD LL))
theorem p_law_lines (B : Bi K mg) {f : Addr} {fd : FuncData} (F : Fun K "_law_lines" "_law_lines" s_law_lines f fd) (c__law_hand : Callee P w K mg base 1 "_law_hand" P_law_hand sp_law_hand) (c__law_cell : Callee P w K mg base 1 "_law_cell" P_law_cell (sp_law_cell K)) (c__law_take : Callee P w K mg base 1 "_law_take" P_law_take sp_law_take) (c__law_line : Callee P w K mg base 3 "_law_line" P_law_line (sp_law_line K)) : FnOk P w K mg base CX0 4 f fd P_law_lines (sp_law_lines K) := by
  refine F.ok sc_law_lines (fun vs H Q E ⟨G, C, _, ⟨ns, L, v, e, _⟩, _⟩ => by rw [e]; rfl) fun cdv A outer s H vs Q E hr h => ?_
  have nd := sc_law_lines.nd
  have hu := hu_of hr
  have hu6 := hr.units
  refine ⟨_, (pss_cons (ps_set (i := 4) nd rfl (.inl rfl) (pe_lst pa_nil))
      (pss_cons (ps_set (i := 5) nd rfl (.inl rfl) (pe_call c__law_hand.ok (hr.mono (by decide)) (by rfl) c__law_hand.m c__law_hand.kp c__law_hand.b .nil pass0 (pa_cons (pe_call c__law_cell.ok (hr.mono (by decide)) (by rfl) c__law_cell.m c__law_cell.kp c__law_cell.b .nil pass0 (pa_cons (pv 0) (pa_cons (pv 1) pa_nil))) pa_nil)))
      (pss_cons (ps_for PassesOwn.never rfl (pi_range1 (by rfl) B.range_ (pa_cons (pe_call c__law_take.ok (hr.mono (by decide)) (by rfl) c__law_take.m c__law_take.kp c__law_take.b .nil pass0 (pa_cons (pv 5) (pa_cons (pv 2) pa_nil))) pa_nil)) (pg_name (i := 6) nd rfl (.inl rfl)) (pss_one (ps_if (pw_and (pt_truth (pv 4) (by intro _; rfl)) (pw_and1 (pt_cmpR op_eq (pe_call c__law_take.ok (hr.mono (by decide)) (by rfl) c__law_take.m c__law_take.kp c__law_take.b .nil pass0 (pa_cons (pv 5) (pa_cons pe_int pa_nil))) pe_int (nomark _)))).pt (pss_one (ps_expr (pe_bm PySem.F.plainAttrs_list PySem.F.slot_list_append PySem.F.type_list_append mt_append (pv 4) (pa_cons (pe_ix (QU.ixL (K := K) rfl) (pv 4) (pe_un un_neg pe_int) (fun _ _ => rfl)) pa_nil)))) (pss_one (ps_expr (pe_bm PySem.F.plainAttrs_list PySem.F.slot_list_append PySem.F.type_list_append mt_append (pv 4) (pa_cons (pe_call c__law_line.ok (hr.mono (by decide)) (by rfl) c__law_line.m c__law_line.kp c__law_line.b .nil pass0 (pa_cons (pv 5) (pa_cons (pv 3) pa_nil))) pa_nil)))))))
      (pss_cons (ps_for PassesOwn.never rfl (QU.piL (K := K) rfl (pe_slice (QU.slL (K := K) rfl) (pv 0) (po_some (pe_op op_add (pv 1) pe_int)) (po_some pe_int))) (pg_name (i := 7) nd rfl (.inl rfl)) (pss_cons (ps_set (i := 5) nd rfl (.inl rfl) (pe_call c__law_hand.ok (hr.mono (by decide)) (by rfl) c__law_hand.m c__law_hand.kp c__law_hand.b .nil pass0 (pa_cons (pv 7) pa_nil)))
      (pss_one (ps_if (pw_and (pt_truth (pv 4) (by intro _; rfl)) (pw_and1 (pt_cmpR op_eq (pe_call c__law_take.ok (hr.mono (by decide)) (by rfl) c__law_take.m c__law_take.kp c__law_take.b .nil pass0 (pa_cons (pv 5) (pa_cons pe_int pa_nil))) pe_int (nomark _)))).pt (pss_one (ps_expr (pe_bm PySem.F.plainAttrs_list PySem.F.slot_list_append PySem.F.type_list_append mt_append (pv 4) (pa_cons (pe_ix (QU.ixL (K := K) rfl) (pv 4) (pe_un un_neg pe_int) (fun _ _ => rfl)) pa_nil)))) (pss_one (ps_expr (pe_bm PySem.F.plainAttrs_list PySem.F.slot_list_append PySem.F.type_list_append mt_append (pv 4) (pa_cons (pe_call c__law_line.ok (hr.mono (by decide)) (by rfl) c__law_line.m c__law_line.kp c__law_line.b .nil pass0 (pa_cons (pv 5) (pa_cons (pv 3) pa_nil))) pa_nil))))))))
      (pss_one (ps_ret (pv 4))))))), ?_⟩
  obtain ⟨G, C, e, ⟨ns, L, v, rfl, hv, hL, rfl⟩, k⟩ := h
  have n0 : Nv [] G H G H := Nv.refl e
  refine q_asgL (B := is []) (l_lst z_nil stb_tr fun G' xs b => by rw [show xs = _ from b]; show 0 ≤ sizeLine; decide) n0 fun l xs G1 H1 a1 n1 hl lc1 b1 => ?_
  have b1 : xs = [] := b1
  subst b1
  refine q_asgL (B := handP 0) (l_callN1 (A := intR fun _ => True) (z_call2 (A := dat K (.list (ns.map .int))) (B := is (.int (2 : Nat))) (z_var rfl (QN.dp_mono n1.gg _ _ hv)) (z_var rfl rfl) stb_tr fun x z G' _ hx hz => ⟨ns, 2, x, by rw [show z = _ from hz], hx, rfl⟩) fun x G' _ ⟨i, _, hx⟩ => ⟨i, by rw [show x = _ from hx], rfl⟩) n1 fun hd xs G2 H2 a2 n2 hhd lc2 b2 => ?_
  have ne0 := lc1.ne hhd
  have lc1 := lc1.nv a2
  have ne : l ≠ hd := ne0
  have at2 : At [hd] G2 H2 := At.one n2.gh lc2.out lc2.val
  refine s_for (M := [hd]) (S := Hd hd 0) (S1 := Hd hd 1) (wk_range (z_take1 rfl (z_var rfl rfl) (by decide : (0 : Int) < 6 ∧ (6 : Int) < 1000) (by omega)) fun j hj => by omega) n2 (fun x hx => .inr ?_) at2 ⟨xs, lc2.val, b2⟩ fun n B' G3 H3 a3 n3 at3 s3 ⟨⟨j, hj, hn⟩, hB⟩ => ?_
  · simp at hx
    subst hx
    exact lc2.new
  subst hn hB
  refine ⟨fun i σ G' H' => ∃ LL : List QB.Ln, ∃ x6 : Option V, σ = [some v, some (.int 2), some (.int 6), some (.str L), some (.ref l), some (.ref hd), x6, none] ∧ Lc H G' H' l (LL.map lnV) ∧ At [hd] G' H' ∧ Hd hd (1 + 100 * i) G' H' ∧ (∀ x ∈ LL, lneOk 16 x) ∧ LL.length = i, ⟨[], none, rfl, lc1.nv a3 (by simp [ne]), at3, s3, (fun _ z => nomatch z), rfl⟩, fun i σ1 G4 H4 x G5 H5 hi n4 e4 ⟨LL, x6, hσ, lc4, at4, s4, ok4, len4⟩ a5 n5 hx => ?_, fun σ1 G4 H4 n4 e4 ⟨LL, x6, hσ, lc4, at4, s4, ok4, len4⟩ => ?_⟩
  · subst hσ
    have at5 : At [hd] G5 H5 := at4.nv (a5.mono fun _ z => nomatch z)
    have s5 : Hd hd (1 + 100 * i) G5 H5 := by
      obtain ⟨ys, q1, q2⟩ := s4
      exact ⟨ys, a5.ex hd _ q1, q2⟩
    refine turn_line (l := l) (h := hd) (LL := LL) (n := 1 + 100 * i) (m := 3) (L := L) rfl rfl rfl hL ne (by omega) lc2.new n5 (lc4.nv a5) at5 s5 ok4 (by omega) fun LL' G6 H6 n6 e6 lc6 at6 s6 ok6 len6 => ⟨G6, n6, a5.gg.trans e6, LL', _, rfl, lc6, at6, s6.le (by omega), ok6, by omega⟩
  · subst hσ
    refine q_forP (wk_list (z_lst (Lz.dat (l_mid (a := 3) (b := 63) (z_var rfl (QN.dp_mono (((a1.gg.trans a2.gg).trans a3.gg).trans e4) _ _ hv)) (z_opI (z_var rfl rfl) (z_c rfl) rfl) (z_c rfl) stb_tr) stb_tr))) n4 (fun i σ G' H' => ∃ LL : List QB.Ln, ∃ x5 x6 x7 : Option V, σ = [some v, some (.int 2), some (.int 6), some (.str L), some (.ref l), x5, x6, x7] ∧ Lc H G' H' l (LL.map lnV) ∧ (∀ x ∈ LL, lneOk 16 x) ∧ LL.length ≤ 6 + i) (fun G5 H5 a5 n5 => ⟨LL, _, _, _, rfl, lc4.nv a5, ok4, by omega⟩) (fun i σ1 G5 H5 x G6 H6 hi n5 e5 ⟨LL, x5, x6, x7, hσ, lc5, ok5, len5⟩ a6 n6 hx => ?_) fun σ1 G5 H5 n5 e5 ⟨LL, x5, x6, x7, hσ, lc5, ok5, len5⟩ => ?_
    · subst hσ
      have hi' : i < 60 := by
        rw [List.length_take] at hi
        omega
      obtain ⟨d, hd1, hx⟩ := hx
      rw [List.getElem?_take_of_lt (by omega), List.getElem?_drop, List.getElem?_map] at hd1
      obtain ⟨z, hz1, hz2⟩ := Option.map_eq_some_iff.mp hd1
      subst hz2
      have hx := dp_int hx
      subst hx
      refine q_asgL (B := handP 0) (l_callN1 (A := is (.int z)) (z_var rfl rfl) fun x G' _ hx => ⟨z, by rw [show x = _ from hx], rfl⟩) n6 fun hd' ys G7 H7 a7 n7 hhd' lc7 b7 => ?_
      have lc6 := (lc5.nv a6).nv a7
      have ne7 : l ≠ hd' := (lc5.nv a6).ne hhd'
      refine turn_line (l := l) (h := hd') (LL := LL) (n := 0) (m := 3) (L := L) rfl rfl rfl hL ne7 (by omega) lc7.new n7 lc6 (At.one n7.gh lc7.out lc7.val) ⟨ys, lc7.val, b7⟩ ok5 (by omega) fun LL' G8 H8 n8 e8 lc8 at8 s8 ok8 len8 => ⟨G8, n8, (a6.gg.trans a7.gg).trans e8, LL', _, _, _, rfl, lc8, ok8, by omega⟩
    · subst hσ
      have len6 : LL.length ≤ 70 := by
        rw [List.length_take] at len5
        omega
      exact ⟨.ref l, rfl, k (.ref l) (upd G5 l (.lst (LL.map lnV))) H5 (lc5.close n5) ⟨LL, ⟨len6, ok5⟩, lc5.dat (da_map _ _ _ fun b _ => Dp.str _)⟩⟩
end QP

/-! The pool of short lines. -/
namespace QP
open PySem PySem.Spec PyProof.Rows L2 Evl QV QU QX QB QT QD
variable {P : Program} {w : World} {K : PySem.W.Frag} {mg : Str → Option Value} {base : Heap}
theorem inV_ln (a : QB.Ln) (l : List QB.Ln) : inV (lnV a) (l.map lnV) = decide (a ∈ l) := by
  unfold inV
  rw [List.any_map, Bool.eq_iff_iff, List.any_eq_true, decide_eq_true_iff]
  constructor
  · rintro ⟨c, hc, h⟩
    have h : (lnS c == lnS a) = true := h
    have : c = a := lnS_inj (by simpa using h)
    exact this ▸ hc
  · intro h
    exact ⟨a, h, by show (lnS a == lnS a) = true; simp⟩
def strsP (R : List Str → Prop) : Pd (List V) := some_ fun ys => both_ (R ys) (is (ys.map V.str))
section
variable {M : List Addr} {S S1 S2 S3 : Hf} {σ : L2.St} {G : Hp} {te ta tb : TE}
theorem l_sortS {R R2 : List Str → Prop} (h : Ez M S S1 (te σ) G (lstP K (strsP R))) (hl : ∀ ys, R ys → ys.length < 64) (hp : ∀ xs ys, R xs → ys.Perm xs → R2 ys) (st : Stb M S1) : Lz (M := M) S S1 (tCB (rSortedS K) (tCons te tNil) σ) G (strsP R2) := fun G1 H e0 a s Q q =>
  h G1 H e0 a s _ fun x G2 H2 n s2 c => by
    obtain ⟨p, xs, rfl, h1, ys, hr, h2⟩ := c
    have h2 : xs = ys.map V.str := h2
    subst h2
    exact ⟨p, ys, rfl, ex_l n.gh h1, hl ys hr, fun zs r hz _ hn => q r _ G2 _ (n.trans (Nv.put n.gh hn)) (n.new hn) (fresh_back n.gh hn) upd_same (st (Ex.refl _) ((a.nv n).new hn) s2) ⟨zs, hp ys zs hr hz, rfl⟩⟩
theorem z_ixSC {x : Str} {i c : Nat} (ha : Ez M S S1 (ta σ) G (is (.str x))) (hb : Ez M S1 S2 (tb σ) G (is (.int (i : Nat)))) (hz : x.length ≤ sizeLine) (h : x.cps.toList[i]? = some c) : Ez M S S2 (tOp rIxS ta tb σ) G (is (.str (chr c))) :=
  z_op ha hb fun u y G' e a b => by
    have a : u = _ := a
    have b : y = _ := b
    subst a b
    exact z_ixS hz (atI_nat h) rfl
end
theorem three_le {l : List QB.Ln} {a b c : QB.Ln} (ha : a ∈ l) (hb : b ∈ l) (hc : c ∈ l) (ab : a ≠ b) (ac : a ≠ c) (bc : b ≠ c) (n : QB.Ln) (hn : n ∈ l) (na : n ≠ a) (nb : n ≠ b) (nc : n ≠ c) : 4 ≤ l.length := by
  have h1 := List.length_erase_of_mem ha
  have b1 : b ∈ l.erase a := (List.mem_erase_of_ne (Ne.symm ab)).mpr hb
  have c1 : c ∈ l.erase a := (List.mem_erase_of_ne (Ne.symm ac)).mpr hc
  have n1 : n ∈ l.erase a := (List.mem_erase_of_ne na).mpr hn
  have h2 := List.length_erase_of_mem b1
  have c2 : c ∈ (l.erase a).erase b := (List.mem_erase_of_ne (Ne.symm bc)).mpr c1
  have n2 : n ∈ (l.erase a).erase b := (List.mem_erase_of_ne nb).mpr n1
  have h3 := List.length_erase_of_mem c2
  have n3 : n ∈ ((l.erase a).erase b).erase c := (List.mem_erase_of_ne nc).mpr n2
  have h4 := List.length_pos_of_mem n3
  have := List.length_pos_of_mem ha
  have := List.length_pos_of_mem b1
  have := List.length_pos_of_mem c2
  omega
/-- the five drawn, the first three apart -/
def fiveR (ys : List Str) : Prop := ∃ c0 c1 c2 c3, ys = [chr c0, chr c1, chr c2, chr c3, chr 32] ∧ Sgn c0 ∧ Sgn c1 ∧ Sgn c2 ∧ Sgn c3 ∧ c0 ≠ c1 ∧ c0 ≠ c2 ∧ c1 ≠ c2
def fiveP (ys : List Str) : Prop := ∃ cs : List Nat, ys = cs.map chr ∧ cs.length = 5 ∧ (∀ c ∈ cs, Sgn c) ∧ ∃ c0 c1 c2, c0 ∈ cs ∧ c1 ∈ cs ∧ c2 ∈ cs ∧ c0 ≠ c1 ∧ c0 ≠ c2 ∧ c1 ≠ c2
theorem map_of_mem : ∀ ys : List Str, (∀ y ∈ ys, ∃ c, y = chr c ∧ Sgn c) → ∃ cs : List Nat, ys = cs.map chr ∧ ∀ c ∈ cs, Sgn c
  | [], _ => ⟨[], rfl, fun _ z => nomatch z⟩
  | y :: ys, h => by
    obtain ⟨c, e, hc⟩ := h y List.mem_cons_self
    obtain ⟨cs, e2, h2⟩ := map_of_mem ys fun z hz => h z (List.mem_cons_of_mem _ hz)
    exact ⟨c :: cs, by rw [e, e2]; rfl, fun x hx => by
      rcases List.mem_cons.mp hx with rfl | hx
      · exact hc
      · exact h2 x hx⟩
theorem sgn32 : Sgn 32 := by unfold Sgn; omega
theorem five_perm {xs ys : List Str} (h : fiveR xs) (hp : ys.Perm xs) : fiveP ys := by
  obtain ⟨c0, c1, c2, c3, rfl, s0, s1, s2, s3, h1, h2, h3⟩ := h
  obtain ⟨cs, e, hs⟩ := map_of_mem ys fun y hy => by
    have := hp.mem_iff.mp hy
    simp at this
    rcases this with rfl | rfl | rfl | rfl | rfl
    · exact ⟨_, rfl, s0⟩
    · exact ⟨_, rfl, s1⟩
    · exact ⟨_, rfl, s2⟩
    · exact ⟨_, rfl, s3⟩
    · exact ⟨_, rfl, sgn32⟩
  have hm : ∀ c, chr c ∈ [chr c0, chr c1, chr c2, chr c3, chr 32] → c ∈ cs := fun c hc => by
    have := hp.mem_iff.mpr hc
    rw [e] at this
    obtain ⟨d, hd, hde⟩ := List.mem_map.mp this
    rw [← chr_inj.mp hde]
    exact hd
  refine ⟨cs, e, ?_, hs, c0, c1, c2, hm _ (by simp), hm _ (by simp), hm _ (by simp), h1, h2, h3⟩
  have := hp.length_eq
  rw [e, List.length_map] at this
  exact this
theorem sln1 {c : Nat} (h : Sgn c) : Sln [c] := fun x hx => by
  simp at hx
  exact hx ▸ h
theorem sln_app {a b : QB.Ln} (h1 : Sln a) (h2 : Sln b) : Sln (a ++ b) := fun x hx => (List.mem_append.mp hx).elim (h1 x) (h2 x)
theorem lnS_cat (a b : QB.Ln) : lnS a ++ lnS b = lnS (a ++ b) := by
  show (⟨a.toArray ++ b.toArray⟩ : Str) = ⟨(a ++ b).toArray⟩
  simp
def sp_law_pool (K : PySem.W.Frag) : Sp := spM fun vs M G S S' C => ∃ p n L, vs = [.ref p, .str L] ∧ LetOk L ∧ M = [p] ∧ n ≤ 1000000 ∧ S = Hd p n ∧ S' = Hd p (n + 2) ∧ C = some_ fun LL : List QB.Ln => both_ ((13 ≤ LL.length ∧ LL.length ≤ 15) ∧ ∀ x ∈ LL, lneOk 2 x) (dat K (linesD LL))
theorem p_law_pool (B : Bi K mg) {f : Addr} {fd : FuncData} (F : Fun K "_law_pool" "_law_pool" s_law_pool f fd) (c__law_sign : Callee P w K mg base 2 "_law_sign" P_law_sign sp_law_sign) : FnOk P w K mg base CX0 3 f fd P_law_pool (sp_law_pool K) := by
  refine F.ok sc_law_pool (fun vs H Q E ⟨M, G, S, S', C, _, _, ⟨p, n, L, e, _⟩, _⟩ => by rw [e]; rfl) fun cdv A outer s H vs Q E hr h => ?_
  have nd := sc_law_pool.nd
  have hu := hu_of hr
  have hu6 := hr.units
  refine ⟨_, (pss_cons (ps_set (i := 2) nd rfl (.inl rfl) (pe_callB (QU.srtS (K := K) rfl) (by rfl) B.sorted_ (by decide +kernel) (pa_cons (pe_op op_cat (pe_lst (pa_cons (pe_ix ix_str (pv 1) pe_int (fun _ _ => rfl)) (pa_cons (pe_ix ix_str (pv 1) pe_int (fun _ _ => rfl)) (pa_cons (pe_ix ix_str (pv 1) pe_int (fun _ _ => rfl)) pa_nil)))) (pe_lst (pa_cons (pe_call c__law_sign.ok (hr.mono (by decide)) (by rfl) c__law_sign.m c__law_sign.kp c__law_sign.b .nil pass0 (pa_cons (pv 0) (pa_cons (pv 1) pa_nil))) (pa_cons pe_str pa_nil)))) pa_nil)))
      (pss_cons (ps_set (i := 3) nd rfl (.inl rfl) (pe_lst (pa_cons pe_str pa_nil)))
      (pss_cons (ps_for PassesOwn.never rfl (QU.piL (K := K) rfl (pv 2)) (pg_name (i := 4) nd rfl (.inl rfl)) (pss_one (ps_if (pt_cmpR (QU.opNin (K := K) rfl) (pv 4) (pv 3) (by rfl)) (pss_one (ps_expr (pe_bm PySem.F.plainAttrs_list PySem.F.slot_list_append PySem.F.type_list_append mt_append (pv 3) (pa_cons (pv 4) pa_nil)))) pss_nil)))
      (pss_cons (ps_for PassesOwn.never rfl (pi_range1 (by rfl) B.range_ (pa_cons pe_int pa_nil)) (pg_name (i := 5) nd rfl (.inl rfl)) (pss_one (ps_expr (pe_bm PySem.F.plainAttrs_list PySem.F.slot_list_append PySem.F.type_list_append mt_append (pv 3) (pa_cons (pe_op op_add_str (pe_ix (QU.ixL (K := K) rfl) (pv 3) (pe_op op_add pe_int (pe_op op_fdivN (pv 5) pe_int)) (fun _ _ => rfl)) (pe_ix (QU.ixL (K := K) rfl) (pv 3) (pe_op op_add pe_int (pe_op op_modN (pe_callTy call_int1 (by rfl) B.int_ (by decide +kernel) (pa_cons (pv 5) pa_nil)) pe_int)) (fun _ _ => rfl))) pa_nil)))))
      (pss_one (ps_ret (pv 3))))))), ?_⟩
  obtain ⟨M, G, S, S', C, aM, hS, ⟨p, n, L, rfl, hL, rfl, hn, rfl, rfl, rfl⟩, k⟩ := h
  have n0 : Nv [p] G H G H := Nv.refl aM.ex
  have hsz : L.cps.toList.length = 12 := by simpa using hL.len
  have hLl : L.length ≤ sizeLine := by
    show L.cps.size ≤ sizeLine
    rw [hL.len]
    decide
  have g0 := List.getElem?_eq_getElem (l := L.cps.toList) (i := 0) (by omega)
  have g1 := List.getElem?_eq_getElem (l := L.cps.toList) (i := 1) (by omega)
  have g2 := List.getElem?_eq_getElem (l := L.cps.toList) (i := 2) (by omega)
  have m0 := hL.sgn _ (List.getElem_mem (l := L.cps.toList) (n := 0) (by omega))
  have m1 := hL.sgn _ (List.getElem_mem (l := L.cps.toList) (n := 1) (by omega))
  have m2 := hL.sgn _ (List.getElem_mem (l := L.cps.toList) (n := 2) (by omega))
  have d01 := hL.dif 0 1 (by omega) (by omega)
  have d02 := hL.dif 0 2 (by omega) (by omega)
  have d12 := hL.dif 1 2 (by omega) (by omega)
  rw [g0, g1] at d01
  rw [g0, g2] at d02
  rw [g1, g2] at d12
  generalize L.cps.toList[0] = c0 at g0 m0 d01 d02
  generalize L.cps.toList[1] = c1 at g1 m1 d01 d12
  generalize L.cps.toList[2] = c2 at g2 m2 d02 d12
  have d01 : c0 ≠ c1 := fun z => d01 (by rw [z])
  have d02 : c0 ≠ c2 := fun z => d02 (by rw [z])
  have d12 : c1 ≠ c2 := fun z => d12 (by rw [z])
  refine q_asgM (M := [p]) (S := Hd p n) (S1 := Hd p (n + 2)) (C := lstP K (strsP fiveP)) (Lz.ez (l_sortS (R := fiveR) (Lz.ez (K := K) (l_cat (B := is [.str (chr c0), .str (chr c1), .str (chr c2)]) (B2 := ⟨fun _ xs => ∃ c, Sgn c ∧ xs = [.str (chr c), .str (chr 32)], fun _ h => h⟩)
      (Lz.exact (l_lst (z_disp (z_ixSC (z_var rfl rfl) (z_c rfl) hLl g0) (z_disp (z_ixSC (z_var rfl rfl) (z_c rfl) hLl g1) (z_disp (z_ixSC (z_var rfl rfl) (z_c rfl) hLl g2) z_nil))) (hd_stb (by simp)) fun G' xs b => by rw [show xs = _ from b]; show 3 ≤ sizeLine; decide) (hd_stb (by simp)))
      (Lz.exact (l_lst (z_consG (A := sgnP) (B := is [.str (chr 32)]) (z_sign rfl (z_var rfl rfl) hL (by omega)) (z_disp (z_c rfl) z_nil) fun G' x xs _ ⟨c, hc, hx⟩ hxs => ⟨c, hc, by rw [show x = _ from hx, show xs = _ from hxs]⟩) (hd_stb (by simp)) fun G' xs ⟨c, _, b⟩ => by rw [b]; show 2 ≤ sizeLine; decide) (hd_stb (by simp)))
      (hd_stb (by simp)) fun G' xs ys hx ⟨c, hc, hy⟩ => ⟨by rw [show xs = _ from hx, hy]; show 5 ≤ sizeLine; decide, _, ⟨c0, c1, c2, c, rfl, m0, m1, m2, hc, d01, d02, d12⟩, by rw [show xs = _ from hx, hy]; rfl⟩) (hd_stb (by simp))) (fun ys ⟨_, _, _, _, e, _⟩ => by rw [e]; show 5 < 64; decide) (fun xs ys hr hp => five_perm hr hp) (hd_stb (by simp))) (hd_stb (by simp))) n0 subM aM hS fun v1 G1 H1 a1 n1 at1 s1 hv1 => ?_
  obtain ⟨p1, xs1, rfl, hv1, ys, ⟨cs, rfl, hcl, hcs, x0, x1, x2, mx0, mx1, mx2, e01, e02, e12⟩, hxs1⟩ := hv1
  have hxs1 : xs1 = (cs.map chr).map V.str := hxs1
  subst hxs1
  obtain ⟨hs, hp1, hok⟩ := s1
  refine q_asgL (B := is [lnV []]) (l_lst (z_disp (z_c rfl) z_nil) stb_tr fun G' xs b => by rw [show xs = _ from b]; show 1 ≤ sizeLine; decide) n1 fun l xs G2 H2 a2 n2 hl lc2 b2 => ?_
  have b2 : xs = [lnV []] := b2
  subst b2
  have hpl : p ≠ l := fun z => by
    rw [← z] at hl
    rw [hl] at hp1
    cases hp1
  have hsl : lstP K (allP cs.length (itP cs fun c => is (.str (chr c)))) |>.p G2 (.ref p1) := ⟨p1, _, rfl, ex_l a2.gg hv1, by rw [List.length_map, List.length_map], fun i x hx => by
    rw [List.getElem?_map, List.getElem?_map] at hx
    obtain ⟨y, hy, rfl⟩ := Option.map_eq_some_iff.mp hx
    obtain ⟨c, hc, rfl⟩ := Option.map_eq_some_iff.mp hy
    exact ⟨c, hc, rfl⟩⟩
  refine q_forP (wk_list (z_var rfl hsl)) n2 (fun i σ G' H' => ∃ PL : List QB.Ln, ∃ x4 : Option V, σ = [some (.ref p), some (.str L), some (.ref p1), some (.ref l), x4, none] ∧ Lc H G' H' l (PL.map lnV) ∧ H' p = some (.lst hs) ∧ PL.length ≤ 1 + i ∧ (∀ x ∈ PL, lneOk 1 x) ∧ ([] : QB.Ln) ∈ PL ∧ ∀ j c, j < i → cs[j]? = some c → [c] ∈ PL) (fun G3 H3 a3 n3 => ⟨[[]], _, rfl, lc2.nv a3, a3.ex _ _ (a2.ex _ _ hp1), by simp, fun x hx => ?_, by simp, fun j c hj => by omega⟩) (fun i σ1 G3 H3 x G4 H4 hi n3 e3 ⟨PL, x4, hσ, lc3, hp3, hlen, hok3, hnil, hin⟩ a4 n4 hx => ?_) fun σ1 G3 H3 n3 e3 ⟨PL, x4, hσ, lc3, hp3, hlen, hok3, hnil, hin⟩ => ?_
  · simp at hx
    subst hx
    exact ⟨(fun _ z => nomatch z), by decide⟩
  · subst hσ
    obtain ⟨c, hc, hx⟩ := hx
    have hx : x = lnV [c] := hx
    subst hx
    have lc4 := lc3.nv a4
    refine s_ifK (b := !decide ([c] ∈ PL)) (zt_test (z_inL (neg := true) (x := lnV [c]) (xs := PL.map lnV) (z_var rfl rfl) (z_var rfl ⟨l, _, rfl, lc4.sq, rfl⟩) rfl (by rw [List.all_map]; exact List.all_eq_true.mpr fun _ _ => rfl) (by rw [inV_ln]; rfl))) lc4 n4 (fun hb G5 H5 a5 n5 => ?_) fun hb G5 H5 a5 n5 => ?_
    · refine e_appK (x := lnV [c]) rfl (lc4.nv a5) (by rw [List.length_map]; exact Nat.lt_of_le_of_lt hlen (Nat.lt_of_lt_of_le (show 1 + i < 1000 by omega) (by decide))) (z_var rfl rfl) n5 fun G6 H6 a6 n6 lc6 => ⟨G6, n6, (a4.gg.trans a5.gg).trans a6.gg, PL ++ [[c]], _, rfl, by rw [List.map_append]; exact lc6, a6.hh p _ (by simp [hpl]) (a5.ex _ _ (a4.ex _ _ hp3)), by rw [List.length_append]; show PL.length + 1 ≤ _; omega, fun y hy => ?_, List.mem_append_left _ hnil, fun j d hj hd => ?_⟩
      · rcases List.mem_append.mp hy with hy | hy
        · exact hok3 y hy
        · simp at hy
          subst hy
          exact ⟨sln1 (hcs c (List.mem_of_getElem? hc)), by simp⟩
      · by_cases hji : j = i
        · subst hji
          rw [hc] at hd
          cases hd
          simp
        · exact List.mem_append_left _ (hin j d (by omega) hd)
    · refine ⟨G5, n5, a4.gg.trans a5.gg, PL, _, rfl, lc4.nv a5, a5.ex _ _ (a4.ex _ _ hp3), by omega, hok3, hnil, fun j d hj hd => ?_⟩
      by_cases hji : j = i
      · subst hji
        rw [hc] at hd
        cases hd
        simpa using hb
      · exact hin j d (by omega) hd
  · subst hσ
    rw [hcl] at hlen
    have hmem : ∀ c ∈ cs, [c] ∈ PL := fun c hc => by
      obtain ⟨j, hj⟩ := List.mem_iff_getElem?.mp hc
      have hjl : j < cs.length := (List.getElem?_eq_some_iff.mp hj).1
      exact hin j c hjl hj
    have h4 : 4 ≤ PL.length := three_le (hmem _ mx0) (hmem _ mx1) (hmem _ mx2) (by simpa using e01) (by simpa using e02) (by simpa using e12) [] hnil (by simp) (by simp) (by simp)
    refine q_forP (wk_rangeN (n := 9) (z_c rfl) (by omega)) n3 (fun i σ G' H' => ∃ LL : List QB.Ln, ∃ x5 : Option V, σ = [some (.ref p), some (.str L), some (.ref p1), some (.ref l), x4, x5] ∧ Lc H G' H' l ((PL ++ LL).map lnV) ∧ H' p = some (.lst hs) ∧ LL.length = i ∧ ∀ x ∈ LL, lneOk 2 x) (fun G4 H4 a4 n4 => ⟨[], _, rfl, by rw [List.append_nil]; exact lc3.nv a4, a4.ex _ _ hp3, rfl, (fun _ z => nomatch z)⟩) (fun i σ1 G4 H4 x G5 H5 hi n4 e4 ⟨LL, x5, hσ, lc4, hp4, hll, hok4⟩ a5 n5 hx => ?_) fun σ1 G4 H4 n4 e4 ⟨LL, x5, hσ, lc4, hp4, hll, hok4⟩ => ?_
    · subst hσ
      have hx : x = .int (i : Nat) := hx
      subst hx
      have lc5 := lc4.nv a5
      have ia : 1 + i / 3 < PL.length := by omega
      have ib : 1 + i % 3 < PL.length := by omega
      have at_ : ∀ j, (hj : j < PL.length) → atI ((PL ++ LL).map lnV) (j : Nat) = some (lnV PL[j]) := fun j hj => atI_nat (by
        rw [List.getElem?_map, List.getElem?_append_left hj, List.getElem?_eq_getElem hj]
        rfl)
      have oka := hok3 _ (List.getElem_mem ia)
      have okb := hok3 _ (List.getElem_mem ib)
      refine e_appK (x := lnV (PL[1 + i / 3] ++ PL[1 + i % 3])) rfl lc5 (by rw [List.length_map, List.length_append]; exact Nat.lt_of_lt_of_le (show PL.length + LL.length < 1000 by omega) (by decide)) (z_addS (x := lnS PL[1 + i / 3]) (y := lnS PL[1 + i % 3]) (z_ixK (l := l) (i := (1 + i / 3 : Nat)) (z_var rfl rfl) (z_opI (z_c rfl) (z_opC (i := (i : Nat)) (j := 3) (z := .int ((i / 3 : Nat) : Int)) (z_var rfl rfl) (z_c rfl) ⟨by decide, by decide⟩ ?_) ?_) lc5.sq (at_ _ ia)) (z_ixK (l := l) (i := (1 + i % 3 : Nat)) (z_var rfl rfl) (z_opI (z_c rfl) (z_opC (i := (i : Nat)) (j := 3) (z := .int ((i % 3 : Nat) : Int)) (z_int1e (z_var rfl rfl)) (z_c rfl) (by decide) ?_) ?_) lc5.sq (at_ _ ib)) ?_ (lnS_cat _ _)) n5 fun G6 H6 a6 n6 lc6 => ⟨G6, n6, a5.gg.trans a6.gg, LL ++ [PL[1 + i / 3] ++ PL[1 + i % 3]], _, rfl, by rw [← List.append_assoc, List.map_append]; exact lc6, a6.hh p _ (by simp [hpl]) (a5.ex _ _ hp4), by rw [List.length_append, hll]; rfl, fun y hy => ?_⟩
      · show V.int (Int.fdiv (i : Int) 3) = _
        rw [Int.fdiv_eq_ediv_of_nonneg _ (by decide)]
        rfl
      · simp
      · show V.int (Int.fmod (i : Int) 3) = _
        rw [Int.fmod_eq_emod_of_nonneg _ (by decide)]
        rfl
      · simp
      · rw [lnS_len, lnS_len]
        exact Nat.le_trans (Nat.add_le_add oka.2 okb.2) (by decide)
      · rcases List.mem_append.mp hy with hy | hy
        · exact hok4 y hy
        · simp at hy
          subst hy
          exact ⟨sln_app oka.1 okb.1, by rw [List.length_append]; have := oka.2; have := okb.2; omega⟩
    · subst hσ
      exact ⟨.ref l, rfl, k (.ref l) (upd G4 l (.lst ((PL ++ LL).map lnV))) H4 (lc4.close n4) ⟨hs, hp4, hok⟩ ⟨PL ++ LL, ⟨by rw [List.length_append]; omega, fun x hx => by
        rcases List.mem_append.mp hx with hx | hx
        · exact ⟨(hok3 x hx).1, Nat.le_trans (hok3 x hx).2 (by decide)⟩
        · exact hok4 x hx⟩, lc4.dat (da_map _ _ _ fun b _ => Dp.str _)⟩⟩
end QP

/-! Bounds of drawn rows, and of what is told. -/
namespace QP
open PySem PySem.Spec PyProof.Rows L2 Evl QV QU QX QB QT QD
theorem tl_stR : ∀ (r : QB.Row) (n : Nat) (t : Nat → Nat), tl (stR r n t).2.1 = rsize r
  | [], _, _ => rfl
  | .keep p :: r, n, t => by
    have := tl_stR r (n + 1) t
    show ((((p, t) :: (stR r (n + 1) t).2.1).map fun q => q.1.length).sum) = _
    rw [List.map_cons, List.sum_cons]
    show p.length + tl (stR r (n + 1) t).2.1 = p.length + rsize r
    rw [this]
  | .drop p :: r, n, t => by
    have := tl_stR r (n + 1) t
    show ((((p, t) :: (stR r (n + 1) t).2.1).map fun q => q.1.length).sum) = _
    rw [List.map_cons, List.sum_cons]
    show p.length + tl (stR r (n + 1) t).2.1 = p.length + rsize r
    rw [this]
  | .swap ps :: r, n, t => by
    have := tl_stR r n fun c => swapF ps (t c)
    show tl (stR r n fun c => swapF ps (t c)).2.1 = 0 + rsize r
    rw [this, Nat.zero_add]
  | .first k :: r, n, t => by
    have := tl_stR r n t
    show tl (stR r n t).2.1 = 0 + rsize r
    rw [this, Nat.zero_add]
theorem tl_both (one other : QB.Row) : tl (both one other).T = rsize one + rsize other := by
  show tl ((stR one 0 id).2.1 ++ (stR other (stR one 0 id).2.1.length id).2.1) = _
  unfold tl
  rw [List.map_append, List.sum_append]
  show tl (stR one 0 id).2.1 + tl (stR other (stR one 0 id).2.1.length id).2.1 = _
  rw [tl_stR, tl_stR]
theorem bl_firsts : ∀ (r : QB.Row), RowOk r → bl (firsts r) ≤ 4 ^ r.length
  | [], _ => Nat.le_refl _
  | f :: r, h => by
    have h1 := bl_firsts r fun g hg => h g (List.mem_cons_of_mem _ hg)
    have h2 := h f List.mem_cons_self
    have h3 : bl (firsts r) ≤ 4 ^ (r.length + 1) := Nat.le_trans h1 (Nat.pow_le_pow_right (by decide) (by omega))
    cases f with
    | keep p => exact h3
    | drop p => exact h3
    | swap p => exact h3
    | first n =>
      have h2 : n ≤ 3 := h2
      show (n + 1) * bl (firsts r) ≤ 4 ^ (r.length + 1)
      rw [Nat.pow_succ, Nat.mul_comm (4 ^ r.length)]
      exact Nat.mul_le_mul (by omega) h1
theorem sized_of {one other : QB.Row} (h1 : RowOk one) (h2 : RowOk other) (l1 : one.length ≤ 4) (l2 : other.length ≤ 5) (r1 : rsize one ≤ 6) (r2 : rsize other ≤ 10) : Sized one other where
  o1 := h1
  o2 := h2
  l1 := by omega
  l2 := by omega
  b1 := by
    unfold bnd1
    rw [tl_both]
    have : 2 ^ (rsize one + rsize other) ≤ 2 ^ 16 := Nat.pow_le_pow_right (by decide) (by omega)
    omega
  b2 := by
    unfold bnd2
    have a1 := Nat.le_trans (bl_firsts one h1) (Nat.pow_le_pow_right (by decide : 0 < 4) l1)
    have a2 := Nat.le_trans (bl_firsts other h2) (Nat.pow_le_pow_right (by decide : 0 < 4) l2)
    have := Nat.mul_le_mul a2 a1
    exact Nat.le_trans this (by decide)
theorem class_len {T : Tests} {m : Nat → Bool} {a : Cl} (h : a ∈ classes T m) : a.2.length < bnd1 T := by
  obtain ⟨h1, _⟩ := dedupe_mem _ _ _ h
  obtain ⟨x, hx, rfl⟩ := List.mem_map.mp h1
  exact (visits_word hx).1
/-- what is told is within bounds -/
theorem told_ok {one other : QB.Row} {t : List QB.Ln} (S : Sized one other) (h : parting one other = some t) : LOk t := by
  have hs := (parting_some one other h).2.1
  have := S.b1
  have := S.b2
  unfold parting partingOf at h
  obtain ⟨z, hz, rfl⟩ := Option.map_eq_some_iff.mp h
  have hzm := List.mem_of_find?_eq_some hz
  obtain ⟨x, hx, hzx⟩ := List.mem_flatMap.mp hzm
  obtain ⟨a, ha, rfl⟩ := List.mem_map.mp hzx
  obtain ⟨w1, _, w2⟩ := visits_word hx
  refine ⟨?_, fun y hy => ⟨?_, hs y hy⟩⟩
  · rw [List.length_append, List.length_map]
    show x.2.length + 1 ≤ _
    omega
  · rcases List.mem_append.mp hy with hy | hy
    · obtain ⟨b, hb, rfl⟩ := List.mem_map.mp hy
      have := class_len (w2 b hb)
      omega
    · have hya : y = a.2 := by simpa using hy
      have := class_len ha
      rw [hya]
      omega
end QP

/-! Ranks: Python's order of ranks is the plain one. -/
namespace QP
open PySem PySem.Spec PyProof.Rows L2 Evl QV QU QX QB QT QD
def lnD (x : QB.Ln) : PyData := .tuple [natD x.length, lineD x]
theorem nat_eqv (a b : Nat) : PyData.eqv (natD a) (natD b) = decide (a = b) := by
  show PyData.eqv (.int (a : Nat)) (.int (b : Nat)) = _
  rw [PyData.eqv]
  by_cases h : a = b
  · subst h
    simp
  · rw [decide_eq_false h]
    exact beq_eq_false_iff_ne.mpr fun z => h (by omega)
theorem line_eqv (a b : QB.Ln) : PyData.eqv (lineD a) (lineD b) = decide (a = b) := by
  show PyData.eqv (.str (lnS a)) (.str (lnS b)) = _
  rw [PyData.eqv]
  by_cases h : a = b
  · rw [h, decide_eq_true rfl]
    simp
  · rw [decide_eq_false h]
    exact beq_eq_false_iff_ne.mpr fun z => h (lnS_inj z)
theorem lnD_eqv (a b : QB.Ln) : PyData.eqv (lnD a) (lnD b) = decide (a = b) := by
  show PyData.eqv (.tuple _) (.tuple _) = _
  rw [PyData.eqv, PyData.eqvAll, PyData.eqvAll, PyData.eqvAll, nat_eqv, line_eqv]
  by_cases h : a = b
  · subst h
    simp
  · simp [h]
theorem nat_alike (a b : Nat) : PySem.W.alike (natD a) (natD b) = true := by
  show PySem.W.alike (.int _) (.int _) = true
  rw [PySem.W.alike]
theorem line_alike (a b : QB.Ln) : PySem.W.alike (lineD a) (lineD b) = true := by
  show PySem.W.alike (.str _) (.str _) = true
  rw [PySem.W.alike]
theorem lnD_alike (a b : QB.Ln) : PySem.W.alike (lnD a) (lnD b) = true := by
  show PySem.W.alike (.tuple _) (.tuple _) = true
  rw [PySem.W.alike, PySem.W.alikeAll, PySem.W.alikeAll, PySem.W.alikeAll, nat_alike, line_alike]
  rfl
theorem lns_alike : ∀ A B : List QB.Ln, PySem.W.alikeAll (A.map lnD) (B.map lnD) = true
  | [], _ => by rw [List.map_nil, PySem.W.alikeAll]
  | _ :: _, [] => by rw [List.map_cons, List.map_nil, PySem.W.alikeAll]
  | a :: A, b :: B => by
    rw [List.map_cons, List.map_cons, PySem.W.alikeAll, lnD_alike, lns_alike A B]
    rfl
theorem lex_of_lt : ∀ a b : List Nat, a < b → a.length = b.length → lexlt (· < ·) a b
  | [], [], h, _ => by simp at h
  | [], _ :: _, _, h => by cases h
  | _ :: _, [], _, h => by cases h
  | x :: a, y :: b, h, e => by
    rcases List.cons_lt_cons_iff.mp h with h | ⟨h1, h2⟩
    · exact .inl h
    · exact .inr ⟨h1, lex_of_lt a b h2 (by simpa using e)⟩
theorem ln_lt {a b : QB.Ln} (h : PySem.W.dataLt (lnD a) (lnD b) = true) : slt (· < ·) a b := by
  have h : PySem.W.dataLt (.tuple [natD a.length, lineD a]) (.tuple [natD b.length, lineD b]) = true := h
  rw [PySem.W.dataLt_pair (nat_alike _ _) (line_alike _ _), nat_eqv, line_eqv] at h
  by_cases hl : a.length = b.length
  · rw [decide_eq_true hl, if_pos rfl] at h
    by_cases hab : a = b
    · rw [decide_eq_true hab, if_pos rfl] at h
      cases h
    · rw [decide_eq_false hab, if_neg Bool.false_ne_true] at h
      have h : PySem.W.dataLt (.str (lnS a)) (.str (lnS b)) = true := h
      rw [PySem.W.dataLt_str] at h
      have h := of_decide_eq_true h
      exact .inr ⟨hl, lex_of_lt a b (by simpa [lnS] using h) hl⟩
  · rw [decide_eq_false hl, if_neg Bool.false_ne_true] at h
    have h : PySem.W.dataLt (.int (a.length : Nat)) (.int (b.length : Nat)) = true := h
    rw [PySem.W.dataLt_int] at h
    have h := of_decide_eq_true h
    exact .inl (by omega)
theorem lns_lt : ∀ A B : List QB.Ln, A.length = B.length → PyProof.Rows.lexLt itemOrd (PySem.W.keyToksAll (A.map lnD)) (PySem.W.keyToksAll (B.map lnD)) = true → lexlt (slt (· < ·)) A B
  | [], [], _, h => by
    have e : PyProof.Rows.lexLt itemOrd (PySem.W.keyToksAll []) (PySem.W.keyToksAll []) = false := lex_irrefl _
    rw [List.map_nil, e] at h
    cases h
  | [], _ :: _, e, _ => by cases e
  | _ :: _, [], e, _ => by cases e
  | a :: A, b :: B, e, h => by
    rw [List.map_cons, List.map_cons, PySem.W.dataLt_cons (lnD_alike a b), lnD_eqv] at h
    by_cases hab : a = b
    · rw [decide_eq_true hab, if_pos rfl] at h
      exact .inr ⟨hab, lns_lt A B (by simpa using e) h⟩
    · rw [decide_eq_false hab, if_neg Bool.false_ne_true] at h
      exact .inl (ln_lt h)
theorem rank_alike (L t : List QB.Ln) : PySem.W.alike (rankD L) (rankD t) = true := by
  show PySem.W.alike (.tuple [natD L.length, .list (L.map lnD)]) (.tuple [natD t.length, .list (t.map lnD)]) = true
  rw [PySem.W.alike, PySem.W.alikeAll, PySem.W.alikeAll, PySem.W.alikeAll, nat_alike, PySem.W.alike, lns_alike]
  rfl
theorem rank_lt {L t : List QB.Ln} (h : PySem.W.dataLt (rankD L) (rankD t) = true) : rlt L t := by
  have h : PySem.W.dataLt (.tuple [natD L.length, .list (L.map lnD)]) (.tuple [natD t.length, .list (t.map lnD)]) = true := h
  rw [PySem.W.dataLt_pair (nat_alike _ _) (by rw [PySem.W.alike]; exact lns_alike L t), nat_eqv] at h
  by_cases hl : L.length = t.length
  · rw [decide_eq_true hl, if_pos rfl] at h
    by_cases hab : PyData.eqv (.list (L.map lnD)) (.list (t.map lnD)) = true
    · rw [if_pos hab] at h
      cases h
    · rw [if_neg hab, PySem.W.dataLt_list] at h
      exact .inr ⟨hl, lns_lt L t hl h⟩
  · rw [decide_eq_false hl, if_neg Bool.false_ne_true] at h
    have h : PySem.W.dataLt (.int (L.length : Nat)) (.int (t.length : Nat)) = true := h
    rw [PySem.W.dataLt_int] at h
    have h := of_decide_eq_true h
    exact .inl (by omega)
theorem shp_line {n : Nat} {x : QB.Ln} (h : Sln x) : Shp n (lineD x) := shp_str fun c hc => by
  have hc : c ∈ x := by simpa [lnS] using hc
  have := (h c hc).2.1
  omega
theorem rank_shp {L : List QB.Ln} (hL : Slst L) : Shp 3 (rankD L) := by
  refine shp_tup fun d hd => ?_
  simp at hd
  rcases hd with rfl | rfl
  · exact shp_int
  · refine shp_list fun d hd => ?_
    obtain ⟨x, hx, rfl⟩ := List.mem_map.mp hd
    refine shp_tup fun d hd => ?_
    simp at hd
    rcases hd with rfl | rfl
    · exact shp_int
    · exact shp_line (hL x hx)
theorem rank_dep {L : List QB.Ln} (hL : Slst L) : (rankD L).depth ≤ 8 := Nat.le_trans (rank_shp hL).2 (by decide)
/-- rank(a) < rank(b) -/
theorem z_ltD {K : PySem.W.Frag} {M : List Addr} {S S1 S2 : Hf} {σ : L2.St} {G : Hp} {ta tb : TE} {L t : List QB.Ln} (ha : Ez M S S1 (ta σ) G (dat K (rankD L))) (hb : Ez M S1 S2 (tb σ) G (dat K (rankD t))) (hL : Slst L) : Ez M S S2 (tOp (QW.rLtD K) ta tb σ) G (is (.bl (PySem.W.dataLt (rankD L) (rankD t)))) :=
  z_op ha hb fun x y G' e a b => fun G1 H e0 at' s Q q => ⟨_, _, QN.dp_mono (e0.trans at'.ex) _ _ a, QN.dp_mono (e0.trans at'.ex) _ _ b, rank_alike L t, (by intro z; cases z), rank_dep hL, q _ G1 H (Nv.refl at'.ex) s rfl⟩
end QP

/-! How long a drawn row reads. -/
namespace QP
open PySem PySem.Spec PyProof.Rows L2 Evl QV QU QX QB QT QD
/-- data of depth n and weight m at most -/
structure Wt (n m : Nat) (d : PyData) : Prop where
  shp : Shp n d
  wt : PyData.weight d ≤ m
  sh : PyData.intsShort 13 d = true
  ok : PyData.showable d = true
theorem Wt.mono {n m n' m' : Nat} {d : PyData} (h : Wt n m d) (h1 : n ≤ n') (h2 : m ≤ m') : Wt n' m' d := ⟨⟨h.shp.1, Nat.le_trans h.shp.2 h1⟩, Nat.le_trans h.wt h2, h.sh, h.ok⟩
theorem wt_all {n m : Nat} : ∀ {ds : List PyData}, (∀ d ∈ ds, Wt n m d) → PyData.weightAll ds ≤ ds.length * (m + 1) ∧ PyData.showableAll ds = true
  | [], _ => ⟨by simp [PyData.weightAll], by simp [PyData.showableAll]⟩
  | d :: ds, h => by
    obtain ⟨h1, h2⟩ := wt_all fun e he => h e (List.mem_cons_of_mem _ he)
    have h3 := h d List.mem_cons_self
    refine ⟨?_, by simp only [PyData.showableAll, h3.ok, h2, Bool.and_self]⟩
    simp only [PyData.weightAll, List.length_cons]
    have := h3.wt
    rw [Nat.succ_mul]
    omega
theorem wt_list {n m k : Nat} {ds : List PyData} (h : ∀ d ∈ ds, Wt n m d) (hl : ds.length ≤ k) : Wt (n + 1) (k * (m + 1)) (.list ds) := by
  obtain ⟨h1, h2⟩ := wt_all h
  refine ⟨shp_list fun d hd => (h d hd).shp, ?_, ?_, by simp only [PyData.showable, h2]⟩
  · simp only [PyData.weight]
    exact Nat.le_trans h1 (Nat.mul_le_mul_right _ hl)
  · simp only [PyData.intsShort]
    exact intsShortAll_of fun d hd => (h d hd).sh
theorem wt_tup {n m k : Nat} {ds : List PyData} (h : ∀ d ∈ ds, Wt n m d) (hl : ds.length ≤ k) : Wt (n + 1) (k * (m + 1)) (.tuple ds) := by
  obtain ⟨h1, h2⟩ := wt_all h
  refine ⟨shp_tup fun d hd => (h d hd).shp, ?_, ?_, by simp only [PyData.showable, h2]⟩
  · simp only [PyData.weight]
    exact Nat.le_trans h1 (Nat.mul_le_mul_right _ hl)
  · simp only [PyData.intsShort]
    exact intsShortAll_of fun d hd => (h d hd).sh
theorem wt_str {n m : Nat} {x : Str} (h : Shp n (.str x)) (hl : x.cps.size ≤ m) : Wt n m (.str x) := ⟨h, by simp only [PyData.weight]; exact hl, by simp only [PyData.intsShort], by simp only [PyData.showable]⟩
theorem wt_chr {n m c : Nat} (h : c ≤ 126) (hm : 1 ≤ m) : Wt n m (.str (chr c)) := wt_str (shp_chr h) hm
theorem wt_lit {n m : Nat} (x : Str) (h : ((x.cps.toList.all fun c => decide (c ≤ 1000)) && decide (x.cps.size ≤ m)) = true) : Wt n m (.str x) := by
  rw [Bool.and_eq_true, decide_eq_true_iff] at h
  exact wt_str (shp_lit x h.1) h.2
theorem wt_bool {n m : Nat} {b : Bool} : Wt n m (.bool b) := ⟨shp_bool, by simp [PyData.weight], by simp [PyData.intsShort], by simp [PyData.showable]⟩
theorem wt_nat {n m : Nat} {i : Nat} (h : i ≤ 3) (hm : 2 ≤ m) : Wt n m (.int (i : Nat)) := by
  have : i = 0 ∨ i = 1 ∨ i = 2 ∨ i = 3 := by omega
  refine ⟨shp_int, ?_, ?_, ?_⟩
  · refine Nat.le_trans ?_ hm
    rcases this with rfl | rfl | rfl | rfl <;> decide +kernel
  · rcases this with rfl | rfl | rfl | rfl <;> decide +kernel
  · rcases this with rfl | rfl | rfl | rfl <;> decide +kernel
theorem wt_rng {r : Nat × Nat} (h1 : r.1 ≤ 126) (h2 : r.2 ≤ 126) : Wt 1 4 (rngD r) := wt_tup (m := 1) (k := 2) (fun d hd => by
  simp at hd
  rcases hd with rfl | rfl
  · exact wt_chr h1 (Nat.le_refl _)
  · exact wt_chr h2 (Nat.le_refl _)) (Nat.le_refl _)
theorem wt_rngs {rs : List (Nat × Nat)} (h : ∀ r ∈ rs, r.1 ≤ 126 ∧ r.2 ≤ 126) (hl : rs.length ≤ 26) : Wt 2 130 (.list (rs.map rngD)) := wt_list (m := 4) (k := 26) (fun d hd => by
  obtain ⟨r, hr, rfl⟩ := List.mem_map.mp hd
  exact wt_rng (h r hr).1 (h r hr).2) (by rw [List.length_map]; exact hl)
theorem wt_ent {e : Ent} (h : EntOk e) : Wt 3 393 (entD e) := wt_tup (m := 130) (k := 3) (fun d hd => by
  cases e with
  | one c =>
    simp [entF] at hd
    rcases hd with rfl | rfl
    · exact wt_lit _ (by decide +kernel)
    · exact wt_chr h.2.1 (by decide)
  | any =>
    simp [entF] at hd
    subst hd
    exact wt_lit _ (by decide +kernel)
  | lot =>
    simp [entF] at hd
    subst hd
    exact wt_lit _ (by decide +kernel)
  | of neg rs =>
    simp [entF] at hd
    rcases hd with rfl | rfl | rfl
    · exact wt_lit _ (by decide +kernel)
    · exact wt_bool
    · exact wt_rngs (fun r hr => ⟨mk_le (h.2.2 r hr).1, mk_le (h.2.2 r hr).2.1⟩) (by have := h.2.1; omega)) (by cases e <;> simp [entF])
theorem wt_pat {p : Pat} (h : PatOk p) (hl : p.length ≤ 3) : Wt 4 1182 (patD p) := wt_list (m := 393) (k := 3) (fun d hd => by
  obtain ⟨e, he, rfl⟩ := List.mem_map.mp hd
  exact wt_ent (h e he)) (by rw [List.length_map]; exact hl)
theorem wt_fil {f : Fil} (h : FilOk f) : Wt 5 2366 (filD f) := wt_tup (m := 1182) (k := 2) (fun d hd => by
  cases f with
  | keep p =>
    simp [filF] at hd
    rcases hd with rfl | rfl
    · exact wt_lit _ (by decide +kernel)
    · exact wt_pat h.1 h.2
  | drop p =>
    simp [filF] at hd
    rcases hd with rfl | rfl
    · exact wt_lit _ (by decide +kernel)
    · exact wt_pat h.1 h.2
  | swap ps =>
    simp [filF] at hd
    rcases hd with rfl | rfl
    · exact wt_lit _ (by decide +kernel)
    · exact (wt_rngs (fun r hr => ⟨(h.2.2.2 r hr).1.2.1, (h.2.2.2 r hr).2.2.1⟩) h.2.1).mono (by decide) (by decide)
  | first n =>
    simp [filF] at hd
    rcases hd with rfl | rfl
    · exact wt_lit _ (by decide +kernel)
    · exact wt_nat h (by decide)) (by cases f <;> simp [filF])
theorem wt_row {r : QB.Row} (h : RowOk r) (hl : r.length ≤ 5) : Wt 6 11835 (rowD r) := wt_list (m := 2366) (k := 5) (fun d hd => by
  obtain ⟨f, hf, rfl⟩ := List.mem_map.mp hd
  exact wt_fil (h f hf)) (by rw [List.length_map]; exact hl)
theorem wt_two {r u : QB.Row} (h : RowOk r) (hl : r.length ≤ 5) (h2 : RowOk u) (hl2 : u.length ≤ 5) : Wt 7 23672 (.list [rowD r, rowD u]) := wt_list (m := 11835) (k := 2) (fun d hd => by
  simp at hd
  rcases hd with rfl | rfl
  · exact wt_row h hl
  · exact wt_row h2 hl2) (Nat.le_refl _)
theorem Wt.shown {n m : Nat} {d : PyData} (h : Wt n m d) (hn : n ≤ 16) (hm : m ≤ 2 ^ 20) : d.showable = true ∧ d.hasDict = false ∧ d.depth ≤ 16 ∧ d.shown.length ≤ sizeLine := by
  refine ⟨h.ok, PyData.hasDict_of_canLay d h.shp.1, Nat.le_trans h.shp.2 hn, Nat.le_trans (shown_le13 ?_ h.sh) (by decide)⟩
  unfold PyData.layable0
  rw [h.shp.1, decide_eq_true (Nat.le_trans h.shp.2 (Nat.le_trans hn (by decide))), decide_eq_true (Nat.le_trans h.wt hm)]
  rfl
end QP

/-! A def run where no repr is under way: the law's own def, at the caller of the claim. -/
namespace QR
open PySem PySem.Spec PyProof.Rows L2
/-- what a def promises where it is called at A -/
def RunAt (A : Around) (P : Program) (w : World) (K : PySem.W.Frag) (mg : Str → Option Value) (base : Heap) (CX : CXT) (k : Nat) (f : Addr) (fd : FuncData) (ps : List Str) (sp : Sp) : Prop :=
  ∀ (outer : List Env) (s : Shared) (H : Hp) (args : Args) (us : List Value) (vs : List V) (Q : VK) (E : XK), Room k A → Env0 P w K mg base A outer s H → BindsTo s fd args (ps.zip us) → Vals vs us → sp vs H Q E →
    codeAny (model P w) A (.call (.ref f) args) (CR CX outer P w H s Q E) s
theorem run_at {CX : CXT} {P : Program} {w : World} {K : PySem.W.Frag} {mg : Str → Option Value} {base : Heap} {k : Nat} {f : Addr} {name qual : Str} {params : Arguments} {body : List Stmt} {scope : Scope} {dV kV doc pm cdv ct oc : Value} {an od : Option Addr}
    {osl : Array (Option Value)} {N ps : List Str} {sp : Sp} {A : Around} (lk : K.lookup f = some ⟨oc, od, .func (PySem.W.fnOf name qual params body scope dV kV doc pm an cdv ct), osl⟩) (hcd : PySem.W.codeIn K cdv qual = true) (S : FnScope N ps scope)
    (len : ∀ vs H Q E, sp vs H Q E → vs.length = ps.length)
    (hbody : ∀ (outer : List Env) (s : Shared) (H : Hp) (vs : List V) (Q : VK) (E : XK), Room k (A.deeper (envOfC qual scope s.heap.objs.size f cdv)) → sp vs H Q E →
      ∃ t, PSs (cxOf CX P w K mg base N qual scope f cdv A outer s H E) body t ∧ t { nx := fun _ H' => Q .non H', rt := Q } (start N vs) H) :
    RunAt A P w K mg base CX (k + 1) f (PySem.W.fnOf name qual params body scope dV kV doc pm an cdv ct) ps sp := by
  intro outer s H args us vs Q E hr e0 hb r hsp
  have hl := len _ _ _ _ hsp
  have KX : K.In s.heap := e0.mod.kin.keeps fun b o e => (e0.bs b o e).1
  have lim : s.heap.NoLimit := e0.mod.nolimit.keeps fun b o e => (e0.bs b o e).1
  have hkind : ∀ y ∈ ps.zip us, scope.names.lookup y.1 = some .local ∨ (scope.names.lookup y.1 = some .cell ∧ ((cellsFrom (s.heap.objs.size + 1) scope.names []).lookup y.1).isSome = true) := fun y hy => by
    rcases S.par y.1 (List.of_mem_zip (a := y.1) (b := y.2) hy).1 with q | q
    · exact .inl q
    · exact .inr ⟨q, PySem.W.cellsFrom_some _ _ _ (.inl q)⟩
  refine codeAny_call_function hr.depth (KX _ _ lk) rfl S.co S.gen rfl (PySem.W.codeRec_of KX hcd) (hb _ _ _ _ (wpAny_newFunctionEnv_cells S.kind hkind fun env he s1 x => ?_))
  subst he
  refine ⟨lim.keeps x.toInCall.keep, codeAny_func ?_⟩
  obtain ⟨t, ht, hq⟩ := hbody outer s H vs Q E (hr.deeper _) hsp
  refine wpAny_mono (ht.run [] s1 (start N vs) H _ (inv_start S hr.hd e0 hl r x) hq) (fun fl s' hs => ?_) fun e s' hs => hs
  cases fl with
  | ret u =>
    obtain ⟨v, σ', H', J, rv, q⟩ := hs
    exact ⟨v, H', J.os, J.bare, J.base, J.hok, rv, q⟩
  | next =>
    obtain ⟨σ', H', J, q⟩ := hs
    exact ⟨.non, H', J.os, J.bare, J.base, J.hok, rfl, q⟩
  | brk => exact hs.elim fun _ h => h.elim fun _ h => h.2.elim
  | cont => exact hs.elim fun _ h => h.elim fun _ h => h.2.elim
/-- what may be tracked of the script at first: nothing, or it alone, as it stands -/
theorem head_at {P : Program} {w : World} {K : PySem.W.Frag} {mg mb : Str → Option Value} {k : Nat} {fa a : Addr} {fd : FuncData} {x : Str} {sp : Sp} {s₁ : Shared} {vs : List Value} {ns : List Int}
    (KX : K.In s₁.heap) (hns : s₁.heap.Ns mainGlobals mg) (hb : s₁.heap.Ns builtinsNs mb) (hbb : ∀ x : Str, x ≠ "__name__" → mb x = bootBuiltins x) (hlim : s₁.heap.NoLimit) (hg : s₁.gens = #[])
    (ha : s₁.heap.get? a = some { cls := .type "list", data := .seq vs.toArray }) (hi : IntsAre vs ns) (hl : ns.length ≤ sizeLine) (hr : Room k callerA)
    (F : ∀ base : Heap, K.In base → base.Ns mainGlobals mg → RunAt callerA P w K mg base CX0 k fa fd [x] sp) (hbind : ∀ (s : Shared) (u : Value), BindsTo s fd ⟨[u], []⟩ [(x, u)])
    (hsp : ∀ H : Hp, Only H → SqL K H a (ns.map V.int) → sp [.ref a] H (fun v _ => v = .bl true) fun _ _ _ => False) :
    codeAny (model P w) callerA (.call (.ref fa) ⟨[.ref a], []⟩) (fun r s' => r = .ok (.ret (.bool true)) ∧ OldK s₁.heap s'.heap ∧ s'.os = s₁.os ∧ AllBare s'.gens) s₁ := by
  have one : ∀ H : Hp, Only H → SqL K H a (ns.map V.int) → HOk P w H s₁.heap → (∀ b, H b ≠ none → b = a ∧ K.lookup a = none) →
      codeAny (model P w) callerA (.call (.ref fa) ⟨[.ref a], []⟩) (fun r s' => r = .ok (.ret (.bool true)) ∧ OldK s₁.heap s'.heap ∧ s'.os = s₁.os ∧ AllBare s'.gens) s₁ := by
    intro H hO hS hok hA
    have cut : ∀ {b : Addr} {o : Obj}, s₁.heap.get? b = some o → (b = a → H b = none) → (hidT s₁.heap H).get? b = some o := fun {b o} e n => hidT_get e (Classical.byContradiction fun z => z (n (hA b z).1))
    have nsK : ∀ {b : Addr} {m : Str → Option Value}, s₁.heap.Ns b m → (hidT s₁.heap H).Ns b m := fun {b m} ⟨o, es, ep, e, d, r⟩ => ⟨o, es, ep, cut e (fun z => by
      subst z
      rw [ha] at e
      cases e
      have d' : Data.seq vs.toArray _ = Data.dict es ep := d
      cases d'), d, r⟩
    have hKb : K.In (hidT s₁.heap H) := fun b o e => cut (KX b o e) fun z => Classical.byContradiction fun y => by
      subst z
      rw [(hA b y).2] at e
      cases e
    have hM : Mod K mg (hidT s₁.heap H) := ⟨hKb, nsK hns, ⟨mb, nsK hb, hbb⟩, let ⟨mc, h1, h2⟩ := hlim; ⟨mc, nsK h1, h2⟩⟩
    have e0 : Env0 P w K mg (hidT s₁.heap H) callerA [] s₁ H := ⟨rfl, hM, fun b o e => of_hidT e, Nat.le_of_eq (hidT_size _ _), trivial, fun b hb => absurd (show b ∈ ([] : List Addr) from hb) (by simp), hok, .of_eq hg⟩
    refine codeAny_mono (F _ hKb (nsK hns) [] s₁ H ⟨[.ref a], []⟩ [.ref a] [.ref a] _ _ hr e0 (hbind s₁ (.ref a)) (.cons rfl .nil) (hsp H hO hS)) fun r s' h => ?_
    match r, h with
    | .error e, h => exact False.elim h
    | .ok .next, h => exact False.elim h
    | .ok .brk, h => exact False.elim h
    | .ok .cont, h => exact False.elim h
    | .ok (.ret u), ⟨v, H', os, bare, un, hok', r', q⟩ =>
      have q' : v = .bl true := q
      subst q'
      obtain rfl : u = Value.bool true := r'
      refine ⟨rfl, OldK.of_keep fun b o e => ?_, os, bare⟩
      rcases hO b with z | ⟨ob, xs, z⟩
      · exact un.keep b o e z (fun y => absurd (show b ∈ ([] : List Addr) from y) (by simp)) (by simp)
      · have t1 := (hok b _ z).1
        have t2 := (hok' b _ (un.frzs b ob _ z)).1
        rw [e] at t1
        cases t1
        exact t2
  cases hk : K.lookup a with
  | some o =>
    have e := KX a o hk
    rw [ha] at e
    cases e
    exact one (fun _ => none) (fun _ => .inl rfl) (.inr ⟨_, vs.toArray, _, hk, rfl, rfl, rfl, by rw [List.size_toArray, hi.length]; exact hl, by simpa using vals_ints hi⟩) (fun b u z => nomatch (show (none : Option HO) = some u from z)) fun b z => absurd rfl z
  | none =>
    refine one (upd (fun _ => none) a (.frz { cls := .type "list", data := .seq vs.toArray } (.lst (ns.map V.int)))) (fun b => ?_) (.inl (.inr ⟨{ cls := .type "list", data := .seq vs.toArray }, upd_same⟩)) (fun b u z => ?_) fun b z => ⟨Classical.byContradiction fun y => z (upd_ne y), hk⟩
    · by_cases y : b = a
      · exact .inr ⟨{ cls := .type "list", data := .seq vs.toArray }, ns.map V.int, by rw [y]; exact upd_same⟩
      · exact .inl (upd_ne y)
    · by_cases y : b = a
      · subst y
        rw [upd_same] at z
        cases z
        exact ⟨ha, by rw [List.length_map]; exact hl, vs, _, vals_ints hi, ha⟩
      · rw [upd_ne y] at z
        cases z
theorem walk_at {l : PySem.W.OpenLaw} {n k : Nat} {q : Program} {loose : List Str} {XP : (Str → Option Value) → Heap → Prop} {YP : World → Heap → Prop} {d : DefRec} {K : Params → PySem.W.Frag} {sp : World → Sp} {x : Str}
    (hn : l.most = some n) (hn2 : n ≤ sizeLine) (hdf : d.params.defaults = []) (hr : Room k callerA)
    (hY : ∀ (w : World) (h : Heap), YP w h → (K w.params).In h)
    (F : ∀ (w : World) (mg : Str → Option Value) (fa : Addr) (h : Heap), (K w.params).In h → h.Ns mainGlobals mg → mg d.name = some (.ref fa) →
      ∃ fd : FuncData, (∀ (s : Shared) (u : Value), BindsTo s fd ⟨[u], []⟩ [(x, u)]) ∧
        ∀ base : Heap, (K w.params).In base → base.Ns mainGlobals mg → RunAt callerA l.prog w (K w.params) mg base CX0 k fa fd [x] (sp w))
    (hsp : ∀ (w : World) (H : Hp) (a : Addr) (ns : List Int), ns.length ≤ n → Only H → SqL (K w.params) H a (ns.map V.int) → sp w [.ref a] H (fun v _ => v = .bl true) fun _ _ _ => False) :
    PySem.W.WalkO q loose XP YP l.row.toRowW d [] (fun f vs => PySem.call f vs) :=
  Att.attach_call hn hdf fun w s₀ s₁ mg mb fa o pm cd doc a vs ns G Y ho hd hcd hmg hobj hints hlen hg => by
    obtain ⟨fd, hb, hF⟩ := F w mg fa _ (hY w _ Y) G.T.g hmg
    exact head_at (hY w _ Y) G.T.g G.T.b G.T.builtins G.T.nolimit hg hobj hints (Nat.le_trans hlen hn2) hr hF hb fun H hO hS => hsp w H a ns hlen hO hS
/-- a def of the text, at A -/
theorem fun_at {P : Program} {w : World} {K : PySem.W.Frag} {mg : Str → Option Value} {base : Heap} {x qual : Str} {st : Stmt} {f : Addr} {fd : FuncData} {N ps : List Str} {k : Nat} {sp : Sp} {A : Around} (F : Fun K x qual st f fd) (S : FnScope N ps (defScope st)) (len : ∀ vs H Q E, sp vs H Q E → vs.length = ps.length)
    (hbody : ∀ (cdv : Value) (outer : List Env) (s : Shared) (H : Hp) (vs : List V) (Q : VK) (E : XK), Room k (A.deeper (envOfC qual (defScope st) s.heap.objs.size f cdv)) → sp vs H Q E →
      ∃ t, PSs (cxOf CX0 P w K mg base N qual (defScope st) f cdv A outer s H E).nox (defBody st) t ∧ t { nx := fun _ H' => Q .non H', rt := Q } (start N vs) H) : RunAt A P w K mg base CX0 (k + 1) f fd ps sp := by
  obtain ⟨oc, od, kV, doc, pm, an, cdv, ct, osl, rfl, lk, hcd⟩ := F.ex
  refine run_at lk hcd S len fun outer s H vs Q E hr hsp => ?_
  obtain ⟨t, h, q⟩ := hbody cdv outer s H vs Q E hr hsp
  exact ⟨t, h.nox, q⟩
theorem guards_caller (env : Env) : (callerA.deeper env).guards = some [] := rfl
end QR

/-! The law. -/
namespace QP
open PySem PySem.Spec PyProof.Rows L2 Evl QV QU QX QB QT QD
variable {P : Program} {w : World} {K : PySem.W.Frag} {mg : Str → Option Value} {base : Heap}
def sp_law (K : PySem.W.Frag) : Sp := fun vs H Q _ => ∃ (a : Addr) (ns : List Int), vs = [.ref a] ∧ Dp K H (.ref a) (.list (ns.map .int)) ∧ ∀ H', Q (.bl true) H'
theorem z_callP4 {M : List Addr} {S S1 : Hf} {σ : L2.St} {G : Hp} {te te2 te3 : TE} {C : Pd V} {pre : List V → List Addr → Hp → Hf → Hf → Pd V → Prop} {E : XK} {p : Addr} {i : Nat} {A B A3 : Pd V} (hi : σ[i]? = some (some (.ref p))) (hp : p ∈ M) (ht : Pz (te σ) G A) (ht2 : Pz (te2 σ) G B) (ht3 : Pz (te3 σ) G A3) (st : Stb M S)
    (h : ∀ x y z G', Ex G G' → A.p G' x → B.p G' y → A3.p G' z → ∃ T T', (∀ G H, S G H → T G H) ∧ pre [.ref p, x, y, z] [p] G' T T' C ∧ ∀ G1 H1 G2 H2, S G1 H1 → Nv [p] G1 H1 G2 H2 → T' G2 H2 → S1 G2 H2) : Ez M S S1 (tCall (spM pre) [] E (tCons (tVar i) (tCons te (tCons te2 (tCons te3 tNil)))) σ) G C := fun G1 H e a s Q q =>
  ⟨.ref p, hi, Ez.lift (M := M) ht st G1 H e a s _ fun x G2 H2 n s2 hx => Ez.lift (M := M) ht2 st G2 H2 (e.trans n.gg) (a.nv n) s2 _ fun y G3 H3 n3 s3 hy => Ez.lift (M := M) ht3 st G3 H3 ((e.trans n.gg).trans n3.gg) ((a.nv n).nv n3) s3 _ fun z G4 H4 n4 s4 hz => by
    obtain ⟨T, T', h1, h2, h3⟩ := h x y z G4 (((e.trans n.gg).trans n3.gg).trans n4.gg) (A.mono (n3.gg.trans n4.gg) hx) (B.mono n4.gg hy) hz
    exact ⟨[p], G4, T, T', C, ⟨n4.gh, fun y hy => (((a.nv n).nv n3).nv n4).mm y ((by simpa using hy : y = p) ▸ hp)⟩, h1 _ _ s4, h2, fun v G5 H5 n5 t c => q v G5 H5 (((n.trans n3).trans n4).trans (n5.mono fun y hy => (by simpa using hy : y = p) ▸ hp)) (h3 _ _ _ _ s4 n5 t) c⟩⟩
theorem e_ext {D : Ends} {M0 : List Addr} {G0 H0 G H : Hp} {σ : L2.St} {te : TE} {i : Nat} {l : Addr} {xs : List V} {B : Pd (List V)} (hi : σ[i]? = some (some (.ref l))) (lc : Lc H0 G H l xs) (h : Pz (te σ) G (exP B)) (n : Nv M0 G0 H0 G H) (hz : ∀ G' zs, B.p G' zs → xs.length + zs.length ≤ sizeLine)
    (k : ∀ zs G2 H2, Nv [l] G H G2 H2 → Nv M0 G0 H0 G2 H2 → Lc H0 G2 H2 l (xs ++ zs) → B.p G2 zs → D.nx σ H2) : tDrop (tBM K "list" rExtend (tVar i) (tCons te tNil)) D σ H :=
  ⟨.ref l, hi, .inl ⟨rfl, xs, SqL.of lc.val⟩, Pz.run (Q := fun v H2 => rExtend (.ref l) [v] H2 fun _ H3 => D.nx σ H3) h n fun v G2 H2 n1 n2 c => by
    obtain ⟨b, zs, rfl, hb, hB⟩ := c
    have lc2 := lc.nv n1
    obtain ⟨q1, q2, q3⟩ := lc2.put (ys := xs ++ zs) n2
    exact ⟨l, b, xs, zs, rfl, rfl, lc2.val, n2.gh b _ hb, hz _ _ hB, k zs G2 _ ((n1.mono fun _ z => nomatch z).trans q1) q2 q3 hB⟩⟩
theorem lok_small {L : List QB.Ln} {a b : Nat} (h1 : L.length ≤ a) (h2 : ∀ x ∈ L, lneOk b x) (ha : a ≤ 1000000) (hb : b ≤ 1000000) : LOk L := ⟨Nat.le_trans h1 ha, fun x hx => ⟨Nat.le_trans (h2 x hx).2 hb, (h2 x hx).1⟩⟩
theorem z_call4 {M : List Addr} {S S1 S2 S3 S4 : Hf} {σ : L2.St} {G : Hp} {pre : List V → Hp → Pd V → Prop} {E : XK} {A B D F C : Pd V} {t1 t2 t3 t4 : TE} (h : Ez M S S1 (t1 σ) G A) (h2 : Ez M S1 S2 (t2 σ) G B) (h3 : Ez M S2 S3 (t3 σ) G D) (h4 : Ez M S3 S4 (t4 σ) G F) (st : Stb M S4) (hp : ∀ x y z u G', Ex G G' → A.p G' x → B.p G' y → D.p G' z → F.p G' u → pre [x, y, z, u] G' C) : Ez M S S4 (tCall (spP pre) [] E (tCons t1 (tCons t2 (tCons t3 (tCons t4 tNil)))) σ) G C :=
  z_call (B := consP A (consP B (consP D (consP F (is []))))) (z_cons h (z_cons h2 (z_cons h3 (z_cons h4 z_nil)))) st fun vs G' e ⟨x, xs, hv, hx, y, ys, hv2, hy, z, zs, hv3, hz, u, us, hv4, hu, hs⟩ => by
    have hs : us = [] := hs
    subst hv hv2 hv3 hv4 hs
    exact hp x y z u G' e hx hy hz hu
theorem z_parts {σ : L2.St} {G : Hp} {u1 u2 : V} {te : TE} {E : XK} {one other : QB.Row} {X : List QB.Ln} {b : Bool} (i1 : σ[3]? = some (some u1)) (i2 : σ[4]? = some (some u2)) (h1 : Dp K G u1 (rowD one)) (h2 : Dp K G u2 (rowD other)) (S : Sized one other) (h : Pz (te σ) G (dat K (linesD X))) (hX : LOk X) (e : (!decide (written one X = written other X)) = b) :
    Pz (tCall (sp_law_parts K) [] E (tCons (tVar 3) (tCons (tVar 4) (tCons te tNil))) σ) G (is (.bl b)) :=
  z_is (z_call3 (A := dat K (rowD one)) (B := dat K (rowD other)) (D := dat K (linesD X)) (z_var i1 h1) (z_var i2 h2) h stb_tr fun x y z G' _ hx hy hz => ⟨one, other, X, x, y, z, rfl, hx, hy, hz, S.o1, S.o2, Nat.le_trans S.l1 (by decide), Nat.le_trans S.l2 (by decide), hX, rfl⟩) (congrArg V.bl e)
theorem cut_last {α : Type} (ds : List α) : (ds.drop (HT.sIx ds.length 0 none)).take (HT.sIx ds.length ds.length (some (-1)) - HT.sIx ds.length 0 none) = ds.dropLast := by
  rw [HT.sIx_none, List.drop_zero, Nat.sub_zero, List.dropLast_eq_take]
  congr 1
  show (if (-1 : Int) < 0 then ((-1 : Int) + (ds.length : Int)).toNat else min (-1 : Int).toNat ds.length) = ds.length - 1
  rw [if_pos (by decide)]
  omega
theorem fm_ifL {α : Type} (l : List α) (p : α → Bool) (d : α → PyData) : l.filterMap (fun a => if p a = true then some (d a) else none) = (l.filter p).map d := by
  induction l with
  | nil => rfl
  | cons a l ih =>
    rw [List.filterMap_cons, List.filter_cons]
    by_cases h : p a = true
    · rw [if_pos h, if_pos h, List.map_cons, ih]
    · rw [if_neg h, if_neg h, ih]
theorem lok_last {t : List QB.Ln} (h : LOk t) : LOk t.dropLast := ⟨Nat.le_trans (by rw [List.length_dropLast]; omega) h.1, fun x hx => h.2 x (List.dropLast_subset t hx)⟩
theorem p_law (B : Bi K mg) {f : Addr} {fd : FuncData} (F : Fun K "law" "law" s_law f fd) (c__law_hand : Callee P w K mg base 1 "_law_hand" P_law_hand sp_law_hand) (c__law_cell : Callee P w K mg base 1 "_law_cell" P_law_cell (sp_law_cell K)) (c__law_letters : Callee P w K mg base 2 "_law_letters" P_law_letters sp_law_letters) (c__law_row : Callee P w K mg base 7 "_law_row" P_law_row (sp_law_row K)) (c__law_changed : Callee P w K mg base 8 "_law_changed" P_law_changed (sp_law_changed K))
    (c_first_parted : Callee P w K mg base 8 "first_parted" P_first_parted (sp_parting_lines K)) (c_alike : Callee P w K mg base 9 "alike" P_alike (sp_alike K)) (c__law_pool : Callee P w K mg base 3 "_law_pool" P_law_pool (sp_law_pool K)) (c__law_lines : Callee P w K mg base 4 "_law_lines" P_law_lines (sp_law_lines K)) (c__law_parts : Callee P w K mg base 5 "_law_parts" P_law_parts (sp_law_parts K)) (c__law_is_list : Callee P w K mg base 1 "_law_is_list" P_law_is_list (sp_law_is_list K)) (c__law_rank : Callee P w K mg base 1 "_law_rank" P_law_rank (sp_law_rank K)) :
    QR.RunAt callerA P w K mg base CX0 10 f fd P_law (sp_law K) := by
  refine QR.fun_at F sc_law (fun vs H Q E ⟨a, ns, e, _⟩ => by rw [e]; rfl) fun cdv outer s H vs Q E hr h => ?_
  have nd := sc_law.nd
  have hu := hu_of hr
  have hu6 := hr.units
  have hg : (callerA.deeper (envOfC "law" (defScope s_law) s.heap.objs.size f cdv)).guards = some [] := QR.guards_caller _
  refine ⟨_, (pss_cons (ps_set (i := 1) nd rfl (.inl rfl) (pe_call c__law_hand.ok (hr.mono (by decide)) (by rfl) c__law_hand.m c__law_hand.kp c__law_hand.b .nil pass0 (pa_cons (pe_call c__law_cell.ok (hr.mono (by decide)) (by rfl) c__law_cell.m c__law_cell.kp c__law_cell.b .nil pass0 (pa_cons (pv 0) (pa_cons pe_int pa_nil))) pa_nil)))
      (pss_cons (ps_set (i := 2) nd rfl (.inl rfl) (pe_call c__law_letters.ok (hr.mono (by decide)) (by rfl) c__law_letters.m c__law_letters.kp c__law_letters.b .nil pass0 (pa_cons (pv 1) pa_nil)))
      (pss_cons (ps_set (i := 3) nd rfl (.inr rfl) (pe_call c__law_row.ok (hr.mono (by decide)) (by rfl) c__law_row.m c__law_row.kp c__law_row.b .nil pass0 (pa_cons (pv 1) (pa_cons (pv 2) (pa_cons pe_int (pa_cons pe_int pa_nil))))))
      (pss_cons (ps_set (i := 1) nd rfl (.inl rfl) (pe_call c__law_hand.ok (hr.mono (by decide)) (by rfl) c__law_hand.m c__law_hand.kp c__law_hand.b .nil pass0 (pa_cons (pe_call c__law_cell.ok (hr.mono (by decide)) (by rfl) c__law_cell.m c__law_cell.kp c__law_cell.b .nil pass0 (pa_cons (pv 0) (pa_cons pe_int pa_nil))) pa_nil)))
      (pss_cons (ps_set (i := 4) nd rfl (.inr rfl) (pe_call c__law_changed.ok (hr.mono (by decide)) (by rfl) c__law_changed.m c__law_changed.kp c__law_changed.b .nil pass0 (pa_cons (pv 1) (pa_cons (pv 2) (pa_cons (pv 3) pa_nil)))))
      (pss_cons (ps_set (i := 5) nd rfl (.inl rfl) (pe_callB (QW.call_reprD hu6 hg) (by rfl) B.repr_ (by decide +kernel) (pa_cons (pe_lst (pa_cons (pv 3) (pa_cons (pv 4) pa_nil))) pa_nil)))
      (pss_cons (ps_set (i := 6) nd rfl (.inr rfl) (pe_call c_first_parted.ok (hr.mono (by decide)) (by rfl) c_first_parted.m c_first_parted.kp c_first_parted.b .nil pass0 (pa_cons (pv 3) (pa_cons (pv 4) pa_nil))))
      (pss_cons (ps_set (i := 7) nd rfl (.inl rfl) (pe_call c_alike.ok (hr.mono (by decide)) (by rfl) c_alike.m c_alike.kp c_alike.b .nil pass0 (pa_cons (pv 3) (pa_cons (pv 4) pa_nil))))
      (pss_cons (ps_if (pw_or (pt_not (pt_val (pe_callB (QU.isiR (K := K) rfl) (by rfl) B.isinstance_ (by decide +kernel) (pa_cons (pv 7) (pa_cons (pe_bltn (v := .ty "bool") (by rfl) B.bool_ (by decide +kernel) rfl) pa_nil))))) (pw_or (pt_cmpR op_ne (pv 7) (pe_cmpR op_isN (pv 6) pe_non (nomark _)) (nomark _)) (pw_or1 (pt_cmpR op_ne (pe_callB (QW.call_reprD hu6 hg) (by rfl) B.repr_ (by decide +kernel) (pa_cons (pe_lst (pa_cons (pv 3) (pa_cons (pv 4) pa_nil))) pa_nil)) (pv 5) (nomark _))))).pt (pss_one (ps_ret pe_bl)) pss_nil)
      (pss_cons (ps_set (i := 8) nd rfl (.inl rfl) (pe_call c__law_pool.ok (hr.mono (by decide)) (by rfl) c__law_pool.m c__law_pool.kp c__law_pool.b .nil pass0 (pa_cons (pv 1) (pa_cons (pv 2) pa_nil))))
      (pss_cons (ps_setLc (i := 9) (own := [("_law_line_here", 11)]) rfl nd rfl rfl (sw_true rfl rfl rfl (by decide +kernel)) (QU.piL (K := K) rfl (pv 8)) (blkOk_by (own := [("_law_line_here", 11)]) (N := N_law) (sc := defScope s_law) (by decide +kernel)) (fun _ _ _ _ _ => (pg_name (i := 11) nd rfl (.inl rfl))) (fun _ _ _ _ _ => pts_nil) (fun _ _ _ _ _ => (pe_lst (pa_cons (pv 11) pa_nil))))
      (pss_cons (ps_for PassesOwn.never rfl (pi_range1 (by rfl) B.range_ (pa_cons pe_int pa_nil)) (pg_name (i := 10) nd rfl (.inl rfl)) (pss_one (ps_expr (pe_bm PySem.F.plainAttrs_list PySem.F.slot_list_append PySem.F.type_list_append mt_append (pv 9) (pa_cons (pe_lst (pa_cons (pe_ix (QU.ixL (K := K) rfl) (pv 8) (pe_op op_fdivN (pv 10) pe_int) (fun _ _ => rfl)) (pa_cons (pe_ix (QU.ixL (K := K) rfl) (pv 8) (pe_op op_modN (pe_callTy call_int1 (by rfl) B.int_ (by decide +kernel) (pa_cons (pv 10) pa_nil)) pe_int) (fun _ _ => rfl)) pa_nil))) pa_nil)))))
      (pss_cons (ps_for PassesOwn.never rfl (QU.piL (K := K) rfl (pe_slice (QU.slL (K := K) rfl) (pv 8) (po_some pe_int) po_none)) (pg_name (i := 11) nd rfl (.inl rfl)) (pss_one (ps_expr (pe_bm PySem.F.plainAttrs_list PySem.F.slot_list_extend PySem.F.type_list_extend mt_extend (pv 9) (pa_cons (pe_lst (pa_cons (pe_lst (pa_cons (pe_ix (QU.ixL (K := K) rfl) (pv 8) pe_int (fun _ _ => rfl)) (pa_cons (pv 11) pa_nil))) (pa_cons (pe_lst (pa_cons (pe_ix (QU.ixL (K := K) rfl) (pv 8) pe_int (fun _ _ => rfl)) (pa_cons (pv 11) pa_nil))) (pa_cons (pe_lst (pa_cons (pv 11) (pa_cons (pv 11) pa_nil))) pa_nil)))) pa_nil)))))
      (pss_cons (ps_expr (pe_bm PySem.F.plainAttrs_list PySem.F.slot_list_append PySem.F.type_list_append mt_append (pv 9) (pa_cons (pe_call c__law_lines.ok (hr.mono (by decide)) (by rfl) c__law_lines.m c__law_lines.kp c__law_lines.b .nil pass0 (pa_cons (pv 0) (pa_cons pe_int (pa_cons pe_int (pa_cons (pv 2) pa_nil))))) pa_nil)))
      (pss_cons (ps_if (pt_cmpR op_isN (pv 6) pe_non (nomark _)) (pss_one (ps_ret (pe_not (pe_callB (QU.anyR (K := K) rfl rfl) (by rfl) B.any_ (by decide +kernel) (pa_cons (pe_lc (own := [("_law_lines_here", 13)]) rfl nd (QU.piL (K := K) rfl (pv 9)) (blkOk_by (own := [("_law_lines_here", 13)]) (N := N_law) (sc := defScope s_law) (by decide +kernel)) (fun _ _ _ _ _ => (pg_name (i := 13) nd rfl (.inl rfl))) (fun _ _ _ _ _ => pts_nil) (fun _ _ _ _ _ => (pe_call c__law_parts.ok (hr.mono (by decide)) (by rfl) c__law_parts.m c__law_parts.kp c__law_parts.b .nil pass0 (pa_cons (pv 3) (pa_cons (pv 4) (pa_cons (pv 13) pa_nil)))))) pa_nil))))) pss_nil)
      (pss_cons (ps_if (pw_or (pt_not (pt_val (pe_call c__law_is_list.ok (hr.mono (by decide)) (by rfl) c__law_is_list.m c__law_is_list.kp c__law_is_list.b .nil pass0 (pa_cons (pv 6) pa_nil)))) (pw_or1 (pt_not (pt_truth (pv 6) (by intro _; rfl))))).pt (pss_one (ps_ret pe_bl)) pss_nil)
      (pss_cons (ps_if (pw_or (pt_not (pt_val (pe_call c__law_parts.ok (hr.mono (by decide)) (by rfl) c__law_parts.m c__law_parts.kp c__law_parts.b .nil pass0 (pa_cons (pv 3) (pa_cons (pv 4) (pa_cons (pv 6) pa_nil)))))) (pw_or1 (pt_val (pe_call c__law_parts.ok (hr.mono (by decide)) (by rfl) c__law_parts.m c__law_parts.kp c__law_parts.b .nil pass0 (pa_cons (pv 3) (pa_cons (pv 4) (pa_cons (pe_slice (QU.slL (K := K) rfl) (pv 6) po_none (po_some (pe_un un_neg pe_int))) pa_nil))))))).pt (pss_one (ps_ret pe_bl)) pss_nil)
      (pss_cons (ps_setLc (i := 12) (own := [("_law_lines_here", 13)]) rfl nd rfl rfl (sw_true rfl rfl rfl (by decide +kernel)) (QU.piL (K := K) rfl (pv 9)) (blkOk_by (own := [("_law_lines_here", 13)]) (N := N_law) (sc := defScope s_law) (by decide +kernel)) (fun _ _ _ _ _ => (pg_name (i := 13) nd rfl (.inl rfl))) (fun _ _ _ _ _ => (pts_one (pt_cmpR (QU.ltD (K := K) rfl hu6) (pe_call c__law_rank.ok (hr.mono (by decide)) (by rfl) c__law_rank.m c__law_rank.kp c__law_rank.b .nil pass0 (pa_cons (pv 13) pa_nil)) (pe_call c__law_rank.ok (hr.mono (by decide)) (by rfl) c__law_rank.m c__law_rank.kp c__law_rank.b .nil pass0 (pa_cons (pv 6) pa_nil)) (nomark _)))) (fun _ _ _ _ _ => (pv 13)))
      (pss_one (ps_ret (pe_not (pe_callB (QU.anyR (K := K) rfl rfl) (by rfl) B.any_ (by decide +kernel) (pa_cons (pe_lc (own := [("_law_lines_here", 13)]) rfl nd (QU.piL (K := K) rfl (pv 12)) (blkOk_by (own := [("_law_lines_here", 13)]) (N := N_law) (sc := defScope s_law) (by decide +kernel)) (fun _ _ _ _ _ => (pg_name (i := 13) nd rfl (.inl rfl))) (fun _ _ _ _ _ => pts_nil) (fun _ _ _ _ _ => (pe_call c__law_parts.ok (hr.mono (by decide)) (by rfl) c__law_parts.m c__law_parts.kp c__law_parts.b .nil pass0 (pa_cons (pv 3) (pa_cons (pv 4) (pa_cons (pv 13) pa_nil)))))) pa_nil))))))))))))))))))))))), ?_⟩
  obtain ⟨a, ns, rfl, hv, k⟩ := h
  have n0 : Nv [] H H H H := Nv.refl (Ex.refl H)
  refine q_asgL (B := handP 0) (l_callN1 (A := intR fun _ => True) (z_call2 (A := dat K (.list (ns.map .int))) (B := is (.int (0 : Nat))) (z_var rfl hv) (z_c rfl) stb_tr fun x z G' _ hx hz => ⟨ns, 0, x, by rw [show z = _ from hz], hx, rfl⟩) fun x G' _ ⟨i, _, hx⟩ => ⟨i, by rw [show x = _ from hx], rfl⟩) n0 fun hd xs G1 H1 a1 n1 hhd lc1 b1 => ?_
  refine q_asgM (M := [hd]) (S := Hd hd 0) (S1 := Hd hd 2) (C := letP) (z_callP1 rfl (by simp) (hd_stb (by simp)) fun G' _ => ⟨Hd hd 0, Hd hd 2, fun _ _ h => h, ⟨hd, 0, rfl, rfl, by omega, rfl, rfl, rfl⟩, fun _ _ _ _ _ _ h => h⟩) n1 (fun x hx => .inr ?_) (At.one n1.gh lc1.out lc1.val) ⟨xs, lc1.val, b1⟩ fun v2 G2 H2 a2 n2 at2 s2 ⟨L, hL, hv2⟩ => ?_
  · simp at hx
    subst hx
    exact lc1.new
  have hv2 : v2 = .str L := hv2
  subst hv2
  refine q_asgM (M := [hd]) (S := Hd hd 2) (S1 := Hd hd 2002) (C := rowsP K 4 6) (z_callP4 (A := is (.str L)) (B := is (.int (4 : Nat))) (A3 := is (.int (6 : Nat))) rfl (by simp) (z_var rfl rfl) (z_c rfl) (z_c rfl) (hd_stb (by simp)) fun x y z G' _ hx hy hz => ⟨Hd hd 2, Hd hd 2002, fun _ _ h => h, ⟨hd, 2, L, 4, 6, by rw [show x = _ from hx, show y = _ from hy, show z = _ from hz], hL, by omega, by omega, rfl, by omega, rfl, rfl, rfl⟩, fun _ _ _ _ _ _ h => h⟩) n2 (fun x hx => .inr ?_) at2 s2 fun v3 G3 H3 a3 n3 at3 s3 ⟨d3, ⟨one, e3, ho1, hl1, hs1⟩, hv3⟩ => ?_
  · simp at hx
    subst hx
    exact lc1.new
  subst e3
  have g3 : Ex H G3 := (a1.gg.trans a2.gg).trans a3.gg
  refine q_asgL (B := handP 0) (l_callN1 (A := intR fun _ => True) (z_call2 (A := dat K (.list (ns.map .int))) (B := is (.int (1 : Nat))) (z_var rfl (QN.dp_mono g3 _ _ hv)) (z_c rfl) stb_tr fun x z G' _ hx hz => ⟨ns, 1, x, by rw [show z = _ from hz], hx, rfl⟩) fun x G' _ ⟨i, _, hx⟩ => ⟨i, by rw [show x = _ from hx], rfl⟩) n3 fun hd2 xs2 G4 H4 a4 n4 hhd2 lc4 b4 => ?_
  refine q_asgM (M := [hd2]) (S := Hd hd2 0) (S1 := Hd hd2 3000) (C := rowsP K 5 10) (z_callP3 (A := is (.str L)) (B := dat K (rowD one)) rfl (by simp) (z_var rfl rfl) (z_var rfl (QN.dp_mono a4.gg _ _ hv3)) (hd_stb (by simp)) fun x y G' _ hx hy => ⟨Hd hd2 0, Hd hd2 3000, fun _ _ h => h, ⟨hd2, 0, L, one, y, by rw [show x = _ from hx], hL, hy, ho1, hl1, hs1, rfl, by omega, rfl, rfl, rfl⟩, fun _ _ _ _ _ _ h => h⟩) n4 (fun x hx => .inr ?_) (At.one n4.gh lc4.out lc4.val) ⟨xs2, lc4.val, b4⟩ fun v5 G5 H5 a5 n5 at5 s5 ⟨d5, ⟨other, e5, ho2, hl2, hs2⟩, hv5⟩ => ?_
  · simp at hx
    subst hx
    exact lc4.new
  subst e5
  have hv3 := QN.dp_mono (a4.gg.trans a5.gg) _ _ hv3
  have SZ : Sized one other := sized_of ho1 ho2 hl1 hl2 hs1 hs2
  obtain ⟨w1, w2, w3, w4⟩ := (wt_two ho1 (by omega) ho2 hl2).shown (by decide) (by decide)
  have rep : ∀ {σ : L2.St} {G : Hp} {u1 u2 : V}, Dp K G u1 (rowD one) → Dp K G u2 (rowD other) → σ[3]? = some (some u1) → σ[4]? = some (some u2) → Pz (tCB (QW.rRepr K) (tCons (tLst (tCons (tVar 3) (tCons (tVar 4) tNil))) tNil) σ) G (is (.str (PyData.list [rowD one, rowD other]).shown)) := fun {σ G u1 u2} h1 h2 i1 i2 =>
    Ez.bind (g := fun x H Q => QW.rRepr K [x] H Q) (Lz.dat (K := K) (ds := [rowD one, rowD other]) (l_lstD (z_consD (z_var i1 h1) (z_consD (z_var i2 h2) z_nilD)) stb_tr (by show 2 ≤ 1000; decide)) stb_tr) fun x G' _ c => fun G1 H e a s Q q => by
      obtain ⟨p, ys, rfl, _, _⟩ := dp_list c
      exact ⟨p, _, rfl, QN.dp_mono (e.trans a.ex) _ _ c, w1, w2, w3, w4, q _ G1 H (Nv.refl a.ex) s rfl⟩
  refine q_asg (C := is _) (rep hv3 hv5 rfl rfl) n5 fun v6 G6 H6 a6 n6 hv6 => ?_
  rw [show v6 = _ from hv6]
  have hv3 := QN.dp_mono a6.gg _ _ hv3
  have hv5 := QN.dp_mono a6.gg _ _ hv5
  refine q_asg (C := dat K (partD (parting one other))) (z_call2 (A := dat K (rowD one)) (B := dat K (rowD other)) (z_var rfl hv3) (z_var rfl hv5) stb_tr fun x y G' _ hx hy => ⟨one, other, x, y, rfl, hx, hy, SZ, rfl⟩) n6 fun v7 G7 H7 a7 n7 hv7 => ?_
  have hv3 := QN.dp_mono a7.gg _ _ hv3
  have hv5 := QN.dp_mono a7.gg _ _ hv5
  refine q_asg (C := is (.bl (parting one other).isNone)) (z_call2 (A := dat K (rowD one)) (B := dat K (rowD other)) (z_var rfl hv3) (z_var rfl hv5) stb_tr fun x y G' _ hx hy => ⟨one, other, x, y, rfl, hx, hy, SZ, rfl⟩) n7 fun v8 G8 H8 a8 n8 hv8 => ?_
  rw [show v8 = _ from hv8]
  have hv3 := QN.dp_mono a8.gg _ _ hv3
  have hv5 := QN.dp_mono a8.gg _ _ hv5
  have hv7 := QN.dp_mono a8.gg _ _ hv7
  have hnn : decide (v7 = V.non) = (parting one other).isNone := by
    cases hp : parting one other with
    | none =>
      rw [hp] at hv7
      have hv7 : Dp K G8 v7 .none := hv7
      cases hv7
      rfl
    | some t =>
      rw [hp] at hv7
      have hv7 : Dp K G8 v7 (.list (t.map lineD)) := hv7
      obtain ⟨p, ys, rfl, _, _⟩ := dp_list hv7
      rfl
  refine q_skip (zt_or (a := false) (b := false) (zt_not (a := true) (zt_B (z_isi (t := "bool") (z_tyB (z_var rfl (Dp.bl _))) (by decide +kernel)))) fun _ => zt_or (a := false) (b := false) (zt_test (z_opNe (z_var rfl rfl) (z_isN (z_var rfl rfl) hnn) rfl (by rw [decide_eq_true rfl]; rfl))) fun _ => zt_test (z_opNe (rep hv3 hv5 rfl rfl) (z_var rfl rfl) rfl (by rw [decide_eq_true rfl]; rfl))) n8 fun G9 H9 a9 n9 => ?_
  have a59 : Nv [] G5 H5 G9 H9 := ((a6.trans a7).trans a8).trans a9
  have at9 : At [hd2] G9 H9 := at5.nv (a59.mono fun _ z => nomatch z)
  have s9 : Hd hd2 3000 G9 H9 := by
    obtain ⟨ys, q1, q2⟩ := s5
    exact ⟨ys, a59.ex hd2 _ q1, q2⟩
  refine q_asgM (M := [hd2]) (S := Hd hd2 3000) (S1 := Hd hd2 3002) (C := some_ fun LL : List QB.Ln => both_ ((13 ≤ LL.length ∧ LL.length ≤ 15) ∧ ∀ x ∈ LL, lneOk 2 x) (dat K (linesD LL))) (z_callP2 (A := is (.str L)) rfl (by simp) (z_var rfl rfl) (hd_stb (by simp)) fun x G' _ hx => ⟨Hd hd2 3000, Hd hd2 3002, fun _ _ h => h, ⟨hd2, 3000, L, by rw [show x = _ from hx], hL, rfl, by omega, rfl, rfl, rfl⟩, fun _ _ _ _ _ _ h => h⟩) n9 (fun x hx => .inr ?_) at9 s9 fun v10 G10 H10 a10 n10 at10 s10 ⟨PL, ⟨⟨hp1, hp2⟩, hpk⟩, hv10⟩ => ?_
  · simp at hx
    subst hx
    exact lc4.new
  have hv3 := QN.dp_mono (a9.gg.trans a10.gg) _ _ hv3
  have hv5 := QN.dp_mono (a9.gg.trans a10.gg) _ _ hv5
  have hv7 := QN.dp_mono (a9.gg.trans a10.gg) _ _ hv7
  refine q_asgL (B := dats K ((PL.map fun l => [l]).map linesD)) (Lz.to (l_fm PL lineD (fun l => some (linesD [l])) (z_var rfl hv10) (by omega) fun l x G1 hl e1 hx => turn_all rfl (Lz.dat (l_lstD (ds := [lineD l]) (z_consD (z_var rfl hx) z_nilD) stb_tr (by show 1 ≤ 1000; decide)) stb_tr)) fun G' xs _ c => by
    rw [fm_some'] at c
    rw [List.map_map]
    exact c) n10 fun l xs11 G11 H11 a11 n11 hl11 lc11 b11 => ?_
  have plk : ∀ {x y : QB.Ln}, x ∈ PL → y ∈ PL → LOk [x, y] := fun {x y} hx hy => lok_small (a := 2) (b := 2) (Nat.le_refl _) (fun z hz => by
    simp at hz
    rcases hz with rfl | rfl
    · exact hpk _ hx
    · exact hpk _ hy) (by decide) (by decide)
  have pl1 : ∀ {x : QB.Ln}, x ∈ PL → LOk [x] := fun {x} hx => lok_small (a := 1) (b := 2) (Nat.le_refl _) (fun z hz => by
    simp at hz
    subst hz
    exact hpk _ hx) (by decide) (by decide)
  refine q_forP (wk_rangeN (n := 36) (z_c rfl) (by omega)) n11 (fun i σ G' H' => ∃ LS : List (List QB.Ln), ∃ xs : List V, ∃ x10 : Option V, σ = [some (.ref a), some (.ref hd2), some (.str L), some v3, some v5, some (.str (PyData.list [rowD one, rowD other]).shown), some v7, some (.bl (parting one other).isNone), some v10, some (.ref l), x10, none, none, none] ∧ Lc H G' H' l xs ∧ DpAll K G' xs (LS.map linesD) ∧ (∀ L ∈ LS, LOk L) ∧ LS.length ≤ 15 + i) (fun G' H' a' n' => ⟨PL.map fun l => [l], xs11, _, rfl, lc11.nv a', QN.dp_monos a'.gg _ _ b11, fun L hL => ?_, by rw [List.length_map]; omega⟩) (fun i σ1 G' H' x G2' H2' hi n' e' ⟨LS, xs, x10, hσ, lc', hd', ok', len'⟩ a2' n2' hx => ?_) fun σ1 G12 H12 n12 e12 ⟨LS12, xs12, x12, hσ, lc12, b12, ok12, len12⟩ => ?_
  · obtain ⟨x, hx, rfl⟩ := List.mem_map.mp hL
    exact pl1 hx
  · subst hσ
    have hx : x = .int (i : Nat) := hx
    subst hx
    have hv10 := QN.dp_mono ((a11.gg.trans e').trans a2'.gg) _ _ hv10
    have ia : i / 6 < PL.length := by omega
    have ib : i % 6 < PL.length := by omega
    have lenx : xs.length ≤ 15 + i := by rw [da_len hd', List.length_map]; exact len'
    refine e_app (C := dat K (linesD [PL[i / 6], PL[i % 6]])) rfl (lc'.nv a2') (Nat.lt_of_le_of_lt lenx (Nat.lt_of_lt_of_le (show 15 + i < 1000 by omega) (by decide))) (Lz.dat (l_lstD (ds := [lineD PL[i / 6], lineD PL[i % 6]]) (z_consD (z_ixDL (i := i / 6) (z_var rfl hv10) (z_opC (i := (i : Nat)) (j := 6) (z := .int ((i / 6 : Nat) : Int)) (z_var rfl rfl) (z_c rfl) ⟨by decide, by decide⟩ ?_) ?_) (z_consD (z_ixDL (i := i % 6) (z_var rfl hv10) (z_opC (i := (i : Nat)) (j := 6) (z := .int ((i % 6 : Nat) : Int)) (z_int1e (z_var rfl rfl)) (z_c rfl) (by decide) ?_) ?_) z_nilD)) stb_tr (by show 2 ≤ 1000; decide)) stb_tr) n2' fun v G4 H4 a4 n4 lc4 hv4 => ⟨G4, n4, a2'.gg.trans a4.gg, LS ++ [[PL[i / 6], PL[i % 6]]], _, _, rfl, lc4, ?_, fun L hL => ?_, ?_⟩
    · show V.int (Int.fdiv (i : Int) 6) = _
      rw [Int.fdiv_eq_ediv_of_nonneg _ (by decide)]
      rfl
    · rw [List.getElem?_map, List.getElem?_eq_getElem ia]
      rfl
    · show V.int (Int.fmod (i : Int) 6) = _
      rw [Int.fmod_eq_emod_of_nonneg _ (by decide)]
      rfl
    · rw [List.getElem?_map, List.getElem?_eq_getElem ib]
      rfl
    · rw [List.map_append]
      exact da_snoc (QN.dp_monos (a2'.gg.trans a4.gg) _ _ hd') hv4
    · rcases List.mem_append.mp hL with hL | hL
      · exact ok' L hL
      · simp at hL
        subst hL
        exact plk (List.getElem_mem ia) (List.getElem_mem ib)
    · rw [List.length_append]
      show LS.length + 1 ≤ _
      omega
  subst hσ
  have hv10 := QN.dp_mono (a11.gg.trans e12) _ _ hv10
  refine q_forP (wk_list (z_lst (Lz.dat (l_from (k := 6) (z_var rfl hv10) (z_c rfl) stb_tr) stb_tr))) n12 (fun i σ G' H' => ∃ LS : List (List QB.Ln), ∃ xs : List V, ∃ x11 : Option V, σ = [some (.ref a), some (.ref hd2), some (.str L), some v3, some v5, some (.str (PyData.list [rowD one, rowD other]).shown), some v7, some (.bl (parting one other).isNone), some v10, some (.ref l), x12, x11, none, none] ∧ Lc H G' H' l xs ∧ DpAll K G' xs (LS.map linesD) ∧ (∀ L ∈ LS, LOk L) ∧ LS.length ≤ 51 + 3 * i) (fun G' H' a' n' => ⟨LS12, xs12, _, rfl, lc12.nv a', QN.dp_monos a'.gg _ _ b12, ok12, by omega⟩) (fun i σ1 G' H' x G2' H2' hi n' e' ⟨LS, xs, x11, hσ, lc', hd', ok', len'⟩ a2' n2' hx => ?_) fun σ1 G13 H13 n13 e13 ⟨LS13, xs13, x13, hσ, lc13, b13, ok13, len13⟩ => ?_
  · subst hσ
    have hi9 : i < 9 := by
      rw [List.length_drop, List.length_map] at hi
      omega
    obtain ⟨d, hd1, hx⟩ := hx
    rw [List.getElem?_drop, List.getElem?_map] at hd1
    obtain ⟨m, hm, hmd⟩ := Option.map_eq_some_iff.mp hd1
    subst hmd
    have hmP : m ∈ PL := List.mem_of_getElem? hm
    have hv10 := QN.dp_mono (e'.trans a2'.gg) _ _ hv10
    have i0 : 0 < PL.length := by omega
    have i1 : 1 < PL.length := by omega
    have g0 : (PL.map lineD)[0]? = some (lineD PL[0]) := by
      rw [List.getElem?_map, List.getElem?_eq_getElem i0]
      rfl
    have g1 : (PL.map lineD)[1]? = some (lineD PL[1]) := by
      rw [List.getElem?_map, List.getElem?_eq_getElem i1]
      rfl
    have lenx : xs.length ≤ 51 + 3 * i := by rw [da_len hd', List.length_map]; exact len'
    refine e_ext (B := dats K [linesD [PL[0], m], linesD [PL[1], m], linesD [m, m]]) rfl (lc'.nv a2') (Lz.exact (l_lstD (ds := [linesD [PL[0], m], linesD [PL[1], m], linesD [m, m]])
      (z_consD (Lz.dat (l_lstD (ds := [lineD PL[0], lineD m]) (z_consD (z_ixDL (i := 0) (z_var rfl hv10) (z_c rfl) g0) (z_consD (z_var rfl hx) z_nilD)) stb_tr (by show 2 ≤ 1000; decide)) stb_tr)
      (z_consD (Lz.dat (l_lstD (ds := [lineD PL[1], lineD m]) (z_consD (z_ixDL (i := 1) (z_var rfl hv10) (z_c rfl) g1) (z_consD (z_var rfl hx) z_nilD)) stb_tr (by show 2 ≤ 1000; decide)) stb_tr)
      (z_consD (Lz.dat (l_lstD (ds := [lineD m, lineD m]) (z_consD (z_var rfl hx) (z_consD (z_var rfl hx) z_nilD)) stb_tr (by show 2 ≤ 1000; decide)) stb_tr) z_nilD)))
      stb_tr (by show 3 ≤ 1000; decide)) stb_tr) n2' (fun G' zs hz => ?_) fun zs G4 H4 a4 n4 lc4 hzs => ⟨G4, n4, a2'.gg.trans a4.gg, LS ++ [[PL[0], m], [PL[1], m], [m, m]], _, _, rfl, lc4, ?_, fun L hL => ?_, ?_⟩
    · rw [da_len hz]
      exact Nat.le_trans (show xs.length + 3 ≤ 1000 by omega) (by decide)
    · rw [List.map_append]
      exact da_app (QN.dp_monos (a2'.gg.trans a4.gg) _ _ hd') hzs
    · rcases List.mem_append.mp hL with hL | hL
      · exact ok' L hL
      · simp only [List.mem_cons, List.not_mem_nil, or_false] at hL
        rcases hL with rfl | rfl | rfl
        · exact plk (List.getElem_mem i0) hmP
        · exact plk (List.getElem_mem i1) hmP
        · exact plk hmP hmP
    · rw [List.length_append]
      show LS.length + 3 ≤ _
      omega
  subst hσ
  have len13 : LS13.length ≤ 78 := by
    rw [List.length_drop, List.length_map] at len13
    omega
  have lenx13 : xs13.length ≤ 78 := by rw [da_len b13, List.length_map]; exact len13
  refine q_app (C := some_ fun LL : List QB.Ln => both_ (LL.length ≤ 70 ∧ ∀ x ∈ LL, lneOk 16 x) (dat K (linesD LL))) rfl lc13 (Nat.lt_of_le_of_lt lenx13 (Nat.lt_of_lt_of_le (show 78 < 1000 by decide) (by decide))) (z_call4 (A := dat K (.list (ns.map .int))) (B := is (.int 2)) (D := is (.int 6)) (F := is (.str L)) (z_var rfl (QN.dp_mono n13.gg _ _ hv)) (z_c rfl) (z_c rfl) (z_var rfl rfl) stb_tr fun x y z u G' _ hx hy hz hu => ⟨ns, L, x, by rw [show y = _ from hy, show z = _ from hz, show u = _ from hu], hx, hL, rfl⟩) n13 fun v14 G14 H14 a14 n14 lc14 ⟨LL, ⟨hll1, hll2⟩, hv14⟩ => ?_
  have hv3 := QN.dp_mono ((((a11.gg.trans e12).trans e13).trans a14.gg).trans lc14.gg) _ _ hv3
  have hv5 := QN.dp_mono ((((a11.gg.trans e12).trans e13).trans a14.gg).trans lc14.gg) _ _ hv5
  have hv7 := QN.dp_mono ((((a11.gg.trans e12).trans e13).trans a14.gg).trans lc14.gg) _ _ hv7
  have n15 := lc14.close n14
  have okA : ∀ X ∈ LS13 ++ [LL], LOk X := fun X hX => by
    rcases List.mem_append.mp hX with hX | hX
    · exact ok13 X hX
    · simp at hX
      subst hX
      exact lok_small hll1 hll2 (by decide) (by decide)
  have hv9 : Dp K (upd G14 l (.lst (xs13 ++ [v14]))) (.ref l) (.list ((LS13 ++ [LL]).map linesD)) := lc14.dat (by
    rw [List.map_append]
    exact da_snoc (QN.dp_monos a14.gg _ _ b13) hv14)
  have lenA : (LS13 ++ [LL]).length ≤ 1000000 := by
    rw [List.length_append]
    show LS13.length + 1 ≤ _
    omega
  generalize LS13 ++ [LL] = LS at okA hv9 lenA
  generalize upd G14 l (.lst (xs13 ++ [v14])) = G15 at hv3 hv5 hv7 hv9 n15
  clear lc14 a14 lc13 b13 n14 n13
  rcases hp : parting one other with _ | t
  · have hnn : decide (v7 = V.non) = true := by rw [hnn, hp]; rfl
    refine q_then (zt_test (z_isN (z_var rfl rfl) hnn)) n15 fun G16 H16 a16 n16 => ?_
    exact s_ret (C := is (.bl true)) (z_notV (b := false) (z_anyN LS linesD (z_var rfl (QN.dp_mono a16.gg _ _ hv9)) lenA (fun _ => rfl) fun X x G17 hX e17 hx => z_parts rfl rfl (QN.dp_mono (a16.gg.trans e17) _ _ hv3) (QN.dp_mono (a16.gg.trans e17) _ _ hv5) SZ (z_var rfl hx) (okA X hX) (by rw [parting_none one other hp X (lok_slst (okA X hX)), decide_eq_true rfl]; rfl))) n16 fun v G2 H2 _ c => by
      rw [show v = _ from c]
      exact k H2
  · have hnn : decide (v7 = V.non) = false := by rw [hnn, hp]; rfl
    rw [hp] at hv7
    have hv7 : Dp K G15 v7 (linesD t) := hv7
    obtain ⟨tne, tsl, tpt, tah⟩ := parting_some one other hp
    have tok : LOk t := told_ok SZ hp
    refine q_skip (zt_test (z_isN (z_var rfl rfl) hnn)) n15 fun G16 H16 a16 n16 => ?_
    have hv7 := QN.dp_mono a16.gg _ _ hv7
    refine q_skip (zt_or (a := false) (b := false) (zt_not (a := true) (zt_B (z_call1 (A := dat K (linesD t)) (z_var rfl hv7) stb_tr fun x G' _ hx => ⟨t, x, rfl, hx, tok, rfl⟩))) fun _ => zt_not (a := true) (zt_truE (K := K) (z_truL (ds := t.map lineD) (z_var rfl hv7)) ?_)) n16 fun G17 H17 a17 n17 => ?_
    · rw [List.length_map]
      cases t with
      | nil => exact absurd rfl tne
      | cons x t => rfl
    have hv7 := QN.dp_mono a17.gg _ _ hv7
    have hv3 := QN.dp_mono (a16.gg.trans a17.gg) _ _ hv3
    have hv5 := QN.dp_mono (a16.gg.trans a17.gg) _ _ hv5
    have hv9 := QN.dp_mono (a16.gg.trans a17.gg) _ _ hv9
    have same_last : written one t.dropLast = written other t.dropLast := tah _ (lok_slst (lok_last tok)) (.inl (by
      rw [List.length_dropLast]
      have := List.length_pos_iff.mpr tne
      omega))
    refine q_skip (zt_or (a := false) (b := false) (zt_not (a := true) (zt_B (z_parts rfl rfl hv3 hv5 SZ (z_var rfl hv7) tok (by rw [decide_eq_false tpt]; rfl)))) fun _ => zt_B (z_parts (X := t.dropLast) rfl rfl hv3 hv5 SZ (Lz.dat (l_slice (z_lstD (ds := t.map lineD) (z_var rfl hv7)) zo_none (zo_some (z_neg (z_c rfl) rfl)) stb_tr fun G' xs hx => ?_) stb_tr) (lok_last tok) (by rw [same_last, decide_eq_true rfl]; rfl))) n17 fun G18 H18 a18 n18 => ?_
    · have := da_cut hx none (some (-1))
      rw [cut_last, ← List.map_dropLast] at this
      exact this
    have hv7 := QN.dp_mono a18.gg _ _ hv7
    have hv3 := QN.dp_mono a18.gg _ _ hv3
    have hv5 := QN.dp_mono a18.gg _ _ hv5
    have hv9 := QN.dp_mono a18.gg _ _ hv9
    refine q_asg (C := dat K (.list ((LS.filter fun X => PySem.W.dataLt (rankD X) (rankD t)).map linesD))) (Lz.dat (Lz.to (l_fm LS linesD (fun X => if PySem.W.dataLt (rankD X) (rankD t) = true then some (linesD X) else none) (z_var rfl hv9) lenA fun X x G1 hX e1 hx => turn_name rfl (zt_test (z_ltD (L := X) (t := t) (z_call1 (A := dat K (linesD X)) (z_var rfl hx) stb_tr fun y G' _ hy => ⟨X, y, rfl, hy, okA X hX, rfl⟩) (z_call1 (A := dat K (linesD t)) (z_var rfl (QN.dp_mono e1 _ _ hv7)) stb_tr fun y G' _ hy => ⟨t, y, rfl, hy, tok, rfl⟩) (lok_slst (okA X hX)))) fun _ => z_var rfl hx) fun G' xs _ c => by
      rw [fm_ifL] at c
      exact c) stb_tr) n18 fun v19 G19 H19 a19 n19 hv19 => ?_
    have hv3 := QN.dp_mono a19.gg _ _ hv3
    have hv5 := QN.dp_mono a19.gg _ _ hv5
    have lenB : (LS.filter fun X => PySem.W.dataLt (rankD X) (rankD t)).length ≤ 1000000 := Nat.le_trans (List.length_filter_le _ _) lenA
    exact s_ret (C := is (.bl true)) (z_notV (b := false) (z_anyN (LS.filter fun X => PySem.W.dataLt (rankD X) (rankD t)) linesD (z_var rfl hv19) lenB (fun _ => rfl) fun X x G20 hX e20 hx => by
      obtain ⟨hX1, hX2⟩ := List.mem_filter.mp hX
      exact z_parts rfl rfl (QN.dp_mono e20 _ _ hv3) (QN.dp_mono e20 _ _ hv5) SZ (z_var rfl hx) (okA X hX1) (by rw [tah X (lok_slst (okA X hX1)) (rank_lt hX2), decide_eq_true rfl]; rfl))) n19 fun v G2 H2 _ c => by
      rw [show v = _ from c]
      exact k H2
end QP

/-! The end: where each def stands, and the law. -/
namespace QP
open PySem PySem.Spec PyProof.Rows L2 Evl QV QU QX QB QT QD
/-- a def, by the name under which the text has it -/
def Stands (K : PySem.W.Frag) (g x : Str) (st : Stmt) : Prop := ∃ (f : Addr) (fd : FuncData), PySem.W.nsIn K mainGlobals g = some (some (.ref f)) ∧ Fun K x x st f fd
theorem stands_mk {K : PySem.W.Frag} {g x : Str} {st : Stmt} {f : Addr} {oc : Value} {od an : Option Addr} {osl : Array (Option Value)} {kV doc pm cdv ct : Value} (a : PySem.W.nsIn K mainGlobals g = some (some (.ref f)))
    (l : K.lookup f = some ⟨oc, od, .func (PySem.W.fnOf x x (defArgs st) (defBody st) (defScope st) .none kV doc pm an cdv ct), osl⟩) (c : PySem.W.codeIn K cdv x = true) (k : PySem.W.keepIn K (.ref f) = true) : Stands K g x st := ⟨f, _, a, fun_mk l c k⟩
structure Stand (K : PySem.W.Frag) : Prop where
  h_law_hand : Stands K "_law_hand" "_law_hand" s_law_hand
  h_law_cell : Stands K "_law_cell" "_law_cell" s_law_cell
  h_law_take : Stands K "_law_take" "_law_take" s_law_take
  h_law_signs : Stands K "_law_signs" "_law_signs" s_law_signs
  h_law_letters : Stands K "_law_letters" "_law_letters" s_law_letters
  h_law_sign : Stands K "_law_sign" "_law_sign" s_law_sign
  h_law_range : Stands K "_law_range" "_law_range" s_law_range
  h_law_entry : Stands K "_law_entry" "_law_entry" s_law_entry
  h_law_pattern : Stands K "_law_pattern" "_law_pattern" s_law_pattern
  h_law_pairs : Stands K "_law_pairs" "_law_pairs" s_law_pairs
  h_law_filter : Stands K "_law_filter" "_law_filter" s_law_filter
  h_law_row : Stands K "_law_row" "_law_row" s_law_row
  h_law_changed : Stands K "_law_changed" "_law_changed" s_law_changed
  h_is_sign1 : Stands K "is_sign_patterns" "is_sign" s_is_sign1
  h_is_range : Stands K "is_range" "is_range" s_is_range
  h_is_entry : Stands K "is_entry" "is_entry" s_is_entry
  h_is_pattern : Stands K "is_pattern" "is_pattern" s_is_pattern
  h_is_sign2 : Stands K "is_sign_filters" "is_sign" s_is_sign2
  h_is_pairs : Stands K "is_pairs" "is_pairs" s_is_pairs
  h_is_filter : Stands K "is_filter" "is_filter" s_is_filter
  h_is_row : Stands K "is_row" "is_row" s_is_row
  h_check_compared : Stands K "check_compared" "check_compared" s_check_compared
  h_steps_of : Stands K "steps_of" "steps_of" s_steps_of
  h_takes : Stands K "takes" "takes" s_takes
  h_advanced : Stands K "advanced" "advanced" s_advanced
  h_after_sign : Stands K "after_sign" "after_sign" s_after_sign
  h_start_reach : Stands K "start_reach" "start_reach" s_start_reach
  h_start_state : Stands K "start_state" "start_state" s_start_state
  h_sign_classes : Stands K "sign_classes" "sign_classes" s_sign_classes
  h_line_classes : Stands K "line_classes" "line_classes" s_line_classes
  h_numbers_of : Stands K "numbers_of" "numbers_of" s_numbers_of
  h_put_through : Stands K "put_through" "put_through" s_put_through
  h_parting_lines : Stands K "parting_lines" "parting_lines" s_parting_lines
  h_first_parted : Stands K "first_parted" "first_parted" s_first_parted
  h_alike : Stands K "alike" "alike" s_alike
  h_law_pool : Stands K "_law_pool" "_law_pool" s_law_pool
  h_law_line : Stands K "_law_line" "_law_line" s_law_line
  h_law_lines : Stands K "_law_lines" "_law_lines" s_law_lines
  h_law_swapped : Stands K "_law_swapped" "_law_swapped" s_law_swapped
  h_law_fits : Stands K "_law_fits" "_law_fits" s_law_fits
  h_law_meets : Stands K "_law_meets" "_law_meets" s_law_meets
  h_law_passed : Stands K "_law_passed" "_law_passed" s_law_passed
  h_law_written : Stands K "_law_written" "_law_written" s_law_written
  h_law_parts : Stands K "_law_parts" "_law_parts" s_law_parts
  h_law_is_list : Stands K "_law_is_list" "_law_is_list" s_law_is_list
  h_law_rank : Stands K "_law_rank" "_law_rank" s_law_rank
  h_law : Stands K "law" "law" s_law
theorem all_mk {l : PySem.W.OpenLaw} {w : World} {K : PySem.W.Frag} {h : Heap} {mg : Str → Option Value} {fa : Addr} (X : K.In h) (G : h.Ns mainGlobals mg) (hfa : mg "law" = some (.ref fa)) (B : Bi K mg) (Z : Stand K) :
    ∃ fd : FuncData, (∀ (s : Shared) (v : Value), BindsTo s fd ⟨[v], []⟩ [("_law_script", v)]) ∧ ∀ base : Heap, K.In base → base.Ns mainGlobals mg → QR.RunAt callerA l.prog w K mg base CX0 10 fa fd ["_law_script"] (sp_law K) := by
  obtain ⟨f_law_hand, d_law_hand, m_law_hand, F_law_hand⟩ := Z.h_law_hand
  obtain ⟨f_law_cell, d_law_cell, m_law_cell, F_law_cell⟩ := Z.h_law_cell
  obtain ⟨f_law_take, d_law_take, m_law_take, F_law_take⟩ := Z.h_law_take
  obtain ⟨f_law_signs, d_law_signs, m_law_signs, F_law_signs⟩ := Z.h_law_signs
  obtain ⟨f_law_letters, d_law_letters, m_law_letters, F_law_letters⟩ := Z.h_law_letters
  obtain ⟨f_law_sign, d_law_sign, m_law_sign, F_law_sign⟩ := Z.h_law_sign
  obtain ⟨f_law_range, d_law_range, m_law_range, F_law_range⟩ := Z.h_law_range
  obtain ⟨f_law_entry, d_law_entry, m_law_entry, F_law_entry⟩ := Z.h_law_entry
  obtain ⟨f_law_pattern, d_law_pattern, m_law_pattern, F_law_pattern⟩ := Z.h_law_pattern
  obtain ⟨f_law_pairs, d_law_pairs, m_law_pairs, F_law_pairs⟩ := Z.h_law_pairs
  obtain ⟨f_law_filter, d_law_filter, m_law_filter, F_law_filter⟩ := Z.h_law_filter
  obtain ⟨f_law_row, d_law_row, m_law_row, F_law_row⟩ := Z.h_law_row
  obtain ⟨f_law_changed, d_law_changed, m_law_changed, F_law_changed⟩ := Z.h_law_changed
  obtain ⟨f_is_sign1, d_is_sign1, m_is_sign1, F_is_sign1⟩ := Z.h_is_sign1
  obtain ⟨f_is_range, d_is_range, m_is_range, F_is_range⟩ := Z.h_is_range
  obtain ⟨f_is_entry, d_is_entry, m_is_entry, F_is_entry⟩ := Z.h_is_entry
  obtain ⟨f_is_pattern, d_is_pattern, m_is_pattern, F_is_pattern⟩ := Z.h_is_pattern
  obtain ⟨f_is_sign2, d_is_sign2, m_is_sign2, F_is_sign2⟩ := Z.h_is_sign2
  obtain ⟨f_is_pairs, d_is_pairs, m_is_pairs, F_is_pairs⟩ := Z.h_is_pairs
  obtain ⟨f_is_filter, d_is_filter, m_is_filter, F_is_filter⟩ := Z.h_is_filter
  obtain ⟨f_is_row, d_is_row, m_is_row, F_is_row⟩ := Z.h_is_row
  obtain ⟨f_check_compared, d_check_compared, m_check_compared, F_check_compared⟩ := Z.h_check_compared
  obtain ⟨f_steps_of, d_steps_of, m_steps_of, F_steps_of⟩ := Z.h_steps_of
  obtain ⟨f_takes, d_takes, m_takes, F_takes⟩ := Z.h_takes
  obtain ⟨f_advanced, d_advanced, m_advanced, F_advanced⟩ := Z.h_advanced
  obtain ⟨f_after_sign, d_after_sign, m_after_sign, F_after_sign⟩ := Z.h_after_sign
  obtain ⟨f_start_reach, d_start_reach, m_start_reach, F_start_reach⟩ := Z.h_start_reach
  obtain ⟨f_start_state, d_start_state, m_start_state, F_start_state⟩ := Z.h_start_state
  obtain ⟨f_sign_classes, d_sign_classes, m_sign_classes, F_sign_classes⟩ := Z.h_sign_classes
  obtain ⟨f_line_classes, d_line_classes, m_line_classes, F_line_classes⟩ := Z.h_line_classes
  obtain ⟨f_numbers_of, d_numbers_of, m_numbers_of, F_numbers_of⟩ := Z.h_numbers_of
  obtain ⟨f_put_through, d_put_through, m_put_through, F_put_through⟩ := Z.h_put_through
  obtain ⟨f_parting_lines, d_parting_lines, m_parting_lines, F_parting_lines⟩ := Z.h_parting_lines
  obtain ⟨f_first_parted, d_first_parted, m_first_parted, F_first_parted⟩ := Z.h_first_parted
  obtain ⟨f_alike, d_alike, m_alike, F_alike⟩ := Z.h_alike
  obtain ⟨f_law_pool, d_law_pool, m_law_pool, F_law_pool⟩ := Z.h_law_pool
  obtain ⟨f_law_line, d_law_line, m_law_line, F_law_line⟩ := Z.h_law_line
  obtain ⟨f_law_lines, d_law_lines, m_law_lines, F_law_lines⟩ := Z.h_law_lines
  obtain ⟨f_law_swapped, d_law_swapped, m_law_swapped, F_law_swapped⟩ := Z.h_law_swapped
  obtain ⟨f_law_fits, d_law_fits, m_law_fits, F_law_fits⟩ := Z.h_law_fits
  obtain ⟨f_law_meets, d_law_meets, m_law_meets, F_law_meets⟩ := Z.h_law_meets
  obtain ⟨f_law_passed, d_law_passed, m_law_passed, F_law_passed⟩ := Z.h_law_passed
  obtain ⟨f_law_written, d_law_written, m_law_written, F_law_written⟩ := Z.h_law_written
  obtain ⟨f_law_parts, d_law_parts, m_law_parts, F_law_parts⟩ := Z.h_law_parts
  obtain ⟨f_law_is_list, d_law_is_list, m_law_is_list, F_law_is_list⟩ := Z.h_law_is_list
  obtain ⟨f_law_rank, d_law_rank, m_law_rank, F_law_rank⟩ := Z.h_law_rank
  obtain ⟨f_law, d_law, m_law, F_law⟩ := Z.h_law
  have e := hfa.symm.trans (PySem.W.mg_of X G m_law)
  cases e
  refine ⟨d_law, ?_, fun base _ _ => ?_⟩
  · obtain ⟨oc, od, kV, doc, pm, an, cdv, ct, osl, rfl, lk, hcd⟩ := F_law.ex
    exact fun s v => .of_eq rfl
  have c_law_hand : Callee l.prog w K mg base 1 "_law_hand" P_law_hand sp_law_hand := ⟨f_law_hand, d_law_hand, p_law_hand B F_law_hand, PySem.W.mg_of X G m_law_hand, F_law_hand.kp, F_law_hand.binds fun _ _ _ _ _ _ us hl => match us, hl with | [_], _ => rfl⟩
  have c_law_cell : Callee l.prog w K mg base 1 "_law_cell" P_law_cell (sp_law_cell K) := ⟨f_law_cell, d_law_cell, p_law_cell B F_law_cell, PySem.W.mg_of X G m_law_cell, F_law_cell.kp, F_law_cell.binds fun _ _ _ _ _ _ us hl => match us, hl with | [_, _], _ => rfl⟩
  have c_law_take : Callee l.prog w K mg base 1 "_law_take" P_law_take sp_law_take := ⟨f_law_take, d_law_take, p_law_take B F_law_take, PySem.W.mg_of X G m_law_take, F_law_take.kp, F_law_take.binds fun _ _ _ _ _ _ us hl => match us, hl with | [_, _], _ => rfl⟩
  have c_law_signs : Callee l.prog w K mg base 1 "_law_signs" P_law_signs sp_law_signs := ⟨f_law_signs, d_law_signs, p_law_signs B F_law_signs, PySem.W.mg_of X G m_law_signs, F_law_signs.kp, F_law_signs.binds fun _ _ _ _ _ _ us hl => match us, hl with | [], _ => rfl⟩
  have c_law_letters : Callee l.prog w K mg base 2 "_law_letters" P_law_letters sp_law_letters := ⟨f_law_letters, d_law_letters, p_law_letters B F_law_letters c_law_take c_law_signs, PySem.W.mg_of X G m_law_letters, F_law_letters.kp, F_law_letters.binds fun _ _ _ _ _ _ us hl => match us, hl with | [_], _ => rfl⟩
  have c_law_sign : Callee l.prog w K mg base 2 "_law_sign" P_law_sign sp_law_sign := ⟨f_law_sign, d_law_sign, p_law_sign B F_law_sign c_law_take c_law_signs, PySem.W.mg_of X G m_law_sign, F_law_sign.kp, F_law_sign.binds fun _ _ _ _ _ _ us hl => match us, hl with | [_, _], _ => rfl⟩
  have c_law_range : Callee l.prog w K mg base 3 "_law_range" P_law_range (sp_law_range K) := ⟨f_law_range, d_law_range, p_law_range B F_law_range c_law_take c_law_sign, PySem.W.mg_of X G m_law_range, F_law_range.kp, F_law_range.binds fun _ _ _ _ _ _ us hl => match us, hl with | [_, _], _ => rfl⟩
  have c_law_entry : Callee l.prog w K mg base 4 "_law_entry" P_law_entry (sp_law_entry K) := ⟨f_law_entry, d_law_entry, p_law_entry B F_law_entry c_law_take c_law_sign c_law_range, PySem.W.mg_of X G m_law_entry, F_law_entry.kp, F_law_entry.binds fun _ _ _ _ _ _ us hl => match us, hl with | [_, _], _ => rfl⟩
  have c_law_pattern : Callee l.prog w K mg base 5 "_law_pattern" P_law_pattern (sp_law_pattern K) := ⟨f_law_pattern, d_law_pattern, p_law_pattern B F_law_pattern c_law_take c_law_entry, PySem.W.mg_of X G m_law_pattern, F_law_pattern.kp, F_law_pattern.binds fun _ _ _ _ _ _ us hl => match us, hl with | [_, _, _], _ => rfl⟩
  have c_law_pairs : Callee l.prog w K mg base 3 "_law_pairs" P_law_pairs (sp_law_pairs K) := ⟨f_law_pairs, d_law_pairs, p_law_pairs B F_law_pairs c_law_take c_law_sign c_law_signs, PySem.W.mg_of X G m_law_pairs, F_law_pairs.kp, F_law_pairs.binds fun _ _ _ _ _ _ us hl => match us, hl with | [_, _], _ => rfl⟩
  have c_law_filter : Callee l.prog w K mg base 6 "_law_filter" P_law_filter (sp_law_filter K) := ⟨f_law_filter, d_law_filter, p_law_filter B F_law_filter c_law_take c_law_pattern c_law_pairs, PySem.W.mg_of X G m_law_filter, F_law_filter.kp, F_law_filter.binds fun _ _ _ _ _ _ us hl => match us, hl with | [_, _, _], _ => rfl⟩
  have c_law_row : Callee l.prog w K mg base 7 "_law_row" P_law_row (sp_law_row K) := ⟨f_law_row, d_law_row, p_law_row B F_law_row c_law_take c_law_filter, PySem.W.mg_of X G m_law_row, F_law_row.kp, F_law_row.binds fun _ _ _ _ _ _ us hl => match us, hl with | [_, _, _, _], _ => rfl⟩
  have c_law_changed : Callee l.prog w K mg base 8 "_law_changed" P_law_changed (sp_law_changed K) := ⟨f_law_changed, d_law_changed, p_law_changed B F_law_changed c_law_take c_law_row c_law_filter, PySem.W.mg_of X G m_law_changed, F_law_changed.kp, F_law_changed.binds fun _ _ _ _ _ _ us hl => match us, hl with | [_, _, _], _ => rfl⟩
  have c_is_sign1 : Callee l.prog w K mg base 1 "is_sign_patterns" P_is_sign1 (sp_sign Mk) := ⟨f_is_sign1, d_is_sign1, p_is_sign1 B F_is_sign1, PySem.W.mg_of X G m_is_sign1, F_is_sign1.kp, F_is_sign1.binds fun _ _ _ _ _ _ us hl => match us, hl with | [_], _ => rfl⟩
  have c_is_range : Callee l.prog w K mg base 2 "is_range" P_is_range (sp_is_range K) := ⟨f_is_range, d_is_range, p_is_range B F_is_range c_is_sign1, PySem.W.mg_of X G m_is_range, F_is_range.kp, F_is_range.binds fun _ _ _ _ _ _ us hl => match us, hl with | [_], _ => rfl⟩
  have c_is_entry : Callee l.prog w K mg base 3 "is_entry" P_is_entry (sp_is_entry K) := ⟨f_is_entry, d_is_entry, p_is_entry B F_is_entry c_is_sign1 c_is_range, PySem.W.mg_of X G m_is_entry, F_is_entry.kp, F_is_entry.binds fun _ _ _ _ _ _ us hl => match us, hl with | [_], _ => rfl⟩
  have c_is_pattern : Callee l.prog w K mg base 4 "is_pattern" P_is_pattern (sp_is_pattern K) := ⟨f_is_pattern, d_is_pattern, p_is_pattern B F_is_pattern c_is_entry, PySem.W.mg_of X G m_is_pattern, F_is_pattern.kp, F_is_pattern.binds fun _ _ _ _ _ _ us hl => match us, hl with | [_], _ => rfl⟩
  have c_is_sign2 : Callee l.prog w K mg base 1 "is_sign_filters" P_is_sign2 (sp_sign Sgn) := ⟨f_is_sign2, d_is_sign2, p_is_sign2 B F_is_sign2, PySem.W.mg_of X G m_is_sign2, F_is_sign2.kp, F_is_sign2.binds fun _ _ _ _ _ _ us hl => match us, hl with | [_], _ => rfl⟩
  have c_is_pairs : Callee l.prog w K mg base 2 "is_pairs" P_is_pairs (sp_is_pairs K) := ⟨f_is_pairs, d_is_pairs, p_is_pairs B F_is_pairs c_is_sign2, PySem.W.mg_of X G m_is_pairs, F_is_pairs.kp, F_is_pairs.binds fun _ _ _ _ _ _ us hl => match us, hl with | [_], _ => rfl⟩
  have c_is_filter : Callee l.prog w K mg base 5 "is_filter" P_is_filter (sp_is_filter K) := ⟨f_is_filter, d_is_filter, p_is_filter B F_is_filter c_is_pattern c_is_pairs, PySem.W.mg_of X G m_is_filter, F_is_filter.kp, F_is_filter.binds fun _ _ _ _ _ _ us hl => match us, hl with | [_], _ => rfl⟩
  have c_is_row : Callee l.prog w K mg base 6 "is_row" P_is_row (sp_is_row K) := ⟨f_is_row, d_is_row, p_is_row B F_is_row c_is_filter, PySem.W.mg_of X G m_is_row, F_is_row.kp, F_is_row.binds fun _ _ _ _ _ _ us hl => match us, hl with | [_], _ => rfl⟩
  have c_check_compared : Callee l.prog w K mg base 7 "check_compared" P_check_compared (sp_check K) := ⟨f_check_compared, d_check_compared, p_check_compared B F_check_compared c_is_row, PySem.W.mg_of X G m_check_compared, F_check_compared.kp, F_check_compared.binds fun _ _ _ _ _ _ us hl => match us, hl with | [_], _ => rfl⟩
  have c_steps_of : Callee l.prog w K mg base 1 "steps_of" P_steps_of (sp_steps_of K) := ⟨f_steps_of, d_steps_of, p_steps_of B F_steps_of, PySem.W.mg_of X G m_steps_of, F_steps_of.kp, F_steps_of.binds fun _ _ _ _ _ _ us hl => match us, hl with | [_, _], _ => rfl⟩
  have c_takes : Callee l.prog w K mg base 1 "takes" P_takes (sp_takes K) := ⟨f_takes, d_takes, p_takes B F_takes, PySem.W.mg_of X G m_takes, F_takes.kp, F_takes.binds fun _ _ _ _ _ _ us hl => match us, hl with | [_, _], _ => rfl⟩
  have c_advanced : Callee l.prog w K mg base 2 "advanced" P_advanced (sp_advanced K) := ⟨f_advanced, d_advanced, p_advanced B F_advanced c_takes, PySem.W.mg_of X G m_advanced, F_advanced.kp, F_advanced.binds fun _ _ _ _ _ _ us hl => match us, hl with | [_, _, _], _ => rfl⟩
  have c_after_sign : Callee l.prog w K mg base 3 "after_sign" P_after_sign (sp_after_sign l.prog w K) := ⟨f_after_sign, d_after_sign, p_after_sign B F_after_sign c_advanced, PySem.W.mg_of X G m_after_sign, F_after_sign.kp, F_after_sign.binds fun _ _ _ _ _ _ us hl => match us, hl with | [_, _, _, _, _], _ => rfl⟩
  have c_start_reach : Callee l.prog w K mg base 1 "start_reach" P_start_reach (sp_start_reach K) := ⟨f_start_reach, d_start_reach, p_start_reach B F_start_reach, PySem.W.mg_of X G m_start_reach, F_start_reach.kp, F_start_reach.binds fun _ _ _ _ _ _ us hl => match us, hl with | [_], _ => rfl⟩
  have c_start_state : Callee l.prog w K mg base 2 "start_state" P_start_state (sp_start_state K) := ⟨f_start_state, d_start_state, p_start_state B F_start_state c_start_reach, PySem.W.mg_of X G m_start_state, F_start_state.kp, F_start_state.binds fun _ _ _ _ _ _ us hl => match us, hl with | [_], _ => rfl⟩
  have c_sign_classes : Callee l.prog w K mg base 2 "sign_classes" P_sign_classes (sp_sign_classes K) := ⟨f_sign_classes, d_sign_classes, p_sign_classes B F_sign_classes c_takes, PySem.W.mg_of X G m_sign_classes, F_sign_classes.kp, F_sign_classes.binds fun _ _ _ _ _ _ us hl => match us, hl with | [_, _], _ => rfl⟩
  have c_line_classes : Callee l.prog w K mg base 4 "line_classes" P_line_classes (sp_line_classes l.prog w K) := ⟨f_line_classes, d_line_classes, p_line_classes B F_line_classes c_after_sign c_start_state c_sign_classes, PySem.W.mg_of X G m_line_classes, F_line_classes.kp, F_line_classes.binds fun _ _ _ _ _ _ us hl => match us, hl with | [_, _], _ => rfl⟩
  have c_numbers_of : Callee l.prog w K mg base 1 "numbers_of" P_numbers_of (sp_numbers_of K) := ⟨f_numbers_of, d_numbers_of, p_numbers_of B F_numbers_of, PySem.W.mg_of X G m_numbers_of, F_numbers_of.kp, F_numbers_of.binds fun _ _ _ _ _ _ us hl => match us, hl with | [_], _ => rfl⟩
  have c_put_through : Callee l.prog w K mg base 1 "put_through" P_put_through (sp_put_through K) := ⟨f_put_through, d_put_through, p_put_through B F_put_through, PySem.W.mg_of X G m_put_through, F_put_through.kp, F_put_through.binds fun _ _ _ _ _ _ us hl => match us, hl with | [_, _, _], _ => rfl⟩
  have c_parting_lines : Callee l.prog w K mg base 5 "parting_lines" P_parting_lines (sp_parting_lines K) := ⟨f_parting_lines, d_parting_lines, p_parting_lines B F_parting_lines c_steps_of c_line_classes c_numbers_of c_put_through, PySem.W.mg_of X G m_parting_lines, F_parting_lines.kp, F_parting_lines.binds fun _ _ _ _ _ _ us hl => match us, hl with | [_, _], _ => rfl⟩
  have c_first_parted : Callee l.prog w K mg base 8 "first_parted" P_first_parted (sp_parting_lines K) := ⟨f_first_parted, d_first_parted, p_first_parted B F_first_parted c_check_compared c_parting_lines, PySem.W.mg_of X G m_first_parted, F_first_parted.kp, F_first_parted.binds fun _ _ _ _ _ _ us hl => match us, hl with | [_, _], _ => rfl⟩
  have c_alike : Callee l.prog w K mg base 9 "alike" P_alike (sp_alike K) := ⟨f_alike, d_alike, p_alike B F_alike c_first_parted, PySem.W.mg_of X G m_alike, F_alike.kp, F_alike.binds fun _ _ _ _ _ _ us hl => match us, hl with | [_, _], _ => rfl⟩
  have c_law_pool : Callee l.prog w K mg base 3 "_law_pool" P_law_pool (sp_law_pool K) := ⟨f_law_pool, d_law_pool, p_law_pool B F_law_pool c_law_sign, PySem.W.mg_of X G m_law_pool, F_law_pool.kp, F_law_pool.binds fun _ _ _ _ _ _ us hl => match us, hl with | [_, _], _ => rfl⟩
  have c_law_line : Callee l.prog w K mg base 3 "_law_line" P_law_line (sp_law_line K) := ⟨f_law_line, d_law_line, p_law_line B F_law_line c_law_take c_law_sign, PySem.W.mg_of X G m_law_line, F_law_line.kp, F_law_line.binds fun _ _ _ _ _ _ us hl => match us, hl with | [_, _], _ => rfl⟩
  have c_law_lines : Callee l.prog w K mg base 4 "_law_lines" P_law_lines (sp_law_lines K) := ⟨f_law_lines, d_law_lines, p_law_lines B F_law_lines c_law_hand c_law_cell c_law_take c_law_line, PySem.W.mg_of X G m_law_lines, F_law_lines.kp, F_law_lines.binds fun _ _ _ _ _ _ us hl => match us, hl with | [_, _, _, _], _ => rfl⟩
  have c_law_swapped : Callee l.prog w K mg base 1 "_law_swapped" P_law_swapped (sp_law_swapped K) := ⟨f_law_swapped, d_law_swapped, p_law_swapped B F_law_swapped, PySem.W.mg_of X G m_law_swapped, F_law_swapped.kp, F_law_swapped.binds fun _ _ _ _ _ _ us hl => match us, hl with | [_, _], _ => rfl⟩
  have c_law_fits : Callee l.prog w K mg base 1 "_law_fits" P_law_fits (sp_takes K) := ⟨f_law_fits, d_law_fits, p_law_fits B F_law_fits, PySem.W.mg_of X G m_law_fits, F_law_fits.kp, F_law_fits.binds fun _ _ _ _ _ _ us hl => match us, hl with | [_, _], _ => rfl⟩
  have c_law_meets : Callee l.prog w K mg base 2 "_law_meets" P_law_meets (sp_law_meets K) := ⟨f_law_meets, d_law_meets, p_law_meets B F_law_meets c_law_fits, PySem.W.mg_of X G m_law_meets, F_law_meets.kp, F_law_meets.binds fun _ _ _ _ _ _ us hl => match us, hl with | [_, _], _ => rfl⟩
  have c_law_passed : Callee l.prog w K mg base 3 "_law_passed" P_law_passed (sp_law_passed K) := ⟨f_law_passed, d_law_passed, p_law_passed B F_law_passed c_law_swapped c_law_meets, PySem.W.mg_of X G m_law_passed, F_law_passed.kp, F_law_passed.binds fun _ _ _ _ _ _ us hl => match us, hl with | [_, _], _ => rfl⟩
  have c_law_written : Callee l.prog w K mg base 4 "_law_written" P_law_written (sp_law_written K) := ⟨f_law_written, d_law_written, p_law_written B F_law_written c_law_passed, PySem.W.mg_of X G m_law_written, F_law_written.kp, F_law_written.binds fun _ _ _ _ _ _ us hl => match us, hl with | [_, _], _ => rfl⟩
  have c_law_parts : Callee l.prog w K mg base 5 "_law_parts" P_law_parts (sp_law_parts K) := ⟨f_law_parts, d_law_parts, p_law_parts B F_law_parts c_law_written, PySem.W.mg_of X G m_law_parts, F_law_parts.kp, F_law_parts.binds fun _ _ _ _ _ _ us hl => match us, hl with | [_, _, _], _ => rfl⟩
  have c_law_is_list : Callee l.prog w K mg base 1 "_law_is_list" P_law_is_list (sp_law_is_list K) := ⟨f_law_is_list, d_law_is_list, p_law_is_list B F_law_is_list, PySem.W.mg_of X G m_law_is_list, F_law_is_list.kp, F_law_is_list.binds fun _ _ _ _ _ _ us hl => match us, hl with | [_], _ => rfl⟩
  have c_law_rank : Callee l.prog w K mg base 1 "_law_rank" P_law_rank (sp_law_rank K) := ⟨f_law_rank, d_law_rank, p_law_rank B F_law_rank, PySem.W.mg_of X G m_law_rank, F_law_rank.kp, F_law_rank.binds fun _ _ _ _ _ _ us hl => match us, hl with | [_], _ => rfl⟩
  exact p_law B F_law c_law_hand c_law_cell c_law_letters c_law_row c_law_changed c_first_parted c_alike c_law_pool c_law_lines c_law_parts c_law_is_list c_law_rank
theorem bi_mk {K : PySem.W.Frag} {h : Heap} {mg : Str → Option Value} (X : K.In h) (G : h.Ns mainGlobals mg) {t1 t2 : Tok} {a1 a2 : Addr} {od1 od2 : Option Addr} {sl1 sl2 : Array (Option Value)} {n1 n2 : Nat} {x1 x2 x3 x4 y1 y2 y3 y4 : Tok}
    (m1 : PySem.W.nsIn K mainGlobals "SIGNS_marks" = some (some (.str marksT t1))) (m2 : PySem.W.nsIn K mainGlobals "SIGNS_linetests" = some (some (.str lineT t2)))
    (m3 : PySem.W.nsIn K mainGlobals "PLAIN" = some (some (.ref a1))) (l1 : K.lookup a1 = some ⟨.type "tuple", od1, .seq #[.str "order" x1, .str "once" x2, .str "count" x3, .str "number" x4] n1, sl1⟩)
    (m4 : PySem.W.nsIn K mainGlobals "COMPARED" = some (some (.ref a2))) (l2 : K.lookup a2 = some ⟨.type "tuple", od2, .seq #[.str "keep" y1, .str "drop" y2, .str "swap" y3, .str "first" y4] n2, sl2⟩)
    (z_len : PySem.W.nsIn K mainGlobals "len" = some none) (z_isinstance : PySem.W.nsIn K mainGlobals "isinstance" = some none) (z_int : PySem.W.nsIn K mainGlobals "int" = some none) (z_str : PySem.W.nsIn K mainGlobals "str" = some none) (z_list : PySem.W.nsIn K mainGlobals "list" = some none) (z_tuple : PySem.W.nsIn K mainGlobals "tuple" = some none) (z_bool : PySem.W.nsIn K mainGlobals "bool" = some none) (z_any : PySem.W.nsIn K mainGlobals "any" = some none) (z_all : PySem.W.nsIn K mainGlobals "all" = some none) (z_range : PySem.W.nsIn K mainGlobals "range" = some none) (z_enumerate : PySem.W.nsIn K mainGlobals "enumerate" = some none) (z_min : PySem.W.nsIn K mainGlobals "min" = some none) (z_max : PySem.W.nsIn K mainGlobals "max" = some none) (z_sorted : PySem.W.nsIn K mainGlobals "sorted" = some none) (z_repr : PySem.W.nsIn K mainGlobals "repr" = some none) : Nonempty (Bi K mg) := ⟨{
  SIGNS_marks := ⟨t1, PySem.W.mg_of X G m1⟩
  SIGNS_linetests := ⟨t2, PySem.W.mg_of X G m2⟩
  PLAIN := ⟨a1, PySem.W.mg_of X G m3, fun H => .inr ⟨_, _, _, l1, rfl, rfl, (show 4 ≤ sizeLine by decide), .cons ⟨_, rfl⟩ (.cons ⟨_, rfl⟩ (.cons ⟨_, rfl⟩ (.cons ⟨_, rfl⟩ .nil)))⟩⟩
  COMPARED := ⟨a2, PySem.W.mg_of X G m4, fun H => .inr ⟨_, _, _, l2, rfl, rfl, (show 4 ≤ sizeLine by decide), .cons ⟨_, rfl⟩ (.cons ⟨_, rfl⟩ (.cons ⟨_, rfl⟩ (.cons ⟨_, rfl⟩ .nil)))⟩⟩
  len_ := PySem.W.mg_none_of X G z_len
  isinstance_ := PySem.W.mg_none_of X G z_isinstance
  int_ := PySem.W.mg_none_of X G z_int
  str_ := PySem.W.mg_none_of X G z_str
  list_ := PySem.W.mg_none_of X G z_list
  tuple_ := PySem.W.mg_none_of X G z_tuple
  bool_ := PySem.W.mg_none_of X G z_bool
  any_ := PySem.W.mg_none_of X G z_any
  all_ := PySem.W.mg_none_of X G z_all
  range_ := PySem.W.mg_none_of X G z_range
  enumerate_ := PySem.W.mg_none_of X G z_enumerate
  min_ := PySem.W.mg_none_of X G z_min
  max_ := PySem.W.mg_none_of X G z_max
  sorted_ := PySem.W.mg_none_of X G z_sorted
  repr_ := PySem.W.mg_none_of X G z_repr
}⟩
theorem law_hyp (K : PySem.W.Frag) (H : Hp) (a : Addr) (ns : List Int) (hS : SqL K H a (ns.map V.int)) : sp_law K [.ref a] H (fun v _ => v = .bl true) fun _ _ _ => False := ⟨a, ns, rfl, Dp.lst hS (ints_da ns), fun _ => rfl⟩
end QP

open PySem PySem.W PyProof.Rows
set_option maxHeartbeats 0 in
theorem PySem.Challenge.cw_quotedback_k59_whole_first_list_that_par_holds : PySem.Challenge.rw_quotedback_k59_whole_first_list_that_par.Holds := by
  w_on; o_law; k_head; (case hw => w_witness2)
  k_fill
  refine QR.walk_at (l := PySem.Challenge.rw_quotedback_k59_whole_first_list_that_par) (n := 63) (k := 10) (x := "_law_script") (sp := fun w => QP.sp_law _) rfl (by decide) rfl ⟨rfl, by decide, by decide⟩ (fun w h Y => PySem.W.kIn_of Y) ?F (fun _ _ a ns _ _ hS => QP.law_hyp _ _ a ns hS)
  case F =>
    intro w mg fa h KX G hmg
    have B := by refine' QP.bi_mk KX G ?m1 ?m2 ?m3 ?l1 ?m4 ?l2 ?z_len ?z_isinstance ?z_int ?z_str ?z_list ?z_tuple ?z_bool ?z_any ?z_all ?z_range ?z_enumerate ?z_min ?z_max ?z_sorted ?z_repr; (case m1 => k_is); (case m2 => k_is); (case m3 => k_is); (case l1 => k_is); (case m4 => k_is); (case l2 => k_is); (case z_len => k_is); (case z_isinstance => k_is); (case z_int => k_is); (case z_str => k_is); (case z_list => k_is); (case z_tuple => k_is); (case z_bool => k_is); (case z_any => k_is); (case z_all => k_is); (case z_range => k_is); (case z_enumerate => k_is); (case z_min => k_is); (case z_max => k_is); (case z_sorted => k_is); (case z_repr => k_is)
    obtain ⟨B⟩ := B
    refine QP.all_mk KX G hmg B ⟨?h_law_hand, ?h_law_cell, ?h_law_take, ?h_law_signs, ?h_law_letters, ?h_law_sign, ?h_law_range, ?h_law_entry, ?h_law_pattern, ?h_law_pairs, ?h_law_filter, ?h_law_row, ?h_law_changed, ?h_is_sign1, ?h_is_range, ?h_is_entry, ?h_is_pattern, ?h_is_sign2, ?h_is_pairs, ?h_is_filter, ?h_is_row, ?h_check_compared, ?h_steps_of, ?h_takes, ?h_advanced, ?h_after_sign, ?h_start_reach, ?h_start_state, ?h_sign_classes, ?h_line_classes, ?h_numbers_of, ?h_put_through, ?h_parting_lines, ?h_first_parted, ?h_alike, ?h_law_pool, ?h_law_line, ?h_law_lines, ?h_law_swapped, ?h_law_fits, ?h_law_meets, ?h_law_passed, ?h_law_written, ?h_law_parts, ?h_law_is_list, ?h_law_rank, ?h_law⟩
    case h_law_hand => (refine' QP.stands_mk ?a ?l ?c ?k; (case a => k_is); (case l => k_is); (case c => k_is); (case k => k_is))
    case h_law_cell => (refine' QP.stands_mk ?a ?l ?c ?k; (case a => k_is); (case l => k_is); (case c => k_is); (case k => k_is))
    case h_law_take => (refine' QP.stands_mk ?a ?l ?c ?k; (case a => k_is); (case l => k_is); (case c => k_is); (case k => k_is))
    case h_law_signs => (refine' QP.stands_mk ?a ?l ?c ?k; (case a => k_is); (case l => k_is); (case c => k_is); (case k => k_is))
    case h_law_letters => (refine' QP.stands_mk ?a ?l ?c ?k; (case a => k_is); (case l => k_is); (case c => k_is); (case k => k_is))
    case h_law_sign => (refine' QP.stands_mk ?a ?l ?c ?k; (case a => k_is); (case l => k_is); (case c => k_is); (case k => k_is))
    case h_law_range => (refine' QP.stands_mk ?a ?l ?c ?k; (case a => k_is); (case l => k_is); (case c => k_is); (case k => k_is))
    case h_law_entry => (refine' QP.stands_mk ?a ?l ?c ?k; (case a => k_is); (case l => k_is); (case c => k_is); (case k => k_is))
    case h_law_pattern => (refine' QP.stands_mk ?a ?l ?c ?k; (case a => k_is); (case l => k_is); (case c => k_is); (case k => k_is))
    case h_law_pairs => (refine' QP.stands_mk ?a ?l ?c ?k; (case a => k_is); (case l => k_is); (case c => k_is); (case k => k_is))
    case h_law_filter => (refine' QP.stands_mk ?a ?l ?c ?k; (case a => k_is); (case l => k_is); (case c => k_is); (case k => k_is))
    case h_law_row => (refine' QP.stands_mk ?a ?l ?c ?k; (case a => k_is); (case l => k_is); (case c => k_is); (case k => k_is))
    case h_law_changed => (refine' QP.stands_mk ?a ?l ?c ?k; (case a => k_is); (case l => k_is); (case c => k_is); (case k => k_is))
    case h_is_sign1 => (refine' QP.stands_mk ?a ?l ?c ?k; (case a => k_is); (case l => k_is); (case c => k_is); (case k => k_is))
    case h_is_range => (refine' QP.stands_mk ?a ?l ?c ?k; (case a => k_is); (case l => k_is); (case c => k_is); (case k => k_is))
    case h_is_entry => (refine' QP.stands_mk ?a ?l ?c ?k; (case a => k_is); (case l => k_is); (case c => k_is); (case k => k_is))
    case h_is_pattern => (refine' QP.stands_mk ?a ?l ?c ?k; (case a => k_is); (case l => k_is); (case c => k_is); (case k => k_is))
    case h_is_sign2 => (refine' QP.stands_mk ?a ?l ?c ?k; (case a => k_is); (case l => k_is); (case c => k_is); (case k => k_is))
    case h_is_pairs => (refine' QP.stands_mk ?a ?l ?c ?k; (case a => k_is); (case l => k_is); (case c => k_is); (case k => k_is))
    case h_is_filter => (refine' QP.stands_mk ?a ?l ?c ?k; (case a => k_is); (case l => k_is); (case c => k_is); (case k => k_is))
    case h_is_row => (refine' QP.stands_mk ?a ?l ?c ?k; (case a => k_is); (case l => k_is); (case c => k_is); (case k => k_is))
    case h_check_compared => (refine' QP.stands_mk ?a ?l ?c ?k; (case a => k_is); (case l => k_is); (case c => k_is); (case k => k_is))
    case h_steps_of => (refine' QP.stands_mk ?a ?l ?c ?k; (case a => k_is); (case l => k_is); (case c => k_is); (case k => k_is))
    case h_takes => (refine' QP.stands_mk ?a ?l ?c ?k; (case a => k_is); (case l => k_is); (case c => k_is); (case k => k_is))
    case h_advanced => (refine' QP.stands_mk ?a ?l ?c ?k; (case a => k_is); (case l => k_is); (case c => k_is); (case k => k_is))
    case h_after_sign => (refine' QP.stands_mk ?a ?l ?c ?k; (case a => k_is); (case l => k_is); (case c => k_is); (case k => k_is))
    case h_start_reach => (refine' QP.stands_mk ?a ?l ?c ?k; (case a => k_is); (case l => k_is); (case c => k_is); (case k => k_is))
    case h_start_state => (refine' QP.stands_mk ?a ?l ?c ?k; (case a => k_is); (case l => k_is); (case c => k_is); (case k => k_is))
    case h_sign_classes => (refine' QP.stands_mk ?a ?l ?c ?k; (case a => k_is); (case l => k_is); (case c => k_is); (case k => k_is))
    case h_line_classes => (refine' QP.stands_mk ?a ?l ?c ?k; (case a => k_is); (case l => k_is); (case c => k_is); (case k => k_is))
    case h_numbers_of => (refine' QP.stands_mk ?a ?l ?c ?k; (case a => k_is); (case l => k_is); (case c => k_is); (case k => k_is))
    case h_put_through => (refine' QP.stands_mk ?a ?l ?c ?k; (case a => k_is); (case l => k_is); (case c => k_is); (case k => k_is))
    case h_parting_lines => (refine' QP.stands_mk ?a ?l ?c ?k; (case a => k_is); (case l => k_is); (case c => k_is); (case k => k_is))
    case h_first_parted => (refine' QP.stands_mk ?a ?l ?c ?k; (case a => k_is); (case l => k_is); (case c => k_is); (case k => k_is))
    case h_alike => (refine' QP.stands_mk ?a ?l ?c ?k; (case a => k_is); (case l => k_is); (case c => k_is); (case k => k_is))
    case h_law_pool => (refine' QP.stands_mk ?a ?l ?c ?k; (case a => k_is); (case l => k_is); (case c => k_is); (case k => k_is))
    case h_law_line => (refine' QP.stands_mk ?a ?l ?c ?k; (case a => k_is); (case l => k_is); (case c => k_is); (case k => k_is))
    case h_law_lines => (refine' QP.stands_mk ?a ?l ?c ?k; (case a => k_is); (case l => k_is); (case c => k_is); (case k => k_is))
    case h_law_swapped => (refine' QP.stands_mk ?a ?l ?c ?k; (case a => k_is); (case l => k_is); (case c => k_is); (case k => k_is))
    case h_law_fits => (refine' QP.stands_mk ?a ?l ?c ?k; (case a => k_is); (case l => k_is); (case c => k_is); (case k => k_is))
    case h_law_meets => (refine' QP.stands_mk ?a ?l ?c ?k; (case a => k_is); (case l => k_is); (case c => k_is); (case k => k_is))
    case h_law_passed => (refine' QP.stands_mk ?a ?l ?c ?k; (case a => k_is); (case l => k_is); (case c => k_is); (case k => k_is))
    case h_law_written => (refine' QP.stands_mk ?a ?l ?c ?k; (case a => k_is); (case l => k_is); (case c => k_is); (case k => k_is))
    case h_law_parts => (refine' QP.stands_mk ?a ?l ?c ?k; (case a => k_is); (case l => k_is); (case c => k_is); (case k => k_is))
    case h_law_is_list => (refine' QP.stands_mk ?a ?l ?c ?k; (case a => k_is); (case l => k_is); (case c => k_is); (case k => k_is))
    case h_law_rank => (refine' QP.stands_mk ?a ?l ?c ?k; (case a => k_is); (case l => k_is); (case c => k_is); (case k => k_is))
    case h_law => (refine' QP.stands_mk ?a ?l ?c ?k; (case a => k_is); (case l => k_is); (case c => k_is); (case k => k_is))
