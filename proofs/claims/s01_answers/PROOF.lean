import PyProof.Rows.All
import Wide.All
import OpenK.AllK
import Wide.FinOn
import Open.SpecLaws
import KE.OsHead
import KE.OsGo
import HandS.ForSpec
import HandS.Comp
import HandS.Iter
import PyWideLaws
import PySem.Challenge.RW_matchedhides_s01_answers
set_option Elab.async false
set_option linter.all false
set_option maxRecDepth 100000
set_option maxHeartbeats 4000000
/-! The mirror: the program's defs as plain Lean functions over lists of numbered hides, and their equality with the specification's functions. -/
namespace MH
open Kp394

abbrev Itm := Nat × Hide
def noHide : Hide := ⟨0, 0, 0⟩
def noIt : Itm := (0, noHide)

def isAhead (a b : Hide) : Bool := if a.kind = b.kind then decide (a.thickness ≤ b.thickness) else decide (a.kind < b.kind)
def placeOf (o : List Itm) (h : Hide) : Nat := (o.takeWhile fun x => isAhead x.2 h).length
def placed (o : List Itm) (n : Nat) (h : Hide) : List Itm := o.take (placeOf o h) ++ [(n, h)] ++ o.drop (placeOf o h)
def orderedN (hs : List Hide) : Nat → List Itm
  | 0 => []
  | i + 1 => placed (orderedN hs i) i (hs.getD i noHide)
def ordered (hs : List Hide) : List Itm := orderedN hs hs.length
def alike (a b : Hide) (t : Nat) : Bool := decide (a.kind = b.kind) && decide (a.thickness ≤ b.thickness + t) && decide (b.thickness ≤ a.thickness + t)
def fitsAll (h : Hide) (o : List Itm) (t : Nat) : Bool := o.all fun x => alike h x.2 t
def allFit (o : List Itm) (t : Nat) : Bool := (List.range o.length).all fun p => fitsAll (o.getD p noIt).2 (o.take p) t
def greedyStep (t s : Nat) (lots : List (List Itm)) (x : Itm) : List (List Itm) := match lots.getLast? with
  | none => lots ++ [[x]]
  | some l => if decide (l.length < s) && fitsAll x.2 l t then lots.dropLast ++ [l ++ [x]] else lots ++ [[x]]
def greedy (o : List Itm) (t s : Nat) : List (List Itm) := o.foldl (greedyStep t s) []
def incStep (t : Nat) (found : List Itm) (x : Itm) : List Itm := match found.getLast? with
  | none => found ++ [x]
  | some y => if alike x.2 y.2 t then found else found ++ [x]
def incompatible (o : List Itm) (t : Nat) : List Itm := o.foldl (incStep t) []
def areaOf (o : List Itm) : Nat := (o.map fun x => x.2.area).sum
def before (run : List Itm) (p q : Nat) : Bool := decide ((run.getD p noIt).2.area < (run.getD q noIt).2.area) || (decide ((run.getD q noIt).2.area = (run.getD p noIt).2.area) && decide (q < p))
def rank (run : List Itm) (p : Nat) : Nat := ((List.range run.length).filter (before run p)).length
def largestPart (run : List Itm) (s : Nat) : List Itm := ((List.range run.length).filter fun p => decide (rank run p < s)).map fun p => run.getD p noIt
def runsAt (o : List Itm) (t f : Nat) : List (List Itm) := ((List.range (o.length - f)).map fun n => (o.drop f).take (n + 1)).filter (allFit · t)
def runsOf (o : List Itm) (t : Nat) : List (List Itm) := (List.range o.length).flatMap (runsAt o t)
def largeStep (s : Nat) (best run : List Itm) : List Itm := if areaOf best < areaOf (largestPart run s) then largestPart run s else best
def largest (o : List Itm) (t s : Nat) : List Itm := (runsOf o t).foldl (largeStep s) []
def thick (o : List Itm) (p : Nat) : Int := ((o.getD p noIt).2.thickness : Int)
def diffN (o : List Itm) : Nat → Int
  | 0 => 0
  | k + 1 => diffN o k + (thick o (2 * k + 1) - thick o (2 * k))
def diff (o : List Itm) : Int := diffN o (o.length / 2)
def without (o : List Itm) (p : Nat) : List Itm := o.take p ++ o.drop (p + 1)
def leftStep (o : List Itm) (best p : Nat) : Nat := if diff (without o p) < diff (without o best) then p else best
def leftPlace (o : List Itm) : Nat := (List.range (o.length - 1)).foldl (fun best p => leftStep o best (p + 1)) 0
def ofKind (o : List Itm) (k : Nat) : List Itm := o.filter fun x => decide (x.2.kind = k)
def bestPairsOf (o : List Itm) (k : Nat) : List Itm × List Itm :=
  if (ofKind o k).length % 2 = 0 then (ofKind o k, []) else (without (ofKind o k) (leftPlace (ofKind o k)), [(ofKind o k).getD (leftPlace (ofKind o k)) noIt])
def leastTol (o : List Itm) (s n : Nat) : Option Nat := (List.range 61).find? fun t => decide ((greedy o t s).length ≤ n)

/-! ### the hide order -/
def tag (v : Inventory) (l : List Nat) : List Itm := l.map fun i => (i, hideAt v i)

theorem cb_iff (v : Inventory) (i j : Nat) : comesBefore v i j = true ↔ (hideAt v i).kind < (hideAt v j).kind ∨ ((hideAt v i).kind = (hideAt v j).kind ∧ ((hideAt v i).thickness < (hideAt v j).thickness ∨ ((hideAt v i).thickness = (hideAt v j).thickness ∧ i < j))) := by
  unfold comesBefore
  simp

theorem cb_trans (v : Inventory) {i j k : Nat} (h1 : comesBefore v i j = true) (h2 : comesBefore v j k = true) : comesBefore v i k = true := by
  rw [cb_iff] at *
  omega
theorem cb_total (v : Inventory) {i j : Nat} (h : comesBefore v i j = false) (hne : i ≠ j) : comesBefore v j i = true := by
  have h' : ¬ comesBefore v i j = true := by rw [h]; decide
  rw [cb_iff] at *
  omega
theorem cb_asymm (v : Inventory) {i j : Nat} (h1 : comesBefore v i j = true) (h2 : comesBefore v j i = true) : False := by
  rw [cb_iff] at *
  omega

theorem insert_perm (v : Inventory) (i : Nat) : ∀ l : List Nat, (insertHide v i l).Perm (i :: l)
  | [] => List.Perm.refl _
  | j :: r => by
    unfold insertHide
    split
    · exact List.Perm.refl _
    · exact ((insert_perm v i r).cons j).trans (List.Perm.swap i j r)
theorem insert_sorted (v : Inventory) (i : Nat) : ∀ l : List Nat, i ∉ l → l.Pairwise (fun a b => comesBefore v a b = true) → (insertHide v i l).Pairwise (fun a b => comesBefore v a b = true)
  | [], _, _ => by unfold insertHide; simp
  | j :: r, hn, hs => by
    unfold insertHide
    rw [List.pairwise_cons] at hs
    split
    · rename_i hc
      refine List.pairwise_cons.mpr ⟨fun a ha => ?_, List.pairwise_cons.mpr hs⟩
      rcases List.mem_cons.mp ha with rfl | ha
      · exact hc
      · exact cb_trans v hc (hs.1 a ha)
    · rename_i hc
      have hji : comesBefore v j i = true := cb_total v (by simpa using hc) (fun e => hn (by rw [e]; exact List.mem_cons_self))
      refine List.pairwise_cons.mpr ⟨fun a ha => ?_, insert_sorted v i r (fun h => hn (List.mem_cons_of_mem _ h)) hs.2⟩
      rcases List.mem_cons.mp ((insert_perm v i r).mem_iff.mp ha) with rfl | ha
      · exact hji
      · exact hs.1 a ha
theorem foldr_perm (v : Inventory) : ∀ l : List Nat, (l.foldr (insertHide v) []).Perm l
  | [] => List.Perm.refl _
  | i :: l => (insert_perm v i _).trans ((foldr_perm v l).cons i)
theorem foldr_sorted (v : Inventory) : ∀ l : List Nat, l.Nodup → (l.foldr (insertHide v) []).Pairwise (fun a b => comesBefore v a b = true)
  | [], _ => List.Pairwise.nil
  | i :: l, h => by
    rw [List.nodup_cons] at h
    exact insert_sorted v i _ (fun z => h.1 ((foldr_perm v l).mem_iff.mp z)) (foldr_sorted v l h.2)

/-- the program's order, the numbers alone -/
def placedI (v : Inventory) (o : List Nat) (n : Nat) : List Nat := o.takeWhile (fun j => isAhead (hideAt v j) (hideAt v n)) ++ [n] ++ o.dropWhile (fun j => isAhead (hideAt v j) (hideAt v n))
def orderedI (v : Inventory) : Nat → List Nat
  | 0 => []
  | i + 1 => placedI v (orderedI v i) i

theorem take_takeWhile {α : Type} (p : α → Bool) : ∀ l : List α, l.take (l.takeWhile p).length = l.takeWhile p
  | [] => rfl
  | a :: l => by
    rw [List.takeWhile_cons]
    split
    · rw [List.length_cons, List.take_succ_cons, take_takeWhile p l]
    · rfl
theorem drop_takeWhile {α : Type} (p : α → Bool) : ∀ l : List α, l.drop (l.takeWhile p).length = l.dropWhile p
  | [] => rfl
  | a :: l => by
    rw [List.takeWhile_cons, List.dropWhile_cons]
    split
    · rw [List.length_cons, List.drop_succ_cons, drop_takeWhile p l]
    · rfl
theorem placed_eq (o : List Itm) (n : Nat) (h : Hide) : placed o n h = o.takeWhile (fun x => isAhead x.2 h) ++ [(n, h)] ++ o.dropWhile (fun x => isAhead x.2 h) := by
  unfold placed placeOf
  rw [take_takeWhile, drop_takeWhile]
theorem tag_placedI (v : Inventory) (o : List Nat) (n : Nat) : placed (tag v o) n (hideAt v n) = tag v (placedI v o n) := by
  rw [placed_eq]
  unfold placedI tag
  rw [List.takeWhile_map, List.dropWhile_map, List.map_append, List.map_append]
  rfl
theorem orderedN_tag (v : Inventory) : ∀ i, i ≤ v.hides.length → orderedN v.hides i = tag v (orderedI v i)
  | 0, _ => rfl
  | i + 1, h => by
    have e : v.hides.getD i noHide = hideAt v i := rfl
    rw [orderedN, orderedN_tag v i (by omega), e, tag_placedI]
    rfl
theorem isAhead_iff (a b : Hide) : isAhead a b = true ↔ a.kind < b.kind ∨ (a.kind = b.kind ∧ a.thickness ≤ b.thickness) := by
  unfold isAhead
  split <;> rename_i h <;> simp [h] <;> omega
theorem placedI_perm (v : Inventory) (o : List Nat) (n : Nat) : (placedI v o n).Perm (n :: o) := by
  unfold placedI
  have h : (o.takeWhile (fun j => isAhead (hideAt v j) (hideAt v n)) ++ [n] ++ o.dropWhile (fun j => isAhead (hideAt v j) (hideAt v n))).Perm (n :: (o.takeWhile (fun j => isAhead (hideAt v j) (hideAt v n)) ++ o.dropWhile (fun j => isAhead (hideAt v j) (hideAt v n)))) := by
    rw [List.append_assoc]
    exact List.perm_middle
  rw [List.takeWhile_append_dropWhile] at h
  exact h
theorem orderedI_perm (v : Inventory) : ∀ i, (orderedI v i).Perm (List.range i)
  | 0 => List.Perm.refl _
  | i + 1 => by
    refine (placedI_perm v _ i).trans ?_
    rw [List.range_succ]
    exact ((orderedI_perm v i).cons i).trans (List.perm_append_comm (l₁ := [i]) (l₂ := List.range i))
theorem dropWhile_not {v : Inventory} {n : Nat} : ∀ {o : List Nat}, o.Pairwise (fun a b => comesBefore v a b = true) → ∀ j ∈ o.dropWhile (fun j => isAhead (hideAt v j) (hideAt v n)), isAhead (hideAt v j) (hideAt v n) = false
  | [], _, j, h => by simp at h
  | a :: o, hs, j, h => by
    rw [List.pairwise_cons] at hs
    rw [List.dropWhile_cons] at h
    split at h
    · exact dropWhile_not hs.2 j h
    · rename_i ha
      rcases List.mem_cons.mp h with rfl | h
      · simpa using ha
      · have h1 := hs.1 j h
        rw [cb_iff] at h1
        rw [isAhead_iff] at ha
        cases hh : isAhead (hideAt v j) (hideAt v n) with
        | false => rfl
        | true =>
          rw [isAhead_iff] at hh
          omega
theorem orderedI_sorted (v : Inventory) : ∀ i, (orderedI v i).Pairwise (fun a b => comesBefore v a b = true)
  | 0 => List.Pairwise.nil
  | i + 1 => by
    have ih := orderedI_sorted v i
    have hm : ∀ j ∈ orderedI v i, j < i := fun j hj => List.mem_range.mp ((orderedI_perm v i).mem_iff.mp hj)
    have e := List.takeWhile_append_dropWhile (p := fun j => isAhead (hideAt v j) (hideAt v i)) (l := orderedI v i)
    have ih2 := ih
    rw [← e, List.pairwise_append] at ih2
    show (placedI v (orderedI v i) i).Pairwise _
    unfold placedI
    rw [List.append_assoc, List.pairwise_append]
    refine ⟨ih2.1, ?_, fun a ha b hb => ?_⟩
    · refine List.pairwise_append.mpr ⟨List.pairwise_singleton _ _, ih2.2.1, fun a ha b hb => ?_⟩
      obtain rfl : a = i := by simpa using ha
      have hn := dropWhile_not ih b hb
      have hlt := hm b (by rw [← e]; exact List.mem_append_right _ hb)
      have hn' : ¬ isAhead (hideAt v b) (hideAt v a) = true := by rw [hn]; decide
      rw [isAhead_iff] at hn'
      rw [cb_iff]
      omega
    · rcases List.mem_append.mp hb with hb | hb
      · obtain rfl : b = i := by simpa using hb
        have hp : isAhead (hideAt v a) (hideAt v b) = true := List.all_eq_true.mp (List.all_takeWhile (p := fun j => isAhead (hideAt v j) (hideAt v b)) (l := orderedI v b)) a ha
        have hlt := hm a (by rw [← e]; exact List.mem_append_left _ ha)
        rw [isAhead_iff] at hp
        rw [cb_iff]
        omega
      · exact ih2.2.2 a ha b hb
theorem order_eq (v : Inventory) : orderedI v v.hides.length = hideOrder v :=
  List.Perm.eq_of_pairwise (le := fun a b => comesBefore v a b = true) (fun _ _ _ _ h1 h2 => (cb_asymm v h1 h2).elim) (orderedI_sorted v _) (foldr_sorted v _ List.nodup_range) ((orderedI_perm v _).trans (foldr_perm v _).symm)
theorem ordered_eq (v : Inventory) : ordered v.hides = tag v (hideOrder v) := by
  unfold ordered
  rw [orderedN_tag v _ (Nat.le_refl _), order_eq]
theorem order_length (v : Inventory) : (hideOrder v).length = v.hides.length := by
  unfold hideOrder
  rw [(foldr_perm v _).length_eq, List.length_range]
theorem order_sorted (v : Inventory) : (hideOrder v).Pairwise (fun a b => comesBefore v a b = true) := foldr_sorted v _ List.nodup_range
theorem order_mem {v : Inventory} {i : Nat} (h : i ∈ hideOrder v) : i < v.hides.length := List.mem_range.mp ((foldr_perm v _).mem_iff.mp h)
end MH
namespace MH
open Kp394

theorem alike_eq (v : Inventory) (i j : Nat) : alike (hideAt v i) (hideAt v j) v.tolerance = areCompatible v i j := by
  unfold alike areCompatible
  rw [Bool.eq_iff_iff]
  simp
theorem alike_comm (a b : Hide) (t : Nat) : alike a b t = alike b a t := by
  unfold alike
  rw [Bool.eq_iff_iff]
  simp
  omega
theorem alike_self (a : Hide) (t : Nat) : alike a a t = true := by
  unfold alike
  simp
theorem getD_mem {α : Type} {l : List α} {p : Nat} (d : α) (h : p < l.length) : l.getD p d = l[p] := by
  rw [List.getD_eq_getElem?_getD, List.getElem?_eq_getElem h]
  rfl
theorem tag_length (v : Inventory) (l : List Nat) : (tag v l).length = l.length := List.length_map _
theorem tag_getD (v : Inventory) {l : List Nat} {p : Nat} (h : p < l.length) : (tag v l).getD p noIt = (l.getD p 0, hideAt v (l.getD p 0)) := by
  rw [getD_mem _ (by rw [tag_length]; exact h), getD_mem _ h]
  unfold tag
  rw [List.getElem_map]
theorem allFit_iff (o : List Itm) (t : Nat) : allFit o t = true ↔ o.Pairwise (fun a b => alike a.2 b.2 t = true) := by
  unfold allFit fitsAll
  rw [List.all_eq_true, List.pairwise_iff_getElem]
  constructor
  · intro h i j hi hj hij
    have h1 := List.all_eq_true.mp (h j (List.mem_range.mpr hj)) o[i] (List.mem_take_iff_getElem.mpr ⟨i, by omega, rfl⟩)
    rw [getD_mem _ hj] at h1
    rw [alike_comm]
    exact h1
  · intro h j hj
    rw [List.mem_range] at hj
    rw [List.all_eq_true]
    intro x hx
    obtain ⟨i, hi, rfl⟩ := List.mem_take_iff_getElem.mp hx
    rw [getD_mem _ hj, alike_comm]
    exact h i j (by omega) hj (by omega)
theorem allFit_snoc (o : List Itm) (x : Itm) (t : Nat) : allFit (o ++ [x]) t = (allFit o t && fitsAll x.2 o t) := by
  rw [Bool.eq_iff_iff, Bool.and_eq_true, allFit_iff, allFit_iff, List.pairwise_append]
  unfold fitsAll
  rw [List.all_eq_true]
  constructor
  · rintro ⟨h1, _, h2⟩
    exact ⟨h1, fun a ha => by rw [alike_comm]; exact h2 a ha x (by simp)⟩
  · rintro ⟨h1, h2⟩
    refine ⟨h1, List.pairwise_singleton _ _, fun a ha b hb => ?_⟩
    obtain rfl : b = x := by simpa using hb
    rw [alike_comm]
    exact h2 a ha
theorem allFit_one (x : Itm) (t : Nat) : allFit [x] t = true := by
  rw [allFit_iff]
  exact List.pairwise_singleton _ _
theorem pairwise_all {α : Type} {R : α → α → Prop} (hr : ∀ a, R a a) (hs : ∀ a b, R a b → R b a) : ∀ l : List α, l.Pairwise R ↔ ∀ a ∈ l, ∀ b ∈ l, R a b
  | [] => by simp
  | x :: l => by
    rw [List.pairwise_cons, pairwise_all hr hs l]
    constructor
    · rintro ⟨h1, h2⟩ a ha b hb
      rcases List.mem_cons.mp ha with ea | ha1
      · rcases List.mem_cons.mp hb with eb | hb1
        · rw [ea, eb]
          exact hr _
        · rw [ea]
          exact h1 b hb1
      · rcases List.mem_cons.mp hb with eb | hb1
        · rw [eb]
          exact hs _ _ (h1 a ha1)
        · exact h2 a ha1 b hb1
    · intro h
      exact ⟨fun a ha => h x (by simp) a (by simp [ha]), fun a ha b hb => h a (by simp [ha]) b (by simp [hb])⟩
theorem allFit_eq (v : Inventory) (l : List Nat) : allFit (tag v l) v.tolerance = allCompatible v l := by
  rw [Bool.eq_iff_iff, allFit_iff]
  unfold tag allCompatible
  rw [List.pairwise_map, pairwise_all (fun a => alike_self _ _) (fun a b h => by rw [alike_comm]; exact h), List.all_eq_true]
  constructor
  · intro h a ha
    rw [List.all_eq_true]
    intro b hb
    rw [← alike_eq]
    exact h a ha b hb
  · intro h a ha b hb
    rw [alike_eq]
    exact List.all_eq_true.mp (h a ha) b hb

/-! ### greedy lots -/
theorem greedyStep_snoc (t s : Nat) (ls : List (List Itm)) (l : List Itm) (x : Itm) : greedyStep t s (ls ++ [l]) x = if decide (l.length < s) && fitsAll x.2 l t then ls ++ [l ++ [x]] else ls ++ [l] ++ [[x]] := by
  unfold greedyStep
  have e : (ls ++ [l]).getLast? = some l := by simp
  rw [e, List.dropLast_concat]
theorem greedy_fold (v : Inventory) : ∀ (rest : List Nat) (r : List (List Nat) × List Nat), allCompatible v r.2 = true →
    (tag v rest).foldl (greedyStep v.tolerance v.lotSize) ((r.1 ++ [r.2]).map (tag v)) =
      ((rest.foldl (fun (lots : List (List Nat) × List Nat) (j : Nat) => if isLot v (lots.2 ++ [j]) then (lots.1, lots.2 ++ [j]) else (lots.1 ++ [lots.2], [j])) r).1 ++ [(rest.foldl (fun (lots : List (List Nat) × List Nat) (j : Nat) => if isLot v (lots.2 ++ [j]) then (lots.1, lots.2 ++ [j]) else (lots.1 ++ [lots.2], [j])) r).2]).map (tag v)
  | [], _, _ => rfl
  | j :: rest, r, h => by
    have e0 : isLot v (r.2 ++ [j]) = (decide ((tag v r.2).length < v.lotSize) && fitsAll (hideAt v j) (tag v r.2) v.tolerance) := by
      unfold isLot
      rw [← allFit_eq]
      have e1 : tag v (r.2 ++ [j]) = tag v r.2 ++ [(j, hideAt v j)] := by unfold tag; rw [List.map_append]; rfl
      rw [e1, allFit_snoc, allFit_eq, h, Bool.true_and, tag_length, List.length_append]
      rfl
    rw [List.foldl_cons]
    show List.foldl (greedyStep v.tolerance v.lotSize) (greedyStep v.tolerance v.lotSize ((r.1 ++ [r.2]).map (tag v)) (j, hideAt v j)) (tag v rest) = _
    rw [List.map_append, List.map_singleton, greedyStep_snoc]
    have e0' : (decide ((tag v r.2).length < v.lotSize) && fitsAll (hideAt v j) (tag v r.2) v.tolerance) = isLot v (r.2 ++ [j]) := e0.symm
    by_cases c : isLot v (r.2 ++ [j]) = true
    · have hc : allCompatible v (r.2 ++ [j]) = true := by
        unfold isLot at c
        exact (Bool.and_eq_true_iff.mp c).2
      have ih := greedy_fold v rest (r.1, r.2 ++ [j]) hc
      rw [if_pos (by rw [e0']; exact c), if_pos c, ← ih]
      simp only [List.map_append, List.map_cons, List.map_nil]
      unfold tag
      rw [List.map_append]
      rfl
    · have hc : allCompatible v [j] = true := by
        rw [← allFit_eq]
        exact allFit_one _ _
      have ih := greedy_fold v rest (r.1 ++ [r.2], [j]) hc
      rw [if_neg (by rw [e0']; exact c), if_neg c, ← ih]
      simp only [List.map_append, List.map_cons, List.map_nil]
      rfl
theorem greedy_eq (v : Inventory) : greedy (tag v (hideOrder v)) v.tolerance v.lotSize = (greedyLots v).map (tag v) := by
  unfold greedy greedyLots
  cases hideOrder v with
  | nil => rfl
  | cons i rest =>
    have hc : allCompatible v [i] = true := by
      rw [← allFit_eq]
      exact allFit_one _ _
    exact greedy_fold v rest ([], [i]) hc
theorem greedy_length (v : Inventory) : (greedy (ordered v.hides) v.tolerance v.lotSize).length = fewestLots v := by
  rw [ordered_eq, greedy_eq, List.length_map]
  rfl
theorem leastTol_eq (v : Inventory) (n : Nat) : leastTol (ordered v.hides) v.lotSize n = leastTolerance v n := by
  unfold leastTol leastTolerance
  congr
  funext t
  have h := greedy_length { v with tolerance := t }
  have h' : (greedy (ordered v.hides) t v.lotSize).length = fewestLots { v with tolerance := t } := h
  rw [h']

/-! ### incompatible hides -/
theorem inc_fold (v : Inventory) : ∀ (rest l : List Nat), (tag v rest).foldl (incStep v.tolerance) (tag v l) = tag v (rest.foldl (fun (l : List Nat) (i : Nat) => match l.getLast? with
    | none => [i]
    | some j => if areCompatible v i j then l else l ++ [i]) l)
  | [], _ => rfl
  | i :: rest, l => by
    rw [List.foldl_cons]
    show List.foldl (incStep v.tolerance) (incStep v.tolerance (tag v l) (i, hideAt v i)) (tag v rest) = _
    rw [← inc_fold v rest]
    congr
    unfold incStep
    have e : (tag v l).getLast? = l.getLast?.map fun i => (i, hideAt v i) := by
      unfold tag
      rw [List.getLast?_map]
    rw [e]
    cases hl : l.getLast? with
    | none =>
      have : l = [] := List.getLast?_eq_none_iff.mp hl
      subst this
      rfl
    | some j =>
      show (if alike (hideAt v i) (hideAt v j) v.tolerance = true then tag v l else tag v l ++ [(i, hideAt v i)]) = tag v (if areCompatible v i j = true then l else l ++ [i])
      rw [alike_eq]
      split
      · rfl
      · unfold tag
        rw [List.map_append]
        rfl
theorem inc_eq (v : Inventory) : incompatible (tag v (hideOrder v)) v.tolerance = tag v (incompatibleHides v) := inc_fold v (hideOrder v) []

/-! ### areas, largest parts -/
theorem areaOf_eq (v : Inventory) (l : List Nat) : areaOf (tag v l) = Kp394.areaOf v l := by
  unfold areaOf Kp394.areaOf tag
  rw [List.map_map]
  rfl
theorem zipIdx_range (l : List Nat) : l.zipIdx = (List.range l.length).map fun p => (l.getD p 0, p) := by
  apply List.ext_getElem
  · simp
  · intro i h1 h2
    simp at h1
    simp [h1]
theorem before_eq (v : Inventory) (run : List Nat) {p q : Nat} (hp : p < run.length) (hq : q < run.length) :
    before (tag v run) p q = (decide ((hideAt v (run.getD p 0)).area < (hideAt v (run.getD q 0)).area) || ((hideAt v (run.getD q 0)).area == (hideAt v (run.getD p 0)).area && decide (q < p))) := by
  unfold before
  rw [tag_getD v hp, tag_getD v hq]
  rfl
theorem rank_eq (v : Inventory) (run : List Nat) {p : Nat} (hp : p < run.length) : rank (tag v run) p = rankIn v run (run.getD p 0) p := by
  unfold rank rankIn
  rw [zipIdx_range, List.filter_map, List.length_map, tag_length]
  congr 1
  refine List.filter_congr fun q hq => ?_
  rw [List.mem_range] at hq
  exact before_eq v run hp hq
theorem largestPart_eq (v : Inventory) (run : List Nat) : largestPart (tag v run) v.lotSize = tag v (largestOf v run) := by
  unfold largestPart largestOf
  rw [zipIdx_range, List.filter_map, List.map_map, tag_length]
  unfold tag
  rw [List.map_map]
  have e : (List.range run.length).filter (fun p => decide (rank (tag v run) p < v.lotSize)) = (List.range run.length).filter ((fun x => decide (rankIn v run x.1 x.2 < v.lotSize)) ∘ fun p => (run.getD p 0, p)) := by
    refine List.filter_congr fun q hq => ?_
    rw [List.mem_range] at hq
    rw [rank_eq v run hq]
    rfl
  show ((List.range run.length).filter (fun p => decide (rank (tag v run) p < v.lotSize))).map _ = _
  rw [e]
  refine List.map_congr_left fun p hp => ?_
  have hp' := List.mem_range.mp (List.mem_filter.mp hp).1
  exact tag_getD v hp'
theorem runsAt_eq (v : Inventory) (o : List Nat) (a : Nat) : runsAt (tag v o) v.tolerance a = (((List.range (o.length - a)).map fun n => (o.drop a).take (n + 1)).filter (allCompatible v)).map (tag v) := by
  unfold runsAt
  rw [tag_length, List.filter_map, List.filter_map, List.map_map]
  have e : ∀ n, ((tag v o).drop a).take (n + 1) = tag v ((o.drop a).take (n + 1)) := fun n => by
    unfold tag
    rw [List.map_take, List.map_drop]
  have e2 : (List.range (o.length - a)).filter ((fun x => allFit x v.tolerance) ∘ fun n => ((tag v o).drop a).take (n + 1)) = (List.range (o.length - a)).filter (allCompatible v ∘ fun n => (o.drop a).take (n + 1)) := by
    refine List.filter_congr fun n _ => ?_
    show allFit (((tag v o).drop a).take (n + 1)) v.tolerance = allCompatible v ((o.drop a).take (n + 1))
    rw [e, allFit_eq]
  rw [e2]
  refine List.map_congr_left fun n _ => ?_
  exact e n
theorem runsOf_eq (v : Inventory) : runsOf (tag v (hideOrder v)) v.tolerance = (compatibleRuns v).map (tag v) := by
  unfold runsOf compatibleRuns
  rw [List.map_flatMap, tag_length]
  congr 1
  funext a
  exact runsAt_eq v _ a
def bestStep (v : Inventory) (best : Option (List Nat)) (run : List Nat) : Option (List Nat) := match best with
  | none => some (largestOf v run)
  | some b => if Kp394.areaOf v b < Kp394.areaOf v (largestOf v run) then some (largestOf v run) else best
theorem largest_fold (v : Inventory) : ∀ (runs : List (List Nat)) (b : List Nat), ∃ l, runs.foldl (bestStep v) (some b) = some l ∧ (runs.map (tag v)).foldl (largeStep v.lotSize) (tag v b) = tag v l
  | [], b => ⟨b, rfl, rfl⟩
  | r :: runs, b => by
    rw [List.foldl_cons, List.map_cons, List.foldl_cons]
    have e : largeStep v.lotSize (tag v b) (tag v r) = tag v (if Kp394.areaOf v b < Kp394.areaOf v (largestOf v r) then largestOf v r else b) := by
      unfold largeStep
      rw [largestPart_eq, areaOf_eq, areaOf_eq]
      split <;> rfl
    have e2 : bestStep v (some b) r = some (if Kp394.areaOf v b < Kp394.areaOf v (largestOf v r) then largestOf v r else b) := by
      unfold bestStep
      show (if _ then _ else _) = _
      split <;> rfl
    rw [e, e2]
    exact largest_fold v runs _
theorem rank_one (x : Itm) : rank [x] 0 = 0 := by
  unfold rank before
  simp
theorem part_one (x : Itm) {s : Nat} (h : 1 ≤ s) : largestPart [x] s = [x] := by
  unfold largestPart
  have e : List.range [x].length = [0] := rfl
  rw [e, List.filter_cons, rank_one, if_pos (decide_eq_true (show 0 < s from h))]
  rfl
/-- the largest lot of an inventory with hides, whose areas are above 0 -/
theorem largest_eq (v : Inventory) (hne : v.hides ≠ []) (hs : 1 ≤ v.lotSize) (ha : ∀ h ∈ v.hides, 1 ≤ h.area) : ∃ l, largestLot v = some l ∧ largest (ordered v.hides) v.tolerance v.lotSize = tag v l := by
  have hl : (hideOrder v).length = v.hides.length := order_length v
  have h0 : 0 < v.hides.length := List.length_pos_iff.mpr hne
  have hL : largestLot v = (compatibleRuns v).foldl (bestStep v) none := rfl
  rw [hL, ordered_eq]
  unfold largest
  rw [runsOf_eq]
  cases ho : hideOrder v with
  | nil => rw [ho] at hl; simp at hl; omega
  | cons i rest =>
    have hr : ∃ more, compatibleRuns v = [i] :: more := by
      unfold compatibleRuns
      rw [ho, List.length_cons, List.range_succ_eq_map, List.flatMap_cons, Nat.sub_zero, List.range_succ_eq_map, List.map_cons, List.filter_cons, if_pos]
      · exact ⟨_, rfl⟩
      · show allCompatible v [i] = true
        rw [← allFit_eq]
        exact allFit_one _ _
    obtain ⟨more, hr⟩ := hr
    rw [hr, List.map_cons, List.foldl_cons, List.foldl_cons]
    have hlo : largestOf v [i] = [i] := by
      have e := largestPart_eq v [i]
      have e2 : largestPart (tag v [i]) v.lotSize = tag v [i] := part_one (i, hideAt v i) hs
      rw [e2] at e
      have e3 : (tag v [i]).map (·.1) = (tag v (largestOf v [i])).map (·.1) := by rw [e]
      unfold tag at e3
      rw [List.map_map, List.map_map] at e3
      have id1 : ∀ l : List Nat, l.map ((fun x => x.1) ∘ fun i => (i, hideAt v i)) = l := fun l => by
        rw [show ((fun x : Nat × Hide => x.1) ∘ fun i => (i, hideAt v i)) = id from rfl, List.map_id]
      rw [id1, id1] at e3
      exact e3.symm
    have hpos : 1 ≤ (hideAt v i).area := by
      have hi : i < v.hides.length := order_mem (v := v) (by rw [ho]; simp)
      have : hideAt v i ∈ v.hides := by
        unfold hideAt
        rw [List.getD_eq_getElem?_getD, List.getElem?_eq_getElem hi]
        exact List.getElem_mem hi
      exact ha _ this
    have e1 : largeStep v.lotSize [] (tag v [i]) = tag v [i] := by
      unfold largeStep
      have e2 : largestPart (tag v [i]) v.lotSize = tag v [i] := part_one (i, hideAt v i) hs
      rw [e2, if_pos]
      show 0 < (hideAt v i).area + 0
      omega
    rw [e1]
    show ∃ l, List.foldl (bestStep v) (some (largestOf v [i])) more = some l ∧ _
    rw [hlo]
    exact largest_fold v more [i]
end MH
namespace MH
open Kp394

/-! ### best pairs -/
def thickV (v : Inventory) (i : Nat) : Nat := (hideAt v i).thickness
theorem without_eq (o : List Itm) (p : Nat) : without o p = o.eraseIdx p := by
  unfold without
  rw [List.eraseIdx_eq_take_drop_succ]
theorem tag_erase (v : Inventory) (l : List Nat) (p : Nat) : without (tag v l) p = tag v (l.eraseIdx p) := by
  rw [without_eq]
  unfold tag
  apply List.ext_getElem?
  intro i
  rw [List.getElem?_map, List.getElem?_eraseIdx, List.getElem?_eraseIdx]
  split <;> rw [List.getElem?_map]
theorem diffN_cons (a b : Itm) (r : List Itm) : ∀ k, diffN (a :: b :: r) (k + 1) = ((b.2.thickness : Int) - a.2.thickness) + diffN r k
  | 0 => by
    show (0 : Int) + (thick (a :: b :: r) 1 - thick (a :: b :: r) 0) = _ + 0
    show (0 : Int) + ((b.2.thickness : Int) - a.2.thickness) = _ + 0
    omega
  | k + 1 => by
    have ih := diffN_cons a b r k
    show diffN (a :: b :: r) (k + 1) + (thick (a :: b :: r) (2 * (k + 1) + 1) - thick (a :: b :: r) (2 * (k + 1))) = ((b.2.thickness : Int) - a.2.thickness) + (diffN r k + (thick r (2 * k + 1) - thick r (2 * k)))
    have e1 : thick (a :: b :: r) (2 * (k + 1) + 1) = thick r (2 * k + 1) := by
      show thick (a :: b :: r) ((2 * k + 1) + 1 + 1) = _
      rfl
    have e2 : thick (a :: b :: r) (2 * (k + 1)) = thick r (2 * k) := by
      show thick (a :: b :: r) ((2 * k) + 1 + 1) = _
      rfl
    rw [ih, e1, e2]
    omega
/-- the program's difference is the specification's, where the thicknesses rise -/
theorem diff_eq (v : Inventory) : ∀ (l : List Nat), l.Pairwise (fun i j => thickV v i ≤ thickV v j) → diff (tag v l) = (totalDifference v (pairUp l) : Int)
  | [], _ => by
    have e : (tag v []).length / 2 = 0 := by
      rw [tag_length]
      simp
    unfold diff
    rw [e]
    rfl
  | [i], _ => by
    have e : (tag v [i]).length / 2 = 0 := by
      rw [tag_length]
      simp
    unfold diff
    rw [e]
    rfl
  | i :: j :: r, h => by
    rw [List.pairwise_cons, List.pairwise_cons] at h
    have ih := diff_eq v r h.2.2
    unfold diff
    have e : (tag v (i :: j :: r)).length / 2 = (tag v r).length / 2 + 1 := by
      rw [tag_length, tag_length, List.length_cons, List.length_cons]
      omega
    rw [e]
    show diffN ((i, hideAt v i) :: (j, hideAt v j) :: tag v r) ((tag v r).length / 2 + 1) = _
    rw [diffN_cons]
    unfold diff at ih
    rw [ih]
    have h1 : (hideAt v i).thickness ≤ (hideAt v j).thickness := h.1 j (by simp)
    show ((hideAt v j).thickness : Int) - (hideAt v i).thickness + _ = ((((hideAt v j).thickness - (hideAt v i).thickness) + totalDifference v (pairUp r) : Nat) : Int)
    omega
theorem pairUp_flat : ∀ (l : List Nat), l.length % 2 = 0 → (pairUp l).flatMap (fun x => [x.1, x.2]) = l
  | [], _ => rfl
  | [i], h => by simp at h
  | i :: j :: r, h => by
    show [i, j] ++ (pairUp r).flatMap (fun x => [x.1, x.2]) = i :: j :: r
    rw [pairUp_flat r (by simp at h; omega)]
    rfl
theorem pairUp_length : ∀ (l : List Nat), (pairUp l).length = l.length / 2
  | [] => rfl
  | [i] => by
    show 0 = [i].length / 2
    simp
  | i :: j :: r => by
    show (pairUp r).length + 1 = (r.length + 1 + 1) / 2
    rw [pairUp_length r]
    omega
theorem ofKind_eq (v : Inventory) (k : Nat) : ofKind (tag v (hideOrder v)) k = tag v (hidesOfKind v k) := by
  unfold ofKind hidesOfKind tag
  rw [List.filter_map]
  congr 1
theorem kind_rises (v : Inventory) (k : Nat) : (hidesOfKind v k).Pairwise (fun i j => thickV v i ≤ thickV v j) := by
  unfold hidesOfKind
  have hs : ((hideOrder v).filter fun i => (hideAt v i).kind == k).Pairwise (fun a b => comesBefore v a b = true) := (order_sorted v).filter _
  refine List.Pairwise.imp_of_mem (fun {a b} ha hb h => ?_) hs
  have ka := (List.mem_filter.mp ha).2
  have kb := (List.mem_filter.mp hb).2
  rw [cb_iff] at h
  unfold thickV
  simp at ka kb
  omega
def leftS (v : Inventory) (l : List Nat) (best : Option (Nat × Nat)) (position : Nat) : Option (Nat × Nat) :=
    let d := totalDifference v (pairUp (l.eraseIdx position))
    match best with
    | none => some (position, d)
    | some b => if d < b.2 then some (position, d) else best
theorem erase_rises {v : Inventory} {l : List Nat} (h : l.Pairwise (fun i j => thickV v i ≤ thickV v j)) (p : Nat) : (l.eraseIdx p).Pairwise (fun i j => thickV v i ≤ thickV v j) := h.sublist (List.eraseIdx_sublist l p)
theorem left_fold {v : Inventory} {l : List Nat} (h : l.Pairwise (fun i j => thickV v i ≤ thickV v j)) : ∀ (ps : List Nat) (p : Nat), (∀ q ∈ ps, q + 1 < l.length) → p < l.length →
    ∃ q, q < l.length ∧ (ps.map (· + 1)).foldl (leftS v l) (some (p, totalDifference v (pairUp (l.eraseIdx p)))) = some (q, totalDifference v (pairUp (l.eraseIdx q))) ∧ ps.foldl (fun best p => leftStep (tag v l) best (p + 1)) p = q
  | [], p, _, hp => ⟨p, hp, rfl, rfl⟩
  | a :: ps, p, hq, hp => by
    rw [List.map_cons, List.foldl_cons, List.foldl_cons]
    have e1 : leftStep (tag v l) p (a + 1) = if totalDifference v (pairUp (l.eraseIdx (a + 1))) < totalDifference v (pairUp (l.eraseIdx p)) then a + 1 else p := by
      unfold leftStep
      rw [tag_erase, tag_erase, diff_eq v _ (erase_rises h _), diff_eq v _ (erase_rises h _)]
      by_cases c : totalDifference v (pairUp (l.eraseIdx (a + 1))) < totalDifference v (pairUp (l.eraseIdx p))
      · rw [if_pos c, if_pos (by omega)]
      · rw [if_neg c, if_neg (by omega)]
    have e2 : leftS v l (some (p, totalDifference v (pairUp (l.eraseIdx p)))) (a + 1) = (let m := if totalDifference v (pairUp (l.eraseIdx (a + 1))) < totalDifference v (pairUp (l.eraseIdx p)) then a + 1 else p; some (m, totalDifference v (pairUp (l.eraseIdx m)))) := by
      unfold leftS
      show (if totalDifference v (pairUp (l.eraseIdx (a + 1))) < totalDifference v (pairUp (l.eraseIdx p)) then _ else _) = _
      by_cases c : totalDifference v (pairUp (l.eraseIdx (a + 1))) < totalDifference v (pairUp (l.eraseIdx p))
      · simp only [if_pos c]
      · simp only [if_neg c]
    rw [e1, e2]
    refine left_fold h ps _ (fun q hq' => hq q (List.mem_cons_of_mem _ hq')) ?_
    split
    · exact hq a List.mem_cons_self
    · exact hp
/-- what the program answers of a kind's pairs is what is due -/
theorem best_eq (v : Inventory) (k : Nat) :
    diff (bestPairsOf (tag v (hideOrder v)) k).1 = (totalDifference v (Kp394.bestPairs v k).1 : Int) ∧
    (bestPairsOf (tag v (hideOrder v)) k).1.length / 2 = (Kp394.bestPairs v k).1.length ∧
    (bestPairsOf (tag v (hideOrder v)) k).1.map (·.1) = (Kp394.bestPairs v k).1.flatMap (fun x => [x.1, x.2]) ∧
    (bestPairsOf (tag v (hideOrder v)) k).2.map (·.1) = (Kp394.bestPairs v k).2.toList ∧ (bestPairsOf (tag v (hideOrder v)) k).1.length % 2 = 0 := by
  have hid : ∀ l : List Nat, (tag v l).map (·.1) = l := fun l => by
    unfold tag
    rw [List.map_map]
    show l.map ((fun x => x.1) ∘ fun i => (i, hideAt v i)) = l
    rw [show ((fun x : Nat × Hide => x.1) ∘ fun i => (i, hideAt v i)) = id from rfl, List.map_id]
  have hr := kind_rises v k
  unfold bestPairsOf
  rw [ofKind_eq, tag_length]
  generalize hl : hidesOfKind v k = l at hr ⊢
  by_cases c : l.length % 2 = 0
  · have e : Kp394.bestPairs v k = (pairUp l, none) := by
      unfold Kp394.bestPairs
      rw [hl]
      show (if l.length % 2 = 0 then _ else _) = _
      rw [if_pos c]
    rw [if_pos c, e]
    refine ⟨diff_eq v l hr, ?_, ?_, rfl, ?_⟩
    · show (tag v l).length / 2 = (pairUp l).length
      rw [tag_length, pairUp_length]
    · show (tag v l).map (·.1) = _
      rw [hid, pairUp_flat l c]
    · show (tag v l).length % 2 = 0
      rw [tag_length]
      exact c
  · have hpos : 0 < l.length := by omega
    obtain ⟨m, hm⟩ : ∃ m, l.length = m + 1 := ⟨l.length - 1, by omega⟩
    obtain ⟨q, hq, f1, f2⟩ := left_fold hr (List.range m) 0 (fun a ha => by rw [List.mem_range] at ha; omega) hpos
    have ep : leftPlace (tag v l) = q := by
      unfold leftPlace
      rw [tag_length, hm]
      exact f2
    have es : (List.range l.length).foldl (leftS v l) none = some (q, totalDifference v (pairUp (l.eraseIdx q))) := by
      rw [hm, List.range_succ_eq_map, List.foldl_cons]
      exact f1
    have e : Kp394.bestPairs v k = (pairUp (l.eraseIdx q), l[q]?) := by
      unfold Kp394.bestPairs
      rw [hl]
      show (if l.length % 2 = 0 then _ else match (List.range l.length).foldl (leftS v l) none with
        | none => ([], none)
        | some b => (pairUp (l.eraseIdx b.1), l[b.1]?)) = _
      rw [if_neg c, es]
    have hlen : (l.eraseIdx q).length = m := by
      rw [List.length_eraseIdx, if_pos hq, hm]
      rfl
    rw [if_neg c, e, ep, tag_erase]
    refine ⟨diff_eq v _ (erase_rises hr q), ?_, ?_, ?_, ?_⟩
    · show (tag v (l.eraseIdx q)).length / 2 = (pairUp (l.eraseIdx q)).length
      rw [tag_length, pairUp_length]
    · show (tag v (l.eraseIdx q)).map (·.1) = _
      rw [hid, pairUp_flat _ (by rw [hlen]; omega)]
    · show [((tag v l).getD q noIt).1] = (l[q]?).toList
      rw [tag_getD v hq, List.getElem?_eq_getElem hq, getD_mem _ hq]
      rfl
    · show (tag v (l.eraseIdx q)).length % 2 = 0
      rw [tag_length, hlen]
      omega
end MH
/-! The deeds as plain functions of an inventory: what each answers, what it leaves; equal to the specification's step. -/
namespace MH
open Kp394

def nums (o : List Itm) : List Int := o.map fun x => (x.1 : Int)
def aGet (v : Inventory) (i : Nat) : List Int := if i < v.hides.length then [((hideAt v i).kind : Int), ((hideAt v i).thickness : Int), ((hideAt v i).area : Int)] else [-2]
def aOrder (v : Inventory) : List Int := (v.hides.length : Int) :: nums (ordered v.hides)
def aCompat (v : Inventory) (i j : Nat) : List Int := if i < v.hides.length ∧ j < v.hides.length then [if alike (hideAt v i) (hideAt v j) v.tolerance then 1 else 0] else [-2]
def goodNums (v : Inventory) (l : List Nat) : Bool := (List.range l.length).all fun p => decide (l.getD p 0 < v.hides.length) && !decide (l.getD p 0 ∈ l.take p)
def aIsLot (v : Inventory) (l : List Nat) : List Int := if goodNums v l then [if decide (l.length ≤ v.lotSize) && allFit (tag v l) v.tolerance then 1 else 0] else [-22]
def aCount (v : Inventory) (hs : List Hide) : Nat := (greedy (ordered hs) v.tolerance v.lotSize).length
def aLots (v : Inventory) : List Int := ((greedy (ordered v.hides) v.tolerance v.lotSize).length : Int) :: (greedy (ordered v.hides) v.tolerance v.lotSize).flatMap fun l => (l.length : Int) :: nums l
def aInc (v : Inventory) : List Int := ((incompatible (ordered v.hides) v.tolerance).length : Int) :: nums (incompatible (ordered v.hides) v.tolerance)
def big (v : Inventory) : List Itm := largest (ordered v.hides) v.tolerance v.lotSize
def aLargest (v : Inventory) : List Int := if v.hides = [] then [-33] else (areaOf (big v) : Int) :: ((big v).length : Int) :: nums (big v)
def aTotal (v : Inventory) (l : List Nat) : List Int := if goodNums v l then [(areaOf (tag v l) : Int)] else [-22]
def aPairs (v : Inventory) (k : Nat) : List Int := if 2 < k then [-22] else diff (bestPairsOf (ordered v.hides) k).1 :: (((bestPairsOf (ordered v.hides) k).1.length / 2 : Nat) : Int) :: (nums (bestPairsOf (ordered v.hides) k).1 ++ nums (bestPairsOf (ordered v.hides) k).2)
def aLeast (v : Inventory) (n : Nat) : List Int := match leastTol (ordered v.hides) v.lotSize n with
  | some t => [(t : Int)]
  | none => [-33]
def aWithout (v : Inventory) (i : Nat) : List Int := if i < v.hides.length then [(aCount v (v.hides.eraseIdx i) : Int)] else [-2]
def aWith (v : Inventory) (k t a : Nat) : List Int := if validHide k t a then [(aCount v (v.hides ++ [⟨k, t, a⟩]) : Int)] else [-22]
def aStatus (v : Inventory) : List Int := [(v.hides.length : Int), (v.tolerance : Int), (v.lotSize : Int), ((v.hides.map fun h => h.area).sum : Nat)]
def mAdd (v : Inventory) (k t a : Nat) : Inventory × List Int := if validHide k t a then (if v.hides.length = 12 then (v, [-28]) else ({ v with hides := v.hides ++ [⟨k, t, a⟩] }, [(v.hides.length : Int)])) else (v, [-22])
def mRemove (v : Inventory) (i : Nat) : Inventory × List Int := if i < v.hides.length then ({ v with hides := v.hides.eraseIdx i }, [((v.hides.length - 1 : Nat) : Int)]) else (v, [-2])
def mSet (v : Inventory) (t s : Nat) : Inventory × List Int := if validLimits t s then ({ v with tolerance := t, lotSize := s }, [0, (v.tolerance : Int), (v.lotSize : Int)]) else (v, [-22])
def mThin (v : Inventory) (i t : Nat) : Inventory × List Int := if i < v.hides.length then (if t = 0 ∨ (hideAt v i).thickness ≤ t then (v, [-22]) else ({ v with hides := v.hides.set i { hideAt v i with thickness := t } }, [((hideAt v i).thickness : Int)])) else (v, [-2])
def ng (ns : List Nat) (i : Nat) : Nat := ns.getD i 0
def mChange (v : Inventory) (op : Nat) (ns : List Nat) : Inventory × List Int := if op = 1 then mAdd v (ng ns 0) (ng ns 1) (ng ns 2) else if op = 2 then mRemove v (ng ns 0) else if op = 4 then mSet v (ng ns 0) (ng ns 1) else mThin v (ng ns 0) (ng ns 1)
def aPlain (v : Inventory) (op : Nat) : List Int := if op = 6 then aOrder v else if op = 9 then [(aCount v v.hides : Int)] else if op = 10 then aLots v else if op = 11 then aInc v else if op = 12 then aLargest v else aStatus v
def aAsk (v : Inventory) (op : Nat) (ns : List Nat) : List Int := if op = 3 then aGet v (ng ns 0) else if op = 7 then aCompat v (ng ns 0) (ng ns 1) else if op = 8 then aIsLot v ns else if op = 13 then aTotal v ns else if op = 14 then aPairs v (ng ns 0) else
  if op = 15 then aLeast v (ng ns 0) else if op = 16 then aWithout v (ng ns 0) else aWith v (ng ns 0) (ng ns 1) (ng ns 2)
def mDeed (v : Inventory) (op : Nat) (ns : List Nat) : Inventory × List Int := if op ∈ [1, 2, 4, 5] then mChange v op ns else if op ∈ [6, 9, 10, 11, 12, 18] then (v, aPlain v op) else (v, aAsk v op ns)
/-- one call: the state, the answer -/
def mCall (st : Option Inventory) (op : Nat) (ns : List Nat) : Option Inventory × List Int :=
  if op = 0 then (if validLimits (ng ns 0) (ng ns 1) then (some ⟨[], ng ns 0, ng ns 1⟩, [0]) else (st, [-22])) else match st with
    | none => (none, [-11])
    | some v => (some (mDeed v op ns).1, (mDeed v op ns).2)

/-! ### an inventory as it comes about -/
structure GoodH (h : Hide) : Prop where
  k : h.kind ≤ 2
  t : 1 ≤ h.thickness ∧ h.thickness ≤ 60
  a : 1 ≤ h.area ∧ h.area ≤ 60
structure Good (v : Inventory) : Prop where
  len : v.hides.length ≤ 12
  hs : ∀ h ∈ v.hides, GoodH h
  lot : 1 ≤ v.lotSize
def GoodS : Option Inventory → Prop
  | none => True
  | some v => Good v
theorem validHide_iff (k t a : Nat) : validHide k t a = true ↔ GoodH ⟨k, t, a⟩ := by
  unfold validHide
  simp only [Bool.and_eq_true, decide_eq_true_eq]
  constructor
  · intro h
    exact ⟨h.1.1.1.1, ⟨h.1.1.1.2, h.1.1.2⟩, ⟨h.1.2, h.2⟩⟩
  · intro h
    exact ⟨⟨⟨⟨h.k, h.t.1⟩, h.t.2⟩, h.a.1⟩, h.a.2⟩
theorem validLimits_iff (t s : Nat) : validLimits t s = true ↔ t ≤ 60 ∧ 1 ≤ s ∧ s ≤ 12 := by
  unfold validLimits maxHides
  simp only [Bool.and_eq_true, decide_eq_true_eq]
  omega
theorem hideAt_mem {v : Inventory} {i : Nat} (h : i < v.hides.length) : hideAt v i ∈ v.hides := by
  unfold hideAt
  rw [List.getD_eq_getElem?_getD, List.getElem?_eq_getElem h]
  exact List.getElem_mem h
theorem good_add {v : Inventory} (g : Good v) (k t a : Nat) : Good (mAdd v k t a).1 := by
  unfold mAdd
  split
  · rename_i hv
    split
    · exact g
    · rename_i hl
      refine ⟨?_, fun h hm => ?_, g.lot⟩
      · show (v.hides ++ [_]).length ≤ 12
        rw [List.length_append]
        have := g.len
        show v.hides.length + 1 ≤ 12
        omega
      · rcases List.mem_append.mp hm with q | q
        · exact g.hs h q
        · obtain rfl : h = ⟨k, t, a⟩ := by simpa using q
          exact (validHide_iff k t a).mp hv
  · exact g
theorem good_remove {v : Inventory} (g : Good v) (i : Nat) : Good (mRemove v i).1 := by
  unfold mRemove
  split
  · refine ⟨?_, fun h hm => g.hs h (List.mem_of_mem_eraseIdx hm), g.lot⟩
    show (v.hides.eraseIdx i).length ≤ 12
    have := g.len
    have := List.length_eraseIdx_le v.hides i
    omega
  · exact g
theorem good_set {v : Inventory} (g : Good v) (t s : Nat) : Good (mSet v t s).1 := by
  unfold mSet
  split
  · rename_i hv
    exact ⟨g.len, g.hs, ((validLimits_iff t s).mp hv).2.1⟩
  · exact g
theorem good_thin {v : Inventory} (g : Good v) (i t : Nat) : Good (mThin v i t).1 := by
  unfold mThin
  split
  · rename_i hi
    split
    · exact g
    · rename_i ht
      refine ⟨?_, fun h hm => ?_, g.lot⟩
      · show (v.hides.set i _).length ≤ 12
        rw [List.length_set]
        exact g.len
      · rcases List.mem_or_eq_of_mem_set hm with q | q
        · exact g.hs h q
        · have := g.hs _ (hideAt_mem hi)
          rw [q]
          exact ⟨this.k, ⟨by show 1 ≤ t; omega, by show t ≤ 60; have := this.t; omega⟩, this.a⟩
  · exact g
theorem good_change {v : Inventory} (g : Good v) (op : Nat) (ns : List Nat) : Good (mChange v op ns).1 := by
  unfold mChange
  split
  · exact good_add g _ _ _
  · split
    · exact good_remove g _
    · split
      · exact good_set g _ _
      · exact good_thin g _ _
theorem good_deed {v : Inventory} (g : Good v) (op : Nat) (ns : List Nat) : Good (mDeed v op ns).1 := by
  unfold mDeed
  split
  · exact good_change g op ns
  · split
    · exact g
    · exact g
theorem good_call {st : Option Inventory} (g : GoodS st) (op : Nat) (ns : List Nat) : GoodS (mCall st op ns).1 := by
  unfold mCall
  split
  · split
    · rename_i hv
      have := (validLimits_iff _ _).mp hv
      exact ⟨Nat.zero_le _, fun h hm => (by cases hm), this.2.1⟩
    · exact g
  · cases st with
    | none => trivial
    | some v => exact good_deed g op ns

/-! ### the law: each deed against the specification -/
theorem nums_tag (v : Inventory) (l : List Nat) : nums (tag v l) = l.map fun (x : Nat) => (x : Int) := by
  unfold nums tag
  rw [List.map_map]
  rfl
theorem dups_len : ∀ (n : Nat) (l : List Nat), l.length ≤ n → l.eraseDups.length ≤ l.length ∧ (l.eraseDups.length = l.length ↔ l.Nodup)
  | _, [], _ => by simp
  | 0, a :: l, h => by simp at h
  | n + 1, a :: l, h => by
    rw [List.eraseDups_cons, List.length_cons, List.length_cons, List.nodup_cons]
    have hf := List.length_filter_le (fun b => !b == a) l
    obtain ⟨ih1, ih2⟩ := dups_len n (l.filter fun b => !b == a) (by rw [List.length_cons] at h; omega)
    refine ⟨by omega, fun e => ?_, fun ⟨h1, h2⟩ => ?_⟩
    · have e1 : (l.filter fun b => !b == a).length = l.length := by omega
      have e2 : (l.filter fun b => !b == a) = l := List.filter_sublist.eq_of_length e1
      have e3 : (l.filter fun b => !b == a).Nodup := ih2.mp (by omega)
      rw [e2] at e3
      refine ⟨fun hm => ?_, e3⟩
      rw [← e2] at hm
      have := (List.mem_filter.mp hm).2
      simp at this
    · have e2 : (l.filter fun b => !b == a) = l := by
        rw [List.filter_eq_self]
        intro b hb
        have : b ≠ a := fun e => h1 (e ▸ hb)
        simp [this]
      rw [e2] at ih2 ⊢
      have := ih2.mpr h2
      omega
theorem goodNums_eq (v : Inventory) (l : List Nat) : goodNums v l = validHides v l := by
  rw [Bool.eq_iff_iff]
  unfold goodNums validHides isHide
  rw [List.all_eq_true, Bool.and_eq_true, List.all_eq_true, decide_eq_true_eq]
  have nd : l.eraseDups.length = l.length ↔ l.Nodup := (dups_len l.length l (Nat.le_refl _)).2
  rw [nd, List.nodup_iff_pairwise_ne, List.pairwise_iff_getElem]
  constructor
  · intro h
    refine ⟨fun x hx => ?_, fun i j hi hj hij e => ?_⟩
    · obtain ⟨p, hp, rfl⟩ := List.getElem_of_mem hx
      have q := h p (List.mem_range.mpr hp)
      rw [getD_mem _ hp] at q
      exact (Bool.and_eq_true_iff.mp q).1
    · have q := h j (List.mem_range.mpr hj)
      rw [getD_mem _ hj] at q
      have q2 := (Bool.and_eq_true_iff.mp q).2
      have : l[j] ∈ l.take j := List.mem_take_iff_getElem.mpr ⟨i, by omega, e⟩
      simp [this] at q2
  · rintro ⟨h1, h2⟩ p hp
    rw [List.mem_range] at hp
    rw [getD_mem _ hp, Bool.and_eq_true]
    refine ⟨h1 _ (List.getElem_mem hp), ?_⟩
    rw [Bool.not_eq_true', decide_eq_false_iff_not]
    intro hm
    obtain ⟨i, hi, e⟩ := List.mem_take_iff_getElem.mp hm
    exact h2 i p (by omega) hp (by omega) e
end MH
/-! The law: each call of the request against the specification's step; the request read. -/
namespace MH
open Kp394

/-- the specification's step, its answer as a list -/
def stepD (st : Option Inventory) (x : Kp394.Call) : Option Inventory × List Int := ((Kp394.step st x).1, (Kp394.step st x).2.num :: (Kp394.step st x).2.nums)
theorem isHide_iff (v : Inventory) (i : Nat) : isHide v i = true ↔ i < v.hides.length := by
  unfold isHide
  simp
theorem law_get (v : Inventory) (i : Nat) : stepD (some v) (.getHide i) = (some v, aGet v i) := by
  unfold stepD aGet
  show (some v, (if isHide v i = true then natResult (hideAt v i).kind [(hideAt v i).thickness, (hideAt v i).area] else single (-2)).num :: (if isHide v i = true then natResult (hideAt v i).kind [(hideAt v i).thickness, (hideAt v i).area] else single (-2)).nums) = _
  by_cases c : i < v.hides.length
  · rw [if_pos ((isHide_iff v i).mpr c), if_pos c]
    rfl
  · rw [if_neg (fun h => c ((isHide_iff v i).mp h)), if_neg c]
    rfl
theorem law_order (v : Inventory) : stepD (some v) .hideOrder = (some v, aOrder v) := by
  unfold aOrder
  rw [ordered_eq, nums_tag, ← order_length]
  rfl
theorem law_compat (v : Inventory) (i j : Nat) : stepD (some v) (.areCompatible i j) = (some v, aCompat v i j) := by
  unfold stepD aCompat
  show (some v, (if (isHide v i && isHide v j) = true then boolResult (Kp394.areCompatible v i j) else single (-2)).num :: (if (isHide v i && isHide v j) = true then boolResult (Kp394.areCompatible v i j) else single (-2)).nums) = _
  by_cases c : i < v.hides.length ∧ j < v.hides.length
  · rw [if_pos (Bool.and_eq_true_iff.mpr ⟨(isHide_iff v i).mpr c.1, (isHide_iff v j).mpr c.2⟩), if_pos c, alike_eq]
    rfl
  · rw [if_neg (fun h => c ⟨(isHide_iff v i).mp (Bool.and_eq_true_iff.mp h).1, (isHide_iff v j).mp (Bool.and_eq_true_iff.mp h).2⟩), if_neg c]
    rfl
theorem law_isLot (v : Inventory) (l : List Nat) : stepD (some v) (.isLot l) = (some v, aIsLot v l) := by
  unfold stepD aIsLot
  show (some v, (if validHides v l = true then boolResult (Kp394.isLot v l) else single (-22)).num :: (if validHides v l = true then boolResult (Kp394.isLot v l) else single (-22)).nums) = _
  rw [goodNums_eq, allFit_eq]
  by_cases c : validHides v l = true
  · rw [if_pos c, if_pos c]
    rfl
  · rw [if_neg c, if_neg c]
    rfl
theorem count_eq (v : Inventory) (hs : List Hide) : aCount v hs = Kp394.fewestLots { v with hides := hs } := greedy_length { v with hides := hs }
theorem law_count (v : Inventory) : stepD (some v) .fewestLots = (some v, [(aCount v v.hides : Int)]) := by
  rw [count_eq]
  rfl
theorem law_lots (v : Inventory) : stepD (some v) .greedyLots = (some v, aLots v) := by
  unfold aLots
  rw [ordered_eq, greedy_eq, List.length_map, List.flatMap_map]
  unfold stepD
  show (some v, ((Kp394.greedyLots v).length : Int) :: ((Kp394.greedyLots v).flatMap fun l => l.length :: l).map fun (x : Nat) => (x : Int)) = _
  rw [List.map_flatMap]
  congr 3
  funext l
  rw [nums_tag, tag_length]
  rfl
theorem law_inc (v : Inventory) : stepD (some v) .incompatibleHides = (some v, aInc v) := by
  unfold aInc
  rw [ordered_eq, inc_eq, nums_tag, tag_length]
  rfl
theorem largest_none {v : Inventory} (h : v.hides = []) : largestLot v = none := by
  have e : hideOrder v = [] := by
    have := order_length v
    rw [h] at this
    exact List.length_eq_zero_iff.mp this
  unfold largestLot compatibleRuns
  rw [e]
  rfl
theorem law_largest (v : Inventory) (g : Good v) : stepD (some v) .largestLot = (some v, aLargest v) := by
  unfold stepD aLargest
  by_cases c : v.hides = []
  · rw [if_pos c]
    show (some v, (match Kp394.largestLot v with | none => single (-33) | some l => natResult (Kp394.areaOf v l) (l.length :: l)).num :: (match Kp394.largestLot v with | none => single (-33) | some l => natResult (Kp394.areaOf v l) (l.length :: l)).nums) = _
    rw [largest_none c]
    rfl
  · rw [if_neg c]
    obtain ⟨l, h1, h2⟩ := largest_eq v c g.lot fun h hh => (g.hs h hh).a.1
    show (some v, (match Kp394.largestLot v with | none => single (-33) | some l => natResult (Kp394.areaOf v l) (l.length :: l)).num :: (match Kp394.largestLot v with | none => single (-33) | some l => natResult (Kp394.areaOf v l) (l.length :: l)).nums) = _
    unfold big
    rw [h1, h2, areaOf_eq, nums_tag, tag_length]
    rfl
theorem law_total (v : Inventory) (l : List Nat) : stepD (some v) (.totalArea l) = (some v, aTotal v l) := by
  unfold stepD aTotal
  show (some v, (if validHides v l = true then single (Kp394.areaOf v l : Nat) else single (-22)).num :: (if validHides v l = true then single (Kp394.areaOf v l : Nat) else single (-22)).nums) = _
  rw [goodNums_eq, areaOf_eq]
  by_cases c : validHides v l = true
  · rw [if_pos c, if_pos c]
    rfl
  · rw [if_neg c, if_neg c]
    rfl
theorem law_pairs (v : Inventory) (k : Nat) : stepD (some v) (.bestPairs k) = (some v, aPairs v k) := by
  unfold stepD aPairs
  show (some v, (if 2 < k then single (-22) else natResult (totalDifference v (Kp394.bestPairs v k).1) ((Kp394.bestPairs v k).1.length :: ((Kp394.bestPairs v k).1.flatMap fun x => [x.1, x.2]) ++ (Kp394.bestPairs v k).2.toList)).num ::
    (if 2 < k then single (-22) else natResult (totalDifference v (Kp394.bestPairs v k).1) ((Kp394.bestPairs v k).1.length :: ((Kp394.bestPairs v k).1.flatMap fun x => [x.1, x.2]) ++ (Kp394.bestPairs v k).2.toList)).nums) = _
  by_cases c : 2 < k
  · rw [if_pos c, if_pos c]
    rfl
  · rw [if_neg c, if_neg c]
    obtain ⟨b1, b2, b3, b4, _⟩ := best_eq v k
    rw [ordered_eq, b1, b2]
    have n1 : ∀ o : List Itm, nums o = (o.map (·.1)).map fun (x : Nat) => (x : Int) := fun o => by
      unfold nums
      rw [List.map_map]
      rfl
    rw [n1, n1, b3, b4]
    show (some v, (totalDifference v (Kp394.bestPairs v k).1 : Int) :: (((Kp394.bestPairs v k).1.length :: (((Kp394.bestPairs v k).1.flatMap fun x => [x.1, x.2]) ++ (Kp394.bestPairs v k).2.toList)).map fun (x : Nat) => (x : Int))) = _
    rw [List.map_cons, List.map_append]
theorem law_least (v : Inventory) (n : Nat) : stepD (some v) (.leastTolerance n) = (some v, aLeast v n) := by
  unfold stepD aLeast
  rw [leastTol_eq]
  show (some v, (match Kp394.leastTolerance v n with | none => single (-33) | some t => single (t : Nat)).num :: (match Kp394.leastTolerance v n with | none => single (-33) | some t => single (t : Nat)).nums) = _
  cases Kp394.leastTolerance v n <;> rfl
theorem law_without (v : Inventory) (i : Nat) : stepD (some v) (.lotsWithoutHide i) = (some v, aWithout v i) := by
  unfold stepD aWithout
  rw [count_eq]
  show (some v, (if isHide v i = true then single (Kp394.fewestLots { v with hides := v.hides.eraseIdx i } : Nat) else single (-2)).num :: (if isHide v i = true then single (Kp394.fewestLots { v with hides := v.hides.eraseIdx i } : Nat) else single (-2)).nums) = _
  by_cases c : i < v.hides.length
  · rw [if_pos ((isHide_iff v i).mpr c), if_pos c]
    rfl
  · rw [if_neg (fun h => c ((isHide_iff v i).mp h)), if_neg c]
    rfl
theorem law_with (v : Inventory) (k t a : Nat) : stepD (some v) (.lotsWithHide k t a) = (some v, aWith v k t a) := by
  unfold stepD aWith
  rw [count_eq]
  show (some v, (if validHide k t a = true then single (Kp394.fewestLots { v with hides := v.hides ++ [⟨k, t, a⟩] } : Nat) else single (-22)).num :: (if validHide k t a = true then single (Kp394.fewestLots { v with hides := v.hides ++ [⟨k, t, a⟩] } : Nat) else single (-22)).nums) = _
  by_cases c : validHide k t a = true
  · rw [if_pos c, if_pos c]
    rfl
  · rw [if_neg c, if_neg c]
    rfl
theorem areas_all (v : Inventory) : Kp394.areaOf v (List.range v.hides.length) = (v.hides.map fun h => h.area).sum := by
  unfold Kp394.areaOf
  congr 1
  apply List.ext_getElem
  · simp
  · intro i h1 h2
    simp at h1
    unfold hideAt
    simp [h1]
theorem law_status (v : Inventory) : stepD (some v) .status = (some v, aStatus v) := by
  unfold aStatus
  rw [← areas_all]
  rfl
theorem law_add (v : Inventory) (g : Good v) (k t a : Nat) : stepD (some v) (.addHide k t a) = (some (mAdd v k t a).1, (mAdd v k t a).2) := by
  unfold stepD mAdd
  have e : Kp394.step (some v) (.addHide k t a) = if validHide k t a = false then (some v, single (-22)) else if maxHides ≤ v.hides.length then (some v, single (-28)) else (some { v with hides := v.hides ++ [⟨k, t, a⟩] }, single (v.hides.length : Nat)) := rfl
  rw [e]
  have gl := g.len
  cases c : validHide k t a with
  | false =>
    rw [if_pos rfl, if_neg (by decide)]
    rfl
  | true =>
    rw [if_neg (by decide), if_pos rfl]
    by_cases c2 : v.hides.length = 12
    · rw [if_pos c2, if_pos (by unfold maxHides; omega)]
      rfl
    · rw [if_neg c2, if_neg (by unfold maxHides; omega)]
      rfl
theorem law_remove (v : Inventory) (i : Nat) : stepD (some v) (.removeHide i) = (some (mRemove v i).1, (mRemove v i).2) := by
  unfold stepD mRemove
  have e : Kp394.step (some v) (.removeHide i) = if isHide v i = true then (some { v with hides := v.hides.eraseIdx i }, single (v.hides.length - 1 : Nat)) else (some v, single (-2)) := rfl
  rw [e]
  by_cases c : i < v.hides.length
  · rw [if_pos ((isHide_iff v i).mpr c), if_pos c]
    rfl
  · rw [if_neg (fun h => c ((isHide_iff v i).mp h)), if_neg c]
    rfl
theorem law_set (v : Inventory) (t s : Nat) : stepD (some v) (.setLimits t s) = (some (mSet v t s).1, (mSet v t s).2) := by
  unfold stepD mSet
  have e : Kp394.step (some v) (.setLimits t s) = if validLimits t s = true then (some { v with tolerance := t, lotSize := s }, natResult 0 [v.tolerance, v.lotSize]) else (some v, single (-22)) := rfl
  rw [e]
  by_cases c : validLimits t s = true
  · rw [if_pos c, if_pos c]
    rfl
  · rw [if_neg c, if_neg c]
    rfl
theorem law_thin (v : Inventory) (i t : Nat) : stepD (some v) (.thinHide i t) = (some (mThin v i t).1, (mThin v i t).2) := by
  unfold stepD mThin
  have e : Kp394.step (some v) (.thinHide i t) = if isHide v i = false then (some v, single (-2)) else if t < 1 ∨ (hideAt v i).thickness ≤ t then (some v, single (-22)) else (some { v with hides := v.hides.set i { hideAt v i with thickness := t } }, single ((hideAt v i).thickness : Nat)) := rfl
  rw [e]
  by_cases c : i < v.hides.length
  · have c1 := (isHide_iff v i).mpr c
    rw [if_neg (by rw [c1]; decide), if_pos c]
    by_cases c2 : t = 0 ∨ (hideAt v i).thickness ≤ t
    · rw [if_pos c2, if_pos (by omega)]
      rfl
    · rw [if_neg c2, if_neg (by omega)]
      rfl
  · have c1 : isHide v i = false := by
      cases h : isHide v i with
      | false => rfl
      | true => exact absurd ((isHide_iff v i).mp h) c
    rw [if_pos c1, if_neg c]
    rfl
theorem law_create (st : Option Inventory) (t s : Nat) : stepD st (.create t s) = if validLimits t s = true then (some ⟨[], t, s⟩, [0]) else (st, [-22]) := by
  unfold stepD
  have e : Kp394.step st (.create t s) = if validLimits t s = true then (some ⟨[], t, s⟩, single 0) else (st, single (-22)) := by
    cases st <;> rfl
  rw [e]
  by_cases c : validLimits t s = true
  · rw [if_pos c, if_pos c]
    rfl
  · rw [if_neg c, if_neg c]
    rfl
end MH
namespace MH
open Kp394
def need (op : Nat) : Nat := if op ∈ [1, 17] then 3 else if op ∈ [0, 4, 5, 7] then 2 else if op ∈ [6, 8, 9, 10, 11, 12, 13, 18] then 0 else 1
structure OkC (c : Nat × List Nat) : Prop where
  op : c.1 ≤ 18
  nd : need c.1 ≤ c.2.length
  most : c.2.length ≤ 14
def rowOf (c : Nat × List Nat) : List (List Int) := [(c.1 : Int) :: c.2.map fun (n : Nat) => (n : Int)]
theorem nat_of {z : Int} (h : Kp394Neutral.natural z = true) : ((z.toNat : Nat) : Int) = z := by
  unfold Kp394Neutral.natural at h
  rw [Bool.and_eq_true, decide_eq_true_eq] at h
  omega
theorem nats_of : ∀ {l : List Int}, l.all Kp394Neutral.natural = true → (l.map Int.toNat).map (fun (n : Nat) => (n : Int)) = l
  | [], _ => rfl
  | z :: l, h => by
    rw [List.all_cons, Bool.and_eq_true] at h
    rw [List.map_cons, List.map_cons, nat_of h.1, nats_of h.2]
theorem call_one {c : List (List Int)} (h : Kp394Neutral.asked1 c = true) : ∃ q : Nat × List Nat, c = rowOf q ∧ OkC q ∧ ∀ st, GoodS st → Kp394Neutral.step st c = mCall st q.1 q.2 := by
  unfold Kp394Neutral.asked1 at h
  split at h
  · rename_i a b
    rw [Bool.and_eq_true] at h
    refine ⟨(0, [a.toNat, b.toNat]), ?_, ⟨by show 0 ≤ 18; decide, by show 2 ≤ 2; decide, by show 2 ≤ 14; decide⟩, fun st g => law_create st a.toNat b.toNat⟩
    show _ = [[((0 : Nat) : Int), ((a.toNat : Nat) : Int), ((b.toNat : Nat) : Int)]]
    rw [nat_of h.1, nat_of h.2]
    rfl
  · rename_i a b c
    rw [Bool.and_eq_true, Bool.and_eq_true] at h
    refine ⟨(1, [a.toNat, b.toNat, c.toNat]), ?_, ⟨by show 1 ≤ 18; decide, by show 3 ≤ 3; decide, by show 3 ≤ 14; decide⟩, fun st g => ?_⟩
    · show _ = [[((1 : Nat) : Int), ((a.toNat : Nat) : Int), ((b.toNat : Nat) : Int), ((c.toNat : Nat) : Int)]]
      rw [nat_of h.1, nat_of h.2.1, nat_of h.2.2]
      rfl
    · cases st with
      | none => rfl
      | some v => exact law_add v g a.toNat b.toNat c.toNat
  · rename_i a
    refine ⟨(2, [a.toNat]), ?_, ⟨by show 2 ≤ 18; decide, by show 1 ≤ 1; decide, by show 1 ≤ 14; decide⟩, fun st g => ?_⟩
    · show _ = [[((2 : Nat) : Int), ((a.toNat : Nat) : Int)]]
      rw [nat_of h]
      rfl
    · cases st with
      | none => rfl
      | some v => exact law_remove v a.toNat
  · rename_i a
    refine ⟨(3, [a.toNat]), ?_, ⟨by show 3 ≤ 18; decide, by show 1 ≤ 1; decide, by show 1 ≤ 14; decide⟩, fun st g => ?_⟩
    · show _ = [[((3 : Nat) : Int), ((a.toNat : Nat) : Int)]]
      rw [nat_of h]
      rfl
    · cases st with
      | none => rfl
      | some v => exact law_get v a.toNat
  · rename_i a b
    rw [Bool.and_eq_true] at h
    refine ⟨(4, [a.toNat, b.toNat]), ?_, ⟨by show 4 ≤ 18; decide, by show 2 ≤ 2; decide, by show 2 ≤ 14; decide⟩, fun st g => ?_⟩
    · show _ = [[((4 : Nat) : Int), ((a.toNat : Nat) : Int), ((b.toNat : Nat) : Int)]]
      rw [nat_of h.1, nat_of h.2]
      rfl
    · cases st with
      | none => rfl
      | some v => exact law_set v a.toNat b.toNat
  · rename_i a b
    rw [Bool.and_eq_true] at h
    refine ⟨(5, [a.toNat, b.toNat]), ?_, ⟨by show 5 ≤ 18; decide, by show 2 ≤ 2; decide, by show 2 ≤ 14; decide⟩, fun st g => ?_⟩
    · show _ = [[((5 : Nat) : Int), ((a.toNat : Nat) : Int), ((b.toNat : Nat) : Int)]]
      rw [nat_of h.1, nat_of h.2]
      rfl
    · cases st with
      | none => rfl
      | some v => exact law_thin v a.toNat b.toNat
  · refine ⟨(6, []), rfl, ⟨by show 6 ≤ 18; decide, by show 0 ≤ 0; decide, by show 0 ≤ 14; decide⟩, fun st g => ?_⟩
    cases st with
    | none => rfl
    | some v => exact law_order v
  · rename_i a b
    rw [Bool.and_eq_true] at h
    refine ⟨(7, [a.toNat, b.toNat]), ?_, ⟨by show 7 ≤ 18; decide, by show 2 ≤ 2; decide, by show 2 ≤ 14; decide⟩, fun st g => ?_⟩
    · show _ = [[((7 : Nat) : Int), ((a.toNat : Nat) : Int), ((b.toNat : Nat) : Int)]]
      rw [nat_of h.1, nat_of h.2]
      rfl
    · cases st with
      | none => rfl
      | some v => exact law_compat v a.toNat b.toNat
  · rename_i l
    rw [Bool.and_eq_true, decide_eq_true_eq] at h
    refine ⟨(8, l.map Int.toNat), ?_, ⟨by show 8 ≤ 18; decide, Nat.zero_le _, by show (l.map Int.toNat).length ≤ 14; rw [List.length_map]; exact h.2⟩, fun st g => ?_⟩
    · show _ = [((8 : Nat) : Int) :: (l.map Int.toNat).map fun (n : Nat) => (n : Int)]
      rw [nats_of h.1]
      rfl
    · cases st with
      | none => rfl
      | some v => exact law_isLot v (l.map Int.toNat)
  · refine ⟨(9, []), rfl, ⟨by show 9 ≤ 18; decide, by show 0 ≤ 0; decide, by show 0 ≤ 14; decide⟩, fun st g => ?_⟩
    cases st with
    | none => rfl
    | some v => exact law_count v
  · refine ⟨(10, []), rfl, ⟨by show 10 ≤ 18; decide, by show 0 ≤ 0; decide, by show 0 ≤ 14; decide⟩, fun st g => ?_⟩
    cases st with
    | none => rfl
    | some v => exact law_lots v
  · refine ⟨(11, []), rfl, ⟨by show 11 ≤ 18; decide, by show 0 ≤ 0; decide, by show 0 ≤ 14; decide⟩, fun st g => ?_⟩
    cases st with
    | none => rfl
    | some v => exact law_inc v
  · refine ⟨(12, []), rfl, ⟨by show 12 ≤ 18; decide, by show 0 ≤ 0; decide, by show 0 ≤ 14; decide⟩, fun st g => ?_⟩
    cases st with
    | none => rfl
    | some v => exact law_largest v g
  · rename_i l
    rw [Bool.and_eq_true, decide_eq_true_eq] at h
    refine ⟨(13, l.map Int.toNat), ?_, ⟨by show 13 ≤ 18; decide, Nat.zero_le _, by show (l.map Int.toNat).length ≤ 14; rw [List.length_map]; exact h.2⟩, fun st g => ?_⟩
    · show _ = [((13 : Nat) : Int) :: (l.map Int.toNat).map fun (n : Nat) => (n : Int)]
      rw [nats_of h.1]
      rfl
    · cases st with
      | none => rfl
      | some v => exact law_total v (l.map Int.toNat)
  · rename_i a
    refine ⟨(14, [a.toNat]), ?_, ⟨by show 14 ≤ 18; decide, by show 1 ≤ 1; decide, by show 1 ≤ 14; decide⟩, fun st g => ?_⟩
    · show _ = [[((14 : Nat) : Int), ((a.toNat : Nat) : Int)]]
      rw [nat_of h]
      rfl
    · cases st with
      | none => rfl
      | some v => exact law_pairs v a.toNat
  · rename_i a
    refine ⟨(15, [a.toNat]), ?_, ⟨by show 15 ≤ 18; decide, by show 1 ≤ 1; decide, by show 1 ≤ 14; decide⟩, fun st g => ?_⟩
    · show _ = [[((15 : Nat) : Int), ((a.toNat : Nat) : Int)]]
      rw [nat_of h]
      rfl
    · cases st with
      | none => rfl
      | some v => exact law_least v a.toNat
  · rename_i a
    refine ⟨(16, [a.toNat]), ?_, ⟨by show 16 ≤ 18; decide, by show 1 ≤ 1; decide, by show 1 ≤ 14; decide⟩, fun st g => ?_⟩
    · show _ = [[((16 : Nat) : Int), ((a.toNat : Nat) : Int)]]
      rw [nat_of h]
      rfl
    · cases st with
      | none => rfl
      | some v => exact law_without v a.toNat
  · rename_i a b c
    rw [Bool.and_eq_true, Bool.and_eq_true] at h
    refine ⟨(17, [a.toNat, b.toNat, c.toNat]), ?_, ⟨by show 17 ≤ 18; decide, by show 3 ≤ 3; decide, by show 3 ≤ 14; decide⟩, fun st g => ?_⟩
    · show _ = [[((17 : Nat) : Int), ((a.toNat : Nat) : Int), ((b.toNat : Nat) : Int), ((c.toNat : Nat) : Int)]]
      rw [nat_of h.1, nat_of h.2.1, nat_of h.2.2]
      rfl
    · cases st with
      | none => rfl
      | some v => exact law_with v a.toNat b.toNat c.toNat
  · refine ⟨(18, []), rfl, ⟨by show 18 ≤ 18; decide, by show 0 ≤ 0; decide, by show 0 ≤ 14; decide⟩, fun st g => ?_⟩
    cases st with
    | none => rfl
    | some v => exact law_status v
  · cases h

/-! ### the whole request -/
/-- a call in the list -/
def flat1 (c : Nat × List Nat) : List Int := (c.1 : Int) :: (c.2.length : Int) :: (c.2.map (fun (n : Nat) => (n : Int)) ++ [0])
def flat : List (Nat × List Nat) → List Int
  | [] => []
  | c :: q => flat1 c ++ flat q
/-- the calls' answers, from a state -/
def run : Option Inventory → List (Nat × List Nat) → List Int
  | _, [] => []
  | st, c :: q => ((mCall st c.1 c.2).2.length : Int) :: ((mCall st c.1 c.2).2 ++ run (mCall st c.1 c.2).1 q)
theorem put1_row (c : Nat × List Nat) (r : List Int) : PyWide.put1 (rowOf c) ++ r = flat1 c ++ r := by
  unfold rowOf
  rw [PyWide.put1_append]
  unfold flat1 PyFlat.putRow
  rw [List.length_map]
  simp [PyFlat.putRows]
theorem read_calls : ∀ (cs : List (List (List Int))), cs.all Kp394Neutral.asked1 = true → ∃ q : List (Nat × List Nat), (∀ c ∈ q, OkC c) ∧ PyWide.put cs = flat q ∧ q.length = cs.length ∧ ∀ st, GoodS st → PyFlat.told (PyFlat.played Kp394Neutral.step st cs) = run st q
  | [], _ => ⟨[], fun c hc => (by cases hc), rfl, rfl, fun _ _ => rfl⟩
  | c :: cs, h => by
    rw [List.all_cons, Bool.and_eq_true] at h
    obtain ⟨a, ea, ok, law⟩ := call_one h.1
    obtain ⟨q, h1, h2, h3, h4⟩ := read_calls cs h.2
    refine ⟨a :: q, fun b hb => ?_, ?_, by rw [List.length_cons, List.length_cons, h3], fun st g => ?_⟩
    · rcases List.mem_cons.mp hb with rfl | hb
      · exact ok
      · exact h1 b hb
    · show PyWide.put1 c ++ PyWide.put cs = flat1 a ++ flat q
      rw [ea, put1_row, h2]
    · show PyFlat.told ((Kp394Neutral.step st c).2 :: PyFlat.played Kp394Neutral.step (Kp394Neutral.step st c).1 cs) = _
      rw [law st g]
      show (((mCall st a.1 a.2).2.length : Int) :: (mCall st a.1 a.2).2) ++ PyFlat.told (PyFlat.played Kp394Neutral.step (mCall st a.1 a.2).1 cs) = _
      rw [h4 _ (good_call g a.1 a.2)]
      rfl
/-- a request as it may be handed in: its calls, and what is due -/
theorem request {l : List Int} (h : PyKp394.answers_asked l = true) : ∃ q : List (Nat × List Nat), (∀ c ∈ q, OkC c) ∧ l = flat q ∧ q.length ≤ 60 ∧ PyKp394.answers l = run none q ∧ (run none q).length ≤ 10000000 := by
  unfold PyKp394.answers_asked at h
  unfold PyKp394.answers
  cases e : PyKp394.calls l with
  | none =>
    rw [e] at h
    cases h
  | some cs =>
    rw [e] at h
    have h' : (PyFlat.atMost 60 cs && Kp394Neutral.asked cs && PyFlat.short 10000000 (PyKp394.answers l)) = true := h
    rw [Bool.and_eq_true, Bool.and_eq_true] at h'
    have h2 := h'.1.2
    unfold Kp394Neutral.asked at h2
    rw [Bool.and_eq_true, Bool.and_eq_true, decide_eq_true_eq] at h2
    obtain ⟨q, q1, q2, q3, q4⟩ := read_calls cs h2.2.2
    have hp := (PyWide.put_calls _ _ _ e).1
    have ea : PyKp394.answers l = PyFlat.told (PyFlat.played Kp394Neutral.step Kp394Neutral.start cs) := by
      unfold PyKp394.answers
      rw [e]
    have hs : (PyKp394.answers l).length ≤ 10000000 := of_decide_eq_true h'.2
    have er : PyFlat.told (PyFlat.played Kp394Neutral.step Kp394Neutral.start cs) = run none q := q4 none trivial
    rw [ea, er] at hs
    exact ⟨q, q1, by rw [hp, q2], by omega, er, hs⟩
end MH
/-! Readings over trees of data. H, A: the heap as it is (lists that change and the inventory among it); G: a part of it that nobody changes any more. Ev te s G A d: from any heap that holds G and A the reading te gives a value that is the tree d, over a base that has grown by new objects alone. -/
namespace DT
open PySem PySem.Spec PyProof.Rows L2

/-- the first heap's objects stand in the second (Same of HandS.Words) -/
abbrev Ex (A B : Hp) : Prop := L2.Same A B
theorem Ex.refl (A : Hp) : Ex A A := L2.Same.refl A
theorem Ex.trans {A B D : Hp} (a : Ex A B) (b : Ex B D) : Ex A D := L2.Same.trans a b
theorem Ex.nope {A B : Hp} (e : Ex A B) {p : Addr} (n : B p = none) : A p = none := L2.Same.free e n
theorem Ex.put {H H' : Hp} {p : Addr} {o : HO} (e : Ex H H') (h : H p = none) : Ex H (upd H' p o) := fun a u q => by
  rw [upd_ne (ne_of_none q h)]
  exact e a u q
theorem Ex.put2 {H H' : Hp} {p : Addr} {o : HO} (e : Ex H H') (h : H' p = none) : Ex (L2.upd H p o) (L2.upd H' p o) := fun a u q => by
  by_cases c : a = p
  · subst c
    rw [upd_same] at q ⊢
    exact q
  · rw [upd_ne c] at q ⊢
    exact e a u q

/-- G grows to G2 by objects that were not there (H: before, H2: behind) -/
structure Grow (G H G2 H2 : Hp) : Prop where
  up : Ex H H2
  base : Ex G G2
  sub : Ex G2 H2
  new : ∀ a o, G2 a = some o → G a = some o ∨ H a = none
theorem Grow.refl {G H : Hp} (e : Ex G H) : Grow G H G H := ⟨Ex.refl _, Ex.refl _, e, fun _ _ h => .inl h⟩
theorem Grow.trans {G H G2 H2 G3 H3 : Hp} (a : Grow G H G2 H2) (b : Grow G2 H2 G3 H3) : Grow G H G3 H3 :=
  ⟨a.up.trans b.up, a.base.trans b.base, b.sub, fun x o h => by
    rcases b.new x o h with q | q
    · exact a.new x o q
    · exact .inr (a.up.nope q)⟩
/-- a new object -/
theorem Grow.made {G H : Hp} (e : Ex G H) {p : Addr} {o : HO} (h : H p = none) : Grow G H (upd G p o) (upd H p o) :=
  ⟨fun a u q => by rw [upd_ne (ne_of_none q h)]; exact q, (Ex.refl G).put (e.nope h), e.put2 h, fun a u q => by
    by_cases c : a = p
    · subst c
      exact .inr h
    · rw [upd_ne c] at q
      exact .inl q⟩
/-- a new object that stays out of the base -/
theorem Grow.aside {G H : Hp} (e : Ex G H) {p : Addr} {o : HO} (h : H p = none) : Grow G H G (upd H p o) :=
  ⟨fun a u q => by rw [upd_ne (ne_of_none q h)]; exact q, Ex.refl G, e.put (e.nope h), fun _ _ q => .inl q⟩
/-- an object out of the base changes, that was not there at first -/
theorem Grow.write {G H G2 H2 : Hp} (g : Grow G H G2 H2) {p : Addr} {o : HO} (h : H p = none) (h2 : G2 p = none) : Grow G H G2 (upd H2 p o) :=
  ⟨g.up.put h, g.base, g.sub.put h2, g.new⟩
theorem Grow.out {G H G2 H2 : Hp} (g : Grow G H G2 H2) {p : Addr} {o : HO} (h : G p = none) (h2 : H p = some o) : G2 p = none := by
  cases q : G2 p with
  | none => rfl
  | some u =>
    rcases g.new p u q with z | z
    · rw [h] at z; cases z
    · rw [h2] at z; cases z
/-- a list that was grown aside goes into the base -/
theorem Grow.publish {G H G2 H2 : Hp} (g : Grow G H G2 H2) {p : Addr} {o : HO} (h : H p = none) (h2 : G2 p = none) (h3 : H2 p = some o) : Grow G H (upd G2 p o) H2 :=
  ⟨g.up, g.base.put (by cases q : G p with | none => rfl | some u => rw [g.base p u q] at h2; cases h2), fun a u q => by
    by_cases c : a = p
    · subst c
      rw [upd_same] at q
      cases q
      exact h3
    · rw [upd_ne c] at q
      exact g.sub a u q, fun a u q => by
    by_cases c : a = p
    · subst c
      exact .inr h
    · rw [upd_ne c] at q
      exact g.new a u q⟩
theorem Grow.join {G G2 H2 G3 H3 : Hp} (g : Grow G H2 G3 H3) (e1 : Ex G G2) (e2 : Ex G2 H2) : ∃ U, Grow G2 H2 U H3 ∧ Ex G3 U := by
  refine ⟨fun a => match G2 a with | some o => some o | none => G3 a, ⟨g.up, fun a o h => ?_, fun a o h => ?_, fun a o h => ?_⟩, fun a o h => ?_⟩
  · show (match G2 a with | some o => some o | none => G3 a) = some o
    rw [h]
  · have h' : (match G2 a with | some o => some o | none => G3 a) = some o := h
    cases q : G2 a with
    | some u =>
      rw [q] at h'
      cases h'
      exact g.up a _ (e2 a _ q)
    | none =>
      rw [q] at h'
      exact g.sub a o h'
  · have h' : (match G2 a with | some o => some o | none => G3 a) = some o := h
    cases q : G2 a with
    | some u =>
      rw [q] at h'
      exact .inl h'
    | none =>
      rw [q] at h'
      rcases g.new a o h' with z | z
      · rw [e1 a o z] at q
        cases q
      · exact .inr z
  · show (match G2 a with | some o => some o | none => G3 a) = some o
    cases q : G2 a with
    | some u =>
      show some u = some o
      have h1 := g.up a u (e2 a u q)
      rw [g.sub a o h] at h1
      exact h1.symm
    | none => exact h

/-! ### data in the heap -/
mutual
inductive Is (H : Hp) : V → PyData → Prop
  | non : Is H .non .none
  | bl (b : Bool) : Is H (.bl b) (.bool b)
  | int (i : Int) : Is H (.int i) (.int i)
  | lst {a : Addr} {xs : List V} {ds : List PyData} : H a = some (.lst xs) → IsL H xs ds → Is H (.ref a) (.list ds)
  | tup {a : Addr} {xs : List V} {ds : List PyData} : H a = some (.tup xs) → IsL H xs ds → Is H (.ref a) (.tuple ds)
inductive IsL (H : Hp) : List V → List PyData → Prop
  | nil : IsL H [] []
  | cons {v : V} {vs : List V} {d : PyData} {ds : List PyData} : Is H v d → IsL H vs ds → IsL H (v :: vs) (d :: ds)
end
mutual
theorem Is.mono {H H' : Hp} (e : Ex H H') : ∀ (d : PyData) (v : V), Is H v d → Is H' v d
  | .none, _, h => by cases h; exact .non
  | .bool b, _, h => by cases h; exact .bl b
  | .int i, _, h => by cases h; exact .int i
  | .str x, _, h => by cases h
  | .list ds, _, h => by
    cases h with
    | lst h1 h2 => exact .lst (e _ _ h1) (IsL.mono e ds _ h2)
  | .tuple ds, _, h => by
    cases h with
    | tup h1 h2 => exact .tup (e _ _ h1) (IsL.mono e ds _ h2)
  | .dict _, _, h => by cases h
theorem IsL.mono {H H' : Hp} (e : Ex H H') : ∀ (ds : List PyData) (vs : List V), IsL H vs ds → IsL H' vs ds
  | [], _, h => by cases h; exact .nil
  | d :: ds, _, h => by
    cases h with
    | cons h1 h2 => exact .cons (Is.mono e d _ h1) (IsL.mono e ds _ h2)
end
theorem Is.up {H H' : Hp} {v : V} {d : PyData} (h : Is H v d) (e : Ex H H') : Is H' v d := Is.mono e d v h
theorem IsL.up {H H' : Hp} {vs : List V} {ds : List PyData} (h : IsL H vs ds) (e : Ex H H') : IsL H' vs ds := IsL.mono e ds vs h
mutual
theorem Is.dp {K : PySem.W.Frag} {H : Hp} : ∀ (d : PyData) (v : V), Is H v d → Dp K H v d
  | .none, _, h => by cases h; exact .non
  | .bool b, _, h => by cases h; exact .bl b
  | .int i, _, h => by cases h; exact .int i
  | .str x, _, h => by cases h
  | .list ds, _, h => by
    cases h with
    | lst h1 h2 => exact .lst (SqL.of h1) (IsL.dp ds _ h2)
  | .tuple ds, _, h => by
    cases h with
    | tup h1 h2 => exact .tup (SqT.of h1) (IsL.dp ds _ h2)
  | .dict _, _, h => by cases h
theorem IsL.dp {K : PySem.W.Frag} {H : Hp} : ∀ (ds : List PyData) (vs : List V), IsL H vs ds → DpAll K H vs ds
  | [], _, h => by cases h; exact .nil
  | d :: ds, _, h => by
    cases h with
    | cons h1 h2 => exact .cons (Is.dp d _ h1) (IsL.dp ds _ h2)
end
section
variable {H : Hp} {v : V} {vs ws : List V} {d : PyData} {ds es : List PyData}
theorem is_int {i : Int} (h : Is H v (.int i)) : v = .int i := by cases h; rfl
theorem is_bl {b : Bool} (h : Is H v (.bool b)) : v = .bl b := by cases h; rfl
theorem is_lst (h : Is H v (.list ds)) : ∃ a xs, v = .ref a ∧ H a = some (.lst xs) ∧ IsL H xs ds := by
  cases h with
  | lst h1 h2 => exact ⟨_, _, rfl, h1, h2⟩
theorem is_tup (h : Is H v (.tuple ds)) : ∃ a xs, v = .ref a ∧ H a = some (.tup xs) ∧ IsL H xs ds := by
  cases h with
  | tup h1 h2 => exact ⟨_, _, rfl, h1, h2⟩
theorem IsL.len : ∀ {vs : List V} {ds : List PyData}, IsL H vs ds → vs.length = ds.length
  | _, _, .nil => rfl
  | _, _, .cons _ h => congrArg (· + 1) (IsL.len h)
theorem IsL.get : ∀ {vs : List V} {ds : List PyData} {i : Nat} {d : PyData}, IsL H vs ds → ds[i]? = some d → ∃ v, vs[i]? = some v ∧ Is H v d
  | _, _, _, _, .nil, e => by simp at e
  | _, _, 0, _, .cons h _, e => by
    simp at e
    subst e
    exact ⟨_, rfl, h⟩
  | _, _, i + 1, d, .cons _ t, e => by
    obtain ⟨v, h1, h2⟩ := IsL.get (i := i) (d := d) t (by simpa using e)
    exact ⟨v, by simpa using h1, h2⟩
theorem IsL.get' : ∀ {vs : List V} {ds : List PyData} {i : Nat} {v : V}, IsL H vs ds → vs[i]? = some v → ∃ d, ds[i]? = some d ∧ Is H v d
  | _, _, _, _, .nil, e => by simp at e
  | _, _, 0, _, .cons h _, e => by
    simp at e
    subst e
    exact ⟨_, rfl, h⟩
  | _, _, i + 1, v, .cons _ t, e => by
    obtain ⟨d, h1, h2⟩ := IsL.get' (i := i) (v := v) t (by simpa using e)
    exact ⟨d, by simpa using h1, h2⟩
theorem IsL.app : ∀ {vs ws : List V} {ds es : List PyData}, IsL H vs ds → IsL H ws es → IsL H (vs ++ ws) (ds ++ es)
  | _, _, _, _, .nil, s => s
  | _, _, _, _, .cons h t, s => .cons h (IsL.app t s)
theorem IsL.take : ∀ (n : Nat) {vs : List V} {ds : List PyData}, IsL H vs ds → IsL H (vs.take n) (ds.take n)
  | 0, _, _, _ => .nil
  | _ + 1, _, _, .nil => .nil
  | n + 1, _, _, .cons h t => .cons h (IsL.take n t)
theorem IsL.drop : ∀ (n : Nat) {vs : List V} {ds : List PyData}, IsL H vs ds → IsL H (vs.drop n) (ds.drop n)
  | 0, _, _, h => h
  | _ + 1, _, _, .nil => .nil
  | n + 1, _, _, .cons _ t => IsL.drop n t
theorem IsL.set : ∀ (n : Nat) {vs : List V} {ds : List PyData}, IsL H vs ds → Is H v d → IsL H (vs.set n v) (ds.set n d)
  | _, _, _, .nil, _ => .nil
  | 0, _, _, .cons _ t, h => .cons h t
  | n + 1, _, _, .cons q t, h => .cons q (IsL.set n t h)
theorem IsL.one (h : Is H v d) : IsL H [v] [d] := .cons h .nil
theorem IsL.ints : ∀ {ns : List Int} {vs : List V}, IsL H vs (ns.map PyData.int) → vs = ns.map V.int
  | [], _, h => by cases h; rfl
  | n :: ns, _, h => by
    cases h with
    | cons h1 h2 =>
      rw [is_int h1, IsL.ints h2]
      rfl
theorem ints_is : ∀ (ns : List Int), IsL H (ns.map V.int) (ns.map PyData.int)
  | [] => .nil
  | n :: ns => .cons (.int n) (ints_is ns)
theorem atI_is {i : Int} (h : IsL H vs ds) (e : atI ds i = some d) : ∃ v, atI vs i = some v ∧ Is H v d := by
  unfold atI at e ⊢
  rw [h.len]
  cases q : ixN ds.length i with
  | none => rw [q] at e; cases e
  | some j =>
    rw [q] at e
    exact h.get e
/-- the cut of data -/
def cutD (xs : List PyData) (lo hi : Option Int) : List PyData := (xs.drop (HT.sIx xs.length 0 lo)).take (HT.sIx xs.length xs.length hi - HT.sIx xs.length 0 lo)
theorem cut_is {lo hi : Option Int} (h : IsL H vs ds) : IsL H (cutV vs lo hi) (cutD ds lo hi) := by
  unfold cutV cutD
  rw [h.len]
  exact IsL.take _ (IsL.drop _ h)
theorem cutD_to (xs : List PyData) (n : Nat) : cutD xs none (some (n : Int)) = xs.take n := by
  unfold cutD
  rw [HT.sIx_none, HT.sIx_nat, List.drop_zero, Nat.sub_zero]
  by_cases c : n ≤ xs.length
  · rw [Nat.min_eq_left c]
  · rw [Nat.min_eq_right (by omega), List.take_of_length_le (Nat.le_refl _), List.take_of_length_le (by omega)]
theorem cutD_from (xs : List PyData) (n : Nat) : cutD xs (some (n : Int)) none = xs.drop n := by
  unfold cutD
  rw [HT.sIx_none, HT.sIx_nat]
  by_cases c : n ≤ xs.length
  · rw [Nat.min_eq_left c, List.take_of_length_le (by rw [List.length_drop]; omega)]
  · rw [Nat.min_eq_right (by omega), List.drop_eq_nil_of_le (Nat.le_refl _), List.drop_eq_nil_of_le (by omega), List.take_nil]
theorem cutD_mid (xs : List PyData) (n m : Nat) (h : m ≤ xs.length) : cutD xs (some (n : Int)) (some (m : Int)) = (xs.drop n).take (m - n) := by
  unfold cutD
  rw [HT.sIx_nat, HT.sIx_nat, Nat.min_eq_left h]
  by_cases c : n ≤ xs.length
  · rw [Nat.min_eq_left c]
  · rw [Nat.min_eq_right (by omega), List.drop_eq_nil_of_le (Nat.le_refl _), List.drop_eq_nil_of_le (by omega), List.take_nil, List.take_nil]
end

/-! ### readings -/
def Ret (G H : Hp) (d : PyData) (Q : VK) : Prop := ∀ v G2 H2, Grow G H G2 H2 → Is G2 v d → Q v H2
def Ev (te : TE) (σ : L2.St) (G A : Hp) (d : PyData) : Prop := ∀ H, Ex G H → Ex A H → ∀ Q : VK, Ret G H d Q → te σ H Q
def EvB (tt : TT) (σ : L2.St) (G A : Hp) (b : Bool) : Prop := ∀ H, Ex G H → Ex A H → ∀ Q : Bool → Hp → Prop, (∀ H2, Ex H H2 → Q b H2) → tt σ H Q
def EvA (ta : TA) (σ : L2.St) (G A : Hp) (ds : List PyData) : Prop := ∀ H, Ex G H → Ex A H → ∀ Q : List V → Hp → Prop, (∀ vs G2 H2, Grow G H G2 H2 → IsL G2 vs ds → Q vs H2) → ta σ H Q
def EvO (to : TO) (σ : L2.St) (G A : Hp) (o : Option Int) : Prop := ∀ H, Ex G H → Ex A H → ∀ Q : Option Int → Hp → Prop, (∀ H2, Ex H H2 → Q o H2) → to σ H Q

section
variable {K : PySem.W.Frag} {σ : L2.St} {G A G2 A2 H : Hp} {ta tb te : TE} {t u : TT} {v : V} {d d1 d2 : PyData} {ds es : List PyData}
theorem Ret.go {G0 H0 : Hp} {Q : VK} (k : Ret G0 H0 d Q) (g : Grow G0 H0 G H) : Ret G H d Q := fun v G2 H2 g2 h => k v G2 H2 (g.trans g2) h
theorem Ev.mono (h : Ev te σ G A d) (e : Ex G G2) (a : Ex A A2) : Ev te σ G2 A2 d := fun H1 e1 a1 Q k => h H1 (e.trans e1) (a.trans a1) Q fun v G3 H3 g hv => by
  obtain ⟨U, gU, eU⟩ := g.join e e1
  exact k v U H3 gU (hv.up eU)
theorem EvB.mono {b : Bool} (h : EvB t σ G A b) (e : Ex G G2) (a : Ex A A2) : EvB t σ G2 A2 b := fun H1 e1 a1 Q k => h H1 (e.trans e1) (a.trans a1) Q k
theorem EvO.mono {to : TO} {o : Option Int} (h : EvO to σ G A o) (e : Ex G G2) (a : Ex A A2) : EvO to σ G2 A2 o := fun H1 e1 a1 Q k => h H1 (e.trans e1) (a.trans a1) Q k
theorem EvA.mono {ta : TA} (h : EvA ta σ G A ds) (e : Ex G G2) (a : Ex A A2) : EvA ta σ G2 A2 ds := fun H1 e1 a1 Q k => h H1 (e.trans e1) (a.trans a1) Q fun v G3 H3 g hv => by
  obtain ⟨U, gU, eU⟩ := g.join e e1
  exact k v U H3 gU (hv.up eU)
theorem Ev.is (h : Ev te σ G A d1) (e : d1 = d2) : Ev te σ G A d2 := e ▸ h
theorem EvB.is {b c : Bool} (h : EvB t σ G A b) (e : b = c) : EvB t σ G A c := e ▸ h

theorem ev_var {i : Nat} (h : σ[i]? = some (some v)) (hv : Is G v d) : Ev (tVar i) σ G A d := fun H1 e1 _ _ k => ⟨v, h, k v G H1 (Grow.refl e1) hv⟩
theorem ev_int {i : Int} : Ev (tC (.int i)) σ G A (.int i) := fun H1 e1 _ _ k => k _ G H1 (Grow.refl e1) (.int i)
theorem ev_bl {b : Bool} : Ev (tC (.bl b)) σ G A (.bool b) := fun H1 e1 _ _ k => k _ G H1 (Grow.refl e1) (.bl b)
/-- two readings in a row -/
theorem ev2 {R : V → V → Hp → VK → Prop} (ha : Ev ta σ G A d1) (hb : Ev tb σ G A d2)
    (hr : ∀ x y G1 H1, Ex G G1 → Ex A H1 → Ex G1 H1 → Is G1 x d1 → Is G1 y d2 → ∀ Q : VK, Ret G1 H1 d Q → R x y H1 Q) : Ev (tOp R ta tb) σ G A d := fun H1 e1 a1 Q k =>
  ha H1 e1 a1 _ fun x G2 H2 g2 hx => hb.mono g2.base (a1.trans g2.up) H2 g2.sub (Ex.refl _) _ fun y G3 H3 g3 hy =>
    hr x y G3 H3 (g2.base.trans g3.base) ((a1.trans g2.up).trans g3.up) g3.sub (hx.up g3.base) hy Q (k.go (g2.trans g3))
theorem ev_opI {f : Int → Int → Int} {i j : Int} (ha : Ev ta σ G A (.int i)) (hb : Ev tb σ G A (.int j)) : Ev (tOp (rI0 fun i j => .int (f i j)) ta tb) σ G A (.int (f i j)) :=
  ev2 ha hb fun x y G1 H1 _ _ e hx hy Q k => ⟨i, j, is_int hx, is_int hy, k _ G1 H1 (Grow.refl e) (.int _)⟩
theorem ev_opB {f : Int → Int → Bool} {i j : Int} (ha : Ev ta σ G A (.int i)) (hb : Ev tb σ G A (.int j)) : Ev (tOp (rI0 fun i j => .bl (f i j)) ta tb) σ G A (.bool (f i j)) :=
  ev2 ha hb fun x y G1 H1 _ _ e hx hy Q k => ⟨i, j, is_int hx, is_int hy, k _ G1 H1 (Grow.refl e) (.bl _)⟩
theorem ev_opC {C : Int → Int → Prop} {f : Int → Int → Int} {i j : Int} (ha : Ev ta σ G A (.int i)) (hb : Ev tb σ G A (.int j)) (hc : C i j) : Ev (tOp (rI C fun i j => .int (f i j)) ta tb) σ G A (.int (f i j)) :=
  ev2 ha hb fun x y G1 H1 _ _ e hx hy Q k => ⟨i, j, is_int hx, is_int hy, hc, k _ G1 H1 (Grow.refl e) (.int _)⟩
theorem ev_eq {i j : Int} (ha : Ev ta σ G A (.int i)) (hb : Ev tb σ G A (.int j)) : Ev (tOp rEq ta tb) σ G A (.bool (decide (i = j))) :=
  ev2 ha hb fun x y G1 H1 _ _ e hx hy Q k => by
    cases hx
    cases hy
    refine ⟨rfl, ?_⟩
    have q : decide (V.int i = V.int j) = decide (i = j) := by
      rw [dec_int]
      rfl
    rw [q]
    exact k _ G1 H1 (Grow.refl e) (.bl _)
theorem ev_ne {i j : Int} (ha : Ev ta σ G A (.int i)) (hb : Ev tb σ G A (.int j)) : Ev (tOp rNe ta tb) σ G A (.bool (!decide (i = j))) :=
  ev2 ha hb fun x y G1 H1 _ _ e hx hy Q k => by
    cases hx
    cases hy
    refine ⟨rfl, ?_⟩
    have q : decide (V.int i = V.int j) = decide (i = j) := by
      rw [dec_int]
      rfl
    rw [q]
    exact k _ G1 H1 (Grow.refl e) (.bl _)
theorem ev_ixL {i : Int} (ha : Ev ta σ G A (.list ds)) (hb : Ev tb σ G A (.int i)) (h : atI ds i = some d) : Ev (tOp (rIxL K) ta tb) σ G A d :=
  ev2 ha hb fun x y G1 H1 _ _ e hx hy Q k => by
    obtain ⟨p, xs, rfl, h1, h2⟩ := is_lst hx
    obtain ⟨w, h3, h4⟩ := atI_is h2 h
    exact ⟨p, xs, i, w, rfl, is_int hy, SqL.of (e _ _ h1), h3, k _ G1 H1 (Grow.refl e) h4⟩
theorem ev_ixT {i : Int} (ha : Ev ta σ G A (.tuple ds)) (hb : Ev tb σ G A (.int i)) (h : atI ds i = some d) : Ev (tOp (rIxT K) ta tb) σ G A d :=
  ev2 ha hb fun x y G1 H1 _ _ e hx hy Q k => by
    obtain ⟨p, xs, rfl, h1, h2⟩ := is_tup hx
    obtain ⟨w, h3, h4⟩ := atI_is h2 h
    exact ⟨p, xs, i, w, rfl, is_int hy, SqT.of (e _ _ h1), h3, k _ G1 H1 (Grow.refl e) h4⟩
theorem ev_cat (ha : Ev ta σ G A (.list ds)) (hb : Ev tb σ G A (.list es)) (hl : ds.length + es.length ≤ 100000) : Ev (tOp rCat ta tb) σ G A (.list (ds ++ es)) :=
  ev2 ha hb fun x y G1 H1 _ _ e hx hy Q k => by
    obtain ⟨p, xs, rfl, h1, h2⟩ := is_lst hx
    obtain ⟨q, ys, rfl, h3, h4⟩ := is_lst hy
    refine ⟨p, q, xs, ys, rfl, rfl, e _ _ h1, e _ _ h3, ?_, fun r hr => ?_⟩
    · rw [h2.len, h4.len]
      exact Nat.le_trans hl (by decide)
    · exact k _ _ _ (Grow.made e hr) (.lst upd_same ((h2.app h4).up ((Ex.refl G1).put (e.nope hr))))
theorem inV_ints {i : Int} : ∀ (ns : List Int), inV (.int i) (ns.map V.int) = decide (i ∈ ns)
  | [] => rfl
  | n :: ns => by
    have ih := inV_ints (i := i) ns
    unfold inV at ih ⊢
    rw [List.map_cons, List.any_cons, ih]
    show ((n == i) || decide (i ∈ ns)) = decide (i ∈ n :: ns)
    rw [Bool.eq_iff_iff]
    simp
    exact or_congr_left eq_comm
theorem flat_ints : ∀ (ns : List Int), (ns.map V.int).all flatV = true
  | [] => rfl
  | n :: ns => by
    rw [List.map_cons, List.all_cons, flat_ints ns]
    rfl
theorem ev_inL {i : Int} {ns : List Int} (ha : Ev ta σ G A (.int i)) (hb : Ev tb σ G A (.list (ns.map PyData.int))) : Ev (tOp (rIn K false) ta tb) σ G A (.bool (decide (i ∈ ns))) :=
  ev2 ha hb fun x y G1 H1 _ _ e hx hy Q k => by
    obtain ⟨p, xs, rfl, h1, h2⟩ := is_lst hy
    obtain rfl := IsL.ints h2
    rw [is_int hx]
    refine ⟨p, _, rfl, Or.inl (SqL.of (e _ _ h1)), rfl, flat_ints ns, ?_⟩
    show Q (.bl (inV (.int i) (ns.map V.int))) H1
    rw [inV_ints]
    exact k _ G1 H1 (Grow.refl e) (.bl _)
theorem ev_inT {i : Int} {ns : List Int} (ha : Ev ta σ G A (.int i)) (hb : Ev tb σ G A (.tuple (ns.map PyData.int))) : Ev (tOp (rIn K false) ta tb) σ G A (.bool (decide (i ∈ ns))) :=
  ev2 ha hb fun x y G1 H1 _ _ e hx hy Q k => by
    obtain ⟨p, xs, rfl, h1, h2⟩ := is_tup hy
    obtain rfl := IsL.ints h2
    rw [is_int hx]
    refine ⟨p, _, rfl, Or.inr (SqT.of (e _ _ h1)), rfl, flat_ints ns, ?_⟩
    show Q (.bl (inV (.int i) (ns.map V.int))) H1
    rw [inV_ints]
    exact k _ G1 H1 (Grow.refl e) (.bl _)
/-- == and != with an empty list -/
theorem ev_eqD (ha : Ev ta σ G A d1) (hb : Ev tb σ G A d2) (h1 : SeqAt.shaped d1 = true) (h2 : SeqAt.shaped d2 = true) : Ev (tOp (rEqD K) ta tb) σ G A (.bool (PyData.eqv d1 d2)) :=
  ev2 ha hb fun x y G1 H1 _ _ e hx hy Q k => ⟨d1, d2, Is.dp _ _ (hx.up e), Is.dp _ _ (hy.up e), h1, h2, k _ G1 H1 (Grow.refl e) (.bl _)⟩
theorem ev_neD (ha : Ev ta σ G A d1) (hb : Ev tb σ G A d2) (h1 : SeqAt.shaped d1 = true) (h2 : SeqAt.shaped d2 = true) : Ev (tOp (rNeD K) ta tb) σ G A (.bool (!PyData.eqv d1 d2)) :=
  ev2 ha hb fun x y G1 H1 _ _ e hx hy Q k => ⟨d1, d2, Is.dp _ _ (hx.up e), Is.dp _ _ (hy.up e), h1, h2, k _ G1 H1 (Grow.refl e) (.bl _)⟩

/-! ### arguments, displays, calls -/
theorem ea_nil : EvA tNil σ G A [] := fun H1 e1 _ _ k => k [] G H1 (Grow.refl e1) .nil
theorem ea_cons {tr : TA} (h : Ev ta σ G A d) (hr : EvA tr σ G A ds) : EvA (tCons ta tr) σ G A (d :: ds) := fun H1 e1 a1 Q k =>
  h H1 e1 a1 _ fun x G2 H2 g2 hx => hr.mono g2.base (a1.trans g2.up) H2 g2.sub (Ex.refl _) _ fun vs G3 H3 g3 hv => k (x :: vs) G3 H3 (g2.trans g3) (.cons (hx.up g3.base) hv)
theorem ea_one (h : Ev ta σ G A d) : EvA (tCons ta tNil) σ G A [d] := ea_cons h ea_nil
theorem ea_two (h : Ev ta σ G A d1) (h' : Ev tb σ G A d2) : EvA (tCons ta (tCons tb tNil)) σ G A [d1, d2] := ea_cons h (ea_one h')
theorem ev_lst {t : TA} (h : EvA t σ G A ds) (hl : ds.length ≤ 100000) : Ev (tLst t) σ G A (.list ds) := fun H1 e1 a1 Q k =>
  h H1 e1 a1 _ fun vs G2 H2 g2 hv => ⟨by rw [hv.len]; exact Nat.le_trans hl (by decide), fun p hp => k.go g2 _ _ _ (Grow.made g2.sub hp) (.lst upd_same (hv.up ((Ex.refl G2).put (g2.sub.nope hp))))⟩
theorem ev_tup {t : TA} (h : EvA t σ G A ds) (hl : ds.length ≤ 100000) : Ev (tTup t) σ G A (.tuple ds) := fun H1 e1 a1 Q k =>
  h H1 e1 a1 _ fun vs G2 H2 g2 hv => ⟨by rw [hv.len]; exact Nat.le_trans hl (by decide), fun p hp => k.go g2 _ _ _ (Grow.made g2.sub hp) (.tup upd_same (hv.up ((Ex.refl G2).put (g2.sub.nope hp))))⟩
/-- a call by values -/
theorem ev_cb {r : List V → Hp → VK → Prop} {t : TA} (h : EvA t σ G A ds) (hr : ∀ vs G1 H1, Ex G G1 → Ex A H1 → Ex G1 H1 → IsL G1 vs ds → ∀ Q : VK, Ret G1 H1 d Q → r vs H1 Q) : Ev (tCB r t) σ G A d := fun H1 e1 a1 Q k =>
  h H1 e1 a1 _ fun vs G2 H2 g2 hv => hr vs G2 H2 g2.base (a1.trans g2.up) g2.sub hv Q (k.go g2)
def rLen (K : PySem.W.Frag) : List V → Hp → VK → Prop := fun xs H Q => ∃ p ys, xs = [.ref p] ∧ (SqL K H p ys ∨ SqT K H p ys) ∧ Q (.int ys.length) H
theorem isL1 {G : Hp} {vs : List V} {d : PyData} (h : IsL G vs [d]) : ∃ v, vs = [v] ∧ Is G v d := by
  cases h with
  | cons h1 h2 =>
    cases h2
    exact ⟨_, rfl, h1⟩
theorem ev_len (h : Ev ta σ G A (.list ds)) : Ev (tCB (rLen K) (tCons ta tNil)) σ G A (.int (ds.length : Int)) :=
  ev_cb (ea_one h) fun vs G1 H1 _ _ e hv Q k => by
    obtain ⟨v, rfl, hw⟩ := isL1 hv
    obtain ⟨p, xs, rfl, h1, h2⟩ := is_lst hw
    refine ⟨p, xs, rfl, Or.inl (SqL.of (e _ _ h1)), ?_⟩
    rw [h2.len]
    exact k _ G1 H1 (Grow.refl e) (.int _)
def rAbs : List V → Hp → VK → Prop := fun xs H Q => ∃ i, xs = [.int i] ∧ Q (.int (if i < 0 then -i else i)) H
theorem ev_abs {i : Int} (h : Ev ta σ G A (.int i)) : Ev (tCB rAbs (tCons ta tNil)) σ G A (.int (if i < 0 then -i else i)) :=
  ev_cb (ea_one h) fun vs G1 H1 _ _ e hv Q k => by
    obtain ⟨v, rfl, hw⟩ := isL1 hv
    rw [is_int hw]
    exact ⟨i, rfl, k _ G1 H1 (Grow.refl e) (.int _)⟩
def rInt : List V → Hp → VK → Prop := fun xs H Q => (∃ i, xs = [.int i] ∧ Q (.int i) H) ∨ ∃ k, xs = [.bl k] ∧ Q (.int (if k then 1 else 0)) H
theorem ev_intB {b : Bool} (h : Ev ta σ G A (.bool b)) : Ev (tCB rInt (tCons ta tNil)) σ G A (.int (if b then 1 else 0)) :=
  ev_cb (ea_one h) fun vs G1 H1 _ _ e hv Q k => by
    obtain ⟨v, rfl, hw⟩ := isL1 hv
    rw [is_bl hw]
    exact Or.inr ⟨b, rfl, k _ G1 H1 (Grow.refl e) (.int _)⟩
def rList (K : PySem.W.Frag) : List V → Hp → VK → Prop := fun xs H Q => ∃ p ys, xs = [.ref p] ∧ (SqL K H p ys ∨ SqT K H p ys) ∧ ∀ l, H l = none → Q (.ref l) (upd H l (.lst ys))
theorem ev_listT (h : Ev ta σ G A (.tuple ds)) : Ev (tCB (rList K) (tCons ta tNil)) σ G A (.list ds) :=
  ev_cb (ea_one h) fun vs G1 H1 _ _ e hv Q k => by
    obtain ⟨v, rfl, hw⟩ := isL1 hv
    obtain ⟨p, xs, rfl, h1, h2⟩ := is_tup hw
    exact ⟨p, xs, rfl, Or.inr (SqT.of (e _ _ h1)), fun l hl => k _ _ _ (Grow.made e hl) (.lst upd_same (h2.up ((Ex.refl G1).put (e.nope hl))))⟩
theorem ev_sum {ns : List Int} (h : Ev ta σ G A (.list (ns.map PyData.int))) : Ev (tCB (rSum K) (tCons ta tNil)) σ G A (.int ns.sum) :=
  ev_cb (ea_one h) fun vs G1 H1 _ _ e hv Q k => by
    obtain ⟨v, rfl, hw⟩ := isL1 hv
    obtain ⟨p, xs, rfl, h1, h2⟩ := is_lst hw
    obtain rfl := IsL.ints h2
    exact ⟨p, ns, rfl, SqL.of (e _ _ h1), k _ G1 H1 (Grow.refl e) (.int _)⟩

/-! ### slices -/
theorem eo_none : EvO tNoPart σ G A none := fun H1 _ _ _ k => k H1 (Ex.refl _)
theorem eo_some {i : Int} (h : Ev te σ G A (.int i)) : EvO (tPart te) σ G A (some i) := fun H1 e1 a1 Q k => h H1 e1 a1 _ fun v G2 H2 g2 hv => ⟨i, is_int hv, k H2 g2.up⟩
theorem ev_slice {tl th : TO} {lo hi : Option Int} (h : Ev te σ G A (.list ds)) (h1 : EvO tl σ G A lo) (h2 : EvO th σ G A hi) : Ev (tSl (rSlL K) te tl th) σ G A (.list (cutD ds lo hi)) := fun H1 e1 a1 Q k =>
  h H1 e1 a1 _ fun v G2 H2 g2 hv => h1 H2 (e1.trans g2.up) (a1.trans g2.up) _ fun H3 e3 => h2 H3 ((e1.trans g2.up).trans e3) ((a1.trans g2.up).trans e3) _ fun H4 e4 => by
    obtain ⟨p, xs, rfl, q1, q2⟩ := is_lst hv
    have eg : Ex G2 H4 := (g2.sub.trans e3).trans e4
    have g4 : Grow G H1 G2 H4 := ⟨(g2.up.trans e3).trans e4, g2.base, eg, g2.new⟩
    refine ⟨p, xs, rfl, SqL.of (eg _ _ q1), fun l hl => k.go g4 _ _ _ (Grow.made eg hl) (.lst upd_same ?_)⟩
    exact (cut_is q2).up ((Ex.refl G2).put (eg.nope hl))

/-! ### tests -/
theorem eb_test {b : Bool} (h : Ev te σ G A (.bool b)) : EvB (tTest te) σ G A b := fun H1 e1 a1 _ k => h H1 e1 a1 _ fun v G2 H2 g2 hv => ⟨b, is_bl hv, k H2 g2.up⟩
theorem eb_B {b : Bool} (h : Ev te σ G A (.bool b)) : EvB (tB te) σ G A b := fun H1 e1 a1 _ k => h H1 e1 a1 _ fun v G2 H2 g2 hv => ⟨b, is_bl hv, k H2 g2.up⟩
theorem eb_and {a b : Bool} (h1 : EvB t σ G A a) (h2 : a = true → EvB u σ G A b) : EvB (tAnd t u) σ G A (a && b) := fun H1 e1 a1 Q k => h1 H1 e1 a1 _ fun H2 e2 => by
  cases a with
  | true =>
    show u σ H2 Q
    exact h2 rfl H2 (e1.trans e2) (a1.trans e2) Q fun H3 e3 => k H3 (e2.trans e3)
  | false =>
    show Q false H2
    exact k H2 e2
theorem eb_or {a b : Bool} (h1 : EvB t σ G A a) (h2 : a = false → EvB u σ G A b) : EvB (tOr t u) σ G A (a || b) := fun H1 e1 a1 Q k => h1 H1 e1 a1 _ fun H2 e2 => by
  cases a with
  | true =>
    show Q true H2
    exact k H2 e2
  | false =>
    show u σ H2 Q
    exact h2 rfl H2 (e1.trans e2) (a1.trans e2) Q fun H3 e3 => k H3 (e2.trans e3)
theorem eb_not {a : Bool} (h1 : EvB t σ G A a) : EvB (tNot t) σ G A (!a) := fun H1 e1 a1 _ k => h1 H1 e1 a1 _ fun H2 e2 => k H2 e2
theorem ev_andV {a b : Bool} (h1 : Ev ta σ G A (.bool a)) (h2 : a = true → Ev tb σ G A (.bool b)) : Ev (tAndV ta tb) σ G A (.bool (a && b)) := fun H1 e1 a1 Q k => h1 H1 e1 a1 _ fun v G2 H2 g2 hv => ⟨a, is_bl hv, by
  cases a with
  | true =>
    show tb σ H2 Q
    exact (h2 rfl).mono g2.base (a1.trans g2.up) H2 g2.sub (Ex.refl _) Q (k.go g2)
  | false =>
    show Q (.bl false) H2
    exact k _ _ _ g2 (.bl false)⟩
theorem ev_if {b : Bool} (h : EvB t σ G A b) (h1 : b = true → Ev ta σ G A d) (h2 : b = false → Ev tb σ G A d) : Ev (tIf t ta tb) σ G A d := fun H1 e1 a1 Q k => h H1 e1 a1 _ fun H2 e2 => by
  have g : Grow G H1 G H2 := ⟨e2, Ex.refl _, e1.trans e2, fun _ _ q => .inl q⟩
  cases b with
  | true =>
    show ta σ H2 Q
    exact h1 rfl H2 (e1.trans e2) (a1.trans e2) Q (k.go g)
  | false =>
    show tb σ H2 Q
    exact h2 rfl H2 (e1.trans e2) (a1.trans e2) Q (k.go g)
/-- a <= b <= c of ints: the second comparison by rule too -/
theorem ev_chain {f g : Int → Int → Bool} {i j l : Int} {tc : TE} (ha : Ev ta σ G A (.int i)) (hb : Ev tb σ G A (.int j)) (hc : Ev tc σ G A (.int l)) :
    Ev (tChain (rI0 fun i j => .bl (f i j)) (rI0 fun i j => .bl (g i j)) ta tb tc) σ G A (.bool (f i j && g j l)) := fun H1 e1 a1 Q k =>
  ha H1 e1 a1 _ fun x G2 H2 g2 hx => hb.mono g2.base (a1.trans g2.up) H2 g2.sub (Ex.refl _) _ fun y G3 H3 g3 hy => by
    refine ⟨i, j, is_int hx, is_int hy, f i j, rfl, ?_⟩
    cases c : f i j with
    | true =>
      rw [if_pos rfl]
      refine hc.mono (g2.base.trans g3.base) ((a1.trans g2.up).trans g3.up) H3 g3.sub (Ex.refl _) _ fun z G4 H4 g4 hz => ?_
      have q := k _ G4 H4 ((g2.trans g3).trans g4) (.bl _)
      rw [c, Bool.true_and] at q
      exact ⟨j, l, is_int hy, is_int hz, q⟩
    | false =>
      rw [if_neg Bool.false_ne_true]
      have q := k _ G3 H3 (g2.trans g3) (.bl _)
      rw [c, Bool.false_and] at q
      exact q
end
end DT
namespace DT
open PySem PySem.Spec PyProof.Rows L2
/-! ### names of the operators' readings -/
abbrev rLt : R2 := rI0 fun i j => .bl (decide (i < j))
abbrev rLe : R2 := rI0 fun i j => .bl (decide (i ≤ j))
abbrev rGt : R2 := rI0 fun i j => .bl (decide (j < i))
abbrev rGe : R2 := rI0 fun i j => .bl (decide (j ≤ i))
abbrev rAddI : R2 := rI0 fun i j => .int (i + j)
abbrev rSubI : R2 := rI0 fun i j => .int (i - j)
abbrev rModI : R2 := rI (fun _ j => 0 < j) fun i j => .int (i % j)
abbrev rDivI : R2 := rI CDiv fun i j => .int (i / j)
abbrev rNeg : V → Hp → VK → Prop := rU fun i => .int (-i)
def rIsN : R2 := fun one two A Q => two = V.non ∧ Q (V.bl (decide (one = V.non))) A
section
variable {K : PySem.W.Frag} {σ : L2.St} {G A G2 A2 H : Hp} {ta tb te : TE} {t u : TT} {v : V} {d d1 d2 : PyData} {ds es : List PyData} {D : Ends} {tu tw tz : TS} {g : TG}
theorem ev_lt {i j : Int} (ha : Ev ta σ G A (.int i)) (hb : Ev tb σ G A (.int j)) : Ev (tOp rLt ta tb) σ G A (.bool (decide (i < j))) := ev_opB (f := fun i j => decide (i < j)) ha hb
theorem ev_le {i j : Int} (ha : Ev ta σ G A (.int i)) (hb : Ev tb σ G A (.int j)) : Ev (tOp rLe ta tb) σ G A (.bool (decide (i ≤ j))) := ev_opB (f := fun i j => decide (i ≤ j)) ha hb
theorem ev_gt {i j : Int} (ha : Ev ta σ G A (.int i)) (hb : Ev tb σ G A (.int j)) : Ev (tOp rGt ta tb) σ G A (.bool (decide (j < i))) := ev_opB (f := fun i j => decide (j < i)) ha hb
theorem ev_ge {i j : Int} (ha : Ev ta σ G A (.int i)) (hb : Ev tb σ G A (.int j)) : Ev (tOp rGe ta tb) σ G A (.bool (decide (j ≤ i))) := ev_opB (f := fun i j => decide (j ≤ i)) ha hb
theorem ev_add {i j : Int} (ha : Ev ta σ G A (.int i)) (hb : Ev tb σ G A (.int j)) : Ev (tOp rAddI ta tb) σ G A (.int (i + j)) := ev_opI (f := fun i j => i + j) ha hb
theorem ev_sub {i j : Int} (ha : Ev ta σ G A (.int i)) (hb : Ev tb σ G A (.int j)) : Ev (tOp rSubI ta tb) σ G A (.int (i - j)) := ev_opI (f := fun i j => i - j) ha hb
theorem ev_mod {i j : Int} (ha : Ev ta σ G A (.int i)) (hb : Ev tb σ G A (.int j)) (h : 0 < j) : Ev (tOp rModI ta tb) σ G A (.int (i % j)) := ev_opC (f := fun i j => i % j) ha hb h
theorem ev_div {i j : Int} (ha : Ev ta σ G A (.int i)) (hb : Ev tb σ G A (.int j)) (h : CDiv i j) : Ev (tOp rDivI ta tb) σ G A (.int (i / j)) := ev_opC (f := fun i j => i / j) ha hb h
theorem ev_neg {i : Int} (h : Ev te σ G A (.int i)) : Ev (tUn rNeg te) σ G A (.int (-i)) := fun H1 e1 a1 Q k => h H1 e1 a1 _ fun v G2 H2 g2 hv => ⟨i, is_int hv, k _ G2 H2 g2 (.int _)⟩
theorem ev_isN (ha : Ev ta σ G A d) (h : ∀ G v, Is G v d → decide (v = .non) = false) : Ev (tOp rIsN ta (tC .non)) σ G A (.bool false) := fun H1 e1 a1 Q k =>
  ha H1 e1 a1 _ fun x G2 H2 g2 hx => ⟨rfl, by
    rw [h G2 x hx]
    exact k _ G2 H2 g2 (.bl false)⟩

/-! ### statements -/
theorem s_ret (e : Ex G H) (h : Ev te σ G H d) (k : Ret G H d D.rt) : tRet te D σ H := h H e (Ex.refl _) D.rt k
theorem s_set {i : Nat} (e : Ex G H) (h : Ev te σ G H d) (k : ∀ v G2 H2, Grow G H G2 H2 → Is G2 v d → D.nx (σ.set i (some v)) H2) : tAsg te (gName i) D σ H := h H e (Ex.refl _) _ k
theorem q_set {i : Nat} (e : Ex G H) (h : Ev te σ G H d) (k : ∀ v G2 H2, Grow G H G2 H2 → Is G2 v d → tz D (σ.set i (some v)) H2) : tSeq (tAsg te (gName i)) tz D σ H := h H e (Ex.refl _) _ k
theorem s_if {b : Bool} (e : Ex G H) (h : EvB t σ G H b) (h1 : b = true → ∀ H2, Grow G H G H2 → tu D σ H2) (h2 : b = false → ∀ H2, Grow G H G H2 → tw D σ H2) : tIfS t tu tw D σ H := h H e (Ex.refl _) _ fun H2 e2 => by
  have g : Grow G H G H2 := ⟨e2, Ex.refl _, e.trans e2, fun _ _ q => .inl q⟩
  cases b with
  | true => exact h1 rfl H2 g
  | false => exact h2 rfl H2 g
theorem q_if {b : Bool} (e : Ex G H) (h : EvB t σ G H b) (h1 : b = true → ∀ H2, Grow G H G H2 → tu { D with nx := tz D } σ H2) (h2 : b = false → ∀ H2, Grow G H G H2 → tw { D with nx := tz D } σ H2) : tSeq (tIfS t tu tw) tz D σ H := s_if (D := { D with nx := tz D }) e h h1 h2
theorem q_when {b : Bool} (e : Ex G H) (h : EvB t σ G H b) (h1 : b = true → ∀ H2, Grow G H G H2 → tu { D with nx := tz D } σ H2) (h2 : b = false → ∀ H2, Grow G H G H2 → tz D σ H2) : tSeq (tIfS t tu tNext) tz D σ H := s_if (D := { D with nx := tz D }) e h h1 h2
theorem s_when {b : Bool} (e : Ex G H) (h : EvB t σ G H b) (h1 : b = true → ∀ H2, Grow G H G H2 → tu D σ H2) (h2 : b = false → ∀ H2, Grow G H G H2 → D.nx σ H2) : tIfS t tu tNext D σ H := s_if e h h1 h2
theorem s_aug {i : Nat} {a b : Int} {f : Int → Int → Int} (e : Ex G H) (hx : σ[i]? = some (some (.int a))) (h : Ev te σ G H (.int b)) (k : ∀ H2, Grow G H G H2 → D.nx (σ.set i (some (.int (f a b)))) H2) : tAug i te (ipI f) D σ H :=
  ⟨.int a, hx, h H e (Ex.refl _) _ fun v G2 H2 g2 hv => ⟨a, b, rfl, is_int hv, k H2 ⟨g2.up, Ex.refl _, e.trans g2.up, fun _ _ q => .inl q⟩⟩⟩
/-- xs.append(e), xs a list of one's own -/
theorem s_app {i : Nat} {p : Addr} {xs : List V} (e : Ex G H) (hx : σ[i]? = some (some (.ref p))) (hp : H p = some (.lst xs)) (hz : xs.length < 100000) (h : Ev te σ G H d)
    (k : ∀ v G2 H2, Grow G H G2 H2 → Is G2 v d → D.nx σ (upd H2 p (.lst (xs ++ [v])))) : tDrop (tBM K "list" rAppend (tVar i) (tCons te tNil)) D σ H :=
  ⟨.ref p, hx, Or.inl ⟨rfl, xs, SqL.of hp⟩, h H e (Ex.refl _) _ fun v G2 H2 g2 hv => ⟨p, xs, v, rfl, rfl, g2.up _ _ hp, Nat.lt_of_lt_of_le hz (by decide), k v G2 H2 g2 hv⟩⟩
/-- xs.extend(ys), xs a list of one's own -/
theorem s_ext {i : Nat} {p : Addr} {xs : List V} (e : Ex G H) (hx : σ[i]? = some (some (.ref p))) (hp : H p = some (.lst xs)) (hz : xs.length + ds.length ≤ 100000) (h : Ev te σ G H (.list ds))
    (k : ∀ ys G2 H2, Grow G H G2 H2 → IsL G2 ys ds → D.nx σ (upd H2 p (.lst (xs ++ ys)))) : tDrop (tBM K "list" rExtend (tVar i) (tCons te tNil)) D σ H :=
  ⟨.ref p, hx, Or.inl ⟨rfl, xs, SqL.of hp⟩, h H e (Ex.refl _) _ fun v G2 H2 g2 hv => by
    obtain ⟨q, ys, rfl, h1, h2⟩ := is_lst hv
    exact ⟨p, q, xs, ys, rfl, rfl, g2.up _ _ hp, g2.sub _ _ h1, by rw [h2.len]; exact Nat.le_trans hz (by decide), k ys G2 H2 g2 h2⟩⟩
/-- a, b = e; a, b, c = e -/
theorem g_two {i j : Nat} {Q : L2.St → Hp → Prop} (e : Ex G H) (h : Is G v (.tuple [d1, d2])) (k : ∀ x y, Is G x d1 → Is G y d2 → Q ((σ.set i (some x)).set j (some y)) H) : gTup K 2 (gCons (gName i) (gCons (gName j) gNil)) v σ H Q := by
  obtain ⟨a, xs, rfl, h1, h2⟩ := is_tup h
  cases h2 with
  | cons q1 h2 =>
    cases h2 with
    | cons q2 h2 =>
      cases h2
      exact ⟨a, _, rfl, SqT.of (e _ _ h1), rfl, _, _, rfl, _, _, rfl, rfl, k _ _ q1 q2⟩
theorem g_three {i j l : Nat} {d3 : PyData} {Q : L2.St → Hp → Prop} (e : Ex G H) (h : Is G v (.tuple [d1, d2, d3])) (k : ∀ x y z, Is G x d1 → Is G y d2 → Is G z d3 → Q (((σ.set i (some x)).set j (some y)).set l (some z)) H) :
    gTup K 3 (gCons (gName i) (gCons (gName j) (gCons (gName l) gNil))) v σ H Q := by
  obtain ⟨a, xs, rfl, h1, h2⟩ := is_tup h
  cases h2 with
  | cons q1 h2 =>
    cases h2 with
    | cons q2 h2 =>
      cases h2 with
      | cons q3 h2 =>
        cases h2
        exact ⟨a, _, rfl, SqT.of (e _ _ h1), rfl, _, _, rfl, _, _, rfl, _, _, rfl, rfl, k _ _ _ q1 q2 q3⟩
/-- for .. in a list of data -/
theorem s_for {tl : TE} (e : Ex G H) (h : Ev tl σ G H (.list ds)) (Pv : Hp → Nat → L2.St → Hp → Prop)
    (h0 : ∀ G1 H1, Grow G H G1 H1 → Pv G1 0 σ H1) (hl : ∀ G1 i σ' H', Pv G1 i σ' H' → Ex G1 H')
    (hs : ∀ G1 i d v σ' H', Ex G G1 → ds[i]? = some d → Is G1 v d → Pv G1 i σ' H' → g v σ' H' fun σ2 H2 => tu { D with nx := Pv G1 (i + 1), ct := Pv G1 (i + 1), bk := D.nx } σ2 H2)
    (hd : ∀ G1 σ' H', Ex G G1 → Pv G1 ds.length σ' H' → D.nx σ' H') : tFor (iList K tl) g tu D σ H := h H e (Ex.refl _) _ fun v G1 H1 g1 hv => by
  obtain ⟨a, xs, rfl, h1, h2⟩ := is_lst hv
  refine ⟨a, rfl, ⟨xs, SqL.of (g1.sub _ _ h1)⟩, for_list (xs := xs) (Pv G1) (h0 G1 H1 g1) (fun i σ' H' _ p => SqL.of (hl G1 i σ' H' p _ _ h1)) (fun i x σ' H' hx p => ?_) (fun σ' H' p => hd G1 σ' H' g1.base (by rw [← h2.len]; exact p))⟩
  obtain ⟨d, hd1, hd2⟩ := h2.get' hx
  exact hs G1 i d x σ' H' g1.base hd1 hd2 p
theorem q_for {tl : TE} (e : Ex G H) (h : Ev tl σ G H (.list ds)) (Pv : Hp → Nat → L2.St → Hp → Prop)
    (h0 : ∀ G1 H1, Grow G H G1 H1 → Pv G1 0 σ H1) (hl : ∀ G1 i σ' H', Pv G1 i σ' H' → Ex G1 H')
    (hs : ∀ G1 i d v σ' H', Ex G G1 → ds[i]? = some d → Is G1 v d → Pv G1 i σ' H' → g v σ' H' fun σ2 H2 => tu { D with nx := Pv G1 (i + 1), ct := Pv G1 (i + 1), bk := tz D } σ2 H2)
    (hd : ∀ G1 σ' H', Ex G G1 → Pv G1 ds.length σ' H' → tz D σ' H') : tSeq (tFor (iList K tl) g tu) tz D σ H := s_for (D := { D with nx := tz D }) e h Pv h0 hl hs hd
/-- for k in range(n) -/
theorem s_forR {ta : TA} {j n : Nat} (e : Ex G H) (h : EvA ta σ G H [.int (n : Int)]) (hn : n ≤ 100000) (Pv : Nat → L2.St → Hp → Prop) (h0 : ∀ H1, Grow G H G H1 → Pv 0 σ H1)
    (hs : ∀ (i : Nat) σ' H', i < n → Pv i σ' H' → tu { D with nx := Pv (i + 1), ct := Pv (i + 1), bk := D.nx } (σ'.set j (some (.int (i : Int)))) H') (hd : ∀ σ' H', Pv n σ' H' → D.nx σ' H') : tFor (iRng1 ta) (gName j) tu D σ H := h H e (Ex.refl _) _ fun vs G1 H1 g1 hv => by
  obtain ⟨v, rfl, hw⟩ := isL1 hv
  obtain rfl := is_int hw
  refine ⟨_, rfl, by omega, by omega, for_range (lo := 0) (n := n) Pv (h0 H1 ⟨g1.up, Ex.refl _, e.trans g1.up, fun _ _ q => .inl q⟩) (fun i σ' H' hi p => ?_) hd⟩
  have q := hs i σ' H' hi p
  have e0 : (0 : Int) + (i : Int) = (i : Int) := Int.zero_add _
  show tu _ (σ'.set j (some (.int ((0 : Int) + (i : Int))))) H'
  rw [e0]
  exact q
theorem q_forR {ta : TA} {j n : Nat} (e : Ex G H) (h : EvA ta σ G H [.int (n : Int)]) (hn : n ≤ 100000) (Pv : Nat → L2.St → Hp → Prop) (h0 : ∀ H1, Grow G H G H1 → Pv 0 σ H1)
    (hs : ∀ (i : Nat) σ' H', i < n → Pv i σ' H' → tu { D with nx := Pv (i + 1), ct := Pv (i + 1), bk := tz D } (σ'.set j (some (.int (i : Int)))) H') (hd : ∀ σ' H', Pv n σ' H' → tz D σ' H') : tSeq (tFor (iRng1 ta) (gName j) tu) tz D σ H := s_forR (D := { D with nx := tz D }) e h hn Pv h0 hs hd
/-- for k in range(a, b) -/
theorem s_forR2 {ta : TA} {j a n : Nat} (e : Ex G H) (h : EvA ta σ G H [.int (a : Int), .int (n : Int)]) (ha : a ≤ 100000) (hn : n ≤ 100000) (Pv : Nat → L2.St → Hp → Prop) (h0 : ∀ H1, Grow G H G H1 → Pv 0 σ H1)
    (hs : ∀ (i : Nat) σ' H', a + i < n → Pv i σ' H' → tu { D with nx := Pv (i + 1), ct := Pv (i + 1), bk := D.nx } (σ'.set j (some (.int ((a + i : Nat) : Int)))) H') (hd : ∀ σ' H', Pv (n - a) σ' H' → D.nx σ' H') : tFor (iRng2 ta) (gName j) tu D σ H := h H e (Ex.refl _) _ fun vs G1 H1 g1 hv => by
  cases hv with
  | cons q1 hv =>
    obtain ⟨w, rfl, q2⟩ := isL1 hv
    obtain rfl := is_int q1
    obtain rfl := is_int q2
    have en : ((n : Int) - (a : Int)).toNat = n - a := by omega
    refine ⟨_, _, rfl, by omega, ?_⟩
    rw [en]
    refine for_range (lo := (a : Int)) (n := n - a) Pv (h0 H1 ⟨g1.up, Ex.refl _, e.trans g1.up, fun _ _ q => .inl q⟩) (fun i σ' H' hi p => ?_) hd
    have q := hs i σ' H' (by omega) p
    have e0 : ((a + i : Nat) : Int) = (a : Int) + (i : Int) := by omega
    rw [e0] at q
    exact q
theorem q_forR2 {ta : TA} {j a n : Nat} (e : Ex G H) (h : EvA ta σ G H [.int (a : Int), .int (n : Int)]) (ha : a ≤ 100000) (hn : n ≤ 100000) (Pv : Nat → L2.St → Hp → Prop) (h0 : ∀ H1, Grow G H G H1 → Pv 0 σ H1)
    (hs : ∀ (i : Nat) σ' H', a + i < n → Pv i σ' H' → tu { D with nx := Pv (i + 1), ct := Pv (i + 1), bk := tz D } (σ'.set j (some (.int ((a + i : Nat) : Int)))) H') (hd : ∀ σ' H', Pv (n - a) σ' H' → tz D σ' H') : tSeq (tFor (iRng2 ta) (gName j) tu) tz D σ H := s_forR2 (D := { D with nx := tz D }) e h ha hn Pv h0 hs hd
/-- for k in range(0, n, 2), n even -/
theorem s_forR3 {ta : TA} {j m : Nat} (e : Ex G H) (h : EvA ta σ G H [.int 0, .int ((2 * m : Nat) : Int), .int 2]) (hn : m ≤ 50000) (Pv : Nat → L2.St → Hp → Prop) (h0 : ∀ H1, Grow G H G H1 → Pv 0 σ H1)
    (hs : ∀ (i : Nat) σ' H', i < m → Pv i σ' H' → tu { D with nx := Pv (i + 1), ct := Pv (i + 1), bk := D.nx } (σ'.set j (some (.int ((2 * i : Nat) : Int)))) H') (hd : ∀ σ' H', Pv m σ' H' → D.nx σ' H') : tFor (iRng3 ta) (gName j) tu D σ H := h H e (Ex.refl _) _ fun vs G1 H1 g1 hv => by
  cases hv with
  | cons q1 hv =>
    cases hv with
    | cons q2 hv =>
      obtain ⟨w, rfl, q3⟩ := isL1 hv
      obtain rfl := is_int q1
      obtain rfl := is_int q2
      obtain rfl := is_int q3
      have er : Builtin.Range.rangeSize 0 ((2 * m : Nat) : Int) 2 = (m : Int) := by
        unfold Builtin.Range.rangeSize
        rw [if_pos (by decide)]
        by_cases c : m = 0
        · subst c
          rfl
        · rw [if_pos (by omega)]
          omega
      refine ⟨0, ((2 * m : Nat) : Int), 2, m, rfl, ⟨by decide, by decide, ?_, er⟩, ?_⟩
      · unfold Builtin.Range.small
        rw [er]
        have f : ∀ x : Int, 0 ≤ x → x ≤ 1000000 → Builtin.Range.rangeFitsLong x = true := fun x h1 h2 => by
          unfold Builtin.Range.rangeFitsLong
          rw [Bool.and_eq_true, decide_eq_true_eq, decide_eq_true_eq]
          omega
        rw [if_pos (by decide), f 0 (by decide) (by decide), f ((2 * m : Nat) : Int) (by omega) (by omega), f 2 (by decide) (by decide), f (m : Int) (by omega) (by omega), f (((2 * m : Nat) : Int) + (2 - 1)) (by omega) (by omega), Bool.or_true]
        rfl
      · refine for_rangeC (lo := 0) (c := 2) (n := m) Pv (h0 H1 ⟨g1.up, Ex.refl _, e.trans g1.up, fun _ _ q => .inl q⟩) (fun i σ' H' hi p => ?_) hd
        have q := hs i σ' H' hi p
        have e0 : ((2 * i : Nat) : Int) = (0 : Int) + (i : Int) * 2 := by omega
        rw [e0] at q
        exact q
theorem q_forR3 {ta : TA} {j m : Nat} (e : Ex G H) (h : EvA ta σ G H [.int 0, .int ((2 * m : Nat) : Int), .int 2]) (hn : m ≤ 50000) (Pv : Nat → L2.St → Hp → Prop) (h0 : ∀ H1, Grow G H G H1 → Pv 0 σ H1)
    (hs : ∀ (i : Nat) σ' H', i < m → Pv i σ' H' → tu { D with nx := Pv (i + 1), ct := Pv (i + 1), bk := tz D } (σ'.set j (some (.int ((2 * i : Nat) : Int)))) H') (hd : ∀ σ' H', Pv m σ' H' → tz D σ' H') : tSeq (tFor (iRng3 ta) (gName j) tu) tz D σ H := s_forR3 (D := { D with nx := tz D }) e h hn Pv h0 hs hd
theorem s_while (W : Nat → L2.St → Hp → Prop) (first : Nat) (h0 : W first σ H) (hs : ∀ m σ' H', W m σ' H' → ∃ G b, Ex G H' ∧ EvB t σ' G H' b ∧ (b = true → ∀ H1, Ex H' H1 → tu { D with nx := fun σ2 H2 => ∃ m', m' < m ∧ W m' σ2 H2, ct := fun σ2 H2 => ∃ m', m' < m ∧ W m' σ2 H2, bk := D.nx } σ' H1) ∧ (b = false → ∀ H1, Ex H' H1 → D.nx σ' H1)) : tWhile t tu D σ H := by
  refine ⟨W, ⟨first, h0⟩, fun m σ' H' w => ?_⟩
  obtain ⟨G, b, e, hb, h1, h2⟩ := hs m σ' H' w
  refine hb H' e (Ex.refl _) _ fun H2 e2 => ?_
  cases b with
  | true =>
    rw [if_pos rfl]
    exact ⟨_, fun _ _ n => n, h1 rfl H2 e2⟩
  | false =>
    rw [if_neg Bool.false_ne_true]
    exact h2 rfl H2 e2
theorem q_while (W : Nat → L2.St → Hp → Prop) (first : Nat) (h0 : W first σ H) (hs : ∀ m σ' H', W m σ' H' → ∃ G b, Ex G H' ∧ EvB t σ' G H' b ∧ (b = true → ∀ H1, Ex H' H1 → tu { D with nx := fun σ2 H2 => ∃ m', m' < m ∧ W m' σ2 H2, ct := fun σ2 H2 => ∃ m', m' < m ∧ W m' σ2 H2, bk := tz D } σ' H1) ∧ (b = false → ∀ H1, Ex H' H1 → tz D σ' H1)) : tSeq (tWhile t tu) tz D σ H := s_while (D := { D with nx := tz D }) W first h0 hs

/-! ### comprehensions: keep the data that pass, one item a datum -/
theorem snoc_filter {α β : Type} (l : List α) (p : α → Bool) (f : α → β) {i : Nat} {x : α} (h : l[i]? = some x) : ((l.take (i + 1)).filter p).map f = if p x = true then ((l.take i).filter p).map f ++ [f x] else ((l.take i).filter p).map f := by
  have e : l.take (i + 1) = l.take i ++ [x] := by
    rw [List.take_add_one, h]
    rfl
  rw [e, List.filter_append, List.map_append, List.filter_cons, List.filter_nil]
  split
  · rfl
  · rw [List.map_nil, List.append_nil]
/-- what stands behind i items -/
def Cw (G H : Hp) (Dl : Addr) (acc : List PyData) (H' : Hp) : Prop := ∃ G2 vs, Grow G H G2 H' ∧ G2 Dl = none ∧ H' Dl = some (.lst vs) ∧ IsL G2 vs acc
theorem cw_turn {Dl : Addr} {acc : List PyData} {H' : Hp} {σ2 : L2.St} {b : Bool} {d : PyData} {Nx : Hp → Prop} (p : Cw G H Dl acc H') (hn : H Dl = none) (ha : Ex A H) (hz : acc.length < 100000) (ht : EvB t σ2 G A b) (he : b = true → Ev te σ2 G A d)
    (k : ∀ H2, Cw G H Dl (if b = true then acc ++ [d] else acc) H2 → Nx H2) :
    t σ2 H' fun b H3 => if b = true then te σ2 H3 fun y H4 => ∃ acc, H4 Dl = some (.lst acc) ∧ acc.length < sizeLine ∧ Nx (upd H4 Dl (.lst (acc ++ [y]))) else Nx H3 := by
  obtain ⟨G2, vs, g2, out, hl, hv⟩ := p
  refine (ht.mono g2.base (ha.trans g2.up)) H' g2.sub (Ex.refl _) _ fun H3 e3 => ?_
  have g3 : Grow G H G2 H3 := ⟨g2.up.trans e3, g2.base, g2.sub.trans e3, g2.new⟩
  cases b with
  | true =>
    rw [if_pos rfl]
    refine ((he rfl).mono g2.base (ha.trans g3.up)) H3 g3.sub (Ex.refl _) _ fun y G4 H4 g4 hy => ?_
    have out4 := g4.out out (e3 _ _ hl)
    refine ⟨vs, g4.up _ _ (e3 _ _ hl), by rw [hv.len]; exact Nat.lt_of_lt_of_le hz (by decide), k _ ?_⟩
    rw [if_pos rfl]
    exact ⟨G4, vs ++ [y], (g3.trans g4).write hn out4, out4, upd_same, (hv.up g4.base).app (.one hy)⟩
  | false =>
    rw [if_neg Bool.false_ne_true]
    refine k _ ?_
    rw [if_neg Bool.false_ne_true]
    exact ⟨G2, vs, g3, out, e3 _ _ hl, hv⟩
theorem cw_end {Dl : Addr} {acc : List PyData} {H' : Hp} {Q : VK} (p : Cw G H Dl acc H') (hn : H Dl = none) (k : Ret G H (.list acc) Q) : Q (.ref Dl) H' := by
  obtain ⟨G2, vs, g2, out, hl, hv⟩ := p
  exact k _ _ _ (g2.publish hn out hl) (.lst upd_same (hv.up ((Ex.refl G2).put out)))
theorem cw_start {Dl : Addr} (e : Ex G H) (hn : H Dl = none) : Cw G H Dl [] (upd H Dl (.lst [])) := ⟨G, [], Grow.aside e hn, e.nope hn, upd_same, .nil⟩
theorem map_get {α : Type} {xs : List α} {f : α → PyData} {i : Nat} {d : PyData} (h : (xs.map f)[i]? = some d) : ∃ x, xs[i]? = some x ∧ d = f x := by
  rw [List.getElem?_map] at h
  cases e : xs[i]? with
  | none => rw [e] at h; cases h
  | some x =>
    rw [e] at h
    exact ⟨x, rfl, (Option.some.inj h).symm⟩
/-- .. over a list of data -/
theorem ev_lc {α : Type} {xs : List α} {enc : α → PyData} {tl : TE} {vs : List Nat} (p : α → Bool) (f : α → PyData) (h : Ev tl σ G A (.list (xs.map enc))) (hz : xs.length < 100000)
    (hs : ∀ (G1 : Hp) (i : Nat) (x : α) (v : V) (H1 : Hp) (Q : L2.St → Hp → Prop), Ex G G1 → Ex G1 H1 → xs[i]? = some x → Is G1 v (enc x) → (∀ σ2, wipe σ2 vs = wipe σ vs → EvB t σ2 G1 A (p x) → (p x = true → Ev te σ2 G1 A (f x)) → Q σ2 H1) → g v (wipe σ vs) H1 Q) :
    Ev (tLc (iList K tl) g t te vs) σ G A (.list ((xs.filter p).map f)) := fun H1 e1 a1 Q k => h H1 e1 a1 _ fun v G2 H2 g2 hv => by
  obtain ⟨a, ys, rfl, h1, h2⟩ := is_lst hv
  have hle : ∀ i, (((xs.take i).filter p).map f).length < 100000 := fun i => by
    have := List.length_filter_le p (xs.take i)
    have := List.length_take_le' i xs
    rw [List.length_map]
    omega
  have aD : Ex A H2 := a1.trans g2.up
  refine ⟨a, rfl, ⟨ys, SqL.of (g2.sub _ _ h1)⟩, fun Dl hD => ?_⟩
  refine lc_list (xs := ys) (fun i H' => Cw G2 H2 Dl (((xs.take i).filter p).map f) H') (cw_start g2.sub hD) (fun i H' _ q => ?_) (fun i x H' hx q => ?_) (fun H' q => ?_)
  · obtain ⟨G3, _, g3, _⟩ := q
    exact SqL.of (g3.sub _ _ (g3.base _ _ h1))
  · obtain ⟨d, hd1, hd2⟩ := h2.get' hx
    obtain ⟨y, hy, rfl⟩ := map_get hd1
    have q2 := q
    obtain ⟨G3, _, g3, _⟩ := q2
    refine hs G2 i y x H' _ g2.base (g3.base.trans g3.sub) hy hd2 fun σ2 hw hb he => ⟨hw, ?_⟩
    refine cw_turn q hD aD (hle i) hb he fun H5 c => ?_
    rw [snoc_filter xs p f hy]
    exact c
  · have e : (xs.take ys.length) = xs := by rw [h2.len, List.length_map, List.take_length]
    rw [e] at q
    exact cw_end q hD (k.go g2)
theorem filter_yes {α : Type} (l : List α) : l.filter (fun _ => true) = l := List.filter_eq_self.mpr fun _ _ => rfl
/-- .. over range(n) -/
theorem ev_lcR {ta : TA} {j n : Nat} {vs : List Nat} (p : Nat → Bool) (f : Nat → PyData) (h : EvA ta σ G A [.int (n : Int)]) (hz : n < 100000) (hw : ∀ i : Nat, wipe ((wipe σ vs).set j (some (.int (i : Int)))) vs = wipe σ vs)
    (hb : ∀ (G1 : Hp) (i : Nat), Ex G G1 → i < n → EvB t ((wipe σ vs).set j (some (.int (i : Int)))) G1 A (p i)) (he : ∀ (G1 : Hp) (i : Nat), Ex G G1 → i < n → p i = true → Ev te ((wipe σ vs).set j (some (.int (i : Int)))) G1 A (f i)) :
    Ev (tLc (iRng1 ta) (gName j) t te vs) σ G A (.list (((List.range n).filter p).map f)) := fun H1 e1 a1 Q k => h H1 e1 a1 _ fun ws G2 H2 g2 hv => by
  obtain ⟨v, rfl, hv2⟩ := isL1 hv
  obtain rfl := is_int hv2
  have hle : ∀ i, i ≤ n → (((List.range i).filter p).map f).length < 100000 := fun i hi => by
    have := List.length_filter_le p (List.range i)
    rw [List.length_range] at this
    rw [List.length_map]
    omega
  have aD : Ex A H2 := a1.trans g2.up
  refine ⟨_, rfl, by omega, by omega, fun Dl hD => ?_⟩
  refine lc_range (lo := 0) (n := n) (fun i H' => i ≤ n ∧ Cw G2 H2 Dl (((List.range i).filter p).map f) H') ⟨Nat.zero_le _, cw_start g2.sub hD⟩ (fun i H' hi q => ?_) (fun H' q => ?_)
  · have e0 : (0 : Int) + (i : Int) = (i : Int) := Int.zero_add _
    show wipe ((wipe σ vs).set j (some (.int ((0 : Int) + (i : Int))))) vs = wipe σ vs ∧ t ((wipe σ vs).set j (some (.int ((0 : Int) + (i : Int))))) H' _
    rw [e0]
    refine ⟨hw i, cw_turn q.2 hD aD (hle i q.1) (hb G2 i g2.base hi) (he G2 i g2.base hi) fun H5 c => ⟨hi, ?_⟩⟩
    have e : ((List.range (i + 1)).filter p).map f = if p i = true then ((List.range i).filter p).map f ++ [f i] else ((List.range i).filter p).map f := by
      rw [List.range_succ, List.filter_append, List.map_append, List.filter_cons, List.filter_nil]
      split
      · rfl
      · rw [List.map_nil, List.append_nil]
    rw [e]
    exact c
  · exact cw_end q.2 hD (k.go g2)
theorem eb_yes : EvB tYes σ G A true := fun H1 _ _ _ k => k H1 (Ex.refl _)
end
end DT
/-! The promises: each def hands back the mirror's value. -/
namespace DT
open PySem PySem.Spec PyProof.Rows L2
open Kp394 (Hide Inventory)
open MH (Itm noIt noHide)

/-! ### hides and orders as data -/
abbrev encH (h : Hide) : PyData := .tuple [.int (h.kind : Int), .int (h.thickness : Int), .int (h.area : Int)]
abbrev encP (x : Itm) : PyData := .tuple [.int (x.1 : Int), encH x.2]
abbrev encO (o : List Itm) : PyData := .list (o.map encP)
abbrev encLs (ls : List (List Itm)) : PyData := .list (ls.map encO)
abbrev encHs (hs : List Hide) : PyData := .list (hs.map encH)
abbrev encI (ns : List Int) : PyData := .list (ns.map PyData.int)
abbrev encN (ns : List Nat) : PyData := .list (ns.map fun (n : Nat) => PyData.int (n : Int))

section
variable {K : PySem.W.Frag} {σ : L2.St} {G A : Hp} {ta tb te ti : TE} {h : Hide} {x : Itm}
theorem ev_kind (e : Ev te σ G A (encH h)) : Ev (tOp (rIxT K) te (tC (.int 0))) σ G A (.int (h.kind : Int)) := ev_ixT e ev_int rfl
theorem ev_thick (e : Ev te σ G A (encH h)) : Ev (tOp (rIxT K) te (tC (.int 1))) σ G A (.int (h.thickness : Int)) := ev_ixT e ev_int rfl
theorem ev_area (e : Ev te σ G A (encH h)) : Ev (tOp (rIxT K) te (tC (.int 2))) σ G A (.int (h.area : Int)) := ev_ixT e ev_int rfl
theorem ev_hide (e : Ev te σ G A (encP x)) : Ev (tOp (rIxT K) te (tC (.int 1))) σ G A (encH x.2) := ev_ixT e ev_int rfl
theorem ev_at {α : Type} {xs : List α} {f : α → PyData} {i : Nat} {x : α} (e : Ev te σ G A (.list (xs.map f))) (e2 : Ev ti σ G A (.int (i : Int))) (hx : xs[i]? = some x) : Ev (tOp (rIxL K) te ti) σ G A (f x) :=
  ev_ixL e e2 (atI_nat (by rw [List.getElem?_map, hx]; rfl))
theorem ev_atD {α : Type} {xs : List α} {f : α → PyData} {i : Nat} {d : α} (e : Ev te σ G A (.list (xs.map f))) (e2 : Ev ti σ G A (.int (i : Int))) (hx : i < xs.length) : Ev (tOp (rIxL K) te ti) σ G A (f (xs.getD i d)) :=
  ev_at e e2 (by rw [List.getD_eq_getElem?_getD, List.getElem?_eq_getElem hx]; rfl)
theorem ev_last {α : Type} {xs : List α} {f : α → PyData} {x : α} (e : Ev te σ G A (.list ((xs ++ [x]).map f))) : Ev (tOp (rIxL K) te (tUn rNeg (tC (.int 1)))) σ G A (f x) :=
  ev_ixL e (ev_neg ev_int) (by rw [List.map_append]; exact atI_last _ _)
theorem ev_take {α : Type} {xs : List α} {f : α → PyData} {n : Nat} (e : Ev te σ G A (.list (xs.map f))) (e2 : Ev ti σ G A (.int (n : Int))) : Ev (tSl (rSlL K) te tNoPart (tPart ti)) σ G A (.list ((xs.take n).map f)) :=
  (ev_slice e eo_none (eo_some e2)).is (by rw [cutD_to, List.map_take])
theorem ev_drop {α : Type} {xs : List α} {f : α → PyData} {n : Nat} (e : Ev te σ G A (.list (xs.map f))) (e2 : Ev ti σ G A (.int (n : Int))) : Ev (tSl (rSlL K) te (tPart ti) tNoPart) σ G A (.list ((xs.drop n).map f)) :=
  (ev_slice e (eo_some e2) eo_none).is (by rw [cutD_from, List.map_drop])
theorem ev_mid {α : Type} {xs : List α} {f : α → PyData} {n m : Nat} (e : Ev te σ G A (.list (xs.map f))) (e2 : Ev ta σ G A (.int (n : Int))) (e3 : Ev tb σ G A (.int (m : Int))) (h : m ≤ xs.length) :
    Ev (tSl (rSlL K) te (tPart ta) (tPart tb)) σ G A (.list (((xs.drop n).take (m - n)).map f)) :=
  (ev_slice e (eo_some e2) (eo_some e3)).is (by rw [cutD_mid _ _ _ (by rw [List.length_map]; exact h), List.map_take, List.map_drop])
theorem ev_catM {α : Type} {xs ys : List α} {f : α → PyData} (e : Ev ta σ G A (.list (xs.map f))) (e2 : Ev tb σ G A (.list (ys.map f))) (h : xs.length + ys.length ≤ 100000) : Ev (tOp rCat ta tb) σ G A (.list ((xs ++ ys).map f)) :=
  (ev_cat e e2 (by rw [List.length_map, List.length_map]; exact h)).is (by rw [List.map_append])
theorem ev_lenM {α : Type} {xs : List α} {f : α → PyData} (e : Ev te σ G A (.list (xs.map f))) : Ev (tCB (rLen K) (tCons te tNil)) σ G A (.int (xs.length : Int)) := (ev_len e).is (by rw [List.length_map])
theorem ev_one {α : Type} {x : α} {f : α → PyData} (e : Ev te σ G A (f x)) : Ev (tLst (tCons te tNil)) σ G A (.list ([x].map f)) := ev_lst (ea_one e) (by show 1 ≤ 100000; decide)
theorem ev_pair (e : Ev ta σ G A (.int (x.1 : Int))) (e2 : Ev tb σ G A (encH x.2)) : Ev (tTup (tCons ta (tCons tb tNil))) σ G A (encP x) := ev_tup (ea_two e e2) (by show 2 ≤ 100000; decide)

/-! ### a def that changes nothing: a relation of its arguments' data and its answer's -/
def spF (n : Nat) (R : List PyData → PyData → Prop) : Sp := fun vs H Q _ => ∃ G ds d, Ex G H ∧ IsL G vs ds ∧ ds.length = n ∧ R ds d ∧ Ret G H d Q
theorem spF_len {n : Nat} {R : List PyData → PyData → Prop} {vs : List V} {H : Hp} {Q : VK} {E : XK} (h : spF n R vs H Q E) : vs.length = n := by
  obtain ⟨G, ds, d, _, hv, hn, _⟩ := h
  rw [hv.len, hn]
theorem ev_call {n : Nat} {R : List PyData → PyData → Prop} {E : XK} {t : TA} {ds : List PyData} {d : PyData} (h : EvA t σ G A ds) (r : R ds d) (hn : ds.length = n := by rfl) : Ev (tCall (spF n R) [] E t) σ G A d := fun H1 e1 a1 Q k =>
  h H1 e1 a1 _ fun vs G2 H2 g2 hv => by
    show spF n R (vs ++ []) H2 Q E
    rw [List.append_nil]
    exact ⟨G2, ds, d, g2.sub, hv, hn, r, k.go g2⟩

/-! ### the inventory: an object that changes, out of the base; its hides are data -/
def fF (p : Addr) (t s : Nat) : List (Str × V) := [("hides", .ref p), ("tolerance", .int (t : Int)), ("lot_size", .int (s : Int))]
def VAt (C : Addr) (G A : Hp) (a : Addr) (v : Inventory) : Prop := ∃ dx p, A a = some (.ins C dx (fF p v.tolerance v.lotSize)) ∧ Is G (.ref p) (encHs v.hides)
theorem VAt.mono {C : Addr} {G2 A2 : Hp} {a : Addr} {v : Inventory} (h : VAt C G A a v) (e : Ex G G2) (e2 : Ex A A2) : VAt C G2 A2 a v := by
  obtain ⟨dx, p, h1, h2⟩ := h
  exact ⟨dx, p, e2 _ _ h1, h2.up e⟩
structure Cl (K : PySem.W.Frag) (C : Addr) : Prop where
  cl : Cls K C
  nH : NoAttr K C "hides"
  nT : NoAttr K C "tolerance"
  nL : NoAttr K C "lot_size"
theorem lk_here {k : Str} {v : V} {r : List (Str × V)} : List.lookup k ((k, v) :: r) = some v := by
  have e : (k == k) = true := beq_self_eq_true k
  simp only [List.lookup, e]
theorem lk_past {k g : Str} {v : V} {r : List (Str × V)} (h : (k == g) = false) : List.lookup k ((g, v) :: r) = List.lookup k r := by
  simp only [List.lookup, h]
theorem put_here {f : Str} {v x : V} {r : List (Str × V)} : putF f v ((f, x) :: r) = (f, v) :: r := if_pos rfl
theorem put_past {f g : Str} {v x : V} {r : List (Str × V)} (h : ¬ g = f) : putF f v ((g, x) :: r) = (g, x) :: putF f v r := if_neg h
theorem fF_hides (p : Addr) (t s : Nat) : (fF p t s).lookup ("hides" : Str) = some (.ref p) := lk_here
theorem fF_tol (p : Addr) (t s : Nat) : (fF p t s).lookup ("tolerance" : Str) = some (.int (t : Int)) := (lk_past (by decide +kernel)).trans lk_here
theorem fF_lot (p : Addr) (t s : Nat) : (fF p t s).lookup ("lot_size" : Str) = some (.int (s : Int)) := (lk_past (by decide +kernel)).trans ((lk_past (by decide +kernel)).trans lk_here)
theorem fF_putH (p q : Addr) (t s : Nat) : putF "hides" (.ref q) (fF p t s) = fF q t s := put_here
theorem fF_putT (p : Addr) (t s u : Nat) : putF "tolerance" (.int (u : Int)) (fF p t s) = fF p u s := (put_past (by decide +kernel)).trans (congrArg _ put_here)
theorem fF_putL (p : Addr) (t s u : Nat) : putF "lot_size" (.int (u : Int)) (fF p t s) = fF p t u := (put_past (by decide +kernel)).trans (congrArg _ ((put_past (by decide +kernel)).trans (congrArg _ put_here)))
theorem fF_new (p : Addr) (t s : Nat) : putF "lot_size" (.int (s : Int)) (putF "tolerance" (.int (t : Int)) (putF "hides" (.ref p) [])) = fF p t s := by
  have e1 : putF "hides" (.ref p) ([] : List (Str × V)) = [(("hides" : Str), V.ref p)] := rfl
  have e2 : putF "tolerance" (.int (t : Int)) [(("hides" : Str), V.ref p)] = [(("hides" : Str), V.ref p), (("tolerance" : Str), V.int (t : Int))] := (put_past (by decide +kernel)).trans rfl
  have e3 : putF "lot_size" (.int (s : Int)) [(("hides" : Str), V.ref p), (("tolerance" : Str), V.int (t : Int))] = fF p t s := (put_past (by decide +kernel)).trans (congrArg _ ((put_past (by decide +kernel)).trans rfl))
  rw [e1, e2, e3]
theorem ev_hides {C a : Addr} {i : Nat} {v : Inventory} (T : Cl K C) (hi : σ[i]? = some (some (.ref a))) (h : VAt C G A a v) : Ev (tFld K (tVar i) "hides") σ G A (encHs v.hides) := fun H1 e1 a1 Q k => by
  obtain ⟨dx, p, h1, h2⟩ := h
  exact ⟨.ref a, hi, a, C, dx, _, _, rfl, a1 _ _ h1, T.cl, T.nH, fF_hides _ _ _, k _ G H1 (Grow.refl e1) h2⟩
theorem ev_tol {C a : Addr} {i : Nat} {v : Inventory} (T : Cl K C) (hi : σ[i]? = some (some (.ref a))) (h : VAt C G A a v) : Ev (tFld K (tVar i) "tolerance") σ G A (.int (v.tolerance : Int)) := fun H1 e1 a1 Q k => by
  obtain ⟨dx, p, h1, h2⟩ := h
  exact ⟨.ref a, hi, a, C, dx, _, _, rfl, a1 _ _ h1, T.cl, T.nT, fF_tol _ _ _, k _ G H1 (Grow.refl e1) (.int _)⟩
theorem ev_lot {C a : Addr} {i : Nat} {v : Inventory} (T : Cl K C) (hi : σ[i]? = some (some (.ref a))) (h : VAt C G A a v) : Ev (tFld K (tVar i) "lot_size") σ G A (.int (v.lotSize : Int)) := fun H1 e1 a1 Q k => by
  obtain ⟨dx, p, h1, h2⟩ := h
  exact ⟨.ref a, hi, a, C, dx, _, _, rfl, a1 _ _ h1, T.cl, T.nL, fF_lot _ _ _, k _ G H1 (Grow.refl e1) (.int _)⟩
/-- a def that reads an inventory -/
def spV (C : Addr) (n : Nat) (R : Inventory → List PyData → PyData → Prop) : Sp := fun vs H Q _ => ∃ G a v ws ds d, vs = .ref a :: ws ∧ Ex G H ∧ VAt C G H a v ∧ IsL G ws ds ∧ ds.length = n ∧ R v ds d ∧ Ret G H d Q
theorem spV_len {C : Addr} {n : Nat} {R : Inventory → List PyData → PyData → Prop} {vs : List V} {H : Hp} {Q : VK} {E : XK} (h : spV C n R vs H Q E) : vs.length = n + 1 := by
  obtain ⟨G, a, v, ws, ds, d, rfl, _, _, hv, hn, _⟩ := h
  rw [List.length_cons, hv.len, hn]
theorem ev_callV {C a : Addr} {i : Nat} {v : Inventory} {n : Nat} {R : Inventory → List PyData → PyData → Prop} {E : XK} {t : TA} {ds : List PyData} {d : PyData} (hi : σ[i]? = some (some (.ref a))) (hv : VAt C G A a v) (h : EvA t σ G A ds) (r : R v ds d) (hn : ds.length = n := by rfl) :
    Ev (tCall (spV C n R) [] E (tCons (tVar i) t)) σ G A d := fun H1 e1 a1 Q k => ⟨.ref a, hi, h H1 e1 a1 _ fun vs G2 H2 g2 hw => by
    show spV C n R ((.ref a :: vs) ++ []) H2 Q E
    rw [List.append_nil]
    exact ⟨G2, a, v, vs, ds, d, rfl, g2.sub, hv.mono g2.base (a1.trans g2.up), hw, hn, r, k.go g2⟩⟩
/-- a def that may change the inventory -/
structure GrowX (a : Addr) (G H G2 H2 : Hp) : Prop where
  up : ∀ b o, b ≠ a → H b = some o → H2 b = some o
  base : Ex G G2
  sub : Ex G2 H2
  new : ∀ b o, G2 b = some o → G b = some o ∨ H b = none
  out : G2 a = none
def RetM (C : Addr) (G H : Hp) (a : Addr) (v : Inventory) (d : PyData) (Q : VK) : Prop := ∀ w G2 H2, GrowX a G H G2 H2 → VAt C G2 H2 a v → Is G2 w d → Q w H2
def spM (C : Addr) (n : Nat) (R : Inventory → List PyData → Inventory → PyData → Prop) : Sp := fun vs H Q _ => ∃ G a v ws ds v' d, vs = .ref a :: ws ∧ Ex G H ∧ G a = none ∧ VAt C G H a v ∧ IsL G ws ds ∧ ds.length = n ∧ R v ds v' d ∧ RetM C G H a v' d Q
theorem spM_len {n : Nat} {C : Addr} {R : Inventory → List PyData → Inventory → PyData → Prop} {vs : List V} {H : Hp} {Q : VK} {E : XK} (h : spM C n R vs H Q E) : vs.length = n + 1 := by
  obtain ⟨G, a, v, ws, ds, v', d, rfl, _, _, _, hv, hn, _⟩ := h
  rw [List.length_cons, hv.len, hn]
end

/-! ### the promises -/
def sp_is_ahead : Sp := spF 2 fun ds d => ∃ a b, ds = [encH a, encH b] ∧ d = .bool (MH.isAhead a b)
def sp_placed : Sp := spF 3 fun ds d => ∃ o n h, ds = [encO o, .int ((n : Nat) : Int), encH h] ∧ o.length ≤ 1000 ∧ d = encO (MH.placed o n h)
def sp_ordered : Sp := spF 1 fun ds d => ∃ hs : List Hide, ds = [encHs hs] ∧ hs.length ≤ 1000 ∧ d = encO (MH.ordered hs)
def sp_are_alike : Sp := spF 3 fun ds d => ∃ a b t, ds = [encH a, encH b, .int ((t : Nat) : Int)] ∧ d = .bool (MH.alike a b t)
def sp_fits_all : Sp := spF 3 fun ds d => ∃ h o t, ds = [encH h, encO o, .int ((t : Nat) : Int)] ∧ d = .bool (MH.fitsAll h o t)
def sp_all_fit : Sp := spF 2 fun ds d => ∃ o t, ds = [encO o, .int ((t : Nat) : Int)] ∧ o.length ≤ 1000 ∧ d = .bool (MH.allFit o t)
def sp_greedy : Sp := spF 3 fun ds d => ∃ o t s, ds = [encO o, .int ((t : Nat) : Int), .int ((s : Nat) : Int)] ∧ o.length ≤ 1000 ∧ d = encLs (MH.greedy o t s)
def sp_count_lots (C : Addr) : Sp := spV C 1 fun v ds d => ∃ hs : List Hide, ds = [encHs hs] ∧ hs.length ≤ 1000 ∧ d = .int ((MH.greedy (MH.ordered hs) v.tolerance v.lotSize).length : Int)
def sp_incompatible : Sp := spF 2 fun ds d => ∃ o t, ds = [encO o, .int ((t : Nat) : Int)] ∧ o.length ≤ 1000 ∧ d = encO (MH.incompatible o t)
def sp_area_of : Sp := spF 1 fun ds d => ∃ o : List Itm, ds = [encO o] ∧ o.length ≤ 1000 ∧ d = .int (MH.areaOf o : Int)
def sp_count_greater : Sp := spF 2 fun ds d => ∃ (o : List Itm) (p : Nat), ds = [encO o, .int (p : Int)] ∧ p < o.length ∧ o.length ≤ 1000 ∧ d = .int (MH.rank o p : Int)
def sp_largest_part : Sp := spF 2 fun ds d => ∃ (o : List Itm) (s : Nat), ds = [encO o, .int (s : Int)] ∧ o.length ≤ 1000 ∧ d = encO (MH.largestPart o s)
def sp_runs_of : Sp := spF 2 fun ds d => ∃ (o : List Itm) (t : Nat), ds = [encO o, .int (t : Int)] ∧ o.length ≤ 100 ∧ d = encLs (MH.runsOf o t)
def sp_largest : Sp := spF 3 fun ds d => ∃ (o : List Itm) (t s : Nat), ds = [encO o, .int (t : Int), .int (s : Int)] ∧ o.length ≤ 100 ∧ d = encO (MH.largest o t s)
def sp_difference_of : Sp := spF 1 fun ds d => ∃ o : List Itm, ds = [encO o] ∧ o.length % 2 = 0 ∧ o.length ≤ 1000 ∧ d = .int (MH.diff o)
def sp_without : Sp := spF 2 fun ds d => ∃ (o : List Itm) (p : Nat), ds = [encO o, .int (p : Int)] ∧ o.length ≤ 1000 ∧ d = encO (MH.without o p)
def sp_left_place : Sp := spF 1 fun ds d => ∃ o : List Itm, ds = [encO o] ∧ o.length % 2 = 1 ∧ o.length ≤ 1000 ∧ d = .int (MH.leftPlace o : Int)
def sp_best_pairs_of : Sp := spF 2 fun ds d => ∃ (o : List Itm) (k : Nat), ds = [encO o, .int (k : Int)] ∧ o.length ≤ 1000 ∧ d = .tuple [encO (MH.bestPairsOf o k).1, encO (MH.bestPairsOf o k).2]
def sp_are_limits : Sp := spF 2 fun ds d => ∃ t s : Nat, ds = [.int (t : Int), .int (s : Int)] ∧ d = .bool (Kp394.validLimits t s)
def sp_is_hide : Sp := spF 3 fun ds d => ∃ k t a : Nat, ds = [.int (k : Int), .int (t : Int), .int (a : Int)] ∧ d = .bool (Kp394.validHide k t a)
def sp_exists (C : Addr) : Sp := spV C 1 fun v ds d => ∃ i : Nat, ds = [.int (i : Int)] ∧ d = .bool (decide (i < v.hides.length))
def sp_order_of (C : Addr) : Sp := spV C 0 fun v ds d => ds = [] ∧ v.hides.length ≤ 1000 ∧ d = encO (MH.ordered v.hides)
def sp_numbers_of : Sp := spF 1 fun ds d => ∃ o : List Itm, ds = [encO o] ∧ o.length ≤ 1000 ∧ d = encI (MH.nums o)

/-! ### the deeds -/
def sp_init (C : Addr) : Sp := fun vs H Q _ => ∃ (p dx : Addr) (t s : Nat), vs = [.ref p, .int (t : Int), .int (s : Int)] ∧ H p = some (.ins C dx []) ∧
  ∀ H' q, (∀ b o, H b = some o → b ≠ p → H' b = some o) → H q = none → H' q = some (.lst []) → H' p = some (.ins C dx (fF q t s)) → Q .non H'
def sp_get_hide (C : Addr) : Sp := spV C 1 fun v ds d => ∃ i : Nat, ds = [.int (i : Int)] ∧ d = encI (MH.aGet v i)
def sp_hide_order (C : Addr) : Sp := spV C 0 fun v ds d => ds = [] ∧ v.hides.length ≤ 12 ∧ d = encI (MH.aOrder v)
def sp_are_compatible (C : Addr) : Sp := spV C 2 fun v ds d => ∃ i j : Nat, ds = [.int (i : Int), .int (j : Int)] ∧ d = encI (MH.aCompat v i j)
def sp_are_hides (C : Addr) : Sp := spV C 1 fun v ds d => ∃ l : List Nat, ds = [encN l] ∧ l.length ≤ 14 ∧ d = .bool (MH.goodNums v l)
def sp_hides_with (C : Addr) : Sp := spV C 1 fun v ds d => ∃ l : List Nat, ds = [encN l] ∧ l.length ≤ 14 ∧ (∀ i ∈ l, i < v.hides.length) ∧ d = encO (MH.tag v l)
def sp_is_lot (C : Addr) : Sp := spV C 1 fun v ds d => ∃ l : List Nat, ds = [encN l] ∧ l.length ≤ 14 ∧ d = encI (MH.aIsLot v l)
def sp_greedy_lots (C : Addr) : Sp := spV C 0 fun v ds d => ds = [] ∧ v.hides.length ≤ 12 ∧ d = encI (MH.aLots v)
def sp_incompatible_hides (C : Addr) : Sp := spV C 0 fun v ds d => ds = [] ∧ v.hides.length ≤ 12 ∧ d = encI (MH.aInc v)
def sp_largest_lot (C : Addr) : Sp := spV C 0 fun v ds d => ds = [] ∧ v.hides.length ≤ 12 ∧ d = encI (MH.aLargest v)
def sp_total_area (C : Addr) : Sp := spV C 1 fun v ds d => ∃ l : List Nat, ds = [encN l] ∧ l.length ≤ 14 ∧ d = encI (MH.aTotal v l)
def sp_best_pairs (C : Addr) : Sp := spV C 1 fun v ds d => ∃ k : Nat, ds = [.int (k : Int)] ∧ v.hides.length ≤ 12 ∧ d = encI (MH.aPairs v k)
def sp_least_tolerance (C : Addr) : Sp := spV C 1 fun v ds d => ∃ n : Nat, ds = [.int (n : Int)] ∧ v.hides.length ≤ 12 ∧ d = encI (MH.aLeast v n)
def sp_lots_without_hide (C : Addr) : Sp := spV C 1 fun v ds d => ∃ i : Nat, ds = [.int (i : Int)] ∧ v.hides.length ≤ 12 ∧ d = encI (MH.aWithout v i)
def sp_lots_with_hide (C : Addr) : Sp := spV C 3 fun v ds d => ∃ k t a : Nat, ds = [.int (k : Int), .int (t : Int), .int (a : Int)] ∧ v.hides.length ≤ 12 ∧ d = encI (MH.aWith v k t a)
def sp_status (C : Addr) : Sp := spV C 0 fun v ds d => ds = [] ∧ v.hides.length ≤ 12 ∧ d = encI (MH.aStatus v)
def sp_add_hide (C : Addr) : Sp := spM C 3 fun v ds v' d => ∃ k t a : Nat, ds = [.int (k : Int), .int (t : Int), .int (a : Int)] ∧ v.hides.length ≤ 12 ∧ v' = (MH.mAdd v k t a).1 ∧ d = encI (MH.mAdd v k t a).2
def sp_remove_hide (C : Addr) : Sp := spM C 1 fun v ds v' d => ∃ i : Nat, ds = [.int (i : Int)] ∧ v.hides.length ≤ 12 ∧ v' = (MH.mRemove v i).1 ∧ d = encI (MH.mRemove v i).2
def sp_set_limits (C : Addr) : Sp := spM C 2 fun v ds v' d => ∃ t s : Nat, ds = [.int (t : Int), .int (s : Int)] ∧ v' = (MH.mSet v t s).1 ∧ d = encI (MH.mSet v t s).2
def sp_thin_hide (C : Addr) : Sp := spM C 2 fun v ds v' d => ∃ i t : Nat, ds = [.int (i : Int), .int (t : Int)] ∧ v.hides.length ≤ 12 ∧ v' = (MH.mThin v i t).1 ∧ d = encI (MH.mThin v i t).2
/-- how many numbers an operation reads -/
def need (op : Nat) : Nat := if op ∈ [1, 17] then 3 else if op ∈ [0, 4, 5, 7] then 2 else if op ∈ [6, 8, 9, 10, 11, 12, 13, 18] then 0 else 1
def sp_change (C : Addr) : Sp := spM C 2 fun v ds v' d => ∃ (op : Nat) (ns : List Nat), ds = [.int (op : Int), encN ns] ∧ op ∈ [1, 2, 4, 5] ∧ need op ≤ ns.length ∧ v.hides.length ≤ 12 ∧ v' = (MH.mChange v op ns).1 ∧ d = encI (MH.mChange v op ns).2
def sp_plain_question (C : Addr) : Sp := spV C 1 fun v ds d => ∃ op : Nat, ds = [.int (op : Int)] ∧ v.hides.length ≤ 12 ∧ d = encI (MH.aPlain v op)
def sp_question (C : Addr) : Sp := spV C 2 fun v ds d => ∃ (op : Nat) (ns : List Nat), ds = [.int (op : Int), encN ns] ∧ op ∈ [3, 7, 8, 13, 14, 15, 16, 17] ∧ need op ≤ ns.length ∧ ns.length ≤ 14 ∧ v.hides.length ≤ 12 ∧ d = encI (MH.aAsk v op ns)
def sp_deed (C : Addr) : Sp := spM C 2 fun v ds v' d => ∃ (op : Nat) (ns : List Nat), ds = [.int (op : Int), encN ns] ∧ op ≤ 18 ∧ op ≠ 0 ∧ need op ≤ ns.length ∧ ns.length ≤ 14 ∧ v.hides.length ≤ 12 ∧ v' = (MH.mDeed v op ns).1 ∧ d = encI (MH.mDeed v op ns).2
end DT
/-! The defs' readings, printed by gen.py from the program's text: one combinator a construct. -/
namespace DT
open PySem PySem.Spec PyProof.Rows L2
abbrev N_init : List Str := ["self", "tolerance", "lot_size"]
def t_init (K : PySem.W.Frag) (C : Addr) : TS := (tSeq (sFld K (tVar 0) (tLst tNil) "hides") (tSeq (sFld K (tVar 0) (tVar 1) "tolerance") (sFld K (tVar 0) (tVar 2) "lot_size")))
abbrev N_is_ahead : List Str := ["one", "other"]
def t_is_ahead (K : PySem.W.Frag) (C : Addr) : TS := (tSeq (tIfS (tTest (tOp rNe (tOp (rIxT K) (tVar 0) (tC (.int 0))) (tOp (rIxT K) (tVar 1) (tC (.int 0))))) (tRet (tOp rLt (tOp (rIxT K) (tVar 0) (tC (.int 0))) (tOp (rIxT K) (tVar 1) (tC (.int 0))))) tNext) (tRet (tOp rLe (tOp (rIxT K) (tVar 0) (tC (.int 1))) (tOp (rIxT K) (tVar 1) (tC (.int 1))))))
abbrev N_placed : List Str := ["order", "number", "hide", "place"]
def t_placed (K : PySem.W.Frag) (C : Addr) : TS := (tSeq (tAsg (tC (.int 0)) (gName 3)) (tSeq (tWhile (tAnd (tTest (tOp rLt (tVar 3) (tCB (rLen K) (tCons (tVar 0) tNil)))) (tB (tCall (sp_is_ahead) [] E0 (tCons (tOp (rIxT K) (tOp (rIxL K) (tVar 0) (tVar 3)) (tC (.int 1))) (tCons (tVar 2) tNil))))) (tAug 3 (tC (.int 1)) (ipI fun i j => i + j))) (tRet (tOp rCat (tOp rCat (tSl (rSlL K) (tVar 0) tNoPart (tPart (tVar 3))) (tLst (tCons (tTup (tCons (tVar 1) (tCons (tVar 2) tNil))) tNil))) (tSl (rSlL K) (tVar 0) (tPart (tVar 3)) tNoPart)))))
abbrev N_ordered : List Str := ["hides", "found", "number"]
def t_ordered (K : PySem.W.Frag) (C : Addr) : TS := (tSeq (tAsg (tLst tNil) (gName 1)) (tSeq (tFor (iRng1 (tCons (tCB (rLen K) (tCons (tVar 0) tNil)) tNil)) (gName 2) (tAsg (tCall (sp_placed) [] E0 (tCons (tVar 1) (tCons (tVar 2) (tCons (tOp (rIxL K) (tVar 0) (tVar 2)) tNil)))) (gName 1))) (tRet (tVar 1))))
abbrev N_are_alike : List Str := ["one", "other", "tolerance"]
def t_are_alike (K : PySem.W.Frag) (C : Addr) : TS := (tRet (tAndV (tOp rEq (tOp (rIxT K) (tVar 0) (tC (.int 0))) (tOp (rIxT K) (tVar 1) (tC (.int 0)))) (tOp rLe (tCB rAbs (tCons (tOp rSubI (tOp (rIxT K) (tVar 0) (tC (.int 1))) (tOp (rIxT K) (tVar 1) (tC (.int 1)))) tNil)) (tVar 2))))
abbrev N_fits_all : List Str := ["hide", "some", "tolerance", "number", "other"]
def t_fits_all (K : PySem.W.Frag) (C : Addr) : TS := (tSeq (tFor (iList K (tVar 1)) (gTup K 2 (gCons (gName 3) (gCons (gName 4) gNil))) (tIfS (tNot (tB (tCall (sp_are_alike) [] E0 (tCons (tVar 0) (tCons (tVar 4) (tCons (tVar 2) tNil)))))) (tRet (tC (.bl false))) tNext)) (tRet (tC (.bl true))))
abbrev N_all_fit : List Str := ["some", "tolerance", "place"]
def t_all_fit (K : PySem.W.Frag) (C : Addr) : TS := (tSeq (tFor (iRng1 (tCons (tCB (rLen K) (tCons (tVar 0) tNil)) tNil)) (gName 2) (tIfS (tNot (tB (tCall (sp_fits_all) [] E0 (tCons (tOp (rIxT K) (tOp (rIxL K) (tVar 0) (tVar 2)) (tC (.int 1))) (tCons (tSl (rSlL K) (tVar 0) tNoPart (tPart (tVar 2))) (tCons (tVar 1) tNil)))))) (tRet (tC (.bl false))) tNext)) (tRet (tC (.bl true))))
abbrev N_greedy : List Str := ["order", "tolerance", "lot_size", "lots", "number", "hide"]
def t_greedy (K : PySem.W.Frag) (C : Addr) : TS := (tSeq (tAsg (tLst tNil) (gName 3)) (tSeq (tFor (iList K (tVar 0)) (gTup K 2 (gCons (gName 4) (gCons (gName 5) gNil))) (tIfS (tAnd (tTest (tOp (rNeD K) (tVar 3) (tLst tNil))) (tAnd (tTest (tOp rLt (tCB (rLen K) (tCons (tOp (rIxL K) (tVar 3) (tUn rNeg (tC (.int 1)))) tNil)) (tVar 2))) (tB (tCall (sp_fits_all) [] E0 (tCons (tVar 5) (tCons (tOp (rIxL K) (tVar 3) (tUn rNeg (tC (.int 1)))) (tCons (tVar 1) tNil))))))) (tAsg (tOp rCat (tOp (rIxL K) (tVar 3) (tUn rNeg (tC (.int 1)))) (tLst (tCons (tTup (tCons (tVar 4) (tCons (tVar 5) tNil))) tNil))) (gSub (tVar 3) (tUn rNeg (tC (.int 1))) rSetL)) (tDrop (tBM K "list" rAppend (tVar 3) (tCons (tLst (tCons (tTup (tCons (tVar 4) (tCons (tVar 5) tNil))) tNil)) tNil))))) (tRet (tVar 3))))
abbrev N_count_lots : List Str := ["inventory", "hides"]
def t_count_lots (K : PySem.W.Frag) (C : Addr) : TS := (tRet (tCB (rLen K) (tCons (tCall (sp_greedy) [] E0 (tCons (tCall (sp_ordered) [] E0 (tCons (tVar 1) tNil)) (tCons (tFld K (tVar 0) "tolerance") (tCons (tFld K (tVar 0) "lot_size") tNil)))) tNil)))
abbrev N_incompatible : List Str := ["order", "tolerance", "found", "number", "hide"]
def t_incompatible (K : PySem.W.Frag) (C : Addr) : TS := (tSeq (tAsg (tLst tNil) (gName 2)) (tSeq (tFor (iList K (tVar 0)) (gTup K 2 (gCons (gName 3) (gCons (gName 4) gNil))) (tIfS (tOr (tTest (tOp (rEqD K) (tVar 2) (tLst tNil))) (tNot (tB (tCall (sp_are_alike) [] E0 (tCons (tVar 4) (tCons (tOp (rIxT K) (tOp (rIxL K) (tVar 2) (tUn rNeg (tC (.int 1)))) (tC (.int 1))) (tCons (tVar 1) tNil))))))) (tDrop (tBM K "list" rAppend (tVar 2) (tCons (tTup (tCons (tVar 3) (tCons (tVar 4) tNil))) tNil))) tNext)) (tRet (tVar 2))))
abbrev N_area_of : List Str := ["some", "hide", "number"]
def t_area_of (K : PySem.W.Frag) (C : Addr) : TS := (tRet (tCB (rSum K) (tCons (tLc (iList K (tVar 0)) (gTup K 2 (gCons (gName 2) (gCons (gName 1) gNil))) tYes (tOp (rIxT K) (tVar 1) (tC (.int 2))) [2, 1]) tNil)))
abbrev N_count_greater : List Str := ["run", "place", "area", "found", "at", "other"]
def t_count_greater (K : PySem.W.Frag) (C : Addr) : TS := (tSeq (tAsg (tOp (rIxT K) (tOp (rIxT K) (tOp (rIxL K) (tVar 0) (tVar 1)) (tC (.int 1))) (tC (.int 2))) (gName 2)) (tSeq (tAsg (tC (.int 0)) (gName 3)) (tSeq (tFor (iRng1 (tCons (tCB (rLen K) (tCons (tVar 0) tNil)) tNil)) (gName 4) (tSeq (tAsg (tOp (rIxT K) (tOp (rIxT K) (tOp (rIxL K) (tVar 0) (tVar 4)) (tC (.int 1))) (tC (.int 2))) (gName 5)) (tIfS (tOr (tTest (tOp rGt (tVar 5) (tVar 2))) (tAnd (tTest (tOp rEq (tVar 5) (tVar 2))) (tTest (tOp rLt (tVar 4) (tVar 1))))) (tAug 3 (tC (.int 1)) (ipI fun i j => i + j)) tNext))) (tRet (tVar 3)))))
abbrev N_largest_part : List Str := ["run", "lot_size", "place"]
def t_largest_part (K : PySem.W.Frag) (C : Addr) : TS := (tRet (tLc (iRng1 (tCons (tCB (rLen K) (tCons (tVar 0) tNil)) tNil)) (gName 2) (tTest (tOp rLt (tCall (sp_count_greater) [] E0 (tCons (tVar 0) (tCons (tVar 2) tNil))) (tVar 1))) (tOp (rIxL K) (tVar 0) (tVar 2)) [2]))
abbrev N_runs_of : List Str := ["order", "tolerance", "found", "first", "end"]
def t_runs_of (K : PySem.W.Frag) (C : Addr) : TS := (tSeq (tAsg (tLst tNil) (gName 2)) (tSeq (tFor (iRng1 (tCons (tCB (rLen K) (tCons (tVar 0) tNil)) tNil)) (gName 3) (tFor (iRng2 (tCons (tOp rAddI (tVar 3) (tC (.int 1))) (tCons (tOp rAddI (tCB (rLen K) (tCons (tVar 0) tNil)) (tC (.int 1))) tNil))) (gName 4) (tIfS (tB (tCall (sp_all_fit) [] E0 (tCons (tSl (rSlL K) (tVar 0) (tPart (tVar 3)) (tPart (tVar 4))) (tCons (tVar 1) tNil)))) (tDrop (tBM K "list" rAppend (tVar 2) (tCons (tSl (rSlL K) (tVar 0) (tPart (tVar 3)) (tPart (tVar 4))) tNil))) tNext))) (tRet (tVar 2))))
abbrev N_largest : List Str := ["order", "tolerance", "lot_size", "best", "run", "part"]
def t_largest (K : PySem.W.Frag) (C : Addr) : TS := (tSeq (tAsg (tLst tNil) (gName 3)) (tSeq (tFor (iList K (tCall (sp_runs_of) [] E0 (tCons (tVar 0) (tCons (tVar 1) tNil)))) (gName 4) (tSeq (tAsg (tCall (sp_largest_part) [] E0 (tCons (tVar 4) (tCons (tVar 2) tNil))) (gName 5)) (tIfS (tTest (tOp rGt (tCall (sp_area_of) [] E0 (tCons (tVar 5) tNil)) (tCall (sp_area_of) [] E0 (tCons (tVar 3) tNil)))) (tAsg (tVar 5) (gName 3)) tNext))) (tRet (tVar 3))))
abbrev N_difference_of : List Str := ["some", "found", "place"]
def t_difference_of (K : PySem.W.Frag) (C : Addr) : TS := (tSeq (tAsg (tC (.int 0)) (gName 1)) (tSeq (tFor (iRng3 (tCons (tC (.int 0)) (tCons (tCB (rLen K) (tCons (tVar 0) tNil)) (tCons (tC (.int 2)) tNil)))) (gName 2) (tAug 1 (tOp rSubI (tOp (rIxT K) (tOp (rIxT K) (tOp (rIxL K) (tVar 0) (tOp rAddI (tVar 2) (tC (.int 1)))) (tC (.int 1))) (tC (.int 1))) (tOp (rIxT K) (tOp (rIxT K) (tOp (rIxL K) (tVar 0) (tVar 2)) (tC (.int 1))) (tC (.int 1)))) (ipI fun i j => i + j))) (tRet (tVar 1))))
abbrev N_without : List Str := ["some", "place"]
def t_without (K : PySem.W.Frag) (C : Addr) : TS := (tRet (tOp rCat (tSl (rSlL K) (tVar 0) tNoPart (tPart (tVar 1))) (tSl (rSlL K) (tVar 0) (tPart (tOp rAddI (tVar 1) (tC (.int 1)))) tNoPart)))
abbrev N_left_place : List Str := ["some", "best", "place"]
def t_left_place (K : PySem.W.Frag) (C : Addr) : TS := (tSeq (tAsg (tC (.int 0)) (gName 1)) (tSeq (tFor (iRng2 (tCons (tC (.int 1)) (tCons (tCB (rLen K) (tCons (tVar 0) tNil)) tNil))) (gName 2) (tIfS (tTest (tOp rLt (tCall (sp_difference_of) [] E0 (tCons (tCall (sp_without) [] E0 (tCons (tVar 0) (tCons (tVar 2) tNil))) tNil)) (tCall (sp_difference_of) [] E0 (tCons (tCall (sp_without) [] E0 (tCons (tVar 0) (tCons (tVar 1) tNil))) tNil)))) (tAsg (tVar 2) (gName 1)) tNext)) (tRet (tVar 1))))
abbrev N_best_pairs_of : List Str := ["order", "kind", "some", "place", "number", "hide"]
def t_best_pairs_of (K : PySem.W.Frag) (C : Addr) : TS := (tSeq (tAsg (tLc (iList K (tVar 0)) (gTup K 2 (gCons (gName 4) (gCons (gName 5) gNil))) (tTest (tOp rEq (tOp (rIxT K) (tVar 5) (tC (.int 0))) (tVar 1))) (tTup (tCons (tVar 4) (tCons (tVar 5) tNil))) [4, 5]) (gName 2)) (tSeq (tIfS (tTest (tOp rEq (tOp rModI (tCB (rLen K) (tCons (tVar 2) tNil)) (tC (.int 2))) (tC (.int 0)))) (tRet (tTup (tCons (tVar 2) (tCons (tLst tNil) tNil)))) tNext) (tSeq (tAsg (tCall (sp_left_place) [] E0 (tCons (tVar 2) tNil)) (gName 3)) (tRet (tTup (tCons (tCall (sp_without) [] E0 (tCons (tVar 2) (tCons (tVar 3) tNil))) (tCons (tLst (tCons (tOp (rIxL K) (tVar 2) (tVar 3)) tNil)) tNil)))))))
abbrev N_are_limits : List Str := ["tolerance", "lot_size"]
def t_are_limits (K : PySem.W.Frag) (C : Addr) : TS := (tRet (tAndV (tOp rLe (tVar 0) (tC (.int 60))) (tChain rLe rLe (tC (.int 1)) (tVar 1) (tC (.int 12)))))
abbrev N_is_hide : List Str := ["kind", "thickness", "area"]
def t_is_hide (K : PySem.W.Frag) (C : Addr) : TS := (tRet (tAndV (tOp rLe (tVar 0) (tC (.int 2))) (tAndV (tChain rLe rLe (tC (.int 1)) (tVar 1) (tC (.int 60))) (tChain rLe rLe (tC (.int 1)) (tVar 2) (tC (.int 60))))))
abbrev N_exists : List Str := ["inventory", "number"]
def t_exists (K : PySem.W.Frag) (C : Addr) : TS := (tRet (tOp rLt (tVar 1) (tCB (rLen K) (tCons (tFld K (tVar 0) "hides") tNil))))
abbrev N_order_of : List Str := ["inventory"]
def t_order_of (K : PySem.W.Frag) (C : Addr) : TS := (tRet (tCall (sp_ordered) [] E0 (tCons (tFld K (tVar 0) "hides") tNil)))
abbrev N_numbers_of : List Str := ["some", "number", "hide"]
def t_numbers_of (K : PySem.W.Frag) (C : Addr) : TS := (tRet (tLc (iList K (tVar 0)) (gTup K 2 (gCons (gName 1) (gCons (gName 2) gNil))) tYes (tVar 1) [1, 2]))
abbrev N_add_hide : List Str := ["inventory", "kind", "thickness", "area"]
def t_add_hide (K : PySem.W.Frag) (C : Addr) : TS := (tSeq (tIfS (tNot (tB (tCall (sp_is_hide) [] E0 (tCons (tVar 1) (tCons (tVar 2) (tCons (tVar 3) tNil)))))) (tRet (tLst (tCons (tC (.int (-22))) tNil))) tNext) (tSeq (tIfS (tTest (tOp rEq (tCB (rLen K) (tCons (tFld K (tVar 0) "hides") tNil)) (tC (.int 12)))) (tRet (tLst (tCons (tC (.int (-28))) tNil))) tNext) (tSeq (sFld K (tVar 0) (tOp rCat (tFld K (tVar 0) "hides") (tLst (tCons (tTup (tCons (tVar 1) (tCons (tVar 2) (tCons (tVar 3) tNil)))) tNil))) "hides") (tRet (tLst (tCons (tOp rSubI (tCB (rLen K) (tCons (tFld K (tVar 0) "hides") tNil)) (tC (.int 1))) tNil))))))
abbrev N_remove_hide : List Str := ["inventory", "number"]
def t_remove_hide (K : PySem.W.Frag) (C : Addr) : TS := (tSeq (tIfS (tNot (tB (tCall (sp_exists C) [] E0 (tCons (tVar 0) (tCons (tVar 1) tNil))))) (tRet (tLst (tCons (tC (.int (-2))) tNil))) tNext) (tSeq (sFld K (tVar 0) (tOp rCat (tSl (rSlL K) (tFld K (tVar 0) "hides") tNoPart (tPart (tVar 1))) (tSl (rSlL K) (tFld K (tVar 0) "hides") (tPart (tOp rAddI (tVar 1) (tC (.int 1)))) tNoPart)) "hides") (tRet (tLst (tCons (tCB (rLen K) (tCons (tFld K (tVar 0) "hides") tNil)) tNil)))))
abbrev N_get_hide : List Str := ["inventory", "number"]
def t_get_hide (K : PySem.W.Frag) (C : Addr) : TS := (tRet (tIf (tB (tCall (sp_exists C) [] E0 (tCons (tVar 0) (tCons (tVar 1) tNil)))) (tCB (rList K) (tCons (tOp (rIxL K) (tFld K (tVar 0) "hides") (tVar 1)) tNil)) (tLst (tCons (tC (.int (-2))) tNil))))
abbrev N_set_limits : List Str := ["inventory", "tolerance", "lot_size", "answer"]
def t_set_limits (K : PySem.W.Frag) (C : Addr) : TS := (tSeq (tIfS (tNot (tB (tCall (sp_are_limits) [] E0 (tCons (tVar 1) (tCons (tVar 2) tNil))))) (tRet (tLst (tCons (tC (.int (-22))) tNil))) tNext) (tSeq (tAsg (tLst (tCons (tC (.int 0)) (tCons (tFld K (tVar 0) "tolerance") (tCons (tFld K (tVar 0) "lot_size") tNil)))) (gName 3)) (tSeq (sFld K (tVar 0) (tVar 1) "tolerance") (tSeq (sFld K (tVar 0) (tVar 2) "lot_size") (tRet (tVar 3))))))
abbrev N_thin_hide : List Str := ["inventory", "number", "thickness", "kind", "before", "area"]
def t_thin_hide (K : PySem.W.Frag) (C : Addr) : TS := (tSeq (tIfS (tNot (tB (tCall (sp_exists C) [] E0 (tCons (tVar 0) (tCons (tVar 1) tNil))))) (tRet (tLst (tCons (tC (.int (-2))) tNil))) tNext) (tSeq (tAsg (tOp (rIxL K) (tFld K (tVar 0) "hides") (tVar 1)) (gTup K 3 (gCons (gName 3) (gCons (gName 4) (gCons (gName 5) gNil))))) (tSeq (tIfS (tOr (tTest (tOp rEq (tVar 2) (tC (.int 0)))) (tTest (tOp rGe (tVar 2) (tVar 4)))) (tRet (tLst (tCons (tC (.int (-22))) tNil))) tNext) (tSeq (sFld K (tVar 0) (tOp rCat (tOp rCat (tSl (rSlL K) (tFld K (tVar 0) "hides") tNoPart (tPart (tVar 1))) (tLst (tCons (tTup (tCons (tVar 3) (tCons (tVar 2) (tCons (tVar 5) tNil)))) tNil))) (tSl (rSlL K) (tFld K (tVar 0) "hides") (tPart (tOp rAddI (tVar 1) (tC (.int 1)))) tNoPart)) "hides") (tRet (tLst (tCons (tVar 4) tNil)))))))
abbrev N_hide_order : List Str := ["inventory"]
def t_hide_order (K : PySem.W.Frag) (C : Addr) : TS := (tRet (tOp rCat (tLst (tCons (tCB (rLen K) (tCons (tFld K (tVar 0) "hides") tNil)) tNil)) (tCall (sp_numbers_of) [] E0 (tCons (tCall (sp_order_of C) [] E0 (tCons (tVar 0) tNil)) tNil))))
abbrev N_are_compatible : List Str := ["inventory", "first", "second"]
def t_are_compatible (K : PySem.W.Frag) (C : Addr) : TS := (tSeq (tIfS (tOr (tNot (tB (tCall (sp_exists C) [] E0 (tCons (tVar 0) (tCons (tVar 1) tNil))))) (tNot (tB (tCall (sp_exists C) [] E0 (tCons (tVar 0) (tCons (tVar 2) tNil)))))) (tRet (tLst (tCons (tC (.int (-2))) tNil))) tNext) (tRet (tLst (tCons (tCB rInt (tCons (tCall (sp_are_alike) [] E0 (tCons (tOp (rIxL K) (tFld K (tVar 0) "hides") (tVar 1)) (tCons (tOp (rIxL K) (tFld K (tVar 0) "hides") (tVar 2)) (tCons (tFld K (tVar 0) "tolerance") tNil)))) tNil)) tNil))))
abbrev N_are_hides : List Str := ["inventory", "numbers", "place"]
def t_are_hides (K : PySem.W.Frag) (C : Addr) : TS := (tSeq (tFor (iRng1 (tCons (tCB (rLen K) (tCons (tVar 1) tNil)) tNil)) (gName 2) (tIfS (tOr (tNot (tB (tCall (sp_exists C) [] E0 (tCons (tVar 0) (tCons (tOp (rIxL K) (tVar 1) (tVar 2)) tNil))))) (tTest (tOp (rIn K false) (tOp (rIxL K) (tVar 1) (tVar 2)) (tSl (rSlL K) (tVar 1) tNoPart (tPart (tVar 2)))))) (tRet (tC (.bl false))) tNext)) (tRet (tC (.bl true))))
abbrev N_hides_with : List Str := ["inventory", "numbers", "number"]
def t_hides_with (K : PySem.W.Frag) (C : Addr) : TS := (tRet (tLc (iList K (tVar 1)) (gName 2) tYes (tTup (tCons (tVar 2) (tCons (tOp (rIxL K) (tFld K (tVar 0) "hides") (tVar 2)) tNil))) [2]))
abbrev N_is_lot : List Str := ["inventory", "numbers", "is_small"]
def t_is_lot (K : PySem.W.Frag) (C : Addr) : TS := (tSeq (tIfS (tNot (tB (tCall (sp_are_hides C) [] E0 (tCons (tVar 0) (tCons (tVar 1) tNil))))) (tRet (tLst (tCons (tC (.int (-22))) tNil))) tNext) (tSeq (tAsg (tOp rLe (tCB (rLen K) (tCons (tVar 1) tNil)) (tFld K (tVar 0) "lot_size")) (gName 2)) (tRet (tLst (tCons (tCB rInt (tCons (tAndV (tVar 2) (tCall (sp_all_fit) [] E0 (tCons (tCall (sp_hides_with C) [] E0 (tCons (tVar 0) (tCons (tVar 1) tNil))) (tCons (tFld K (tVar 0) "tolerance") tNil)))) tNil)) tNil)))))
abbrev N_greedy_lots : List Str := ["inventory", "lots", "answer", "lot"]
def t_greedy_lots (K : PySem.W.Frag) (C : Addr) : TS := (tSeq (tAsg (tCall (sp_greedy) [] E0 (tCons (tCall (sp_order_of C) [] E0 (tCons (tVar 0) tNil)) (tCons (tFld K (tVar 0) "tolerance") (tCons (tFld K (tVar 0) "lot_size") tNil)))) (gName 1)) (tSeq (tAsg (tLst (tCons (tCB (rLen K) (tCons (tVar 1) tNil)) tNil)) (gName 2)) (tSeq (tFor (iList K (tVar 1)) (gName 3) (tAsg (tOp rCat (tOp rCat (tVar 2) (tLst (tCons (tCB (rLen K) (tCons (tVar 3) tNil)) tNil))) (tCall (sp_numbers_of) [] E0 (tCons (tVar 3) tNil))) (gName 2))) (tRet (tVar 2)))))
abbrev N_incompatible_hides : List Str := ["inventory", "found"]
def t_incompatible_hides (K : PySem.W.Frag) (C : Addr) : TS := (tSeq (tAsg (tCall (sp_incompatible) [] E0 (tCons (tCall (sp_order_of C) [] E0 (tCons (tVar 0) tNil)) (tCons (tFld K (tVar 0) "tolerance") tNil))) (gName 1)) (tRet (tOp rCat (tLst (tCons (tCB (rLen K) (tCons (tVar 1) tNil)) tNil)) (tCall (sp_numbers_of) [] E0 (tCons (tVar 1) tNil)))))
abbrev N_largest_lot : List Str := ["inventory", "found"]
def t_largest_lot (K : PySem.W.Frag) (C : Addr) : TS := (tSeq (tIfS (tTest (tOp (rEqD K) (tFld K (tVar 0) "hides") (tLst tNil))) (tRet (tLst (tCons (tC (.int (-33))) tNil))) tNext) (tSeq (tAsg (tCall (sp_largest) [] E0 (tCons (tCall (sp_order_of C) [] E0 (tCons (tVar 0) tNil)) (tCons (tFld K (tVar 0) "tolerance") (tCons (tFld K (tVar 0) "lot_size") tNil)))) (gName 1)) (tRet (tOp rCat (tLst (tCons (tCall (sp_area_of) [] E0 (tCons (tVar 1) tNil)) (tCons (tCB (rLen K) (tCons (tVar 1) tNil)) tNil))) (tCall (sp_numbers_of) [] E0 (tCons (tVar 1) tNil))))))
abbrev N_total_area : List Str := ["inventory", "numbers"]
def t_total_area (K : PySem.W.Frag) (C : Addr) : TS := (tSeq (tIfS (tNot (tB (tCall (sp_are_hides C) [] E0 (tCons (tVar 0) (tCons (tVar 1) tNil))))) (tRet (tLst (tCons (tC (.int (-22))) tNil))) tNext) (tRet (tLst (tCons (tCall (sp_area_of) [] E0 (tCons (tCall (sp_hides_with C) [] E0 (tCons (tVar 0) (tCons (tVar 1) tNil))) tNil)) tNil))))
abbrev N_best_pairs : List Str := ["inventory", "kind", "paired", "left"]
def t_best_pairs (K : PySem.W.Frag) (C : Addr) : TS := (tSeq (tIfS (tTest (tOp rGt (tVar 1) (tC (.int 2)))) (tRet (tLst (tCons (tC (.int (-22))) tNil))) tNext) (tSeq (tAsg (tCall (sp_best_pairs_of) [] E0 (tCons (tCall (sp_order_of C) [] E0 (tCons (tVar 0) tNil)) (tCons (tVar 1) tNil))) (gTup K 2 (gCons (gName 2) (gCons (gName 3) gNil)))) (tRet (tOp rCat (tOp rCat (tLst (tCons (tCall (sp_difference_of) [] E0 (tCons (tVar 2) tNil)) (tCons (tOp rDivI (tCB (rLen K) (tCons (tVar 2) tNil)) (tC (.int 2))) tNil))) (tCall (sp_numbers_of) [] E0 (tCons (tVar 2) tNil))) (tCall (sp_numbers_of) [] E0 (tCons (tVar 3) tNil))))))
abbrev N_least_tolerance : List Str := ["inventory", "lot_count", "order", "tolerance"]
def t_least_tolerance (K : PySem.W.Frag) (C : Addr) : TS := (tSeq (tAsg (tCall (sp_order_of C) [] E0 (tCons (tVar 0) tNil)) (gName 2)) (tSeq (tFor (iRng1 (tCons (tOp rAddI (tC (.int 60)) (tC (.int 1))) tNil)) (gName 3) (tIfS (tTest (tOp rLe (tCB (rLen K) (tCons (tCall (sp_greedy) [] E0 (tCons (tVar 2) (tCons (tVar 3) (tCons (tFld K (tVar 0) "lot_size") tNil)))) tNil)) (tVar 1))) (tRet (tLst (tCons (tVar 3) tNil))) tNext)) (tRet (tLst (tCons (tC (.int (-33))) tNil)))))
abbrev N_lots_without_hide : List Str := ["inventory", "number"]
def t_lots_without_hide (K : PySem.W.Frag) (C : Addr) : TS := (tSeq (tIfS (tNot (tB (tCall (sp_exists C) [] E0 (tCons (tVar 0) (tCons (tVar 1) tNil))))) (tRet (tLst (tCons (tC (.int (-2))) tNil))) tNext) (tRet (tLst (tCons (tCall (sp_count_lots C) [] E0 (tCons (tVar 0) (tCons (tOp rCat (tSl (rSlL K) (tFld K (tVar 0) "hides") tNoPart (tPart (tVar 1))) (tSl (rSlL K) (tFld K (tVar 0) "hides") (tPart (tOp rAddI (tVar 1) (tC (.int 1)))) tNoPart)) tNil))) tNil))))
abbrev N_lots_with_hide : List Str := ["inventory", "kind", "thickness", "area"]
def t_lots_with_hide (K : PySem.W.Frag) (C : Addr) : TS := (tSeq (tIfS (tNot (tB (tCall (sp_is_hide) [] E0 (tCons (tVar 1) (tCons (tVar 2) (tCons (tVar 3) tNil)))))) (tRet (tLst (tCons (tC (.int (-22))) tNil))) tNext) (tRet (tLst (tCons (tCall (sp_count_lots C) [] E0 (tCons (tVar 0) (tCons (tOp rCat (tFld K (tVar 0) "hides") (tLst (tCons (tTup (tCons (tVar 1) (tCons (tVar 2) (tCons (tVar 3) tNil)))) tNil))) tNil))) tNil))))
abbrev N_status : List Str := ["inventory", "area", "hide"]
def t_status (K : PySem.W.Frag) (C : Addr) : TS := (tSeq (tAsg (tCB (rSum K) (tCons (tLc (iList K (tFld K (tVar 0) "hides")) (gName 2) tYes (tOp (rIxT K) (tVar 2) (tC (.int 2))) [2]) tNil)) (gName 1)) (tRet (tLst (tCons (tCB (rLen K) (tCons (tFld K (tVar 0) "hides") tNil)) (tCons (tFld K (tVar 0) "tolerance") (tCons (tFld K (tVar 0) "lot_size") (tCons (tVar 1) tNil)))))))
abbrev N_change : List Str := ["inventory", "operation", "numbers"]
def t_change (K : PySem.W.Frag) (C : Addr) : TS := (tSeq (tIfS (tTest (tOp rEq (tVar 1) (tC (.int 1)))) (tRet (tCall (sp_add_hide C) [] E0 (tCons (tVar 0) (tCons (tOp (rIxL K) (tVar 2) (tC (.int 0))) (tCons (tOp (rIxL K) (tVar 2) (tC (.int 1))) (tCons (tOp (rIxL K) (tVar 2) (tC (.int 2))) tNil)))))) tNext) (tSeq (tIfS (tTest (tOp rEq (tVar 1) (tC (.int 2)))) (tRet (tCall (sp_remove_hide C) [] E0 (tCons (tVar 0) (tCons (tOp (rIxL K) (tVar 2) (tC (.int 0))) tNil)))) tNext) (tSeq (tIfS (tTest (tOp rEq (tVar 1) (tC (.int 4)))) (tRet (tCall (sp_set_limits C) [] E0 (tCons (tVar 0) (tCons (tOp (rIxL K) (tVar 2) (tC (.int 0))) (tCons (tOp (rIxL K) (tVar 2) (tC (.int 1))) tNil))))) tNext) (tRet (tCall (sp_thin_hide C) [] E0 (tCons (tVar 0) (tCons (tOp (rIxL K) (tVar 2) (tC (.int 0))) (tCons (tOp (rIxL K) (tVar 2) (tC (.int 1))) tNil))))))))
abbrev N_plain_question : List Str := ["inventory", "operation"]
def t_plain_question (K : PySem.W.Frag) (C : Addr) : TS := (tSeq (tIfS (tTest (tOp rEq (tVar 1) (tC (.int 6)))) (tRet (tCall (sp_hide_order C) [] E0 (tCons (tVar 0) tNil))) tNext) (tSeq (tIfS (tTest (tOp rEq (tVar 1) (tC (.int 9)))) (tRet (tLst (tCons (tCall (sp_count_lots C) [] E0 (tCons (tVar 0) (tCons (tFld K (tVar 0) "hides") tNil))) tNil))) tNext) (tSeq (tIfS (tTest (tOp rEq (tVar 1) (tC (.int 10)))) (tRet (tCall (sp_greedy_lots C) [] E0 (tCons (tVar 0) tNil))) tNext) (tSeq (tIfS (tTest (tOp rEq (tVar 1) (tC (.int 11)))) (tRet (tCall (sp_incompatible_hides C) [] E0 (tCons (tVar 0) tNil))) tNext) (tRet (tIf (tTest (tOp rEq (tVar 1) (tC (.int 12)))) (tCall (sp_largest_lot C) [] E0 (tCons (tVar 0) tNil)) (tCall (sp_status C) [] E0 (tCons (tVar 0) tNil))))))))
abbrev N_question : List Str := ["inventory", "operation", "numbers"]
def t_question (K : PySem.W.Frag) (C : Addr) : TS := (tSeq (tIfS (tTest (tOp rEq (tVar 1) (tC (.int 3)))) (tRet (tCall (sp_get_hide C) [] E0 (tCons (tVar 0) (tCons (tOp (rIxL K) (tVar 2) (tC (.int 0))) tNil)))) tNext) (tSeq (tIfS (tTest (tOp rEq (tVar 1) (tC (.int 7)))) (tRet (tCall (sp_are_compatible C) [] E0 (tCons (tVar 0) (tCons (tOp (rIxL K) (tVar 2) (tC (.int 0))) (tCons (tOp (rIxL K) (tVar 2) (tC (.int 1))) tNil))))) tNext) (tSeq (tIfS (tTest (tOp rEq (tVar 1) (tC (.int 8)))) (tRet (tCall (sp_is_lot C) [] E0 (tCons (tVar 0) (tCons (tVar 2) tNil)))) tNext) (tSeq (tIfS (tTest (tOp rEq (tVar 1) (tC (.int 13)))) (tRet (tCall (sp_total_area C) [] E0 (tCons (tVar 0) (tCons (tVar 2) tNil)))) tNext) (tSeq (tIfS (tTest (tOp rEq (tVar 1) (tC (.int 14)))) (tRet (tCall (sp_best_pairs C) [] E0 (tCons (tVar 0) (tCons (tOp (rIxL K) (tVar 2) (tC (.int 0))) tNil)))) tNext) (tSeq (tIfS (tTest (tOp rEq (tVar 1) (tC (.int 15)))) (tRet (tCall (sp_least_tolerance C) [] E0 (tCons (tVar 0) (tCons (tOp (rIxL K) (tVar 2) (tC (.int 0))) tNil)))) tNext) (tSeq (tIfS (tTest (tOp rEq (tVar 1) (tC (.int 16)))) (tRet (tCall (sp_lots_without_hide C) [] E0 (tCons (tVar 0) (tCons (tOp (rIxL K) (tVar 2) (tC (.int 0))) tNil)))) tNext) (tRet (tCall (sp_lots_with_hide C) [] E0 (tCons (tVar 0) (tCons (tOp (rIxL K) (tVar 2) (tC (.int 0))) (tCons (tOp (rIxL K) (tVar 2) (tC (.int 1))) (tCons (tOp (rIxL K) (tVar 2) (tC (.int 2))) tNil)))))))))))))
abbrev N_deed : List Str := ["inventory", "operation", "numbers"]
def t_deed (K : PySem.W.Frag) (C : Addr) : TS := (tSeq (tIfS (tTest (tOp (rIn K false) (tVar 1) (tTup (tCons (tC (.int 1)) (tCons (tC (.int 2)) (tCons (tC (.int 4)) (tCons (tC (.int 5)) tNil))))))) (tRet (tCall (sp_change C) [] E0 (tCons (tVar 0) (tCons (tVar 1) (tCons (tVar 2) tNil))))) tNext) (tSeq (tIfS (tTest (tOp (rIn K false) (tVar 1) (tTup (tCons (tC (.int 6)) (tCons (tC (.int 9)) (tCons (tC (.int 10)) (tCons (tC (.int 11)) (tCons (tC (.int 12)) (tCons (tC (.int 18)) tNil))))))))) (tRet (tCall (sp_plain_question C) [] E0 (tCons (tVar 0) (tCons (tVar 1) tNil)))) tNext) (tRet (tCall (sp_question C) [] E0 (tCons (tVar 0) (tCons (tVar 1) (tCons (tVar 2) tNil)))))))
abbrev N_answers : List Str := ["calls", "inventory", "found", "at", "operation", "end", "numbers", "answer"]
def t_answers (K : PySem.W.Frag) (C : Addr) : TS := (tSeq (tAsg (tC .non) (gName 1)) (tSeq (tAsg (tLst tNil) (gName 2)) (tSeq (tAsg (tC (.int 0)) (gName 3)) (tSeq (tWhile (tTest (tOp rLt (tVar 3) (tCB (rLen K) (tCons (tVar 0) tNil)))) (tSeq (tAsg (tOp (rIxL K) (tVar 0) (tVar 3)) (gName 4)) (tSeq (tAsg (tOp rAddI (tOp rAddI (tVar 3) (tC (.int 2))) (tOp (rIxL K) (tVar 0) (tOp rAddI (tVar 3) (tC (.int 1))))) (gName 5)) (tSeq (tAsg (tSl (rSlL K) (tVar 0) (tPart (tOp rAddI (tVar 3) (tC (.int 2)))) (tPart (tVar 5))) (gName 6)) (tSeq (tAsg (tOp rAddI (tVar 5) (tC (.int 1))) (gName 3)) (tSeq (tIfS (tTest (tOp rNe (tVar 4) (tC (.int 0)))) (tAsg (tIf (tTest (tOp rIsN (tVar 1) (tC .non))) (tLst (tCons (tC (.int (-11))) tNil)) (tCall (sp_deed C) [] E0 (tCons (tVar 1) (tCons (tVar 4) (tCons (tVar 6) tNil))))) (gName 7)) (tIfS (tB (tCall (sp_are_limits) [] E0 (tCons (tOp (rIxL K) (tVar 6) (tC (.int 0))) (tCons (tOp (rIxL K) (tVar 6) (tC (.int 1))) tNil)))) (tSeq (tAsg (tMake C (sp_init C) [] E0 (tCons (tOp (rIxL K) (tVar 6) (tC (.int 0))) (tCons (tOp (rIxL K) (tVar 6) (tC (.int 1))) tNil))) (gName 1)) (tAsg (tLst (tCons (tC (.int 0)) tNil)) (gName 7))) (tAsg (tLst (tCons (tC (.int (-22))) tNil)) (gName 7)))) (tSeq (tDrop (tBM K "list" rAppend (tVar 2) (tCons (tCB (rLen K) (tCons (tVar 7) tNil)) tNil))) (tDrop (tBM K "list" rExtend (tVar 2) (tCons (tVar 7) tNil)))))))))) (tRet (tVar 2))))))
end DT
namespace DT
open PySem PySem.Spec PyProof.Rows L2
open Kp394 (Hide Inventory)
open MH (Itm noIt noHide)
theorem isL2 {G : Hp} {vs : List V} {d1 d2 : PyData} (h : IsL G vs [d1, d2]) : ∃ x y, vs = [x, y] ∧ Is G x d1 ∧ Is G y d2 := by
  cases h with
  | cons h1 h2 =>
    obtain ⟨y, rfl, h3⟩ := isL1 h2
    exact ⟨_, _, rfl, h1, h3⟩
theorem isL3 {G : Hp} {vs : List V} {d1 d2 d3 : PyData} (h : IsL G vs [d1, d2, d3]) : ∃ x y z, vs = [x, y, z] ∧ Is G x d1 ∧ Is G y d2 ∧ Is G z d3 := by
  cases h with
  | cons h1 h2 =>
    obtain ⟨y, z, rfl, h3, h4⟩ := isL2 h2
    exact ⟨_, _, _, rfl, h1, h3, h4⟩
theorem isL0 {G : Hp} {vs : List V} (h : IsL G vs []) : vs = [] := by cases h; rfl
abbrev DD (Q : VK) : Ends := { nx := fun _ H' => Q .non H', rt := Q }
theorem Ret.is {G H : Hp} {d d' : PyData} {Q : VK} (k : Ret G H d Q) (e : d = d') : Ret G H d' Q := e ▸ k
variable {K : PySem.W.Frag} {C : Addr}

theorem pure_is_ahead (vs : List V) (H : Hp) (Q : VK) (E : XK) (h : sp_is_ahead vs H Q E) : t_is_ahead K C (DD Q) (start N_is_ahead vs) H := by
  obtain ⟨G, ds, d, e, hv, _, ⟨a, b, rfl, rfl⟩, k⟩ := h
  obtain ⟨x, y, rfl, h1, h2⟩ := isL2 hv
  refine q_when e (eb_test (ev_ne (ev_kind (ev_var rfl h1)) (ev_kind (ev_var rfl h2)))) (fun c H2 g => ?_) (fun c H2 g => ?_)
  · refine s_ret g.sub (ev_lt (ev_kind (ev_var rfl h1)) (ev_kind (ev_var rfl h2))) ((k.go g).is ?_)
    simp at c
    unfold MH.isAhead
    rw [if_neg (by omega)]
    simp
  · refine s_ret g.sub (ev_le (ev_thick (ev_var rfl h1)) (ev_thick (ev_var rfl h2))) ((k.go g).is ?_)
    simp at c
    unfold MH.isAhead
    rw [if_pos (by omega)]
    simp
theorem placeOf_lt {o : List Itm} {h : Hide} {p : Nat} (hp : p ≤ MH.placeOf o h) (hl : p < o.length) : (p < MH.placeOf o h ↔ MH.isAhead (o.getD p noIt).2 h = true) := by
  unfold MH.placeOf at *
  induction o generalizing p with
  | nil => simp at hl
  | cons a o ih =>
    rw [List.takeWhile_cons] at hp ⊢
    by_cases c : MH.isAhead a.2 h = true
    · rw [if_pos c] at hp ⊢
      cases p with
      | zero => simp [c]
      | succ p =>
        rw [List.length_cons] at hp hl ⊢
        have := ih (p := p) (by omega) (by omega)
        rw [List.getD_cons_succ, Nat.add_lt_add_iff_right]
        exact this
    · rw [if_neg c] at hp ⊢
      cases p with
      | zero =>
        rw [List.getD_cons_zero]
        simp [c]
      | succ p => simp at hp
theorem placeOf_le (o : List Itm) (h : Hide) : MH.placeOf o h ≤ o.length := by
  unfold MH.placeOf
  exact (List.takeWhile_sublist _).length_le
theorem pure_placed (vs : List V) (H : Hp) (Q : VK) (E : XK) (h : sp_placed vs H Q E) : t_placed K C (DD Q) (start N_placed vs) H := by
  obtain ⟨G, ds, d, e, hv, _, ⟨o, n, hd, rfl, hl, rfl⟩, k⟩ := h
  obtain ⟨x, y, z, rfl, h1, h2, h3⟩ := isL3 hv
  obtain rfl := is_int h2
  refine q_set e ev_int fun v G2 H2 g2 hv2 => ?_
  obtain rfl := is_int hv2
  have e2 : Ex G H2 := g2.base.trans g2.sub
  refine q_while (fun m σ H' => ∃ p : Nat, σ = [some x, some (.int (n : Int)), some z, some (.int (p : Int))] ∧ p ≤ MH.placeOf o hd ∧ m = o.length - p ∧ Grow G H G H') (o.length - 0) ⟨0, rfl, Nat.zero_le _, rfl, ⟨g2.up, Ex.refl _, e2, fun _ _ q => .inl q⟩⟩ ?_
  rintro m σ H' ⟨p, rfl, hp, rfl, g⟩
  have hle := placeOf_le o hd
  refine ⟨G, _, g.sub, eb_and (eb_test (ev_lt (ev_var rfl (.int _)) (ev_lenM (ev_var rfl h1)))) (fun c => eb_B (ev_call (ea_two (ev_hide (ev_atD (d := noIt) (ev_var rfl h1) (ev_var rfl (.int _)) (by simpa using c))) (ev_var rfl h3)) ⟨_, _, rfl, rfl⟩)), fun c H1 e1 => ?_, fun c H1 e1 => ?_⟩
  · rw [Bool.and_eq_true, decide_eq_true_eq] at c
    have hpl : p < o.length := by omega
    have g1 : Grow G H G H1 := ⟨g.up.trans e1, Ex.refl _, g.sub.trans e1, fun _ _ q => .inl q⟩
    refine s_aug g1.sub rfl ev_int fun H3 g3 => ⟨o.length - (p + 1), by omega, p + 1, rfl, ?_, rfl, g1.trans g3⟩
    exact (placeOf_lt hp hpl).mpr c.2
  · have g1 : Grow G H G H1 := ⟨g.up.trans e1, Ex.refl _, g.sub.trans e1, fun _ _ q => .inl q⟩
    have ep : p = MH.placeOf o hd := by
      by_cases hpl : p < o.length
      · have h5 := placeOf_lt (h := hd) hp hpl
        have h6 : (decide ((p : Int) < (o.length : Int))) = true := by simpa using hpl
        rw [h6, Bool.true_and] at c
        rw [c] at h5
        have : ¬ p < MH.placeOf o hd := fun q => Bool.false_ne_true (h5.mp q)
        omega
      · omega
    refine s_ret g1.sub (ev_catM (ev_catM (ev_take (ev_var rfl h1) (ev_var rfl (.int _))) (ev_one (x := (n, hd)) (ev_pair (ev_var rfl (.int _)) (ev_var rfl h3))) ?_) (ev_drop (ev_var rfl h1) (ev_var rfl (.int _))) ?_) ((k.go g1).is ?_)
    · rw [List.length_take, List.length_singleton]
      omega
    · rw [List.length_append, List.length_take, List.length_drop, List.length_singleton]
      omega
    · unfold MH.placed
      rw [ep]
end DT
namespace DT
open PySem PySem.Spec PyProof.Rows L2
open Kp394 (Hide Inventory)
open MH (Itm noIt noHide)
section
variable {K : PySem.W.Frag} {C : Addr} {σ : L2.St} {G A G2 A2 H : Hp} {ta tb te : TE} {t u : TT} {v : V} {d d1 d2 : PyData} {ds es : List PyData} {D : Ends} {tu tw tz : TS} {g : TG}
/-! ### lists of one's own -/
/-- xs = [] -/
theorem q_own {i : Nat} (k : ∀ p, H p = none → tz D (σ.set i (some (.ref p))) (upd H p (.lst []))) : tSeq (tAsg (tLst tNil) (gName i)) tz D σ H := ⟨Nat.zero_le _, fun p hp => k p hp⟩
theorem EvB.at {b : Bool} (e : Ex G2 A) (h : EvB t σ G2 A b) : EvB t σ G A b := fun H1 _ a1 Q k => h H1 (e.trans a1) a1 Q k
theorem ev_ixOwn {i : Nat} {j : Int} {p : Addr} {vs : List V} (hi : σ[i]? = some (some (.ref p))) (hp : A p = some (.lst vs)) (hv : IsL G vs ds) (hb : Ev tb σ G A (.int j)) (h : atI ds j = some d) : Ev (tOp (rIxL K) (tVar i) tb) σ G A d := fun H1 e1 a1 Q k =>
  ⟨.ref p, hi, hb H1 e1 a1 _ fun y G2 H2 g2 hy => by
    obtain ⟨w, h3, h4⟩ := atI_is hv h
    exact ⟨p, vs, j, w, rfl, is_int hy, SqL.of (g2.up _ _ (a1 _ _ hp)), h3, k.go g2 _ _ _ (Grow.refl g2.sub) (h4.up g2.base)⟩⟩
theorem ev_lastOwn {α : Type} {xs : List α} {f : α → PyData} {x : α} {i : Nat} {p : Addr} {vs : List V} (hi : σ[i]? = some (some (.ref p))) (hp : A p = some (.lst vs)) (hv : IsL G vs ((xs ++ [x]).map f)) : Ev (tOp (rIxL K) (tVar i) (tUn rNeg (tC (.int 1)))) σ G A (f x) :=
  ev_ixOwn hi hp hv (ev_neg ev_int) (by rw [List.map_append]; exact atI_last _ _)
theorem ixN_last (n : Nat) : ixN (n + 1) (-1) = some n := by
  unfold ixN
  rw [if_neg (by decide), if_pos (by omega)]
  congr 1
  omega
theorem s_setOwn {i n : Nat} {p : Addr} {xs : List V} (e : Ex G H) (hx : σ[i]? = some (some (.ref p))) (hp : H p = some (.lst xs)) (hn : xs.length = n + 1) (h : Ev te σ G H d) (k : ∀ v G2 H2, Grow G H G2 H2 → Is G2 v d → D.nx σ (upd H2 p (.lst (xs.set n v)))) :
    tAsg te (gSub (tVar i) (tUn rNeg (tC (.int 1))) rSetL) D σ H := h H e (Ex.refl _) _ fun v G2 H2 g2 hv => ⟨.ref p, hx, 1, rfl, p, xs, -1, n, rfl, rfl, g2.up _ _ hp, by rw [hn]; exact ixN_last n, k v G2 H2 g2 hv⟩
theorem take_snoc {α : Type} {l : List α} {i : Nat} {x : α} (h : l[i]? = some x) : l.take (i + 1) = l.take i ++ [x] := by
  rw [List.take_add_one, h]
  rfl
/-! ### the shape of data -/
theorem lay_all : ∀ {ds : List PyData}, (∀ d ∈ ds, d.canLay0 = true) → PyData.canLayAll0 ds = true
  | [], _ => by simp only [PyData.canLayAll0]
  | d :: ds, h => by
    simp only [PyData.canLayAll0, Bool.and_eq_true]
    exact ⟨h d (by simp), lay_all fun d hd => h d (by simp [hd])⟩
theorem depth_all : ∀ {ds : List PyData} {n : Nat}, (∀ d ∈ ds, PyData.depth d ≤ n) → PyData.depthAll ds ≤ n
  | [], n, _ => by
    simp only [PyData.depthAll]
    exact Nat.zero_le _
  | d :: ds, n, h => by
    simp only [PyData.depthAll]
    have h1 := h d (by simp)
    have h2 : PyData.depthAll ds ≤ n := depth_all fun d' hd' => h d' (List.mem_cons_of_mem _ hd')
    omega
def Shp (n : Nat) (d : PyData) : Prop := d.canLay0 = true ∧ PyData.depth d ≤ n
theorem shp_list {n : Nat} (h : ∀ d ∈ ds, Shp n d) : Shp (n + 1) (.list ds) := by
  refine ⟨?_, ?_⟩
  · simp only [PyData.canLay0]
    exact lay_all fun d hd => (h d hd).1
  · simp only [PyData.depth]
    have := depth_all fun d hd => (h d hd).2
    omega
theorem shp_tup {n : Nat} (h : ∀ d ∈ ds, Shp n d) : Shp (n + 1) (.tuple ds) := by
  refine ⟨?_, ?_⟩
  · simp only [PyData.canLay0]
    exact lay_all fun d hd => (h d hd).1
  · simp only [PyData.depth]
    have := depth_all fun d hd => (h d hd).2
    omega
theorem shp_int (i : Int) : Shp 0 (.int i) := ⟨by simp only [PyData.canLay0], by simp only [PyData.depth]; exact Nat.le_refl _⟩
theorem Shp.le {n m : Nat} (h : Shp n d) (e : n ≤ m) : Shp m d := ⟨h.1, Nat.le_trans h.2 e⟩
theorem shp_H (h : Hide) : Shp 1 (encH h) := shp_tup fun d hd => by
  simp only [List.mem_cons, List.not_mem_nil, or_false] at hd
  rcases hd with rfl | rfl | rfl <;> exact shp_int _
theorem shp_P (x : Itm) : Shp 2 (encP x) := shp_tup fun d hd => by
  simp only [List.mem_cons, List.not_mem_nil, or_false] at hd
  rcases hd with rfl | rfl
  · exact (shp_int _).le (by decide)
  · exact shp_H _
theorem shp_O (o : List Itm) : Shp 3 (encO o) := shp_list fun d hd => by
  obtain ⟨x, _, rfl⟩ := List.mem_map.mp hd
  exact shp_P x
theorem shp_Ls (ls : List (List Itm)) : Shp 4 (encLs ls) := shp_list fun d hd => by
  obtain ⟨x, _, rfl⟩ := List.mem_map.mp hd
  exact shp_O x
theorem shp_Hs (hs : List Hide) : Shp 2 (encHs hs) := shp_list fun d hd => by
  obtain ⟨x, _, rfl⟩ := List.mem_map.mp hd
  exact shp_H x
theorem shaped_of {n : Nat} (h : Shp n d) (e : n ≤ 64) : SeqAt.shaped d = true := by
  unfold SeqAt.shaped
  rw [h.1, decide_eq_true (Nat.le_trans h.2 e)]
  rfl
theorem eqv_nil : ∀ ds : List PyData, PyData.eqv (.list ds) (.list []) = ds.isEmpty
  | [] => by simp [PyData.eqv, PyData.eqvAll]
  | d :: ds => by simp [PyData.eqv, PyData.eqvAll]
/-- == [], != [] -/
theorem ev_eqNil {n : Nat} (ha : Ev ta σ G A (.list ds)) (hs : Shp n (.list ds)) (hn : n ≤ 64) : Ev (tOp (rEqD K) ta (tLst tNil)) σ G A (.bool ds.isEmpty) :=
  (ev_eqD ha (ev_lst (ds := []) ea_nil (Nat.zero_le _)) (shaped_of hs hn) (shaped_of (shp_list (n := 0) fun d hd => by cases hd) (by decide))).is (by rw [eqv_nil])
theorem ev_neNil {n : Nat} (ha : Ev ta σ G A (.list ds)) (hs : Shp n (.list ds)) (hn : n ≤ 64) : Ev (tOp (rNeD K) ta (tLst tNil)) σ G A (.bool (!ds.isEmpty)) :=
  (ev_neD ha (ev_lst (ds := []) ea_nil (Nat.zero_le _)) (shaped_of hs hn) (shaped_of (shp_list (n := 0) fun d hd => by cases hd) (by decide))).is (by rw [eqv_nil])
end
variable {K : PySem.W.Frag} {C : Addr}

theorem placed_len (o : List Itm) (n : Nat) (h : Hide) : (MH.placed o n h).length = o.length + 1 := by
  unfold MH.placed
  have := placeOf_le o h
  rw [List.length_append, List.length_append, List.length_take, List.length_drop, List.length_singleton]
  omega
theorem orderedN_len (hs : List Hide) : ∀ i, (MH.orderedN hs i).length = i
  | 0 => rfl
  | i + 1 => by
    rw [MH.orderedN, placed_len, orderedN_len hs i]
theorem ordered_len (hs : List Hide) : (MH.ordered hs).length = hs.length := orderedN_len hs _
theorem pure_ordered (vs : List V) (H : Hp) (Q : VK) (E : XK) (h : sp_ordered vs H Q E) : t_ordered K C (DD Q) (start N_ordered vs) H := by
  obtain ⟨G, ds, d, e, hv, _, ⟨hs, rfl, hl, rfl⟩, k⟩ := h
  obtain ⟨x, rfl, h1⟩ := isL1 hv
  refine q_set e (ev_lst (ds := []) ea_nil (Nat.zero_le _)) fun f0 G2 H2 g2 hf0 => ?_
  refine q_forR (n := hs.length) g2.sub (ea_one (ev_lenM (ev_var rfl (h1.up g2.base)))) (by omega) (fun i σ H' => ∃ w u G', σ = [some x, some w, u] ∧ Grow G H G' H' ∧ Is G' w (encO (MH.orderedN hs i))) (fun H3 g3 => ⟨f0, none, G2, rfl, g2.trans g3, hf0⟩) ?_ ?_
  · rintro i σ H' hi ⟨w, u, G', rfl, g, hw⟩
    refine s_set g.sub (ev_call (ea_cons (ev_var rfl hw) (ea_cons (ev_var rfl (.int _)) (ea_one (ev_atD (d := noHide) (ev_var rfl (h1.up g.base)) (ev_var rfl (.int _)) hi)))) ⟨_, _, _, rfl, by rw [orderedN_len]; omega, rfl⟩) fun v G3 H3 g3 hv3 => ⟨v, _, G3, rfl, g.trans g3, hv3⟩
  · rintro σ H' ⟨w, u, G', rfl, g, hw⟩
    exact s_ret g.sub (ev_var rfl hw) (k.go g)
theorem pure_are_alike (vs : List V) (H : Hp) (Q : VK) (E : XK) (h : sp_are_alike vs H Q E) : t_are_alike K C (DD Q) (start N_are_alike vs) H := by
  obtain ⟨G, ds, d, e, hv, _, ⟨a, b, t, rfl, rfl⟩, k⟩ := h
  obtain ⟨x, y, z, rfl, h1, h2, h3⟩ := isL3 hv
  refine s_ret e (ev_andV (ev_eq (ev_kind (ev_var rfl h1)) (ev_kind (ev_var rfl h2))) (fun _ => ev_le (ev_abs (ev_sub (ev_thick (ev_var rfl h1)) (ev_thick (ev_var rfl h2)))) (ev_var rfl h3))) (k.is ?_)
  unfold MH.alike
  congr 1
  rw [Bool.eq_iff_iff, Bool.and_assoc, Bool.and_eq_true, Bool.and_eq_true, Bool.and_eq_true, decide_eq_true_eq, decide_eq_true_eq, decide_eq_true_eq, decide_eq_true_eq, decide_eq_true_eq]
  split <;> omega
theorem pure_fits_all (vs : List V) (H : Hp) (Q : VK) (E : XK) (h : sp_fits_all vs H Q E) : t_fits_all K C (DD Q) (start N_fits_all vs) H := by
  obtain ⟨G, ds, d, e, hv, _, ⟨hd, o, t, rfl, rfl⟩, k⟩ := h
  obtain ⟨x, y, z, rfl, h1, h2, h3⟩ := isL3 hv
  refine q_for e (ev_var rfl h2) (fun G1 i σ H' => ∃ u w, σ = [some x, some y, some z, u, w] ∧ Grow G H G1 H' ∧ ∀ a ∈ o.take i, MH.alike hd a.2 t = true) (fun G1 H1 g1 => ⟨none, none, rfl, g1, fun a ha => by simp at ha⟩) (fun G1 i σ H' ⟨_, _, _, g, _⟩ => g.sub) ?_ ?_
  · rintro G1 i d v σ H' e1 hd1 hv1 ⟨u, w, rfl, g, ha⟩
    obtain ⟨a, hx, rfl⟩ := map_get hd1
    refine g_two g.sub hv1 fun p q hp hq => ?_
    refine s_when g.sub (eb_not (eb_B (ev_call (ea_cons (ev_var rfl (h1.up g.base)) (ea_cons (ev_var rfl hq) (ea_one (ev_var rfl (h3.up g.base))))) ⟨hd, a.2, t, rfl, rfl⟩))) (fun c H2 g2 => ?_) (fun c H2 g2 => ?_)
    · refine s_ret g2.sub ev_bl ((k.go (g.trans g2)).is ?_)
      have hm : a ∈ o := List.mem_of_getElem? hx
      have c' : MH.alike hd a.2 t = false := by simpa using c
      congr 1
      unfold MH.fitsAll
      rw [List.all_eq_false]
      exact ⟨a, hm, by rw [c']; decide⟩
    · refine ⟨_, _, rfl, g.trans g2, ?_⟩
      rw [take_snoc hx]
      intro b hb
      rcases List.mem_append.mp hb with hb | hb
      · exact ha b hb
      · obtain rfl : b = a := by simpa using hb
        simpa using c
  · rintro G1 σ H' e1 ⟨u, w, rfl, g, ha⟩
    refine s_ret g.sub ev_bl ((k.go g).is ?_)
    congr 1
    unfold MH.fitsAll
    rw [List.length_map, List.take_length] at ha
    exact List.all_eq_true.mpr ha
theorem pure_all_fit (vs : List V) (H : Hp) (Q : VK) (E : XK) (h : sp_all_fit vs H Q E) : t_all_fit K C (DD Q) (start N_all_fit vs) H := by
  obtain ⟨G, ds, d, e, hv, _, ⟨o, t, rfl, hl, rfl⟩, k⟩ := h
  obtain ⟨x, y, rfl, h1, h2⟩ := isL2 hv
  refine q_forR (n := o.length) e (ea_one (ev_lenM (ev_var rfl h1))) (by omega) (fun i σ H' => ∃ u, σ = [some x, some y, u] ∧ Grow G H G H' ∧ ∀ p < i, MH.fitsAll (o.getD p noIt).2 (o.take p) t = true) (fun H1 g1 => ⟨none, rfl, g1, fun p hp => by omega⟩) ?_ ?_
  · rintro i σ H' hi ⟨u, rfl, g, ha⟩
    refine s_when g.sub (eb_not (eb_B (ev_call (ea_cons (ev_hide (ev_atD (d := noIt) (ev_var rfl h1) (ev_var rfl (.int _)) hi)) (ea_cons (ev_take (ev_var rfl h1) (ev_var rfl (.int _))) (ea_one (ev_var rfl h2)))) ⟨_, _, _, rfl, rfl⟩))) (fun c H2 g2 => ?_) (fun c H2 g2 => ?_)
    · refine s_ret g2.sub ev_bl ((k.go (g.trans g2)).is ?_)
      have c' : MH.fitsAll (o.getD i noIt).2 (o.take i) t = false := by simpa using c
      congr 1
      unfold MH.allFit
      rw [List.all_eq_false]
      exact ⟨i, List.mem_range.mpr hi, by rw [c']; decide⟩
    · refine ⟨_, rfl, g.trans g2, fun p hp => ?_⟩
      by_cases q : p = i
      · subst q
        simpa using c
      · exact ha p (by omega)
  · rintro σ H' ⟨u, rfl, g, ha⟩
    refine s_ret g.sub ev_bl ((k.go g).is ?_)
    congr 1
    unfold MH.allFit
    exact List.all_eq_true.mpr fun p hp => ha p (List.mem_range.mp hp)
theorem greedyStep_bound (t s : Nat) (ls : List (List Itm)) (x : Itm) (n : Nat) (h : ls.length ≤ n ∧ ∀ l ∈ ls, l.length ≤ n) : (MH.greedyStep t s ls x).length ≤ n + 1 ∧ ∀ l ∈ MH.greedyStep t s ls x, l.length ≤ n + 1 := by
  unfold MH.greedyStep
  split
  · refine ⟨by rw [List.length_append, List.length_singleton]; omega, fun l hl => ?_⟩
    rcases List.mem_append.mp hl with q | q
    · have := h.2 l q
      omega
    · obtain rfl : l = [x] := by simpa using q
      simp
  · rename_i l hl
    have hm : l ∈ ls := List.mem_of_getLast? hl
    split
    · refine ⟨by rw [List.length_append, List.length_singleton, List.length_dropLast]; omega, fun m hm2 => ?_⟩
      rcases List.mem_append.mp hm2 with q | q
      · have := h.2 m (List.dropLast_subset _ q)
        omega
      · obtain rfl : m = l ++ [x] := by simpa using q
        have := h.2 l hm
        rw [List.length_append, List.length_singleton]
        omega
    · refine ⟨by rw [List.length_append, List.length_singleton]; omega, fun m hm2 => ?_⟩
      rcases List.mem_append.mp hm2 with q | q
      · have := h.2 m q
        omega
      · obtain rfl : m = [x] := by simpa using q
        simp
theorem greedy_snoc (o : List Itm) (x : Itm) (t s : Nat) : MH.greedy (o ++ [x]) t s = MH.greedyStep t s (MH.greedy o t s) x := by
  unfold MH.greedy
  rw [List.foldl_append]
  rfl
theorem greedy_bound (o : List Itm) (t s : Nat) : ∀ i, i ≤ o.length → (MH.greedy (o.take i) t s).length ≤ i ∧ ∀ l ∈ MH.greedy (o.take i) t s, l.length ≤ i
  | 0, _ => by simp [MH.greedy]
  | i + 1, h => by
    have hx : o[i]? = some o[i] := List.getElem?_eq_getElem (by omega)
    rw [take_snoc hx, greedy_snoc]
    exact greedyStep_bound t s _ _ i (greedy_bound o t s i (by omega))
theorem snoc_of {α : Type} {l : List α} (h : l ≠ []) : ∃ xs x, l = xs ++ [x] := ⟨l.dropLast, l.getLast h, (List.dropLast_concat_getLast h).symm⟩
theorem pure_greedy (vs : List V) (H : Hp) (Q : VK) (E : XK) (h : sp_greedy vs H Q E) : t_greedy K C (DD Q) (start N_greedy vs) H := by
  obtain ⟨G, ds, d, e, hv, _, ⟨o, t, s, rfl, hl, rfl⟩, k⟩ := h
  obtain ⟨x, y, z, rfl, h1, h2, h3⟩ := isL3 hv
  refine q_own fun p hp => ?_
  have ga : Grow G H G (upd H p (.lst [])) := Grow.aside e hp
  refine q_for ga.sub (ev_var rfl h1) (fun G1 i σ H' => ∃ u w vs G', σ = [some x, some y, some z, some (.ref p), u, w] ∧ i ≤ o.length ∧ Ex G1 G' ∧ Grow G H G' H' ∧ G' p = none ∧ H' p = some (.lst vs) ∧ IsL G' vs ((MH.greedy (o.take i) t s).map encO))
    (fun G1 H1 g1 => ⟨none, none, [], G1, rfl, Nat.zero_le _, Ex.refl _, ga.trans g1, g1.out (e.nope hp) upd_same, g1.up _ _ upd_same, .nil⟩) (fun G1 i σ H' ⟨_, _, _, _, _, _, e1, g, _⟩ => e1.trans g.sub) ?_ ?_
  · rintro G1 i d v σ H' e1 hd1 hv1 ⟨u, w, vs, G', rfl, hi, e2, g, out, hp', hvs⟩
    obtain ⟨a, hx, rfl⟩ := map_get hd1
    have hil : i < o.length := (List.getElem?_eq_some_iff.mp hx).1
    refine g_two (e2.trans g.sub) hv1 fun p1 q1 hp1 hq1 => ?_
    have hb := greedy_bound o t s i hi
    have hstep : MH.greedy (o.take (i + 1)) t s = MH.greedyStep t s (MH.greedy (o.take i) t s) a := by rw [take_snoc hx, greedy_snoc]
    generalize hls : MH.greedy (o.take i) t s = ls at hvs hb hstep
    have eP : Ex (upd G' p (.lst vs)) H' := fun b o q => by
      by_cases c : b = p
      · subst c
        rw [upd_same] at q
        cases q
        exact hp'
      · rw [upd_ne c] at q
        exact g.sub b o q
    have eG : Ex G' (upd G' p (.lst vs)) := (Ex.refl G').put out
    have isP : Is (upd G' p (.lst vs)) (.ref p) (encLs ls) := .lst upd_same (hvs.up eG)
    have pr : Ev (tTup (tCons (tVar 4) (tCons (tVar 5) tNil))) [some x, some y, some z, some (.ref p), some p1, some q1] G' H' (encP a) := ev_pair (ev_var rfl (hp1.up e2)) (ev_var rfl (hq1.up e2))
    by_cases hne : ls = []
    · subst hne
      have cnd : EvB (tAnd (tTest (tOp (rNeD K) (tVar 3) (tLst tNil))) (tAnd (tTest (tOp rLt (tCB (rLen K) (tCons (tOp (rIxL K) (tVar 3) (tUn rNeg (tC (.int 1)))) tNil)) (tVar 2))) (tB (tCall (sp_fits_all) [] E0 (tCons (tVar 5) (tCons (tOp (rIxL K) (tVar 3) (tUn rNeg (tC (.int 1)))) (tCons (tVar 1) tNil)))))))
          [some x, some y, some z, some (.ref p), some p1, some q1] G' H' (false && true) :=
        EvB.at eP (eb_and (eb_test (ev_neNil (ev_var rfl isP) (shp_Ls []) (by decide))) fun c => absurd c (by decide))
      refine s_if g.sub cnd (fun c => absurd c (by decide)) (fun _ H2 g2 => ?_)
      obtain rfl : vs = [] := List.length_eq_zero_iff.mp (by rw [hvs.len]; rfl)
      refine s_app g2.sub rfl (g2.up _ _ hp') (by decide) (ev_one (f := encP) (pr.mono (Ex.refl _) g2.up)) fun w2 G3 H3 g3 hw2 => ⟨_, _, _, G3, rfl, hil, e2.trans g3.base, ((g.trans g2).trans g3).write hp (g3.out out (g2.up _ _ hp')), g3.out out (g2.up _ _ hp'), upd_same, ?_⟩
      rw [hstep]
      exact IsL.one hw2
    · obtain ⟨ls, l, rfl⟩ := snoc_of hne
      rw [MH.greedyStep_snoc] at hstep
      have hlast : ∀ G3 A3, Ex G' G3 → Ex H' A3 → Ev (tOp (rIxL K) (tVar 3) (tUn rNeg (tC (.int 1)))) [some x, some y, some z, some (.ref p), some p1, some q1] G3 A3 (encO l) := fun G3 A3 a b => ev_lastOwn rfl (b _ _ hp') (hvs.up a)
      have hll : l.length ≤ i := hb.2 l (by simp)
      have hlsl : ls.length + 1 ≤ i := by
        have := hb.1
        rw [List.length_append, List.length_singleton] at this
        exact this
      have cnd : EvB (tAnd (tTest (tOp (rNeD K) (tVar 3) (tLst tNil))) (tAnd (tTest (tOp rLt (tCB (rLen K) (tCons (tOp (rIxL K) (tVar 3) (tUn rNeg (tC (.int 1)))) tNil)) (tVar 2))) (tB (tCall (sp_fits_all) [] E0 (tCons (tVar 5) (tCons (tOp (rIxL K) (tVar 3) (tUn rNeg (tC (.int 1)))) (tCons (tVar 1) tNil)))))))
          [some x, some y, some z, some (.ref p), some p1, some q1] G' H' (decide (l.length < s) && MH.fitsAll a.2 l t) := by
        have c1 : EvB (tTest (tOp (rNeD K) (tVar 3) (tLst tNil))) [some x, some y, some z, some (.ref p), some p1, some q1] G' H' true :=
          EvB.at eP ((eb_test (ev_neNil (ev_var rfl isP) (shp_Ls _) (by decide))).is (by simp))
        have c2 : EvB (tTest (tOp rLt (tCB (rLen K) (tCons (tOp (rIxL K) (tVar 3) (tUn rNeg (tC (.int 1)))) tNil)) (tVar 2))) [some x, some y, some z, some (.ref p), some p1, some q1] G' H' (decide (l.length < s)) :=
          (eb_test (ev_lt (ev_lenM (hlast G' H' (Ex.refl _) (Ex.refl _))) (ev_var rfl (h3.up g.base)))).is (by simp)
        have c3 : EvB (tB (tCall (sp_fits_all) [] E0 (tCons (tVar 5) (tCons (tOp (rIxL K) (tVar 3) (tUn rNeg (tC (.int 1)))) (tCons (tVar 1) tNil))))) [some x, some y, some z, some (.ref p), some p1, some q1] G' H' (MH.fitsAll a.2 l t) :=
          eb_B (ev_call (ea_cons (ev_var rfl (hq1.up e2)) (ea_cons (hlast G' H' (Ex.refl _) (Ex.refl _)) (ea_one (ev_var rfl (h2.up g.base))))) ⟨_, _, _, rfl, rfl⟩)
        exact (eb_and c1 fun _ => eb_and c2 fun _ => c3).is (by rw [Bool.true_and])
      refine s_if g.sub cnd (fun c H2 g2 => ?_) (fun c H2 g2 => ?_)
      · rw [if_pos c] at hstep
        refine s_setOwn (n := ls.length) g2.sub rfl (g2.up _ _ hp') (by rw [hvs.len, List.length_map, List.length_append, List.length_singleton]) (ev_catM (hlast G' H2 (Ex.refl _) g2.up) (ev_one (f := encP) (pr.mono (Ex.refl _) g2.up)) (by rw [List.length_singleton]; omega)) fun w2 G3 H3 g3 hw2 =>
          ⟨_, _, _, G3, rfl, hil, e2.trans g3.base, ((g.trans g2).trans g3).write hp (g3.out out (g2.up _ _ hp')), g3.out out (g2.up _ _ hp'), upd_same, ?_⟩
        rw [hstep]
        have q := IsL.set ls.length (hvs.up g3.base) hw2
        rw [List.map_append, List.map_singleton, List.set_append_right _ _ (by rw [List.length_map]; exact Nat.le_refl _), List.length_map, Nat.sub_self] at q
        rw [List.map_append, List.map_singleton]
        exact q
      · rw [if_neg (by rw [c]; decide)] at hstep
        refine s_app g2.sub rfl (g2.up _ _ hp') (by rw [hvs.len, List.length_map, List.length_append, List.length_singleton]; omega) (ev_one (f := encP) (pr.mono (Ex.refl _) g2.up)) fun w2 G3 H3 g3 hw2 => ⟨_, _, _, G3, rfl, hil, e2.trans g3.base, ((g.trans g2).trans g3).write hp (g3.out out (g2.up _ _ hp')), g3.out out (g2.up _ _ hp'), upd_same, ?_⟩
        rw [hstep, List.map_append]
        exact (hvs.up g3.base).app (IsL.one hw2)
  · rintro G1 σ H' e1 ⟨u, w, vs, G', rfl, hi, e2, g, out, hp', hvs⟩
    rw [List.length_map, List.take_length] at hvs
    refine ⟨.ref p, rfl, k _ _ _ (g.publish hp out hp') (.lst upd_same (hvs.up ((Ex.refl G').put out)))⟩
end DT
namespace DT
open PySem PySem.Spec PyProof.Rows L2
open Kp394 (Hide Inventory)
open MH (Itm noIt noHide)
variable {K : PySem.W.Frag} {C : Addr}

theorem pure_count_lots (T : Cl K C) (vs : List V) (H : Hp) (Q : VK) (E : XK) (h : sp_count_lots C vs H Q E) : t_count_lots K C (DD Q) (start N_count_lots vs) H := by
  obtain ⟨G, a, v, ws, ds, d, rfl, e, hva, hv, _, ⟨hs, rfl, hl, rfl⟩, k⟩ := h
  obtain ⟨x, rfl, h1⟩ := isL1 hv
  exact s_ret e (ev_lenM (ev_call (ea_cons (ev_call (ea_one (ev_var rfl h1)) ⟨hs, rfl, hl, rfl⟩) (ea_cons (ev_tol T rfl hva) (ea_one (ev_lot T rfl hva)))) ⟨_, _, _, rfl, by rw [ordered_len]; exact hl, rfl⟩)) k
theorem inc_snoc (o : List Itm) (x : Itm) (t : Nat) : MH.incompatible (o ++ [x]) t = MH.incStep t (MH.incompatible o t) x := by
  unfold MH.incompatible
  rw [List.foldl_append]
  rfl
theorem incStep_snoc (t : Nat) (ls : List Itm) (y x : Itm) : MH.incStep t (ls ++ [y]) x = if MH.alike x.2 y.2 t = true then ls ++ [y] else (ls ++ [y]) ++ [x] := by
  unfold MH.incStep
  have e : (ls ++ [y]).getLast? = some y := by simp
  rw [e]
theorem incStep_len (t : Nat) (ls : List Itm) (x : Itm) : (MH.incStep t ls x).length ≤ ls.length + 1 := by
  unfold MH.incStep
  split
  · rw [List.length_append, List.length_singleton]
    exact Nat.le_refl _
  · split
    · omega
    · rw [List.length_append, List.length_singleton]
      exact Nat.le_refl _
theorem inc_bound (o : List Itm) (t : Nat) : ∀ i, i ≤ o.length → (MH.incompatible (o.take i) t).length ≤ i
  | 0, _ => by simp [MH.incompatible]
  | i + 1, h => by
    have hx : o[i]? = some o[i] := List.getElem?_eq_getElem (by omega)
    rw [take_snoc hx, inc_snoc]
    have := incStep_len t (MH.incompatible (o.take i) t) o[i]
    have := inc_bound o t i (by omega)
    omega
theorem pure_incompatible (vs : List V) (H : Hp) (Q : VK) (E : XK) (h : sp_incompatible vs H Q E) : t_incompatible K C (DD Q) (start N_incompatible vs) H := by
  obtain ⟨G, ds, d, e, hv, _, ⟨o, t, rfl, hl, rfl⟩, k⟩ := h
  obtain ⟨x, y, rfl, h1, h2⟩ := isL2 hv
  refine q_own fun p hp => ?_
  have ga : Grow G H G (upd H p (.lst [])) := Grow.aside e hp
  refine q_for ga.sub (ev_var rfl h1) (fun G1 i σ H' => ∃ u w vs G', σ = [some x, some y, some (.ref p), u, w] ∧ i ≤ o.length ∧ Ex G1 G' ∧ Grow G H G' H' ∧ G' p = none ∧ H' p = some (.lst vs) ∧ IsL G' vs ((MH.incompatible (o.take i) t).map encP))
    (fun G1 H1 g1 => ⟨none, none, [], G1, rfl, Nat.zero_le _, Ex.refl _, ga.trans g1, g1.out (e.nope hp) upd_same, g1.up _ _ upd_same, .nil⟩) (fun G1 i σ H' ⟨_, _, _, _, _, _, e1, g, _⟩ => e1.trans g.sub) ?_ ?_
  · rintro G1 i d v σ H' e1 hd1 hv1 ⟨u, w, vs, G', rfl, hi, e2, g, out, hp', hvs⟩
    obtain ⟨a, hx, rfl⟩ := map_get hd1
    have hil : i < o.length := (List.getElem?_eq_some_iff.mp hx).1
    refine g_two (e2.trans g.sub) hv1 fun p1 q1 hp1 hq1 => ?_
    have hb := inc_bound o t i hi
    have hstep : MH.incompatible (o.take (i + 1)) t = MH.incStep t (MH.incompatible (o.take i) t) a := by rw [take_snoc hx, inc_snoc]
    generalize hls : MH.incompatible (o.take i) t = ls at hvs hb hstep
    have eP : Ex (upd G' p (.lst vs)) H' := fun b o q => by
      by_cases c : b = p
      · subst c
        rw [upd_same] at q
        cases q
        exact hp'
      · rw [upd_ne c] at q
        exact g.sub b o q
    have eG : Ex G' (upd G' p (.lst vs)) := (Ex.refl G').put out
    have isP : Is (upd G' p (.lst vs)) (.ref p) (encO ls) := .lst upd_same (hvs.up eG)
    have pr : Ev (tTup (tCons (tVar 3) (tCons (tVar 4) tNil))) [some x, some y, some (.ref p), some p1, some q1] G' H' (encP a) := ev_pair (ev_var rfl (hp1.up e2)) (ev_var rfl (hq1.up e2))
    have app : ∀ H2, Grow G' H' G' H2 → MH.incStep t ls a = ls ++ [a] → tDrop (tBM K "list" rAppend (tVar 2) (tCons (tTup (tCons (tVar 3) (tCons (tVar 4) tNil))) tNil)) { DD Q with nx := fun σ H' => ∃ u w vs G', σ = [some x, some y, some (.ref p), u, w] ∧ i + 1 ≤ o.length ∧ Ex G1 G' ∧ Grow G H G' H' ∧ G' p = none ∧ H' p = some (.lst vs) ∧ IsL G' vs ((MH.incompatible (o.take (i + 1)) t).map encP), ct := fun σ H' => ∃ u w vs G', σ = [some x, some y, some (.ref p), u, w] ∧ i + 1 ≤ o.length ∧ Ex G1 G' ∧ Grow G H G' H' ∧ G' p = none ∧ H' p = some (.lst vs) ∧ IsL G' vs ((MH.incompatible (o.take (i + 1)) t).map encP), bk := tRet (tVar 2) (DD Q) } [some x, some y, some (.ref p), some p1, some q1] H2 := fun H2 g2 hst => by
      refine s_app g2.sub rfl (g2.up _ _ hp') (by rw [hvs.len, List.length_map]; omega) (pr.mono (Ex.refl _) g2.up) fun w2 G3 H3 g3 hw2 => ⟨_, _, _, G3, rfl, hil, e2.trans g3.base, ((g.trans g2).trans g3).write hp (g3.out out (g2.up _ _ hp')), g3.out out (g2.up _ _ hp'), upd_same, ?_⟩
      rw [hstep, hst, List.map_append]
      exact (hvs.up g3.base).app (IsL.one hw2)
    by_cases hne : ls = []
    · subst hne
      have cnd : EvB (tOr (tTest (tOp (rEqD K) (tVar 2) (tLst tNil))) (tNot (tB (tCall (sp_are_alike) [] E0 (tCons (tVar 4) (tCons (tOp (rIxT K) (tOp (rIxL K) (tVar 2) (tUn rNeg (tC (.int 1)))) (tC (.int 1))) (tCons (tVar 1) tNil)))))))
          [some x, some y, some (.ref p), some p1, some q1] G' H' (true || true) :=
        EvB.at eP (eb_or (eb_test (ev_eqNil (ev_var rfl isP) (shp_O []) (by decide))) fun c => absurd c (by decide))
      exact s_when g.sub cnd (fun _ H2 g2 => app H2 g2 rfl) (fun c => absurd c (by decide))
    · obtain ⟨ls, l, rfl⟩ := snoc_of hne
      rw [incStep_snoc] at hstep
      have hlast : Ev (tOp (rIxL K) (tVar 2) (tUn rNeg (tC (.int 1)))) [some x, some y, some (.ref p), some p1, some q1] G' H' (encP l) := ev_lastOwn rfl hp' hvs
      have cnd : EvB (tOr (tTest (tOp (rEqD K) (tVar 2) (tLst tNil))) (tNot (tB (tCall (sp_are_alike) [] E0 (tCons (tVar 4) (tCons (tOp (rIxT K) (tOp (rIxL K) (tVar 2) (tUn rNeg (tC (.int 1)))) (tC (.int 1))) (tCons (tVar 1) tNil)))))))
          [some x, some y, some (.ref p), some p1, some q1] G' H' (!MH.alike a.2 l.2 t) := by
        have c1 : EvB (tTest (tOp (rEqD K) (tVar 2) (tLst tNil))) [some x, some y, some (.ref p), some p1, some q1] G' H' false :=
          EvB.at eP ((eb_test (ev_eqNil (ev_var rfl isP) (shp_O _) (by decide))).is (by simp))
        exact (eb_or c1 fun _ => eb_not (eb_B (ev_call (ea_cons (ev_var rfl (hq1.up e2)) (ea_cons (ev_hide hlast) (ea_one (ev_var rfl (h2.up g.base))))) ⟨_, _, _, rfl, rfl⟩))).is (by rw [Bool.false_or])
      refine s_when g.sub cnd (fun c H2 g2 => app H2 g2 ?_) (fun c H2 g2 => ?_)
      · rw [incStep_snoc, if_neg (by simpa using c)]
      · rw [if_pos (by simpa using c)] at hstep
        refine ⟨_, _, vs, G', rfl, hil, e2, g.trans g2, out, g2.up _ _ hp', ?_⟩
        rw [hstep]
        exact hvs
  · rintro G1 σ H' e1 ⟨u, w, vs, G', rfl, hi, e2, g, out, hp', hvs⟩
    rw [List.length_map, List.take_length] at hvs
    refine ⟨.ref p, rfl, k _ _ _ (g.publish hp out hp') (.lst upd_same (hvs.up ((Ex.refl G').put out)))⟩
theorem sum_cast {α : Type} (f : α → Nat) : ∀ l : List α, (l.map fun x => (f x : Int)).sum = (((l.map f).sum : Nat) : Int)
  | [] => rfl
  | a :: l => by
    rw [List.map_cons, List.map_cons, List.sum_cons, List.sum_cons, sum_cast f l]
    omega
theorem pure_area_of (vs : List V) (H : Hp) (Q : VK) (E : XK) (h : sp_area_of vs H Q E) : t_area_of K C (DD Q) (start N_area_of vs) H := by
  obtain ⟨G, ds, d, e, hv, _, ⟨o, rfl, hl, rfl⟩, k⟩ := h
  obtain ⟨x, rfl, h1⟩ := isL1 hv
  have c : Ev (tLc (iList K (tVar 0)) (gTup K 2 (gCons (gName 2) (gCons (gName 1) gNil))) tYes (tOp (rIxT K) (tVar 1) (tC (.int 2))) [2, 1]) (start N_area_of [x]) G H (.list ((o.map fun y => (y.2.area : Int)).map PyData.int)) :=
    (ev_lc (fun _ => true) (fun y => PyData.int (y.2.area : Int)) (ev_var rfl h1) (by omega) fun G1 i y v H1 Q' e1 e2 hx hv1 kk => g_two e2 hv1 fun a b ha hb => kk _ rfl eb_yes fun _ => ev_area (ev_var rfl hb)).is (by rw [filter_yes, List.map_map]; rfl)
  refine s_ret e (ev_sum c) (k.is ?_)
  rw [sum_cast (fun y : Itm => y.2.area)]
  rfl
theorem pure_numbers_of (vs : List V) (H : Hp) (Q : VK) (E : XK) (h : sp_numbers_of vs H Q E) : t_numbers_of K C (DD Q) (start N_numbers_of vs) H := by
  obtain ⟨G, ds, d, e, hv, _, ⟨o, rfl, hl, rfl⟩, k⟩ := h
  obtain ⟨x, rfl, h1⟩ := isL1 hv
  refine s_ret e (ev_lc (fun _ => true) (fun y => PyData.int (y.1 : Int)) (ev_var rfl h1) (by omega) fun G1 i y v H1 Q' e1 e2 hx hv1 kk => g_two e2 hv1 fun a b ha hb => kk _ rfl eb_yes fun _ => ev_var rfl ha) (k.is ?_)
  unfold MH.nums
  rw [filter_yes, encI, List.map_map]
  rfl
theorem pure_count_greater (vs : List V) (H : Hp) (Q : VK) (E : XK) (h : sp_count_greater vs H Q E) : t_count_greater K C (DD Q) (start N_count_greater vs) H := by
  obtain ⟨G, ds, d, e, hv, _, ⟨o, p, rfl, hp, hl, rfl⟩, k⟩ := h
  obtain ⟨x, y, rfl, h1, h2⟩ := isL2 hv
  obtain rfl := is_int h2
  refine q_set e (ev_area (ev_hide (ev_atD (d := noIt) (ev_var rfl h1) (ev_var rfl h2) hp))) fun v1 G1 H1 g1 hv1 => ?_
  obtain rfl := is_int hv1
  refine q_set g1.sub ev_int fun v2 G2 H2 g2 hv2 => ?_
  obtain rfl := is_int hv2
  have g := g1.trans g2
  refine q_forR (n := o.length) g.sub (ea_one (ev_lenM (ev_var rfl (h1.up g.base)))) (by omega) (fun i σ H' => ∃ u w G', σ = [some x, some (.int (p : Int)), some (.int ((o.getD p noIt).2.area : Int)), some (.int ((((List.range i).filter (MH.before o p)).length : Nat) : Int)), u, w] ∧ Grow G H G' H') (fun H3 g3 => ⟨none, none, _, rfl, g.trans g3⟩) ?_ ?_
  · rintro i σ H' hi ⟨u, w, G', rfl, g⟩
    refine q_set g.sub (ev_area (ev_hide (ev_atD (d := noIt) (ev_var rfl (h1.up g.base)) (ev_var rfl (.int _)) hi))) fun v3 G3 H3 g3 hv3 => ?_
    obtain rfl := is_int hv3
    have e1 : ((List.range (i + 1)).filter (MH.before o p)).length = if MH.before o p i = true then ((List.range i).filter (MH.before o p)).length + 1 else ((List.range i).filter (MH.before o p)).length := by
      rw [List.range_succ, List.filter_append, List.length_append, List.filter_cons, List.filter_nil]
      split <;> rfl
    have cnd : EvB (tOr (tTest (tOp rGt (tVar 5) (tVar 2))) (tAnd (tTest (tOp rEq (tVar 5) (tVar 2))) (tTest (tOp rLt (tVar 4) (tVar 1)))))
        [some x, some (.int (p : Int)), some (.int ((o.getD p noIt).2.area : Int)), some (.int ((((List.range i).filter (MH.before o p)).length : Nat) : Int)), some (.int (i : Int)), some (.int ((o.getD i noIt).2.area : Int))] G3 H3 (MH.before o p i) :=
      (eb_or (eb_test (ev_gt (ev_var rfl (.int _)) (ev_var rfl (.int _)))) fun _ => eb_and (eb_test (ev_eq (ev_var rfl (.int _)) (ev_var rfl (.int _)))) fun _ => eb_test (ev_lt (ev_var rfl (.int _)) (ev_var rfl (.int _)))).is (by
        unfold MH.before
        rw [Bool.eq_iff_iff]
        simp
        omega)
    refine s_when g3.sub cnd (fun c H4 g4 => ?_) (fun c H4 g4 => ?_)
    · refine s_aug g4.sub rfl ev_int fun H5 g5 => ⟨some (.int (i : Int)), some (.int ((o.getD i noIt).2.area : Int)), G3, ?_, ((g.trans g3).trans g4).trans g5⟩
      rw [e1, if_pos c]
      rfl
    · refine ⟨some (.int (i : Int)), some (.int ((o.getD i noIt).2.area : Int)), G3, ?_, (g.trans g3).trans g4⟩
      rw [e1, if_neg (by rw [c]; decide)]
      rfl
  · rintro σ H' ⟨u, w, G', rfl, g⟩
    exact s_ret g.sub (ev_var rfl (.int _)) (k.go g)
theorem pure_largest_part (vs : List V) (H : Hp) (Q : VK) (E : XK) (h : sp_largest_part vs H Q E) : t_largest_part K C (DD Q) (start N_largest_part vs) H := by
  obtain ⟨G, ds, d, e, hv, _, ⟨o, s, rfl, hl, rfl⟩, k⟩ := h
  obtain ⟨x, y, rfl, h1, h2⟩ := isL2 hv
  refine s_ret e (ev_lcR (n := o.length) (fun p => decide (MH.rank o p < s)) (fun p => encP (o.getD p noIt)) (ea_one (ev_lenM (ev_var rfl h1))) (by omega) (fun i => rfl)
    (fun G1 i e1 hi => (eb_test (ev_lt (ev_call (ea_two (ev_var rfl (h1.up e1)) (ev_var rfl (.int _))) ⟨o, i, rfl, hi, hl, rfl⟩) (ev_var rfl (h2.up e1)))).is (by simp)) (fun G1 i e1 hi _ => ev_atD (d := noIt) (ev_var rfl (h1.up e1)) (ev_var rfl (.int _)) hi)) (k.is ?_)
  unfold MH.largestPart
  rw [encO, List.map_map]
  rfl
theorem pure_without (vs : List V) (H : Hp) (Q : VK) (E : XK) (h : sp_without vs H Q E) : t_without K C (DD Q) (start N_without vs) H := by
  obtain ⟨G, ds, d, e, hv, _, ⟨o, p, rfl, hl, rfl⟩, k⟩ := h
  obtain ⟨x, y, rfl, h1, h2⟩ := isL2 hv
  refine s_ret e (ev_catM (ev_take (ev_var rfl h1) (ev_var rfl h2)) (ev_drop (n := p + 1) (ev_var rfl h1) (ev_add (ev_var rfl h2) ev_int)) ?_) k
  rw [List.length_take, List.length_drop]
  omega
theorem pure_are_limits (vs : List V) (H : Hp) (Q : VK) (E : XK) (h : sp_are_limits vs H Q E) : t_are_limits K C (DD Q) (start N_are_limits vs) H := by
  obtain ⟨G, ds, d, e, hv, _, ⟨t, s, rfl, rfl⟩, k⟩ := h
  obtain ⟨x, y, rfl, h1, h2⟩ := isL2 hv
  refine s_ret e (ev_andV (ev_le (ev_var rfl h1) ev_int) fun _ => ev_chain (f := fun i j => decide (i ≤ j)) (g := fun i j => decide (i ≤ j)) ev_int (ev_var rfl h2) ev_int) (k.is ?_)
  congr 1
  unfold Kp394.validLimits Kp394.maxHides
  rw [Bool.eq_iff_iff]
  simp only [Bool.and_eq_true, decide_eq_true_eq]
  omega
theorem pure_is_hide (vs : List V) (H : Hp) (Q : VK) (E : XK) (h : sp_is_hide vs H Q E) : t_is_hide K C (DD Q) (start N_is_hide vs) H := by
  obtain ⟨G, ds, d, e, hv, _, ⟨kd, t, a, rfl, rfl⟩, k⟩ := h
  obtain ⟨x, y, z, rfl, h1, h2, h3⟩ := isL3 hv
  refine s_ret e (ev_andV (ev_le (ev_var rfl h1) ev_int) fun _ => ev_andV (ev_chain (f := fun i j => decide (i ≤ j)) (g := fun i j => decide (i ≤ j)) ev_int (ev_var rfl h2) ev_int) fun _ => ev_chain (f := fun i j => decide (i ≤ j)) (g := fun i j => decide (i ≤ j)) ev_int (ev_var rfl h3) ev_int) (k.is ?_)
  congr 1
  unfold Kp394.validHide
  rw [Bool.eq_iff_iff]
  simp only [Bool.and_eq_true, decide_eq_true_eq]
  omega
theorem pure_exists (T : Cl K C) (vs : List V) (H : Hp) (Q : VK) (E : XK) (h : sp_exists C vs H Q E) : t_exists K C (DD Q) (start N_exists vs) H := by
  obtain ⟨G, a, v, ws, ds, d, rfl, e, hva, hv, _, ⟨i, rfl, rfl⟩, k⟩ := h
  obtain ⟨x, rfl, h1⟩ := isL1 hv
  refine s_ret e (ev_lt (ev_var rfl h1) (ev_lenM (ev_hides T rfl hva))) (k.is ?_)
  congr 1
  rw [Bool.eq_iff_iff]
  simp
theorem pure_order_of (T : Cl K C) (vs : List V) (H : Hp) (Q : VK) (E : XK) (h : sp_order_of C vs H Q E) : t_order_of K C (DD Q) (start N_order_of vs) H := by
  obtain ⟨G, a, v, ws, ds, d, rfl, e, hva, hv, _, ⟨rfl, hl, rfl⟩, k⟩ := h
  obtain rfl := isL0 hv
  exact s_ret e (ev_call (ea_one (ev_hides T rfl hva)) ⟨v.hides, rfl, hl, rfl⟩) k
theorem pure_difference_of (vs : List V) (H : Hp) (Q : VK) (E : XK) (h : sp_difference_of vs H Q E) : t_difference_of K C (DD Q) (start N_difference_of vs) H := by
  obtain ⟨G, ds, d, e, hv, _, ⟨o, rfl, hev, hl, rfl⟩, k⟩ := h
  obtain ⟨x, rfl, h1⟩ := isL1 hv
  have hm : o.length = 2 * (o.length / 2) := by omega
  refine q_set e ev_int fun v1 G1 H1 g1 hv1 => ?_
  obtain rfl := is_int hv1
  refine q_forR3 (m := o.length / 2) g1.sub (ea_cons ev_int (ea_two ((ev_lenM (ev_var rfl (h1.up g1.base))).is (by rw [← hm])) ev_int)) (by omega) (fun i σ H' => ∃ u G', σ = [some x, some (.int (MH.diffN o i)), u] ∧ Grow G H G' H') (fun H3 g3 => ⟨none, _, rfl, g1.trans g3⟩) ?_ ?_
  · rintro i σ H' hi ⟨u, G', rfl, g⟩
    have a1 : Ev (tOp (rIxT K) (tOp (rIxT K) (tOp (rIxL K) (tVar 0) (tOp rAddI (tVar 2) (tC (.int 1)))) (tC (.int 1))) (tC (.int 1))) [some x, some (.int (MH.diffN o i)), some (.int ((2 * i : Nat) : Int))] G' H' (.int (MH.thick o (2 * i + 1))) :=
      ev_thick (ev_hide (ev_atD (i := 2 * i + 1) (d := noIt) (ev_var rfl (h1.up g.base)) ((ev_add (i := ((2 * i : Nat) : Int)) (j := 1) (ev_var rfl (.int _)) ev_int).is (congrArg PyData.int (by omega))) (by omega)))
    have a2 : Ev (tOp (rIxT K) (tOp (rIxT K) (tOp (rIxL K) (tVar 0) (tVar 2)) (tC (.int 1))) (tC (.int 1))) [some x, some (.int (MH.diffN o i)), some (.int ((2 * i : Nat) : Int))] G' H' (.int (MH.thick o (2 * i))) :=
      ev_thick (ev_hide (ev_atD (i := 2 * i) (d := noIt) (ev_var rfl (h1.up g.base)) (ev_var rfl (.int _)) (by omega)))
    exact s_aug g.sub rfl (ev_sub a1 a2) fun H4 g4 => ⟨_, G', rfl, g.trans g4⟩
  · rintro σ H' ⟨u, G', rfl, g⟩
    exact s_ret g.sub (ev_var rfl (.int _)) (k.go g)
theorem without_len {o : List Itm} {p : Nat} (h : p < o.length) : (MH.without o p).length = o.length - 1 := by
  unfold MH.without
  rw [List.length_append, List.length_take, List.length_drop]
  omega
theorem pure_left_place (vs : List V) (H : Hp) (Q : VK) (E : XK) (h : sp_left_place vs H Q E) : t_left_place K C (DD Q) (start N_left_place vs) H := by
  obtain ⟨G, ds, d, e, hv, _, ⟨o, rfl, hod, hl, rfl⟩, k⟩ := h
  obtain ⟨x, rfl, h1⟩ := isL1 hv
  refine q_set e ev_int fun v1 G1 H1 g1 hv1 => ?_
  obtain rfl := is_int hv1
  refine q_forR2 (a := 1) (n := o.length) g1.sub (ea_two ev_int (ev_lenM (ev_var rfl (h1.up g1.base)))) (by omega) (by omega) (fun i σ H' => ∃ (u : Option V) (G' : Hp) (b : Nat), σ = [some x, some (.int (b : Int)), u] ∧ b < o.length ∧ b = (List.range i).foldl (fun best p => MH.leftStep o best (p + 1)) 0 ∧ Grow G H G' H') (fun H3 g3 => ⟨none, _, 0, rfl, by omega, rfl, g1.trans g3⟩) ?_ ?_
  · rintro i σ H' hi ⟨u, G', b, rfl, hb, eb, g⟩
    have df : ∀ (sl p : Nat) (σ : L2.St), σ[0]? = some (some x) → σ[sl]? = some (some (.int (p : Int))) → p < o.length → Ev (tCall (sp_difference_of) [] E0 (tCons (tCall (sp_without) [] E0 (tCons (tVar 0) (tCons (tVar sl) tNil))) tNil)) σ G' H' (.int (MH.diff (MH.without o p))) := fun sl p σ q1 q2 hp =>
      ev_call (ea_one (ev_call (ea_two (ev_var q1 (h1.up g.base)) (ev_var q2 (.int _))) ⟨o, p, rfl, hl, rfl⟩)) ⟨_, rfl, by rw [without_len hp]; omega, by rw [without_len hp]; omega, rfl⟩
    have en : (List.range (i + 1)).foldl (fun best p => MH.leftStep o best (p + 1)) 0 = MH.leftStep o b (i + 1) := by
      rw [List.range_succ, List.foldl_append, ← eb]
      rfl
    have ei : 1 + i = i + 1 := by omega
    refine s_when g.sub (eb_test (ev_lt (df 2 (1 + i) _ rfl rfl (by omega)) (df 1 b _ rfl rfl hb))) (fun c H2 g2 => ?_) (fun c H2 g2 => ?_)
    · refine s_set g2.sub (ev_var rfl (.int _)) fun v3 G3 H3 g3 hv3 => ?_
      obtain rfl := is_int hv3
      refine ⟨_, G3, 1 + i, rfl, by omega, ?_, (g.trans g2).trans g3⟩
      rw [en]
      unfold MH.leftStep
      rw [if_pos (by rw [← ei]; simpa using c), ei]
    · refine ⟨_, G', b, rfl, hb, ?_, g.trans g2⟩
      rw [en]
      unfold MH.leftStep
      rw [if_neg (by rw [← ei]; simpa using c)]
  · rintro σ H' ⟨u, G', b, rfl, hb, eb, g⟩
    refine s_ret g.sub (ev_var rfl (.int _)) ((k.go g).is ?_)
    rw [eb]
    rfl
theorem pure_best_pairs_of (vs : List V) (H : Hp) (Q : VK) (E : XK) (h : sp_best_pairs_of vs H Q E) : t_best_pairs_of K C (DD Q) (start N_best_pairs_of vs) H := by
  obtain ⟨G, ds, d, e, hv, _, ⟨o, kd, rfl, hl, rfl⟩, k⟩ := h
  obtain ⟨x, y, rfl, h1, h2⟩ := isL2 hv
  have hf : (MH.ofKind o kd).length ≤ o.length := List.length_filter_le _ _
  refine q_set e (ev_lc (fun a => decide (a.2.kind = kd)) encP (ev_var rfl h1) (by omega) fun G1 i a v H1 Q' e1 e2 hx hv1 kk => g_two e2 hv1 fun p q hp hq => kk _ rfl ((eb_test (ev_eq (ev_kind (ev_var rfl hq)) (ev_var rfl (h2.up e1)))).is (by rw [Bool.eq_iff_iff]; simp; omega)) fun _ => ev_pair (ev_var rfl hp) (ev_var rfl hq)) fun v1 G1 H1 g1 hv1 => ?_
  have hv1 : Is G1 v1 (encO (MH.ofKind o kd)) := hv1
  refine q_when g1.sub (eb_test (ev_eq (ev_mod (ev_lenM (ev_var rfl hv1)) ev_int (by decide)) ev_int)) (fun c H2 g2 => ?_) (fun c H2 g2 => ?_)
  · refine s_ret g2.sub (ev_tup (ea_two (ev_var rfl hv1) (ev_lst (ds := []) ea_nil (Nat.zero_le _))) (by show 2 ≤ 100000; decide)) ((k.go (g1.trans g2)).is ?_)
    have c' : (MH.ofKind o kd).length % 2 = 0 := by
      have := of_decide_eq_true c
      omega
    unfold MH.bestPairsOf
    rw [if_pos c']
    rfl
  · have c' : ¬ (MH.ofKind o kd).length % 2 = 0 := by
      have := of_decide_eq_false c
      omega
    have hlp : MH.leftPlace (MH.ofKind o kd) < (MH.ofKind o kd).length := by
      have : ∀ i, i < (MH.ofKind o kd).length → (List.range i).foldl (fun best p => MH.leftStep (MH.ofKind o kd) best (p + 1)) 0 < (MH.ofKind o kd).length := by
        intro i
        induction i with
        | zero => intro h; exact h
        | succ i ih =>
          intro h
          rw [List.range_succ, List.foldl_append]
          show MH.leftStep _ _ (i + 1) < _
          unfold MH.leftStep
          split
          · exact h
          · exact ih (by omega)
      exact this ((MH.ofKind o kd).length - 1) (by omega)
    refine q_set g2.sub (ev_call (ea_one (ev_var rfl hv1)) ⟨_, rfl, by omega, by omega, rfl⟩) fun v3 G3 H3 g3 hv3 => ?_
    refine s_ret g3.sub (ev_tup (ea_two (ev_call (ea_two (ev_var rfl (hv1.up g3.base)) (ev_var rfl hv3)) ⟨_, _, rfl, by omega, rfl⟩) (ev_one (f := encP) (ev_atD (d := noIt) (ev_var rfl (hv1.up g3.base)) (ev_var rfl hv3) hlp))) (by show 2 ≤ 100000; decide)) ((k.go ((g1.trans g2).trans g3)).is ?_)
    unfold MH.bestPairsOf
    rw [if_neg c']
end DT
namespace DT
open PySem PySem.Spec PyProof.Rows L2
open Kp394 (Hide Inventory)
open MH (Itm noIt noHide)
variable {K : PySem.W.Frag} {C : Addr}

theorem ev_add1 {σ : L2.St} {G A : Hp} {te : TE} {n : Nat} (h : Ev te σ G A (.int (n : Int))) : Ev (tOp rAddI te (tC (.int 1))) σ G A (.int ((n + 1 : Nat) : Int)) := (ev_add h ev_int).is (congrArg PyData.int (by omega))
/-! ### the runs, the largest lot -/
def runsPart (o : List Itm) (t f j : Nat) : List (List Itm) := (List.range f).flatMap (MH.runsAt o t) ++ ((List.range j).map fun n => (o.drop f).take (n + 1)).filter (MH.allFit · t)
theorem runsPart_zero (o : List Itm) (t f : Nat) : runsPart o t f 0 = (List.range f).flatMap (MH.runsAt o t) := by
  unfold runsPart
  simp
theorem runsPart_end (o : List Itm) (t f : Nat) : runsPart o t f (o.length - f) = (List.range (f + 1)).flatMap (MH.runsAt o t) := by
  unfold runsPart
  rw [List.range_succ, List.flatMap_append]
  simp [MH.runsAt]
theorem runsPart_succ (o : List Itm) (t f j : Nat) : runsPart o t f (j + 1) = if MH.allFit ((o.drop f).take (j + 1)) t = true then runsPart o t f j ++ [(o.drop f).take (j + 1)] else runsPart o t f j := by
  unfold runsPart
  rw [List.range_succ, List.map_append, List.filter_append, List.map_singleton, List.filter_cons, List.filter_nil]
  split
  · rw [List.append_assoc]
  · rw [List.append_nil]
theorem runsFrom_len (o : List Itm) (t : Nat) : ∀ f, ((List.range f).flatMap (MH.runsAt o t)).length ≤ f * o.length
  | 0 => by simp
  | f + 1 => by
    rw [List.range_succ, List.flatMap_append, List.length_append]
    have ih := runsFrom_len o t f
    have h1 : ([f].flatMap (MH.runsAt o t)).length ≤ o.length := by
      rw [List.flatMap_singleton]
      unfold MH.runsAt
      refine Nat.le_trans (List.length_filter_le _ _) ?_
      rw [List.length_map, List.length_range]
      omega
    rw [Nat.add_mul, Nat.one_mul]
    omega
theorem runsPart_len (o : List Itm) (t f j : Nat) : (runsPart o t f j).length ≤ f * o.length + j := by
  unfold runsPart
  rw [List.length_append]
  have h1 := runsFrom_len o t f
  have h2 := List.length_filter_le (MH.allFit · t) ((List.range j).map fun n => (o.drop f).take (n + 1))
  rw [List.length_map, List.length_range] at h2
  omega
theorem pure_runs_of (vs : List V) (H : Hp) (Q : VK) (E : XK) (h : sp_runs_of vs H Q E) : t_runs_of K C (DD Q) (start N_runs_of vs) H := by
  obtain ⟨G, ds, d, e, hv, _, ⟨o, t, rfl, hl, rfl⟩, k⟩ := h
  obtain ⟨x, y, rfl, h1, h2⟩ := isL2 hv
  refine q_own fun p hp => ?_
  have ga : Grow G H G (upd H p (.lst [])) := Grow.aside e hp
  refine q_forR (n := o.length) ga.sub (ea_one (ev_lenM (ev_var rfl h1))) (by omega) (fun i σ H' => ∃ u w vs G', σ = [some x, some y, some (.ref p), u, w] ∧ Grow G H G' H' ∧ G' p = none ∧ H' p = some (.lst vs) ∧ IsL G' vs ((runsPart o t i 0).map encO))
    (fun H1 g1 => ⟨none, none, [], G, rfl, ga.trans g1, e.nope hp, g1.up _ _ upd_same, by rw [runsPart_zero]; exact .nil⟩) ?_ ?_
  · rintro f σ H' hf ⟨u, w, vs, G', rfl, g, out, hp', hvs⟩
    refine s_forR2 (a := f + 1) (n := o.length + 1) g.sub (ea_two (ev_add1 (ev_var rfl (.int _))) (ev_add1 (ev_lenM (ev_var rfl (h1.up g.base))))) (by omega) (by omega)
      (fun j σ H' => ∃ w vs G', σ = [some x, some y, some (.ref p), some (.int (f : Int)), w] ∧ Grow G H G' H' ∧ G' p = none ∧ H' p = some (.lst vs) ∧ IsL G' vs ((runsPart o t f j).map encO))
      (fun H1 g1 => ⟨w, vs, G', rfl, g.trans g1, out, g1.up _ _ hp', hvs⟩) ?_ ?_
    · rintro j σ H1 hj ⟨w, vs, G', rfl, g, out, hp', hvs⟩
      have sl : ∀ (G2 A2 : Hp), Ex G' G2 → Ev (tSl (rSlL K) (tVar 0) (tPart (tVar 3)) (tPart (tVar 4))) [some x, some y, some (.ref p), some (.int (f : Int)), some (.int ((f + 1 + j : Nat) : Int))] G2 A2 (encO ((o.drop f).take (j + 1))) := fun G2 A2 a => by
        have q := ev_mid (K := K) (A := A2) (n := f) (m := f + 1 + j) (xs := o) (f := encP) (ta := tVar 3) (tb := tVar 4) (te := tVar 0) (σ := [some x, some y, some (.ref p), some (.int (f : Int)), some (.int ((f + 1 + j : Nat) : Int))]) (ev_var rfl ((h1.up g.base).up a)) (ev_var rfl (.int _)) (ev_var rfl (.int _)) (by omega)
        have ej : f + 1 + j - f = j + 1 := by omega
        rw [ej] at q
        exact q
      have hlen : ((o.drop f).take (j + 1)).length ≤ 1000 := by
        rw [List.length_take, List.length_drop]
        omega
      refine s_when g.sub (eb_B (ev_call (ea_two (sl _ _ (Ex.refl _)) (ev_var rfl (h2.up g.base))) ⟨_, _, rfl, hlen, rfl⟩)) (fun c H2 g2 => ?_) (fun c H2 g2 => ?_)
      · refine s_app g2.sub rfl (g2.up _ _ hp') ?_ (sl _ _ (Ex.refl _)) fun w2 G3 H3 g3 hw2 => ⟨_, _, G3, rfl, ((g.trans g2).trans g3).write hp (g3.out out (g2.up _ _ hp')), g3.out out (g2.up _ _ hp'), upd_same, ?_⟩
        · rw [hvs.len, List.length_map]
          have := runsPart_len o t f j
          have h5 : f * o.length ≤ 100 * 100 := Nat.mul_le_mul (by omega) hl
          omega
        · rw [runsPart_succ, if_pos c, List.map_append]
          exact (hvs.up g3.base).app (IsL.one hw2)
      · refine ⟨_, vs, G', rfl, g.trans g2, out, g2.up _ _ hp', ?_⟩
        rw [runsPart_succ, if_neg (by rw [c]; decide)]
        exact hvs
    · rintro σ H1 ⟨w, vs, G', rfl, g, out, hp', hvs⟩
      refine ⟨_, w, vs, G', rfl, g, out, hp', ?_⟩
      have ej : o.length + 1 - (f + 1) = o.length - f := by omega
      rw [ej, runsPart_end] at hvs
      rw [runsPart_zero]
      exact hvs
  · rintro σ H' ⟨u, w, vs, G', rfl, g, out, hp', hvs⟩
    rw [runsPart_zero] at hvs
    exact ⟨.ref p, rfl, k _ _ _ (g.publish hp out hp') (.lst upd_same (hvs.up ((Ex.refl G').put out)))⟩
theorem runs_short {o : List Itm} {t : Nat} {r : List Itm} (h : r ∈ MH.runsOf o t) : r.length ≤ o.length := by
  unfold MH.runsOf at h
  obtain ⟨f, _, hr⟩ := List.mem_flatMap.mp h
  unfold MH.runsAt at hr
  obtain ⟨n, _, rfl⟩ := List.mem_map.mp (List.mem_filter.mp hr).1
  rw [List.length_take, List.length_drop]
  omega
theorem part_len (r : List Itm) (s : Nat) : (MH.largestPart r s).length ≤ r.length := by
  unfold MH.largestPart
  rw [List.length_map]
  refine Nat.le_trans (List.length_filter_le _ _) ?_
  rw [List.length_range]
  exact Nat.le_refl _
theorem pure_largest (vs : List V) (H : Hp) (Q : VK) (E : XK) (h : sp_largest vs H Q E) : t_largest K C (DD Q) (start N_largest vs) H := by
  obtain ⟨G, ds, d, e, hv, _, ⟨o, t, s, rfl, hl, rfl⟩, k⟩ := h
  obtain ⟨x, y, z, rfl, h1, h2, h3⟩ := isL3 hv
  refine q_set e (ev_lst (ds := []) ea_nil (Nat.zero_le _)) fun f0 G2 H2 g2 hf0 => ?_
  refine q_for g2.sub (ev_call (ea_two (ev_var rfl (h1.up g2.base)) (ev_var rfl (h2.up g2.base))) ⟨o, t, rfl, hl, rfl⟩) (fun G1 i σ H' => ∃ u w b best G', σ = [some x, some y, some z, some b, u, w] ∧ best = ((MH.runsOf o t).take i).foldl (MH.largeStep s) [] ∧ best.length ≤ o.length ∧ Ex G1 G' ∧ Grow G H G' H' ∧ Is G' b (encO best))
    (fun G1 H1 g1 => ⟨none, none, f0, [], G1, rfl, rfl, Nat.zero_le _, Ex.refl _, g2.trans g1, hf0.up g1.base⟩) (fun G1 i σ H' ⟨_, _, _, _, _, _, _, _, e1, g, _⟩ => e1.trans g.sub) ?_ ?_
  · rintro G1 i d v σ H' e1 hd1 hv1 ⟨u, w, b, best, G', rfl, eb, hb, e2, g, hbs⟩
    obtain ⟨r, hx, rfl⟩ := map_get hd1
    have hr := runs_short (List.mem_of_getElem? hx)
    have hpl := part_len r s
    have en : ((MH.runsOf o t).take (i + 1)).foldl (MH.largeStep s) [] = MH.largeStep s best r := by
      rw [take_snoc hx, List.foldl_append, ← eb]
      rfl
    refine q_set (e2.trans g.sub |> fun _ => g.sub) (ev_call (ea_two (ev_var rfl (hv1.up e2)) (ev_var rfl (h3.up g.base))) ⟨r, s, rfl, by omega, rfl⟩) fun v3 G3 H3 g3 hv3 => ?_
    refine s_when g3.sub (eb_test (ev_gt (ev_call (ea_one (ev_var rfl hv3)) ⟨_, rfl, by omega, rfl⟩) (ev_call (ea_one (ev_var rfl (hbs.up g3.base))) ⟨_, rfl, by omega, rfl⟩))) (fun c H4 g4 => ?_) (fun c H4 g4 => ?_)
    · refine s_set g4.sub (ev_var rfl hv3) fun v5 G5 H5 g5 hv5 => ⟨_, _, v5, MH.largestPart r s, G5, rfl, ?_, by omega, (e2.trans g3.base).trans g5.base, ((g.trans g3).trans g4).trans g5, hv5⟩
      rw [en]
      unfold MH.largeStep
      rw [if_pos (by simpa using c)]
    · refine ⟨_, _, b, best, G3, rfl, ?_, hb, e2.trans g3.base, (g.trans g3).trans g4, hbs.up g3.base⟩
      rw [en]
      unfold MH.largeStep
      rw [if_neg (by simpa using c)]
  · rintro G1 σ H' e1 ⟨u, w, b, best, G', rfl, eb, hb, e2, g, hbs⟩
    refine s_ret g.sub (ev_var rfl hbs) ((k.go g).is ?_)
    rw [eb, List.length_map, List.take_length]
    rfl
end DT
namespace DT
open PySem PySem.Spec PyProof.Rows L2
open Kp394 (Hide Inventory hideAt)
open MH (Itm noIt noHide)
section
variable {K : PySem.W.Frag} {σ : L2.St} {G A H : Hp} {ta tb te : TE} {D : Ends} {tz : TS} {d1 d2 d3 : PyData}
theorem q_asg2 {i j : Nat} (e : Ex G H) (h : Ev te σ G H (.tuple [d1, d2])) (k : ∀ G2 H2 x y, Grow G H G2 H2 → Is G2 x d1 → Is G2 y d2 → tz D ((σ.set i (some x)).set j (some y)) H2) : tSeq (tAsg te (gTup K 2 (gCons (gName i) (gCons (gName j) gNil)))) tz D σ H :=
  h H e (Ex.refl _) _ fun v G2 H2 g2 hv => g_two g2.sub hv fun x y hx hy => k G2 H2 x y g2 hx hy
theorem q_asg3 {i j l : Nat} (e : Ex G H) (h : Ev te σ G H (.tuple [d1, d2, d3])) (k : ∀ G2 H2 x y z, Grow G H G2 H2 → Is G2 x d1 → Is G2 y d2 → Is G2 z d3 → tz D (((σ.set i (some x)).set j (some y)).set l (some z)) H2) :
    tSeq (tAsg te (gTup K 3 (gCons (gName i) (gCons (gName j) (gCons (gName l) gNil))))) tz D σ H :=
  h H e (Ex.refl _) _ fun v G2 H2 g2 hv => g_three g2.sub hv fun x y z hx hy hz => k G2 H2 x y z g2 hx hy hz
theorem ev_ret1 {n : Int} (h : Ev te σ G A (.int n)) : Ev (tLst (tCons te tNil)) σ G A (encI [n]) := ev_one (f := PyData.int) h
theorem ev_ret2 {n m : Int} (h : Ev ta σ G A (.int n)) (h2 : Ev tb σ G A (.int m)) : Ev (tLst (tCons ta (tCons tb tNil))) σ G A (encI [n, m]) := ev_lst (ea_two h h2) (by show 2 ≤ 100000; decide)
theorem ev_hideM {k t a : Nat} {tc : TE} (h1 : Ev ta σ G A (.int (k : Int))) (h2 : Ev tb σ G A (.int (t : Int))) (h3 : Ev tc σ G A (.int (a : Int))) : Ev (tTup (tCons ta (tCons tb (tCons tc tNil)))) σ G A (encH ⟨k, t, a⟩) :=
  ev_tup (ea_cons h1 (ea_two h2 h3)) (by show 3 ≤ 100000; decide)
theorem erase_cut {α : Type} (l : List α) (i : Nat) : l.take i ++ l.drop (i + 1) = l.eraseIdx i := (List.eraseIdx_eq_take_drop_succ l i).symm
theorem nums_len (o : List Itm) : (MH.nums o).length = o.length := List.length_map _
end
variable {K : PySem.W.Frag} {C : Addr}

theorem pure_get_hide (T : Cl K C) (vs : List V) (H : Hp) (Q : VK) (E : XK) (h : sp_get_hide C vs H Q E) : t_get_hide K C (DD Q) (start N_get_hide vs) H := by
  obtain ⟨G, a, v, ws, ds, d, rfl, e, hva, hv, _, ⟨i, rfl, rfl⟩, k⟩ := h
  obtain ⟨x, rfl, h1⟩ := isL1 hv
  refine s_ret e (ev_if (eb_B (ev_callV rfl hva (ea_one (ev_var rfl h1)) ⟨i, rfl, rfl⟩)) (fun c => (ev_listT (ev_atD (d := noHide) (ev_hides T rfl hva) (ev_var rfl h1) (of_decide_eq_true c))).is ?_) (fun c => (ev_ret1 ev_int).is ?_)) k
  · unfold MH.aGet
    rw [if_pos (of_decide_eq_true c)]
    rfl
  · unfold MH.aGet
    rw [if_neg (of_decide_eq_false c)]
theorem pure_hide_order (T : Cl K C) (vs : List V) (H : Hp) (Q : VK) (E : XK) (h : sp_hide_order C vs H Q E) : t_hide_order K C (DD Q) (start N_hide_order vs) H := by
  obtain ⟨G, a, v, ws, ds, d, rfl, e, hva, hv, _, ⟨rfl, hl, rfl⟩, k⟩ := h
  obtain rfl := isL0 hv
  have ol := ordered_len v.hides
  exact s_ret e (ev_catM (f := PyData.int) (ev_ret1 (ev_lenM (ev_hides T rfl hva))) (ev_call (ea_one (ev_callV rfl hva ea_nil ⟨rfl, by omega, rfl⟩)) ⟨_, rfl, by omega, rfl⟩) (by rw [nums_len, List.length_singleton]; omega)) k
theorem pure_are_compatible (T : Cl K C) (vs : List V) (H : Hp) (Q : VK) (E : XK) (h : sp_are_compatible C vs H Q E) : t_are_compatible K C (DD Q) (start N_are_compatible vs) H := by
  obtain ⟨G, a, v, ws, ds, d, rfl, e, hva, hv, _, ⟨i, j, rfl, rfl⟩, k⟩ := h
  obtain ⟨x, y, rfl, h1, h2⟩ := isL2 hv
  refine q_when e (eb_or (eb_not (eb_B (ev_callV rfl hva (ea_one (ev_var rfl h1)) ⟨i, rfl, rfl⟩))) fun _ => eb_not (eb_B (ev_callV rfl hva (ea_one (ev_var rfl h2)) ⟨j, rfl, rfl⟩))) (fun c H2 g => ?_) (fun c H2 g => ?_)
  · refine s_ret g.sub (ev_ret1 ev_int) ((k.go g).is ?_)
    unfold MH.aCompat
    rw [if_neg (by simp at c; omega)]
  · have hij : i < v.hides.length ∧ j < v.hides.length := by simp at c; omega
    refine s_ret g.sub (ev_ret1 (ev_intB (ev_call (ea_cons (ev_atD (d := noHide) (ev_hides T rfl (hva.mono (Ex.refl _) g.up)) (ev_var rfl h1) hij.1) (ea_two (ev_atD (d := noHide) (ev_hides T rfl (hva.mono (Ex.refl _) g.up)) (ev_var rfl h2) hij.2) (ev_tol T rfl (hva.mono (Ex.refl _) g.up)))) ⟨_, _, _, rfl, rfl⟩))) ((k.go g).is ?_)
    unfold MH.aCompat
    rw [if_pos hij]
    rfl
theorem mem_cast {n : Nat} (l : List Nat) : decide ((n : Int) ∈ l.map fun (n : Nat) => (n : Int)) = decide (n ∈ l) := by
  rw [Bool.eq_iff_iff, decide_eq_true_eq, decide_eq_true_eq, List.mem_map]
  constructor
  · rintro ⟨m, hm, e⟩
    have : m = n := by omega
    exact this ▸ hm
  · intro h
    exact ⟨n, h, rfl⟩
theorem pure_are_hides (T : Cl K C) (vs : List V) (H : Hp) (Q : VK) (E : XK) (h : sp_are_hides C vs H Q E) : t_are_hides K C (DD Q) (start N_are_hides vs) H := by
  obtain ⟨G, a, v, ws, ds, d, rfl, e, hva, hv, _, ⟨l, rfl, hl, rfl⟩, k⟩ := h
  obtain ⟨x, rfl, h1⟩ := isL1 hv
  refine q_forR (n := l.length) e (ea_one (ev_lenM (ev_var rfl h1))) (by omega) (fun i σ H' => ∃ u, σ = [some (.ref a), some x, u] ∧ Grow G H G H' ∧ ∀ p < i, (decide (l.getD p 0 < v.hides.length) && !decide (l.getD p 0 ∈ l.take p)) = true) (fun H1 g1 => ⟨none, rfl, g1, fun p hp => by omega⟩) ?_ ?_
  · rintro i σ H' hi ⟨u, rfl, g, ha⟩
    have at_ : Ev (tOp (rIxL K) (tVar 1) (tVar 2)) [some (.ref a), some x, some (.int (i : Int))] G H' (.int ((l.getD i 0 : Nat) : Int)) := ev_atD (f := fun (n : Nat) => PyData.int (n : Int)) (d := 0) (ev_var rfl h1) (ev_var rfl (.int _)) hi
    have sl : Ev (tSl (rSlL K) (tVar 1) tNoPart (tPart (tVar 2))) [some (.ref a), some x, some (.int (i : Int))] G H' (.list (((l.take i).map fun (n : Nat) => (n : Int)).map PyData.int)) := (ev_take (f := fun (n : Nat) => PyData.int (n : Int)) (ev_var rfl h1) (ev_var rfl (.int _))).is (by rw [List.map_map]; rfl)
    have cnd : EvB (tOr (tNot (tB (tCall (sp_exists C) [] E0 (tCons (tVar 0) (tCons (tOp (rIxL K) (tVar 1) (tVar 2)) tNil))))) (tTest (tOp (rIn K false) (tOp (rIxL K) (tVar 1) (tVar 2)) (tSl (rSlL K) (tVar 1) tNoPart (tPart (tVar 2)))))) [some (.ref a), some x, some (.int (i : Int))] G H'
        (!decide (l.getD i 0 < v.hides.length) || decide (((l.getD i 0 : Nat) : Int) ∈ (l.take i).map fun (n : Nat) => (n : Int))) := eb_or (eb_not (eb_B (ev_callV rfl (hva.mono (Ex.refl _) g.up) (ea_one at_) ⟨l.getD i 0, rfl, rfl⟩))) fun _ => eb_test (ev_inL at_ sl)
    rw [mem_cast] at cnd
    refine s_when g.sub cnd (fun c H2 g2 => ?_) (fun c H2 g2 => ?_)
    · refine s_ret g2.sub ev_bl ((k.go (g.trans g2)).is ?_)
      congr 1
      unfold MH.goodNums
      rw [List.all_eq_false]
      refine ⟨i, List.mem_range.mpr hi, ?_⟩
      revert c
      cases decide (l.getD i 0 < v.hides.length) <;> cases decide (l.getD i 0 ∈ l.take i) <;> decide
    · refine ⟨_, rfl, g.trans g2, fun p hp => ?_⟩
      by_cases q : p = i
      · subst q
        revert c
        cases decide (l.getD p 0 < v.hides.length) <;> cases decide (l.getD p 0 ∈ l.take p) <;> decide
      · exact ha p (by omega)
  · rintro σ H' ⟨u, rfl, g, ha⟩
    refine s_ret g.sub ev_bl ((k.go g).is ?_)
    congr 1
    unfold MH.goodNums
    exact List.all_eq_true.mpr fun p hp => ha p (List.mem_range.mp hp)
theorem pure_hides_with (T : Cl K C) (vs : List V) (H : Hp) (Q : VK) (E : XK) (h : sp_hides_with C vs H Q E) : t_hides_with K C (DD Q) (start N_hides_with vs) H := by
  obtain ⟨G, a, v, ws, ds, d, rfl, e, hva, hv, _, ⟨l, rfl, hl, hm, rfl⟩, k⟩ := h
  obtain ⟨x, rfl, h1⟩ := isL1 hv
  refine s_ret e (ev_lc (fun _ => true) (fun n => encP (n, hideAt v n)) (enc := fun (n : Nat) => PyData.int (n : Int)) (xs := l) (ev_var rfl h1) (by omega) fun G1 i n w H1 Q' e1 e2 hx hw kk => kk _ rfl eb_yes fun _ => ev_pair (x := (n, hideAt v n)) (ev_var rfl hw) (ev_atD (d := noHide) (ev_hides T rfl (hva.mono e1 (Ex.refl _))) (ev_var rfl hw) (hm n (List.mem_of_getElem? hx)))) (k.is ?_)
  unfold MH.tag
  rw [filter_yes, encO, List.map_map]
  rfl
theorem good_all {v : Inventory} {l : List Nat} (h : MH.goodNums v l = true) : ∀ i ∈ l, i < v.hides.length := fun i hi => by
  obtain ⟨p, hp, rfl⟩ := List.getElem_of_mem hi
  unfold MH.goodNums at h
  have q := List.all_eq_true.mp h p (List.mem_range.mpr hp)
  rw [MH.getD_mem _ hp] at q
  exact of_decide_eq_true (Bool.and_eq_true_iff.mp q).1
theorem pure_is_lot (T : Cl K C) (vs : List V) (H : Hp) (Q : VK) (E : XK) (h : sp_is_lot C vs H Q E) : t_is_lot K C (DD Q) (start N_is_lot vs) H := by
  obtain ⟨G, a, v, ws, ds, d, rfl, e, hva, hv, _, ⟨l, rfl, hl, rfl⟩, k⟩ := h
  obtain ⟨x, rfl, h1⟩ := isL1 hv
  refine q_when e (eb_not (eb_B (ev_callV rfl hva (ea_one (ev_var rfl h1)) ⟨l, rfl, hl, rfl⟩))) (fun c H2 g => ?_) (fun c H2 g => ?_)
  · refine s_ret g.sub (ev_ret1 ev_int) ((k.go g).is ?_)
    unfold MH.aIsLot
    rw [if_neg (by simpa using c)]
  · have hg : MH.goodNums v l = true := by simpa using c
    have hva2 := hva.mono (Ex.refl _) g.up
    refine q_set g.sub (ev_le (ev_lenM (ev_var rfl h1)) (ev_lot T rfl hva2)) fun w G3 H3 g3 hw => ?_
    have hva3 := hva2.mono g3.base g3.up
    refine s_ret g3.sub (ev_ret1 (ev_intB (ev_andV (ev_var rfl hw) fun _ => ev_call (ea_two (ev_callV rfl hva3 (ea_one (ev_var rfl (h1.up g3.base))) ⟨l, rfl, hl, good_all hg, rfl⟩) (ev_tol T rfl hva3)) ⟨_, _, rfl, by rw [MH.tag_length]; omega, rfl⟩))) ((k.go (g.trans g3)).is ?_)
    unfold MH.aIsLot
    rw [if_pos hg]
    have e1 : decide ((l.length : Int) ≤ (v.lotSize : Int)) = decide (l.length ≤ v.lotSize) := by
      rw [Bool.eq_iff_iff]
      simp
    rw [e1]
theorem lots_flat {n : Nat} : ∀ (ls : List (List Itm)), (∀ l ∈ ls, l.length ≤ n) → (ls.flatMap fun l => (l.length : Int) :: MH.nums l).length ≤ ls.length * (n + 1)
  | [], _ => by simp
  | l :: ls, h => by
    have ih := lots_flat (n := n) ls fun m hm => h m (List.mem_cons_of_mem _ hm)
    have hl := h l List.mem_cons_self
    rw [List.flatMap_cons, List.length_append, List.length_cons, List.length_cons, nums_len, Nat.add_mul, Nat.one_mul]
    omega
theorem pure_greedy_lots (T : Cl K C) (vs : List V) (H : Hp) (Q : VK) (E : XK) (h : sp_greedy_lots C vs H Q E) : t_greedy_lots K C (DD Q) (start N_greedy_lots vs) H := by
  obtain ⟨G, a, v, ws, ds, d, rfl, e, hva, hv, _, ⟨rfl, hl, rfl⟩, k⟩ := h
  obtain rfl := isL0 hv
  have ol := ordered_len v.hides
  have hb := greedy_bound (MH.ordered v.hides) v.tolerance v.lotSize (MH.ordered v.hides).length (Nat.le_refl _)
  rw [List.take_length] at hb
  refine q_set e (ev_call (ea_cons (ev_callV rfl hva ea_nil ⟨rfl, by omega, rfl⟩) (ea_two (ev_tol T rfl hva) (ev_lot T rfl hva))) ⟨_, _, _, rfl, by omega, rfl⟩) fun w1 G1 H1 g1 hw1 => ?_
  unfold MH.aLots at k
  generalize MH.greedy (MH.ordered v.hides) v.tolerance v.lotSize = ls at hb hw1 k
  refine q_set g1.sub (ev_ret1 (ev_lenM (ev_var rfl hw1))) fun w2 G2 H2 g2 hw2 => ?_
  have g := g1.trans g2
  refine q_for g.sub (ev_var rfl (hw1.up g2.base)) (fun G3 i σ H' => ∃ u w G', σ = [some (.ref a), some w1, some w, u] ∧ Ex G3 G' ∧ Grow G H G' H' ∧ Is G' w (encI ((ls.length : Int) :: (ls.take i).flatMap fun l => (l.length : Int) :: MH.nums l)))
    (fun G3 H3 g3 => ⟨none, w2, G3, rfl, Ex.refl _, g.trans g3, hw2.up g3.base⟩) (fun G3 i σ H' ⟨_, _, _, _, e1, g, _⟩ => e1.trans g.sub) ?_ ?_
  · rintro G3 i d w3 σ H' e1 hd1 hw3 ⟨u, w, G', rfl, e2, g, hw⟩
    obtain ⟨l, hx, rfl⟩ := map_get hd1
    have hln := hb.2 l (List.mem_of_getElem? hx)
    have hfl := lots_flat (n := (MH.ordered v.hides).length) (ls.take i) fun m hm => hb.2 m (List.mem_of_mem_take hm)
    have hti : (ls.take i).length ≤ 12 := by
      have := List.length_take_le' i ls
      omega
    have hmul : (ls.take i).length * ((MH.ordered v.hides).length + 1) ≤ 12 * 13 := Nat.mul_le_mul hti (by omega)
    refine s_set g.sub (ev_catM (f := PyData.int) (ev_catM (f := PyData.int) (ev_var rfl hw) (ev_ret1 (ev_lenM (ev_var rfl (hw3.up e2)))) ?_) (ev_call (ea_one (ev_var rfl (hw3.up e2))) ⟨_, rfl, by omega, rfl⟩) ?_) fun w5 G5 H5 g5 hw5 => ⟨_, w5, G5, rfl, e2.trans g5.base, g.trans g5, ?_⟩
    · rw [List.length_cons, List.length_singleton]
      omega
    · rw [List.length_append, List.length_cons, List.length_singleton, nums_len]
      omega
    · rw [take_snoc hx, List.flatMap_append, List.flatMap_singleton]
      have e9 : ((ls.length : Int) :: ((ls.take i).flatMap fun l => (l.length : Int) :: MH.nums l)) ++ [(l.length : Int)] ++ MH.nums l = (ls.length : Int) :: (((ls.take i).flatMap fun l => (l.length : Int) :: MH.nums l) ++ ((l.length : Int) :: MH.nums l)) := by simp
      rw [e9] at hw5
      exact hw5
  · rintro G3 σ H' e1 ⟨u, w, G', rfl, e2, g, hw⟩
    rw [List.length_map, List.take_length] at hw
    exact s_ret g.sub (ev_var rfl hw) (k.go g)
theorem pure_incompatible_hides (T : Cl K C) (vs : List V) (H : Hp) (Q : VK) (E : XK) (h : sp_incompatible_hides C vs H Q E) : t_incompatible_hides K C (DD Q) (start N_incompatible_hides vs) H := by
  obtain ⟨G, a, v, ws, ds, d, rfl, e, hva, hv, _, ⟨rfl, hl, rfl⟩, k⟩ := h
  obtain rfl := isL0 hv
  have ol := ordered_len v.hides
  have hb := inc_bound (MH.ordered v.hides) v.tolerance (MH.ordered v.hides).length (Nat.le_refl _)
  rw [List.take_length] at hb
  refine q_set e (ev_call (ea_two (ev_callV rfl hva ea_nil ⟨rfl, by omega, rfl⟩) (ev_tol T rfl hva)) ⟨_, _, rfl, by omega, rfl⟩) fun w1 G1 H1 g1 hw1 => ?_
  exact s_ret g1.sub (ev_catM (f := PyData.int) (ev_ret1 (ev_lenM (ev_var rfl hw1))) (ev_call (ea_one (ev_var rfl hw1)) ⟨_, rfl, by omega, rfl⟩) (by rw [nums_len, List.length_singleton]; omega)) (k.go g1)
theorem large_len {n s : Nat} : ∀ (rs : List (List Itm)) (b : List Itm), (∀ r ∈ rs, r.length ≤ n) → b.length ≤ n → (rs.foldl (MH.largeStep s) b).length ≤ n
  | [], b, _, hb => hb
  | r :: rs, b, h, hb => by
    rw [List.foldl_cons]
    refine large_len rs _ (fun q hq => h q (List.mem_cons_of_mem _ hq)) ?_
    unfold MH.largeStep
    split
    · exact Nat.le_trans (part_len r s) (h r List.mem_cons_self)
    · exact hb
theorem largest_len (o : List Itm) (t s : Nat) : (MH.largest o t s).length ≤ o.length := large_len _ _ (fun r hr => runs_short hr) (Nat.zero_le _)
theorem pure_largest_lot (T : Cl K C) (vs : List V) (H : Hp) (Q : VK) (E : XK) (h : sp_largest_lot C vs H Q E) : t_largest_lot K C (DD Q) (start N_largest_lot vs) H := by
  obtain ⟨G, a, v, ws, ds, d, rfl, e, hva, hv, _, ⟨rfl, hl, rfl⟩, k⟩ := h
  obtain rfl := isL0 hv
  have ol := ordered_len v.hides
  have hb := largest_len (MH.ordered v.hides) v.tolerance v.lotSize
  refine q_when e (eb_test (ev_eqNil (ev_hides T rfl hva) (shp_Hs _) (by decide))) (fun c H2 g => ?_) (fun c H2 g => ?_)
  · refine s_ret g.sub (ev_ret1 ev_int) ((k.go g).is ?_)
    unfold MH.aLargest
    rw [if_pos (by simpa using c)]
  · have hva2 := hva.mono (Ex.refl _) g.up
    refine q_set g.sub (ev_call (ea_cons (ev_callV rfl hva2 ea_nil ⟨rfl, by omega, rfl⟩) (ea_two (ev_tol T rfl hva2) (ev_lot T rfl hva2))) ⟨_, _, _, rfl, by omega, rfl⟩) fun w1 G1 H1 g1 hw1 => ?_
    refine s_ret g1.sub (ev_catM (f := PyData.int) (ev_ret2 (ev_call (ea_one (ev_var rfl hw1)) ⟨_, rfl, by omega, rfl⟩) (ev_lenM (ev_var rfl hw1))) (ev_call (ea_one (ev_var rfl hw1)) ⟨_, rfl, by omega, rfl⟩) (by rw [nums_len]; show 2 + _ ≤ _; omega)) ((k.go (g.trans g1)).is ?_)
    unfold MH.aLargest
    rw [if_neg (by simpa using c)]
    rfl
theorem pure_total_area (T : Cl K C) (vs : List V) (H : Hp) (Q : VK) (E : XK) (h : sp_total_area C vs H Q E) : t_total_area K C (DD Q) (start N_total_area vs) H := by
  obtain ⟨G, a, v, ws, ds, d, rfl, e, hva, hv, _, ⟨l, rfl, hl, rfl⟩, k⟩ := h
  obtain ⟨x, rfl, h1⟩ := isL1 hv
  refine q_when e (eb_not (eb_B (ev_callV rfl hva (ea_one (ev_var rfl h1)) ⟨l, rfl, hl, rfl⟩))) (fun c H2 g => ?_) (fun c H2 g => ?_)
  · refine s_ret g.sub (ev_ret1 ev_int) ((k.go g).is ?_)
    unfold MH.aTotal
    rw [if_neg (by simpa using c)]
  · have hg : MH.goodNums v l = true := by simpa using c
    have hva2 := hva.mono (Ex.refl _) g.up
    refine s_ret g.sub (ev_ret1 (ev_call (ea_one (ev_callV rfl hva2 (ea_one (ev_var rfl h1)) ⟨l, rfl, hl, good_all hg, rfl⟩)) ⟨_, rfl, by rw [MH.tag_length]; omega, rfl⟩)) ((k.go g).is ?_)
    unfold MH.aTotal
    rw [if_pos hg]
theorem pairs_even (o : List Itm) (kd : Nat) : (MH.bestPairsOf o kd).1.length % 2 = 0 ∧ (MH.bestPairsOf o kd).1.length ≤ o.length ∧ (MH.bestPairsOf o kd).2.length ≤ 1 := by
  have hf : (MH.ofKind o kd).length ≤ o.length := List.length_filter_le _ _
  unfold MH.bestPairsOf
  split
  · rename_i c
    exact ⟨c, hf, Nat.zero_le _⟩
  · rename_i c
    have hlp : MH.leftPlace (MH.ofKind o kd) < (MH.ofKind o kd).length := by
      have : ∀ i, i < (MH.ofKind o kd).length → (List.range i).foldl (fun best p => MH.leftStep (MH.ofKind o kd) best (p + 1)) 0 < (MH.ofKind o kd).length := by
        intro i
        induction i with
        | zero => intro h; exact h
        | succ i ih =>
          intro h
          rw [List.range_succ, List.foldl_append]
          show MH.leftStep _ _ (i + 1) < _
          unfold MH.leftStep
          split
          · exact h
          · exact ih (by omega)
      exact this ((MH.ofKind o kd).length - 1) (by omega)
    have hw := without_len hlp
    refine ⟨?_, ?_, Nat.le_refl _⟩
    · show (MH.without _ _).length % 2 = 0
      omega
    · show (MH.without _ _).length ≤ _
      omega
theorem pure_best_pairs (T : Cl K C) (vs : List V) (H : Hp) (Q : VK) (E : XK) (h : sp_best_pairs C vs H Q E) : t_best_pairs K C (DD Q) (start N_best_pairs vs) H := by
  obtain ⟨G, a, v, ws, ds, d, rfl, e, hva, hv, _, ⟨kd, rfl, hl, rfl⟩, k⟩ := h
  obtain ⟨x, rfl, h1⟩ := isL1 hv
  have ol := ordered_len v.hides
  refine q_when e (eb_test (ev_gt (ev_var rfl h1) ev_int)) (fun c H2 g => ?_) (fun c H2 g => ?_)
  · refine s_ret g.sub (ev_ret1 ev_int) ((k.go g).is ?_)
    have := of_decide_eq_true c
    unfold MH.aPairs
    rw [if_pos (by omega)]
  · have := of_decide_eq_false c
    unfold MH.aPairs at k
    rw [if_neg (by omega)] at k
    have hva2 := hva.mono (Ex.refl _) g.up
    have hp := pairs_even (MH.ordered v.hides) kd
    refine q_asg2 g.sub (ev_call (ea_two (ev_callV rfl hva2 ea_nil ⟨rfl, by omega, rfl⟩) (ev_var rfl h1)) ⟨_, _, rfl, by omega, rfl⟩) fun G1 H1 w1 w2 g1 hw1 hw2 => ?_
    refine s_ret g1.sub (ev_catM (f := PyData.int) (ev_catM (f := PyData.int) (ev_ret2 (ev_call (ea_one (ev_var rfl hw1)) ⟨_, rfl, hp.1, by omega, rfl⟩) (ev_div (ev_lenM (ev_var rfl hw1)) ev_int ⟨by decide, by decide⟩)) (ev_call (ea_one (ev_var rfl hw1)) ⟨_, rfl, by omega, rfl⟩) ?_) (ev_call (ea_one (ev_var rfl hw2)) ⟨_, rfl, by omega, rfl⟩) ?_) ((k.go (g.trans g1)).is ?_)
    · rw [nums_len]
      show 2 + _ ≤ _
      omega
    · rw [List.length_append, nums_len, nums_len]
      show 2 + _ + _ ≤ _
      omega
    · rfl
theorem find_range {p : Nat → Bool} : ∀ (n : Nat) {i : Nat}, i < n → (∀ j < i, p j = false) → p i = true → (List.range n).find? p = some i
  | n + 1, i, h, h1, h2 => by
    rw [List.range_succ, List.find?_append]
    by_cases c : i < n
    · rw [find_range n c h1 h2]
      rfl
    · obtain rfl : i = n := by omega
      have e : (List.range i).find? p = none := by
        rw [List.find?_eq_none]
        intro x hx
        rw [h1 x (List.mem_range.mp hx)]
        decide
      rw [e, List.find?_cons, h2]
      rfl
theorem pure_least_tolerance (T : Cl K C) (vs : List V) (H : Hp) (Q : VK) (E : XK) (h : sp_least_tolerance C vs H Q E) : t_least_tolerance K C (DD Q) (start N_least_tolerance vs) H := by
  obtain ⟨G, a, v, ws, ds, d, rfl, e, hva, hv, _, ⟨n, rfl, hl, rfl⟩, k⟩ := h
  obtain ⟨x, rfl, h1⟩ := isL1 hv
  have ol := ordered_len v.hides
  refine q_set e (ev_callV rfl hva ea_nil ⟨rfl, by omega, rfl⟩) fun w1 G1 H1 g1 hw1 => ?_
  refine q_forR (n := 61) g1.sub (ea_one ((ev_add ev_int ev_int).is rfl)) (by decide) (fun i σ H' => ∃ u, σ = [some (.ref a), some x, some w1, u] ∧ Grow G H G1 H' ∧ ∀ t < i, decide ((MH.greedy (MH.ordered v.hides) t v.lotSize).length ≤ n) = false) (fun H2 g2 => ⟨none, rfl, g1.trans g2, fun t ht => by omega⟩) ?_ ?_
  · rintro i σ H' hi ⟨u, rfl, g, ha⟩
    have hva2 := hva.mono g.base g.up
    refine s_when g.sub (eb_test (ev_le (ev_lenM (ev_call (ea_cons (ev_var rfl hw1) (ea_two (ev_var rfl (.int (i : Int))) (ev_lot T rfl hva2))) ⟨_, _, _, rfl, by omega, rfl⟩)) (ev_var rfl (h1.up g.base)))) (fun c H2 g2 => ?_) (fun c H2 g2 => ?_)
    · refine s_ret g2.sub (ev_ret1 (ev_var rfl (.int _))) ((k.go (g.trans g2)).is ?_)
      have c' : decide ((MH.greedy (MH.ordered v.hides) i v.lotSize).length ≤ n) = true := by
        have := of_decide_eq_true c
        exact decide_eq_true (by omega)
      unfold MH.aLeast MH.leastTol
      rw [find_range 61 hi ha c']
    · refine ⟨_, rfl, g.trans g2, fun t ht => ?_⟩
      by_cases q : t = i
      · subst q
        have := of_decide_eq_false c
        exact decide_eq_false (by omega)
      · exact ha t (by omega)
  · rintro σ H' ⟨u, rfl, g, ha⟩
    refine s_ret g.sub (ev_ret1 ev_int) ((k.go g).is ?_)
    have e1 : (List.range 61).find? (fun t => decide ((MH.greedy (MH.ordered v.hides) t v.lotSize).length ≤ n)) = none := by
      rw [List.find?_eq_none]
      intro t ht
      rw [ha t (List.mem_range.mp ht)]
      decide
    unfold MH.aLeast MH.leastTol
    rw [e1]
theorem pure_lots_without_hide (T : Cl K C) (vs : List V) (H : Hp) (Q : VK) (E : XK) (h : sp_lots_without_hide C vs H Q E) : t_lots_without_hide K C (DD Q) (start N_lots_without_hide vs) H := by
  obtain ⟨G, a, v, ws, ds, d, rfl, e, hva, hv, _, ⟨i, rfl, hl, rfl⟩, k⟩ := h
  obtain ⟨x, rfl, h1⟩ := isL1 hv
  refine q_when e (eb_not (eb_B (ev_callV rfl hva (ea_one (ev_var rfl h1)) ⟨i, rfl, rfl⟩))) (fun c H2 g => ?_) (fun c H2 g => ?_)
  · refine s_ret g.sub (ev_ret1 ev_int) ((k.go g).is ?_)
    unfold MH.aWithout
    rw [if_neg (by simpa using c)]
  · have hi : i < v.hides.length := by simpa using c
    have hva2 := hva.mono (Ex.refl _) g.up
    have hh := ev_hides (K := K) (σ := [some (.ref a), some x]) (i := 0) T rfl hva2
    have cut : Ev (tOp rCat (tSl (rSlL K) (tFld K (tVar 0) "hides") tNoPart (tPart (tVar 1))) (tSl (rSlL K) (tFld K (tVar 0) "hides") (tPart (tOp rAddI (tVar 1) (tC (.int 1)))) tNoPart)) [some (.ref a), some x] G H2 (encHs (v.hides.eraseIdx i)) :=
      (ev_catM (ev_take hh (ev_var rfl h1)) (ev_drop hh (ev_add1 (ev_var rfl h1))) (by rw [List.length_take, List.length_drop]; omega)).is (by rw [erase_cut])
    have hle := List.length_eraseIdx_le v.hides i
    refine s_ret g.sub (ev_ret1 (ev_callV rfl hva2 (ea_one cut) ⟨_, rfl, by omega, rfl⟩)) ((k.go g).is ?_)
    unfold MH.aWithout
    rw [if_pos hi]
    rfl
theorem pure_lots_with_hide (T : Cl K C) (vs : List V) (H : Hp) (Q : VK) (E : XK) (h : sp_lots_with_hide C vs H Q E) : t_lots_with_hide K C (DD Q) (start N_lots_with_hide vs) H := by
  obtain ⟨G, a, v, ws, ds, d, rfl, e, hva, hv, _, ⟨kd, t, ar, rfl, hl, rfl⟩, k⟩ := h
  obtain ⟨x, y, z, rfl, h1, h2, h3⟩ := isL3 hv
  refine q_when e (eb_not (eb_B (ev_call (ea_cons (ev_var rfl h1) (ea_two (ev_var rfl h2) (ev_var rfl h3))) ⟨kd, t, ar, rfl, rfl⟩))) (fun c H2 g => ?_) (fun c H2 g => ?_)
  · refine s_ret g.sub (ev_ret1 ev_int) ((k.go g).is ?_)
    unfold MH.aWith
    rw [if_neg (by simpa using c)]
  · have hva2 := hva.mono (Ex.refl _) g.up
    refine s_ret g.sub (ev_ret1 (ev_callV rfl hva2 (ea_one (ev_catM (ev_hides T rfl hva2) (ev_one (f := encH) (ev_hideM (ev_var rfl h1) (ev_var rfl h2) (ev_var rfl h3))) (by rw [List.length_singleton]; omega))) ⟨_, rfl, by rw [List.length_append, List.length_singleton]; omega, rfl⟩)) ((k.go g).is ?_)
    unfold MH.aWith
    rw [if_pos (by simpa using c)]
    rfl
theorem pure_status (T : Cl K C) (vs : List V) (H : Hp) (Q : VK) (E : XK) (h : sp_status C vs H Q E) : t_status K C (DD Q) (start N_status vs) H := by
  obtain ⟨G, a, v, ws, ds, d, rfl, e, hva, hv, _, ⟨rfl, hl, rfl⟩, k⟩ := h
  obtain rfl := isL0 hv
  have c : Ev (tLc (iList K (tFld K (tVar 0) "hides")) (gName 2) tYes (tOp (rIxT K) (tVar 2) (tC (.int 2))) [2]) (start N_status [.ref a]) G H (.list ((v.hides.map fun y => (y.area : Int)).map PyData.int)) :=
    (ev_lc (fun _ => true) (fun y : Hide => PyData.int (y.area : Int)) (ev_hides T rfl hva) (by omega) fun G1 i y w H1 Q' e1 e2 hx hw kk => kk ((wipe (start N_status [.ref a]) [2]).set 2 (some w)) rfl eb_yes fun _ => ev_area (ev_var rfl hw)).is (by rw [filter_yes, List.map_map]; rfl)
  refine q_set e (ev_sum c) fun w1 G1 H1 g1 hw1 => ?_
  rw [sum_cast (fun y : Hide => y.area)] at hw1
  have hva2 := hva.mono g1.base g1.up
  exact s_ret g1.sub (ev_lst (ea_cons (ev_lenM (ev_hides T rfl hva2)) (ea_cons (ev_tol T rfl hva2) (ea_two (ev_lot T rfl hva2) (ev_var rfl hw1)))) (by show 4 ≤ 100000; decide)) (k.go g1)
end DT
namespace DT
open PySem PySem.Spec PyProof.Rows L2
open Kp394 (Hide Inventory hideAt)
open MH (Itm noIt noHide)
/-! ### where the inventory may change -/
section
variable {K : PySem.W.Frag} {C a : Addr} {σ : L2.St} {G H G2 H2 G3 H3 : Hp} {ta tb te tv : TE} {D : Ends} {tz : TS} {d : PyData} {v v' : Inventory} {Q : VK}
theorem VAt.at {A : Hp} (h : VAt C G A a v) : ∃ o, A a = some o := by
  obtain ⟨dx, p, h1, _⟩ := h
  exact ⟨_, h1⟩
theorem GrowX.of (g : Grow G H G2 H2) (out : G a = none) (h : ∃ o, H a = some o) : GrowX a G H G2 H2 := by
  obtain ⟨o, h⟩ := h
  exact ⟨fun b o _ q => g.up b o q, g.base, g.sub, g.new, g.out out h⟩
theorem GrowX.trans (x : GrowX a G H G2 H2) (y : GrowX a G2 H2 G3 H3) : GrowX a G H G3 H3 :=
  ⟨fun b o n q => y.up b o n (x.up b o n q), x.base.trans y.base, y.sub, fun b o q => by
    rcases y.new b o q with z | z
    · exact x.new b o z
    · refine .inr ?_
      cases r : H b with
      | none => rfl
      | some u =>
        have nb : b ≠ a := fun e => by rw [e, y.out] at q; cases q
        rw [x.up b u nb r] at z
        exact absurd z (by simp), y.out⟩
theorem GrowX.put {o : HO} (e : Ex G H) (out : G a = none) : GrowX a G H G (upd H a o) :=
  ⟨fun b o n q => by rw [upd_ne n]; exact q, Ex.refl _, e.put out, fun _ _ q => .inl q, out⟩
theorem RetM.go {G0 H0 : Hp} (k : RetM C G0 H0 a v d Q) (g : GrowX a G0 H0 G H) : RetM C G H a v d Q := fun w G2 H2 g2 hv hw => k w G2 H2 (g.trans g2) hv hw
theorem RetM.is {v' : Inventory} {d' : PyData} (k : RetM C G H a v d Q) (e1 : v = v') (e2 : d = d') : RetM C G H a v' d' Q := e1 ▸ e2 ▸ k
theorem s_retM (e : Ex G H) (out : G a = none) (hva : VAt C G H a v) (h : Ev te σ G H d) (k : RetM C G H a v d D.rt) : tRet te D σ H := h H e (Ex.refl _) _ fun w G2 H2 g2 hw => k w G2 H2 (GrowX.of g2 out hva.at) (hva.mono g2.base g2.up) hw
theorem s_callM {n i : Nat} {R : Inventory → List PyData → Inventory → PyData → Prop} {t : TA} {ds : List PyData} (hi : σ[i]? = some (some (.ref a))) (e : Ex G H) (out : G a = none) (hva : VAt C G H a v) (h : EvA t σ G H ds) (r : R v ds v' d) (k : RetM C G H a v' d D.rt) (hn : ds.length = n := by rfl) :
    tRet (tCall (spM C n R) [] E0 (tCons (tVar i) t)) D σ H := ⟨.ref a, hi, h H e (Ex.refl _) _ fun vs G2 H2 g2 hw => by
    show spM C n R ((.ref a :: vs) ++ []) H2 D.rt E0
    rw [List.append_nil]
    obtain ⟨o, ho⟩ := hva.at
    exact ⟨G2, a, v, vs, ds, v', d, rfl, g2.sub, g2.out out ho, hva.mono g2.base g2.up, hw, hn, r, k.go (GrowX.of g2 out ⟨o, ho⟩)⟩⟩
theorem q_putH {hs : List Hide} (T : Cl K C) (hi : σ[0]? = some (some (.ref a))) (e : Ex G H) (out : G a = none) (hva : VAt C G H a v) (h : Ev tv σ G H (encHs hs)) (k : ∀ G2 H2, GrowX a G H G2 H2 → VAt C G2 H2 a { v with hides := hs } → tz D σ H2) :
    tSeq (sFld K (tVar 0) tv "hides") tz D σ H := h H e (Ex.refl _) _ fun y G2 H2 g2 hy => by
  obtain ⟨dx, p, h1, h2⟩ := hva
  obtain ⟨q, xs, rfl, _, _⟩ := is_lst hy
  have out2 := g2.out out h1
  refine ⟨.ref a, hi, a, C, dx, _, rfl, g2.up _ _ h1, T.cl, T.nH, (by show 3 < 1000; decide), ?_⟩
  rw [fF_putH]
  exact k G2 _ ((GrowX.of g2 out ⟨_, h1⟩).trans (GrowX.put g2.sub out2)) ⟨dx, q, upd_same, hy⟩
theorem q_putT {t : Nat} (T : Cl K C) (hi : σ[0]? = some (some (.ref a))) (e : Ex G H) (out : G a = none) (hva : VAt C G H a v) (h : Ev tv σ G H (.int (t : Int))) (k : ∀ G2 H2, GrowX a G H G2 H2 → VAt C G2 H2 a { v with tolerance := t } → tz D σ H2) :
    tSeq (sFld K (tVar 0) tv "tolerance") tz D σ H := h H e (Ex.refl _) _ fun y G2 H2 g2 hy => by
  obtain rfl := is_int hy
  obtain ⟨dx, p, h1, h2⟩ := hva
  have out2 := g2.out out h1
  refine ⟨.ref a, hi, a, C, dx, _, rfl, g2.up _ _ h1, T.cl, T.nT, (by show 3 < 1000; decide), ?_⟩
  rw [fF_putT]
  exact k G2 _ ((GrowX.of g2 out ⟨_, h1⟩).trans (GrowX.put g2.sub out2)) ⟨dx, p, upd_same, h2.up g2.base⟩
theorem q_putL {s : Nat} (T : Cl K C) (hi : σ[0]? = some (some (.ref a))) (e : Ex G H) (out : G a = none) (hva : VAt C G H a v) (h : Ev tv σ G H (.int (s : Int))) (k : ∀ G2 H2, GrowX a G H G2 H2 → VAt C G2 H2 a { v with lotSize := s } → tz D σ H2) :
    tSeq (sFld K (tVar 0) tv "lot_size") tz D σ H := h H e (Ex.refl _) _ fun y G2 H2 g2 hy => by
  obtain rfl := is_int hy
  obtain ⟨dx, p, h1, h2⟩ := hva
  have out2 := g2.out out h1
  refine ⟨.ref a, hi, a, C, dx, _, rfl, g2.up _ _ h1, T.cl, T.nL, (by show 3 < 1000; decide), ?_⟩
  rw [fF_putL]
  exact k G2 _ ((GrowX.of g2 out ⟨_, h1⟩).trans (GrowX.put g2.sub out2)) ⟨dx, p, upd_same, h2.up g2.base⟩
theorem ev_num {ns : List Nat} {i : Nat} {A : Hp} (h : Ev te σ G A (encN ns)) (hi : i < ns.length) : Ev (tOp (rIxL K) te (tC (.int (i : Int)))) σ G A (.int ((MH.ng ns i : Nat) : Int)) := ev_atD (f := fun (n : Nat) => PyData.int (n : Int)) (d := 0) h ev_int hi
end
variable {K : PySem.W.Frag} {C : Addr}

theorem pure_add_hide (T : Cl K C) (vs : List V) (H : Hp) (Q : VK) (E : XK) (h : sp_add_hide C vs H Q E) : t_add_hide K C (DD Q) (start N_add_hide vs) H := by
  obtain ⟨G, a, v, ws, ds, v', d, rfl, e, out, hva, hv, _, ⟨kd, t, ar, rfl, hl, rfl, rfl⟩, k⟩ := h
  obtain ⟨x, y, z, rfl, h1, h2, h3⟩ := isL3 hv
  unfold MH.mAdd at k
  refine q_when e (eb_not (eb_B (ev_call (ea_cons (ev_var rfl h1) (ea_two (ev_var rfl h2) (ev_var rfl h3))) ⟨kd, t, ar, rfl, rfl⟩))) (fun c H2 g => ?_) (fun c H2 g => ?_)
  · rw [if_neg (by simpa using c)] at k
    exact s_retM g.sub out (hva.mono (Ex.refl _) g.up) (ev_ret1 ev_int) (k.go (GrowX.of g out hva.at))
  · rw [if_pos (by simpa using c)] at k
    have hva2 := hva.mono (Ex.refl _) g.up
    refine q_when g.sub (eb_test (ev_eq (ev_lenM (ev_hides T rfl hva2)) ev_int)) (fun c2 H3 g3 => ?_) (fun c2 H3 g3 => ?_)
    · have := of_decide_eq_true c2
      rw [if_pos (by omega)] at k
      exact s_retM g3.sub out (hva2.mono (Ex.refl _) g3.up) (ev_ret1 ev_int) (k.go (GrowX.of (g.trans g3) out hva.at))
    · have := of_decide_eq_false c2
      rw [if_neg (by omega)] at k
      have hva3 := hva2.mono (Ex.refl _) g3.up
      refine q_putH T rfl g3.sub out hva3 (ev_catM (ev_hides T rfl hva3) (ev_one (f := encH) (ev_hideM (ev_var rfl h1) (ev_var rfl h2) (ev_var rfl h3))) (by rw [List.length_singleton]; omega)) fun G4 H4 g4 hva4 => ?_
      refine s_retM g4.sub g4.out hva4 ((ev_ret1 (ev_sub (ev_lenM (ev_hides T rfl hva4)) ev_int)).is ?_) (k.go ((GrowX.of (g.trans g3) out hva.at).trans g4))
      show encI [(((v.hides ++ [(⟨kd, t, ar⟩ : Hide)]).length : Nat) : Int) - 1] = encI [(v.hides.length : Int)]
      rw [List.length_append, List.length_singleton]
      have e9 : ((v.hides.length + 1 : Nat) : Int) - 1 = (v.hides.length : Int) := by omega
      rw [e9]
theorem pure_remove_hide (T : Cl K C) (vs : List V) (H : Hp) (Q : VK) (E : XK) (h : sp_remove_hide C vs H Q E) : t_remove_hide K C (DD Q) (start N_remove_hide vs) H := by
  obtain ⟨G, a, v, ws, ds, v', d, rfl, e, out, hva, hv, _, ⟨i, rfl, hl, rfl, rfl⟩, k⟩ := h
  obtain ⟨x, rfl, h1⟩ := isL1 hv
  unfold MH.mRemove at k
  refine q_when e (eb_not (eb_B (ev_callV rfl hva (ea_one (ev_var rfl h1)) ⟨i, rfl, rfl⟩))) (fun c H2 g => ?_) (fun c H2 g => ?_)
  · rw [if_neg (by simpa using c)] at k
    exact s_retM g.sub out (hva.mono (Ex.refl _) g.up) (ev_ret1 ev_int) (k.go (GrowX.of g out hva.at))
  · have hi : i < v.hides.length := by simpa using c
    rw [if_pos hi] at k
    have hva2 := hva.mono (Ex.refl _) g.up
    have hh := ev_hides (K := K) (σ := [some (.ref a), some x]) (i := 0) T rfl hva2
    have cut : Ev (tOp rCat (tSl (rSlL K) (tFld K (tVar 0) "hides") tNoPart (tPart (tVar 1))) (tSl (rSlL K) (tFld K (tVar 0) "hides") (tPart (tOp rAddI (tVar 1) (tC (.int 1)))) tNoPart)) [some (.ref a), some x] G H2 (encHs (v.hides.eraseIdx i)) :=
      (ev_catM (ev_take hh (ev_var rfl h1)) (ev_drop hh (ev_add1 (ev_var rfl h1))) (by rw [List.length_take, List.length_drop]; omega)).is (by rw [erase_cut])
    refine q_putH T rfl g.sub out hva2 cut fun G4 H4 g4 hva4 => ?_
    refine s_retM g4.sub g4.out hva4 ((ev_ret1 (ev_lenM (ev_hides T rfl hva4))).is ?_) (k.go ((GrowX.of g out hva.at).trans g4))
    show encI [(((v.hides.eraseIdx i).length : Nat) : Int)] = encI [((v.hides.length - 1 : Nat) : Int)]
    rw [List.length_eraseIdx, if_pos hi]
theorem pure_set_limits (T : Cl K C) (vs : List V) (H : Hp) (Q : VK) (E : XK) (h : sp_set_limits C vs H Q E) : t_set_limits K C (DD Q) (start N_set_limits vs) H := by
  obtain ⟨G, a, v, ws, ds, v', d, rfl, e, out, hva, hv, _, ⟨t, s, rfl, rfl, rfl⟩, k⟩ := h
  obtain ⟨x, y, rfl, h1, h2⟩ := isL2 hv
  unfold MH.mSet at k
  refine q_when e (eb_not (eb_B (ev_call (ea_two (ev_var rfl h1) (ev_var rfl h2)) ⟨t, s, rfl, rfl⟩))) (fun c H2 g => ?_) (fun c H2 g => ?_)
  · rw [if_neg (by simpa using c)] at k
    exact s_retM g.sub out (hva.mono (Ex.refl _) g.up) (ev_ret1 ev_int) (k.go (GrowX.of g out hva.at))
  · rw [if_pos (by simpa using c)] at k
    have hva2 := hva.mono (Ex.refl _) g.up
    refine q_set g.sub (ev_lst (ea_cons ev_int (ea_two (ev_tol T rfl hva2) (ev_lot T rfl hva2))) (by show 3 ≤ 100000; decide)) fun w G3 H3 g3 hw => ?_
    have hva3 := hva2.mono g3.base g3.up
    have x3 : GrowX a G H G3 H3 := GrowX.of (g.trans g3) out hva.at
    refine q_putT T rfl g3.sub x3.out hva3 (ev_var rfl (h1.up g3.base)) fun G4 H4 g4 hva4 => ?_
    refine q_putL T rfl g4.sub g4.out hva4 (ev_var rfl (h2.up (g3.base.trans g4.base))) fun G5 H5 g5 hva5 => ?_
    exact s_retM g5.sub g5.out hva5 (ev_var rfl (hw.up (g4.base.trans g5.base))) (k.go ((x3.trans g4).trans g5))
theorem set_cut {α : Type} : ∀ (l : List α) (i : Nat) (x : α), i < l.length → l.take i ++ [x] ++ l.drop (i + 1) = l.set i x
  | a :: l, 0, x, _ => rfl
  | a :: l, i + 1, x, h => by
    have ih := set_cut l i x (by simpa using h)
    show a :: (l.take i ++ [x] ++ l.drop (i + 1)) = a :: l.set i x
    rw [ih]
theorem pure_thin_hide (T : Cl K C) (vs : List V) (H : Hp) (Q : VK) (E : XK) (h : sp_thin_hide C vs H Q E) : t_thin_hide K C (DD Q) (start N_thin_hide vs) H := by
  obtain ⟨G, a, v, ws, ds, v', d, rfl, e, out, hva, hv, _, ⟨i, t, rfl, hl, rfl, rfl⟩, k⟩ := h
  obtain ⟨x, y, rfl, h1, h2⟩ := isL2 hv
  unfold MH.mThin at k
  refine q_when e (eb_not (eb_B (ev_callV rfl hva (ea_one (ev_var rfl h1)) ⟨i, rfl, rfl⟩))) (fun c H2 g => ?_) (fun c H2 g => ?_)
  · rw [if_neg (by simpa using c)] at k
    exact s_retM g.sub out (hva.mono (Ex.refl _) g.up) (ev_ret1 ev_int) (k.go (GrowX.of g out hva.at))
  · have hi : i < v.hides.length := by simpa using c
    rw [if_pos hi] at k
    have hva2 := hva.mono (Ex.refl _) g.up
    refine q_asg3 g.sub (ev_atD (f := encH) (d := noHide) (ev_hides T rfl hva2) (ev_var rfl h1) hi) fun G3 H3 p q r g3 hp hq hr => ?_
    have x3 : GrowX a G H G3 H3 := GrowX.of (g.trans g3) out hva.at
    have hva3 := hva2.mono g3.base g3.up
    refine q_when g3.sub (eb_or (eb_test (ev_eq (ev_var rfl (h2.up g3.base)) ev_int)) fun _ => eb_test (ev_ge (ev_var rfl (h2.up g3.base)) (ev_var rfl hq))) (fun c2 H4 g4 => ?_) (fun c2 H4 g4 => ?_)
    · have c3 : t = 0 ∨ (hideAt v i).thickness ≤ t := by
        rw [Bool.or_eq_true, decide_eq_true_eq, decide_eq_true_eq] at c2
        rcases c2 with q | q
        · exact .inl (by omega)
        · refine .inr ?_
          have q' : (((hideAt v i).thickness : Nat) : Int) ≤ (t : Int) := q
          omega
      rw [if_pos c3] at k
      exact s_retM g4.sub x3.out (hva3.mono (Ex.refl _) g4.up) (ev_ret1 ev_int) (k.go (x3.trans (GrowX.of g4 x3.out hva3.at)))
    · have c3 : ¬ (t = 0 ∨ (hideAt v i).thickness ≤ t) := by
        intro z
        rw [Bool.or_eq_false_iff, decide_eq_false_iff_not, decide_eq_false_iff_not] at c2
        rcases z with z | z
        · exact c2.1 (by omega)
        · refine c2.2 ?_
          show (((hideAt v i).thickness : Nat) : Int) ≤ (t : Int)
          omega
      rw [if_neg c3] at k
      have hva4 := hva3.mono (Ex.refl _) g4.up
      have x4 : GrowX a G H G3 H4 := x3.trans (GrowX.of g4 x3.out hva3.at)
      have hh := ev_hides (K := K) (σ := [some (.ref a), some x, some y, some p, some q, some r]) (i := 0) T rfl hva4
      have cut : Ev (tOp rCat (tOp rCat (tSl (rSlL K) (tFld K (tVar 0) "hides") tNoPart (tPart (tVar 1))) (tLst (tCons (tTup (tCons (tVar 3) (tCons (tVar 2) (tCons (tVar 5) tNil)))) tNil))) (tSl (rSlL K) (tFld K (tVar 0) "hides") (tPart (tOp rAddI (tVar 1) (tC (.int 1)))) tNoPart)) [some (.ref a), some x, some y, some p, some q, some r] G3 H4 (encHs (v.hides.set i { hideAt v i with thickness := t })) :=
        (ev_catM (ev_catM (ev_take hh (ev_var rfl (h1.up g3.base))) (ev_one (f := encH) (x := { hideAt v i with thickness := t }) (ev_hideM (ev_var rfl hp) (ev_var rfl (h2.up g3.base)) (ev_var rfl hr))) (by rw [List.length_take, List.length_singleton]; omega)) (ev_drop hh (ev_add1 (ev_var rfl (h1.up g3.base)))) (by rw [List.length_append, List.length_take, List.length_drop, List.length_singleton]; omega)).is (by rw [set_cut _ _ _ hi])
      refine q_putH T rfl g4.sub x4.out hva4 cut fun G5 H5 g5 hva5 => ?_
      exact s_retM g5.sub g5.out hva5 (ev_ret1 (ev_var rfl (hq.up g5.base))) (k.go (x4.trans g5))
theorem eqI_iff {op n : Nat} : decide ((op : Int) = (n : Int)) = decide (op = n) := by
  rw [Bool.eq_iff_iff, decide_eq_true_eq, decide_eq_true_eq]
  omega
theorem eb_op {σ : L2.St} {G A : Hp} {op n : Nat} {w : V} {i : Nat} (hi : σ[i]? = some (some w)) (h : Is G w (.int (op : Int))) : EvB (tTest (tOp rEq (tVar i) (tC (.int (n : Int))))) σ G A (decide (op = n)) := (eb_test (ev_eq (ev_var hi h) ev_int)).is eqI_iff
theorem pure_change (T : Cl K C) (vs : List V) (H : Hp) (Q : VK) (E : XK) (h : sp_change C vs H Q E) : t_change K C (DD Q) (start N_change vs) H := by
  obtain ⟨G, a, v, ws, ds, v', d, rfl, e, out, hva, hv, _, ⟨op, ns, rfl, ho, hn, hl, rfl, rfl⟩, k⟩ := h
  obtain ⟨x, y, rfl, h1, h2⟩ := isL2 hv
  unfold MH.mChange at k
  refine q_when (b := decide (op = 1)) e (eb_op rfl h1) (fun c H2 g => ?_) (fun c H2 g => ?_)
  · obtain rfl := of_decide_eq_true c
    have hn3 : 3 ≤ ns.length := hn
    rw [if_pos rfl] at k
    exact s_callM rfl g.sub out (hva.mono (Ex.refl _) g.up) (ea_cons (ev_num (i := 0) (ev_var rfl h2) (by omega)) (ea_two (ev_num (i := 1) (ev_var rfl h2) (by omega)) (ev_num (i := 2) (ev_var rfl h2) (by omega)))) ⟨_, _, _, rfl, hl, rfl, rfl⟩ (k.go (GrowX.of g out hva.at))
  · have c1 := of_decide_eq_false c
    rw [if_neg c1] at k
    refine q_when (b := decide (op = 2)) g.sub (eb_op rfl h1) (fun c H3 g3 => ?_) (fun c H3 g3 => ?_)
    · obtain rfl := of_decide_eq_true c
      have hn3 : 1 ≤ ns.length := hn
      rw [if_pos rfl] at k
      exact s_callM rfl g3.sub out (hva.mono (Ex.refl _) (g.trans g3).up) (ea_one (ev_num (i := 0) (ev_var rfl h2) (by omega))) ⟨_, rfl, hl, rfl, rfl⟩ (k.go (GrowX.of (g.trans g3) out hva.at))
    · have c2 := of_decide_eq_false c
      rw [if_neg c2] at k
      refine q_when (b := decide (op = 4)) g3.sub (eb_op rfl h1) (fun c H4 g4 => ?_) (fun c H4 g4 => ?_)
      · obtain rfl := of_decide_eq_true c
        have hn3 : 2 ≤ ns.length := hn
        rw [if_pos rfl] at k
        exact s_callM rfl g4.sub out (hva.mono (Ex.refl _) ((g.trans g3).trans g4).up) (ea_two (ev_num (i := 0) (ev_var rfl h2) (by omega)) (ev_num (i := 1) (ev_var rfl h2) (by omega))) ⟨_, _, rfl, rfl, rfl⟩ (k.go (GrowX.of ((g.trans g3).trans g4) out hva.at))
      · have c3 := of_decide_eq_false c
        rw [if_neg c3] at k
        have ho5 : op = 5 := by
          simp only [List.mem_cons, List.not_mem_nil, or_false] at ho
          omega
        subst ho5
        have hn3 : 2 ≤ ns.length := hn
        exact s_callM rfl g4.sub out (hva.mono (Ex.refl _) ((g.trans g3).trans g4).up) (ea_two (ev_num (i := 0) (ev_var rfl h2) (by omega)) (ev_num (i := 1) (ev_var rfl h2) (by omega))) ⟨_, _, rfl, hl, rfl, rfl⟩ (k.go (GrowX.of ((g.trans g3).trans g4) out hva.at))
theorem pure_plain_question (T : Cl K C) (vs : List V) (H : Hp) (Q : VK) (E : XK) (h : sp_plain_question C vs H Q E) : t_plain_question K C (DD Q) (start N_plain_question vs) H := by
  obtain ⟨G, a, v, ws, ds, d, rfl, e, hva, hv, _, ⟨op, rfl, hl, rfl⟩, k⟩ := h
  obtain ⟨x, rfl, h1⟩ := isL1 hv
  unfold MH.aPlain at k
  refine q_when (b := decide (op = 6)) e (eb_op rfl h1) (fun c H2 g => ?_) (fun c H2 g => ?_)
  · rw [if_pos (of_decide_eq_true c)] at k
    exact s_ret g.sub (ev_callV rfl (hva.mono (Ex.refl _) g.up) ea_nil ⟨rfl, hl, rfl⟩) (k.go g)
  · rw [if_neg (of_decide_eq_false c)] at k
    refine q_when (b := decide (op = 9)) g.sub (eb_op rfl h1) (fun c H3 g3 => ?_) (fun c H3 g3 => ?_)
    · rw [if_pos (of_decide_eq_true c)] at k
      have hva3 := hva.mono (Ex.refl _) (g.trans g3).up
      exact s_ret g3.sub (ev_ret1 (ev_callV rfl hva3 (ea_one (ev_hides T rfl hva3)) ⟨_, rfl, by omega, rfl⟩)) (k.go (g.trans g3))
    · rw [if_neg (of_decide_eq_false c)] at k
      refine q_when (b := decide (op = 10)) g3.sub (eb_op rfl h1) (fun c H4 g4 => ?_) (fun c H4 g4 => ?_)
      · rw [if_pos (of_decide_eq_true c)] at k
        exact s_ret g4.sub (ev_callV rfl (hva.mono (Ex.refl _) ((g.trans g3).trans g4).up) ea_nil ⟨rfl, hl, rfl⟩) (k.go ((g.trans g3).trans g4))
      · rw [if_neg (of_decide_eq_false c)] at k
        refine q_when (b := decide (op = 11)) g4.sub (eb_op rfl h1) (fun c H5 g5 => ?_) (fun c H5 g5 => ?_)
        · rw [if_pos (of_decide_eq_true c)] at k
          exact s_ret g5.sub (ev_callV rfl (hva.mono (Ex.refl _) (((g.trans g3).trans g4).trans g5).up) ea_nil ⟨rfl, hl, rfl⟩) (k.go (((g.trans g3).trans g4).trans g5))
        · rw [if_neg (of_decide_eq_false c)] at k
          have hva5 := hva.mono (Ex.refl _) (((g.trans g3).trans g4).trans g5).up
          refine s_ret g5.sub (ev_if (b := decide (op = 12)) (eb_op rfl h1) (fun c => (ev_callV rfl hva5 ea_nil ⟨rfl, hl, rfl⟩).is ?_) (fun c => (ev_callV rfl hva5 ea_nil ⟨rfl, hl, rfl⟩).is ?_)) (k.go (((g.trans g3).trans g4).trans g5))
          · rw [if_pos (of_decide_eq_true c)]
          · rw [if_neg (of_decide_eq_false c)]
theorem pure_question (T : Cl K C) (vs : List V) (H : Hp) (Q : VK) (E : XK) (h : sp_question C vs H Q E) : t_question K C (DD Q) (start N_question vs) H := by
  obtain ⟨G, a, v, ws, ds, d, rfl, e, hva, hv, _, ⟨op, ns, rfl, ho, hn, hn14, hl, rfl⟩, k⟩ := h
  obtain ⟨x, y, rfl, h1, h2⟩ := isL2 hv
  unfold MH.aAsk at k
  refine q_when (b := decide (op = 3)) e (eb_op rfl h1) (fun c H2 g => ?_) (fun c H2 g => ?_)
  · obtain rfl := of_decide_eq_true c
    have hn3 : 1 ≤ ns.length := hn
    rw [if_pos rfl] at k
    exact s_ret g.sub (ev_callV rfl (hva.mono (Ex.refl _) g.up) (ea_one (ev_num (i := 0) (ev_var rfl h2) (by omega))) ⟨_, rfl, rfl⟩) (k.go g)
  · have n1 := of_decide_eq_false c
    rw [if_neg n1] at k
    refine q_when (b := decide (op = 7)) g.sub (eb_op rfl h1) (fun c H3 g3 => ?_) (fun c H3 g3 => ?_)
    · obtain rfl := of_decide_eq_true c
      have hn3 : 2 ≤ ns.length := hn
      rw [if_pos rfl] at k
      exact s_ret g3.sub (ev_callV rfl (hva.mono (Ex.refl _) (g.trans g3).up) (ea_two (ev_num (i := 0) (ev_var rfl h2) (by omega)) (ev_num (i := 1) (ev_var rfl h2) (by omega))) ⟨_, _, rfl, rfl⟩) (k.go (g.trans g3))
    · have n2 := of_decide_eq_false c
      rw [if_neg n2] at k
      replace g := g.trans g3
      refine q_when (b := decide (op = 8)) g.sub (eb_op rfl h1) (fun c H3 g3 => ?_) (fun c H3 g3 => ?_)
      · rw [if_pos (of_decide_eq_true c)] at k
        exact s_ret g3.sub (ev_callV rfl (hva.mono (Ex.refl _) (g.trans g3).up) (ea_one (ev_var rfl h2)) ⟨ns, rfl, hn14, rfl⟩) (k.go (g.trans g3))
      · have n3 := of_decide_eq_false c
        rw [if_neg n3] at k
        replace g := g.trans g3
        refine q_when (b := decide (op = 13)) g.sub (eb_op rfl h1) (fun c H3 g3 => ?_) (fun c H3 g3 => ?_)
        · rw [if_pos (of_decide_eq_true c)] at k
          exact s_ret g3.sub (ev_callV rfl (hva.mono (Ex.refl _) (g.trans g3).up) (ea_one (ev_var rfl h2)) ⟨ns, rfl, hn14, rfl⟩) (k.go (g.trans g3))
        · have n4 := of_decide_eq_false c
          rw [if_neg n4] at k
          replace g := g.trans g3
          refine q_when (b := decide (op = 14)) g.sub (eb_op rfl h1) (fun c H3 g3 => ?_) (fun c H3 g3 => ?_)
          · obtain rfl := of_decide_eq_true c
            have hn3 : 1 ≤ ns.length := hn
            rw [if_pos rfl] at k
            exact s_ret g3.sub (ev_callV rfl (hva.mono (Ex.refl _) (g.trans g3).up) (ea_one (ev_num (i := 0) (ev_var rfl h2) (by omega))) ⟨_, rfl, hl, rfl⟩) (k.go (g.trans g3))
          · have n5 := of_decide_eq_false c
            rw [if_neg n5] at k
            replace g := g.trans g3
            refine q_when (b := decide (op = 15)) g.sub (eb_op rfl h1) (fun c H3 g3 => ?_) (fun c H3 g3 => ?_)
            · obtain rfl := of_decide_eq_true c
              have hn3 : 1 ≤ ns.length := hn
              rw [if_pos rfl] at k
              exact s_ret g3.sub (ev_callV rfl (hva.mono (Ex.refl _) (g.trans g3).up) (ea_one (ev_num (i := 0) (ev_var rfl h2) (by omega))) ⟨_, rfl, hl, rfl⟩) (k.go (g.trans g3))
            · have n6 := of_decide_eq_false c
              rw [if_neg n6] at k
              replace g := g.trans g3
              refine q_when (b := decide (op = 16)) g.sub (eb_op rfl h1) (fun c H3 g3 => ?_) (fun c H3 g3 => ?_)
              · obtain rfl := of_decide_eq_true c
                have hn3 : 1 ≤ ns.length := hn
                rw [if_pos rfl] at k
                exact s_ret g3.sub (ev_callV rfl (hva.mono (Ex.refl _) (g.trans g3).up) (ea_one (ev_num (i := 0) (ev_var rfl h2) (by omega))) ⟨_, rfl, hl, rfl⟩) (k.go (g.trans g3))
              · have n7 := of_decide_eq_false c
                rw [if_neg n7] at k
                have ho5 : op = 17 := by
                  simp only [List.mem_cons, List.not_mem_nil, or_false] at ho
                  omega
                subst ho5
                have hn3 : 3 ≤ ns.length := hn
                exact s_ret g3.sub (ev_callV rfl (hva.mono (Ex.refl _) (g.trans g3).up) (ea_cons (ev_num (i := 0) (ev_var rfl h2) (by omega)) (ea_two (ev_num (i := 1) (ev_var rfl h2) (by omega)) (ev_num (i := 2) (ev_var rfl h2) (by omega)))) ⟨_, _, _, rfl, hl, rfl⟩) (k.go (g.trans g3))
theorem eb_in {σ : L2.St} {G A : Hp} {op : Nat} {w : V} {i : Nat} {ta : TA} {l : List Nat} (hi : σ[i]? = some (some w)) (h : Is G w (.int (op : Int))) (ht : EvA ta σ G A (l.map fun (n : Nat) => PyData.int (n : Int))) (hl : l.length ≤ 100) : EvB (tTest (tOp (rIn K false) (tVar i) (tTup ta))) σ G A (decide (op ∈ l)) := by
  have q := eb_test (ev_inT (K := K) (ev_var hi h) ((ev_tup ht (by rw [List.length_map]; omega)).is (show PyData.tuple (l.map fun (n : Nat) => PyData.int (n : Int)) = .tuple ((l.map fun (n : Nat) => (n : Int)).map PyData.int) by rw [List.map_map]; rfl)))
  rw [mem_cast] at q
  exact q
theorem pure_deed (T : Cl K C) (vs : List V) (H : Hp) (Q : VK) (E : XK) (h : sp_deed C vs H Q E) : t_deed K C (DD Q) (start N_deed vs) H := by
  obtain ⟨G, a, v, ws, ds, v', d, rfl, e, out, hva, hv, _, ⟨op, ns, rfl, ho, ho0, hn, hn14, hl, rfl, rfl⟩, k⟩ := h
  obtain ⟨x, y, rfl, h1, h2⟩ := isL2 hv
  unfold MH.mDeed at k
  refine q_when (b := decide (op ∈ [1, 2, 4, 5])) e (eb_in (l := [1, 2, 4, 5]) rfl h1 (ea_cons ev_int (ea_cons ev_int (ea_two ev_int ev_int))) (by decide)) (fun c H2 g => ?_) (fun c H2 g => ?_)
  · rw [if_pos (of_decide_eq_true c)] at k
    exact s_callM rfl g.sub out (hva.mono (Ex.refl _) g.up) (ea_two (ev_var rfl h1) (ev_var rfl h2)) ⟨op, ns, rfl, of_decide_eq_true c, hn, hl, rfl, rfl⟩ (k.go (GrowX.of g out hva.at))
  · have n1 := of_decide_eq_false c
    rw [if_neg n1] at k
    refine q_when (b := decide (op ∈ [6, 9, 10, 11, 12, 18])) g.sub (eb_in (l := [6, 9, 10, 11, 12, 18]) rfl h1 (ea_cons ev_int (ea_cons ev_int (ea_cons ev_int (ea_cons ev_int (ea_two ev_int ev_int))))) (by decide)) (fun c H3 g3 => ?_) (fun c H3 g3 => ?_)
    · rw [if_pos (of_decide_eq_true c)] at k
      have hva3 := hva.mono (Ex.refl _) (g.trans g3).up
      exact s_retM g3.sub out hva3 (ev_callV rfl hva3 (ea_one (ev_var rfl h1)) ⟨op, rfl, hl, rfl⟩) (k.go (GrowX.of (g.trans g3) out hva.at))
    · have n2 := of_decide_eq_false c
      rw [if_neg n2] at k
      have hva3 := hva.mono (Ex.refl _) (g.trans g3).up
      refine s_retM g3.sub out hva3 (ev_callV rfl hva3 (ea_two (ev_var rfl h1) (ev_var rfl h2)) ⟨op, ns, rfl, ?_, hn, hn14, hl, rfl⟩) (k.go (GrowX.of (g.trans g3) out hva.at))
      simp only [List.mem_cons, List.not_mem_nil, or_false] at n1 n2 ⊢
      omega
end DT
namespace DT
open PySem PySem.Spec PyProof.Rows L2
open Kp394 (Hide Inventory hideAt)
open MH (Itm noIt noHide)
/-- the program's def: a list of calls is handed in, what is due comes out -/
def sp_answers (K : PySem.W.Frag) : Sp := fun vs H Q _ => ∃ (a : Addr) (ns : List Int), vs = [.ref a] ∧ SqL K H a (ns.map V.int) ∧ PyKp394.answers_asked ns = true ∧
  ∀ (H' : Hp) (p : Addr), H' p = some (.lst ((PyKp394.answers ns).map V.int)) → Q (.ref p) H'
section
variable {K : PySem.W.Frag} {C a x : Addr} {σ : L2.St} {G A H G2 H2 : Hp} {ta tb te : TE} {t : TT} {D : Ends} {tz tu tw : TS} {d : PyData} {v v' : Inventory} {g : TG}
theorem pure_init (T : Cl K C) (vs : List V) (H : Hp) (Q : VK) (E : XK) (h : sp_init C vs H Q E) : t_init K C { nx := fun _ H' => Q .non H', rt := Q } (start N_init vs) H := by
  obtain ⟨p, dx, t, s, rfl, hp, k⟩ := h
  refine ⟨Nat.zero_le _, fun q hq => ?_⟩
  have hpq : p ≠ q := ne_of_none hp hq
  refine ⟨_, rfl, p, C, dx, [], rfl, by rw [upd_ne hpq]; exact hp, T.cl, T.nH, (by show 0 < 1000; decide), ?_⟩
  refine ⟨_, rfl, _, rfl, p, C, dx, _, rfl, upd_same, T.cl, T.nT, (by show 1 < 1000; decide), ?_⟩
  refine ⟨_, rfl, _, rfl, p, C, dx, _, rfl, upd_same, T.cl, T.nL, (by show 2 < 1000; decide), ?_⟩
  refine k _ q (fun b o e nb => ?_) hq ?_ ?_
  · rw [upd_ne nb, upd_ne nb, upd_ne nb, upd_ne (ne_of_none e hq)]
    exact e
  · rw [upd_ne hpq.symm, upd_ne hpq.symm, upd_ne hpq.symm]
    exact upd_same
  · rw [upd_same, fF_new]
/-! ### the handed list: it is locked, it is read -/
theorem sq_up {xs : List V} (e : Ex H H2) (h : SqL K H a xs) : SqL K H2 a xs := L2.Same.seq e h
theorem ev_ixF {i : Nat} {j z : Int} {xs : List Int} (hi : σ[i]? = some (some (.ref a))) (h : SqL K A a (xs.map V.int)) (hb : Ev tb σ G A (.int j)) (hz : atI xs j = some z) : Ev (tOp (rIxL K) (tVar i) tb) σ G A (.int z) := fun H1 e1 a1 Q k =>
  ⟨.ref a, hi, hb H1 e1 a1 _ fun y G2 H2 g2 hy => by
    have q : atI (xs.map V.int) j = some (V.int z) := by
      unfold atI at hz ⊢
      rw [List.length_map]
      cases e : ixN xs.length j with
      | none => rw [e] at hz; cases hz
      | some m =>
        rw [e] at hz
        have hz' : xs[m]? = some z := hz
        show (xs.map V.int)[m]? = some (V.int z)
        rw [List.getElem?_map, hz']
        rfl
    exact ⟨a, _, j, V.int z, rfl, is_int hy, sq_up (a1.trans g2.up) h, q, k.go g2 _ _ _ (Grow.refl g2.sub) (.int z)⟩⟩
theorem ev_lenF {i : Nat} {xs : List Int} (hi : σ[i]? = some (some (.ref a))) (h : SqL K A a (xs.map V.int)) : Ev (tCB (rLen K) (tCons (tVar i) tNil)) σ G A (.int (xs.length : Int)) := fun H1 e1 a1 Q k =>
  ⟨.ref a, hi, a, _, rfl, Or.inl (sq_up a1 h), by rw [List.length_map]; exact k _ G H1 (Grow.refl e1) (.int _)⟩
theorem ev_midF {i : Nat} {xs : List Int} {n m : Nat} (hi : σ[i]? = some (some (.ref a))) (h : SqL K A a (xs.map V.int)) (ha : Ev ta σ G A (.int (n : Int))) (hb : Ev tb σ G A (.int (m : Int))) (hm : m ≤ xs.length) :
    Ev (tSl (rSlL K) (tVar i) (tPart ta) (tPart tb)) σ G A (encI ((xs.drop n).take (m - n))) := fun H1 e1 a1 Q k =>
  ⟨.ref a, hi, (eo_some ha) H1 e1 a1 _ fun H3 e3 => (eo_some hb) H3 (e1.trans e3) (a1.trans e3) _ fun H4 e4 => by
    refine ⟨a, _, rfl, sq_up ((a1.trans e3).trans e4) h, fun l hl => ?_⟩
    have g4 : Grow G H1 G H4 := ⟨e3.trans e4, Ex.refl _, (e1.trans e3).trans e4, fun _ _ q => .inl q⟩
    have ec : cutV (xs.map V.int) (some (n : Int)) (some (m : Int)) = ((xs.drop n).take (m - n)).map V.int := by
      unfold cutV
      rw [List.length_map, HT.sIx_nat, HT.sIx_nat, Nat.min_eq_left hm, List.map_take, List.map_drop]
      by_cases c : n ≤ xs.length
      · rw [Nat.min_eq_left c]
      · rw [Nat.min_eq_right (by omega), List.drop_eq_nil_of_le (by rw [List.length_map]; exact Nat.le_refl _), List.drop_eq_nil_of_le (by rw [List.length_map]; omega), List.take_nil, List.take_nil]
    rw [ec]
    exact k.go g4 _ _ _ (Grow.made g4.sub hl) (.lst upd_same (ints_is _))⟩
/-! ### what the loop keeps -/
def IvAt (C : Addr) (H0 G H : Hp) (iv : V) : Option Inventory → Prop
  | none => iv = .non
  | some v => ∃ x, iv = .ref x ∧ H0 x = none ∧ G x = none ∧ VAt C G H x v
structure Lp (C : Addr) (H0 : Hp) (p : Addr) (iv : V) (st : Option Inventory) (out : List Int) (G H : Hp) : Prop where
  up : Ex H0 H
  sub : Ex G H
  fp : H0 p = none
  gp : G p = none
  hp : H p = some (.lst (out.map V.int))
  iv : IvAt C H0 G H iv st
theorem Lp.grow {H0 : Hp} {p : Addr} {iv : V} {st : Option Inventory} {out : List Int} (l : Lp C H0 p iv st out G H) (g : Grow G H G2 H2) : Lp C H0 p iv st out G2 H2 := by
  refine ⟨l.up.trans g.up, g.sub, l.fp, g.out l.gp l.hp, g.up _ _ l.hp, ?_⟩
  have q := l.iv
  cases st with
  | none => exact q
  | some v =>
    obtain ⟨x, e, h0, gx, hv⟩ := q
    obtain ⟨o, ho⟩ := hv.at
    exact ⟨x, e, h0, g.out gx ho, hv.mono g.base g.up⟩
theorem VAt.ne {p : Addr} {xs : List V} (h : VAt C G H x v) (hp : H p = some (.lst xs)) : x ≠ p := by
  obtain ⟨dx, q, h1, _⟩ := h
  exact ne_of h1 hp (by intro z; cases z)
theorem Lp.write {H0 : Hp} {p : Addr} {iv : V} {st : Option Inventory} {out out2 : List Int} (l : Lp C H0 p iv st out G H) : Lp C H0 p iv st out2 G (upd H p (.lst (out2.map V.int))) := by
  refine ⟨l.up.put l.fp, l.sub.put l.gp, l.fp, l.gp, upd_same, ?_⟩
  have q := l.iv
  cases st with
  | none => exact q
  | some v =>
    obtain ⟨x, e, h0, gx, hv⟩ := q
    have nx := hv.ne l.hp
    obtain ⟨dx, r, h1, h2⟩ := hv
    exact ⟨x, e, h0, gx, dx, r, by rw [upd_ne nx]; exact h1, h2⟩
theorem Lp.deed {H0 : Hp} {p : Addr} {out : List Int} (l : Lp C H0 p (.ref x) (some v) out G H) (g : GrowX x G H G2 H2) (hv2 : VAt C G2 H2 x v') : Lp C H0 p (.ref x) (some v') out G2 H2 := by
  obtain ⟨y, e, h0, gx, hv⟩ := l.iv
  cases e
  have nx := hv.ne l.hp
  refine ⟨fun b o q => g.up b o (fun e => by rw [e, h0] at q; cases q) (l.up b o q), g.sub, l.fp, ?_, g.up _ _ nx.symm l.hp, x, rfl, h0, g.out, hv2⟩
  cases q : G2 p with
  | none => rfl
  | some u =>
    rcases g.new p u q with z | z
    · rw [l.gp] at z; cases z
    · rw [l.hp] at z; cases z
/-! ### the turn's statements -/
theorem eb_isN {i : Nat} {w : V} (hi : σ[i]? = some (some w)) : EvB (tTest (tOp rIsN (tVar i) (tC .non))) σ G A (decide (w = .non)) := fun H1 _ _ Q k => ⟨w, hi, rfl, _, rfl, k H1 (Ex.refl _)⟩
theorem s_asgIf {b : Bool} (e : Ex G H) (h : EvB t σ G H b) (h1 : b = true → ∀ H2, Grow G H G H2 → tAsg ta g D σ H2) (h2 : b = false → ∀ H2, Grow G H G H2 → tAsg tb g D σ H2) : tAsg (tIf t ta tb) g D σ H := h H e (Ex.refl _) _ fun H2 e2 => by
  have g2 : Grow G H G H2 := ⟨e2, Ex.refl _, e.trans e2, fun _ _ q => .inl q⟩
  cases b with
  | true =>
    rw [if_pos rfl]
    exact h1 rfl H2 g2
  | false =>
    rw [if_neg Bool.false_ne_true]
    exact h2 rfl H2 g2
theorem s_setCallM {n i j : Nat} {R : Inventory → List PyData → Inventory → PyData → Prop} {t : TA} {ds : List PyData} (hi : σ[i]? = some (some (.ref a))) (e : Ex G H) (out : G a = none) (hva : VAt C G H a v) (h : EvA t σ G H ds) (r : R v ds v' d)
    (k : ∀ w G2 H2, GrowX a G H G2 H2 → VAt C G2 H2 a v' → Is G2 w d → D.nx (σ.set j (some w)) H2) (hn : ds.length = n := by rfl) :
    tAsg (tCall (spM C n R) [] E0 (tCons (tVar i) t)) (gName j) D σ H := ⟨.ref a, hi, h H e (Ex.refl _) _ fun vs G2 H2 g2 hw => by
    obtain ⟨o, ho⟩ := hva.at
    have k' : RetM C G H a v' d fun x H1 => gName j x σ H1 D.nx := k
    show spM C n R ((.ref a :: vs) ++ []) H2 _ E0
    rw [List.append_nil]
    exact ⟨G2, a, v, vs, ds, v', d, rfl, g2.sub, g2.out out ho, hva.mono g2.base g2.up, hw, hn, r, k'.go (GrowX.of g2 out ⟨o, ho⟩)⟩⟩
/-- x = Inventory(t, s) -/
theorem q_make {H0 : Hp} {p : Addr} {iv : V} {st : Option Inventory} {out : List Int} {j tl ls : Nat} {t : TA} (l : Lp C H0 p iv st out G H) (h : EvA t σ G H [.int (tl : Int), .int (ls : Int)])
    (k : ∀ x G2 H2, Lp C H0 p (.ref x) (some ⟨[], tl, ls⟩) out G2 H2 → tz D (σ.set j (some (.ref x))) H2) : tSeq (tAsg (tMake C (sp_init C) [] E0 t) (gName j)) tz D σ H := h H l.sub (Ex.refl _) _ fun vs G1 H1 g1 hv => by
  intro x dx nx nd ne
  obtain ⟨w1, w2, rfl, q1, q2⟩ := isL2 hv
  obtain rfl := is_int q1
  obtain rfl := is_int q2
  have l1 := l.grow g1
  refine ⟨x, dx, tl, ls, rfl, upd_same, fun H' q keep hq hl hx => ⟨rfl, ?_⟩⟩
  have up1 : ∀ b o, H1 b = some o → H' b = some o := fun b o e => keep b o (by rw [upd_ne (ne_of_none e nx), upd_ne (ne_of_none e nd)]; exact e) (ne_of_none e nx)
  have xq : x ≠ q := fun e => by
    rw [e, upd_same] at hq
    cases hq
  have dq : dx ≠ q := fun e => by
    rw [← e, upd_ne ne, upd_same] at hq
    cases hq
  have hq1 : H1 q = none := by
    rw [upd_ne xq.symm, upd_ne dq.symm] at hq
    exact hq
  have pq : p ≠ q := ne_of_none l1.hp hq1
  have gx : G1 x = none := l1.sub.nope nx
  refine k x (upd G1 q (.lst [])) H' ⟨fun b o e => up1 b o (l1.up b o e), fun b o e => ?_, l1.fp, by rw [upd_ne pq]; exact l1.gp, up1 _ _ l1.hp, x, rfl, l1.up.nope nx, by rw [upd_ne xq]; exact gx, dx, q, hx, .lst upd_same .nil⟩
  by_cases c : b = q
  · subst c
    rw [upd_same] at e
    cases e
    exact hl
  · rw [upd_ne c] at e
    exact up1 b o (l1.sub b o e)
end
/-! ### the list of calls by places -/
theorem flat_app : ∀ (q r : List (Nat × List Nat)), MH.flat (q ++ r) = MH.flat q ++ MH.flat r
  | [], _ => rfl
  | c :: q, r => by
    show MH.flat1 c ++ MH.flat (q ++ r) = (MH.flat1 c ++ MH.flat q) ++ MH.flat r
    rw [flat_app q r, List.append_assoc]
theorem flat1_len (c : Nat × List Nat) : (MH.flat1 c).length = c.2.length + 3 := by
  unfold MH.flat1
  simp
theorem at_app {xs ys : List Int} {j : Nat} {z : Int} (h : ys[j]? = some z) : atI (xs ++ ys) ((xs.length + j : Nat) : Int) = some z := atI_nat (by
  rw [List.getElem?_append_right (by omega)]
  have e : xs.length + j - xs.length = j := by omega
  rw [e]
  exact h)
theorem cut_app {xs : List Int} {c : Nat × List Nat} {ys : List Int} : ((xs ++ (MH.flat1 c ++ ys)).drop (xs.length + 2)).take (xs.length + 2 + c.2.length - (xs.length + 2)) = c.2.map fun (n : Nat) => (n : Int) := by
  have e : xs.length + 2 + c.2.length - (xs.length + 2) = (c.2.map fun (n : Nat) => (n : Int)).length := by
    rw [List.length_map]
    omega
  rw [e, List.drop_append, List.drop_eq_nil_of_le (by omega), List.nil_append]
  have e2 : xs.length + 2 - xs.length = 2 := by omega
  rw [e2]
  unfold MH.flat1
  show List.take _ ((c.2.map (fun (n : Nat) => (n : Int)) ++ [0]) ++ ys) = _
  rw [List.append_assoc, List.take_left]
theorem run_app : ∀ (q r : List (Nat × List Nat)) (st : Option Inventory), ∃ st', MH.run st (q ++ r) = MH.run st q ++ MH.run st' r
  | [], _, st => ⟨st, rfl⟩
  | c :: q, r, st => by
    obtain ⟨st', h⟩ := run_app q r (MH.mCall st c.1 c.2).1
    refine ⟨st', ?_⟩
    show _ :: (_ ++ MH.run _ (q ++ r)) = (_ :: (_ ++ MH.run _ q)) ++ _
    rw [h]
    simp
variable {K : PySem.W.Frag} {C : Addr}
/-- behind the turn's if: found.append(len(answer)); found.extend(answer) -/
theorem turn_end {H0 G H : Hp} {a p : Addr} {iv w : V} {st : Option Inventory} {out ans : List Int} {at_ op en nb : V} {D : Ends} (l : Lp C H0 p iv st out G H) (hw : Is G w (encI ans)) (hz : out.length + 1 + ans.length ≤ 10000000)
    (k : ∀ G2 H2, Lp C H0 p iv st (out ++ ((ans.length : Int) :: ans)) G2 H2 → D.nx [some (.ref a), some iv, some (.ref p), some at_, some op, some en, some nb, some w] H2) :
    tSeq (tDrop (tBM K "list" rAppend (tVar 2) (tCons (tCB (rLen K) (tCons (tVar 7) tNil)) tNil))) (tDrop (tBM K "list" rExtend (tVar 2) (tCons (tVar 7) tNil))) D [some (.ref a), some iv, some (.ref p), some at_, some op, some en, some nb, some w] H := by
  have sl : (10000000 : Nat) < sizeLine := by decide
  refine ⟨.ref p, rfl, Or.inl ⟨rfl, _, SqL.of l.hp⟩, (ev_lenM (f := PyData.int) (ev_var rfl hw)) H l.sub (Ex.refl _) _ fun y G2 H2 g2 hy => ?_⟩
  obtain rfl := is_int hy
  have l2 := l.grow g2
  refine ⟨p, _, _, rfl, rfl, l2.hp, by rw [List.length_map]; omega, ?_⟩
  have e1 : out.map V.int ++ [V.int (ans.length : Int)] = (out ++ [(ans.length : Int)]).map V.int := by rw [List.map_append]; rfl
  rw [e1]
  have l3 := l2.write (out2 := out ++ [(ans.length : Int)])
  obtain ⟨q, ys, rfl, h1, h2⟩ := is_lst (hw.up g2.base)
  obtain rfl := IsL.ints h2
  refine ⟨.ref p, rfl, Or.inl ⟨rfl, _, SqL.of l3.hp⟩, .ref q, rfl, p, q, _, _, rfl, rfl, l3.hp, l3.sub _ _ h1, by rw [List.length_map, List.length_map, List.length_append, List.length_singleton]; omega, ?_⟩
  have e2 : (out ++ [(ans.length : Int)]).map V.int ++ ans.map V.int = (out ++ ((ans.length : Int) :: ans)).map V.int := by
    rw [← List.map_append, List.append_assoc]
    rfl
  rw [e2]
  exact k G2 _ (l3.write)
theorem q_val {σ : L2.St} {H : Hp} {D : Ends} {tz : TS} {i : Nat} {v : V} (h : tz D (σ.set i (some v)) H) : tSeq (tAsg (tC v) (gName i)) tz D σ H := h
/-- at the loop's head: pre is done, rest is to come -/
def Wl (C : Addr) (H0 : Hp) (a p : Addr) (q : List (Nat × List Nat)) (m : Nat) (σ : L2.St) (H : Hp) : Prop := ∃ (pre rest : List (Nat × List Nat)) (st : Option Inventory) (iv : V) (out : List Int) (G : Hp) (u4 u5 u6 u7 : Option V),
  q = pre ++ rest ∧ m = rest.length ∧ MH.GoodS st ∧ MH.run none q = out ++ MH.run st rest ∧ σ = [some (.ref a), some iv, some (.ref p), some (.int ((MH.flat pre).length : Int)), u4, u5, u6, u7] ∧ Lp C H0 p iv st out G H
theorem pure_answers (T : Cl K C) (vs : List V) (H0 : Hp) (Q : VK) (E : XK) (h : sp_answers K vs H0 Q E) : t_answers K C (DD Q) (start N_answers vs) H0 := by
  obtain ⟨a, ns, rfl, hS, hask, k⟩ := h
  obtain ⟨q, hq, rfl, hq60, hdue, hlen⟩ := MH.request hask
  rw [hdue] at k
  refine q_val ?_
  refine q_own fun p hp => ?_
  refine q_val ?_
  have l0 : Lp C H0 p .non none [] (fun _ => none) (upd H0 p (.lst [])) := ⟨(Ex.refl H0).put hp, fun _ _ z => (by cases z), hp, rfl, upd_same, rfl⟩
  refine q_while (Wl C H0 a p q) q.length ⟨[], q, none, .non, [], _, none, none, none, none, rfl, rfl, trivial, rfl, rfl, l0⟩ ?_
  rintro m σ H ⟨pre, rest, st, iv, out, G, u4, u5, u6, u7, eq, rfl, gst, erun, rfl, l⟩
  refine ⟨G, _, l.sub, eb_test (ev_lt (ev_var rfl (.int _)) (ev_lenF rfl (sq_up l.up hS))), fun c H1 e1 => ?_, fun c H1 e1 => ?_⟩
  · cases rest with
    | nil =>
      have := of_decide_eq_true c
      rw [eq, List.append_nil] at this
      omega
    | cons cl r =>
      have l := l.grow ⟨e1, Ex.refl _, l.sub.trans e1, fun _ _ z => .inl z⟩
      have hok := hq cl (by rw [eq]; simp)
      have efl : MH.flat q = MH.flat pre ++ (MH.flat1 cl ++ MH.flat r) := by
        rw [eq, flat_app]
        rfl
      have hS : SqL K H0 a ((MH.flat pre ++ (MH.flat1 cl ++ MH.flat r)).map V.int) := efl ▸ hS
      have z0 : atI (MH.flat pre ++ (MH.flat1 cl ++ MH.flat r)) (((MH.flat pre).length : Nat) : Int) = some (cl.1 : Int) := at_app (j := 0) rfl
      have z1 : atI (MH.flat pre ++ (MH.flat1 cl ++ MH.flat r)) ((((MH.flat pre).length + 1 : Nat)) : Int) = some (cl.2.length : Int) := at_app (j := 1) rfl
      have hlen1 := flat1_len cl
      -- operation, end, numbers, at
      refine q_set l.sub (ev_ixF rfl (sq_up l.up hS) (ev_var rfl (.int _)) z0) fun w4 G4 H4 g4 hw4 => ?_
      have l := l.grow g4
      refine q_set l.sub ((ev_add (ev_add (ev_var rfl (.int _)) ev_int) (ev_ixF rfl (sq_up l.up hS) (ev_add1 (ev_var rfl (.int _))) z1)).is (show PyData.int (((MH.flat pre).length : Int) + 2 + (cl.2.length : Int)) = .int (((MH.flat pre).length + 2 + cl.2.length : Nat) : Int) from congrArg PyData.int (by omega))) fun w5 G5 H5 g5 hw5 => ?_
      have l := l.grow g5
      refine q_set l.sub ((ev_midF (n := (MH.flat pre).length + 2) (m := (MH.flat pre).length + 2 + cl.2.length) rfl (sq_up l.up hS) ((ev_add (ev_var rfl (.int _)) ev_int).is (congrArg PyData.int (by omega))) (ev_var rfl hw5) (by rw [List.length_append, List.length_append]; omega)).is (show _ = encN cl.2 by rw [cut_app, encI, List.map_map]; rfl)) fun w6 G6 H6 g6 hw6 => ?_
      have l := l.grow g6
      refine q_set l.sub (ev_add1 (ev_var rfl (hw5.up g6.base))) fun w3 G3 H3 g3 hw3 => ?_
      have l := l.grow g3
      have hw4 := hw4.up ((g5.base.trans g6.base).trans g3.base)
      have hw6 := hw6.up g3.base
      obtain rfl := is_int hw3
      -- what each way ends in
      have fin : ∀ (st' : Option Inventory) (iv' w : V) (ans : List Int) (G2 H2 : Hp), MH.mCall st cl.1 cl.2 = (st', ans) → Lp C H0 p iv' st' out G2 H2 → Is G2 w (encI ans) →
          tSeq (tDrop (tBM K "list" rAppend (tVar 2) (tCons (tCB (rLen K) (tCons (tVar 7) tNil)) tNil))) (tDrop (tBM K "list" rExtend (tVar 2) (tCons (tVar 7) tNil)))
            { DD Q with nx := fun σ2 H2 => ∃ m', m' < (cl :: r).length ∧ Wl C H0 a p q m' σ2 H2, ct := fun σ2 H2 => ∃ m', m' < (cl :: r).length ∧ Wl C H0 a p q m' σ2 H2, bk := tRet (tVar 2) (DD Q) }
            [some (.ref a), some iv', some (.ref p), some (.int (((MH.flat pre).length + 2 + cl.2.length + 1 : Nat) : Int)), some w4, some w5, some w6, some w] H2 := fun st' iv' w ans G2 H2 em l2 hw => by
        have er : MH.run st (cl :: r) = (ans.length : Int) :: (ans ++ MH.run st' r) := by
          show ((MH.mCall st cl.1 cl.2).2.length : Int) :: ((MH.mCall st cl.1 cl.2).2 ++ MH.run (MH.mCall st cl.1 cl.2).1 r) = _
          rw [em]
        rw [er] at erun
        refine turn_end l2 hw ?_ fun G9 H9 l9 => ⟨r.length, Nat.lt_succ_self _, pre ++ [cl], r, st', iv', out ++ ((ans.length : Int) :: ans), G9, some w4, some w5, some w6, some w, by rw [eq, List.append_assoc]; rfl, rfl, ?_, ?_, ?_, l9⟩
        · rw [erun] at hlen
          rw [List.length_append, List.length_cons, List.length_append] at hlen
          omega
        · have := MH.good_call gst cl.1 cl.2
          rw [em] at this
          exact this
        · rw [erun, List.append_assoc]
          rfl
        · have e9 : (MH.flat (pre ++ [cl])).length = (MH.flat pre).length + 2 + cl.2.length + 1 := by
            rw [flat_app]
            show (MH.flat pre ++ (MH.flat1 cl ++ [])).length = _
            rw [List.append_nil, List.length_append, hlen1]
            omega
          rw [e9]
      refine q_if l.sub (eb_test (ev_ne (ev_var rfl hw4) ev_int)) (fun c H2 g2 => ?_) (fun c H2 g2 => ?_)
      · have hop : cl.1 ≠ 0 := fun e => by
          rw [e] at c
          exact absurd c (by decide)
        have l := l.grow g2
        cases st with
        | none =>
          obtain rfl : iv = .non := l.iv
          refine s_asgIf l.sub (eb_isN rfl) (fun _ H9 g9 => ?_) (fun c => absurd c (by decide))
          have l := l.grow g9
          refine s_set l.sub (ev_ret1 ev_int) fun w G8 H8 g8 hw => ?_
          exact fin none .non w [-11] G8 H8 (by unfold MH.mCall; rw [if_neg hop]) (l.grow g8) hw
        | some v =>
          obtain ⟨x, rfl, hx0, gx, hva⟩ := l.iv
          have gv : MH.Good v := gst
          refine s_asgIf l.sub (eb_isN rfl) (fun c => absurd c (by simp)) (fun _ H9 g9 => ?_)
          have l := l.grow g9
          refine s_setCallM rfl l.sub gx (hva.mono (Ex.refl _) g9.up) (ea_two (ev_var rfl hw4) (ev_var rfl hw6)) ⟨cl.1, cl.2, rfl, hok.op, hop, hok.nd, hok.most, gv.len, rfl, rfl⟩ fun w G8 H8 g8 hv8 hw => ?_
          exact fin (some (MH.mDeed v cl.1 cl.2).1) (.ref x) w (MH.mDeed v cl.1 cl.2).2 G8 H8 (by unfold MH.mCall; rw [if_neg hop]) (l.deed g8 hv8) hw
      · have hop : cl.1 = 0 := by
          have := of_decide_eq_true (show decide ((cl.1 : Int) = 0) = true by simpa using c)
          omega
        have hn2 : 2 ≤ cl.2.length := by
          have := hok.nd
          rw [hop] at this
          exact this
        have l := l.grow g2
        have a0 := ev_num (K := K) (σ := [some (.ref a), some iv, some (.ref p), some (.int (((MH.flat pre).length + 2 + cl.2.length + 1 : Nat) : Int)), some w4, some w5, some w6, u7]) (te := tVar 6) (A := H2) (i := 0) (ev_var rfl hw6) (by omega)
        have a1 := ev_num (K := K) (σ := [some (.ref a), some iv, some (.ref p), some (.int (((MH.flat pre).length + 2 + cl.2.length + 1 : Nat) : Int)), some w4, some w5, some w6, u7]) (te := tVar 6) (A := H2) (i := 1) (ev_var rfl hw6) (by omega)
        refine s_if l.sub (eb_B (ev_call (ea_two a0 a1) ⟨_, _, rfl, rfl⟩)) (fun c2 H9 g9 => ?_) (fun c2 H9 g9 => ?_)
        · have l := l.grow g9
          refine q_make l (ea_two (a0.mono (Ex.refl _) g9.up) (a1.mono (Ex.refl _) g9.up)) fun x G8 H8 l8 => ?_
          refine s_set l8.sub (ev_ret1 ev_int) fun w G7 H7 g7 hw => ?_
          exact fin (some ⟨[], MH.ng cl.2 0, MH.ng cl.2 1⟩) (.ref x) w [0] G7 H7 (by unfold MH.mCall; rw [if_pos hop, if_pos c2]) (l8.grow g7) hw
        · have l := l.grow g9
          refine s_set l.sub (ev_ret1 ev_int) fun w G7 H7 g7 hw => ?_
          exact fin st iv w [-22] G7 H7 (by unfold MH.mCall; rw [if_pos hop, if_neg (by rw [c2]; decide)]) (l.grow g7) hw
  · cases rest with
    | nil =>
      have l := l.grow ⟨e1, Ex.refl _, l.sub.trans e1, fun _ _ z => .inl z⟩
      have er : MH.run none q = out := by
        rw [erun]
        show out ++ [] = out
        rw [List.append_nil]
      refine ⟨.ref p, rfl, k H1 p ?_⟩
      rw [er]
      exact l.hp
    | cons cl r =>
      have h1 := of_decide_eq_false c
      have h2 := flat1_len cl
      rw [eq, flat_app] at h1
      exact absurd (show ((MH.flat pre).length : Int) < (((MH.flat pre ++ (MH.flat1 cl ++ MH.flat r)).length : Nat) : Int) by rw [List.length_append, List.length_append]; omega) h1
end DT
/-! The program's text by places; what the top leaves; a def and its promise. -/
namespace DT
open PySem PySem.Spec PyProof.Rows L2
def top (i : Nat) : Stmt := PySem.Challenge.pw_matchedhides_s01_answers.main.body.getD i (.Pass ⟨0, 0, 0, 0⟩)
def GC (mg : Str → Option Value) (x : Str) (n : Int) : Prop := ∃ t, mg x = some (.int n t)
/-- the def st stands at its name -/
def At (K : PySem.W.Frag) (mg : Str → Option Value) (x : Str) (st : Stmt) (ps : List Str) : Prop := ∃ f fd, Fun K x x st f fd ∧ mg x = some (.ref f) ∧ Binds K fd ps []
/-- the def at its name keeps its promise -/
def Def (P : Program) (w : World) (K : PySem.W.Frag) (mg : Str → Option Value) (base : Heap) (k : Nat) (x : Str) (ps : List Str) (sp : Sp) : Prop :=
  ∃ f fd, FnOk P w K mg base CX0 k f fd ps sp ∧ mg x = some (.ref f) ∧ PySem.W.keepIn K (.ref f) = true ∧ Binds K fd ps []
section
variable {X : Cx}
theorem pe_const {x : Str} {n : Int} {pos : Pos} (hg : Gl X x) (h : GC X.mg x n) (hd : (x == ("__debug__" : Str)) = false := by decide) : PE X (.Name x pos) (tC (.int n)) := by
  obtain ⟨t, h⟩ := h
  exact pe_glob hg h ⟨t, rfl⟩ hd
theorem op_isN2 : OpR X (compareOp .Is) rIsN := op_isN
end
/-- what the top leaves, but for the defs -/
structure Txt (K : PySem.W.Frag) (mg : Str → Option Value) (C : Addr) : Prop where
  cl : Cl K C
  gInventory : mg "Inventory" = some (.ref C)
  nlen : mg "len" = none
  nabs : mg "abs" = none
  nint : mg "int" = none
  nlist : mg "list" = none
  nsum : mg "sum" = none
  nrange : mg "range" = none
  gNO_HIDE : GC mg "NO_HIDE" (-2)
  gBEYOND : GC mg "BEYOND" (-22)
  gFULL : GC mg "FULL" (-28)
  gNOTHING : GC mg "NOTHING" (-33)
  gMOST_KIND : GC mg "MOST_KIND" 2
  gMOST : GC mg "MOST" 60
  gMOST_LOT : GC mg "MOST_LOT" 12
  gMOST_HIDES : GC mg "MOST_HIDES" 12
  gNO_INVENTORY : GC mg "NO_INVENTORY" (-11)
  gCREATE : GC mg "CREATE" 0
end DT
/-! Every def keeps its promise. -/
namespace DT
open PySem PySem.Spec PyProof.Rows L2
abbrev s_is_ahead : Stmt := top 2
theorem sc_is_ahead : FnScope N_is_ahead ["one", "other"] (defScope s_is_ahead) := ⟨rfl, rfl, rfl, by decide +kernel, rfl, by decide +kernel, by decide +kernel⟩
theorem ok_is_ahead {P : Program} {w : World} {K : PySem.W.Frag} {mg : Str → Option Value} {base : Heap} {C : Addr} (T : Txt K mg C) (A : At K mg "is_ahead" s_is_ahead ["one", "other"]) : Def P w K mg base 1 "is_ahead" ["one", "other"] (sp_is_ahead) := by
  obtain ⟨f, fd, F, hm, hb⟩ := A
  refine ⟨f, fd, F.ok sc_is_ahead (fun vs H Q E h => spF_len h) (fun cdv A outer s H vs Q E hr h => ⟨t_is_ahead K C, ?_, pure_is_ahead vs H Q E h⟩), hm, F.kp, hb⟩
  exact (pss_cons (ps_if (pt_cmpR op_ne (pe_ix ix_tup (pv 0) pe_int (fun _ _ => rfl)) (pe_ix ix_tup (pv 1) pe_int (fun _ _ => rfl)) (nomark _)) (pss_one (ps_ret (pe_cmpR op_lt (pe_ix ix_tup (pv 0) pe_int (fun _ _ => rfl)) (pe_ix ix_tup (pv 1) pe_int (fun _ _ => rfl)) (nomark _)))) pss_nil) (pss_one (ps_ret (pe_cmpR op_le (pe_ix ix_tup (pv 0) pe_int (fun _ _ => rfl)) (pe_ix ix_tup (pv 1) pe_int (fun _ _ => rfl)) (nomark _)))))
abbrev s_placed : Stmt := top 3
theorem sc_placed : FnScope N_placed ["order", "number", "hide"] (defScope s_placed) := ⟨rfl, rfl, rfl, by decide +kernel, rfl, by decide +kernel, by decide +kernel⟩
theorem ok_placed {P : Program} {w : World} {K : PySem.W.Frag} {mg : Str → Option Value} {base : Heap} {C : Addr} (T : Txt K mg C) (A : At K mg "placed" s_placed ["order", "number", "hide"]) (D_is_ahead : Def P w K mg base 1 "is_ahead" ["one", "other"] (sp_is_ahead)) : Def P w K mg base 2 "placed" ["order", "number", "hide"] (sp_placed) := by
  obtain ⟨f, fd, F, hm, hb⟩ := A
  obtain ⟨_, _, F_is_ahead, m_is_ahead, k_is_ahead, b_is_ahead⟩ := D_is_ahead
  refine ⟨f, fd, F.ok sc_placed (fun vs H Q E h => spF_len h) (fun cdv A outer s H vs Q E hr h => ⟨t_placed K C, ?_, pure_placed vs H Q E h⟩), hm, F.kp, hb⟩
  exact (pss_cons (ps_set (i := 3) sc_placed.nd rfl (Or.inl rfl) pe_int) (pss_cons (ps_while PassesOwn.never (PW.pt (pw_and (pt_cmpR op_lt (pv 3) (pe_callB call_len_seq (by rfl) T.nlen PySem.boot_len (pa_cons (pv 0) pa_nil)) (nomark _)) (pw_and1 (pt_val (pe_call F_is_ahead (hr.mono (by decide)) rfl m_is_ahead k_is_ahead b_is_ahead .nil pass0 (pa_cons (pe_ix ix_tup (pe_ix ix_list (pv 0) (pv 3) (fun _ _ => rfl)) pe_int (fun _ _ => rfl)) (pa_cons (pv 2) pa_nil))))))) (pss_one (ps_aug (i := 3) sc_placed.nd rfl (Or.inl rfl) pe_int ip_add))) (pss_one (ps_ret (pe_op op_cat (pe_op op_cat (pe_slice sl_list (pv 0) po_none (po_some (pv 3))) (pe_lst (pa_cons (pe_tup (pa_cons (pv 1) (pa_cons (pv 2) pa_nil))) pa_nil))) (pe_slice sl_list (pv 0) (po_some (pv 3)) po_none))))))
abbrev s_ordered : Stmt := top 4
theorem sc_ordered : FnScope N_ordered ["hides"] (defScope s_ordered) := ⟨rfl, rfl, rfl, by decide +kernel, rfl, by decide +kernel, by decide +kernel⟩
theorem ok_ordered {P : Program} {w : World} {K : PySem.W.Frag} {mg : Str → Option Value} {base : Heap} {C : Addr} (T : Txt K mg C) (A : At K mg "ordered" s_ordered ["hides"]) (D_placed : Def P w K mg base 2 "placed" ["order", "number", "hide"] (sp_placed)) : Def P w K mg base 3 "ordered" ["hides"] (sp_ordered) := by
  obtain ⟨f, fd, F, hm, hb⟩ := A
  obtain ⟨_, _, F_placed, m_placed, k_placed, b_placed⟩ := D_placed
  refine ⟨f, fd, F.ok sc_ordered (fun vs H Q E h => spF_len h) (fun cdv A outer s H vs Q E hr h => ⟨t_ordered K C, ?_, pure_ordered vs H Q E h⟩), hm, F.kp, hb⟩
  exact (pss_cons (ps_set (i := 1) sc_ordered.nd rfl (Or.inl rfl) (pe_lst pa_nil)) (pss_cons (ps_for PassesOwn.never rfl (pi_range1 rfl T.nrange (pa_cons (pe_callB call_len_seq (by rfl) T.nlen PySem.boot_len (pa_cons (pv 0) pa_nil)) pa_nil)) (pg_name (i := 2) sc_ordered.nd rfl (Or.inl rfl)) (pss_one (ps_set (i := 1) sc_ordered.nd rfl (Or.inl rfl) (pe_call F_placed (hr.mono (by decide)) rfl m_placed k_placed b_placed .nil pass0 (pa_cons (pv 1) (pa_cons (pv 2) (pa_cons (pe_ix ix_list (pv 0) (pv 2) (fun _ _ => rfl)) pa_nil))))))) (pss_one (ps_ret (pv 1)))))
abbrev s_are_alike : Stmt := top 5
theorem sc_are_alike : FnScope N_are_alike ["one", "other", "tolerance"] (defScope s_are_alike) := ⟨rfl, rfl, rfl, by decide +kernel, rfl, by decide +kernel, by decide +kernel⟩
theorem ok_are_alike {P : Program} {w : World} {K : PySem.W.Frag} {mg : Str → Option Value} {base : Heap} {C : Addr} (T : Txt K mg C) (A : At K mg "are_alike" s_are_alike ["one", "other", "tolerance"]) : Def P w K mg base 1 "are_alike" ["one", "other", "tolerance"] (sp_are_alike) := by
  obtain ⟨f, fd, F, hm, hb⟩ := A
  refine ⟨f, fd, F.ok sc_are_alike (fun vs H Q E h => spF_len h) (fun cdv A outer s H vs Q E hr h => ⟨t_are_alike K C, ?_, pure_are_alike vs H Q E h⟩), hm, F.kp, hb⟩
  exact (pss_one (ps_ret (pe_and (pe_cmpR op_eq (pe_ix ix_tup (pv 0) pe_int (fun _ _ => rfl)) (pe_ix ix_tup (pv 1) pe_int (fun _ _ => rfl)) (nomark _)) (pe_one (pe_cmpR op_le (pe_callB call_abs (by rfl) T.nabs (by decide +kernel) (pa_cons (pe_op op_sub (pe_ix ix_tup (pv 0) pe_int (fun _ _ => rfl)) (pe_ix ix_tup (pv 1) pe_int (fun _ _ => rfl))) pa_nil)) (pv 2) (nomark _))))))
abbrev s_fits_all : Stmt := top 6
theorem sc_fits_all : FnScope N_fits_all ["hide", "some", "tolerance"] (defScope s_fits_all) := ⟨rfl, rfl, rfl, by decide +kernel, rfl, by decide +kernel, by decide +kernel⟩
theorem ok_fits_all {P : Program} {w : World} {K : PySem.W.Frag} {mg : Str → Option Value} {base : Heap} {C : Addr} (T : Txt K mg C) (A : At K mg "fits_all" s_fits_all ["hide", "some", "tolerance"]) (D_are_alike : Def P w K mg base 1 "are_alike" ["one", "other", "tolerance"] (sp_are_alike)) : Def P w K mg base 2 "fits_all" ["hide", "some", "tolerance"] (sp_fits_all) := by
  obtain ⟨f, fd, F, hm, hb⟩ := A
  obtain ⟨_, _, F_are_alike, m_are_alike, k_are_alike, b_are_alike⟩ := D_are_alike
  refine ⟨f, fd, F.ok sc_fits_all (fun vs H Q E h => spF_len h) (fun cdv A outer s H vs Q E hr h => ⟨t_fits_all K C, ?_, pure_fits_all vs H Q E h⟩), hm, F.kp, hb⟩
  exact (pss_cons (ps_for PassesOwn.never rfl (pi_list (pv 1)) (pg_tup (by rfl) (pgs_cons (pg_name (i := 3) sc_fits_all.nd rfl (Or.inl rfl)) (pgs_cons (pg_name (i := 4) sc_fits_all.nd rfl (Or.inl rfl)) pgs_nil))) (pss_one (ps_if (pt_not (pt_val (pe_call F_are_alike (hr.mono (by decide)) rfl m_are_alike k_are_alike b_are_alike .nil pass0 (pa_cons (pv 0) (pa_cons (pv 4) (pa_cons (pv 2) pa_nil)))))) (pss_one (ps_ret pe_bl)) pss_nil))) (pss_one (ps_ret pe_bl)))
abbrev s_all_fit : Stmt := top 7
theorem sc_all_fit : FnScope N_all_fit ["some", "tolerance"] (defScope s_all_fit) := ⟨rfl, rfl, rfl, by decide +kernel, rfl, by decide +kernel, by decide +kernel⟩
theorem ok_all_fit {P : Program} {w : World} {K : PySem.W.Frag} {mg : Str → Option Value} {base : Heap} {C : Addr} (T : Txt K mg C) (A : At K mg "all_fit" s_all_fit ["some", "tolerance"]) (D_fits_all : Def P w K mg base 2 "fits_all" ["hide", "some", "tolerance"] (sp_fits_all)) : Def P w K mg base 3 "all_fit" ["some", "tolerance"] (sp_all_fit) := by
  obtain ⟨f, fd, F, hm, hb⟩ := A
  obtain ⟨_, _, F_fits_all, m_fits_all, k_fits_all, b_fits_all⟩ := D_fits_all
  refine ⟨f, fd, F.ok sc_all_fit (fun vs H Q E h => spF_len h) (fun cdv A outer s H vs Q E hr h => ⟨t_all_fit K C, ?_, pure_all_fit vs H Q E h⟩), hm, F.kp, hb⟩
  exact (pss_cons (ps_for PassesOwn.never rfl (pi_range1 rfl T.nrange (pa_cons (pe_callB call_len_seq (by rfl) T.nlen PySem.boot_len (pa_cons (pv 0) pa_nil)) pa_nil)) (pg_name (i := 2) sc_all_fit.nd rfl (Or.inl rfl)) (pss_one (ps_if (pt_not (pt_val (pe_call F_fits_all (hr.mono (by decide)) rfl m_fits_all k_fits_all b_fits_all .nil pass0 (pa_cons (pe_ix ix_tup (pe_ix ix_list (pv 0) (pv 2) (fun _ _ => rfl)) pe_int (fun _ _ => rfl)) (pa_cons (pe_slice sl_list (pv 0) po_none (po_some (pv 2))) (pa_cons (pv 1) pa_nil)))))) (pss_one (ps_ret pe_bl)) pss_nil))) (pss_one (ps_ret pe_bl)))
abbrev s_greedy : Stmt := top 8
theorem sc_greedy : FnScope N_greedy ["order", "tolerance", "lot_size"] (defScope s_greedy) := ⟨rfl, rfl, rfl, by decide +kernel, rfl, by decide +kernel, by decide +kernel⟩
theorem ok_greedy {P : Program} {w : World} {K : PySem.W.Frag} {mg : Str → Option Value} {base : Heap} {C : Addr} (T : Txt K mg C) (A : At K mg "greedy" s_greedy ["order", "tolerance", "lot_size"]) (D_fits_all : Def P w K mg base 2 "fits_all" ["hide", "some", "tolerance"] (sp_fits_all)) : Def P w K mg base 3 "greedy" ["order", "tolerance", "lot_size"] (sp_greedy) := by
  obtain ⟨f, fd, F, hm, hb⟩ := A
  obtain ⟨_, _, F_fits_all, m_fits_all, k_fits_all, b_fits_all⟩ := D_fits_all
  refine ⟨f, fd, F.ok sc_greedy (fun vs H Q E h => spF_len h) (fun cdv A outer s H vs Q E hr h => ⟨t_greedy K C, ?_, pure_greedy vs H Q E h⟩), hm, F.kp, hb⟩
  exact (pss_cons (ps_set (i := 3) sc_greedy.nd rfl (Or.inl rfl) (pe_lst pa_nil)) (pss_cons (ps_for PassesOwn.never rfl (pi_list (pv 0)) (pg_tup (by rfl) (pgs_cons (pg_name (i := 4) sc_greedy.nd rfl (Or.inl rfl)) (pgs_cons (pg_name (i := 5) sc_greedy.nd rfl (Or.inl rfl)) pgs_nil))) (pss_one (ps_if (PW.pt (pw_and (pt_cmpR (op_neD hr.units) (pv 3) (pe_lst pa_nil) (nomark _)) (pw_and (pt_cmpR op_lt (pe_callB call_len_seq (by rfl) T.nlen PySem.boot_len (pa_cons (pe_ix ix_list (pv 3) (pe_un un_neg pe_int) (fun _ _ => rfl)) pa_nil)) (pv 2) (nomark _)) (pw_and1 (pt_val (pe_call F_fits_all (hr.mono (by decide)) rfl m_fits_all k_fits_all b_fits_all .nil pass0 (pa_cons (pv 5) (pa_cons (pe_ix ix_list (pv 3) (pe_un un_neg pe_int) (fun _ _ => rfl)) (pa_cons (pv 1) pa_nil))))))))) (pss_one (ps_asg (pe_op op_cat (pe_ix ix_list (pv 3) (pe_un un_neg pe_int) (fun _ _ => rfl)) (pe_lst (pa_cons (pe_tup (pa_cons (pv 4) (pa_cons (pv 5) pa_nil))) pa_nil))) (pg_sub (pv 3) (pe_un un_neg pe_int) set_list))) (pss_one (ps_expr (pe_bm PySem.F.plainAttrs_list PySem.F.slot_list_append PySem.F.type_list_append mt_append (pv 3) (pa_cons (pe_lst (pa_cons (pe_tup (pa_cons (pv 4) (pa_cons (pv 5) pa_nil))) pa_nil)) pa_nil))))))) (pss_one (ps_ret (pv 3)))))
abbrev s_count_lots : Stmt := top 9
theorem sc_count_lots : FnScope N_count_lots ["inventory", "hides"] (defScope s_count_lots) := ⟨rfl, rfl, rfl, by decide +kernel, rfl, by decide +kernel, by decide +kernel⟩
theorem ok_count_lots {P : Program} {w : World} {K : PySem.W.Frag} {mg : Str → Option Value} {base : Heap} {C : Addr} (T : Txt K mg C) (A : At K mg "count_lots" s_count_lots ["inventory", "hides"]) (D_ordered : Def P w K mg base 3 "ordered" ["hides"] (sp_ordered)) (D_greedy : Def P w K mg base 3 "greedy" ["order", "tolerance", "lot_size"] (sp_greedy)) : Def P w K mg base 4 "count_lots" ["inventory", "hides"] (sp_count_lots C) := by
  obtain ⟨f, fd, F, hm, hb⟩ := A
  obtain ⟨_, _, F_ordered, m_ordered, k_ordered, b_ordered⟩ := D_ordered
  obtain ⟨_, _, F_greedy, m_greedy, k_greedy, b_greedy⟩ := D_greedy
  refine ⟨f, fd, F.ok sc_count_lots (fun vs H Q E h => spV_len h) (fun cdv A outer s H vs Q E hr h => ⟨t_count_lots K C, ?_, pure_count_lots T.cl vs H Q E h⟩), hm, F.kp, hb⟩
  exact (pss_one (ps_ret (pe_callB call_len_seq (by rfl) T.nlen PySem.boot_len (pa_cons (pe_call F_greedy (hr.mono (by decide)) rfl m_greedy k_greedy b_greedy .nil pass0 (pa_cons (pe_call F_ordered (hr.mono (by decide)) rfl m_ordered k_ordered b_ordered .nil pass0 (pa_cons (pv 1) pa_nil)) (pa_cons (pe_fld (pv 0) rfl) (pa_cons (pe_fld (pv 0) rfl) pa_nil)))) pa_nil))))
abbrev s_incompatible : Stmt := top 10
theorem sc_incompatible : FnScope N_incompatible ["order", "tolerance"] (defScope s_incompatible) := ⟨rfl, rfl, rfl, by decide +kernel, rfl, by decide +kernel, by decide +kernel⟩
theorem ok_incompatible {P : Program} {w : World} {K : PySem.W.Frag} {mg : Str → Option Value} {base : Heap} {C : Addr} (T : Txt K mg C) (A : At K mg "incompatible" s_incompatible ["order", "tolerance"]) (D_are_alike : Def P w K mg base 1 "are_alike" ["one", "other", "tolerance"] (sp_are_alike)) : Def P w K mg base 2 "incompatible" ["order", "tolerance"] (sp_incompatible) := by
  obtain ⟨f, fd, F, hm, hb⟩ := A
  obtain ⟨_, _, F_are_alike, m_are_alike, k_are_alike, b_are_alike⟩ := D_are_alike
  refine ⟨f, fd, F.ok sc_incompatible (fun vs H Q E h => spF_len h) (fun cdv A outer s H vs Q E hr h => ⟨t_incompatible K C, ?_, pure_incompatible vs H Q E h⟩), hm, F.kp, hb⟩
  exact (pss_cons (ps_set (i := 2) sc_incompatible.nd rfl (Or.inl rfl) (pe_lst pa_nil)) (pss_cons (ps_for PassesOwn.never rfl (pi_list (pv 0)) (pg_tup (by rfl) (pgs_cons (pg_name (i := 3) sc_incompatible.nd rfl (Or.inl rfl)) (pgs_cons (pg_name (i := 4) sc_incompatible.nd rfl (Or.inl rfl)) pgs_nil))) (pss_one (ps_if (PW.pt (pw_or (pt_cmpR (op_eqD hr.units) (pv 2) (pe_lst pa_nil) (nomark _)) (pw_or1 (pt_not (pt_val (pe_call F_are_alike (hr.mono (by decide)) rfl m_are_alike k_are_alike b_are_alike .nil pass0 (pa_cons (pv 4) (pa_cons (pe_ix ix_tup (pe_ix ix_list (pv 2) (pe_un un_neg pe_int) (fun _ _ => rfl)) pe_int (fun _ _ => rfl)) (pa_cons (pv 1) pa_nil))))))))) (pss_one (ps_expr (pe_bm PySem.F.plainAttrs_list PySem.F.slot_list_append PySem.F.type_list_append mt_append (pv 2) (pa_cons (pe_tup (pa_cons (pv 3) (pa_cons (pv 4) pa_nil))) pa_nil)))) pss_nil))) (pss_one (ps_ret (pv 2)))))
abbrev s_area_of : Stmt := top 12
theorem sc_area_of : FnScope N_area_of ["some"] (defScope s_area_of) := ⟨rfl, rfl, rfl, by decide +kernel, rfl, by decide +kernel, by decide +kernel⟩
theorem ok_area_of {P : Program} {w : World} {K : PySem.W.Frag} {mg : Str → Option Value} {base : Heap} {C : Addr} (T : Txt K mg C) (A : At K mg "area_of" s_area_of ["some"]) : Def P w K mg base 1 "area_of" ["some"] (sp_area_of) := by
  obtain ⟨f, fd, F, hm, hb⟩ := A
  refine ⟨f, fd, F.ok sc_area_of (fun vs H Q E h => spF_len h) (fun cdv A outer s H vs Q E hr h => ⟨t_area_of K C, ?_, pure_area_of vs H Q E h⟩), hm, F.kp, hb⟩
  exact (pss_one (ps_ret (pe_callB (cr_sum rfl) (by rfl) T.nsum (by decide +kernel) (pa_cons (pe_lc (own := [("number", 2), ("hide", 1)]) (g := (gTup K 2 (gCons (gName 2) (gCons (gName 1) gNil)))) (tt := tYes) (te := (tOp (rIxT K) (tVar 1) (tC (.int 2)))) rfl sc_area_of.nd (pi_list (pv 0)) (blkOk_by (N := N_area_of) (sc := defScope s_area_of) (by decide +kernel)) (fun _ _ _ _ _ => (pg_tup (by rfl) (pgs_cons (pg_name (i := 2) sc_area_of.nd rfl (Or.inl rfl)) (pgs_cons (pg_name (i := 1) sc_area_of.nd rfl (Or.inl rfl)) pgs_nil)))) (fun _ _ _ _ _ => pts_nil) (fun _ _ _ _ _ => (pe_ix ix_tup (pv 1) pe_int (fun _ _ => rfl)))) pa_nil))))
abbrev s_count_greater : Stmt := top 13
theorem sc_count_greater : FnScope N_count_greater ["run", "place"] (defScope s_count_greater) := ⟨rfl, rfl, rfl, by decide +kernel, rfl, by decide +kernel, by decide +kernel⟩
theorem ok_count_greater {P : Program} {w : World} {K : PySem.W.Frag} {mg : Str → Option Value} {base : Heap} {C : Addr} (T : Txt K mg C) (A : At K mg "count_greater" s_count_greater ["run", "place"]) : Def P w K mg base 1 "count_greater" ["run", "place"] (sp_count_greater) := by
  obtain ⟨f, fd, F, hm, hb⟩ := A
  refine ⟨f, fd, F.ok sc_count_greater (fun vs H Q E h => spF_len h) (fun cdv A outer s H vs Q E hr h => ⟨t_count_greater K C, ?_, pure_count_greater vs H Q E h⟩), hm, F.kp, hb⟩
  exact (pss_cons (ps_set (i := 2) sc_count_greater.nd rfl (Or.inl rfl) (pe_ix ix_tup (pe_ix ix_tup (pe_ix ix_list (pv 0) (pv 1) (fun _ _ => rfl)) pe_int (fun _ _ => rfl)) pe_int (fun _ _ => rfl))) (pss_cons (ps_set (i := 3) sc_count_greater.nd rfl (Or.inl rfl) pe_int) (pss_cons (ps_for PassesOwn.never rfl (pi_range1 rfl T.nrange (pa_cons (pe_callB call_len_seq (by rfl) T.nlen PySem.boot_len (pa_cons (pv 0) pa_nil)) pa_nil)) (pg_name (i := 4) sc_count_greater.nd rfl (Or.inl rfl)) (pss_cons (ps_set (i := 5) sc_count_greater.nd rfl (Or.inl rfl) (pe_ix ix_tup (pe_ix ix_tup (pe_ix ix_list (pv 0) (pv 4) (fun _ _ => rfl)) pe_int (fun _ _ => rfl)) pe_int (fun _ _ => rfl))) (pss_one (ps_if (PW.pt (pw_or (pt_cmpR op_gt (pv 5) (pv 2) (nomark _)) (pw_or1 (PW.pt (pw_and (pt_cmpR op_eq (pv 5) (pv 2) (nomark _)) (pw_and1 (pt_cmpR op_lt (pv 4) (pv 1) (nomark _)))))))) (pss_one (ps_aug (i := 3) sc_count_greater.nd rfl (Or.inl rfl) pe_int ip_add)) pss_nil)))) (pss_one (ps_ret (pv 3))))))
abbrev s_largest_part : Stmt := top 14
theorem sc_largest_part : FnScope N_largest_part ["run", "lot_size"] (defScope s_largest_part) := ⟨rfl, rfl, rfl, by decide +kernel, rfl, by decide +kernel, by decide +kernel⟩
theorem ok_largest_part {P : Program} {w : World} {K : PySem.W.Frag} {mg : Str → Option Value} {base : Heap} {C : Addr} (T : Txt K mg C) (A : At K mg "largest_part" s_largest_part ["run", "lot_size"]) (D_count_greater : Def P w K mg base 1 "count_greater" ["run", "place"] (sp_count_greater)) : Def P w K mg base 2 "largest_part" ["run", "lot_size"] (sp_largest_part) := by
  obtain ⟨f, fd, F, hm, hb⟩ := A
  obtain ⟨_, _, F_count_greater, m_count_greater, k_count_greater, b_count_greater⟩ := D_count_greater
  refine ⟨f, fd, F.ok sc_largest_part (fun vs H Q E h => spF_len h) (fun cdv A outer s H vs Q E hr h => ⟨t_largest_part K C, ?_, pure_largest_part vs H Q E h⟩), hm, F.kp, hb⟩
  exact (pss_one (ps_ret (pe_lc (own := [("place", 2)]) (g := (gName 2)) (tt := (tTest (tOp rLt (tCall (sp_count_greater) [] E0 (tCons (tVar 0) (tCons (tVar 2) tNil))) (tVar 1)))) (te := (tOp (rIxL K) (tVar 0) (tVar 2))) rfl sc_largest_part.nd (pi_range1 rfl T.nrange (pa_cons (pe_callB call_len_seq (by rfl) T.nlen PySem.boot_len (pa_cons (pv 0) pa_nil)) pa_nil)) (blkOk_by (N := N_largest_part) (sc := defScope s_largest_part) (by decide +kernel)) (fun _ _ _ _ _ => (pg_name (i := 2) sc_largest_part.nd rfl (Or.inl rfl))) (fun _ _ _ _ _ => (pts_one (pt_cmpR op_lt (pe_call F_count_greater (hr.mono (by decide)) rfl m_count_greater k_count_greater b_count_greater .nil pass0 (pa_cons (pv 0) (pa_cons (pv 2) pa_nil))) (pv 1) (nomark _)))) (fun _ _ _ _ _ => (pe_ix ix_list (pv 0) (pv 2) (fun _ _ => rfl))))))
abbrev s_runs_of : Stmt := top 15
theorem sc_runs_of : FnScope N_runs_of ["order", "tolerance"] (defScope s_runs_of) := ⟨rfl, rfl, rfl, by decide +kernel, rfl, by decide +kernel, by decide +kernel⟩
theorem ok_runs_of {P : Program} {w : World} {K : PySem.W.Frag} {mg : Str → Option Value} {base : Heap} {C : Addr} (T : Txt K mg C) (A : At K mg "runs_of" s_runs_of ["order", "tolerance"]) (D_all_fit : Def P w K mg base 3 "all_fit" ["some", "tolerance"] (sp_all_fit)) : Def P w K mg base 4 "runs_of" ["order", "tolerance"] (sp_runs_of) := by
  obtain ⟨f, fd, F, hm, hb⟩ := A
  obtain ⟨_, _, F_all_fit, m_all_fit, k_all_fit, b_all_fit⟩ := D_all_fit
  refine ⟨f, fd, F.ok sc_runs_of (fun vs H Q E h => spF_len h) (fun cdv A outer s H vs Q E hr h => ⟨t_runs_of K C, ?_, pure_runs_of vs H Q E h⟩), hm, F.kp, hb⟩
  exact (pss_cons (ps_set (i := 2) sc_runs_of.nd rfl (Or.inl rfl) (pe_lst pa_nil)) (pss_cons (ps_for PassesOwn.never rfl (pi_range1 rfl T.nrange (pa_cons (pe_callB call_len_seq (by rfl) T.nlen PySem.boot_len (pa_cons (pv 0) pa_nil)) pa_nil)) (pg_name (i := 3) sc_runs_of.nd rfl (Or.inl rfl)) (pss_one (ps_for PassesOwn.never rfl (pi_range2 rfl T.nrange (pa_cons (pe_op op_add (pv 3) pe_int) (pa_cons (pe_op op_add (pe_callB call_len_seq (by rfl) T.nlen PySem.boot_len (pa_cons (pv 0) pa_nil)) pe_int) pa_nil))) (pg_name (i := 4) sc_runs_of.nd rfl (Or.inl rfl)) (pss_one (ps_if (pt_val (pe_call F_all_fit (hr.mono (by decide)) rfl m_all_fit k_all_fit b_all_fit .nil pass0 (pa_cons (pe_slice sl_list (pv 0) (po_some (pv 3)) (po_some (pv 4))) (pa_cons (pv 1) pa_nil)))) (pss_one (ps_expr (pe_bm PySem.F.plainAttrs_list PySem.F.slot_list_append PySem.F.type_list_append mt_append (pv 2) (pa_cons (pe_slice sl_list (pv 0) (po_some (pv 3)) (po_some (pv 4))) pa_nil)))) pss_nil))))) (pss_one (ps_ret (pv 2)))))
abbrev s_largest : Stmt := top 16
theorem sc_largest : FnScope N_largest ["order", "tolerance", "lot_size"] (defScope s_largest) := ⟨rfl, rfl, rfl, by decide +kernel, rfl, by decide +kernel, by decide +kernel⟩
theorem ok_largest {P : Program} {w : World} {K : PySem.W.Frag} {mg : Str → Option Value} {base : Heap} {C : Addr} (T : Txt K mg C) (A : At K mg "largest" s_largest ["order", "tolerance", "lot_size"]) (D_area_of : Def P w K mg base 1 "area_of" ["some"] (sp_area_of)) (D_largest_part : Def P w K mg base 2 "largest_part" ["run", "lot_size"] (sp_largest_part)) (D_runs_of : Def P w K mg base 4 "runs_of" ["order", "tolerance"] (sp_runs_of)) : Def P w K mg base 5 "largest" ["order", "tolerance", "lot_size"] (sp_largest) := by
  obtain ⟨f, fd, F, hm, hb⟩ := A
  obtain ⟨_, _, F_area_of, m_area_of, k_area_of, b_area_of⟩ := D_area_of
  obtain ⟨_, _, F_largest_part, m_largest_part, k_largest_part, b_largest_part⟩ := D_largest_part
  obtain ⟨_, _, F_runs_of, m_runs_of, k_runs_of, b_runs_of⟩ := D_runs_of
  refine ⟨f, fd, F.ok sc_largest (fun vs H Q E h => spF_len h) (fun cdv A outer s H vs Q E hr h => ⟨t_largest K C, ?_, pure_largest vs H Q E h⟩), hm, F.kp, hb⟩
  exact (pss_cons (ps_set (i := 3) sc_largest.nd rfl (Or.inl rfl) (pe_lst pa_nil)) (pss_cons (ps_for PassesOwn.never rfl (pi_list (pe_call F_runs_of (hr.mono (by decide)) rfl m_runs_of k_runs_of b_runs_of .nil pass0 (pa_cons (pv 0) (pa_cons (pv 1) pa_nil)))) (pg_name (i := 4) sc_largest.nd rfl (Or.inl rfl)) (pss_cons (ps_set (i := 5) sc_largest.nd rfl (Or.inl rfl) (pe_call F_largest_part (hr.mono (by decide)) rfl m_largest_part k_largest_part b_largest_part .nil pass0 (pa_cons (pv 4) (pa_cons (pv 2) pa_nil)))) (pss_one (ps_if (pt_cmpR op_gt (pe_call F_area_of (hr.mono (by decide)) rfl m_area_of k_area_of b_area_of .nil pass0 (pa_cons (pv 5) pa_nil)) (pe_call F_area_of (hr.mono (by decide)) rfl m_area_of k_area_of b_area_of .nil pass0 (pa_cons (pv 3) pa_nil)) (nomark _)) (pss_one (ps_set (i := 3) sc_largest.nd rfl (Or.inl rfl) (pv 5))) pss_nil)))) (pss_one (ps_ret (pv 3)))))
abbrev s_difference_of : Stmt := top 17
theorem sc_difference_of : FnScope N_difference_of ["some"] (defScope s_difference_of) := ⟨rfl, rfl, rfl, by decide +kernel, rfl, by decide +kernel, by decide +kernel⟩
theorem ok_difference_of {P : Program} {w : World} {K : PySem.W.Frag} {mg : Str → Option Value} {base : Heap} {C : Addr} (T : Txt K mg C) (A : At K mg "difference_of" s_difference_of ["some"]) : Def P w K mg base 1 "difference_of" ["some"] (sp_difference_of) := by
  obtain ⟨f, fd, F, hm, hb⟩ := A
  refine ⟨f, fd, F.ok sc_difference_of (fun vs H Q E h => spF_len h) (fun cdv A outer s H vs Q E hr h => ⟨t_difference_of K C, ?_, pure_difference_of vs H Q E h⟩), hm, F.kp, hb⟩
  exact (pss_cons (ps_set (i := 1) sc_difference_of.nd rfl (Or.inl rfl) pe_int) (pss_cons (ps_for PassesOwn.never rfl (pi_range3 rfl T.nrange (pa_cons pe_int (pa_cons (pe_callB call_len_seq (by rfl) T.nlen PySem.boot_len (pa_cons (pv 0) pa_nil)) (pa_cons pe_int pa_nil)))) (pg_name (i := 2) sc_difference_of.nd rfl (Or.inl rfl)) (pss_one (ps_aug (i := 1) sc_difference_of.nd rfl (Or.inl rfl) (pe_op op_sub (pe_ix ix_tup (pe_ix ix_tup (pe_ix ix_list (pv 0) (pe_op op_add (pv 2) pe_int) (fun _ _ => rfl)) pe_int (fun _ _ => rfl)) pe_int (fun _ _ => rfl)) (pe_ix ix_tup (pe_ix ix_tup (pe_ix ix_list (pv 0) (pv 2) (fun _ _ => rfl)) pe_int (fun _ _ => rfl)) pe_int (fun _ _ => rfl))) ip_add))) (pss_one (ps_ret (pv 1)))))
abbrev s_without : Stmt := top 18
theorem sc_without : FnScope N_without ["some", "place"] (defScope s_without) := ⟨rfl, rfl, rfl, by decide +kernel, rfl, by decide +kernel, by decide +kernel⟩
theorem ok_without {P : Program} {w : World} {K : PySem.W.Frag} {mg : Str → Option Value} {base : Heap} {C : Addr} (T : Txt K mg C) (A : At K mg "without" s_without ["some", "place"]) : Def P w K mg base 1 "without" ["some", "place"] (sp_without) := by
  obtain ⟨f, fd, F, hm, hb⟩ := A
  refine ⟨f, fd, F.ok sc_without (fun vs H Q E h => spF_len h) (fun cdv A outer s H vs Q E hr h => ⟨t_without K C, ?_, pure_without vs H Q E h⟩), hm, F.kp, hb⟩
  exact (pss_one (ps_ret (pe_op op_cat (pe_slice sl_list (pv 0) po_none (po_some (pv 1))) (pe_slice sl_list (pv 0) (po_some (pe_op op_add (pv 1) pe_int)) po_none))))
abbrev s_left_place : Stmt := top 19
theorem sc_left_place : FnScope N_left_place ["some"] (defScope s_left_place) := ⟨rfl, rfl, rfl, by decide +kernel, rfl, by decide +kernel, by decide +kernel⟩
theorem ok_left_place {P : Program} {w : World} {K : PySem.W.Frag} {mg : Str → Option Value} {base : Heap} {C : Addr} (T : Txt K mg C) (A : At K mg "left_place" s_left_place ["some"]) (D_difference_of : Def P w K mg base 1 "difference_of" ["some"] (sp_difference_of)) (D_without : Def P w K mg base 1 "without" ["some", "place"] (sp_without)) : Def P w K mg base 2 "left_place" ["some"] (sp_left_place) := by
  obtain ⟨f, fd, F, hm, hb⟩ := A
  obtain ⟨_, _, F_difference_of, m_difference_of, k_difference_of, b_difference_of⟩ := D_difference_of
  obtain ⟨_, _, F_without, m_without, k_without, b_without⟩ := D_without
  refine ⟨f, fd, F.ok sc_left_place (fun vs H Q E h => spF_len h) (fun cdv A outer s H vs Q E hr h => ⟨t_left_place K C, ?_, pure_left_place vs H Q E h⟩), hm, F.kp, hb⟩
  exact (pss_cons (ps_set (i := 1) sc_left_place.nd rfl (Or.inl rfl) pe_int) (pss_cons (ps_for PassesOwn.never rfl (pi_range2 rfl T.nrange (pa_cons pe_int (pa_cons (pe_callB call_len_seq (by rfl) T.nlen PySem.boot_len (pa_cons (pv 0) pa_nil)) pa_nil))) (pg_name (i := 2) sc_left_place.nd rfl (Or.inl rfl)) (pss_one (ps_if (pt_cmpR op_lt (pe_call F_difference_of (hr.mono (by decide)) rfl m_difference_of k_difference_of b_difference_of .nil pass0 (pa_cons (pe_call F_without (hr.mono (by decide)) rfl m_without k_without b_without .nil pass0 (pa_cons (pv 0) (pa_cons (pv 2) pa_nil))) pa_nil)) (pe_call F_difference_of (hr.mono (by decide)) rfl m_difference_of k_difference_of b_difference_of .nil pass0 (pa_cons (pe_call F_without (hr.mono (by decide)) rfl m_without k_without b_without .nil pass0 (pa_cons (pv 0) (pa_cons (pv 1) pa_nil))) pa_nil)) (nomark _)) (pss_one (ps_set (i := 1) sc_left_place.nd rfl (Or.inl rfl) (pv 2))) pss_nil))) (pss_one (ps_ret (pv 1)))))
abbrev s_best_pairs_of : Stmt := top 20
theorem sc_best_pairs_of : FnScope N_best_pairs_of ["order", "kind"] (defScope s_best_pairs_of) := ⟨rfl, rfl, rfl, by decide +kernel, rfl, by decide +kernel, by decide +kernel⟩
theorem ok_best_pairs_of {P : Program} {w : World} {K : PySem.W.Frag} {mg : Str → Option Value} {base : Heap} {C : Addr} (T : Txt K mg C) (A : At K mg "best_pairs_of" s_best_pairs_of ["order", "kind"]) (D_without : Def P w K mg base 1 "without" ["some", "place"] (sp_without)) (D_left_place : Def P w K mg base 2 "left_place" ["some"] (sp_left_place)) : Def P w K mg base 3 "best_pairs_of" ["order", "kind"] (sp_best_pairs_of) := by
  obtain ⟨f, fd, F, hm, hb⟩ := A
  obtain ⟨_, _, F_without, m_without, k_without, b_without⟩ := D_without
  obtain ⟨_, _, F_left_place, m_left_place, k_left_place, b_left_place⟩ := D_left_place
  refine ⟨f, fd, F.ok sc_best_pairs_of (fun vs H Q E h => spF_len h) (fun cdv A outer s H vs Q E hr h => ⟨t_best_pairs_of K C, ?_, pure_best_pairs_of vs H Q E h⟩), hm, F.kp, hb⟩
  exact (pss_cons (ps_setLc (i := 2) (own := [("number", 4), ("hide", 5)]) (g := (gTup K 2 (gCons (gName 4) (gCons (gName 5) gNil)))) (tt := (tTest (tOp rEq (tOp (rIxT K) (tVar 5) (tC (.int 0))) (tVar 1)))) (te := (tTup (tCons (tVar 4) (tCons (tVar 5) tNil)))) rfl sc_best_pairs_of.nd rfl rfl (sw_true rfl rfl rfl (by decide +kernel)) (pi_list (pv 0)) (blkOk_by (N := N_best_pairs_of) (sc := defScope s_best_pairs_of) (by decide +kernel)) (fun _ _ _ _ _ => (pg_tup (by rfl) (pgs_cons (pg_name (i := 4) sc_best_pairs_of.nd rfl (Or.inl rfl)) (pgs_cons (pg_name (i := 5) sc_best_pairs_of.nd rfl (Or.inl rfl)) pgs_nil)))) (fun _ _ _ _ _ => (pts_one (pt_cmpR op_eq (pe_ix ix_tup (pv 5) pe_int (fun _ _ => rfl)) (pv 1) (nomark _)))) (fun _ _ _ _ _ => (pe_tup (pa_cons (pv 4) (pa_cons (pv 5) pa_nil))))) (pss_cons (ps_if (pt_cmpR op_eq (pe_op op_mod (pe_callB call_len_seq (by rfl) T.nlen PySem.boot_len (pa_cons (pv 2) pa_nil)) pe_int) pe_int (nomark _)) (pss_one (ps_ret (pe_tup (pa_cons (pv 2) (pa_cons (pe_lst pa_nil) pa_nil))))) pss_nil) (pss_cons (ps_set (i := 3) sc_best_pairs_of.nd rfl (Or.inl rfl) (pe_call F_left_place (hr.mono (by decide)) rfl m_left_place k_left_place b_left_place .nil pass0 (pa_cons (pv 2) pa_nil))) (pss_one (ps_ret (pe_tup (pa_cons (pe_call F_without (hr.mono (by decide)) rfl m_without k_without b_without .nil pass0 (pa_cons (pv 2) (pa_cons (pv 3) pa_nil))) (pa_cons (pe_lst (pa_cons (pe_ix ix_list (pv 2) (pv 3) (fun _ _ => rfl)) pa_nil)) pa_nil))))))))
abbrev s_are_limits : Stmt := top 30
theorem sc_are_limits : FnScope N_are_limits ["tolerance", "lot_size"] (defScope s_are_limits) := ⟨rfl, rfl, rfl, by decide +kernel, rfl, by decide +kernel, by decide +kernel⟩
theorem ok_are_limits {P : Program} {w : World} {K : PySem.W.Frag} {mg : Str → Option Value} {base : Heap} {C : Addr} (T : Txt K mg C) (A : At K mg "are_limits" s_are_limits ["tolerance", "lot_size"]) : Def P w K mg base 1 "are_limits" ["tolerance", "lot_size"] (sp_are_limits) := by
  obtain ⟨f, fd, F, hm, hb⟩ := A
  refine ⟨f, fd, F.ok sc_are_limits (fun vs H Q E h => spF_len h) (fun cdv A outer s H vs Q E hr h => ⟨t_are_limits K C, ?_, pure_are_limits vs H Q E h⟩), hm, F.kp, hb⟩
  exact (pss_one (ps_ret (pe_and (pe_cmpR op_le (pv 0) (pe_const rfl T.gMOST) (nomark _)) (pe_one (pe_chain op_le op_le pe_int (pv 1) (pe_const rfl T.gMOST_LOT))))))
abbrev s_is_hide : Stmt := top 31
theorem sc_is_hide : FnScope N_is_hide ["kind", "thickness", "area"] (defScope s_is_hide) := ⟨rfl, rfl, rfl, by decide +kernel, rfl, by decide +kernel, by decide +kernel⟩
theorem ok_is_hide {P : Program} {w : World} {K : PySem.W.Frag} {mg : Str → Option Value} {base : Heap} {C : Addr} (T : Txt K mg C) (A : At K mg "is_hide" s_is_hide ["kind", "thickness", "area"]) : Def P w K mg base 1 "is_hide" ["kind", "thickness", "area"] (sp_is_hide) := by
  obtain ⟨f, fd, F, hm, hb⟩ := A
  refine ⟨f, fd, F.ok sc_is_hide (fun vs H Q E h => spF_len h) (fun cdv A outer s H vs Q E hr h => ⟨t_is_hide K C, ?_, pure_is_hide vs H Q E h⟩), hm, F.kp, hb⟩
  exact (pss_one (ps_ret (pe_and (pe_cmpR op_le (pv 0) (pe_const rfl T.gMOST_KIND) (nomark _)) (pe_and (pe_chain op_le op_le pe_int (pv 1) (pe_const rfl T.gMOST)) (pe_one (pe_chain op_le op_le pe_int (pv 2) (pe_const rfl T.gMOST)))))))
abbrev s_exists : Stmt := top 32
theorem sc_exists : FnScope N_exists ["inventory", "number"] (defScope s_exists) := ⟨rfl, rfl, rfl, by decide +kernel, rfl, by decide +kernel, by decide +kernel⟩
theorem ok_exists {P : Program} {w : World} {K : PySem.W.Frag} {mg : Str → Option Value} {base : Heap} {C : Addr} (T : Txt K mg C) (A : At K mg "exists" s_exists ["inventory", "number"]) : Def P w K mg base 1 "exists" ["inventory", "number"] (sp_exists C) := by
  obtain ⟨f, fd, F, hm, hb⟩ := A
  refine ⟨f, fd, F.ok sc_exists (fun vs H Q E h => spV_len h) (fun cdv A outer s H vs Q E hr h => ⟨t_exists K C, ?_, pure_exists T.cl vs H Q E h⟩), hm, F.kp, hb⟩
  exact (pss_one (ps_ret (pe_cmpR op_lt (pv 1) (pe_callB call_len_seq (by rfl) T.nlen PySem.boot_len (pa_cons (pe_fld (pv 0) rfl) pa_nil)) (nomark _))))
abbrev s_order_of : Stmt := top 33
theorem sc_order_of : FnScope N_order_of ["inventory"] (defScope s_order_of) := ⟨rfl, rfl, rfl, by decide +kernel, rfl, by decide +kernel, by decide +kernel⟩
theorem ok_order_of {P : Program} {w : World} {K : PySem.W.Frag} {mg : Str → Option Value} {base : Heap} {C : Addr} (T : Txt K mg C) (A : At K mg "order_of" s_order_of ["inventory"]) (D_ordered : Def P w K mg base 3 "ordered" ["hides"] (sp_ordered)) : Def P w K mg base 4 "order_of" ["inventory"] (sp_order_of C) := by
  obtain ⟨f, fd, F, hm, hb⟩ := A
  obtain ⟨_, _, F_ordered, m_ordered, k_ordered, b_ordered⟩ := D_ordered
  refine ⟨f, fd, F.ok sc_order_of (fun vs H Q E h => spV_len h) (fun cdv A outer s H vs Q E hr h => ⟨t_order_of K C, ?_, pure_order_of T.cl vs H Q E h⟩), hm, F.kp, hb⟩
  exact (pss_one (ps_ret (pe_call F_ordered (hr.mono (by decide)) rfl m_ordered k_ordered b_ordered .nil pass0 (pa_cons (pe_fld (pv 0) rfl) pa_nil))))
abbrev s_numbers_of : Stmt := top 34
theorem sc_numbers_of : FnScope N_numbers_of ["some"] (defScope s_numbers_of) := ⟨rfl, rfl, rfl, by decide +kernel, rfl, by decide +kernel, by decide +kernel⟩
theorem ok_numbers_of {P : Program} {w : World} {K : PySem.W.Frag} {mg : Str → Option Value} {base : Heap} {C : Addr} (T : Txt K mg C) (A : At K mg "numbers_of" s_numbers_of ["some"]) : Def P w K mg base 1 "numbers_of" ["some"] (sp_numbers_of) := by
  obtain ⟨f, fd, F, hm, hb⟩ := A
  refine ⟨f, fd, F.ok sc_numbers_of (fun vs H Q E h => spF_len h) (fun cdv A outer s H vs Q E hr h => ⟨t_numbers_of K C, ?_, pure_numbers_of vs H Q E h⟩), hm, F.kp, hb⟩
  exact (pss_one (ps_ret (pe_lc (own := [("number", 1), ("hide", 2)]) (g := (gTup K 2 (gCons (gName 1) (gCons (gName 2) gNil)))) (tt := tYes) (te := (tVar 1)) rfl sc_numbers_of.nd (pi_list (pv 0)) (blkOk_by (N := N_numbers_of) (sc := defScope s_numbers_of) (by decide +kernel)) (fun _ _ _ _ _ => (pg_tup (by rfl) (pgs_cons (pg_name (i := 1) sc_numbers_of.nd rfl (Or.inl rfl)) (pgs_cons (pg_name (i := 2) sc_numbers_of.nd rfl (Or.inl rfl)) pgs_nil)))) (fun _ _ _ _ _ => pts_nil) (fun _ _ _ _ _ => (pv 1)))))
abbrev s_add_hide : Stmt := top 35
theorem sc_add_hide : FnScope N_add_hide ["inventory", "kind", "thickness", "area"] (defScope s_add_hide) := ⟨rfl, rfl, rfl, by decide +kernel, rfl, by decide +kernel, by decide +kernel⟩
theorem ok_add_hide {P : Program} {w : World} {K : PySem.W.Frag} {mg : Str → Option Value} {base : Heap} {C : Addr} (T : Txt K mg C) (A : At K mg "add_hide" s_add_hide ["inventory", "kind", "thickness", "area"]) (D_is_hide : Def P w K mg base 1 "is_hide" ["kind", "thickness", "area"] (sp_is_hide)) : Def P w K mg base 2 "add_hide" ["inventory", "kind", "thickness", "area"] (sp_add_hide C) := by
  obtain ⟨f, fd, F, hm, hb⟩ := A
  obtain ⟨_, _, F_is_hide, m_is_hide, k_is_hide, b_is_hide⟩ := D_is_hide
  refine ⟨f, fd, F.ok sc_add_hide (fun vs H Q E h => spM_len h) (fun cdv A outer s H vs Q E hr h => ⟨t_add_hide K C, ?_, pure_add_hide T.cl vs H Q E h⟩), hm, F.kp, hb⟩
  exact (pss_cons (ps_if (pt_not (pt_val (pe_call F_is_hide (hr.mono (by decide)) rfl m_is_hide k_is_hide b_is_hide .nil pass0 (pa_cons (pv 1) (pa_cons (pv 2) (pa_cons (pv 3) pa_nil)))))) (pss_one (ps_ret (pe_lst (pa_cons (pe_const rfl T.gBEYOND) pa_nil)))) pss_nil) (pss_cons (ps_if (pt_cmpR op_eq (pe_callB call_len_seq (by rfl) T.nlen PySem.boot_len (pa_cons (pe_fld (pv 0) rfl) pa_nil)) (pe_const rfl T.gMOST_HIDES) (nomark _)) (pss_one (ps_ret (pe_lst (pa_cons (pe_const rfl T.gFULL) pa_nil)))) pss_nil) (pss_cons (ps_fld (pv 0) (pe_op op_cat (pe_fld (pv 0) rfl) (pe_lst (pa_cons (pe_tup (pa_cons (pv 1) (pa_cons (pv 2) (pa_cons (pv 3) pa_nil)))) pa_nil))) rfl) (pss_one (ps_ret (pe_lst (pa_cons (pe_op op_sub (pe_callB call_len_seq (by rfl) T.nlen PySem.boot_len (pa_cons (pe_fld (pv 0) rfl) pa_nil)) pe_int) pa_nil)))))))
abbrev s_remove_hide : Stmt := top 36
theorem sc_remove_hide : FnScope N_remove_hide ["inventory", "number"] (defScope s_remove_hide) := ⟨rfl, rfl, rfl, by decide +kernel, rfl, by decide +kernel, by decide +kernel⟩
theorem ok_remove_hide {P : Program} {w : World} {K : PySem.W.Frag} {mg : Str → Option Value} {base : Heap} {C : Addr} (T : Txt K mg C) (A : At K mg "remove_hide" s_remove_hide ["inventory", "number"]) (D_exists : Def P w K mg base 1 "exists" ["inventory", "number"] (sp_exists C)) : Def P w K mg base 2 "remove_hide" ["inventory", "number"] (sp_remove_hide C) := by
  obtain ⟨f, fd, F, hm, hb⟩ := A
  obtain ⟨_, _, F_exists, m_exists, k_exists, b_exists⟩ := D_exists
  refine ⟨f, fd, F.ok sc_remove_hide (fun vs H Q E h => spM_len h) (fun cdv A outer s H vs Q E hr h => ⟨t_remove_hide K C, ?_, pure_remove_hide T.cl vs H Q E h⟩), hm, F.kp, hb⟩
  exact (pss_cons (ps_if (pt_not (pt_val (pe_call F_exists (hr.mono (by decide)) rfl m_exists k_exists b_exists .nil pass0 (pa_cons (pv 0) (pa_cons (pv 1) pa_nil))))) (pss_one (ps_ret (pe_lst (pa_cons (pe_const rfl T.gNO_HIDE) pa_nil)))) pss_nil) (pss_cons (ps_fld (pv 0) (pe_op op_cat (pe_slice sl_list (pe_fld (pv 0) rfl) po_none (po_some (pv 1))) (pe_slice sl_list (pe_fld (pv 0) rfl) (po_some (pe_op op_add (pv 1) pe_int)) po_none)) rfl) (pss_one (ps_ret (pe_lst (pa_cons (pe_callB call_len_seq (by rfl) T.nlen PySem.boot_len (pa_cons (pe_fld (pv 0) rfl) pa_nil)) pa_nil))))))
abbrev s_get_hide : Stmt := top 37
theorem sc_get_hide : FnScope N_get_hide ["inventory", "number"] (defScope s_get_hide) := ⟨rfl, rfl, rfl, by decide +kernel, rfl, by decide +kernel, by decide +kernel⟩
theorem ok_get_hide {P : Program} {w : World} {K : PySem.W.Frag} {mg : Str → Option Value} {base : Heap} {C : Addr} (T : Txt K mg C) (A : At K mg "get_hide" s_get_hide ["inventory", "number"]) (D_exists : Def P w K mg base 1 "exists" ["inventory", "number"] (sp_exists C)) : Def P w K mg base 2 "get_hide" ["inventory", "number"] (sp_get_hide C) := by
  obtain ⟨f, fd, F, hm, hb⟩ := A
  obtain ⟨_, _, F_exists, m_exists, k_exists, b_exists⟩ := D_exists
  refine ⟨f, fd, F.ok sc_get_hide (fun vs H Q E h => spV_len h) (fun cdv A outer s H vs Q E hr h => ⟨t_get_hide K C, ?_, pure_get_hide T.cl vs H Q E h⟩), hm, F.kp, hb⟩
  exact (pss_one (ps_ret (pe_ifExp (pt_val (pe_call F_exists (hr.mono (by decide)) rfl m_exists k_exists b_exists .nil pass0 (pa_cons (pv 0) (pa_cons (pv 1) pa_nil)))) (pe_callTy call_list_of (by rfl) T.nlist (by decide +kernel) (pa_cons (pe_ix ix_list (pe_fld (pv 0) rfl) (pv 1) (fun _ _ => rfl)) pa_nil)) (pe_lst (pa_cons (pe_const rfl T.gNO_HIDE) pa_nil)))))
abbrev s_set_limits : Stmt := top 38
theorem sc_set_limits : FnScope N_set_limits ["inventory", "tolerance", "lot_size"] (defScope s_set_limits) := ⟨rfl, rfl, rfl, by decide +kernel, rfl, by decide +kernel, by decide +kernel⟩
theorem ok_set_limits {P : Program} {w : World} {K : PySem.W.Frag} {mg : Str → Option Value} {base : Heap} {C : Addr} (T : Txt K mg C) (A : At K mg "set_limits" s_set_limits ["inventory", "tolerance", "lot_size"]) (D_are_limits : Def P w K mg base 1 "are_limits" ["tolerance", "lot_size"] (sp_are_limits)) : Def P w K mg base 2 "set_limits" ["inventory", "tolerance", "lot_size"] (sp_set_limits C) := by
  obtain ⟨f, fd, F, hm, hb⟩ := A
  obtain ⟨_, _, F_are_limits, m_are_limits, k_are_limits, b_are_limits⟩ := D_are_limits
  refine ⟨f, fd, F.ok sc_set_limits (fun vs H Q E h => spM_len h) (fun cdv A outer s H vs Q E hr h => ⟨t_set_limits K C, ?_, pure_set_limits T.cl vs H Q E h⟩), hm, F.kp, hb⟩
  exact (pss_cons (ps_if (pt_not (pt_val (pe_call F_are_limits (hr.mono (by decide)) rfl m_are_limits k_are_limits b_are_limits .nil pass0 (pa_cons (pv 1) (pa_cons (pv 2) pa_nil))))) (pss_one (ps_ret (pe_lst (pa_cons (pe_const rfl T.gBEYOND) pa_nil)))) pss_nil) (pss_cons (ps_set (i := 3) sc_set_limits.nd rfl (Or.inl rfl) (pe_lst (pa_cons pe_int (pa_cons (pe_fld (pv 0) rfl) (pa_cons (pe_fld (pv 0) rfl) pa_nil))))) (pss_cons (ps_fld (pv 0) (pv 1) rfl) (pss_cons (ps_fld (pv 0) (pv 2) rfl) (pss_one (ps_ret (pv 3)))))))
abbrev s_thin_hide : Stmt := top 39
theorem sc_thin_hide : FnScope N_thin_hide ["inventory", "number", "thickness"] (defScope s_thin_hide) := ⟨rfl, rfl, rfl, by decide +kernel, rfl, by decide +kernel, by decide +kernel⟩
theorem ok_thin_hide {P : Program} {w : World} {K : PySem.W.Frag} {mg : Str → Option Value} {base : Heap} {C : Addr} (T : Txt K mg C) (A : At K mg "thin_hide" s_thin_hide ["inventory", "number", "thickness"]) (D_exists : Def P w K mg base 1 "exists" ["inventory", "number"] (sp_exists C)) : Def P w K mg base 2 "thin_hide" ["inventory", "number", "thickness"] (sp_thin_hide C) := by
  obtain ⟨f, fd, F, hm, hb⟩ := A
  obtain ⟨_, _, F_exists, m_exists, k_exists, b_exists⟩ := D_exists
  refine ⟨f, fd, F.ok sc_thin_hide (fun vs H Q E h => spM_len h) (fun cdv A outer s H vs Q E hr h => ⟨t_thin_hide K C, ?_, pure_thin_hide T.cl vs H Q E h⟩), hm, F.kp, hb⟩
  exact (pss_cons (ps_if (pt_not (pt_val (pe_call F_exists (hr.mono (by decide)) rfl m_exists k_exists b_exists .nil pass0 (pa_cons (pv 0) (pa_cons (pv 1) pa_nil))))) (pss_one (ps_ret (pe_lst (pa_cons (pe_const rfl T.gNO_HIDE) pa_nil)))) pss_nil) (pss_cons (ps_asg (pe_ix ix_list (pe_fld (pv 0) rfl) (pv 1) (fun _ _ => rfl)) (pg_tup (by rfl) (pgs_cons (pg_name (i := 3) sc_thin_hide.nd rfl (Or.inl rfl)) (pgs_cons (pg_name (i := 4) sc_thin_hide.nd rfl (Or.inl rfl)) (pgs_cons (pg_name (i := 5) sc_thin_hide.nd rfl (Or.inl rfl)) pgs_nil))))) (pss_cons (ps_if (PW.pt (pw_or (pt_cmpR op_eq (pv 2) pe_int (nomark _)) (pw_or1 (pt_cmpR op_ge (pv 2) (pv 4) (nomark _))))) (pss_one (ps_ret (pe_lst (pa_cons (pe_const rfl T.gBEYOND) pa_nil)))) pss_nil) (pss_cons (ps_fld (pv 0) (pe_op op_cat (pe_op op_cat (pe_slice sl_list (pe_fld (pv 0) rfl) po_none (po_some (pv 1))) (pe_lst (pa_cons (pe_tup (pa_cons (pv 3) (pa_cons (pv 2) (pa_cons (pv 5) pa_nil)))) pa_nil))) (pe_slice sl_list (pe_fld (pv 0) rfl) (po_some (pe_op op_add (pv 1) pe_int)) po_none)) rfl) (pss_one (ps_ret (pe_lst (pa_cons (pv 4) pa_nil))))))))
abbrev s_hide_order : Stmt := top 40
theorem sc_hide_order : FnScope N_hide_order ["inventory"] (defScope s_hide_order) := ⟨rfl, rfl, rfl, by decide +kernel, rfl, by decide +kernel, by decide +kernel⟩
theorem ok_hide_order {P : Program} {w : World} {K : PySem.W.Frag} {mg : Str → Option Value} {base : Heap} {C : Addr} (T : Txt K mg C) (A : At K mg "hide_order" s_hide_order ["inventory"]) (D_order_of : Def P w K mg base 4 "order_of" ["inventory"] (sp_order_of C)) (D_numbers_of : Def P w K mg base 1 "numbers_of" ["some"] (sp_numbers_of)) : Def P w K mg base 5 "hide_order" ["inventory"] (sp_hide_order C) := by
  obtain ⟨f, fd, F, hm, hb⟩ := A
  obtain ⟨_, _, F_order_of, m_order_of, k_order_of, b_order_of⟩ := D_order_of
  obtain ⟨_, _, F_numbers_of, m_numbers_of, k_numbers_of, b_numbers_of⟩ := D_numbers_of
  refine ⟨f, fd, F.ok sc_hide_order (fun vs H Q E h => spV_len h) (fun cdv A outer s H vs Q E hr h => ⟨t_hide_order K C, ?_, pure_hide_order T.cl vs H Q E h⟩), hm, F.kp, hb⟩
  exact (pss_one (ps_ret (pe_op op_cat (pe_lst (pa_cons (pe_callB call_len_seq (by rfl) T.nlen PySem.boot_len (pa_cons (pe_fld (pv 0) rfl) pa_nil)) pa_nil)) (pe_call F_numbers_of (hr.mono (by decide)) rfl m_numbers_of k_numbers_of b_numbers_of .nil pass0 (pa_cons (pe_call F_order_of (hr.mono (by decide)) rfl m_order_of k_order_of b_order_of .nil pass0 (pa_cons (pv 0) pa_nil)) pa_nil)))))
abbrev s_are_compatible : Stmt := top 41
theorem sc_are_compatible : FnScope N_are_compatible ["inventory", "first", "second"] (defScope s_are_compatible) := ⟨rfl, rfl, rfl, by decide +kernel, rfl, by decide +kernel, by decide +kernel⟩
theorem ok_are_compatible {P : Program} {w : World} {K : PySem.W.Frag} {mg : Str → Option Value} {base : Heap} {C : Addr} (T : Txt K mg C) (A : At K mg "are_compatible" s_are_compatible ["inventory", "first", "second"]) (D_are_alike : Def P w K mg base 1 "are_alike" ["one", "other", "tolerance"] (sp_are_alike)) (D_exists : Def P w K mg base 1 "exists" ["inventory", "number"] (sp_exists C)) : Def P w K mg base 2 "are_compatible" ["inventory", "first", "second"] (sp_are_compatible C) := by
  obtain ⟨f, fd, F, hm, hb⟩ := A
  obtain ⟨_, _, F_are_alike, m_are_alike, k_are_alike, b_are_alike⟩ := D_are_alike
  obtain ⟨_, _, F_exists, m_exists, k_exists, b_exists⟩ := D_exists
  refine ⟨f, fd, F.ok sc_are_compatible (fun vs H Q E h => spV_len h) (fun cdv A outer s H vs Q E hr h => ⟨t_are_compatible K C, ?_, pure_are_compatible T.cl vs H Q E h⟩), hm, F.kp, hb⟩
  exact (pss_cons (ps_if (PW.pt (pw_or (pt_not (pt_val (pe_call F_exists (hr.mono (by decide)) rfl m_exists k_exists b_exists .nil pass0 (pa_cons (pv 0) (pa_cons (pv 1) pa_nil))))) (pw_or1 (pt_not (pt_val (pe_call F_exists (hr.mono (by decide)) rfl m_exists k_exists b_exists .nil pass0 (pa_cons (pv 0) (pa_cons (pv 2) pa_nil)))))))) (pss_one (ps_ret (pe_lst (pa_cons (pe_const rfl T.gNO_HIDE) pa_nil)))) pss_nil) (pss_one (ps_ret (pe_lst (pa_cons (pe_callTy call_int1 (by rfl) T.nint (by decide +kernel) (pa_cons (pe_call F_are_alike (hr.mono (by decide)) rfl m_are_alike k_are_alike b_are_alike .nil pass0 (pa_cons (pe_ix ix_list (pe_fld (pv 0) rfl) (pv 1) (fun _ _ => rfl)) (pa_cons (pe_ix ix_list (pe_fld (pv 0) rfl) (pv 2) (fun _ _ => rfl)) (pa_cons (pe_fld (pv 0) rfl) pa_nil)))) pa_nil)) pa_nil)))))
abbrev s_are_hides : Stmt := top 42
theorem sc_are_hides : FnScope N_are_hides ["inventory", "numbers"] (defScope s_are_hides) := ⟨rfl, rfl, rfl, by decide +kernel, rfl, by decide +kernel, by decide +kernel⟩
theorem ok_are_hides {P : Program} {w : World} {K : PySem.W.Frag} {mg : Str → Option Value} {base : Heap} {C : Addr} (T : Txt K mg C) (A : At K mg "are_hides" s_are_hides ["inventory", "numbers"]) (D_exists : Def P w K mg base 1 "exists" ["inventory", "number"] (sp_exists C)) : Def P w K mg base 2 "are_hides" ["inventory", "numbers"] (sp_are_hides C) := by
  obtain ⟨f, fd, F, hm, hb⟩ := A
  obtain ⟨_, _, F_exists, m_exists, k_exists, b_exists⟩ := D_exists
  refine ⟨f, fd, F.ok sc_are_hides (fun vs H Q E h => spV_len h) (fun cdv A outer s H vs Q E hr h => ⟨t_are_hides K C, ?_, pure_are_hides T.cl vs H Q E h⟩), hm, F.kp, hb⟩
  exact (pss_cons (ps_for PassesOwn.never rfl (pi_range1 rfl T.nrange (pa_cons (pe_callB call_len_seq (by rfl) T.nlen PySem.boot_len (pa_cons (pv 1) pa_nil)) pa_nil)) (pg_name (i := 2) sc_are_hides.nd rfl (Or.inl rfl)) (pss_one (ps_if (PW.pt (pw_or (pt_not (pt_val (pe_call F_exists (hr.mono (by decide)) rfl m_exists k_exists b_exists .nil pass0 (pa_cons (pv 0) (pa_cons (pe_ix ix_list (pv 1) (pv 2) (fun _ _ => rfl)) pa_nil))))) (pw_or1 (pt_cmpR op_in_seq (pe_ix ix_list (pv 1) (pv 2) (fun _ _ => rfl)) (pe_slice sl_list (pv 1) po_none (po_some (pv 2))) rfl)))) (pss_one (ps_ret pe_bl)) pss_nil))) (pss_one (ps_ret pe_bl)))
abbrev s_hides_with : Stmt := top 43
theorem sc_hides_with : FnScope N_hides_with ["inventory", "numbers"] (defScope s_hides_with) := ⟨rfl, rfl, rfl, by decide +kernel, rfl, by decide +kernel, by decide +kernel⟩
theorem ok_hides_with {P : Program} {w : World} {K : PySem.W.Frag} {mg : Str → Option Value} {base : Heap} {C : Addr} (T : Txt K mg C) (A : At K mg "hides_with" s_hides_with ["inventory", "numbers"]) : Def P w K mg base 1 "hides_with" ["inventory", "numbers"] (sp_hides_with C) := by
  obtain ⟨f, fd, F, hm, hb⟩ := A
  refine ⟨f, fd, F.ok sc_hides_with (fun vs H Q E h => spV_len h) (fun cdv A outer s H vs Q E hr h => ⟨t_hides_with K C, ?_, pure_hides_with T.cl vs H Q E h⟩), hm, F.kp, hb⟩
  exact (pss_one (ps_ret (pe_lc (own := [("number", 2)]) (g := (gName 2)) (tt := tYes) (te := (tTup (tCons (tVar 2) (tCons (tOp (rIxL K) (tFld K (tVar 0) "hides") (tVar 2)) tNil)))) rfl sc_hides_with.nd (pi_list (pv 1)) (blkOk_by (N := N_hides_with) (sc := defScope s_hides_with) (by decide +kernel)) (fun _ _ _ _ _ => (pg_name (i := 2) sc_hides_with.nd rfl (Or.inl rfl))) (fun _ _ _ _ _ => pts_nil) (fun _ _ _ _ _ => (pe_tup (pa_cons (pv 2) (pa_cons (pe_ix ix_list (pe_fld (pv 0) rfl) (pv 2) (fun _ _ => rfl)) pa_nil)))))))
abbrev s_is_lot : Stmt := top 44
theorem sc_is_lot : FnScope N_is_lot ["inventory", "numbers"] (defScope s_is_lot) := ⟨rfl, rfl, rfl, by decide +kernel, rfl, by decide +kernel, by decide +kernel⟩
theorem ok_is_lot {P : Program} {w : World} {K : PySem.W.Frag} {mg : Str → Option Value} {base : Heap} {C : Addr} (T : Txt K mg C) (A : At K mg "is_lot" s_is_lot ["inventory", "numbers"]) (D_all_fit : Def P w K mg base 3 "all_fit" ["some", "tolerance"] (sp_all_fit)) (D_are_hides : Def P w K mg base 2 "are_hides" ["inventory", "numbers"] (sp_are_hides C)) (D_hides_with : Def P w K mg base 1 "hides_with" ["inventory", "numbers"] (sp_hides_with C)) : Def P w K mg base 4 "is_lot" ["inventory", "numbers"] (sp_is_lot C) := by
  obtain ⟨f, fd, F, hm, hb⟩ := A
  obtain ⟨_, _, F_all_fit, m_all_fit, k_all_fit, b_all_fit⟩ := D_all_fit
  obtain ⟨_, _, F_are_hides, m_are_hides, k_are_hides, b_are_hides⟩ := D_are_hides
  obtain ⟨_, _, F_hides_with, m_hides_with, k_hides_with, b_hides_with⟩ := D_hides_with
  refine ⟨f, fd, F.ok sc_is_lot (fun vs H Q E h => spV_len h) (fun cdv A outer s H vs Q E hr h => ⟨t_is_lot K C, ?_, pure_is_lot T.cl vs H Q E h⟩), hm, F.kp, hb⟩
  exact (pss_cons (ps_if (pt_not (pt_val (pe_call F_are_hides (hr.mono (by decide)) rfl m_are_hides k_are_hides b_are_hides .nil pass0 (pa_cons (pv 0) (pa_cons (pv 1) pa_nil))))) (pss_one (ps_ret (pe_lst (pa_cons (pe_const rfl T.gBEYOND) pa_nil)))) pss_nil) (pss_cons (ps_set (i := 2) sc_is_lot.nd rfl (Or.inl rfl) (pe_cmpR op_le (pe_callB call_len_seq (by rfl) T.nlen PySem.boot_len (pa_cons (pv 1) pa_nil)) (pe_fld (pv 0) rfl) (nomark _))) (pss_one (ps_ret (pe_lst (pa_cons (pe_callTy call_int1 (by rfl) T.nint (by decide +kernel) (pa_cons (pe_and (pv 2) (pe_one (pe_call F_all_fit (hr.mono (by decide)) rfl m_all_fit k_all_fit b_all_fit .nil pass0 (pa_cons (pe_call F_hides_with (hr.mono (by decide)) rfl m_hides_with k_hides_with b_hides_with .nil pass0 (pa_cons (pv 0) (pa_cons (pv 1) pa_nil))) (pa_cons (pe_fld (pv 0) rfl) pa_nil))))) pa_nil)) pa_nil))))))
abbrev s_greedy_lots : Stmt := top 45
theorem sc_greedy_lots : FnScope N_greedy_lots ["inventory"] (defScope s_greedy_lots) := ⟨rfl, rfl, rfl, by decide +kernel, rfl, by decide +kernel, by decide +kernel⟩
theorem ok_greedy_lots {P : Program} {w : World} {K : PySem.W.Frag} {mg : Str → Option Value} {base : Heap} {C : Addr} (T : Txt K mg C) (A : At K mg "greedy_lots" s_greedy_lots ["inventory"]) (D_greedy : Def P w K mg base 3 "greedy" ["order", "tolerance", "lot_size"] (sp_greedy)) (D_order_of : Def P w K mg base 4 "order_of" ["inventory"] (sp_order_of C)) (D_numbers_of : Def P w K mg base 1 "numbers_of" ["some"] (sp_numbers_of)) : Def P w K mg base 5 "greedy_lots" ["inventory"] (sp_greedy_lots C) := by
  obtain ⟨f, fd, F, hm, hb⟩ := A
  obtain ⟨_, _, F_greedy, m_greedy, k_greedy, b_greedy⟩ := D_greedy
  obtain ⟨_, _, F_order_of, m_order_of, k_order_of, b_order_of⟩ := D_order_of
  obtain ⟨_, _, F_numbers_of, m_numbers_of, k_numbers_of, b_numbers_of⟩ := D_numbers_of
  refine ⟨f, fd, F.ok sc_greedy_lots (fun vs H Q E h => spV_len h) (fun cdv A outer s H vs Q E hr h => ⟨t_greedy_lots K C, ?_, pure_greedy_lots T.cl vs H Q E h⟩), hm, F.kp, hb⟩
  exact (pss_cons (ps_set (i := 1) sc_greedy_lots.nd rfl (Or.inl rfl) (pe_call F_greedy (hr.mono (by decide)) rfl m_greedy k_greedy b_greedy .nil pass0 (pa_cons (pe_call F_order_of (hr.mono (by decide)) rfl m_order_of k_order_of b_order_of .nil pass0 (pa_cons (pv 0) pa_nil)) (pa_cons (pe_fld (pv 0) rfl) (pa_cons (pe_fld (pv 0) rfl) pa_nil))))) (pss_cons (ps_set (i := 2) sc_greedy_lots.nd rfl (Or.inl rfl) (pe_lst (pa_cons (pe_callB call_len_seq (by rfl) T.nlen PySem.boot_len (pa_cons (pv 1) pa_nil)) pa_nil))) (pss_cons (ps_for PassesOwn.never rfl (pi_list (pv 1)) (pg_name (i := 3) sc_greedy_lots.nd rfl (Or.inl rfl)) (pss_one (ps_set (i := 2) sc_greedy_lots.nd rfl (Or.inl rfl) (pe_op op_cat (pe_op op_cat (pv 2) (pe_lst (pa_cons (pe_callB call_len_seq (by rfl) T.nlen PySem.boot_len (pa_cons (pv 3) pa_nil)) pa_nil))) (pe_call F_numbers_of (hr.mono (by decide)) rfl m_numbers_of k_numbers_of b_numbers_of .nil pass0 (pa_cons (pv 3) pa_nil)))))) (pss_one (ps_ret (pv 2))))))
abbrev s_incompatible_hides : Stmt := top 46
theorem sc_incompatible_hides : FnScope N_incompatible_hides ["inventory"] (defScope s_incompatible_hides) := ⟨rfl, rfl, rfl, by decide +kernel, rfl, by decide +kernel, by decide +kernel⟩
theorem ok_incompatible_hides {P : Program} {w : World} {K : PySem.W.Frag} {mg : Str → Option Value} {base : Heap} {C : Addr} (T : Txt K mg C) (A : At K mg "incompatible_hides" s_incompatible_hides ["inventory"]) (D_incompatible : Def P w K mg base 2 "incompatible" ["order", "tolerance"] (sp_incompatible)) (D_order_of : Def P w K mg base 4 "order_of" ["inventory"] (sp_order_of C)) (D_numbers_of : Def P w K mg base 1 "numbers_of" ["some"] (sp_numbers_of)) : Def P w K mg base 5 "incompatible_hides" ["inventory"] (sp_incompatible_hides C) := by
  obtain ⟨f, fd, F, hm, hb⟩ := A
  obtain ⟨_, _, F_incompatible, m_incompatible, k_incompatible, b_incompatible⟩ := D_incompatible
  obtain ⟨_, _, F_order_of, m_order_of, k_order_of, b_order_of⟩ := D_order_of
  obtain ⟨_, _, F_numbers_of, m_numbers_of, k_numbers_of, b_numbers_of⟩ := D_numbers_of
  refine ⟨f, fd, F.ok sc_incompatible_hides (fun vs H Q E h => spV_len h) (fun cdv A outer s H vs Q E hr h => ⟨t_incompatible_hides K C, ?_, pure_incompatible_hides T.cl vs H Q E h⟩), hm, F.kp, hb⟩
  exact (pss_cons (ps_set (i := 1) sc_incompatible_hides.nd rfl (Or.inl rfl) (pe_call F_incompatible (hr.mono (by decide)) rfl m_incompatible k_incompatible b_incompatible .nil pass0 (pa_cons (pe_call F_order_of (hr.mono (by decide)) rfl m_order_of k_order_of b_order_of .nil pass0 (pa_cons (pv 0) pa_nil)) (pa_cons (pe_fld (pv 0) rfl) pa_nil)))) (pss_one (ps_ret (pe_op op_cat (pe_lst (pa_cons (pe_callB call_len_seq (by rfl) T.nlen PySem.boot_len (pa_cons (pv 1) pa_nil)) pa_nil)) (pe_call F_numbers_of (hr.mono (by decide)) rfl m_numbers_of k_numbers_of b_numbers_of .nil pass0 (pa_cons (pv 1) pa_nil))))))
abbrev s_largest_lot : Stmt := top 47
theorem sc_largest_lot : FnScope N_largest_lot ["inventory"] (defScope s_largest_lot) := ⟨rfl, rfl, rfl, by decide +kernel, rfl, by decide +kernel, by decide +kernel⟩
theorem ok_largest_lot {P : Program} {w : World} {K : PySem.W.Frag} {mg : Str → Option Value} {base : Heap} {C : Addr} (T : Txt K mg C) (A : At K mg "largest_lot" s_largest_lot ["inventory"]) (D_area_of : Def P w K mg base 1 "area_of" ["some"] (sp_area_of)) (D_largest : Def P w K mg base 5 "largest" ["order", "tolerance", "lot_size"] (sp_largest)) (D_order_of : Def P w K mg base 4 "order_of" ["inventory"] (sp_order_of C)) (D_numbers_of : Def P w K mg base 1 "numbers_of" ["some"] (sp_numbers_of)) : Def P w K mg base 6 "largest_lot" ["inventory"] (sp_largest_lot C) := by
  obtain ⟨f, fd, F, hm, hb⟩ := A
  obtain ⟨_, _, F_area_of, m_area_of, k_area_of, b_area_of⟩ := D_area_of
  obtain ⟨_, _, F_largest, m_largest, k_largest, b_largest⟩ := D_largest
  obtain ⟨_, _, F_order_of, m_order_of, k_order_of, b_order_of⟩ := D_order_of
  obtain ⟨_, _, F_numbers_of, m_numbers_of, k_numbers_of, b_numbers_of⟩ := D_numbers_of
  refine ⟨f, fd, F.ok sc_largest_lot (fun vs H Q E h => spV_len h) (fun cdv A outer s H vs Q E hr h => ⟨t_largest_lot K C, ?_, pure_largest_lot T.cl vs H Q E h⟩), hm, F.kp, hb⟩
  exact (pss_cons (ps_if (pt_cmpR (op_eqD hr.units) (pe_fld (pv 0) rfl) (pe_lst pa_nil) (nomark _)) (pss_one (ps_ret (pe_lst (pa_cons (pe_const rfl T.gNOTHING) pa_nil)))) pss_nil) (pss_cons (ps_set (i := 1) sc_largest_lot.nd rfl (Or.inl rfl) (pe_call F_largest (hr.mono (by decide)) rfl m_largest k_largest b_largest .nil pass0 (pa_cons (pe_call F_order_of (hr.mono (by decide)) rfl m_order_of k_order_of b_order_of .nil pass0 (pa_cons (pv 0) pa_nil)) (pa_cons (pe_fld (pv 0) rfl) (pa_cons (pe_fld (pv 0) rfl) pa_nil))))) (pss_one (ps_ret (pe_op op_cat (pe_lst (pa_cons (pe_call F_area_of (hr.mono (by decide)) rfl m_area_of k_area_of b_area_of .nil pass0 (pa_cons (pv 1) pa_nil)) (pa_cons (pe_callB call_len_seq (by rfl) T.nlen PySem.boot_len (pa_cons (pv 1) pa_nil)) pa_nil))) (pe_call F_numbers_of (hr.mono (by decide)) rfl m_numbers_of k_numbers_of b_numbers_of .nil pass0 (pa_cons (pv 1) pa_nil)))))))
abbrev s_total_area : Stmt := top 48
theorem sc_total_area : FnScope N_total_area ["inventory", "numbers"] (defScope s_total_area) := ⟨rfl, rfl, rfl, by decide +kernel, rfl, by decide +kernel, by decide +kernel⟩
theorem ok_total_area {P : Program} {w : World} {K : PySem.W.Frag} {mg : Str → Option Value} {base : Heap} {C : Addr} (T : Txt K mg C) (A : At K mg "total_area" s_total_area ["inventory", "numbers"]) (D_area_of : Def P w K mg base 1 "area_of" ["some"] (sp_area_of)) (D_are_hides : Def P w K mg base 2 "are_hides" ["inventory", "numbers"] (sp_are_hides C)) (D_hides_with : Def P w K mg base 1 "hides_with" ["inventory", "numbers"] (sp_hides_with C)) : Def P w K mg base 3 "total_area" ["inventory", "numbers"] (sp_total_area C) := by
  obtain ⟨f, fd, F, hm, hb⟩ := A
  obtain ⟨_, _, F_area_of, m_area_of, k_area_of, b_area_of⟩ := D_area_of
  obtain ⟨_, _, F_are_hides, m_are_hides, k_are_hides, b_are_hides⟩ := D_are_hides
  obtain ⟨_, _, F_hides_with, m_hides_with, k_hides_with, b_hides_with⟩ := D_hides_with
  refine ⟨f, fd, F.ok sc_total_area (fun vs H Q E h => spV_len h) (fun cdv A outer s H vs Q E hr h => ⟨t_total_area K C, ?_, pure_total_area T.cl vs H Q E h⟩), hm, F.kp, hb⟩
  exact (pss_cons (ps_if (pt_not (pt_val (pe_call F_are_hides (hr.mono (by decide)) rfl m_are_hides k_are_hides b_are_hides .nil pass0 (pa_cons (pv 0) (pa_cons (pv 1) pa_nil))))) (pss_one (ps_ret (pe_lst (pa_cons (pe_const rfl T.gBEYOND) pa_nil)))) pss_nil) (pss_one (ps_ret (pe_lst (pa_cons (pe_call F_area_of (hr.mono (by decide)) rfl m_area_of k_area_of b_area_of .nil pass0 (pa_cons (pe_call F_hides_with (hr.mono (by decide)) rfl m_hides_with k_hides_with b_hides_with .nil pass0 (pa_cons (pv 0) (pa_cons (pv 1) pa_nil))) pa_nil)) pa_nil)))))
abbrev s_best_pairs : Stmt := top 49
theorem sc_best_pairs : FnScope N_best_pairs ["inventory", "kind"] (defScope s_best_pairs) := ⟨rfl, rfl, rfl, by decide +kernel, rfl, by decide +kernel, by decide +kernel⟩
theorem ok_best_pairs {P : Program} {w : World} {K : PySem.W.Frag} {mg : Str → Option Value} {base : Heap} {C : Addr} (T : Txt K mg C) (A : At K mg "best_pairs" s_best_pairs ["inventory", "kind"]) (D_difference_of : Def P w K mg base 1 "difference_of" ["some"] (sp_difference_of)) (D_best_pairs_of : Def P w K mg base 3 "best_pairs_of" ["order", "kind"] (sp_best_pairs_of)) (D_order_of : Def P w K mg base 4 "order_of" ["inventory"] (sp_order_of C)) (D_numbers_of : Def P w K mg base 1 "numbers_of" ["some"] (sp_numbers_of)) : Def P w K mg base 5 "best_pairs" ["inventory", "kind"] (sp_best_pairs C) := by
  obtain ⟨f, fd, F, hm, hb⟩ := A
  obtain ⟨_, _, F_difference_of, m_difference_of, k_difference_of, b_difference_of⟩ := D_difference_of
  obtain ⟨_, _, F_best_pairs_of, m_best_pairs_of, k_best_pairs_of, b_best_pairs_of⟩ := D_best_pairs_of
  obtain ⟨_, _, F_order_of, m_order_of, k_order_of, b_order_of⟩ := D_order_of
  obtain ⟨_, _, F_numbers_of, m_numbers_of, k_numbers_of, b_numbers_of⟩ := D_numbers_of
  refine ⟨f, fd, F.ok sc_best_pairs (fun vs H Q E h => spV_len h) (fun cdv A outer s H vs Q E hr h => ⟨t_best_pairs K C, ?_, pure_best_pairs T.cl vs H Q E h⟩), hm, F.kp, hb⟩
  exact (pss_cons (ps_if (pt_cmpR op_gt (pv 1) (pe_const rfl T.gMOST_KIND) (nomark _)) (pss_one (ps_ret (pe_lst (pa_cons (pe_const rfl T.gBEYOND) pa_nil)))) pss_nil) (pss_cons (ps_asg (pe_call F_best_pairs_of (hr.mono (by decide)) rfl m_best_pairs_of k_best_pairs_of b_best_pairs_of .nil pass0 (pa_cons (pe_call F_order_of (hr.mono (by decide)) rfl m_order_of k_order_of b_order_of .nil pass0 (pa_cons (pv 0) pa_nil)) (pa_cons (pv 1) pa_nil))) (pg_tup (by rfl) (pgs_cons (pg_name (i := 2) sc_best_pairs.nd rfl (Or.inl rfl)) (pgs_cons (pg_name (i := 3) sc_best_pairs.nd rfl (Or.inl rfl)) pgs_nil)))) (pss_one (ps_ret (pe_op op_cat (pe_op op_cat (pe_lst (pa_cons (pe_call F_difference_of (hr.mono (by decide)) rfl m_difference_of k_difference_of b_difference_of .nil pass0 (pa_cons (pv 2) pa_nil)) (pa_cons (pe_op op_fdiv (pe_callB call_len_seq (by rfl) T.nlen PySem.boot_len (pa_cons (pv 2) pa_nil)) pe_int) pa_nil))) (pe_call F_numbers_of (hr.mono (by decide)) rfl m_numbers_of k_numbers_of b_numbers_of .nil pass0 (pa_cons (pv 2) pa_nil))) (pe_call F_numbers_of (hr.mono (by decide)) rfl m_numbers_of k_numbers_of b_numbers_of .nil pass0 (pa_cons (pv 3) pa_nil)))))))
abbrev s_least_tolerance : Stmt := top 50
theorem sc_least_tolerance : FnScope N_least_tolerance ["inventory", "lot_count"] (defScope s_least_tolerance) := ⟨rfl, rfl, rfl, by decide +kernel, rfl, by decide +kernel, by decide +kernel⟩
theorem ok_least_tolerance {P : Program} {w : World} {K : PySem.W.Frag} {mg : Str → Option Value} {base : Heap} {C : Addr} (T : Txt K mg C) (A : At K mg "least_tolerance" s_least_tolerance ["inventory", "lot_count"]) (D_greedy : Def P w K mg base 3 "greedy" ["order", "tolerance", "lot_size"] (sp_greedy)) (D_order_of : Def P w K mg base 4 "order_of" ["inventory"] (sp_order_of C)) : Def P w K mg base 5 "least_tolerance" ["inventory", "lot_count"] (sp_least_tolerance C) := by
  obtain ⟨f, fd, F, hm, hb⟩ := A
  obtain ⟨_, _, F_greedy, m_greedy, k_greedy, b_greedy⟩ := D_greedy
  obtain ⟨_, _, F_order_of, m_order_of, k_order_of, b_order_of⟩ := D_order_of
  refine ⟨f, fd, F.ok sc_least_tolerance (fun vs H Q E h => spV_len h) (fun cdv A outer s H vs Q E hr h => ⟨t_least_tolerance K C, ?_, pure_least_tolerance T.cl vs H Q E h⟩), hm, F.kp, hb⟩
  exact (pss_cons (ps_set (i := 2) sc_least_tolerance.nd rfl (Or.inl rfl) (pe_call F_order_of (hr.mono (by decide)) rfl m_order_of k_order_of b_order_of .nil pass0 (pa_cons (pv 0) pa_nil))) (pss_cons (ps_for PassesOwn.never rfl (pi_range1 rfl T.nrange (pa_cons (pe_op op_add (pe_const rfl T.gMOST) pe_int) pa_nil)) (pg_name (i := 3) sc_least_tolerance.nd rfl (Or.inl rfl)) (pss_one (ps_if (pt_cmpR op_le (pe_callB call_len_seq (by rfl) T.nlen PySem.boot_len (pa_cons (pe_call F_greedy (hr.mono (by decide)) rfl m_greedy k_greedy b_greedy .nil pass0 (pa_cons (pv 2) (pa_cons (pv 3) (pa_cons (pe_fld (pv 0) rfl) pa_nil)))) pa_nil)) (pv 1) (nomark _)) (pss_one (ps_ret (pe_lst (pa_cons (pv 3) pa_nil)))) pss_nil))) (pss_one (ps_ret (pe_lst (pa_cons (pe_const rfl T.gNOTHING) pa_nil))))))
abbrev s_lots_without_hide : Stmt := top 51
theorem sc_lots_without_hide : FnScope N_lots_without_hide ["inventory", "number"] (defScope s_lots_without_hide) := ⟨rfl, rfl, rfl, by decide +kernel, rfl, by decide +kernel, by decide +kernel⟩
theorem ok_lots_without_hide {P : Program} {w : World} {K : PySem.W.Frag} {mg : Str → Option Value} {base : Heap} {C : Addr} (T : Txt K mg C) (A : At K mg "lots_without_hide" s_lots_without_hide ["inventory", "number"]) (D_count_lots : Def P w K mg base 4 "count_lots" ["inventory", "hides"] (sp_count_lots C)) (D_exists : Def P w K mg base 1 "exists" ["inventory", "number"] (sp_exists C)) : Def P w K mg base 5 "lots_without_hide" ["inventory", "number"] (sp_lots_without_hide C) := by
  obtain ⟨f, fd, F, hm, hb⟩ := A
  obtain ⟨_, _, F_count_lots, m_count_lots, k_count_lots, b_count_lots⟩ := D_count_lots
  obtain ⟨_, _, F_exists, m_exists, k_exists, b_exists⟩ := D_exists
  refine ⟨f, fd, F.ok sc_lots_without_hide (fun vs H Q E h => spV_len h) (fun cdv A outer s H vs Q E hr h => ⟨t_lots_without_hide K C, ?_, pure_lots_without_hide T.cl vs H Q E h⟩), hm, F.kp, hb⟩
  exact (pss_cons (ps_if (pt_not (pt_val (pe_call F_exists (hr.mono (by decide)) rfl m_exists k_exists b_exists .nil pass0 (pa_cons (pv 0) (pa_cons (pv 1) pa_nil))))) (pss_one (ps_ret (pe_lst (pa_cons (pe_const rfl T.gNO_HIDE) pa_nil)))) pss_nil) (pss_one (ps_ret (pe_lst (pa_cons (pe_call F_count_lots (hr.mono (by decide)) rfl m_count_lots k_count_lots b_count_lots .nil pass0 (pa_cons (pv 0) (pa_cons (pe_op op_cat (pe_slice sl_list (pe_fld (pv 0) rfl) po_none (po_some (pv 1))) (pe_slice sl_list (pe_fld (pv 0) rfl) (po_some (pe_op op_add (pv 1) pe_int)) po_none)) pa_nil))) pa_nil)))))
abbrev s_lots_with_hide : Stmt := top 52
theorem sc_lots_with_hide : FnScope N_lots_with_hide ["inventory", "kind", "thickness", "area"] (defScope s_lots_with_hide) := ⟨rfl, rfl, rfl, by decide +kernel, rfl, by decide +kernel, by decide +kernel⟩
theorem ok_lots_with_hide {P : Program} {w : World} {K : PySem.W.Frag} {mg : Str → Option Value} {base : Heap} {C : Addr} (T : Txt K mg C) (A : At K mg "lots_with_hide" s_lots_with_hide ["inventory", "kind", "thickness", "area"]) (D_count_lots : Def P w K mg base 4 "count_lots" ["inventory", "hides"] (sp_count_lots C)) (D_is_hide : Def P w K mg base 1 "is_hide" ["kind", "thickness", "area"] (sp_is_hide)) : Def P w K mg base 5 "lots_with_hide" ["inventory", "kind", "thickness", "area"] (sp_lots_with_hide C) := by
  obtain ⟨f, fd, F, hm, hb⟩ := A
  obtain ⟨_, _, F_count_lots, m_count_lots, k_count_lots, b_count_lots⟩ := D_count_lots
  obtain ⟨_, _, F_is_hide, m_is_hide, k_is_hide, b_is_hide⟩ := D_is_hide
  refine ⟨f, fd, F.ok sc_lots_with_hide (fun vs H Q E h => spV_len h) (fun cdv A outer s H vs Q E hr h => ⟨t_lots_with_hide K C, ?_, pure_lots_with_hide T.cl vs H Q E h⟩), hm, F.kp, hb⟩
  exact (pss_cons (ps_if (pt_not (pt_val (pe_call F_is_hide (hr.mono (by decide)) rfl m_is_hide k_is_hide b_is_hide .nil pass0 (pa_cons (pv 1) (pa_cons (pv 2) (pa_cons (pv 3) pa_nil)))))) (pss_one (ps_ret (pe_lst (pa_cons (pe_const rfl T.gBEYOND) pa_nil)))) pss_nil) (pss_one (ps_ret (pe_lst (pa_cons (pe_call F_count_lots (hr.mono (by decide)) rfl m_count_lots k_count_lots b_count_lots .nil pass0 (pa_cons (pv 0) (pa_cons (pe_op op_cat (pe_fld (pv 0) rfl) (pe_lst (pa_cons (pe_tup (pa_cons (pv 1) (pa_cons (pv 2) (pa_cons (pv 3) pa_nil)))) pa_nil))) pa_nil))) pa_nil)))))
abbrev s_status : Stmt := top 53
theorem sc_status : FnScope N_status ["inventory"] (defScope s_status) := ⟨rfl, rfl, rfl, by decide +kernel, rfl, by decide +kernel, by decide +kernel⟩
theorem ok_status {P : Program} {w : World} {K : PySem.W.Frag} {mg : Str → Option Value} {base : Heap} {C : Addr} (T : Txt K mg C) (A : At K mg "status" s_status ["inventory"]) : Def P w K mg base 1 "status" ["inventory"] (sp_status C) := by
  obtain ⟨f, fd, F, hm, hb⟩ := A
  refine ⟨f, fd, F.ok sc_status (fun vs H Q E h => spV_len h) (fun cdv A outer s H vs Q E hr h => ⟨t_status K C, ?_, pure_status T.cl vs H Q E h⟩), hm, F.kp, hb⟩
  exact (pss_cons (ps_set (i := 1) sc_status.nd rfl (Or.inl rfl) (pe_callB (cr_sum rfl) (by rfl) T.nsum (by decide +kernel) (pa_cons (pe_lc (own := [("hide", 2)]) (g := (gName 2)) (tt := tYes) (te := (tOp (rIxT K) (tVar 2) (tC (.int 2)))) rfl sc_status.nd (pi_list (pe_fld (pv 0) rfl)) (blkOk_by (N := N_status) (sc := defScope s_status) (by decide +kernel)) (fun _ _ _ _ _ => (pg_name (i := 2) sc_status.nd rfl (Or.inl rfl))) (fun _ _ _ _ _ => pts_nil) (fun _ _ _ _ _ => (pe_ix ix_tup (pv 2) pe_int (fun _ _ => rfl)))) pa_nil))) (pss_one (ps_ret (pe_lst (pa_cons (pe_callB call_len_seq (by rfl) T.nlen PySem.boot_len (pa_cons (pe_fld (pv 0) rfl) pa_nil)) (pa_cons (pe_fld (pv 0) rfl) (pa_cons (pe_fld (pv 0) rfl) (pa_cons (pv 1) pa_nil))))))))
abbrev s_change : Stmt := top 57
theorem sc_change : FnScope N_change ["inventory", "operation", "numbers"] (defScope s_change) := ⟨rfl, rfl, rfl, by decide +kernel, rfl, by decide +kernel, by decide +kernel⟩
theorem ok_change {P : Program} {w : World} {K : PySem.W.Frag} {mg : Str → Option Value} {base : Heap} {C : Addr} (T : Txt K mg C) (A : At K mg "change" s_change ["inventory", "operation", "numbers"]) (D_add_hide : Def P w K mg base 2 "add_hide" ["inventory", "kind", "thickness", "area"] (sp_add_hide C)) (D_remove_hide : Def P w K mg base 2 "remove_hide" ["inventory", "number"] (sp_remove_hide C)) (D_set_limits : Def P w K mg base 2 "set_limits" ["inventory", "tolerance", "lot_size"] (sp_set_limits C)) (D_thin_hide : Def P w K mg base 2 "thin_hide" ["inventory", "number", "thickness"] (sp_thin_hide C)) : Def P w K mg base 3 "change" ["inventory", "operation", "numbers"] (sp_change C) := by
  obtain ⟨f, fd, F, hm, hb⟩ := A
  obtain ⟨_, _, F_add_hide, m_add_hide, k_add_hide, b_add_hide⟩ := D_add_hide
  obtain ⟨_, _, F_remove_hide, m_remove_hide, k_remove_hide, b_remove_hide⟩ := D_remove_hide
  obtain ⟨_, _, F_set_limits, m_set_limits, k_set_limits, b_set_limits⟩ := D_set_limits
  obtain ⟨_, _, F_thin_hide, m_thin_hide, k_thin_hide, b_thin_hide⟩ := D_thin_hide
  refine ⟨f, fd, F.ok sc_change (fun vs H Q E h => spM_len h) (fun cdv A outer s H vs Q E hr h => ⟨t_change K C, ?_, pure_change T.cl vs H Q E h⟩), hm, F.kp, hb⟩
  exact (pss_cons (ps_if (pt_cmpR op_eq (pv 1) pe_int (nomark _)) (pss_one (ps_ret (pe_call F_add_hide (hr.mono (by decide)) rfl m_add_hide k_add_hide b_add_hide .nil pass0 (pa_cons (pv 0) (pa_cons (pe_ix ix_list (pv 2) pe_int (fun _ _ => rfl)) (pa_cons (pe_ix ix_list (pv 2) pe_int (fun _ _ => rfl)) (pa_cons (pe_ix ix_list (pv 2) pe_int (fun _ _ => rfl)) pa_nil))))))) pss_nil) (pss_cons (ps_if (pt_cmpR op_eq (pv 1) pe_int (nomark _)) (pss_one (ps_ret (pe_call F_remove_hide (hr.mono (by decide)) rfl m_remove_hide k_remove_hide b_remove_hide .nil pass0 (pa_cons (pv 0) (pa_cons (pe_ix ix_list (pv 2) pe_int (fun _ _ => rfl)) pa_nil))))) pss_nil) (pss_cons (ps_if (pt_cmpR op_eq (pv 1) pe_int (nomark _)) (pss_one (ps_ret (pe_call F_set_limits (hr.mono (by decide)) rfl m_set_limits k_set_limits b_set_limits .nil pass0 (pa_cons (pv 0) (pa_cons (pe_ix ix_list (pv 2) pe_int (fun _ _ => rfl)) (pa_cons (pe_ix ix_list (pv 2) pe_int (fun _ _ => rfl)) pa_nil)))))) pss_nil) (pss_one (ps_ret (pe_call F_thin_hide (hr.mono (by decide)) rfl m_thin_hide k_thin_hide b_thin_hide .nil pass0 (pa_cons (pv 0) (pa_cons (pe_ix ix_list (pv 2) pe_int (fun _ _ => rfl)) (pa_cons (pe_ix ix_list (pv 2) pe_int (fun _ _ => rfl)) pa_nil)))))))))
abbrev s_plain_question : Stmt := top 58
theorem sc_plain_question : FnScope N_plain_question ["inventory", "operation"] (defScope s_plain_question) := ⟨rfl, rfl, rfl, by decide +kernel, rfl, by decide +kernel, by decide +kernel⟩
theorem ok_plain_question {P : Program} {w : World} {K : PySem.W.Frag} {mg : Str → Option Value} {base : Heap} {C : Addr} (T : Txt K mg C) (A : At K mg "plain_question" s_plain_question ["inventory", "operation"]) (D_count_lots : Def P w K mg base 4 "count_lots" ["inventory", "hides"] (sp_count_lots C)) (D_hide_order : Def P w K mg base 5 "hide_order" ["inventory"] (sp_hide_order C)) (D_greedy_lots : Def P w K mg base 5 "greedy_lots" ["inventory"] (sp_greedy_lots C)) (D_incompatible_hides : Def P w K mg base 5 "incompatible_hides" ["inventory"] (sp_incompatible_hides C)) (D_largest_lot : Def P w K mg base 6 "largest_lot" ["inventory"] (sp_largest_lot C)) (D_status : Def P w K mg base 1 "status" ["inventory"] (sp_status C)) : Def P w K mg base 7 "plain_question" ["inventory", "operation"] (sp_plain_question C) := by
  obtain ⟨f, fd, F, hm, hb⟩ := A
  obtain ⟨_, _, F_count_lots, m_count_lots, k_count_lots, b_count_lots⟩ := D_count_lots
  obtain ⟨_, _, F_hide_order, m_hide_order, k_hide_order, b_hide_order⟩ := D_hide_order
  obtain ⟨_, _, F_greedy_lots, m_greedy_lots, k_greedy_lots, b_greedy_lots⟩ := D_greedy_lots
  obtain ⟨_, _, F_incompatible_hides, m_incompatible_hides, k_incompatible_hides, b_incompatible_hides⟩ := D_incompatible_hides
  obtain ⟨_, _, F_largest_lot, m_largest_lot, k_largest_lot, b_largest_lot⟩ := D_largest_lot
  obtain ⟨_, _, F_status, m_status, k_status, b_status⟩ := D_status
  refine ⟨f, fd, F.ok sc_plain_question (fun vs H Q E h => spV_len h) (fun cdv A outer s H vs Q E hr h => ⟨t_plain_question K C, ?_, pure_plain_question T.cl vs H Q E h⟩), hm, F.kp, hb⟩
  exact (pss_cons (ps_if (pt_cmpR op_eq (pv 1) pe_int (nomark _)) (pss_one (ps_ret (pe_call F_hide_order (hr.mono (by decide)) rfl m_hide_order k_hide_order b_hide_order .nil pass0 (pa_cons (pv 0) pa_nil)))) pss_nil) (pss_cons (ps_if (pt_cmpR op_eq (pv 1) pe_int (nomark _)) (pss_one (ps_ret (pe_lst (pa_cons (pe_call F_count_lots (hr.mono (by decide)) rfl m_count_lots k_count_lots b_count_lots .nil pass0 (pa_cons (pv 0) (pa_cons (pe_fld (pv 0) rfl) pa_nil))) pa_nil)))) pss_nil) (pss_cons (ps_if (pt_cmpR op_eq (pv 1) pe_int (nomark _)) (pss_one (ps_ret (pe_call F_greedy_lots (hr.mono (by decide)) rfl m_greedy_lots k_greedy_lots b_greedy_lots .nil pass0 (pa_cons (pv 0) pa_nil)))) pss_nil) (pss_cons (ps_if (pt_cmpR op_eq (pv 1) pe_int (nomark _)) (pss_one (ps_ret (pe_call F_incompatible_hides (hr.mono (by decide)) rfl m_incompatible_hides k_incompatible_hides b_incompatible_hides .nil pass0 (pa_cons (pv 0) pa_nil)))) pss_nil) (pss_one (ps_ret (pe_ifExp (pt_cmpR op_eq (pv 1) pe_int (nomark _)) (pe_call F_largest_lot (hr.mono (by decide)) rfl m_largest_lot k_largest_lot b_largest_lot .nil pass0 (pa_cons (pv 0) pa_nil)) (pe_call F_status (hr.mono (by decide)) rfl m_status k_status b_status .nil pass0 (pa_cons (pv 0) pa_nil)))))))))
abbrev s_question : Stmt := top 59
theorem sc_question : FnScope N_question ["inventory", "operation", "numbers"] (defScope s_question) := ⟨rfl, rfl, rfl, by decide +kernel, rfl, by decide +kernel, by decide +kernel⟩
theorem ok_question {P : Program} {w : World} {K : PySem.W.Frag} {mg : Str → Option Value} {base : Heap} {C : Addr} (T : Txt K mg C) (A : At K mg "question" s_question ["inventory", "operation", "numbers"]) (D_get_hide : Def P w K mg base 2 "get_hide" ["inventory", "number"] (sp_get_hide C)) (D_are_compatible : Def P w K mg base 2 "are_compatible" ["inventory", "first", "second"] (sp_are_compatible C)) (D_is_lot : Def P w K mg base 4 "is_lot" ["inventory", "numbers"] (sp_is_lot C)) (D_total_area : Def P w K mg base 3 "total_area" ["inventory", "numbers"] (sp_total_area C)) (D_best_pairs : Def P w K mg base 5 "best_pairs" ["inventory", "kind"] (sp_best_pairs C)) (D_least_tolerance : Def P w K mg base 5 "least_tolerance" ["inventory", "lot_count"] (sp_least_tolerance C)) (D_lots_without_hide : Def P w K mg base 5 "lots_without_hide" ["inventory", "number"] (sp_lots_without_hide C)) (D_lots_with_hide : Def P w K mg base 5 "lots_with_hide" ["inventory", "kind", "thickness", "area"] (sp_lots_with_hide C)) : Def P w K mg base 6 "question" ["inventory", "operation", "numbers"] (sp_question C) := by
  obtain ⟨f, fd, F, hm, hb⟩ := A
  obtain ⟨_, _, F_get_hide, m_get_hide, k_get_hide, b_get_hide⟩ := D_get_hide
  obtain ⟨_, _, F_are_compatible, m_are_compatible, k_are_compatible, b_are_compatible⟩ := D_are_compatible
  obtain ⟨_, _, F_is_lot, m_is_lot, k_is_lot, b_is_lot⟩ := D_is_lot
  obtain ⟨_, _, F_total_area, m_total_area, k_total_area, b_total_area⟩ := D_total_area
  obtain ⟨_, _, F_best_pairs, m_best_pairs, k_best_pairs, b_best_pairs⟩ := D_best_pairs
  obtain ⟨_, _, F_least_tolerance, m_least_tolerance, k_least_tolerance, b_least_tolerance⟩ := D_least_tolerance
  obtain ⟨_, _, F_lots_without_hide, m_lots_without_hide, k_lots_without_hide, b_lots_without_hide⟩ := D_lots_without_hide
  obtain ⟨_, _, F_lots_with_hide, m_lots_with_hide, k_lots_with_hide, b_lots_with_hide⟩ := D_lots_with_hide
  refine ⟨f, fd, F.ok sc_question (fun vs H Q E h => spV_len h) (fun cdv A outer s H vs Q E hr h => ⟨t_question K C, ?_, pure_question T.cl vs H Q E h⟩), hm, F.kp, hb⟩
  exact (pss_cons (ps_if (pt_cmpR op_eq (pv 1) pe_int (nomark _)) (pss_one (ps_ret (pe_call F_get_hide (hr.mono (by decide)) rfl m_get_hide k_get_hide b_get_hide .nil pass0 (pa_cons (pv 0) (pa_cons (pe_ix ix_list (pv 2) pe_int (fun _ _ => rfl)) pa_nil))))) pss_nil) (pss_cons (ps_if (pt_cmpR op_eq (pv 1) pe_int (nomark _)) (pss_one (ps_ret (pe_call F_are_compatible (hr.mono (by decide)) rfl m_are_compatible k_are_compatible b_are_compatible .nil pass0 (pa_cons (pv 0) (pa_cons (pe_ix ix_list (pv 2) pe_int (fun _ _ => rfl)) (pa_cons (pe_ix ix_list (pv 2) pe_int (fun _ _ => rfl)) pa_nil)))))) pss_nil) (pss_cons (ps_if (pt_cmpR op_eq (pv 1) pe_int (nomark _)) (pss_one (ps_ret (pe_call F_is_lot (hr.mono (by decide)) rfl m_is_lot k_is_lot b_is_lot .nil pass0 (pa_cons (pv 0) (pa_cons (pv 2) pa_nil))))) pss_nil) (pss_cons (ps_if (pt_cmpR op_eq (pv 1) pe_int (nomark _)) (pss_one (ps_ret (pe_call F_total_area (hr.mono (by decide)) rfl m_total_area k_total_area b_total_area .nil pass0 (pa_cons (pv 0) (pa_cons (pv 2) pa_nil))))) pss_nil) (pss_cons (ps_if (pt_cmpR op_eq (pv 1) pe_int (nomark _)) (pss_one (ps_ret (pe_call F_best_pairs (hr.mono (by decide)) rfl m_best_pairs k_best_pairs b_best_pairs .nil pass0 (pa_cons (pv 0) (pa_cons (pe_ix ix_list (pv 2) pe_int (fun _ _ => rfl)) pa_nil))))) pss_nil) (pss_cons (ps_if (pt_cmpR op_eq (pv 1) pe_int (nomark _)) (pss_one (ps_ret (pe_call F_least_tolerance (hr.mono (by decide)) rfl m_least_tolerance k_least_tolerance b_least_tolerance .nil pass0 (pa_cons (pv 0) (pa_cons (pe_ix ix_list (pv 2) pe_int (fun _ _ => rfl)) pa_nil))))) pss_nil) (pss_cons (ps_if (pt_cmpR op_eq (pv 1) pe_int (nomark _)) (pss_one (ps_ret (pe_call F_lots_without_hide (hr.mono (by decide)) rfl m_lots_without_hide k_lots_without_hide b_lots_without_hide .nil pass0 (pa_cons (pv 0) (pa_cons (pe_ix ix_list (pv 2) pe_int (fun _ _ => rfl)) pa_nil))))) pss_nil) (pss_one (ps_ret (pe_call F_lots_with_hide (hr.mono (by decide)) rfl m_lots_with_hide k_lots_with_hide b_lots_with_hide .nil pass0 (pa_cons (pv 0) (pa_cons (pe_ix ix_list (pv 2) pe_int (fun _ _ => rfl)) (pa_cons (pe_ix ix_list (pv 2) pe_int (fun _ _ => rfl)) (pa_cons (pe_ix ix_list (pv 2) pe_int (fun _ _ => rfl)) pa_nil))))))))))))))
abbrev s_deed : Stmt := top 60
theorem sc_deed : FnScope N_deed ["inventory", "operation", "numbers"] (defScope s_deed) := ⟨rfl, rfl, rfl, by decide +kernel, rfl, by decide +kernel, by decide +kernel⟩
theorem ok_deed {P : Program} {w : World} {K : PySem.W.Frag} {mg : Str → Option Value} {base : Heap} {C : Addr} (T : Txt K mg C) (A : At K mg "deed" s_deed ["inventory", "operation", "numbers"]) (D_change : Def P w K mg base 3 "change" ["inventory", "operation", "numbers"] (sp_change C)) (D_plain_question : Def P w K mg base 7 "plain_question" ["inventory", "operation"] (sp_plain_question C)) (D_question : Def P w K mg base 6 "question" ["inventory", "operation", "numbers"] (sp_question C)) : Def P w K mg base 8 "deed" ["inventory", "operation", "numbers"] (sp_deed C) := by
  obtain ⟨f, fd, F, hm, hb⟩ := A
  obtain ⟨_, _, F_change, m_change, k_change, b_change⟩ := D_change
  obtain ⟨_, _, F_plain_question, m_plain_question, k_plain_question, b_plain_question⟩ := D_plain_question
  obtain ⟨_, _, F_question, m_question, k_question, b_question⟩ := D_question
  refine ⟨f, fd, F.ok sc_deed (fun vs H Q E h => spM_len h) (fun cdv A outer s H vs Q E hr h => ⟨t_deed K C, ?_, pure_deed T.cl vs H Q E h⟩), hm, F.kp, hb⟩
  exact (pss_cons (ps_if (pt_cmpR op_in_seq (pv 1) (pe_tup (pa_cons pe_int (pa_cons pe_int (pa_cons pe_int (pa_cons pe_int pa_nil))))) rfl) (pss_one (ps_ret (pe_call F_change (hr.mono (by decide)) rfl m_change k_change b_change .nil pass0 (pa_cons (pv 0) (pa_cons (pv 1) (pa_cons (pv 2) pa_nil)))))) pss_nil) (pss_cons (ps_if (pt_cmpR op_in_seq (pv 1) (pe_tup (pa_cons pe_int (pa_cons pe_int (pa_cons pe_int (pa_cons pe_int (pa_cons pe_int (pa_cons pe_int pa_nil))))))) rfl) (pss_one (ps_ret (pe_call F_plain_question (hr.mono (by decide)) rfl m_plain_question k_plain_question b_plain_question .nil pass0 (pa_cons (pv 0) (pa_cons (pv 1) pa_nil))))) pss_nil) (pss_one (ps_ret (pe_call F_question (hr.mono (by decide)) rfl m_question k_question b_question .nil pass0 (pa_cons (pv 0) (pa_cons (pv 1) (pa_cons (pv 2) pa_nil))))))))
abbrev s_init : Stmt := inClass (top 1) 0
theorem sc_init : FnScope N_init ["self", "tolerance", "lot_size"] (defScope s_init) := ⟨rfl, rfl, rfl, by decide +kernel, rfl, by decide +kernel, by decide +kernel⟩
theorem ok_init {P : Program} {w : World} {K : PySem.W.Frag} {mg : Str → Option Value} {base : Heap} {C f : Addr} {fd : FuncData} (T : Txt K mg C) (F : Fun K "__init__" "Inventory.__init__" s_init f fd) : FnOk P w K mg base CX0 1 f fd ["self", "tolerance", "lot_size"] (sp_init C) := by
  refine F.ok sc_init (fun vs H Q E h => ?_) (fun cdv A outer s H vs Q E hr h => ⟨t_init K C, ?_, pure_init T.cl vs H Q E h⟩)
  · obtain ⟨p, dx, t, s, rfl, _⟩ := h
    rfl
  · exact (pss_cons (ps_fld (pv 0) (pe_lst pa_nil) rfl) (pss_cons (ps_fld (pv 0) (pv 1) rfl) (pss_one (ps_fld (pv 0) (pv 2) rfl))))
abbrev s_answers : Stmt := top 61
theorem sc_answers : FnScope N_answers ["calls"] (defScope s_answers) := ⟨rfl, rfl, rfl, by decide +kernel, rfl, by decide +kernel, by decide +kernel⟩
theorem ok_answers {P : Program} {w : World} {K : PySem.W.Frag} {mg : Str → Option Value} {base : Heap} {C fI f : Addr} {fdI fd : FuncData} (T : Txt K mg C) (M : Mk K C fI) (GI : FnOk P w K mg base CX0 1 fI fdI ["self", "tolerance", "lot_size"] (sp_init C)) (bI : Binds K fdI ["self", "tolerance", "lot_size"] []) (D_are_limits : Def P w K mg base 1 "are_limits" ["tolerance", "lot_size"] (sp_are_limits)) (D_deed : Def P w K mg base 8 "deed" ["inventory", "operation", "numbers"] (sp_deed C)) (F : Fun K "answers" "answers" s_answers f fd) : FnOk P w K mg base CX0 9 f fd ["calls"] (sp_answers K) := by
  obtain ⟨_, _, F_are_limits, m_are_limits, k_are_limits, b_are_limits⟩ := D_are_limits
  obtain ⟨_, _, F_deed, m_deed, k_deed, b_deed⟩ := D_deed
  refine F.ok sc_answers (fun vs H Q E h => ?_) (fun cdv A outer s H vs Q E hr h => ⟨t_answers K C, ?_, pure_answers T.cl vs H Q E h⟩)
  · obtain ⟨a, ns, rfl, _⟩ := h
    rfl
  · exact (pss_cons (ps_set (i := 1) sc_answers.nd rfl (Or.inl rfl) pe_non) (pss_cons (ps_set (i := 2) sc_answers.nd rfl (Or.inl rfl) (pe_lst pa_nil)) (pss_cons (ps_set (i := 3) sc_answers.nd rfl (Or.inl rfl) pe_int) (pss_cons (ps_while PassesOwn.never (pt_cmpR op_lt (pv 3) (pe_callB call_len_seq (by rfl) T.nlen PySem.boot_len (pa_cons (pv 0) pa_nil)) (nomark _)) (pss_cons (ps_set (i := 4) sc_answers.nd rfl (Or.inl rfl) (pe_ix ix_list (pv 0) (pv 3) (fun _ _ => rfl))) (pss_cons (ps_set (i := 5) sc_answers.nd rfl (Or.inl rfl) (pe_op op_add (pe_op op_add (pv 3) pe_int) (pe_ix ix_list (pv 0) (pe_op op_add (pv 3) pe_int) (fun _ _ => rfl)))) (pss_cons (ps_set (i := 6) sc_answers.nd rfl (Or.inl rfl) (pe_slice sl_list (pv 0) (po_some (pe_op op_add (pv 3) pe_int)) (po_some (pv 5)))) (pss_cons (ps_set (i := 3) sc_answers.nd rfl (Or.inl rfl) (pe_op op_add (pv 5) pe_int)) (pss_cons (ps_if (pt_cmpR op_ne (pv 4) (pe_const rfl T.gCREATE) (nomark _)) (pss_one (ps_set (i := 7) sc_answers.nd rfl (Or.inl rfl) (pe_ifExp (pt_cmpR op_isN2 (pv 1) pe_non (nomark _)) (pe_lst (pa_cons (pe_const rfl T.gNO_INVENTORY) pa_nil)) (pe_call F_deed (hr.mono (by decide)) rfl m_deed k_deed b_deed .nil pass0 (pa_cons (pv 1) (pa_cons (pv 4) (pa_cons (pv 6) pa_nil))))))) (pss_one (ps_if (pt_val (pe_call F_are_limits (hr.mono (by decide)) rfl m_are_limits k_are_limits b_are_limits .nil pass0 (pa_cons (pe_ix ix_list (pv 6) pe_int (fun _ _ => rfl)) (pa_cons (pe_ix ix_list (pv 6) pe_int (fun _ _ => rfl)) pa_nil)))) (pss_cons (ps_set (i := 1) sc_answers.nd rfl (Or.inl rfl) (pe_make M GI (hr.mono (by decide)) rfl T.gInventory bI .nil pass0 (pa_cons (pe_ix ix_list (pv 6) pe_int (fun _ _ => rfl)) (pa_cons (pe_ix ix_list (pv 6) pe_int (fun _ _ => rfl)) pa_nil)))) (pss_one (ps_set (i := 7) sc_answers.nd rfl (Or.inl rfl) (pe_lst (pa_cons pe_int pa_nil))))) (pss_one (ps_set (i := 7) sc_answers.nd rfl (Or.inl rfl) (pe_lst (pa_cons (pe_const rfl T.gBEYOND) pa_nil))))))) (pss_cons (ps_expr (pe_bm PySem.F.plainAttrs_list PySem.F.slot_list_append PySem.F.type_list_append mt_append (pv 2) (pa_cons (pe_callB call_len_seq (by rfl) T.nlen PySem.boot_len (pa_cons (pv 7) pa_nil)) pa_nil))) (pss_one (ps_expr (pe_bm PySem.F.plainAttrs_list PySem.F.slot_list_extend PySem.F.type_list_extend mt_extend (pv 2) (pa_cons (pv 7) pa_nil))))))))))) (pss_one (ps_ret (pv 2)))))))
/-- all defs at their names, from where each stands -/
theorem all_ok {P : Program} {w : World} {K : PySem.W.Frag} {mg : Str → Option Value} {base : Heap} {C fI f : Addr} {fdI fd : FuncData} (T : Txt K mg C) (M : Mk K C fI) (FI : Fun K "__init__" "Inventory.__init__" s_init fI fdI) (bI : Binds K fdI ["self", "tolerance", "lot_size"] [])
    (A_is_ahead : At K mg "is_ahead" s_is_ahead ["one", "other"])
    (A_placed : At K mg "placed" s_placed ["order", "number", "hide"])
    (A_ordered : At K mg "ordered" s_ordered ["hides"])
    (A_are_alike : At K mg "are_alike" s_are_alike ["one", "other", "tolerance"])
    (A_fits_all : At K mg "fits_all" s_fits_all ["hide", "some", "tolerance"])
    (A_all_fit : At K mg "all_fit" s_all_fit ["some", "tolerance"])
    (A_greedy : At K mg "greedy" s_greedy ["order", "tolerance", "lot_size"])
    (A_count_lots : At K mg "count_lots" s_count_lots ["inventory", "hides"])
    (A_incompatible : At K mg "incompatible" s_incompatible ["order", "tolerance"])
    (A_area_of : At K mg "area_of" s_area_of ["some"])
    (A_count_greater : At K mg "count_greater" s_count_greater ["run", "place"])
    (A_largest_part : At K mg "largest_part" s_largest_part ["run", "lot_size"])
    (A_runs_of : At K mg "runs_of" s_runs_of ["order", "tolerance"])
    (A_largest : At K mg "largest" s_largest ["order", "tolerance", "lot_size"])
    (A_difference_of : At K mg "difference_of" s_difference_of ["some"])
    (A_without : At K mg "without" s_without ["some", "place"])
    (A_left_place : At K mg "left_place" s_left_place ["some"])
    (A_best_pairs_of : At K mg "best_pairs_of" s_best_pairs_of ["order", "kind"])
    (A_are_limits : At K mg "are_limits" s_are_limits ["tolerance", "lot_size"])
    (A_is_hide : At K mg "is_hide" s_is_hide ["kind", "thickness", "area"])
    (A_exists : At K mg "exists" s_exists ["inventory", "number"])
    (A_order_of : At K mg "order_of" s_order_of ["inventory"])
    (A_numbers_of : At K mg "numbers_of" s_numbers_of ["some"])
    (A_add_hide : At K mg "add_hide" s_add_hide ["inventory", "kind", "thickness", "area"])
    (A_remove_hide : At K mg "remove_hide" s_remove_hide ["inventory", "number"])
    (A_get_hide : At K mg "get_hide" s_get_hide ["inventory", "number"])
    (A_set_limits : At K mg "set_limits" s_set_limits ["inventory", "tolerance", "lot_size"])
    (A_thin_hide : At K mg "thin_hide" s_thin_hide ["inventory", "number", "thickness"])
    (A_hide_order : At K mg "hide_order" s_hide_order ["inventory"])
    (A_are_compatible : At K mg "are_compatible" s_are_compatible ["inventory", "first", "second"])
    (A_are_hides : At K mg "are_hides" s_are_hides ["inventory", "numbers"])
    (A_hides_with : At K mg "hides_with" s_hides_with ["inventory", "numbers"])
    (A_is_lot : At K mg "is_lot" s_is_lot ["inventory", "numbers"])
    (A_greedy_lots : At K mg "greedy_lots" s_greedy_lots ["inventory"])
    (A_incompatible_hides : At K mg "incompatible_hides" s_incompatible_hides ["inventory"])
    (A_largest_lot : At K mg "largest_lot" s_largest_lot ["inventory"])
    (A_total_area : At K mg "total_area" s_total_area ["inventory", "numbers"])
    (A_best_pairs : At K mg "best_pairs" s_best_pairs ["inventory", "kind"])
    (A_least_tolerance : At K mg "least_tolerance" s_least_tolerance ["inventory", "lot_count"])
    (A_lots_without_hide : At K mg "lots_without_hide" s_lots_without_hide ["inventory", "number"])
    (A_lots_with_hide : At K mg "lots_with_hide" s_lots_with_hide ["inventory", "kind", "thickness", "area"])
    (A_status : At K mg "status" s_status ["inventory"])
    (A_change : At K mg "change" s_change ["inventory", "operation", "numbers"])
    (A_plain_question : At K mg "plain_question" s_plain_question ["inventory", "operation"])
    (A_question : At K mg "question" s_question ["inventory", "operation", "numbers"])
    (A_deed : At K mg "deed" s_deed ["inventory", "operation", "numbers"])
    (F : Fun K "answers" "answers" s_answers f fd) : FnOk P w K mg base CX0 9 f fd ["calls"] (sp_answers K) := by
  have D_is_ahead : Def P w K mg base 1 "is_ahead" ["one", "other"] (sp_is_ahead) := ok_is_ahead T A_is_ahead
  have D_placed : Def P w K mg base 2 "placed" ["order", "number", "hide"] (sp_placed) := ok_placed T A_placed D_is_ahead
  have D_ordered : Def P w K mg base 3 "ordered" ["hides"] (sp_ordered) := ok_ordered T A_ordered D_placed
  have D_are_alike : Def P w K mg base 1 "are_alike" ["one", "other", "tolerance"] (sp_are_alike) := ok_are_alike T A_are_alike
  have D_fits_all : Def P w K mg base 2 "fits_all" ["hide", "some", "tolerance"] (sp_fits_all) := ok_fits_all T A_fits_all D_are_alike
  have D_all_fit : Def P w K mg base 3 "all_fit" ["some", "tolerance"] (sp_all_fit) := ok_all_fit T A_all_fit D_fits_all
  have D_greedy : Def P w K mg base 3 "greedy" ["order", "tolerance", "lot_size"] (sp_greedy) := ok_greedy T A_greedy D_fits_all
  have D_count_lots : Def P w K mg base 4 "count_lots" ["inventory", "hides"] (sp_count_lots C) := ok_count_lots T A_count_lots D_ordered D_greedy
  have D_incompatible : Def P w K mg base 2 "incompatible" ["order", "tolerance"] (sp_incompatible) := ok_incompatible T A_incompatible D_are_alike
  have D_area_of : Def P w K mg base 1 "area_of" ["some"] (sp_area_of) := ok_area_of T A_area_of
  have D_count_greater : Def P w K mg base 1 "count_greater" ["run", "place"] (sp_count_greater) := ok_count_greater T A_count_greater
  have D_largest_part : Def P w K mg base 2 "largest_part" ["run", "lot_size"] (sp_largest_part) := ok_largest_part T A_largest_part D_count_greater
  have D_runs_of : Def P w K mg base 4 "runs_of" ["order", "tolerance"] (sp_runs_of) := ok_runs_of T A_runs_of D_all_fit
  have D_largest : Def P w K mg base 5 "largest" ["order", "tolerance", "lot_size"] (sp_largest) := ok_largest T A_largest D_area_of D_largest_part D_runs_of
  have D_difference_of : Def P w K mg base 1 "difference_of" ["some"] (sp_difference_of) := ok_difference_of T A_difference_of
  have D_without : Def P w K mg base 1 "without" ["some", "place"] (sp_without) := ok_without T A_without
  have D_left_place : Def P w K mg base 2 "left_place" ["some"] (sp_left_place) := ok_left_place T A_left_place D_difference_of D_without
  have D_best_pairs_of : Def P w K mg base 3 "best_pairs_of" ["order", "kind"] (sp_best_pairs_of) := ok_best_pairs_of T A_best_pairs_of D_without D_left_place
  have D_are_limits : Def P w K mg base 1 "are_limits" ["tolerance", "lot_size"] (sp_are_limits) := ok_are_limits T A_are_limits
  have D_is_hide : Def P w K mg base 1 "is_hide" ["kind", "thickness", "area"] (sp_is_hide) := ok_is_hide T A_is_hide
  have D_exists : Def P w K mg base 1 "exists" ["inventory", "number"] (sp_exists C) := ok_exists T A_exists
  have D_order_of : Def P w K mg base 4 "order_of" ["inventory"] (sp_order_of C) := ok_order_of T A_order_of D_ordered
  have D_numbers_of : Def P w K mg base 1 "numbers_of" ["some"] (sp_numbers_of) := ok_numbers_of T A_numbers_of
  have D_add_hide : Def P w K mg base 2 "add_hide" ["inventory", "kind", "thickness", "area"] (sp_add_hide C) := ok_add_hide T A_add_hide D_is_hide
  have D_remove_hide : Def P w K mg base 2 "remove_hide" ["inventory", "number"] (sp_remove_hide C) := ok_remove_hide T A_remove_hide D_exists
  have D_get_hide : Def P w K mg base 2 "get_hide" ["inventory", "number"] (sp_get_hide C) := ok_get_hide T A_get_hide D_exists
  have D_set_limits : Def P w K mg base 2 "set_limits" ["inventory", "tolerance", "lot_size"] (sp_set_limits C) := ok_set_limits T A_set_limits D_are_limits
  have D_thin_hide : Def P w K mg base 2 "thin_hide" ["inventory", "number", "thickness"] (sp_thin_hide C) := ok_thin_hide T A_thin_hide D_exists
  have D_hide_order : Def P w K mg base 5 "hide_order" ["inventory"] (sp_hide_order C) := ok_hide_order T A_hide_order D_order_of D_numbers_of
  have D_are_compatible : Def P w K mg base 2 "are_compatible" ["inventory", "first", "second"] (sp_are_compatible C) := ok_are_compatible T A_are_compatible D_are_alike D_exists
  have D_are_hides : Def P w K mg base 2 "are_hides" ["inventory", "numbers"] (sp_are_hides C) := ok_are_hides T A_are_hides D_exists
  have D_hides_with : Def P w K mg base 1 "hides_with" ["inventory", "numbers"] (sp_hides_with C) := ok_hides_with T A_hides_with
  have D_is_lot : Def P w K mg base 4 "is_lot" ["inventory", "numbers"] (sp_is_lot C) := ok_is_lot T A_is_lot D_all_fit D_are_hides D_hides_with
  have D_greedy_lots : Def P w K mg base 5 "greedy_lots" ["inventory"] (sp_greedy_lots C) := ok_greedy_lots T A_greedy_lots D_greedy D_order_of D_numbers_of
  have D_incompatible_hides : Def P w K mg base 5 "incompatible_hides" ["inventory"] (sp_incompatible_hides C) := ok_incompatible_hides T A_incompatible_hides D_incompatible D_order_of D_numbers_of
  have D_largest_lot : Def P w K mg base 6 "largest_lot" ["inventory"] (sp_largest_lot C) := ok_largest_lot T A_largest_lot D_area_of D_largest D_order_of D_numbers_of
  have D_total_area : Def P w K mg base 3 "total_area" ["inventory", "numbers"] (sp_total_area C) := ok_total_area T A_total_area D_area_of D_are_hides D_hides_with
  have D_best_pairs : Def P w K mg base 5 "best_pairs" ["inventory", "kind"] (sp_best_pairs C) := ok_best_pairs T A_best_pairs D_difference_of D_best_pairs_of D_order_of D_numbers_of
  have D_least_tolerance : Def P w K mg base 5 "least_tolerance" ["inventory", "lot_count"] (sp_least_tolerance C) := ok_least_tolerance T A_least_tolerance D_greedy D_order_of
  have D_lots_without_hide : Def P w K mg base 5 "lots_without_hide" ["inventory", "number"] (sp_lots_without_hide C) := ok_lots_without_hide T A_lots_without_hide D_count_lots D_exists
  have D_lots_with_hide : Def P w K mg base 5 "lots_with_hide" ["inventory", "kind", "thickness", "area"] (sp_lots_with_hide C) := ok_lots_with_hide T A_lots_with_hide D_count_lots D_is_hide
  have D_status : Def P w K mg base 1 "status" ["inventory"] (sp_status C) := ok_status T A_status
  have D_change : Def P w K mg base 3 "change" ["inventory", "operation", "numbers"] (sp_change C) := ok_change T A_change D_add_hide D_remove_hide D_set_limits D_thin_hide
  have D_plain_question : Def P w K mg base 7 "plain_question" ["inventory", "operation"] (sp_plain_question C) := ok_plain_question T A_plain_question D_count_lots D_hide_order D_greedy_lots D_incompatible_hides D_largest_lot D_status
  have D_question : Def P w K mg base 6 "question" ["inventory", "operation", "numbers"] (sp_question C) := ok_question T A_question D_get_hide D_are_compatible D_is_lot D_total_area D_best_pairs D_least_tolerance D_lots_without_hide D_lots_with_hide
  have D_deed : Def P w K mg base 8 "deed" ["inventory", "operation", "numbers"] (sp_deed C) := ok_deed T A_deed D_change D_plain_question D_question
  exact ok_answers T M (ok_init T FI) bI D_are_limits D_deed F
end DT
/-! What the top leaves; the theorem. -/
namespace DT
open PySem PySem.Spec PyProof.Rows L2
theorem at_mk {K : PySem.W.Frag} {h : Heap} {mg : Str → Option Value} {x : Str} {st : Stmt} {ps : List Str} {f : Addr} {oc : Value} {od an : Option Addr} {osl : Array (Option Value)} {kV doc pm cdv ct : Value} (X : K.In h) (G : h.Ns mainGlobals mg)
    (a : PySem.W.nsIn K mainGlobals x = some (some (.ref f))) (l : K.lookup f = some ⟨oc, od, .func (PySem.W.fnOf x x (defArgs st) (defBody st) (defScope st) .none kV doc pm an cdv ct), osl⟩) (c : PySem.W.codeIn K cdv x = true) (k : PySem.W.keepIn K (.ref f) = true)
    (hb : ∀ (kV doc pm : Value) (an : Option Addr) (cdv ct : Value) (us : List Value), us.length = ps.length → bindArgs (PySem.W.fnOf x x (defArgs st) (defBody st) (defScope st) .none kV doc pm an cdv ct) ⟨us, []⟩ = pure (ps.zip us)) : At K mg x st ps :=
  ⟨f, _, fun_mk l c k, PySem.W.mg_of X G a, (fun_mk (st := st) l c k).binds hb⟩
theorem gc_mk {K : PySem.W.Frag} {h : Heap} {mg : Str → Option Value} {x : Str} {n : Int} {t : Tok} (X : K.In h) (G : h.Ns mainGlobals mg) (a : PySem.W.nsIn K mainGlobals x = some (some (.int n t))) : GC mg x n := ⟨t, PySem.W.mg_of X G a⟩
theorem all_mk {P : Program} {w : World} {K : PySem.W.Frag} {h : Heap} {mg : Str → Option Value} {fa C fI f : Addr} (X : K.In h) (G : h.Ns mainGlobals mg) (hfa : mg "answers" = some (.ref fa))
    {odI anI od an : Option Addr} {slI sl : Array (Option Value)} {ocI kVI dcI pmI cdI ctI oc kV dc pm cd ct : Value}
    (aC : PySem.W.nsIn K mainGlobals "Inventory" = some (some (.ref C)))
    (aI : PySem.W.findIn K (.ref C) "__init__" = some (some (.ref fI))) (iI : PySem.W.isFn K (.ref fI) = true) (lI : K.lookup fI = some ⟨ocI, odI, .func (PySem.W.fnOf "__init__" "Inventory.__init__" (defArgs s_init) (defBody s_init) (defScope s_init) .none kVI dcI pmI anI cdI ctI), slI⟩) (cI : PySem.W.codeIn K cdI "Inventory.__init__" = true) (kI : PySem.W.keepIn K (.ref fI) = true)
    (pg : PySem.W.plainGet K C Str.empty = true) (hd : PySem.W.hasDictIn K C = true) (po : PySem.W.plainOver K C = true) (sa : PySem.W.findIn K (.ref C) "__setattr__" = some (some (.builtin "object.__setattr__"))) (mk : PySem.W.makesIn K C = true) (kc : PySem.W.keepIn K (.ref C) = true)
    (nH : PySem.W.findIn K (.ref C) "hides" = some none) (nT : PySem.W.findIn K (.ref C) "tolerance" = some none) (nL : PySem.W.findIn K (.ref C) "lot_size" = some none)
    (z_len : PySem.W.nsIn K mainGlobals "len" = some none)
    (z_abs : PySem.W.nsIn K mainGlobals "abs" = some none)
    (z_int : PySem.W.nsIn K mainGlobals "int" = some none)
    (z_list : PySem.W.nsIn K mainGlobals "list" = some none)
    (z_sum : PySem.W.nsIn K mainGlobals "sum" = some none)
    (z_range : PySem.W.nsIn K mainGlobals "range" = some none)
    (g_NO_HIDE : GC mg "NO_HIDE" (-2))
    (g_BEYOND : GC mg "BEYOND" (-22))
    (g_FULL : GC mg "FULL" (-28))
    (g_NOTHING : GC mg "NOTHING" (-33))
    (g_MOST_KIND : GC mg "MOST_KIND" (2))
    (g_MOST : GC mg "MOST" (60))
    (g_MOST_LOT : GC mg "MOST_LOT" (12))
    (g_MOST_HIDES : GC mg "MOST_HIDES" (12))
    (g_NO_INVENTORY : GC mg "NO_INVENTORY" (-11))
    (g_CREATE : GC mg "CREATE" (0))
    (A_is_ahead : At K mg "is_ahead" s_is_ahead ["one", "other"])
    (A_placed : At K mg "placed" s_placed ["order", "number", "hide"])
    (A_ordered : At K mg "ordered" s_ordered ["hides"])
    (A_are_alike : At K mg "are_alike" s_are_alike ["one", "other", "tolerance"])
    (A_fits_all : At K mg "fits_all" s_fits_all ["hide", "some", "tolerance"])
    (A_all_fit : At K mg "all_fit" s_all_fit ["some", "tolerance"])
    (A_greedy : At K mg "greedy" s_greedy ["order", "tolerance", "lot_size"])
    (A_count_lots : At K mg "count_lots" s_count_lots ["inventory", "hides"])
    (A_incompatible : At K mg "incompatible" s_incompatible ["order", "tolerance"])
    (A_area_of : At K mg "area_of" s_area_of ["some"])
    (A_count_greater : At K mg "count_greater" s_count_greater ["run", "place"])
    (A_largest_part : At K mg "largest_part" s_largest_part ["run", "lot_size"])
    (A_runs_of : At K mg "runs_of" s_runs_of ["order", "tolerance"])
    (A_largest : At K mg "largest" s_largest ["order", "tolerance", "lot_size"])
    (A_difference_of : At K mg "difference_of" s_difference_of ["some"])
    (A_without : At K mg "without" s_without ["some", "place"])
    (A_left_place : At K mg "left_place" s_left_place ["some"])
    (A_best_pairs_of : At K mg "best_pairs_of" s_best_pairs_of ["order", "kind"])
    (A_are_limits : At K mg "are_limits" s_are_limits ["tolerance", "lot_size"])
    (A_is_hide : At K mg "is_hide" s_is_hide ["kind", "thickness", "area"])
    (A_exists : At K mg "exists" s_exists ["inventory", "number"])
    (A_order_of : At K mg "order_of" s_order_of ["inventory"])
    (A_numbers_of : At K mg "numbers_of" s_numbers_of ["some"])
    (A_add_hide : At K mg "add_hide" s_add_hide ["inventory", "kind", "thickness", "area"])
    (A_remove_hide : At K mg "remove_hide" s_remove_hide ["inventory", "number"])
    (A_get_hide : At K mg "get_hide" s_get_hide ["inventory", "number"])
    (A_set_limits : At K mg "set_limits" s_set_limits ["inventory", "tolerance", "lot_size"])
    (A_thin_hide : At K mg "thin_hide" s_thin_hide ["inventory", "number", "thickness"])
    (A_hide_order : At K mg "hide_order" s_hide_order ["inventory"])
    (A_are_compatible : At K mg "are_compatible" s_are_compatible ["inventory", "first", "second"])
    (A_are_hides : At K mg "are_hides" s_are_hides ["inventory", "numbers"])
    (A_hides_with : At K mg "hides_with" s_hides_with ["inventory", "numbers"])
    (A_is_lot : At K mg "is_lot" s_is_lot ["inventory", "numbers"])
    (A_greedy_lots : At K mg "greedy_lots" s_greedy_lots ["inventory"])
    (A_incompatible_hides : At K mg "incompatible_hides" s_incompatible_hides ["inventory"])
    (A_largest_lot : At K mg "largest_lot" s_largest_lot ["inventory"])
    (A_total_area : At K mg "total_area" s_total_area ["inventory", "numbers"])
    (A_best_pairs : At K mg "best_pairs" s_best_pairs ["inventory", "kind"])
    (A_least_tolerance : At K mg "least_tolerance" s_least_tolerance ["inventory", "lot_count"])
    (A_lots_without_hide : At K mg "lots_without_hide" s_lots_without_hide ["inventory", "number"])
    (A_lots_with_hide : At K mg "lots_with_hide" s_lots_with_hide ["inventory", "kind", "thickness", "area"])
    (A_status : At K mg "status" s_status ["inventory"])
    (A_change : At K mg "change" s_change ["inventory", "operation", "numbers"])
    (A_plain_question : At K mg "plain_question" s_plain_question ["inventory", "operation"])
    (A_question : At K mg "question" s_question ["inventory", "operation", "numbers"])
    (A_deed : At K mg "deed" s_deed ["inventory", "operation", "numbers"])
    (aA : PySem.W.nsIn K mainGlobals "answers" = some (some (.ref f))) (lA : K.lookup f = some ⟨oc, od, .func (PySem.W.fnOf "answers" "answers" (defArgs s_answers) (defBody s_answers) (defScope s_answers) .none kV dc pm an cd ct), sl⟩) (cA : PySem.W.codeIn K cd "answers" = true) (kA : PySem.W.keepIn K (.ref f) = true) :
    ∃ fd : FuncData, (∀ (s : Shared) (us : List Value), us.length = (["calls"] : List Str).length → BindsTo s fd ⟨us, []⟩ ((["calls"] : List Str).zip us)) ∧ ∀ base : Heap, K.In base → base.Ns mainGlobals mg → FnOk P w K mg base CX0 9 fa fd ["calls"] (sp_answers K) := by
  have e := hfa.symm.trans (PySem.W.mg_of X G aA)
  cases e
  have T : Txt K mg C := ⟨⟨⟨pg, hd, po, sa⟩, nH, nT, nL⟩, PySem.W.mg_of X G aC, PySem.W.mg_none_of X G z_len, PySem.W.mg_none_of X G z_abs, PySem.W.mg_none_of X G z_int, PySem.W.mg_none_of X G z_list, PySem.W.mg_none_of X G z_sum, PySem.W.mg_none_of X G z_range, g_NO_HIDE, g_BEYOND, g_FULL, g_NOTHING, g_MOST_KIND, g_MOST, g_MOST_LOT, g_MOST_HIDES, g_NO_INVENTORY, g_CREATE⟩
  have FI := fun_mk (st := s_init) lI cI kI
  have F := fun_mk (st := s_answers) lA cA kA
  have bI := FI.binds (ps := ["self", "tolerance", "lot_size"]) fun _ _ _ _ _ _ us hl => match us, hl with | [_, _, _], _ => rfl
  exact ⟨PySem.W.fnOf "answers" "answers" (defArgs s_answers) (defBody s_answers) (defScope s_answers) .none kV dc pm an cd ct, fun s us hu => match us, hu with | [_], _ => .of_eq rfl, fun base _ _ => all_ok T ⟨mk, aI, iI, kc⟩ FI bI A_is_ahead A_placed A_ordered A_are_alike A_fits_all A_all_fit A_greedy A_count_lots A_incompatible A_area_of A_count_greater A_largest_part A_runs_of A_largest A_difference_of A_without A_left_place A_best_pairs_of A_are_limits A_is_hide A_exists A_order_of A_numbers_of A_add_hide A_remove_hide A_get_hide A_set_limits A_thin_hide A_hide_order A_are_compatible A_are_hides A_hides_with A_is_lot A_greedy_lots A_incompatible_hides A_largest_lot A_total_area A_best_pairs A_least_tolerance A_lots_without_hide A_lots_with_hide A_status A_change A_plain_question A_question A_deed F⟩
end DT
open PySem PySem.W PyProof.Rows
set_option maxRecDepth 100000 in
set_option maxHeartbeats 0 in
theorem PySem.Challenge.cw_matchedhides_s01_answers_holds : PySem.Challenge.rw_matchedhides_s01_answers.Holds := by
  w_on; k_headS; (case hw => exact ⟨[.list [.int 18, .int 0, .int 0]], by decide +kernel, by decide +kernel⟩)
  k_fillS
  refine L2.walk_specK (r := PySem.Challenge.rw_matchedhides_s01_answers) (k := 9) (CX := L2.CX0) (ps := ["calls"]) (sp := DT.sp_answers) (by decide +kernel) rfl rfl ⟨rfl, by decide, by decide⟩ (fun w h Y => PySem.W.kIn_of Y) ?F ?S (fun _ _ _ _ z => z)
  case F =>
    intro w mg fa h Y KX G hmg
    refine' DT.all_mk KX G hmg ?aC ?aI ?iI ?lI ?cI ?kI ?pg ?hd ?po ?sa ?mk ?kc ?nH ?nT ?nL ?z_len ?z_abs ?z_int ?z_list ?z_sum ?z_range (DT.gc_mk KX G ?g_NO_HIDE) (DT.gc_mk KX G ?g_BEYOND) (DT.gc_mk KX G ?g_FULL) (DT.gc_mk KX G ?g_NOTHING) (DT.gc_mk KX G ?g_MOST_KIND) (DT.gc_mk KX G ?g_MOST) (DT.gc_mk KX G ?g_MOST_LOT) (DT.gc_mk KX G ?g_MOST_HIDES) (DT.gc_mk KX G ?g_NO_INVENTORY) (DT.gc_mk KX G ?g_CREATE) (DT.at_mk KX G ?a_is_ahead ?l_is_ahead ?c_is_ahead ?k_is_ahead (fun _ _ _ _ _ _ us hl => match us, hl with | [_, _], _ => rfl)) (DT.at_mk KX G ?a_placed ?l_placed ?c_placed ?k_placed (fun _ _ _ _ _ _ us hl => match us, hl with | [_, _, _], _ => rfl)) (DT.at_mk KX G ?a_ordered ?l_ordered ?c_ordered ?k_ordered (fun _ _ _ _ _ _ us hl => match us, hl with | [_], _ => rfl)) (DT.at_mk KX G ?a_are_alike ?l_are_alike ?c_are_alike ?k_are_alike (fun _ _ _ _ _ _ us hl => match us, hl with | [_, _, _], _ => rfl)) (DT.at_mk KX G ?a_fits_all ?l_fits_all ?c_fits_all ?k_fits_all (fun _ _ _ _ _ _ us hl => match us, hl with | [_, _, _], _ => rfl)) (DT.at_mk KX G ?a_all_fit ?l_all_fit ?c_all_fit ?k_all_fit (fun _ _ _ _ _ _ us hl => match us, hl with | [_, _], _ => rfl)) (DT.at_mk KX G ?a_greedy ?l_greedy ?c_greedy ?k_greedy (fun _ _ _ _ _ _ us hl => match us, hl with | [_, _, _], _ => rfl)) (DT.at_mk KX G ?a_count_lots ?l_count_lots ?c_count_lots ?k_count_lots (fun _ _ _ _ _ _ us hl => match us, hl with | [_, _], _ => rfl)) (DT.at_mk KX G ?a_incompatible ?l_incompatible ?c_incompatible ?k_incompatible (fun _ _ _ _ _ _ us hl => match us, hl with | [_, _], _ => rfl)) (DT.at_mk KX G ?a_area_of ?l_area_of ?c_area_of ?k_area_of (fun _ _ _ _ _ _ us hl => match us, hl with | [_], _ => rfl)) (DT.at_mk KX G ?a_count_greater ?l_count_greater ?c_count_greater ?k_count_greater (fun _ _ _ _ _ _ us hl => match us, hl with | [_, _], _ => rfl)) (DT.at_mk KX G ?a_largest_part ?l_largest_part ?c_largest_part ?k_largest_part (fun _ _ _ _ _ _ us hl => match us, hl with | [_, _], _ => rfl)) (DT.at_mk KX G ?a_runs_of ?l_runs_of ?c_runs_of ?k_runs_of (fun _ _ _ _ _ _ us hl => match us, hl with | [_, _], _ => rfl)) (DT.at_mk KX G ?a_largest ?l_largest ?c_largest ?k_largest (fun _ _ _ _ _ _ us hl => match us, hl with | [_, _, _], _ => rfl)) (DT.at_mk KX G ?a_difference_of ?l_difference_of ?c_difference_of ?k_difference_of (fun _ _ _ _ _ _ us hl => match us, hl with | [_], _ => rfl)) (DT.at_mk KX G ?a_without ?l_without ?c_without ?k_without (fun _ _ _ _ _ _ us hl => match us, hl with | [_, _], _ => rfl)) (DT.at_mk KX G ?a_left_place ?l_left_place ?c_left_place ?k_left_place (fun _ _ _ _ _ _ us hl => match us, hl with | [_], _ => rfl)) (DT.at_mk KX G ?a_best_pairs_of ?l_best_pairs_of ?c_best_pairs_of ?k_best_pairs_of (fun _ _ _ _ _ _ us hl => match us, hl with | [_, _], _ => rfl)) (DT.at_mk KX G ?a_are_limits ?l_are_limits ?c_are_limits ?k_are_limits (fun _ _ _ _ _ _ us hl => match us, hl with | [_, _], _ => rfl)) (DT.at_mk KX G ?a_is_hide ?l_is_hide ?c_is_hide ?k_is_hide (fun _ _ _ _ _ _ us hl => match us, hl with | [_, _, _], _ => rfl)) (DT.at_mk KX G ?a_exists ?l_exists ?c_exists ?k_exists (fun _ _ _ _ _ _ us hl => match us, hl with | [_, _], _ => rfl)) (DT.at_mk KX G ?a_order_of ?l_order_of ?c_order_of ?k_order_of (fun _ _ _ _ _ _ us hl => match us, hl with | [_], _ => rfl)) (DT.at_mk KX G ?a_numbers_of ?l_numbers_of ?c_numbers_of ?k_numbers_of (fun _ _ _ _ _ _ us hl => match us, hl with | [_], _ => rfl)) (DT.at_mk KX G ?a_add_hide ?l_add_hide ?c_add_hide ?k_add_hide (fun _ _ _ _ _ _ us hl => match us, hl with | [_, _, _, _], _ => rfl)) (DT.at_mk KX G ?a_remove_hide ?l_remove_hide ?c_remove_hide ?k_remove_hide (fun _ _ _ _ _ _ us hl => match us, hl with | [_, _], _ => rfl)) (DT.at_mk KX G ?a_get_hide ?l_get_hide ?c_get_hide ?k_get_hide (fun _ _ _ _ _ _ us hl => match us, hl with | [_, _], _ => rfl)) (DT.at_mk KX G ?a_set_limits ?l_set_limits ?c_set_limits ?k_set_limits (fun _ _ _ _ _ _ us hl => match us, hl with | [_, _, _], _ => rfl)) (DT.at_mk KX G ?a_thin_hide ?l_thin_hide ?c_thin_hide ?k_thin_hide (fun _ _ _ _ _ _ us hl => match us, hl with | [_, _, _], _ => rfl)) (DT.at_mk KX G ?a_hide_order ?l_hide_order ?c_hide_order ?k_hide_order (fun _ _ _ _ _ _ us hl => match us, hl with | [_], _ => rfl)) (DT.at_mk KX G ?a_are_compatible ?l_are_compatible ?c_are_compatible ?k_are_compatible (fun _ _ _ _ _ _ us hl => match us, hl with | [_, _, _], _ => rfl)) (DT.at_mk KX G ?a_are_hides ?l_are_hides ?c_are_hides ?k_are_hides (fun _ _ _ _ _ _ us hl => match us, hl with | [_, _], _ => rfl)) (DT.at_mk KX G ?a_hides_with ?l_hides_with ?c_hides_with ?k_hides_with (fun _ _ _ _ _ _ us hl => match us, hl with | [_, _], _ => rfl)) (DT.at_mk KX G ?a_is_lot ?l_is_lot ?c_is_lot ?k_is_lot (fun _ _ _ _ _ _ us hl => match us, hl with | [_, _], _ => rfl)) (DT.at_mk KX G ?a_greedy_lots ?l_greedy_lots ?c_greedy_lots ?k_greedy_lots (fun _ _ _ _ _ _ us hl => match us, hl with | [_], _ => rfl)) (DT.at_mk KX G ?a_incompatible_hides ?l_incompatible_hides ?c_incompatible_hides ?k_incompatible_hides (fun _ _ _ _ _ _ us hl => match us, hl with | [_], _ => rfl)) (DT.at_mk KX G ?a_largest_lot ?l_largest_lot ?c_largest_lot ?k_largest_lot (fun _ _ _ _ _ _ us hl => match us, hl with | [_], _ => rfl)) (DT.at_mk KX G ?a_total_area ?l_total_area ?c_total_area ?k_total_area (fun _ _ _ _ _ _ us hl => match us, hl with | [_, _], _ => rfl)) (DT.at_mk KX G ?a_best_pairs ?l_best_pairs ?c_best_pairs ?k_best_pairs (fun _ _ _ _ _ _ us hl => match us, hl with | [_, _], _ => rfl)) (DT.at_mk KX G ?a_least_tolerance ?l_least_tolerance ?c_least_tolerance ?k_least_tolerance (fun _ _ _ _ _ _ us hl => match us, hl with | [_, _], _ => rfl)) (DT.at_mk KX G ?a_lots_without_hide ?l_lots_without_hide ?c_lots_without_hide ?k_lots_without_hide (fun _ _ _ _ _ _ us hl => match us, hl with | [_, _], _ => rfl)) (DT.at_mk KX G ?a_lots_with_hide ?l_lots_with_hide ?c_lots_with_hide ?k_lots_with_hide (fun _ _ _ _ _ _ us hl => match us, hl with | [_, _, _, _], _ => rfl)) (DT.at_mk KX G ?a_status ?l_status ?c_status ?k_status (fun _ _ _ _ _ _ us hl => match us, hl with | [_], _ => rfl)) (DT.at_mk KX G ?a_change ?l_change ?c_change ?k_change (fun _ _ _ _ _ _ us hl => match us, hl with | [_, _, _], _ => rfl)) (DT.at_mk KX G ?a_plain_question ?l_plain_question ?c_plain_question ?k_plain_question (fun _ _ _ _ _ _ us hl => match us, hl with | [_, _], _ => rfl)) (DT.at_mk KX G ?a_question ?l_question ?c_question ?k_question (fun _ _ _ _ _ _ us hl => match us, hl with | [_, _, _], _ => rfl)) (DT.at_mk KX G ?a_deed ?l_deed ?c_deed ?k_deed (fun _ _ _ _ _ _ us hl => match us, hl with | [_, _, _], _ => rfl)) ?aA ?lA ?cA ?kA
    (case aC => k_is)
    (case aI => k_is)
    (case iI => k_is)
    (case lI => k_is)
    (case cI => k_is)
    (case kI => k_is)
    (case pg => k_is)
    (case hd => k_is)
    (case po => k_is)
    (case sa => k_is)
    (case mk => k_is)
    (case kc => k_is)
    (case nH => k_is)
    (case nT => k_is)
    (case nL => k_is)
    (case z_len => k_is)
    (case z_abs => k_is)
    (case z_int => k_is)
    (case z_list => k_is)
    (case z_sum => k_is)
    (case z_range => k_is)
    (case g_NO_HIDE => k_is)
    (case g_BEYOND => k_is)
    (case g_FULL => k_is)
    (case g_NOTHING => k_is)
    (case g_MOST_KIND => k_is)
    (case g_MOST => k_is)
    (case g_MOST_LOT => k_is)
    (case g_MOST_HIDES => k_is)
    (case g_NO_INVENTORY => k_is)
    (case g_CREATE => k_is)
    (case a_is_ahead => k_is)
    (case l_is_ahead => k_is)
    (case c_is_ahead => k_is)
    (case k_is_ahead => k_is)
    (case a_placed => k_is)
    (case l_placed => k_is)
    (case c_placed => k_is)
    (case k_placed => k_is)
    (case a_ordered => k_is)
    (case l_ordered => k_is)
    (case c_ordered => k_is)
    (case k_ordered => k_is)
    (case a_are_alike => k_is)
    (case l_are_alike => k_is)
    (case c_are_alike => k_is)
    (case k_are_alike => k_is)
    (case a_fits_all => k_is)
    (case l_fits_all => k_is)
    (case c_fits_all => k_is)
    (case k_fits_all => k_is)
    (case a_all_fit => k_is)
    (case l_all_fit => k_is)
    (case c_all_fit => k_is)
    (case k_all_fit => k_is)
    (case a_greedy => k_is)
    (case l_greedy => k_is)
    (case c_greedy => k_is)
    (case k_greedy => k_is)
    (case a_count_lots => k_is)
    (case l_count_lots => k_is)
    (case c_count_lots => k_is)
    (case k_count_lots => k_is)
    (case a_incompatible => k_is)
    (case l_incompatible => k_is)
    (case c_incompatible => k_is)
    (case k_incompatible => k_is)
    (case a_area_of => k_is)
    (case l_area_of => k_is)
    (case c_area_of => k_is)
    (case k_area_of => k_is)
    (case a_count_greater => k_is)
    (case l_count_greater => k_is)
    (case c_count_greater => k_is)
    (case k_count_greater => k_is)
    (case a_largest_part => k_is)
    (case l_largest_part => k_is)
    (case c_largest_part => k_is)
    (case k_largest_part => k_is)
    (case a_runs_of => k_is)
    (case l_runs_of => k_is)
    (case c_runs_of => k_is)
    (case k_runs_of => k_is)
    (case a_largest => k_is)
    (case l_largest => k_is)
    (case c_largest => k_is)
    (case k_largest => k_is)
    (case a_difference_of => k_is)
    (case l_difference_of => k_is)
    (case c_difference_of => k_is)
    (case k_difference_of => k_is)
    (case a_without => k_is)
    (case l_without => k_is)
    (case c_without => k_is)
    (case k_without => k_is)
    (case a_left_place => k_is)
    (case l_left_place => k_is)
    (case c_left_place => k_is)
    (case k_left_place => k_is)
    (case a_best_pairs_of => k_is)
    (case l_best_pairs_of => k_is)
    (case c_best_pairs_of => k_is)
    (case k_best_pairs_of => k_is)
    (case a_are_limits => k_is)
    (case l_are_limits => k_is)
    (case c_are_limits => k_is)
    (case k_are_limits => k_is)
    (case a_is_hide => k_is)
    (case l_is_hide => k_is)
    (case c_is_hide => k_is)
    (case k_is_hide => k_is)
    (case a_exists => k_is)
    (case l_exists => k_is)
    (case c_exists => k_is)
    (case k_exists => k_is)
    (case a_order_of => k_is)
    (case l_order_of => k_is)
    (case c_order_of => k_is)
    (case k_order_of => k_is)
    (case a_numbers_of => k_is)
    (case l_numbers_of => k_is)
    (case c_numbers_of => k_is)
    (case k_numbers_of => k_is)
    (case a_add_hide => k_is)
    (case l_add_hide => k_is)
    (case c_add_hide => k_is)
    (case k_add_hide => k_is)
    (case a_remove_hide => k_is)
    (case l_remove_hide => k_is)
    (case c_remove_hide => k_is)
    (case k_remove_hide => k_is)
    (case a_get_hide => k_is)
    (case l_get_hide => k_is)
    (case c_get_hide => k_is)
    (case k_get_hide => k_is)
    (case a_set_limits => k_is)
    (case l_set_limits => k_is)
    (case c_set_limits => k_is)
    (case k_set_limits => k_is)
    (case a_thin_hide => k_is)
    (case l_thin_hide => k_is)
    (case c_thin_hide => k_is)
    (case k_thin_hide => k_is)
    (case a_hide_order => k_is)
    (case l_hide_order => k_is)
    (case c_hide_order => k_is)
    (case k_hide_order => k_is)
    (case a_are_compatible => k_is)
    (case l_are_compatible => k_is)
    (case c_are_compatible => k_is)
    (case k_are_compatible => k_is)
    (case a_are_hides => k_is)
    (case l_are_hides => k_is)
    (case c_are_hides => k_is)
    (case k_are_hides => k_is)
    (case a_hides_with => k_is)
    (case l_hides_with => k_is)
    (case c_hides_with => k_is)
    (case k_hides_with => k_is)
    (case a_is_lot => k_is)
    (case l_is_lot => k_is)
    (case c_is_lot => k_is)
    (case k_is_lot => k_is)
    (case a_greedy_lots => k_is)
    (case l_greedy_lots => k_is)
    (case c_greedy_lots => k_is)
    (case k_greedy_lots => k_is)
    (case a_incompatible_hides => k_is)
    (case l_incompatible_hides => k_is)
    (case c_incompatible_hides => k_is)
    (case k_incompatible_hides => k_is)
    (case a_largest_lot => k_is)
    (case l_largest_lot => k_is)
    (case c_largest_lot => k_is)
    (case k_largest_lot => k_is)
    (case a_total_area => k_is)
    (case l_total_area => k_is)
    (case c_total_area => k_is)
    (case k_total_area => k_is)
    (case a_best_pairs => k_is)
    (case l_best_pairs => k_is)
    (case c_best_pairs => k_is)
    (case k_best_pairs => k_is)
    (case a_least_tolerance => k_is)
    (case l_least_tolerance => k_is)
    (case c_least_tolerance => k_is)
    (case k_least_tolerance => k_is)
    (case a_lots_without_hide => k_is)
    (case l_lots_without_hide => k_is)
    (case c_lots_without_hide => k_is)
    (case k_lots_without_hide => k_is)
    (case a_lots_with_hide => k_is)
    (case l_lots_with_hide => k_is)
    (case c_lots_with_hide => k_is)
    (case k_lots_with_hide => k_is)
    (case a_status => k_is)
    (case l_status => k_is)
    (case c_status => k_is)
    (case k_status => k_is)
    (case a_change => k_is)
    (case l_change => k_is)
    (case c_change => k_is)
    (case k_change => k_is)
    (case a_plain_question => k_is)
    (case l_plain_question => k_is)
    (case c_plain_question => k_is)
    (case k_plain_question => k_is)
    (case a_question => k_is)
    (case l_question => k_is)
    (case c_question => k_is)
    (case k_question => k_is)
    (case a_deed => k_is)
    (case l_deed => k_is)
    (case c_deed => k_is)
    (case k_deed => k_is)
    (case aA => k_is)
    (case lA => k_is)
    (case cA => k_is)
    (case kA => k_is)
  case S =>
    intro K H xs a hO hwi hask hx
    cases hx with
    | cons h1 h2 =>
      cases h2
      cases h1 with
      | lst hs ha =>
        have e := L2.ints_dw a.1 _ ha
        subst e
        exact ⟨_, a.1, rfl, hs, hask, fun H' p hp => .lst (L2.SqL.of hp) (L2.dw_ints _)⟩
#print axioms PySem.Challenge.cw_matchedhides_s01_answers_holds
