import PyProof.Rows.All
import Wide.All
import OpenK.AllK
import Wide.FinOn
import HandS.ForMost
import HandS.SetFor
import HandS.Conv
import HandS.Style
import HandS.Flow
import HandS.Sort
import HandS.SortRule
import HandS.Deep
import HandS.Walk
import KE.KDictKeyed
import KE.KDictDisplayH
import KE.KDictWalk
import KE.SortData
import KE.DatumOrd
import KE.GoesEnum
import PySem.Challenge.RW_stayswap_k21_whole_distances_by_search
set_option Elab.async false
section
set_option autoImplicit false
set_option linter.all false
/-! Plain mathematics: permutations of at most five things, the lot of a line, one exchange, the search by layers. -/
namespace SW

/-! ### permutations as lists -/
def isP (n : Nat) (g : List Nat) : Bool := g.length == n && g.all (fun x => decide (x < n)) && decide g.Nodup
def lists (n : Nat) : Nat → List (List Nat)
  | 0 => [[]]
  | k + 1 => (List.range n).flatMap fun x => (lists n k).map fun r => x :: r
theorem mem_lists (n : Nat) : ∀ (k : Nat) (g : List Nat), g.length = k → (∀ x ∈ g, x < n) → g ∈ lists n k
  | 0, [], _, _ => by simp [lists]
  | k + 1, x :: r, h, hx => by
    unfold lists
    refine List.mem_flatMap.mpr ⟨x, List.mem_range.mpr (hx x List.mem_cons_self), List.mem_map.mpr ⟨r, mem_lists n k r (by simpa using h) fun y hy => hx y (List.mem_cons_of_mem _ hy), rfl⟩⟩
  | 0, _ :: _, h, _ => by simp at h
  | _ + 1, [], h, _ => by simp at h
theorem lists_len (n : Nat) : ∀ k, (lists n k).length = n ^ k
  | 0 => rfl
  | k + 1 => by
    unfold lists
    rw [List.length_flatMap]
    simp only [List.length_map, lists_len n k]
    rw [List.map_const', List.sum_replicate_nat, List.length_range, Nat.pow_succ, Nat.mul_comm]

/-- the ring from i: i, g i, .. -/
def orbFrom (g : List Nat) (i : Nat) : Nat → Nat → List Nat
  | 0, _ => []
  | f + 1, c => c :: (if g.getD c 0 == i then [] else orbFrom g i f (g.getD c 0))
def orb (g : List Nat) (i : Nat) : List Nat := orbFrom g i g.length i
def ringsGo (g : List Nat) : List Nat → List (List Nat) → List Nat → List (List Nat)
  | [], found, _ => found
  | x :: r, found, seen => if seen.contains x then ringsGo g r found seen else ringsGo g r (found ++ [orb g x]) (seen ++ orb g x)
def allRings (g : List Nat) : List (List Nat) := ringsGo g (List.range g.length) [] []
def ringsF (g : List Nat) : List (List Nat) := (allRings g).filter fun r => decide (1 < r.length)
def dd (g : List Nat) : Nat := ((ringsF g).map fun r => r.length - 1).sum
def inv (g : List Nat) : List Nat := (List.range g.length).map fun k => g.idxOf k
def swapP (g : List Nat) (i j : Nat) : List Nat := (g.set i (g.getD j 0)).set j (g.getD i 0)
def still (g : List Nat) : Nat := ((List.range g.length).filter fun i => g.getD i 0 == i).length

/-- the law's own rings: what is left, how many rings of two or more so far -/
def leftBy (r o : List Nat) (k : Nat) : List Nat := ((o.drop 1).take k).foldl (fun l y => l.erase y) r
def loopsGo (g : List Nat) : Nat → List Nat → Nat → Nat
  | 0, _, c => c
  | _, [], c => c
  | f + 1, x :: r, c => loopsGo g f (leftBy r (orb g x) ((orb g x).length - 1)) (c + (if 1 < (orb g x).length then 1 else 0))
def loopsN (g : List Nat) : Nat := loopsGo g g.length (List.range g.length) 0

/-! ### what is checked of every permutation -/
def ckOrb (g : List Nat) (i : Nat) : Bool :=
  let o := orb g i
  decide (1 ≤ o.length) && decide (o.length ≤ 5) && o.getD 0 9 == i && o.all (fun x => decide (x < g.length)) &&
  (List.range o.length).all (fun k => if k + 1 < o.length then g.getD (o.getD k 9) 9 == o.getD (k + 1) 9 && !(o.getD (k + 1) 9 == i) else g.getD (o.getD k 9) 9 == i)
/-- the states of the law's loop -/
def ckLeft (g : List Nat) : Nat → List Nat → Bool
  | _, [] => true
  | 0, _ :: _ => false
  | f + 1, x :: r =>
    let o := orb g x
    decide (x < g.length) && decide (r.length ≤ 5) && (List.range (o.length - 1)).all (fun k => (leftBy r o k).contains (o.getD (k + 1) 9)) && ckLeft g f (leftBy r o (o.length - 1))
def ck1 (g : List Nat) : Bool := dd (inv g) == dd g && (List.range g.length).all (fun i => ckOrb g i) && ckLeft g g.length (List.range g.length) && dd g + loopsN g + still g == g.length &&
  decide (dd g ≤ 4) && decide ((allRings g).length ≤ 5) && (dd g != 0 || g == List.range g.length)
def ck2 (g : List Nat) : Bool := (List.range g.length).all fun j => (List.range j).all fun i => dd (swapP g i j) == dd g + 1 || dd g == dd (swapP g i j) + 1
def ck3 (g : List Nat) : Bool := (List.range g.length).all fun i => g.getD i 0 == i || (dd (swapP g i (g.idxOf i)) + 1 == dd g && dd (swapP g (g.idxOf i) i) + 1 == dd g)
def allP (n : Nat) (f : List Nat → Bool) : Bool := (lists n n).all fun g => !(isP n g) || f g
theorem all1 : ((List.range 6).all fun n => allP n ck1) = true := by decide +kernel
theorem all2 : ((List.range 6).all fun n => allP n ck2) = true := by decide +kernel
theorem all3 : ((List.range 6).all fun n => allP n ck3) = true := by decide +kernel
end SW
end
section
set_option autoImplicit false
set_option linter.all false
/-! Plain mathematics: the lot of a line. -/
namespace SW

structure IsP (n : Nat) (g : List Nat) : Prop where
  len : g.length = n
  lt : ∀ x ∈ g, x < n
  nd : g.Nodup
theorem IsP.b {n : Nat} {g : List Nat} (h : IsP n g) : isP n g = true := by
  unfold isP
  simp only [Bool.and_eq_true, beq_iff_eq, List.all_eq_true, decide_eq_true_eq]
  exact ⟨⟨h.len, h.lt⟩, h.nd⟩
theorem of_all {n : Nat} {g : List Nat} {f : List Nat → Bool} (a : ((List.range 6).all fun n => allP n f) = true) (h : IsP n g) (hn : n ≤ 5) : f g = true := by
  have e := List.all_eq_true.mp a n (List.mem_range.mpr (by omega))
  have e2 := List.all_eq_true.mp e g (mem_lists n n g h.len h.lt)
  rw [h.b] at e2
  simpa using e2
section
variable {n : Nat} {g : List Nat}
theorem IsP.ck1 (h : IsP n g) (hn : n ≤ 5) : SW.ck1 g = true := of_all all1 h hn
theorem IsP.ck2 (h : IsP n g) (hn : n ≤ 5) : SW.ck2 g = true := of_all all2 h hn
theorem IsP.ck3 (h : IsP n g) (hn : n ≤ 5) : SW.ck3 g = true := of_all all3 h hn
theorem IsP.all (h : IsP n g) (hn : n ≤ 5) : dd (inv g) = dd g ∧ (∀ i, i < n → ckOrb g i = true) ∧ ckLeft g g.length (List.range g.length) = true ∧ dd g + loopsN g + still g = n ∧ dd g ≤ 4 ∧ (allRings g).length ≤ 5 ∧ (dd g = 0 → g = List.range n) := by
  have e := h.ck1 hn
  unfold SW.ck1 at e
  simp only [Bool.and_eq_true, beq_iff_eq, List.all_eq_true, decide_eq_true_eq, List.mem_range, Bool.or_eq_true, bne_iff_ne, ne_eq, h.len] at e
  obtain ⟨⟨⟨⟨⟨⟨a, b⟩, c⟩, d⟩, f⟩, k⟩, m⟩ := e
  rw [h.len]
  exact ⟨a, b, c, d, f, k, fun z => m.resolve_left fun q => q z⟩
theorem IsP.step (h : IsP n g) (hn : n ≤ 5) {i j : Nat} (hi : i < j) (hj : j < n) : dd (swapP g i j) = dd g + 1 ∨ dd g = dd (swapP g i j) + 1 := by
  have e := h.ck2 hn
  unfold SW.ck2 at e
  simp only [Bool.and_eq_true, beq_iff_eq, List.all_eq_true, decide_eq_true_eq, List.mem_range, Bool.or_eq_true, h.len] at e
  exact e j hj i hi
theorem IsP.near (h : IsP n g) (hn : n ≤ 5) {i : Nat} (hi : i < n) (hg : g.getD i 0 ≠ i) : dd (swapP g i (g.idxOf i)) + 1 = dd g ∧ dd (swapP g (g.idxOf i) i) + 1 = dd g := by
  have e := h.ck3 hn
  unfold SW.ck3 at e
  simp only [Bool.and_eq_true, beq_iff_eq, List.all_eq_true, decide_eq_true_eq, List.mem_range, Bool.or_eq_true, h.len] at e
  exact (e i hi).resolve_left hg
end
/-- the ring from i, step by step -/
structure Orb (g : List Nat) (i : Nat) (o : List Nat) : Prop where
  pos : 1 ≤ o.length
  le : o.length ≤ 5
  first : o.getD 0 9 = i
  lt : ∀ x ∈ o, x < g.length
  step : ∀ k, k + 1 < o.length → g.getD (o.getD k 9) 9 = o.getD (k + 1) 9 ∧ o.getD (k + 1) 9 ≠ i
  last : g.getD (o.getD (o.length - 1) 9) 9 = i
theorem orb_of {g : List Nat} {i : Nat} (h : ckOrb g i = true) : Orb g i (orb g i) := by
  unfold ckOrb at h
  simp only [Bool.and_eq_true, beq_iff_eq, List.all_eq_true, decide_eq_true_eq, List.mem_range] at h
  obtain ⟨⟨⟨⟨a, b⟩, c⟩, d⟩, e⟩ := h
  refine ⟨a, b, c, d, fun k hk => ?_, ?_⟩
  · have q := e k (by omega)
    rw [if_pos hk] at q
    simpa using q
  · have q := e ((orb g i).length - 1) (by omega)
    rw [if_neg (by omega)] at q
    simpa using q
theorem left_of {g : List Nat} {f x : Nat} {r : List Nat} (h : ckLeft g (f + 1) (x :: r) = true) :
    x < g.length ∧ r.length ≤ 5 ∧ (∀ k, k + 1 < (orb g x).length → (orb g x).getD (k + 1) 9 ∈ leftBy r (orb g x) k) ∧ ckLeft g f (leftBy r (orb g x) ((orb g x).length - 1)) = true := by
  unfold ckLeft at h
  simp only [Bool.and_eq_true, beq_iff_eq, List.all_eq_true, decide_eq_true_eq, List.mem_range, List.contains_iff_mem] at h
  obtain ⟨⟨⟨a, b⟩, c⟩, d⟩ := h
  exact ⟨a, b, fun k hk => c k (by omega), d⟩
theorem leftBy_succ {r o : List Nat} {k : Nat} (h : k + 1 < o.length) : leftBy r o (k + 1) = (leftBy r o k).erase (o.getD (k + 1) 9) := by
  unfold leftBy
  have e : (o.drop 1).take (k + 1) = (o.drop 1).take k ++ [o.getD (k + 1) 9] := by
    rw [List.take_add_one]
    congr 1
    rw [List.getElem?_drop, Nat.add_comm 1 k, List.getElem?_eq_getElem h, List.getD_eq_getElem?_getD, List.getElem?_eq_getElem h]
    rfl
  rw [e, List.foldl_append]
  rfl

/-! ### lines -/
abbrev Line := List (Int × Int)
def arrs (L : Line) : List Int := L.map (·.1)
def days (L : Line) : List Int := L.map (·.2)
theorem arrs_len (L : Line) : (arrs L).length = L.length := List.length_map ..
theorem days_len (L : Line) : (days L).length = L.length := List.length_map ..
structure Good (L : Line) : Prop where
  len : L.length ≤ 5
  nd : (days L).Nodup
  val : ∀ x ∈ L, x.1 ≤ x.2
/-- M has the arrivals of L, its leaving days in another order, and nobody leaves ahead of their arrival -/
structure Lot (L M : Line) : Prop where
  arr : arrs M = arrs L
  perm : (days M).Perm (days L)
  val : ∀ x ∈ M, x.1 ≤ x.2
theorem Lot.refl {L : Line} (g : Good L) : Lot L L := ⟨rfl, List.Perm.refl _, g.val⟩
theorem Lot.symm {L M : Line} (g : Good L) (h : Lot L M) : Lot M L := ⟨h.arr.symm, h.perm.symm, g.val⟩
theorem Lot.len {L M : Line} (h : Lot L M) : M.length = L.length := by
  have e := congrArg List.length h.arr
  rwa [arrs_len, arrs_len] at e
theorem Lot.good {L M : Line} (g : Good L) (h : Lot L M) : Good M := ⟨by rw [h.len]; exact g.len, h.perm.nodup_iff.mpr g.nd, h.val⟩
theorem line_ext {M N : Line} (h1 : arrs M = arrs N) (h2 : days M = days N) : M = N := by
  have hl : M.length = N.length := by
    have e := congrArg List.length h1
    rwa [arrs_len, arrs_len] at e
  refine List.ext_getElem hl fun i a b => ?_
  have e1 : (arrs M)[i]? = (arrs N)[i]? := by rw [h1]
  have e2 : (days M)[i]? = (days N)[i]? := by rw [h2]
  unfold arrs at e1
  unfold days at e2
  rw [List.getElem?_map, List.getElem?_map, List.getElem?_eq_getElem a, List.getElem?_eq_getElem b] at e1 e2
  exact Prod.ext (Option.some.inj e1) (Option.some.inj e2)
/-- for each guest the place in one of the day that the guest has in other -/
def goals (one other : Line) : List Nat := (days other).map fun d => (days one).idxOf d
theorem goals_len (one other : Line) : (goals one other).length = other.length := by unfold goals; rw [List.length_map, days_len]
section
variable {L M N : Line}
theorem goals_isP (g : Good L) (h : Lot L M) : IsP L.length (goals L M) := by
  refine ⟨by rw [goals_len, h.len], fun x hx => ?_, ?_⟩
  · obtain ⟨d, hd, rfl⟩ := List.mem_map.mp hx
    have := List.idxOf_lt_length_of_mem (h.perm.mem_iff.mp hd)
    rwa [days_len] at this
  · unfold goals List.Nodup
    rw [List.pairwise_map]
    refine List.Pairwise.imp_of_mem (fun {a b} ha hb ne e => ne ?_) (h.perm.nodup_iff.mpr g.nd)
    have la := List.idxOf_lt_length_of_mem (h.perm.mem_iff.mp ha)
    have lb := List.idxOf_lt_length_of_mem (h.perm.mem_iff.mp hb)
    have ea := List.getElem_idxOf la
    have eb := List.getElem_idxOf lb
    rw [← ea, ← eb]
    congr 1
theorem goals_get {i : Nat} (hi : i < M.length) : (goals L M)[i]'(by rw [goals_len]; exact hi) = (days L).idxOf ((days M)[i]'(by rw [days_len]; exact hi)) := by
  unfold goals
  rw [List.getElem_map]
theorem goals_day (h : Lot L M) {i : Nat} (hi : i < M.length) : ∃ hk : (goals L M)[i]'(by rw [goals_len]; exact hi) < (days L).length, (days L)[(goals L M)[i]'(by rw [goals_len]; exact hi)] = (days M)[i]'(by rw [days_len]; exact hi) := by
  have hm : (days M)[i]'(by rw [days_len]; exact hi) ∈ days L := h.perm.mem_iff.mp (List.getElem_mem _)
  have hk := List.idxOf_lt_length_of_mem hm
  have e := goals_get (L := L) hi
  refine ⟨by rw [e]; exact hk, ?_⟩
  have := List.getElem_idxOf hk
  simp only [e]
  exact this
theorem goals_inj (h : Lot L M) (h' : Lot L N) (e : goals L M = goals L N) : M = N := by
  refine line_ext (h.arr.trans h'.arr.symm) ?_
  have hl : M.length = N.length := h.len.trans h'.len.symm
  refine List.ext_getElem (by rw [days_len, days_len]; exact hl) fun i a b => ?_
  rw [days_len] at a b
  obtain ⟨k1, e1⟩ := goals_day h a
  obtain ⟨k2, e2⟩ := goals_day h' b
  rw [← e1, ← e2]
  simp only [e]
theorem inv_goals (g : Good L) (h : Lot L M) : goals M L = inv (goals L M) := by
  have p := goals_isP g h
  refine List.ext_getElem (by rw [goals_len]; unfold inv; rw [List.length_map, List.length_range, goals_len]; exact h.len.symm) fun k a b => ?_
  rw [goals_len] at a
  rw [goals_get a]
  have ei : (inv (goals L M))[k] = (goals L M).idxOf k := by
    have z : (inv (goals L M))[k]? = some ((goals L M).idxOf k) := by
      unfold inv
      rw [List.getElem?_map, List.getElem?_range (by rw [goals_len, h.len]; exact a)]
      rfl
    rw [List.getElem?_eq_getElem b] at z
    exact Option.some.inj z
  rw [ei]
  have ha : k < (days L).length := by rw [days_len]; exact a
  have hm : (days L)[k] ∈ days M := h.perm.mem_iff.mpr (List.getElem_mem _)
  have hi := List.idxOf_lt_length_of_mem hm
  have hi' : (days M).idxOf (days L)[k] < M.length := by rw [← days_len]; exact hi
  have e1 := List.getElem_idxOf hi
  have e2 := goals_get (L := L) hi'
  rw [e1, g.nd.idxOf_getElem k ha] at e2
  have e3 := p.nd.idxOf_getElem ((days M).idxOf (days L)[k]) (by rw [goals_len]; exact hi')
  rw [e2] at e3
  exact e3.symm
theorem goals_self (g : Good L) : goals L L = List.range L.length := by
  refine List.ext_getElem (by rw [goals_len, List.length_range]) fun i a b => ?_
  rw [goals_len] at a
  rw [goals_get a, g.nd.idxOf_getElem i (by rw [days_len]; exact a), List.getElem_range]
theorem goals_id (g : Good L) (h : Lot L M) (e : goals L M = List.range L.length) : M = L := goals_inj h (Lot.refl g) (e.trans (goals_self g).symm)

/-! ### one exchange -/
def swapF (M : Line) (i j : Nat) : Line := (M.set i ((M.getD i (0, 0)).1, (M.getD j (0, 0)).2)).set j ((M.getD j (0, 0)).1, (M.getD i (0, 0)).2)
def meetF (x y : Int × Int) : Bool := decide (max x.1 y.1 ≤ min x.2 y.2)
theorem swapF_len (M : Line) (i j : Nat) : (swapF M i j).length = M.length := by unfold swapF; rw [List.length_set, List.length_set]
theorem arrs_swap {i j : Nat} (hi : i < M.length) (hj : j < M.length) : arrs (swapF M i j) = arrs M := by
  unfold arrs swapF
  rw [List.map_set, List.map_set]
  refine List.ext_getElem (by simp) fun k a b => ?_
  simp only [List.getElem_set, List.getElem_map, List.getD_eq_getElem?_getD, List.getElem?_eq_getElem hi, List.getElem?_eq_getElem hj, Option.getD_some]
  split
  · rename_i e; subst e; rfl
  · split
    · rename_i e; subst e; rfl
    · rfl
theorem days_swap {i j : Nat} (hi : i < M.length) (hj : j < M.length) : days (swapF M i j) = ((days M).set i ((days M)[j]'(by rw [days_len]; exact hj))).set j ((days M)[i]'(by rw [days_len]; exact hi)) := by
  unfold days swapF
  rw [List.map_set, List.map_set]
  simp only [List.getElem_map, List.getD_eq_getElem?_getD, List.getElem?_eq_getElem hi, List.getElem?_eq_getElem hj, Option.getD_some]
theorem goals_swap {i j : Nat} (hi : i < M.length) (hj : j < M.length) : goals L (swapF M i j) = swapP (goals L M) i j := by
  have hi' : i < (goals L M).length := by rw [goals_len]; exact hi
  have hj' : j < (goals L M).length := by rw [goals_len]; exact hj
  unfold swapP
  rw [List.getD_eq_getElem?_getD, List.getD_eq_getElem?_getD, List.getElem?_eq_getElem hi', List.getElem?_eq_getElem hj', Option.getD_some, Option.getD_some, goals_get hi, goals_get hj]
  unfold goals
  rw [days_swap hi hj, List.map_set, List.map_set]
theorem get_swap {i j k : Nat} (hi : i < M.length) (hj : j < M.length) (hk : k < M.length) : (swapF M i j)[k]'(by rw [swapF_len]; exact hk) = if k = j then (M[j].1, M[i].2) else if k = i then (M[i].1, M[j].2) else M[k] := by
  unfold swapF
  simp only [List.getElem_set, List.getD_eq_getElem?_getD, List.getElem?_eq_getElem hi, List.getElem?_eq_getElem hj, Option.getD_some]
  by_cases e : k = j
  · subst e; simp
  · rw [if_neg (fun z => e z.symm), if_neg e]
    by_cases e2 : k = i
    · subst e2; simp
    · rw [if_neg (fun z => e2 z.symm), if_neg e2]
theorem lot_swap (h : Lot L M) {i j : Nat} (hi : i < M.length) (hj : j < M.length) (hm : meetF M[i] M[j] = true) : Lot L (swapF M i j) := by
  refine ⟨(arrs_swap hi hj).trans h.arr, ?_, fun x hx => ?_⟩
  · rw [days_swap hi hj]
    exact (List.set_set_perm (by rw [days_len]; exact hi) (by rw [days_len]; exact hj)).trans h.perm
  · obtain ⟨k, hk, rfl⟩ := List.mem_iff_getElem.mp hx
    rw [swapF_len] at hk
    have m := of_decide_eq_true hm
    rw [get_swap hi hj hk]
    split
    · show M[j].1 ≤ M[i].2
      omega
    · split
      · show M[i].1 ≤ M[j].2
        omega
      · exact h.val _ (List.getElem_mem _)
theorem swap_swap {i j : Nat} (hi : i < M.length) (hj : j < M.length) (ne : i ≠ j) : swapF (swapF M i j) i j = M := by
  refine List.ext_getElem (by rw [swapF_len, swapF_len]) fun k a b => ?_
  have hi' : i < (swapF M i j).length := by rw [swapF_len]; exact hi
  have hj' : j < (swapF M i j).length := by rw [swapF_len]; exact hj
  rw [get_swap hi' hj' (by rw [swapF_len]; exact b), get_swap hi hj hi, get_swap hi hj hj, get_swap hi hj b]
  rw [if_pos rfl, if_neg ne, if_pos rfl]
  by_cases e : k = j
  · subst e; rw [if_pos rfl]
  · rw [if_neg e]
    by_cases e2 : k = i
    · subst e2; rw [if_pos rfl]
    · rw [if_neg e2, if_neg e, if_neg e2]
theorem meet_swap {i j : Nat} (hi : i < M.length) (hj : j < M.length) (ne : i ≠ j) (hm : meetF M[i] M[j] = true) :
    meetF ((swapF M i j)[i]'(by rw [swapF_len]; exact hi)) ((swapF M i j)[j]'(by rw [swapF_len]; exact hj)) = true := by
  rw [get_swap hi hj hi, get_swap hi hj hj, if_neg ne, if_pos rfl, if_pos rfl]
  have m := of_decide_eq_true hm
  refine decide_eq_true ?_
  show max M[i].1 M[j].1 ≤ min M[j].2 M[i].2
  omega
theorem meet_comm (x y : Int × Int) : meetF x y = meetF y x := by
  unfold meetF
  rw [Int.max_comm, Int.min_comm]

/-! ### distances -/
def dist (L M : Line) : Nat := dd (goals L M)
theorem dist_le (g : Good L) (h : Lot L M) : dist L M ≤ 4 := ((goals_isP g h).all g.len).2.2.2.2.1
theorem dist_back (g : Good L) (h : Lot L M) : dd (goals M L) = dist L M := by
  rw [inv_goals g h]
  exact ((goals_isP g h).all g.len).1
theorem dist_zero (g : Good L) (h : Lot L M) (e : dist L M = 0) : M = L := goals_id g h (((goals_isP g h).all g.len).2.2.2.2.2.2 e)
theorem dist_step (g : Good L) (h : Lot L M) {i j : Nat} (hi : i < j) (hj : j < M.length) : dist L (swapF M i j) = dist L M + 1 ∨ dist L M = dist L (swapF M i j) + 1 := by
  unfold dist
  rw [goals_swap (Nat.lt_trans hi hj) hj]
  exact (goals_isP g h).step g.len hi (by rw [← h.len]; exact hj)
theorem inv_get {n : Nat} {g : List Nat} (p : IsP n g) {k : Nat} (hk : k < n) : (inv g)[k]? = some (g.idxOf k) := by
  unfold inv
  rw [List.getElem?_map, List.getElem?_range (by rw [p.len]; exact hk)]
  rfl
theorem arr_get (h : Lot L M) {i : Nat} (hi : i < M.length) (hi' : i < L.length) : M[i].1 = L[i].1 := by
  have e : (arrs M)[i]? = (arrs L)[i]? := by rw [h.arr]
  unfold arrs at e
  rw [List.getElem?_map, List.getElem?_map, List.getElem?_eq_getElem hi, List.getElem?_eq_getElem hi'] at e
  exact Option.some.inj e
theorem day_get {i : Nat} (hi : i < M.length) : (days M)[i]'(by rw [days_len]; exact hi) = M[i].2 := by unfold days; rw [List.getElem_map]
/-- the last guest who differs, and the one who has the day -/
theorem last_near (g : Good L) (h : Lot L M) {a : Nat} (ha : a < L.length) (q : List Nat) (hq : q = goals M L) (ne : q.getD a 9 ≠ a) (hmax : ∀ b, (hb : b < L.length) → q.getD b 9 ≠ b → L[b].1 ≤ L[a].1) :
    ∃ hb : q.getD a 9 < M.length, meetF (M[a]'(by rw [h.len]; exact ha)) (M[q.getD a 9]) = true ∧ dist L (swapF M a (q.getD a 9)) + 1 = dist L M ∧ dist L (swapF M (q.getD a 9) a) + 1 = dist L M := by
  have p := goals_isP g h
  have hl := h.len
  have eq : q = inv (goals L M) := hq.trans (inv_goals g h)
  have qg : ∀ k, k < L.length → q.getD k 9 = (goals L M).idxOf k := fun k hk => by
    rw [List.getD_eq_getElem?_getD, eq, inv_get p hk]
    rfl
  have q2 : ∀ k, (hk : k < L.length) → q.getD k 9 = (days M).idxOf ((days L)[k]'(by rw [days_len]; exact hk)) := fun k hk => by
    rw [hq, List.getD_eq_getElem?_getD, List.getElem?_eq_getElem (by rw [goals_len]; exact hk), Option.getD_some, goals_get hk]
  have hmem : (days L)[a]'(by rw [days_len]; exact ha) ∈ days M := h.perm.mem_iff.mpr (List.getElem_mem _)
  have hb : q.getD a 9 < M.length := by
    rw [q2 a ha, ← days_len M]
    exact List.idxOf_lt_length_of_mem hmem
  have hbL : q.getD a 9 < L.length := by omega
  -- the partner's day is the wanted one
  have eday : M[q.getD a 9].2 = L[a].2 := by
    have e1 := List.getElem_idxOf (List.idxOf_lt_length_of_mem hmem)
    have z := q2 a ha
    rw [← day_get hb, ← day_get ha]
    refine Eq.trans ?_ e1
    congr 1
  -- the partner differs too
  have hb2 : q.getD (q.getD a 9) 9 ≠ q.getD a 9 := fun z => by
    have e1 := q2 _ hbL
    rw [z] at e1
    have hm2 : (days L)[q.getD a 9]'(by rw [days_len]; exact hbL) ∈ days M := h.perm.mem_iff.mpr (List.getElem_mem _)
    have e2 := List.getElem_idxOf (List.idxOf_lt_length_of_mem hm2)
    have e3 : M[q.getD a 9].2 = (days L)[q.getD a 9]'(by rw [days_len]; exact hbL) := by
      rw [← day_get hb]
      refine Eq.trans ?_ e2
      congr 1
    rw [eday, ← day_get ha] at e3
    have := (List.getElem_inj g.nd).mp e3
    exact ne this.symm
  have hle := hmax _ hbL hb2
  have hA : (goals L M).getD a 0 ≠ a := fun z => by
    have lt : a < (goals L M).length := by rw [goals_len]; omega
    rw [List.getD_eq_getElem?_getD, List.getElem?_eq_getElem lt, Option.getD_some] at z
    have e := p.nd.idxOf_getElem a lt
    rw [z] at e
    exact ne ((qg a ha).trans e)
  have n2 := p.near g.len ha hA
  rw [← qg a ha] at n2
  refine ⟨hb, decide_eq_true ?_, ?_, ?_⟩
  · have v1 : M[a].1 ≤ M[a].2 := h.val _ (List.getElem_mem _)
    have v2 : L[a].1 ≤ L[a].2 := g.val _ (List.getElem_mem _)
    have a1 : M[a].1 = L[a].1 := arr_get h (by omega) ha
    have a2 : M[q.getD a 9].1 = L[q.getD a 9].1 := arr_get h hb hbL
    rw [eday, a2]
    omega
  · unfold dist
    rw [goals_swap (by omega) hb]
    exact n2.1
  · unfold dist
    rw [goals_swap hb (by omega)]
    exact n2.2
/-- the greatest under a measure among those who have a property -/
theorem exists_max (p : Nat → Bool) (f : Nat → Int) : ∀ n : Nat, (∃ i, i < n ∧ p i = true) → ∃ i, i < n ∧ p i = true ∧ ∀ j, j < n → p j = true → f j ≤ f i
  | 0, ⟨_, h, _⟩ => absurd h (Nat.not_lt_zero _)
  | n + 1, ⟨i, hi, pi⟩ => by
    by_cases hp : p n = true
    · by_cases hx : ∃ i, i < n ∧ p i = true
      · obtain ⟨m, hm, pm, mx⟩ := exists_max p f n hx
        by_cases hf : f m ≤ f n
        · refine ⟨n, by omega, hp, fun j hj pj => ?_⟩
          by_cases e : j = n
          · subst e; exact Int.le_refl _
          · exact Int.le_trans (mx j (by omega) pj) hf
        · refine ⟨m, by omega, pm, fun j hj pj => ?_⟩
          by_cases e : j = n
          · subst e; omega
          · exact mx j (by omega) pj
      · refine ⟨n, by omega, hp, fun j hj pj => ?_⟩
        by_cases e : j = n
        · subst e; exact Int.le_refl _
        · exact absurd ⟨j, by omega, pj⟩ hx
    · have hin : i < n := by
        by_cases e : i = n
        · subst e; exact absurd pi hp
        · omega
      obtain ⟨m, hm, pm, mx⟩ := exists_max p f n ⟨i, hin, pi⟩
      refine ⟨m, by omega, pm, fun j hj pj => ?_⟩
      by_cases e : j = n
      · subst e; exact absurd pj hp
      · exact mx j (by omega) pj
/-- from every other line of the lot an exchange leads nearer -/
theorem closer (g : Good L) (h : Lot L M) (ne : M ≠ L) : ∃ i j, ∃ hi : i < M.length, ∃ hj : j < M.length, i < j ∧ meetF M[i] M[j] = true ∧ dist L (swapF M i j) + 1 = dist L M := by
  have hl := h.len
  have hx : ∃ i, i < L.length ∧ ((goals M L).getD i 9 != i) = true := by
    refine Classical.byContradiction fun no => ne ?_
    have e : goals M L = List.range L.length := by
      refine List.ext_getElem (by rw [goals_len, List.length_range]) fun i a b => ?_
      rw [goals_len] at a
      rw [List.getElem_range]
      refine Classical.byContradiction fun z => no ⟨i, a, ?_⟩
      rw [List.getD_eq_getElem?_getD, List.getElem?_eq_getElem (by rw [goals_len]; exact a), Option.getD_some]
      simpa using z
    have e2 : L = M := goals_id (h.good g) (h.symm g) (by rw [e, hl])
    exact e2.symm
  obtain ⟨a, ha, pa, mx⟩ := exists_max (fun i => (goals M L).getD i 9 != i) (fun i => (L.getD i (0, 0)).1) L.length hx
  have hmax : ∀ b, (hb : b < L.length) → (goals M L).getD b 9 ≠ b → L[b].1 ≤ L[a].1 := fun b hb nb => by
    have e := mx b hb (by simpa using nb)
    simpa only [List.getD_eq_getElem?_getD, List.getElem?_eq_getElem hb, List.getElem?_eq_getElem ha, Option.getD_some] using e
  have na : (goals M L).getD a 9 ≠ a := by simpa using pa
  obtain ⟨hb, m, d1, d2⟩ := last_near g h ha (goals M L) rfl na hmax
  by_cases hlt : a < (goals M L).getD a 9
  · exact ⟨a, _, by omega, hb, hlt, m, d1⟩
  · exact ⟨_, a, hb, by omega, by omega, by rw [meet_comm]; exact m, d2⟩
/-- back again: from a nearer one the exchange leads here -/
theorem from_closer (g : Good L) (h : Lot L M) {k : Nat} (e : dist L M = k + 1) : ∃ N i j, Lot L N ∧ dist L N = k ∧ ∃ hi : i < N.length, ∃ hj : j < N.length, i < j ∧ meetF N[i] N[j] = true ∧ swapF N i j = M := by
  have ne : M ≠ L := fun z => by
    subst z
    have e0 : dist M M = 0 := by
      have := (goals_isP g h).all g.len
      unfold dist
      have c := goals_self g
      have r := this.2.2.2.1
      rw [c] at r ⊢
      have s : still (List.range M.length) = M.length := by
        unfold still
        rw [List.length_range, List.filter_eq_self.mpr, List.length_range]
        intro a ha
        rw [List.getD_eq_getElem?_getD, List.getElem?_range (List.mem_range.mp ha)]
        simp
      omega
    omega
  obtain ⟨i, j, hi, hj, lt, m, d⟩ := closer g h ne
  refine ⟨swapF M i j, i, j, lot_swap h hi hj m, by omega, by rw [swapF_len]; exact hi, by rw [swapF_len]; exact hj, lt, meet_swap hi hj (by omega) m, swap_swap hi hj (by omega)⟩
theorem dist_self (g : Good L) : dist L L = 0 := by
  have h := Lot.refl g
  have r := ((goals_isP g h).all g.len).2.2.2.1
  unfold dist
  rw [goals_self g] at r ⊢
  have s : still (List.range L.length) = L.length := by
    unfold still
    rw [List.length_range, List.filter_eq_self.mpr, List.length_range]
    intro a ha
    rw [List.getD_eq_getElem?_getD, List.getElem?_range (List.mem_range.mp ha)]
    simp
  omega
end
end SW
end
section
set_option autoImplicit false
set_option linter.all false
namespace SW
section
variable {L M N : Line}
theorem still_eq (g : Good L) (h : Lot L M) : still (goals L M) = ((List.range L.length).filter fun i => decide (L.getD i (0, 0) = M.getD i (0, 0))).length := by
  unfold still
  rw [goals_len, h.len]
  congr 1
  refine List.filter_congr fun i hi => ?_
  have hL : i < L.length := List.mem_range.mp hi
  have hM : i < M.length := by rw [h.len]; exact hL
  have hg : i < (goals L M).length := by rw [goals_len]; exact hM
  rw [List.getD_eq_getElem?_getD, List.getD_eq_getElem?_getD, List.getD_eq_getElem?_getD, List.getElem?_eq_getElem hL, List.getElem?_eq_getElem hM, List.getElem?_eq_getElem hg, Option.getD_some, Option.getD_some, Option.getD_some, Bool.eq_iff_iff, beq_iff_eq, decide_eq_true_eq]
  have e := goals_get (L := L) hM
  constructor
  · intro z
    obtain ⟨hk, e2⟩ := goals_day h hM
    refine Prod.ext (arr_get h hM hL).symm ?_
    rw [← day_get hL, ← day_get hM, ← e2]
    congr 1
    exact z.symm
  · intro z
    rw [e, day_get hM, ← z, ← day_get hL]
    exact g.nd.idxOf_getElem i (by rw [days_len]; exact hL)
theorem law_count (g : Good L) (h : Lot L M) : (dist L M : Int) = (L.length : Int) - (loopsN (goals L M) : Int) - (((List.range L.length).filter fun i => decide (L.getD i (0, 0) = M.getD i (0, 0))).length : Int) := by
  have r := ((goals_isP g h).all g.len).2.2.2.1
  rw [still_eq g h] at r
  unfold dist
  omega
theorem nodup_len {α : Type} [DecidableEq α] : ∀ {l m : List α}, l.Nodup → (∀ x ∈ l, x ∈ m) → l.length ≤ m.length
  | [], m, _, _ => Nat.zero_le _
  | x :: r, m, nd, h => by
    obtain ⟨n1, n2⟩ := List.nodup_cons.mp nd
    have hx := h x List.mem_cons_self
    have ih := nodup_len (l := r) (m := m.erase x) n2 fun y hy => (List.mem_erase_of_ne fun e => n1 (by rw [← e]; exact hy)).mpr (h y (List.mem_cons_of_mem _ hy))
    have e := List.length_erase_of_mem hx
    have p : 0 < m.length := List.length_pos_of_mem hx
    rw [List.length_cons]
    omega
theorem nodup_map {α β : Type} {f : α → β} {l : List α} (nd : l.Nodup) (h : ∀ a ∈ l, ∀ b ∈ l, f a = f b → a = b) : (l.map f).Nodup := by
  unfold List.Nodup
  rw [List.pairwise_map]
  exact List.Pairwise.imp_of_mem (fun {a b} ha hb ne e => ne (h a ha b hb e)) nd
theorem pow_le5 : ∀ n : Nat, n ≤ 5 → n ^ n ≤ 3125 := by decide
theorem lot_count (g : Good L) {ks : List Line} (nd : ks.Nodup) (h : ∀ M ∈ ks, Lot L M) : ks.length ≤ 3125 := by
  have e := nodup_len (m := lists L.length L.length) (nodup_map (f := goals L) nd fun a ha b hb e => goals_inj (h a ha) (h b hb) e) fun x hx => by
    obtain ⟨M, hM, rfl⟩ := List.mem_map.mp hx
    have p := goals_isP g (h M hM)
    exact mem_lists _ _ _ p.len p.lt
  rw [List.length_map, lists_len] at e
  exact Nat.le_trans e (pow_le5 _ g.len)
end
end SW
end
section
set_option Elab.async false
set_option linter.all false
set_option maxRecDepth 100000
set_option maxHeartbeats 1000000
/-! Own rules over the hand layer: dicts whose keys are tuples of tuples, told as HO.ext. -/
namespace SW
open PySem PySem.Spec PyProof.Rows L2

/-! ### keys -/
mutual
/-- the value v is the key k, by the abstract heap -/
inductive KIs (H : Hp) : NestedKey → V → Prop
  | int (i : Int) : KIs H (.num i) (.int i)
  | tup {a : Addr} {ks : List NestedKey} {xs : List V} : H a = some (.tup xs) → KAll H ks xs → KIs H (.tup ks) (.ref a)
inductive KAll (H : Hp) : List NestedKey → List V → Prop
  | nil : KAll H [] []
  | cons {k : NestedKey} {v : V} {ks : List NestedKey} {vs : List V} : KIs H k v → KAll H ks vs → KAll H (k :: ks) (v :: vs)
end
/-- the tuples stay -/
def Tk (H H' : Hp) : Prop := ∀ b xs, H b = some (.tup xs) → H' b = some (.tup xs)
theorem Tk.refl (H : Hp) : Tk H H := fun _ _ h => h
theorem Tk.trans {H H1 H2 : Hp} (a : Tk H H1) (b : Tk H1 H2) : Tk H H2 := fun c xs h => b c xs (a c xs h)
theorem Tk.of {H H' : Hp} (s : Same H H') : Tk H H' := fun b xs h => s b _ h
theorem Tk.upd {H : Hp} {a : Addr} {o : HO} (h : ∀ xs, H a ≠ some (.tup xs)) : Tk H (upd H a o) := fun b xs e => by
  rw [upd_ne (fun z => h xs (by rw [← z]; exact e))]
  exact e
mutual
theorem KIs.at {H H' : Hp} (t : Tk H H') : ∀ (k : NestedKey) (v : V), KIs H k v → KIs H' k v
  | .none, _, x => by cases x
  | .num i, _, x => by cases x; exact .int i
  | .text _, _, x => by cases x
  | .tup ks, _, x => by
    cases x with
    | tup h1 h2 => exact .tup (t _ _ h1) (KAll.at t ks _ h2)
theorem KAll.at {H H' : Hp} (t : Tk H H') : ∀ (ks : List NestedKey) (vs : List V), KAll H ks vs → KAll H' ks vs
  | [], _, x => by cases x; exact .nil
  | k :: ks, _, x => by
    cases x with
    | cons h1 h2 => exact .cons (KIs.at t k _ h1) (KAll.at t ks _ h2)
end
mutual
theorem KIs.sound {P : Program} {w : World} {H : Hp} {h : Heap} (ok : HOk P w H h) : ∀ (k : NestedKey) (v : V) (u : Value), KIs H k v → RelV v u → NestedIs h k u
  | .none, _, _, x, _ => by cases x
  | .num i, _, _, x, r => by
    cases x
    obtain ⟨t, rfl⟩ := r
    exact .int i t
  | .text _, _, _, x, _ => by cases x
  | .tup ks, _, _, x, r => by
    cases x with
    | @tup a _ xs h1 h2 =>
      cases r
      obtain ⟨_, its, rv, o, e1, e2, n, e3⟩ := (show ObjOk P w H h a (.tup xs) from ok a _ h1)
      exact .tup e1 e2 e3 (by simpa using KAll.sound ok ks xs its h2 rv)
theorem KAll.sound {P : Program} {w : World} {H : Hp} {h : Heap} (ok : HOk P w H h) : ∀ (ks : List NestedKey) (vs : List V) (us : List Value), KAll H ks vs → Vals vs us → NestedAll h ks us
  | [], _, _, x, r => by cases x; cases r; exact .nil
  | k :: ks, _, _, x, r => by
    cases x with
    | cons h1 h2 =>
      cases r with
      | cons r1 r2 => exact .cons (KIs.sound ok k _ _ h1 r1) (KAll.sound ok ks _ _ h2 r2)
end

/-! ### a dict of such keys -/
/-- an entry: its key, where the key's tuple stands, its value -/
abbrev Ent := NestedKey × Addr × V
abbrev EntRel : Ent → NestedKey × Addr × Value → Prop := fun y x => y.1 = x.1 ∧ y.2.1 = x.2.1 ∧ RelV y.2.2 x.2.2
def NDx (P : Program) (w : World) (a : Addr) (ys : List Ent) (h : Heap) : Prop :=
  (a == sysModules) = false ∧ ys.length ≤ sizeLine ∧ ∃ xs : List (NestedKey × Addr × Value), Paired EntRel ys xs ∧
    ∃ o es ep, h.get? a = some o ∧ o.ExactDict ∧ o.data = .dict es ep ∧ es.toList = xs.map (entryOfKey (nestedKind P w)) ∧ (xs.map (·.1)).Nodup
theorem NDx.stay {P : Program} {w : World} {a : Addr} {ys : List Ent} {h h' : Heap} (x : NDx P w a ys h) (k : ∀ o, h.get? a = some o → h'.get? a = some o) : NDx P w a ys h' := by
  obtain ⟨z, l, xs, p, o, es, ep, e, r⟩ := x
  exact ⟨z, l, xs, p, o, es, ep, k _ e, r⟩
/-- what stands at the dict's address -/
def ND (P : Program) (w : World) (a : Addr) (ys : List Ent) : HO := .ext (NDx P w a ys)
theorem nd_ok {P : Program} {w : World} {H : Hp} {h : Heap} {a : Addr} {ys : List Ent} (x : NDx P w a ys h) : ObjOk P w H h a (ND P w a ys) :=
  ⟨x, let ⟨_, _, _, _, o, _, _, e, _⟩ := x; ⟨o, e⟩, fun _ _ y k => y.stay k⟩
/-- all keys are what they are said to be -/
def Keys (H : Hp) (ys : List Ent) : Prop := ∀ y ∈ ys, KIs H y.1 (.ref y.2.1) ∧ y.1.depth ≤ 8
theorem Keys.at {H H' : Hp} {ys : List Ent} (t : Tk H H') (k : Keys H ys) : Keys H' ys := fun y hy => ⟨KIs.at t _ _ (k y hy).1, (k y hy).2⟩
def atE (ys : List Ent) (k : NestedKey) : Option V := (ys.find? fun y => decide (y.1 = k)).map (·.2.2)
theorem paired_mem {α β : Type} {G : α → β → Prop} : ∀ {l : List α} {m : List β}, Paired G l m → ∀ b ∈ m, ∃ a ∈ l, G a b
  | _, _, .nil, b, hb => nomatch hb
  | _, _, .cons r t, b, hb => by
    rcases List.mem_cons.mp hb with rfl | hb
    · exact ⟨_, List.mem_cons_self, r⟩
    · obtain ⟨a, ha, g⟩ := paired_mem t b hb
      exact ⟨a, List.mem_cons_of_mem _ ha, g⟩
theorem atE_rel : ∀ {ys : List Ent} {xs : List (NestedKey × Addr × Value)}, Paired EntRel ys xs → ∀ k, RelO (atE ys k) ((atKey xs k).map (·.2))
  | _, _, .nil, _ => trivial
  | _, _, .cons (a := y) (b := x) r t, k => by
    obtain ⟨e1, e2, e3⟩ := r
    unfold atE atKey
    rw [List.find?_cons, List.find?_cons]
    by_cases h : y.1 = k
    · have h' : x.1 = k := e1.symm.trans h
      rw [decide_eq_true h, decide_eq_true h']
      exact e3
    · have h' : ¬ x.1 = k := fun z => h (e1.trans z)
      rw [decide_eq_false h, decide_eq_false h']
      exact atE_rel t k
section
variable {P : Program} {w : World} {H : Hp} {h : Heap} {a : Addr} {ys : List Ent}
theorem nd_of (ok : HOk P w H h) (e : Rd H a (ND P w a ys)) : NDx P w a ys h := by
  obtain ⟨x, _, _⟩ := (show ObjOk P w H h a (ND P w a ys) from e.ok ok)
  exact x
theorem nd_dict (ok : HOk P w H h) (x : NDx P w a ys h) (k : Keys H ys) : (a == sysModules) = false ∧ ys.length ≤ sizeLine ∧ ∃ xs, Paired EntRel ys xs ∧ h.DictOfH (nestedKind P w) a xs := by
  obtain ⟨z, l, xs, p, o, es, ep, e, h2, h3, h4, h5⟩ := x
  refine ⟨z, l, xs, p, o, es, ep, e, h2, h3, h4, fun x hx => ?_, h5⟩
  obtain ⟨y, hy, e1, e2, _⟩ := paired_mem p x hx
  obtain ⟨k1, k2⟩ := k y hy
  refine ⟨?_, by rw [← e1]; exact k2⟩
  rw [← e1, ← e2]
  exact KIs.sound ok _ _ _ k1 rfl
theorem ndx_of {xs : List (NestedKey × Addr × Value)} (z : (a == sysModules) = false) (l : ys.length ≤ sizeLine) (p : Paired EntRel ys xs) (d : h.DictOfH (nestedKind P w) a xs) : NDx P w a ys h := by
  obtain ⟨o, es, ep, h1, h2, h3, h4, _, h5⟩ := d
  exact ⟨z, l, xs, p, o, es, ep, h1, h2, h3, h4, h5⟩
end
/-- d[k] = v, the key's tuple at b -/
def putE (ys : List Ent) (k : NestedKey) (b : Addr) (v : V) : List Ent := if (atE ys k).isSome = true then ys.map (fun y => if y.1 = k then (y.1, y.2.1, v) else y) else ys ++ [(k, b, v)]
theorem putE_new {ys : List Ent} {k : NestedKey} {b : Addr} {v : V} (h : atE ys k = none) : putE ys k b v = ys ++ [(k, b, v)] := by
  unfold putE
  rw [h]
  exact if_neg (by decide)
theorem putE_rel {ys : List Ent} {xs : List (NestedKey × Addr × Value)} (p : Paired EntRel ys xs) (k : NestedKey) (b : Addr) {v : V} {u : Value} (r : RelV v u) : Paired EntRel (putE ys k b v) (storedH xs k b u) := by
  have e := (atE_rel p k).isSome_eq
  rw [Option.isSome_map] at e
  unfold putE storedH
  rw [e]
  by_cases q : (atKey xs k).isSome = true
  · rw [if_pos q, if_pos q]
    clear e q
    induction p with
    | nil => exact .nil
    | @cons y x ys xs h t ih =>
      rw [List.map_cons, List.map_cons]
      refine .cons ?_ ih
      obtain ⟨h1, h2, h3⟩ := h
      unfold putAt
      by_cases z : y.1 = k
      · rw [if_pos z, if_pos (h1.symm.trans z)]
        exact ⟨h1, h2, r⟩
      · rw [if_neg z, if_neg (fun q => z (h1.trans q))]
        exact ⟨h1, h2, h3⟩
  · rw [if_neg q, if_neg q]
    exact Paired.snoc p ⟨rfl, rfl, r⟩
theorem putE_len (ys : List Ent) (k : NestedKey) (b : Addr) (v : V) : (putE ys k b v).length ≤ ys.length + 1 := by
  unfold putE
  split
  · rw [List.length_map]; omega
  · rw [List.length_append, List.length_singleton]; omega

section
variable {X : Cx}
theorem room8 (hu : X.A.units + 64 < cLine) : (nestedKind X.prog X.w).room X.A.in1 := by
  show X.A.units + 1 + 8 < cLine
  omega
/-- b not in d -/
def rNotInN (P : Program) (w : World) : R2 := fun x y H Q => ∃ b d ys k, x = .ref b ∧ y = .ref d ∧ Rd H d (ND P w d ys) ∧ Keys H ys ∧ KIs H k (.ref b) ∧ k.depth ≤ 8 ∧ Q (.bl (!(atE ys k).isSome)) H
theorem op_notInN (hu : X.A.units + 64 < cLine) : OpR X (compareOp .NotIn) (rNotInN X.prog X.w) := by
  intro pins s σ H x y v u Q I rx ry h
  obtain ⟨b, d, ys, k, rfl, rfl, hd, hk, hb, h8, q⟩ := h
  cases rx
  cases ry
  obtain ⟨z, l, xs, p, dd⟩ := nd_dict I.hok (nd_of I.hok hd) hk
  have e := (atE_rel p k).isSome_eq
  rw [Option.isSome_map] at e
  refine wpAny_notIn_heap (room8 hu) ⟨KIs.sound I.hok _ _ _ hb rfl, h8⟩ z dd ?_
  rw [← e]
  exact ⟨.bl _, H, I.tok _, rfl, q⟩
/-- d[b], there -/
def rGetN (P : Program) (w : World) : R2 := fun x y H Q => ∃ d b ys k v, x = .ref d ∧ y = .ref b ∧ Rd H d (ND P w d ys) ∧ Keys H ys ∧ KIs H k (.ref b) ∧ k.depth ≤ 8 ∧ atE ys k = some v ∧ Q v H
def tGetN (P : Program) (w : World) (td ty : TE) : TE := tOp (rGetN P w) td ty
theorem pe_getN {o i : Expr} {pos : Pos} {td ty : TE} (hu : X.A.units + 64 < cLine) (ho : PE X o td) (hi : PE X i ty) (hs : NoSl i) : PE X (.Subscript o i pos) (tGetN X.prog X.w td ty) := by
  refine ⟨fun pins s σ H Q I h => ?_⟩
  refine subD_of PySem.F.slot_dict_getitem.lookup hs (thn (ho.run pins s σ H _ I h) fun u s1 ⟨x, H1, I1, rx, q1⟩ => thn (hi.run pins s1 σ H1 _ I1 q1) fun iv s2 ⟨y, H2, I2, ry, d, b, ys, k, v, ex, ey, hd, hk, hb, h8, hv, q2⟩ => ?_)
  subst ex ey
  obtain rfl : u = Value.ref d := rx
  obtain rfl : iv = Value.ref b := ry
  obtain ⟨z, l, xs, p, dd⟩ := nd_dict I2.hok (nd_of I2.hok hd) hk
  obtain ⟨w', hw, rw'⟩ := RelO.some_of (v := v) (o := (atKey xs k).map (·.2)) (by rw [← hv]; exact atE_rel p k)
  obtain ⟨pr, hp, hp2⟩ := Option.map_eq_some_iff.mp hw
  refine ⟨dd.typeIs, wpAny_getItem_heap (room8 hu) ⟨KIs.sound I2.hok _ _ _ hb rfl, h8⟩ dd hp ?_⟩
  rw [hp2]
  exact ⟨v, H2, I2.tok _, rw', q2⟩
/-- d[b] = v -/
def rSetN (P : Program) (w : World) : TSet := fun o i v H Q => ∃ d b ys k, o = .ref d ∧ i = .ref b ∧ H d = some (ND P w d ys) ∧ Keys H ys ∧ KIs H k (.ref b) ∧ k.depth ≤ 8 ∧ ys.length < sizeLine ∧ Q (upd H d (ND P w d (putE ys k b v)))
theorem set_dictN (hu : X.A.units + 64 < cLine) : PSet X (rSetN X.prog X.w) := by
  intro pins s σ H o i v ov iv u Q I ro ri rv h
  obtain ⟨d, b, ys, k, rfl, rfl, hd, hk, hb, h8, hl, q⟩ := h
  cases ro
  cases ri
  obtain ⟨z, l, xs, p, dd⟩ := nd_dict I.hok (nd_of I.hok (.inl hd)) hk
  have hz : xs.length ≤ sizeLine := by rw [← Paired.length p]; exact l
  have hl' : (putE ys k b v).length ≤ sizeLine := by have := putE_len ys k b v; omega
  refine wpAny_setItem_heap (hsz := hz) (room8 hu) ⟨KIs.sound I.hok _ _ _ hb rfl, h8⟩ dd fun h' dd' hs => ?_
  have he : ∃ q, h'.get? d = some q := let ⟨q, _, _, hq, _⟩ := dd'; ⟨q, hq⟩
  exact ⟨_, d_write I (by rw [hd]; exact True.intro) hs he (nd_ok (ndx_of z hl' (putE_rel p k b rv) dd')), q⟩
end
end SW
end
section
set_option Elab.async false
set_option linter.all false
set_option maxRecDepth 100000
set_option maxHeartbeats 1000000
/-! Lines in the heap; the display {line: v}; sorted of a dict of lines, of a tuple of ints. -/
namespace SW
open PySem PySem.Spec PyProof.Rows L2

/-! ### lines -/
abbrev PairAt (H : Hp) (p : Addr) (x : Int × Int) : Prop := H p = some (.tup [.int x.1, .int x.2])
abbrev PairsAt (H : Hp) : List Addr → Line → Prop := Paired (PairAt H)
def LineAt (H : Hp) (b : Addr) (L : Line) : Prop := ∃ ps : List Addr, H b = some (.tup (ps.map V.ref)) ∧ PairsAt H ps L
theorem PairsAt.at {H H' : Hp} (t : Tk H H') : ∀ {ps : List Addr} {L : Line}, PairsAt H ps L → PairsAt H' ps L
  | _, _, .nil => .nil
  | _, _, .cons r q => .cons (t _ _ r) (PairsAt.at t q)
theorem LineAt.at {H H' : Hp} {b : Addr} {L : Line} (t : Tk H H') (l : LineAt H b L) : LineAt H' b L := by
  obtain ⟨ps, e, p⟩ := l
  exact ⟨ps, t _ _ e, p.at t⟩
theorem LineAt.same {H H' : Hp} {b : Addr} {L : Line} (t : Same H H') (l : LineAt H b L) : LineAt H' b L := l.at (Tk.of t)
theorem PairsAt.get {H : Hp} : ∀ {ps : List Addr} {L : Line}, PairsAt H ps L → ∀ {i : Nat} (hi : i < L.length), ∃ p, ps[i]? = some p ∧ H p = some (.tup [.int L[i].1, .int L[i].2])
  | _, _, .cons r q, 0, _ => ⟨_, rfl, r⟩
  | _, _, .cons r q, i + 1, h => by
    obtain ⟨p, e, g⟩ := PairsAt.get q (i := i) (by simpa using h)
    exact ⟨p, by simpa using e, by simpa using g⟩
/-- the line's tuple, a pair of it -/
theorem LineAt.get {H : Hp} {b : Addr} {L : Line} (l : LineAt H b L) {i : Nat} (hi : i < L.length) : ∃ xs p, H b = some (.tup xs) ∧ xs.length = L.length ∧ xs[i]? = some (.ref p) ∧ H p = some (.tup [.int L[i].1, .int L[i].2]) := by
  obtain ⟨ps, e, q⟩ := l
  obtain ⟨p, e1, e2⟩ := q.get hi
  exact ⟨_, p, e, by rw [List.length_map]; exact Paired.length q, by rw [List.getElem?_map, e1]; rfl, e2⟩
theorem LineAt.tup {H : Hp} {b : Addr} {L : Line} (l : LineAt H b L) : ∃ ps : List Addr, H b = some (.tup (ps.map V.ref)) ∧ ps.length = L.length ∧ PairsAt H ps L := by
  obtain ⟨ps, e, q⟩ := l
  exact ⟨ps, e, Paired.length q, q⟩
theorem pairsAt_inj {H : Hp} : ∀ {ps : List Addr} {L M : Line}, PairsAt H ps L → PairsAt H ps M → L = M
  | _, _, _, .nil, .nil => rfl
  | _, _, _, .cons (b := x) r q, .cons (b := y) r' q' => by
    rw [pairsAt_inj q q']
    have r' := (show H _ = some (.tup [.int x.1, .int x.2]) from r).symm.trans (show H _ = some (.tup [.int y.1, .int y.2]) from r')
    injection r' with r'
    injection r' with r'
    injection r' with e1 e2
    injection e1 with e1
    injection e2 with e2 _
    injection e2 with e2
    rw [Prod.ext e1 e2]
theorem lineAt_inj {H : Hp} {b : Addr} {L M : Line} (l : LineAt H b L) (m : LineAt H b M) : L = M := by
  obtain ⟨ps, e, p⟩ := l
  obtain ⟨qs, e', q⟩ := m
  rw [e] at e'
  injection e' with e'
  injection e' with e'
  have : ps = qs := by
    have := congrArg (List.map fun v => match v with | V.ref a => a | _ => 0) e'
    simpa [List.map_map, Function.comp_def] using this
  subst this
  exact pairsAt_inj p q

def lineKey (L : Line) : NestedKey := .tup (L.map fun x => .tup [.num x.1, .num x.2])
def duoKey (i j : Int) : NestedKey := .tup [.num i, .num j]
theorem lineKey_inj : ∀ {L M : Line}, lineKey L = lineKey M → L = M
  | [], [], _ => rfl
  | [], _ :: _, e => by simp [lineKey] at e
  | _ :: _, [], e => by simp [lineKey] at e
  | x :: L, y :: M, e => by
    unfold lineKey at e
    injection e with e
    rw [List.map_cons, List.map_cons] at e
    injection e with e1 e2
    injection e1 with e1
    injection e1 with e3 e4
    injection e3 with e3
    injection e4 with e4 _
    injection e4 with e4
    have := lineKey_inj (L := L) (M := M) (by unfold lineKey; rw [e2])
    rw [this, Prod.ext e3 e4]
theorem duoKey_inj {i j i' j' : Int} (e : duoKey i j = duoKey i' j') : i = i' ∧ j = j' := by
  unfold duoKey at e
  injection e with e
  injection e with e1 e2
  injection e1 with e1
  injection e2 with e2 _
  injection e2 with e2
  exact ⟨e1, e2⟩
theorem pair_kis {H : Hp} {p : Addr} {i j : Int} (h : H p = some (.tup [.int i, .int j])) : KIs H (duoKey i j) (.ref p) := .tup h (.cons (.int i) (.cons (.int j) .nil))
theorem duo_depth (i j : Int) : (duoKey i j).depth ≤ 8 := by simp [duoKey, NestedKey.depth, NestedKey.depthAll]
theorem line_kall {H : Hp} : ∀ {ps : List Addr} {L : Line}, PairsAt H ps L → KAll H (L.map fun x => .tup [.num x.1, .num x.2]) (ps.map V.ref)
  | _, _, .nil => .nil
  | _, _, .cons r q => .cons (pair_kis r) (line_kall q)
theorem line_kis {H : Hp} {b : Addr} {L : Line} (l : LineAt H b L) : KIs H (lineKey L) (.ref b) := by
  obtain ⟨ps, e, q⟩ := l
  exact .tup e (line_kall q)
theorem line_depthAll : ∀ L : Line, NestedKey.depthAll (L.map fun x => .tup [.num x.1, .num x.2]) ≤ 1
  | [] => by simp [NestedKey.depthAll]
  | x :: L => by
    rw [List.map_cons, NestedKey.depthAll]
    have := line_depthAll L
    have h : (NestedKey.tup [.num x.1, .num x.2]).depth = 1 := by simp [NestedKey.depth, NestedKey.depthAll]
    omega
theorem line_depth (L : Line) : (lineKey L).depth ≤ 8 := by
  unfold lineKey
  rw [NestedKey.depth]
  have := line_depthAll L
  omega
/-- the line as data -/
def lineData (L : Line) : PyData := .tuple (L.map fun x => .tuple [.int x.1, .int x.2])
theorem pairs_dp {K : PySem.W.Frag} {H : Hp} : ∀ {ps : List Addr} {L : Line}, PairsAt H ps L → DpAll K H (ps.map V.ref) (L.map fun x => .tuple [.int x.1, .int x.2])
  | _, _, .nil => .nil
  | _, _, .cons r q => .cons (.tup (SqT.of r) (.cons (.int _) (.cons (.int _) .nil))) (pairs_dp q)
theorem line_dp {K : PySem.W.Frag} {H : Hp} {b : Addr} {L : Line} (l : LineAt H b L) : Dp K H (.ref b) (lineData L) := by
  obtain ⟨ps, e, q⟩ := l
  exact .tup (SqT.of e) (pairs_dp q)
theorem pair_dp {K : PySem.W.Frag} {H : Hp} {b : Addr} {x : Int × Int} (l : PairAt H b x) : Dp K H (.ref b) (.tuple [.int x.1, .int x.2]) := .tup (SqT.of l) (.cons (.int _) (.cons (.int _) .nil))
theorem depth_pairs : ∀ L : Line, PyData.depthAll (L.map fun x => .tuple [.int x.1, .int x.2]) ≤ 1
  | [] => by simp [PyData.depthAll]
  | x :: L => by
    rw [List.map_cons, PyData.depthAll]
    have := depth_pairs L
    have h : (PyData.tuple [.int x.1, .int x.2]).depth = 1 := by simp [PyData.depth, PyData.depthAll]
    omega
theorem depth_line (L : Line) : (lineData L).depth ≤ 2 := by
  unfold lineData
  rw [PyData.depth]
  have := depth_pairs L
  omega

theorem canLay_pairs : ∀ L : Line, PyData.canLayAll0 (L.map fun x => .tuple [.int x.1, .int x.2]) = true
  | [] => rfl
  | x :: L => by
    rw [List.map_cons]
    simp [PyData.canLayAll0, PyData.canLay0, canLay_pairs L]
theorem line_shaped (L : Line) : SeqAt.shaped (lineData L) = true := by
  unfold SeqAt.shaped
  have h := depth_line L
  rw [decide_eq_true (by omega), Bool.and_true]
  unfold lineData
  rw [PyData.canLay0]
  exact canLay_pairs L
theorem pair_shaped (x : Int × Int) : SeqAt.shaped (.tuple [.int x.1, .int x.2]) = true := by simp [SeqAt.shaped, PyData.canLay0, PyData.canLayAll0, PyData.depth, PyData.depthAll]
theorem eqv_pair (x y : Int × Int) : PyData.eqv (.tuple [.int x.1, .int x.2]) (.tuple [.int y.1, .int y.2]) = decide (x = y) := by
  rw [Bool.eq_iff_iff, decide_eq_true_eq]
  simp only [PyData.eqv, PyData.eqvAll, Bool.and_eq_true, Bool.and_true, beq_iff_eq]
  exact ⟨fun ⟨a, b⟩ => Prod.ext a b, fun e => by rw [e]; exact ⟨rfl, rfl⟩⟩
theorem eqv_pairs : ∀ L M : Line, PyData.eqvAll (L.map fun x => .tuple [.int x.1, .int x.2]) (M.map fun x => .tuple [.int x.1, .int x.2]) = decide (L = M)
  | [], [] => rfl
  | [], _ :: _ => by simp [PyData.eqvAll]
  | _ :: _, [] => by simp [PyData.eqvAll]
  | x :: L, y :: M => by
    rw [List.map_cons, List.map_cons, PyData.eqvAll, eqv_pair, eqv_pairs L M, Bool.eq_iff_iff]
    simp
theorem eqv_line (L M : Line) : PyData.eqv (lineData L) (lineData M) = decide (L = M) := by
  unfold lineData
  rw [PyData.eqv]
  exact eqv_pairs L M

/-! ### reading off the heap -/
section
variable {P : Program} {w : World} {H : Hp} {h : Heap}
theorem pair_reads (ok : HOk P w H h) {p : Addr} {x : Int × Int} (e : PairAt H p x) : Reads h (.ref p) (.tuple [.int x.1, .int x.2]) [] := by
  obtain ⟨_, its, rv, o, e1, e2, n, e3⟩ := (show ObjOk P w H h p (.tup [.int x.1, .int x.2]) from ok p _ e)
  obtain ⟨t, u, rfl⟩ := Vals.int2 rv
  exact .tuple e1 e2 e3 (.cons (.int _ _) (.cons (.int _ _) .nil))
theorem pairs_reads (ok : HOk P w H h) : ∀ {ps : List Addr} {L : Line}, PairsAt H ps L → ReadsAll h (ps.map Value.ref) (L.map fun x => .tuple [.int x.1, .int x.2]) []
  | _, _, .nil => .nil
  | _, _, .cons r q => .cons (as := []) (bs := []) (pair_reads ok r) (pairs_reads ok q)
theorem vals_refs' : ∀ {ps : List Addr} {us : List Value}, Vals (ps.map V.ref) us → us = ps.map Value.ref
  | [], _, r => by cases r; rfl
  | p :: ps, _, r => by
    rw [List.map_cons] at r
    cases r with
    | cons r1 r2 =>
      cases r1
      rw [vals_refs' r2, List.map_cons]
theorem line_reads (ok : HOk P w H h) {b : Addr} {L : Line} (l : LineAt H b L) : Reads h (.ref b) (lineData L) [] := by
  obtain ⟨ps, e, q⟩ := l
  obtain ⟨_, its, rv, o, e1, e2, n, e3⟩ := (show ObjOk P w H h b (.tup (ps.map V.ref)) from ok b _ e)
  have := vals_refs' rv
  subst this
  exact .tuple e1 e2 e3 (by simpa using pairs_reads ok q)
end
theorem alike_pairs : ∀ L M : Line, PySem.W.alikeAll (L.map fun x => .tuple [.int x.1, .int x.2]) (M.map fun x => .tuple [.int x.1, .int x.2]) = true
  | [], _ => by simp [PySem.W.alikeAll]
  | _ :: _, [] => by simp [PySem.W.alikeAll]
  | x :: L, y :: M => by
    rw [List.map_cons, List.map_cons, PySem.W.alikeAll, alike_pairs L M]
    simp [PySem.W.alike, PySem.W.alikeAll]
theorem alike_line (L M : Line) : PySem.W.alike (lineData L) (lineData M) = true := by
  unfold lineData
  rw [PySem.W.alike]
  exact alike_pairs L M
/-! ### {line: v} -/
section
variable {X : Cx}
theorem nd_empty {P : Program} {w : World} {H : Hp} (h : Heap) (hb : sysModules < h.objs.size) : ObjOk P w H (h.push { cls := .type "dict", data := .dict #[] }) h.objs.size (ND P w h.objs.size []) :=
  nd_ok ⟨beq_eq_false_iff_ne.mpr (Ne.symm (Nat.ne_of_lt hb)), Nat.zero_le _, [], .nil, _, #[], 0, Heap.get?_push_size _ rfl, ⟨rfl, rfl, rfl⟩, rfl, rfl, List.nodup_nil⟩
def tDisp1 (P : Program) (w : World) (tk tv : TE) : TE := fun σ H Q => ∀ d, H d = none → tPairs [(tk, tv)] σ (upd H d (ND P w d [])) fun ps H2 => ∃ x y, ps = [(x, y)] ∧ H2 d = some (ND P w d []) ∧ ∃ b k, x = .ref b ∧ KIs H2 k (.ref b) ∧ k.depth ≤ 8 ∧ Q (.ref d) (upd H2 d (ND P w d [(k, b, y)]))
theorem pe_disp1 {k v : Expr} {pos : Pos} {tk tv : TE} (hu : X.A.units + 64 < cLine) (hk : PE X k tk) (hv : PE X v tv) : PE X (.Dict [some k] [v] pos) (tDisp1 X.prog X.w tk tv) := by
  refine ⟨fun pins s σ H Q I h => ?_⟩
  have hn := I.hok.fresh (Nat.le_refl s.heap.objs.size)
  have I1 := I.laid (a := s.heap.objs.size) (o := ND X.prog X.w s.heap.objs.size []) (h' := s.heap.push { cls := .type "dict", data := .dict #[] }) (t' := s.toks) (fun _ _ q => Heap.get?_push_of_some _ q) (Nat.le_refl _) (nd_empty s.heap I.big)
  rw [arm_eval_Dict, zip_pairTrees [some k] [v] X.env pos rfl rfl, dictDisplay_pairs (pairTrees [some k] [v] X.env pos) (fun z => by cases z) (by show 1 < 17; decide)]
  refine wpAny_bind (wpAny_standAt (wpAny_bind (wpAny_subDictH (knd := nestedKind X.prog X.w) (Q := fun d s' => wpAny (model X.prog X.w) X.A (pure (Value.ref d)) (EP X pins σ Q) X.xe s') (by show X.A.units + 8 < cLine; omega) (by show 1 ≤ 15; decide)
    (thn ((pps_cons hk hv pps_nil).run pins _ σ _ _ I1 (h _ hn)) fun vs s1 ⟨ps, H2, I2, rel, x, y, ep, hd, b, key, ex, hb, h8, q⟩ => ?_))))
  subst ep
  subst ex
  cases rel with
  | @cons _ p2 _ rest r0 t0 =>
    cases t0
    obtain ⟨u1, u2⟩ := p2
    obtain ⟨r1, r2⟩ := r0
    have r1 : u1 = Value.ref b := r1
    subst r1
    obtain ⟨z, l, xs, p, dd⟩ := nd_dict I2.hok (nd_of I2.hok (.inl hd)) (fun y hy => nomatch hy)
    cases p
    refine ⟨[(key, b, u2)], ⟨rfl, rfl, ⟨KIs.sound I2.hok _ _ _ hb rfl, h8⟩, True.intro⟩, dd, fun h' tk d' hs => wpAny_pure ?_⟩
    have he : ∃ q, h'.get? s.heap.objs.size = some q := let ⟨q, _, _, hq, _⟩ := d'; ⟨q, hq⟩
    exact ⟨.ref s.heap.objs.size, _, d_write I2 (by rw [hd]; exact True.intro) hs he (nd_ok (ndx_of (ys := [(key, b, y)]) z (by show 1 ≤ sizeLine; decide) (.cons ⟨rfl, rfl, r2⟩ .nil) d')), rfl, q⟩
end
end SW
end
section
set_option Elab.async false
set_option linter.all false
set_option maxRecDepth 100000
set_option maxHeartbeats 1000000
/-! dict(pairs), d.values() walked, enumerate of a tuple, min and max of a tuple. -/
namespace SW
open PySem PySem.Spec PyProof.Rows L2

/-! ### d.values() -/
section
variable {X : Cx} {pins : List (Addr × Obj)} {σ : L2.St} {H : Hp} {s : Shared} {d : Addr} {o : Obj} {ys : List Ent}
theorem frzN (I : Inv X pins σ H s) (h : H d = some (.frz o (ND X.prog X.w d ys))) :
    (d == sysModules) = false ∧ s.heap.get? d = some o ∧ o.ExactDict ∧ ∃ (es : Array DictEntry) (ep : Nat), o.data = .dict es ep ∧ es.size = ys.length ∧
      ∀ (i : Nat) (hi : i < es.size) (y : Ent), ys[i]? = some y → RelV y.2.2 es[i].val := by
  obtain ⟨hd, x, _, _⟩ := (show ObjOk X.prog X.w H s.heap d (.frz o (ND X.prog X.w d ys)) from I.hok d _ h)
  obtain ⟨z, l, xs, p, o', es, ep, e, h2, h3, h4, h5⟩ := x
  rw [hd] at e
  cases e
  have l1 : es.size = xs.length := size_of_entries h4
  have l2 : ys.length = xs.length := Paired.length p
  refine ⟨z, hd, h2, es, ep, h3, by omega, fun i hi y hy => ?_⟩
  obtain ⟨x, hx, _, _, r⟩ := paired_get p hy
  have q := entry_at h4 i
  rw [hx, Array.getElem?_eq_getElem hi] at q
  have q' : es[i] = entryOfKey (nestedKind X.prog X.w) x := Option.some.inj q
  rw [q']
  exact r
end
def Itn (P : Program) (w : World) (d : Addr) (o : Obj) (ys : List Ent) : It :=
  ⟨fun i H => H d = some (.frz o (ND P w d ys)) ∧ i < ys.length, fun i H x H' => H' = H ∧ ∃ y, ys[i]? = some y ∧ x = y.2.2, fun i H => H d = some (.frz o (ND P w d ys)) ∧ ys.length ≤ i⟩
/-- a foot of one address: the heap may turn there -/
theorem one_foot {X : Cx} {pins : List (Addr × Obj)} {σ : L2.St} {H : Hp} {s : Shared} {g : Heap} {it : Addr} (I : Inv X pins σ H s) (ft : FpOk X pins H it) (kp : ∀ c u, c ≠ it → s.heap.get? c = some u → g.get? c = some u) : Inv X pins σ H { s with heap := g } :=
  I.turned (t' := s.toks) kp ft.1 ft.2.1 ft.2.2.2.1 ft.2.2.2.2.1 ft.2.2.2.2.2
theorem turn_valsN {P : Program} {w : World} {K : PySem.W.Frag} {tg : Expr} {d : Addr} {o : Obj} {ys : List Ent} {es : Array DictEntry} {ep : Nat} (it : Addr) (table : o.data = .dict es ep) :
    Turn P w K tg (Itn P w d o ys) [it] it (fun n g => g.IsValIter it d n ys.length ep) := by
  have here : it ∈ [it] := List.mem_singleton_self it
  refine ⟨here, fun n g walk c inFoot => ?_, fun n g g' walk kp => walk.at fun u => kp it here u, ?_, ?_, fun A n s Q E walk fin => wpAny_pyIter_valiter walk fin⟩
  · obtain ⟨u, at', _, fields⟩ := walk
    exact (List.mem_singleton.mp inFoot) ▸ ⟨u, at', fun v no => nomatch fields.symm.trans no⟩
  · rintro X rfl rfl rfl - n pins s σ H E I foot walk ⟨locked, more⟩
    obtain ⟨_, stands, exact', tab, stamp, told, count, vals⟩ := frzN I locked
    obtain ⟨rfl, rfl⟩ := dict_ep table told
    have inTab : n < tab.size := Nat.lt_of_lt_of_eq more count.symm
    rw [← count] at walk
    refine wpAny_pyNext_values_item_raw walk ⟨o, stands, exact', told⟩ inTab fun g walk' kept => ?_
    have I' := one_foot I (foot it here) fun c u far was => (kept.2 c far).trans was
    have ⟨u, at', kind, fields⟩ := walk'
    have nth : ys[n]? = some ys[n] := List.getElem?_eq_getElem more
    exact ⟨_, rfl, go_of (s := { s with heap := g }) at' kind fields (by decide) ⟨ys[n].2.2, H, I', vals n inTab _ nth, ⟨rfl, _, nth, rfl⟩, count ▸ walk', fun c inFoot => (foot c inFoot).1⟩⟩
  · rintro X rfl rfl rfl calm n pins s σ H E I foot walk ⟨locked, over⟩
    obtain ⟨_, stands, exact', tab, stamp, told, count, _⟩ := frzN I locked
    obtain ⟨rfl, rfl⟩ := dict_ep table told
    rw [← count] at walk
    exact wpAny_pyNext_values_end_raw (I.ok.hd calm) walk ⟨o, stands, exact', told⟩ (Nat.le_trans (Nat.le_of_eq count) over) fun g kept => ⟨rfl, one_foot I (foot it here) fun c u far was => kept c u far was⟩
def iValsN (P : Program) (w : World) (td : TE) : TI := fun σ H R => td σ H fun x H1 => ∃ d o ys, x = .ref d ∧ H1 d = some (.frz o (ND P w d ys)) ∧ R (Itn P w d o ys) H1
theorem pi_valuesN {X : Cx} {tg e : Expr} {td : TE} {apos cpos : Pos} (he : PE X e td) (hbase : attributeBase e "values" X.env (eval e X.env) = eval e X.env := by rfl) (hline : (apos.endLine == cpos.line) = true := by rfl) : PI X tg (.Call (.Attribute e "values" apos) [] [] cpos) (iValsN X.prog X.w td) := by
  constructor
  intro pins s σ H R I want
  refine wpAny_Call_method (T := "dict") (id := "dict.values") hbase rfl hline F.plainAttrs_dict F.slot_dict_values F.type_dict_values (thn (he.run pins s σ H _ I want) ?_)
  rintro v s' ⟨_, G, I', rel, d, o, ys, rfl, locked, rest⟩
  obtain rfl : v = .ref d := rel
  obtain ⟨notMods, stands, exact', tab, stamp, told, count, _⟩ := frzN I' locked
  have raw : s'.heap.DictRaw d tab stamp := ⟨o, stands, exact', told⟩
  refine ⟨raw.typeIs, fun c q => by cases q; exact ⟨o, stands, exact'.2.1⟩, ?_⟩
  refine method_meetsIn F.slot_dict_values F.entry_dict_values rfl (PySem.evalArgs_none ⟨rfl, raw.typeIs, F.args_dict_values_1 _, _, meets_dict_values_raw d notMods, ⟨tab, stamp, raw⟩, ?_⟩)
  -- the view is new; its iterator begins
  have old : ∀ c u, s'.heap.get? c = some u → (s'.heap.push { cls := .type "dict_values", data := .fields #[.ref d] }).get? c = some u := fun c u was => Heap.get?_push_of_some _ was
  refine wpAny_pyIter_values_raw (d := d) (es := tab) (ep := stamp) ⟨_, Heap.get?_push_size _ rfl, rfl, rfl⟩ (raw.at fun u => old d u) (pi_one (tk := s'.toks) (I'.kept (t' := s'.toks) old) _ (turn_valsN _ told) ⟨_, Heap.get?_push_size _ rfl, rfl, ?_⟩ rest)
  rw [count] <;> rfl
theorem lc_valsN {P : Program} {w : World} {d : Addr} {o : Obj} {ys : List Ent} : Walk (Itn P w d o ys) ys.length (fun H => H d = some (.frz o (ND P w d ys))) (fun i H x H' => H' = H ∧ ∃ y, ys[i]? = some y ∧ x = y.2.2) :=
  ⟨fun i H hi g => ⟨g, hi⟩, fun H g => ⟨g, Nat.le_refl _⟩, fun i H x H' _ _ y => y⟩

/-! ### dict(pairs) -/
/-- an item of the list: where the pair stands, the key, where the key stands, where the value stands -/
abbrev Item := Addr × NestedKey × Addr × Addr
def entOf (e : Item) : Ent := (e.2.1, e.2.2.1, .ref e.2.2.2)
def rDictP (K : PySem.W.Frag) (P : Program) (w : World) : List V → Hp → VK → Prop := fun vs H Q => ∃ (l : Addr) (es : List Item), vs = [.ref l] ∧ SqL K H l (es.map fun e => .ref e.1) ∧ (∀ e ∈ es, H e.1 = some (.tup [.ref e.2.2.1, .ref e.2.2.2])) ∧
  Keys H (es.map entOf) ∧ (es.map fun e => e.2.1).Nodup ∧ ∀ d, H d = none → Q (.ref d) (upd H d (ND P w d (es.map entOf)))
theorem ents_rel : ∀ es : List Item, Paired EntRel (es.map entOf) (es.map fun e => (e.2.1, e.2.2.1, Value.ref e.2.2.2))
  | [] => .nil
  | e :: es => .cons ⟨rfl, rfl, rfl⟩ (ents_rel es)
theorem call_dictN {X : Cx} (hc : X.calm = true) (hu : X.A.units + 64 < cLine) : CallR X (.type "dict") (rDictP X.K X.prog X.w) := by
  intro pins s σ H xs us Q I r h
  obtain ⟨l, es, rfl, hl, ht, hk, nd, q⟩ := h
  obtain ⟨u, rfl, ru⟩ := vals1 r
  obtain rfl : u = Value.ref l := ru
  obtain ⟨its, rv, ⟨ob, n, e1, e2, e3, e4⟩, hz⟩ := I.list hl
  rw [List.length_map] at hz
  have eits : its = (es.map fun e => e.1).map Value.ref := vals_refs' (by rw [List.map_map]; exact rv)
  let ps : List (Value × Value) := es.map fun e => (Value.ref e.2.2.1, Value.ref e.2.2.2)
  let Ts : Nat → Addr := fun j => (es.map fun e => e.1).getD j 0
  have pl : ps.length = es.length := List.length_map ..
  have hP := PairArg.list (prog := X.prog) (w := X.w) l its.toArray Ts ps
  have hpi : PySem.PairItems s.heap its.toArray Ts ps := by
    refine ⟨by rw [List.size_toArray, eits, pl, List.length_map, List.length_map], fun j k v hj => ?_⟩
    obtain ⟨e, he, ee⟩ := Option.map_eq_some_iff.mp (by rw [← List.getElem?_map]; exact hj : (es[j]?).map _ = some (k, v))
    cases ee
    have hTs : Ts j = e.1 := by
      show (es.map fun e => e.1).getD j 0 = e.1
      rw [List.getD_eq_getElem?_getD, List.getElem?_map, he]
      rfl
    refine ⟨?_, .inl ?_⟩
    · rw [hTs, List.getElem?_toArray, eits, List.getElem?_map, List.getElem?_map, he]
      rfl
    · rw [hTs]
      obtain ⟨_, its2, rv2, ob2, f1, f2, n2, f3⟩ := (show ObjOk X.prog X.w H s.heap e.1 (.tup [.ref e.2.2.1, .ref e.2.2.2]) from I.hok _ _ (ht e (List.mem_of_getElem? he)))
      have := vals_refs' (ps := [e.2.2.1, e.2.2.2]) rv2
      subst this
      exact ⟨ob2, f1, f2, n2, f3⟩
  let xs : List (NestedKey × Addr × Value) := es.map fun e => (e.2.1, e.2.2.1, Value.ref e.2.2.2)
  have hxs : PairsHaveH (nestedKind X.prog X.w) ps.length (PairRel ps) xs := by
    refine ⟨by rw [pl]; exact List.length_map .., fun i key v hi => ?_⟩
    obtain ⟨e, he, ee⟩ := Option.map_eq_some_iff.mp (by rw [← List.getElem?_map]; exact hi : (es[i]?).map _ = some (key, v))
    cases ee
    exact ⟨e.2.1, e.2.2.1, by show (es.map _)[i]? = _; rw [List.getElem?_map, he]; rfl, rfl⟩
  have isk : ∀ h' : Heap, (∀ b o vs m, s.heap.get? b = some o → o.data = .seq vs m → h'.get? b = some o) → ∀ x ∈ xs, (nestedKind X.prog X.w).is h' x.1 x.2.1 := fun h' kp x hx => by
    obtain ⟨e, he, rfl⟩ := List.mem_map.mp hx
    obtain ⟨k1, k2⟩ := hk (entOf e) (List.mem_map.mpr ⟨e, he, rfl⟩)
    exact ⟨NestedIs.at kp _ _ (KIs.sound I.hok _ _ _ k1 rfl), k2⟩
  refine call_dict_pairsH (knd := nestedKind X.prog X.w) hP (I.ok.hd hc) (by show X.A.units + 1 + 1 + 8 < cLine; omega) ⟨⟨ob, n, e1, e2, e3, e4⟩, hpi⟩ hxs (fun h' k => isk h' fun b o vs m e d => k b o (fun z => ?_) (fun z => nomatch z) e) (by rw [pl]; exact hz) fun h' tk hd' kp => ?_
  · subst z
    exact absurd (Heap.lt_size e) (Nat.lt_irrefl _)
  · have hnd : (xs.map (·.1)).Nodup := by
      show ((es.map fun e => (e.2.1, e.2.2.1, Value.ref e.2.2.2)).map (·.1)).Nodup
      rw [List.map_map]
      exact nd
    rw [storedAllH_nil_of_nodup xs hnd] at hd'
    have pr : Paired EntRel (es.map entOf) xs := ents_rel es
    have hlen : (es.map entOf).length ≤ sizeLine := by rw [List.length_map]; exact hz
    exact ⟨.ref s.heap.objs.size, upd H s.heap.objs.size (ND X.prog X.w s.heap.objs.size (es.map entOf)), I.laid (t' := tk) (fun b o e => kp b o (fun z => nomatch z) e) (Nat.le_refl _)
      (nd_ok (ndx_of (beq_eq_false_iff_ne.mpr (Ne.symm (Nat.ne_of_lt I.big))) hlen pr hd')), rfl, q _ (I.hok.fresh (Nat.le_refl _))⟩

/-! ### enumerate(tuple) -/
def IteT (K : PySem.W.Frag) (a : Addr) : It :=
  ⟨fun i H => ∃ (xs : List V) (x : V), SqT K H a xs ∧ xs[i]? = some x, fun i H v H' => ∃ T x, v = .ref T ∧ H T = none ∧ H' = upd H T (.tup [.int (i : Nat), x]) ∧ ∀ xs, SqT K H a xs → xs[i]? = some x, fun i H => ∃ xs : List V, SqT K H a xs ∧ xs.length = i⟩
/-- one step of it is a step of the library's walk of enumerate, from the count 0 -/
theorem turn_enumT {P : Program} {w : World} {K : PySem.W.Frag} {elts : List Expr} {kk : Nat} {tpos : Pos} (a e it : Addr) :
    Turn P w K (.Tuple elts kk tpos) (IteT K a) [e, it] e (fun n g => (∃ old, IsEnum g e it (0 + (n : Int)) old) ∧ g.IsTupleIter it a n ∧ e ≠ it) := by
  have far : ∀ {g : Heap} {n : Nat} {items : Array Value}, (∃ old, IsEnum g e it (0 + (n : Int)) old) → g.IsTupleIter it a n → g.IsTuple a items → a ≠ e ∧ a ≠ it := by
    rintro g n items ⟨old, en⟩ ⟨o1, q1, k1, _⟩ ⟨o2, q2, k2, _⟩
    constructor
    · rintro rfl
      rw [en] at q2
      cases q2
      exact absurd (Value.type.inj k2) (by decide)
    · rintro rfl
      rw [q1] at q2
      cases q2
      exact absurd (Value.type.inj (k1.symm.trans k2)) (by decide)
  refine ⟨List.mem_cons_self, fun n g walk c inFoot => ?_, fun n g g' walk kp => ?_, ?_, ?_, fun A n s Q E walk fin => let ⟨⟨_, en⟩, _⟩ := walk; wpAny_pyIter_enum en fin⟩
  · obtain ⟨⟨old, en⟩, ⟨o1, q1, _, fields⟩, _⟩ := walk
    rcases List.mem_cons.mp inFoot with rfl | inFoot
    · exact ⟨_, en, fun _ => nofun⟩
    · rw [List.mem_singleton.mp inFoot]
      exact ⟨o1, q1, fun v no => nomatch fields.symm.trans no⟩
  · obtain ⟨⟨old, en⟩, ti, sep⟩ := walk
    exact ⟨⟨old, kp e List.mem_cons_self _ en⟩, ti.at fun u => kp it (List.mem_cons_of_mem _ List.mem_cons_self) u, sep⟩
  · rintro X rfl rfl rfl calm n pins s σ H E I foot ⟨en, ti, sep⟩ ⟨xs, x, here, nth⟩
    obtain ⟨its, rel, tup, _⟩ := I.tuple here
    obtain ⟨u, hu, ru⟩ := rel.get nth
    have off := far en ti tup
    have W := WalksT.enumFrom (prog := X.prog) (w := X.w) (A := X.A) 0 (Draws.tuple (A := X.A.in1) (I.ok.hd calm) it a off.2 its.toArray) e sep (by simp [sep, off.1.symm]) (by simp)
    have inside : n < its.toArray.size := by simpa using (List.getElem?_eq_some_iff.mp hu).1
    refine W.item n s _ E inside ⟨en, ti, tup⟩ fun T vals g tk drawn new isT mid kept => ⟨.ref T, rfl, W.go elts kk tpos n T { s with heap := g, toks := tk } _ _ mid fun g' walk' kept' => ?_⟩
    obtain ⟨t, y, hy, rfl⟩ := drawn
    have hyu : y = u := by
      have : its.toArray[n]? = some u := by simpa using hu
      exact Option.some.inj (hy.symm.trans this)
    subst hyu
    have apart' := W.apart n T g mid
    have whole : ObjOk X.prog X.w (upd H T (.tup [.int (n : Nat), x])) g' T (.tup [.int (n : Nat), x]) :=
      ⟨by show 2 ≤ sizeLine; decide, [.int (0 + (n : Int)) t, y], .cons ⟨t, by rw [Int.zero_add]⟩ (.cons ru .nil), isT.at fun o q => kept' T o apart' q⟩
    refine ⟨.ref T, _, I.turnedNew (ch := [e, it]) (fun b o off' q => kept' b o off' (kept b o off' q)) foot new whole, rfl, ⟨T, x, rfl, I.hok.fresh new, rfl, fun ys there => by rw [I.tuple_inj there here]; exact nth⟩, ⟨walk'.1, walk'.2.1, sep⟩, fun b hb => ?_⟩
    have : b ≠ T := fun z => apart' (by rw [← z]; exact hb)
    rw [upd_ne this]
    exact (foot b hb).1
  · rintro X rfl rfl rfl calm n pins s σ H E I foot ⟨en, ti, sep⟩ ⟨xs, here, all⟩
    obtain ⟨its, rel, tup, _⟩ := I.tuple here
    have off := far en ti tup
    obtain ⟨old, en⟩ := en
    have last : its.toArray.size = n := by rw [List.size_toArray, ← rel.length, all]
    exact wpAny_pyNext_enum_endD (Draws.tuple (A := X.A.in1) (I.ok.hd calm) it a off.2 its.toArray) en (by rw [last]; exact ⟨ti, tup⟩) fun g kept => ⟨rfl, one_foot I (foot it (List.mem_cons_of_mem _ List.mem_cons_self)) fun c u off' was => kept c u off' was⟩
def iEnumT (K : PySem.W.Frag) (ta : TA) : TI := fun σ H R => ta σ H fun vs H1 => ∃ a xs, vs = [.ref a] ∧ SqT K H1 a xs ∧ R (IteT K a) H1
/-- enumerate(v), v told by how its iterator begins -/
theorem meets_enum1 {v : Value} {o : Obj} {Ready : Heap → Prop} (B : Begins v o Ready) : Meets (Builtin.«enumerate.__new__» ⟨[.type "enumerate", v], []⟩) (fun _ R s => Ready s.heap ∧ R (.ok (.ret (.ref (s.heap.push o).objs.size)))
    { s with heap := (s.heap.push o).push { cls := .type "enumerate", data := .fields #[.none, .bool false, .ref s.heap.objs.size, rawInt 0, .none, .none] } }) := by
  refine .of_wp fun prog w A R s ⟨ready, fin⟩ => ?_
  cases s with
  | mk hp g d tk os =>
    have start : ∀ {A' : Around} {E : Value → Shared → Prop} {Q : Value → Shared → Prop}, Q (.ref hp.objs.size) ⟨hp.push o, g, d, tk, os⟩ → wpAny (model prog w) A' (pyIter v) Q E ⟨hp, g, d, tk, os⟩ := fun q => B.iter _ _ _ _ ⟨hp, g, d, tk, os⟩ _ ready q
    have sub := sub_enumerate
    wp_walk using start
    refine wpAny_stack_any fun _ => wpAny_pure ?_
    split
    · rename_i c _ _ _ _ _
      cases (c == Value.type "enumerate") <;> (wp_walk using start; exact ⟨_, rfl, fin⟩)
    · wp_walk using start; exact ⟨_, rfl, fin⟩
theorem enum_one {prog : Program} {w : World} {A : Around} {E : Value → Shared → Prop} {s : Shared} {v : Value} {o : Obj} {Ready : Heap → Prop} {Q : Value → Shared → Prop} (B : Begins v o Ready) (ready : Ready s.heap)
    (fin : ∀ g : Heap, IsEnum g (s.heap.objs.size + 1) s.heap.objs.size 0 .none → g.get? s.heap.objs.size = some o → (∀ c u, s.heap.get? c = some u → g.get? c = some u) → Q (.ref (s.heap.objs.size + 1)) { s with heap := g }) :
    wpAny (model prog w) A (call (.type "enumerate") [v]) Q E s := by
  have size1 : (s.heap.push o).objs.size = s.heap.objs.size + 1 := Heap.size_push ..
  refine callType_new F.called_enumerate (by decide) (F.typeCall_enumerate_1 _) (F.newCall_enumerate_1 _) (fun ob => F.args_object_init_2 ob _) F.entry_enumerate_new (meets_enum1 B) ⟨ready, ?_⟩
  rw [size1]
  have en := Heap.get?_push_size (s.heap.push o) (o := { cls := .type "enumerate", data := .fields #[.none, .bool false, .ref s.heap.objs.size, rawInt 0, .none, .none] }) rfl
  rw [size1] at en
  exact ⟨⟨_, en, rfl⟩, fin _ en (Heap.get?_push_of_some _ (Heap.get?_push_size _ B.free)) fun c u was => Heap.get?_push_of_some _ (Heap.get?_push_of_some _ was)⟩
theorem pi_enumT {X : Cx} {e : Expr} {ta : TA} {p pos tpos : Pos} {elts : List Expr} {kk : Nat} (hg : Gl X "enumerate") (hm : X.mg "enumerate" = none) (ha : PA X [e] ta) (hs : starEach [e] X.env = [(false, eval e X.env)] := by rfl) :
    PI X (.Tuple elts kk tpos) (.Call (.Name "enumerate" p) [e] [] pos) (iEnumT X.K ta) := by
  constructor
  intro pins s σ H R I want
  refine Call_ (ld_blt I hg hm boot_enumerate (PyProof.Rows.callWith_type1 (thn (ha.run pos pins s σ H _ I want) ?_) hs rfl))
  rintro us s' ⟨_, G, I', rels, a, xs, rfl, here, rest⟩
  obtain ⟨v, rfl, rel⟩ := vals1 rels
  obtain rfl : v = .ref a := rel
  obtain ⟨its, _, tup, _⟩ := I'.tuple here
  refine enum_one (begins_tuple a its.toArray) tup fun g en begun kept => wpAny_pyIter_enum en ?_
  have low : ∀ c ∈ [s'.heap.objs.size + 1, s'.heap.objs.size], s'.heap.objs.size ≤ c := by simp
  exact ⟨_, _, _, _, G, rfl, I'.kept (t' := s'.toks) kept, turn_enumT a _ _, ⟨⟨.none, en⟩, ⟨_, begun, rfl, rfl⟩, Nat.succ_ne_self _⟩, fun c hc => I'.fpOk (low c hc) (I'.hok.fresh (low c hc)), rest⟩
end SW
end
section
set_option Elab.async false
set_option linter.all false
set_option maxRecDepth 100000
set_option maxHeartbeats 1000000
/-! sorted of a dict of lines, of a tuple of ints; min and max of a tuple of two; xs != []. -/
namespace SW
open PySem PySem.Spec PyProof.Rows L2

/-! ### sorted(d), d a dict whose keys are lines -/
theorem each_line {h : Heap} {P : Program} {w : World} {H : Hp} (ok : HOk P w H h) (a : Addr) : ∀ {es : List (Addr × Line)}, (∀ e ∈ es, LineAt H e.1 e.2) →
    PySem.W.EachIs (fun v (e : Addr × Line) => ∃ as, Reads h v (lineData e.2) as ∧ a ∉ as) (es.map fun e => Value.ref e.1) es
  | [], _ => .nil
  | e :: es, hl => .cons ⟨[], line_reads ok (hl e List.mem_cons_self), by simp⟩ (each_line ok a fun x hx => hl x (List.mem_cons_of_mem _ hx))
theorem each_ref : ∀ es : List (Addr × Line), PySem.W.EachIs (fun v (e : Addr × Line) => v = Value.ref e.1) (es.map fun e => Value.ref e.1) es
  | [] => .nil
  | _ :: es => .cons rfl (each_ref es)
theorem of_each_ref : ∀ {out : List Value} {es : List (Addr × Line)}, PySem.W.EachIs (fun v (e : Addr × Line) => v = Value.ref e.1) out es → out = es.map fun e => Value.ref e.1
  | _, _, .nil => rfl
  | _, _, .cons r t => by rw [r, of_each_ref t, List.map_cons]
/-- list.sort of a list of lines, which leaves some order of them -/
theorem sort_lines {P : Program} {w : World} {A : Around} {E : Value → Shared → Prop} {H : Hp} {s : Shared} {a : Addr} {n : Nat} {es : List (Addr × Line)} {Q : Value → Shared → Prop} (ok : HOk P w H s.heap)
    (ho : s.heap.get? a = some (PyProof.Rows.seqObj "list" (es.map fun e => Value.ref e.1).toArray n)) (hl : ∀ e ∈ es, LineAt H e.1 e.2) (hz : es.length ≤ sizeLine) (h2 : es.length < 2 ∨ ∀ e ∈ es, e.2 ≠ []) (hu : A.units + 8 < cLine)
    (h : ∀ zs : List Addr, zs.Perm (es.map fun e => e.1) → Q .none { s with heap := PyProof.Rows.sortedHeap s.heap a (es.map fun e => Value.ref e.1) (zs.map Value.ref).toArray }) :
    wpAny (model P w) A (call (.builtin "list.sort") [.ref a]) Q E s := by
  rcases h2 with h2 | h2
  · refine wpAny_call_entry PyProof.Rows.slot_list_sort ⟨_, ho, rfl⟩ PyProof.Rows.entry_list_sort
      (Srt.list_sort_any ho (by rw [List.length_map]; exact hz) (fun z => absurd z (by rw [List.length_map]; omega)) fun out hp => ⟨.none, rfl, ?_⟩) (PyProof.Rows.args_list_sort _)
    obtain ⟨zs, hzs, e⟩ : ∃ zs : List Addr, zs.Perm (es.map fun e => e.1) ∧ out = zs.map Value.ref := by
      cases es with
      | nil => exact ⟨[], List.Perm.refl _, hp.eq_nil⟩
      | cons x r =>
        cases r with
        | nil => exact ⟨[x.1], List.Perm.refl _, List.perm_singleton.mp hp⟩
        | cons y r => simp at h2; omega
    rw [e]
    exact h zs hzs
  · refine PySem.W.list_sort_data (bs := es) (enc := fun e => lineData e.2) (R := fun v (e : Addr × Line) => v = Value.ref e.1) ho (each_ref es) (each_line ok a hl) (PySem.W.AllAlike.of fun x y => alike_line x.2 y.2) ?_ hz (fun b hb => by have := depth_line b.2; omega) fun out _ hout => ?_
    · refine .inl fun d hd => ?_
      obtain ⟨e, he, rfl⟩ := List.mem_map.mp hd
      have ne := h2 e he
      cases hL : e.2 with
      | nil => exact absurd hL ne
      | cons x r => exact ⟨_, _, by unfold lineData; rw [List.map_cons]⟩
    · rw [of_each_ref hout]
      have := h ((es.mergeSort (PySem.W.dataLe false fun e => lineData e.2)).map fun e => e.1) ((List.mergeSort_perm _ _).map _)
      rw [List.map_map] at this
      exact this
def rSortLn (P : Program) (w : World) : List V → Hp → VK → Prop := fun vs H Q => ∃ (d : Addr) (ys : List Ent) (f : Ent → Line), vs = [.ref d] ∧ Rd H d (ND P w d ys) ∧ (∀ y ∈ ys, LineAt H y.2.1 (f y)) ∧ (ys.length < 2 ∨ ∀ y ∈ ys, f y ≠ []) ∧
  ∀ (zs : List Addr) (p : Addr), zs.Perm (ys.map fun y => y.2.1) → H p = none → Q (.ref p) (upd H p (.lst (zs.map V.ref)))
theorem cr_sortLn {X : Cx} (hc : X.calm = true) (hu : X.A.units + 64 < cLine) : CallR X (.builtin "sorted") (rSortLn X.prog X.w) := by
  intro pins s σ H xs us Q I r h
  obtain ⟨d, ys, f, rfl, hd, hf, h2, q⟩ := h
  obtain ⟨u, rfl, ru⟩ := vals1 r
  obtain rfl : u = Value.ref d := ru
  obtain ⟨z, l, xs, p, o, es, ep, e1, e2, e3, e4, e5⟩ := nd_of I.hok hd
  have l1 : es.size = xs.length := size_of_entries e4
  have l2 : ys.length = xs.length := Paired.length p
  refine Calls.call_function_entry PyProof.Rows.kind_sorted PyProof.Rows.plain_sorted PyProof.Rows.entry_sorted (PyProof.Rows.args_sorted1 _) ?_
  unfold Builtin.«sorted»
  refine wpAny_bind (m := checkCount "sorted" 1 1 _) (wpAny_pure ?_)
  refine wpAny_bind (PySem.W.kdu_collect (A := X.A.in1) (KdlSrc.rawDict (es := es) (ep := ep) z) (I.ok.hd hc) ⟨o, e1, e2, e3⟩ (by omega) fun h' tk acc hk hacc => ?_)
  let ls : List (Addr × Line) := ys.map fun y => (y.2.1, f y)
  have ea : acc.toList = ls.map fun e => Value.ref e.1 := by
    apply List.ext_getElem?
    intro j
    show _ = ((ys.map fun y => (y.2.1, f y)).map fun e => Value.ref e.1)[j]?
    rw [List.map_map, List.getElem?_map]
    have hal : acc.toList.length = ys.length := by rw [Array.length_toList, hacc.1]; omega
    cases hj : acc.toList[j]? with
    | none =>
      have h1 := List.getElem?_eq_none_iff.mp hj
      rw [List.getElem?_eq_none (by omega)]
      rfl
    | some v =>
      obtain ⟨hi, hv⟩ := hacc.2 j v (by rw [← Array.getElem?_toList]; exact hj)
      have hjy : j < ys.length := by omega
      obtain ⟨x, hx, _, r2, _⟩ := paired_get p (List.getElem?_eq_getElem hjy)
      have qe := entry_at e4 j
      rw [hx, Array.getElem?_eq_getElem hi] at qe
      have q' : es[j] = entryOfKey (nestedKind X.prog X.w) x := Option.some.inj qe
      rw [hv, q', List.getElem?_eq_getElem hjy]
      show some (Value.ref x.2.1) = some (Value.ref ys[j].2.1)
      rw [r2]
  have I1 : Inv X pins σ H { s with heap := h', toks := tk } := I.kept hk
  have hlz : ls.length = ys.length := List.length_map ..
  rw [ea]
  refine wpAny_bind (wpAny_newList ?_ (by rw [List.length_map]; omega))
  have hoL : (h'.push (PyProof.Rows.seqObj "list" (ls.map fun e => Value.ref e.1).toArray 0)).get? h'.objs.size = some (PyProof.Rows.seqObj "list" (ls.map fun e => Value.ref e.1).toArray 0) := Heap.get?_push_size _ rfl
  show wpAny _ _ _ _ _ { s with heap := h'.push (PyProof.Rows.seqObj "list" (ls.map fun e => Value.ref e.1).toArray 0), toks := tk }
  have I2 : Inv X pins σ H { s with heap := h'.push (PyProof.Rows.seqObj "list" (ls.map fun e => Value.ref e.1).toArray 0), toks := tk } := I1.kept (t' := tk) fun b ob e => Heap.get?_push_of_some _ e
  refine wpAny_bind (wpAny_holding (sort_lines (s := { s with heap := h'.push (PyProof.Rows.seqObj "list" (ls.map fun e => Value.ref e.1).toArray 0), toks := tk }) I2.hok hoL (fun e he => ?_) (by omega) ?_ (by show X.A.units + 1 + 8 < cLine; omega) fun zs hzs => ?_))
  · obtain ⟨y, hy, rfl⟩ := List.mem_map.mp he
    exact hf y hy
  · rcases h2 with h2 | h2
    · exact .inl (by omega)
    · refine .inr fun e he => ?_
      obtain ⟨y, hy, rfl⟩ := List.mem_map.mp he
      exact h2 y hy
  · obtain ⟨e', he'⟩ := PyProof.Rows.sortedHeap_at (vs := ls.map fun e => Value.ref e.1) (out := (zs.map Value.ref).toArray) hoL
    have hzl : zs.length = ys.length := by rw [hzs.length_eq, List.length_map]; exact hlz
    have hlen : (zs.map V.ref).length ≤ sizeLine := by rw [List.length_map]; omega
    have hperm : zs.Perm (ys.map fun y => y.2.1) := by
      have : (ls.map fun e => e.1) = ys.map fun y => y.2.1 := by
        show (ys.map fun y => (y.2.1, f y)).map (fun e => e.1) = _
        rw [List.map_map]
        rfl
      rw [← this]
      exact hzs
    refine wpAny_pure ⟨_, rfl, .ref h'.objs.size, upd H h'.objs.size (.lst (zs.map V.ref)), I1.laid (t' := tk) (fun b u e => ?_) (Nat.le_refl _)
      (show ObjOk X.prog X.w _ _ _ (.lst (zs.map V.ref)) from ⟨hlen, zs.map Value.ref, e', vals_refs zs, he'⟩), rfl, q zs _ hperm (I1.hok.fresh (Nat.le_refl _))⟩
    have hb : b < h'.objs.size := Heap.lt_size e
    rw [PyProof.Rows.sortedHeap_old (Nat.ne_of_lt hb) (by rw [size_push']; exact Nat.lt_succ_of_lt hb)]
    exact Heap.get?_push_of_some _ e

/-! ### sorted(t), t a tuple of ints -/
def rSortTup (K : PySem.W.Frag) : List V → Hp → VK → Prop := fun vs H Q => ∃ (a : Addr) (ns : List Int), vs = [V.ref a] ∧ SqT K H a (ns.map V.int) ∧ ns.length < 64 ∧
  ∀ (ns' : List Int) (p : Addr), ns'.Perm ns → ns'.Pairwise (· ≤ ·) → H p = none → Q (.ref p) (upd H p (.lst (ns'.map V.int)))
theorem cr_sortTup {X : Cx} : CallR X (.builtin "sorted") (rSortTup X.K) := by
  intro pins s σ H xs us Q I r h
  obtain ⟨a, ns, rfl, ha, h64, q⟩ := h
  obtain ⟨u, rfl, ru⟩ := vals1 r
  obtain rfl : u = Value.ref a := ru
  obtain ⟨its, rv, ⟨o, e1, e2, n, e3⟩, hz⟩ := I.tuple ha
  have hi := rv.ints
  have hlen := hi.length
  refine Calls.call_function_entry PyProof.Rows.kind_sorted PyProof.Rows.plain_sorted PyProof.Rows.entry_sorted (PyProof.Rows.args_sorted1 _) ?_
  unfold Builtin.«sorted»
  refine wpAny_bind (m := checkCount "sorted" 1 1 _) (wpAny_pure ?_)
  refine wpAny_bind (wpAny_collect_seq a (.inr rfl) e1 e2 e3 (fun h' hk => ?_) (by rw [List.size_toArray, sizeLine_eq]; omega))
  have I1 : Inv X pins σ H { s with heap := h' } := I.kept (t' := s.toks) hk
  have eL : its.toArray.toList = its := rfl
  rw [eL]
  refine wpAny_bind (wpAny_newList ?_ (by rw [sizeLine_eq]; omega))
  have hoL : (h'.push (PyProof.Rows.seqObj "list" its.toArray 0)).get? h'.objs.size = some (PyProof.Rows.seqObj "list" its.toArray 0) := Heap.get?_push_size _ rfl
  show wpAny _ _ _ _ _ { s with heap := h'.push (PyProof.Rows.seqObj "list" its.toArray 0) }
  refine wpAny_bind (wpAny_holding (wpAny_call_entry PyProof.Rows.slot_list_sort ⟨_, hoL, rfl⟩ PyProof.Rows.entry_list_sort
    (PyProof.Rows.list_sort_tree (s := { s with heap := h'.push (PyProof.Rows.seqObj "list" its.toArray 0) }) hoL hi (by omega) fun out zs g1 g2 g3 => ⟨_, rfl, ?_⟩) (PyProof.Rows.args_list_sort _)))
  obtain ⟨e', he'⟩ := PyProof.Rows.sortedHeap_at (vs := its) (out := out) hoL
  have hlen2 : (zs.map V.int).length ≤ sizeLine := by
    rw [List.length_map, g2.length_eq]
    exact Nat.le_trans (Nat.le_of_lt h64) (by decide)
  refine wpAny_pure ⟨_, rfl, .ref h'.objs.size, upd H h'.objs.size (.lst (zs.map V.int)), I1.laid (t' := s.toks) (fun b u e => ?_) (Nat.le_refl _)
    (show ObjOk X.prog X.w _ _ _ (.lst (zs.map V.int)) from ⟨hlen2, out.toList, e', vals_of_ints g1, by rw [Array.toArray_toList]; exact he'⟩), rfl, q zs _ g2 g3 (I1.hok.fresh (Nat.le_refl _))⟩
  have hb : b < h'.objs.size := Heap.lt_size e
  rw [PyProof.Rows.sortedHeap_old (Nat.ne_of_lt hb) (by rw [size_push']; exact Nat.lt_succ_of_lt hb)]
  exact Heap.get?_push_of_some _ e
theorem sorted_same {a b c : List Int} (p : a.Perm c) (q : b.Perm c) (ha : a.Pairwise (· ≤ ·)) (hb : b.Pairwise (· ≤ ·)) : a = b :=
  List.Perm.eq_of_pairwise (le := (· ≤ ·)) (fun _ _ _ _ h1 h2 => Int.le_antisymm h1 h2) ha hb (p.trans q.symm)

/-! ### min(t), max(t), t a tuple of two ints -/
def rExt (K : PySem.W.Frag) (g : Int → Int → Int) : List V → Hp → VK → Prop := fun vs H Q => ∃ (a : Addr) (i j : Int), vs = [V.ref a] ∧ SqT K H a [.int i, .int j] ∧ Q (.int (g i j)) H
theorem cr_minT {X : Cx} (hc : X.calm = true) (hu : X.A.units + 64 < cLine) : CallR X (.builtin "min") (rExt X.K fun i j => if j < i then j else i) := by
  intro pins s σ H xs us Q I r h
  obtain ⟨a, i, j, rfl, ha, q⟩ := h
  obtain ⟨u, rfl, ru⟩ := vals1 r
  obtain rfl : u = Value.ref a := ru
  obtain ⟨its, rv, p, hz⟩ := I.tuple ha
  obtain ⟨t, t', rfl⟩ := Vals.int2 rv
  refine PySem.W.min_tuple_datum (x := i) (xs := [j]) (I.ok.hd hc) p ⟨_, .cons (.int _ _) (.cons (.int _ _) .nil)⟩ (by show X.A.units + 1 + 0 < cLine; omega) fun k v h' tk hv hh hk => ?_
  obtain ⟨as, rd⟩ := hh
  have e : PySem.W.minOf i [j] = if j < i then j else i := by
    show (if decide (j < i) = true then j else i) = _
    by_cases z : j < i
    · rw [if_pos z, if_pos (decide_eq_true z)]
    · rw [if_neg z, if_neg (by rw [decide_eq_false z]; decide)]
  rw [e] at rd
  have rd' : Reads h' v (.int (if j < i then j else i)) as := rd
  cases rd' with
  | int _ t2 => exact ⟨.int _, H, I.kept hk, ⟨_, rfl⟩, q⟩
theorem cr_maxT {X : Cx} (hc : X.calm = true) (hu : X.A.units + 64 < cLine) : CallR X (.builtin "max") (rExt X.K fun i j => if i < j then j else i) := by
  intro pins s σ H xs us Q I r h
  obtain ⟨a, i, j, rfl, ha, q⟩ := h
  obtain ⟨u, rfl, ru⟩ := vals1 r
  obtain rfl : u = Value.ref a := ru
  obtain ⟨its, rv, p, hz⟩ := I.tuple ha
  obtain ⟨t, t', rfl⟩ := Vals.int2 rv
  refine PySem.W.max_tuple_datum (x := i) (xs := [j]) (I.ok.hd hc) p ⟨_, .cons (.int _ _) (.cons (.int _ _) .nil)⟩ (by show X.A.units + 1 + 0 < cLine; omega) fun k v h' tk hv hh hk => ?_
  obtain ⟨as, rd⟩ := hh
  have e : PySem.W.maxOf i [j] = if i < j then j else i := by
    show (if decide (i < j) = true then j else i) = _
    by_cases z : i < j
    · rw [if_pos z, if_pos (decide_eq_true z)]
    · rw [if_neg z, if_neg (by rw [decide_eq_false z]; decide)]
  rw [e] at rd
  have rd' : Reads h' v (.int (if i < j then j else i)) as := rd
  cases rd' with
  | int _ t2 => exact ⟨.int _, H, I.kept hk, ⟨_, rfl⟩, q⟩
end SW
end
section
set_option Elab.async false
set_option linter.all false
set_option maxRecDepth 100000
set_option maxHeartbeats 1000000
/-! Comprehensions by what they gather; xs != []; == of lines, pairs, lists of ints. -/
namespace SW
open PySem PySem.Spec PyProof.Rows L2

theorem same_upd {H : Hp} {p : Addr} {o : HO} (h : H p = none) : Same H (upd H p o) := fun b x e => by
  rw [upd_ne (ne_of_none e h)]
  exact e
/-- an object that H does not know may change -/
theorem same_mut {H H' : Hp} {p : Addr} {o : HO} (e : Same H H') (h : H p = none) : Same H (upd H' p o) := fun a u ha => by
  rw [upd_ne (ne_of_none ha h)]
  exact e a u ha
theorem tk_lst {H : Hp} {p : Addr} {xs ys : List V} (h : H p = some (.lst xs)) : Tk H (upd H p (.lst ys)) := Tk.upd fun zs z => by rw [h] at z; cases z
theorem walk_enumT {K : PySem.W.Frag} {a : Addr} {xs : List V} : Walk (IteT K a) xs.length (fun H => SqT K H a xs) (YPair (fun i => some (.int (i : Nat))) (fun i => xs[i]?)) := by
  refine ⟨fun i _ hi q => ⟨xs, xs[i], q, by simp [hi]⟩, fun _ q => ⟨xs, q, rfl⟩, fun i H v H' _ q y => ?_⟩
  obtain ⟨T, x, h1, h2, h3, h4⟩ := y
  exact ⟨T, .int (i : Nat), x, h1, h2, h3, rfl, h4 xs q⟩

section
variable {J : It} {n : Nat} {G : Hp → Prop} {Y : Nat → Hp → V → Hp → Prop}
/-- a comprehension that gathers: B i acc H, after i turns acc is gathered; told of tuples alone -/
theorem lc_acc (w : Walk J n G Y) {g : TG} {tt : TT} {te : TE} {vs : List Nat} {σ : L2.St} {H1 : Hp} {D : Addr} {Qd : Hp → Prop} (B : Nat → List V → Hp → Prop) (hn : n < sizeLine) (hD : H1 D = none)
    (mono : ∀ i acc H H', Tk H H' → B i acc H → B i acc H') (hG : ∀ H', Same H1 H' → G H') (h0 : B 0 [] H1)
    (hs : ∀ i acc H' x H'', i < n → Same H1 H' → B i acc H' → Y i H' x H'' → ∀ (Yes : V → Hp → Prop) (No : Hp → Prop), (∀ y H4, Same H' H4 → B (i + 1) (acc ++ [y]) H4 → Yes y H4) → (∀ H3, Same H' H3 → B (i + 1) acc H3 → No H3) →
      g x (wipe σ vs) H'' fun σ2 H2 => wipe σ2 vs = wipe σ vs ∧ tt σ2 H2 fun b H3 => if b = true then te σ2 H3 Yes else No H3)
    (hd : ∀ H' acc, Same H1 H' → H' D = some (.lst acc) → acc.length ≤ n → B n acc H' → Qd H') :
    ∃ W : Nat → Nat → Hp → Prop, (∃ m, W 0 m (upd H1 D (.lst []))) ∧ ∀ i m H, W i m H →
      (J.stop i H ∧ Qd H) ∨ (J.go i H ∧ ∃ Nx : Hp → Prop, (∀ H', Nx H' → ∃ m', m' < m ∧ W (i + 1) m' H') ∧ ∀ x H', J.yld i H x H' → g x (wipe σ vs) H' fun σ2 H2 => wipe σ2 vs = wipe σ vs ∧ tt σ2 H2 fun b H3 =>
        if b = true then te σ2 H3 fun y H4 => ∃ acc, H4 D = some (.lst acc) ∧ acc.length < sizeLine ∧ Nx (upd H4 D (.lst (acc ++ [y]))) else Nx H3) := by
  have t0 : Tk H1 (upd H1 D (.lst [])) := Tk.upd fun xs z => by rw [hD] at z; cases z
  refine lc_it w (fun i H' => Same H1 H' ∧ ∃ acc, H' D = some (.lst acc) ∧ acc.length ≤ i ∧ B i acc H') ⟨same_upd hD, [], upd_same, Nat.zero_le _, mono _ _ _ _ t0 h0⟩ (fun i H' _ p => hG H' p.1)
    (fun i x H' H'' hi p y => ?_) fun H' p => by
      obtain ⟨s, acc, e, l, b⟩ := p
      exact hd H' acc s e l b
  obtain ⟨s, acc, e, l, b⟩ := p
  refine hs i acc H' x H'' hi s b y _ _ (fun v H4 s4 b4 => ?_) fun H3 s3 b3 => ⟨Same.trans s s3, acc, s3 D _ e, by omega, b3⟩
  have e4 := s4 D _ e
  exact ⟨acc, e4, by omega, same_mut (Same.trans s s4) hD, acc ++ [v], upd_same, by rw [List.length_append, List.length_singleton]; omega, mono _ _ _ _ (tk_lst e4) b4⟩
end

/-! ### xs != [] -/
section
variable {X : Cx}
theorem dp_ints {K : PySem.W.Frag} {H : Hp} : ∀ ns : List Int, DpAll K H (ns.map V.int) (ns.map .int)
  | [] => .nil
  | n :: ns => .cons (.int n) (dp_ints ns)
theorem shaped_ints (ns : List Int) : SeqAt.shaped (.list (ns.map .int)) = true := by
  have h1 : ∀ ns : List Int, PyData.canLayAll0 (ns.map .int) = true := fun ns => by
    induction ns with
    | nil => rfl
    | cons n ns ih => rw [List.map_cons]; simp [PyData.canLayAll0, PyData.canLay0, ih]
  unfold SeqAt.shaped
  rw [PyData.canLay0, h1, PyData.depth, PySem.W.depth_ints]
  rfl
theorem eqv_ints : ∀ ns ms : List Int, PyData.eqvAll (ns.map .int) (ms.map .int) = decide (ns = ms)
  | [], [] => rfl
  | [], _ :: _ => by simp [PyData.eqvAll]
  | _ :: _, [] => by simp [PyData.eqvAll]
  | n :: ns, m :: ms => by
    rw [List.map_cons, List.map_cons, PyData.eqvAll, eqv_ints ns ms, PyData.eqv, Bool.eq_iff_iff]
    simp
/-- a list of ints -/
def rNeNilI (K : PySem.W.Frag) : R2 := fun x y H Q => ∃ a b ns, x = .ref a ∧ y = .ref b ∧ SqL K H a (List.map V.int ns) ∧ SqL K H b [] ∧ Q (.bl (!ns.isEmpty)) H
theorem op_neNilI (hu : X.A.units + 64 < cLine) : OpR X (compareOp .NotEq) (rNeNilI X.K) := by
  intro pins s σ H x y v u Q I rx ry h
  obtain ⟨a, b, ns, rfl, rfl, ha, hb, q⟩ := h
  refine op_neD hu pins s σ H _ _ v u Q I rx ry ⟨.list (ns.map .int), .list ([].map .int), .lst ha (dp_ints ns), .lst hb .nil, shaped_ints ns, shaped_ints [], ?_⟩
  have e : (!PyData.eqv (.list (ns.map .int)) (.list (([] : List Int).map .int))) = !ns.isEmpty := by
    rw [PyData.eqv, eqv_ints]
    cases ns <;> simp
  rw [e]
  exact q
theorem lines_dp {K : PySem.W.Frag} {H : Hp} : ∀ {zs : List Addr} {Ls : List Line}, Paired (LineAt H) zs Ls → DpAll K H (zs.map V.ref) (Ls.map lineData)
  | _, _, .nil => .nil
  | _, _, .cons r t => .cons (line_dp r) (lines_dp t)
theorem shaped_lines (Ls : List Line) : SeqAt.shaped (.list (Ls.map lineData)) = true := by
  have h1 : ∀ Ls : List Line, PyData.canLayAll0 (Ls.map lineData) = true := fun ns => by
    induction ns with
    | nil => rfl
    | cons n ns ih =>
      rw [List.map_cons, PyData.canLayAll0, ih, Bool.and_true]
      unfold lineData
      rw [PyData.canLay0]
      exact canLay_pairs n
  have h2 : ∀ Ls : List Line, PyData.depthAll (Ls.map lineData) ≤ 2 := fun ns => by
    induction ns with
    | nil => simp [PyData.depthAll]
    | cons n ns ih =>
      rw [List.map_cons, PyData.depthAll]
      have := depth_line n
      omega
  unfold SeqAt.shaped
  rw [PyData.canLay0, h1, PyData.depth]
  have := h2 Ls
  rw [decide_eq_true (by omega)]
  rfl
/-- a list of lines -/
def rNeNilL (K : PySem.W.Frag) : R2 := fun x y H Q => ∃ a b zs Ls, x = .ref a ∧ y = .ref b ∧ SqL K H a (List.map V.ref zs) ∧ Paired (LineAt H) zs Ls ∧ SqL K H b [] ∧ Q (.bl (!zs.isEmpty)) H
theorem op_neNilL (hu : X.A.units + 64 < cLine) : OpR X (compareOp .NotEq) (rNeNilL X.K) := by
  intro pins s σ H x y v u Q I rx ry h
  obtain ⟨a, b, zs, Ls, rfl, rfl, ha, hl, hb, q⟩ := h
  refine op_neD hu pins s σ H _ _ v u Q I rx ry ⟨.list (Ls.map lineData), .list ([].map lineData), .lst ha (lines_dp hl), .lst hb .nil, shaped_lines Ls, shaped_lines [], ?_⟩
  have e : (!PyData.eqv (.list (Ls.map lineData)) (.list (([] : List Line).map lineData))) = !zs.isEmpty := by
    rw [PyData.eqv]
    cases hl <;> simp [PyData.eqvAll]
  rw [e]
  exact q

/-! ### == -/
def rEqLine : R2 := fun x y H Q => ∃ a b L M, x = .ref a ∧ y = .ref b ∧ LineAt H a L ∧ LineAt H b M ∧ Q (.bl (decide (L = M))) H
theorem op_eqLine (hu : X.A.units + 64 < cLine) : OpR X (compareOp .Eq) rEqLine := by
  intro pins s σ H x y v u Q I rx ry h
  obtain ⟨a, b, L, M, rfl, rfl, ha, hb, q⟩ := h
  refine op_eqD hu pins s σ H _ _ v u Q I rx ry ⟨lineData L, lineData M, line_dp ha, line_dp hb, line_shaped L, line_shaped M, ?_⟩
  rw [eqv_line]
  exact q
def rEqPair : R2 := fun x y H Q => ∃ a b p q, x = .ref a ∧ y = .ref b ∧ PairAt H a p ∧ PairAt H b q ∧ Q (.bl (decide (p = q))) H
theorem op_eqPair (hu : X.A.units + 64 < cLine) : OpR X (compareOp .Eq) rEqPair := by
  intro pins s σ H x y v u Q I rx ry h
  obtain ⟨a, b, L, M, rfl, rfl, ha, hb, q⟩ := h
  refine op_eqD hu pins s σ H _ _ v u Q I rx ry ⟨_, _, pair_dp ha, pair_dp hb, pair_shaped L, pair_shaped M, ?_⟩
  rw [eqv_pair]
  exact q
def rEqInts (K : PySem.W.Frag) : R2 := fun x y H Q => ∃ a b ns ms, x = .ref a ∧ y = .ref b ∧ SqL K H a (List.map V.int ns) ∧ SqL K H b (List.map V.int ms) ∧ Q (.bl (decide (ns = ms))) H
theorem op_eqInts (hu : X.A.units + 64 < cLine) : OpR X (compareOp .Eq) (rEqInts X.K) := by
  intro pins s σ H x y v u Q I rx ry h
  obtain ⟨a, b, ns, ms, rfl, rfl, ha, hb, q⟩ := h
  refine op_eqD hu pins s σ H _ _ v u Q I rx ry ⟨.list (ns.map .int), .list (ms.map .int), .lst ha (dp_ints ns), .lst hb (dp_ints ms), shaped_ints ns, shaped_ints ms, ?_⟩
  rw [PyData.eqv, eqv_ints]
  exact q
end
end SW
end
section
set_option Elab.async false
set_option linter.all false
set_option maxRecDepth 100000
/-! The text by places; what the module's names hold. -/
namespace SW
open PySem PySem.Spec PyProof.Rows L2
def topS (i : Nat) : Stmt := PySem.Challenge.pw_stayswap_k21_whole_distances_by_search.main.body.getD i (.Pass ⟨0, 0, 0, 0⟩)
/-- the built-ins that the text calls by name -/
structure Blt (mg : Str → Option Value) : Prop where
  tuple : mg "tuple" = none
  list : mg "list" = none
  dict : mg "dict" = none
  int : mg "int" = none
  len : mg "len" = none
  sorted : mg "sorted" = none
  enumerate : mg "enumerate" = none
  range : mg "range" = none
  min : mg "min" = none
  max : mg "max" = none
  abs : mg "abs" = none
  sum : mg "sum" = none
  all : mg "all" = none
end SW
end
section
set_option Elab.async false
set_option linter.all false
set_option maxRecDepth 100000
set_option maxHeartbeats 1000000
namespace SW
open PySem PySem.Spec PyProof.Rows L2

abbrev sArr : Stmt := topS 4
abbrev sDays : Stmt := topS 5
theorem scArr : FnScope ["stays", "arrival", "leaving"] ["stays"] (defScope sArr) := ⟨rfl, rfl, rfl, by decide +kernel, rfl, by decide +kernel, by decide +kernel⟩
theorem scDays : FnScope ["stays", "arrival", "leaving"] ["stays"] (defScope sDays) := ⟨rfl, rfl, rfl, by decide +kernel, rfl, by decide +kernel, by decide +kernel⟩
/-- one of the numbers of each pair, as a tuple -/
def spCol (f : Line → List Int) : Sp := fun vs H Q _ => ∃ (a : Addr) (L : Line), vs = [.ref a] ∧ LineAt H a L ∧ L.length ≤ 1000 ∧ ∀ H' p, Same H H' → H' p = some (.tup ((f L).map V.int)) → Q (.ref p) H'
theorem wipe3 {x : Option V} {a b : Option V} : wipe [x, a, b] [1, 2] = [x, none, none] := rfl
section
variable {P : Program} {w : World} {K : PySem.W.Frag} {mg : Str → Option Value} {base : Heap}
theorem ok_arr {f : Addr} {fd : FuncData} {k : Nat} (T : Blt mg) (F : Fun K "arrivals_of" "arrivals_of" sArr f fd) : FnOk P w K mg base CX0 (k + 1) f fd ["stays"] (spCol arrs) := by
  refine F.ok scArr (fun vs H Q E h => ?_) (fun cdv A outer s H vs Q E hr h => ?_)
  · obtain ⟨a, L, rfl, _⟩ := h
    rfl
  · obtain ⟨a, L, rfl, hL, hlen, q⟩ := h
    refine ⟨_, pss_one (ps_ret (pe_callTy call_tuple_of (by rfl) T.tuple (by decide +kernel)
      (pa_cons (pe_lc (own := [("arrival", 1), ("leaving", 2)]) (g := gTup K 2 (gCons (gName 1) (gCons (gName 2) gNil))) (tt := tYes) rfl scArr.nd (pi_tup (pv 0)) (blkOk_by (N := ["stays", "arrival", "leaving"]) (sc := defScope sArr) (by decide +kernel))
        (fun _ _ _ _ _ => pg_tup rfl (pgs_cons (pg_name (i := 1) scArr.nd rfl (.inl rfl)) (pgs_cons (pg_name (i := 2) scArr.nd rfl (.inl rfl)) pgs_nil))) (fun _ _ _ _ _ => pts_nil) (fun _ _ _ _ _ => pv 1)) pa_nil))), ?_⟩
    obtain ⟨ps, hps, hpl, hpp⟩ := hL.tup
    refine ⟨.ref a, rfl, a, rfl, ⟨_, SqT.of hps⟩, fun D hD => ?_⟩
    refine lc_acc (walk_tup (K := K) (a := a) (xs := ps.map V.ref)) (fun i acc _ => acc = ((arrs L).take i).map V.int) (by rw [List.length_map]; exact small1000 (by omega)) hD (fun _ _ _ _ _ h => h) (fun H' s => SqT.of (s _ _ hps)) rfl
      (fun i acc H' x H'' hi sm hB hY Yes No hyes hno => ?_) (fun H' acc sm e l hB => ?_)
    · obtain ⟨rfl, hx⟩ := hY
      rw [List.length_map] at hi
      have hiL : i < L.length := by omega
      obtain ⟨p, e1, e2⟩ := hpp.get hiL
      rw [List.getElem?_map, e1] at hx
      cases hx
      refine ⟨p, _, rfl, SqT.of (sm _ _ e2), rfl, _, _, rfl, _, _, rfl, rfl, rfl, _, rfl, hyes _ _ (Same.refl _) ?_⟩
      show acc ++ [V.int L[i].1] = _
      have e3 : (arrs L)[i]? = some L[i].1 := by unfold arrs; rw [List.getElem?_map, List.getElem?_eq_getElem hiL]; rfl
      rw [hB, List.take_add_one, e3, List.map_append]
      rfl
    · rw [List.length_map, hpl] at hB
      have e3 : (arrs L).take L.length = arrs L := List.take_of_length_le (by rw [arrs_len]; exact Nat.le_refl _)
      rw [e3] at hB
      subst hB
      exact ⟨D, _, rfl, .inl ⟨SqL.of e, fun l nl => q _ l (Same.trans sm (same_upd nl)) upd_same⟩⟩
theorem ok_days {f : Addr} {fd : FuncData} {k : Nat} (T : Blt mg) (F : Fun K "days_of" "days_of" sDays f fd) : FnOk P w K mg base CX0 (k + 1) f fd ["stays"] (spCol days) := by
  refine F.ok scDays (fun vs H Q E h => ?_) (fun cdv A outer s H vs Q E hr h => ?_)
  · obtain ⟨a, L, rfl, _⟩ := h
    rfl
  · obtain ⟨a, L, rfl, hL, hlen, q⟩ := h
    refine ⟨_, pss_one (ps_ret (pe_callTy call_tuple_of (by rfl) T.tuple (by decide +kernel)
      (pa_cons (pe_lc (own := [("arrival", 1), ("leaving", 2)]) (g := gTup K 2 (gCons (gName 1) (gCons (gName 2) gNil))) (tt := tYes) rfl scDays.nd (pi_tup (pv 0)) (blkOk_by (N := ["stays", "arrival", "leaving"]) (sc := defScope sDays) (by decide +kernel))
        (fun _ _ _ _ _ => pg_tup rfl (pgs_cons (pg_name (i := 1) scDays.nd rfl (.inl rfl)) (pgs_cons (pg_name (i := 2) scDays.nd rfl (.inl rfl)) pgs_nil))) (fun _ _ _ _ _ => pts_nil) (fun _ _ _ _ _ => pv 2)) pa_nil))), ?_⟩
    obtain ⟨ps, hps, hpl, hpp⟩ := hL.tup
    refine ⟨.ref a, rfl, a, rfl, ⟨_, SqT.of hps⟩, fun D hD => ?_⟩
    refine lc_acc (walk_tup (K := K) (a := a) (xs := ps.map V.ref)) (fun i acc _ => acc = ((days L).take i).map V.int) (by rw [List.length_map]; exact small1000 (by omega)) hD (fun _ _ _ _ _ h => h) (fun H' s => SqT.of (s _ _ hps)) rfl
      (fun i acc H' x H'' hi sm hB hY Yes No hyes hno => ?_) (fun H' acc sm e l hB => ?_)
    · obtain ⟨rfl, hx⟩ := hY
      rw [List.length_map] at hi
      have hiL : i < L.length := by omega
      obtain ⟨p, e1, e2⟩ := hpp.get hiL
      rw [List.getElem?_map, e1] at hx
      cases hx
      refine ⟨p, _, rfl, SqT.of (sm _ _ e2), rfl, _, _, rfl, _, _, rfl, rfl, rfl, _, rfl, hyes _ _ (Same.refl _) ?_⟩
      show acc ++ [V.int L[i].2] = _
      have e3 : (days L)[i]? = some L[i].2 := by unfold days; rw [List.getElem?_map, List.getElem?_eq_getElem hiL]; rfl
      rw [hB, List.take_add_one, e3, List.map_append]
      rfl
    · rw [List.length_map, hpl] at hB
      have e3 : (days L).take L.length = days L := List.take_of_length_le (by rw [days_len]; exact Nat.le_refl _)
      rw [e3] at hB
      subst hB
      exact ⟨D, _, rfl, .inl ⟨SqL.of e, fun l nl => q _ l (Same.trans sm (same_upd nl)) upd_same⟩⟩
end
end SW
end
section
set_option Elab.async false
set_option linter.all false
set_option maxRecDepth 100000
set_option maxHeartbeats 1000000
namespace SW
open PySem PySem.Spec PyProof.Rows L2

abbrev sOrd : Stmt := topS 6
theorem scOrd : FnScope ["stays", "guest", "arrival"] ["stays"] (defScope sOrd) := ⟨rfl, rfl, rfl, by decide +kernel, rfl, by decide +kernel, by decide +kernel⟩
/-- the two ints of the pair at v -/
def pairK (H : Hp) : V → Int × Int
  | .ref t => match H t with
    | some (.tup [.int i, .int j]) => (i, j)
    | _ => (0, 0)
  | _ => (0, 0)
theorem pairK_of {H : Hp} {t : Addr} {i j : Int} (h : H t = some (.tup [.int i, .int j])) : pairK H (.ref t) = (i, j) := by
  unfold pairK
  dsimp only
  rw [h]
/-- the guests in the order of arrival -/
def spOrd : Sp := fun vs H Q _ => ∃ (a : Addr) (L : Line), vs = [.ref a] ∧ LineAt H a L ∧ L.length ≤ 1000 ∧ ∀ H' p (ord : List Nat), Same H H' → H' p = some (.lst (ord.map fun i => V.int (i : Nat))) → ord.Perm (List.range L.length) →
  ord.Pairwise (fun i j => (arrs L).getD i 0 ≤ (arrs L).getD j 0) → Q (.ref p) H'
theorem paired_tk {H H' : Hp} (t : Tk H H') {α : Type} {f : α → List V} {ts : List Addr} {xs : List α} (p : Paired (fun t x => H t = some (.tup (f x))) ts xs) : Paired (fun t x => H' t = some (.tup (f x))) ts xs :=
  L2.Paired.mapP p fun _ _ e => t _ _ e
theorem paired_mem_l {α β : Type} {G : α → β → Prop} : ∀ {l : List α} {m : List β}, Paired G l m → ∀ a ∈ l, ∃ b ∈ m, G a b
  | _, _, .nil, a, ha => nomatch ha
  | _, _, .cons r t, a, ha => by
    rcases List.mem_cons.mp ha with rfl | ha
    · exact ⟨_, List.mem_cons_self, r⟩
    · obtain ⟨b, hb, g⟩ := paired_mem_l t a ha
      exact ⟨b, List.mem_cons_of_mem _ hb, g⟩
theorem paired_map_eq {α β γ : Type} {G : α → β → Prop} {f : α → γ} {g : β → γ} (h : ∀ a b, G a b → f a = g b) : ∀ {l : List α} {m : List β}, Paired G l m → l.map f = m.map g
  | _, _, .nil => rfl
  | _, _, .cons r t => by rw [List.map_cons, List.map_cons, h _ _ r, paired_map_eq h t]
theorem wipeOrd {x a b : Option V} (y z : V) : wipe ((([x, a, b] : L2.St).set 1 (some y)).set 2 (some z)) [1, 2] = wipe [x, a, b] [1, 2] := rfl
section
variable {P : Program} {w : World} {K : PySem.W.Frag} {mg : Str → Option Value} {base : Heap}
theorem ok_ord {f fA : Addr} {fd fdA : FuncData} {k : Nat} (T : Blt mg) (F : Fun K "order_of" "order_of" sOrd f fd) (GA : FnOk P w K mg base CX0 k fA fdA ["stays"] (spCol arrs)) (gA : mg "arrivals_of" = some (.ref fA)) (kA : PySem.W.keepIn K (.ref fA) = true) (bA : Binds K fdA ["stays"] []) :
    FnOk P w K mg base CX0 (k + 1) f fd ["stays"] spOrd := by
  refine F.ok scOrd (fun vs H Q E h => ?_) (fun cdv A outer s H vs Q E hr h => ?_)
  · obtain ⟨a, L, rfl, _⟩ := h
    rfl
  · obtain ⟨a, L, rfl, hL, hlen, q⟩ := h
    refine ⟨_, pss_one (ps_ret (pe_lc (own := [("arrival", 2), ("guest", 1)]) (g := gTup K 2 (gCons (gName 2) (gCons (gName 1) gNil))) (tt := tYes) rfl scOrd.nd
      (pi_list (pe_callB cr_sortedPO (by rfl) T.sorted (by decide +kernel) (pa_cons
        (pe_lc (own := [("guest", 1), ("arrival", 2)]) (g := gTup K 2 (gCons (gName 1) (gCons (gName 2) gNil))) (tt := tYes) rfl scOrd.nd
          (pi_enumT (by rfl) T.enumerate (pa_cons (pe_call GA hr rfl gA kA bA .nil pass0 (pa_cons (pv 0) pa_nil)) pa_nil))
          (blkOk_by (N := ["stays", "guest", "arrival"]) (sc := defScope sOrd) (by decide +kernel))
          (fun _ _ _ _ _ => pg_tup rfl (pgs_cons (pg_name (i := 1) scOrd.nd rfl (.inl rfl)) (pgs_cons (pg_name (i := 2) scOrd.nd rfl (.inl rfl)) pgs_nil))) (fun _ _ _ _ _ => pts_nil)
          (fun _ _ _ _ _ => pe_tup (pa_cons (pv 2) (pa_cons (pv 1) pa_nil)))) pa_nil)))
      (blkOk_by (N := ["stays", "guest", "arrival"]) (sc := defScope sOrd) (by decide +kernel))
      (fun _ _ _ _ _ => pg_tup rfl (pgs_cons (pg_name (i := 2) scOrd.nd rfl (.inl rfl)) (pgs_cons (pg_name (i := 1) scOrd.nd rfl (.inl rfl)) pgs_nil))) (fun _ _ _ _ _ => pts_nil) (fun _ _ _ _ _ => pv 1))), ?_⟩
    -- arrivals_of(stays)
    refine ⟨.ref a, rfl, a, L, rfl, hL, hlen, fun H1 pa s1 ea => ?_⟩
    refine ⟨pa, _, rfl, SqT.of ea, fun D hD => ?_⟩
    have hl1 : ((arrs L).map V.int).length = L.length := by rw [List.length_map, arrs_len]
    refine lc_acc (walk_enumT (K := K) (a := pa) (xs := (arrs L).map V.int)) (fun i acc H' => ∃ ts : List Addr, acc = ts.map V.ref ∧ Paired (fun t (j : Nat) => H' t = some (.tup [.int ((arrs L).getD j 0), .int (j : Nat)])) ts (List.range i))
      (by rw [hl1]; exact small1000 hlen) hD (fun i acc H H' t h => ?_) (fun H' s => SqT.of (s _ _ ea)) ⟨[], rfl, .nil⟩ (fun i acc H' x H'' hi sm hB hY Yes No hyes hno => ?_) (fun H2 acc s2 e2 l2 hB => ?_)
    · obtain ⟨ts, e, p⟩ := h
      exact ⟨ts, e, paired_tk (f := fun j : Nat => [V.int ((arrs L).getD j 0), V.int (j : Nat)]) t p⟩
    · obtain ⟨U, x0, y0, rfl, nU, rfl, hx0, hy0⟩ := hY
      cases hx0
      obtain ⟨ts, rfl, hp⟩ := hB
      have hiL : i < (arrs L).length := by rw [arrs_len]; omega
      have hy0 : ((arrs L).map V.int)[i]? = some y0 := hy0
      rw [List.getElem?_map, List.getElem?_eq_getElem hiL] at hy0
      cases hy0
      have sU : Same H' (upd H' U (.tup [.int (i : Nat), .int (arrs L)[i]])) := same_upd nU
      refine ⟨U, _, rfl, SqT.of upd_same, rfl, _, _, rfl, _, _, rfl, rfl, rfl, ?_⟩
      refine ⟨_, rfl, _, rfl, by show 2 ≤ sizeLine; decide, fun p np => hyes _ _ (Same.trans sU (same_upd np)) ⟨ts ++ [p], by rw [List.map_append]; rfl, ?_⟩⟩
      rw [List.range_succ]
      refine Paired.snoc (paired_tk (f := fun j : Nat => [V.int ((arrs L).getD j 0), V.int (j : Nat)]) (Tk.of (Same.trans sU (same_upd np))) hp) ?_
      rw [upd_same, List.getD_eq_getElem?_getD, List.getElem?_eq_getElem hiL]
      rfl
    · -- sorted(..)
      rw [hl1] at hB
      obtain ⟨ts, rfl, hp⟩ := hB
      refine ⟨D, _, pairK H2, rfl, SqL.of e2, fun x hx => ?_, fun ys pY srt stb nY => ?_⟩
      · obtain ⟨t, ht, rfl⟩ := List.mem_map.mp hx
        obtain ⟨j, hj, e⟩ := paired_mem_l hp t ht
        refine ⟨t, rfl, ?_⟩
        rw [pairK_of e]
        exact e
      · have hys : ∀ y ∈ ys, ∃ (t : Addr) (j : Nat), y = .ref t ∧ H2 t = some (.tup [.int ((arrs L).getD j 0), .int (j : Nat)]) := fun y hy => by
          obtain ⟨t, ht, rfl⟩ := List.mem_map.mp (stb.perm.mem_iff.mp hy)
          obtain ⟨j, hj, e⟩ := paired_mem_l hp t ht
          exact ⟨t, j, rfl, e⟩
        have hyl : ys.length = L.length := by
          rw [stb.len, List.length_map, Paired.length hp, List.length_range]
        let fo : V → Nat := fun y => (pairK H2 y).2.toNat
        have s2Y : Same H2 (upd H2 pY (.lst ys)) := same_upd nY
        -- the guests
        refine ⟨pY, rfl, ⟨ys, SqL.of upd_same⟩, fun D2 hD2 => ?_⟩
        refine lc_acc (walk_list (K := K) (a := pY) (xs := ys)) (fun i acc _ => acc = (ys.take i).map fun y => V.int (fo y : Nat)) (by rw [hyl]; exact small1000 hlen) hD2 (fun _ _ _ _ _ h => h) (fun H' s => SqL.of (s _ _ upd_same)) rfl
          (fun i acc H' x H'' hi sm hB hY Yes No hyes hno => ?_) (fun H3 acc s3 e3 l3 hB => ?_)
        · obtain ⟨rfl, hx⟩ := hY
          obtain ⟨t, j, rfl, e⟩ := hys x (List.mem_of_getElem? hx)
          refine ⟨t, _, rfl, SqT.of (sm _ _ (s2Y _ _ e)), rfl, _, _, rfl, _, _, rfl, rfl, rfl, _, rfl, hyes _ _ (Same.refl _) ?_⟩
          have efo : fo (.ref t) = j := by
            show (pairK H2 (.ref t)).2.toNat = j
            rw [pairK_of e]
            rfl
          show acc ++ [V.int (j : Nat)] = _
          rw [hB, List.take_add_one, hx, List.map_append]
          show _ = _ ++ [V.int (fo (.ref t) : Nat)]
          rw [efo]
        · have et : ys.take ys.length = ys := List.take_length
          rw [et] at hB
          subst hB
          refine q H3 D2 (ys.map fo) (Same.trans (Same.trans (Same.trans s1 s2) s2Y) s3) ?_ ?_ ?_
          · rw [e3, List.map_map]
            rfl
          · refine (stb.perm.map fo).trans ?_
            rw [List.map_map]
            have e := paired_map_eq (f := fo ∘ V.ref) (g := fun j : Nat => j) (fun t j e => by
              show (pairK H2 (.ref t)).2.toNat = j
              rw [pairK_of e]
              rfl) hp
            rw [e, List.map_id']
          · rw [List.pairwise_map]
            refine List.Pairwise.imp_of_mem (fun {x y} hx hy hlt => ?_) srt
            obtain ⟨t, j, rfl, e⟩ := hys x hx
            obtain ⟨t', j', rfl, e'⟩ := hys y hy
            have z := SrtO.lexB_no.mp hlt
            have f1 : fo (.ref t) = j := by
              show (pairK H2 (.ref t)).2.toNat = j
              rw [pairK_of e]
              rfl
            have f2 : fo (.ref t') = j' := by
              show (pairK H2 (.ref t')).2.toNat = j'
              rw [pairK_of e']
              rfl
            rw [pairK_of e, pairK_of e'] at z
            rw [f1, f2]
            simp only at z
            omega
end
end SW
end
section
set_option Elab.async false
set_option linter.all false
set_option maxRecDepth 100000
set_option maxHeartbeats 1000000
namespace SW
open PySem PySem.Spec PyProof.Rows L2

theorem pe_never {X : Cx} {e : Expr} : PE X e (fun _ _ _ => False) := ⟨fun _ _ _ _ _ _ h => h.elim⟩
abbrev sMany : Stmt := topS 9
abbrev sBar : Stmt := topS 10
abbrev sLeads : Stmt := topS 11
abbrev sGoals : Stmt := topS 12
theorem scMany : FnScope ["one", "other"] ["one", "other"] (defScope sMany) := ⟨rfl, rfl, rfl, by decide +kernel, rfl, by decide +kernel, by decide +kernel⟩
theorem scBar : FnScope ["one", "other", "mine", "its", "found", "guest"] ["one", "other"] (defScope sBar) := ⟨rfl, rfl, rfl, by decide +kernel, rfl, by decide +kernel, by decide +kernel⟩
theorem scLeads : FnScope ["one", "other", "reason"] ["one", "other"] (defScope sLeads) := ⟨rfl, rfl, rfl, by decide +kernel, rfl, by decide +kernel, by decide +kernel⟩
theorem scGoals : FnScope ["one", "other", "mine", "day"] ["one", "other"] (defScope sGoals) := ⟨rfl, rfl, rfl, by decide +kernel, rfl, by decide +kernel, by decide +kernel⟩
def spMany : Sp := fun vs H Q _ => ∃ (a b : Addr) (L M : Line), vs = [.ref a, .ref b] ∧ LineAt H a L ∧ LineAt H b M ∧ L.length = M.length ∧ Q .non H
/-- where one leads to the other: None -/
def spBar : Sp := fun vs H Q _ => ∃ (a b : Addr) (L M : Line), vs = [.ref a, .ref b] ∧ LineAt H a L ∧ LineAt H b M ∧ L.length ≤ 60 ∧ arrs L = arrs M ∧ (days L).Perm (days M) ∧ ∀ H', Same H H' → Q .non H'
def spGoals : Sp := fun vs H Q _ => ∃ (a b : Addr) (L M : Line), vs = [.ref a, .ref b] ∧ LineAt H a L ∧ LineAt H b M ∧ L.length ≤ 60 ∧ M.length ≤ 60 ∧ (∀ d ∈ days M, d ∈ days L) ∧
  ∀ H' p, Same H H' → H p = none → H' p = some (.lst ((goals L M).map fun g => V.int (g : Nat))) → Q (.ref p) H'
theorem lineLen {L M : Line} (e : arrs L = arrs M) : L.length = M.length := by
  have := congrArg List.length e
  rwa [arrs_len, arrs_len] at this
theorem idxOf_first {l : List Int} {d : Int} {m : Nat} (h : m < l.idxOf d) (hm : m < l.length) : l[m] ≠ d := fun z => by
  have := List.not_of_lt_findIdx (p := (· == d)) (xs := l) h
  simp [z] at this
section
variable {P : Program} {w : World} {K : PySem.W.Frag} {mg : Str → Option Value} {base : Heap}
theorem ok_many {f : Addr} {fd : FuncData} {k : Nat} (T : Blt mg) (F : Fun K "look_many" "look_many" sMany f fd) : FnOk P w K mg base CX0 (k + 1) f fd ["one", "other"] spMany := by
  refine F.ok scMany (fun vs H Q E h => ?_) (fun cdv A outer s H vs Q E hr h => ?_)
  · obtain ⟨a, b, L, M, rfl, _⟩ := h
    rfl
  · obtain ⟨a, b, L, M, rfl, hL, hM, hlen, q⟩ := h
    refine ⟨_, pss_one (ps_if (pt_cmpR op_ne (pe_callB call_len_seq (by rfl) T.len PySem.boot_len (pa_cons (pv 0) pa_nil)) (pe_callB call_len_seq (by rfl) T.len PySem.boot_len (pa_cons (pv 1) pa_nil)) (nomark _)) pss_never pss_nil), ?_⟩
    obtain ⟨ps, eps, pl, _⟩ := hL.tup
    obtain ⟨qs, eqs, ql, _⟩ := hM.tup
    refine ⟨.ref a, rfl, a, _, rfl, .inr (SqT.of eps), .ref b, rfl, b, _, rfl, .inr (SqT.of eqs), rfl, _, rfl, ?_⟩
    have e : (!decide (V.int ((ps.map V.ref).length : Nat) = V.int ((qs.map V.ref).length : Nat))) = false := by
      rw [List.length_map, List.length_map, pl, ql, hlen]
      simp
    rw [e]
    exact iteF q
theorem ok_bar {f fM fA fD : Addr} {fd fdM fdA fdD : FuncData} {k : Nat} (T : Blt mg) (F : Fun K "bar" "bar" sBar f fd)
    (GM : FnOk P w K mg base CX0 k fM fdM ["one", "other"] spMany) (gM : mg "look_many" = some (.ref fM)) (kM : PySem.W.keepIn K (.ref fM) = true) (bM : Binds K fdM ["one", "other"] [])
    (GA : FnOk P w K mg base CX0 k fA fdA ["stays"] (spCol arrs)) (gA : mg "arrivals_of" = some (.ref fA)) (kA : PySem.W.keepIn K (.ref fA) = true) (bA : Binds K fdA ["stays"] [])
    (GD : FnOk P w K mg base CX0 k fD fdD ["stays"] (spCol days)) (gD : mg "days_of" = some (.ref fD)) (kD : PySem.W.keepIn K (.ref fD) = true) (bD : Binds K fdD ["stays"] []) :
    FnOk P w K mg base CX0 (k + 1) f fd ["one", "other"] spBar := by
  refine F.ok scBar (fun vs H Q E h => ?_) (fun cdv A outer s H vs Q E hr h => ?_)
  · obtain ⟨a, b, L, M, rfl, _⟩ := h
    rfl
  · obtain ⟨a, b, L, M, rfl, hL, hM, hlen, hA, hP, q⟩ := h
    refine ⟨_, pss_cons (ps_expr (pe_call GM hr (by rfl) gM kM bM .nil pass0 (pa_cons (pv 0) (pa_cons (pv 1) pa_nil))))
      (pss_cons (ps_asg (pe_tup (pa_cons (pe_call GA hr (by rfl) gA kA bA .nil pass0 (pa_cons (pv 0) pa_nil)) (pa_cons (pe_call GA hr (by rfl) gA kA bA .nil pass0 (pa_cons (pv 1) pa_nil)) pa_nil)))
        (pg_tup rfl (pgs_cons (pg_name (i := 2) scBar.nd rfl (.inr rfl)) (pgs_cons (pg_name (i := 3) scBar.nd rfl (.inr rfl)) pgs_nil))))
      (pss_cons (ps_setLc (i := 4) (own := [("guest", 5)]) (g := gName 5) (tt := tTest (tOp rNe (tOp (rIxT K) (tVar 2) (tVar 5)) (tOp (rIxT K) (tVar 3) (tVar 5)))) rfl scBar.nd rfl rfl (sw_true rfl rfl rfl (by decide +kernel))
        (pi_range1 (by rfl) T.range (pa_cons (pe_callB call_len_seq (by rfl) T.len PySem.boot_len (pa_cons (pv 2) pa_nil)) pa_nil))
        (blkOk_by (N := ["one", "other", "mine", "its", "found", "guest"]) (sc := defScope sBar) (by decide +kernel)) (fun _ _ _ _ _ => pg_name (i := 5) scBar.nd rfl (.inl rfl))
        (fun _ _ _ _ _ => pts_one (pt_cmpR op_ne (pe_ix ix_tup (pv 2) (pv 5) (fun _ _ => rfl)) (pe_ix ix_tup (pv 3) (pv 5) (fun _ _ => rfl)) (nomark _))) (fun _ _ _ _ _ => pv 5))
      (pss_cons (ps_if (pt_cmpR op_gt (pe_callB call_len_seq (by rfl) T.len PySem.boot_len (pa_cons (pv 4) pa_nil)) pe_int (nomark _)) pss_never pss_nil)
      (pss_one (ps_ret (pe_ifExp (pt_cmpR (op_eqInts hr.units) (pe_callB cr_sortTup (by rfl) T.sorted (by decide +kernel) (pa_cons (pe_call GD hr (by rfl) gD kD bD .nil pass0 (pa_cons (pv 0) pa_nil)) pa_nil))
        (pe_callB cr_sortTup (by rfl) T.sorted (by decide +kernel) (pa_cons (pe_call GD hr (by rfl) gD kD bD .nil pass0 (pa_cons (pv 1) pa_nil)) pa_nil)) (nomark _)) pe_non pe_never)))))), ?_⟩
    have hl2 : L.length = M.length := lineLen hA
    -- look_many
    refine ⟨.ref a, rfl, .ref b, rfl, a, b, L, M, rfl, hL, hM, hl2, ?_⟩
    -- mine, its
    refine ⟨.ref a, rfl, a, L, rfl, hL, by omega, fun H1 p1 s1 e1 => ?_⟩
    refine ⟨.ref b, rfl, b, M, rfl, hM.same s1, by omega, fun H2 p2 s2 e2 => ?_⟩
    refine ⟨by show 2 ≤ sizeLine; decide, fun t nt => ?_⟩
    have s3 : Same H2 (upd H2 t (.tup [.ref p1, .ref p2])) := same_upd nt
    refine ⟨t, _, rfl, SqT.of upd_same, rfl, _, _, rfl, _, _, rfl, rfl, ?_⟩
    have em := s3 _ _ (s2 _ _ e1)
    have ei := s3 _ _ e2
    -- found
    refine ⟨.ref p1, rfl, p1, _, rfl, .inr (SqT.of em), _, rfl, by rw [List.length_map, arrs_len]; omega, by rw [List.length_map, arrs_len]; omega, fun D hD => ?_⟩
    have hn : (((arrs L).map V.int).length : Int).toNat = L.length := by rw [List.length_map, arrs_len]; rfl
    rw [hn]
    refine lc_acc (walk_range (lo := 0) (n := L.length)) (fun i acc _ => acc = []) (small1000 (by omega)) hD (fun _ _ _ _ _ h => h) (fun _ _ => trivial) rfl (fun i acc H' x H'' hi sm hB hY Yes No hyes hno => ?_) (fun H4 acc s4 e4 l4 hB => ?_)
    · obtain ⟨rfl, rfl⟩ := hY
      have hiA : i < (arrs L).length := by rw [arrs_len]; exact hi
      have g1 : ((arrs L).map V.int)[i]? = some (.int (arrs L)[i]) := by rw [List.getElem?_map, List.getElem?_eq_getElem hiA]; rfl
      have g2 : ((arrs M).map V.int)[i]? = some (.int (arrs L)[i]) := by rw [← hA]; exact g1
      have e0 : (0 : Int) + (i : Int) = (i : Int) := Int.zero_add _
      refine ⟨rfl, ?_⟩
      refine ⟨.ref p1, rfl, .int (0 + (i : Int)), rfl, p1, _, _, _, rfl, rfl, SqT.of (sm _ _ em), by rw [e0]; exact atI_nat g1, .ref p2, rfl, .int (0 + (i : Int)), rfl, p2, _, _, _, rfl, rfl, SqT.of (sm _ _ ei), by rw [e0]; exact atI_nat g2, rfl, _, rfl, ?_⟩
      rw [decide_eq_true rfl]
      exact iteF (hno _ (Same.refl _) hB)
    · subst hB
      -- if len(found) > 0
      refine ⟨.ref D, rfl, D, _, rfl, .inl (SqL.of e4), _, _, rfl, rfl, _, rfl, ?_⟩
      refine iteF ?_
      -- the sorted days
      have sa := Same.trans (Same.trans (Same.trans s1 s2) s3) s4
      refine ⟨.ref a, rfl, a, L, rfl, hL.same sa, by omega, fun H5 p5 s5 e5 => ?_⟩
      refine ⟨p5, days L, rfl, SqT.of e5, by rw [days_len]; omega, fun ns n1 q1 o1 nn1 => ?_⟩
      have s6 : Same H5 (upd H5 n1 (.lst (ns.map V.int))) := same_upd nn1
      refine ⟨.ref b, rfl, b, M, rfl, (hM.same sa).same (Same.trans s5 s6), by omega, fun H7 p7 s7 e7 => ?_⟩
      refine ⟨p7, days M, rfl, SqT.of e7, by rw [days_len]; omega, fun ms n2 q2 o2 nn2 => ?_⟩
      have s8 : Same H7 (upd H7 n2 (.lst (ms.map V.int))) := same_upd nn2
      refine ⟨n1, n2, ns, ms, rfl, rfl, SqL.of (s8 _ _ (s7 _ _ upd_same)), SqL.of upd_same, _, rfl, ?_⟩
      have e9 : ns = ms := sorted_same q1 (q2.trans hP.symm) o1 o2
      rw [decide_eq_true e9]
      exact iteT (q _ (Same.trans (Same.trans (Same.trans (Same.trans sa s5) s6) s7) s8))
theorem ok_leads {f fB : Addr} {fd fdB : FuncData} {k : Nat} (F : Fun K "look_leads" "look_leads" sLeads f fd)
    (GB : FnOk P w K mg base CX0 k fB fdB ["one", "other"] spBar) (gB : mg "bar" = some (.ref fB)) (kB : PySem.W.keepIn K (.ref fB) = true) (bB : Binds K fdB ["one", "other"] []) :
    FnOk P w K mg base CX0 (k + 1) f fd ["one", "other"] spBar := by
  refine F.ok scLeads (fun vs H Q E h => ?_) (fun cdv A outer s H vs Q E hr h => ?_)
  · obtain ⟨a, b, L, M, rfl, _⟩ := h
    rfl
  · obtain ⟨a, b, L, M, rfl, hL, hM, hlen, hA, hP, q⟩ := h
    refine ⟨_, pss_cons (ps_set (i := 2) scLeads.nd rfl (.inl rfl) (pe_call GB hr (by rfl) gB kB bB .nil pass0 (pa_cons (pv 0) (pa_cons (pv 1) pa_nil))))
      (pss_one (ps_if (pt_cmpR op_notN (pv 2) pe_non (nomark _)) pss_never pss_nil)), ?_⟩
    refine ⟨.ref a, rfl, .ref b, rfl, a, b, L, M, rfl, hL, hM, hlen, hA, hP, fun H1 s1 => ?_⟩
    exact ⟨_, rfl, rfl, _, rfl, iteF (q H1 s1)⟩
theorem ok_goals {f fD : Addr} {fd fdD : FuncData} {k : Nat} (T : Blt mg) (F : Fun K "goals_of" "goals_of" sGoals f fd)
    (GD : FnOk P w K mg base CX0 k fD fdD ["stays"] (spCol days)) (gD : mg "days_of" = some (.ref fD)) (kD : PySem.W.keepIn K (.ref fD) = true) (bD : Binds K fdD ["stays"] []) :
    FnOk P w K mg base CX0 (k + 1) f fd ["one", "other"] spGoals := by
  refine F.ok scGoals (fun vs H Q E h => ?_) (fun cdv A outer s H vs Q E hr h => ?_)
  · obtain ⟨a, b, L, M, rfl, _⟩ := h
    rfl
  · obtain ⟨a, b, L, M, rfl, hL, hM, hl1, hl2, hd, q⟩ := h
    refine ⟨_, pss_cons (ps_set (i := 2) scGoals.nd rfl (.inr rfl) (pe_callTy call_list_of (by rfl) T.list (by decide +kernel) (pa_cons (pe_call GD hr (by rfl) gD kD bD .nil pass0 (pa_cons (pv 0) pa_nil)) pa_nil)))
      (pss_one (ps_ret (pe_lc (own := [("day", 3)]) (g := gName 3) (tt := tYes) (te := tBM K "list" (rIndex K) (tVar 2) (tCons (tVar 3) tNil)) rfl scGoals.nd (pi_tup (pe_call GD hr (by rfl) gD kD bD .nil pass0 (pa_cons (pv 1) pa_nil)))
        (blkOk_by (N := ["one", "other", "mine", "day"]) (sc := defScope sGoals) (by decide +kernel)) (fun _ _ _ _ _ => pg_name (i := 3) scGoals.nd rfl (.inl rfl)) (fun _ _ _ _ _ => pts_nil)
        (fun _ _ _ _ _ => pe_bm PySem.F.plainAttrs_list PySem.F.slot_list_index PySem.F.type_list_index mt_index (pv 2) (pa_cons (pv 3) pa_nil))))), ?_⟩
    refine ⟨.ref a, rfl, a, L, rfl, hL, by omega, fun H1 p1 s1 e1 => ?_⟩
    refine ⟨p1, _, rfl, .inr (SqT.of e1), fun l nl => ?_⟩
    have s2 : Same H1 (upd H1 l (.lst ((days L).map V.int))) := same_upd nl
    refine ⟨.ref b, rfl, b, M, rfl, (hM.same s1).same s2, by omega, fun H3 p3 s3 e3 => ?_⟩
    have el := s3 _ _ (upd_same (H := H1) (a := l) (o := .lst ((days L).map V.int)))
    refine ⟨p3, rfl, ⟨_, SqT.of e3⟩, fun D hD => ?_⟩
    have hnD : H D = none := Same.free (Same.trans (Same.trans s1 s2) s3) hD
    refine lc_acc (walk_tup (K := K) (a := p3) (xs := (days M).map V.int)) (fun i acc _ => acc = ((goals L M).take i).map fun g => V.int (g : Nat)) (by rw [List.length_map, days_len]; exact small1000 (by omega)) hD (fun _ _ _ _ _ h => h) (fun H' s => SqT.of (s _ _ e3)) rfl
      (fun i acc H' x H'' hi sm hB hY Yes No hyes hno => ?_) (fun H4 acc s4 e4 l4 hB => ?_)
    · obtain ⟨rfl, hx⟩ := hY
      have hiM : i < (days M).length := by rw [List.length_map] at hi; exact hi
      rw [List.getElem?_map, List.getElem?_eq_getElem hiM] at hx
      cases hx
      have hm : (days M)[i] ∈ days L := hd _ (List.getElem_mem _)
      have hk := List.idxOf_lt_length_of_mem hm
      have ek := List.getElem_idxOf hk
      refine ⟨rfl, .ref l, rfl, .inl ⟨rfl, _, SqL.of (sm _ _ el)⟩, _, rfl, l, (days L).map V.int, _, (days L).idxOf (days M)[i], .int (days M)[i], rfl, rfl, SqL.of (sm _ _ el), rfl, ?_, ?_, ?_, fun m z hm' hz => ?_, hyes _ _ (Same.refl _) ?_⟩
      · rw [List.all_eq_true]
        intro x hx
        obtain ⟨n, _, rfl⟩ := List.mem_map.mp hx
        rfl
      · rw [List.getElem?_map, List.getElem?_eq_getElem hk, ek]
        rfl
      · show decide ((days M)[i] = (days M)[i]) = true
        exact decide_eq_true rfl
      · have hml : m < (days L).length := by omega
        rw [List.getElem?_map, List.getElem?_eq_getElem hml] at hz
        cases hz
        exact decide_eq_false (idxOf_first hm' hml)
      · have eg : (goals L M)[i]? = some ((days L).idxOf (days M)[i]) := by
          unfold goals
          rw [List.getElem?_map, List.getElem?_eq_getElem hiM]
          rfl
        rw [hB, List.take_add_one, eg, List.map_append]
        rfl
    · have et : (goals L M).take ((days M).map V.int).length = goals L M := List.take_of_length_le (by rw [goals_len, List.length_map, days_len]; exact Nat.le_refl _)
      rw [et] at hB
      subst hB
      exact q H4 D (Same.trans (Same.trans (Same.trans s1 s2) s3) s4) hnD e4
end
end SW
end
section
set_option Elab.async false
set_option linter.all false
set_option maxRecDepth 100000
set_option maxHeartbeats 1000000
namespace SW
open PySem PySem.Spec PyProof.Rows L2

abbrev sRings : Stmt := topS 13
abbrev NR : List Str := ["one", "other", "goals", "found", "seen", "guest", "ring"]
theorem scRings : FnScope NR ["one", "other"] (defScope sRings) := ⟨rfl, rfl, rfl, by decide +kernel, rfl, by decide +kernel, by decide +kernel⟩
/-- small numbers as values -/
abbrev nl (l : List Nat) : List V := l.map fun x => V.int (x : Nat)
theorem nl_flat (l : List Nat) : (nl l).all flatV = true := by
  rw [List.all_eq_true]
  intro x hx
  obtain ⟨n, _, rfl⟩ := List.mem_map.mp hx
  rfl
theorem nl_in (i : Nat) (l : List Nat) : inV (.int (i : Nat)) (nl l) = l.contains i := by
  unfold inV
  rw [List.any_map, List.contains_eq_any_beq]
  congr 1
  funext x
  show ((x : Int) == (i : Int)) = (i == x)
  rw [Bool.eq_iff_iff, beq_iff_eq, beq_iff_eq]
  omega
theorem nl_get {l : List Nat} {k : Nat} (h : k < l.length) : (nl l)[k]? = some (.int (l[k] : Nat)) := by
  rw [List.getElem?_map, List.getElem?_eq_getElem h]
  rfl
theorem nl_getD {l : List Nat} {k d : Nat} (h : k < l.length) : (nl l)[k]? = some (.int (l.getD k d : Nat)) := by
  rw [nl_get h, List.getD_eq_getElem?_getD, List.getElem?_eq_getElem h]
  rfl
/-- the last of the first k + 1 -/
theorem nl_last {l : List Nat} {k d : Nat} (h : k < l.length) : atI (nl (l.take (k + 1))) (-1) = some (.int (l.getD k d : Nat)) := by
  have e : l.take (k + 1) = l.take k ++ [l.getD k d] := by
    rw [List.take_add_one, List.getElem?_eq_getElem h, List.getD_eq_getElem?_getD, List.getElem?_eq_getElem h]
    rfl
  rw [e]
  unfold nl
  rw [List.map_append]
  exact atI_last _ _
theorem take_snoc {l : List Nat} {k d : Nat} (h : k < l.length) : nl (l.take k) ++ [V.int (l.getD k d : Nat)] = nl (l.take (k + 1)) := by
  unfold nl
  rw [List.take_add_one, List.getElem?_eq_getElem h, List.getD_eq_getElem?_getD, List.getElem?_eq_getElem h, List.map_append]
  rfl
abbrev RingAt (H : Hp) (t : Addr) (r : List Nat) : Prop := H t = some (.tup (nl r))
abbrev RingsAt (H : Hp) : List Addr → List (List Nat) → Prop := Paired (RingAt H)
theorem RingsAt.at {H H' : Hp} (t : Tk H H') {as : List Addr} {rs : List (List Nat)} (p : RingsAt H as rs) : RingsAt H' as rs := paired_tk (f := fun r : List Nat => nl r) t p
/-- what the functions of leading ask of two lines -/
structure Two (H : Hp) (a b : Addr) (L M : Line) : Prop where
  one : LineAt H a L
  other : LineAt H b M
  le : L.length ≤ 5
  arr : arrs L = arrs M
  perm : (days L).Perm (days M)
  nd : (days L).Nodup
theorem Two.same {H H' : Hp} {a b : Addr} {L M : Line} (t : Two H a b L M) (s : Same H H') : Two H' a b L M := ⟨t.one.same s, t.other.same s, t.le, t.arr, t.perm, t.nd⟩
theorem Two.len {H : Hp} {a b : Addr} {L M : Line} (t : Two H a b L M) : M.length = L.length := (lineLen t.arr).symm
theorem isP_of {L M : Line} (hA : arrs L = arrs M) (hP : (days L).Perm (days M)) (nd : (days L).Nodup) : IsP L.length (goals L M) := by
  refine ⟨by rw [goals_len, lineLen hA], fun x hx => ?_, ?_⟩
  · obtain ⟨d, hd, rfl⟩ := List.mem_map.mp hx
    have := List.idxOf_lt_length_of_mem (hP.mem_iff.mpr hd)
    rwa [days_len] at this
  · unfold goals List.Nodup
    rw [List.pairwise_map]
    refine List.Pairwise.imp_of_mem (fun {a b} ha hb ne e => ne ?_) (hP.nodup_iff.mp nd)
    have la := List.idxOf_lt_length_of_mem (hP.mem_iff.mpr ha)
    have lb := List.idxOf_lt_length_of_mem (hP.mem_iff.mpr hb)
    have ea := List.getElem_idxOf la
    have eb := List.getElem_idxOf lb
    rw [← ea, ← eb]
    congr 1
theorem Two.isP {H : Hp} {a b : Addr} {L M : Line} (t : Two H a b L M) : IsP L.length (goals L M) := isP_of t.arr t.perm t.nd
def spRings : Sp := fun vs H Q _ => ∃ (a b : Addr) (L M : Line), vs = [.ref a, .ref b] ∧ Two H a b L M ∧
  ∀ H' p rs, Same H H' → H' p = some (.lst (rs.map V.ref)) → RingsAt H' rs (ringsF (goals L M)) → Q (.ref p) H'
def spDist : Sp := fun vs H Q _ => ∃ (a b : Addr) (L M : Line), vs = [.ref a, .ref b] ∧ Two H a b L M ∧ ∀ H', Same H H' → Q (.int (dd (goals L M) : Nat)) H'
theorem ringsGo_drop {g : List Nat} {n i : Nat} (h : i < n) (f : List (List Nat)) (s : List Nat) :
    ringsGo g ((List.range n).drop i) f s = if s.contains i then ringsGo g ((List.range n).drop (i + 1)) f s else ringsGo g ((List.range n).drop (i + 1)) (f ++ [orb g i]) (s ++ orb g i) := by
  have e : (List.range n).drop i = i :: (List.range n).drop (i + 1) := by
    rw [List.drop_eq_getElem_cons (by rw [List.length_range]; exact h), List.getElem_range]
  rw [e, ringsGo]
section
variable {P : Program} {w : World} {K : PySem.W.Frag} {mg : Str → Option Value} {base : Heap}
theorem ok_rings {f fL fG : Addr} {fd fdL fdG : FuncData} {k : Nat} (T : Blt mg) (F : Fun K "rings" "rings" sRings f fd)
    (GL : FnOk P w K mg base CX0 k fL fdL ["one", "other"] spBar) (gL : mg "look_leads" = some (.ref fL)) (kL : PySem.W.keepIn K (.ref fL) = true) (bL : Binds K fdL ["one", "other"] [])
    (GG : FnOk P w K mg base CX0 k fG fdG ["one", "other"] spGoals) (gG : mg "goals_of" = some (.ref fG)) (kG : PySem.W.keepIn K (.ref fG) = true) (bG : Binds K fdG ["one", "other"] []) :
    FnOk P w K mg base CX0 (k + 1) f fd ["one", "other"] spRings := by
  refine F.ok scRings (fun vs H Q E h => ?_) (fun cdv A outer s H vs Q E hr h => ?_)
  · obtain ⟨a, b, L, M, rfl, _⟩ := h
    rfl
  · obtain ⟨a, b, L, M, rfl, t2, q⟩ := h
    refine ⟨_, pss_cons (ps_expr (pe_call GL hr (by rfl) gL kL bL .nil pass0 (pa_cons (pv 0) (pa_cons (pv 1) pa_nil))))
      (pss_cons (ps_par3 (i := 2) (j := 3) (l := 4) rfl scRings.nd rfl rfl rfl (by decide) (by decide) (by decide) rfl rfl rfl (pa_cons (pe_call GG hr (by rfl) gG kG bG .nil pass0 (pa_cons (pv 0) (pa_cons (pv 1) pa_nil))) (pa_cons (pe_lst pa_nil) (pa_cons (pe_lst pa_nil) pa_nil))) (by rfl))
      (pss_cons (ps_for PassesOwn.never rfl (pi_range1 (by rfl) T.range (pa_cons (pe_callB call_len_seq (by rfl) T.len PySem.boot_len (pa_cons (pv 2) pa_nil)) pa_nil)) (pg_name (i := 5) scRings.nd rfl (.inl rfl))
        (pss_one (ps_if (pt_cmpR op_notIn_seq (pv 5) (pv 4) (by rfl))
          (pss_cons (ps_set (i := 6) scRings.nd rfl (.inl rfl) (pe_lst (pa_cons (pv 5) pa_nil)))
          (pss_cons (ps_while PassesOwn.never (pt_cmpR op_ne (pe_ix ix_list (pv 2) (pe_ix ix_list (pv 6) (pe_un un_neg pe_int) (fun _ _ => rfl)) (fun _ _ => rfl)) (pv 5) (nomark _))
            (pss_one (ps_expr (pe_bm PySem.F.plainAttrs_list PySem.F.slot_list_append PySem.F.type_list_append mt_append (pv 6) (pa_cons (pe_ix ix_list (pv 2) (pe_ix ix_list (pv 6) (pe_un un_neg pe_int) (fun _ _ => rfl)) (fun _ _ => rfl)) pa_nil)))))
          (pss_cons (ps_expr (pe_bm PySem.F.plainAttrs_list PySem.F.slot_list_extend PySem.F.type_list_extend mt_extend (pv 4) (pa_cons (pv 6) pa_nil)))
          (pss_one (ps_expr (pe_bm PySem.F.plainAttrs_list PySem.F.slot_list_append PySem.F.type_list_append mt_append (pv 3) (pa_cons (pe_callTy call_tuple_of (by rfl) T.tuple (by decide +kernel) (pa_cons (pv 6) pa_nil)) pa_nil)))))))
          pss_nil)))
      (pss_one (ps_ret (pe_lc (own := [("ring", 6)]) (g := gName 6) (tt := tTest (tOp (rI0 fun i j => .bl (decide (j < i))) (tCB (fun xs H Q => ∃ p ys, xs = [.ref p] ∧ (SqL K H p ys ∨ SqT K H p ys) ∧ Q (.int ys.length) H) (tCons (tVar 6) tNil)) (tC (.int 1)))) rfl scRings.nd (pi_list (pv 3))
        (blkOk_by (N := NR) (sc := defScope sRings) (by decide +kernel)) (fun _ _ _ _ _ => pg_name (i := 6) scRings.nd rfl (.inl rfl))
        (fun _ _ _ _ _ => pts_one (pt_cmpR op_gt (pe_callB call_len_seq (by rfl) T.len PySem.boot_len (pa_cons (pv 6) pa_nil)) pe_int (nomark _))) (fun _ _ _ _ _ => pv 6)))))), ?_⟩
    have hp := t2.isP
    have hML := t2.len
    have hle := t2.le
    have hall := hp.all t2.le
    have hgl : (goals L M).length = L.length := hp.len
    generalize hg : goals L M = g at *
    -- look_leads
    refine ⟨.ref a, rfl, .ref b, rfl, a, b, L, M, rfl, t2.one, t2.other, by omega, t2.arr, t2.perm, fun H1 s1 => ?_⟩
    -- goals, found, seen
    refine ⟨.ref a, rfl, .ref b, rfl, a, b, L, M, rfl, t2.one.same s1, t2.other.same s1, by omega, by omega, fun d hd => t2.perm.mem_iff.mpr hd, fun H2 pg s2 nG eg => ?_⟩
    rw [hg] at eg
    refine ⟨Nat.zero_le _, fun pf nf => ?_⟩
    refine ⟨Nat.zero_le _, fun ps ns => ?_⟩
    refine ⟨_, _, _, rfl, ?_⟩
    have s12 := Same.trans s1 s2
    have hnf : H pf = none := Same.free s12 nf
    have npg : pg ≠ pf := ne_of_none eg nf
    have eg2 : (upd H2 pf (.lst [])) pg = some (.lst (nl g)) := by rw [upd_ne npg]; exact eg
    have npg2 : pg ≠ ps := ne_of_none eg2 ns
    have npf2 : pf ≠ ps := ne_of_none (upd_same (H := H2) (a := pf) (o := .lst [])) ns
    have s3 : Same H (upd H2 pf (.lst [])) := Same.trans s12 (same_upd nf)
    have hns : H ps = none := Same.free s3 ns
    have s4 : Same H (upd (upd H2 pf (.lst [])) ps (.lst [])) := Same.trans s3 (same_upd ns)
    -- for guest in range(len(goals))
    refine ⟨.ref pg, rfl, pg, _, rfl, .inl (SqL.of (by rw [upd_ne npg2]; exact eg2)), _, rfl, by rw [List.length_map]; omega, by rw [List.length_map]; omega, ?_⟩
    have hn : ((nl g).length : Int).toNat = L.length := by rw [List.length_map, hgl]; rfl
    rw [hn]
    refine for_it (walk_range (lo := 0) (n := L.length)) (fun i σ H' => ∃ (y5 y6 : Option V) (found : List (List Nat)) (seen : List Nat) (rs : List Addr), σ = [some (.ref a), some (.ref b), some (.ref pg), some (.ref pf), some (.ref ps), y5, y6] ∧
        Same H H' ∧ H' pg = some (.lst (nl g)) ∧ H' pf = some (.lst (rs.map V.ref)) ∧ RingsAt H' rs found ∧ H' ps = some (.lst (nl seen)) ∧ found.length ≤ i ∧ seen.length ≤ 5 * i ∧ ringsGo g ((List.range L.length).drop i) found seen = allRings g)
      ⟨none, none, [], [], [], rfl, s4, by rw [upd_ne npg2]; exact eg2, by rw [upd_ne npf2, upd_same]; rfl, .nil, by rw [upd_same]; rfl, Nat.le_refl _, Nat.le_refl _, by unfold allRings; rw [hgl]; rfl⟩ (fun _ _ _ _ _ => trivial)
      (fun i x σ H0 H' hi p hY => ?_) (fun σ H' p => ?_)
    · obtain ⟨rfl, hx⟩ := hY
      have e0 : (0 : Int) + (i : Int) = (i : Int) := Int.zero_add _
      have hx : x = .int (i : Nat) := by
        rw [hx]
        show V.int (0 + (i : Int)) = _
        rw [e0]
      subst hx
      obtain ⟨y5, y6, found, seen, rs, rfl, sH, eG, eF, hR, eS, lF, lS, hGo⟩ := p
      rw [ringsGo_drop hi] at hGo
      refine ⟨_, rfl, _, rfl, ps, nl seen, rfl, .inl (SqL.of eS), rfl, nl_flat _, _, rfl, ?_⟩
      rw [nl_in]
      cases hsc : seen.contains i with
      | true =>
        rw [hsc, if_pos rfl] at hGo
        exact iteF ⟨_, y6, found, seen, rs, rfl, sH, eG, eF, hR, eS, by omega, by omega, hGo⟩
      | false =>
        rw [hsc, if_neg (by decide)] at hGo
        refine iteT ?_
        have ho := orb_of (hall.2.1 i hi)
        generalize hoo : orb g i = o at *
        have hpos := ho.pos
        have hle5 := ho.le
        have hlt : ∀ k, k < o.length → o.getD k 9 < g.length := fun k hk => by
          rw [List.getD_eq_getElem?_getD, List.getElem?_eq_getElem hk]
          exact ho.lt _ (List.getElem_mem _)
        -- ring = [guest]
        refine ⟨_, rfl, by show 1 ≤ sizeLine; decide, fun pr nr => ?_⟩
        have nrG : pg ≠ pr := ne_of_none eG nr
        have nrF : pf ≠ pr := ne_of_none eF nr
        have nrS : ps ≠ pr := ne_of_none eS nr
        have sr : Same H' (upd H' pr (.lst [.int (i : Nat)])) := same_upd nr
        have hnr : H pr = none := Same.free sH nr
        have e1 : nl (o.take 1) = [V.int (i : Nat)] := by
          have := take_snoc (l := o) (k := 0) (d := 9) hpos
          rw [ho.first] at this
          exact this.symm
        -- the reading of goals[ring[-1]]
        have rd : ∀ (k : Nat) (H3 : Hp) (Q3 : VK), k + 1 ≤ o.length → H3 pg = some (.lst (nl g)) → H3 pr = some (.lst (nl (o.take (k + 1)))) → Q3 (.int (g.getD (o.getD k 9) 9 : Nat)) H3 →
            tOp (rIxL K) (tVar 2) (tOp (rIxL K) (tVar 6) (tUn (rU fun i => .int (-i)) (tC (.int 1)))) [some (.ref a), some (.ref b), some (.ref pg), some (.ref pf), some (.ref ps), some (.int (i : Nat)), some (.ref pr)] H3 Q3 := fun k H3 Q3 hk g1 g2 q3 =>
          ⟨.ref pg, rfl, .ref pr, rfl, 1, rfl, pr, _, _, _, rfl, rfl, SqL.of g2, nl_last (d := 9) (by omega), pg, _, _, _, rfl, rfl, SqL.of g1, atI_nat (nl_getD (d := 9) (hlt k (by omega))), q3⟩
        refine ⟨fun m σ H3 => ∃ k, m = o.length - k ∧ k + 1 ≤ o.length ∧ σ = [some (.ref a), some (.ref b), some (.ref pg), some (.ref pf), some (.ref ps), some (.int (i : Nat)), some (.ref pr)] ∧ Same H H3 ∧ H3 pg = some (.lst (nl g)) ∧ H3 pf = some (.lst (rs.map V.ref)) ∧ RingsAt H3 rs found ∧ H3 ps = some (.lst (nl seen)) ∧ H3 pr = some (.lst (nl (o.take (k + 1)))),
          ⟨_, 0, rfl, by omega, rfl, Same.trans sH sr, sr _ _ eG, sr _ _ eF, hR.at (Tk.of sr), sr _ _ eS, by rw [upd_same, e1]⟩, fun m σ H3 hW => ?_⟩
        obtain ⟨k, rfl, hk, rfl, sH3, gG, gF, hR3, gS, gr⟩ := hW
        refine rd k H3 _ hk gG gr ⟨_, rfl, rfl, _, rfl, ?_⟩
        by_cases hk2 : k + 1 < o.length
        · obtain ⟨st1, st2⟩ := ho.step k hk2
          rw [st1]
          have ed : (!decide (V.int (o.getD (k + 1) 9 : Nat) = V.int (i : Nat))) = true := by
            rw [decide_eq_false]
            · rfl
            · intro z
              injection z with z
              omega
          rw [ed]
          refine iteT ⟨fun σ' H' => ∃ k', k' = k + 1 ∧ σ' = [some (.ref a), some (.ref b), some (.ref pg), some (.ref pf), some (.ref ps), some (.int (i : Nat)), some (.ref pr)] ∧ Same H H' ∧ H' pg = some (.lst (nl g)) ∧ H' pf = some (.lst (rs.map V.ref)) ∧ RingsAt H' rs found ∧ H' ps = some (.lst (nl seen)) ∧ H' pr = some (.lst (nl (o.take (k' + 1)))), fun σ' H' hN => ?_, ?_⟩
          · obtain ⟨k', rfl, r⟩ := hN
            exact ⟨o.length - (k + 1), by omega, k + 1, rfl, by omega, r⟩
          · refine ⟨.ref pr, rfl, .inl ⟨rfl, _, SqL.of gr⟩, ?_⟩
            refine rd k H3 _ hk gG gr ⟨pr, _, _, rfl, rfl, gr, by rw [List.length_map, List.length_take]; exact small1000 (by omega), ?_⟩
            rw [st1]
            refine ⟨k + 1, rfl, rfl, same_mut sH3 hnr, by rw [upd_ne nrG]; exact gG, by rw [upd_ne nrF]; exact gF, hR3.at (tk_lst gr), by rw [upd_ne nrS]; exact gS, ?_⟩
            rw [upd_same, take_snoc (d := 9) hk2]
        · have hk3 : k + 1 = o.length := by omega
          have ek : k = o.length - 1 := by omega
          have la := ho.last
          rw [← ek] at la
          rw [la, decide_eq_true rfl]
          refine iteF ?_
          have et : o.take (k + 1) = o := List.take_of_length_le (by omega)
          rw [et] at gr
          -- seen.extend(ring)
          refine ⟨.ref ps, rfl, .inl ⟨rfl, _, SqL.of gS⟩, .ref pr, rfl, ps, pr, _, _, rfl, rfl, gS, gr, by rw [List.length_map, List.length_map]; exact Nat.le_of_lt (small1000 (by omega)), ?_⟩
          have gF2 : (upd H3 ps (.lst (nl seen ++ nl o))) pf = some (.lst (rs.map V.ref)) := by rw [upd_ne npf2]; exact gF
          have gr2 : (upd H3 ps (.lst (nl seen ++ nl o))) pr = some (.lst (nl o)) := by rw [upd_ne (Ne.symm nrS)]; exact gr
          -- found.append(tuple(ring))
          refine ⟨.ref pf, rfl, .inl ⟨rfl, _, SqL.of gF2⟩, .ref pr, rfl, pr, _, rfl, .inl ⟨SqL.of gr2, fun t nt => ?_⟩⟩
          have st : Same (upd H3 ps (.lst (nl seen ++ nl o))) (upd (upd H3 ps (.lst (nl seen ++ nl o))) t (.tup (nl o))) := same_upd nt
          have sA := same_mut sH3 (o := .lst (nl seen ++ nl o)) hns
          have lR := Paired.length hR
          have tk1 : Tk H3 (upd H3 ps (.lst (nl seen ++ nl o))) := tk_lst gS
          have gF3 := st _ _ gF2
          refine ⟨pf, _, _, rfl, rfl, gF3, by rw [List.length_map]; exact small1000 (by omega), ?_⟩
          have npt : t ≠ pf := fun z => by rw [z, gF2] at nt; cases nt
          refine ⟨_, _, found ++ [o], seen ++ o, rs ++ [t], rfl, same_mut (Same.trans sA st) hnf, ?_, ?_, ?_, ?_, ?_, ?_, hGo⟩
          · rw [upd_ne npg]
            refine st _ _ ?_
            rw [upd_ne npg2]
            exact gG
          · rw [upd_same, List.map_append]
            rfl
          · refine Paired.snoc ((hR3.at tk1).at (Tk.trans (Tk.of st) (tk_lst gF3))) ?_
            show upd _ _ _ t = _
            rw [upd_ne npt, upd_same]
          · rw [upd_ne (Ne.symm npf2)]
            have e5 := st ps _ upd_same
            rw [e5]
            unfold nl
            rw [List.map_append]
          · rw [List.length_append, List.length_singleton]; omega
          · rw [List.length_append]; omega
    · obtain ⟨y5, y6, found, seen, rs, rfl, sH, eG, eF, hR, eS, lF, lS, hGo⟩ := p
      have ed : (List.range L.length).drop L.length = [] := List.drop_of_length_le (by rw [List.length_range]; exact Nat.le_refl _)
      rw [ed] at hGo
      have hGo : found = allRings g := hGo
      subst hGo
      have lR := Paired.length hR
      refine ⟨.ref pf, rfl, pf, rfl, ⟨_, SqL.of eF⟩, fun D hD => ?_⟩
      refine lc_acc (walk_list (K := K) (a := pf) (xs := rs.map V.ref)) (fun i acc H' => ∃ as : List Addr, acc = as.map V.ref ∧ RingsAt H' as (((allRings g).take i).filter fun r => decide (1 < r.length))) (by rw [List.length_map]; exact small1000 (by omega)) hD
        (fun i acc H H' t h => ?_) (fun H' s => SqL.of (s _ _ eF)) ⟨[], rfl, .nil⟩ (fun i acc H' x H'' hi sm hB hY Yes No hyes hno => ?_) (fun H' acc s5 e5 l5 hB => ?_)
      · obtain ⟨as, e, r⟩ := h
        exact ⟨as, e, r.at t⟩
      · obtain ⟨rfl, hx⟩ := hY
        obtain ⟨as, rfl, hB⟩ := hB
        rw [List.length_map] at hi
        rw [List.getElem?_map, List.getElem?_eq_getElem hi] at hx
        cases hx
        obtain ⟨r, hr, et⟩ := paired_get hR (List.getElem?_eq_getElem hi)
        have et : H'' rs[i] = some (.tup (nl r)) := sm _ _ et
        refine ⟨rfl, .ref rs[i], rfl, rs[i], _, rfl, .inr (SqT.of et), _, _, rfl, rfl, _, rfl, ?_⟩
        have ef : ((allRings g).take (i + 1)).filter (fun r => decide (1 < r.length)) = ((allRings g).take i).filter (fun r => decide (1 < r.length)) ++ [r].filter (fun r => decide (1 < r.length)) := by
          rw [List.take_add_one, hr, List.filter_append]
          rfl
        by_cases h1 : 1 < r.length
        · rw [decide_eq_true (by rw [List.length_map]; omega)]
          refine iteT ⟨_, rfl, hyes _ _ (Same.refl _) ⟨as ++ [rs[i]], by rw [List.map_append]; rfl, ?_⟩⟩
          rw [ef, List.filter_cons_of_pos (by rw [decide_eq_true h1])]
          exact Paired.snoc hB et
        · rw [decide_eq_false (by rw [List.length_map]; omega)]
          refine iteF (hno _ (Same.refl _) ⟨as, rfl, ?_⟩)
          rw [ef, List.filter_cons_of_neg (by rw [decide_eq_false h1]; decide)]
          show RingsAt _ _ (_ ++ [])
          rw [List.append_nil]
          exact hB
      · obtain ⟨as, rfl, hB⟩ := hB
        have et : (allRings g).take (rs.map V.ref).length = allRings g := List.take_of_length_le (by rw [List.length_map, lR]; exact Nat.le_refl _)
        rw [et] at hB
        exact q H' D as (Same.trans sH s5) e5 hB
end
end SW
end
section
set_option Elab.async false
set_option linter.all false
set_option maxRecDepth 100000
set_option maxHeartbeats 1000000
namespace SW
open PySem PySem.Spec PyProof.Rows L2

abbrev sDist : Stmt := topS 14
abbrev sLast : Stmt := topS 15
abbrev sNear : Stmt := topS 16
theorem scDist : FnScope ["one", "other", "ring"] ["one", "other"] (defScope sDist) := ⟨rfl, rfl, rfl, by decide +kernel, rfl, by decide +kernel, by decide +kernel⟩
theorem scLast : FnScope ["one", "other", "goals", "some", "guest"] ["one", "other"] (defScope sLast) := ⟨rfl, rfl, rfl, by decide +kernel, rfl, by decide +kernel, by decide +kernel⟩
theorem scNear : FnScope ["one", "other", "found"] ["one", "other"] (defScope sNear) := ⟨rfl, rfl, rfl, by decide +kernel, rfl, by decide +kernel, by decide +kernel⟩
/-- a pair of the last one who differs, made by f, or None -/
def spPair (f : Nat → Nat → Int × Int) : Sp := fun vs H Q _ => ∃ (a b : Addr) (L M : Line), vs = [.ref a, .ref b] ∧ Two H a b L M ∧
  (∀ H', Same H H' → (∀ x, x < L.length → (goals L M).getD x 9 = x) → Q .non H') ∧
  ∀ H' p x, Same H H' → x < L.length → (goals L M).getD x 9 ≠ x → (∀ y, y < L.length → (goals L M).getD y 9 ≠ y → (arrs L).getD y 0 ≤ (arrs L).getD x 0) → PairAt H' p (f x ((goals L M).getD x 9)) → Q (.ref p) H'
theorem sum_pred : ∀ {rs : List (List Nat)}, (∀ r ∈ rs, 1 < r.length) → (rs.map fun r => ((nl r).length : Int) - 1).sum = ((rs.map fun r => r.length - 1).sum : Nat)
  | [], _ => rfl
  | r :: rs, h => by
    have h1 := h r List.mem_cons_self
    have ih := sum_pred (rs := rs) fun x hx => h x (List.mem_cons_of_mem _ hx)
    rw [List.map_cons, List.map_cons, List.sum_cons, List.sum_cons, ih, List.length_map]
    omega
section
variable {P : Program} {w : World} {K : PySem.W.Frag} {mg : Str → Option Value} {base : Heap}
theorem ok_dist {f fR : Addr} {fd fdR : FuncData} {k : Nat} (T : Blt mg) (F : Fun K "distance" "distance" sDist f fd)
    (GR : FnOk P w K mg base CX0 k fR fdR ["one", "other"] spRings) (gR : mg "rings" = some (.ref fR)) (kR : PySem.W.keepIn K (.ref fR) = true) (bR : Binds K fdR ["one", "other"] []) :
    FnOk P w K mg base CX0 (k + 1) f fd ["one", "other"] spDist := by
  refine F.ok scDist (fun vs H Q E h => ?_) (fun cdv A outer s H vs Q E hr h => ?_)
  · obtain ⟨a, b, L, M, rfl, _⟩ := h
    rfl
  · obtain ⟨a, b, L, M, rfl, t2, q⟩ := h
    refine ⟨_, pss_one (ps_ret (pe_callB (cr_sum rfl) (by rfl) T.sum (by decide +kernel) (pa_cons
      (pe_lc (own := [("ring", 2)]) (g := gName 2) (tt := tYes) (te := tOp (rI0 fun i j => .int (i - j)) (tCB (fun xs H Q => ∃ p ys, xs = [.ref p] ∧ (SqL K H p ys ∨ SqT K H p ys) ∧ Q (.int ys.length) H) (tCons (tVar 2) tNil)) (tC (.int 1))) rfl scDist.nd
        (pi_list (pe_call GR hr (by rfl) gR kR bR .nil pass0 (pa_cons (pv 0) (pa_cons (pv 1) pa_nil))))
        (blkOk_by (N := ["one", "other", "ring"]) (sc := defScope sDist) (by decide +kernel)) (fun _ _ _ _ _ => pg_name (i := 2) scDist.nd rfl (.inl rfl)) (fun _ _ _ _ _ => pts_nil)
        (fun _ _ _ _ _ => pe_op op_sub (pe_callB call_len_seq (by rfl) T.len PySem.boot_len (pa_cons (pv 2) pa_nil)) pe_int)) pa_nil))), ?_⟩
    have hle := t2.le
    have hall := t2.isP.all t2.le
    refine ⟨.ref a, rfl, .ref b, rfl, a, b, L, M, rfl, t2, fun H1 p1 rs s1 e1 hR => ?_⟩
    have lR := Paired.length hR
    have lF : (ringsF (goals L M)).length ≤ 5 := Nat.le_trans (List.length_filter_le _ _) hall.2.2.2.2.2.1
    refine ⟨p1, rfl, ⟨_, SqL.of e1⟩, fun D hD => ?_⟩
    refine lc_acc (walk_list (K := K) (a := p1) (xs := rs.map V.ref)) (fun i acc _ => acc = ((ringsF (goals L M)).take i).map fun r => V.int (((nl r).length : Int) - 1)) (by rw [List.length_map]; exact small1000 (by omega)) hD
      (fun _ _ _ _ _ h => h) (fun H' s => SqL.of (s _ _ e1)) rfl (fun i acc H0 x H' hi sm hB hY Yes No hyes hno => ?_) (fun H' acc s5 e5 l5 hB => ?_)
    · obtain ⟨rfl, hx⟩ := hY
      rw [List.length_map] at hi
      rw [List.getElem?_map, List.getElem?_eq_getElem hi] at hx
      cases hx
      obtain ⟨r, hr', et⟩ := paired_get hR (List.getElem?_eq_getElem hi)
      have et : H' rs[i] = some (.tup (nl r)) := sm _ _ et
      refine ⟨rfl, .ref rs[i], rfl, rs[i], _, rfl, .inr (SqT.of et), _, _, rfl, rfl, hyes _ _ (Same.refl _) ?_⟩
      rw [hB, List.take_add_one, hr', List.map_append]
      rfl
    · have et : (ringsF (goals L M)).take (rs.map V.ref).length = ringsF (goals L M) := List.take_of_length_le (by rw [List.length_map, lR]; exact Nat.le_refl _)
      rw [et] at hB
      refine ⟨D, (ringsF (goals L M)).map fun r => ((nl r).length : Int) - 1, rfl, SqL.of (by rw [List.map_map]; rw [e5, hB]; rfl), ?_⟩
      have es := sum_pred (rs := ringsF (goals L M)) fun r hr => of_decide_eq_true (List.mem_filter.mp hr).2
      show Q (.int _) H'
      rw [es]
      exact q H' (Same.trans s1 s5)
theorem ok_last {f fG fO : Addr} {fd fdG fdO : FuncData} {k : Nat} (T : Blt mg) (F : Fun K "last_swap" "last_swap" sLast f fd)
    (GG : FnOk P w K mg base CX0 k fG fdG ["one", "other"] spGoals) (gG : mg "goals_of" = some (.ref fG)) (kG : PySem.W.keepIn K (.ref fG) = true) (bG : Binds K fdG ["one", "other"] [])
    (GO : FnOk P w K mg base CX0 k fO fdO ["stays"] spOrd) (gO : mg "order_of" = some (.ref fO)) (kO : PySem.W.keepIn K (.ref fO) = true) (bO : Binds K fdO ["stays"] []) :
    FnOk P w K mg base CX0 (k + 1) f fd ["one", "other"] (spPair fun x y => (x, y)) := by
  refine F.ok scLast (fun vs H Q E h => ?_) (fun cdv A outer s H vs Q E hr h => ?_)
  · obtain ⟨a, b, L, M, rfl, _⟩ := h
    rfl
  · obtain ⟨a, b, L, M, rfl, t2, q0, q1⟩ := h
    refine ⟨_, pss_cons (ps_set (i := 2) scLast.nd rfl (.inr rfl) (pe_call GG hr (by rfl) gG kG bG .nil pass0 (pa_cons (pv 0) (pa_cons (pv 1) pa_nil))))
      (pss_cons (ps_setLc (i := 3) (own := [("guest", 4)]) (g := gName 4) (tt := tTest (tOp rNe (tOp (rIxL K) (tVar 2) (tVar 4)) (tVar 4))) rfl scLast.nd rfl rfl (sw_true rfl rfl rfl (by decide +kernel))
        (pi_list (pe_call GO hr (by rfl) gO kO bO .nil pass0 (pa_cons (pv 0) pa_nil)))
        (blkOk_by (N := ["one", "other", "goals", "some", "guest"]) (sc := defScope sLast) (by decide +kernel)) (fun _ _ _ _ _ => pg_name (i := 4) scLast.nd rfl (.inl rfl))
        (fun _ _ _ _ _ => pts_one (pt_cmpR op_ne (pe_ix ix_list (pv 2) (pv 4) (fun _ _ => rfl)) (pv 4) (nomark _))) (fun _ _ _ _ _ => pv 4))
      (pss_one (ps_ret (pe_ifExp (pt_cmpR op_gt (pe_callB call_len_seq (by rfl) T.len PySem.boot_len (pa_cons (pv 3) pa_nil)) pe_int (nomark _))
        (pe_tup (pa_cons (pe_ix ix_list (pv 3) (pe_un un_neg pe_int) (fun _ _ => rfl)) (pa_cons (pe_ix ix_list (pv 2) (pe_ix ix_list (pv 3) (pe_un un_neg pe_int) (fun _ _ => rfl)) (fun _ _ => rfl)) pa_nil))) pe_non)))), ?_⟩
    have hp := t2.isP
    have hML := t2.len
    have hle := t2.le
    have hgl : (goals L M).length = L.length := hp.len
    generalize hg : goals L M = g at *
    refine ⟨.ref a, rfl, .ref b, rfl, a, b, L, M, rfl, t2.one, t2.other, by omega, by omega, fun d hd => t2.perm.mem_iff.mpr hd, fun H2 pg s2 nG eg => ?_⟩
    rw [hg] at eg
    refine ⟨.ref a, rfl, a, L, rfl, t2.one.same s2, by omega, fun H3 po ord s3 eo hperm hsrt => ?_⟩
    have eg3 := s3 _ _ eg
    have hol : ord.length = L.length := by rw [hperm.length_eq, List.length_range]
    have hmem : ∀ x, x ∈ ord ↔ x < L.length := fun x => hperm.mem_iff.trans List.mem_range
    refine ⟨po, rfl, ⟨_, SqL.of eo⟩, fun D hD => ?_⟩
    refine lc_acc (walk_list (K := K) (a := po) (xs := nl ord)) (fun i acc _ => acc = nl ((ord.take i).filter fun x => decide (g.getD x 9 ≠ x))) (by rw [List.length_map]; exact small1000 (by omega)) hD
      (fun _ _ _ _ _ h => h) (fun H' s => SqL.of (s _ _ eo)) rfl (fun i acc H0 x H' hi sm hB hY Yes No hyes hno => ?_) (fun H' acc s5 e5 l5 hB => ?_)
    · obtain ⟨rfl, hx⟩ := hY
      rw [List.length_map] at hi
      rw [nl_get hi] at hx
      cases hx
      have hlt : ord[i] < g.length := by rw [hgl]; exact (hmem _).mp (List.getElem_mem _)
      refine ⟨rfl, .ref pg, rfl, _, rfl, pg, _, _, _, rfl, rfl, SqL.of (sm _ _ eg3), atI_nat (nl_getD (d := 9) hlt), _, rfl, rfl, _, rfl, ?_⟩
      have ef : (ord.take (i + 1)).filter (fun x => decide (g.getD x 9 ≠ x)) = (ord.take i).filter (fun x => decide (g.getD x 9 ≠ x)) ++ [ord[i]].filter (fun x => decide (g.getD x 9 ≠ x)) := by
        rw [List.take_add_one, List.getElem?_eq_getElem hi, List.filter_append]
        rfl
      by_cases h1 : g.getD ord[i] 9 = ord[i]
      · rw [h1, decide_eq_true rfl]
        refine iteF (hno _ (Same.refl _) ?_)
        rw [ef, List.filter_cons_of_neg (by rw [decide_eq_false (fun z => z h1)]; decide), hB]
        show _ = nl (_ ++ [])
        rw [List.append_nil]
      · rw [decide_eq_false (fun z => by injection z with z; omega)]
        refine iteT ⟨_, rfl, hyes _ _ (Same.refl _) ?_⟩
        rw [ef, List.filter_cons_of_pos (p := fun x => decide (g.getD x 9 ≠ x)) (decide_eq_true h1), hB]
        unfold nl
        rw [List.map_append]
        rfl
    · have et : ord.take (nl ord).length = ord := List.take_of_length_le (by rw [List.length_map]; exact Nat.le_refl _)
      rw [et] at hB
      subst hB
      have sA := Same.trans (Same.trans s2 s3) s5
      refine ⟨.ref D, rfl, D, _, rfl, .inl (SqL.of e5), _, _, rfl, rfl, _, rfl, ?_⟩
      generalize hs : ord.filter (fun x => decide (g.getD x 9 ≠ x)) = sm at *
      have hsm : ∀ x, x ∈ sm ↔ x < L.length ∧ g.getD x 9 ≠ x := fun x => by
        rw [← hs, List.mem_filter, hmem, decide_eq_true_iff]
      cases hsl : sm.length with
      | zero =>
        have e0 : sm = [] := List.length_eq_zero_iff.mp hsl
        rw [decide_eq_false (by rw [List.length_map, hsl]; decide)]
        refine iteF (q0 H' sA fun x hx => ?_)
        refine Classical.byContradiction fun z => ?_
        have := (hsm x).mpr ⟨hx, z⟩
        rw [e0] at this
        cases this
      | succ m =>
        rw [decide_eq_true (by rw [List.length_map, hsl]; omega)]
        have hm : m < sm.length := by omega
        have etk : sm.take (m + 1) = sm := List.take_of_length_le (by omega)
        have hl1 : atI (nl sm) (-1) = some (.int (sm.getD m 9 : Nat)) := by
          have := nl_last (l := sm) (k := m) (d := 9) hm
          rwa [etk] at this
        have hx := (hsm (sm.getD m 9)).mp (by rw [List.getD_eq_getElem?_getD, List.getElem?_eq_getElem hm]; exact List.getElem_mem _)
        refine iteT ⟨.ref D, rfl, 1, rfl, D, _, _, _, rfl, rfl, SqL.of e5, hl1, .ref pg, rfl, .ref D, rfl, 1, rfl, D, _, _, _, rfl, rfl, SqL.of e5, hl1, pg, _, _, _, rfl, rfl, SqL.of (s5 _ _ eg3), atI_nat (nl_getD (d := 9) (by rw [hgl]; exact hx.1)), by show 2 ≤ sizeLine; decide, fun p np => ?_⟩
        refine q1 _ p (sm.getD m 9) (Same.trans sA (same_upd np)) hx.1 hx.2 (fun y hy hny => ?_) upd_same
        have hym := (hsm y).mpr ⟨hy, hny⟩
        obtain ⟨j, hj, rfl⟩ := List.mem_iff_getElem.mp hym
        have hsrt2 : sm.Pairwise (fun i j => (arrs L).getD i 0 ≤ (arrs L).getD j 0) := by
          rw [← hs]
          exact hsrt.sublist List.filter_sublist
        have e9 : sm.getD m 9 = sm[m] := by rw [List.getD_eq_getElem?_getD, List.getElem?_eq_getElem hm]; rfl
        rw [e9]
        by_cases hjm : j = m
        · subst hjm
          exact Int.le_refl _
        · exact List.pairwise_iff_getElem.mp hsrt2 j m hj hm (by omega)
theorem ok_near {f fL fS : Addr} {fd fdL fdS : FuncData} {k : Nat} (T : Blt mg) (F : Fun K "nearer" "nearer" sNear f fd)
    (GL : FnOk P w K mg base CX0 k fL fdL ["one", "other"] spBar) (gL : mg "look_leads" = some (.ref fL)) (kL : PySem.W.keepIn K (.ref fL) = true) (bL : Binds K fdL ["one", "other"] [])
    (GS : FnOk P w K mg base CX0 k fS fdS ["one", "other"] (spPair fun x y => (x, y))) (gS : mg "last_swap" = some (.ref fS)) (kS : PySem.W.keepIn K (.ref fS) = true) (bS : Binds K fdS ["one", "other"] []) :
    FnOk P w K mg base CX0 (k + 1) f fd ["one", "other"] (spPair fun x y => (((min x y : Nat) : Int), ((max x y : Nat) : Int))) := by
  refine F.ok scNear (fun vs H Q E h => ?_) (fun cdv A outer s H vs Q E hr h => ?_)
  · obtain ⟨a, b, L, M, rfl, _⟩ := h
    rfl
  · obtain ⟨a, b, L, M, rfl, t2, q0, q1⟩ := h
    refine ⟨_, pss_cons (ps_expr (pe_call GL hr (by rfl) gL kL bL .nil pass0 (pa_cons (pv 0) (pa_cons (pv 1) pa_nil))))
      (pss_cons (ps_set (i := 2) scNear.nd rfl (.inl rfl) (pe_call GS hr (by rfl) gS kS bS .nil pass0 (pa_cons (pv 0) (pa_cons (pv 1) pa_nil))))
      (pss_one (ps_ret (pe_ifExp (pt_cmpR op_isN (pv 2) pe_non (nomark _)) pe_non
        (pe_tup (pa_cons (pe_callB (cr_minT rfl hr.units) (by rfl) T.min (by decide +kernel) (pa_cons (pv 2) pa_nil)) (pa_cons (pe_callB (cr_maxT rfl hr.units) (by rfl) T.max (by decide +kernel) (pa_cons (pv 2) pa_nil)) pa_nil))))))), ?_⟩
    have hle := t2.le
    refine ⟨.ref a, rfl, .ref b, rfl, a, b, L, M, rfl, t2.one, t2.other, by omega, t2.arr, t2.perm, fun H1 s1 => ?_⟩
    refine ⟨.ref a, rfl, .ref b, rfl, a, b, L, M, rfl, t2.same s1, fun H2 s2 hid => ?_, fun H2 p x s2 hx hne hmax hp => ?_⟩
    · exact ⟨_, rfl, rfl, _, rfl, iteT (q0 H2 (Same.trans s1 s2) hid)⟩
    · refine ⟨_, rfl, rfl, _, rfl, iteF ?_⟩
      refine ⟨.ref p, rfl, p, _, _, rfl, SqT.of hp, .ref p, rfl, p, _, _, rfl, SqT.of hp, by show 2 ≤ sizeLine; decide, fun r nr => ?_⟩
      refine q1 _ r x (Same.trans (Same.trans s1 s2) (same_upd nr)) hx hne hmax ?_
      show upd _ _ _ r = _
      rw [upd_same]
      have e1 : (if ((goals L M).getD x 9 : Int) < (x : Int) then ((goals L M).getD x 9 : Int) else (x : Int)) = ((min x ((goals L M).getD x 9) : Nat) : Int) := by
        split <;> omega
      have e2 : (if (x : Int) < ((goals L M).getD x 9 : Int) then ((goals L M).getD x 9 : Int) else (x : Int)) = ((max x ((goals L M).getD x 9) : Nat) : Int) := by
        split <;> omega
      show _ = some (HO.tup [V.int ((min x ((goals L M).getD x 9) : Nat) : Int), V.int ((max x ((goals L M).getD x 9) : Nat) : Int)])
      rw [← e1, ← e2]
end
end SW
end
section
set_option Elab.async false
set_option linter.all false
set_option maxRecDepth 100000
set_option maxHeartbeats 1000000
namespace SW
open PySem PySem.Spec PyProof.Rows L2

abbrev sTake : Stmt := topS 19
abbrev sOf : Stmt := topS 21
abbrev sStrewn : Stmt := topS 22
abbrev NT : List Str := ["_law_box_here", "_law_span", "_law_found", "_law_once"]
theorem scTake : FnScope NT ["_law_box_here", "_law_span"] (defScope sTake) := ⟨rfl, rfl, rfl, by decide +kernel, rfl, by decide +kernel, by decide +kernel⟩
theorem scOf : FnScope ["_law_box_here", "_law_some"] ["_law_box_here", "_law_some"] (defScope sOf) := ⟨rfl, rfl, rfl, by decide +kernel, rfl, by decide +kernel, by decide +kernel⟩
theorem scStrewn : FnScope ["_law_box_here", "_law_some", "_law_left", "_law_found"] ["_law_box_here", "_law_some"] (defScope sStrewn) := ⟨rfl, rfl, rfl, by decide +kernel, rfl, by decide +kernel, by decide +kernel⟩
/-- a source of draws, of which at most m were made -/
def BoxAt (H : Hp) (b : Addr) (m : Nat) : Prop := ∃ x y z : Int, H b = some (.lst [.int x, .int y, .int z]) ∧ 0 ≤ x ∧ 0 ≤ y ∧ y ≤ 4611686018427387904 ∧ 0 ≤ z ∧ z ≤ (m : Int)
/-- all but the source is as it was -/
def Exb (b : Addr) (H H' : Hp) : Prop := ∀ c o, c ≠ b → H c = some o → H' c = some o
theorem Exb.refl (b : Addr) (H : Hp) : Exb b H H := fun _ _ _ h => h
theorem Exb.trans {b : Addr} {H H1 H2 : Hp} (a : Exb b H H1) (c : Exb b H1 H2) : Exb b H H2 := fun x o h e => c x o h (a x o h e)
theorem Exb.of {b : Addr} {H H' : Hp} (s : Same H H') : Exb b H H' := fun x o _ e => s x o e
theorem Exb.upd {b : Addr} {H : Hp} {o : HO} : Exb b H (upd H b o) := fun x u h e => by rw [upd_ne h]; exact e
theorem BoxAt.le {H : Hp} {b : Addr} {m n : Nat} (h : BoxAt H b m) (l : m ≤ n) : BoxAt H b n := by
  obtain ⟨x, y, z, e, a1, a2, a3, a4, a5⟩ := h
  exact ⟨x, y, z, e, a1, a2, a3, a4, by omega⟩
theorem BoxAt.same {H H' : Hp} {b : Addr} {m : Nat} (h : BoxAt H b m) (s : Same H H') : BoxAt H' b m := by
  obtain ⟨x, y, z, e, a⟩ := h
  exact ⟨x, y, z, s _ _ e, a⟩
theorem BoxAt.keep {H H' : Hp} {b : Addr} {m : Nat} (h : BoxAt H b m) (s : H' b = H b) : BoxAt H' b m := by
  obtain ⟨x, y, z, e, a⟩ := h
  exact ⟨x, y, z, s.trans e, a⟩
theorem BoxAt.lst {H : Hp} {b : Addr} {m : Nat} (h : BoxAt H b m) : ∃ xs, H b = some (.lst xs) := by
  obtain ⟨x, y, z, e, a⟩ := h
  exact ⟨_, e⟩
/-- the tuples stay behind a draw -/
theorem Exb.tk {b : Addr} {H H' : Hp} {m : Nat} (e : Exb b H H') (h : BoxAt H b m) : Tk H H' := fun c xs hc => by
  obtain ⟨ys, hb⟩ := h.lst
  exact e c _ (fun z => by rw [z, hb] at hc; cases hc) hc
theorem Exb.mut {b p : Addr} {H H' : Hp} {o : HO} (e : Exb b H H') (h : H p = none) : Exb b H (L2.upd H' p o) := fun a u hb ha => by
  rw [upd_ne (ne_of_none ha h)]
  exact e a u hb ha
def spTake : Sp := fun vs H Q _ => ∃ (b : Addr) (n : Int) (m : Nat), vs = [.ref b, .int n] ∧ 0 < n ∧ n ≤ 10000000 ∧ BoxAt H b m ∧ m ≤ 1000000000 ∧ ∀ H' r, Exb b H H' → BoxAt H' b (m + 1) → 0 ≤ r → r < n → Q (.int r) H'
def spOf : Sp := fun vs H Q _ => ∃ (b l : Addr) (ns : List Int) (m : Nat), vs = [.ref b, .ref l] ∧ H l = some (.lst (ns.map V.int)) ∧ l ≠ b ∧ 0 < ns.length ∧ ns.length ≤ 1000 ∧ BoxAt H b m ∧ m ≤ 1000000000 ∧ ∀ H' r, Exb b H H' → BoxAt H' b (m + 1) → r ∈ ns → Q (.int r) H'
def spStrewn : Sp := fun vs H Q _ => ∃ (b l : Addr) (zs : List Addr) (m : Nat), vs = [.ref b, .ref l] ∧ H l = some (.lst (zs.map V.ref)) ∧ l ≠ b ∧ zs.length ≤ 100000 ∧ (∀ z ∈ zs, ∃ L, LineAt H z L) ∧ BoxAt H b m ∧ m + zs.length ≤ 1000000000 ∧
  ∀ H' p zs', Exb b H H' → BoxAt H' b (m + zs.length) → H' p = some (.lst (List.map V.ref zs')) → (∀ z ∈ zs', z ∈ zs) → zs'.length ≤ zs.length → Q (.ref p) H'
theorem erase_map {α β : Type} (f : α → β) : ∀ (l : List α) (k : Nat), (l.map f).eraseIdx k = (l.eraseIdx k).map f
  | [], _ => rfl
  | _ :: _, 0 => rfl
  | x :: l, k + 1 => by
    have ih := erase_map f l k
    show f x :: (l.map f).eraseIdx k = f x :: (l.eraseIdx k).map f
    rw [ih]
theorem pj {j : Int} (h : 0 < j) : 0 < j := h
theorem lines_of {H : Hp} : ∀ {zs : List Addr}, (∀ z ∈ zs, ∃ L, LineAt H z L) → ∃ Ls, Paired (LineAt H) zs Ls
  | [], _ => ⟨[], .nil⟩
  | z :: zs, h => by
    obtain ⟨L, e⟩ := h z List.mem_cons_self
    obtain ⟨Ls, p⟩ := lines_of (zs := zs) fun x hx => h x (List.mem_cons_of_mem _ hx)
    exact ⟨L :: Ls, .cons e p⟩
section
variable {P : Program} {w : World} {K : PySem.W.Frag} {mg : Str → Option Value} {base : Heap}
theorem ok_take {f : Addr} {fd : FuncData} {k : Nat} (F : Fun K "_law_take" "_law_take" sTake f fd) : FnOk P w K mg base CX0 (k + 1) f fd ["_law_box_here", "_law_span"] spTake := by
  refine F.ok scTake (fun vs H Q E h => ?_) (fun cdv A outer s H vs Q E hr h => ?_)
  · obtain ⟨b, n, m, rfl, _⟩ := h
    rfl
  · obtain ⟨b, n, m, rfl, hn, hn2, hb, hm, q⟩ := h
    refine ⟨_, pss_cons (ps_if (pt_cmpR op_gt (pe_ix ix_list (pv 0) pe_int (fun _ _ => rfl)) pe_int (nomark _))
        (pss_cons (ps_set (i := 2) scTake.nd rfl (.inl rfl) (pe_op op_mod (pe_ix ix_list (pv 0) pe_int (fun _ _ => rfl)) (pv 1)))
        (pss_cons (ps_asg (pe_op op_fdiv (pe_ix ix_list (pv 0) pe_int (fun _ _ => rfl)) (pv 1)) (pg_sub (pv 0) pe_int set_list))
        (pss_one (ps_ret (pv 2))))) pss_nil)
      (pss_cons (ps_if (pt_cmpR op_gt (pv 1) (pe_op op_pow pe_int pe_int) (nomark _)) pss_never pss_nil)
      (pss_cons (ps_asg (pe_op op_add (pe_ix ix_list (pv 0) pe_int (fun _ _ => rfl)) pe_int) (pg_sub (pv 0) pe_int set_list))
      (pss_cons (ps_set (i := 3) scTake.nd rfl (.inl rfl) (pe_op op_mod (pe_op op_pow (pe_op op_add (pe_ix ix_list (pv 0) pe_int (fun _ _ => rfl)) (pe_op op_mul pe_int (pe_ix ix_list (pv 0) pe_int (fun _ _ => rfl)))) pe_int) pe_int))
      (pss_one (ps_ret (pe_op op_mod (pe_op op_fdiv (pe_op op_mod (pe_op op_add (pe_op op_mul (pv 3) (pe_op op_add (pe_op op_mod (pv 3) pe_int) pe_int)) (pe_op op_mul (pe_ix ix_list (pv 0) pe_int (fun _ _ => rfl)) pe_int)) pe_int) pe_int) (pv 1))))))), ?_⟩
    obtain ⟨x, y, z, eb, x0, y0, y1, z0, z1⟩ := hb
    refine ⟨.ref b, rfl, b, _, 0, .int x, rfl, rfl, SqL.of eb, rfl, _, _, rfl, rfl, _, rfl, ?_⟩
    by_cases hx : 0 < x
    · rw [decide_eq_true hx]
      refine iteT ?_
      refine ⟨.ref b, rfl, b, _, 0, .int x, rfl, rfl, SqL.of eb, rfl, _, rfl, _, _, rfl, rfl, hn, ?_⟩
      refine ⟨.ref b, rfl, b, _, 0, .int x, rfl, rfl, SqL.of eb, rfl, _, rfl, _, _, rfl, rfl, ⟨hn, by omega⟩, ?_⟩
      refine ⟨.ref b, rfl, b, _, 0, 0, rfl, rfl, eb, rfl, ?_⟩
      refine ⟨_, rfl, ?_⟩
      refine q _ _ Exb.upd ⟨x / n, y, z, upd_same, Int.ediv_nonneg x0 (by omega), y0, y1, z0, by omega⟩ (Int.emod_nonneg _ (by omega)) (Int.emod_lt_of_pos _ hn)
    · rw [decide_eq_false hx]
      refine iteF ?_
      refine ⟨_, rfl, _, _, rfl, rfl, ⟨by decide, by decide, by decide⟩, _, _, rfl, rfl, _, rfl, ?_⟩
      have e7 : decide ((10 : Int) ^ (7 : Int).toNat < n) = false := decide_eq_false (by
        have : (10 : Int) ^ (7 : Int).toNat = 10000000 := by decide
        rw [this]
        omega)
      rw [e7]
      refine iteF ?_
      refine ⟨.ref b, rfl, b, _, 2, .int z, rfl, rfl, SqL.of eb, rfl, _, _, rfl, rfl, ?_⟩
      refine ⟨.ref b, rfl, b, _, 2, 2, rfl, rfl, eb, rfl, ?_⟩
      have eb2 : (upd H b (.lst [.int x, .int y, .int (z + 1)])) b = some (.lst [.int x, .int y, .int (z + 1)]) := upd_same
      refine ⟨.ref b, rfl, b, _, 1, .int y, rfl, rfl, SqL.of eb2, rfl, .ref b, rfl, b, _, 2, .int (z + 1), rfl, rfl, SqL.of eb2, rfl, _, _, rfl, rfl, .inl ⟨by decide, by decide⟩, _, _, rfl, rfl, _, _, rfl, rfl, ⟨by decide, by decide, by omega⟩, _, _, rfl, rfl, pj (by decide), ?_⟩
      generalize ho : (y + 39373 * (z + 1)) ^ (5 : Int).toNat % 2147483647 = o
      have o0 : 0 ≤ o := by rw [← ho]; exact Int.emod_nonneg _ (by decide)
      have o1 : o < 2147483647 := by rw [← ho]; exact Int.emod_lt_of_pos _ (by decide)
      refine ⟨_, rfl, _, rfl, _, _, rfl, rfl, pj (by decide), _, _, rfl, rfl, _, _, rfl, rfl, .inl ⟨by omega, by omega⟩, .ref b, rfl, b, _, 2, .int (z + 1), rfl, rfl, SqL.of eb2, rfl, _, _, rfl, rfl, .inr ⟨by decide, by decide⟩, _, _, rfl, rfl, _, _, rfl, rfl, pj (by decide), _, _, rfl, rfl, ⟨by decide, by decide⟩, _, rfl, _, _, rfl, rfl, hn, ?_⟩
      exact q _ _ Exb.upd ⟨x, y, z + 1, upd_same, x0, y0, y1, by omega, by omega⟩ (Int.emod_nonneg _ (by omega)) (Int.emod_lt_of_pos _ hn)
theorem ok_of {f fT : Addr} {fd fdT : FuncData} {k : Nat} (T : Blt mg) (F : Fun K "_law_of" "_law_of" sOf f fd)
    (GT : FnOk P w K mg base CX0 k fT fdT ["_law_box_here", "_law_span"] spTake) (gT : mg "_law_take" = some (.ref fT)) (kT : PySem.W.keepIn K (.ref fT) = true) (bT : Binds K fdT ["_law_box_here", "_law_span"] []) :
    FnOk P w K mg base CX0 (k + 1) f fd ["_law_box_here", "_law_some"] spOf := by
  refine F.ok scOf (fun vs H Q E h => ?_) (fun cdv A outer s H vs Q E hr h => ?_)
  · obtain ⟨b, l, ns, m, rfl, _⟩ := h
    rfl
  · obtain ⟨b, l, ns, m, rfl, hl, ne, h0, h1, hb, hm, q⟩ := h
    refine ⟨_, pss_one (ps_ret (pe_ix ix_list (pv 1) (pe_call GT hr (by rfl) gT kT bT .nil pass0 (pa_cons (pv 0) (pa_cons (pe_callB call_len_seq (by rfl) T.len PySem.boot_len (pa_cons (pv 1) pa_nil)) pa_nil))) (fun _ _ => rfl))), ?_⟩
    refine ⟨_, rfl, .ref b, rfl, .ref l, rfl, l, _, rfl, .inl (SqL.of hl), b, _, m, rfl, by rw [List.length_map]; omega, by rw [List.length_map]; omega, hb, hm, fun H' r ex hb' r0 r1 => ?_⟩
    rw [List.length_map] at r1
    have hr : r.toNat < ns.length := by omega
    have er : ((r.toNat : Nat) : Int) = r := by omega
    refine ⟨l, ns.map V.int, r, .int ns[r.toNat], rfl, rfl, SqL.of (ex _ _ ne hl), ?_, q H' _ ex hb' (List.getElem_mem _)⟩
    have := atI_nat (xs := ns.map V.int) (j := r.toNat) (v := .int ns[r.toNat]) (by rw [List.getElem?_map, List.getElem?_eq_getElem hr]; rfl)
    rwa [er] at this
theorem ok_strewn {f fT : Addr} {fd fdT : FuncData} {k : Nat} (T : Blt mg) (F : Fun K "_law_strewn" "_law_strewn" sStrewn f fd)
    (GT : FnOk P w K mg base CX0 k fT fdT ["_law_box_here", "_law_span"] spTake) (gT : mg "_law_take" = some (.ref fT)) (kT : PySem.W.keepIn K (.ref fT) = true) (bT : Binds K fdT ["_law_box_here", "_law_span"] []) :
    FnOk P w K mg base CX0 (k + 1) f fd ["_law_box_here", "_law_some"] spStrewn := by
  refine F.ok scStrewn (fun vs H Q E h => ?_) (fun cdv A outer s H vs Q E hr h => ?_)
  · obtain ⟨b, l, zs, m, rfl, _⟩ := h
    rfl
  · obtain ⟨b, l, zs, m, rfl, hl, ne, hz, hzL, hb, hm, q⟩ := h
    refine ⟨_, pss_cons (ps_par (i := 2) (j := 3) rfl scStrewn.nd rfl rfl (by decide) rfl rfl (pa_cons (pe_callTy call_list_of (by rfl) T.list (by decide +kernel) (pa_cons (pv 1) pa_nil)) (pa_cons (pe_lst pa_nil) pa_nil)) (by rfl))
      (pss_cons (ps_while PassesOwn.never (pt_cmpR (op_neNilL hr.units) (pv 2) (pe_lst pa_nil) (nomark _))
        (pss_one (ps_expr (pe_bm PySem.F.plainAttrs_list PySem.F.slot_list_append PySem.F.type_list_append mt_append (pv 3) (pa_cons
          (pe_bm PySem.F.plainAttrs_list PySem.F.slot_list_pop PySem.F.type_list_pop mt_popAt (pv 2) (pa_cons
            (pe_call GT hr (by rfl) gT kT bT .nil pass0 (pa_cons (pv 0) (pa_cons (pe_callB call_len_seq (by rfl) T.len PySem.boot_len (pa_cons (pv 2) pa_nil)) pa_nil))) pa_nil)) pa_nil)))))
      (pss_one (ps_ret (pv 3)))), ?_⟩
    refine ⟨.ref l, rfl, l, _, rfl, .inl (SqL.of hl), fun pl nl' => ?_⟩
    refine ⟨Nat.zero_le _, fun pf nf => ?_⟩
    refine ⟨_, _, rfl, ?_⟩
    obtain ⟨bx, hbx⟩ := hb.lst
    have s1 : Same H (upd H pl (.lst (zs.map V.ref))) := same_upd nl'
    have s2 := Same.trans s1 (same_upd (o := .lst []) nf)
    have hnf : H pf = none := Same.free s1 nf
    have nbl : b ≠ pl := ne_of_none hbx nl'
    have nbf : b ≠ pf := ne_of_none hbx hnf
    have nlf : pl ≠ pf := ne_of_none upd_same nf
    refine ⟨fun μ σ H' => ∃ ls fs : List Addr, μ = ls.length ∧ σ = [some (.ref b), some (.ref l), some (.ref pl), some (.ref pf)] ∧ Exb b H H' ∧ BoxAt H' b (m + fs.length) ∧ H' pl = some (.lst (ls.map V.ref)) ∧ H' pf = some (.lst (fs.map V.ref)) ∧ (∀ z ∈ ls, z ∈ zs) ∧ (∀ z ∈ fs, z ∈ zs) ∧ ls.length + fs.length = zs.length,
      ⟨_, zs, [], rfl, rfl, Exb.of s2, (hb.same s2).le (by omega), by rw [upd_ne nlf, upd_same], by rw [upd_same]; rfl, fun z h => h, (fun z h => nomatch h), by simp⟩, fun μ σ H' hW => ?_⟩
    obtain ⟨ls, fs, rfl, rfl, ex, hb', el, ef, hls, hfs, hsum⟩ := hW
    have hLs : ∃ Ls, Paired (LineAt H') ls Ls := lines_of fun z hz => by
      obtain ⟨L, hL⟩ := hzL z (hls z hz)
      exact ⟨L, hL.at (ex.tk hb)⟩
    obtain ⟨Ls, hLs⟩ := hLs
    refine ⟨.ref pl, rfl, Nat.zero_le _, fun pn nn => ?_⟩
    have sn : Same H' (upd H' pn (.lst [])) := same_upd nn
    refine ⟨pl, pn, ls, Ls, rfl, rfl, SqL.of (sn _ _ el), L2.Paired.mapP hLs fun _ _ h => h.same sn, SqL.of upd_same, _, rfl, ?_⟩
    have ex2 := Exb.trans ex (Exb.of sn)
    have hb2 := hb'.same sn
    have el2 := sn _ _ el
    have ef2 := sn _ _ ef
    generalize upd H' pn (.lst []) = H2 at *
    cases hl0 : ls with
    | nil =>
      subst hl0
      refine iteF ?_
      have e : fs.length = zs.length := by simpa using hsum
      exact ⟨_, rfl, q _ pf fs ex2 (by rw [← e]; exact hb2) ef2 hfs (by omega)⟩
    | cons z0 zr =>
      rw [← hl0]
      have hpos : 0 < ls.length := by rw [hl0]; exact Nat.zero_lt_succ _
      have hbne : (!ls.isEmpty) = true := by rw [hl0]; rfl
      rw [hbne]
      refine iteT ⟨fun σ' H'' => ∃ ls' fs' : List Addr, ls'.length + 1 = ls.length ∧ σ' = [some (.ref b), some (.ref l), some (.ref pl), some (.ref pf)] ∧ Exb b H H'' ∧ BoxAt H'' b (m + fs'.length) ∧ H'' pl = some (.lst (ls'.map V.ref)) ∧ H'' pf = some (.lst (fs'.map V.ref)) ∧ (∀ z ∈ ls', z ∈ zs) ∧ (∀ z ∈ fs', z ∈ zs) ∧ ls'.length + fs'.length = zs.length, fun σ' H'' hN => ?_, ?_⟩
      · obtain ⟨ls', fs', hlt, r⟩ := hN
        exact ⟨ls'.length, by omega, ls', fs', rfl, r⟩
      · refine ⟨.ref pf, rfl, .inl ⟨rfl, _, SqL.of ef2⟩, .ref pl, rfl, .inl ⟨rfl, _, SqL.of el2⟩, .ref b, rfl, .ref pl, rfl, pl, _, rfl, .inl (SqL.of el2), b, _, m + fs.length, rfl, by rw [List.length_map]; omega, by rw [List.length_map]; omega, hb2, by omega, fun H3 r ex3 hb3 r0 r1 => ?_⟩
        rw [List.length_map] at r1
        have hr : r.toNat < ls.length := by omega
        have el3 := ex3 _ _ (Ne.symm nbl) el2
        have ef3 := ex3 _ _ (Ne.symm nbf) ef2
        refine ⟨pl, ls.map V.ref, r, r.toNat, .ref ls[r.toNat], rfl, rfl, el3, by omega, by omega, ?_, by rw [List.getElem?_map, List.getElem?_eq_getElem hr]; rfl, ?_⟩
        · exact PySem.StrLaws.seqIndex_nonneg r0 (by rw [List.length_map]; exact r1)
        have ef4 : (upd H3 pl (.lst ((ls.map V.ref).eraseIdx r.toNat))) pf = some (.lst (fs.map V.ref)) := by rw [upd_ne (Ne.symm nlf)]; exact ef3
        refine ⟨pf, _, _, rfl, rfl, ef4, by rw [List.length_map]; exact Nat.lt_of_le_of_lt (by omega : fs.length ≤ 100000) (by decide), ?_⟩
        have hnl : H pl = none := nl'
        refine ⟨ls.eraseIdx r.toNat, fs ++ [ls[r.toNat]], ?_, rfl, ?_, ?_, ?_, ?_, ?_, ?_, ?_⟩
        · rw [List.length_eraseIdx_of_lt hr]; omega
        · exact Exb.mut (Exb.mut (Exb.trans ex2 ex3) hnl) hnf
        · rw [List.length_append, List.length_singleton]
          refine (hb3.keep ?_).le (by omega)
          rw [upd_ne nbf, upd_ne nbl]
        · rw [upd_ne nlf, upd_same, erase_map]
        · rw [upd_same, List.map_append]
          rfl
        · exact fun z hz => hls z (List.mem_of_mem_eraseIdx hz)
        · intro z hz
          rcases List.mem_append.mp hz with hz | hz
          · exact hfs z hz
          · rw [List.mem_singleton.mp hz]
            exact hls _ (List.getElem_mem _)
        · rw [List.length_eraseIdx_of_lt hr, List.length_append, List.length_singleton]; omega
end
end SW
end
section
set_option Elab.async false
set_option linter.all false
set_option maxRecDepth 100000
set_option maxHeartbeats 1000000
namespace SW
open PySem PySem.Spec PyProof.Rows L2

abbrev sBox : Stmt := topS 18
abbrev sCells : Stmt := topS 20
abbrev sRand : Stmt := topS 23
abbrev NRa : List Str := ["_law_box_here", "_law_most", "_law_top", "_law_found", "_law_taken", "_law_turn", "_law_come_day", "_law_leave"]
theorem scBox : FnScope ["_law_script", "_law_k", "_law_cell"] ["_law_script", "_law_k"] (defScope sBox) := ⟨rfl, rfl, rfl, by decide +kernel, rfl, by decide +kernel, by decide +kernel⟩
theorem scCells : FnScope ["_law_script", "_law_most", "_law_cells_here", "_law_k", "_law_cell"] ["_law_script", "_law_most"] (defScope sCells) := ⟨rfl, rfl, rfl, by decide +kernel, rfl, by decide +kernel, by decide +kernel⟩
theorem scRand : FnScope NRa ["_law_box_here", "_law_most", "_law_top"] (defScope sRand) := ⟨rfl, rfl, rfl, by decide +kernel, rfl, by decide +kernel, by decide +kernel⟩
def spRand : Sp := fun vs H Q _ => ∃ (b : Addr) (top : Int) (m : Nat), vs = [.ref b, .int 5, .int top] ∧ 0 ≤ top ∧ top ≤ 1000 ∧ BoxAt H b m ∧ m ≤ 900000000 ∧
  ∀ H' p L, Exb b H H' → BoxAt H' b (m + 20) → LineAt H' p L → Good L → Q (.ref p) H'
theorem ints_in (d : Int) (l : List Int) : inV (.int d) (l.map V.int) = l.contains d := by
  unfold inV
  rw [List.any_map, List.contains_eq_any_beq]
  congr 1
  funext x
  show (x == d) = (d == x)
  rw [Bool.eq_iff_iff, beq_iff_eq, beq_iff_eq]
  exact ⟨fun e => e.symm, fun e => e.symm⟩
theorem ints_flat (l : List Int) : (l.map V.int).all flatV = true := by
  rw [List.all_eq_true]
  intro x hx
  obtain ⟨n, _, rfl⟩ := List.mem_map.mp hx
  rfl
/-- how many of the taken days are not ahead of d -/
def later (l : List Int) (d : Int) : Nat := (l.filter fun x => decide (d ≤ x)).length
theorem later_le {l : List Int} {d : Int} : later l (d + 1) ≤ later l d := by
  unfold later
  rw [← List.countP_eq_length_filter, ← List.countP_eq_length_filter]
  refine List.countP_mono_left fun x _ hx => ?_
  have := of_decide_eq_true hx
  exact decide_eq_true (by omega)
theorem later_lt : ∀ {l : List Int} {d : Int}, d ∈ l → later l (d + 1) < later l d
  | x :: l, d, h => by
    have key : ∀ (e : Int), later (x :: l) e = later l e + if e ≤ x then 1 else 0 := fun e => by
      unfold later
      rw [List.filter_cons]
      by_cases z : e ≤ x
      · rw [if_pos (decide_eq_true z), if_pos z, List.length_cons]
      · rw [if_neg (by rw [decide_eq_false z]; decide), if_neg z, Nat.add_zero]
    rw [key, key]
    rcases List.mem_cons.mp h with rfl | h
    · have := later_le (l := l) (d := d)
      rw [if_neg (by omega), if_pos (by omega)]
      omega
    · have := later_lt h
      split <;> split <;> omega
theorem good_snoc {L : Line} {c d : Int} (hl : L.length < 5) (g : Good L) (hcd : c ≤ d) (hd : d ∉ days L) : Good (L ++ [(c, d)]) := by
  refine ⟨by rw [List.length_append, List.length_singleton]; omega, ?_, fun x hx => ?_⟩
  · unfold days
    rw [List.map_append]
    refine List.nodup_append.mpr ⟨g.nd, by simp, fun a ha b hb e => ?_⟩
    rw [List.map_singleton, List.mem_singleton] at hb
    subst e
    rw [hb] at ha
    exact hd ha
  · rcases List.mem_append.mp hx with hx | hx
    · exact g.val x hx
    · rw [List.mem_singleton.mp hx]
      exact hcd
section
variable {P : Program} {w : World} {K : PySem.W.Frag} {mg : Str → Option Value} {base : Heap}
theorem ok_rand {f fT : Addr} {fd fdT : FuncData} {k : Nat} (T : Blt mg) (F : Fun K "_law_random_line" "_law_random_line" sRand f fd)
    (GT : FnOk P w K mg base CX0 k fT fdT ["_law_box_here", "_law_span"] spTake) (gT : mg "_law_take" = some (.ref fT)) (kT : PySem.W.keepIn K (.ref fT) = true) (bT : Binds K fdT ["_law_box_here", "_law_span"] []) :
    FnOk P w K mg base CX0 (k + 1) f fd ["_law_box_here", "_law_most", "_law_top"] spRand := by
  refine F.ok scRand (fun vs H Q E h => ?_) (fun cdv A outer s H vs Q E hr h => ?_)
  · obtain ⟨b, top, m, rfl, _⟩ := h
    rfl
  · obtain ⟨b, top, m, rfl, t0, t1, hb, hm, q⟩ := h
    refine ⟨_, pss_cons (ps_par (i := 3) (j := 4) rfl scRand.nd rfl rfl (by decide) rfl rfl (pa_cons (pe_lst pa_nil) (pa_cons (pe_lst pa_nil) pa_nil)) (by rfl))
      (pss_cons (ps_for PassesOwn.never rfl (pi_range1 (by rfl) T.range (pa_cons (pe_call GT hr (by rfl) gT kT bT .nil pass0 (pa_cons (pv 0) (pa_cons (pe_op op_add (pv 1) pe_int) pa_nil))) pa_nil)) (pg_name (i := 5) scRand.nd rfl (.inl rfl))
        (pss_cons (ps_set (i := 6) scRand.nd rfl (.inl rfl) (pe_call GT hr (by rfl) gT kT bT .nil pass0 (pa_cons (pv 0) (pa_cons (pe_op op_add (pv 2) pe_int) pa_nil))))
        (pss_cons (ps_set (i := 7) scRand.nd rfl (.inl rfl) (pe_op op_add (pv 6) (pe_call GT hr (by rfl) gT kT bT .nil pass0 (pa_cons (pv 0) (pa_cons (pe_op op_add (pv 2) pe_int) pa_nil)))))
        (pss_cons (ps_while PassesOwn.never (pt_cmpR op_in_seq (pv 7) (pv 4) (by rfl)) (pss_one (ps_set (i := 7) scRand.nd rfl (.inl rfl) (pe_op op_add (pv 7) pe_int))))
        (pss_cons (ps_expr (pe_bm PySem.F.plainAttrs_list PySem.F.slot_list_append PySem.F.type_list_append mt_append (pv 4) (pa_cons (pv 7) pa_nil)))
        (pss_one (ps_expr (pe_bm PySem.F.plainAttrs_list PySem.F.slot_list_append PySem.F.type_list_append mt_append (pv 3) (pa_cons (pe_tup (pa_cons (pv 6) (pa_cons (pv 7) pa_nil))) pa_nil)))))))))
      (pss_one (ps_ret (pe_callTy call_tuple_of (by rfl) T.tuple (by decide +kernel) (pa_cons (pv 3) pa_nil))))), ?_⟩
    refine ⟨Nat.zero_le _, fun pf nf => ?_⟩
    refine ⟨Nat.zero_le _, fun pt nt => ?_⟩
    refine ⟨_, _, rfl, ?_⟩
    obtain ⟨bx, hbx⟩ := hb.lst
    have s1 : Same H (upd H pf (.lst [])) := same_upd nf
    have s2 := Same.trans s1 (same_upd (o := .lst []) nt)
    have hnt : H pt = none := Same.free s1 nt
    have nbf : b ≠ pf := ne_of_none hbx nf
    have nbt : b ≠ pt := ne_of_none hbx hnt
    have nft : pf ≠ pt := ne_of_none upd_same nt
    refine ⟨.ref b, rfl, .int 5, rfl, 5, 1, rfl, rfl, b, _, m, rfl, by decide, by decide, hb.same s2, by omega, fun H1 n ex1 hb1 n0 n1 => ?_⟩
    refine ⟨n, rfl, by omega, by omega, ?_⟩
    refine for_it (walk_range (lo := 0) (n := n.toNat)) (fun i σ H' => ∃ (y5 y6 y7 : Option V) (ps : List Addr) (L : Line), σ = [some (.ref b), some (.int 5), some (.int top), some (.ref pf), some (.ref pt), y5, y6, y7] ∧
        Exb b H H' ∧ BoxAt H' b (m + 1 + 2 * i) ∧ H' pf = some (.lst (ps.map V.ref)) ∧ PairsAt H' ps L ∧ H' pt = some (.lst ((days L).map V.int)) ∧ Good L ∧ L.length = i)
      ⟨none, none, none, [], [], rfl, Exb.trans (Exb.of s2) ex1, hb1.le (by omega), ex1 _ _ (Ne.symm nbf) (by rw [upd_ne nft, upd_same]; rfl), .nil, ex1 _ _ (Ne.symm nbt) (by rw [upd_same]; rfl), ⟨by decide, by simp [days], fun _ h => nomatch h⟩, rfl⟩ (fun _ _ _ _ _ => trivial)
      (fun i x σ H0 H' hi p hY => ?_) (fun σ H' p => ?_)
    · obtain ⟨rfl, hx⟩ := hY
      obtain ⟨y5, y6, y7, ps, L, rfl, ex, hb', ef, hP, et, hG, hLi⟩ := p
      have hi5 : i < 5 := by omega
      -- come
      refine ⟨.ref b, rfl, .int top, rfl, top, 1, rfl, rfl, b, _, m + 1 + 2 * i, rfl, by omega, by omega, hb', by omega, fun H2 c ex2 hb2 c0 c1 => ?_⟩
      -- leave
      refine ⟨_, rfl, .ref b, rfl, .int top, rfl, top, 1, rfl, rfl, b, _, m + 1 + 2 * i + 1, rfl, by omega, by omega, hb2, by omega, fun H3 d ex3 hb3 d0 d1 => ?_⟩
      refine ⟨_, _, rfl, rfl, ?_⟩
      have ef3 := ex3 _ _ (Ne.symm nbf) (ex2 _ _ (Ne.symm nbf) ef)
      have et3 := ex3 _ _ (Ne.symm nbt) (ex2 _ _ (Ne.symm nbt) et)
      have hP3 := (hP.at (ex2.tk hb')).at (ex3.tk hb2)
      have exA := Exb.trans (Exb.trans ex ex2) ex3
      -- while
      refine ⟨fun μ σ H4 => ∃ e : Int, μ = later (days L) e ∧ c ≤ e ∧ σ = [some (.ref b), some (.int 5), some (.int top), some (.ref pf), some (.ref pt), some x, some (.int c), some (.int e)] ∧ H4 = H3, ⟨_, c + d, rfl, by omega, rfl, rfl⟩, fun μ σ H4 hW => ?_⟩
      obtain ⟨e, rfl, hce, rfl, rfl⟩ := hW
      refine ⟨_, rfl, _, rfl, pt, _, rfl, .inl (SqL.of et3), rfl, ints_flat _, _, rfl, ?_⟩
      rw [ints_in]
      cases hin : (days L).contains e with
      | true =>
        have hm' : e ∈ days L := by simpa using hin
        refine iteT ⟨fun σ' H5 => σ' = [some (.ref b), some (.int 5), some (.int top), some (.ref pf), some (.ref pt), some x, some (.int c), some (.int (e + 1))] ∧ H5 = H4, fun σ' H5 hN => ?_, ?_⟩
        · obtain ⟨rfl, rfl⟩ := hN
          exact ⟨_, later_lt hm', e + 1, rfl, by omega, rfl, rfl⟩
        · exact ⟨_, rfl, _, _, rfl, rfl, rfl, rfl⟩
      | false =>
        have hm' : e ∉ days L := by simpa using hin
        refine iteF ?_
        -- taken.append
        refine ⟨.ref pt, rfl, .inl ⟨rfl, _, SqL.of et3⟩, _, rfl, pt, _, _, rfl, rfl, et3, by rw [List.length_map, days_len]; exact small1000 (by omega), ?_⟩
        have ef4 : (upd H4 pt (.lst ((days L).map V.int ++ [.int e]))) pf = some (.lst (ps.map V.ref)) := by rw [upd_ne nft]; exact ef3
        have tk4 : Tk H4 (upd H4 pt (.lst ((days L).map V.int ++ [.int e]))) := tk_lst et3
        -- found.append((come, leave))
        refine ⟨.ref pf, rfl, .inl ⟨rfl, _, SqL.of ef4⟩, _, rfl, _, rfl, by show 2 ≤ sizeLine; decide, fun pp np => ?_⟩
        have s5 : Same (upd H4 pt (.lst ((days L).map V.int ++ [.int e]))) (upd (upd H4 pt (.lst ((days L).map V.int ++ [.int e]))) pp (.tup [.int c, .int e])) := same_upd np
        have ef5 := s5 _ _ ef4
        have lps := Paired.length hP3
        refine ⟨pf, _, _, rfl, rfl, ef5, by rw [List.length_map]; exact small1000 (by omega), ?_⟩
        have npf : pp ≠ pf := fun z => by rw [z, ef4] at np; cases np
        have npt : pt ≠ pp := ne_of_none upd_same np
        have npb : b ≠ pp := fun z => by
          obtain ⟨ys, hys⟩ := hb3.lst
          have : (upd H4 pt (.lst ((days L).map V.int ++ [.int e]))) b = some (.lst ys) := by rw [upd_ne nbt]; exact hys
          rw [z, np] at this
          cases this
        refine ⟨some x, some (.int c), some (.int e), ps ++ [pp], L ++ [(c, e)], rfl, ?_, ?_, ?_, ?_, ?_, good_snoc (by omega) hG hce hm', by rw [List.length_append, List.length_singleton]; omega⟩
        · exact Exb.mut (Exb.trans (Exb.mut exA hnt) (Exb.of s5)) nf
        · refine (hb3.keep ?_).le (by omega)
          rw [upd_ne nbf, upd_ne npb, upd_ne nbt]
        · rw [upd_same, List.map_append]
          rfl
        · refine Paired.snoc ((hP3.at tk4).at (Tk.trans (Tk.of s5) (tk_lst ef5))) ?_
          show upd _ _ _ pp = _
          rw [upd_ne npf, upd_same]
        · rw [upd_ne (Ne.symm nft)]
          have e9 := s5 pt _ upd_same
          rw [e9]
          unfold days
          rw [List.map_append, List.map_append]
          rfl
    · obtain ⟨y5, y6, y7, ps, L, rfl, ex, hb', ef, hP, et, hG, hLi⟩ := p
      refine ⟨_, rfl, pf, _, rfl, .inl ⟨SqL.of ef, fun t nt' => ?_⟩⟩
      have sN : Same H' (upd H' t (.tup (ps.map V.ref))) := same_upd nt'
      exact q _ t L (Exb.trans ex (Exb.of sN)) ((hb'.same sN).le (by omega)) ⟨ps, upd_same, hP.at (Tk.of sN)⟩ hG
end
end SW
end
section
set_option Elab.async false
set_option linter.all false
set_option maxRecDepth 100000
set_option maxHeartbeats 1000000
namespace SW
open PySem PySem.Spec PyProof.Rows L2

def spBox : Sp := fun vs H Q _ => ∃ (a : Addr) (ns : List Int) (k : Nat), vs = [.ref a, .int (k : Nat)] ∧ H a = some (.lst (ns.map V.int)) ∧ k < ns.length ∧ k ≤ 1000 ∧ ∀ H' p, Same H H' → BoxAt H' p 0 → Q (.ref p) H'
def spCells (K : PySem.W.Frag) : Sp := fun vs H Q _ => ∃ (a : Addr) (ns : List Int), vs = [.ref a, .int 2] ∧ SqL K H a (ns.map V.int) ∧ ns.length ≤ 100000 ∧
  ∀ H' p ms, Same H H' → H' p = some (.lst (List.map V.int ms)) → ms.length ≤ 2 → Q (.ref p) H'
theorem cut_ints (ns : List Int) (lo hi : Option Int) : ∃ ms : List Int, cutV (ns.map V.int) lo hi = ms.map V.int ∧ ms.length ≤ ns.length ∧ ms = (ns.drop (HT.sIx ns.length 0 lo)).take (HT.sIx ns.length ns.length hi - HT.sIx ns.length 0 lo) := by
  refine ⟨_, ?_, ?_, rfl⟩
  · unfold cutV
    rw [List.length_map, ← List.map_drop, ← List.map_take]
  · rw [List.length_take, List.length_drop]; omega
theorem bz (b : Bool) : -(2 ^ 64) < (if b = true then (1 : Int) else 0) ∧ (if b = true then (1 : Int) else 0) < 2 ^ 64 := by cases b <;> decide
theorem set_ints (ns : List Int) (j : Nat) (x : Int) : (ns.map V.int).set j (.int x) = (ns.set j x).map V.int := by
  rw [List.map_set]
section
variable {P : Program} {w : World} {K : PySem.W.Frag} {mg : Str → Option Value} {base : Heap}
theorem ok_box {f : Addr} {fd : FuncData} {k : Nat} (T : Blt mg) (F : Fun K "_law_box" "_law_box" sBox f fd) : FnOk P w K mg base CX0 (k + 1) f fd ["_law_script", "_law_k"] spBox := by
  refine F.ok scBox (fun vs H Q E h => ?_) (fun cdv A outer s H vs Q E hr h => ?_)
  · obtain ⟨a, ns, k, rfl, _⟩ := h
    rfl
  · obtain ⟨a, ns, k, rfl, ha, hk, hk2, q⟩ := h
    refine ⟨_, pss_cons (ps_set (i := 2) scBox.nd rfl (.inl rfl) (pe_ifExp (pt_cmpR op_lt (pv 1) (pe_callB call_len_seq (by rfl) T.len PySem.boot_len (pa_cons (pv 0) pa_nil)) (nomark _)) (pe_ix ix_list (pv 0) (pv 1) (fun _ _ => rfl)) pe_int))
      (pss_one (ps_ret (pe_lst (pa_cons (pe_op op_mul (pe_callB call_abs (by rfl) T.abs (by decide +kernel) (pa_cons (pv 2) pa_nil))
          (pe_callTy call_int1 (by rfl) T.int (by decide +kernel) (pa_cons (pe_cmpR op_ge (pe_callB call_abs (by rfl) T.abs (by decide +kernel) (pa_cons (pv 2) pa_nil)) (pe_op op_pow pe_int pe_int) (nomark _)) pa_nil)))
        (pa_cons (pe_op op_add (pe_op op_add (pe_op op_mod (pv 2) pe_int) (pe_op op_mul pe_int (pv 1))) pe_int) (pa_cons pe_int pa_nil)))))), ?_⟩
    refine ⟨_, rfl, .ref a, rfl, a, _, rfl, .inl (SqL.of ha), _, _, rfl, rfl, _, rfl, ?_⟩
    rw [decide_eq_true (by rw [List.length_map]; omega)]
    refine iteT ⟨.ref a, rfl, _, rfl, a, _, _, .int ns[k], rfl, rfl, SqL.of ha, atI_nat (by rw [List.getElem?_map, List.getElem?_eq_getElem hk]; rfl), ?_⟩
    generalize ns[k] = c
    refine ⟨_, rfl, c, rfl, _, rfl, c, rfl, _, _, rfl, rfl, ⟨by decide, by decide, by decide⟩, _, _, rfl, rfl, .inr ⟨_, rfl, ?_⟩⟩
    refine ⟨_, _, rfl, rfl, .inr ⟨?_, ?_⟩, ?_⟩
    · exact (bz _).1
    · exact (bz _).2
    refine ⟨_, rfl, _, _, rfl, rfl, pj (by decide), _, rfl, _, _, rfl, rfl, .inl ⟨by decide, by decide⟩, _, _, rfl, rfl, _, _, rfl, rfl, (by show 3 ≤ sizeLine; decide), fun p np => ?_⟩
    refine q _ p (same_upd np) ⟨_, _, 0, upd_same, ?_, ?_, ?_, by decide, by decide⟩
    · split <;> split <;> omega
    · have := Int.emod_nonneg c (show (2305843009213693951 : Int) ≠ 0 by decide)
      omega
    · have := Int.emod_lt_of_pos c (show (0 : Int) < 2305843009213693951 by decide)
      omega
theorem ok_cells {f : Addr} {fd : FuncData} {k : Nat} (T : Blt mg) (F : Fun K "_law_cells" "_law_cells" sCells f fd) : FnOk P w K mg base CX0 (k + 1) f fd ["_law_script", "_law_most"] (spCells K) := by
  refine F.ok scCells (fun vs H Q E h => ?_) (fun cdv A outer s H vs Q E hr h => ?_)
  · obtain ⟨a, ns, rfl, _⟩ := h
    rfl
  · obtain ⟨a, ns, rfl, ha, hn, q⟩ := h
    refine ⟨_, pss_cons (ps_set (i := 2) scCells.nd rfl (.inl rfl) (pe_callTy call_list_of (by rfl) T.list (by decide +kernel) (pa_cons (pe_slice sl_list (pv 0) po_none (po_some (pv 1))) pa_nil)))
      (pss_cons (ps_for PassesOwn.never rfl (pi_enum (by rfl) T.enumerate (pa_cons (pe_slice sl_list (pv 0) (po_some (pv 1)) (po_some pe_int)) pa_nil)) (pg_tup (n := 2) rfl (pgs_cons (pg_name (i := 3) scCells.nd rfl (.inl rfl)) (pgs_cons (pg_name (i := 4) scCells.nd rfl (.inl rfl)) pgs_nil)))
        (pss_one (ps_asg (pe_op op_add (pe_ix ix_list (pv 2) (pe_op op_mod (pv 3) (pv 1)) (fun _ _ => rfl)) (pe_op op_mul (pv 4) (pe_op op_add (pv 3) pe_int))) (pg_sub (pv 2) (pe_op op_mod (pv 3) (pv 1)) set_list))))
      (pss_one (ps_ret (pe_ifExp (pt_cmpR (op_neNilI hr.units) (pv 2) (pe_lst pa_nil) (nomark _)) (pv 2) (pe_lst (pa_cons pe_int pa_nil)))))), ?_⟩
    obtain ⟨m1, c1, c2, c3⟩ := cut_ints ns none (some 2)
    obtain ⟨m2, d1, d2, d3⟩ := cut_ints ns (some 2) (some 63)
    have hm1 : m1.length ≤ 2 := by rw [c3, List.length_take]; simp [HT.sIx]; omega
    have h12 : 0 < m2.length → m1.length = 2 := fun h => by
      rw [d3, List.length_take, List.length_drop] at h
      rw [c3, List.length_take, List.length_drop]
      simp [HT.sIx] at h ⊢
      omega
    refine ⟨_, rfl, .int 2, rfl, 2, rfl, a, _, rfl, ha, fun p np => ?_⟩
    rw [c1]
    have s1 : Same H (upd H p (.lst (m1.map V.int))) := same_upd np
    refine ⟨p, _, rfl, .inl (SqL.of upd_same), fun pc nc => ?_⟩
    have s2 := Same.trans s1 (same_upd (o := .lst (m1.map V.int)) nc)
    have e2 : upd (upd H p (.lst (m1.map V.int))) pc (.lst (m1.map V.int)) pc = some (.lst (m1.map V.int)) := upd_same
    generalize upd (upd H p (.lst (m1.map V.int))) pc (.lst (m1.map V.int)) = H2 at *
    refine ⟨_, rfl, .int 2, rfl, 2, rfl, 63, rfl, a, _, rfl, s2.seq ha, fun pd nd => ?_⟩
    rw [d1]
    have nHc : H pc = none := Same.free s1 nc
    have ed : upd H2 pd (.lst (m2.map V.int)) pd = some (.lst (m2.map V.int)) := upd_same
    have s3 : Same H2 (upd H2 pd (.lst (m2.map V.int))) := same_upd nd
    have ncd : pc ≠ pd := ne_of_none e2 nd
    have e3 := s3 _ _ e2
    have s3H := Same.trans s2 s3
    generalize upd H2 pd (.lst (m2.map V.int)) = H3 at *
    refine ⟨pd, _, rfl, SqL.of ed, ?_⟩
    refine for_it (walk_enum (K := K) (a := pd) (xs := m2.map V.int)) (fun i σ H' => ∃ (y3 y4 : Option V) (ms : List Int), σ = [some (.ref a), some (.int 2), some (.ref pc), y3, y4] ∧ Same H H' ∧ H' pd = some (.lst (m2.map V.int)) ∧ H' pc = some (.lst (ms.map V.int)) ∧ ms.length = m1.length)
      ⟨none, none, m1, rfl, s3H, ed, e3, rfl⟩ (fun i σ H' _ h => ?_) (fun i x σ H0 H' hi p hY => ?_) (fun σ H' p => ?_)
    · obtain ⟨y3, y4, ms, rfl, _, h, _⟩ := h
      exact SqL.of h
    · obtain ⟨U, x0, y0, rfl, nU, rfl, hx0, hy0⟩ := hY
      obtain ⟨y3, y4, ms, rfl, sH, hd, hc, hl⟩ := p
      cases hx0
      rw [List.length_map] at hi
      have hy0 : (m2.map V.int)[i]? = some y0 := hy0
      rw [List.getElem?_map, List.getElem?_eq_getElem hi] at hy0
      cases hy0
      have hl2 : ms.length = 2 := hl.trans (h12 (by omega))
      generalize m2[i] = c
      have sU : Same H0 (upd H0 U (.tup [.int (i : Nat), .int c])) := same_upd nU
      have hc' := sU _ _ hc
      have hd' := sU _ _ hd
      have sH' := Same.trans sH sU
      refine ⟨U, _, rfl, SqT.of upd_same, rfl, _, _, rfl, _, _, rfl, rfl, ?_⟩
      generalize upd H0 U (.tup [.int (i : Nat), .int c]) = H4 at *
      have hj : ((i : Nat) : Int) % 2 = ((i % 2 : Nat) : Int) := by omega
      have hj2 : i % 2 < ms.length := by omega
      refine ⟨_, rfl, _, rfl, _, rfl, _, _, rfl, rfl, pj (by decide), pc, _, _, .int ms[i % 2], rfl, rfl, SqL.of hc', ?_, _, rfl, _, rfl, _, _, rfl, rfl, _, _, rfl, rfl, .inr ⟨by omega, ?_⟩, _, _, rfl, rfl, ?_⟩
      · rw [hj]
        exact atI_nat (by rw [List.getElem?_map, List.getElem?_eq_getElem hj2]; rfl)
      · omega
      · refine ⟨_, rfl, _, rfl, _, rfl, _, _, rfl, rfl, pj (by decide), pc, _, _, i % 2, rfl, rfl, hc', ?_, ?_⟩
        · rw [hj, List.length_map]
          show (if _ then _ else _) = _
          rw [if_pos (by omega), if_pos (by omega)]
          rfl
        · refine ⟨_, _, ms.set (i % 2) _, rfl, same_mut sH' nHc, by rw [upd_ne (Ne.symm ncd)]; exact hd', by rw [upd_same, set_ints], by rw [List.length_set]; exact hl⟩
    · obtain ⟨y3, y4, ms, rfl, sH, hd, hc, hl⟩ := p
      refine ⟨_, rfl, Nat.zero_le _, fun pn nn => ?_⟩
      have sn : Same H' (upd H' pn (.lst [])) := same_upd nn
      refine ⟨pc, pn, ms, rfl, rfl, SqL.of (sn _ _ hc), SqL.of upd_same, _, rfl, ?_⟩
      cases hz : ms with
      | nil =>
        exact iteF ⟨by show 1 ≤ sizeLine; decide, fun p np => q _ p [0] (Same.trans (Same.trans sH sn) (same_upd np)) upd_same (by decide)⟩
      | cons m mr =>
        exact iteT ⟨_, rfl, q _ pc ms (Same.trans sH sn) (sn _ _ hc) (by omega)⟩
end
end SW
end
section
set_option Elab.async false
set_option linter.all false
set_option maxRecDepth 100000
set_option maxHeartbeats 1000000
namespace SW
open PySem PySem.Spec PyProof.Rows L2

abbrev sMeet : Stmt := topS 24
abbrev sSwap : Stmt := topS 25
abbrev sDuos : Stmt := topS 26
abbrev NDu : List Str := ["_law_line", "_law_found", "_law_spot", "_law_at"]
theorem scMeet : FnScope ["_law_mine", "_law_its"] ["_law_mine", "_law_its"] (defScope sMeet) := ⟨rfl, rfl, rfl, by decide +kernel, rfl, by decide +kernel, by decide +kernel⟩
theorem scSwap : FnScope ["_law_line", "_law_at", "_law_spot", "_law_found"] ["_law_line", "_law_at", "_law_spot"] (defScope sSwap) := ⟨rfl, rfl, rfl, by decide +kernel, rfl, by decide +kernel, by decide +kernel⟩
theorem scDuos : FnScope NDu ["_law_line"] (defScope sDuos) := ⟨rfl, rfl, rfl, by decide +kernel, rfl, by decide +kernel, by decide +kernel⟩
def spMeet : Sp := fun vs H Q _ => ∃ (a b : Addr) (x y : Int × Int), vs = [.ref a, .ref b] ∧ PairAt H a x ∧ PairAt H b y ∧ Q (.bl (meetF x y)) H
def spSwap : Sp := fun vs H Q _ => ∃ (a : Addr) (L : Line) (i j : Nat), vs = [.ref a, .int (i : Nat), .int (j : Nat)] ∧ LineAt H a L ∧ i < L.length ∧ j < L.length ∧ L.length ≤ 1000 ∧ ∀ H' p, Same H H' → LineAt H' p (swapF L i j) → Q (.ref p) H'
abbrev DuoAt (H : Hp) (t : Addr) (d : Nat × Nat) : Prop := H t = some (.tup [.int (d.1 : Nat), .int (d.2 : Nat)])
def IsDuo (L : Line) (d : Nat × Nat) : Prop := d.1 < d.2 ∧ ∃ (hi : d.1 < L.length) (hj : d.2 < L.length), meetF L[d.1] L[d.2] = true
def spDuos : Sp := fun vs H Q _ => ∃ (a : Addr) (L : Line), vs = [.ref a] ∧ LineAt H a L ∧ L.length ≤ 5 ∧
  ∀ H' p ts ds, Same H H' → H p = none → H' p = some (.lst (List.map V.ref ts)) → Paired (DuoAt H') ts ds → ds.Nodup → ds.length ≤ 25 → (∀ d, d ∈ ds ↔ IsDuo L d) → Q (.ref p) H'
theorem pairs_set {H : Hp} {p : Addr} {x : Int × Int} (hp : PairAt H p x) : ∀ {ps : List Addr} {L : Line} (i : Nat), PairsAt H ps L → PairsAt H (ps.set i p) (L.set i x)
  | _, _, _, .nil => .nil
  | _, _, 0, .cons r q => .cons hp q
  | _, _, i + 1, .cons r q => .cons r (pairs_set hp i q)
theorem paired_perm {α β : Type} {R : α → β → Prop} {xs xs' : List α} (h : xs.Perm xs') : ∀ {ys : List β}, Paired R xs ys → ∃ ys' : List β, ys.Perm ys' ∧ Paired R xs' ys' := by
  induction h with
  | nil => exact fun p => ⟨_, List.Perm.refl _, p⟩
  | cons x _ ih =>
    intro ys p
    cases p with
    | cons r q =>
      obtain ⟨ys', e, q'⟩ := ih q
      exact ⟨_, e.cons _, .cons r q'⟩
  | swap x y l =>
    intro ys p
    cases p with
    | cons r q =>
      cases q with
      | cons r2 q2 => exact ⟨_, List.Perm.swap .., .cons r2 (.cons r q2)⟩
  | trans _ _ ih1 ih2 =>
    intro ys p
    obtain ⟨ys1, e1, q1⟩ := ih1 p
    obtain ⟨ys2, e2, q2⟩ := ih2 q1
    exact ⟨ys2, e1.trans e2, q2⟩
/-- the pairs with the second guest j -/
def duoRow (L : Line) (n j : Nat) : List (Nat × Nat) := ((List.range n).filter fun i => meetF (L.getD i (0, 0)) (L.getD j (0, 0))).map fun i => (i, j)
def duoL (L : Line) : Nat → List (Nat × Nat)
  | 0 => []
  | n + 1 => duoL L n ++ duoRow L n n
theorem mem_row {L : Line} {n j : Nat} {d : Nat × Nat} : d ∈ duoRow L n j ↔ d.1 < n ∧ d.2 = j ∧ meetF (L.getD d.1 (0, 0)) (L.getD j (0, 0)) = true := by
  unfold duoRow
  rw [List.mem_map]
  constructor
  · rintro ⟨i, hi, rfl⟩
    obtain ⟨h1, h2⟩ := List.mem_filter.mp hi
    exact ⟨List.mem_range.mp h1, rfl, h2⟩
  · rintro ⟨h1, h2, h3⟩
    exact ⟨d.1, List.mem_filter.mpr ⟨List.mem_range.mpr h1, h3⟩, by rw [← h2]⟩
theorem mem_duoL {L : Line} {d : Nat × Nat} : ∀ {n : Nat}, d ∈ duoL L n ↔ d.1 < d.2 ∧ d.2 < n ∧ meetF (L.getD d.1 (0, 0)) (L.getD d.2 (0, 0)) = true
  | 0 => by simp [duoL]
  | n + 1 => by
    rw [duoL, List.mem_append, mem_duoL (n := n), mem_row]
    constructor
    · rintro (⟨a, b, c⟩ | ⟨a, b, c⟩)
      · exact ⟨a, by omega, c⟩
      · exact ⟨by omega, by omega, by rw [b]; exact c⟩
    · rintro ⟨a, b, c⟩
      by_cases h : d.2 < n
      · exact .inl ⟨a, h, c⟩
      · have e : d.2 = n := by omega
        exact .inr ⟨by omega, e, by rw [← e]; exact c⟩
theorem nodup_row {L : Line} {n j : Nat} : (duoRow L n j).Nodup := by
  unfold duoRow
  exact nodup_map (List.Nodup.sublist List.filter_sublist List.nodup_range) fun a _ b _ e => congrArg Prod.fst e
theorem nodup_duoL {L : Line} : ∀ n : Nat, (duoL L n).Nodup
  | 0 => List.nodup_nil
  | n + 1 => by
    rw [duoL, List.nodup_append]
    refine ⟨nodup_duoL n, nodup_row, fun a ha b hb e => ?_⟩
    subst e
    have h1 := (mem_duoL.mp ha).2.1
    have h2 := (mem_row.mp hb).2.1
    omega
theorem len_duoL {L : Line} : ∀ n : Nat, n ≤ 5 → (duoL L n).length ≤ 5 * n
  | 0, _ => Nat.le_refl _
  | n + 1, h => by
    rw [duoL, List.length_append]
    have h1 := len_duoL (L := L) n (by omega)
    have h2 : (duoRow L n n).length ≤ n := by
      unfold duoRow
      rw [List.length_map]
      exact Nat.le_trans (List.length_filter_le _ _) (by rw [List.length_range]; exact Nat.le_refl _)
    omega
theorem duoL_is {L : Line} {d : Nat × Nat} : d ∈ duoL L L.length ↔ IsDuo L d := by
  rw [mem_duoL]
  constructor
  · rintro ⟨a, b, c⟩
    have hi : d.1 < L.length := Nat.lt_trans a b
    refine ⟨a, hi, b, ?_⟩
    simpa [List.getD_eq_getElem?_getD, List.getElem?_eq_getElem hi, List.getElem?_eq_getElem b] using c
  · rintro ⟨a, hi, b, c⟩
    refine ⟨a, b, ?_⟩
    simpa [List.getD_eq_getElem?_getD, List.getElem?_eq_getElem hi, List.getElem?_eq_getElem b] using c
theorem paired_app {α β : Type} {R : α → β → Prop} : ∀ {xs xs' : List α} {ys ys' : List β}, Paired R xs ys → Paired R xs' ys' → Paired R (xs ++ xs') (ys ++ ys')
  | _, _, _, _, .nil, h => h
  | _, _, _, _, .cons r t, h => .cons r (paired_app t h)
theorem refs_inj {xs ys : List Addr} (h : xs.map V.ref = ys.map V.ref) : xs = ys := by
  have := congrArg (List.map fun v => match v with | V.ref a => a | _ => 0) h
  simpa [List.map_map, Function.comp_def] using this
theorem perm_refs {ys : List V} {ts : List Addr} (h : ys.Perm (ts.map V.ref)) : ∃ ts' : List Addr, ys = ts'.map V.ref ∧ ts.Perm ts' := by
  let g : V → Addr := fun v => match v with | V.ref a => a | _ => 0
  refine ⟨ys.map g, ?_, ?_⟩
  · rw [List.map_map]
    have : ∀ y ∈ ys, (V.ref ∘ g) y = id y := fun y hy => by
      obtain ⟨t, _, rfl⟩ := List.mem_map.mp (h.mem_iff.mp hy)
      rfl
    rw [List.map_congr_left this, List.map_id]
  · have := (h.map g).symm
    rw [List.map_map] at this
    have e : ts.map (g ∘ V.ref) = ts := by
      have : g ∘ V.ref = id := rfl
      rw [this, List.map_id]
    rwa [e] at this
section
variable {P : Program} {w : World} {K : PySem.W.Frag} {mg : Str → Option Value} {base : Heap}
theorem ok_meet {f : Addr} {fd : FuncData} {k : Nat} (T : Blt mg) (F : Fun K "_law_meet" "_law_meet" sMeet f fd) : FnOk P w K mg base CX0 (k + 1) f fd ["_law_mine", "_law_its"] spMeet := by
  refine F.ok scMeet (fun vs H Q E h => ?_) (fun cdv A outer s H vs Q E hr h => ?_)
  · obtain ⟨a, b, x, y, rfl, _⟩ := h
    rfl
  · obtain ⟨a, b, x, y, rfl, ha, hb, q⟩ := h
    refine ⟨_, pss_one (ps_ret (pe_cmpR op_le
      (pe_callB (call_max2 rfl) (by rfl) T.max (by decide +kernel) (pa_cons (pe_ix ix_tup (pv 0) pe_int (fun _ _ => rfl)) (pa_cons (pe_ix ix_tup (pv 1) pe_int (fun _ _ => rfl)) pa_nil)))
      (pe_callB (call_min2 rfl) (by rfl) T.min (by decide +kernel) (pa_cons (pe_ix ix_tup (pv 0) pe_int (fun _ _ => rfl)) (pa_cons (pe_ix ix_tup (pv 1) pe_int (fun _ _ => rfl)) pa_nil))) (nomark _))), ?_⟩
    refine ⟨.ref a, rfl, a, _, 0, .int x.1, rfl, rfl, SqT.of ha, rfl, .ref b, rfl, b, _, 0, .int y.1, rfl, rfl, SqT.of hb, rfl, _, _, rfl, .ref a, rfl, a, _, 1, .int x.2, rfl, rfl, SqT.of ha, rfl, .ref b, rfl, b, _, 1, .int y.2, rfl, rfl, SqT.of hb, rfl, _, _, rfl, _, _, rfl, rfl, ?_⟩
    have e : decide ((if x.1 < y.1 then y.1 else x.1) ≤ (if y.2 < x.2 then y.2 else x.2)) = meetF x y := by
      unfold meetF
      rw [decide_eq_decide]
      split <;> split <;> omega
    show Q (.bl (decide ((if x.1 < y.1 then y.1 else x.1) ≤ (if y.2 < x.2 then y.2 else x.2)))) H
    rw [e]
    exact q
theorem ok_swap {f : Addr} {fd : FuncData} {k : Nat} (T : Blt mg) (F : Fun K "_law_swap" "_law_swap" sSwap f fd) : FnOk P w K mg base CX0 (k + 1) f fd ["_law_line", "_law_at", "_law_spot"] spSwap := by
  refine F.ok scSwap (fun vs H Q E h => ?_) (fun cdv A outer s H vs Q E hr h => ?_)
  · obtain ⟨a, L, i, j, rfl, _⟩ := h
    rfl
  · obtain ⟨a, L, i, j, rfl, hL, hi, hj, hn, q⟩ := h
    refine ⟨_, pss_cons (ps_set (i := 3) scSwap.nd rfl (.inl rfl) (pe_callTy call_list_of (by rfl) T.list (by decide +kernel) (pa_cons (pv 0) pa_nil)))
      (pss_cons (ps_asg (pe_tup (pa_cons (pe_tup (pa_cons (pe_ix ix_tup (pe_ix ix_tup (pv 0) (pv 1) (fun _ _ => rfl)) pe_int (fun _ _ => rfl)) (pa_cons (pe_ix ix_tup (pe_ix ix_tup (pv 0) (pv 2) (fun _ _ => rfl)) pe_int (fun _ _ => rfl)) pa_nil)))
          (pa_cons (pe_tup (pa_cons (pe_ix ix_tup (pe_ix ix_tup (pv 0) (pv 2) (fun _ _ => rfl)) pe_int (fun _ _ => rfl)) (pa_cons (pe_ix ix_tup (pe_ix ix_tup (pv 0) (pv 1) (fun _ _ => rfl)) pe_int (fun _ _ => rfl)) pa_nil))) pa_nil)))
        (pg_tup (n := 2) rfl (pgs_cons (pg_sub (pv 3) (pv 1) set_list) (pgs_cons (pg_sub (pv 3) (pv 2) set_list) pgs_nil))))
      (pss_one (ps_ret (pe_callTy call_tuple_of (by rfl) T.tuple (by decide +kernel) (pa_cons (pv 3) pa_nil))))), ?_⟩
    obtain ⟨ps, eps, hpl, hpp⟩ := hL.tup
    obtain ⟨pi, ei, gi⟩ := hpp.get hi
    obtain ⟨pj, ej, gj⟩ := hpp.get hj
    have ai : atI (ps.map V.ref) (i : Int) = some (.ref pi) := atI_nat (by rw [List.getElem?_map, ei]; rfl)
    have aj : atI (ps.map V.ref) (j : Int) = some (.ref pj) := atI_nat (by rw [List.getElem?_map, ej]; rfl)
    refine ⟨.ref a, rfl, a, _, rfl, .inr (SqT.of eps), fun pl nl' => ?_⟩
    have s1 : Same H (upd H pl (.lst (ps.map V.ref))) := same_upd nl'
    have el : upd H pl (.lst (ps.map V.ref)) pl = some (.lst (ps.map V.ref)) := upd_same
    generalize upd H pl (.lst (ps.map V.ref)) = H1 at *
    have hps1 := s1 _ _ eps
    have hgi := s1 _ _ gi
    have hgj := s1 _ _ gj
    refine ⟨.ref a, rfl, .int (i : Nat), rfl, a, _, _, .ref pi, rfl, rfl, SqT.of hps1, ai, pi, _, 0, .int L[i].1, rfl, rfl, SqT.of hgi, rfl, .ref a, rfl, .int (j : Nat), rfl, a, _, _, .ref pj, rfl, rfl, SqT.of hps1, aj, pj, _, 1, .int L[j].2, rfl, rfl, SqT.of hgj, rfl, by show 2 ≤ sizeLine; decide, fun p1 n1 => ?_⟩
    have s2 : Same H1 (upd H1 p1 (.tup [.int L[i].1, .int L[j].2])) := same_upd n1
    have e1 : (upd H1 p1 (.tup [.int L[i].1, .int L[j].2])) p1 = some (.tup [.int L[i].1, .int L[j].2]) := upd_same
    generalize upd H1 p1 (.tup [.int L[i].1, .int L[j].2]) = H2 at *
    refine ⟨.ref a, rfl, .int (j : Nat), rfl, a, _, _, .ref pj, rfl, rfl, SqT.of (s2 _ _ hps1), aj, pj, _, 0, .int L[j].1, rfl, rfl, SqT.of (s2 _ _ hgj), rfl, .ref a, rfl, .int (i : Nat), rfl, a, _, _, .ref pi, rfl, rfl, SqT.of (s2 _ _ hps1), ai, pi, _, 1, .int L[i].2, rfl, rfl, SqT.of (s2 _ _ hgi), rfl, by show 2 ≤ sizeLine; decide, fun p2 n2 => ?_⟩
    have s3 : Same H2 (upd H2 p2 (.tup [.int L[j].1, .int L[i].2])) := same_upd n2
    have e2 : (upd H2 p2 (.tup [.int L[j].1, .int L[i].2])) p2 = some (.tup [.int L[j].1, .int L[i].2]) := upd_same
    generalize upd H2 p2 (.tup [.int L[j].1, .int L[i].2]) = H3 at *
    refine ⟨by show 2 ≤ sizeLine; decide, fun p3 n3 => ?_⟩
    have s4 : Same H3 (upd H3 p3 (.tup [.ref p1, .ref p2])) := same_upd n3
    have e3 : (upd H3 p3 (.tup [.ref p1, .ref p2])) p3 = some (.tup [.ref p1, .ref p2]) := upd_same
    generalize upd H3 p3 (.tup [.ref p1, .ref p2]) = H4 at *
    have s14 := Same.trans s2 (Same.trans s3 s4)
    have el4 := s14 _ _ el
    refine ⟨p3, _, rfl, SqT.of e3, rfl, _, _, rfl, ?_⟩
    refine ⟨.ref pl, rfl, .int (i : Nat), rfl, pl, _, _, i, rfl, rfl, el4, ?_, ?_⟩
    · rw [List.length_map]
      show (if _ then _ else _) = _
      rw [if_pos (by omega), if_pos (by omega)]
      rfl
    refine ⟨_, _, rfl, .ref pl, rfl, .int (j : Nat), rfl, pl, _, _, j, rfl, rfl, upd_same, ?_, ?_⟩
    · rw [List.length_set, List.length_map]
      show (if _ then _ else _) = _
      rw [if_pos (by omega), if_pos (by omega)]
      rfl
    have t4 := tk_lst (ys := (ps.map V.ref).set i (.ref p1)) el4
    have tA := Tk.trans (Tk.trans (Tk.of (Same.trans s1 s14)) t4) (tk_lst (ys := ((ps.map V.ref).set i (.ref p1)).set j (.ref p2)) upd_same)
    have tB := Tk.trans (Tk.trans (Tk.of (Same.trans s3 s4)) t4) (tk_lst (ys := ((ps.map V.ref).set i (.ref p1)).set j (.ref p2)) upd_same)
    have tC := Tk.trans (Tk.trans (Tk.of s4) t4) (tk_lst (ys := ((ps.map V.ref).set i (.ref p1)).set j (.ref p2)) upd_same)
    have sA : Same H (upd (upd H4 pl (.lst ((ps.map V.ref).set i (.ref p1)))) pl (.lst (((ps.map V.ref).set i (.ref p1)).set j (.ref p2)))) := same_mut (same_mut (Same.trans s1 s14) nl') nl'
    have eF : (upd (upd H4 pl (.lst ((ps.map V.ref).set i (.ref p1)))) pl (.lst (((ps.map V.ref).set i (.ref p1)).set j (.ref p2)))) pl = some (.lst (((ps.map V.ref).set i (.ref p1)).set j (.ref p2))) := upd_same
    generalize upd (upd H4 pl (.lst ((ps.map V.ref).set i (.ref p1)))) pl (.lst (((ps.map V.ref).set i (.ref p1)).set j (.ref p2))) = H5 at *
    have e1' := tB _ _ e1
    have e2' := tC _ _ e2
    refine ⟨rfl, .ref pl, rfl, pl, _, rfl, .inl ⟨SqL.of eF, fun t nt => ?_⟩⟩
    have sT : Same H5 (upd H5 t (.tup (((ps.map V.ref).set i (.ref p1)).set j (.ref p2)))) := same_upd nt
    refine q _ t (Same.trans sA sT) ⟨(ps.set i p1).set j p2, ?_, ?_⟩
    · rw [upd_same, List.map_set, List.map_set]
    · unfold swapF
      have d1 : L.getD i (0, 0) = L[i] := by rw [List.getD_eq_getElem?_getD, List.getElem?_eq_getElem hi]; rfl
      have d2 : L.getD j (0, 0) = L[j] := by rw [List.getD_eq_getElem?_getD, List.getElem?_eq_getElem hj]; rfl
      rw [d1, d2]
      exact pairs_set (sT _ _ e2') j (pairs_set (sT _ _ e1') i ((hpp.at tA).at (Tk.of sT)))
theorem ok_duos {f fM : Addr} {fd fdM : FuncData} {k : Nat} (T : Blt mg) (F : Fun K "_law_duos" "_law_duos" sDuos f fd)
    (GM : FnOk P w K mg base CX0 k fM fdM ["_law_mine", "_law_its"] spMeet) (gM : mg "_law_meet" = some (.ref fM)) (kM : PySem.W.keepIn K (.ref fM) = true) (bM : Binds K fdM ["_law_mine", "_law_its"] []) :
    FnOk P w K mg base CX0 (k + 1) f fd ["_law_line"] spDuos := by
  refine F.ok scDuos (fun vs H Q E h => ?_) (fun cdv A outer s H vs Q E hr h => ?_)
  · obtain ⟨a, L, rfl, _⟩ := h
    rfl
  · obtain ⟨a, L, rfl, hL, hn, q⟩ := h
    refine ⟨_, pss_cons (ps_set (i := 1) scDuos.nd rfl (.inl rfl) (pe_lst pa_nil))
      (pss_cons (ps_for PassesOwn.never rfl (pi_range1 (by rfl) T.range (pa_cons (pe_callB call_len_seq (by rfl) T.len PySem.boot_len (pa_cons (pv 0) pa_nil)) pa_nil)) (pg_name (i := 2) scDuos.nd rfl (.inr rfl))
        (pss_one (ps_set (i := 1) scDuos.nd rfl (.inl rfl) (pe_op op_cat (pv 1)
          (pe_lc (own := [("_law_at", 3)]) (g := gName 3) (tt := tB (tCall spMeet [] E0 (tCons (tOp (rIxT K) (tVar 0) (tVar 3)) (tCons (tOp (rIxT K) (tVar 0) (tVar 2)) tNil)))) (te := tTup (tCons (tVar 3) (tCons (tVar 2) tNil))) rfl scDuos.nd
            (pi_range1 (by rfl) T.range (pa_cons (pv 2) pa_nil))
            (blkOk_by (N := NDu) (sc := defScope sDuos) (by decide +kernel)) (fun _ _ _ _ _ => pg_name (i := 3) scDuos.nd rfl (.inl rfl))
            (fun _ _ _ _ _ => pts_one (pt_val (pe_call GM hr (by rfl) gM kM bM .nil pass0 (pa_cons (pe_ix ix_tup (pv 0) (pv 3) (fun _ _ => rfl)) (pa_cons (pe_ix ix_tup (pv 0) (pv 2) (fun _ _ => rfl)) pa_nil)))))
            (fun _ _ _ _ _ => pe_tup (pa_cons (pv 3) (pa_cons (pv 2) pa_nil))))))))
      (pss_one (ps_ret (pe_callB cr_sortedP (by rfl) T.sorted (by decide +kernel) (pa_cons (pv 1) pa_nil))))), ?_⟩
    refine ⟨Nat.zero_le _, fun pf nf => ?_⟩
    obtain ⟨ps, eps, hpl, hpp⟩ := hL.tup
    have s1 : Same H (upd H pf (.lst [])) := same_upd nf
    have e1 : upd H pf (.lst []) pf = some (.lst []) := upd_same
    generalize upd H pf (.lst []) = H1 at *
    refine ⟨.ref a, rfl, a, _, rfl, .inr (SqT.of (s1 _ _ eps)), ?_⟩
    rw [List.length_map, hpl]
    refine ⟨(L.length : Nat), rfl, by omega, by omega, ?_⟩
    rw [Int.toNat_natCast]
    refine for_it (walk_range (lo := 0) (n := L.length)) (fun i σ H' => ∃ (y2 y3 : Option V) (pf : Addr) (ts : List Addr), σ = [some (.ref a), some (.ref pf), y2, y3] ∧ Same H H' ∧ H' pf = some (.lst (ts.map V.ref)) ∧ Paired (DuoAt H') ts (duoL L i))
      ⟨none, none, pf, [], rfl, s1, e1, .nil⟩ (fun _ _ _ _ _ => trivial) (fun i x σ H0 H' hi p hY => ?_) (fun σ H' p => ?_)
    · obtain ⟨rfl, hx⟩ := hY
      have hx := hx.trans (congrArg V.int (Int.zero_add _))
      subst hx
      obtain ⟨y2, y3, pf, ts, rfl, sH, ef, hp⟩ := p
      refine ⟨.ref pf, rfl, .int (i : Nat), rfl, (i : Nat), rfl, by omega, by omega, fun D hD => ?_⟩
      rw [Int.toNat_natCast]
      have epsH := sH _ _ eps
      refine lc_acc (walk_range (lo := 0) (n := i)) (fun m acc H2 => ∃ us : List Addr, acc = us.map V.ref ∧ Paired (DuoAt H2) us (duoRow L m i)) (small1000 (by omega)) hD
        (fun _ _ _ _ t h => ?_) (fun _ _ => trivial) ⟨[], rfl, .nil⟩ (fun m acc H0 x H2 hm sm hB hY Yes No hyes hno => ?_) (fun H2 acc s2 e2 l2 hB => ?_)
      · obtain ⟨us, e, p⟩ := h
        exact ⟨us, e, L2.Paired.mapP p fun _ _ e => t _ _ e⟩
      · obtain ⟨rfl, hx⟩ := hY
        have hx := hx.trans (congrArg V.int (Int.zero_add _))
        subst hx
        obtain ⟨us, rfl, hu⟩ := hB
        have hmL : m < L.length := by omega
        obtain ⟨pm, em, gm⟩ := hpp.get hmL
        obtain ⟨pi, ei, gi⟩ := hpp.get hi
        have ai : atI (ps.map V.ref) (i : Int) = some (.ref pi) := atI_nat (by rw [List.getElem?_map, ei]; rfl)
        have am : atI (ps.map V.ref) (m : Int) = some (.ref pm) := atI_nat (by rw [List.getElem?_map, em]; rfl)
        refine ⟨rfl, .ref a, rfl, .int (m : Nat), rfl, a, _, _, .ref pm, rfl, rfl, SqT.of (sm _ _ epsH), am, .ref a, rfl, .int (i : Nat), rfl, a, _, _, .ref pi, rfl, rfl, SqT.of (sm _ _ epsH), ai, pm, pi, L[m], L[i], rfl, sm _ _ (sH _ _ gm), sm _ _ (sH _ _ gi), _, rfl, ?_⟩
        have em' : L.getD m (0, 0) = L[m] := by rw [List.getD_eq_getElem?_getD, List.getElem?_eq_getElem hmL]; rfl
        have ei' : L.getD i (0, 0) = L[i] := by rw [List.getD_eq_getElem?_getD, List.getElem?_eq_getElem hi]; rfl
        have er : duoRow L (m + 1) i = duoRow L m i ++ (if meetF L[m] L[i] = true then [(m, i)] else []) := by
          unfold duoRow
          rw [List.range_succ, List.filter_append, List.map_append, List.filter_cons, em', ei']
          split <;> rfl
        cases hmt : meetF L[m] L[i] with
        | true =>
          refine iteT ⟨_, rfl, _, rfl, by show 2 ≤ sizeLine; decide, fun t nt => hyes _ _ (same_upd nt) ⟨us ++ [t], by rw [List.map_append]; rfl, ?_⟩⟩
          rw [er, if_pos hmt]
          exact Paired.snoc (L2.Paired.mapP hu fun _ _ e => same_upd nt _ _ e) upd_same
        | false =>
          refine iteF (hno _ (Same.refl _) ⟨us, rfl, ?_⟩)
          rw [er, hmt, if_neg (by decide), List.append_nil]
          exact hu
      · obtain ⟨us, rfl, hu⟩ := hB
        have l1 := Paired.length hp
        have l3 := len_duoL (L := L) i (by omega)
        refine ⟨pf, D, _, _, rfl, rfl, s2 _ _ ef, e2, ?_, fun p np => ?_⟩
        · rw [List.length_map]
          exact Nat.le_of_lt (small1000 (by omega))
        · have sp := same_upd (o := .lst (ts.map V.ref ++ us.map V.ref)) np
          refine ⟨some (.int (i : Nat)), y3, p, ts ++ us, rfl, Same.trans (Same.trans sH s2) sp, by rw [upd_same, List.map_append], ?_⟩
          rw [duoL]
          exact paired_app (L2.Paired.mapP hp fun _ _ e => sp _ _ (s2 _ _ e)) (L2.Paired.mapP hu fun _ _ e => sp _ _ e)
    · obtain ⟨y2, y3, pf, ts, rfl, sH, ef, hp⟩ := p
      refine ⟨.ref pf, rfl, pf, _, rfl, SqL.of ef, fun x hx => ?_, fun ys r pY nr => ?_⟩
      · obtain ⟨t, ht, rfl⟩ := List.mem_map.mp hx
        obtain ⟨d, _, e⟩ := paired_mem_l hp t ht
        exact ⟨t, _, _, rfl, e⟩
      · have sr := same_upd (o := .lst ys) nr
        obtain ⟨ts', rfl, pp⟩ := perm_refs pY
        obtain ⟨ds, pd, hd⟩ := paired_perm pp hp
        refine q _ r ts' ds (Same.trans sH sr) (Same.free sH nr) upd_same (L2.Paired.mapP hd fun _ _ e => sr _ _ e) (pd.nodup_iff.mp (nodup_duoL _)) ?_ fun d => pd.mem_iff.symm.trans duoL_is
        rw [← pd.length_eq]
        exact Nat.le_trans (len_duoL _ hn) (by omega)
end
end SW
end
section
set_option Elab.async false
set_option linter.all false
set_option maxRecDepth 100000
set_option maxHeartbeats 1000000
namespace SW
open PySem PySem.Spec PyProof.Rows L2

abbrev sLay : Stmt := topS 27
abbrev NLy : List Str := ["_law_line", "_law_found", "_law_layer", "_law_further", "_law_here", "_law_at", "_law_spot", "_law_there"]
theorem scLay : FnScope NLy ["_law_line"] (defScope sLay) := ⟨rfl, rfl, rfl, by decide +kernel, rfl, by decide +kernel, by decide +kernel⟩
/-! ### the dict of lines -/
abbrev Far := List (Addr × Line)
def farE (L : Line) (z : Addr × Line) : Ent := (lineKey z.2, z.1, .int (dist L z.2 : Nat))
abbrev refsOf (zs : Far) : List V := (zs.map Prod.fst).map V.ref
abbrev linesOf (zs : Far) : List Line := zs.map Prod.snd
structure FarAt (H : Hp) (L : Line) (zs : Far) : Prop where
  lines : ∀ z ∈ zs, LineAt H z.1 z.2
  lot : ∀ z ∈ zs, Lot L z.2
  nd : (linesOf zs).Nodup
theorem FarAt.at {H H' : Hp} {L : Line} {zs : Far} (f : FarAt H L zs) (t : Tk H H') : FarAt H' L zs := ⟨fun z hz => (f.lines z hz).at t, f.lot, f.nd⟩
theorem FarAt.keys {H : Hp} {L : Line} {zs : Far} (f : FarAt H L zs) : Keys H (zs.map (farE L)) := fun y hy => by
  obtain ⟨z, hz, rfl⟩ := List.mem_map.mp hy
  exact ⟨line_kis (f.lines z hz), line_depth _⟩
theorem FarAt.len {H : Hp} {L : Line} {zs : Far} (f : FarAt H L zs) (g : Good L) : zs.length ≤ 3125 := by
  have := lot_count g f.nd fun M hM => by
    obtain ⟨z, hz, rfl⟩ := List.mem_map.mp hM
    exact f.lot z hz
  rwa [List.length_map] at this
theorem FarAt.snoc {H : Hp} {L M : Line} {t : Addr} {zs : Far} (f : FarAt H L zs) (h : LineAt H t M) (l : Lot L M) (n : M ∉ linesOf zs) : FarAt H L (zs ++ [(t, M)]) := by
  refine ⟨fun z hz => ?_, fun z hz => ?_, ?_⟩
  · rcases List.mem_append.mp hz with hz | hz
    · exact f.lines z hz
    · rw [List.mem_singleton.mp hz]; exact h
  · rcases List.mem_append.mp hz with hz | hz
    · exact f.lot z hz
    · rw [List.mem_singleton.mp hz]; exact l
  · unfold linesOf
    rw [List.map_append, List.nodup_append]
    refine ⟨f.nd, by simp, fun a ha b hb e => ?_⟩
    rw [List.map_singleton, List.mem_singleton] at hb
    subst e
    rw [hb] at ha
    exact n ha
theorem far_get (L : Line) (M : Line) : ∀ zs : Far, atE (zs.map (farE L)) (lineKey M) = if M ∈ linesOf zs then some (.int (dist L M : Nat)) else none
  | [] => rfl
  | z :: zs => by
    have ih := far_get L M zs
    unfold atE at ih ⊢
    rw [List.map_cons, List.find?_cons]
    by_cases h : z.2 = M
    · have e1 : decide ((farE L z).1 = lineKey M) = true := decide_eq_true (by rw [← h]; rfl)
      rw [e1]
      have e2 : M ∈ linesOf (z :: zs) := by rw [← h]; exact List.mem_cons_self
      rw [if_pos e2, ← h]
      rfl
    · have e1 : decide ((farE L z).1 = lineKey M) = false := decide_eq_false fun e => h (lineKey_inj e)
      rw [e1]
      have e2 : M ∈ linesOf (z :: zs) ↔ M ∈ linesOf zs := by
        show M ∈ z.2 :: linesOf zs ↔ _
        rw [List.mem_cons]
        exact ⟨fun o => o.resolve_left fun e => h e.symm, .inr⟩
      simp only [e2]
      exact ih
theorem far_yes {L M : Line} {zs : Far} (h : M ∈ linesOf zs) : atE (zs.map (farE L)) (lineKey M) = some (.int (dist L M : Nat)) := by rw [far_get, if_pos h]
theorem far_no {L M : Line} {zs : Far} (h : M ∉ linesOf zs) : atE (zs.map (farE L)) (lineKey M) = none := by rw [far_get, if_neg h]
def spLay (P : Program) (w : World) : Sp := fun vs H Q _ => ∃ (a : Addr) (L : Line), vs = [.ref a] ∧ LineAt H a L ∧ Good L ∧
  ∀ H' d zs, Same H H' → H' d = some (ND P w d (zs.map (farE L))) → FarAt H' L zs → (∀ M, Lot L M → M ∈ linesOf zs) → Q (.ref d) H'
/-! ### the search, by lines -/
structure Mid (L : Line) (k : Nat) (Zs Fs : List Line) : Prop where
  low : ∀ M, Lot L M → dist L M ≤ k → M ∈ Zs
  up : ∀ M ∈ Zs, dist L M ≤ k ∨ (dist L M = k + 1 ∧ M ∈ Fs)
  fk : ∀ M ∈ Fs, dist L M = k + 1 ∧ M ∈ Zs
theorem Mid.add {L M : Line} {k : Nat} {Zs Fs : List Line} (m : Mid L k Zs Fs) (h : dist L M = k + 1) : Mid L k (Zs ++ [M]) (Fs ++ [M]) := by
  refine ⟨fun N l d => List.mem_append_left _ (m.low N l d), fun N hN => ?_, fun N hN => ?_⟩
  · rcases List.mem_append.mp hN with hN | hN
    · rcases m.up N hN with a | ⟨a, b⟩
      · exact .inl a
      · exact .inr ⟨a, List.mem_append_left _ b⟩
    · exact .inr ⟨by rw [List.mem_singleton.mp hN]; exact h, List.mem_append_right _ hN⟩
  · rcases List.mem_append.mp hN with hN | hN
    · exact ⟨(m.fk N hN).1, List.mem_append_left _ (m.fk N hN).2⟩
    · exact ⟨by rw [List.mem_singleton.mp hN]; exact h, List.mem_append_right _ hN⟩
/-- the exchanges of N are found -/
def Cov (Zs : List Line) (N : Line) : Prop := ∀ d, IsDuo N d → swapF N d.1 d.2 ∈ Zs
theorem mid_done {L : Line} (g : Good L) {k : Nat} {Zs Fs ls : List Line} (m : Mid L k Zs Fs) (hl : ∀ M, Lot L M → dist L M = k → M ∈ ls) (c : ∀ N ∈ ls, Cov Zs N) :
    (∀ M, Lot L M → (M ∈ Zs ↔ dist L M ≤ k + 1)) ∧ (∀ M, Lot L M → dist L M = k + 1 → M ∈ Fs) := by
  have key : ∀ M, Lot L M → dist L M = k + 1 → M ∈ Zs := fun M l e => by
    obtain ⟨N, i, j, lN, eN, hi, hj, hij, hm, rfl⟩ := from_closer g l e
    exact c N (hl N lN eN) (i, j) ⟨hij, hi, hj, hm⟩
  refine ⟨fun M l => ⟨fun h => ?_, fun h => ?_⟩, fun M l e => ?_⟩
  · rcases m.up M h with a | ⟨a, _⟩ <;> omega
  · by_cases h2 : dist L M ≤ k
    · exact m.low M l h2
    · exact key M l (by omega)
  · rcases m.up M (key M l e) with a | ⟨_, b⟩
    · omega
    · exact b
theorem no_more {L : Line} (g : Good L) {k : Nat} (h : ∀ M, Lot L M → dist L M ≠ k) : ∀ n, ∀ M, Lot L M → dist L M ≠ k + n
  | 0, M, l => h M l
  | n + 1, M, l => fun e => by
    obtain ⟨N, _, _, lN, eN, _⟩ := from_closer g l (k := k + n) e
    exact no_more g h n N lN eN
/-- an exchange of a line of the layer: known, or one farther -/
theorem mid_new {L N : Line} (g : Good L) {k : Nat} {Zs Fs : List Line} (m : Mid L k Zs Fs) (lN : Lot L N) (eN : dist L N = k) {d : Nat × Nat} (hd : IsDuo N d) (no : swapF N d.1 d.2 ∉ Zs) : dist L (swapF N d.1 d.2) = k + 1 := by
  obtain ⟨h1, h2, h3, h4⟩ := hd
  have l := lot_swap lN h2 h3 h4
  rcases dist_step g lN h1 h3 with e | e
  · rw [e, eN]
  · exact absurd (m.low _ l (by omega)) no
section
variable {P : Program} {w : World}
structure LayIn (P : Program) (w : World) (H : Hp) (L : Line) (d pl pf : Addr) (k : Nat) (ls zs fs : Far) (H' : Hp) : Prop where
  same : Same H H'
  dict : H' d = some (ND P w d (zs.map (farE L)))
  far : FarAt H' L zs
  lay : H' pl = some (.lst (refsOf ls))
  lfar : FarAt H' L ls
  fur : H' pf = some (.lst (refsOf fs))
  ffar : FarAt H' L fs
  mid : Mid L k (linesOf zs) (linesOf fs)
theorem LayIn.keep {H : Hp} {L : Line} {d pl pf : Addr} {k : Nat} {ls zs fs : Far} {H' H2 : Hp} (I : LayIn P w H L d pl pf k ls zs fs H') (s : Same H' H2) : LayIn P w H L d pl pf k ls zs fs H2 :=
  ⟨Same.trans I.same s, s _ _ I.dict, I.far.at (Tk.of s), s _ _ I.lay, I.lfar.at (Tk.of s), s _ _ I.fur, I.ffar.at (Tk.of s), I.mid⟩
theorem tk_nd {H : Hp} {d : Addr} {ys zs : List Ent} (h : H d = some (ND P w d ys)) : Tk H (upd H d (ND P w d zs)) := Tk.upd fun xs z => by rw [h] at z; cases z
theorem LayIn.add {H : Hp} {L M : Line} {d pl pf t : Addr} {k : Nat} {ls zs fs : Far} {H' : Hp} (I : LayIn P w H L d pl pf k ls zs fs H') (hd : H d = none) (hf : H pf = none) (n1 : d ≠ pl) (n2 : d ≠ pf) (n3 : pl ≠ pf)
    (hl : LineAt H' t M) (l : Lot L M) (no : M ∉ linesOf zs) (e : dist L M = k + 1) :
    LayIn P w H L d pl pf k ls (zs ++ [(t, M)]) (fs ++ [(t, M)]) (upd (upd H' d (ND P w d ((zs ++ [(t, M)]).map (farE L)))) pf (.lst (refsOf (fs ++ [(t, M)])))) := by
  have t1 : Tk H' (upd H' d (ND P w d ((zs ++ [(t, M)]).map (farE L)))) := tk_nd I.dict
  have ef : upd H' d (ND P w d ((zs ++ [(t, M)]).map (farE L))) pf = some (.lst (refsOf fs)) := by rw [upd_ne (Ne.symm n2)]; exact I.fur
  have t2 := Tk.trans t1 (tk_lst (ys := refsOf (fs ++ [(t, M)])) ef)
  have nf : M ∉ linesOf fs := fun h => no (I.mid.fk M h).2
  refine ⟨same_mut (same_mut I.same hd) hf, by rw [upd_ne n2, upd_same], (I.far.snoc hl l no).at t2, by rw [upd_ne n3, upd_ne (Ne.symm n1)]; exact I.lay, I.lfar.at t2, upd_same, (I.ffar.snoc hl l nf).at t2, ?_⟩
  unfold linesOf
  rw [List.map_append, List.map_append]
  exact I.mid.add e
theorem small3125 {n : Nat} (h : n ≤ 3125) : n < sizeLine := Nat.lt_of_le_of_lt h (by decide)
variable {K : PySem.W.Frag} {mg : Str → Option Value} {base : Heap}
theorem paired_far {H : Hp} {L : Line} {zs : Far} (h : FarAt H L zs) : Paired (LineAt H) (zs.map Prod.fst) (linesOf zs) := by
  have : ∀ zs : Far, (∀ z ∈ zs, LineAt H z.1 z.2) → Paired (LineAt H) (zs.map Prod.fst) (linesOf zs) := fun zs => by
    induction zs with
    | nil => exact fun _ => .nil
    | cons z zs ih => exact fun h => .cons (h z List.mem_cons_self) (ih fun x hx => h x (List.mem_cons_of_mem _ hx))
  exact this zs h.lines
theorem disp1_of {P : Program} {w : World} {σ : L2.St} {H : Hp} {i : Nat} {a : Addr} {k : NestedKey} {y : V} {Q : VK} (ha : σ[i]? = some (some (.ref a))) (hk : KIs H k (.ref a)) (h8 : k.depth ≤ 8)
    (h : ∀ d H1, H d = none → Same H H1 → H1 d = some (ND P w d [(k, a, y)]) → Q (.ref d) H1) : tDisp1 P w (tVar i) (tC y) σ H Q :=
  fun d nd => ⟨.ref a, ha, _, _, rfl, upd_same, a, k, rfl, KIs.at (Tk.of (same_upd nd)) _ _ hk, h8, h d _ nd (same_mut (same_upd nd) nd) upd_same⟩
theorem ok_layers {f fD fS : Addr} {fd fdD fdS : FuncData} {k : Nat} (T : Blt mg) (F : Fun K "_law_layers" "_law_layers" sLay f fd)
    (GD : FnOk P w K mg base CX0 k fD fdD ["_law_line"] spDuos) (gD : mg "_law_duos" = some (.ref fD)) (kD : PySem.W.keepIn K (.ref fD) = true) (bD : Binds K fdD ["_law_line"] [])
    (GS : FnOk P w K mg base CX0 k fS fdS ["_law_line", "_law_at", "_law_spot"] spSwap) (gS : mg "_law_swap" = some (.ref fS)) (kS : PySem.W.keepIn K (.ref fS) = true) (bS : Binds K fdS ["_law_line", "_law_at", "_law_spot"] []) :
    FnOk P w K mg base CX0 (k + 1) f fd ["_law_line"] (spLay P w) := by
  refine F.ok scLay (fun vs H Q E h => ?_) (fun cdv A outer s H vs Q E hr h => ?_)
  · obtain ⟨a, L, rfl, _⟩ := h
    rfl
  · obtain ⟨a, L, rfl, hL, g, q⟩ := h
    have hn := g.len
    refine ⟨_, pss_cons (ps_par (i := 1) (j := 2) rfl scLay.nd rfl rfl (by decide) rfl rfl (pa_cons (pe_disp1 hr.units (pv 0) pe_int) (pa_cons (pe_lst (pa_cons (pv 0) pa_nil)) pa_nil)) (by rfl))
      (pss_cons (ps_while PassesOwn.never (pt_cmpR (op_neNilL hr.units) (pv 2) (pe_lst pa_nil) (nomark _))
        (pss_cons (ps_set (i := 3) scLay.nd rfl (.inl rfl) (pe_lst pa_nil))
        (pss_cons (ps_for PassesOwn.never rfl (pi_list (pv 2)) (pg_name (i := 4) scLay.nd rfl (.inl rfl))
          (pss_one (ps_for PassesOwn.never rfl (pi_list (pe_call GD hr (by rfl) gD kD bD .nil pass0 (pa_cons (pv 4) pa_nil))) (pg_tup (n := 2) rfl (pgs_cons (pg_name (i := 5) scLay.nd rfl (.inl rfl)) (pgs_cons (pg_name (i := 6) scLay.nd rfl (.inl rfl)) pgs_nil)))
            (pss_cons (ps_set (i := 7) scLay.nd rfl (.inl rfl) (pe_call GS hr (by rfl) gS kS bS .nil pass0 (pa_cons (pv 4) (pa_cons (pv 5) (pa_cons (pv 6) pa_nil)))))
            (pss_one (ps_if (pt_cmpR (op_notInN hr.units) (pv 7) (pv 1) (by rfl))
              (pss_cons (ps_asg (pe_op op_add (pe_getN hr.units (pv 1) (pv 4) (fun _ _ => rfl)) pe_int) (pg_sub (pv 1) (pv 7) (set_dictN hr.units)))
              (pss_one (ps_expr (pe_bm PySem.F.plainAttrs_list PySem.F.slot_list_append PySem.F.type_list_append mt_append (pv 3) (pa_cons (pv 7) pa_nil)))))
              pss_nil))))))
        (pss_one (ps_set (i := 2) scLay.nd rfl (.inl rfl) (pv 3))))))
      (pss_one (ps_ret (pv 1)))), ?_⟩
    refine fun d nd => ⟨.ref a, rfl, _, _, rfl, upd_same, a, lineKey L, rfl, KIs.at (Tk.of (same_upd nd)) _ _ (line_kis hL), line_depth L, ?_⟩
    have sd : Same H (upd (upd H d (ND P w d [])) d (ND P w d [(lineKey L, a, .int 0)])) := same_mut (same_upd nd) nd
    have ed : upd (upd H d (ND P w d [])) d (ND P w d [(lineKey L, a, .int 0)]) d = some (ND P w d [(lineKey L, a, .int 0)]) := upd_same
    generalize hH1 : upd (upd H d (ND _ _ d [])) d (ND _ _ d [(lineKey L, a, .int 0)]) = H1
    have hH1 : upd (upd H d (ND P w d [])) d (ND P w d [(lineKey L, a, .int 0)]) = H1 := hH1
    rw [hH1] at sd ed
    refine ⟨.ref a, rfl, by show 1 ≤ sizeLine; decide, fun pl npl => ?_⟩
    have hpl : H pl = none := Same.free sd npl
    have s2 : Same H1 (upd H1 pl (.lst [.ref a])) := same_upd npl
    have epl : upd H1 pl (.lst [.ref a]) pl = some (.lst [.ref a]) := upd_same
    have ed2 := s2 _ _ ed
    generalize upd H1 pl (.lst [.ref a]) = H2 at *
    have sH2 := Same.trans sd s2
    refine ⟨_, _, rfl, ?_⟩
    have fa : FarAt H2 L [(a, L)] := ⟨fun z hz => by rw [List.mem_singleton.mp hz]; exact hL.same sH2, fun z hz => by rw [List.mem_singleton.mp hz]; exact Lot.refl g, by simp⟩
    refine ⟨fun μ σ H' => ∃ (k : Nat) (zs ls : Far) (pl : Addr) (y3 y4 y5 y6 y7 : Option V), μ = 6 - k ∧ k ≤ 5 ∧ σ = [some (.ref a), some (.ref d), some (.ref pl), y3, y4, y5, y6, y7] ∧ Same H H' ∧ H' d = some (ND P w d (zs.map (farE L))) ∧ FarAt H' L zs ∧
        H' pl = some (.lst (refsOf ls)) ∧ H pl = none ∧ FarAt H' L ls ∧ (∀ z ∈ ls, dist L z.2 = k) ∧ (∀ M, Lot L M → (M ∈ linesOf zs ↔ dist L M ≤ k)) ∧ (∀ M, Lot L M → dist L M = k → M ∈ linesOf ls),
      ⟨_, 0, [(a, L)], [(a, L)], pl, none, none, none, none, none, rfl, by omega, rfl, sH2, ?_, fa, epl, hpl, fa, ?_, ?_, ?_⟩, fun μ σ H' hW => ?_⟩
    · show H2 d = some (ND P w d [(lineKey L, a, .int (dist L L : Nat))])
      rw [dist_self g]
      exact ed2
    · intro z hz
      rw [List.mem_singleton.mp hz]
      exact dist_self g
    · intro M l
      show M ∈ [L] ↔ _
      rw [List.mem_singleton]
      exact ⟨fun e => by rw [e, dist_self g]; exact Nat.le_refl _, fun e => dist_zero g l (by omega)⟩
    · intro M l e
      rw [dist_zero g l e]
      exact List.mem_singleton_self _
    · obtain ⟨k, zs, ls, pl, y3, y4, y5, y6, y7, rfl, hk, rfl, sH, ed, fz, el, npl, fl, hlk, hzk, hll⟩ := hW
      refine ⟨.ref pl, rfl, Nat.zero_le _, fun pn nn => ?_⟩
      have sn : Same H' (upd H' pn (.lst [])) := same_upd nn
      refine ⟨pl, pn, _, _, rfl, rfl, SqL.of (sn _ _ el), paired_far (fl.at (Tk.of sn)), SqL.of upd_same, _, rfl, ?_⟩
      have sHn := Same.trans sH sn
      have ed := sn _ _ ed
      have fz := fz.at (Tk.of sn)
      have el := sn _ _ el
      have fl := fl.at (Tk.of sn)
      generalize upd H' pn (.lst []) = H3 at *
      rw [List.isEmpty_map]
      cases hls : ls with
      | nil =>
        refine iteF ⟨.ref d, rfl, q _ d zs sHn ed fz fun M l => (hzk M l).mpr ?_⟩
        subst hls
        have no : ∀ M, Lot L M → dist L M ≠ k := fun M l e => nomatch hll M l e
        refine Nat.le_of_not_lt fun h => ?_
        exact no_more g no (dist L M - k) M l (by omega)
      | cons z0 zr =>
        have hk4 : k ≤ 4 := by
          have h0 : z0 ∈ ls := by rw [hls]; exact List.mem_cons_self
          rw [← hlk z0 h0]
          exact dist_le g (fl.lot z0 h0)
        rw [← hls]
        have hne : (!ls.isEmpty) = true := by rw [hls]; rfl
        rw [hne]
        clear hls
        refine iteT ⟨fun σ' H'' => ∃ (k' : Nat) (zs ls : Far) (pl : Addr) (y3 y4 y5 y6 y7 : Option V), k' = k + 1 ∧ σ' = [some (.ref a), some (.ref d), some (.ref pl), y3, y4, y5, y6, y7] ∧ Same H H'' ∧ H'' d = some (ND P w d (zs.map (farE L))) ∧ FarAt H'' L zs ∧
          H'' pl = some (.lst (refsOf ls)) ∧ H pl = none ∧ FarAt H'' L ls ∧ (∀ z ∈ ls, dist L z.2 = k') ∧ (∀ M, Lot L M → (M ∈ linesOf zs ↔ dist L M ≤ k')) ∧ (∀ M, Lot L M → dist L M = k' → M ∈ linesOf ls), fun σ' H'' hN => ?_, ?_⟩
        · obtain ⟨k', zs, ls, pl, y3, y4, y5, y6, y7, rfl, r⟩ := hN
          exact ⟨6 - (k + 1), by omega, k + 1, zs, ls, pl, y3, y4, y5, y6, y7, rfl, by omega, r⟩
        · -- further = []
          refine ⟨Nat.zero_le _, fun pf npf => ?_⟩
          have hpf : H pf = none := Same.free sHn npf
          have n1 : d ≠ pl := fun z => by rw [z, el] at ed; cases ed
          have n2 : d ≠ pf := ne_of_none ed npf
          have n3 : pl ≠ pf := ne_of_none el npf
          have sf : Same H3 (upd H3 pf (.lst [])) := same_upd npf
          have I0 : LayIn P w H L d pl pf k ls zs [] (upd H3 pf (.lst [])) :=
            ⟨Same.trans sHn sf, sf _ _ ed, fz.at (Tk.of sf), sf _ _ el, fl.at (Tk.of sf), upd_same, ⟨fun _ h => (nomatch h), fun _ h => (nomatch h), List.nodup_nil⟩,
              ⟨fun M l e => (hzk M l).mpr e, fun M h => by
                obtain ⟨z, hz, rfl⟩ := List.mem_map.mp h
                exact .inl ((hzk _ (fz.lot z hz)).mp h), fun _ h => (nomatch h)⟩⟩
          generalize upd H3 pf (.lst []) = H4 at *
          refine ⟨.ref pl, rfl, pl, rfl, ⟨_, SqL.of I0.lay⟩, ?_⟩
          have llen : (refsOf ls).length = ls.length := by unfold refsOf; rw [List.length_map, List.length_map]
          refine for_it (walk_list (K := K) (a := pl) (xs := refsOf ls)) (fun i σ H' => ∃ (y4 y5 y6 y7 : Option V) (zs fs : Far), σ = [some (.ref a), some (.ref d), some (.ref pl), some (.ref pf), y4, y5, y6, y7] ∧ LayIn P w H L d pl pf k ls zs fs H' ∧
            ∀ j, j < i → ∀ z, ls[j]? = some z → Cov (linesOf zs) z.2)
            ⟨y4, y5, y6, y7, zs, [], rfl, I0, fun j h => absurd h (Nat.not_lt_zero _)⟩ (fun i σ H' _ h => ?_) (fun i x σ H0 H' hi p hY => ?_) (fun σ H' p => ?_)
          · obtain ⟨_, _, _, _, _, _, rfl, I, _⟩ := h
            exact SqL.of I.lay
          · obtain ⟨rfl, hx⟩ := hY
            obtain ⟨y4, y5, y6, y7, zs, fs, rfl, I, hcov⟩ := p
            rw [llen] at hi
            have hx' : (refsOf ls)[i]? = some (.ref ls[i].1) := by
              unfold refsOf
              rw [List.getElem?_map, List.getElem?_map, List.getElem?_eq_getElem hi]
              rfl
            have hx : (refsOf ls)[i]? = some x := hx
            rw [hx'] at hx
            cases hx
            have hmi : ls[i] ∈ ls := List.getElem_mem _
            have hN := I.lfar.lines _ hmi
            have lN := I.lfar.lot _ hmi
            have eN := hlk _ hmi
            generalize hz : ls[i] = z at *
            obtain ⟨zh, N⟩ := z
            have hNl : N.length = L.length := lN.len
            refine ⟨.ref zh, rfl, zh, N, rfl, hN, by show N.length ≤ 5; rw [show N.length = L.length from hNl]; exact hn, fun H5 pq ts ds s5 npq eq hp nds lds hds => ?_⟩
            have nq1 : pq ≠ d := fun z => by rw [z, I.dict] at npq; cases npq
            have nq2 : pq ≠ pf := fun z => by rw [z, I.fur] at npq; cases npq
            refine ⟨pq, rfl, ⟨_, SqL.of eq⟩, ?_⟩
            have lts := Paired.length hp
            refine for_it (walk_list (K := K) (a := pq) (xs := ts.map V.ref)) (fun m σ H' => ∃ (y5 y6 y7 : Option V) (zs fs : Far), σ = [some (.ref a), some (.ref d), some (.ref pl), some (.ref pf), some (.ref zh), y5, y6, y7] ∧ LayIn P w H L d pl pf k ls zs fs H' ∧
              H' pq = some (.lst (ts.map V.ref)) ∧ Paired (DuoAt H') ts ds ∧ LineAt H' zh N ∧ N ∈ linesOf zs ∧ (∀ j, j < i → ∀ z, ls[j]? = some z → Cov (linesOf zs) z.2) ∧ ∀ j, j < m → ∀ e, ds[j]? = some e → swapF N e.1 e.2 ∈ linesOf zs)
              ⟨y5, y6, y7, zs, fs, rfl, I.keep s5, eq, hp, hN.same s5, I.mid.low N lN (by rw [eN]; exact Nat.le_refl _), hcov, fun j h => absurd h (Nat.not_lt_zero _)⟩ (fun m σ H' _ h => ?_) (fun m x σ H0 H' hm p hY => ?_) (fun σ H' p => ?_)
            · obtain ⟨_, _, _, _, _, rfl, _, h, _⟩ := h
              exact SqL.of h
            · obtain ⟨rfl, hx⟩ := hY
              obtain ⟨y5, y6, y7, zs, fs, rfl, I, eq, hp, hN, hNz, hcov, hm2⟩ := p
              rw [List.length_map] at hm
              rw [List.getElem?_map, List.getElem?_eq_getElem hm] at hx
              cases hx
              obtain ⟨e, he, et⟩ := paired_get hp (List.getElem?_eq_getElem hm)
              have hD : IsDuo N e := (hds e).mp (List.mem_of_getElem? he)
              obtain ⟨e1, e2, e3, e4⟩ := hD
              have hD : IsDuo N e := ⟨e1, e2, e3, e4⟩
              refine ⟨ts[m], _, rfl, SqT.of et, rfl, _, _, rfl, _, _, rfl, rfl, ?_⟩
              -- there
              refine ⟨.ref zh, rfl, .int (e.1 : Nat), rfl, .int (e.2 : Nat), rfl, zh, N, e.1, e.2, rfl, hN, e2, e3, by omega, fun H6 t s6 hT => ?_⟩
              have I6 := I.keep s6
              have lM := lot_swap lN e2 e3 e4
              generalize hM : swapF N e.1 e.2 = M at *
              refine ⟨.ref t, rfl, .ref d, rfl, t, d, _, lineKey M, rfl, rfl, .inl I6.dict, I6.far.keys, line_kis hT, line_depth M, _, rfl, ?_⟩
              by_cases hin : M ∈ linesOf zs
              · rw [far_yes hin]
                refine iteF ⟨_, _, _, zs, fs, rfl, I6, s6 _ _ eq, L2.Paired.mapP hp fun _ _ z => s6 _ _ z, hN.same s6, hNz, hcov, fun j hj e' he' => ?_⟩
                by_cases hjm : j < m
                · exact hm2 j hjm e' he'
                · have : j = m := by omega
                  subst this
                  rw [he] at he'
                  cases he'
                  rw [hM]
                  exact hin
              · rw [far_no hin]
                have eM : dist L M = k + 1 := by
                  rw [← hM]
                  exact mid_new g I6.mid lN eN hD (by rw [hM]; exact hin)
                refine iteT ⟨.ref d, rfl, .ref zh, rfl, d, zh, _, lineKey N, _, rfl, rfl, .inl I6.dict, I6.far.keys, line_kis (hN.same s6), line_depth N, far_yes hNz, _, _, rfl, rfl, ?_⟩
                have lz := I6.far.len g
                have lf := I6.ffar.len g
                refine ⟨.ref d, rfl, .ref t, rfl, d, t, _, lineKey M, rfl, rfl, I6.dict, I6.far.keys, line_kis hT, line_depth M, by rw [List.length_map]; exact small3125 lz, ?_⟩
                rw [putE_new (far_no hin)]
                have ee : (zs.map (farE L) ++ [(lineKey M, t, V.int ((dist L N : Nat) + 1 : Int))]) = (zs ++ [(t, M)]).map (farE L) := by
                  rw [List.map_append]
                  show _ = _ ++ [(lineKey M, t, V.int (dist L M : Nat))]
                  rw [eM, show dist L N = k from eN]
                  rfl
                rw [ee]
                have ef7 : upd H6 d (ND P w d ((zs ++ [(t, M)]).map (farE L))) pf = some (.lst (refsOf fs)) := by rw [upd_ne (Ne.symm n2)]; exact I6.fur
                refine ⟨.ref pf, rfl, .inl ⟨rfl, _, SqL.of ef7⟩, .ref t, rfl, pf, _, _, rfl, rfl, ef7, by unfold refsOf; rw [List.length_map, List.length_map]; exact small3125 lf, ?_⟩
                have e8 : refsOf fs ++ [V.ref t] = refsOf (fs ++ [(t, M)]) := by
                  unfold refsOf
                  rw [List.map_append, List.map_append]
                  rfl
                rw [e8]
                have I8 := I6.add nd hpf n1 n2 n3 hT lM hin eM
                have tk8 : Tk H6 _ := Tk.trans (tk_nd (zs := (zs ++ [(t, M)]).map (farE L)) I6.dict) (tk_lst (ys := refsOf (fs ++ [(t, M)])) ef7)
                have mono : ∀ X, X ∈ linesOf zs → X ∈ linesOf (zs ++ [(t, M)]) := fun X h => by
                  unfold linesOf
                  rw [List.map_append]
                  exact List.mem_append_left _ h
                refine ⟨_, _, _, _, _, rfl, I8, ?_, L2.Paired.mapP hp fun _ _ z => tk8 _ _ (s6 _ _ z), (hN.same s6).at tk8, mono _ hNz, fun j hj z hz => fun e' he' => mono _ (hcov j hj z hz e' he'), fun j hj e' he' => ?_⟩
                · rw [upd_ne nq2, upd_ne nq1]
                  exact s6 _ _ eq
                · by_cases hjm : j < m
                  · exact mono _ (hm2 j hjm e' he')
                  · have : j = m := by omega
                    subst this
                    rw [he] at he'
                    cases he'
                    rw [hM]
                    unfold linesOf
                    rw [List.map_append]
                    exact List.mem_append_right _ (List.mem_singleton_self _)
            · obtain ⟨y5, y6, y7, zs, fs, rfl, I, eq, hp, hN, hNz, hcov, hm2⟩ := p
              rw [List.length_map, lts] at hm2
              refine ⟨_, y5, y6, y7, zs, fs, rfl, I, fun j hj z' hz' => ?_⟩
              by_cases hji : j < i
              · exact hcov j hji z' hz'
              · have : j = i := by omega
                subst this
                rw [List.getElem?_eq_getElem hi, hz] at hz'
                cases hz'
                intro e he
                obtain ⟨j, hj, rfl⟩ := List.mem_iff_getElem.mp ((hds e).mpr he)
                exact hm2 j hj _ (List.getElem?_eq_getElem hj)
          · obtain ⟨y4, y5, y6, y7, zs, fs, rfl, I, hcov⟩ := p
            rw [llen] at hcov
            have dn := mid_done g I.mid hll fun N hN => by
              obtain ⟨z, hz, rfl⟩ := List.mem_map.mp hN
              obtain ⟨j, hj, rfl⟩ := List.mem_iff_getElem.mp hz
              exact hcov j hj _ (List.getElem?_eq_getElem hj)
            exact ⟨.ref pf, rfl, k + 1, zs, fs, pf, _, y4, y5, y6, y7, rfl, rfl, I.same, I.dict, I.far, I.fur, hpf, I.ffar, fun z hz => (I.mid.fk _ (List.mem_map_of_mem hz)).1, dn.1, dn.2⟩
end
end SW
end
section
set_option Elab.async false
set_option linter.all false
set_option maxRecDepth 100000
set_option maxHeartbeats 1000000
namespace SW
open PySem PySem.Spec PyProof.Rows L2

abbrev sLoops : Stmt := topS 28
abbrev NLo : List Str := ["_law_line", "_law_there", "_law_found", "_law_left", "_law_ring", "_law_at", "_law_later"]
theorem scLoops : FnScope NLo ["_law_line", "_law_there"] (defScope sLoops) := ⟨rfl, rfl, rfl, by decide +kernel, rfl, by decide +kernel, by decide +kernel⟩
def spLoops : Sp := fun vs H Q _ => ∃ (a b : Addr) (L M : Line), vs = [.ref a, .ref b] ∧ LineAt H a L ∧ LineAt H b M ∧ Good L ∧ Lot L M ∧
  ∀ H' p xs, Same H H' → H' p = some (.lst xs) → xs.length = loopsN (goals L M) → Q (.ref p) H'
theorem filter_one {p : Nat → Bool} {x : Nat} : ∀ {n : Nat}, x < n → p x = true → (∀ y, y < n → p y = true → y = x) → (List.range n).filter p = [x]
  | 0, h, _, _ => absurd h (Nat.not_lt_zero _)
  | n + 1, h, hx, hu => by
    rw [List.range_succ, List.filter_append]
    by_cases e : x = n
    · subst e
      have h1 : (List.range x).filter p = [] := by
        rw [List.filter_eq_nil_iff]
        intro y hy hp
        have := List.mem_range.mp hy
        have := hu y (by omega) hp
        omega
      rw [h1, List.filter_cons_of_pos hx]
      rfl
    · rw [filter_one (n := n) (by omega) hx fun y hy => hu y (by omega), List.filter_cons_of_neg]
      · rfl
      · intro hp
        exact e (hu n (by omega) hp).symm
/-- who has, in L, the day that r has in M -/
theorem who_has {L M : Line} (g : Good L) (l : Lot L M) {r : Nat} (hr : r < L.length) : (List.range L.length).filter (fun i => decide ((L.getD i (0, 0)).2 = (M.getD r (0, 0)).2)) = [(goals L M).getD r 9] := by
  have hM : r < M.length := by rw [l.len]; exact hr
  have hg : r < (goals L M).length := by rw [goals_len]; exact hM
  obtain ⟨hk, e⟩ := goals_day l hM
  have e9 : (goals L M).getD r 9 = (goals L M)[r] := by rw [List.getD_eq_getElem?_getD, List.getElem?_eq_getElem hg]; rfl
  have eM : (M.getD r (0, 0)).2 = (days M)[r]'(by rw [days_len]; exact hM) := by
    rw [day_get hM, List.getD_eq_getElem?_getD, List.getElem?_eq_getElem hM]
    rfl
  have eL : ∀ y, (hy : y < L.length) → (L.getD y (0, 0)).2 = (days L)[y]'(by rw [days_len]; exact hy) := fun y hy => by
    rw [day_get hy, List.getD_eq_getElem?_getD, List.getElem?_eq_getElem hy]
    rfl
  have hk' : (goals L M)[r] < L.length := by rw [days_len] at hk; exact hk
  rw [e9]
  refine filter_one hk' (decide_eq_true ?_) fun y hy hp => ?_
  · rw [eL _ hk', eM]
    exact e
  · have := of_decide_eq_true hp
    rw [eL y hy, eM, ← e] at this
    have h1 := g.nd.idxOf_getElem y (by rw [days_len]; exact hy)
    have h2 := g.nd.idxOf_getElem _ hk
    rw [← h1, this, h2]
abbrev ni (l : List Nat) : List Int := List.map (fun x : Nat => (x : Int)) l
theorem rep_len (b : Bool) (t : V) : (List.replicate (if b = true then (1 : Int) else 0).toNat [t]).flatten.length = if b = true then 1 else 0 := by cases b <;> rfl
theorem nl_ni (l : List Nat) : nl l = (ni l).map V.int := by rw [List.map_map]; rfl
theorem rg_nl (n : Nat) : rgV 0 (n : Nat) = nl (List.range n) := by
  unfold rgV
  have e : ((n : Int) - 0).toNat = n := by omega
  rw [e]
  unfold nl
  congr 1
  funext i
  rw [Int.zero_add]
theorem ni_erase {l : List Nat} {x : Nat} (h : x ∈ l) : (ni l)[l.idxOf x]? = some (x : Int) ∧ (∀ m, m < l.idxOf x → (ni l)[m]? ≠ some (x : Int)) ∧ (ni l).eraseIdx (l.idxOf x) = ni (l.erase x) := by
  have hl := List.idxOf_lt_length_of_mem h
  refine ⟨?_, fun m hm e => ?_, ?_⟩
  · rw [List.getElem?_map, List.getElem?_eq_getElem hl, List.getElem_idxOf hl]
    rfl
  · have hm2 : m < l.length := Nat.lt_trans hm hl
    rw [List.getElem?_map, List.getElem?_eq_getElem hm2] at e
    have e : ((l[m] : Nat) : Int) = (x : Int) := Option.some.inj e
    have e : l[m] = x := by omega
    have := List.not_of_lt_findIdx hm
    rw [e] at this
    simp at this
  · rw [erase_map, List.erase_eq_eraseIdx_of_idxOf rfl]
section
variable {P : Program} {w : World} {K : PySem.W.Frag} {mg : Str → Option Value} {base : Heap}
abbrev lenRd (K : PySem.W.Frag) : List V → Hp → VK → Prop := fun xs H Q => ∃ p ys, xs = [.ref p] ∧ (SqL K H p ys ∨ SqT K H p ys) ∧ Q (.int ys.length) H
/-- [at for at in range(len(line)) if line[at][1] == there[..][1]][0] -/
def tLook (K : PySem.W.Frag) (ti : TE) : TE := tOp (rIxL K) (tLc (iRng1 (tCons (tCB (lenRd K) (tCons (tVar 0) tNil)) tNil)) (gName 5)
  (tTest (tOp rEq (tOp (rIxT K) (tOp (rIxT K) (tVar 0) (tVar 5)) (tC (.int 1))) (tOp (rIxT K) (tOp (rIxT K) (tVar 1) ti) (tC (.int 1))))) (tVar 5) [5]) (tC (.int 0))
theorem look_ok {a b pf pl pr : Addr} {L M : Line} {H : Hp} {Q : VK} {ti : TE} {y5 y6 : Option V} {r : Nat} (hL : LineAt H a L) (hM : LineAt H b M) (g : Good L) (l : Lot L M) (hr : r < L.length)
    (hi : ∀ H' (x : Option V) (Q' : VK), Same H H' → Q' (.int (r : Nat)) H' → ti [some (.ref a), some (.ref b), some (.ref pf), some (.ref pl), some (.ref pr), x, y6] H' Q')
    (q : ∀ H', Same H H' → Q (.int ((goals L M).getD r 9 : Nat)) H') : tLook K ti [some (.ref a), some (.ref b), some (.ref pf), some (.ref pl), some (.ref pr), y5, y6] H Q := by
  obtain ⟨ps, eps, hpl, hpp⟩ := hL.tup
  obtain ⟨qs, eqs, hql, hqq⟩ := hM.tup
  have hn := g.len
  have hrM : r < M.length := by rw [l.len]; exact hr
  obtain ⟨pm, em, gm⟩ := hqq.get hrM
  have am : atI (qs.map V.ref) (r : Int) = some (.ref pm) := atI_nat (by rw [List.getElem?_map, em]; rfl)
  have eM : (M.getD r (0, 0)).2 = M[r].2 := by rw [List.getD_eq_getElem?_getD, List.getElem?_eq_getElem hrM]; rfl
  refine ⟨.ref a, rfl, a, _, rfl, .inr (SqT.of eps), ?_⟩
  rw [List.length_map, hpl]
  refine ⟨(L.length : Nat), rfl, by omega, by omega, fun D hD => ?_⟩
  rw [Int.toNat_natCast]
  refine lc_acc (walk_range (lo := 0) (n := L.length)) (fun i acc _ => acc = nl ((List.range i).filter fun i => decide ((L.getD i (0, 0)).2 = (M.getD r (0, 0)).2))) (small1000 (by omega)) hD
    (fun _ _ _ _ _ h => h) (fun _ _ => trivial) rfl (fun i acc H0 x H2 hi' sm hB hY Yes No hyes hno => ?_) (fun H2 acc s2 e2 l2 hB => ?_)
  · obtain ⟨rfl, hx⟩ := hY
    have hx := hx.trans (congrArg V.int (Int.zero_add _))
    subst hx
    obtain ⟨pi, ei, gi⟩ := hpp.get hi'
    have ai : atI (ps.map V.ref) (i : Int) = some (.ref pi) := atI_nat (by rw [List.getElem?_map, ei]; rfl)
    have eL : (L.getD i (0, 0)).2 = L[i].2 := by rw [List.getD_eq_getElem?_getD, List.getElem?_eq_getElem hi']; rfl
    have ef : (List.range (i + 1)).filter (fun i => decide ((L.getD i (0, 0)).2 = (M.getD r (0, 0)).2)) = (List.range i).filter (fun i => decide ((L.getD i (0, 0)).2 = (M.getD r (0, 0)).2)) ++ (if L[i].2 = M[r].2 then [i] else []) := by
      rw [List.range_succ, List.filter_append, List.filter_cons, eL, eM]
      by_cases z : L[i].2 = M[r].2
      · rw [if_pos z, if_pos (decide_eq_true z)]
        rfl
      · rw [if_neg z, if_neg (by rw [decide_eq_false z]; decide)]
        rfl
    refine ⟨rfl, .ref a, rfl, .int (i : Nat), rfl, a, _, _, .ref pi, rfl, rfl, SqT.of (sm _ _ eps), ai, pi, _, 1, .int L[i].2, rfl, rfl, SqT.of (sm _ _ gi), rfl, .ref b, rfl, ?_⟩
    refine hi _ _ _ sm ⟨b, _, _, .ref pm, rfl, rfl, SqT.of (sm _ _ eqs), am, pm, _, 1, .int M[r].2, rfl, rfl, SqT.of (sm _ _ gm), rfl, rfl, _, rfl, ?_⟩
    by_cases z : L[i].2 = M[r].2
    · rw [decide_eq_true (by rw [z])]
      refine iteT ⟨_, rfl, hyes _ _ (Same.refl _) ?_⟩
      rw [ef, if_pos z, hB]
      unfold nl
      rw [List.map_append]
      rfl
    · rw [decide_eq_false (fun e => z (by injection e))]
      refine iteF (hno _ (Same.refl _) ?_)
      rw [ef, if_neg z, hB, List.append_nil]
  · rw [who_has g l hr] at hB
    subst hB
    exact ⟨D, _, _, .int _, rfl, rfl, SqL.of e2, rfl, q _ s2⟩
theorem ok_loops {f : Addr} {fd : FuncData} {k : Nat} (T : Blt mg) (F : Fun K "_law_loops" "_law_loops" sLoops f fd) : FnOk P w K mg base CX0 (k + 1) f fd ["_law_line", "_law_there"] spLoops := by
  refine F.ok scLoops (fun vs H Q E h => ?_) (fun cdv A outer s H vs Q E hr h => ?_)
  · obtain ⟨a, b, L, M, rfl, _⟩ := h
    rfl
  · obtain ⟨a, b, L, M, rfl, hL, hM, g, l, q⟩ := h
    refine ⟨_, pss_cons (ps_par (i := 2) (j := 3) rfl scLoops.nd rfl rfl (by decide) rfl rfl (pa_cons (pe_lst pa_nil) (pa_cons (pe_listRg rfl (by rfl) T.list (prg_1 (by rfl) T.range (pe_callB call_len_seq (by rfl) T.len PySem.boot_len (pa_cons (pv 0) pa_nil)))) pa_nil)) (by rfl))
      (pss_cons (ps_while PassesOwn.never (pt_cmpR (op_neNilI hr.units) (pv 3) (pe_lst pa_nil) (nomark _))
        (pss_cons (ps_set (i := 4) scLoops.nd rfl (.inr rfl) (pe_lst (pa_cons (pe_bm PySem.F.plainAttrs_list PySem.F.slot_list_pop PySem.F.type_list_pop mt_popAt (pv 3) (pa_cons pe_int pa_nil)) pa_nil)))
        (pss_cons (ps_set (i := 6) scLoops.nd rfl (.inl rfl) (pe_ix ix_list (pe_lc (own := [("_law_at", 5)]) (g := gName 5) (tt := tTest (tOp rEq (tOp (rIxT K) (tOp (rIxT K) (tVar 0) (tVar 5)) (tC (.int 1))) (tOp (rIxT K) (tOp (rIxT K) (tVar 1) (tOp (rIxL K) (tVar 4) (tC (.int 0)))) (tC (.int 1))))) (te := tVar 5) rfl scLoops.nd
            (pi_range1 (by rfl) T.range (pa_cons (pe_callB call_len_seq (by rfl) T.len PySem.boot_len (pa_cons (pv 0) pa_nil)) pa_nil))
            (blkOk_by (N := NLo) (sc := defScope sLoops) (by decide +kernel)) (fun _ _ _ _ _ => pg_name (i := 5) scLoops.nd rfl (.inl rfl))
            (fun _ _ _ _ _ => pts_one (pt_cmpR op_eq (pe_ix ix_tup (pe_ix ix_tup (pv 0) (pv 5) (fun _ _ => rfl)) pe_int (fun _ _ => rfl)) (pe_ix ix_tup (pe_ix ix_tup (pv 1) (pe_ix ix_list (pv 4) pe_int (fun _ _ => rfl)) (fun _ _ => rfl)) pe_int (fun _ _ => rfl)) (nomark _)))
            (fun _ _ _ _ _ => pv 5)) pe_int (fun _ _ => rfl)))
        (pss_cons (ps_while PassesOwn.never (pt_cmpR op_ne (pv 6) (pe_ix ix_list (pv 4) pe_int (fun _ _ => rfl)) (nomark _))
          (pss_cons (ps_expr (pe_bm PySem.F.plainAttrs_list PySem.F.slot_list_append PySem.F.type_list_append mt_append (pv 4) (pa_cons (pv 6) pa_nil)))
          (pss_cons (ps_expr (pe_bm PySem.F.plainAttrs_list PySem.F.slot_list_remove PySem.F.type_list_remove mt_remove (pv 3) (pa_cons (pv 6) pa_nil)))
          (pss_one (ps_set (i := 6) scLoops.nd rfl (.inl rfl) (pe_ix ix_list (pe_lc (own := [("_law_at", 5)]) (g := gName 5) (tt := tTest (tOp rEq (tOp (rIxT K) (tOp (rIxT K) (tVar 0) (tVar 5)) (tC (.int 1))) (tOp (rIxT K) (tOp (rIxT K) (tVar 1) (tOp (rIxL K) (tVar 4) (tUn (rU fun i => .int (-i)) (tC (.int 1))))) (tC (.int 1))))) (te := tVar 5) rfl scLoops.nd
            (pi_range1 (by rfl) T.range (pa_cons (pe_callB call_len_seq (by rfl) T.len PySem.boot_len (pa_cons (pv 0) pa_nil)) pa_nil))
            (blkOk_by (N := NLo) (sc := defScope sLoops) (by decide +kernel)) (fun _ _ _ _ _ => pg_name (i := 5) scLoops.nd rfl (.inl rfl))
            (fun _ _ _ _ _ => pts_one (pt_cmpR op_eq (pe_ix ix_tup (pe_ix ix_tup (pv 0) (pv 5) (fun _ _ => rfl)) pe_int (fun _ _ => rfl)) (pe_ix ix_tup (pe_ix ix_tup (pv 1) (pe_ix ix_list (pv 4) (pe_un un_neg pe_int) (fun _ _ => rfl)) (fun _ _ => rfl)) pe_int (fun _ _ => rfl)) (nomark _)))
            (fun _ _ _ _ _ => pv 5)) pe_int (fun _ _ => rfl)))))))
        (pss_one (ps_set (i := 2) scLoops.nd rfl (.inl rfl) (pe_op op_cat (pv 2) (pe_op op_rep (pe_lst (pa_cons (pe_callTy call_tuple_of (by rfl) T.tuple (by decide +kernel) (pa_cons (pv 4) pa_nil)) pa_nil))
          (pe_callTy call_int1 (by rfl) T.int (by decide +kernel) (pa_cons (pe_cmpR op_gt (pe_callB call_len_seq (by rfl) T.len PySem.boot_len (pa_cons (pv 4) pa_nil)) pe_int (nomark _)) pa_nil))))))))))
      (pss_one (ps_ret (pv 2)))), ?_⟩
    have hp := goals_isP g l
    have hn := g.len
    have hall := hp.all hn
    have hgl : (goals L M).length = L.length := hp.len
    obtain ⟨ps, eps, hpl, hpp⟩ := hL.tup
    refine ⟨Nat.zero_le _, fun pf nf => ?_⟩
    have s1 : Same H (upd H pf (.lst [])) := same_upd nf
    have e1 : upd H pf (.lst []) pf = some (.lst []) := upd_same
    generalize upd H pf (.lst []) = H1 at *
    refine ⟨.ref a, rfl, a, _, rfl, .inr (SqT.of (s1 _ _ eps)), _, rfl, ?_⟩
    rw [List.length_map, hpl]
    refine ⟨RgOk.of_le (by omega) (by omega) (by omega) (by omega), fun pl npl => ?_⟩
    rw [rg_nl]
    have hnpl : H pl = none := Same.free s1 npl
    have n1 : pf ≠ pl := ne_of_none e1 npl
    have s2 : Same H1 (upd H1 pl (.lst (nl (List.range L.length)))) := same_upd npl
    have e2 := s2 _ _ e1
    have el2 : upd H1 pl (.lst (nl (List.range L.length))) pl = some (.lst (nl (List.range L.length))) := upd_same
    generalize upd H1 pl (.lst (nl (List.range L.length))) = H2 at *
    have sH2 := Same.trans s1 s2
    refine ⟨_, _, rfl, ?_⟩
    have hck := hall.2.2.1
    rw [hgl] at hck
    have hlo : loopsN (goals L M) = loopsGo (goals L M) L.length (List.range L.length) 0 := by unfold loopsN; rw [hgl]
    rw [hlo] at q
    generalize hG : goals L M = G at *
    refine ⟨fun μ σ H' => ∃ (left : List Nat) (xs : List V) (pf : Addr) (y4 y5 y6 : Option V), σ = [some (.ref a), some (.ref b), some (.ref pf), some (.ref pl), y4, y5, y6] ∧ Same H H' ∧ H' pf = some (.lst xs) ∧ H' pl = some (.lst (nl left)) ∧ pf ≠ pl ∧
        μ ≤ 5 ∧ xs.length + μ ≤ 5 ∧ ckLeft G μ left = true ∧ loopsGo G μ left xs.length = loopsGo G L.length (List.range L.length) 0,
      ⟨_, List.range L.length, [], pf, none, none, none, rfl, sH2, e2, el2, n1, hn, by show 0 + L.length ≤ 5; omega, hck, rfl⟩, fun μ σ H' hW => ?_⟩
    obtain ⟨left, xs, pf, y4, y5, y6, rfl, sH, ef, el, nfl, hμ, hxs, hckL, hgo⟩ := hW
    refine ⟨.ref pl, rfl, Nat.zero_le _, fun pn nn => ?_⟩
    have sn : Same H' (upd H' pn (.lst [])) := same_upd nn
    refine ⟨pl, pn, ni left, rfl, rfl, SqL.of (by rw [← nl_ni]; exact sn _ _ el), SqL.of upd_same, _, rfl, ?_⟩
    have sHn := Same.trans sH sn
    have ef := sn _ _ ef
    have el := sn _ _ el
    generalize upd H' pn (.lst []) = H3 at *
    rw [List.isEmpty_map]
    cases left with
    | nil =>
      refine iteF ⟨_, rfl, q _ pf xs sHn ef ?_⟩
      rw [← hgo]
      cases μ <;> rfl
    | cons x r =>
      cases μ with
      | zero => exact absurd hckL (by unfold ckLeft; decide)
      | succ μ =>
        obtain ⟨hx, hr5, hmem, hck2⟩ := left_of hckL
        have hxL : x < L.length := by rw [← hgl]; exact hx
        have ho := orb_of (hall.2.1 x hxL)
        have hgo2 : loopsGo G μ (leftBy r (orb G x) ((orb G x).length - 1)) (xs.length + if 1 < (orb G x).length then 1 else 0) = loopsGo G L.length (List.range L.length) 0 := hgo
        generalize horb : orb G x = o at *
        have hpos := ho.pos
        have hlt : ∀ k, k < o.length → o.getD k 9 < L.length := fun k hk => by
          rw [← hgl, List.getD_eq_getElem?_getD, List.getElem?_eq_getElem hk]
          exact ho.lt _ (List.getElem_mem _)
        refine iteT ⟨fun σ' H'' => ∃ (left : List Nat) (xs : List V) (pf : Addr) (y4 y5 y6 : Option V), σ' = [some (.ref a), some (.ref b), some (.ref pf), some (.ref pl), y4, y5, y6] ∧ Same H H'' ∧ H'' pf = some (.lst xs) ∧ H'' pl = some (.lst (nl left)) ∧ pf ≠ pl ∧
          μ ≤ 5 ∧ xs.length + μ ≤ 5 ∧ ckLeft G μ left = true ∧ loopsGo G μ left xs.length = loopsGo G L.length (List.range L.length) 0, fun σ' H'' hN => ⟨μ, Nat.lt_succ_self _, hN⟩, ?_⟩
        -- ring = [left.pop(0)]
        refine ⟨.ref pl, rfl, .inl ⟨rfl, _, SqL.of el⟩, pl, _, 0, 0, .int (x : Nat), rfl, rfl, el, by decide, by decide, ?_, rfl, ?_⟩
        · exact PySem.StrLaws.seqIndex_nonneg (by decide) (by rw [List.length_map, List.length_cons]; omega)
        refine ⟨by show 1 ≤ sizeLine; decide, fun pr nr => ?_⟩
        have sP : Same H (upd H3 pl (.lst ((nl (x :: r)).eraseIdx 0))) := same_mut sHn hnpl
        have eP : upd H3 pl (.lst ((nl (x :: r)).eraseIdx 0)) pl = some (.lst (nl r)) := upd_same
        have fP : upd H3 pl (.lst ((nl (x :: r)).eraseIdx 0)) pf = some (.lst xs) := by rw [upd_ne nfl]; exact ef
        generalize upd H3 pl (.lst ((nl (x :: r)).eraseIdx 0)) = H4 at *
        have hnr : H pr = none := Same.free sP nr
        have nlr : pl ≠ pr := ne_of_none eP nr
        have nfr : pf ≠ pr := ne_of_none fP nr
        have sR : Same H4 (upd H4 pr (.lst [.int (x : Nat)])) := same_upd nr
        have eR : upd H4 pr (.lst [.int (x : Nat)]) pr = some (.lst (nl (o.take 1))) := by
          have := take_snoc (l := o) (k := 0) (d := 9) hpos
          rw [ho.first] at this
          rw [← this]
          exact upd_same
        have eP := sR _ _ eP
        have fP := sR _ _ fP
        have sHR := Same.trans sP sR
        generalize upd H4 pr (.lst [.int (x : Nat)]) = H5 at *
        -- later
        have goR : ∀ k, k < o.length → G.getD (o.getD k 9) 9 = if k + 1 < o.length then o.getD (k + 1) 9 else x := fun k hk => by
          by_cases h : k + 1 < o.length
          · rw [if_pos h]
            exact (ho.step k h).1
          · rw [if_neg h]
            have : k = o.length - 1 := by omega
            rw [this]
            exact ho.last
        have hle5 := ho.le
        have ring0 : ∀ k, k < o.length → atI (nl (o.take (k + 1))) 0 = some (.int (x : Nat)) := fun k hk => by
          refine atI_nat (j := 0) ?_
          have h0 : 0 < (o.take (k + 1)).length := by rw [List.length_take]; omega
          rw [nl_getD (d := 9) h0]
          have : (o.take (k + 1)).getD 0 9 = o.getD 0 9 := by
            rw [List.getD_eq_getElem?_getD, List.getD_eq_getElem?_getD, List.getElem?_take_of_lt (by omega)]
          rw [this, ho.first]
        refine look_ok (K := K) (r := x) (hL.same sHR) (hM.same sHR) g l hxL (fun H' y Q' sm q' => ⟨.ref pr, rfl, pr, _, 0, .int (x : Nat), rfl, rfl, SqL.of (sm _ _ eR), ring0 0 hpos, q'⟩) (fun H6 s6 => ?_)
        have eP := s6 _ _ eP
        have fP := s6 _ _ fP
        have eR := s6 _ _ eR
        have sH6 := Same.trans sHR s6
        rw [hG]
        have g0 := goR 0 hpos
        rw [ho.first] at g0
        refine ⟨fun m σ H' => ∃ (k : Nat) (y5 : Option V), m = o.length - k ∧ k + 1 ≤ o.length ∧ σ = [some (.ref a), some (.ref b), some (.ref pf), some (.ref pl), some (.ref pr), y5, some (.int (G.getD (o.getD k 9) 9 : Nat))] ∧ Same H H' ∧ H' pf = some (.lst xs) ∧ H' pl = some (.lst (nl (leftBy r o k))) ∧ H' pr = some (.lst (nl (o.take (k + 1)))),
          ⟨_, 0, y5, rfl, by omega, by rw [ho.first]; rfl, sH6, fP, eP, eR⟩, fun m σ H' hW => ?_⟩
        obtain ⟨k, y5, rfl, hk, rfl, sH7, f7, e7, r7⟩ := hW
        refine ⟨_, rfl, .ref pr, rfl, pr, _, 0, .int (x : Nat), rfl, rfl, SqL.of r7, ring0 k (by omega), rfl, _, rfl, ?_⟩
        rw [goR k (by omega)]
        by_cases hk2 : k + 1 < o.length
        · obtain ⟨st1, st2⟩ := ho.step k hk2
          rw [if_pos hk2]
          have ed : (!decide (V.int (o.getD (k + 1) 9 : Nat) = V.int (x : Nat))) = true := by
            rw [decide_eq_false]
            · rfl
            · intro z
              injection z with z
              omega
          rw [ed]
          refine iteT ⟨fun σ' H' => ∃ (y5 : Option V), σ' = [some (.ref a), some (.ref b), some (.ref pf), some (.ref pl), some (.ref pr), y5, some (.int (G.getD (o.getD (k + 1) 9) 9 : Nat))] ∧ Same H H' ∧ H' pf = some (.lst xs) ∧ H' pl = some (.lst (nl (leftBy r o (k + 1)))) ∧ H' pr = some (.lst (nl (o.take (k + 1 + 1)))), fun σ' H' hN => ?_, ?_⟩
          · obtain ⟨y5, rfl, z⟩ := hN
            exact ⟨o.length - (k + 1), by omega, k + 1, y5, rfl, by omega, rfl, z⟩
          · -- ring.append(later)
            refine ⟨.ref pr, rfl, .inl ⟨rfl, _, SqL.of r7⟩, _, rfl, pr, _, _, rfl, rfl, r7, by rw [List.length_map, List.length_take]; exact small1000 (by omega), ?_⟩
            rw [take_snoc (d := 9) hk2]
            have s8 := same_mut (o := .lst (nl (o.take (k + 1 + 1)))) sH7 hnr
            have f8 : upd H' pr (.lst (nl (o.take (k + 1 + 1)))) pf = some (.lst xs) := by rw [upd_ne nfr]; exact f7
            have e8 : upd H' pr (.lst (nl (o.take (k + 1 + 1)))) pl = some (.lst (nl (leftBy r o k))) := by rw [upd_ne nlr]; exact e7
            have r8 : upd H' pr (.lst (nl (o.take (k + 1 + 1)))) pr = some (.lst (nl (o.take (k + 1 + 1)))) := upd_same
            generalize upd H' pr (.lst (nl (o.take (k + 1 + 1)))) = H8 at *
            -- left.remove(later)
            obtain ⟨m1, m2, m3⟩ := ni_erase (hmem k hk2)
            refine ⟨.ref pl, rfl, .inl ⟨rfl, _, SqL.of e8⟩, _, rfl, pl, ni (leftBy r o k), _, _, rfl, rfl, by rw [← nl_ni]; exact e8, m1, m2, ?_⟩
            rw [m3, ← leftBy_succ hk2, ← nl_ni]
            have s9 := same_mut (o := .lst (nl (leftBy r o (k + 1)))) s8 hnpl
            have f9 : upd H8 pl (.lst (nl (leftBy r o (k + 1)))) pf = some (.lst xs) := by rw [upd_ne nfl]; exact f8
            have r9 : upd H8 pl (.lst (nl (leftBy r o (k + 1)))) pr = some (.lst (nl (o.take (k + 1 + 1)))) := by rw [upd_ne (Ne.symm nlr)]; exact r8
            have e9 : upd H8 pl (.lst (nl (leftBy r o (k + 1)))) pl = some (.lst (nl (leftBy r o (k + 1)))) := upd_same
            generalize upd H8 pl (.lst (nl (leftBy r o (k + 1)))) = H9 at *
            refine look_ok (K := K) (r := o.getD (k + 1) 9) (hL.same s9) (hM.same s9) g l (hlt _ hk2) (fun H' y Q' sm q' => ⟨.ref pr, rfl, 1, rfl, pr, _, _, .int (o.getD (k + 1) 9 : Nat), rfl, rfl, SqL.of (sm _ _ r9), nl_last (d := 9) hk2, q'⟩) (fun H10 s10 => ?_)
            rw [hG]
            exact ⟨y5, rfl, Same.trans s9 s10, s10 _ _ f9, s10 _ _ e9, s10 _ _ r9⟩
        · rw [if_neg hk2, decide_eq_true rfl]
          have hk3 : k = o.length - 1 := by omega
          have et : o.take (k + 1) = o := List.take_of_length_le (by omega)
          rw [et] at r7
          refine iteF ⟨.ref pf, rfl, .ref pr, rfl, pr, _, rfl, .inl ⟨SqL.of r7, fun t nt => ?_⟩⟩
          have sT : Same H' (upd H' t (.tup (nl o))) := same_upd nt
          have f8 := sT _ _ f7
          have e8 := sT _ _ e7
          have r8 := sT _ _ r7
          have sH8 := Same.trans sH7 sT
          generalize upd H' t (.tup (nl o)) = H8 at *
          refine ⟨by show 1 ≤ sizeLine; decide, fun pt npt => ?_⟩
          have sU : Same H8 (upd H8 pt (.lst [.ref t])) := same_upd npt
          have f9 := sU _ _ f8
          have e9 := sU _ _ e8
          have r9 := sU _ _ r8
          have u9 : upd H8 pt (.lst [.ref t]) pt = some (.lst [.ref t]) := upd_same
          have sH9 := Same.trans sH8 sU
          generalize upd H8 pt (.lst [.ref t]) = H9 at *
          refine ⟨.ref pr, rfl, pr, _, rfl, .inl (SqL.of r9), _, _, rfl, rfl, .inr ⟨_, rfl, pt, _, _, rfl, rfl, u9, ?_⟩⟩
          refine ⟨?_, ?_, ?_, fun p np => ?_⟩
          · split <;> decide
          · split <;> decide
          · split
            · show 1 ≤ sizeLine
              decide
            · show 0 ≤ sizeLine
              decide
          have hb : decide ((1 : Int) < ((nl o).length : Int)) = decide (1 < o.length) := by rw [List.length_map, decide_eq_decide]; omega
          have nfp : pf ≠ p := ne_of_none f9 np
          have sV := same_upd (o := .lst (List.replicate (if decide ((1 : Int) < ((nl o).length : Int)) = true then (1 : Int) else 0).toNat [V.ref t]).flatten) np
          have f10 := sV _ _ f9
          have e10 := sV _ _ e9
          refine ⟨pf, p, xs, _, rfl, rfl, f10, upd_same, ?_, fun p2 np2 => ?_⟩
          · exact Nat.le_of_lt (small1000 (by rw [rep_len]; split <;> omega))
          have sW := same_upd (o := .lst (xs ++ (List.replicate (if decide ((1 : Int) < ((nl o).length : Int)) = true then (1 : Int) else 0).toNat [V.ref t]).flatten)) np2
          refine ⟨leftBy r o k, _, p2, _, _, _, rfl, Same.trans sH9 (Same.trans sV sW), upd_same, sW _ _ e10, Ne.symm (ne_of_none e10 np2), by omega, ?_, by rw [hk3]; exact hck2, ?_⟩
          · rw [List.length_append, rep_len]; split <;> omega
          · rw [List.length_append, rep_len, hb, hk3, ← hgo2]
            simp only [decide_eq_true_eq]
end
end SW
end
section
set_option Elab.async false
set_option linter.all false
set_option maxRecDepth 100000
set_option maxHeartbeats 1000000
namespace SW
open PySem PySem.Spec PyProof.Rows L2

/-! ### the dict of exchanges -/
abbrev ItIs (H : Hp) (M : Line) (e : Item) (d : Nat × Nat) : Prop := H e.1 = some (.tup [.ref e.2.2.1, .ref e.2.2.2]) ∧ e.2.1 = duoKey (d.1 : Nat) (d.2 : Nat) ∧ H e.2.2.1 = some (.tup [.int (d.1 : Nat), .int (d.2 : Nat)]) ∧ LineAt H e.2.2.2 (swapF M d.1 d.2)
theorem ItIs.at {H H' : Hp} {M : Line} {e : Item} {d : Nat × Nat} (t : Tk H H') (h : ItIs H M e d) : ItIs H' M e d := ⟨t _ _ h.1, h.2.1, t _ _ h.2.2.1, h.2.2.2.at t⟩
abbrev ItsAt (H : Hp) (M : Line) : List Item → List (Nat × Nat) → Prop := Paired (ItIs H M)
theorem ItsAt.at {H H' : Hp} {M : Line} {es : List Item} {ds : List (Nat × Nat)} (t : Tk H H') (h : ItsAt H M es ds) : ItsAt H' M es ds := L2.Paired.mapP h fun _ _ e => e.at t
theorem ItsAt.keys {H : Hp} {M : Line} {es : List Item} {ds : List (Nat × Nat)} (h : ItsAt H M es ds) : Keys H (es.map entOf) := fun y hy => by
  obtain ⟨e, he, rfl⟩ := List.mem_map.mp hy
  obtain ⟨d, _, h1, h2, h3, h4⟩ := paired_mem_l h e he
  show KIs H e.2.1 (.ref e.2.2.1) ∧ e.2.1.depth ≤ 8
  rw [h2]
  exact ⟨pair_kis h3, duo_depth _ _⟩
theorem ItsAt.nd {H : Hp} {M : Line} {es : List Item} {ds : List (Nat × Nat)} (h : ItsAt H M es ds) (nd : ds.Nodup) : (es.map fun e => e.2.1).Nodup := by
  have e := paired_map_eq (f := fun e : Item => e.2.1) (g := fun d : Nat × Nat => duoKey (d.1 : Nat) (d.2 : Nat)) (fun a b z => z.2.1) h
  rw [e]
  refine nodup_map nd fun a _ b _ z => ?_
  obtain ⟨z1, z2⟩ := duoKey_inj z
  exact Prod.ext (by omega) (by omega)
theorem ItsAt.get {H : Hp} {M : Line} {d : Nat × Nat} : ∀ {es : List Item} {ds : List (Nat × Nat)}, ItsAt H M es ds → d ∈ ds → ∃ v, atE (es.map entOf) (duoKey (d.1 : Nat) (d.2 : Nat)) = some (.ref v) ∧ LineAt H v (swapF M d.1 d.2)
  | _, _, .nil, h => nomatch h
  | e :: es, b :: ds, .cons r t, h => by
    obtain ⟨h1, h2, h3, h4⟩ := r
    unfold atE
    rw [List.map_cons, List.find?_cons]
    by_cases z : (entOf e).1 = duoKey (d.1 : Nat) (d.2 : Nat)
    · rw [decide_eq_true z]
      have z : e.2.1 = duoKey (d.1 : Nat) (d.2 : Nat) := z
      rw [h2] at z
      obtain ⟨z1, z2⟩ := duoKey_inj z
      have : b = d := Prod.ext (by omega) (by omega)
      subst this
      exact ⟨e.2.2.2, rfl, h4⟩
    · rw [decide_eq_false z]
      have hd : d ∈ ds := by
        rcases List.mem_cons.mp h with rfl | h
        · exact absurd h2 z
        · exact h
      exact ItsAt.get t hd
theorem same_unlock {H H' : Hp} {d : Addr} {u : HO} {o : HO} (hd : H d = some u) (s : Same (upd H d o) H') : Same H (upd H' d u) := fun b x e => by
  by_cases z : b = d
  · subst z
    rw [hd] at e
    cases e
    exact upd_same
  · rw [upd_ne z]
    exact s b x (by rw [upd_ne z]; exact e)
theorem tk_lock {H : Hp} {d : Addr} {u o : HO} (hd : H d = some u) (hu : ∀ xs, u ≠ .tup xs) : Tk H (upd H d o) := Tk.upd fun xs z => hu xs (by rw [hd] at z; exact Option.some.inj z)
/-- the exchange named by nearer -/
theorem near_duo {L M : Line} (g : Good L) (l : Lot L M) {x : Nat} (hx : x < M.length) (ne : (goals M L).getD x 9 ≠ x) (hmax : ∀ y, y < M.length → (goals M L).getD y 9 ≠ y → (arrs M).getD y 0 ≤ (arrs M).getD x 0) :
    IsDuo M (min x ((goals M L).getD x 9), max x ((goals M L).getD x 9)) ∧ dist L (swapF M (min x ((goals M L).getD x 9)) (max x ((goals M L).getD x 9))) + 1 = dist L M := by
  have hl := l.len
  have hxL : x < L.length := by omega
  have eA : ∀ y, (hy : y < L.length) → (arrs M).getD y 0 = L[y].1 := fun y hy => by
    rw [l.arr, List.getD_eq_getElem?_getD, List.getElem?_eq_getElem (by rw [arrs_len]; exact hy), Option.getD_some]
    unfold arrs
    rw [List.getElem_map]
  obtain ⟨hb, hm, n1, n2⟩ := last_near g l hxL (goals M L) rfl ne fun b hb hne => by
    have := hmax b (by omega) hne
    rwa [eA b hb, eA x hxL] at this
  generalize hy : (goals M L).getD x 9 = y at *
  by_cases h : x < y
  · rw [Nat.min_eq_left (by omega), Nat.max_eq_right (by omega)]
    exact ⟨⟨h, hx, hb, hm⟩, n1⟩
  · rw [Nat.min_eq_right (by omega), Nat.max_eq_left (by omega)]
    exact ⟨⟨by show y < x; omega, hb, hx, by rw [meet_comm]; exact hm⟩, n2⟩

theorem cut_refs (ns : List Addr) (lo hi : Option Int) : ∃ ms : List Addr, cutV (ns.map V.ref) lo hi = ms.map V.ref ∧ (∀ m ∈ ms, m ∈ ns) ∧ ms.length ≤ ns.length := by
  refine ⟨(ns.drop (HT.sIx ns.length 0 lo)).take (HT.sIx ns.length ns.length hi - HT.sIx ns.length 0 lo), ?_, fun m hm => List.mem_of_mem_drop (List.mem_of_mem_take hm), ?_⟩
  · unfold cutV
    rw [List.length_map, ← List.map_drop, ← List.map_take]
  · rw [List.length_take, List.length_drop]
    omega
theorem few_of_same {α : Type} {a : α} : ∀ {l : List α}, l.Nodup → (∀ x ∈ l, x = a) → l.length ≤ 1
  | [], _, _ => Nat.zero_le _
  | [_], _, _ => Nat.le_refl _
  | x :: y :: l, nd, h => by
    have e1 := h x List.mem_cons_self
    have e2 := h y (List.mem_cons_of_mem _ List.mem_cons_self)
    rw [e1, e2] at nd
    exact absurd List.mem_cons_self (List.nodup_cons.mp nd).1
/-- the line of an entry -/
noncomputable def lineOf (y : Ent) : Line := Classical.epsilon fun M => lineKey M = y.1
theorem lineOf_far (L : Line) (z : Addr × Line) : lineOf (farE L z) = z.2 := lineKey_inj (Classical.epsilon_spec (p := fun M => lineKey M = (farE L z).1) ⟨z.2, rfl⟩)
theorem far_sort {H : Hp} {L : Line} {zs : Far} (f : FarAt H L zs) : (∀ y ∈ zs.map (farE L), LineAt H y.2.1 (lineOf y)) ∧ ((zs.map (farE L)).length < 2 ∨ ∀ y ∈ zs.map (farE L), lineOf y ≠ []) := by
  refine ⟨fun y hy => ?_, ?_⟩
  · obtain ⟨z, hz, rfl⟩ := List.mem_map.mp hy
    rw [lineOf_far]
    exact f.lines z hz
  · by_cases h : L.length = 0
    · refine .inl ?_
      have := few_of_same (a := ([] : Line)) f.nd fun M hM => by
        obtain ⟨z, hz, rfl⟩ := List.mem_map.mp hM
        exact List.length_eq_zero_iff.mp ((f.lot z hz).len.trans h)
      rw [List.length_map] at this ⊢
      omega
    · refine .inr fun y hy => ?_
      obtain ⟨z, hz, rfl⟩ := List.mem_map.mp hy
      rw [lineOf_far]
      intro e
      have := (f.lot z hz).len
      rw [e] at this
      exact h this.symm
theorem two_of {H : Hp} {a b : Addr} {L M : Line} (hL : LineAt H a L) (hM : LineAt H b M) (g : Good L) (l : Lot L M) : Two H a b L M := ⟨hL, hM, g.len, l.arr.symm, l.perm.symm, g.nd⟩
abbrev sRight : Stmt := topS 29
abbrev NRi : List Str := ["_law_box_here", "_law_line", "_law_far", "_law_there", "_law_duo", "_law_near", "_law_its", "_law_at", "_law_still"]
theorem scRight : FnScope NRi ["_law_box_here"] (defScope sRight) := ⟨rfl, rfl, rfl, by decide +kernel, rfl, by decide +kernel, by decide +kernel⟩
def spRight : Sp := fun vs H Q _ => ∃ (b : Addr) (m : Nat), vs = [.ref b] ∧ BoxAt H b m ∧ m ≤ 800000000 ∧ ∀ H', Exb b H H' → BoxAt H' b (m + 4000) → Q (.bl true) H'
section
variable {P : Program} {w : World} {K : PySem.W.Frag} {mg : Str → Option Value} {base : Heap}
abbrev absRd : List V → Hp → VK → Prop := fun xs H Q => ∃ i, xs = [.int i] ∧ Q (.int (if i < 0 then -i else i)) H
theorem ok_right {f fRa fOf fLy fSt fDi fDu fSw fLo fNe : Addr} {fd fdRa fdOf fdLy fdSt fdDi fdDu fdSw fdLo fdNe : FuncData} {k : Nat} (T : Blt mg) (F : Fun K "_law_right" "_law_right" sRight f fd)
    (GRa : FnOk P w K mg base CX0 k fRa fdRa ["_law_box_here", "_law_most", "_law_top"] spRand) (gRa : mg "_law_random_line" = some (.ref fRa)) (kRa : PySem.W.keepIn K (.ref fRa) = true) (bRa : Binds K fdRa ["_law_box_here", "_law_most", "_law_top"] [])
    (GOf : FnOk P w K mg base CX0 k fOf fdOf ["_law_box_here", "_law_some"] spOf) (gOf : mg "_law_of" = some (.ref fOf)) (kOf : PySem.W.keepIn K (.ref fOf) = true) (bOf : Binds K fdOf ["_law_box_here", "_law_some"] [])
    (GLy : FnOk P w K mg base CX0 k fLy fdLy ["_law_line"] (spLay P w)) (gLy : mg "_law_layers" = some (.ref fLy)) (kLy : PySem.W.keepIn K (.ref fLy) = true) (bLy : Binds K fdLy ["_law_line"] [])
    (GSt : FnOk P w K mg base CX0 k fSt fdSt ["_law_box_here", "_law_some"] spStrewn) (gSt : mg "_law_strewn" = some (.ref fSt)) (kSt : PySem.W.keepIn K (.ref fSt) = true) (bSt : Binds K fdSt ["_law_box_here", "_law_some"] [])
    (GDi : FnOk P w K mg base CX0 k fDi fdDi ["one", "other"] spDist) (gDi : mg "distance" = some (.ref fDi)) (kDi : PySem.W.keepIn K (.ref fDi) = true) (bDi : Binds K fdDi ["one", "other"] [])
    (GDu : FnOk P w K mg base CX0 k fDu fdDu ["_law_line"] spDuos) (gDu : mg "_law_duos" = some (.ref fDu)) (kDu : PySem.W.keepIn K (.ref fDu) = true) (bDu : Binds K fdDu ["_law_line"] [])
    (GSw : FnOk P w K mg base CX0 k fSw fdSw ["_law_line", "_law_at", "_law_spot"] spSwap) (gSw : mg "_law_swap" = some (.ref fSw)) (kSw : PySem.W.keepIn K (.ref fSw) = true) (bSw : Binds K fdSw ["_law_line", "_law_at", "_law_spot"] [])
    (GLo : FnOk P w K mg base CX0 k fLo fdLo ["_law_line", "_law_there"] spLoops) (gLo : mg "_law_loops" = some (.ref fLo)) (kLo : PySem.W.keepIn K (.ref fLo) = true) (bLo : Binds K fdLo ["_law_line", "_law_there"] [])
    (GNe : FnOk P w K mg base CX0 k fNe fdNe ["one", "other"] (spPair fun x y => (((min x y : Nat) : Int), ((max x y : Nat) : Int)))) (gNe : mg "nearer" = some (.ref fNe)) (kNe : PySem.W.keepIn K (.ref fNe) = true) (bNe : Binds K fdNe ["one", "other"] []) :
    FnOk P w K mg base CX0 (k + 1) f fd ["_law_box_here"] spRight := by
  refine F.ok scRight (fun vs H Q E h => ?_) (fun cdv A outer s H vs Q E hr h => ?_)
  · obtain ⟨b, m, rfl, _⟩ := h
    rfl
  · obtain ⟨b, m, rfl, hb, hm, q⟩ := h
    refine ⟨_, pss_cons (ps_set (i := 1) scRight.nd rfl (.inr rfl) (pe_call GRa hr (by rfl) gRa kRa bRa .nil pass0 (pa_cons (pv 0) (pa_cons pe_int (pa_cons (pe_call GOf hr (by rfl) gOf kOf bOf .nil pass0 (pa_cons (pv 0) (pa_cons (pe_lst (pa_cons pe_int (pa_cons pe_int (pa_cons pe_int pa_nil)))) pa_nil))) pa_nil)))))
      (pss_cons (ps_set (i := 2) scRight.nd rfl (.inr rfl) (pe_call GLy hr (by rfl) gLy kLy bLy .nil pass0 (pa_cons (pv 1) pa_nil)))
      (pss_cons (ps_for PassesOwn.never rfl (pi_list (pe_slice sl_list (pe_call GSt hr (by rfl) gSt kSt bSt .nil pass0 (pa_cons (pv 0) (pa_cons (pe_callB (cr_sortLn rfl hr.units) (by rfl) T.sorted (by decide +kernel) (pa_cons (pv 2) pa_nil)) pa_nil))) po_none (po_some pe_int))) (pg_name (i := 3) scRight.nd rfl (.inr rfl))
        (pss_cons (ps_if (PW.pt (pw_or (pt_cmpR op_ne (pe_call GDi hr (by rfl) gDi kDi bDi .nil pass0 (pa_cons (pv 1) (pa_cons (pv 3) pa_nil))) (pe_getN hr.units (pv 2) (pv 3) (fun _ _ => rfl)) (nomark _))
            (pw_or1 (pt_cmpR op_ne (pe_call GDi hr (by rfl) gDi kDi bDi .nil pass0 (pa_cons (pv 3) (pa_cons (pv 1) pa_nil))) (pe_getN hr.units (pv 2) (pv 3) (fun _ _ => rfl)) (nomark _))))) pss_never pss_nil)
        (pss_cons (ps_set (i := 5) scRight.nd rfl (.inl rfl) (pe_callTy (call_dictN rfl hr.units) (by rfl) T.dict (by decide +kernel) (pa_cons
            (pe_lc (own := [("_law_duo", 4)]) (g := gName 4) (tt := tYes) (te := tTup (tCons (tVar 4) (tCons (tCall spSwap [] E0 (tCons (tVar 3) (tCons (tOp (rIxT K) (tVar 4) (tC (.int 0))) (tCons (tOp (rIxT K) (tVar 4) (tC (.int 1))) tNil)))) tNil))) rfl scRight.nd
              (pi_list (pe_call GDu hr (by rfl) gDu kDu bDu .nil pass0 (pa_cons (pv 3) pa_nil)))
              (blkOk_by (N := NRi) (sc := defScope sRight) (by decide +kernel)) (fun _ _ _ _ _ => pg_name (i := 4) scRight.nd rfl (.inl rfl)) (fun _ _ _ _ _ => pts_nil)
              (fun _ _ _ _ _ => pe_tup (pa_cons (pv 4) (pa_cons (pe_call GSw hr (by rfl) gSw kSw bSw .nil pass0 (pa_cons (pv 3) (pa_cons (pe_ix ix_tup (pv 4) pe_int (fun _ _ => rfl)) (pa_cons (pe_ix ix_tup (pv 4) pe_int (fun _ _ => rfl)) pa_nil)))) pa_nil)))) pa_nil)))
        (pss_cons (ps_if (pt_not (pt_val (pe_callB (cr_all rfl) (by rfl) T.all (by decide +kernel) (pa_cons (pe_lock
            (pe_lc (own := [("_law_its", 6)]) (g := gName 6) (tt := tYes) (te := tOp rEq (tCB absRd (tCons (tOp (rI0 fun i j => .int (i - j)) (tGetN P w (tVar 2) (tVar 6)) (tGetN P w (tVar 2) (tVar 3))) tNil)) (tC (.int 1))) rfl scRight.nd
              (pi_valuesN (pv 5)) (blkOk_by (N := NRi) (sc := defScope sRight) (by decide +kernel)) (fun _ _ _ _ _ => pg_name (i := 6) scRight.nd rfl (.inl rfl)) (fun _ _ _ _ _ => pts_nil)
              (fun _ _ _ _ _ => pe_cmpR op_eq (pe_callB call_abs (by rfl) T.abs (by decide +kernel) (pa_cons (pe_op op_sub (pe_getN hr.units (pv 2) (pv 6) (fun _ _ => rfl)) (pe_getN hr.units (pv 2) (pv 3) (fun _ _ => rfl))) pa_nil)) pe_int (nomark _)))) pa_nil)))) pss_never pss_nil)
        (pss_cons (ps_set (i := 8) scRight.nd rfl (.inl rfl) (pe_callB call_len_seq (by rfl) T.len PySem.boot_len (pa_cons
            (pe_lc (own := [("_law_at", 7)]) (g := gName 7) (tt := tTest (tOp rEqPair (tOp (rIxT K) (tVar 1) (tVar 7)) (tOp (rIxT K) (tVar 3) (tVar 7)))) (te := tVar 7) rfl scRight.nd
              (pi_range1 (by rfl) T.range (pa_cons (pe_callB call_len_seq (by rfl) T.len PySem.boot_len (pa_cons (pv 1) pa_nil)) pa_nil)) (blkOk_by (N := NRi) (sc := defScope sRight) (by decide +kernel)) (fun _ _ _ _ _ => pg_name (i := 7) scRight.nd rfl (.inl rfl))
              (fun _ _ _ _ _ => pts_one (pt_cmpR (op_eqPair hr.units) (pe_ix ix_tup (pv 1) (pv 7) (fun _ _ => rfl)) (pe_ix ix_tup (pv 3) (pv 7) (fun _ _ => rfl)) (nomark _))) (fun _ _ _ _ _ => pv 7)) pa_nil)))
        (pss_cons (ps_if (pt_cmpR op_ne (pe_getN hr.units (pv 2) (pv 3) (fun _ _ => rfl)) (pe_op op_sub (pe_op op_sub (pe_callB call_len_seq (by rfl) T.len PySem.boot_len (pa_cons (pv 1) pa_nil))
            (pe_callB call_len_seq (by rfl) T.len PySem.boot_len (pa_cons (pe_call GLo hr (by rfl) gLo kLo bLo .nil pass0 (pa_cons (pv 1) (pa_cons (pv 3) pa_nil))) pa_nil))) (pv 8)) (nomark _)) pss_never pss_nil)
        (pss_cons (ps_set (i := 4) scRight.nd rfl (.inl rfl) (pe_call GNe hr (by rfl) gNe kNe bNe .nil pass0 (pa_cons (pv 3) (pa_cons (pv 1) pa_nil))))
        (pss_one (ps_if (pt_cmpR (op_eqLine hr.units) (pv 3) (pv 1) (nomark _))
          (pss_one (ps_if (pt_cmpR op_notN (pv 4) pe_non (nomark _)) pss_never pss_nil))
          (pss_one (ps_if (PW.pt (pw_or (pt_cmpR (op_notInN hr.units) (pv 4) (pv 5) (by rfl))
            (pw_or1 (pt_cmpR op_ne (pe_getN hr.units (pv 2) (pe_getN hr.units (pv 5) (pv 4) (fun _ _ => rfl)) (fun _ _ => rfl)) (pe_op op_sub (pe_getN hr.units (pv 2) (pv 3) (fun _ _ => rfl)) pe_int) (nomark _))))) pss_never pss_nil)))))))))))
      (pss_one (ps_ret pe_bl)))), ?_⟩
    obtain ⟨bx, hbx⟩ := hb.lst
    refine ⟨.ref b, rfl, .ref b, rfl, by show 3 ≤ sizeLine; decide, fun p3 np3 => ?_⟩
    have s0 : Same H (upd H p3 (.lst [.int 2, .int 5, .int 9])) := same_upd np3
    refine ⟨b, p3, [2, 5, 9], m, rfl, upd_same, Ne.symm (ne_of_none hbx np3), by decide, by decide, hb.same s0, by omega, fun H1 top ex1 hb1 htop => ?_⟩
    have htop2 : 0 ≤ top ∧ top ≤ 1000 := by
      simp only [List.mem_cons, List.not_mem_nil, or_false] at htop
      omega
    have exA := Exb.trans (Exb.of s0) ex1
    refine ⟨b, top, m + 1, rfl, htop2.1, htop2.2, hb1, by omega, fun H2 pL L ex2 hb2 hL g => ?_⟩
    have exB := Exb.trans exA ex2
    clear ex1 ex2 exA hb1 s0 np3
    have hn := g.len
    refine ⟨.ref pL, rfl, pL, L, rfl, hL, g, fun H3 d zs s3 ed fz hzall => ?_⟩
    have hb3 := hb2.same s3
    have hL3 := hL.same s3
    have exC := Exb.trans exB (Exb.of s3)
    obtain ⟨bx3, hbx3⟩ := hb3.lst
    have nbd : d ≠ b := fun z => by rw [z, hbx3] at ed; cases ed
    clear hL hb2 exB
    obtain ⟨fs1, fs2⟩ := far_sort fz
    have flen := fz.len g
    refine ⟨.ref b, rfl, .ref d, rfl, d, _, lineOf, rfl, .inl ed, fs1, fs2, fun zs' p4 pp np4 => ?_⟩
    have s4 : Same H3 (upd H3 p4 (.lst (zs'.map V.ref))) := same_upd np4
    have e4 : upd H3 p4 (.lst (zs'.map V.ref)) p4 = some (.lst (zs'.map V.ref)) := upd_same
    have hz' : ∀ z ∈ zs', ∃ M, (z, M) ∈ zs := fun z hz => by
      obtain ⟨y, hy, rfl⟩ := List.mem_map.mp (pp.mem_iff.mp hz)
      obtain ⟨x, hx, rfl⟩ := List.mem_map.mp hy
      exact ⟨x.2, hx⟩
    have hzl : zs'.length ≤ 3125 := by
      rw [pp.length_eq, List.length_map, List.length_map]
      exact flen
    have nb4 : p4 ≠ b := Ne.symm (ne_of_none hbx3 np4)
    have hb4 := hb3.same s4
    have hL4 := hL3.same s4
    have ed4 := s4 _ _ ed
    have fz4 := fz.at (Tk.of s4)
    have exD := Exb.trans exC (Exb.of s4)
    generalize upd H3 p4 (.lst (zs'.map V.ref)) = H4 at *
    clear hb3 hL3 ed fz exC hbx3 np4
    refine ⟨b, p4, zs', m + 1 + 20, rfl, e4, nb4, by omega, fun z hz => ?_, hb4, by omega, fun H5 p5 zs2 ex5 hb5 e5 mem5 len5 => ?_⟩
    · obtain ⟨M, hM⟩ := hz' z hz
      exact ⟨M, fz4.lines _ hM⟩
    have tk5 := ex5.tk hb4
    have hL5 := hL4.at tk5
    have ed5 := ex5 _ _ nbd ed4
    have fz5 := fz4.at tk5
    have exE := Exb.trans exD ex5
    refine ⟨30, rfl, p5, _, rfl, SqL.of e5, fun p6 np6 => ?_⟩
    obtain ⟨zs3, ec, mem3, len3⟩ := cut_refs zs2 none (some 30)
    rw [ec]
    have s6 : Same H5 (upd H5 p6 (.lst (zs3.map V.ref))) := same_upd np6
    have e6 : upd H5 p6 (.lst (zs3.map V.ref)) p6 = some (.lst (zs3.map V.ref)) := upd_same
    have hL6 := hL5.same s6
    have ed6 := s6 _ _ ed5
    have fz6 := fz5.at (Tk.of s6)
    have exF := Exb.trans exE (Exb.of s6)
    have hb6 : BoxAt (upd H5 p6 (.lst (zs3.map V.ref))) b (m + 4000) := (hb5.same s6).le (by omega)
    have hz3 : ∀ z ∈ zs3, ∃ M, (z, M) ∈ zs := fun z hz => hz' z (mem5 z (mem3 z hz))
    generalize upd H5 p6 (.lst (zs3.map V.ref)) = H6 at *
    clear hL4 ed4 fz4 exD hb4 tk5 hL5 ed5 fz5 exE hb5 e5 mem5 len5 ec mem3 s6 np6 s4 e4 hz' pp hzl ex5 s3 hbx fs1 fs2
    refine ⟨p6, rfl, ⟨_, SqL.of e6⟩, ?_⟩
    refine for_it (walk_list (K := K) (a := p6) (xs := zs3.map V.ref)) (fun i σ H' => ∃ y3 y4 y5 y6 y7 y8 : Option V, σ = [some (.ref b), some (.ref pL), some (.ref d), y3, y4, y5, y6, y7, y8] ∧ Same H6 H')
      ⟨none, none, none, none, none, none, rfl, Same.refl _⟩ (fun i σ H' _ h => ?_) (fun i x σ H0 H' hi p hY => ?_) (fun σ H' p => ?_)
    · obtain ⟨_, _, _, _, _, _, rfl, s⟩ := h
      exact SqL.of (s _ _ e6)
    · obtain ⟨rfl, hx⟩ := hY
      obtain ⟨y3, y4, y5, y6, y7, y8, rfl, sA⟩ := p
      rw [List.length_map] at hi
      rw [List.getElem?_map, List.getElem?_eq_getElem hi] at hx
      cases hx
      obtain ⟨M, hzm⟩ := hz3 _ (List.getElem_mem hi)
      generalize zs3[i] = z at *
      have l : Lot L M := fz6.lot _ hzm
      have hMl : M.length = L.length := l.len
      have gM := l.good g
      have inM : M ∈ linesOf zs := hzall M l
      have lnM : ∀ H', Same H6 H' → LineAt H' z M := fun H' s => (fz6.lines _ hzm).same s
      have lnL : ∀ H', Same H6 H' → LineAt H' pL L := fun H' s => hL6.same s
      have fzA : ∀ H', Same H6 H' → FarAt H' L zs := fun H' s => fz6.at (Tk.of s)
      -- far[there]
      have farM : ∀ H', Same H6 H' → ∀ Q' : VK, Q' (.int (dist L M : Nat)) H' → rGetN P w (.ref d) (.ref z) H' Q' := fun H' s Q' q' =>
        ⟨d, z, _, lineKey M, _, rfl, rfl, .inl (s _ _ ed6), (fzA H' s).keys, line_kis (lnM H' s), line_depth M, far_yes inM, q'⟩
      -- the distances
      refine ⟨.ref pL, rfl, .ref z, rfl, pL, z, L, M, rfl, two_of (lnL _ sA) (lnM _ sA) g l, fun H7 s7 => ?_⟩
      have sB := Same.trans sA s7
      refine ⟨.ref d, rfl, .ref z, rfl, farM _ sB _ ⟨rfl, _, rfl, ?_⟩⟩
      rw [show dd (goals L M) = dist L M from rfl, decide_eq_true rfl]
      refine iteF ?_
      refine ⟨.ref z, rfl, .ref pL, rfl, z, pL, M, L, rfl, two_of (lnM _ sB) (lnL _ sB) gM (l.symm g), fun H8 s8 => ?_⟩
      have sC := Same.trans sB s8
      refine ⟨.ref d, rfl, .ref z, rfl, farM _ sC _ ⟨rfl, _, rfl, ?_⟩⟩
      rw [dist_back g l, decide_eq_true rfl]
      refine iteF ?_
      clear sA sB s7 s8
      -- near
      refine ⟨.ref z, rfl, z, M, rfl, lnM _ sC, gM.len, fun H9 pq ts ds s9 npq eq hp nds lds hds => ?_⟩
      have sD := Same.trans sC s9
      clear sC s9 npq
      have lts := Paired.length hp
      refine ⟨pq, rfl, ⟨_, SqL.of eq⟩, fun D hD => ?_⟩
      refine lc_acc (walk_list (K := K) (a := pq) (xs := ts.map V.ref)) (fun i acc H' => ∃ es : List Item, acc = es.map (fun e => V.ref e.1) ∧ ItsAt H' M es (ds.take i)) (by rw [List.length_map]; exact small1000 (by omega)) hD
        (fun _ _ _ _ t h => ?_) (fun H' s => SqL.of (s _ _ eq)) ⟨[], rfl, .nil⟩ (fun i acc H0 x H' hi sm hB hY Yes No hyes hno => ?_) (fun H10 acc s10 e10 l10 hB => ?_)
      · obtain ⟨es, e, p⟩ := h
        exact ⟨es, e, p.at t⟩
      · obtain ⟨rfl, hx⟩ := hY
        obtain ⟨es, rfl, hes⟩ := hB
        rw [List.length_map] at hi
        rw [List.getElem?_map, List.getElem?_eq_getElem hi] at hx
        cases hx
        obtain ⟨e, he, et⟩ := paired_get hp (List.getElem?_eq_getElem hi)
        have hDuo := (hds e).mp (List.mem_of_getElem? he)
        obtain ⟨d1, d2, d3, d4⟩ := hDuo
        have et : H' ts[i] = some (.tup [.int (e.1 : Nat), .int (e.2 : Nat)]) := sm _ _ et
        refine ⟨rfl, .ref ts[i], rfl, .ref z, rfl, .ref ts[i], rfl, ts[i], _, 0, .int (e.1 : Nat), rfl, rfl, SqT.of et, rfl, .ref ts[i], rfl, ts[i], _, 1, .int (e.2 : Nat), rfl, rfl, SqT.of et, rfl, z, M, e.1, e.2, rfl, lnM _ (Same.trans sD sm), d2, d3, by omega, fun H11 t s11 hT => ?_⟩
        refine ⟨by show 2 ≤ sizeLine; decide, fun t2 nt2 => ?_⟩
        have s12 := same_upd (o := .tup [.ref ts[i], .ref t]) nt2
        refine hyes _ _ (Same.trans s11 s12) ⟨es ++ [(t2, duoKey (e.1 : Nat) (e.2 : Nat), ts[i], t)], by rw [List.map_append]; rfl, ?_⟩
        rw [List.take_add_one, he]
        exact Paired.snoc (hes.at (Tk.of (Same.trans s11 s12))) ⟨upd_same, rfl, s12 _ _ (s11 _ _ et), hT.same s12⟩
      · rw [List.length_map, lts, List.take_length] at hB
        obtain ⟨es, rfl, hes⟩ := hB
        have sE := Same.trans sD s10
        refine ⟨D, es, rfl, SqL.of e10, fun e he => ?_, hes.keys, hes.nd nds, fun n nn => ?_⟩
        · obtain ⟨_, _, h, _⟩ := paired_mem_l hes e he
          exact h
        have s13 := same_upd (o := ND P w n (es.map entOf)) nn
        have en : upd H10 n (ND P w n (es.map entOf)) n = some (ND P w n (es.map entOf)) := upd_same
        have hes := hes.at (Tk.of s13)
        have sF := Same.trans sE s13
        have ndn : d ≠ n := ne_of_none (sE _ _ ed6) nn
        have les : es.length = ds.length := Paired.length hes
        generalize hH12 : upd H10 n (ND _ _ n (es.map entOf)) = H12
        have hH12 : upd H10 n (ND P w n (es.map entOf)) = H12 := hH12
        rw [hH12] at en hes sF
        clear sD sE s10 s13 e10 l10 hD nn eq hp hH12
        -- all(..)
        refine ⟨n, _, en, trivial, fun od => ⟨.ref n, rfl, n, od, _, rfl, upd_same, fun D hD => ?_⟩⟩
        have tkL : Tk H12 (upd H12 n (.frz od (ND P w n (es.map entOf)))) := tk_lock en (fun xs z => by cases z)
        have edL : upd H12 n (.frz od (ND P w n (es.map entOf))) d = some (ND P w d (zs.map (farE L))) := by rw [upd_ne ndn]; exact sF _ _ ed6
        have fzL : FarAt (upd H12 n (.frz od (ND P w n (es.map entOf)))) L zs := (fzA _ sF).at tkL
        have esL := hes.at tkL
        have enL : upd H12 n (.frz od (ND P w n (es.map entOf))) n = some (.frz od (ND P w n (es.map entOf))) := upd_same
        have lnML := (lnM _ sF).at tkL
        have unlock : ∀ H', Same (upd H12 n (.frz od (ND P w n (es.map entOf)))) H' → Same H12 (upd H' n (ND P w n (es.map entOf))) := fun H' s => same_unlock en s
        have hDn : D ≠ n := fun z => by rw [z, upd_same] at hD; cases hD
        generalize hH13 : upd H12 n (.frz od (ND _ _ n (es.map entOf))) = H13
        have hH13 : upd H12 n (.frz od (ND P w n (es.map entOf))) = H13 := hH13
        rw [hH13] at tkL edL fzL esL enL lnML unlock
        have hD : H13 D = none := by rw [← hH13]; exact hD
        clear hH13 tkL
        have lentry : (es.map entOf).length = ds.length := by rw [List.length_map]; exact les
        refine lc_acc (lc_valsN (P := P) (w := w) (d := n) (o := od) (ys := es.map entOf)) (fun i acc _ => acc = List.replicate i (V.bl true)) (by rw [lentry]; exact small1000 (by omega)) hD
          (fun _ _ _ _ _ h => h) (fun H' s => s _ _ enL) rfl (fun i acc H0 x H' hi sm hB hY Yes No hyes hno => ?_) (fun H14 acc s14 e14 l14 hB => ?_)
        · obtain ⟨rfl, y, hy, hx⟩ := hY
          have hi : i < es.length := by rw [List.length_map] at hi; exact hi
          rw [List.getElem?_map, List.getElem?_eq_getElem hi] at hy
          cases hy
          subst hx
          obtain ⟨e, he, h1, h2, h3, h4⟩ := paired_get esL (List.getElem?_eq_getElem hi)
          obtain ⟨d1, d2, d3, d4⟩ := (hds e).mp (List.mem_of_getElem? he)
          have lM := lot_swap l d2 d3 d4
          have fzS := fzL.at (Tk.of sm)
          have edS := sm _ _ edL
          refine ⟨rfl, .ref d, rfl, .ref es[i].2.2.2, rfl, d, es[i].2.2.2, _, lineKey (swapF M e.1 e.2), _, rfl, rfl, .inl edS, fzS.keys, line_kis (h4.same sm), line_depth _, far_yes (hzall _ lM),
            .ref d, rfl, .ref z, rfl, d, z, _, lineKey M, _, rfl, rfl, .inl edS, fzS.keys, line_kis (lnML.same sm), line_depth M, far_yes inM, _, _, rfl, rfl, _, rfl, rfl, hyes _ _ (Same.refl _) ?_⟩
          rw [List.replicate_succ', hB]
          have ea : (if ((dist L (swapF M e.1 e.2) : Nat) : Int) - ((dist L M : Nat) : Int) < 0 then -(((dist L (swapF M e.1 e.2) : Nat) : Int) - ((dist L M : Nat) : Int)) else ((dist L (swapF M e.1 e.2) : Nat) : Int) - ((dist L M : Nat) : Int)) = 1 := by
            rcases dist_step g l d1 d3 with z | z <;> (rw [z]; split <;> omega)
          show List.replicate i (V.bl true) ++ [V.bl (decide (V.int _ = V.int 1))] = _
          rw [ea, decide_eq_true rfl]
        · rw [lentry] at hB
          subst hB
          have s15 := unlock _ s14
          have e15 : upd H14 n (ND P w n (es.map entOf)) D = some (.lst (List.replicate ds.length (V.bl true))) := by rw [upd_ne hDn]; exact e14
          have en15 : upd H14 n (ND P w n (es.map entOf)) n = some (ND P w n (es.map entOf)) := upd_same
          have sG := Same.trans sF s15
          have hes := hes.at (Tk.of s15)
          refine ⟨s14 _ _ enL, ?_⟩
          generalize hH16 : upd H14 n (ND _ _ n (es.map entOf)) = H16
          have hH16 : upd H14 n (ND P w n (es.map entOf)) = H16 := hH16
          rw [hH16] at s15 e15 en15 sG hes
          clear hH16 s15 s14 unlock esL edL fzL enL lnML e14 l14 sF en hD
          refine ⟨D, List.replicate ds.length true, rfl, SqL.of (by rw [List.map_replicate]; exact e15), _, rfl, ?_⟩
          have eall : (List.replicate ds.length true).all id = true := by
            rw [List.all_eq_true]
            intro x hx
            exact (List.mem_replicate.mp hx).2
          rw [eall]
          refine iteF ?_
          -- still
          obtain ⟨psL, epsL, hplL, hppL⟩ := (lnL _ sG).tup
          obtain ⟨psM, epsM, hplM, hppM⟩ := (lnM _ sG).tup
          refine ⟨.ref pL, rfl, pL, _, rfl, .inr (SqT.of epsL), ?_⟩
          rw [List.length_map, hplL]
          refine ⟨(L.length : Nat), rfl, by omega, by omega, fun D2 hD2 => ?_⟩
          rw [Int.toNat_natCast]
          refine lc_acc (walk_range (lo := 0) (n := L.length)) (fun i acc _ => acc = nl ((List.range i).filter fun i => decide (L.getD i (0, 0) = M.getD i (0, 0)))) (small1000 (by omega)) hD2
            (fun _ _ _ _ _ h => h) (fun _ _ => trivial) rfl (fun i acc H0 x H' hi' sm hB hY Yes No hyes hno => ?_) (fun H17 acc s17 e17 l17 hB => ?_)
          · obtain ⟨rfl, hx⟩ := hY
            have hx := hx.trans (congrArg V.int (Int.zero_add _))
            subst hx
            have hiM : i < M.length := by omega
            obtain ⟨p1, q1, g1⟩ := hppL.get hi'
            obtain ⟨p2, q2, g2⟩ := hppM.get hiM
            have a1 : atI (psL.map V.ref) (i : Int) = some (.ref p1) := atI_nat (by rw [List.getElem?_map, q1]; rfl)
            have a2 : atI (psM.map V.ref) (i : Int) = some (.ref p2) := atI_nat (by rw [List.getElem?_map, q2]; rfl)
            have eL : L.getD i (0, 0) = L[i] := by rw [List.getD_eq_getElem?_getD, List.getElem?_eq_getElem hi']; rfl
            have eM : M.getD i (0, 0) = M[i] := by rw [List.getD_eq_getElem?_getD, List.getElem?_eq_getElem hiM]; rfl
            have ef : (List.range (i + 1)).filter (fun i => decide (L.getD i (0, 0) = M.getD i (0, 0))) = (List.range i).filter (fun i => decide (L.getD i (0, 0) = M.getD i (0, 0))) ++ (if L[i] = M[i] then [i] else []) := by
              rw [List.range_succ, List.filter_append, List.filter_cons, eL, eM]
              by_cases z : L[i] = M[i]
              · rw [if_pos z, if_pos (decide_eq_true z)]
                rfl
              · rw [if_neg z, if_neg (by rw [decide_eq_false z]; decide)]
                rfl
            refine ⟨rfl, .ref pL, rfl, .int (i : Nat), rfl, pL, _, _, .ref p1, rfl, rfl, SqT.of (sm _ _ epsL), a1, .ref z, rfl, .int (i : Nat), rfl, z, _, _, .ref p2, rfl, rfl, SqT.of (sm _ _ epsM), a2, p1, p2, L[i], M[i], rfl, rfl, sm _ _ g1, sm _ _ g2, _, rfl, ?_⟩
            by_cases z : L[i] = M[i]
            · rw [decide_eq_true z]
              refine iteT ⟨_, rfl, hyes _ _ (Same.refl _) ?_⟩
              rw [ef, if_pos z, hB]
              unfold nl
              rw [List.map_append]
              rfl
            · rw [decide_eq_false z]
              refine iteF (hno _ (Same.refl _) ?_)
              rw [ef, if_neg z, hB, List.append_nil]
          · subst hB
            have sH := Same.trans sG s17
            have en17 := s17 _ _ en15
            have hes := hes.at (Tk.of s17)
            refine ⟨D2, _, rfl, .inl (SqL.of e17), ?_⟩
            clear sG s17 e17 l17 en15 e15 hppL hppM epsL epsM hplL hplM hD2
            -- the count
            refine ⟨.ref d, rfl, .ref z, rfl, farM _ sH _ ⟨.ref pL, rfl, ?_⟩⟩
            obtain ⟨psL, epsL, hplL, hppL⟩ := (lnL _ sH).tup
            refine ⟨pL, _, rfl, .inr (SqT.of epsL), .ref pL, rfl, .ref z, rfl, pL, z, L, M, rfl, lnL _ sH, lnM _ sH, g, l, fun H18 p18 xs s18 e18 hlen => ?_⟩
            have ec := law_count g l
            have ec' : ((dist L M : Nat) : Int) = ((psL.map V.ref).length : Int) - (xs.length : Int) - ((nl ((List.range L.length).filter fun i => decide (L.getD i (0, 0) = M.getD i (0, 0)))).length : Int) := by
              rw [List.length_map, hplL, hlen, List.length_map]
              exact ec
            refine ⟨p18, _, rfl, .inl (SqL.of e18), _, _, rfl, rfl, _, rfl, _, _, rfl, rfl, rfl, false, congrArg V.bl (congrArg not (decide_eq_true (congrArg V.int ec'))), ?_⟩
            have sI := Same.trans sH s18
            have en18 := s18 _ _ en17
            have hes := hes.at (Tk.of s18)
            refine iteF ?_
            clear sH s18 e18 en17 epsL hppL ec ec'
            -- nearer
            refine ⟨.ref z, rfl, .ref pL, rfl, z, pL, M, L, rfl, two_of (lnM _ sI) (lnL _ sI) gM (l.symm g), fun H19 s19 hfix => ?_, fun H19 p19 x s19 hx hne hmax hpair => ?_⟩
            · -- none: they are the same
              have sJ := Same.trans sI s19
              have eML : L = M := by
                refine goals_id gM (l.symm g) (List.ext_getElem (by rw [goals_len, List.length_range, hMl]) fun i a b => ?_)
                rw [goals_len] at a
                have h1 := hfix i (by omega)
                rw [List.getElem_range]
                rwa [List.getD_eq_getElem?_getD, List.getElem?_eq_getElem (by rw [goals_len]; exact a), Option.getD_some] at h1
              refine ⟨.ref z, rfl, .ref pL, rfl, z, pL, M, L, rfl, rfl, lnM _ sJ, lnL _ sJ, _, rfl, ?_⟩
              rw [decide_eq_true eML.symm]
              refine iteT ⟨_, rfl, rfl, _, rfl, ?_⟩
              exact iteF ⟨_, _, _, _, _, _, rfl, sJ⟩
            · have sJ := Same.trans sI s19
              have hesJ := hes.at (Tk.of s19)
              have enJ := s19 _ _ en18
              obtain ⟨hD1, hD2⟩ := near_duo g l hx hne hmax
              have neML : M ≠ L := fun z => by
                subst z
                have h1 := goals_self (L := M) g
                rw [h1] at hne
                refine hne ?_
                rw [List.getD_eq_getElem?_getD, List.getElem?_range hx]
                rfl
              refine ⟨.ref z, rfl, .ref pL, rfl, z, pL, M, L, rfl, rfl, lnM _ sJ, lnL _ sJ, _, rfl, ?_⟩
              rw [decide_eq_false neML]
              refine iteF ?_
              obtain ⟨v, hv1, hv2⟩ := hesJ.get ((hds _).mpr hD1)
              refine ⟨.ref p19, rfl, .ref n, rfl, p19, n, _, duoKey ((min x ((goals M L).getD x 9) : Nat) : Int) ((max x ((goals M L).getD x 9) : Nat) : Int), rfl, rfl, .inl enJ, hesJ.keys, pair_kis hpair, duo_depth _ _, _, rfl, ?_⟩
              rw [hv1]
              refine iteF ?_
              obtain ⟨e1, e2, e3, e4⟩ := hD1
              have lM := lot_swap l e2 e3 e4
              refine ⟨.ref d, rfl, .ref n, rfl, .ref p19, rfl, n, p19, _, duoKey ((min x ((goals M L).getD x 9) : Nat) : Int) ((max x ((goals M L).getD x 9) : Nat) : Int), _, rfl, rfl, .inl enJ, hesJ.keys, pair_kis hpair, duo_depth _ _, hv1,
                d, v, _, lineKey (swapF M (min x ((goals M L).getD x 9)) (max x ((goals M L).getD x 9))), _, rfl, rfl, .inl (sJ _ _ ed6), (fzA _ sJ).keys, line_kis hv2, line_depth _, far_yes (hzall _ lM), .ref d, rfl, .ref z, rfl, farM _ sJ _ ⟨_, _, rfl, rfl, rfl, false, congrArg V.bl (congrArg not (decide_eq_true (congrArg V.int ?_))), ?_⟩⟩
              · omega
              · exact iteF ⟨_, _, _, _, _, _, rfl, sJ⟩
    · obtain ⟨_, _, _, _, _, _, rfl, s⟩ := p
      exact q _ (Exb.trans exF (Exb.of s)) (hb6.same s)
end
end SW
end
section
set_option Elab.async false
set_option linter.all false
set_option maxRecDepth 100000
set_option maxHeartbeats 1000000
namespace SW
open PySem PySem.Spec PyProof.Rows L2

abbrev sLaw : Stmt := topS 30
abbrev NLw : List Str := ["_law_script", "_law_cells_here", "_law_k", "_law_box_here", "_law_turn"]
theorem scLaw : FnScope NLw ["_law_script"] (defScope sLaw) := ⟨rfl, rfl, rfl, by decide +kernel, rfl, by decide +kernel, by decide +kernel⟩
def spLaw (K : PySem.W.Frag) : Sp := fun vs H Q _ => ∃ (a : Addr) (ns : List Int), vs = [.ref a] ∧ SqL K H a (ns.map V.int) ∧ ns.length ≤ 63 ∧ ∀ H', Q (.bl true) H'
section
variable {P : Program} {w : World} {K : PySem.W.Frag} {mg : Str → Option Value} {base : Heap}
theorem ok_law {f fCe fBo fRi : Addr} {fd fdCe fdBo fdRi : FuncData} {k : Nat} (T : Blt mg) (F : Fun K "law" "law" sLaw f fd)
    (GCe : FnOk P w K mg base CX0 k fCe fdCe ["_law_script", "_law_most"] (spCells K)) (gCe : mg "_law_cells" = some (.ref fCe)) (kCe : PySem.W.keepIn K (.ref fCe) = true) (bCe : Binds K fdCe ["_law_script", "_law_most"] [])
    (GBo : FnOk P w K mg base CX0 k fBo fdBo ["_law_script", "_law_k"] spBox) (gBo : mg "_law_box" = some (.ref fBo)) (kBo : PySem.W.keepIn K (.ref fBo) = true) (bBo : Binds K fdBo ["_law_script", "_law_k"] [])
    (GRi : FnOk P w K mg base CX0 k fRi fdRi ["_law_box_here"] spRight) (gRi : mg "_law_right" = some (.ref fRi)) (kRi : PySem.W.keepIn K (.ref fRi) = true) (bRi : Binds K fdRi ["_law_box_here"] []) :
    FnOk P w K mg base CX0 (k + 1) f fd ["_law_script"] (spLaw K) := by
  refine F.ok scLaw (fun vs H Q E h => ?_) (fun cdv A outer s H vs Q E hr h => ?_)
  · obtain ⟨a, ns, rfl, _⟩ := h
    rfl
  · obtain ⟨a, ns, rfl, ha, hn, q⟩ := h
    refine ⟨_, pss_cons (ps_set (i := 1) scLaw.nd rfl (.inl rfl) (pe_call GCe hr (by rfl) gCe kCe bCe .nil pass0 (pa_cons (pv 0) (pa_cons pe_int pa_nil))))
      (pss_cons (ps_for PassesOwn.never rfl (pi_range1 (by rfl) T.range (pa_cons (pe_callB call_len_seq (by rfl) T.len PySem.boot_len (pa_cons (pv 1) pa_nil)) pa_nil)) (pg_name (i := 2) scLaw.nd rfl (.inl rfl))
        (pss_cons (ps_set (i := 3) scLaw.nd rfl (.inr rfl) (pe_call GBo hr (by rfl) gBo kBo bBo .nil pass0 (pa_cons (pv 1) (pa_cons (pv 2) pa_nil))))
        (pss_one (ps_if (pt_not (pt_val (pe_callB (cr_all rfl) (by rfl) T.all (by decide +kernel) (pa_cons
          (pe_lc (own := [("_law_turn", 4)]) (g := gName 4) (tt := tYes) (te := tCall spRight [] E0 (tCons (tVar 3) tNil)) rfl scLaw.nd (pi_range1 (by rfl) T.range (pa_cons pe_int pa_nil))
            (blkOk_by (N := NLw) (sc := defScope sLaw) (by decide +kernel)) (fun _ _ _ _ _ => pg_name (i := 4) scLaw.nd rfl (.inl rfl)) (fun _ _ _ _ _ => pts_nil)
            (fun _ _ _ _ _ => pe_call GRi hr (by rfl) gRi kRi bRi .nil pass0 (pa_cons (pv 3) pa_nil))) pa_nil)))) pss_never pss_nil))))
      (pss_one (ps_ret pe_bl))), ?_⟩
    refine ⟨.ref a, rfl, a, ns, rfl, ha, by omega, fun H1 pc ms s1 e1 hms => ?_⟩
    refine ⟨.ref pc, rfl, pc, _, rfl, .inl (SqL.of e1), ?_⟩
    rw [List.length_map]
    refine ⟨(ms.length : Nat), rfl, by omega, by omega, ?_⟩
    rw [Int.toNat_natCast]
    refine for_it (walk_range (lo := 0) (n := ms.length)) (fun i σ H' => ∃ y2 y3 y4 : Option V, σ = [some (.ref a), some (.ref pc), y2, y3, y4] ∧ H' pc = some (.lst (ms.map V.int)))
      ⟨none, none, none, rfl, e1⟩ (fun _ _ _ _ _ => trivial) (fun i x σ H0 H' hi p hY => ?_) (fun σ H' p => ?_)
    · obtain ⟨rfl, hx⟩ := hY
      have hx := hx.trans (congrArg V.int (Int.zero_add _))
      subst hx
      obtain ⟨y2, y3, y4, rfl, e⟩ := p
      refine ⟨.ref pc, rfl, .int (i : Nat), rfl, pc, ms, i, rfl, e, hi, by omega, fun H2 pb s2 hb => ?_⟩
      have e2 := s2 _ _ e
      have nb : pc ≠ pb := fun z => by
        obtain ⟨x1, x2, x3, eb, _⟩ := hb
        rw [← z, e2] at eb
        injection eb with eb
        injection eb with eb
        have := congrArg List.length eb
        rw [List.length_map] at this
        simp at this
        omega
      refine ⟨2, rfl, by omega, by omega, fun D hD => ?_⟩
      obtain ⟨bx, hbx⟩ := hb.lst
      have nbD : pb ≠ D := ne_of_none hbx hD
      have ncD : pc ≠ D := ne_of_none e2 hD
      refine lc_it (walk_range (lo := 0) (n := 2)) (fun i H' => Exb pb H2 H' ∧ BoxAt H' pb (4000 * i) ∧ H' D = some (.lst (List.replicate i (V.bl true)))) ⟨Exb.of (same_upd hD), hb.same (same_upd hD), upd_same⟩ (fun _ _ _ _ => trivial)
        (fun i x H0 H' hi p hY => ?_) (fun H' p => ?_)
      · obtain ⟨rfl, hx⟩ := hY
        obtain ⟨ex, hb', eD⟩ := p
        refine ⟨rfl, .ref pb, rfl, pb, 4000 * i, rfl, hb', by omega, fun H3 ex3 hb3 => ⟨_, ex3 _ _ (Ne.symm nbD) eD, by rw [List.length_replicate]; exact small1000 (by omega), Exb.mut (Exb.trans ex ex3) hD, ?_, ?_⟩⟩
        · exact (hb3.keep (upd_ne nbD)).le (by omega)
        · rw [upd_same, List.replicate_succ']
      · obtain ⟨ex, hb', eD⟩ := p
        refine ⟨D, [true, true], rfl, SqL.of eD, _, rfl, ?_⟩
        exact iteF ⟨_, _, _, rfl, ex _ _ nb e2⟩
    · exact q _
end
end SW
end
section
set_option Elab.async false
set_option linter.all false
set_option maxRecDepth 100000
set_option maxHeartbeats 1000000
namespace SW
open PySem PySem.Spec PyProof.Rows L2
/-! ### all defs together -/
section
variable {P : Program} {w : World} {K : PySem.W.Frag} {mg : Str → Option Value} {base : Heap}
theorem ok_all (T : Blt mg) {f_arr : Addr} {d_arr : FuncData} (F_arr : Fun K "arrivals_of" "arrivals_of" (topS 4) f_arr d_arr) (g_arr : mg "arrivals_of" = some (.ref f_arr)) (b_arr : Binds K d_arr ["stays"] [])
    {f_days : Addr} {d_days : FuncData} (F_days : Fun K "days_of" "days_of" (topS 5) f_days d_days) (g_days : mg "days_of" = some (.ref f_days)) (b_days : Binds K d_days ["stays"] [])
    {f_ord : Addr} {d_ord : FuncData} (F_ord : Fun K "order_of" "order_of" (topS 6) f_ord d_ord) (g_ord : mg "order_of" = some (.ref f_ord)) (b_ord : Binds K d_ord ["stays"] [])
    {f_many : Addr} {d_many : FuncData} (F_many : Fun K "look_many" "look_many" (topS 9) f_many d_many) (g_many : mg "look_many" = some (.ref f_many)) (b_many : Binds K d_many ["one", "other"] [])
    {f_bar : Addr} {d_bar : FuncData} (F_bar : Fun K "bar" "bar" (topS 10) f_bar d_bar) (g_bar : mg "bar" = some (.ref f_bar)) (b_bar : Binds K d_bar ["one", "other"] [])
    {f_leads : Addr} {d_leads : FuncData} (F_leads : Fun K "look_leads" "look_leads" (topS 11) f_leads d_leads) (g_leads : mg "look_leads" = some (.ref f_leads)) (b_leads : Binds K d_leads ["one", "other"] [])
    {f_goals : Addr} {d_goals : FuncData} (F_goals : Fun K "goals_of" "goals_of" (topS 12) f_goals d_goals) (g_goals : mg "goals_of" = some (.ref f_goals)) (b_goals : Binds K d_goals ["one", "other"] [])
    {f_rings : Addr} {d_rings : FuncData} (F_rings : Fun K "rings" "rings" (topS 13) f_rings d_rings) (g_rings : mg "rings" = some (.ref f_rings)) (b_rings : Binds K d_rings ["one", "other"] [])
    {f_dist : Addr} {d_dist : FuncData} (F_dist : Fun K "distance" "distance" (topS 14) f_dist d_dist) (g_dist : mg "distance" = some (.ref f_dist)) (b_dist : Binds K d_dist ["one", "other"] [])
    {f_last : Addr} {d_last : FuncData} (F_last : Fun K "last_swap" "last_swap" (topS 15) f_last d_last) (g_last : mg "last_swap" = some (.ref f_last)) (b_last : Binds K d_last ["one", "other"] [])
    {f_near : Addr} {d_near : FuncData} (F_near : Fun K "nearer" "nearer" (topS 16) f_near d_near) (g_near : mg "nearer" = some (.ref f_near)) (b_near : Binds K d_near ["one", "other"] [])
    {f_box : Addr} {d_box : FuncData} (F_box : Fun K "_law_box" "_law_box" (topS 18) f_box d_box) (g_box : mg "_law_box" = some (.ref f_box)) (b_box : Binds K d_box ["_law_script", "_law_k"] [])
    {f_take : Addr} {d_take : FuncData} (F_take : Fun K "_law_take" "_law_take" (topS 19) f_take d_take) (g_take : mg "_law_take" = some (.ref f_take)) (b_take : Binds K d_take ["_law_box_here", "_law_span"] [])
    {f_cells : Addr} {d_cells : FuncData} (F_cells : Fun K "_law_cells" "_law_cells" (topS 20) f_cells d_cells) (g_cells : mg "_law_cells" = some (.ref f_cells)) (b_cells : Binds K d_cells ["_law_script", "_law_most"] [])
    {f_of : Addr} {d_of : FuncData} (F_of : Fun K "_law_of" "_law_of" (topS 21) f_of d_of) (g_of : mg "_law_of" = some (.ref f_of)) (b_of : Binds K d_of ["_law_box_here", "_law_some"] [])
    {f_strewn : Addr} {d_strewn : FuncData} (F_strewn : Fun K "_law_strewn" "_law_strewn" (topS 22) f_strewn d_strewn) (g_strewn : mg "_law_strewn" = some (.ref f_strewn)) (b_strewn : Binds K d_strewn ["_law_box_here", "_law_some"] [])
    {f_rand : Addr} {d_rand : FuncData} (F_rand : Fun K "_law_random_line" "_law_random_line" (topS 23) f_rand d_rand) (g_rand : mg "_law_random_line" = some (.ref f_rand)) (b_rand : Binds K d_rand ["_law_box_here", "_law_most", "_law_top"] [])
    {f_meet : Addr} {d_meet : FuncData} (F_meet : Fun K "_law_meet" "_law_meet" (topS 24) f_meet d_meet) (g_meet : mg "_law_meet" = some (.ref f_meet)) (b_meet : Binds K d_meet ["_law_mine", "_law_its"] [])
    {f_swap : Addr} {d_swap : FuncData} (F_swap : Fun K "_law_swap" "_law_swap" (topS 25) f_swap d_swap) (g_swap : mg "_law_swap" = some (.ref f_swap)) (b_swap : Binds K d_swap ["_law_line", "_law_at", "_law_spot"] [])
    {f_duos : Addr} {d_duos : FuncData} (F_duos : Fun K "_law_duos" "_law_duos" (topS 26) f_duos d_duos) (g_duos : mg "_law_duos" = some (.ref f_duos)) (b_duos : Binds K d_duos ["_law_line"] [])
    {f_layers : Addr} {d_layers : FuncData} (F_layers : Fun K "_law_layers" "_law_layers" (topS 27) f_layers d_layers) (g_layers : mg "_law_layers" = some (.ref f_layers)) (b_layers : Binds K d_layers ["_law_line"] [])
    {f_loops : Addr} {d_loops : FuncData} (F_loops : Fun K "_law_loops" "_law_loops" (topS 28) f_loops d_loops) (g_loops : mg "_law_loops" = some (.ref f_loops)) (b_loops : Binds K d_loops ["_law_line", "_law_there"] [])
    {f_right : Addr} {d_right : FuncData} (F_right : Fun K "_law_right" "_law_right" (topS 29) f_right d_right) (g_right : mg "_law_right" = some (.ref f_right)) (b_right : Binds K d_right ["_law_box_here"] [])
    {f_law : Addr} {d_law : FuncData} (F_law : Fun K "law" "law" (topS 30) f_law d_law) (g_law : mg "law" = some (.ref f_law)) (b_law : Binds K d_law ["_law_script"] []) :
    FnOk P w K mg base CX0 7 f_law d_law ["_law_script"] (spLaw K) :=
  (ok_law (k := 6) T F_law (ok_cells (k := 5) T F_cells) g_cells F_cells.kp b_cells (ok_box (k := 5) T F_box) g_box F_box.kp b_box (ok_right (k := 5) T F_right (ok_rand (k := 4) T F_rand (ok_take (k := 3) F_take) g_take F_take.kp b_take) g_rand F_rand.kp b_rand (ok_of (k := 4) T F_of (ok_take (k := 3) F_take) g_take F_take.kp b_take) g_of F_of.kp b_of (ok_layers (k := 4) T F_layers (ok_duos (k := 3) T F_duos (ok_meet (k := 2) T F_meet) g_meet F_meet.kp b_meet) g_duos F_duos.kp b_duos (ok_swap (k := 3) T F_swap) g_swap F_swap.kp b_swap) g_layers F_layers.kp b_layers (ok_strewn (k := 4) T F_strewn (ok_take (k := 3) F_take) g_take F_take.kp b_take) g_strewn F_strewn.kp b_strewn (ok_dist (k := 4) T F_dist (ok_rings (k := 3) T F_rings (ok_leads (k := 2) F_leads (ok_bar (k := 1) T F_bar (ok_many (k := 0) T F_many) g_many F_many.kp b_many (ok_arr (k := 0) T F_arr) g_arr F_arr.kp b_arr (ok_days (k := 0) T F_days) g_days F_days.kp b_days) g_bar F_bar.kp b_bar) g_leads F_leads.kp b_leads (ok_goals (k := 2) T F_goals (ok_days (k := 1) T F_days) g_days F_days.kp b_days) g_goals F_goals.kp b_goals) g_rings F_rings.kp b_rings) g_dist F_dist.kp b_dist (ok_duos (k := 4) T F_duos (ok_meet (k := 3) T F_meet) g_meet F_meet.kp b_meet) g_duos F_duos.kp b_duos (ok_swap (k := 4) T F_swap) g_swap F_swap.kp b_swap (ok_loops (k := 4) T F_loops) g_loops F_loops.kp b_loops (ok_near (k := 4) T F_near (ok_leads (k := 3) F_leads (ok_bar (k := 2) T F_bar (ok_many (k := 1) T F_many) g_many F_many.kp b_many (ok_arr (k := 1) T F_arr) g_arr F_arr.kp b_arr (ok_days (k := 1) T F_days) g_days F_days.kp b_days) g_bar F_bar.kp b_bar) g_leads F_leads.kp b_leads (ok_last (k := 3) T F_last (ok_goals (k := 2) T F_goals (ok_days (k := 1) T F_days) g_days F_days.kp b_days) g_goals F_goals.kp b_goals (ok_ord (k := 2) T F_ord (ok_arr (k := 1) T F_arr) g_arr F_arr.kp b_arr) g_ord F_ord.kp b_ord) g_last F_last.kp b_last) g_near F_near.kp b_near) g_right F_right.kp b_right)
end
/-! ### what the top has written; the law's own head -/
theorem all_mk {l : PySem.W.OpenLaw} {w : World} {K : PySem.W.Frag} {h : Heap} {mg : Str → Option Value} {fa : Addr} (X : K.In h) (G : h.Ns mainGlobals mg) (hfa : mg "law" = some (.ref fa))
    {f_arr : Addr} {o_arr n_arr : Option Addr} {s_arr : Array (Option Value)} {c_arr v_arr e_arr p_arr x_arr t_arr : Value}
    {f_days : Addr} {o_days n_days : Option Addr} {s_days : Array (Option Value)} {c_days v_days e_days p_days x_days t_days : Value}
    {f_ord : Addr} {o_ord n_ord : Option Addr} {s_ord : Array (Option Value)} {c_ord v_ord e_ord p_ord x_ord t_ord : Value}
    {f_many : Addr} {o_many n_many : Option Addr} {s_many : Array (Option Value)} {c_many v_many e_many p_many x_many t_many : Value}
    {f_bar : Addr} {o_bar n_bar : Option Addr} {s_bar : Array (Option Value)} {c_bar v_bar e_bar p_bar x_bar t_bar : Value}
    {f_leads : Addr} {o_leads n_leads : Option Addr} {s_leads : Array (Option Value)} {c_leads v_leads e_leads p_leads x_leads t_leads : Value}
    {f_goals : Addr} {o_goals n_goals : Option Addr} {s_goals : Array (Option Value)} {c_goals v_goals e_goals p_goals x_goals t_goals : Value}
    {f_rings : Addr} {o_rings n_rings : Option Addr} {s_rings : Array (Option Value)} {c_rings v_rings e_rings p_rings x_rings t_rings : Value}
    {f_dist : Addr} {o_dist n_dist : Option Addr} {s_dist : Array (Option Value)} {c_dist v_dist e_dist p_dist x_dist t_dist : Value}
    {f_last : Addr} {o_last n_last : Option Addr} {s_last : Array (Option Value)} {c_last v_last e_last p_last x_last t_last : Value}
    {f_near : Addr} {o_near n_near : Option Addr} {s_near : Array (Option Value)} {c_near v_near e_near p_near x_near t_near : Value}
    {f_box : Addr} {o_box n_box : Option Addr} {s_box : Array (Option Value)} {c_box v_box e_box p_box x_box t_box : Value}
    {f_take : Addr} {o_take n_take : Option Addr} {s_take : Array (Option Value)} {c_take v_take e_take p_take x_take t_take : Value}
    {f_cells : Addr} {o_cells n_cells : Option Addr} {s_cells : Array (Option Value)} {c_cells v_cells e_cells p_cells x_cells t_cells : Value}
    {f_of : Addr} {o_of n_of : Option Addr} {s_of : Array (Option Value)} {c_of v_of e_of p_of x_of t_of : Value}
    {f_strewn : Addr} {o_strewn n_strewn : Option Addr} {s_strewn : Array (Option Value)} {c_strewn v_strewn e_strewn p_strewn x_strewn t_strewn : Value}
    {f_rand : Addr} {o_rand n_rand : Option Addr} {s_rand : Array (Option Value)} {c_rand v_rand e_rand p_rand x_rand t_rand : Value}
    {f_meet : Addr} {o_meet n_meet : Option Addr} {s_meet : Array (Option Value)} {c_meet v_meet e_meet p_meet x_meet t_meet : Value}
    {f_swap : Addr} {o_swap n_swap : Option Addr} {s_swap : Array (Option Value)} {c_swap v_swap e_swap p_swap x_swap t_swap : Value}
    {f_duos : Addr} {o_duos n_duos : Option Addr} {s_duos : Array (Option Value)} {c_duos v_duos e_duos p_duos x_duos t_duos : Value}
    {f_layers : Addr} {o_layers n_layers : Option Addr} {s_layers : Array (Option Value)} {c_layers v_layers e_layers p_layers x_layers t_layers : Value}
    {f_loops : Addr} {o_loops n_loops : Option Addr} {s_loops : Array (Option Value)} {c_loops v_loops e_loops p_loops x_loops t_loops : Value}
    {f_right : Addr} {o_right n_right : Option Addr} {s_right : Array (Option Value)} {c_right v_right e_right p_right x_right t_right : Value}
    {f_law : Addr} {o_law n_law : Option Addr} {s_law : Array (Option Value)} {c_law v_law e_law p_law x_law t_law : Value}
    (a_arr : PySem.W.nsIn K mainGlobals "arrivals_of" = some (some (.ref f_arr))) (l_arr : K.lookup f_arr = some ⟨c_arr, o_arr, .func (PySem.W.fnOf "arrivals_of" "arrivals_of" (defArgs (topS 4)) (defBody (topS 4)) (defScope (topS 4)) .none v_arr e_arr p_arr n_arr x_arr t_arr), s_arr⟩) (q_arr : PySem.W.codeIn K x_arr "arrivals_of" = true) (k_arr : PySem.W.keepIn K (.ref f_arr) = true)
    (a_days : PySem.W.nsIn K mainGlobals "days_of" = some (some (.ref f_days))) (l_days : K.lookup f_days = some ⟨c_days, o_days, .func (PySem.W.fnOf "days_of" "days_of" (defArgs (topS 5)) (defBody (topS 5)) (defScope (topS 5)) .none v_days e_days p_days n_days x_days t_days), s_days⟩) (q_days : PySem.W.codeIn K x_days "days_of" = true) (k_days : PySem.W.keepIn K (.ref f_days) = true)
    (a_ord : PySem.W.nsIn K mainGlobals "order_of" = some (some (.ref f_ord))) (l_ord : K.lookup f_ord = some ⟨c_ord, o_ord, .func (PySem.W.fnOf "order_of" "order_of" (defArgs (topS 6)) (defBody (topS 6)) (defScope (topS 6)) .none v_ord e_ord p_ord n_ord x_ord t_ord), s_ord⟩) (q_ord : PySem.W.codeIn K x_ord "order_of" = true) (k_ord : PySem.W.keepIn K (.ref f_ord) = true)
    (a_many : PySem.W.nsIn K mainGlobals "look_many" = some (some (.ref f_many))) (l_many : K.lookup f_many = some ⟨c_many, o_many, .func (PySem.W.fnOf "look_many" "look_many" (defArgs (topS 9)) (defBody (topS 9)) (defScope (topS 9)) .none v_many e_many p_many n_many x_many t_many), s_many⟩) (q_many : PySem.W.codeIn K x_many "look_many" = true) (k_many : PySem.W.keepIn K (.ref f_many) = true)
    (a_bar : PySem.W.nsIn K mainGlobals "bar" = some (some (.ref f_bar))) (l_bar : K.lookup f_bar = some ⟨c_bar, o_bar, .func (PySem.W.fnOf "bar" "bar" (defArgs (topS 10)) (defBody (topS 10)) (defScope (topS 10)) .none v_bar e_bar p_bar n_bar x_bar t_bar), s_bar⟩) (q_bar : PySem.W.codeIn K x_bar "bar" = true) (k_bar : PySem.W.keepIn K (.ref f_bar) = true)
    (a_leads : PySem.W.nsIn K mainGlobals "look_leads" = some (some (.ref f_leads))) (l_leads : K.lookup f_leads = some ⟨c_leads, o_leads, .func (PySem.W.fnOf "look_leads" "look_leads" (defArgs (topS 11)) (defBody (topS 11)) (defScope (topS 11)) .none v_leads e_leads p_leads n_leads x_leads t_leads), s_leads⟩) (q_leads : PySem.W.codeIn K x_leads "look_leads" = true) (k_leads : PySem.W.keepIn K (.ref f_leads) = true)
    (a_goals : PySem.W.nsIn K mainGlobals "goals_of" = some (some (.ref f_goals))) (l_goals : K.lookup f_goals = some ⟨c_goals, o_goals, .func (PySem.W.fnOf "goals_of" "goals_of" (defArgs (topS 12)) (defBody (topS 12)) (defScope (topS 12)) .none v_goals e_goals p_goals n_goals x_goals t_goals), s_goals⟩) (q_goals : PySem.W.codeIn K x_goals "goals_of" = true) (k_goals : PySem.W.keepIn K (.ref f_goals) = true)
    (a_rings : PySem.W.nsIn K mainGlobals "rings" = some (some (.ref f_rings))) (l_rings : K.lookup f_rings = some ⟨c_rings, o_rings, .func (PySem.W.fnOf "rings" "rings" (defArgs (topS 13)) (defBody (topS 13)) (defScope (topS 13)) .none v_rings e_rings p_rings n_rings x_rings t_rings), s_rings⟩) (q_rings : PySem.W.codeIn K x_rings "rings" = true) (k_rings : PySem.W.keepIn K (.ref f_rings) = true)
    (a_dist : PySem.W.nsIn K mainGlobals "distance" = some (some (.ref f_dist))) (l_dist : K.lookup f_dist = some ⟨c_dist, o_dist, .func (PySem.W.fnOf "distance" "distance" (defArgs (topS 14)) (defBody (topS 14)) (defScope (topS 14)) .none v_dist e_dist p_dist n_dist x_dist t_dist), s_dist⟩) (q_dist : PySem.W.codeIn K x_dist "distance" = true) (k_dist : PySem.W.keepIn K (.ref f_dist) = true)
    (a_last : PySem.W.nsIn K mainGlobals "last_swap" = some (some (.ref f_last))) (l_last : K.lookup f_last = some ⟨c_last, o_last, .func (PySem.W.fnOf "last_swap" "last_swap" (defArgs (topS 15)) (defBody (topS 15)) (defScope (topS 15)) .none v_last e_last p_last n_last x_last t_last), s_last⟩) (q_last : PySem.W.codeIn K x_last "last_swap" = true) (k_last : PySem.W.keepIn K (.ref f_last) = true)
    (a_near : PySem.W.nsIn K mainGlobals "nearer" = some (some (.ref f_near))) (l_near : K.lookup f_near = some ⟨c_near, o_near, .func (PySem.W.fnOf "nearer" "nearer" (defArgs (topS 16)) (defBody (topS 16)) (defScope (topS 16)) .none v_near e_near p_near n_near x_near t_near), s_near⟩) (q_near : PySem.W.codeIn K x_near "nearer" = true) (k_near : PySem.W.keepIn K (.ref f_near) = true)
    (a_box : PySem.W.nsIn K mainGlobals "_law_box" = some (some (.ref f_box))) (l_box : K.lookup f_box = some ⟨c_box, o_box, .func (PySem.W.fnOf "_law_box" "_law_box" (defArgs (topS 18)) (defBody (topS 18)) (defScope (topS 18)) .none v_box e_box p_box n_box x_box t_box), s_box⟩) (q_box : PySem.W.codeIn K x_box "_law_box" = true) (k_box : PySem.W.keepIn K (.ref f_box) = true)
    (a_take : PySem.W.nsIn K mainGlobals "_law_take" = some (some (.ref f_take))) (l_take : K.lookup f_take = some ⟨c_take, o_take, .func (PySem.W.fnOf "_law_take" "_law_take" (defArgs (topS 19)) (defBody (topS 19)) (defScope (topS 19)) .none v_take e_take p_take n_take x_take t_take), s_take⟩) (q_take : PySem.W.codeIn K x_take "_law_take" = true) (k_take : PySem.W.keepIn K (.ref f_take) = true)
    (a_cells : PySem.W.nsIn K mainGlobals "_law_cells" = some (some (.ref f_cells))) (l_cells : K.lookup f_cells = some ⟨c_cells, o_cells, .func (PySem.W.fnOf "_law_cells" "_law_cells" (defArgs (topS 20)) (defBody (topS 20)) (defScope (topS 20)) .none v_cells e_cells p_cells n_cells x_cells t_cells), s_cells⟩) (q_cells : PySem.W.codeIn K x_cells "_law_cells" = true) (k_cells : PySem.W.keepIn K (.ref f_cells) = true)
    (a_of : PySem.W.nsIn K mainGlobals "_law_of" = some (some (.ref f_of))) (l_of : K.lookup f_of = some ⟨c_of, o_of, .func (PySem.W.fnOf "_law_of" "_law_of" (defArgs (topS 21)) (defBody (topS 21)) (defScope (topS 21)) .none v_of e_of p_of n_of x_of t_of), s_of⟩) (q_of : PySem.W.codeIn K x_of "_law_of" = true) (k_of : PySem.W.keepIn K (.ref f_of) = true)
    (a_strewn : PySem.W.nsIn K mainGlobals "_law_strewn" = some (some (.ref f_strewn))) (l_strewn : K.lookup f_strewn = some ⟨c_strewn, o_strewn, .func (PySem.W.fnOf "_law_strewn" "_law_strewn" (defArgs (topS 22)) (defBody (topS 22)) (defScope (topS 22)) .none v_strewn e_strewn p_strewn n_strewn x_strewn t_strewn), s_strewn⟩) (q_strewn : PySem.W.codeIn K x_strewn "_law_strewn" = true) (k_strewn : PySem.W.keepIn K (.ref f_strewn) = true)
    (a_rand : PySem.W.nsIn K mainGlobals "_law_random_line" = some (some (.ref f_rand))) (l_rand : K.lookup f_rand = some ⟨c_rand, o_rand, .func (PySem.W.fnOf "_law_random_line" "_law_random_line" (defArgs (topS 23)) (defBody (topS 23)) (defScope (topS 23)) .none v_rand e_rand p_rand n_rand x_rand t_rand), s_rand⟩) (q_rand : PySem.W.codeIn K x_rand "_law_random_line" = true) (k_rand : PySem.W.keepIn K (.ref f_rand) = true)
    (a_meet : PySem.W.nsIn K mainGlobals "_law_meet" = some (some (.ref f_meet))) (l_meet : K.lookup f_meet = some ⟨c_meet, o_meet, .func (PySem.W.fnOf "_law_meet" "_law_meet" (defArgs (topS 24)) (defBody (topS 24)) (defScope (topS 24)) .none v_meet e_meet p_meet n_meet x_meet t_meet), s_meet⟩) (q_meet : PySem.W.codeIn K x_meet "_law_meet" = true) (k_meet : PySem.W.keepIn K (.ref f_meet) = true)
    (a_swap : PySem.W.nsIn K mainGlobals "_law_swap" = some (some (.ref f_swap))) (l_swap : K.lookup f_swap = some ⟨c_swap, o_swap, .func (PySem.W.fnOf "_law_swap" "_law_swap" (defArgs (topS 25)) (defBody (topS 25)) (defScope (topS 25)) .none v_swap e_swap p_swap n_swap x_swap t_swap), s_swap⟩) (q_swap : PySem.W.codeIn K x_swap "_law_swap" = true) (k_swap : PySem.W.keepIn K (.ref f_swap) = true)
    (a_duos : PySem.W.nsIn K mainGlobals "_law_duos" = some (some (.ref f_duos))) (l_duos : K.lookup f_duos = some ⟨c_duos, o_duos, .func (PySem.W.fnOf "_law_duos" "_law_duos" (defArgs (topS 26)) (defBody (topS 26)) (defScope (topS 26)) .none v_duos e_duos p_duos n_duos x_duos t_duos), s_duos⟩) (q_duos : PySem.W.codeIn K x_duos "_law_duos" = true) (k_duos : PySem.W.keepIn K (.ref f_duos) = true)
    (a_layers : PySem.W.nsIn K mainGlobals "_law_layers" = some (some (.ref f_layers))) (l_layers : K.lookup f_layers = some ⟨c_layers, o_layers, .func (PySem.W.fnOf "_law_layers" "_law_layers" (defArgs (topS 27)) (defBody (topS 27)) (defScope (topS 27)) .none v_layers e_layers p_layers n_layers x_layers t_layers), s_layers⟩) (q_layers : PySem.W.codeIn K x_layers "_law_layers" = true) (k_layers : PySem.W.keepIn K (.ref f_layers) = true)
    (a_loops : PySem.W.nsIn K mainGlobals "_law_loops" = some (some (.ref f_loops))) (l_loops : K.lookup f_loops = some ⟨c_loops, o_loops, .func (PySem.W.fnOf "_law_loops" "_law_loops" (defArgs (topS 28)) (defBody (topS 28)) (defScope (topS 28)) .none v_loops e_loops p_loops n_loops x_loops t_loops), s_loops⟩) (q_loops : PySem.W.codeIn K x_loops "_law_loops" = true) (k_loops : PySem.W.keepIn K (.ref f_loops) = true)
    (a_right : PySem.W.nsIn K mainGlobals "_law_right" = some (some (.ref f_right))) (l_right : K.lookup f_right = some ⟨c_right, o_right, .func (PySem.W.fnOf "_law_right" "_law_right" (defArgs (topS 29)) (defBody (topS 29)) (defScope (topS 29)) .none v_right e_right p_right n_right x_right t_right), s_right⟩) (q_right : PySem.W.codeIn K x_right "_law_right" = true) (k_right : PySem.W.keepIn K (.ref f_right) = true)
    (a_law : PySem.W.nsIn K mainGlobals "law" = some (some (.ref f_law))) (l_law : K.lookup f_law = some ⟨c_law, o_law, .func (PySem.W.fnOf "law" "law" (defArgs (topS 30)) (defBody (topS 30)) (defScope (topS 30)) .none v_law e_law p_law n_law x_law t_law), s_law⟩) (q_law : PySem.W.codeIn K x_law "law" = true) (k_law : PySem.W.keepIn K (.ref f_law) = true)
    (z_tuple : PySem.W.nsIn K mainGlobals "tuple" = some none) (z_list : PySem.W.nsIn K mainGlobals "list" = some none) (z_dict : PySem.W.nsIn K mainGlobals "dict" = some none) (z_int : PySem.W.nsIn K mainGlobals "int" = some none) (z_len : PySem.W.nsIn K mainGlobals "len" = some none) (z_sorted : PySem.W.nsIn K mainGlobals "sorted" = some none) (z_enumerate : PySem.W.nsIn K mainGlobals "enumerate" = some none) (z_range : PySem.W.nsIn K mainGlobals "range" = some none) (z_min : PySem.W.nsIn K mainGlobals "min" = some none) (z_max : PySem.W.nsIn K mainGlobals "max" = some none) (z_abs : PySem.W.nsIn K mainGlobals "abs" = some none) (z_sum : PySem.W.nsIn K mainGlobals "sum" = some none) (z_all : PySem.W.nsIn K mainGlobals "all" = some none) :
    ∃ fd : FuncData, (∀ (s : Shared) (v : Value), BindsTo s fd ⟨[v], []⟩ [("_law_script", v)]) ∧ ∀ base : Heap, K.In base → base.Ns mainGlobals mg → FnOk l.prog w K mg base CX0 7 fa fd ["_law_script"] (spLaw K) := by
  have e := hfa.symm.trans (PySem.W.mg_of X G a_law)
  cases e
  have F_arr := fun_mk (st := topS 4) l_arr q_arr k_arr
  have b_arr := F_arr.binds (ps := ["stays"]) fun _ _ _ _ _ _ us hl => match us, hl with | [_], _ => rfl
  have F_days := fun_mk (st := topS 5) l_days q_days k_days
  have b_days := F_days.binds (ps := ["stays"]) fun _ _ _ _ _ _ us hl => match us, hl with | [_], _ => rfl
  have F_ord := fun_mk (st := topS 6) l_ord q_ord k_ord
  have b_ord := F_ord.binds (ps := ["stays"]) fun _ _ _ _ _ _ us hl => match us, hl with | [_], _ => rfl
  have F_many := fun_mk (st := topS 9) l_many q_many k_many
  have b_many := F_many.binds (ps := ["one", "other"]) fun _ _ _ _ _ _ us hl => match us, hl with | [_, _], _ => rfl
  have F_bar := fun_mk (st := topS 10) l_bar q_bar k_bar
  have b_bar := F_bar.binds (ps := ["one", "other"]) fun _ _ _ _ _ _ us hl => match us, hl with | [_, _], _ => rfl
  have F_leads := fun_mk (st := topS 11) l_leads q_leads k_leads
  have b_leads := F_leads.binds (ps := ["one", "other"]) fun _ _ _ _ _ _ us hl => match us, hl with | [_, _], _ => rfl
  have F_goals := fun_mk (st := topS 12) l_goals q_goals k_goals
  have b_goals := F_goals.binds (ps := ["one", "other"]) fun _ _ _ _ _ _ us hl => match us, hl with | [_, _], _ => rfl
  have F_rings := fun_mk (st := topS 13) l_rings q_rings k_rings
  have b_rings := F_rings.binds (ps := ["one", "other"]) fun _ _ _ _ _ _ us hl => match us, hl with | [_, _], _ => rfl
  have F_dist := fun_mk (st := topS 14) l_dist q_dist k_dist
  have b_dist := F_dist.binds (ps := ["one", "other"]) fun _ _ _ _ _ _ us hl => match us, hl with | [_, _], _ => rfl
  have F_last := fun_mk (st := topS 15) l_last q_last k_last
  have b_last := F_last.binds (ps := ["one", "other"]) fun _ _ _ _ _ _ us hl => match us, hl with | [_, _], _ => rfl
  have F_near := fun_mk (st := topS 16) l_near q_near k_near
  have b_near := F_near.binds (ps := ["one", "other"]) fun _ _ _ _ _ _ us hl => match us, hl with | [_, _], _ => rfl
  have F_box := fun_mk (st := topS 18) l_box q_box k_box
  have b_box := F_box.binds (ps := ["_law_script", "_law_k"]) fun _ _ _ _ _ _ us hl => match us, hl with | [_, _], _ => rfl
  have F_take := fun_mk (st := topS 19) l_take q_take k_take
  have b_take := F_take.binds (ps := ["_law_box_here", "_law_span"]) fun _ _ _ _ _ _ us hl => match us, hl with | [_, _], _ => rfl
  have F_cells := fun_mk (st := topS 20) l_cells q_cells k_cells
  have b_cells := F_cells.binds (ps := ["_law_script", "_law_most"]) fun _ _ _ _ _ _ us hl => match us, hl with | [_, _], _ => rfl
  have F_of := fun_mk (st := topS 21) l_of q_of k_of
  have b_of := F_of.binds (ps := ["_law_box_here", "_law_some"]) fun _ _ _ _ _ _ us hl => match us, hl with | [_, _], _ => rfl
  have F_strewn := fun_mk (st := topS 22) l_strewn q_strewn k_strewn
  have b_strewn := F_strewn.binds (ps := ["_law_box_here", "_law_some"]) fun _ _ _ _ _ _ us hl => match us, hl with | [_, _], _ => rfl
  have F_rand := fun_mk (st := topS 23) l_rand q_rand k_rand
  have b_rand := F_rand.binds (ps := ["_law_box_here", "_law_most", "_law_top"]) fun _ _ _ _ _ _ us hl => match us, hl with | [_, _, _], _ => rfl
  have F_meet := fun_mk (st := topS 24) l_meet q_meet k_meet
  have b_meet := F_meet.binds (ps := ["_law_mine", "_law_its"]) fun _ _ _ _ _ _ us hl => match us, hl with | [_, _], _ => rfl
  have F_swap := fun_mk (st := topS 25) l_swap q_swap k_swap
  have b_swap := F_swap.binds (ps := ["_law_line", "_law_at", "_law_spot"]) fun _ _ _ _ _ _ us hl => match us, hl with | [_, _, _], _ => rfl
  have F_duos := fun_mk (st := topS 26) l_duos q_duos k_duos
  have b_duos := F_duos.binds (ps := ["_law_line"]) fun _ _ _ _ _ _ us hl => match us, hl with | [_], _ => rfl
  have F_layers := fun_mk (st := topS 27) l_layers q_layers k_layers
  have b_layers := F_layers.binds (ps := ["_law_line"]) fun _ _ _ _ _ _ us hl => match us, hl with | [_], _ => rfl
  have F_loops := fun_mk (st := topS 28) l_loops q_loops k_loops
  have b_loops := F_loops.binds (ps := ["_law_line", "_law_there"]) fun _ _ _ _ _ _ us hl => match us, hl with | [_, _], _ => rfl
  have F_right := fun_mk (st := topS 29) l_right q_right k_right
  have b_right := F_right.binds (ps := ["_law_box_here"]) fun _ _ _ _ _ _ us hl => match us, hl with | [_], _ => rfl
  have F_law := fun_mk (st := topS 30) l_law q_law k_law
  have b_law := F_law.binds (ps := ["_law_script"]) fun _ _ _ _ _ _ us hl => match us, hl with | [_], _ => rfl
  have T : Blt mg := ⟨PySem.W.mg_none_of X G z_tuple, PySem.W.mg_none_of X G z_list, PySem.W.mg_none_of X G z_dict, PySem.W.mg_none_of X G z_int, PySem.W.mg_none_of X G z_len, PySem.W.mg_none_of X G z_sorted, PySem.W.mg_none_of X G z_enumerate, PySem.W.mg_none_of X G z_range, PySem.W.mg_none_of X G z_min, PySem.W.mg_none_of X G z_max, PySem.W.mg_none_of X G z_abs, PySem.W.mg_none_of X G z_sum, PySem.W.mg_none_of X G z_all⟩
  exact ⟨_, fun s v => .of_eq rfl, fun base _ _ => ok_all T F_arr (PySem.W.mg_of X G a_arr) b_arr F_days (PySem.W.mg_of X G a_days) b_days F_ord (PySem.W.mg_of X G a_ord) b_ord F_many (PySem.W.mg_of X G a_many) b_many F_bar (PySem.W.mg_of X G a_bar) b_bar F_leads (PySem.W.mg_of X G a_leads) b_leads F_goals (PySem.W.mg_of X G a_goals) b_goals F_rings (PySem.W.mg_of X G a_rings) b_rings F_dist (PySem.W.mg_of X G a_dist) b_dist F_last (PySem.W.mg_of X G a_last) b_last F_near (PySem.W.mg_of X G a_near) b_near F_box (PySem.W.mg_of X G a_box) b_box F_take (PySem.W.mg_of X G a_take) b_take F_cells (PySem.W.mg_of X G a_cells) b_cells F_of (PySem.W.mg_of X G a_of) b_of F_strewn (PySem.W.mg_of X G a_strewn) b_strewn F_rand (PySem.W.mg_of X G a_rand) b_rand F_meet (PySem.W.mg_of X G a_meet) b_meet F_swap (PySem.W.mg_of X G a_swap) b_swap F_duos (PySem.W.mg_of X G a_duos) b_duos F_layers (PySem.W.mg_of X G a_layers) b_layers F_loops (PySem.W.mg_of X G a_loops) b_loops F_right (PySem.W.mg_of X G a_right) b_right F_law (PySem.W.mg_of X G a_law) b_law⟩
end SW
end
section
set_option Elab.async false
set_option linter.all false
set_option maxRecDepth 100000
open PySem PySem.W PyProof.Rows
set_option maxHeartbeats 0 in
theorem PySem.Challenge.cw_stayswap_k21_whole_distances_by_search_holds : PySem.Challenge.rw_stayswap_k21_whole_distances_by_search.Holds := by
  w_on; o_law; k_head; (case hw => w_witness2)
  k_fill
  refine L2.walk_of (l := PySem.Challenge.rw_stayswap_k21_whole_distances_by_search) (n := 63) (k := 7) (x := "_law_script") (CX := fun _ => L2.CX0) (sp := fun w => SW.spLaw _) rfl (by decide) rfl ⟨rfl, by decide, by decide⟩ (fun w h Y => PySem.W.kIn_of Y) ?F (fun _ _ a ns hl _ hS => ⟨a, ns, rfl, hS, hl, fun _ => rfl⟩) (fun _ _ _ _ _ h => h)
  case F =>
    intro w mg fa h KX G hmg
    refine' SW.all_mk KX G hmg ?a_arr ?l_arr ?q_arr ?k_arr ?a_days ?l_days ?q_days ?k_days ?a_ord ?l_ord ?q_ord ?k_ord ?a_many ?l_many ?q_many ?k_many ?a_bar ?l_bar ?q_bar ?k_bar ?a_leads ?l_leads ?q_leads ?k_leads ?a_goals ?l_goals ?q_goals ?k_goals ?a_rings ?l_rings ?q_rings ?k_rings ?a_dist ?l_dist ?q_dist ?k_dist ?a_last ?l_last ?q_last ?k_last ?a_near ?l_near ?q_near ?k_near ?a_box ?l_box ?q_box ?k_box ?a_take ?l_take ?q_take ?k_take ?a_cells ?l_cells ?q_cells ?k_cells ?a_of ?l_of ?q_of ?k_of ?a_strewn ?l_strewn ?q_strewn ?k_strewn ?a_rand ?l_rand ?q_rand ?k_rand ?a_meet ?l_meet ?q_meet ?k_meet ?a_swap ?l_swap ?q_swap ?k_swap ?a_duos ?l_duos ?q_duos ?k_duos ?a_layers ?l_layers ?q_layers ?k_layers ?a_loops ?l_loops ?q_loops ?k_loops ?a_right ?l_right ?q_right ?k_right ?a_law ?l_law ?q_law ?k_law ?z_tuple ?z_list ?z_dict ?z_int ?z_len ?z_sorted ?z_enumerate ?z_range ?z_min ?z_max ?z_abs ?z_sum ?z_all
    (case a_arr => k_is); (case l_arr => k_is); (case q_arr => k_is); (case k_arr => k_is); (case a_days => k_is); (case l_days => k_is); (case q_days => k_is); (case k_days => k_is); (case a_ord => k_is); (case l_ord => k_is); (case q_ord => k_is); (case k_ord => k_is); (case a_many => k_is); (case l_many => k_is); (case q_many => k_is); (case k_many => k_is); (case a_bar => k_is); (case l_bar => k_is); (case q_bar => k_is); (case k_bar => k_is); (case a_leads => k_is); (case l_leads => k_is); (case q_leads => k_is); (case k_leads => k_is); (case a_goals => k_is); (case l_goals => k_is); (case q_goals => k_is); (case k_goals => k_is); (case a_rings => k_is); (case l_rings => k_is); (case q_rings => k_is); (case k_rings => k_is); (case a_dist => k_is); (case l_dist => k_is); (case q_dist => k_is); (case k_dist => k_is); (case a_last => k_is); (case l_last => k_is); (case q_last => k_is); (case k_last => k_is); (case a_near => k_is); (case l_near => k_is); (case q_near => k_is); (case k_near => k_is); (case a_box => k_is); (case l_box => k_is); (case q_box => k_is); (case k_box => k_is); (case a_take => k_is); (case l_take => k_is); (case q_take => k_is); (case k_take => k_is); (case a_cells => k_is); (case l_cells => k_is); (case q_cells => k_is); (case k_cells => k_is); (case a_of => k_is); (case l_of => k_is); (case q_of => k_is); (case k_of => k_is); (case a_strewn => k_is); (case l_strewn => k_is); (case q_strewn => k_is); (case k_strewn => k_is); (case a_rand => k_is); (case l_rand => k_is); (case q_rand => k_is); (case k_rand => k_is); (case a_meet => k_is); (case l_meet => k_is); (case q_meet => k_is); (case k_meet => k_is); (case a_swap => k_is); (case l_swap => k_is); (case q_swap => k_is); (case k_swap => k_is); (case a_duos => k_is); (case l_duos => k_is); (case q_duos => k_is); (case k_duos => k_is); (case a_layers => k_is); (case l_layers => k_is); (case q_layers => k_is); (case k_layers => k_is); (case a_loops => k_is); (case l_loops => k_is); (case q_loops => k_is); (case k_loops => k_is); (case a_right => k_is); (case l_right => k_is); (case q_right => k_is); (case k_right => k_is); (case a_law => k_is); (case l_law => k_is); (case q_law => k_is); (case k_law => k_is); (case z_tuple => k_is); (case z_list => k_is); (case z_dict => k_is); (case z_int => k_is); (case z_len => k_is); (case z_sorted => k_is); (case z_enumerate => k_is); (case z_range => k_is); (case z_min => k_is); (case z_max => k_is); (case z_abs => k_is); (case z_sum => k_is); (case z_all => k_is)
end
