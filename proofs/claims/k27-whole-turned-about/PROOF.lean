import PyProof.Rows.All
import Wide.All
import OpenK.AllK
import Wide.FinOn
import HandS.ForMost
import HandS.Defaults
import HandS.GenList
import HandS.IsInst
import HandS.Wide
import HandS.Style
import HandS.Conv
import HandS.DictComp
import HandS.Property
import HandS.SortInts
import HandS.Zip
import PySem.Challenge.RW_bearsmisses_k27_whole_turned_about
import KE.KStateDown
import HandS.Head0
import HandS.Head1
import HandS.Head2
import HandS.HeadEnd
import HandS.HeadHook1
import HandS.HeadHook2
import HandS.Codes
set_option Elab.async false
set_option linter.all false
set_option maxRecDepth 100000

/-! The plain law: what the comparisons do to lists of ints; no program in sight. -/
namespace Bm

/-! ### orders -/
structure IsOrd (n : Nat) (xs : List Int) : Prop where
  len : xs.length = n
  lo : ∀ v ∈ xs, 0 ≤ v
  hi : ∀ v ∈ xs, v < (n : Int)
  nd : xs.Nodup

def idn (n : Nat) : List Int := (List.range n).map fun (i : Nat) => (i : Int)
theorem idn_len (n : Nat) : (idn n).length = n := by simp [idn]
theorem idn_get {n i : Nat} (h : i < n) : (idn n).getD i 0 = i := by
  simp [idn, List.getD, h]
theorem idn_ord (n : Nat) : IsOrd n (idn n) := by
  refine ⟨idn_len n, ?_, ?_, ?_⟩
  · intro v hv
    obtain ⟨i, hi, rfl⟩ := List.mem_map.mp hv
    omega
  · intro v hv
    obtain ⟨i, hi, rfl⟩ := List.mem_map.mp hv
    have := List.mem_range.mp hi
    show (i : Int) < n
    omega
  · unfold idn
    refine List.Pairwise.map _ ?_ List.nodup_range
    intro a b h e
    exact h (by omega)

theorem getD_mem {xs : List Int} {i : Nat} (h : i < xs.length) : xs.getD i 0 ∈ xs := by
  rw [List.getD_eq_getElem?_getD, List.getElem?_eq_getElem h]
  exact List.getElem_mem h
theorem ext_getD {xs ys : List Int} (hl : xs.length = ys.length) (h : ∀ i, i < xs.length → xs.getD i 0 = ys.getD i 0) : xs = ys := by
  refine List.ext_getElem hl fun i h1 h2 => ?_
  have := h i h1
  rw [List.getD_eq_getElem?_getD, List.getD_eq_getElem?_getD, List.getElem?_eq_getElem h1, List.getElem?_eq_getElem h2] at this
  exact this
theorem nd_inj {xs : List Int} (h : xs.Nodup) {i j : Nat} (hi : i < xs.length) (hj : j < xs.length) (e : xs.getD i 0 = xs.getD j 0) : i = j := by
  rw [List.getD_eq_getElem?_getD, List.getD_eq_getElem?_getD, List.getElem?_eq_getElem hi, List.getElem?_eq_getElem hj] at e
  exact (List.getElem_inj h).mp e
theorem nd_of_inj {xs : List Int} (h : ∀ i j, i < xs.length → j < xs.length → xs.getD i 0 = xs.getD j 0 → i = j) : xs.Nodup := by
  rw [List.Nodup, List.pairwise_iff_getElem]
  intro i j hi hj hlt e
  have := h i j hi hj (by
    rw [List.getD_eq_getElem?_getD, List.getD_eq_getElem?_getD, List.getElem?_eq_getElem hi, List.getElem?_eq_getElem hj]
    exact e)
  omega
theorem IsOrd.get_lo {n : Nat} {xs : List Int} (h : IsOrd n xs) {i : Nat} (hi : i < n) : 0 ≤ xs.getD i 0 := h.lo _ (getD_mem (by rw [h.len]; exact hi))
theorem IsOrd.get_hi {n : Nat} {xs : List Int} (h : IsOrd n xs) {i : Nat} (hi : i < n) : xs.getD i 0 < n := h.hi _ (getD_mem (by rw [h.len]; exact hi))
theorem IsOrd.inj {n : Nat} {xs : List Int} (h : IsOrd n xs) {i j : Nat} (hi : i < n) (hj : j < n) (e : xs.getD i 0 = xs.getD j 0) : i = j :=
  nd_inj h.nd (by rw [h.len]; exact hi) (by rw [h.len]; exact hj) e
theorem ord_of {n : Nat} {xs : List Int} (hl : xs.length = n) (h0 : ∀ i, i < n → 0 ≤ xs.getD i 0 ∧ xs.getD i 0 < n) (hj : ∀ i j, i < n → j < n → xs.getD i 0 = xs.getD j 0 → i = j) : IsOrd n xs := by
  have hm : ∀ v ∈ xs, ∃ i, i < n ∧ xs.getD i 0 = v := by
    intro v hv
    obtain ⟨i, hi, e⟩ := List.mem_iff_getElem.mp hv
    refine ⟨i, by omega, ?_⟩
    rw [List.getD_eq_getElem?_getD, List.getElem?_eq_getElem hi]
    exact e
  refine ⟨hl, ?_, ?_, nd_of_inj fun i j a b => hj i j (by omega) (by omega)⟩
  · intro v hv
    obtain ⟨i, hi, rfl⟩ := hm v hv
    exact (h0 i hi).1
  · intro v hv
    obtain ⟨i, hi, rfl⟩ := hm v hv
    exact (h0 i hi).2
theorem IsOrd.perm {n : Nat} {xs ys : List Int} (h : IsOrd n xs) (p : ys.Perm xs) : IsOrd n ys :=
  ⟨by rw [p.length_eq, h.len], fun v hv => h.lo v (p.mem_iff.mp hv), fun v hv => h.hi v (p.mem_iff.mp hv), p.symm.nodup h.nd⟩
/-- a sorted order is the sorted order -/
theorem sorted_idn {n : Nat} {xs : List Int} (h : IsOrd n xs) (s : xs.Pairwise (· ≤ ·)) : xs = idn n := by
  have sg : ∀ i j, i < j → j < n → xs.getD i 0 < xs.getD j 0 := by
    intro i j hij hj
    have h1 : i < xs.length := by rw [h.len]; omega
    have h2 : j < xs.length := by rw [h.len]; omega
    have h3 := (List.pairwise_iff_getElem.mp s) i j h1 h2 hij
    have e1 : xs.getD i 0 = xs[i] := by rw [List.getD_eq_getElem?_getD, List.getElem?_eq_getElem h1]; rfl
    have e2 : xs.getD j 0 = xs[j] := by rw [List.getD_eq_getElem?_getD, List.getElem?_eq_getElem h2]; rfl
    have h4 : xs.getD i 0 ≠ xs.getD j 0 := fun e => by
      have := h.inj (by omega) hj e
      omega
    omega
  have low : ∀ i, i < n → (i : Int) ≤ xs.getD i 0 := by
    intro i
    induction i with
    | zero => intro hi; exact h.get_lo hi
    | succ i ih =>
      intro hi
      have a := ih (by omega)
      have b := sg i (i + 1) (by omega) hi
      omega
  have high : ∀ k i, i + k + 1 = n → xs.getD i 0 ≤ (i : Int) := by
    intro k
    induction k with
    | zero =>
      intro i hi
      have := h.get_hi (i := i) (by omega)
      omega
    | succ k ih =>
      intro i hi
      have a := ih (i + 1) (by omega)
      have b := sg i (i + 1) (by omega) (by omega)
      omega
  refine ext_getD (by rw [h.len, idn_len]) fun i hi => ?_
  rw [h.len] at hi
  rw [idn_get hi]
  have a := low i hi
  have b := high (n - 1 - i) i (by omega)
  omega

/-! ### one comparison -/
def swapAt (x : List Int) (g : Nat) : List Int := (x.set (g - 1) (x.getD g 0)).set g (x.getD (g - 1) 0)
def stp (x : List Int) (g : Nat) : List Int := if x.getD g 0 < x.getD (g - 1) 0 then swapAt x g else x
/-- the two places beside a gate are exchanged -/
def sg (g p : Nat) : Nat := if p = g - 1 then g else if p = g then g - 1 else p
theorem swapAt_len (x : List Int) (g : Nat) : (swapAt x g).length = x.length := by simp [swapAt]
theorem stp_len (x : List Int) (g : Nat) : (stp x g).length = x.length := by
  unfold stp
  split
  · exact swapAt_len x g
  · rfl
theorem sg_lt {n g p : Nat} (h1 : 1 ≤ g) (h2 : g < n) (hp : p < n) : sg g p < n := by
  unfold sg
  split
  · exact h2
  · split
    · omega
    · exact hp
theorem sg_sg {g p : Nat} (h1 : 1 ≤ g) : sg g (sg g p) = p := by
  unfold sg
  split
  · rename_i h
    rw [if_neg (by omega), if_pos rfl]
    omega
  · split
    · rename_i h h'
      rw [if_pos rfl]
      omega
    · rfl
theorem swapAt_get {n : Nat} {x : List Int} {g p : Nat} (hl : x.length = n) (h1 : 1 ≤ g) (h2 : g < n) (hp : p < n) : (swapAt x g).getD p 0 = x.getD (sg g p) 0 := by
  have e1 : ∀ (l : List Int) (i j : Nat) (v : Int), i < l.length → (l.set i v).getD j 0 = if i = j then v else l.getD j 0 := by
    intro l i j v hi
    rw [List.getD_eq_getElem?_getD, List.getElem?_set]
    split
    · rfl
    · rw [List.getD_eq_getElem?_getD]
  unfold swapAt
  rw [e1 _ _ _ _ (by simp; omega), e1 _ _ _ _ (by omega)]
  unfold sg
  by_cases a : p = g - 1
  · subst a
    rw [if_neg (by omega), if_pos rfl, if_pos rfl]
  · by_cases b : p = g
    · subst b
      rw [if_pos rfl, if_neg a, if_pos rfl]
    · rw [if_neg (fun z => b z.symm), if_neg (fun z => a z.symm), if_neg a, if_neg b]
theorem swapAt_ord {n : Nat} {x : List Int} {g : Nat} (h : IsOrd n x) (h1 : 1 ≤ g) (h2 : g < n) : IsOrd n (swapAt x g) := by
  refine ord_of (by rw [swapAt_len, h.len]) (fun i hi => ?_) fun i j hi hj e => ?_
  · rw [swapAt_get h.len h1 h2 hi]
    exact ⟨h.get_lo (sg_lt h1 h2 hi), h.get_hi (sg_lt h1 h2 hi)⟩
  · rw [swapAt_get h.len h1 h2 hi, swapAt_get h.len h1 h2 hj] at e
    have := h.inj (sg_lt h1 h2 hi) (sg_lt h1 h2 hj) e
    rw [← sg_sg (p := i) h1, this, sg_sg h1]
theorem stp_ord {n : Nat} {x : List Int} {g : Nat} (h : IsOrd n x) (h1 : 1 ≤ g) (h2 : g < n) : IsOrd n (stp x g) := by
  unfold stp
  split
  · exact swapAt_ord h h1 h2
  · exact h

/-! ### a schedule with misses -/
def Gates (n : Nat) (gs : List Int) : Prop := ∀ g ∈ gs, 1 ≤ g ∧ g < (n : Int)
/-- the gates from number i on, played -/
def play (miss : List Int) : Nat → List Int → List Int → List Int
  | _, [], x => x
  | i, g :: gs, x => play miss (i + 1) gs (if (i : Int) ∈ miss then x else stp x g.toNat)
/-- the gates that are not missed -/
def eff (miss : List Int) : Nat → List Int → List Nat
  | _, [] => []
  | i, g :: gs => if (i : Int) ∈ miss then eff miss (i + 1) gs else g.toNat :: eff miss (i + 1) gs
def Word (n : Nat) (w : List Nat) : Prop := ∀ g ∈ w, 1 ≤ g ∧ g < n
theorem play_eff (miss : List Int) : ∀ (gs : List Int) (i : Nat) (x : List Int), play miss i gs x = (eff miss i gs).foldl stp x := by
  intro gs
  induction gs with
  | nil => intro i x; rfl
  | cons g gs ih =>
    intro i x
    unfold play eff
    split
    · exact ih _ _
    · rw [List.foldl_cons]
      exact ih _ _
theorem eff_word {n : Nat} {miss : List Int} : ∀ (gs : List Int) (i : Nat), Gates n gs → Word n (eff miss i gs) := by
  intro gs
  induction gs with
  | nil => intro i _ g hg; cases hg
  | cons g gs ih =>
    intro i h
    have ht : Gates n gs := fun v hv => h v (List.mem_cons_of_mem _ hv)
    have hg := h g List.mem_cons_self
    unfold eff
    split
    · exact ih _ ht
    · intro v hv
      rcases List.mem_cons.mp hv with rfl | hv
      · omega
      · exact ih _ ht v hv
theorem eff_append {miss : List Int} : ∀ (gs hs : List Int) (i : Nat), eff miss i (gs ++ hs) = eff miss i gs ++ eff miss (i + gs.length) hs := by
  intro gs
  induction gs with
  | nil => intro hs i; rfl
  | cons g gs ih =>
    intro hs i
    have e : i + (g :: gs).length = i + 1 + gs.length := by simp only [List.length_cons]; omega
    rw [List.cons_append, e]
    show (if (i : Int) ∈ miss then eff miss (i + 1) (gs ++ hs) else g.toNat :: eff miss (i + 1) (gs ++ hs)) = (if (i : Int) ∈ miss then eff miss (i + 1) gs else g.toNat :: eff miss (i + 1) gs) ++ _
    rw [ih]
    split <;> rfl
theorem foldl_ord {n : Nat} : ∀ (w : List Nat) {x : List Int}, Word n w → IsOrd n x → IsOrd n (w.foldl stp x) := by
  intro w
  induction w with
  | nil => intro x _ h; exact h
  | cons g w ih =>
    intro x hw h
    exact ih (fun v hv => hw v (List.mem_cons_of_mem _ hv)) (stp_ord h (hw g List.mem_cons_self).1 (hw g List.mem_cons_self).2)
theorem play_ord {n : Nat} {miss gs x : List Int} {i : Nat} (hg : Gates n gs) (h : IsOrd n x) : IsOrd n (play miss i gs x) := by
  rw [play_eff]
  exact foldl_ord _ (eff_word gs i hg) h

/-! ### read from the other end -/
def mir (x : List Int) : List Int := x.reverse.map fun r => (x.length : Int) - 1 - r
theorem mir_len (x : List Int) : (mir x).length = x.length := by simp [mir]
theorem mir_get {x : List Int} {n p : Nat} (hl : x.length = n) (hp : p < n) : (mir x).getD p 0 = (n : Int) - 1 - x.getD (n - 1 - p) 0 := by
  unfold mir
  rw [List.getD_eq_getElem?_getD, List.getElem?_map, List.getElem?_reverse (by omega), hl, List.getD_eq_getElem?_getD]
  rw [List.getElem?_eq_getElem (by omega : n - 1 - p < x.length)]
  rfl
theorem mir_ord {n : Nat} {x : List Int} (h : IsOrd n x) : IsOrd n (mir x) := by
  refine ord_of (by rw [mir_len, h.len]) (fun i hi => ?_) fun i j hi hj e => ?_
  · rw [mir_get h.len hi]
    have a := h.get_lo (i := n - 1 - i) (by omega)
    have b := h.get_hi (i := n - 1 - i) (by omega)
    omega
  · rw [mir_get h.len hi, mir_get h.len hj] at e
    have := h.inj (i := n - 1 - i) (j := n - 1 - j) (by omega) (by omega) (by omega)
    omega
theorem mir_swap {n : Nat} {x : List Int} {g : Nat} (hl : x.length = n) (h1 : 1 ≤ g) (h2 : g < n) : swapAt (mir x) (n - g) = mir (swapAt x g) := by
  have hl' : (mir x).length = n := by rw [mir_len, hl]
  have hs : (swapAt x g).length = n := by rw [swapAt_len, hl]
  refine ext_getD (by rw [swapAt_len, mir_len, mir_len, swapAt_len]) fun p hp => ?_
  have hp : p < n := by rw [swapAt_len, mir_len, hl] at hp; exact hp
  rw [swapAt_get hl' (by omega) (by omega) hp, mir_get hl (sg_lt (by omega) (by omega) hp), mir_get hs hp, swapAt_get hl h1 h2 (by omega)]
  have e : n - 1 - sg (n - g) p = sg g (n - 1 - p) := by
    unfold sg
    split
    · rw [if_neg (by omega), if_pos (by omega)]
      omega
    · split
      · rw [if_pos (by omega)]
        omega
      · rw [if_neg (by omega), if_neg (by omega)]
  rw [e]
theorem mir_stp {n : Nat} {x : List Int} {g : Nat} (hl : x.length = n) (h1 : 1 ≤ g) (h2 : g < n) : stp (mir x) (n - g) = mir (stp x g) := by
  unfold stp
  rw [mir_get hl (by omega), mir_get hl (by omega)]
  have e1 : n - 1 - (n - g) = g - 1 := by omega
  have e2 : n - 1 - (n - g - 1) = g := by omega
  rw [e1, e2]
  by_cases c : x.getD g 0 < x.getD (g - 1) 0
  · rw [if_pos c, if_pos (by omega), mir_swap hl h1 h2]
  · rw [if_neg c, if_neg (by omega)]
theorem play_mir {n : Nat} {miss : List Int} : ∀ (gs : List Int) (i : Nat) (x : List Int), Gates n gs → x.length = n → play miss i (gs.map fun g => (n : Int) - g) (mir x) = mir (play miss i gs x) := by
  intro gs
  induction gs with
  | nil => intro i x _ _; rfl
  | cons g gs ih =>
    intro i x hg hl
    have h := hg g List.mem_cons_self
    have ht : Gates n gs := fun v hv => hg v (List.mem_cons_of_mem _ hv)
    rw [List.map_cons]
    unfold play
    split
    · exact ih _ _ ht hl
    · have e : ((n : Int) - g).toNat = n - g.toNat := by omega
      rw [e, mir_stp hl (by omega) (by omega)]
      exact ih _ _ ht (by rw [stp_len, hl])

/-! ### which orders are sorted: the demands -/
def dem (x : List Int) (k : Nat) (t : Int) : Nat := (x.take k).countP fun v => decide (t ≤ v)
theorem dem_succ {x : List Int} {k : Nat} {t : Int} (h : k < x.length) : dem x (k + 1) t = dem x k t + if t ≤ x.getD k 0 then 1 else 0 := by
  unfold dem
  rw [List.take_add_one, List.getElem?_eq_getElem h, List.countP_append]
  have e : x.getD k 0 = x[k] := by rw [List.getD_eq_getElem?_getD, List.getElem?_eq_getElem h]; rfl
  rw [e]
  simp [List.countP_cons]
theorem dem_swap_lo {n : Nat} {x : List Int} {g k : Nat} {t : Int} (hk : k < g) : dem (swapAt x g) k t = dem x k t := by
  unfold dem swapAt
  rw [List.take_set_of_le (by omega), List.take_set_of_le (by omega)]
theorem swap_at1 {n : Nat} {x : List Int} {g : Nat} (hl : x.length = n) (h1 : 1 ≤ g) (h2 : g < n) : (swapAt x g).getD (g - 1) 0 = x.getD g 0 := by
  rw [swapAt_get hl h1 h2 (by omega)]
  unfold sg
  rw [if_pos rfl]
theorem swap_at2 {n : Nat} {x : List Int} {g : Nat} (hl : x.length = n) (h1 : 1 ≤ g) (h2 : g < n) : (swapAt x g).getD g 0 = x.getD (g - 1) 0 := by
  rw [swapAt_get hl h1 h2 (by omega)]
  unfold sg
  rw [if_neg (by omega), if_pos rfl]
theorem dem_two {n : Nat} {x : List Int} {g : Nat} {t : Int} (hl : x.length = n) (h1 : 1 ≤ g) (h2 : g < n) :
    dem x g t = dem x (g - 1) t + (if t ≤ x.getD (g - 1) 0 then 1 else 0) ∧ dem x (g + 1) t = dem x g t + if t ≤ x.getD g 0 then 1 else 0 := by
  have a := dem_succ (x := x) (k := g - 1) (t := t) (by omega)
  rw [show g - 1 + 1 = g by omega] at a
  exact ⟨a, dem_succ (by omega)⟩
theorem dem_swap_hi {n : Nat} {x : List Int} {g k : Nat} {t : Int} (hl : x.length = n) (h1 : 1 ≤ g) (h2 : g < n) (hk : g < k) (hn : k ≤ n) : dem (swapAt x g) k t = dem x k t := by
  obtain ⟨j, rfl⟩ : ∃ j, k = g + 1 + j := ⟨k - g - 1, by omega⟩
  have hs : (swapAt x g).length = n := by rw [swapAt_len, hl]
  clear hk
  induction j with
  | zero =>
    obtain ⟨a1, a2⟩ := dem_two (x := swapAt x g) (t := t) hs h1 h2
    obtain ⟨b1, b2⟩ := dem_two (x := x) (t := t) hl h1 h2
    rw [dem_swap_lo (n := n) (k := g - 1) (by omega), swap_at1 hl h1 h2] at a1
    rw [swap_at2 hl h1 h2] at a2
    show dem (swapAt x g) (g + 1) t = dem x (g + 1) t
    omega
  | succ j ih =>
    have e := ih (by omega)
    have a := dem_succ (x := swapAt x g) (k := g + 1 + j) (t := t) (by omega)
    have b := dem_succ (x := x) (k := g + 1 + j) (t := t) (by omega)
    have c : (swapAt x g).getD (g + 1 + j) 0 = x.getD (g + 1 + j) 0 := by
      rw [swapAt_get hl h1 h2 (by omega)]
      unfold sg
      rw [if_neg (by omega), if_neg (by omega)]
    rw [c] at a
    rw [show g + 1 + (j + 1) = g + 1 + j + 1 by omega]
    omega
theorem dem_stp_ne {n : Nat} {x : List Int} {g k : Nat} {t : Int} (hl : x.length = n) (h1 : 1 ≤ g) (h2 : g < n) (hk : k ≠ g) (hn : k ≤ n) : dem (swapAt x g) k t = dem x k t := by
  rcases Nat.lt_or_gt_of_ne hk with z | z
  · exact dem_swap_lo (n := n) z
  · exact dem_swap_hi hl h1 h2 z hn
def Le (n : Nat) (x y : List Int) : Prop := ∀ k t, k ≤ n → dem x k t ≤ dem y k t
/-- at its gate a comparison takes the demand as far down as its neighbours let it -/
theorem dem_stp_at {n : Nat} {x : List Int} {g : Nat} {t : Int} (hl : x.length = n) (h1 : 1 ≤ g) (h2 : g < n) : dem (stp x g) g t ≤ dem x (g - 1) t ∨ dem (stp x g) g t + 1 ≤ dem x (g + 1) t := by
  obtain ⟨b1, b2⟩ := dem_two (x := x) (t := t) hl h1 h2
  unfold stp
  split
  · rename_i c
    have hs : (swapAt x g).length = n := by rw [swapAt_len, hl]
    obtain ⟨a1, a2⟩ := dem_two (x := swapAt x g) (t := t) hs h1 h2
    rw [dem_swap_lo (n := n) (k := g - 1) (by omega), swap_at1 hl h1 h2] at a1
    by_cases z1 : t ≤ x.getD g 0 <;> by_cases z2 : t ≤ x.getD (g - 1) 0 <;> simp only [z1, z2, if_true, if_false] at a1 a2 b1 b2 <;> omega
  · rename_i c
    by_cases z1 : t ≤ x.getD g 0 <;> by_cases z2 : t ≤ x.getD (g - 1) 0 <;> simp only [z1, z2, if_true, if_false] at b1 b2 <;> omega
theorem le_stp {n : Nat} {x y : List Int} {g : Nat} (hx : x.length = n) (hy : y.length = n) (h1 : 1 ≤ g) (h2 : g < n) (h : Le n x y) : Le n (stp x g) y := by
  intro k t hk
  by_cases e : k = g
  · subst e
    have a := h (k - 1) t (by omega)
    have b := h (k + 1) t (by omega)
    obtain ⟨c1, c2⟩ := dem_two (x := y) (t := t) hy h1 h2
    rcases dem_stp_at (t := t) hx h1 h2 with z | z
    · omega
    · split at c2 <;> omega
  · have a := h k t hk
    unfold stp
    split
    · rw [dem_stp_ne hx h1 h2 e hk]
      exact a
    · exact a
theorem le_stp_swap {n : Nat} {x y : List Int} {g : Nat} (hx : x.length = n) (hy : y.length = n) (h1 : 1 ≤ g) (h2 : g < n) (h : Le n x y) : Le n (stp x g) (swapAt y g) := by
  have hy' : (swapAt y g).length = n := by rw [swapAt_len, hy]
  intro k t hk
  by_cases e : k = g
  · subst e
    have a := h (k - 1) t (by omega)
    have b := h (k + 1) t (by omega)
    obtain ⟨c1, c2⟩ := dem_two (x := swapAt y k) (t := t) hy' h1 h2
    rw [dem_stp_ne (k := k - 1) hy h1 h2 (by omega) (by omega)] at c1
    rw [dem_stp_ne (k := k + 1) hy h1 h2 (by omega) (by omega)] at c2
    rcases dem_stp_at (t := t) hx h1 h2 with z | z
    · omega
    · split at c2 <;> omega
  · have a := h k t hk
    rw [dem_stp_ne hy h1 h2 e hk]
    unfold stp
    split
    · rw [dem_stp_ne hx h1 h2 e hk]
      exact a
    · exact a
theorem le_sub {n : Nat} {u w : List Nat} (s : u.Sublist w) : ∀ {x y : List Int}, Word n w → x.length = n → y.length = n → Le n x y → Le n (w.foldl stp x) (u.foldl swapAt y) := by
  induction s with
  | slnil => intro x y _ _ _ h; exact h
  | cons g s ih =>
    intro x y hw hx hy h
    have hg := hw g List.mem_cons_self
    exact ih (fun v hv => hw v (List.mem_cons_of_mem _ hv)) (by rw [stp_len, hx]) hy (le_stp hx hy hg.1 hg.2 h)
  | cons_cons g s ih =>
    intro x y hw hx hy h
    have hg := hw g List.mem_cons_self
    exact ih (fun v hv => hw v (List.mem_cons_of_mem _ hv)) (by rw [stp_len, hx]) (by rw [swapAt_len, hy]) (le_stp_swap hx hy hg.1 hg.2 h)
theorem dem_idn {n k : Nat} (hk : k ≤ n) : dem (idn n) k k = 0 := by
  unfold dem
  rw [List.countP_eq_zero]
  intro v hv
  obtain ⟨i, hi, e⟩ := List.mem_iff_getElem.mp hv
  rw [List.length_take] at hi
  rw [List.getElem_take] at e
  have e2 : (idn n)[i] = (i : Int) := by simp [idn]
  rw [e2] at e
  simp only [decide_eq_true_eq]
  omega
theorem le_idn {n : Nat} {z : List Int} (h : IsOrd n z) (l : Le n z (idn n)) : z = idn n := by
  have low : ∀ i, i < n → z.getD i 0 ≤ i := by
    intro i hi
    have a := l (i + 1) ((i + 1 : Nat) : Int) (by omega)
    rw [dem_idn (by omega)] at a
    have b := dem_succ (x := z) (k := i) (t := ((i + 1 : Nat) : Int)) (by rw [h.len]; exact hi)
    split at b
    · omega
    · omega
  have eq : ∀ i, i < n → z.getD i 0 = i := by
    intro i
    induction i using Nat.strongRecOn with
    | ind i ih =>
      intro hi
      have a := low i hi
      have b := h.get_lo hi
      by_cases c : z.getD i 0 = i
      · exact c
      · have d := ih (z.getD i 0).toNat (by omega) (by omega)
        have e := h.inj (i := (z.getD i 0).toNat) (j := i) (by omega) hi (by rw [d]; omega)
        omega
  refine ext_getD (by rw [h.len, idn_len]) fun i hi => ?_
  rw [h.len] at hi
  rw [eq i hi, idn_get hi]

/-! ### read backwards -/
theorem sub_of_fold {n : Nat} : ∀ (w : List Nat) (x : List Int), ∃ u : List Nat, u.Sublist w ∧ u.foldl swapAt x = w.foldl stp x := by
  intro w
  induction w with
  | nil => intro x; exact ⟨[], List.Sublist.slnil, rfl⟩
  | cons g w ih =>
    intro x
    obtain ⟨u, hu, e⟩ := ih (stp x g)
    by_cases c : x.getD g 0 < x.getD (g - 1) 0
    · refine ⟨g :: u, hu.cons_cons g, ?_⟩
      rw [List.foldl_cons, List.foldl_cons, ← e]
      unfold stp
      rw [if_pos c]
    · refine ⟨u, hu.cons g, ?_⟩
      rw [List.foldl_cons, ← e]
      unfold stp
      rw [if_neg c]
theorem fold_sg_lt {n : Nat} : ∀ (u : List Nat) {p : Nat}, Word n u → p < n → u.foldr sg p < n := by
  intro u
  induction u with
  | nil => intro p _ hp; exact hp
  | cons g u ih =>
    intro p hu hp
    exact sg_lt (hu g List.mem_cons_self).1 (hu g List.mem_cons_self).2 (ih (fun v hv => hu v (List.mem_cons_of_mem _ hv)) hp)
theorem fold_swap_len : ∀ (u : List Nat) (x : List Int), (u.foldl swapAt x).length = x.length := by
  intro u
  induction u with
  | nil => intro x; rfl
  | cons g u ih => intro x; rw [List.foldl_cons, ih, swapAt_len]
theorem fold_swap_get {n : Nat} : ∀ (u : List Nat) {x : List Int} {p : Nat}, Word n u → x.length = n → p < n → (u.foldl swapAt x).getD p 0 = x.getD (u.foldr sg p) 0 := by
  intro u
  induction u with
  | nil => intro x p _ _ _; rfl
  | cons g u ih =>
    intro x p hu hl hp
    have ht : Word n u := fun v hv => hu v (List.mem_cons_of_mem _ hv)
    have hg := hu g List.mem_cons_self
    rw [List.foldl_cons, ih ht (by rw [swapAt_len, hl]) hp, swapAt_get hl hg.1 hg.2 (fold_sg_lt u ht hp), List.foldr_cons]
theorem fold_sg_rev {n : Nat} : ∀ (u : List Nat) {p : Nat}, Word n u → u.foldr sg (u.reverse.foldr sg p) = p := by
  intro u
  induction u with
  | nil => intro p _; rfl
  | cons g u ih =>
    intro p hu
    have ht : Word n u := fun v hv => hu v (List.mem_cons_of_mem _ hv)
    have hg := hu g List.mem_cons_self
    rw [List.reverse_cons, List.foldr_append, List.foldr_cons, List.foldr_cons, List.foldr_nil, ih ht, sg_sg hg.1]
/-- y has at index r the place of rank r in x -/
structure IsInv (n : Nat) (x y : List Int) : Prop where
  len : y.length = n
  at_ : ∀ p, p < n → y.getD (x.getD p 0).toNat 0 = p
theorem inv_fold {n : Nat} {x y : List Int} {u : List Nat} (h : IsOrd n x) (hy : IsInv n x y) (hu : Word n u) (e : u.foldl swapAt x = idn n) : u.reverse.foldl swapAt y = idn n := by
  have hr : Word n u.reverse := fun v hv => hu v (List.mem_reverse.mp hv)
  refine ext_getD (by rw [fold_swap_len, hy.len, idn_len]) fun p hp => ?_
  rw [fold_swap_len, hy.len] at hp
  rw [fold_swap_get u.reverse hr hy.len hp, idn_get hp]
  have hq := fold_sg_lt u.reverse hr hp
  have a := fold_swap_get u hu h.len hq
  rw [e, idn_get hq, fold_sg_rev u hu] at a
  have b := hy.at_ p hp
  rw [← a] at b
  simpa using b
theorem IsInv.ord {n : Nat} {x y : List Int} (h : IsOrd n x) (hy : IsInv n x y) : IsOrd n y ∧ IsInv n y x := by
  -- x hits every rank
  have hit : ∀ r, r < n → ∃ p, p < n ∧ x.getD p 0 = (r : Int) := by
    have pm : (idn n).Perm x := by
      have s : (x.mergeSort (fun a b => decide (a ≤ b))).Perm x := List.mergeSort_perm x _
      have o := h.perm s
      have so : (x.mergeSort (fun a b => decide (a ≤ b))).Pairwise (· ≤ ·) := by
        have := List.pairwise_mergeSort (le := fun (a b : Int) => decide (a ≤ b)) (fun a b c h1 h2 => by simp at h1 h2 ⊢; omega) (fun a b => by simp; omega) x
        exact this.imp fun z => by simpa using z
      rw [sorted_idn o so] at s
      exact s
    intro r hr
    have m : (r : Int) ∈ x := pm.mem_iff.mp (List.mem_map.mpr ⟨r, List.mem_range.mpr hr, rfl⟩)
    obtain ⟨p, hp, e⟩ := List.mem_iff_getElem.mp m
    refine ⟨p, by rw [← h.len]; exact hp, ?_⟩
    rw [List.getD_eq_getElem?_getD, List.getElem?_eq_getElem hp]
    exact e
  have yat : ∀ r, r < n → ∃ p, p < n ∧ x.getD p 0 = (r : Int) ∧ y.getD r 0 = (p : Int) := by
    intro r hr
    obtain ⟨p, hp, e⟩ := hit r hr
    refine ⟨p, hp, e, ?_⟩
    have := hy.at_ p hp
    rw [e] at this
    simpa using this
  refine ⟨ord_of hy.len (fun r hr => ?_) fun r q hr hq e => ?_, ⟨h.len, fun r hr => ?_⟩⟩
  · obtain ⟨p, hp, _, e⟩ := yat r hr
    rw [e]
    omega
  · obtain ⟨p, hp, e1, e2⟩ := yat r hr
    obtain ⟨p', hp', e1', e2'⟩ := yat q hq
    have : p = p' := by rw [e2, e2'] at e; omega
    subst this
    rw [e1] at e1'
    omega
  · obtain ⟨p, hp, e1, e2⟩ := yat r hr
    rw [e2]
    simpa using e1
theorem back_one {n : Nat} {x y : List Int} {w : List Nat} (h : IsOrd n x) (hy : IsInv n x y) (hw : Word n w) (e : w.foldl stp x = idn n) : w.reverse.foldl stp y = idn n := by
  obtain ⟨u, hu, eu⟩ := sub_of_fold (n := n) w x
  have wu : Word n u := fun v hv => hw v (hu.subset hv)
  have hr : Word n w.reverse := fun v hv => hw v (List.mem_reverse.mp hv)
  have oy := (hy.ord h).1
  have a := inv_fold h hy wu (eu.trans e)
  have b := le_sub hu.reverse hr oy.len oy.len (fun _ _ _ => Nat.le_refl _ : Le n y y)
  rw [a] at b
  exact le_idn (foldl_ord _ hr oy) b
theorem back_iff {n : Nat} {x y : List Int} {w : List Nat} (h : IsOrd n x) (hy : IsInv n x y) (hw : Word n w) : w.foldl stp x = idn n ↔ w.reverse.foldl stp y = idn n := by
  refine ⟨back_one h hy hw, fun e => ?_⟩
  obtain ⟨oy, hx⟩ := hy.ord h
  have := back_one (w := w.reverse) oy hx (fun v hv => hw v (List.mem_reverse.mp hv)) e
  rwa [List.reverse_reverse] at this
/-- the gates that are not missed, read backwards -/
theorem eff_back {m : Nat} {miss back : List Int} (hb : ∀ i : Nat, i < m → ((i : Int) ∈ back ↔ ((m : Int) - 1 - i) ∈ miss)) : ∀ (gs : List Int) (j : Nat), j + gs.length ≤ m → eff back (m - j - gs.length) gs.reverse = (eff miss j gs).reverse := by
  intro gs
  induction gs with
  | nil => intro j _; rfl
  | cons g gs ih =>
    intro j hj
    rw [List.length_cons] at hj
    have e := ih (j + 1) (by omega)
    have e1 : m - j - (g :: gs).length = m - (j + 1) - gs.length := by rw [List.length_cons]; omega
    rw [List.reverse_cons, eff_append, e1, e, List.length_reverse]
    have e2 : m - (j + 1) - gs.length + gs.length = m - 1 - j := by omega
    rw [e2]
    have q := hb (m - 1 - j) (by omega)
    rw [show ((m : Int) - 1 - ((m - 1 - j : Nat) : Int)) = (j : Int) by omega] at q
    show _ ++ (if ((m - 1 - j : Nat) : Int) ∈ back then [] else [g.toNat]) = (if (j : Int) ∈ miss then eff miss (j + 1) gs else g.toNat :: eff miss (j + 1) gs).reverse
    by_cases c : (j : Int) ∈ miss
    · rw [if_pos c, if_pos (q.mpr c), List.append_nil]
    · rw [if_neg c, if_neg fun z => c (q.mp z), List.reverse_cons]
/-- THE LAW, second part -/
theorem play_back {n : Nat} {gs x y miss back : List Int} (hg : Gates n gs) (h : IsOrd n x) (hy : IsInv n x y) (hb : ∀ i : Nat, i < gs.length → ((i : Int) ∈ back ↔ ((gs.length : Int) - 1 - i) ∈ miss)) :
    play miss 0 gs x = idn n ↔ play back 0 gs.reverse y = idn n := by
  rw [play_eff, play_eff]
  have e := eff_back hb gs 0 (by omega)
  rw [show gs.length - 0 - gs.length = 0 by omega] at e
  rw [e]
  exact back_iff h hy (eff_word gs 0 hg)
end Bm

namespace Bm
theorem erase_map {β : Type} (f : Int → β) (xs : List Int) (k : Nat) : (xs.map f).eraseIdx k = (xs.eraseIdx k).map f := by
  rw [List.eraseIdx_eq_take_drop_succ, List.eraseIdx_eq_take_drop_succ]
  simp
theorem pop_perm {xs : List Int} {k : Nat} (hk : k < xs.length) : (xs[k] :: xs.eraseIdx k).Perm xs := by
  rw [List.eraseIdx_eq_take_drop_succ]
  have e : xs.take k ++ xs[k] :: xs.drop (k + 1) = xs := by simp
  have p : (xs[k] :: (xs.take k ++ xs.drop (k + 1))).Perm (xs.take k ++ xs[k] :: xs.drop (k + 1)) := List.perm_middle.symm
  exact p.trans (by rw [e])
theorem move_perm {ys xs : List Int} {k : Nat} (hk : k < xs.length) : ((ys ++ [xs[k]]) ++ xs.eraseIdx k).Perm (ys ++ xs) := by
  rw [List.append_assoc]
  exact List.Perm.append_left ys (pop_perm hk)
def swap2 (x : List Int) (i j : Nat) : List Int := (x.set i (x.getD j 0)).set j (x.getD i 0)
def tr (i j p : Nat) : Nat := if p = j then i else if p = i then j else p
theorem swap2_len (x : List Int) (i j : Nat) : (swap2 x i j).length = x.length := by simp [swap2]
theorem swap2_get {n : Nat} {x : List Int} {i j p : Nat} (hl : x.length = n) (hi : i < n) (hj : j < n) (hp : p < n) : (swap2 x i j).getD p 0 = x.getD (tr i j p) 0 := by
  unfold swap2 tr
  by_cases h1 : p = j
  · subst h1
    rw [if_pos rfl]
    simp [List.getD, List.getElem?_set, hl, hp]
  · rw [if_neg h1]
    by_cases h2 : p = i
    · subst h2
      rw [if_pos rfl]
      simp [List.getD, List.getElem?_set, hl, hp, Ne.symm h1]
    · rw [if_neg h2]
      simp [List.getD, List.getElem?_set, Ne.symm h1, Ne.symm h2]
theorem swap2_ord {n : Nat} {x : List Int} {i j : Nat} (h : IsOrd n x) (hi : i < n) (hj : j < n) : IsOrd n (swap2 x i j) := by
  have tl : ∀ p, p < n → tr i j p < n := fun p hp => by
    unfold tr
    split
    · exact hi
    · split <;> omega
  refine ord_of (by rw [swap2_len, h.len]) (fun p hp => ?_) fun p q hp hq e => ?_
  · rw [swap2_get h.len hi hj hp]
    exact ⟨h.get_lo (tl p hp), h.get_hi (tl p hp)⟩
  · rw [swap2_get h.len hi hj hp, swap2_get h.len hi hj hq] at e
    have e2 := h.inj (tl p hp) (tl q hq) e
    unfold tr at e2
    split at e2 <;> split at e2 <;> (try split at e2) <;> (try split at e2) <;> omega
theorem rev_mid_perm (xs : List Int) {a c : Nat} (hac : a ≤ c) : (xs.take a ++ ((xs.drop a).take (c - a)).reverse ++ xs.drop c).Perm xs := by
  have e : xs.take a ++ (xs.drop a).take (c - a) ++ xs.drop c = xs := by
    have h : xs.drop c = (xs.drop a).drop (c - a) := by
      rw [List.drop_drop]
      congr 1
      omega
    rw [List.append_assoc, h, List.take_append_drop, List.take_append_drop]
  have p : (xs.take a ++ ((xs.drop a).take (c - a)).reverse ++ xs.drop c).Perm (xs.take a ++ (xs.drop a).take (c - a) ++ xs.drop c) :=
    List.Perm.append_right _ (List.Perm.append_left _ (List.reverse_perm _))
  exact p.trans (by rw [e])
theorem lt_of_le {xs : List Int} (h : xs.Pairwise (· ≤ ·)) (nd : xs.Nodup) : xs.Pairwise (· < ·) :=
  (h.and nd).imp fun {a b} q => Int.lt_iff_le_and_ne.mpr q
end Bm

set_option maxHeartbeats 4000000
/-! A generator that is walked by a for whose body only stores names: own rules. The consumer changes its own frame between two turns; the generator's context is put over the frame as it stands. -/
namespace Bg
open PySem PySem.Spec PyProof.Rows L2 GenW

/-! ### a context over another heap at its entry -/
abbrev atH (X : Cx) (h : Heap) : Cx := { X with s_0 := { X.s_0 with heap := h } }
structure Pl (o : Obj) : Prop where
  fr : o.isFreed = false
  nf : ∀ vs, o.data ≠ .fields vs
  nc : ∀ v, o.data ≠ .cell v
abbrev putO (h : Heap) (L : Addr) (o : Obj) : Heap := h.update L fun _ => o
theorem put_same {h : Heap} {L : Addr} {o o0 : Obj} (e : h.get? L = some o0) (p : Pl o) : (putO h L o).get? L = some o := Heap.get?_update_self _ e p.fr
theorem put_ne {h : Heap} {L b : Addr} {o : Obj} (hb : b ≠ L) : (putO h L o).get? b = h.get? b := Heap.get?_update_other _ _ (Ne.symm hb)
theorem put_size {h : Heap} {L : Addr} {o : Obj} : (putO h L o).objs.size = h.objs.size := (Heap.SameBut.update h L _).1
theorem funs_of {h h' base : Heap} (k : ∀ b o, base.get? b = none → h.get? b = some o → (∀ vs, o.data ≠ .fields vs) → ∃ o', h'.get? b = some o' ∧ ∀ vs, o'.data ≠ .fields vs) : ∀ {l : List Env}, h.FunFrames base l → h'.FunFrames base l := by
  intro l
  induction l with
  | nil => intro _; trivial
  | cons env r ih =>
    intro hl
    obtain ⟨hk, ⟨L, o, hf, hn, ho, hd⟩, hr⟩ := hl
    obtain ⟨o', ho', hd'⟩ := k L o hn ho hd
    exact ⟨hk, ⟨L, o', hf, hn, ho', hd'⟩, ih hr⟩
/-- the frame at L is one of the callers', it was there at the entry -/
structure GP (X : Cx) (L : Addr) : Prop where
  fn : ∀ x, X.fn x = true
  mem : L ∈ X.fs
  there : ∃ o, X.s_0.heap.get? L = some o
theorem rebase {X : Cx} {ip : List (Addr × Obj)} {σ : L2.St} {H : Hp} {s s' : Shared} {h0 : Heap} {L : Addr} {o' : Obj} (g : GP X L) (h0s : Heap.SameBut L X.s_0.heap h0) (I : Inv (atH X h0) ip σ H s) (os : s'.os = s.os) (bare : AllBare s'.gens)
    (sb : Heap.SameBut L s.heap s'.heap) (e : s'.heap.get? L = some o') (p : Pl o') : Inv (atH X (putO X.s_0.heap L o')) ip σ H s' := by
  obtain ⟨o00, e00⟩ := g.there
  obtain ⟨nb, o0, e0, _⟩ := I.ok.funs.mem (b := L) g.mem
  have nex : L ∉ X.ex := fun z => I.ok.exfs L z g.mem
  have h0L : X.H_0 L = none := I.ok.frf L g.mem
  have HL : H L = none := I.base.free L o0 e0 h0L nex
  have eX : ∀ b, b ≠ L → h0.get? b = X.s_0.heap.get? b := fun b hb => h0s.2 b hb
  have eP : ∀ b, b ≠ L → (putO X.s_0.heap L o').get? b = h0.get? b := fun b hb => (put_ne hb).trans (eX b hb).symm
  have eS := put_same e00 p
  have hlt : L < X.env.locals := Nat.lt_of_lt_of_le (Heap.lt_size e0) I.ok.above
  have nL : X.env.locals ≠ L := Nat.ne_of_gt hlt
  have nC : ∀ x c, X.env.cells.lookup x = some c → c ≠ L := fun x c q z => by
    have h1 : h0.objs.size ≤ c := I.ok.cab x c (g.fn x) q
    rw [z] at h1
    exact absurd (Nat.lt_of_lt_of_le (Heap.lt_size e0) h1) (Nat.lt_irrefl _)
  refine ⟨⟨I.ok.mod, I.ok.kind, I.ok.glob, I.ok.blt, ?_, I.ok.inj, I.ok.has, fun x c a b => ?_, I.ok.hd, I.ok.frames, I.ok.stk, I.ok.exf, fun b o q => ?_, ?_, I.ok.noex, I.ok.exfs, ?_, I.ok.frf⟩, os.trans I.os, bare, ⟨fun b o q n hb hx => ?_, fun b o q n hb hx => ?_, fun b o q n hx => ?_, fun b o q hx => ?_, I.base.tups, I.base.frzs, I.base.tbls⟩,
    ?_, fun x c q => ?_, I.free, I.freeC, fun q hq => ?_, fun b u q => ?_, I.len⟩
  · show (putO X.s_0.heap L o').objs.size ≤ X.env.locals
    rw [put_size, ← h0s.1]
    exact I.ok.above
  · show (putO X.s_0.heap L o').objs.size ≤ c
    rw [put_size, ← h0s.1]
    exact I.ok.cab x c a b
  · have hb : b ≠ L := fun z => by
      have q' : X.base.get? b = some o := q
      rw [z] at q'
      rw [show X.base.get? L = none from nb] at q'
      cases q'
    obtain ⟨a1, a2⟩ := I.ok.bs b o q
    exact ⟨(eP b hb).trans a1, a2⟩
  · show X.base.objs.size ≤ (putO X.s_0.heap L o').objs.size
    rw [put_size, ← h0s.1]
    exact I.ok.bsz
  · refine funs_of (fun b o _ ho hd => ?_) I.ok.funs
    by_cases hb : b = L
    · subst hb
      exact ⟨o', eS, p.nf⟩
    · exact ⟨o, (eP b hb).trans ho, hd⟩
  · have hbL : b ≠ L := fun z => hb (by rw [z]; exact g.mem)
    have q' : (putO X.s_0.heap L o').get? b = some o := q
    rw [eP b hbL] at q'
    exact (sb.2 b hbL).trans (I.base.keep b o q' n hb hx)
  · have q' : (putO X.s_0.heap L o').get? b = some o := q
    by_cases hbL : b = L
    · subst hbL
      rw [eS] at q'
      cases q'
      exact ⟨o'.slots, e⟩
    · rw [eP b hbL] at q'
      obtain ⟨sl, z⟩ := I.base.slot b o q' n hb hx
      exact ⟨sl, (sb.2 b hbL).trans z⟩
  · have q' : (putO X.s_0.heap L o').get? b = some o := q
    by_cases hbL : b = L
    · rw [hbL]
      exact HL
    · rw [eP b hbL] at q'
      exact I.base.free b o q' n hx
  · have q' : (putO X.s_0.heap L o').get? b = some o := q
    by_cases hbL : b = L
    · subst hbL
      exact ⟨o', e⟩
    · rw [eP b hbL] at q'
      obtain ⟨o2, z⟩ := I.base.there b o q' hx
      exact ⟨o2, (sb.2 b hbL).trans z⟩
  · obtain ⟨m, hn, hl⟩ := I.loc
    refine ⟨m, hn.sameBut sb nL, fun i x v a b c => ?_⟩
    obtain ⟨u, r, l⟩ := hl i x v a b c
    refine ⟨u, r, ?_⟩
    rcases l with l | ⟨k, c', q, z⟩
    · exact .inl l
    · exact .inr ⟨k, c', q, z.sameBut sb (nC x c' q)⟩
  · obtain ⟨v, z⟩ := I.cell x c q
    exact ⟨v, z.sameBut sb (nC x c q)⟩
  · obtain ⟨a, b, c, d, f⟩ := I.pin q hq
    have hqL : q.1 ≠ L := fun z => d (by rw [z]; exact g.mem)
    exact ⟨(sb.2 q.1 hqL).trans a, b, c, d, f⟩
  · refine (I.hok b u q).stay (fun c v hc y => ?_) (fun _ y => y) fun _ _ y => y
    have hcL : c ≠ L := fun z => by
      rcases hc with y | y
      · rw [← y, z, HL] at q
        cases q
      · rw [z, HL] at y
        cases y
    exact (sb.2 c hcL).trans y

/-! ### the protocol -/
abbrev GIL (X : Cx) (L : Addr) (o : Obj) (ip : List (Addr × Obj)) (σ : L2.St) (H : Hp) (s : Shared) : Prop := Inv (atH X (putO X.s_0.heap L o)) ip σ H s
/-- the consumer's turn: it has stored v in its frame (φ) -/
structure Sl (L : Addr) (φ : V → Obj → Prop) (x : V) (s s' : Shared) : Prop where
  os : s'.os = s.os
  bare : AllBare s'.gens
  but : Heap.SameBut L s.heap s'.heap
  here : ∃ o, s'.heap.get? L = some o ∧ Pl o ∧ φ x o
def Lk (φ : V → Obj → Prop) (ys : List V) (o : Obj) : Prop := ys = [] ∨ ∃ x, ys.getLast? = some x ∧ φ x o
structure Now (L : Addr) (φ : V → Obj → Prop) (ys : List V) (o : Obj) (s₀ : Shared) : Prop where
  here : s₀.heap.get? L = some o
  pl : Pl o
  lk : Lk φ ys o
def GY (X : Cx) (L : Addr) (φ : V → Obj → Prop) : Protocol := fun n s₀ v s kap =>
  ∃ ys x ip σ H o, n + 1 + ys.length = sizeLine ∧ Now L φ ys o s₀ ∧ RelV x v ∧ GIL X L o ip σ H s ∧ ∀ s', Sl L φ x s s' → kap (.send .none) s'
def GR (X : Cx) (L : Addr) (φ : V → Obj → Prop) (Q : List V → VK) : GenEnd := fun n s₀ r s => match r with
  | .ok (.ret u) => ∃ ys v ip σ H o, n + ys.length = sizeLine ∧ Now L φ ys o s₀ ∧ GIL X L o ip σ H s ∧ RelV v u ∧ Q ys v H
  | _ => False
structure GEnds where
  nx : List V → L2.St → Hp → Prop
  rt : List V → VK
  bk : List V → L2.St → Hp → Prop := fun _ _ _ => False
  ct : List V → L2.St → Hp → Prop := fun _ _ _ => False
abbrev TGn := GEnds → List V → L2.St → Hp → Prop
def GEnds.at (D : GEnds) (ys : List V) : Ends := { nx := D.nx ys, rt := D.rt ys, bk := D.bk ys, ct := D.ct ys }
def GSP (X : Cx) (L : Addr) (o : Obj) (ip : List (Addr × Obj)) (D : GEnds) (ys : List V) (f : Flow) (s : Shared) : Prop :=
  match f with
  | .next => ∃ σ H, GIL X L o ip σ H s ∧ D.nx ys σ H
  | .brk => ∃ σ H, GIL X L o ip σ H s ∧ D.bk ys σ H
  | .cont => ∃ σ H, GIL X L o ip σ H s ∧ D.ct ys σ H
  | .ret u => ∃ v σ H, GIL X L o ip σ H s ∧ RelV v u ∧ D.rt ys v H
structure GC (X : Cx) (A : Around) (c : Code) (fs : List Frame) (gd : Bool → Bool) : Prop where
  over : A.over c fs = X.A
  split : splitAtGen fs = none
  guard : fs.any Frame.guarded = false
  gd : gd false = false
def GK (X : Cx) (L : Addr) (φ : V → Obj → Prop) (ip : List (Addr × Obj)) (A : Around) (R : GenEnd) (c : Code) (fs : List Frame) (K : Flow → Sem PySem.Fin) (D : GEnds) : Prop :=
  ∀ (n : Nat) (ys : List V) (s₀ s : Shared) (f : Flow) (o : Obj), n + ys.length = sizeLine → Now L φ ys o s₀ → GSP X L o ip D ys f s → Seg (model X.prog X.w) A R (GY X L φ) n s₀ c (K f) fs s
structure GS (X : Cx) (L : Addr) (φ : V → Obj → Prop) (st : Stmt) (t : TGn) : Prop where
  run : ∀ (A : Around) (ip : List (Addr × Obj)) (R : GenEnd) (n : Nat) (ys : List V) (s₀ : Shared) (c : Code) (fs : List Frame) (K : Flow → Sem PySem.Fin) (J : Value → Sem PySem.Fin) (gd : Bool → Bool) (lv : List Value → List Value) (s : Shared) (σ : L2.St) (H : Hp) (D : GEnds) (o : Obj),
    GC X A c fs gd → n + ys.length = sizeLine → Now L φ ys o s₀ → GK X L φ ip A R c fs K D → GIL X L o ip σ H s → t D ys σ H →
    Seg (model X.prog X.w) A R (GY X L φ) n s₀ c ((exec st X.env).wrap K J gd lv) fs s
structure GSs (X : Cx) (L : Addr) (φ : V → Obj → Prop) (st : List Stmt) (t : TGn) : Prop where
  run : ∀ (A : Around) (ip : List (Addr × Obj)) (R : GenEnd) (n : Nat) (ys : List V) (s₀ : Shared) (c : Code) (fs : List Frame) (K : Flow → Sem PySem.Fin) (J : Value → Sem PySem.Fin) (gd : Bool → Bool) (lv : List Value → List Value) (s : Shared) (σ : L2.St) (H : Hp) (D : GEnds) (o : Obj),
    GC X A c fs gd → n + ys.length = sizeLine → Now L φ ys o s₀ → GK X L φ ip A R c fs K D → GIL X L o ip σ H s → t D ys σ H →
    Seg (model X.prog X.w) A R (GY X L φ) n s₀ c ((execs st X.env).wrap K J gd lv) fs s

section
variable {X : Cx} {L : Addr} {φ : V → Obj → Prop} {st : Stmt} {rest : List Stmt}
def tPlain (t : TS) : TGn := fun D ys σ H => t (D.at ys) σ H
theorem sp_gsp {o : Obj} {ip : List (Addr × Obj)} {s : Shared} {D : GEnds} {ys : List V} {f : Flow} (h : SP (atH X (putO X.s_0.heap L o)) ip (D.at ys) f s) : GSP X L o ip D ys f s := by
  cases f with
  | next => obtain ⟨σ, H, I, q⟩ := h; exact ⟨σ, H, I, q⟩
  | brk => obtain ⟨σ, H, I, q⟩ := h; exact ⟨σ, H, I, q⟩
  | cont => obtain ⟨σ, H, I, q⟩ := h; exact ⟨σ, H, I, q⟩
  | ret u => obtain ⟨v, σ, H, I, r1, q⟩ := h; exact ⟨v, σ, H, I, r1, q⟩
theorem gs_ps {t : TS} (nx : ∀ e s, ¬ X.xe e s) (h : ∀ h0, PS (atH X h0) st t) : GS X L φ st (tPlain t) := by
  refine ⟨fun A ip R n ys s₀ c fs K J gd lv s σ H D o g hn nw k hI ht => ?_⟩
  refine seg_wrap ?_
  rw [g.over]
  exact wpAny_mono ((h (putO X.s_0.heap L o)).run _ s σ H (D.at ys) hI ht) (fun f s' hs => k n ys s₀ s' f o hn nw (sp_gsp hs)) fun x s' hx => absurd hx (nx x s')
def tG0 : TGn := fun D ys σ H => D.nx ys σ H
theorem gss_nil : GSs X L φ [] tG0 := by
  refine ⟨fun A ip R n ys s₀ c fs K J gd lv s σ H D o g hn nw k hI ht => ?_⟩
  exact seg_execs_nil (k n ys s₀ s .next o hn nw ⟨σ, H, hI, ht⟩)
def tGThen (t u : TGn) : TGn := fun D ys σ H => t { D with nx := fun ys' σ' H' => u D ys' σ' H' } ys σ H
theorem gss_cons {t u : TGn} (a : GS X L φ st t) (b : GSs X L φ rest u) : GSs X L φ (st :: rest) (tGThen t u) := by
  refine ⟨fun A ip R n ys s₀ c fs K J gd lv s σ H D o g hn nw k hI ht => ?_⟩
  refine seg_execs_cons ?_
  refine a.run A ip R n ys s₀ c fs _ J gd lv s σ H { D with nx := fun ys' σ' H' => u D ys' σ' H' } o g hn nw (fun n' ys' s₀' s' f o' hn' nw' hs => ?_) hI ht
  cases f with
  | next =>
    obtain ⟨σ', H', I', q⟩ := hs
    exact b.run A ip R n' ys' s₀' c fs K J gd lv s' σ' H' D o' g hn' nw' k I' q
  | brk => exact k n' ys' s₀' s' .brk o' hn' nw' hs
  | cont => exact k n' ys' s₀' s' .cont o' hn' nw' hs
  | ret u => exact k n' ys' s₀' s' (.ret u) o' hn' nw' hs
/-! ### yield -/
def tGYield (te : TE) : TGn := fun D ys σ H => ys.length < sizeLine ∧ te σ H fun x H1 => D.nx (ys ++ [x]) σ H1
theorem gs_yield {e : Expr} {yp pos : Pos} {te : TE} (gp : GP X L) (nx : ∀ e s, ¬ X.xe e s) (he : ∀ h0, PE (atH X h0) e te) (hco : X.env.scope.isCoroutine = false := by rfl) (hi : interactive X.env = false := by rfl) : GS X L φ (.Expr (.Yield (some e) yp) pos) (tGYield te) := by
  refine ⟨fun A ip R n ys s₀ c fs K J gd lv s σ H D o g hn nw k hI ht => ?_⟩
  obtain ⟨hlt, ht⟩ := ht
  obtain ⟨n, rfl⟩ : ∃ m, n = m + 1 := ⟨n - 1, by omega⟩
  refine seg_Expr_Yield g.split g.gd g.guard ?_ hco hi
  rw [g.over]
  refine wpAny_mono ((he (putO X.s_0.heap L o)).run _ s σ H _ hI ht) (fun v s' hv => ?_) fun x s' hx => absurd hx (nx x s')
  obtain ⟨x, H1, I1, rv, q⟩ := hv
  intro kap hk
  refine ⟨ys, x, ip, σ, H1, o, hn, nw, rv, I1, fun s'' z => hk .none s'' ?_⟩
  obtain ⟨o', e', p', f'⟩ := z.here
  refine k n (ys ++ [x]) s'' s'' .next o' ?_ ⟨e', p', .inr ⟨x, by simp, f'⟩⟩ ⟨σ, H1, rebase gp (Heap.SameBut.update ..) I1 z.os z.bare z.but e' p', q⟩
  rw [List.length_append, List.length_singleton]; omega
end

/-! ### for -/
abbrev lfr (env : Env) (K : Flow → Sem PySem.Fin) (J : Value → Sem PySem.Fin) (gd : Bool → Bool) (lv : List Value → List Value) (c : Code) (p : Pos) : Frame :=
  .ret (fun r => ((match r with | .ok f => (.pure f : Sem Flow) | .error e => .raise e).onRaise fun (x : Value) => do
    if (← field x 1) == Value.none then unsupported "frame.own-activation:exception-without-traceback"
    setFlight x env.frame).wrap K J gd lv) none (gd false) (lv []) c p []
section
variable {M : Model} {A : Around} {R : GenEnd} {Y : Protocol} {n : Nat} {s₀ : Shared} {c : Code} {fs : List Frame} {s : Shared} {env : Env} {K : Flow → Sem PySem.Fin} {J : Value → Sem PySem.Fin} {gd : Bool → Bool} {lv : List Value → List Value}
theorem seg_For {target iter : Expr} {body orelse : List Stmt} {pos : Pos} (hs : ∀ x, foldedSetIterable iter env x = pure x)
    (h : wpAny M (A.over c fs) (eval iter env) (fun x s1 => wpAny M (A.over c fs) (pyIter x) (fun it s2 => ∀ p, Seg M A R Y n s₀ (.forLoop target it body orelse env) (M.den (.forLoop target it body orelse env)) (lfr env K J gd lv c p :: fs) s2) (fun _ _ => False) s1) (fun _ _ => False) s) :
    Seg M A R Y n s₀ c ((exec (.For target iter body orelse pos) env).wrap K J gd lv) fs s := by
  rw [exec_For]
  refine seg_bind_wrap (wpAny_standAt ?_)
  refine seg_bind_wrap (wpAny_mono h (fun x s1 h1 => ?_) fun _ _ z => z.elim)
  refine seg_bind_wrap (wpAny_of_eq (hs x) ?_)
  refine seg_bind_wrap (wpAny_standAt ?_)
  refine seg_bind_wrap (wpAny_holding (wpAny_mono h1 (fun it s2 h2 => ?_) fun _ _ z => z.elim))
  exact seg_call h2
end
section
variable {prog : Program} {w : World} {A : Around} {R : GenEnd} {Y : Protocol} {n : Nat} {s₀ : Shared} {fs : List Frame} {s : Shared} {env : Env}
theorem seg_forLoop {target : Expr} {it : Value} {body : List Stmt}
    (h : wpAny (model prog w) (A.over (.forLoop target it body [] env) fs) (pyNext it) (fun r s1 => match r with
      | none => Seg (model prog w) A R Y n s₀ (.block [] env) (.pure (.done .next)) fs s1
      | some v => wpAny (model prog w) (A.over (.forLoop target it body [] env) fs) (letOwnedTupleGo target it v) (fun _ s2 => wpAny (model prog w) (A.over (.forLoop target it body [] env) fs) (assign target env v) (fun _ s3 =>
          Seg (model prog w) A R Y n s₀ (.forLoop target it body [] env) ((execs body env).wrap (fun f => match f with
            | .next | .cont => .pure (.again (.forLoop target it body [] env))
            | .brk => .pure (.done .next)
            | .ret v => .pure (.done (.ret v))) (fun e => (do noteFrame e env; theTreesLotGoes e : Sem Unit).wrap (fun _ => .raise e) .raise id id) id id) fs s3) (fun _ _ => False) s2) (fun _ _ => False) s1) (fun _ _ => False) s) :
    Seg (model prog w) A R Y n s₀ (.forLoop target it body [] env) ((model prog w).den (.forLoop target it body [] env)) fs s := by
  show Seg _ A R Y n s₀ _ ((forTurn target it body [] env).onRaise (fun x => do noteFrame x env; theTreesLotGoes x)) fs s
  unfold forTurn
  rw [Sem.onRaise_eq_wrap]
  refine seg_bind_wrap (wpAny_standAt ?_)
  refine seg_bind_wrap (wpAny_onRaise (wpAny_mono h (fun r s1 h1 => ?_) fun _ _ z => z.elim))
  cases r with
  | none => exact seg_again rfl h1
  | some v =>
    refine seg_bind_wrap (wpAny_mono h1 (fun _ s2 h2 => ?_) fun _ _ z => z.elim)
    refine seg_bind_wrap (wpAny_mono h2 (fun _ s3 h3 => ?_) fun _ _ z => z.elim)
    rw [Sem.bind_eq_wrap', Sem.wrap_wrap]
    rw [Sem.wrap_congr (execs body env) _ _ (K' := fun f => match f with
            | .next | .cont => .pure (.again (.forLoop target it body [] env))
            | .brk => .pure (.done .next)
            | .ret v => .pure (.done (.ret v))) (H' := (fun e => (do noteFrame e env; theTreesLotGoes e : Sem Unit).wrap (fun _ => .raise e) .raise id id))
        (fun f => by cases f <;> rfl)
        (fun e => by first | exact Sem.bind_eq_wrap _ _ | (show (do noteFrame e env; theTreesLotGoes e : Sem Unit).bind (fun _ => .raise e) = _; rw [Sem.bind_eq_wrap]))]
    exact h3
end

section
variable {X : Cx} {L : Addr} {φ : V → Obj → Prop}
def tGFor (wi : TI) (g : TG) (tb : TGn) : TGn := fun D ys σ H => wi σ H fun J H1 => ∃ W : Nat → Nat → List V → L2.St → Hp → Prop, (∃ m, W 0 m ys σ H1) ∧ ∀ i m ys σ H, W i m ys σ H →
  (J.stop i H ∧ D.nx ys σ H) ∨ (J.go i H ∧ ∃ N : List V → L2.St → Hp → Prop, (∀ ys' σ' H', N ys' σ' H' → ∃ m', m' < m ∧ W (i + 1) m' ys' σ' H') ∧ ∀ x H', J.yld i H x H' → g x σ H' fun σ2 H2 => tb { D with nx := N, ct := N, bk := D.nx } ys σ2 H2)
theorem gc_loop {A : Around} {c c' : Code} {fs : List Frame} {gd : Bool → Bool} {k : Result → Sem PySem.Fin} {l kp : List Value} {p : Pos} (g : GC X A c fs gd) (hw : c'.weight = 0) (hu : c'.cUnits = 0) : GC X A c' (.ret k none (gd false) l c p kp :: fs) id where
  over := (over_loop hw hu).trans g.over
  split := by
    show (splitAtGen fs).map _ = none
    rw [g.split]; rfl
  guard := by
    show (gd false || fs.any Frame.guarded) = false
    rw [g.gd, g.guard]; rfl
  gd := rfl
theorem gs_for {target iter : Expr} {body : List Stmt} {pos : Pos} {wi : TI} {gt : TG} {tb : TGn} (nx : ∀ e s, ¬ X.xe e s) (hc : X.calm = true) (hi : ∀ h0, PI (atH X h0) target iter wi) (hg : ∀ h0, PG (atH X h0) target gt) (hb : GSs X L φ body tb)
    (hs : ∀ x, foldedSetIterable iter X.env x = pure x := by intro _; rfl) : GS X L φ (.For target iter body [] pos) (tGFor wi gt tb) := by
  refine ⟨fun A ip R n ys s₀ c fs K J gd lv s σ H D o g hn nw k hI ht => ?_⟩
  refine seg_For hs ?_
  rw [g.over]
  have noE : ∀ {α : Type} {t : Sem α} {Q Q' : α → Shared → Prop} {s : Shared}, wpAny (model X.prog X.w) X.A t Q X.xe s → (∀ a s, Q a s → Q' a s) → wpAny (model X.prog X.w) X.A t Q' (fun _ _ => False) s := fun h hq => wpAny_mono h hq fun x s' hx => nx x s' hx
  refine noE ((hi (putO X.s_0.heap L o)).run _ s σ H _ hI ht) fun v s1 h1 => noE h1 fun itv s2 h2 => ?_
  obtain ⟨it, fp, tn, It, H2, e, I2, T, st2, f2, W, ⟨m0, w0⟩, turn⟩ := h2
  subst e
  intro p
  have gl := fun (kk : Result → Sem PySem.Fin) => gc_loop (k := kk) (c' := .forLoop target (.ref it) body [] X.env) (l := lv []) (kp := []) (p := p) g rfl rfl
  have stat : ∀ {o : Obj} {H' : Hp}, (∀ b ∈ fp, H' b = none) → ∀ b ∈ fp, FpOk (atH X (putO X.s_0.heap L o)) ip H' b := fun {o H'} hn b hb => by
    obtain ⟨_, a1, a2, a3, a4, a5⟩ := f2 b hb
    refine ⟨hn b hb, a1, a2, ?_, a4, a5⟩
    rcases a3 with z | z
    · exact .inl z
    · refine .inr ?_
      have z' : (putO X.s_0.heap L _).objs.size ≤ b := z
      show (putO X.s_0.heap L _).objs.size ≤ b
      rw [put_size] at z' ⊢
      exact z'
  have loop : ∀ (m n : Nat) (ys : List V) (s₀ s : Shared) (σ : L2.St) (H : Hp) (i : Nat) (o : Obj), n + ys.length = sizeLine → Now L φ ys o s₀ → W i m ys σ H → GIL X L o ip σ H s → tn i s.heap → (∀ b ∈ fp, H b = none) →
      Seg (model X.prog X.w) A R (GY X L φ) n s₀ (.forLoop target (.ref it) body [] X.env) ((model X.prog X.w).den (.forLoop target (.ref it) body [] X.env)) (lfr X.env K J gd lv c p :: fs) s := by
    intro m
    induction m using Nat.strongRecOn with
    | ind m ih =>
      intro n ys s₀ s σ H i o hn nw w hI st fr
      refine seg_forLoop ?_
      rw [(gl _).over]
      rcases turn i m ys σ H w with ⟨stop, q⟩ | ⟨go, N, hN, step⟩
      · have td := T.done (atH X (putO X.s_0.heap L o)) rfl rfl rfl hc i ip s σ H (fun _ _ => False) hI (stat fr) st stop
        refine wpAny_mono td (fun r s' hr => ?_) fun _ _ z => z
        obtain ⟨rfl, I2⟩ := hr
        exact seg_leaf (.ok .next) (k n ys s₀ s' .next o hn nw ⟨σ, H, I2, q⟩)
      · have ti := T.item (atH X (putO X.s_0.heap L o)) rfl rfl rfl hc i ip s σ H (fun _ _ => False) hI (stat fr) st go
        refine wpAny_mono ti (fun r s' hr => ?_) fun _ _ z => z
        obtain ⟨u, rfl, h4⟩ := hr
        refine wpAny_mono h4 (fun _ s5 h5 => ?_) fun _ _ z => z
        obtain ⟨x, H5, I5, r5, y5, st5, fr5⟩ := h5
        have I5' := I5.pinned (stat fr5) (T.obj _ _ st5)
        refine noE ((hg (putO X.s_0.heap L o)).run _ s5 σ H5 x u _ I5' r5 (step x H5 y5)) fun _ s6 ⟨σ6, H6, I6, q6⟩ => ?_
        have again : ∀ {o7 : Obj} {σ7 : L2.St} {H7 : Hp} {n7 : Nat} {ys7 : List V} {s₀7 s7 : Shared}, n7 + ys7.length = sizeLine → Now L φ ys7 o7 s₀7 → GIL X L o7 (ip ++ pinsAt fp s5.heap) σ7 H7 s7 → N ys7 σ7 H7 →
            Seg (model X.prog X.w) A R (GY X L φ) n7 s₀7 (.forLoop target (.ref it) body [] X.env) (.pure (.again (.forLoop target (.ref it) body [] X.env))) (lfr X.env K J gd lv c p :: fs) s7 := fun {o7 σ7 H7 n7 ys7 s₀7 s7} hn7 nw7 I7 n7' => by
          obtain ⟨m', hm, w7⟩ := hN ys7 σ7 H7 n7'
          refine seg_again rfl (ih m' hm n7 ys7 s₀7 s7 σ7 H7 (i + 1) o7 hn7 nw7 w7 (I7.unpinned) (T.keep _ _ _ st5 fun b hb o e => (I7.pin (b, o) (List.mem_append_right _ (List.mem_append_right _ (mem_pinsAt hb e)))).1) fun b hb => ?_)
          obtain ⟨o, e, d⟩ := T.obj _ _ st5 b hb
          exact (I7.pin (b, o) (List.mem_append_right _ (List.mem_append_right _ (mem_pinsAt hb e)))).2.1
        refine hb.run A (ip ++ pinsAt fp s5.heap) R n ys s₀ _ _ _ _ id id s6 σ6 H6 { D with nx := N, ct := N, bk := D.nx } o (gl _) hn nw (fun n7 ys7 s₀7 s7 f o7 hn7 nw7 hs7 => ?_) I6 q6
        cases f with
        | next => obtain ⟨σ7, H7, I7, n7'⟩ := hs7; exact again hn7 nw7 I7 n7'
        | cont => obtain ⟨σ7, H7, I7, n7'⟩ := hs7; exact again hn7 nw7 I7 n7'
        | brk =>
          obtain ⟨σ7, H7, I7, q7⟩ := hs7
          exact seg_leaf (.ok .next) (k n7 ys7 s₀7 s7 .next o7 hn7 nw7 ⟨σ7, H7, I7.unpinned, q7⟩)
        | ret v =>
          obtain ⟨x7, σ7, H7, I7, r7, q7⟩ := hs7
          exact seg_leaf (.ok (.ret v)) (k n7 ys7 s₀7 s7 (.ret v) o7 hn7 nw7 ⟨x7, σ7, H7, I7.unpinned, r7, q7⟩)
  exact loop m0 n ys s₀ s2 σ H2 0 o hn nw w0 I2 st2 fun b hb => (f2 b hb).1
end

/-! ### a generator def -/
abbrev SpG := List V → Hp → (List V → Hp → Prop) → Prop
def FEnd (P : Program) (w : World) (outer : List Env) (H : Hp) (s : Shared) (L : Addr) (φ : V → Obj → Prop) (Q : List V → Hp → Prop) (n : Nat) (s₀ s1 : Shared) : Prop :=
  ∃ ys H' o, n + ys.length = sizeLine ∧ Now L φ ys o s₀ ∧ s1.os = s.os ∧ AllBare s1.gens ∧ Un (frs outer) [] H H' (putO s.heap L o) s1.heap ∧ HOk P w H' s1.heap ∧ Q ys H'
def REndL (P : Program) (w : World) (outer : List Env) (H : Hp) (s : Shared) (L : Addr) (φ : V → Obj → Prop) (Q : List V → Hp → Prop) : GenEnd := fun n s₀ r s1 =>
  ((r = .ok (.ret .none) ∨ r = .ok .next) ∧ FEnd P w outer H s L φ Q n s₀ s1) ∨ ∃ e, r = .error e ∧ False
def YItemL (P : Program) (w : World) (outer : List Env) (H : Hp) (s : Shared) (L : Addr) (φ : V → Obj → Prop) (a : Addr) (g : Nat) : Protocol := fun n s₀ v s1 kap =>
  ∃ ys x H' o, n + 1 + ys.length = sizeLine ∧ Now L φ ys o s₀ ∧ RelV x v ∧ s1.os = s.os ∧ AllBare s1.gens ∧ s1.heap.NoLimit ∧ s1.heap.IsGen a g ∧ Un (frs outer) [] H H' (putO s.heap L o) s1.heap ∧ HOk P w H' s1.heap ∧ ∀ s', Sl L φ x s1 s' → kap (.send .none) s'
def GMadeL (P : Program) (w : World) (k : Nat) (outer : List Env) (H : Hp) (s : Shared) (Q : List V → Hp → Prop) (u : Value) (s' : Shared) : Prop :=
  ∃ (a : Addr) (g : Nat) (c : Code), u = .ref a ∧ s.heap.objs.size ≤ a ∧ a < s'.heap.objs.size ∧ s'.heap.IsGen a g ∧ s'.gens[g]? = some (.fresh c) ∧ s'.os = s.os ∧ AllBare s'.gens ∧ s'.heap.NoLimit ∧ (∀ b o, s.heap.get? b = some o → s'.heap.get? b = some o) ∧
    ∀ (A : Around) (L : Addr) (φ : V → Obj → Prop) (s2 : Shared) (o : Obj), Room k A → A.frames = some outer → L ∈ frs outer → s.heap.get? L = some o → Pl o → (∀ b o, s'.heap.get? b = some o → s2.heap.get? b = some o) → s2.os = s.os → AllBare s2.gens →
      Seg (model P w) A (REndL P w outer H s L φ Q) (YItemL P w outer H s L φ a g) sizeLine s2 c ((model P w).den c) [] s2
structure GFn (P : Program) (w : World) (K : PySem.W.Frag) (mg : Str → Option Value) (base : Heap) (k : Nat) (f : Addr) (fd : FuncData) (ps : List Str) (sp : SpG) : Prop where
  len : ∀ vs H Q, sp vs H Q → vs.length = ps.length
  run : ∀ (A : Around) (outer : List Env) (s : Shared) (H : Hp) (args : Args) (us : List Value) (vs : List V) (Q : List V → Hp → Prop), Room k A → Env0 P w K mg base A outer s H → BindsTo s fd args (ps.zip us) → Vals vs us → sp vs H Q →
    codeAny (model P w) A (.call (.ref f) args) (fun r s' => match r with | .ok (.ret u) => GMadeL P w k outer H s Q u s' | _ => False) s
theorem gfn_of {P : Program} {w : World} {K : PySem.W.Frag} {mg : Str → Option Value} {base : Heap} {k : Nat} {f : Addr} {name qual : Str} {params : Arguments} {body : List Stmt} {scope : Scope} {dV kV doc pm cdv ct oc : Value} {an od : Option Addr}
    {osl : Array (Option Value)} {N ps : List Str} {sp : SpG} (lk : K.lookup f = some ⟨oc, od, .func (PySem.W.fnOf name qual params body scope dV kV doc pm an cdv ct), osl⟩) (hcd : PySem.W.codeIn K cdv qual = true) (S : GScope N ps scope)
    (len : ∀ vs H Q, sp vs H Q → vs.length = ps.length)
    (hbody : ∀ (A : Around) (outer : List Env) (s : Shared) (H : Hp) (vs : List V) (Q : List V → Hp → Prop) (pn : List (Addr × Obj)) (L : Addr) (φ : V → Obj → Prop), Room k (A.deeper (envOfC qual scope s.heap.objs.size f cdv)) →
      GP (gcxOf P w K mg base N qual scope f cdv A outer s H E0 pn).nox L → sp vs H Q →
      ∃ t, GSs (gcxOf P w K mg base N qual scope f cdv A outer s H E0 pn).nox L φ body t ∧ t { nx := fun ys _ H' => Q ys H', rt := fun ys v H' => v = .non ∧ Q ys H' } [] (start N vs) H) :
    GFn P w K mg base (k + 1) f (PySem.W.fnOf name qual params body scope dV kV doc pm an cdv ct) ps sp := by
  refine ⟨len, fun A outer s H args us vs Q hr e0 hb r hsp => ?_⟩
  have hl := len _ _ _ hsp
  have KX : K.In s.heap := e0.mod.kin.keeps fun b o e => (e0.bs b o e).1
  have lim : s.heap.NoLimit := e0.mod.nolimit.keeps fun b o e => (e0.bs b o e).1
  have hkind : ∀ y ∈ ps.zip us, scope.names.lookup y.1 = some .local ∨ (scope.names.lookup y.1 = some .cell ∧ ((cellsFrom (s.heap.objs.size + 1) scope.names []).lookup y.1).isSome = true) := fun ⟨n, v⟩ hy => by
    rcases S.par n (List.of_mem_zip hy).1 with q | q
    · exact .inl q
    · exact .inr ⟨q, PySem.W.cellsFrom_some _ _ _ (.inl q)⟩
  refine codeAny_call_generator hr.depth (KX _ _ lk) rfl S.co S.gen rfl (PySem.W.codeRec_of KX hcd) (hb _ _ _ _ ?_)
  refine wpAny_newFunctionEnv_cells S.kind hkind fun env he s1 x => ?_
  subst he
  have lim1 : s1.heap.NoLimit := lim.keeps x.toInCall.keep
  refine ⟨lim1, ?_⟩
  obtain ⟨h1, tk, es1, hk1⟩ := x.done
  have os1 : s1.os = s.os := by rw [es1]
  have gen1 : s1.gens = s.gens := by rw [es1]
  have lt1 : s.heap.objs.size < s1.heap.objs.size := x.toInCall.ns.lt
  have sz1 : s.heap.objs.size ≤ s1.heap.objs.size := Nat.le_of_lt lt1
  have kp1 : ∀ b o, s.heap.get? b = some o → s1.heap.get? b = some o := x.toInCall.keep
  have main : ∀ (go : Obj) (nm qn : Value) (tk2 : Nat), go.cls = .type "generator" → go.data = .fields #[.int s1.gens.size 0, nm, qn] → go.slots = #[] → (∀ h : Heap, (h.push go).get? h.objs.size = some go) →
      GMadeL P w (k + 1) outer H s Q (.ref s1.heap.objs.size) { s1 with gens := s1.gens.push (.fresh (.func body (envOfC qual scope s.heap.objs.size f cdv))), toks := tk2, heap := s1.heap.push go } := by
    intro go nm qn tk2 hgc hgd0 hgs hgp
    have hgen : ∀ h : Heap, h.get? s1.heap.objs.size = some go → h.IsGen s1.heap.objs.size s1.gens.size := fun h e => ⟨go, nm, qn, e, hgc, hgd0, hgs⟩
    have hpushed : (s1.heap.push go).get? s1.heap.objs.size = some go := hgp _
    refine ⟨s1.heap.objs.size, s1.gens.size, _, rfl, sz1, ?_, hgen _ hpushed, Array.getElem?_push_size .., os1, ?_, lim1.keeps fun b o e => Heap.get?_push_of_some _ e, fun b o e => Heap.get?_push_of_some _ (kp1 b o e), ?_⟩
    · show _ < (s1.heap.push _).objs.size
      rw [Heap.size_push]
      exact Nat.lt_succ_self _
    · exact AllBare.push (by rw [gen1]; exact e0.bare) rfl
    intro Aw L φ s2 o hrw hfr hLm hLo hPl hk2 hos hba
    have e0w : Env0 P w K mg base Aw outer s H := ⟨hfr, e0.mod, e0.bs, e0.bsz, e0.funs, e0.frf, e0.hok, e0.bare⟩
    have gp : GP (gcxOf P w K mg base N qual scope f cdv Aw outer s H E0 [(s1.heap.objs.size, go)]).nox L := ⟨fun _ => rfl, hLm, ⟨o, hLo⟩⟩
    obtain ⟨t, ht, hq⟩ := hbody Aw outer s H vs Q [(s1.heap.objs.size, go)] L φ (hrw.deeper _) gp hsp
    have I1 : Inv (gcxOf P w K mg base N qual scope f cdv Aw outer s H E0 []) [] (start N vs) H s1 := inv_startG S hrw.hd e0w hl r x
    have kp2 : ∀ b o, s1.heap.get? b = some o → s2.heap.get? b = some o := fun b o e => hk2 b o (Heap.get?_push_of_some _ e)
    have I2 : Inv (gcxOf P w K mg base N qual scope f cdv Aw outer s H E0 []) [] (start N vs) H s2 :=
      I1.call' (ch := []) (hos.trans os1.symm) (Un.kept kp2) (I1.hok.kept kp2) hba fun b z => by simp at z
    have hea : s2.heap.get? s1.heap.objs.size = some go := hk2 s1.heap.objs.size go hpushed
    have hgd : ∀ v, go.data ≠ .cell v := fun v q => by rw [hgd0] at q; cases q
    have I3 : Inv (gcxOf P w K mg base N qual scope f cdv Aw outer s H E0 [(s1.heap.objs.size, go)]).nox [] (start N vs) H s2 := by
      refine (Inv.pinnedG I2 fun p hp => ?_).wish _
      rcases List.mem_append.mp hp with z | z
      · rw [List.mem_singleton.mp z]
        exact ⟨hea, I1.hok.fresh (Nat.le_refl _), Nat.ne_of_gt lt1, I1.nofs (Nat.le_refl _), hgd⟩
      · cases z
    have hLs2 : s2.heap.get? L = some o := kp2 L o (kp1 L o hLo)
    have I4 : GIL (gcxOf P w K mg base N qual scope f cdv Aw outer s H E0 [(s1.heap.objs.size, go)]).nox L o [] (start N vs) H s2 :=
      rebase (X := (gcxOf P w K mg base N qual scope f cdv Aw outer s H E0 [(s1.heap.objs.size, go)]).nox) (h0 := s.heap) gp (Heap.SameBut.refl ..) I3 rfl hba (Heap.SameBut.refl ..) hLs2 hPl
    refine seg_func ?_
    refine seg_imp (R := GR (gcxOf P w K mg base N qual scope f cdv Aw outer s H E0 [(s1.heap.objs.size, go)]).nox L φ fun ys v H' => v = .non ∧ Q ys H')
      (Y := GY (gcxOf P w K mg base N qual scope f cdv Aw outer s H E0 [(s1.heap.objs.size, go)]).nox L φ) (fun n s₀ r s1' hR => ?_) (fun n s₀ v s1' kap kap' hkk hY => ?_) sizeLine ?_
    · cases r with
      | error e => exact False.elim hR
      | ok fl =>
        cases fl with
        | next => exact False.elim hR
        | brk => exact False.elim hR
        | cont => exact False.elim hR
        | ret u =>
          obtain ⟨ys, v, ip, σ', H', o', hn, nw, J, rv, ev, hQ⟩ := hR
          subst ev
          have eu : u = Value.none := rv
          subst eu
          exact .inl ⟨.inl rfl, ys, H', o', hn, nw, J.os, J.bare, J.base, J.hok, hQ⟩
    · obtain ⟨ys, xx, ip, σ', H', o', hn, nw, rv, J, h3⟩ := hY
      have hg : s1'.heap.IsGen s1.heap.objs.size s1.gens.size := hgen _ (J.pin (s1.heap.objs.size, go) (List.mem_append_left _ (List.mem_singleton.mpr rfl))).1
      exact ⟨ys, xx, H', o', hn, nw, rv, J.os, J.bare, J.nolimit, hg, J.base, J.hok, fun s' z => hkk _ _ (h3 s' z)⟩
    · refine ht.run Aw [] _ sizeLine [] s2 _ [] _ _ id id s2 (start N vs) H _ o ⟨over_func, rfl, rfl, rfl⟩ (Nat.add_zero _) ⟨hLs2, hPl, .inl rfl⟩ (fun n ys s₀ s' fl o' hn nw hs => ?_) I4 hq
      cases fl with
      | next =>
        obtain ⟨σ', H', hI, hQ⟩ := hs
        exact seg_end (.ok (.ret .none)) ⟨ys, .non, [], σ', H', o', hn, nw, hI, rfl, rfl, hQ⟩
      | brk => obtain ⟨_, _, _, q⟩ := hs; exact False.elim q
      | cont => obtain ⟨_, _, _, q⟩ := hs; exact False.elim q
      | ret u =>
        obtain ⟨v, σ', H', hI, rv, ev, hQ⟩ := hs
        exact seg_end (.ok (.ret u)) ⟨ys, v, [], σ', H', o', hn, nw, hI, rv, ev, hQ⟩
  exact main _ _ _ _ rfl rfl rfl fun h => Heap.get?_push_size _ rfl

/-! ### the consumer: its frame is changed, nothing else -/
section
variable {X : Cx} {pins : List (Addr × Obj)} {σ σ' : L2.St} {H : Hp} {s : Shared} {h' : Heap} {m' : Str → Option Value} {tk : Nat}
theorem local_to (I : Inv X pins σ H s) (hcl : X.env.cells = []) (sb : Heap.SameBut X.env.locals s.heap h') (ns : h'.Ns X.env.locals m') (hl : σ'.length = σ.length)
    (rel : ∀ (i : Nat) (x : Str) (v : V), X.N[i]? = some x → σ'[i]? = some (some v) → Vis X.env.scope x → ∃ u, RelV v u ∧ X.env.kindOf x = some .local ∧ m' x = some u) : Inv X pins σ' H { s with heap := h', toks := tk } := by
  have neL : ∀ b o, X.s_0.heap.get? b = some o → b ≠ X.env.locals := fun b o e => Nat.ne_of_lt (Nat.lt_of_lt_of_le (Heap.lt_size e) I.ok.above)
  have nocell : ∀ x c, X.env.cells.lookup x = some c → False := fun x c q => by
    rw [hcl] at q
    cases q
  obtain ⟨m0, ⟨oL, es, ep, hoL, r0⟩, _⟩ := id I.loc
  obtain ⟨oL', es', ep', hoL', r0'⟩ := id ns
  refine ⟨I.ok, I.os, I.bare, ⟨fun b o e n hb hx => ?_, fun b o e n hb hx => ?_, I.base.free, fun b o e hx => ?_, I.base.tups, I.base.frzs, I.base.tbls⟩, ⟨m', ns, fun i x v a b c => ?_⟩, fun x c q => (nocell x c q).elim, I.free, fun x c q => (nocell x c q).elim, fun p hp => ?_, fun b u q => ?_, hl.trans I.len⟩
  · exact (sb.2 b (neL b o e)).trans (I.base.keep b o e n hb hx)
  · obtain ⟨sl, z⟩ := I.base.slot b o e n hb hx
    exact ⟨sl, (sb.2 b (neL b o e)).trans z⟩
  · obtain ⟨o', z⟩ := I.base.there b o e hx
    exact ⟨o', (sb.2 b (neL b o e)).trans z⟩
  · obtain ⟨u, r, k, e⟩ := rel i x v a b c
    exact ⟨u, r, .inl ⟨k, e⟩⟩
  · obtain ⟨a, b, c, d, f⟩ := I.pin p hp
    exact ⟨(sb.2 p.1 c).trans a, b, c, d, f⟩
  · refine (I.hok b u q).stay (fun c v hc y => (sb.2 c fun z => ?_).trans y) (fun _ y => y) fun _ _ y => y
    rcases hc with y | y
    · rw [← y, z, I.free] at q
      cases q
    · rw [z, I.free] at y
      cases y
theorem loc_rel (I : Inv X pins σ H s) (hcl : X.env.cells = []) : ∃ m, s.heap.Ns X.env.locals m ∧ ∀ (i : Nat) (x : Str) (v : V), X.N[i]? = some x → σ[i]? = some (some v) → Vis X.env.scope x → ∃ u, RelV v u ∧ X.env.kindOf x = some .local ∧ m x = some u := by
  obtain ⟨m, ns, h⟩ := I.loc
  refine ⟨m, ns, fun i x v a b c => ?_⟩
  obtain ⟨u, r, l⟩ := h i x v a b c
  rcases l with ⟨k, e⟩ | ⟨_, c', q, _⟩
  · exact ⟨u, r, k, e⟩
  · rw [hcl] at q
    cases q
/-- a name is stored: what the state is -/
theorem st_loc {M : Model} {A : Around} {E : Value → Shared → Prop} {i : Nat} {x : Str} {v : V} {u : Value} {Q : Unit → Shared → Prop} (I : Inv X pins σ H s) (hcl : X.env.cells = []) (hN : X.N.Nodup) (hi : X.N[i]? = some x) (hx : X.env.scope.names.lookup x = some .local) (r : RelV v u)
    (h : ∀ h' m, h'.Ns X.env.locals m → m x = some u → Heap.SameBut X.env.locals s.heap h' → Inv X pins (σ.set i (some v)) H { s with heap := h', toks := s.toks + 1 } → Q () { s with heap := h', toks := s.toks + 1 }) : wpAny M A (storeName X.env x u) Q E s := by
  obtain ⟨m, ns, hl⟩ := loc_rel I hcl
  have hcls : (X.env.scope.kind == .class || (X.env.scope.kind == .module && X.env.locals != X.env.globals)) = false := by rw [I.ok.kind]; rfl
  have hiσ : i < σ.length := by rw [I.len]; exact (List.getElem?_eq_some_iff.mp hi).1
  refine wpAny_storeName_local hx ns (fun h' ns' sb => h h' _ ns' (if_pos rfl) sb (local_to I hcl sb ns' (List.length_set) fun j y w a b c => ?_)) hcls
  by_cases hj : j = i
  · subst hj
    rw [hi] at a
    cases a
    rw [List.getElem?_set_self hiσ] at b
    cases b
    exact ⟨u, r, hx, if_pos rfl⟩
  · rw [List.getElem?_set_ne (Ne.symm hj)] at b
    obtain ⟨u', r', k, e⟩ := hl j y w a b c
    exact ⟨u', r', k, by
      show (if y = x then some u else m y) = some u'
      rw [if_neg fun z => hj (nodup_ix hN a (by rw [z]; exact hi))]
      exact e⟩
end
abbrev TGen := L2.St → Hp → (List V → Hp → Prop) → Prop
/-- an expression whose value is a generator that has not begun -/
structure PGen (X : Cx) (k : Nat) (e : Expr) (tg : TGen) : Prop where
  run : ∀ (pins : List (Addr × Obj)) (s : Shared) (σ : L2.St) (H : Hp) (cont : List V → Hp → Prop), Inv X pins σ H s → tg σ H cont → wpAny (model X.prog X.w) X.A (eval e X.env)
    (fun u s' => ∃ H1 sc, Inv X pins σ H1 sc ∧ GMadeL X.prog X.w k X.stack H1 sc cont u s') X.xe s
/-- what the frame's object tells of the value that was stored last -/
def phi (y : Str) (x : V) (o : Obj) : Prop := ∃ es ep u, o.data = .dict es ep ∧ nsFind es y = some u ∧ RelV x u
def endσ (σ : L2.St) (i j : Nat) (ys : List V) : L2.St := match ys.getLast? with
  | none => σ
  | some v => (σ.set i none).set j (some v)
def tForG (tg : TGen) (i j : Nat) : TS := fun D σ H => tg σ H fun ys H' => D.nx (endσ σ i j ys) H'
theorem pl_of {h : Heap} {L : Addr} {o : Obj} {es : Array DictEntry} {ep : Nat} (e : h.get? L = some o) (d : o.data = .dict es ep) : Pl o :=
  ⟨(Heap.get?_some_iff.mp e).2, fun vs z => (by rw [d] at z; cases z), fun v z => (by rw [d] at z; cases z)⟩
theorem ps_forG {X : Cx} {k : Nat} {i j : Nat} {x y : Str} {iter : Expr} {tg : TGen} {px py px2 sp pos : Pos} (hr : Room (k + 1) X.A) (hcl : X.env.cells = []) (hN : X.N.Nodup) (hi : X.N[i]? = some x) (hj : X.N[j]? = some y) (hij : i ≠ j)
    (hx : X.env.scope.names.lookup x = some .local) (hy : X.env.scope.names.lookup y = some .local) (hst : X.stack = X.env :: X.outer) (hfr : X.env.frame = some X.env.locals) (he : PGen X k iter tg)
    (hs : swapsWith (.Name x px2) (some (.Name y py)) sp.line X.env = pure false := by rfl) (hd : (x == ("__debug__" : Str)) = false := by decide) (hfs : ∀ v, foldedSetIterable iter X.env v = pure v := by intro _; rfl) :
    PS X (.For (.Name x px) iter [.Assign [.Name y py] (.Name x px2) sp] [] pos) (tForG tg i j) := by
  refine ⟨fun pins s σ H D I h => ?_⟩
  have memL : X.env.locals ∈ frs X.stack := by
    rw [hst]
    unfold frs
    rw [List.filterMap_cons, hfr]
    exact List.mem_cons_self
  refine wpAny_For (thn (he.run pins s σ H _ I h) fun u s1 h1 => ?_) hfs
  obtain ⟨H1, sc, Ic, a, g, c, rfl, ha1, ha2, hg, hgs, hos, hb, hl, hkp, wake⟩ := h1
  refine wpAny_pyIter_gen hg ?_
  obtain ⟨mc, ⟨oc, esc, epc, hoc, hdc, _⟩, _⟩ := id Ic.loc
  have plc := pl_of hoc hdc
  have exLt : X.env.locals ≠ a := Nat.ne_of_lt (Nat.lt_of_lt_of_le Ic.lt ha1)
  have nodep : X.env.locals ≠ cStatics := fun z => by
    obtain ⟨_, hn, _⟩ := Ic.ok.mod.nolimit
    have h1 : cStatics < X.base.objs.size := hn.lt
    have h2 := Nat.le_trans Ic.ok.bsz Ic.ok.above
    rw [z] at h2
    exact absurd (Nat.lt_of_lt_of_le h1 h2) (Nat.lt_irrefl _)
  -- the state between two turns
  refine codeAny_forLoop_any (fun n s => ∃ o σc gs, s.heap.get? X.env.locals = some o ∧ Pl o ∧ Inv X pins σc H1 { sc with heap := putO sc.heap X.env.locals o } ∧ ((n = sizeLine ∧ σc = σ) ∨ (n < sizeLine ∧ σc = (σ.set i none).set j none)) ∧ s.heap.IsGen a g ∧ s.heap.NoLimit ∧ s.gens[g]? = some gs ∧
      gs.Goes (model X.prog X.w) X.A.in1 (REndL X.prog X.w X.stack H1 sc X.env.locals (phi y) (fun ys H' => D.nx (endσ σ i j ys) H')) (YItemL X.prog X.w X.stack H1 sc X.env.locals (phi y) a g) n (.send .none) (s.setGen g .running)) ?_ sizeLine ?_
  · rintro n s2 ⟨o, σc, gs, ho, hp, Iv, hcase, hg2, hl2, hgs2, hgo⟩
    have hgl : g < s2.gens.size := (Array.getElem?_eq_some_iff.mp hgs2).1
    refine wpAny_gsz (n := g + 1) hgl (next_genG (F := FEnd X.prog X.w X.stack H1 sc X.env.locals (phi y) (fun ys H' => D.nx (endσ σ i j ys) H')) (Er := fun _ _ => False) (Y := YItemL X.prog X.w X.stack H1 sc X.env.locals (phi y) a g) (n := n) hr.hd hl2 hr.depth hg2 hgs2 hgo (fun v s₁ gs' hbare hv => ?_) (fun s₁ hF h' hk => ?_) fun e s₁ he => False.elim he)
    · intro hsz
      obtain ⟨ys, xv, H', o', hn, nw, rv, os1, hb1, hl1, hg1, un, hok, hkap⟩ := hv
      have eo : o' = o := by
        have q : s2.heap.get? X.env.locals = some o' := nw.here
        rw [ho] at q
        exact (Option.some.inj q).symm
      subst eo
      -- the consumer's context at the generator's state
      have hsz1 : g < (s₁.setGen g gs').gens.size := by
        have hsz' : g + 1 ≤ (s₁.setGen g gs').gens.size := hsz
        omega
      have hsz2 : g < s₁.gens.size := by
        have q : (s₁.setGen g gs').gens.size = s₁.gens.size := setGen_size _ _ _
        omega
      have Ir : Inv X pins σc H' (s₁.setGen g gs') := Iv.call' (ch := []) os1 un hok (allBare_setGen hb1 hbare) fun b z => by simp at z
      refine wpAny_pure ?_
      refine wpAny_assign_Name (st_loc (i := i) (v := xv) Ir hcl hN hi hx rv fun h1 m1 ns1 em1 sb1 I1 => ?_)
      refine wpAny_execs_cons (wpAny_Assign_Name ?_ hs)
      refine wpAny_Name (wpAny_loadName_local I1.ok.kind hx ns1 em1 ?_) hd
      refine st_loc (i := j) (v := xv) I1 hcl hN hj hy rv fun h2 m2 ns2 em2 sb2 I2 => ?_
      refine wpAny_execs_nil ?_
      -- the next turn
      obtain ⟨o2, es2, ep2, ho2, hd2, _, hf2⟩ := id ns2
      have pl2 := pl_of ho2 hd2
      have sb : Heap.SameBut X.env.locals s₁.heap h2 := Heap.SameBut.trans sb1 sb2
      have keep2 : ∀ b ob, b ≠ X.env.locals → s₁.heap.get? b = some ob → h2.get? b = some ob := fun b ob hb e => (sb.2 b hb).trans e
      have hSl : Sl X.env.locals (phi y) xv s₁ (Shared.setGen { s₁.setGen g gs' with heap := h2, toks := s₁.toks + 1 + 1 } g .running) :=
        ⟨rfl, allBare_setGen (s := { s₁.setGen g gs' with heap := h2, toks := s₁.toks + 1 + 1 }) (allBare_setGen hb1 hbare) rfl, sb, ⟨o2, ho2, pl2, es2, ep2, v, hd2, (hf2 y).trans em2, rv⟩⟩
      have go := hkap _ hSl
      cases n with
      | zero => exact False.elim go
      | succ mm =>
        obtain ⟨m3, ns3, rel3⟩ := loc_rel I2 hcl
        have e3 : m3 = m2 := ns3.eq_nsMap.trans ns2.eq_nsMap.symm
        subst e3
        have iσ : i < σc.length := by rw [Iv.len]; exact (List.getElem?_eq_some_iff.mp hi).1
        refine ⟨mm, Nat.lt_succ_self _, o2, (σ.set i none).set j none, gs', ho2, pl2, ?_, .inr ⟨by omega, rfl⟩, ?_, ?_, setGen_at hsz2, go⟩
        · obtain ⟨_, _, _, ho2', hd2', hk2, hf2'⟩ := id ns2
          rw [ho2] at ho2'
          cases ho2'
          refine local_to (σ' := (σ.set i none).set j none) (m' := m3) (tk := sc.toks) Ic hcl (Heap.SameBut.update ..) ⟨o2, es2, ep2, put_same hoc pl2, hd2, ?_, hf2⟩ (by rw [List.length_set, List.length_set]) fun l z w a1 b1 c1 => ?_
          · rw [hd2] at hd2'
            cases hd2'
            exact hk2
          · have hl1 : l ≠ j := fun q => by
              subst q
              rw [List.getElem?_set] at b1
              split at b1
              · split at b1 <;> cases b1
              · exact absurd rfl (by assumption)
            rw [List.getElem?_set_ne (Ne.symm hl1)] at b1
            have hl2 : l ≠ i := fun q => by
              subst q
              rw [List.getElem?_set] at b1
              split at b1
              · split at b1 <;> cases b1
              · exact absurd rfl (by assumption)
            rw [List.getElem?_set_ne (Ne.symm hl2)] at b1
            refine rel3 l z w a1 ?_ c1
            rw [List.getElem?_set_ne (Ne.symm hl1), List.getElem?_set_ne (Ne.symm hl2)]
            rcases hcase with ⟨_, q⟩ | ⟨_, q⟩
            · rw [q]
              exact b1
            · rw [q, List.getElem?_set_ne (Ne.symm hl1), List.getElem?_set_ne (Ne.symm hl2)]
              exact b1
        · obtain ⟨og, nm, qn, hog, r⟩ := hg1
          exact ⟨og, nm, qn, keep2 a og (Ne.symm exLt) hog, r⟩
        · obtain ⟨mc', hns, hnn⟩ := hl1
          exact ⟨mc', hns.at' fun ob e => keep2 _ ob (Ne.symm nodep) e, hnn⟩
    · intro hsz
      obtain ⟨ys, H', o', hn, nw, os1, hb1, un, hok, hq⟩ := hF
      have eo : o' = o := by
        have q : s2.heap.get? X.env.locals = some o' := nw.here
        rw [ho] at q
        exact (Option.some.inj q).symm
      subst eo
      refine wpAny_execs_nil ?_
      have Ie : Inv X pins σc H' { s₁.setGen g .finished with heap := h' } := Iv.call' (ch := []) os1 (un.trans (Un.kept hk)) (hok.kept hk) (allBare_setGen hb1 rfl) fun b z => by simp at z
      rcases hcase with ⟨e1, e2⟩ | ⟨e1, e2⟩
      · have e0 : ys = [] := List.eq_nil_of_length_eq_zero (by omega)
        subst e0
        rw [e2] at Ie
        exact ⟨_, H', Ie, hq⟩
      · have ne : ys ≠ [] := fun z => by
          rw [z] at hn
          simp at hn
          omega
        rcases nw.lk with z | ⟨x0, hx0, es, ep, u0, hd0, hf0, r0⟩
        · exact absurd z ne
        · obtain ⟨sl, hL1⟩ := un.slot X.env.locals o' (put_same hoc hp) Ic.free memL (by simp)
          have hL2 := hk _ _ hL1
          obtain ⟨m4, ns4, rel4⟩ := loc_rel Ie hcl
          obtain ⟨o4, es4, ep4, ho4, hd4, _, hf4⟩ := id ns4
          have ho4' : h'.get? X.env.locals = some o4 := ho4
          rw [hL2] at ho4'
          cases ho4'
          have hd4' : o'.data = .dict es4 ep4 := hd4
          rw [hd0] at hd4'
          cases hd4'
          have e5 : endσ σ i j ys = ((σ.set i none).set j (some x0)) := by
            unfold endσ
            rw [hx0]
          rw [e5] at hq
          have hlen : ((σ.set i none).set j (some x0)).length = σc.length := by rw [e2, List.length_set, List.length_set, List.length_set, List.length_set]
          refine ⟨_, H', local_to (s := { s₁.setGen g .finished with heap := h' }) (h' := h') (σ' := (σ.set i none).set j (some x0)) (m' := m4) (tk := (s₁.setGen g .finished).toks) Ie hcl (Heap.SameBut.refl ..) ns4 hlen fun l z w a1 b1 c1 => ?_, hq⟩
          by_cases hl1 : l = j
          · subst hl1
            rw [hj] at a1
            cases a1
            rw [List.getElem?_set] at b1
            rw [if_pos rfl] at b1
            split at b1
            · cases b1
              exact ⟨u0, r0, hy, (hf4 y).symm.trans hf0⟩
            · cases b1
          · refine rel4 l z w a1 ?_ c1
            rw [e2, List.getElem?_set_ne (Ne.symm hl1)]
            rw [List.getElem?_set_ne (Ne.symm hl1)] at b1
            exact b1
  · obtain ⟨m5, ns5, rel5⟩ := loc_rel Ic hcl
    obtain ⟨o5, es5, ep5, ho5, hd5, hk5, hf5⟩ := id ns5
    rw [hoc] at ho5
    cases ho5
    exact ⟨oc, σ, .fresh c, hkp _ _ hoc, plc, local_to (σ' := σ) (m' := m5) (tk := sc.toks) Ic hcl (Heap.SameBut.update ..) ⟨oc, es5, ep5, put_same hoc plc, hd5, hk5, hf5⟩ rfl rel5, .inl ⟨rfl, rfl⟩, hg, hl, hgs, rfl,
      wake X.A.in1 X.env.locals (phi y) (s1.setGen g .running) oc hr.in1 Ic.ok.frames memL hoc plc (fun _ _ e => e) hos (allBare_setGen hb rfl)⟩
end Bg

set_option maxHeartbeats 4000000
/-! The text by places, the scopes, how a def is called. -/
namespace Bw
open PySem PySem.Spec PyProof.Rows L2
def top (i : Nat) : Stmt := PySem.Challenge.pw_bearsmisses_k27_whole_turned_about.main.body.getD i (.Pass ⟨0, 0, 0, 0⟩)
abbrev FnP (K : PySem.W.Frag) (x qual : Str) (st : Stmt) (f : Addr) (fd : FuncData) : Prop := FunD K x qual (defArgs st) (defBody st) (defScope st) [] [] f fd
section
variable {P : Program} {w : World} {K : PySem.W.Frag} {mg : Str → Option Value} {base : Heap}
theorem ok0 {x qual : Str} {st : Stmt} {f : Addr} {fd : FuncData} {N ps : List Str} {k : Nat} {sp : Sp} (F : FnP K x qual st f fd) (S : FnScope N ps (defScope st)) (len : ∀ vs H Q E, sp vs H Q E → vs.length = ps.length)
    (hbody : ∀ (cdv : Value) (A : Around) (outer : List Env) (s : Shared) (H : Hp) (vs : List V) (Q : VK) (E : XK), Room k (A.deeper (envOfC qual (defScope st) s.heap.objs.size f cdv)) → sp vs H Q E →
      ∃ t, PSs (cxOf CX0 P w K mg base N qual (defScope st) f cdv A outer s H E).nox (defBody st) t ∧ t { nx := fun _ H' => Q .non H', rt := Q } (start N vs) H) : FnOk P w K mg base CX0 (k + 1) f fd ps sp := by
  refine FunD.ok F S len fun cdv A outer s H vs Q E hr hsp => ?_
  obtain ⟨t, ht, hq⟩ := hbody cdv A outer s H vs Q E hr hsp
  exact ⟨t, PSs.nox ht, hq⟩
/-- a def that stands under a global name and keeps a promise -/
structure Cal (P : Program) (w : World) (K : PySem.W.Frag) (mg : Str → Option Value) (base : Heap) (k : Nat) (x : Str) (ps : List Str) (sp : Sp) : Prop where
  ex : ∃ f fd, mg x = some (.ref f) ∧ PySem.W.keepIn K (.ref f) = true ∧ Binds K fd ps [] ∧ FnOk P w K mg base CX0 k f fd ps sp
/-- a method of the class at C -/
structure Met (P : Program) (w : World) (K : PySem.W.Frag) (mg : Str → Option Value) (base : Heap) (k : Nat) (C : Addr) (m : Str) (ps : List Str) (sp : Sp) : Prop where
  ex : ∃ f fd, L2.Meth K C m f ∧ Binds K fd ps [] ∧ FnOk P w K mg base CX0 k f fd ps sp
/-- the built-in names that the text asks for are no names of its own -/
structure Nb (mg : Str → Option Value) : Prop where
  isinstance : mg "isinstance" = none
  int : mg "int" = none
  bool : mg "bool" = none
  list : mg "list" = none
  tuple : mg "tuple" = none
  len : mg "len" = none
  all : mg "all" = none
  sorted : mg "sorted" = none
  range : mg "range" = none
  zip : mg "zip" = none
  abs : mg "abs" = none
  min : mg "min" = none
  enumerate : mg "enumerate" = none
/-- the module's numbers, the class -/
structure Nm (K : PySem.W.Frag) (mg : Str → Option Value) (C : Addr) : Prop where
  mp : ∃ t, mg "MAX_PLACES" = some (.int 12 t)
  mc : ∃ t, mg "MAX_COMPARISONS" = some (.int 400 t)
  mx : ∃ t, mg "MAX_PRICE" = some (.int 1000000000000000000 t)
  cl : Cls K C
  mgC : mg "Schedule" = some (.ref C)
  n1 : NoAttr K C "place_count"
  n2 : NoAttr K C "rows"
end
section
variable {X : Cx} {k : Nat} {x m : Str} {ps : List Str} {sp : Sp} {e o : Expr} {es : List Expr} {t : TA} {to : TE} {p pos apos : Pos} {C : Addr}
theorem pe_cal (c : Cal X.prog X.w X.K X.mg X.base k x ps sp) (hr : Room k X.A) (hg : Gl X x) (ha : PA X (e :: es) t) (hdb : (x == ("__debug__" : Str)) = false := by decide)
    (he : starEach (e :: es) X.env = (false, eval e X.env) :: starEach es X.env := by rfl) (hpl : (backTo pos (starEach es X.env)).any (·.1) = false := by rfl) : PE X (.Call (.Name x p) (e :: es) [] pos) (tCall sp [] E0 t) := by
  obtain ⟨f, fd, hm, hk, hb, F⟩ := c.ex
  exact pe_call F hr hg hm hk hb .nil pass0 ha hdb he hpl
end
/-! ### the statements, their names -/
abbrev sIsInteger : Stmt := top 10
abbrev sIsBetween : Stmt := top 11
abbrev sIsPrice : Stmt := top 12
abbrev sIsOrder : Stmt := top 13
abbrev sIsComparison : Stmt := top 14
abbrev sAreMisses : Stmt := top 15
abbrev sInit : Stmt := inClass (top 17) 0
abbrev sPlaces : Stmt := inClass (top 17) 2
abbrev sGates : Stmt := inClass (top 17) 4
abbrev sWithRows : Stmt := inClass (top 17) 6
abbrev sBackwards : Stmt := inClass (top 17) 13
abbrev sMirrored : Stmt := inClass (top 17) 14
abbrev sLen : Stmt := inClass (top 17) 16
abbrev sInverse : Stmt := top 19
abbrev sNeedPlay : Stmt := top 21
abbrev sIsExchanged : Stmt := top 22
abbrev sExchange : Stmt := top 23
abbrev sOrdersAfter : Stmt := top 24
abbrev sPlay : Stmt := top 25
abbrev sBag : Stmt := top 27
abbrev sTake : Stmt := top 28
abbrev sLPlaces : Stmt := top 29
abbrev sLGates : Stmt := top 30
abbrev sLPrice : Stmt := top 31
abbrev sLComparisons : Stmt := top 32
abbrev sLOrder : Stmt := top 33
abbrev sLMisses : Stmt := top 34
abbrev sLPlay : Stmt := top 35
abbrev sLMirrored : Stmt := top 36
abbrev sLNear : Stmt := top 37
abbrev sLaw : Stmt := top 38
theorem scIsInteger : FnScope ["thing"] ["thing"] (defScope sIsInteger) := ⟨rfl, rfl, rfl, by decide +kernel, rfl, by decide +kernel, by decide +kernel⟩
theorem scIsBetween : FnScope ["thing", "low", "high"] ["thing", "low", "high"] (defScope sIsBetween) := ⟨rfl, rfl, rfl, by decide +kernel, rfl, by decide +kernel, by decide +kernel⟩
theorem scIsPrice : FnScope ["thing"] ["thing"] (defScope sIsPrice) := ⟨rfl, rfl, rfl, by decide +kernel, rfl, by decide +kernel, by decide +kernel⟩
theorem scIsOrder : FnScope ["thing", "places", "rank"] ["thing", "places"] (defScope sIsOrder) := ⟨rfl, rfl, rfl, by decide +kernel, rfl, by decide +kernel, by decide +kernel⟩
theorem scIsComparison : FnScope ["thing", "places"] ["thing", "places"] (defScope sIsComparison) := ⟨rfl, rfl, rfl, by decide +kernel, rfl, by decide +kernel, by decide +kernel⟩
theorem scAreMisses : FnScope ["thing", "many", "at", "one", "other"] ["thing", "many"] (defScope sAreMisses) := ⟨rfl, rfl, rfl, by decide +kernel, rfl, by decide +kernel, by decide +kernel⟩
theorem scInit : FnScope ["self", "places", "comparisons", "at", "comparison"] ["self", "places", "comparisons"] (defScope sInit) := ⟨rfl, rfl, rfl, by decide +kernel, rfl, by decide +kernel, by decide +kernel⟩
theorem scPlaces : FnScope ["self"] ["self"] (defScope sPlaces) := ⟨rfl, rfl, rfl, by decide +kernel, rfl, by decide +kernel, by decide +kernel⟩
theorem scGates : FnScope ["self", "gate", "price"] ["self"] (defScope sGates) := ⟨rfl, rfl, rfl, by decide +kernel, rfl, by decide +kernel, by decide +kernel⟩
theorem scWithRows : FnScope ["self", "rows"] ["self", "rows"] (defScope sWithRows) := ⟨rfl, rfl, rfl, by decide +kernel, rfl, by decide +kernel, by decide +kernel⟩
theorem scBackwards : FnScope ["self"] ["self"] (defScope sBackwards) := ⟨rfl, rfl, rfl, by decide +kernel, rfl, by decide +kernel, by decide +kernel⟩
theorem scMirrored : FnScope ["self", "gate", "price"] ["self"] (defScope sMirrored) := ⟨rfl, rfl, rfl, by decide +kernel, rfl, by decide +kernel, by decide +kernel⟩
theorem scLen : FnScope ["self"] ["self"] (defScope sLen) := ⟨rfl, rfl, rfl, by decide +kernel, rfl, by decide +kernel, by decide +kernel⟩
theorem scInverse : FnScope ["order", "found", "place", "rank"] ["order"] (defScope sInverse) := ⟨rfl, rfl, rfl, by decide +kernel, rfl, by decide +kernel, by decide +kernel⟩
theorem scNeedPlay : FnScope ["schedule", "order", "missed"] ["schedule", "order", "missed"] (defScope sNeedPlay) := ⟨rfl, rfl, rfl, by decide +kernel, rfl, by decide +kernel, by decide +kernel⟩
theorem scIsExchanged : FnScope ["order", "gate"] ["order", "gate"] (defScope sIsExchanged) := ⟨rfl, rfl, rfl, by decide +kernel, rfl, by decide +kernel, by decide +kernel⟩
theorem scExchange : FnScope ["order", "gate"] ["order", "gate"] (defScope sExchange) := ⟨rfl, rfl, rfl, by decide +kernel, rfl, by decide +kernel, by decide +kernel⟩
theorem scOrdersAfter : GScope ["schedule", "order", "missed", "now", "at", "left", "gate"] ["schedule", "order", "missed"] (defScope sOrdersAfter) := ⟨rfl, rfl, rfl, by decide +kernel, rfl, by decide +kernel, by decide +kernel⟩
theorem scPlay : FnScope ["schedule", "order", "missed", "found", "later"] ["schedule", "order", "missed"] (defScope sPlay) := ⟨rfl, rfl, rfl, by decide +kernel, rfl, by decide +kernel, by decide +kernel⟩
theorem scBag : FnScope ["_law_script", "_law_cell"] ["_law_script"] (defScope sBag) := ⟨rfl, rfl, rfl, by decide +kernel, rfl, by decide +kernel, by decide +kernel⟩
theorem scTake : FnScope ["_law_bag_here", "_law_many", "_law_cell", "_law_value", "_law_first", "_law_second"] ["_law_bag_here", "_law_many"] (defScope sTake) := ⟨rfl, rfl, rfl, by decide +kernel, rfl, by decide +kernel, by decide +kernel⟩
theorem scLPlaces : FnScope ["_law_bag_here", "_law_least", "_law_most"] ["_law_bag_here", "_law_least", "_law_most"] (defScope sLPlaces) := ⟨rfl, rfl, rfl, by decide +kernel, rfl, by decide +kernel, by decide +kernel⟩
theorem scLGates : FnScope ["_law_bag_here", "_law_places_here", "_law_most", "_law_way", "_law_at", "_law_found", "_law_k", "_law_gate"] ["_law_bag_here", "_law_places_here", "_law_most"] (defScope sLGates) := ⟨rfl, rfl, rfl, by decide +kernel, rfl, by decide +kernel, by decide +kernel⟩
theorem scLPrice : FnScope ["_law_bag_here"] ["_law_bag_here"] (defScope sLPrice) := ⟨rfl, rfl, rfl, by decide +kernel, rfl, by decide +kernel, by decide +kernel⟩
theorem scLComparisons : FnScope ["_law_bag_here", "_law_places_here", "_law_most", "_law_dear", "_law_gate"] ["_law_bag_here", "_law_places_here", "_law_most"] (defScope sLComparisons) := ⟨rfl, rfl, rfl, by decide +kernel, rfl, by decide +kernel, by decide +kernel⟩
theorem scLOrder : FnScope ["_law_bag_here", "_law_places_here", "_law_left", "_law_found", "_law_way", "_law_k", "_law_one", "_law_other"] ["_law_bag_here", "_law_places_here"] (defScope sLOrder) := ⟨rfl, rfl, rfl, by decide +kernel, rfl, by decide +kernel, by decide +kernel⟩
theorem scLMisses : FnScope ["_law_bag_here", "_law_many", "_law_most", "_law_found", "_law_left", "_law_k"] ["_law_bag_here", "_law_many", "_law_most"] (defScope sLMisses) := ⟨rfl, rfl, rfl, by decide +kernel, rfl, by decide +kernel, by decide +kernel⟩
theorem scLPlay : FnScope ["_law_gates_here", "_law_order_here", "_law_gone", "_law_now", "_law_at", "_law_gate"] ["_law_gates_here", "_law_order_here", "_law_gone"] (defScope sLPlay) := ⟨rfl, rfl, rfl, by decide +kernel, rfl, by decide +kernel, by decide +kernel⟩
theorem scLMirrored : FnScope ["_law_order_here", "_law_rank"] ["_law_order_here"] (defScope sLMirrored) := ⟨rfl, rfl, rfl, by decide +kernel, rfl, by decide +kernel, by decide +kernel⟩
theorem scLNear : FnScope ["_law_bag_here", "_law_rows", "_law_places_here", "_law_order_here", "_law_gate", "_law_cost"] ["_law_bag_here", "_law_rows", "_law_places_here"] (defScope sLNear) := ⟨rfl, rfl, rfl, by decide +kernel, rfl, by decide +kernel, by decide +kernel⟩
theorem scLaw : FnScope ["_law_script", "_law_bag_here", "_law_step", "_law_places_here", "_law_rows", "_law_schedule", "_law_turn", "_law_order_here", "_law_gone", "_law_final", "_law_back", "_law_other", "_law_at", "_law_row"] ["_law_script"] (defScope sLaw) := ⟨rfl, rfl, rfl, by decide +kernel, rfl, by decide +kernel, by decide +kernel⟩
end Bw

set_option maxHeartbeats 0
/-! The head: the facts by names, the run of the top. -/
namespace Bw
open PySem PySem.Spec PyProof.Rows L2
/-! ### a Hook with one more Bool and one more def (the property's getter) -/
abbrev AlB : Type := He.AlD × (Bool × He.FnW)
def obsB (n : Nat) (fa : List He.Fa) (fn : List He.DefD) (ex : PySem.W.Frag → Bool) (gt : PySem.W.Frag → He.FnW) (g : Addr → Option Obj) : AlB := (He.obsD fa fn (He.frG g (He.asD g n)), ex (He.frG g (He.asD g n)), gt (He.frG g (He.asD g n)))
def hookB (n : Nat) (fa : List He.Fa) (fn : List He.DefD) (ex : PySem.W.Frag → Bool) (gt : PySem.W.Frag → He.FnW) (gv : He.FnW) : PySem.W.Hook where
  α := AlB
  obs := fun s => obsB n fa fn ex gt s.heap.get?
  val := fun _ => (He.valD fn, true, gv)
  says := fun _ h => ∃ K : PySem.W.Frag, K.In h ∧ He.SaysD fa fn K ∧ ex K = true ∧ gt K = gv
  of := fun _ _ e => ⟨_, He.frG_in, congrArg (fun z : AlB => z.1) e, congrArg (fun z : AlB => z.2.1) e, congrArg (fun z : AlB => z.2.2) e⟩
  keeps := fun _ _ _ ⟨K, hK, c⟩ k => ⟨K, PySem.W.Frag.In.keeps hK k, c⟩
/-! ### the facts -/
def dG (x : Str) (st : Stmt) : He.DefD := ⟨(x, none), x, x, defArgs st, defBody st, defScope st, [], []⟩
def dM (x q : Str) (st : Stmt) : He.DefD := ⟨("Schedule", some x), x, q, defArgs st, defBody st, defScope st, [], []⟩
def fn : List He.DefD := [dG "is_integer" sIsInteger, dG "is_between" sIsBetween, dG "is_price" sIsPrice, dG "is_order" sIsOrder, dG "is_comparison" sIsComparison, dG "are_misses" sAreMisses,
  dM "__init__" "Schedule.__init__" sInit, dM "gates" "Schedule.gates" sGates, dM "with_rows" "Schedule.with_rows" sWithRows, dM "backwards" "Schedule.backwards" sBackwards, dM "mirrored" "Schedule.mirrored" sMirrored, dM "__len__" "Schedule.__len__" sLen,
  dG "inverse" sInverse, dG "need_play" sNeedPlay, dG "is_exchanged" sIsExchanged, dG "exchange" sExchange, dG "orders_after" sOrdersAfter, dG "play" sPlay,
  dG "_law_bag" sBag, dG "_law_take" sTake, dG "_law_places" sLPlaces, dG "_law_gates" sLGates, dG "_law_price" sLPrice, dG "_law_comparisons" sLComparisons, dG "_law_order" sLOrder, dG "_law_misses" sLMisses, dG "_law_play" sLPlay, dG "_law_mirrored" sLMirrored, dG "_law_near" sLNear, dG "law" sLaw]
def fa : List He.Fa := [.glo "is_integer", .glo "is_between", .glo "is_price", .glo "is_order", .glo "is_comparison", .glo "are_misses", .glo "inverse", .glo "need_play", .glo "is_exchanged", .glo "exchange", .glo "orders_after", .glo "play",
  .glo "_law_bag", .glo "_law_take", .glo "_law_places", .glo "_law_gates", .glo "_law_price", .glo "_law_comparisons", .glo "_law_order", .glo "_law_misses", .glo "_law_play", .glo "_law_mirrored", .glo "_law_near", .glo "law", .glo "Schedule",
  .free "isinstance", .free "int", .free "bool", .free "list", .free "tuple", .free "len", .free "all", .free "sorted", .free "range", .free "zip", .free "abs", .free "min", .free "enumerate",
  .int "MAX_PLACES" 12, .int "MAX_COMPARISONS" 400, .int "MAX_PRICE" 1000000000000000000,
  .cls "Schedule", .noat "Schedule" "place_count", .noat "Schedule" "rows", .meth "Schedule" "gates", .meth "Schedule" "with_rows", .meth "Schedule" "backwards", .meth "Schedule" "mirrored", .meth "Schedule" "__len__", .mkr "Schedule"]
/-- what isinstance asks of the class, the property -/
def pgA (K : PySem.W.Frag) : Addr × Addr := match PySem.W.findIn K (.ref (He.ga K "Schedule")) "places" with
  | some (some (.ref p)) => (p, match PySem.W.recIn K p "property" with
    | some (.ref g :: _) => g
    | _ => 0)
  | _ => (0, 0)
def exB (K : PySem.W.Frag) : Bool :=
  decide (PySem.W.findIn K (.ref (He.ga K "Schedule")) "__class__" = some (some (.builtin "object.__class__"))) &&
  (decide (PySem.W.specialIn K (.builtin "object.__class__") "__get__" = some (some (.builtin "getset_descriptor.__get__"))) &&
  (decide (PySem.W.takesIn K (.builtin "object.__class__") = some true) &&
  (decide (PySem.W.mroIn K (He.ga K "Schedule") (.type "object") = some true) &&
  (decide (PySem.W.kitOne K (.ref (He.ga K "Schedule")) (.ref (He.ga K "Schedule")) = some true) &&
  (decide (PySem.W.findIn K (.ref (He.ga K "Schedule")) "places" = some (some (.ref (pgA K).1))) &&
  (decide (PySem.W.specialIn K (.ref (pgA K).1) "__get__" = some (some (.builtin "property.__get__"))) &&
  (decide (PySem.W.takesIn K (.ref (pgA K).1) = some true) &&
  ((match PySem.W.recIn K (pgA K).1 "property" with
    | some (.ref g :: _) => decide (g = (pgA K).2)
    | _ => false) &&
  (PySem.W.keepIn K (.ref (pgA K).2) && (match K.lookup (pgA K).2 with
  | some ⟨_, _, .func fd, _⟩ => PySem.W.codeIn K fd.code "Schedule.places" && (He.dflB K fd.defaults [] && He.kwdB K fd.kwdefaults [])
  | _ => false))))))))))
def getterW (K : PySem.W.Frag) : He.FnW := match K.lookup (pgA K).2 with
  | some ⟨_, _, .func fd, _⟩ => some (fd.name, fd.qualname, fd.params, fd.body, fd.scope, fd.globals, fd.closure, fd.builtins)
  | _ => none
abbrev R : PySem.W.OpenRow := PySem.W.OpenLaw.row PySem.Challenge.rw_bearsmisses_k27_whole_turned_about
def getterV : He.FnW := some ("places", "Schedule.places", defArgs sPlaces, .stmts (defBody sPlaces), defScope sPlaces, mainGlobals, [], builtinsNs)
abbrev hk : PySem.W.Hook := hookB 6 fa fn exB getterW getterV
def ob (s : PySem.W.SharedT) : AlB := obsB 6 fa fn exB getterW (HandSHeadRun.getT s)
theorem ob_eq (s : PySem.W.SharedT) : ob s = hk.obs s.abs := by
  have e : HandSHeadRun.getT s = s.abs.heap.get? := funext (HandSHeadRun.getT_eq s)
  show obsB 6 fa fn exB getterW (HandSHeadRun.getT s) = obsB 6 fa fn exB getterW s.abs.heap.get?
  rw [e]
def loose : List Str := ["_wall", "LineError", "Wrong", "BadComparison", "TooMany", "MAX_PLACES", "MAX_COMPARISONS", "MAX_PRICE", "is_integer", "is_between", "is_price", "is_order", "is_comparison", "are_misses", "Schedule", "inverse", "need_play", "is_exchanged", "exchange", "orders_after", "play",
  "_law_bag", "_law_take", "_law_places", "_law_gates", "_law_price", "_law_comparisons", "_law_order", "_law_misses", "_law_play", "_law_mirrored", "_law_near"]
theorem run (w : World) : HandSHeadRun.RunEq R (PySem.W.view R.prog [38]) hk ob 8000 loose w := by
  intro os
  kernel_rfl
end Bw

set_option maxHeartbeats 4000000
/-! Rules that the layer has not: == of int lists, list[i] op= e, list[a:b] = other, len by an own __len__, a comprehension over zip. -/
namespace Bw
open PySem PySem.Spec PyProof.Rows L2
/-! ### == of two lists of ints -/
section
variable {K : PySem.W.Frag} {H : Hp}
theorem dpAll_ints : ∀ xs : List Int, DpAll K H (xs.map V.int) (xs.map PyData.int)
  | [] => .nil
  | x :: xs => .cons (.int x) (dpAll_ints xs)
theorem lay_ints : ∀ xs : List Int, PyData.canLayAll0 (xs.map PyData.int) = true
  | [] => by rw [List.map_nil, PyData.canLayAll0]
  | x :: xs => by rw [List.map_cons, PyData.canLayAll0, lay_ints xs, PyData.canLay0] <;> rfl
theorem depth_ints : ∀ xs : List Int, PyData.depthAll (xs.map PyData.int) = 0
  | [] => by rw [List.map_nil, PyData.depthAll]
  | x :: xs => by rw [List.map_cons, PyData.depthAll, depth_ints xs, PyData.depth] <;> rfl
theorem shaped_ints (xs : List Int) : SeqAt.shaped (.list (xs.map PyData.int)) = true := by
  unfold SeqAt.shaped
  rw [PyData.canLay0, lay_ints, PyData.depth, depth_ints]
  rfl
theorem shaped_nil : SeqAt.shaped (.tuple []) = true := by
  unfold SeqAt.shaped
  rw [PyData.canLay0, PyData.canLayAll0, PyData.depth, PyData.depthAll]
  rfl
theorem eqv_ints : ∀ xs ys : List Int, PyData.eqvAll (xs.map PyData.int) (ys.map PyData.int) = decide (xs = ys)
  | [], [] => by rw [List.map_nil, PyData.eqvAll] <;> simp
  | [], y :: ys => by rw [List.map_nil, List.map_cons, PyData.eqvAll] <;> simp
  | x :: xs, [] => by rw [List.map_nil, List.map_cons, PyData.eqvAll] <;> simp
  | x :: xs, y :: ys => by
    rw [List.map_cons, List.map_cons, PyData.eqvAll, eqv_ints xs ys, PyData.eqv]
    by_cases h : x = y
    · subst h
      simp
    · simp [h]
end
def rEqIL (K : PySem.W.Frag) : R2 := fun x y H Q => ∃ (a b : Addr) (xs ys : List Int), x = .ref a ∧ y = .ref b ∧ SqL K H a (xs.map V.int) ∧ SqL K H b (ys.map V.int) ∧ Q (.bl (decide (xs = ys))) H
def rNeIL (K : PySem.W.Frag) : R2 := fun x y H Q => ∃ (a b : Addr) (xs ys : List Int), x = .ref a ∧ y = .ref b ∧ SqL K H a (xs.map V.int) ∧ SqL K H b (ys.map V.int) ∧ Q (.bl (!decide (xs = ys))) H
def rNeLT (K : PySem.W.Frag) : R2 := fun x y H Q => ∃ (a b : Addr) (xs : List Int), x = .ref a ∧ y = .ref b ∧ SqL K H a (xs.map V.int) ∧ SqT K H b [] ∧ Q (.bl true) H
section
variable {X : Cx}
theorem op_eqIL (hu : X.A.units + 64 < cLine) : OpR X (compareOp .Eq) (rEqIL X.K) := by
  intro pins s σ H x y v u Q I rx ry h
  obtain ⟨a, b, xs, ys, rfl, rfl, ha, hb, q⟩ := h
  refine op_eqD hu pins s σ H _ _ v u Q I rx ry ⟨_, _, .lst ha (dpAll_ints xs), .lst hb (dpAll_ints ys), shaped_ints xs, shaped_ints ys, ?_⟩
  rw [PyData.eqv, eqv_ints]
  exact q
theorem op_neIL (hu : X.A.units + 64 < cLine) : OpR X (compareOp .NotEq) (rNeIL X.K) := by
  intro pins s σ H x y v u Q I rx ry h
  obtain ⟨a, b, xs, ys, rfl, rfl, ha, hb, q⟩ := h
  refine op_neD hu pins s σ H _ _ v u Q I rx ry ⟨_, _, .lst ha (dpAll_ints xs), .lst hb (dpAll_ints ys), shaped_ints xs, shaped_ints ys, ?_⟩
  rw [PyData.eqv, eqv_ints]
  exact q
theorem op_neLT (hu : X.A.units + 64 < cLine) : OpR X (compareOp .NotEq) (rNeLT X.K) := by
  intro pins s σ H x y v u Q I rx ry h
  obtain ⟨a, b, xs, rfl, rfl, ha, hb, q⟩ := h
  refine op_neD hu pins s σ H _ _ v u Q I rx ry ⟨_, _, .lst ha (dpAll_ints xs), .tup hb .nil, shaped_ints xs, shaped_nil, ?_⟩
  rw [PyData.eqv]
  exact q
/-! ### xs[i] op= e -/
def rGetL (K : PySem.W.Frag) : V → V → Hp → VK → Prop := fun o i H Q => ∃ p xs j x, o = .ref p ∧ i = .int ((j : Nat) : Int) ∧ SqL K H p xs ∧ xs[j]? = some x ∧ Q x H
theorem get_list : PGet X (rGetL X.K) := by
  intro pins s σ H o i ov iv Q I ro ri h
  obtain ⟨p, xs, j, x, rfl, rfl, hq, hx, q⟩ := h
  cases ro
  obtain ⟨t, rfl⟩ := ri
  obtain ⟨its, r, pl, hz⟩ := I.list hq
  obtain ⟨w, ew, rw'⟩ := r.get hx
  have hj := (List.getElem?_eq_some_iff.mp hx).1
  have hs : sizeLine = 16777216 := sizeLine_eq
  exact wpAny_getItem_list pl.isList (by omega) (by omega) (by rw [Int.toNat_natCast]; simpa using ew) ⟨x, H, I, rw', q⟩
/-! ### xs[a:b] = ys -/
def gSlc (to : TE) (tl th : TO) : TG := fun v σ H Q => to σ H fun o H1 => tl σ H1 fun l H2 => th σ H2 fun u H3 => ∃ (p q : Addr) (xs ys : List V) (a c : Int), o = .ref p ∧ v = .ref q ∧ l = some a ∧ u = some c ∧ H3 p = some (.lst xs) ∧ H3 q = some (.lst ys) ∧ p ≠ q ∧ 0 ≤ a ∧ a ≤ c ∧ c ≤ xs.length ∧ xs.length + ys.length ≤ sizeLine ∧
  Q σ (upd H3 p (.lst (xs.take a.toNat ++ ys ++ xs.drop c.toNat)))
theorem part_int {vl : Value} {a : Int} (h : IsPart vl (some a)) : RelV (.int a) vl := by
  cases h
  exact ⟨_, rfl⟩
theorem pg_slice {o : Expr} {lo hi : Option Expr} {to : TE} {tl th : TO} {p2 pos : Pos} (ho : PE X o to) (hl : PO X lo tl) (hh : PO X hi th)
    (ha : ∀ v, assign (.Subscript o (.Slice lo hi none p2) pos) X.env v = (do
      let ov ← holding [v] (eval o X.env)
      let iv ← holding [v, ov] (eval (.Slice lo hi none p2) X.env)
      standAt pos
      holding [v, ov, iv] (setItem ov iv v)
      release [iv, v, ov] []) := by intro _; rfl) : PG X (.Subscript o (.Slice lo hi none p2) pos) (gSlc to tl th) := by
  refine ⟨fun pins s σ H v u Q I r h => ?_⟩
  rw [ha]
  refine wpAny_bind (wpAny_holding (thn (ho.run pins s σ H _ I h) fun ov s1 ⟨x, H1, I1, r1, q1⟩ => ?_))
  refine wpAny_bind (wpAny_holding (wpAny_Slice (thn (hl.run pins s1 σ H1 _ I1 q1) fun vl s2 ⟨l, H2, I2, pl, q2⟩ => thn (hh.run pins s2 σ H2 _ I2 q2) fun vu s3 ⟨u', H3, I3, pu, q3⟩ => ?_)))
  rw [evalPart_none]
  refine wpAny_pure ?_
  obtain ⟨p, q, xs, ys, a, c, rfl, rfl, rfl, rfl, hp, hq, hne, h0, hac, hc, hz, hQ⟩ := q3
  cases r1
  cases r
  have I4 : Inv X pins σ H3 { s3 with heap := s3.heap.push { cls := .type "slice", data := .fields #[vl, vu, .none] } } := I3.kept (t' := s3.toks) fun b ob q => Heap.get?_push_of_some _ q
  refine wpAny_bind (wpAny_standAt (wpAny_bind (wpAny_holding (set_slice (s := { s3 with heap := s3.heap.push { cls := .type "slice", data := .fields #[vl, vu, .none] } }) I4 hp hq hne (Heap.IsSliceOf.new ..) (part_int pl) (part_int pu) h0 hac hc hz fun s5 I5 => ?_))))
  exact wpAny_release ⟨σ, _, I5, hQ⟩
/-! ### len of an instance by its own __len__ -/
def rLenO (C : Addr) (sp : Sp) : List V → Hp → VK → Prop := fun vs H Q => ∃ a dx fs, vs = [V.ref a] ∧ H a = some (.ins C dx fs) ∧ sp [.ref a] H (fun v H' => ∃ n : Int, v = .int n ∧ 0 ≤ n ∧ n < 2 ^ 63 ∧ Q (.int n) H') E0
theorem call_lenO {k : Nat} {C : Addr} {ps : List Str} {sp : Sp} (hr : Room (k + 1) X.A) (m : Met X.prog X.w X.K X.mg X.base k C "__len__" ps sp) : CallR X (.builtin "len") (rLenO C sp) := by
  intro pins s σ H xs us Q I r h
  obtain ⟨a, dx, fs, rfl, ea, hsp⟩ := h
  obtain ⟨f, fd, hm, hb, F⟩ := m.ex
  obtain ⟨u, rfl, r1⟩ := vals1 r
  cases r1
  obtain ⟨mA, J, _⟩ := ins_get I.hok ea
  obtain ⟨od, J, _⟩ := J.look
  obtain ⟨mm, hF⟩ := I.fr
  have hl : ([Value.ref a] ++ ([] : List Value)).length = ps.length := by
    have q := F.len _ _ _ _ hsp
    simpa using q
  refine PySem.W.len_K hF I.ok.mod.kin J hm.at_ hm.fn ?_
  refine wpAny_call (codeAny_mono (F.run X.A.in1 X.stack s H ⟨[.ref a], []⟩ ([Value.ref a] ++ []) [.ref a] _ E0 hr.in1 I.env0.in1 (hb s [.ref a] I.kIn hl) (.cons rfl .nil : Vals [V.ref a] [Value.ref a]) hsp) fun r s' hq => ?_)
  cases r with
  | error e => exact False.elim hq
  | ok fl =>
    cases fl with
    | ret w =>
      obtain ⟨z, H', I', rz, n, ez, h0, h1, q⟩ := I.after hq
      subst ez
      obtain ⟨t, rfl⟩ := rz
      exact ⟨⟨h0, h1⟩, ⟨.int n, H', I'.tok _, ⟨_, rfl⟩, q⟩⟩
    | next => exact False.elim hq
    | brk => exact False.elim hq
    | cont => exact False.elim hq
end
/-! ### enumerate, zip -/
theorem for_enum {K : PySem.W.Frag} {a : Addr} {xs : List V} {g : TG} {tb : TS} {D : Ends} {σ : L2.St} {H : Hp} (Pv : Nat → L2.St → Hp → Prop) (h0 : Pv 0 σ H) (hl : ∀ i σ H, i ≤ xs.length → Pv i σ H → SqL K H a xs)
    (hs : ∀ (i : Nat) (x : V) (T : Addr) (σ : L2.St) (H : Hp), xs[i]? = some x → Pv i σ H → H T = none → g (.ref T) σ (upd H T (.tup [.int (i : Nat), x])) fun σ2 H2 => tb { D with nx := Pv (i + 1), ct := Pv (i + 1), bk := D.nx } σ2 H2) (hd : ∀ σ H, Pv xs.length σ H → D.nx σ H) :
    ∃ W : Nat → Nat → L2.St → Hp → Prop, (∃ m, W 0 m σ H) ∧ ∀ i m σ H, W i m σ H →
      ((Ite K a).stop i H ∧ D.nx σ H) ∨ ((Ite K a).go i H ∧ ∃ N : L2.St → Hp → Prop, (∀ σ' H', N σ' H' → ∃ m', m' < m ∧ W (i + 1) m' σ' H') ∧ ∀ v H', (Ite K a).yld i H v H' → g v σ H' fun σ2 H2 => tb { D with nx := N, ct := N, bk := D.nx } σ2 H2) := by
  refine ⟨fun i m σ H => m = xs.length - i ∧ i ≤ xs.length ∧ Pv i σ H, ⟨xs.length, rfl, Nat.zero_le _, h0⟩, ?_⟩
  rintro i m σ H ⟨rfl, hi, p⟩
  have q := hl i σ H hi p
  by_cases hlt : i < xs.length
  · have hx : xs[i]? = some xs[i] := List.getElem?_eq_getElem hlt
    refine .inr ⟨⟨xs, _, q, hx⟩, Pv (i + 1), fun σ' H' p' => ⟨xs.length - (i + 1), by omega, rfl, hlt, p'⟩, fun v H' y => ?_⟩
    obtain ⟨T, x', rfl, hT, rfl, f1⟩ := y
    exact hs i x' T σ H (f1 xs q) p hT
  · have e : i = xs.length := by omega
    subst e
    exact .inl ⟨⟨xs, q, Nat.le_refl _⟩, hd σ H p⟩
/-- the same in a generator -/
theorem gfor_enum {K : PySem.W.Frag} {a : Addr} {xs : List V} {g : TG} {tb : Bg.TGn} {D : Bg.GEnds} {ys : List V} {σ : L2.St} {H : Hp} (Pv : Nat → List V → L2.St → Hp → Prop) (h0 : Pv 0 ys σ H) (hl : ∀ i ys σ H, i ≤ xs.length → Pv i ys σ H → SqL K H a xs)
    (hs : ∀ (i : Nat) (x : V) (T : Addr) (ys : List V) (σ : L2.St) (H : Hp), xs[i]? = some x → Pv i ys σ H → H T = none → g (.ref T) σ (upd H T (.tup [.int (i : Nat), x])) fun σ2 H2 => tb { D with nx := Pv (i + 1), ct := Pv (i + 1), bk := D.nx } ys σ2 H2) (hd : ∀ ys σ H, Pv xs.length ys σ H → D.nx ys σ H) :
    ∃ W : Nat → Nat → List V → L2.St → Hp → Prop, (∃ m, W 0 m ys σ H) ∧ ∀ i m ys σ H, W i m ys σ H →
      ((Ite K a).stop i H ∧ D.nx ys σ H) ∨ ((Ite K a).go i H ∧ ∃ N : List V → L2.St → Hp → Prop, (∀ ys' σ' H', N ys' σ' H' → ∃ m', m' < m ∧ W (i + 1) m' ys' σ' H') ∧ ∀ v H', (Ite K a).yld i H v H' → g v σ H' fun σ2 H2 => tb { D with nx := N, ct := N, bk := D.nx } ys σ2 H2) := by
  refine ⟨fun i m ys σ H => m = xs.length - i ∧ i ≤ xs.length ∧ Pv i ys σ H, ⟨xs.length, rfl, Nat.zero_le _, h0⟩, ?_⟩
  rintro i m ys σ H ⟨rfl, hi, p⟩
  have q := hl i ys σ H hi p
  by_cases hlt : i < xs.length
  · have hx : xs[i]? = some xs[i] := List.getElem?_eq_getElem hlt
    refine .inr ⟨⟨xs, _, q, hx⟩, Pv (i + 1), fun ys' σ' H' p' => ⟨xs.length - (i + 1), by omega, rfl, hlt, p'⟩, fun v H' y => ?_⟩
    obtain ⟨T, x', rfl, hT, rfl, f1⟩ := y
    exact hs i x' T ys σ H (f1 xs q) p hT
  · have e : i = xs.length := by omega
    subst e
    exact .inl ⟨⟨xs, q, Nat.le_refl _⟩, hd ys σ H p⟩
theorem lc_zip {K : PySem.W.Frag} {a b : Addr} {xs ys : List V} {g : TG} {tt : TT} {te : TE} {vs : List Nat} {σ : L2.St} {H1 : Hp} {D : Addr} {Qd : Hp → Prop} {n : Nat} (hn : n = min xs.length ys.length) (Pv : Nat → Hp → Prop) (h0 : Pv 0 (upd H1 D (.lst []))) (hl : ∀ i H, Pv i H → SqL K H a xs ∧ SqL K H b ys)
    (hs : ∀ (i : Nat) (x y : V) (T : Addr) (H : Hp), xs[i]? = some x → ys[i]? = some y → Pv i H → H T = none → g (.ref T) (wipe σ vs) (upd H T (.tup [x, y])) fun σ2 H2 => wipe σ2 vs = wipe σ vs ∧ tt σ2 H2 fun b H3 =>
      if b = true then te σ2 H3 fun y H4 => ∃ acc, H4 D = some (.lst acc) ∧ acc.length < sizeLine ∧ Pv (i + 1) (upd H4 D (.lst (acc ++ [y]))) else Pv (i + 1) H3) (hd : ∀ H, Pv n H → Qd H) :
    ∃ W : Nat → Nat → Hp → Prop, (∃ m, W 0 m (upd H1 D (.lst []))) ∧ ∀ i m H, W i m H →
      ((Itz K a b).stop i H ∧ Qd H) ∨ ((Itz K a b).go i H ∧ ∃ Nx : Hp → Prop, (∀ H', Nx H' → ∃ m', m' < m ∧ W (i + 1) m' H') ∧ ∀ x H', (Itz K a b).yld i H x H' → g x (wipe σ vs) H' fun σ2 H2 => wipe σ2 vs = wipe σ vs ∧ tt σ2 H2 fun b H3 =>
        if b = true then te σ2 H3 fun y H4 => ∃ acc, H4 D = some (.lst acc) ∧ acc.length < sizeLine ∧ Nx (upd H4 D (.lst (acc ++ [y]))) else Nx H3) := by
  refine ⟨fun i m H => m = n - i ∧ i ≤ n ∧ Pv i H, ⟨n, rfl, Nat.zero_le _, h0⟩, ?_⟩
  rintro i m H ⟨rfl, hi, p⟩
  obtain ⟨q1, q2⟩ := hl i H p
  by_cases hlt : i < n
  · have l1 : i < xs.length := by omega
    have l2 : i < ys.length := by omega
    refine .inr ⟨⟨xs, ys, _, _, q1, q2, List.getElem?_eq_getElem l1, List.getElem?_eq_getElem l2⟩, Pv (i + 1), fun H' p' => ⟨n - (i + 1), by omega, rfl, hlt, p'⟩, fun v H' y => ?_⟩
    obtain ⟨T, x', y', rfl, hT, rfl, f1, f2⟩ := y
    exact hs i x' y' T H (f1 xs q1) (f2 ys q2) p hT
  · have e : i = n := by omega
    subst e
    exact .inl ⟨⟨xs, ys, q1, q2, by omega⟩, hd H p⟩
end Bw

set_option maxHeartbeats 4000000
namespace Bw
open PySem PySem.Spec PyProof.Rows L2
def spIsInteger : Sp := fun vs H Q _ => ∃ i : Int, vs = [.int i] ∧ Q (.bl true) H
def spIsBetween : Sp := fun vs H Q _ => ∃ t lo hi : Int, vs = [.int t, .int lo, .int hi] ∧ Q (.bl (decide (lo ≤ t) && decide (t ≤ hi))) H
def spIsPrice : Sp := fun vs H Q _ => ∃ p : Int, vs = [.int p] ∧ 0 ≤ p ∧ p ≤ 1000000000000000000 ∧ Q (.bl true) H
def spIsComparison : Sp := fun vs H Q _ => ∃ (t : Addr) (g p n : Int), vs = [.ref t, .int n] ∧ H t = some (.tup [.int g, .int p]) ∧ 1 ≤ g ∧ g ≤ n - 1 ∧ 0 ≤ p ∧ p ≤ 1000000000000000000 ∧ Q (.bl true) H
section
variable {P : Program} {w : World} {K : PySem.W.Frag} {mg : Str → Option Value} {base : Heap} {f C : Addr} {fd : FuncData}
theorem ok_is_integer (F : FnP K "is_integer" "is_integer" sIsInteger f fd) (B : Nb mg) : FnOk P w K mg base CX0 1 f fd ["thing"] spIsInteger := by
  refine ok0 F scIsInteger (fun vs H Q E h => ?_) (fun cdv A outer s H vs Q E hr h => ?_)
  · obtain ⟨i, rfl, _⟩ := h
    rfl
  · obtain ⟨i, rfl, hQ⟩ := h
    refine ⟨_, pss_one (ps_ret (pe_and (pe_callB call_isi (by rfl) B.isinstance (by decide +kernel) (pa_cons (pv 0) (pa_cons (pe_bltn (v := .ty "int") (by rfl) B.int (by decide +kernel) rfl) pa_nil)))
      (pe_one (pe_not (pe_callB call_isi (by rfl) B.isinstance (by decide +kernel) (pa_cons (pv 0) (pa_cons (pe_bltn (v := .ty "bool") (by rfl) B.bool (by decide +kernel) rfl) pa_nil))))))), ?_⟩
    exact ⟨_, rfl, _, _, _, _, true, rfl, .ty _, .base (.int _), kit_ty (by decide +kernel), true, rfl, iteT ⟨_, rfl, _, _, _, _, false, rfl, .ty _, .base (.int _), kit_ty (by decide +kernel), false, rfl, hQ⟩⟩
theorem ok_is_between (F : FnP K "is_between" "is_between" sIsBetween f fd) (C1 : Cal P w K mg base 1 "is_integer" ["thing"] spIsInteger) : FnOk P w K mg base CX0 2 f fd ["thing", "low", "high"] spIsBetween := by
  refine ok0 F scIsBetween (fun vs H Q E h => ?_) (fun cdv A outer s H vs Q E hr h => ?_)
  · obtain ⟨t, lo, hi, rfl, _⟩ := h
    rfl
  · obtain ⟨t, lo, hi, rfl, hQ⟩ := h
    refine ⟨_, pss_one (ps_ret (pe_and (pe_cal C1 hr (by rfl) (pa_cons (pv 0) pa_nil)) (pe_one (pe_chain op_le op_le (pv 1) (pv 0) (pv 2))))), ?_⟩
    refine ⟨_, rfl, t, rfl, true, rfl, iteT ⟨_, rfl, _, rfl, _, _, rfl, rfl, _, rfl, ?_⟩⟩
    by_cases h1 : lo ≤ t
    · rw [decide_eq_true h1] at hQ ⊢
      exact iteT ⟨_, rfl, _, _, rfl, rfl, by simpa using hQ⟩
    · rw [decide_eq_false h1] at hQ ⊢
      exact iteF (by simpa using hQ)
theorem ok_is_price (F : FnP K "is_price" "is_price" sIsPrice f fd) (M : Nm K mg C) (C2 : Cal P w K mg base 2 "is_between" ["thing", "low", "high"] spIsBetween) : FnOk P w K mg base CX0 3 f fd ["thing"] spIsPrice := by
  refine ok0 F scIsPrice (fun vs H Q E h => ?_) (fun cdv A outer s H vs Q E hr h => ?_)
  · obtain ⟨p, rfl, _⟩ := h
    rfl
  · obtain ⟨p, rfl, h0, h1, hQ⟩ := h
    obtain ⟨tk, mx⟩ := M.mx
    refine ⟨_, pss_one (ps_ret (pe_cal C2 hr (by rfl) (pa_cons (pv 0) (pa_cons pe_int (pa_cons (pe_glob (v := .int 1000000000000000000) (by rfl) mx ⟨_, rfl⟩) pa_nil))))), ?_⟩
    refine ⟨_, rfl, _, _, _, rfl, ?_⟩
    rw [decide_eq_true h0, decide_eq_true h1]
    exact hQ
theorem ok_is_comparison (F : FnP K "is_comparison" "is_comparison" sIsComparison f fd) (B : Nb mg) (C2 : Cal P w K mg base 2 "is_between" ["thing", "low", "high"] spIsBetween) (C3 : Cal P w K mg base 3 "is_price" ["thing"] spIsPrice) : FnOk P w K mg base CX0 4 f fd ["thing", "places"] spIsComparison := by
  refine ok0 F scIsComparison (fun vs H Q E h => ?_) (fun cdv A outer s H vs Q E hr h => ?_)
  · obtain ⟨t, g, p, n, rfl, _⟩ := h
    rfl
  · obtain ⟨t, g, p, n, rfl, ht, h1, h2, h3, h4, hQ⟩ := h
    have hr2 : Room 2 _ := hr.mono (by decide)
    refine ⟨_, pss_cons (ps_if (PW.pt (pw_or (pt_not (pt_val (pe_callB call_isi (by rfl) B.isinstance (by decide +kernel) (pa_cons (pv 0) (pa_cons (pe_bltn (v := .ty "tuple") (by rfl) B.tuple (by decide +kernel) rfl) pa_nil)))))
        (pw_or1 (pt_cmpR op_ne (pe_callB call_len_seq (by rfl) B.len PySem.boot_len (pa_cons (pv 0) pa_nil)) pe_int (nomark _))))) (pss_one ps_never) pss_nil)
      (pss_one (ps_ret (pe_and (pe_cal C2 hr2 (by rfl) (pa_cons (pe_ix ix_tup (pv 0) pe_int (fun _ _ => rfl)) (pa_cons pe_int (pa_cons (pe_op op_sub (pv 1) pe_int) pa_nil))))
        (pe_one (pe_cal C3 hr (by rfl) (pa_cons (pe_ix ix_tup (pv 0) pe_int (fun _ _ => rfl)) pa_nil)))))), ?_⟩
    refine ⟨_, rfl, _, _, _, _, true, rfl, .ty _, .base (.tup ht), kit_ty (by decide +kernel), true, rfl, iteF ⟨_, rfl, t, _, rfl, .inr (SqT.of ht), rfl, _, rfl, iteF ?_⟩⟩
    refine ⟨_, rfl, t, _, 0, .int g, rfl, rfl, SqT.of ht, atI_nat (j := 0) rfl, _, rfl, _, _, rfl, rfl, _, _, _, rfl, ?_⟩
    rw [decide_eq_true h1, decide_eq_true h2]
    refine ⟨true, rfl, iteT ⟨_, rfl, t, _, 1, .int p, rfl, rfl, SqT.of ht, atI_nat (j := 1) rfl, _, rfl, h3, h4, hQ⟩⟩
end
end Bw

set_option maxHeartbeats 4000000
namespace Bw
open PySem PySem.Spec PyProof.Rows L2
theorem same_upd {H H' : Hp} {D : Addr} {o : HO} (sm : Same H H') (hn : H D = none) : Same H (upd H' D o) := fun b u e => by
  rw [upd_ne (ne_of_none e hn)]
  exact sm b u e
theorem same_new {H : Hp} {D : Addr} {o : HO} (hn : H D = none) : Same H (upd H D o) := same_upd (Same.refl H) hn
theorem map_at {ns : List Int} {i : Nat} {x : V} (h : (ns.map V.int)[i]? = some x) : ∃ v, ns[i]? = some v ∧ x = .int v ∧ i < ns.length := by
  rw [List.getElem?_map] at h
  cases e : ns[i]? with
  | none =>
    rw [e] at h
    cases h
  | some v =>
    rw [e] at h
    cases h
    exact ⟨v, rfl, rfl, (List.getElem?_eq_some_iff.mp e).1⟩
theorem rgV_idn (n : Nat) : rgV 0 (n : Int) = (Bm.idn n).map V.int := by
  unfold rgV Bm.idn
  rw [List.map_map]
  have e : ((n : Int) - 0).toNat = n := by omega
  rw [e]
  refine List.map_congr_left fun i _ => ?_
  show V.int (0 + (i : Int)) = V.int (i : Int)
  rw [Int.zero_add]
theorem bls_map (n : Nat) : List.replicate n (V.bl true) = (List.replicate n true).map V.bl := by rw [List.map_replicate]
theorem all_rep (n : Nat) : (List.replicate n true).all id = true := by
  rw [List.all_eq_true]
  intro x hx
  exact (List.mem_replicate.mp hx).2
theorem rep_succ (n : Nat) : List.replicate n (V.bl true) ++ [V.bl true] = List.replicate (n + 1) (V.bl true) := by rw [List.replicate_succ']
theorem line1000 {n : Nat} (h : n ≤ 1000) : n < sizeLine := small1000 h
theorem cut1 (xs : List V) : cutV xs (some 1) none = xs.drop 1 := by
  unfold cutV
  have e : HT.sIx xs.length 0 (some 1) = min 1 xs.length := HT.sIx_nat _ _ 1
  have e2 : HT.sIx xs.length xs.length none = xs.length := HT.sIx_none _ _
  rw [e, e2]
  by_cases h : 1 ≤ xs.length
  · have e3 : min 1 xs.length = 1 := by omega
    rw [e3, List.take_of_length_le (by rw [List.length_drop]; exact Nat.le_refl _)]
  · have e3 : xs = [] := List.eq_nil_of_length_eq_zero (by omega)
    subst e3
    rfl
theorem turn_yes {te : TE} {σ : L2.St} {H : Hp} {F : V → Hp → Prop} {N : Hp → Prop} (h : te σ H F) : tYes σ H fun b H3 => if b = true then te σ H3 F else N H3 := by
  show (if true = true then te σ H F else N H)
  rw [if_pos rfl]
  exact h
def spIsOrder : Sp := fun vs H Q _ => ∃ (a : Addr) (n : Nat) (xs : List Int), vs = [.ref a, .int (n : Int)] ∧ H a = some (.lst (xs.map V.int)) ∧ Bm.IsOrd n xs ∧ n ≤ 12 ∧ ∀ H', Same H H' → Q (.bl true) H'
def spAreMisses : Sp := fun vs H Q _ => ∃ (a : Addr) (m : Int) (ms : List Int), vs = [.ref a, .int m] ∧ H a = some (.lst (ms.map V.int)) ∧ (∀ v ∈ ms, 0 ≤ v ∧ v < m) ∧ ms.Pairwise (· < ·) ∧ ms.length ≤ 1000 ∧ ∀ H', Same H H' → Q (.bl true) H'
section
variable {P : Program} {w : World} {K : PySem.W.Frag} {mg : Str → Option Value} {base : Heap} {f C : Addr} {fd : FuncData}
theorem ok_is_order (F : FnP K "is_order" "is_order" sIsOrder f fd) (B : Nb mg) (C2 : Cal P w K mg base 2 "is_between" ["thing", "low", "high"] spIsBetween) : FnOk P w K mg base CX0 4 f fd ["thing", "places"] spIsOrder := by
  refine ok0 F scIsOrder (fun vs H Q E h => ?_) (fun cdv A outer s H vs Q E hr h => ?_)
  · obtain ⟨a, n, xs, rfl, _⟩ := h
    rfl
  · obtain ⟨a, n, xs, rfl, ha, ho, h12, hQ⟩ := h
    have hr2 : Room 2 _ := hr.mono (by decide)
    refine ⟨_, pss_cons (ps_if (PW.pt (pw_or (pt_not (pt_val (pe_callB call_isi (by rfl) B.isinstance (by decide +kernel) (pa_cons (pv 0) (pa_cons (pe_bltn (v := .ty "list") (by rfl) B.list (by decide +kernel) rfl) pa_nil)))))
        (pw_or1 (pt_cmpR op_ne (pe_callB call_len_seq (by rfl) B.len PySem.boot_len (pa_cons (pv 0) pa_nil)) (pv 1) (nomark _))))) (pss_one ps_never) pss_nil)
      (pss_one (ps_ret (pe_and (pe_callB (cr_all rfl) (by rfl) B.all (by decide +kernel) (pa_cons (pe_lc (own := [("rank", 2)]) (g := gName 2) rfl scIsOrder.nd (pi_list (pv 0)) (blkOk_by (own := [("rank", 2)]) (N := ["thing", "places", "rank"]) (sc := defScope sIsOrder) (by decide +kernel))
          (fun _ _ _ _ _ => pg_name (i := 2) scIsOrder.nd rfl (Or.inl rfl)) (fun _ _ _ _ _ => pts_nil) (fun _ _ _ _ _ => pe_cal C2 hr2 (by rfl) (pa_cons (pv 2) (pa_cons pe_int (pa_cons (pe_op op_sub (pv 1) pe_int) pa_nil))))) pa_nil))
        (pe_one (pe_cmpR (op_eqIL hr.units) (pe_callB cr_sortedI (by rfl) B.sorted (by decide +kernel) (pa_cons (pv 0) pa_nil)) (pe_listRg rfl (by rfl) B.list (prg_1 (by rfl) B.range (pv 1))) (nomark _)))))), ?_⟩
    refine ⟨_, rfl, _, _, _, _, true, rfl, .ty _, .base (.lst ha), kit_ty (by decide +kernel), true, rfl, iteF ⟨_, rfl, a, _, rfl, .inl (SqL.of ha), _, rfl, rfl, _, rfl, iteNS (by rw [List.length_map, ho.len]) ?_⟩⟩
    refine ⟨_, rfl, a, rfl, ⟨_, SqL.of ha⟩, fun D hD => lc_list (K := K) (a := a) (xs := xs.map V.int) (fun i H' => Same H H' ∧ H' D = some (.lst (List.replicate i (V.bl true)))) ⟨same_new hD, upd_same⟩ (fun i H' _ p => p.1.seq (SqL.of ha)) ?_ ?_⟩
    · rintro i x H' hi ⟨sm, hD'⟩
      obtain ⟨v, hv, rfl, hlt⟩ := map_at hi
      have hm : v ∈ xs := List.mem_of_getElem? hv
      have h0 := ho.lo v hm
      have h1 := ho.hi v hm
      refine ⟨rfl, ?_⟩
      refine turn_yes ⟨_, rfl, _, rfl, _, _, rfl, rfl, _, _, _, rfl, ?_⟩
      rw [decide_eq_true h0, decide_eq_true (show v ≤ (n : Int) - 1 by omega)]
      refine ⟨_, hD', line1000 (by rw [List.length_replicate]; have := ho.len; omega), same_upd sm hD, ?_⟩
      rw [upd_same]
      exact congrArg (fun z => some (HO.lst z)) (rep_succ i)
    · rintro H' ⟨sm, hD'⟩
      refine ⟨D, List.replicate (xs.map V.int).length true, rfl, SqL.of (by rw [hD', bls_map]), true, by rw [all_rep], iteT ?_⟩
      refine ⟨_, rfl, a, xs, rfl, SqL.of (sm _ _ ha), fun ns' p perm rising np => ?_⟩
      refine ⟨_, rfl, _, rfl, RgOk.of_le (by omega) (by omega) (by omega) (by omega), fun q nq => ?_⟩
      have hp : upd H' p (.lst (ns'.map V.int)) p = some (.lst (ns'.map V.int)) := upd_same
      refine ⟨p, q, ns', Bm.idn n, rfl, rfl, SqL.of (by rw [upd_ne (ne_of_none hp nq)]; exact hp), SqL.of (by rw [upd_same, rgV_idn]), ?_⟩
      rw [decide_eq_true (Bm.sorted_idn (ho.perm perm) rising)]
      exact hQ _ (same_upd (same_upd sm (sm.free np)) ((same_upd sm (sm.free np)).free nq))
theorem ok_are_misses (F : FnP K "are_misses" "are_misses" sAreMisses f fd) (B : Nb mg) (C2 : Cal P w K mg base 2 "is_between" ["thing", "low", "high"] spIsBetween) : FnOk P w K mg base CX0 4 f fd ["thing", "many"] spAreMisses := by
  refine ok0 F scAreMisses (fun vs H Q E h => ?_) (fun cdv A outer s H vs Q E hr h => ?_)
  · obtain ⟨a, m, ms, rfl, _⟩ := h
    rfl
  · obtain ⟨a, m, ms, rfl, ha, hin, hup, hlen, hQ⟩ := h
    have hr2 : Room 2 _ := hr.mono (by decide)
    refine ⟨_, pss_cons (ps_if (PW.pt (pw_or (pt_not (pt_val (pe_callB call_isi (by rfl) B.isinstance (by decide +kernel) (pa_cons (pv 0) (pa_cons (pe_bltn (v := .ty "list") (by rfl) B.list (by decide +kernel) rfl) pa_nil)))))
        (pw_or1 (pt_not (pt_val (pe_callB (cr_all rfl) (by rfl) B.all (by decide +kernel) (pa_cons (pe_lc (own := [("at", 2)]) (g := gName 2) rfl scAreMisses.nd (pi_list (pv 0)) (blkOk_by (own := [("at", 2)]) (N := ["thing", "many", "at", "one", "other"]) (sc := defScope sAreMisses) (by decide +kernel))
          (fun _ _ _ _ _ => pg_name (i := 2) scAreMisses.nd rfl (Or.inl rfl)) (fun _ _ _ _ _ => pts_nil) (fun _ _ _ _ _ => pe_cal C2 hr2 (by rfl) (pa_cons (pv 2) (pa_cons pe_int (pa_cons (pe_op op_sub (pv 1) pe_int) pa_nil))))) pa_nil))))))) (pss_one ps_never) pss_nil)
      (pss_one (ps_ret (pe_callB (cr_all rfl) (by rfl) B.all (by decide +kernel) (pa_cons (pe_lc (own := [("one", 3), ("other", 4)]) (g := gTup K 2 (gCons (gName 3) (gCons (gName 4) gNil))) rfl scAreMisses.nd (pi_zip (by rfl) B.zip (pa_cons (pv 0) (pa_cons (pe_slice sl_list (pv 0) (po_some pe_int) po_none) pa_nil)))
          (blkOk_by (own := [("one", 3), ("other", 4)]) (N := ["thing", "many", "at", "one", "other"]) (sc := defScope sAreMisses) (by decide +kernel))
          (fun _ _ _ _ _ => pg_tup rfl (pgs_cons (pg_name (i := 3) scAreMisses.nd rfl (Or.inl rfl) (Or.inr rfl)) (pgs_cons (pg_name (i := 4) scAreMisses.nd rfl (Or.inl rfl) (Or.inr rfl)) pgs_nil))) (fun _ _ _ _ _ => pts_nil) (fun _ _ _ _ _ => pe_cmpR op_lt (pv 3) (pv 4) (nomark _))) pa_nil)))), ?_⟩
    refine ⟨_, rfl, _, _, _, _, true, rfl, .ty _, .base (.lst ha), kit_ty (by decide +kernel), true, rfl, iteF ?_⟩
    refine ⟨_, rfl, a, rfl, ⟨_, SqL.of ha⟩, fun D hD => lc_list (K := K) (a := a) (xs := ms.map V.int) (fun i H' => Same H H' ∧ H' D = some (.lst (List.replicate i (V.bl true)))) ⟨same_new hD, upd_same⟩ (fun i H' _ p => p.1.seq (SqL.of ha)) ?_ ?_⟩
    · rintro i x H' hi ⟨sm, hD'⟩
      obtain ⟨v, hv, rfl, hlt⟩ := map_at hi
      obtain ⟨h0, h1⟩ := hin v (List.mem_of_getElem? hv)
      refine ⟨rfl, ?_⟩
      refine turn_yes ⟨_, rfl, _, rfl, _, _, rfl, rfl, _, _, _, rfl, ?_⟩
      rw [decide_eq_true h0, decide_eq_true (show v ≤ m - 1 by omega)]
      refine ⟨_, hD', line1000 (by rw [List.length_replicate]; omega), same_upd sm hD, ?_⟩
      rw [upd_same]
      exact congrArg (fun z => some (HO.lst z)) (rep_succ i)
    · rintro H1 ⟨sm, hD'⟩
      refine ⟨D, List.replicate (ms.map V.int).length true, rfl, SqL.of (by rw [hD', bls_map]), true, by rw [all_rep], iteF ?_⟩
      have ha1 := sm _ _ ha
      refine ⟨_, rfl, _, rfl, 1, rfl, a, _, rfl, SqL.of ha1, fun p np => ?_⟩
      have hap : a ≠ p := ne_of_none ha1 np
      have sm2 : Same H (upd H1 p (.lst (cutV (ms.map V.int) (some 1) none))) := same_upd sm (sm.free np)
      refine ⟨a, p, _, _, rfl, SqL.of (sm2 _ _ ha), SqL.of upd_same, fun D2 hD2 => lc_zip (K := K) (n := min (ms.map V.int).length (cutV (ms.map V.int) (some 1) none).length) rfl (fun i H' => Same (upd H1 p (.lst (cutV (ms.map V.int) (some 1) none))) H' ∧ H' D2 = some (.lst (List.replicate i (V.bl true)))) ⟨same_new hD2, upd_same⟩ (fun i H' q => ⟨q.1.seq (SqL.of (sm2 _ _ ha)), q.1.seq (SqL.of upd_same)⟩) ?_ ?_⟩
      · rintro i x y T H' hx hy ⟨sm3, hD3⟩ hT
        obtain ⟨v, hv, rfl, hlt⟩ := map_at hx
        rw [cut1, List.getElem?_drop] at hy
        obtain ⟨u, hu, rfl, hlt2⟩ := map_at hy
        have lt : v < u := by
          obtain ⟨g1, e1⟩ := List.getElem?_eq_some_iff.mp hv
          obtain ⟨g2, e2⟩ := List.getElem?_eq_some_iff.mp hu
          have := (List.pairwise_iff_getElem.mp hup) i (1 + i) g1 g2 (by omega)
          rw [e1, e2] at this
          exact this
        have nT : D2 ≠ T := ne_of_none hD3 hT
        refine ⟨T, _, rfl, SqT.of upd_same, rfl, _, _, rfl, _, _, rfl, rfl, rfl, ?_⟩
        refine turn_yes ⟨_, rfl, _, rfl, _, _, rfl, rfl, ?_⟩
        dsimp only
        rw [decide_eq_true lt]
        refine ⟨_, by rw [upd_ne nT]; exact hD3, line1000 (by rw [List.length_replicate]; omega), same_upd (same_upd sm3 (sm3.free hT)) hD2, ?_⟩
        rw [upd_same]
        exact congrArg (fun z => some (HO.lst z)) (rep_succ i)
      · rintro H' ⟨sm3, hD3⟩
        refine ⟨D2, List.replicate _ true, rfl, SqL.of (by rw [hD3, bls_map]), ?_⟩
        rw [all_rep]
        exact hQ _ (sm2.trans sm3)
end
end Bw

set_option maxHeartbeats 4000000
namespace Bw
open PySem PySem.Spec PyProof.Rows L2
/-! ### a schedule -/
abbrev Row3 : Type := Addr × Int × Int
def RowsOk (n : Nat) (rs : List Row3) (H : Hp) : Prop := ∀ r ∈ rs, H r.1 = some (.tup [.int r.2.1, .int r.2.2]) ∧ 1 ≤ r.2.1 ∧ r.2.1 < (n : Int) ∧ 0 ≤ r.2.2 ∧ r.2.2 ≤ 1000000000000000000
theorem RowsOk.same {n : Nat} {rs : List Row3} {H H' : Hp} (h : RowsOk n rs H) (s : Same H H') : RowsOk n rs H' := fun r hr => ⟨s _ _ (h r hr).1, (h r hr).2⟩
abbrev refs (rs : List Row3) : List V := rs.map fun r => V.ref r.1
def sf (n : Nat) (l : Addr) : List (Str × V) := putF "rows" (.ref l) (putF "place_count" (.int (n : Int)) [])
theorem pr_ : ¬ (("place_count" : Str) = "rows") := by decide +kernel
theorem rp_ : ¬ (("rows" : Str) = "place_count") := by decide +kernel
theorem sf_rows (n : Nat) (l : Addr) : (sf n l).lookup ("rows" : Str) = some (.ref l) := by
  unfold sf
  rw [lookup_putF, if_pos rfl]
theorem sf_pc (n : Nat) (l : Addr) : (sf n l).lookup ("place_count" : Str) = some (.int (n : Int)) := by
  unfold sf
  rw [lookup_putF, if_neg pr_, lookup_putF, if_pos rfl]
theorem sf_no (n : Nat) (l : Addr) {m : Str} (h1 : ¬ m = "rows") (h2 : ¬ m = "place_count") : (sf n l).lookup m = none := by
  unfold sf
  rw [lookup_putF, if_neg h1, lookup_putF, if_neg h2]
  all_goals rfl
def Sched (C : Addr) (H : Hp) (x : Addr) (n : Nat) (rs : List Row3) : Prop :=
  ∃ dx l, H x = some (.ins C dx (sf n l)) ∧ H l = some (.lst (refs rs)) ∧ RowsOk n rs H ∧ rs.length ≤ 400 ∧ 1 ≤ n ∧ n ≤ 12
theorem Sched.same {C : Addr} {H H' : Hp} {x : Addr} {n : Nat} {rs : List Row3} (h : Sched C H x n rs) (s : Same H H') : Sched C H' x n rs := by
  obtain ⟨dx, l, h1, h2, h3, h4⟩ := h
  exact ⟨dx, l, s _ _ h1, s _ _ h2, h3.same s, h4⟩
def gat (rs : List Row3) : List Int := rs.map fun r => r.2.1
theorem refs_at {rs : List Row3} {i : Nat} {x : V} (h : (refs rs)[i]? = some x) : ∃ r, rs[i]? = some r ∧ x = .ref r.1 ∧ i < rs.length ∧ r ∈ rs := by
  unfold refs at h
  rw [List.getElem?_map] at h
  cases e : rs[i]? with
  | none =>
    rw [e] at h
    cases h
  | some r =>
    rw [e] at h
    cases h
    exact ⟨r, rfl, rfl, (List.getElem?_eq_some_iff.mp e).1, List.mem_of_getElem? e⟩
def spInit (C : Addr) : Sp := fun vs H Q _ => ∃ (x dx a : Addr) (n : Nat) (rs : List Row3), vs = [.ref x, .int (n : Int), .ref a] ∧ H x = some (.ins C dx []) ∧ H a = some (.lst (refs rs)) ∧ RowsOk n rs H ∧ rs.length ≤ 400 ∧ 1 ≤ n ∧ n ≤ 12 ∧
  ∀ H', (∀ b o, b ≠ x → H b = some o → H' b = some o) → Sched C H' x n rs → Q .non H'
def spGates (C : Addr) : Sp := fun vs H Q _ => ∃ (x : Addr) (n : Nat) (rs : List Row3), vs = [.ref x] ∧ Sched C H x n rs ∧ ∀ H' p, Same H H' → H p = none → H' p = some (.lst ((gat rs).map V.int)) → Q (.ref p) H'
def spLen (C : Addr) : Sp := fun vs H Q _ => ∃ (x : Addr) (n : Nat) (rs : List Row3), vs = [.ref x] ∧ Sched C H x n rs ∧ Q (.int (rs.length : Nat)) H
def spWithRows (C : Addr) : Sp := fun vs H Q _ => ∃ (x a : Addr) (n : Nat) (rs0 rs : List Row3), vs = [.ref x, .ref a] ∧ Sched C H x n rs0 ∧ H a = some (.lst (refs rs)) ∧ RowsOk n rs H ∧ rs.length ≤ 400 ∧
  ∀ H' y, Same H H' → H y = none → Sched C H' y n rs → Q (.ref y) H'
def spBackwards (C : Addr) : Sp := fun vs H Q _ => ∃ (x : Addr) (n : Nat) (rs : List Row3), vs = [.ref x] ∧ Sched C H x n rs ∧ ∀ H' y, Same H H' → H y = none → Sched C H' y n rs.reverse → Q (.ref y) H'
def spMirrored (C : Addr) : Sp := fun vs H Q _ => ∃ (x : Addr) (n : Nat) (rs : List Row3), vs = [.ref x] ∧ Sched C H x n rs ∧ ∀ H' y rs', Same H H' → H y = none → Sched C H' y n rs' → gat rs' = (gat rs).map (fun g => (n : Int) - g) → Q (.ref y) H'
/-- the class is made -/
structure Mkc (P : Program) (w : World) (K : PySem.W.Frag) (mg : Str → Option Value) (base : Heap) (k : Nat) (C : Addr) : Prop where
  ex : ∃ f fd, Mk K C f ∧ Binds K fd ["self", "places", "comparisons"] [] ∧ FnOk P w K mg base CX0 k f fd ["self", "places", "comparisons"] (spInit C)
section
variable {P : Program} {w : World} {K : PySem.W.Frag} {mg : Str → Option Value} {base : Heap} {f C : Addr} {fd : FuncData}
theorem ok_init (F : FnP K "__init__" "Schedule.__init__" sInit f fd) (B : Nb mg) (M : Nm K mg C) (C2 : Cal P w K mg base 2 "is_between" ["thing", "low", "high"] spIsBetween) (C4 : Cal P w K mg base 4 "is_comparison" ["thing", "places"] spIsComparison) :
    FnOk P w K mg base CX0 5 f fd ["self", "places", "comparisons"] (spInit C) := by
  refine ok0 F scInit (fun vs H Q E h => ?_) (fun cdv A outer s H vs Q E hr h => ?_)
  · obtain ⟨x, dx, a, n, rs, rfl, _⟩ := h
    rfl
  · obtain ⟨x, dx, a, n, rs, rfl, hx, ha, hrs, h400, hn1, hn12, hQ⟩ := h
    obtain ⟨t1, mp⟩ := M.mp
    obtain ⟨t2, mc⟩ := M.mc
    have hr2 : Room 2 _ := hr.mono (by decide)
    refine ⟨_, pss_cons (ps_if (pt_not (pt_val (pe_cal C2 hr2 (by rfl) (pa_cons (pv 1) (pa_cons pe_int (pa_cons (pe_glob (v := .int 12) (by rfl) mp ⟨_, rfl⟩) pa_nil)))))) (pss_one ps_never) pss_nil)
      (pss_cons (ps_if (PW.pt (pw_or (pt_not (pt_val (pe_callB call_isi (by rfl) B.isinstance (by decide +kernel) (pa_cons (pv 2) (pa_cons (pe_bltn (v := .ty "list") (by rfl) B.list (by decide +kernel) rfl) pa_nil)))))
        (pw_or1 (pt_cmpR op_gt (pe_callB call_len_seq (by rfl) B.len PySem.boot_len (pa_cons (pv 2) pa_nil)) (pe_glob (v := .int 400) (by rfl) mc ⟨_, rfl⟩) (nomark _))))) (pss_one ps_never) pss_nil)
      (pss_cons (ps_for PassesOwn.never rfl (pi_enum (by rfl) B.enumerate (pa_cons (pv 2) pa_nil)) (pg_tup rfl (pgs_cons (pg_name (i := 3) scInit.nd rfl (Or.inl rfl)) (pgs_cons (pg_name (i := 4) scInit.nd rfl (Or.inl rfl)) pgs_nil)))
        (pss_one (ps_if (pt_not (pt_val (pe_cal C4 hr (by rfl) (pa_cons (pv 4) (pa_cons (pv 1) pa_nil))))) (pss_one ps_never) pss_nil)))
      (pss_cons (ps_fld (pv 0) (pv 1) rfl) (pss_one (ps_fld (pv 0) (pe_callTy call_list_of (by rfl) B.list (by decide +kernel) (pa_cons (pv 2) pa_nil)) rfl))))), ?_⟩
    refine ⟨_, rfl, _, _, _, rfl, true, by rw [decide_eq_true (show (1 : Int) ≤ n by omega), decide_eq_true (show (n : Int) ≤ 12 by omega)] <;> rfl, iteF ?_⟩
    refine ⟨_, rfl, _, _, _, _, true, rfl, .ty _, .base (.lst ha), kit_ty (by decide +kernel), true, rfl, iteF ⟨_, rfl, a, _, rfl, .inl (SqL.of ha), _, _, rfl, rfl, _, rfl, ?_⟩⟩
    rw [decide_eq_false (show ¬ (400 : Int) < ((refs rs).length : Int) by rw [List.length_map]; omega)]
    refine iteF ?_
    refine ⟨_, rfl, a, _, rfl, SqL.of ha, for_enum (K := K) (a := a) (xs := refs rs) (fun i σ H' => Same H H' ∧ ∃ v3 v4, σ = [some (.ref x), some (.int (n : Int)), some (.ref a), v3, v4]) ⟨Same.refl H, none, none, rfl⟩ (fun i σ H' _ p => p.1.seq (SqL.of ha)) ?_ ?_⟩
    · rintro i y T σ H' hi ⟨sm, v3, v4, rfl⟩ hT
      obtain ⟨r, hr', rfl, hlt, hm⟩ := refs_at hi
      obtain ⟨q1, q2, q3, q4, q5⟩ := hrs r hm
      have sm2 : Same H (upd H' T (.tup [.int (i : Nat), .ref r.1])) := same_upd sm (sm.free hT)
      refine ⟨T, _, rfl, SqT.of upd_same, rfl, _, _, rfl, _, _, rfl, rfl, _, rfl, _, rfl, ?_⟩
      refine ⟨r.1, r.2.1, r.2.2, (n : Int), rfl, sm2 _ _ q1, q2, by omega, q4, q5, true, rfl, iteF ?_⟩
      exact ⟨sm2, _, _, rfl⟩
    · rintro σ H' ⟨sm, v3, v4, rfl⟩
      have hx1 := sm _ _ hx
      have ha1 := sm _ _ ha
      have hax : a ≠ x := ne_of ha1 hx1 (by intro q; cases q)
      refine ⟨_, rfl, _, rfl, x, C, dx, _, rfl, hx1, M.cl, M.n1, (by show 0 < 1000; decide), ?_⟩
      refine ⟨_, rfl, a, _, rfl, .inl (SqL.of (by rw [upd_ne hax]; exact ha1)), fun l hl => ?_⟩
      have hxl : x ≠ l := fun q => by
        rw [q, upd_same] at hl
        cases hl
      have hl0 : H' l = none := by
        rw [upd_ne hxl.symm] at hl
        exact hl
      refine ⟨_, rfl, x, C, dx, _, rfl, by rw [upd_ne hxl, upd_same], M.cl, M.n2, (by show 1 < 1000; decide), ?_⟩
      have keep : ∀ b o, b ≠ x → H b = some o → upd (upd (upd H' x (.ins C dx (putF "place_count" (.int (n : Int)) []))) l (.lst (refs rs))) x (.ins C dx (putF "rows" (.ref l) (putF "place_count" (.int (n : Int)) []))) b = some o := fun b o hb e => by
        have e1 := sm _ _ e
        rw [upd_ne hb, upd_ne (ne_of_none e1 hl0), upd_ne hb]
        exact e1
      refine hQ _ keep ⟨dx, l, upd_same, by rw [upd_ne hxl.symm, upd_same], fun r hr' => ?_, h400, hn1, hn12⟩
      obtain ⟨q1, q2⟩ := hrs r hr'
      exact ⟨keep _ _ (ne_of q1 hx (by intro q; cases q)) q1, q2⟩
theorem ok_gates (F : FnP K "gates" "Schedule.gates" sGates f fd) (M : Nm K mg C) : FnOk P w K mg base CX0 1 f fd ["self"] (spGates C) := by
  refine ok0 F scGates (fun vs H Q E h => ?_) (fun cdv A outer s H vs Q E hr h => ?_)
  · obtain ⟨x, n, rs, rfl, _⟩ := h
    rfl
  · obtain ⟨x, n, rs, rfl, ⟨dx, l, hx, hl, hrs, h400, hn1, hn12⟩, hQ⟩ := h
    refine ⟨_, pss_one (ps_ret (pe_lc (own := [("gate", 1), ("price", 2)]) (g := gTup K 2 (gCons (gName 1) (gCons (gName 2) gNil))) rfl scGates.nd (pi_list (pe_fld (pv 0) rfl)) (blkOk_by (own := [("gate", 1), ("price", 2)]) (N := ["self", "gate", "price"]) (sc := defScope sGates) (by decide +kernel))
      (fun _ _ _ _ _ => pg_tup rfl (pgs_cons (pg_name (i := 1) scGates.nd rfl (Or.inl rfl) (Or.inr rfl)) (pgs_cons (pg_name (i := 2) scGates.nd rfl (Or.inl rfl) (Or.inr rfl)) pgs_nil))) (fun _ _ _ _ _ => pts_nil) (fun _ _ _ _ _ => pv 1))), ?_⟩
    refine ⟨_, rfl, x, C, dx, _, _, rfl, hx, M.cl, M.n2, sf_rows n l, l, rfl, ⟨_, SqL.of hl⟩, fun D hD => lc_list (K := K) (a := l) (xs := refs rs) (fun i H' => Same H H' ∧ H' D = some (.lst (((gat rs).take i).map V.int))) ⟨same_new hD, upd_same⟩ (fun i H' _ p => p.1.seq (SqL.of hl)) ?_ ?_⟩
    · rintro i y H' hi ⟨sm, hD'⟩
      obtain ⟨r, hr', rfl, hlt, hm⟩ := refs_at hi
      obtain ⟨q1, q2, q3, q4, q5⟩ := hrs r hm
      refine ⟨r.1, _, rfl, SqT.of (sm _ _ q1), rfl, _, _, rfl, _, _, rfl, rfl, rfl, turn_yes ⟨_, rfl, _, hD', ?_, same_upd sm hD, ?_⟩⟩
      · exact line1000 (by rw [List.length_map, List.length_take]; omega)
      · rw [upd_same]
        refine congrArg (fun z => some (HO.lst z)) ?_
        have e : (gat rs)[i]? = some r.2.1 := by
          unfold gat
          rw [List.getElem?_map, hr']
          rfl
        rw [List.take_add_one, e]
        simp
    · rintro H' ⟨sm, hD'⟩
      refine hQ H' D sm hD ?_
      rw [hD', List.take_of_length_le (by unfold gat refs; rw [List.length_map, List.length_map]; exact Nat.le_refl _)]
theorem ok_len (F : FnP K "__len__" "Schedule.__len__" sLen f fd) (B : Nb mg) (M : Nm K mg C) : FnOk P w K mg base CX0 1 f fd ["self"] (spLen C) := by
  refine ok0 F scLen (fun vs H Q E h => ?_) (fun cdv A outer s H vs Q E hr h => ?_)
  · obtain ⟨x, n, rs, rfl, _⟩ := h
    rfl
  · obtain ⟨x, n, rs, rfl, ⟨dx, l, hx, hl, hrs, h400, hn1, hn12⟩, hQ⟩ := h
    refine ⟨_, pss_one (ps_ret (pe_callB call_len_seq (by rfl) B.len PySem.boot_len (pa_cons (pe_fld (pv 0) rfl) pa_nil))), ?_⟩
    refine ⟨_, rfl, x, C, dx, _, _, rfl, hx, M.cl, M.n2, sf_rows n l, l, _, rfl, .inl (SqL.of hl), ?_⟩
    rw [show (refs rs).length = rs.length from List.length_map _]
    exact hQ
theorem ok_with_rows (F : FnP K "with_rows" "Schedule.with_rows" sWithRows f fd) (B : Nb mg) (M : Nm K mg C) (MK : Mkc P w K mg base 5 C) : FnOk P w K mg base CX0 7 f fd ["self", "rows"] (spWithRows C) := by
  obtain ⟨fI, fdI, mk, bI, GI⟩ := MK.ex
  refine ok0 F scWithRows (fun vs H Q E h => ?_) (fun cdv A outer s H vs Q E hr h => ?_)
  · obtain ⟨x, a, n, rs0, rs, rfl, _⟩ := h
    rfl
  · obtain ⟨x, a, n, rs0, rs, rfl, ⟨dx, l, hx, hl, _, _, hn1, hn12⟩, ha, hrs, h400, hQ⟩ := h
    obtain ⟨t2, mc⟩ := M.mc
    refine ⟨_, pss_cons (ps_if (pt_cmpR op_gt (pe_callB call_len_seq (by rfl) B.len PySem.boot_len (pa_cons (pv 1) pa_nil)) (pe_glob (v := .int 400) (by rfl) mc ⟨_, rfl⟩) (nomark _)) (pss_one ps_never) pss_nil)
      (pss_one (ps_ret (pe_make mk GI hr (by rfl) M.mgC bI .nil pass0 (pa_cons (pe_fld (pv 0) rfl) (pa_cons (pv 1) pa_nil))))), ?_⟩
    refine ⟨_, rfl, a, _, rfl, .inl (SqL.of ha), _, _, rfl, rfl, _, rfl, ?_⟩
    rw [decide_eq_false (show ¬ (400 : Int) < ((refs rs).length : Int) by rw [List.length_map]; omega)]
    refine iteF ⟨_, rfl, x, C, dx, _, _, rfl, hx, M.cl, M.n1, sf_pc n l, _, rfl, ?_⟩
    intro y dy ny ndy hne
    have s0 : Same H (upd (upd H dy (.own y)) y (.ins C dy [])) := fun b o e => by
      rw [upd_ne (ne_of_none e ny), upd_ne (ne_of_none e ndy)]
      exact e
    refine ⟨y, dy, a, n, rs, rfl, upd_same, s0 _ _ ha, hrs.same s0, h400, hn1, hn12, fun H' keep sc => ⟨rfl, ?_⟩⟩
    exact hQ H' y (fun b o e => keep b o (ne_of_none e ny) (s0 _ _ e)) ny sc
theorem ok_backwards (F : FnP K "backwards" "Schedule.backwards" sBackwards f fd) (M : Nm K mg C) (W : Met P w K mg base 7 C "with_rows" ["self", "rows"] (spWithRows C)) : FnOk P w K mg base CX0 8 f fd ["self"] (spBackwards C) := by
  obtain ⟨fW, fdW, mW, bW, GW⟩ := W.ex
  refine ok0 F scBackwards (fun vs H Q E h => ?_) (fun cdv A outer s H vs Q E hr h => ?_)
  · obtain ⟨x, n, rs, rfl, _⟩ := h
    rfl
  · obtain ⟨x, n, rs, rfl, hS, hQ⟩ := h
    obtain ⟨dx, l, hx, hl, hrs, h400, hn1, hn12⟩ := id hS
    refine ⟨_, pss_one (ps_ret (pe_meth (pv 0) M.cl mW GW hr bW .nil pass0 (pa_cons (pe_revL (pe_fld (pv 0) rfl)) pa_nil))), ?_⟩
    refine ⟨_, rfl, x, dx, _, rfl, hx, sf_no n l (by decide +kernel) (by decide +kernel), _, rfl, x, C, dx, _, _, rfl, hx, M.cl, M.n2, sf_rows n l, l, _, rfl, SqL.of hl, fun p np => ?_⟩
    have s0 : Same H (upd H p (.lst (refs rs).reverse)) := same_new np
    refine ⟨x, p, n, rs, rs.reverse, rfl, hS.same s0, by rw [upd_same]; exact congrArg (fun z => some (HO.lst z)) List.map_reverse.symm, fun r hr' => (hrs.same s0) r (List.mem_reverse.mp hr'), by rw [List.length_reverse]; exact h400, fun H' y s1 ny sc => ?_⟩
    exact hQ H' y (s0.trans s1) (s0.free ny) sc
theorem ok_mirrored (F : FnP K "mirrored" "Schedule.mirrored" sMirrored f fd) (M : Nm K mg C) (W : Met P w K mg base 7 C "with_rows" ["self", "rows"] (spWithRows C)) : FnOk P w K mg base CX0 8 f fd ["self"] (spMirrored C) := by
  obtain ⟨fW, fdW, mW, bW, GW⟩ := W.ex
  refine ok0 F scMirrored (fun vs H Q E h => ?_) (fun cdv A outer s H vs Q E hr h => ?_)
  · obtain ⟨x, n, rs, rfl, _⟩ := h
    rfl
  · obtain ⟨x, n, rs, rfl, hS, hQ⟩ := h
    obtain ⟨dx, l, hx, hl, hrs, h400, hn1, hn12⟩ := id hS
    refine ⟨_, pss_one (ps_ret (pe_meth (pv 0) M.cl mW GW hr bW .nil pass0 (pa_cons (pe_lc (own := [("gate", 1), ("price", 2)]) (g := gTup K 2 (gCons (gName 1) (gCons (gName 2) gNil))) (te := tTup (tCons (tOp (rI0 fun i j => .int (i - j)) (tFld K (tVar 0) "place_count") (tVar 1)) (tCons (tVar 2) tNil))) rfl scMirrored.nd (pi_list (pe_fld (pv 0) rfl)) (blkOk_by (own := [("gate", 1), ("price", 2)]) (N := ["self", "gate", "price"]) (sc := defScope sMirrored) (by decide +kernel))
      (fun _ _ _ _ _ => pg_tup rfl (pgs_cons (pg_name (i := 1) scMirrored.nd rfl (Or.inl rfl) (Or.inr rfl)) (pgs_cons (pg_name (i := 2) scMirrored.nd rfl (Or.inl rfl) (Or.inr rfl)) pgs_nil))) (fun _ _ _ _ _ => pts_nil)
      (fun _ _ _ _ _ => pe_tup (pa_cons (pe_op op_sub (pe_fld (pv 0) rfl) (pv 1)) (pa_cons (pv 2) pa_nil)))) pa_nil))), ?_⟩
    refine ⟨_, rfl, x, dx, _, rfl, hx, sf_no n l (by decide +kernel) (by decide +kernel), _, rfl, x, C, dx, _, _, rfl, hx, M.cl, M.n2, sf_rows n l, l, rfl, ⟨_, SqL.of hl⟩, fun D hD => lc_list (K := K) (a := l) (xs := refs rs)
      (fun i H' => Same H H' ∧ ∃ rs', H' D = some (.lst (refs rs')) ∧ RowsOk n rs' H' ∧ rs'.length = i ∧ gat rs' = ((gat rs).take i).map (fun g => (n : Int) - g)) ⟨same_new hD, [], upd_same, (fun r hr => by cases hr), rfl, rfl⟩ (fun i H' _ p => p.1.seq (SqL.of hl)) ?_ ?_⟩
    · rintro i y H' hi ⟨sm, rs', hD', ok', hlen, hg⟩
      obtain ⟨r, hr', rfl, hlt, hm⟩ := refs_at hi
      obtain ⟨q1, q2, q3, q4, q5⟩ := hrs r hm
      refine ⟨r.1, _, rfl, SqT.of (sm _ _ q1), rfl, _, _, rfl, _, _, rfl, rfl, rfl, turn_yes ⟨_, rfl, x, C, dx, _, _, rfl, sm _ _ hx, M.cl, M.n1, sf_pc n l, _, rfl, _, _, rfl, rfl, _, rfl, (by show 2 ≤ sizeLine; decide), fun T nT => ?_⟩⟩
      have nDT : D ≠ T := ne_of_none hD' nT
      have e1 : Same H' (upd H' T (.tup [.int ((n : Int) - r.2.1), .int r.2.2])) := same_new nT
      have okT := ok'.same e1
      refine ⟨_, by rw [upd_ne nDT]; exact hD', line1000 (by rw [List.length_map]; omega), same_upd (same_upd sm (sm.free nT)) hD, rs' ++ [(T, (n : Int) - r.2.1, r.2.2)], by rw [upd_same]; exact congrArg (fun z => some (HO.lst z)) (by simp), fun z hz => ?_, by simp [hlen], ?_⟩
      · rcases List.mem_append.mp hz with hz | hz
        · obtain ⟨z1, z2⟩ := okT z hz
          exact ⟨by rw [upd_ne (ne_of z1 (by rw [upd_ne nDT]; exact hD') (by intro q; cases q))]; exact z1, z2⟩
        · rw [List.mem_singleton.mp hz]
          exact ⟨by rw [upd_ne nDT.symm, upd_same], by show 1 ≤ (n : Int) - r.2.1; omega, by show (n : Int) - r.2.1 < n; omega, q4, q5⟩
      · have e : (gat rs)[i]? = some r.2.1 := by
          unfold gat
          rw [List.getElem?_map, hr']
          rfl
        rw [List.take_add_one, e]
        unfold gat at hg ⊢
        rw [List.map_append, hg]
        simp
    · rintro H' ⟨sm, rs', hD', ok', hlen, hg⟩
      have hlen' : rs'.length = rs.length := by rw [hlen, List.length_map]
      refine ⟨x, D, n, rs, rs', rfl, hS.same sm, hD', ok', by omega, fun H2 y s1 ny sc => ?_⟩
      refine hQ H2 y rs' (sm.trans s1) (sm.free ny) sc ?_
      rw [hg, List.take_of_length_le (by unfold gat refs; rw [List.length_map, List.length_map]; exact Nat.le_refl _)]
end
end Bw

set_option maxHeartbeats 4000000
namespace Bw
open PySem PySem.Spec PyProof.Rows L2
/-! ### the bag of drawn numbers -/
def Kp (p : Addr) (H H' : Hp) : Prop := ∀ b o, b ≠ p → H b = some o → H' b = some o
theorem Kp.refl (p : Addr) (H : Hp) : Kp p H H := fun _ _ _ h => h
theorem Kp.trans {p : Addr} {H H1 H2 : Hp} (a : Kp p H H1) (b : Kp p H1 H2) : Kp p H H2 := fun c o hc h => b c o hc (a c o hc h)
theorem Same.kp {p : Addr} {H H' : Hp} (s : Same H H') : Kp p H H' := fun b o _ h => s b o h
theorem kp_upd {p : Addr} {H H' : Hp} {o : HO} (k : Kp p H H') : Kp p H (upd H' p o) := fun b u hb h => by
  rw [upd_ne hb]
  exact k b u hb h
structure Bag4 (H : Hp) (p : Addr) (a b c : Int) (q : Addr) (cells : List Int) : Prop where
  at_ : H p = some (.lst [.int a, .int b, .int c, .ref q])
  cl : H q = some (.lst (cells.map V.int))
  a0 : 0 ≤ a
  b0 : 0 ≤ b
  b1 : b < 2147483648
  c0 : 0 ≤ c
  v0 : ∀ v ∈ cells, 0 ≤ v
def BagAt (H : Hp) (p q : Addr) : Prop := ∃ a b c cells, Bag4 H p a b c q cells
theorem BagAt.same {H H' : Hp} {p q : Addr} (h : BagAt H p q) (s : Same H H') : BagAt H' p q := by
  obtain ⟨a, b, c, cells, h⟩ := h
  exact ⟨a, b, c, cells, s _ _ h.at_, s _ _ h.cl, h.a0, h.b0, h.b1, h.c0, h.v0⟩
theorem BagAt.upd {H : Hp} {p q l : Addr} {o : HO} (h : BagAt H p q) (h1 : l ≠ p) (h2 : l ≠ q) : BagAt (L2.upd H l o) p q := by
  obtain ⟨a, b, c, cells, h⟩ := h
  exact ⟨a, b, c, cells, by rw [upd_ne h1.symm]; exact h.at_, by rw [upd_ne h2.symm]; exact h.cl, h.a0, h.b0, h.b1, h.c0, h.v0⟩
theorem BagAt.apart {H : Hp} {p q l : Addr} (h : BagAt H p q) (hl : H l = none) : l ≠ p ∧ l ≠ q := by
  obtain ⟨a, b, c, cells, h⟩ := h
  exact ⟨(ne_of_none h.at_ hl).symm, (ne_of_none h.cl hl).symm⟩
theorem Bag4.ne {H : Hp} {p : Addr} {a b c : Int} {q : Addr} {cells : List Int} (h : Bag4 H p a b c q cells) : q ≠ p := fun e => by
  have h1 := h.cl
  rw [e, h.at_] at h1
  have h2 : [V.int a, V.int b, V.int c, V.ref q] = cells.map V.int := HO.lst.inj (Option.some.inj h1)
  have h3 : V.ref q ∈ cells.map V.int := by
    rw [← h2]
    simp
  obtain ⟨v, _, z⟩ := List.mem_map.mp h3
  cases z
/-- the bag is written anew -/
theorem Bag4.put {H : Hp} {p : Addr} {a b c : Int} {q : Addr} {cells : List Int} (h : Bag4 H p a b c q cells) {a' b' c' : Int} (ha : 0 ≤ a') (hb : 0 ≤ b') (hb1 : b' < 2147483648) (hc : 0 ≤ c') : Bag4 (upd H p (.lst [.int a', .int b', .int c', .ref q])) p a' b' c' q cells :=
  ⟨upd_same, by rw [upd_ne h.ne]; exact h.cl, ha, hb, hb1, hc, h.v0⟩
theorem mem_cut {xs : List V} {lo hi : Option Int} {x : V} (h : x ∈ cutV xs lo hi) : x ∈ xs := by
  unfold cutV at h
  exact List.mem_of_mem_drop (List.mem_of_mem_take h)
def spBag (K : PySem.W.Frag) : Sp := fun vs H Q _ => ∃ (a : Addr) (ns : List Int), vs = [.ref a] ∧ SqL K H a (ns.map V.int) ∧ ns.length ≤ 63 ∧ ∀ H' p c, Same H H' → H p = none → BagAt H' p c → Q (.ref p) H'
def spTake : Sp := fun vs H Q _ => ∃ (p q : Addr) (many : Int), vs = [.ref p, .int many] ∧ BagAt H p q ∧ 0 < many ∧ many ≤ 1000000000000000001 ∧ ∀ H' v, Kp p H H' → BagAt H' p q → 0 ≤ v → v < many → Q (.int v) H'
section
variable {P : Program} {w : World} {K : PySem.W.Frag} {mg : Str → Option Value} {base : Heap} {f C : Addr} {fd : FuncData}
theorem ok_bag (F : FnP K "_law_bag" "_law_bag" sBag f fd) (B : Nb mg) : FnOk P w K mg base CX0 1 f fd ["_law_script"] (spBag K) := by
  refine ok0 F scBag (fun vs H Q E h => ?_) (fun cdv A outer s H vs Q E hr h => ?_)
  · obtain ⟨a, ns, rfl, _⟩ := h
    rfl
  · obtain ⟨a, ns, rfl, ha, hlen, hQ⟩ := h
    refine ⟨_, pss_one (ps_ret (pe_lst (pa_cons pe_int (pa_cons pe_int (pa_cons pe_int (pa_cons (pe_lc (own := [("_law_cell", 1)]) (g := gName 1) rfl scBag.nd (pi_list (pe_slice sl_list (pv 0) po_none (po_some pe_int))) (blkOk_by (own := [("_law_cell", 1)]) (N := ["_law_script", "_law_cell"]) (sc := defScope sBag) (by decide +kernel))
      (fun _ _ _ _ _ => pg_name (i := 1) scBag.nd rfl (Or.inl rfl)) (fun _ _ _ _ _ => pts_nil) (fun _ _ _ _ _ => pe_callB call_abs (by rfl) B.abs (by decide +kernel) (pa_cons (pv 1) pa_nil))) pa_nil)))))), ?_⟩
    refine ⟨_, rfl, 63, rfl, a, _, rfl, ha, fun l nl => ?_⟩
    refine ⟨l, rfl, ⟨_, SqL.of upd_same⟩, fun D hD => lc_list (K := K) (a := l) (xs := cutV (ns.map V.int) none (some 63)) (fun i H' => Same (upd H l (.lst (cutV (ns.map V.int) none (some 63)))) H' ∧ ∃ cells : List Int, H' D = some (.lst (cells.map V.int)) ∧ cells.length = i ∧ ∀ v ∈ cells, 0 ≤ v)
      ⟨same_new hD, [], upd_same, rfl, fun v hv => (by cases hv)⟩ (fun i H' _ p => p.1.seq (SqL.of upd_same)) ?_ ?_⟩
    · rintro i y H' hi ⟨sm, cells, hD', hl, hv⟩
      have hlt := (List.getElem?_eq_some_iff.mp hi).1
      have hle := cutV_length (ns.map V.int) none (some 63)
      rw [List.length_map] at hle
      obtain ⟨v, hm, rfl⟩ := List.mem_map.mp (mem_cut (List.mem_of_getElem? hi))
      refine ⟨rfl, turn_yes ⟨_, rfl, v, rfl, _, hD', line1000 (by rw [List.length_map]; omega), same_upd sm hD, cells ++ [if v < 0 then -v else v], ?_, by rw [List.length_append, hl]; rfl, fun z hz => ?_⟩⟩
      · rw [upd_same]
        exact congrArg (fun z => some (HO.lst z)) (by simp)
      · rcases List.mem_append.mp hz with hz | hz
        · exact hv z hz
        · rw [List.mem_singleton.mp hz]
          split <;> omega
    · rintro H' ⟨sm, cells, hD', hl, hv⟩
      refine ⟨(by show 4 ≤ sizeLine; decide), fun p hp => ?_⟩
      have s1 : Same H H' := (same_new nl).trans sm
      refine hQ _ p D (same_upd s1 (s1.free hp)) (s1.free hp) ⟨0, 1234567891, 0, cells, upd_same, by rw [upd_ne (ne_of_none hD' hp)]; exact hD', by decide, by decide, by decide, by decide, hv⟩
theorem ok_take (F : FnP K "_law_take" "_law_take" sTake f fd) (B : Nb mg) : FnOk P w K mg base CX0 1 f fd ["_law_bag_here", "_law_many"] spTake := by
  refine ok0 F scTake (fun vs H Q E h => ?_) (fun cdv A outer s H vs Q E hr h => ?_)
  · obtain ⟨p, q, many, rfl, _⟩ := h
    rfl
  · obtain ⟨p, q, many, rfl, ⟨a, b, c, cells, hB⟩, hm0, hm1, hQ⟩ := h
    refine ⟨_, C8.pss_cut (ps_if (pt_cmpR op_eq (pe_ix ix_list (pv 0) pe_int (fun _ _ => rfl)) pe_int (nomark _))
        (pss_cons (ps_set (i := 2) scTake.nd rfl (Or.inl rfl) pe_int)
        (C8.pss_cut (ps_if (pt_cmpR op_lt (pe_ix ix_list (pv 0) pe_int (fun _ _ => rfl)) (pe_callB call_len_seq (by rfl) B.len PySem.boot_len (pa_cons (pe_ix ix_list (pv 0) pe_int (fun _ _ => rfl)) pa_nil)) (nomark _))
          (pss_one (ps_set (i := 2) scTake.nd rfl (Or.inl rfl) (pe_ix ix_list (pe_ix ix_list (pv 0) pe_int (fun _ _ => rfl)) (pe_ix ix_list (pv 0) pe_int (fun _ _ => rfl)) (fun _ _ => rfl)))) pss_nil)
        (pss_cons (ps_augS (pv 0) pe_int get_list pe_int ip_add set_list)
        (C8.pss_cut (ps_if (pt_cmpR op_ge (pv 2) pe_int (nomark _)) (pss_one (ps_asg (pv 2) (pg_sub (pv 0) pe_int set_list))) pss_nil)
        (pss_one (ps_asg (pe_op op_mod (pe_op op_add (pe_op op_add (pe_op op_mul (pe_ix ix_list (pv 0) pe_int (fun _ _ => rfl)) pe_int) (pe_op op_mod (pv 2) pe_int)) (pe_op op_mul pe_int (pe_ix ix_list (pv 0) pe_int (fun _ _ => rfl)))) pe_int) (pg_sub (pv 0) pe_int set_list))))))) pss_nil)
      (pss_cons (ps_if (pt_cmpR op_gt (pe_ix ix_list (pv 0) pe_int (fun _ _ => rfl)) pe_int (nomark _))
        (pss_cons (ps_set (i := 3) scTake.nd rfl (Or.inl rfl) (pe_op op_mod (pe_ix ix_list (pv 0) pe_int (fun _ _ => rfl)) (pv 1)))
        (pss_cons (ps_asg (pe_op op_fdivW (pe_ix ix_list (pv 0) pe_int (fun _ _ => rfl)) (pv 1)) (pg_sub (pv 0) pe_int set_list))
        (pss_one (ps_ret (pv 3))))) pss_nil)
      (pss_cons (ps_set (i := 4) scTake.nd rfl (Or.inl rfl) (pe_op op_mod (pe_op op_mul (pe_op op_add (pe_ix ix_list (pv 0) pe_int (fun _ _ => rfl)) pe_int) pe_int) pe_int))
      (pss_cons (ps_set (i := 5) scTake.nd rfl (Or.inl rfl) (pe_op op_mod (pe_op op_mul (pe_op op_mod (pe_op op_mul (pv 4) (pv 4)) pe_int) pe_int) pe_int))
      (pss_cons (ps_if (pt_cmpR op_gt (pv 1) pe_int (nomark _)) (pss_one (ps_ret (pe_op op_mod (pe_op op_add (pe_op op_mul (pv 5) pe_int) (pv 4)) (pv 1)))) pss_nil)
      (pss_one (ps_ret (pe_op op_mod (pe_op op_fdiv (pv 5) pe_int) (pv 1)))))))), ?_⟩
    refine ⟨fun σ' H' => Kp p H H' ∧ BagAt H' p q ∧ ∃ v2, σ' = [some (.ref p), some (.int many), v2, none, none, none], ?_, ?_⟩
    · -- a number is drawn from the script
      refine ⟨_, rfl, p, _, 0, _, rfl, rfl, SqL.of hB.at_, atI_nat (j := 0) rfl, rfl, _, rfl, ?_⟩
      refine ite2 (fun _ => ?_) (fun _ => ?_)
      · refine ⟨fun σ' H' => H' = H ∧ ∃ v, 0 ≤ v ∧ σ' = [some (.ref p), some (.int many), some (.int v), none, none, none], ?_, ?_⟩
        · refine ⟨_, rfl, p, _, 2, _, rfl, rfl, SqL.of hB.at_, atI_nat (j := 2) rfl, _, rfl, p, _, 3, _, rfl, rfl, SqL.of hB.at_, atI_nat (j := 3) rfl, q, _, rfl, .inl (SqL.of hB.cl), _, _, rfl, rfl, _, rfl, ?_⟩
          refine ite2 (fun h1 => ?_) (fun _ => ?_)
          · have h2 : c < ((cells.map V.int).length : Int) := of_decide_eq_true h1
            rw [List.length_map] at h2
            have hc0 := hB.c0
            obtain ⟨j, rfl⟩ := Int.eq_ofNat_of_zero_le hc0
            have hj : j < cells.length := by omega
            refine ⟨_, rfl, p, _, 3, _, rfl, rfl, SqL.of hB.at_, atI_nat (j := 3) rfl, _, rfl, p, _, 2, _, rfl, rfl, SqL.of hB.at_, atI_nat (j := 2) rfl, q, _, _, .int (cells[j]), rfl, rfl, SqL.of hB.cl, atI_nat (j := j) (by rw [List.getElem?_map, List.getElem?_eq_getElem hj]; rfl), ?_⟩
            exact ⟨rfl, cells[j], hB.v0 _ (List.getElem_mem hj), rfl⟩
          · exact ⟨rfl, 0, by decide, rfl⟩
        · rintro σ' H' ⟨e0, v, hv, rfl⟩
          have e1 := e0.symm
          subst e1
          have hc0 := hB.c0
          refine ⟨_, rfl, p, _, 2, _, rfl, rfl, SqL.of hB.at_, rfl, c, 1, rfl, rfl, p, _, 2, 2, rfl, rfl, hB.at_, rfl, ?_⟩
          have hB2 := hB.put hB.a0 hB.b0 hB.b1 (show 0 ≤ c + 1 by omega)
          refine ⟨fun σ' H2 => Kp p H H2 ∧ (∃ a', Bag4 H2 p a' b (c + 1) q cells) ∧ σ' = [some (.ref p), some (.int many), some (.int v), none, none, none], ?_, ?_⟩
          · refine ⟨_, rfl, _, _, rfl, rfl, _, rfl, ?_⟩
            refine ite2 (fun _ => ?_) (fun _ => ?_)
            · refine ⟨_, rfl, _, rfl, p, _, 0, 0, rfl, rfl, hB2.at_, rfl, ?_⟩
              exact ⟨kp_upd (kp_upd (Kp.refl _ _)), ⟨v, hB2.put hv hB.b0 hB.b1 (show 0 ≤ c + 1 by omega)⟩, rfl⟩
            · exact ⟨kp_upd (Kp.refl _ _), ⟨a, hB2⟩, rfl⟩
          · rintro σ' H2 ⟨kp2, ⟨a', hB3⟩, rfl⟩
            refine ⟨_, rfl, p, _, 1, _, rfl, rfl, SqL.of hB3.at_, atI_nat (j := 1) rfl, b, 48271, rfl, rfl, .inr ⟨by decide, by decide⟩, _, rfl, v, 2147483647, rfl, rfl, (by show (0 : Int) < 2147483647; decide), _, _, rfl, rfl, _, rfl, p, _, 2, _, rfl, rfl, SqL.of hB3.at_, atI_nat (j := 2) rfl, 7919, _, rfl, rfl, .inl ⟨by decide, by decide⟩, _, _, rfl, rfl, _, 2147483647, rfl, rfl, (by show (0 : Int) < 2147483647; decide), ?_⟩
            refine ⟨_, rfl, p, _, 1, 1, rfl, rfl, hB3.at_, rfl, ?_⟩
            refine ⟨kp_upd kp2, ⟨_, _, _, _, hB3.put hB3.a0 (Int.emod_nonneg _ (by decide)) (Int.lt_trans (Int.emod_lt_of_pos _ (by decide)) (by decide)) hB3.c0⟩, _, rfl⟩
      · exact ⟨Kp.refl _ _, ⟨a, b, c, cells, hB⟩, _, rfl⟩
    · rintro σ' H1 ⟨kp1, ⟨a1, b1, c1, cells1, hB1⟩, v2, rfl⟩
      have ha0 := hB1.a0
      have hb0 := hB1.b0
      have hb1 := hB1.b1
      refine ⟨_, rfl, p, _, 0, _, rfl, rfl, SqL.of hB1.at_, atI_nat (j := 0) rfl, _, _, rfl, rfl, _, rfl, ?_⟩
      refine ite2 (fun _ => ?_) (fun _ => ?_)
      · refine ⟨_, rfl, p, _, 0, _, rfl, rfl, SqL.of hB1.at_, atI_nat (j := 0) rfl, _, rfl, a1, many, rfl, rfl, hm0, ?_⟩
        refine ⟨_, rfl, p, _, 0, _, rfl, rfl, SqL.of hB1.at_, atI_nat (j := 0) rfl, _, rfl, a1, many, rfl, rfl, wide_div (b := 64) hm0 (by omega) (by decide) (by decide), ?_⟩
        refine ⟨_, rfl, p, _, 0, 0, rfl, rfl, hB1.at_, rfl, _, rfl, ?_⟩
        exact hQ _ _ (kp_upd kp1) ⟨_, _, _, _, hB1.put (Int.ediv_nonneg ha0 (Int.le_of_lt hm0)) hb0 hb1 hB1.c0⟩ (Int.emod_nonneg _ (by omega)) (Int.emod_lt_of_pos _ hm0)
      · refine ⟨_, rfl, p, _, 1, _, rfl, rfl, SqL.of hB1.at_, atI_nat (j := 1) rfl, b1, 1, rfl, rfl, _, 39373, rfl, rfl, .inr ⟨by decide, by decide⟩, _, 1000000007, rfl, rfl, (by show (0 : Int) < 1000000007; decide), ?_⟩
        have f0 : 0 ≤ (b1 + 1) * 39373 % 1000000007 := Int.emod_nonneg _ (by decide)
        have f1 : (b1 + 1) * 39373 % 1000000007 < 1000000007 := Int.emod_lt_of_pos _ (by decide)
        generalize hf : (b1 + 1) * 39373 % 1000000007 = first at f0 f1
        have s0 : 0 ≤ first * first % 998244353 := Int.emod_nonneg _ (by decide)
        have s1 : first * first % 998244353 < 998244353 := Int.emod_lt_of_pos _ (by decide)
        refine ⟨_, rfl, _, rfl, first, first, congrArg V.int hf, congrArg V.int hf, .inl ⟨by omega, by omega⟩, _, 998244353, rfl, rfl, (by show (0 : Int) < 998244353; decide), _, 30011, rfl, rfl, .inl ⟨by omega, by omega⟩, _, 998244353, rfl, rfl, (by show (0 : Int) < 998244353; decide), ?_⟩
        have t0 : 0 ≤ first * first % 998244353 * 30011 % 998244353 := Int.emod_nonneg _ (by decide)
        have t1 : first * first % 998244353 * 30011 % 998244353 < 998244353 := Int.emod_lt_of_pos _ (by decide)
        refine ⟨_, rfl, many, 1000000, rfl, rfl, _, rfl, ?_⟩
        refine ite2 (fun _ => ?_) (fun _ => ?_)
        · refine ⟨_, rfl, _, 1000000007, rfl, rfl, .inr ⟨by decide, by decide⟩, _, rfl, _, _, rfl, rfl, _, rfl, _, many, rfl, rfl, hm0, ?_⟩
          exact hQ _ _ kp1 ⟨_, _, _, _, hB1⟩ (Int.emod_nonneg _ (by omega)) (Int.emod_lt_of_pos _ hm0)
        · refine ⟨_, rfl, _, 7, rfl, rfl, ⟨by decide, by decide⟩, _, rfl, _, many, rfl, rfl, hm0, ?_⟩
          exact hQ _ _ kp1 ⟨_, _, _, _, hB1⟩ (Int.emod_nonneg _ (by omega)) (Int.emod_lt_of_pos _ hm0)
end
end Bw

set_option maxHeartbeats 4000000
namespace Bw
open PySem PySem.Spec PyProof.Rows L2
theorem BagAt.lst {H : Hp} {p q : Addr} (h : BagAt H p q) : ∃ ws, H p = some (.lst ws) := by
  obtain ⟨a, b, c, cells, h⟩ := h
  exact ⟨_, h.at_⟩
theorem RowsOk.kp {n : Nat} {rs : List Row3} {H H' : Hp} {p cA : Addr} (h : RowsOk n rs H) (hb : BagAt H p cA) (k : Kp p H H') : RowsOk n rs H' := fun r hr => by
  obtain ⟨h1, h2⟩ := h r hr
  obtain ⟨ws, hp⟩ := hb.lst
  exact ⟨k _ _ (ne_of h1 hp (by intro q; cases q)) h1, h2⟩
def spLPlaces : Sp := fun vs H Q _ => ∃ (p cA : Addr) (lo hi : Int), vs = [.ref p, .int lo, .int hi] ∧ BagAt H p cA ∧ lo ≤ hi ∧ hi - lo ≤ 1000 ∧ ∀ H' v, Kp p H H' → BagAt H' p cA → lo ≤ v → v ≤ hi → Q (.int v) H'
def spLPrice : Sp := fun vs H Q _ => ∃ (p cA : Addr), vs = [.ref p] ∧ BagAt H p cA ∧ ∀ H' v, Kp p H H' → BagAt H' p cA → 0 ≤ v → v ≤ 1000000000000000000 → Q (.int v) H'
def spLGates : Sp := fun vs H Q _ => ∃ (p cA : Addr) (n m : Nat), vs = [.ref p, .int (n : Int), .int (m : Int)] ∧ BagAt H p cA ∧ 1 ≤ n ∧ n ≤ 12 ∧ m ≤ 400 ∧
  ∀ H' q gs, Kp p H H' → BagAt H' p cA → H q = none → H' q = some (.lst (gs.map V.int)) → gs.length ≤ m → Bm.Gates n gs → Q (.ref q) H'
def spLComparisons : Sp := fun vs H Q _ => ∃ (p cA : Addr) (n m : Nat), vs = [.ref p, .int (n : Int), .int (m : Int)] ∧ BagAt H p cA ∧ 1 ≤ n ∧ n ≤ 12 ∧ m ≤ 400 ∧
  ∀ H' q rs, Kp p H H' → BagAt H' p cA → H q = none → H' q = some (.lst (refs rs)) → rs.length ≤ m → RowsOk n rs H' → Q (.ref q) H'
section
variable {P : Program} {w : World} {K : PySem.W.Frag} {mg : Str → Option Value} {base : Heap} {f C : Addr} {fd : FuncData}
theorem ok_lplaces (F : FnP K "_law_places" "_law_places" sLPlaces f fd) (T1 : Cal P w K mg base 1 "_law_take" ["_law_bag_here", "_law_many"] spTake) : FnOk P w K mg base CX0 2 f fd ["_law_bag_here", "_law_least", "_law_most"] spLPlaces := by
  refine ok0 F scLPlaces (fun vs H Q E h => ?_) (fun cdv A outer s H vs Q E hr h => ?_)
  · obtain ⟨p, cA, lo, hi, rfl, _⟩ := h
    rfl
  · obtain ⟨p, cA, lo, hi, rfl, hB, h1, h2, hQ⟩ := h
    refine ⟨_, pss_one (ps_ret (pe_op op_add (pv 1) (pe_cal T1 hr (by rfl) (pa_cons (pv 0) (pa_cons (pe_op op_add (pe_op op_sub (pv 2) (pv 1)) pe_int) pa_nil))))), ?_⟩
    refine ⟨_, rfl, _, rfl, _, rfl, _, rfl, _, _, rfl, rfl, _, 1, rfl, rfl, p, cA, _, rfl, hB, (by omega), (by omega), fun H' v k1 b1 v0 v1 => ?_⟩
    exact ⟨_, _, rfl, rfl, hQ H' _ k1 b1 (by omega) (by omega)⟩
theorem ok_lprice (F : FnP K "_law_price" "_law_price" sLPrice f fd) (T1 : Cal P w K mg base 1 "_law_take" ["_law_bag_here", "_law_many"] spTake) : FnOk P w K mg base CX0 2 f fd ["_law_bag_here"] spLPrice := by
  refine ok0 F scLPrice (fun vs H Q E h => ?_) (fun cdv A outer s H vs Q E hr h => ?_)
  · obtain ⟨p, cA, rfl, _⟩ := h
    rfl
  · obtain ⟨p, cA, rfl, hB, hQ⟩ := h
    refine ⟨_, pss_one (ps_ret (pe_ix ix_list (pe_lst (pa_cons pe_int (pa_cons (pe_cal T1 hr (by rfl) (pa_cons (pv 0) (pa_cons pe_int pa_nil))) (pa_cons (pe_cal T1 hr (by rfl) (pa_cons (pv 0) (pa_cons (pe_op op_add (pe_op op_pow pe_int pe_int) pe_int) pa_nil)))
      (pa_cons (pe_op op_pow pe_int pe_int) pa_nil))))) (pe_cal T1 hr (by rfl) (pa_cons (pv 0) (pa_cons pe_int pa_nil))) (fun _ _ => rfl))), ?_⟩
    have e18 : (10 : Int) ^ (18 : Int).toNat = 1000000000000000000 := by decide
    refine ⟨_, rfl, p, cA, 4, rfl, hB, (by decide), (by decide), fun H1 v1 k1 b1 l1 u1 => ?_⟩
    refine ⟨_, rfl, 10, 18, rfl, rfl, ⟨by decide, by decide, by decide⟩, _, 1, rfl, rfl, p, cA, _, rfl, b1, (by rw [e18]; decide), (by rw [e18]; decide), fun H2 v2 k2 b2 l2 u2 => ?_⟩
    rw [e18] at u2
    refine ⟨10, 18, rfl, rfl, ⟨by decide, by decide, by decide⟩, (by show 4 ≤ sizeLine; decide), fun l nl => ?_⟩
    obtain ⟨ws, hp2⟩ := b2.lst
    have nlp : l ≠ p := (ne_of_none hp2 nl).symm
    refine ⟨_, rfl, p, cA, 4, rfl, b2.same (same_new nl), (by decide), (by decide), fun H3 v3 k3 b3 l3 u3 => ?_⟩
    have hl3 := k3 _ _ nlp (upd_same (H := H2) (a := l))
    have kk : Kp p H H3 := fun b o hb h => by
      have h2 := k2 b o hb (k1 b o hb h)
      exact k3 b o hb (by rw [upd_ne (ne_of_none h2 nl)]; exact h2)
    have c4 : v3 = 0 ∨ v3 = 1 ∨ v3 = 2 ∨ v3 = 3 := by omega
    rcases c4 with rfl | rfl | rfl | rfl
    · exact ⟨l, _, 0, _, rfl, rfl, SqL.of hl3, atI_nat (j := 0) rfl, hQ H3 1 kk b3 (by decide) (by decide)⟩
    · exact ⟨l, _, 1, _, rfl, rfl, SqL.of hl3, atI_nat (j := 1) rfl, hQ H3 v1 kk b3 l1 (by omega)⟩
    · exact ⟨l, _, 2, _, rfl, rfl, SqL.of hl3, atI_nat (j := 2) rfl, hQ H3 v2 kk b3 l2 (by omega)⟩
    · exact ⟨l, _, 3, _, rfl, rfl, SqL.of hl3, atI_nat (j := 3) rfl, hQ H3 _ kk b3 (by rw [e18]; decide) (by rw [e18]; decide)⟩
theorem ok_lgates (F : FnP K "_law_gates" "_law_gates" sLGates f fd) (B : Nb mg) (T1 : Cal P w K mg base 1 "_law_take" ["_law_bag_here", "_law_many"] spTake) : FnOk P w K mg base CX0 2 f fd ["_law_bag_here", "_law_places_here", "_law_most"] spLGates := by
  refine ok0 F scLGates (fun vs H Q E h => ?_) (fun cdv A outer s H vs Q E hr h => ?_)
  · obtain ⟨p, cA, n, m, rfl, _⟩ := h
    rfl
  · obtain ⟨p, cA, n, m, rfl, hB, hn1, hn12, hm, hQ⟩ := h
    have nd := scLGates.nd
    refine ⟨_, pss_cons (ps_par (i := 3) (j := 4) (by rfl) nd rfl rfl (by decide) rfl rfl (pa_cons (pe_cal T1 hr (by rfl) (pa_cons (pv 0) (pa_cons pe_int pa_nil))) (pa_cons (pe_cal T1 hr (by rfl) (pa_cons (pv 0) (pa_cons pe_int pa_nil))) pa_nil)) (by rfl))
      (pss_cons (ps_set (i := 5) nd rfl (Or.inl rfl) (pe_lst pa_nil))
      (pss_cons (ps_for PassesOwn.never rfl (pi_range1 (by rfl) B.range (pa_cons (pe_op op_mul (pe_cal T1 hr (by rfl) (pa_cons (pv 0) (pa_cons (pe_op op_add (pv 2) pe_int) pa_nil))) (pe_callTy call_int1 (by rfl) B.int (by decide +kernel) (pa_cons (pe_cmpR op_gt (pv 1) pe_int (nomark _)) pa_nil))) pa_nil)) (pg_name (i := 6) nd rfl (Or.inl rfl))
        (pss_cons (ps_set (i := 7) nd rfl (Or.inl rfl) (pe_op op_add pe_int (pe_cal T1 hr (by rfl) (pa_cons (pv 0) (pa_cons (pe_op op_sub (pv 1) pe_int) pa_nil)))))
        (C8.pss_cut (ps_if (pt_cmpR op_eq (pv 3) pe_int (nomark _)) (pss_one (ps_set (i := 7) nd rfl (Or.inl rfl) (pe_op op_add pe_int (pe_op op_mod (pe_op op_add (pv 4) (pv 6)) (pe_op op_sub (pv 1) pe_int))))) pss_nil)
        (C8.pss_cut (ps_if (pt_cmpR op_eq (pv 3) pe_int (nomark _)) (pss_one (ps_set (i := 7) nd rfl (Or.inl rfl) (pe_op op_sub (pe_op op_sub (pv 1) pe_int) (pe_op op_mod (pe_op op_add (pv 4) (pv 6)) (pe_op op_sub (pv 1) pe_int))))) pss_nil)
        (C8.pss_cut (ps_if (PW.pt (pw_and (pt_cmpR op_eq (pv 3) pe_int (nomark _)) (pw_and1 (pt_cmpR op_gt (pe_op op_mod (pv 7) pe_int) pe_int (nomark _))))) (pss_one (ps_set (i := 7) nd rfl (Or.inl rfl) (pe_op op_add pe_int (pe_op op_mod (pe_op op_add (pv 4) (pe_op op_mod (pv 6) pe_int)) (pe_op op_sub (pv 1) pe_int))))) pss_nil)
        (pss_one (ps_expr (pe_bm PySem.F.plainAttrs_list PySem.F.slot_list_append PySem.F.type_list_append mt_append (pv 5) (pa_cons (pv 7) pa_nil)))))))))
      (pss_one (ps_ret (pv 5))))), ?_⟩
    refine ⟨_, rfl, p, cA, 4, rfl, hB, (by decide), (by decide), fun H1 way k1 b1 w0 w1 => ?_⟩
    refine ⟨_, rfl, p, cA, 12, rfl, b1, (by decide), (by decide), fun H2 at_ k2 b2 a0 a1 => ?_⟩
    refine ⟨_, _, rfl, Nat.zero_le _, fun q nq => ?_⟩
    have k12 : Kp p H H2 := k1.trans k2
    obtain ⟨ws2, hp2⟩ := b2.lst
    have nqp : q ≠ p := (ne_of_none hp2 nq).symm
    have hqH : H q = none := by
      cases e : H q with
      | none => rfl
      | some o =>
        rw [k12 q o nqp e] at nq
        cases nq
    have b3 := b2.same (same_new (o := .lst []) nq)
    refine ⟨_, rfl, _, rfl, m, 1, rfl, rfl, p, cA, _, rfl, b3, (by omega), (by omega), fun H4 t k4 b4 t0 t1 => ?_⟩
    have hq4 : H4 q = some (.lst []) := k4 _ _ nqp upd_same
    have kk4 : Kp p H H4 := fun b o hb h => by
      have h2 := k12 b o hb h
      exact k4 b o hb (by rw [upd_ne (ne_of_none h2 nq)]; exact h2)
    refine ⟨_, rfl, n, 1, rfl, rfl, .inr ⟨_, rfl, ?_⟩⟩
    have hN : ∃ N : Nat, t * (if decide ((1 : Int) < (n : Int)) = true then 1 else 0) = (N : Int) ∧ N ≤ m ∧ (0 < N → 1 < n) := by
      by_cases hc : (1 : Int) < (n : Int)
      · rw [if_pos (decide_eq_true hc), Int.mul_one]
        exact ⟨t.toNat, by omega, by omega, fun _ => by omega⟩
      · rw [if_neg (by rw [decide_eq_false hc]; exact Bool.false_ne_true), Int.mul_zero]
        exact ⟨0, rfl, Nat.zero_le _, fun h => absurd h (by decide)⟩
    obtain ⟨N, eN, hNm, hN1⟩ := hN
    refine ⟨t, _, rfl, rfl, .inr ⟨by split <;> decide, by split <;> decide⟩, _, congrArg (fun z => [V.int z]) eN, (by omega), (by omega), ?_⟩
    rw [Int.toNat_natCast]
    refine for_range (n := N) (fun i σ H' => Kp p H H' ∧ BagAt H' p cA ∧ ∃ gs v6 v7, σ = [some (.ref p), some (.int (n : Int)), some (.int (m : Int)), some (.int way), some (.int at_), some (.ref q), v6, v7] ∧ H' q = some (.lst (gs.map V.int)) ∧ gs.length = i ∧ Bm.Gates n gs)
      ⟨kk4, b4, [], none, none, rfl, hq4, rfl, fun g hg => (by cases hg)⟩ ?_ ?_
    · rintro i σ H5 hi ⟨kk5, b5, gs, v6, v7, rfl, hq5, hl5, hg5⟩
      have hn2 : 1 < n := hN1 (by omega)
      refine ⟨_, rfl, _, rfl, n, 1, rfl, rfl, p, cA, _, rfl, b5, (by omega), (by omega), fun H6 g k6 b6 g0 g1 => ?_⟩
      refine ⟨1, g, rfl, rfl, ?_⟩
      have hq6 := k6 _ _ nqp hq5
      have kk6 := kk5.trans k6
      have md0 : ∀ x : Int, 0 ≤ x % ((n : Int) - 1) := fun x => Int.emod_nonneg _ (by omega)
      have md1 : ∀ x : Int, x % ((n : Int) - 1) < (n : Int) - 1 := fun x => Int.emod_lt_of_pos _ (by omega)
      refine ⟨fun σ' H' => H6 = H' ∧ ∃ g : Int, 1 ≤ g ∧ g < n ∧ σ' = [some (.ref p), some (.int (n : Int)), some (.int (m : Int)), some (.int way), some (.int at_), some (.ref q), some (.int (0 + (i : Nat))), some (.int g)], ?_, ?_⟩
      · refine ⟨_, rfl, rfl, _, rfl, ite2 (fun _ => ?_) (fun _ => ⟨rfl, _, by omega, by omega, rfl⟩)⟩
        have z0 := md0 (at_ + (0 + (i : Nat)))
        have z1 := md1 (at_ + (0 + (i : Nat)))
        exact ⟨_, rfl, _, rfl, _, _, rfl, rfl, _, rfl, _, _, rfl, rfl, _, _, rfl, rfl, (by show (0 : Int) < (n : Int) - 1; omega), _, _, rfl, rfl, rfl, _, by omega, by omega, rfl⟩
      · rintro σ' H' ⟨rfl, g, hg1, hg2, rfl⟩
        refine ⟨fun σ' H' => H6 = H' ∧ ∃ g : Int, 1 ≤ g ∧ g < n ∧ σ' = [some (.ref p), some (.int (n : Int)), some (.int (m : Int)), some (.int way), some (.int at_), some (.ref q), some (.int (0 + (i : Nat))), some (.int g)], ?_, ?_⟩
        · refine ⟨_, rfl, rfl, _, rfl, ite2 (fun _ => ?_) (fun _ => ⟨rfl, _, hg1, hg2, rfl⟩)⟩
          have z0 := md0 (at_ + (0 + (i : Nat)))
          have z1 := md1 (at_ + (0 + (i : Nat)))
          exact ⟨_, rfl, _, _, rfl, rfl, _, rfl, _, rfl, _, _, rfl, rfl, _, rfl, _, _, rfl, rfl, _, _, rfl, rfl, (by show (0 : Int) < (n : Int) - 1; omega), _, _, rfl, rfl, rfl, _, by omega, by omega, rfl⟩
        · rintro σ' H' ⟨rfl, g, hg1, hg2, rfl⟩
          refine ⟨fun σ' H' => H6 = H' ∧ ∃ g : Int, 1 ≤ g ∧ g < n ∧ σ' = [some (.ref p), some (.int (n : Int)), some (.int (m : Int)), some (.int way), some (.int at_), some (.ref q), some (.int (0 + (i : Nat))), some (.int g)], ?_, ?_⟩
          · refine ⟨_, rfl, rfl, _, rfl, ite2 (fun _ => ?_) (fun _ => iteF ⟨rfl, _, hg1, hg2, rfl⟩)⟩
            refine ⟨_, rfl, g, 3, rfl, rfl, (by show (0 : Int) < 3; decide), _, _, rfl, rfl, _, rfl, ite2 (fun _ => ?_) (fun _ => ⟨rfl, _, hg1, hg2, rfl⟩)⟩
            have z0 := md0 (at_ + (0 + (i : Nat) : Int) % 2)
            have z1 := md1 (at_ + (0 + (i : Nat) : Int) % 2)
            exact ⟨_, rfl, _, rfl, _, 2, rfl, rfl, (by show (0 : Int) < 2; decide), _, _, rfl, rfl, _, rfl, _, _, rfl, rfl, _, _, rfl, rfl, (by show (0 : Int) < (n : Int) - 1; omega), _, _, rfl, rfl, rfl, _, by omega, by omega, rfl⟩
          · rintro σ' H' ⟨rfl, g, hg1, hg2, rfl⟩
            refine ⟨_, rfl, .inl ⟨rfl, _, SqL.of hq6⟩, _, rfl, q, _, _, rfl, rfl, hq6, line1000 (by rw [List.length_map]; omega), ?_⟩
            have s6 : Kp p H (upd H6 q (.lst (gs.map V.int ++ [.int g]))) := fun b o hb h => by
              rw [upd_ne fun z => by rw [z, hqH] at h; cases h]
              exact kk6 b o hb h
            refine ⟨s6, b6.upd (b2.apart nq).1 (b2.apart nq).2, gs ++ [g], _, _, rfl, by rw [upd_same, List.map_append]; rfl, by rw [List.length_append, hl5]; rfl, fun z hz => ?_⟩
            rcases List.mem_append.mp hz with hz | hz
            · exact hg5 z hz
            · rw [List.mem_singleton.mp hz]
              exact ⟨hg1, hg2⟩
    · rintro σ H5 ⟨kk5, b5, gs, v6, v7, rfl, hq5, hl5, hg5⟩
      exact ⟨_, rfl, hQ H5 q gs kk5 b5 hqH hq5 (by omega) hg5⟩
theorem ok_lcomparisons (F : FnP K "_law_comparisons" "_law_comparisons" sLComparisons f fd) (B : Nb mg) (T1 : Cal P w K mg base 1 "_law_take" ["_law_bag_here", "_law_many"] spTake) (T2 : Cal P w K mg base 2 "_law_price" ["_law_bag_here"] spLPrice)
    (T3 : Cal P w K mg base 2 "_law_gates" ["_law_bag_here", "_law_places_here", "_law_most"] spLGates) : FnOk P w K mg base CX0 3 f fd ["_law_bag_here", "_law_places_here", "_law_most"] spLComparisons := by
  refine ok0 F scLComparisons (fun vs H Q E h => ?_) (fun cdv A outer s H vs Q E hr h => ?_)
  · obtain ⟨p, cA, n, m, rfl, _⟩ := h
    rfl
  · obtain ⟨p, cA, n, m, rfl, hB, hn1, hn12, hm, hQ⟩ := h
    have nd := scLComparisons.nd
    have hr1 : Room 1 _ := hr.mono (by decide)
    refine ⟨_, pss_cons (ps_set (i := 3) nd rfl (Or.inr rfl) (pe_cmpR op_gt (pe_cal T1 hr1 (by rfl) (pa_cons (pv 0) (pa_cons pe_int pa_nil))) pe_int (nomark _)))
      (pss_one (ps_ret (pe_lc (own := [("_law_gate", 4)]) (g := gName 4) (te := tTup (tCons (tVar 4) (tCons (tOp (rIxL K) (tLst (tCons (tC (.int 1)) (tCons (tCall spLPrice [] E0 (tCons (tVar 0) tNil)) tNil))) (tCB _ (tCons (tVar 3) tNil))) tNil))) rfl nd
        (pi_list (pe_cal T3 hr (by rfl) (pa_cons (pv 0) (pa_cons (pv 1) (pa_cons (pv 2) pa_nil))))) (blkOk_by (own := [("_law_gate", 4)]) (N := ["_law_bag_here", "_law_places_here", "_law_most", "_law_dear", "_law_gate"]) (sc := defScope sLComparisons) (by decide +kernel))
        (fun _ _ _ _ _ => pg_name (i := 4) nd rfl (Or.inl rfl)) (fun _ _ _ _ _ => pts_nil) (fun _ _ _ _ _ => pe_tup (pa_cons (pv 4) (pa_cons (pe_ix ix_list (pe_lst (pa_cons pe_int (pa_cons (pe_cal T2 hr (by rfl) (pa_cons (pv 0) pa_nil)) pa_nil)))
          (pe_callTy call_int1 (by rfl) B.int (by decide +kernel) (pa_cons (pv 3) pa_nil)) (fun _ _ => rfl)) pa_nil)))))), ?_⟩
    refine ⟨_, rfl, p, cA, 3, rfl, hB, (by decide), (by decide), fun H1 dv k1 b1 d0 d1 => ?_⟩
    refine ⟨_, _, rfl, rfl, ?_⟩
    refine ⟨_, rfl, _, rfl, _, rfl, p, cA, n, m, rfl, b1, hn1, hn12, hm, fun H2 q gs k2 b2 hq hq2 hlen hG => ?_⟩
    have k12 := k1.trans k2
    have hqc : q ≠ p ∧ q ≠ cA := b1.apart hq
    refine ⟨q, rfl, ⟨_, SqL.of hq2⟩, fun D hD => lc_list (K := K) (a := q) (xs := gs.map V.int) (fun i H' => Kp p H2 H' ∧ BagAt H' p cA ∧ ∃ rs, H' D = some (.lst (refs rs)) ∧ RowsOk n rs H' ∧ rs.length = i)
      ⟨Same.kp (same_new hD), b2.same (same_new hD), [], upd_same, (fun r hr => by cases hr), rfl⟩ (fun i H' _ pv => SqL.of (pv.1 _ _ hqc.1 hq2)) ?_ ?_⟩
    · rintro i x H' hi ⟨k3, b3, rs, hD', hrs, hl⟩
      obtain ⟨g, hg, rfl, hlt⟩ := map_at hi
      obtain ⟨hg1, hg2⟩ := hG g (List.mem_of_getElem? hg)
      refine ⟨rfl, turn_yes ⟨_, rfl, _, rfl, p, cA, rfl, b3, fun H4 price k4 b4 p0 p1 => ?_⟩⟩
      refine ⟨(by show 2 ≤ sizeLine; decide), fun l nl => ?_⟩
      have hDp := (b2.apart hD).1
      have b5 := b4.same (same_new (o := .lst [.int 1, .int price]) nl)
      refine ⟨_, rfl, .inr ⟨_, rfl, ?_⟩⟩
      have fin : ∀ c : Int, 0 ≤ c → c ≤ 1000000000000000000 → ∀ T, (upd H4 l (.lst [.int 1, .int price])) T = none → ∃ acc, upd (upd H4 l (.lst [.int 1, .int price])) T (.tup [.int g, .int c]) D = some (.lst acc) ∧ acc.length < sizeLine ∧
          (Kp p H2 (upd (upd (upd H4 l (.lst [.int 1, .int price])) T (.tup [.int g, .int c])) D (.lst (acc ++ [.ref T]))) ∧ BagAt (upd (upd (upd H4 l (.lst [.int 1, .int price])) T (.tup [.int g, .int c])) D (.lst (acc ++ [.ref T]))) p cA ∧
            ∃ rs, upd (upd (upd H4 l (.lst [.int 1, .int price])) T (.tup [.int g, .int c])) D (.lst (acc ++ [.ref T])) D = some (.lst (refs rs)) ∧ RowsOk n rs (upd (upd (upd H4 l (.lst [.int 1, .int price])) T (.tup [.int g, .int c])) D (.lst (acc ++ [.ref T]))) ∧ rs.length = i + 1) := by
        intro c c0 c1 T nT
        have hD4 := k4 _ _ hDp hD'
        have sA : Same H4 (upd (upd H4 l (.lst [.int 1, .int price])) T (.tup [.int g, .int c])) := (same_new nl).trans (same_new nT)
        have rs4 := (hrs.kp b3 k4).same sA
        have nDT : D ≠ T := fun z => by
          rw [← z, (same_new nl) _ _ hD4] at nT
          cases nT
        refine ⟨_, sA _ _ hD4, line1000 (by rw [List.length_map]; omega), ?_, ?_, rs ++ [(T, g, c)], by rw [upd_same]; exact congrArg (fun z => some (HO.lst z)) (by simp), fun z hz => ?_, by simp [hl]⟩
        · exact fun b o hb hh => by
            rw [upd_ne (ne_of_none hh hD)]
            exact sA _ _ (k4 _ _ hb (k3 _ _ hb hh))
        · exact (b4.same sA).upd (b2.apart hD).1 (b2.apart hD).2
        · rcases List.mem_append.mp hz with hz | hz
          · obtain ⟨z1, z2⟩ := rs4 z hz
            exact ⟨by rw [upd_ne (ne_of z1 (sA _ _ hD4) (by intro q; cases q))]; exact z1, z2⟩
          · rw [List.mem_singleton.mp hz]
            exact ⟨by rw [upd_ne nDT.symm, upd_same], hg1, hg2, c0, c1⟩
      by_cases hd : (0 : Int) < dv
      · rw [decide_eq_true hd]
        exact ⟨l, _, 1, _, rfl, rfl, SqL.of upd_same, atI_nat (j := 1) rfl, (by show 2 ≤ sizeLine; decide), fin price p0 p1⟩
      · rw [decide_eq_false hd]
        exact ⟨l, _, 0, _, rfl, rfl, SqL.of upd_same, atI_nat (j := 0) rfl, (by show 2 ≤ sizeLine; decide), fin 1 (by decide) (by decide)⟩
    · rintro H' ⟨k3, b3, rs, hD', hrs, hl⟩
      rw [List.length_map] at hl
      refine hQ H' D rs (k12.trans k3) b3 ?_ hD' (by omega) hrs
      cases e : H D with
      | none => rfl
      | some o =>
        rw [k12 D o (b2.apart hD).1 e] at hD
        cases hD
end
end Bw

set_option maxHeartbeats 4000000
namespace Bw
open PySem PySem.Spec PyProof.Rows L2
theorem mget {xs : List Int} {j : Nat} (h : j < xs.length) : (xs.map V.int)[j]? = some (.int (xs.getD j 0)) := by
  rw [List.getElem?_map, List.getElem?_eq_getElem h, List.getD_eq_getElem?_getD, List.getElem?_eq_getElem h]
  rfl
theorem mat {xs : List Int} {j : Nat} {i : Int} (e : i = ((j : Nat) : Int)) (h : j < xs.length) : atI (xs.map V.int) i = some (.int (xs.getD j 0)) := by
  rw [e]
  exact atI_nat (mget h)
theorem ixN_n {n j : Nat} (hj : j < n) : ixN n (j : Int) = some j := by
  unfold ixN
  rw [if_pos (by omega), if_pos (by omega), Int.toNat_natCast]
theorem ixm {xs : List Int} {j : Nat} {i : Int} (e : i = ((j : Nat) : Int)) (h : j < xs.length) : ixN (xs.map V.int).length i = some j := by
  rw [e, List.length_map]
  exact ixN_n h
theorem mset {xs : List Int} {j : Nat} {v : Int} : (xs.map V.int).set j (.int v) = (xs.set j v).map V.int := List.map_set.symm
theorem cutm {xs : List Int} {a c : Nat} (h : a ≤ c) (hc : c ≤ xs.length) : cutV (xs.map V.int) (some (a : Int)) (some (c : Int)) = ((xs.drop a).take (c - a)).map V.int := by
  unfold cutV
  have e1 : HT.sIx (xs.map V.int).length 0 (some (a : Int)) = min a (xs.map V.int).length := HT.sIx_nat _ _ _
  have e2 : HT.sIx (xs.map V.int).length (xs.map V.int).length (some (c : Int)) = min c (xs.map V.int).length := HT.sIx_nat _ _ _
  rw [List.length_map] at e1 e2
  rw [List.length_map, e1, e2, Nat.min_eq_left hc, Nat.min_eq_left (Nat.le_trans h hc), List.map_take, List.map_drop]
theorem kp_free {p q : Addr} {H H' : Hp} (k : Kp p H H') (hq : q ≠ p) (h : H' q = none) : H q = none := by
  cases e : H q with
  | none => rfl
  | some o =>
    rw [k q o hq e] at h
    cases h
/-- an address that was free at the start may be written -/
theorem kp_fr {p q : Addr} {H H' : Hp} {o : HO} (k : Kp p H H') (hq : H q = none) : Kp p H (upd H' q o) := fun b u hb h => by
  rw [upd_ne (ne_of_none h hq)]
  exact k b u hb h
def spLOrder : Sp := fun vs H Q _ => ∃ (p cA : Addr) (n : Nat), vs = [.ref p, .int (n : Int)] ∧ BagAt H p cA ∧ 1 ≤ n ∧ n ≤ 12 ∧
  ∀ H' q (xs : List Int), Kp p H H' → BagAt H' p cA → H q = none → H' q = some (.lst (xs.map V.int)) → Bm.IsOrd n xs → Q (.ref q) H'
def spLMisses : Sp := fun vs H Q _ => ∃ (p cA : Addr) (m t : Nat), vs = [.ref p, .int (m : Int), .int (t : Int)] ∧ BagAt H p cA ∧ m ≤ 400 ∧ t ≤ 400 ∧
  ∀ H' q (ms : List Int), Kp p H H' → BagAt H' p cA → H q = none → H' q = some (.lst (ms.map V.int)) → (∀ v ∈ ms, 0 ≤ v ∧ v < (m : Int)) → ms.Pairwise (· < ·) → ms.length ≤ m → Q (.ref q) H'
def spLNear : Sp := fun vs H Q _ => ∃ (p cA l : Addr) (n : Nat) (rs : List Row3), vs = [.ref p, .ref l, .int (n : Int)] ∧ BagAt H p cA ∧ H l = some (.lst (refs rs)) ∧ l ≠ p ∧ RowsOk n rs H ∧ 1 ≤ n ∧ n ≤ 12 ∧
  ∀ H' q (xs : List Int), Kp p H H' → BagAt H' p cA → H q = none → H' q = some (.lst (xs.map V.int)) → Bm.IsOrd n xs → Q (.ref q) H'
section
variable {P : Program} {w : World} {K : PySem.W.Frag} {mg : Str → Option Value} {base : Heap} {f C : Addr} {fd : FuncData}
theorem ok_lorder (F : FnP K "_law_order" "_law_order" sLOrder f fd) (B : Nb mg) (T1 : Cal P w K mg base 1 "_law_take" ["_law_bag_here", "_law_many"] spTake) : FnOk P w K mg base CX0 2 f fd ["_law_bag_here", "_law_places_here"] spLOrder := by
  refine ok0 F scLOrder (fun vs H Q E h => ?_) (fun cdv A outer s H vs Q E hr h => ?_)
  · obtain ⟨p, cA, n, rfl, _⟩ := h
    rfl
  · obtain ⟨p, cA, n, rfl, hB, hn1, hn12, hQ⟩ := h
    have nd := scLOrder.nd
    refine ⟨_, pss_cons (ps_par3 (i := 2) (j := 3) (l := 4) (by rfl) nd rfl rfl rfl (by decide) (by decide) (by decide) rfl rfl rfl (pa_cons (pe_listRg rfl (by rfl) B.list (prg_1 (by rfl) B.range (pv 1))) (pa_cons (pe_lst pa_nil) (pa_cons (pe_cal T1 hr (by rfl) (pa_cons (pv 0) (pa_cons pe_int pa_nil))) pa_nil))) (by rfl))
      (pss_cons (ps_for PassesOwn.never rfl (pi_range1 (by rfl) B.range (pa_cons (pv 1) pa_nil)) (pg_name (i := 5) nd rfl (Or.inl rfl))
        (pss_one (ps_expr (pe_bm PySem.F.plainAttrs_list PySem.F.slot_list_append PySem.F.type_list_append mt_append (pv 3) (pa_cons (pe_bm PySem.F.plainAttrs_list PySem.F.slot_list_pop PySem.F.type_list_pop mt_popAt (pv 2)
          (pa_cons (pe_cal T1 hr (by rfl) (pa_cons (pv 0) (pa_cons (pe_callB call_len_seq (by rfl) B.len PySem.boot_len (pa_cons (pv 2) pa_nil)) pa_nil))) pa_nil)) pa_nil)))))
      (pss_cons (ps_if (pt_cmpR op_eq (pv 4) pe_int (nomark _)) (pss_one (ps_ret (pe_revL (pe_listRg rfl (by rfl) B.list (prg_1 (by rfl) B.range (pv 1)))))) pss_nil)
      (pss_cons (ps_if (pt_cmpR op_eq (pv 4) pe_int (nomark _))
        (pss_cons (ps_set (i := 3) nd rfl (Or.inl rfl) (pe_listRg rfl (by rfl) B.list (prg_1 (by rfl) B.range (pv 1))))
        (pss_one (ps_for PassesOwn.never rfl (pi_range1 (by rfl) B.range (pa_cons (pe_cal T1 hr (by rfl) (pa_cons (pv 0) (pa_cons pe_int pa_nil))) pa_nil)) (pg_name (i := 5) nd rfl (Or.inl rfl))
          (pss_cons (ps_par (i := 6) (j := 7) (by rfl) nd rfl rfl (by decide) rfl rfl (pa_cons (pe_cal T1 hr (by rfl) (pa_cons (pv 0) (pa_cons (pv 1) pa_nil))) (pa_cons (pe_cal T1 hr (by rfl) (pa_cons (pv 0) (pa_cons (pv 1) pa_nil))) pa_nil)) (by rfl))
          (pss_one (ps_asg (pe_tup (pa_cons (pe_ix ix_list (pv 3) (pv 7) (fun _ _ => rfl)) (pa_cons (pe_ix ix_list (pv 3) (pv 6) (fun _ _ => rfl)) pa_nil))) (pg_tup rfl (pgs_cons (pg_sub (pv 3) (pv 6) set_list) (pgs_cons (pg_sub (pv 3) (pv 7) set_list) pgs_nil)))))))))
        pss_nil)
      (pss_one (ps_ret (pv 3)))))), ?_⟩
    refine ⟨_, rfl, _, rfl, RgOk.of_le (by omega) (by omega) (by omega) (by omega), fun L nL => ?_⟩
    obtain ⟨nLp, nLc⟩ := hB.apart nL
    have bL := hB.same (same_new (o := .lst (rgV 0 n)) nL)
    refine ⟨Nat.zero_le _, fun F nF => ?_⟩
    obtain ⟨nFp, nFc⟩ := bL.apart nF
    have hFL : F ≠ L := fun z => by
      rw [z, upd_same] at nF
      cases nF
    have hF0 : H F = none := by
      rw [upd_ne hFL] at nF
      exact nF
    have bF := bL.same (same_new (o := .lst []) nF)
    refine ⟨_, rfl, p, cA, 6, rfl, bF, (by decide), (by decide), fun H1 way k1 b1 w0 w1 => ?_⟩
    refine ⟨_, _, _, rfl, ?_⟩
    have hL1 : H1 L = some (.lst ((Bm.idn n).map V.int)) := k1 _ _ nLp (by rw [upd_ne hFL.symm, upd_same, rgV_idn])
    have hF1 : H1 F = some (.lst (([] : List Int).map V.int)) := k1 _ _ nFp upd_same
    have kk1 : Kp p H H1 := fun b o hb hh => k1 b o hb (by rw [upd_ne (ne_of_none hh hF0), upd_ne (ne_of_none hh nL)]; exact hh)
    refine ⟨_, rfl, _, rfl, (by omega), (by omega), ?_⟩
    rw [Int.toNat_natCast]
    refine for_range (n := n) (fun i σ H' => Kp p H H' ∧ BagAt H' p cA ∧ ∃ xs ys v5, σ = [some (.ref p), some (.int (n : Int)), some (.ref L), some (.ref F), some (.int way), v5, none, none] ∧ H' L = some (.lst (xs.map V.int)) ∧ H' F = some (.lst (ys.map V.int)) ∧ ys.length = i ∧ xs.length = n - i ∧ (ys ++ xs).Perm (Bm.idn n))
      ⟨kk1, b1, _, [], _, rfl, hL1, hF1, rfl, Bm.idn_len n, List.Perm.refl _⟩ ?_ ?_
    · rintro i σ H2 hi ⟨kk2, b2, xs, ys, v5, rfl, hL2, hF2, ly, lx, pm⟩
      have hx0 : 0 < xs.length := by omega
      refine ⟨_, rfl, .inl ⟨rfl, _, SqL.of hF2⟩, _, rfl, .inl ⟨rfl, _, SqL.of hL2⟩, _, rfl, _, rfl, L, _, rfl, .inl (SqL.of hL2), ?_⟩
      rw [List.length_map]
      refine ⟨p, cA, _, rfl, b2, (by omega), (by omega), fun H3 t k3 b3 t0 t1 => ?_⟩
      obtain ⟨j, rfl⟩ := Int.eq_ofNat_of_zero_le t0
      have hj : j < xs.length := by omega
      have hL3 := k3 _ _ nLp hL2
      have hF3 := k3 _ _ nFp hF2
      refine ⟨L, _, (j : Int), j, .int xs[j], rfl, rfl, hL3, (by omega), (by omega), ?_, ?_, ?_⟩
      · rw [List.length_map]
        exact (ixN_seq (ixN_n hj)).1
      · rw [List.getElem?_map, List.getElem?_eq_getElem hj]
        rfl
      · refine ⟨F, _, _, rfl, rfl, by rw [upd_ne hFL]; exact hF3, line1000 (by rw [List.length_map]; omega), ?_⟩
        refine ⟨kp_fr (kp_fr (kk2.trans k3) nL) hF0, (b3.upd nLp nLc).upd nFp nFc, xs.eraseIdx j, ys ++ [xs[j]], _, rfl, ?_, ?_, ?_, ?_, (Bm.move_perm hj).trans pm⟩
        · rw [upd_ne hFL.symm, upd_same, Bm.erase_map]
        · rw [upd_same]
          exact congrArg (fun z => some (HO.lst z)) (by simp)
        · rw [List.length_append, ly]
          rfl
        · rw [List.length_eraseIdx_of_lt hj]
          omega
    · rintro σ H2 ⟨kk2, b2, xs, ys, v5, rfl, hL2, hF2, ly, lx, pm⟩
      have ex : xs = [] := List.eq_nil_of_length_eq_zero (by omega)
      subst ex
      rw [List.append_nil] at pm
      have oy := (Bm.idn_ord n).perm pm
      have ret : ∀ H', Kp p H H' → BagAt H' p cA → H' F = some (.lst (ys.map V.int)) → Q (.ref F) H' := fun H' k b hF => hQ H' F ys k b hF0 hF oy
      refine ⟨_, rfl, rfl, _, rfl, ite2 (fun _ => ?_) (fun _ => ?_)⟩
      · refine ⟨_, rfl, _, rfl, RgOk.of_le (by omega) (by omega) (by omega) (by omega), fun q nq => ?_⟩
        refine ⟨q, _, rfl, SqL.of upd_same, fun r nr => ?_⟩
        have s1 := (same_new (o := .lst (rgV 0 n)) nq).trans (same_new (o := .lst (rgV 0 n).reverse) nr)
        have nrH : H r = none := kp_free (p := p) (kk2.trans (Same.kp (same_new nq))) ((b2.same (same_new nq)).apart nr).1 nr
        exact hQ _ r (Bm.idn n).reverse (kk2.trans (Same.kp s1)) (b2.same s1) nrH (by rw [upd_same, rgV_idn, List.map_reverse]) ((Bm.idn_ord n).perm (List.reverse_perm _))
      · refine ⟨_, rfl, rfl, _, rfl, ite2 (fun _ => ?_) (fun _ => ?_)⟩
        · refine ⟨_, rfl, _, rfl, RgOk.of_le (by omega) (by omega) (by omega) (by omega), fun G nG => ?_⟩
          obtain ⟨nGp, nGc⟩ := b2.apart nG
          have hG0 : H G = none := kp_free kk2 nGp nG
          have b3 := b2.same (same_new (o := .lst (rgV 0 n)) nG)
          refine ⟨_, rfl, p, cA, 4, rfl, b3, (by decide), (by decide), fun H4 many k4 b4 m0 m1 => ?_⟩
          obtain ⟨N, rfl⟩ := Int.eq_ofNat_of_zero_le m0
          have hG4 := k4 _ _ nGp upd_same
          rw [rgV_idn] at hG4
          refine ⟨_, rfl, (by omega), (by omega), ?_⟩
          rw [Int.toNat_natCast]
          refine for_range (n := N) (fun i σ H' => Kp p H H' ∧ BagAt H' p cA ∧ ∃ zs v5 v6 v7, σ = [some (.ref p), some (.int (n : Int)), some (.ref L), some (.ref G), some (.int way), v5, v6, v7] ∧ H' G = some (.lst (zs.map V.int)) ∧ Bm.IsOrd n zs)
            ⟨(kk2.trans (Same.kp (same_new nG))).trans k4, b4, _, _, _, _, rfl, hG4, Bm.idn_ord n⟩ ?_ ?_
          · rintro i σ H5 hi ⟨kk5, b5, zs, v5, v6, v7, rfl, hG5, oz⟩
            refine ⟨_, rfl, _, rfl, p, cA, _, rfl, b5, (by omega), (by omega), fun H6 one k6 b6 o0 o1 => ?_⟩
            refine ⟨_, rfl, _, rfl, p, cA, _, rfl, b6, (by omega), (by omega), fun H7 other k7 b7 u0 u1 => ?_⟩
            obtain ⟨a, rfl⟩ := Int.eq_ofNat_of_zero_le o0
            obtain ⟨c, rfl⟩ := Int.eq_ofNat_of_zero_le u0
            have ha : a < n := by omega
            have hc : c < n := by omega
            have hG7 := k7 _ _ nGp (k6 _ _ nGp hG5)
            have kk7 := (kk5.trans k6).trans k7
            have hl := oz.len
            refine ⟨_, _, rfl, ?_⟩
            refine ⟨_, rfl, _, rfl, G, _, _, _, rfl, rfl, SqL.of hG7, mat rfl (by omega), ?_⟩
            refine ⟨_, rfl, _, rfl, G, _, _, _, rfl, rfl, SqL.of hG7, mat rfl (by omega), ?_⟩
            refine ⟨(by show 2 ≤ sizeLine; decide), fun T nT => ?_⟩
            have hGT : G ≠ T := ne_of_none hG7 nT
            refine ⟨T, _, rfl, SqT.of upd_same, rfl, ?_⟩
            refine ⟨_, _, rfl, _, rfl, _, rfl, G, _, _, a, rfl, rfl, by rw [upd_ne hGT]; exact hG7, ixm rfl (by omega), ?_⟩
            refine ⟨_, _, rfl, _, rfl, _, rfl, G, _, _, c, rfl, rfl, upd_same, by rw [mset]; exact ixm rfl (by rw [List.length_set]; omega), ?_⟩
            have hT0 : H T = none := kp_free kk7 (b7.apart nT).1 nT
            refine ⟨rfl, kp_fr (kp_fr (kp_fr kk7 hT0) hG0) hG0, ((b7.same (same_new nT)).upd nGp nGc).upd nGp nGc, Bm.swap2 zs a c, _, _, _, rfl, ?_, Bm.swap2_ord oz ha hc⟩
            rw [upd_same, mset, mset]
            rfl
          · rintro σ H5 ⟨kk5, b5, zs, v5, v6, v7, rfl, hG5, oz⟩
            exact ⟨_, rfl, hQ H5 G zs kk5 b5 hG0 hG5 oz⟩
        · exact ⟨_, rfl, ret H2 kk2 b2 hF2⟩
theorem ok_lmisses (F : FnP K "_law_misses" "_law_misses" sLMisses f fd) (B : Nb mg) (T1 : Cal P w K mg base 1 "_law_take" ["_law_bag_here", "_law_many"] spTake) : FnOk P w K mg base CX0 2 f fd ["_law_bag_here", "_law_many", "_law_most"] spLMisses := by
  refine ok0 F scLMisses (fun vs H Q E h => ?_) (fun cdv A outer s H vs Q E hr h => ?_)
  · obtain ⟨p, cA, m, t, rfl, _⟩ := h
    rfl
  · obtain ⟨p, cA, m, t, rfl, hB, hm, ht, hQ⟩ := h
    have nd := scLMisses.nd
    refine ⟨_, pss_cons (ps_par (i := 3) (j := 4) (by rfl) nd rfl rfl (by decide) rfl rfl (pa_cons (pe_lst pa_nil) (pa_cons (pe_listRg rfl (by rfl) B.list (prg_1 (by rfl) B.range (pv 1))) pa_nil)) (by rfl))
      (pss_cons (ps_for PassesOwn.never rfl (pi_range1 (by rfl) B.range (pa_cons (pe_callB (call_min2 rfl) (by rfl) B.min (by decide +kernel) (pa_cons (pv 1) (pa_cons (pe_cal T1 hr (by rfl) (pa_cons (pv 0) (pa_cons (pe_op op_add (pv 2) pe_int) pa_nil))) pa_nil))) pa_nil)) (pg_name (i := 5) nd rfl (Or.inl rfl))
        (pss_one (ps_expr (pe_bm PySem.F.plainAttrs_list PySem.F.slot_list_append PySem.F.type_list_append mt_append (pv 3) (pa_cons (pe_bm PySem.F.plainAttrs_list PySem.F.slot_list_pop PySem.F.type_list_pop mt_popAt (pv 4)
          (pa_cons (pe_cal T1 hr (by rfl) (pa_cons (pv 0) (pa_cons (pe_callB call_len_seq (by rfl) B.len PySem.boot_len (pa_cons (pv 4) pa_nil)) pa_nil))) pa_nil)) pa_nil)))))
      (pss_one (ps_ret (pe_callB cr_sortedI (by rfl) B.sorted (by decide +kernel) (pa_cons (pv 3) pa_nil))))), ?_⟩
    refine ⟨Nat.zero_le _, fun F nF => ?_⟩
    obtain ⟨nFp, nFc⟩ := hB.apart nF
    have bF := hB.same (same_new (o := .lst []) nF)
    refine ⟨_, rfl, _, rfl, RgOk.of_le (by omega) (by omega) (by omega) (by omega), fun L nL => ?_⟩
    obtain ⟨nLp, nLc⟩ := bF.apart nL
    have hLF : L ≠ F := fun z => by
      rw [z, upd_same] at nL
      cases nL
    have hL0 : H L = none := by
      rw [upd_ne hLF] at nL
      exact nL
    have bL := bF.same (same_new (o := .lst (rgV 0 m)) nL)
    refine ⟨_, _, rfl, ?_⟩
    refine ⟨_, rfl, _, rfl, _, rfl, t, 1, rfl, rfl, p, cA, _, rfl, bL, (by omega), (by omega), fun H1 c k1 b1 c0 c1 => ?_⟩
    obtain ⟨u, rfl⟩ := Int.eq_ofNat_of_zero_le c0
    have hF1 : H1 F = some (.lst (([] : List Int).map V.int)) := k1 _ _ nFp (by rw [upd_ne hLF.symm, upd_same]; rfl)
    have hL1 : H1 L = some (.lst ((Bm.idn m).map V.int)) := k1 _ _ nLp (by rw [upd_same, rgV_idn])
    have kk1 : Kp p H H1 := fun b o hb hh => k1 b o hb (by rw [upd_ne (ne_of_none hh hL0), upd_ne (ne_of_none hh nF)]; exact hh)
    have hN : ∃ N : Nat, (if (u : Int) < (m : Int) then (u : Int) else (m : Int)) = (N : Int) ∧ N ≤ m := by
      by_cases hc : (u : Int) < (m : Int)
      · exact ⟨u, if_pos hc, by omega⟩
      · exact ⟨m, if_neg hc, Nat.le_refl _⟩
    obtain ⟨N, eN, hNm⟩ := hN
    refine ⟨_, _, rfl, _, congrArg (fun z => [V.int z]) eN, (by omega), (by omega), ?_⟩
    rw [Int.toNat_natCast]
    refine for_range (n := N) (fun i σ H' => Kp p H H' ∧ BagAt H' p cA ∧ ∃ xs ys v5, σ = [some (.ref p), some (.int (m : Int)), some (.int (t : Int)), some (.ref F), some (.ref L), v5] ∧ H' L = some (.lst (xs.map V.int)) ∧ H' F = some (.lst (ys.map V.int)) ∧ ys.length = i ∧ xs.length = m - i ∧ (ys ++ xs).Perm (Bm.idn m))
      ⟨kk1, b1, _, [], _, rfl, hL1, hF1, rfl, Bm.idn_len m, List.Perm.refl _⟩ ?_ ?_
    · rintro i σ H2 hi ⟨kk2, b2, xs, ys, v5, rfl, hL2, hF2, ly, lx, pm⟩
      have hx0 : 0 < xs.length := by omega
      refine ⟨_, rfl, .inl ⟨rfl, _, SqL.of hF2⟩, _, rfl, .inl ⟨rfl, _, SqL.of hL2⟩, _, rfl, _, rfl, L, _, rfl, .inl (SqL.of hL2), ?_⟩
      rw [List.length_map]
      refine ⟨p, cA, _, rfl, b2, (by omega), (by omega), fun H3 t k3 b3 t0 t1 => ?_⟩
      obtain ⟨j, rfl⟩ := Int.eq_ofNat_of_zero_le t0
      have hj : j < xs.length := by omega
      have hL3 := k3 _ _ nLp hL2
      have hF3 := k3 _ _ nFp hF2
      refine ⟨L, _, (j : Int), j, .int xs[j], rfl, rfl, hL3, (by omega), (by omega), ?_, ?_, ?_⟩
      · rw [List.length_map]
        exact (ixN_seq (ixN_n hj)).1
      · rw [List.getElem?_map, List.getElem?_eq_getElem hj]
        rfl
      · refine ⟨F, _, _, rfl, rfl, by rw [upd_ne hLF.symm]; exact hF3, line1000 (by rw [List.length_map]; omega), ?_⟩
        refine ⟨kp_fr (kp_fr (kk2.trans k3) hL0) nF, (b3.upd nLp nLc).upd nFp nFc, xs.eraseIdx j, ys ++ [xs[j]], _, rfl, ?_, ?_, ?_, ?_, (Bm.move_perm hj).trans pm⟩
        · rw [upd_ne hLF, upd_same, Bm.erase_map]
        · rw [upd_same]
          exact congrArg (fun z => some (HO.lst z)) (by simp)
        · rw [List.length_append, ly]
          rfl
        · rw [List.length_eraseIdx_of_lt hj]
          omega
    · rintro σ H2 ⟨kk2, b2, xs, ys, v5, rfl, hL2, hF2, ly, lx, pm⟩
      refine ⟨_, rfl, F, ys, rfl, SqL.of hF2, fun ns q perm rising nq => ?_⟩
      have hq0 : H q = none := kp_free kk2 (b2.apart nq).1 nq
      have om := Bm.idn_ord m
      have ndy : ys.Nodup := (List.nodup_append.mp (pm.nodup_iff.mpr om.nd)).1
      have mem : ∀ v ∈ ns, v ∈ Bm.idn m := fun v hv => pm.mem_iff.mp (List.mem_append_left _ (perm.mem_iff.mp hv))
      refine hQ _ q ns (kk2.trans (Same.kp (same_new nq))) (b2.same (same_new nq)) hq0 upd_same (fun v hv => ⟨om.lo v (mem v hv), om.hi v (mem v hv)⟩) (Bm.lt_of_le rising (perm.nodup_iff.mpr ndy)) ?_
      rw [perm.length_eq, ly]
      exact hNm
theorem ok_lnear (F : FnP K "_law_near" "_law_near" sLNear f fd) (B : Nb mg) (T1 : Cal P w K mg base 1 "_law_take" ["_law_bag_here", "_law_many"] spTake) : FnOk P w K mg base CX0 2 f fd ["_law_bag_here", "_law_rows", "_law_places_here"] spLNear := by
  refine ok0 F scLNear (fun vs H Q E h => ?_) (fun cdv A outer s H vs Q E hr h => ?_)
  · obtain ⟨p, cA, l, n, rs, rfl, _⟩ := h
    rfl
  · obtain ⟨p, cA, l, n, rs, rfl, hB, hl, hlp, hrs, hn1, hn12, hQ⟩ := h
    have nd := scLNear.nd
    refine ⟨_, pss_cons (ps_set (i := 3) nd rfl (Or.inl rfl) (pe_listRg rfl (by rfl) B.list (prg_1 (by rfl) B.range (pv 2))))
      (pss_cons (ps_for PassesOwn.never rfl (pi_list (pe_revL (pv 1))) (pg_tup rfl (pgs_cons (pg_name (i := 4) nd rfl (Or.inl rfl)) (pgs_cons (pg_name (i := 5) nd rfl (Or.inl rfl)) pgs_nil)))
        (pss_one (ps_if (PW.pt (pw_and (pt_cmpR op_gt (pe_cal T1 hr (by rfl) (pa_cons (pv 0) (pa_cons pe_int pa_nil))) pe_int (nomark _)) (pw_and1 (pt_cmpR op_lt (pe_ix ix_list (pv 3) (pe_op op_sub (pv 4) pe_int) (fun _ _ => rfl)) (pe_ix ix_list (pv 3) (pv 4) (fun _ _ => rfl)) (nomark _)))))
          (pss_one (ps_asg (pe_revL (pe_slice sl_list (pv 3) (po_some (pe_op op_sub (pv 4) pe_int)) (po_some (pe_op op_add (pv 4) pe_int)))) (pg_slice (pv 3) (po_some (pe_op op_sub (pv 4) pe_int)) (po_some (pe_op op_add (pv 4) pe_int))))) pss_nil)))
      (pss_one (ps_ret (pv 3)))), ?_⟩
    refine ⟨_, rfl, _, rfl, RgOk.of_le (by omega) (by omega) (by omega) (by omega), fun G nG => ?_⟩
    obtain ⟨nGp, nGc⟩ := hB.apart nG
    have bG := hB.same (same_new (o := .lst (rgV 0 n)) nG)
    have hGl : l ≠ G := ne_of_none hl nG
    refine ⟨_, rfl, l, _, rfl, SqL.of (by rw [upd_ne hGl]; exact hl), fun R nR => ?_⟩
    have hRG : R ≠ G := fun z => by
      rw [z, upd_same] at nR
      cases nR
    have nRp := (bG.apart nR).1
    have hR0 : H R = none := by
      rw [upd_ne hRG] at nR
      exact nR
    have s2 := (same_new (o := .lst (rgV 0 n)) nG).trans (same_new (o := .lst (refs rs).reverse) nR)
    refine ⟨R, rfl, ⟨_, SqL.of upd_same⟩, ?_⟩
    refine for_list (K := K) (a := R) (xs := (refs rs).reverse) (fun i σ H' => Kp p H H' ∧ BagAt H' p cA ∧ H' R = some (.lst (refs rs).reverse) ∧ ∃ zs v4 v5, σ = [some (.ref p), some (.ref l), some (.int (n : Int)), some (.ref G), v4, v5] ∧ H' G = some (.lst (zs.map V.int)) ∧ Bm.IsOrd n zs)
      ⟨Same.kp s2, hB.same s2, upd_same, Bm.idn n, _, _, rfl, by rw [upd_ne hRG.symm, upd_same, rgV_idn], Bm.idn_ord n⟩ (fun i σ H' _ q => SqL.of q.2.2.1) ?_ ?_
    · rintro i x σ H3 hi ⟨kk3, b3, hR3, zs, v4, v5, rfl, hG3, oz⟩
      have hm : x ∈ (refs rs).reverse := List.mem_of_getElem? hi
      obtain ⟨r, hr', rfl⟩ := List.mem_map.mp (List.mem_reverse.mp hm)
      obtain ⟨q1, q2, q3, q4, q5⟩ := (hrs.kp hB kk3) r hr'
      obtain ⟨g, hg⟩ := Int.eq_ofNat_of_zero_le (show 0 ≤ r.2.1 by omega)
      rw [hg] at q1 q2 q3
      have hlz := oz.len
      refine ⟨r.1, _, rfl, SqT.of q1, rfl, _, _, rfl, _, _, rfl, rfl, ?_⟩
      refine ⟨_, rfl, p, cA, 4, rfl, b3, (by decide), (by decide), fun H4 c k4 b4 c0 c1 => ?_⟩
      have hG4 := k4 _ _ nGp hG3
      have hR4 := k4 _ _ nRp hR3
      have kk4 := kk3.trans k4
      refine ⟨_, _, rfl, rfl, _, rfl, ite2 (fun _ => ?_) (fun _ => ?_)⟩
      · refine ⟨_, rfl, _, rfl, _, _, rfl, rfl, G, _, _, _, rfl, rfl, SqL.of hG4, mat (j := g - 1) (by omega) (by omega), ?_⟩
        refine ⟨_, rfl, _, rfl, G, _, _, _, rfl, rfl, SqL.of hG4, mat rfl (by omega), ?_⟩
        refine ⟨_, _, rfl, rfl, _, rfl, ite2 (fun _ => ?_) (fun _ => ?_)⟩
        · refine ⟨_, rfl, _, rfl, _, _, rfl, rfl, _, rfl, _, rfl, _, _, rfl, rfl, _, rfl, G, _, rfl, SqL.of hG4, fun T nT => ?_⟩
          have hGT : G ≠ T := ne_of_none hG4 nT
          have hRT : R ≠ T := ne_of_none hR4 nT
          refine ⟨T, _, rfl, SqL.of upd_same, fun U nU => ?_⟩
          have hTU : T ≠ U := fun z => by
            rw [← z, upd_same] at nU
            cases nU
          have hGU : G ≠ U := fun z => by
            rw [← z, upd_ne hGT, hG4] at nU
            cases nU
          have eg : ((g : Nat) : Int) - 1 = ((g - 1 : Nat) : Int) := by omega
          have eg1 : ((g : Nat) : Int) + 1 = ((g + 1 : Nat) : Int) := by omega
          refine ⟨_, rfl, _, rfl, _, _, rfl, rfl, _, rfl, _, rfl, _, _, rfl, rfl, _, rfl, G, U, _, _, _, _, rfl, rfl, rfl, rfl, by rw [upd_ne hGU, upd_ne hGT]; exact hG4, upd_same, hGU, ?_, ?_, ?_, ?_, ?_⟩
          · show (0 : Int) ≤ (g : Int) - 1
            omega
          · show (g : Int) - 1 ≤ (g : Int) + 1
            omega
          · show (g : Int) + 1 ≤ ((zs.map V.int).length : Nat)
            rw [List.length_map]
            omega
          · have hs : sizeLine = 16777216 := sizeLine_eq
            rw [eg, eg1, cutm (by omega) (by omega), List.length_map, List.length_reverse, List.length_map, List.length_take, List.length_drop, hs]
            omega
          · have hT0 : H T = none := kp_free kk4 (b4.apart nT).1 nT
            have nU4 : H4 U = none := by
              rw [upd_ne hTU.symm] at nU
              exact nU
            have hU0 : H U = none := kp_free kk4 (b4.apart nU4).1 nU4
            refine ⟨kp_fr (kp_fr (kp_fr kk4 hT0) hU0) nG, ((b4.same (same_new nT)).same (same_new nU)).upd nGp nGc, by rw [upd_ne hRG, upd_ne (ne_of_none hR4 nU4), upd_ne hRT]; exact hR4, zs.take (g - 1) ++ ((zs.drop (g - 1)).take (g + 1 - (g - 1))).reverse ++ zs.drop (g + 1), _, _, rfl, ?_, oz.perm (Bm.rev_mid_perm zs (by omega))⟩
            rw [upd_same, eg, eg1, cutm (by omega) (by omega), Int.toNat_natCast, Int.toNat_natCast]
            exact congrArg (fun z => some (HO.lst z)) (by simp)
        · exact ⟨kk4, b4, hR4, zs, _, _, rfl, hG4, oz⟩
      · exact ⟨kk4, b4, hR4, zs, _, _, rfl, hG4, oz⟩
    · rintro σ H3 ⟨kk3, b3, hR3, zs, v4, v5, rfl, hG3, oz⟩
      exact ⟨_, rfl, hQ H3 G zs kk3 b3 nG hG3 oz⟩
end
end Bw

set_option maxHeartbeats 4000000
namespace Bw
open PySem PySem.Spec PyProof.Rows L2
theorem inV_ints (x : Int) (xs : List Int) : inV (.int x) (xs.map V.int) = decide (x ∈ xs) := by
  induction xs with
  | nil => rfl
  | cons y ys ih =>
    show (eqV (.int y) (.int x) || inV (.int x) (ys.map V.int)) = _
    rw [ih]
    show ((y == x) || decide (x ∈ ys)) = _
    by_cases h : y = x
    · subst h
      simp
    · have h2 : ¬ x = y := fun z => h z.symm
      simp [h, h2]
theorem flat_ints (xs : List Int) : (xs.map V.int).all flatV = true := by
  rw [List.all_eq_true]
  intro x hx
  obtain ⟨v, _, rfl⟩ := List.mem_map.mp hx
  rfl
theorem nat_of_pos {g : Int} (h : 0 ≤ g) : ∃ j : Nat, g = (j : Int) := Int.eq_ofNat_of_zero_le h
def spInverse : Sp := fun vs H Q _ => ∃ (a : Addr) (n : Nat) (xs : List Int), vs = [.ref a] ∧ H a = some (.lst (xs.map V.int)) ∧ Bm.IsOrd n xs ∧ n ≤ 12 ∧
  ∀ H' q (ys : List Int), Same H H' → H q = none → H' q = some (.lst (ys.map V.int)) → Bm.IsInv n xs ys → Q (.ref q) H'
def spIsExch (K : PySem.W.Frag) : Sp := fun vs H Q _ => ∃ (a : Addr) (g : Nat) (xs : List Int), vs = [.ref a, .int (g : Int)] ∧ SqL K H a (xs.map V.int) ∧ 1 ≤ g ∧ g < xs.length ∧ Q (.bl (decide (xs.getD g 0 < xs.getD (g - 1) 0))) H
def spExch : Sp := fun vs H Q _ => ∃ (a : Addr) (g : Nat) (xs : List Int), vs = [.ref a, .int (g : Int)] ∧ H a = some (.lst (xs.map V.int)) ∧ 1 ≤ g ∧ g < xs.length ∧ ∀ H', Kp a H H' → H' a = some (.lst ((Bm.swapAt xs g).map V.int)) → Q .non H'
def spLPlay : Sp := fun vs H Q _ => ∃ (a b c : Addr) (n : Nat) (gs xs ms : List Int), vs = [.ref a, .ref b, .ref c] ∧ H a = some (.lst (gs.map V.int)) ∧ H b = some (.lst (xs.map V.int)) ∧ H c = some (.lst (ms.map V.int)) ∧ Bm.Gates n gs ∧ Bm.IsOrd n xs ∧
  ∀ H' q, Same H H' → H q = none → H' q = some (.lst ((Bm.play ms 0 gs xs).map V.int)) → Q (.ref q) H'
def spLMirrored : Sp := fun vs H Q _ => ∃ (a : Addr) (xs : List Int), vs = [.ref a] ∧ H a = some (.lst (xs.map V.int)) ∧ xs.length ≤ 12 ∧ ∀ H' q, Same H H' → H q = none → H' q = some (.lst ((Bm.mir xs).map V.int)) → Q (.ref q) H'
def spNeedPlay (C : Addr) : Sp := fun vs H Q _ => ∃ (x o m : Addr) (n : Nat) (rs : List Row3) (xs ms : List Int), vs = [.ref x, .ref o, .ref m] ∧ Sched C H x n rs ∧ H o = some (.lst (xs.map V.int)) ∧ Bm.IsOrd n xs ∧ H m = some (.lst (ms.map V.int)) ∧
  (∀ v ∈ ms, 0 ≤ v ∧ v < (rs.length : Int)) ∧ ms.Pairwise (· < ·) ∧ ms.length ≤ 1000 ∧ ∀ H', Same H H' → Q .non H'
/-- the property places -/
structure Pty (P : Program) (w : World) (K : PySem.W.Frag) (mg : Str → Option Value) (base : Heap) (C : Addr) : Prop where
  ex : ∃ p g fd, PropOf K C "places" p g ∧ Binds K fd ["self"] [] ∧ FnOk P w K mg base CX0 1 g fd ["self"] (getSp C "place_count")
/-- what isinstance asks of the class -/
structure Isi (K : PySem.W.Frag) (C : Addr) : Prop where
  ha : PySem.W.findIn K (.ref C) "__class__" = some (some (.builtin "object.__class__"))
  hn : PySem.W.specialIn K (.builtin "object.__class__") "__get__" = some (some (.builtin "getset_descriptor.__get__"))
  htk : PySem.W.takesIn K (.builtin "object.__class__") = some true
  hm : PySem.W.mroIn K C (.type "object") = some true
  me : PySem.W.kitOne K (.ref C) (.ref C) = some true
section
variable {P : Program} {w : World} {K : PySem.W.Frag} {mg : Str → Option Value} {base : Heap} {f C : Addr} {fd : FuncData}
theorem ok_places (F : FnP K "places" "Schedule.places" sPlaces f fd) (M : Nm K mg C) : FnOk P w K mg base CX0 1 f fd ["self"] (getSp C "place_count") := by
  refine ok0 F scPlaces (fun vs H Q E h => ?_) (fun cdv A outer s H vs Q E hr h => ?_)
  · obtain ⟨a, dx, fs, v, rfl, _⟩ := h
    rfl
  · obtain ⟨a, dx, fs, v, rfl, ea, l, q⟩ := h
    refine ⟨_, pss_one (ps_ret (pe_fld (pv 0) rfl)), ?_⟩
    exact ⟨_, rfl, a, C, dx, fs, v, rfl, ea, M.cl, M.n1, l, q⟩
theorem ok_inverse (F : FnP K "inverse" "inverse" sInverse f fd) (B : Nb mg) : FnOk P w K mg base CX0 1 f fd ["order"] spInverse := by
  refine ok0 F scInverse (fun vs H Q E h => ?_) (fun cdv A outer s H vs Q E hr h => ?_)
  · obtain ⟨a, n, xs, rfl, _⟩ := h
    rfl
  · obtain ⟨a, n, xs, rfl, ha, ho, hn, hQ⟩ := h
    have nd := scInverse.nd
    refine ⟨_, pss_cons (ps_set (i := 1) nd rfl (Or.inl rfl) (pe_op op_rep (pe_lst (pa_cons pe_int pa_nil)) (pe_callB call_len_seq (by rfl) B.len PySem.boot_len (pa_cons (pv 0) pa_nil))))
      (pss_cons (ps_for PassesOwn.never rfl (pi_enum (by rfl) B.enumerate (pa_cons (pv 0) pa_nil)) (pg_tup rfl (pgs_cons (pg_name (i := 2) nd rfl (Or.inl rfl)) (pgs_cons (pg_name (i := 3) nd rfl (Or.inl rfl)) pgs_nil)))
        (pss_one (ps_asg (pv 2) (pg_sub (pv 1) (pv 3) set_list))))
      (pss_one (ps_ret (pv 1)))), ?_⟩
    have hl := ho.len
    refine ⟨(by show 1 ≤ sizeLine; decide), fun Z nZ => ?_⟩
    have haZ : a ≠ Z := ne_of_none ha nZ
    have ha1 : upd H Z (.lst [.int 0]) a = some (.lst (xs.map V.int)) := by rw [upd_ne haZ]; exact ha
    refine ⟨_, rfl, a, _, rfl, .inl (SqL.of ha1), ?_⟩
    rw [List.length_map, hl]
    have hs : sizeLine = 16777216 := sizeLine_eq
    refine ⟨Z, _, _, rfl, rfl, upd_same, (by omega), (by omega), (by rw [Int.toNat_natCast, hs]; show 1 * n ≤ _; omega), fun G nG => ?_⟩
    have e0 : (List.replicate ((n : Nat) : Int).toNat [V.int 0]).flatten = (List.replicate n (0 : Int)).map V.int := by
      rw [Int.toNat_natCast]
      clear nG hQ ho hl ha1 ha hn
      induction n with
      | zero => rfl
      | succ k ih =>
        rw [List.replicate_succ, List.flatten_cons, ih, List.replicate_succ]
        rfl
    rw [e0]
    have haG : a ≠ G := ne_of_none ha1 nG
    have hG0 : H G = none := (same_new nZ).free nG
    refine ⟨_, rfl, a, _, rfl, SqL.of (by rw [upd_ne haG]; exact ha1), for_enum (K := K) (a := a) (xs := xs.map V.int) (fun i σ H' => Same H H' ∧ ∃ (ys : List Int) (v2 v3 : Option V), σ = [some (.ref a), some (.ref G), v2, v3] ∧ H' G = some (.lst (ys.map V.int)) ∧ ys.length = n ∧ ∀ p, p < i → ys.getD (xs.getD p 0).toNat 0 = p)
      ⟨same_upd (same_new nZ) hG0, _, none, none, rfl, upd_same, List.length_replicate, fun p hp => absurd hp (Nat.not_lt_zero p)⟩ (fun i σ H' _ q => q.1.seq (SqL.of ha)) ?_ ?_⟩
    · rintro i x T σ H' hi ⟨sm, ys, v2, v3, rfl, hG, hly, hinv⟩ hT
      obtain ⟨v, hv, rfl, hlt⟩ := map_at hi
      have evd : xs.getD i 0 = v := by
        rw [List.getD_eq_getElem?_getD, hv]
        rfl
      have hi2 : i < n := by omega
      have v0 := ho.get_lo hi2
      have v1 := ho.get_hi hi2
      rw [evd] at v0 v1
      obtain ⟨r, hr'⟩ := nat_of_pos v0
      subst hr'
      have hGT : G ≠ T := ne_of_none hG hT
      refine ⟨T, _, rfl, SqT.of upd_same, rfl, _, _, rfl, _, _, rfl, rfl, ?_⟩
      refine ⟨_, rfl, _, rfl, _, rfl, G, _, _, r, rfl, rfl, by rw [upd_ne hGT]; exact hG, ixm rfl (by omega), ?_⟩
      refine ⟨same_upd (same_upd sm (sm.free hT)) hG0, ys.set r (i : Int), _, _, rfl, by rw [upd_same]; exact congrArg (fun z => some (HO.lst z)) mset, by rw [List.length_set]; exact hly, fun p hp => ?_⟩
      rw [List.getD_eq_getElem?_getD, List.getElem?_set]
      by_cases hpi : p = i
      · subst hpi
        rw [evd, Int.toNat_natCast, if_pos rfl, if_pos (by omega)]
        rfl
      · have hne : ¬ r = (xs.getD p 0).toNat := fun z => by
          have h0 := ho.get_lo (show p < n by omega)
          exact hpi (ho.inj (by omega) hi2 (by rw [evd]; omega))
        rw [if_neg hne, ← List.getD_eq_getElem?_getD]
        exact hinv p (by omega)
    · rintro σ H' ⟨sm, ys, v2, v3, rfl, hG, hly, hinv⟩
      rw [List.length_map] at hinv
      exact ⟨_, rfl, hQ H' G ys sm hG0 hG ⟨hly, fun p hp => hinv p (by omega)⟩⟩
theorem ok_is_exchanged (F : FnP K "is_exchanged" "is_exchanged" sIsExchanged f fd) : FnOk P w K mg base CX0 1 f fd ["order", "gate"] (spIsExch K) := by
  refine ok0 F scIsExchanged (fun vs H Q E h => ?_) (fun cdv A outer s H vs Q E hr h => ?_)
  · obtain ⟨a, g, xs, rfl, _⟩ := h
    rfl
  · obtain ⟨a, g, xs, rfl, ha, h1, h2, hQ⟩ := h
    refine ⟨_, pss_one (ps_ret (pe_cmpR op_gt (pe_ix ix_list (pv 0) (pe_op op_sub (pv 1) pe_int) (fun _ _ => rfl)) (pe_ix ix_list (pv 0) (pv 1) (fun _ _ => rfl)) (nomark _))), ?_⟩
    exact ⟨_, rfl, _, rfl, _, _, rfl, rfl, a, _, _, _, rfl, rfl, ha, mat (j := g - 1) (by omega) (by omega), _, rfl, _, rfl, a, _, _, _, rfl, rfl, ha, mat rfl (by omega), _, _, rfl, rfl, hQ⟩
theorem ok_exchange (F : FnP K "exchange" "exchange" sExchange f fd) : FnOk P w K mg base CX0 1 f fd ["order", "gate"] spExch := by
  refine ok0 F scExchange (fun vs H Q E h => ?_) (fun cdv A outer s H vs Q E hr h => ?_)
  · obtain ⟨a, g, xs, rfl, _⟩ := h
    rfl
  · obtain ⟨a, g, xs, rfl, ha, h1, h2, hQ⟩ := h
    refine ⟨_, pss_one (ps_asg (pe_tup (pa_cons (pe_ix ix_list (pv 0) (pv 1) (fun _ _ => rfl)) (pa_cons (pe_ix ix_list (pv 0) (pe_op op_sub (pv 1) pe_int) (fun _ _ => rfl)) pa_nil)))
      (pg_tup rfl (pgs_cons (pg_sub (pv 0) (pe_op op_sub (pv 1) pe_int) set_list) (pgs_cons (pg_sub (pv 0) (pv 1) set_list) pgs_nil)))), ?_⟩
    refine ⟨_, rfl, _, rfl, a, _, _, _, rfl, rfl, SqL.of ha, mat rfl (by omega), _, rfl, _, rfl, _, _, rfl, rfl, a, _, _, _, rfl, rfl, SqL.of ha, mat (j := g - 1) (by omega) (by omega), ?_⟩
    refine ⟨(by show 2 ≤ sizeLine; decide), fun T nT => ?_⟩
    have hT : a ≠ T := ne_of_none ha nT
    refine ⟨T, _, rfl, SqT.of upd_same, rfl, ?_⟩
    refine ⟨_, _, rfl, _, rfl, _, rfl, _, _, rfl, rfl, a, _, _, g - 1, rfl, rfl, by rw [upd_ne hT]; exact ha, ixm (by omega) (by omega), ?_⟩
    refine ⟨_, _, rfl, _, rfl, _, rfl, a, _, _, g, rfl, rfl, upd_same, by rw [mset]; exact ixm rfl (by rw [List.length_set]; omega), rfl, ?_⟩
    refine hQ _ (fun b o hb h => by rw [upd_ne hb, upd_ne hb, upd_ne (ne_of_none h nT)]; exact h) ?_
    rw [upd_same, mset, mset]
    rfl
theorem ok_lplay (F : FnP K "_law_play" "_law_play" sLPlay f fd) (B : Nb mg) : FnOk P w K mg base CX0 1 f fd ["_law_gates_here", "_law_order_here", "_law_gone"] spLPlay := by
  refine ok0 F scLPlay (fun vs H Q E h => ?_) (fun cdv A outer s H vs Q E hr h => ?_)
  · obtain ⟨a, b, c, n, gs, xs, ms, rfl, _⟩ := h
    rfl
  · obtain ⟨a, b, c, n, gs, xs, ms, rfl, ha, hb, hc, hG, ho, hQ⟩ := h
    have nd := scLPlay.nd
    refine ⟨_, pss_cons (ps_set (i := 3) nd rfl (Or.inl rfl) (pe_callTy call_list_of (by rfl) B.list (by decide +kernel) (pa_cons (pv 1) pa_nil)))
      (pss_cons (ps_for PassesOwn.never rfl (pi_enum (by rfl) B.enumerate (pa_cons (pv 0) pa_nil)) (pg_tup rfl (pgs_cons (pg_name (i := 4) nd rfl (Or.inl rfl)) (pgs_cons (pg_name (i := 5) nd rfl (Or.inl rfl)) pgs_nil)))
        (pss_one (ps_if (PW.pt (pw_and (pt_cmpR op_notIn_seq (pv 4) (pv 2) (by rfl)) (pw_and1 (pt_cmpR op_gt (pe_ix ix_list (pv 3) (pe_op op_sub (pv 5) pe_int) (fun _ _ => rfl)) (pe_ix ix_list (pv 3) (pv 5) (fun _ _ => rfl)) (nomark _)))))
          (pss_one (ps_asg (pe_tup (pa_cons (pe_ix ix_list (pv 3) (pv 5) (fun _ _ => rfl)) (pa_cons (pe_ix ix_list (pv 3) (pe_op op_sub (pv 5) pe_int) (fun _ _ => rfl)) pa_nil)))
            (pg_tup rfl (pgs_cons (pg_sub (pv 3) (pe_op op_sub (pv 5) pe_int) set_list) (pgs_cons (pg_sub (pv 3) (pv 5) set_list) pgs_nil))))) pss_nil)))
      (pss_one (ps_ret (pv 3)))), ?_⟩
    refine ⟨_, rfl, b, _, rfl, .inl (SqL.of hb), fun N nN => ?_⟩
    have haN : a ≠ N := ne_of_none ha nN
    refine ⟨_, rfl, a, _, rfl, SqL.of (by rw [upd_ne haN]; exact ha), for_enum (K := K) (a := a) (xs := gs.map V.int) (fun i σ H' => Same H H' ∧ ∃ ys v4 v5, σ = [some (.ref a), some (.ref b), some (.ref c), some (.ref N), v4, v5] ∧ H' N = some (.lst (ys.map V.int)) ∧ Bm.IsOrd n ys ∧ Bm.play ms i (gs.drop i) ys = Bm.play ms 0 gs xs)
      ⟨same_new nN, xs, none, none, rfl, upd_same, ho, by rw [List.drop_zero]⟩ (fun i σ H' _ q => q.1.seq (SqL.of ha)) ?_ ?_⟩
    · rintro i x T σ H' hi ⟨sm, ys, v4, v5, rfl, hN, oy, hp⟩ hT
      obtain ⟨v, hv, rfl, hlt⟩ := map_at hi
      obtain ⟨g1, g2⟩ := hG v (List.mem_of_getElem? hv)
      obtain ⟨g, rfl⟩ := nat_of_pos (show 0 ≤ v by omega)
      have hNT : N ≠ T := ne_of_none hN hT
      have hly := oy.len
      have ed : gs.drop i = (g : Int) :: gs.drop (i + 1) := by
        rw [List.drop_eq_getElem_cons hlt]
        congr 1
        exact (List.getElem?_eq_some_iff.mp hv).2
      rw [ed] at hp
      have hp2 : Bm.play ms (i + 1) (gs.drop (i + 1)) (if (i : Int) ∈ ms then ys else Bm.stp ys g) = Bm.play ms 0 gs xs := hp
      have smT : Same H (upd H' T (.tup [.int (i : Nat), .int (g : Int)])) := same_upd sm (sm.free hT)
      have hNT' : upd H' T (.tup [.int (i : Nat), .int (g : Int)]) N = some (.lst (ys.map V.int)) := by rw [upd_ne hNT]; exact hN
      refine ⟨T, _, rfl, SqT.of upd_same, rfl, _, _, rfl, _, _, rfl, rfl, ?_⟩
      refine ⟨_, rfl, _, rfl, c, _, rfl, .inl (SqL.of (smT _ _ hc)), rfl, flat_ints ms, _, rfl, ?_⟩
      rw [inV_ints]
      by_cases hm : (i : Int) ∈ ms
      · rw [if_pos hm] at hp2
        rw [decide_eq_true hm]
        refine iteF ?_
        exact ⟨smT, ys, _, _, rfl, hNT', oy, hp2⟩
      · rw [if_neg hm] at hp2
        rw [decide_eq_false hm]
        refine iteT ?_
        refine ⟨_, rfl, _, rfl, _, _, rfl, rfl, N, _, _, _, rfl, rfl, SqL.of hNT', mat (j := g - 1) (by omega) (by omega), _, rfl, _, rfl, N, _, _, _, rfl, rfl, SqL.of hNT', mat rfl (by omega), _, _, rfl, rfl, _, rfl, ?_⟩
        unfold Bm.stp at hp2
        by_cases hlt2 : ys.getD g 0 < ys.getD (g - 1) 0
        · rw [if_pos hlt2] at hp2
          rw [decide_eq_true hlt2]
          refine iteT ?_
          refine ⟨_, rfl, _, rfl, N, _, _, _, rfl, rfl, SqL.of hNT', mat rfl (by omega), _, rfl, _, rfl, _, _, rfl, rfl, N, _, _, _, rfl, rfl, SqL.of hNT', mat (j := g - 1) (by omega) (by omega), ?_⟩
          refine ⟨(by show 2 ≤ sizeLine; decide), fun U nU => ?_⟩
          have hNU : N ≠ U := ne_of_none hNT' nU
          refine ⟨U, _, rfl, SqT.of upd_same, rfl, ?_⟩
          refine ⟨_, _, rfl, _, rfl, _, rfl, _, _, rfl, rfl, N, _, _, g - 1, rfl, rfl, by rw [upd_ne hNU]; exact hNT', ixm (by omega) (by omega), ?_⟩
          refine ⟨_, _, rfl, _, rfl, _, rfl, N, _, _, g, rfl, rfl, upd_same, by rw [mset]; exact ixm rfl (by rw [List.length_set]; omega), rfl, ?_⟩
          refine ⟨same_upd (same_upd (same_upd smT (smT.free nU)) nN) nN, Bm.swapAt ys g, _, _, rfl, ?_, Bm.swapAt_ord oy (by omega) (by omega), hp2⟩
          rw [upd_same, mset, mset]
          rfl
        · rw [if_neg hlt2] at hp2
          rw [decide_eq_false hlt2]
          refine iteF ?_
          exact ⟨smT, ys, _, _, rfl, hNT', oy, hp2⟩
    · rintro σ H' ⟨sm, ys, v4, v5, rfl, hN, oy, hp⟩
      rw [List.length_map, List.drop_length] at hp
      refine ⟨_, rfl, hQ H' N sm nN ?_⟩
      rw [← hp]
      exact hN
theorem ok_lmirrored (F : FnP K "_law_mirrored" "_law_mirrored" sLMirrored f fd) (B : Nb mg) : FnOk P w K mg base CX0 1 f fd ["_law_order_here"] spLMirrored := by
  refine ok0 F scLMirrored (fun vs H Q E h => ?_) (fun cdv A outer s H vs Q E hr h => ?_)
  · obtain ⟨a, xs, rfl, _⟩ := h
    rfl
  · obtain ⟨a, xs, rfl, ha, h12, hQ⟩ := h
    have nd := scLMirrored.nd
    refine ⟨_, pss_one (ps_ret (pe_lc (own := [("_law_rank", 1)]) (g := gName 1) (te := tOp (rI0 fun i j => .int (i - j)) (tOp (rI0 fun i j => .int (i - j)) (tCB (fun xs H Q => ∃ p ys, xs = [V.ref p] ∧ (SqL K H p ys ∨ SqT K H p ys) ∧ Q (V.int (ys.length : Nat)) H) (tCons (tVar 0) tNil)) (tC (.int 1))) (tVar 1)) rfl nd
      (pi_list (pe_revL (pv 0))) (blkOk_by (own := [("_law_rank", 1)]) (N := ["_law_order_here", "_law_rank"]) (sc := defScope sLMirrored) (by decide +kernel))
      (fun _ _ _ _ _ => pg_name (i := 1) nd rfl (Or.inl rfl)) (fun _ _ _ _ _ => pts_nil) (fun _ _ _ _ _ => pe_op op_sub (pe_op op_sub (pe_callB (call_len_seq) (by rfl) B.len PySem.boot_len (pa_cons (pv 0) pa_nil)) pe_int) (pv 1)))), ?_⟩
    refine ⟨_, rfl, a, _, rfl, SqL.of ha, fun R nR => ?_⟩
    have hR1 : upd H R (.lst (xs.map V.int).reverse) R = some (.lst (xs.reverse.map V.int)) := by rw [upd_same, List.map_reverse]
    refine ⟨R, rfl, ⟨_, SqL.of hR1⟩, fun D hD => lc_list (K := K) (a := R) (xs := xs.reverse.map V.int) (fun i H' => Same (upd H R (.lst (xs.map V.int).reverse)) H' ∧ H' D = some (.lst (((xs.reverse.take i).map fun r => (xs.length : Int) - 1 - r).map V.int))) ⟨same_new hD, upd_same⟩ (fun i H' _ q => q.1.seq (SqL.of hR1)) ?_ ?_⟩
    · rintro i x H' hi ⟨sm, hD'⟩
      obtain ⟨v, hv, rfl, hlt⟩ := map_at hi
      have ha' : H' a = some (.lst (xs.map V.int)) := sm _ _ (by rw [upd_ne (ne_of_none ha nR)]; exact ha)
      refine ⟨rfl, turn_yes ⟨_, rfl, a, _, rfl, .inl (SqL.of ha'), ?_⟩⟩
      rw [List.length_map]
      refine ⟨_, _, rfl, rfl, _, rfl, _, _, rfl, rfl, _, hD', ?_, same_upd sm hD, ?_⟩
      · rw [List.length_map, List.length_map, List.length_take, List.length_reverse]
        exact line1000 (by omega)
      · rw [upd_same]
        refine congrArg (fun z => some (HO.lst z)) ?_
        rw [List.take_add_one, hv]
        simp
    · rintro H' ⟨sm, hD'⟩
      refine hQ H' D ((same_new nR).trans sm) ((same_new nR).free hD) ?_
      rw [hD', List.length_map, List.take_length]
      rfl
theorem ok_need_play (F : FnP K "need_play" "need_play" sNeedPlay f fd) (B : Nb mg) (M : Nm K mg C) (S : Isi K C) (PT_ : Pty P w K mg base C) (LEN : Met P w K mg base 1 C "__len__" ["self"] (spLen C))
    (O4 : Cal P w K mg base 4 "is_order" ["thing", "places"] spIsOrder) (A4 : Cal P w K mg base 4 "are_misses" ["thing", "many"] spAreMisses) : FnOk P w K mg base CX0 5 f fd ["schedule", "order", "missed"] (spNeedPlay C) := by
  obtain ⟨pA, g, fdg, hp, hbg, G⟩ := PT_.ex
  refine ok0 F scNeedPlay (fun vs H Q E h => ?_) (fun cdv A outer s H vs Q E hr h => ?_)
  · obtain ⟨x, o, m, n, rs, xs, ms, rfl, _⟩ := h
    rfl
  · obtain ⟨x, o, m, n, rs, xs, ms, rfl, hS, hO, oo, hM, h1, h2, h3, hQ⟩ := h
    obtain ⟨dx, l, hx, hl, hrs, h400, hn1, hn12⟩ := id hS
    have hr2 : Room 2 _ := hr.mono (by decide)
    refine ⟨_, pss_cons (ps_if (pt_not (pt_val (pe_callB call_isi (by rfl) B.isinstance (by decide +kernel) (pa_cons (pv 0) (pa_cons (pe_glob (v := .ref C) (by rfl) M.mgC rfl) pa_nil))))) (pss_one ps_never) pss_nil)
      (pss_cons (ps_if (pt_not (pt_val (pe_cal O4 hr (by rfl) (pa_cons (pv 1) (pa_cons (pe_prop (pv 0) M.cl hp G hr2 hbg .nil pass0 rfl) pa_nil))))) (pss_one ps_never) pss_nil)
      (pss_one (ps_if (PW.pt (pw_and (pt_cmpR (op_neLT hr.units) (pv 2) (pe_tup pa_nil) (by rfl)) (pw_and1 (pt_not (pt_val (pe_cal A4 hr (by rfl) (pa_cons (pv 2) (pa_cons (pe_callB (call_lenO hr2 LEN) (by rfl) B.len PySem.boot_len (pa_cons (pv 0) pa_nil)) pa_nil))))))))
        (pss_one ps_never) pss_nil))), ?_⟩
    refine ⟨_, rfl, _, _, _, _, true, rfl, .own C, .base (.ins hx M.cl S.ha S.hn S.htk S.hm), S.me, true, rfl, iteF ?_⟩
    refine ⟨_, rfl, _, rfl, x, dx, _, rfl, hx, x, dx, _, _, rfl, hx, sf_pc n l, o, n, xs, rfl, hO, oo, hn12, fun H1 s1 => ?_⟩
    refine ⟨true, rfl, iteF ?_⟩
    refine ⟨_, rfl, (by show 0 ≤ sizeLine; exact Nat.zero_le _), fun T nT => ?_⟩
    have s2 : Same H (upd H1 T (.tup [])) := same_upd s1 (s1.free nT)
    refine ⟨m, T, ms, rfl, rfl, SqL.of (s2 _ _ hM), SqT.of upd_same, _, rfl, iteT ?_⟩
    refine ⟨_, rfl, _, rfl, x, dx, _, rfl, s2 _ _ hx, x, n, rs, rfl, hS.same s2, _, rfl, (by omega), (by omega), ?_⟩
    refine ⟨m, _, ms, rfl, s2 _ _ hM, h1, h2, h3, fun H3 s3 => ?_⟩
    exact ⟨true, rfl, iteF (hQ H3 (s2.trans s3))⟩
end
end Bw

set_option maxHeartbeats 4000000
/-! f(e, .., k = v, ..) of a generator def -/
namespace Bg
open PySem PySem.Spec PyProof.Rows L2
def tCallGN (n m : Nat) (sp : Bg.SpG) (gV : List V → List V → List V) (t tk : TA) : Bg.TGen := fun σ H cont => t σ H fun vs H1 => tk σ H1 fun zs H2 => vs.length = n ∧ zs.length = m ∧ sp (gV vs zs) H2 cont
section
variable {X : Cx} {k n : Nat} {f : Addr} {fd : FuncData} {ps ks : List Str} {sp : Bg.SpG} {x : Str} {p pos : Pos} {e : Expr} {es : List Expr} {kws : List Keyword} {t tk : TA} {g : List Value → List Value → List Value} {gV : List V → List V → List V}
theorem pgen_callN (F : Bg.GFn X.prog X.w X.K X.mg X.base k f fd ps sp) (hr : Room k X.A) (hg : Gl X x) (hm : X.mg x = some (.ref f)) (hk : PySem.W.keepIn X.K (.ref f) = true) (hb : KBn X.K fd ps n ks g gV)
    (ha : PA X (e :: es) t) (hkw : PK X kws tk) (hall : (backToKw pos (keywordEach kws X.env)).all (·.1.isSome) = true := by rfl) (hks : (backToKw pos (keywordEach kws X.env)).filterMap (·.1) = ks := by rfl)
    (hdb : (x == ("__debug__" : Str)) = false := by decide) (he : starEach (e :: es) X.env = (false, eval e X.env) :: starEach es X.env := by rfl)
    (hpl : ((backTo pos (starEach (e :: es) X.env)).any (·.1) || (backToKw pos (keywordEach kws X.env)).any (·.1.isNone)) = false := by rfl) :
    Bg.PGen X k (.Call (.Name x p) (e :: es) kws pos) (tCallGN n ks.length sp gV t tk) := by
  refine ⟨fun pins s σ H cont I h => ?_⟩
  refine wpAny_Call_Name_kw (ld_glob I hg hm ?_ hdb)
  refine PySem.W.callWith_KW (h₀ := X.base) I.ok.mod.kin hk hall (thn (ha.run pos pins s σ H _ I h) fun us s1 ⟨vs, H1, I1, r, q⟩ => ?_) hpl he
  refine thn (hkw.run pos pins s1 σ H1 _ I1 q) fun ws s2 ⟨zs, H2, I2, rz, l1, l2, q2⟩ => ⟨I2.kIn, ?_⟩
  rw [hks]
  have r2 := hb.rel r rz
  refine wpAny_call (codeAny_mono (F.run X.A X.stack s2 H2 ⟨us, ks.zip ws⟩ (g us ws) (gV vs zs) cont hr I2.env0 (hb.to s2 us ws I2.kIn (r.length.symm.trans l1) (rz.length.symm.trans l2)) r2 q2) fun r s' hq => ?_)
  cases r with
  | error e => exact False.elim hq
  | ok fl =>
    cases fl with
    | ret u => exact ⟨H2, s2, I2, hq⟩
    | next => exact False.elim hq
    | brk => exact False.elim hq
    | cont => exact False.elim hq
end
end Bg
namespace Bw
open PySem PySem.Spec PyProof.Rows L2
theorem kb_missed {K : PySem.W.Frag} {x qual : Str} {params : Arguments} {body : List Stmt} {scope : Scope} {f : Addr} {fd : FuncData} (F : FunD K x qual params body scope [] [] f fd)
    (h : ∀ (kV doc pm : Value) (an : Option Addr) (cdv ct : Value) (a b c : Value), bindArgs (PySem.W.fnOf x qual params body scope .none kV doc pm an cdv ct) ⟨[a, b], [(("missed" : Str), c)]⟩ = pure [(("schedule" : Str), a), (("order" : Str), b), (("missed" : Str), c)]) :
    KBn K fd ["schedule", "order", "missed"] 2 ["missed"] (fun us ws => us ++ ws) (fun vs zs => vs ++ zs) := by
  obtain ⟨oc, od, dV, kV, doc, pm, an, cdv, ct, osl, rfl, lk, hcd, hD, hK⟩ := F.ex
  rcases hD with ⟨_, rfl⟩ | ⟨e, _⟩
  · refine ⟨fun s us ws X l1 l2 => ?_, fun r1 r2 => r1.append r2⟩
    match us, ws, l1, l2 with
    | [a, b], [c], _, _ => exact .of_eq (h kV doc pm an cdv ct a b c)
  · exact absurd rfl e
section
variable {X : Cx}
/-- name = {..} on one line, the name a local -/
theorem ps_setDc {i : Nat} {y : Str} {py : Pos} {kx vx tg iter : Expr} {ifs : List Expr} {scope : Scope} {own : List (Str × Nat)} {pos spos : Pos} {wi : TI} {g : TG} {tt : TT} {tk tv : TE} (hc : X.calm = true) (hN : X.N.Nodup) (hy : X.N[i]? = some y) (hyl : X.env.scope.names.lookup y = some .local)
    (hsw : swapsWith (.DictComp kx vx [⟨tg, iter, ifs, 0⟩] scope pos) (some (.Name y py)) spos.line X.env = pure true) (hi : PI X tg iter wi) (ok : BlkOk X.N X.env.scope scope own)
    (hg : ∀ (s : Shared) (H : Hp) (C : Addr) (cl : List (Str × Addr)) (fp : List Addr), PG (X.blk s H scope (compEnvC scope cl C X.env) fp) tg g) (ht : ∀ (s : Shared) (H : Hp) (C : Addr) (cl : List (Str × Addr)) (fp : List Addr), PTs (X.blk s H scope (compEnvC scope cl C X.env) fp) ifs tt)
    (hk : ∀ (s : Shared) (H : Hp) (C : Addr) (cl : List (Str × Addr)) (fp : List Addr), PE (X.blk s H scope (compEnvC scope cl C X.env) fp) kx tk)
    (he : ∀ (s : Shared) (H : Hp) (C : Addr) (cl : List (Str × Addr)) (fp : List Addr), PE (X.blk s H scope (compEnvC scope cl C X.env) fp) vx tv) (hs : ∀ x, foldedSetIterable iter X.env x = pure x := by intro _; rfl) :
    PS X (.Assign [.Name y py] (.DictComp kx vx [⟨tg, iter, ifs, 0⟩] scope pos) spos) (tAsg (tDc wi g tt tk tv (own.map (·.2))) (gName i)) := by
  refine ⟨fun pins s σ H D I h => ?_⟩
  rw [exec_Assign_Name_used _ _ _ _ hsw]
  refine wpAny_bind (wpAny_standAt (wpAny_bind ?_))
  show wpAny _ X.A (do let _ ← comprehension (.DictComp kx vx [⟨tg, iter, ifs, 0⟩] scope pos) scope X.env (firstIterPos [⟨tg, iter, ifs, 0⟩] pos) newDict false (eval iter X.env) (some (assign (.Name y py) X.env))) _ _ s
  have h : tDc wi g tt tk tv (own.map (·.2)) σ H (fun x H1 => gName i x σ H1 D.nx) := h
  refine wpAny_bind (thn (dc_core (Qf := fun _ s' => SP X pins D .next s') hc hN I hi ok hg ht hk he hs h fun L C s' m H' I' q hn f => ?_) fun _ s' hq => wpAny_pure (wpAny_pure hq))
  show wpAny _ _ (assign (.Name y py) X.env (.ref L)) _ _ _
  refine wpAny_assign_Name (store_ok2 (v := V.ref L) I' hN hy (.inl hyl) rfl (fun s2 I2 ⟨a, sb, ha⟩ => ?_) (.inr hyl))
  obtain ⟨f0, f1, f2, f3, f4, f5⟩ := f
  have haC : C ≠ a := by
    rcases ha with z | z
    · rw [z]; exact f1
    · exact fun e => f4 y a z e.symm
  refine ⟨m, hn.sameBut sb haC, fun h3 sb3 => ?_⟩
  exact ⟨_, H', I2.turned (t' := s2.toks) (fun b o hb e => (sb3.2 b hb).trans e) f0 f1 f3 f4 f5, q⟩
end
/-- a dict comprehension over a list that stays -/
theorem dc_list {K : PySem.W.Frag} {a : Addr} {xs : List V} {g : TG} {tt : TT} {tk tv : TE} {vs : List Nat} {σ : L2.St} {H1 : Hp} {D : Addr} {Qd : Hp → Prop} (Pv : Nat → Hp → Prop) (h0 : Pv 0 (upd H1 D (.dK []))) (hl : ∀ i H, i ≤ xs.length → Pv i H → SqL K H a xs)
    (hs : ∀ i x H, xs[i]? = some x → Pv i H → g x (wipe σ vs) H fun σ2 H2 => wipe σ2 vs = wipe σ vs ∧ tt σ2 H2 fun b H3 =>
      if b = true then tk σ2 H3 fun y H4 => tv σ2 H4 fun z H5 => ∃ kvs k, y = kV k ∧ H5 D = some (.dK kvs) ∧ kvs.length < sizeLine ∧ Pv (i + 1) (upd H5 D (.dK (putK kvs k z))) else Pv (i + 1) H3) (hd : ∀ H, Pv xs.length H → Qd H) :
    ∃ W : Nat → Nat → Hp → Prop, (∃ m, W 0 m (upd H1 D (.dK []))) ∧ ∀ i m H, W i m H →
      ((Itl K a).stop i H ∧ Qd H) ∨ ((Itl K a).go i H ∧ ∃ Nx : Hp → Prop, (∀ H', Nx H' → ∃ m', m' < m ∧ W (i + 1) m' H') ∧ ∀ x H', (Itl K a).yld i H x H' → g x (wipe σ vs) H' fun σ2 H2 => wipe σ2 vs = wipe σ vs ∧ tt σ2 H2 fun b H3 =>
        if b = true then tk σ2 H3 fun y H4 => tv σ2 H4 fun z H5 => ∃ kvs k, y = kV k ∧ H5 D = some (.dK kvs) ∧ kvs.length < sizeLine ∧ Nx (upd H5 D (.dK (putK kvs k z))) else Nx H3) := by
  refine ⟨fun i m H => m = xs.length - i ∧ i ≤ xs.length ∧ Pv i H, ⟨xs.length, by simp, Nat.zero_le _, h0⟩, ?_⟩
  rintro i m H ⟨rfl, hi, p⟩
  have q := hl i H hi p
  by_cases hlt : i < xs.length
  · refine .inr ⟨⟨xs, xs[i], q, by simp [hlt]⟩, Pv (i + 1), fun H' p' => ⟨xs.length - (i + 1), by omega, rfl, hlt, p'⟩, fun x H' y => ?_⟩
    obtain ⟨e, y⟩ := y
    subst e
    exact hs i x _ (y xs q) p
  · have e : i = xs.length := by omega
    subst e
    exact .inl ⟨⟨xs, q, Nat.le_refl _⟩, hd H p⟩
abbrev rdLst (K : PySem.W.Frag) : List V → Hp → VK → Prop := fun xs H Q => ∃ p ys, xs = [.ref p] ∧ (SqL K H p ys ∨ SqT K H p ys) ∧ ∀ l, H l = none → Q (.ref l) (upd H l (.lst ys))
def spOA (C : Addr) : Bg.SpG := fun vs H Q => ∃ (x o m : Addr) (n : Nat) (rs : List Row3) (xs ms : List Int), vs = [.ref x, .ref o, .ref m] ∧ Sched C H x n rs ∧ H o = some (.lst (xs.map V.int)) ∧ Bm.IsOrd n xs ∧ H m = some (.lst (ms.map V.int)) ∧ ms.length ≤ 1000 ∧
  ∀ (ys : List V) H', Same H H' → ((ys = [] ∧ rs = []) ∨ ∃ q, ys.getLast? = some (.ref q) ∧ H q = none ∧ H' q = some (.lst ((Bm.play ms 0 (gat rs) xs).map V.int))) → Q ys H'
def spPlay (C : Addr) : Sp := fun vs H Q _ => ∃ (x o m : Addr) (n : Nat) (rs : List Row3) (xs ms : List Int), vs = [.ref x, .ref o, .ref m] ∧ Sched C H x n rs ∧ H o = some (.lst (xs.map V.int)) ∧ Bm.IsOrd n xs ∧ H m = some (.lst (ms.map V.int)) ∧
  (∀ v ∈ ms, 0 ≤ v ∧ v < (rs.length : Int)) ∧ ms.Pairwise (· < ·) ∧ ms.length ≤ 1000 ∧ ∀ H' q, Same H H' → H q = none → H' q = some (.lst ((Bm.play ms 0 (gat rs) xs).map V.int)) → Q (.ref q) H'
/-- what holds between two turns of orders_after -/
def OInv (H : Hp) (x o m N L G : Addr) (n : Nat) (gs xs ms : List Int) (kvs : List (Key × V)) (i : Nat) (ys : List V) (σ : L2.St) (H' : Hp) : Prop :=
  Same H H' ∧ H' G = some (.lst (gs.map V.int)) ∧ H' L = some (.dK kvs) ∧ ys.length = i ∧ ∃ zs v4 v6, σ = [some (.ref x), some (.ref o), some (.ref m), some (.ref N), v4, some (.ref L), v6] ∧ H' N = some (.lst (zs.map V.int)) ∧ Bm.IsOrd n zs ∧
    Bm.play ms i (gs.drop i) zs = Bm.play ms 0 gs xs ∧ (i = 0 ∨ ∃ q, ys.getLast? = some (.ref q) ∧ H q = none ∧ H' q = some (.lst (zs.map V.int)))
section
variable {P : Program} {w : World} {K : PySem.W.Frag} {mg : Str → Option Value} {base : Heap} {f C : Addr} {fd : FuncData}
theorem gat_gates {n : Nat} {rs : List Row3} {H : Hp} (h : RowsOk n rs H) : Bm.Gates n (gat rs) := fun g hg => by
  obtain ⟨r, hr, rfl⟩ := List.mem_map.mp hg
  obtain ⟨_, h1, h2, _⟩ := h r hr
  exact ⟨h1, h2⟩
theorem gok_orders_after (F : FnP K "orders_after" "orders_after" sOrdersAfter f fd) (B : Nb mg) (M : Nm K mg C) (W : Met P w K mg base 1 C "gates" ["self"] (spGates C)) (I1 : Cal P w K mg base 1 "is_exchanged" ["order", "gate"] (spIsExch K))
    (E1 : Cal P w K mg base 1 "exchange" ["order", "gate"] spExch) : Bg.GFn P w K mg base 2 f fd ["schedule", "order", "missed"] (spOA C) := by
  obtain ⟨fW, fdW, mW, bW, GW⟩ := W.ex
  obtain ⟨oc, od, dV, kV_, doc, pm, an, cdv, ct, osl, rfl, lk, hcd, hD, hK⟩ := F.ex
  refine Bg.gfn_of lk hcd scOrdersAfter (fun vs H Q h => ?_) (fun A outer s H vs Q pn LL φ hr gp hsp => ?_)
  · obtain ⟨x, o, m, n, rs, xs, ms, rfl, _⟩ := h
    rfl
  · obtain ⟨x, o, m, n, rs, xs, ms, rfl, hS, hO, oo, hM, hml, hQ⟩ := hsp
    obtain ⟨dx, l, hx, hl, hrs, h400, hn1, hn12⟩ := id hS
    have nd := scOrdersAfter.nd
    have nx : ∀ e s', ¬ (gcxOf P w K mg base ["schedule", "order", "missed", "now", "at", "left", "gate"] "orders_after" (defScope sOrdersAfter) f cdv A outer s H E0 pn).nox.xe e s' := fun _ _ h => h
    have hu : (A.deeper (envOfC "orders_after" (defScope sOrdersAfter) s.heap.objs.size f cdv)).units + 1 < cLine := by
      have := hr.un
      omega
    refine ⟨_, Bg.gss_cons (Bg.gs_ps (t := tAsg (tCB (rdLst K) (tCons (tVar 1) tNil)) (gName 3)) nx (fun h0 => ps_set (i := 3) nd rfl (Or.inl rfl) (pe_callTy call_list_of (by rfl) B.list (by decide +kernel) (pa_cons (pv 1) pa_nil))))
      (Bg.gss_cons (Bg.gs_ps (t := tAsg (tDc (iList K (tVar 2)) (gName 4) tYes (tVar 4) (tC (.bl true)) [4]) (gName 5)) nx (fun h0 => ps_setDc (i := 5) (own := [("at", 4)]) (g := gName 4) rfl nd rfl rfl (by rfl) (pi_list (pv 2))
          (blkOk_by (own := [("at", 4)]) (N := ["schedule", "order", "missed", "now", "at", "left", "gate"]) (sc := defScope sOrdersAfter) (by decide +kernel))
          (fun _ _ _ _ _ => pg_name (i := 4) nd rfl (Or.inl rfl)) (fun _ _ _ _ _ => pts_nil) (fun _ _ _ _ _ => pv 4) (fun _ _ _ _ _ => pe_bl)))
      (Bg.gss_cons (Bg.gs_for (wi := iEnum K (tCons (tMeth C "gates" (spGates C) [] E0 (tVar 0) tNil) tNil)) (gt := gTup K 2 (gCons (gName 4) (gCons (gName 6) gNil))) nx rfl
          (fun h0 => pi_enum (by rfl) B.enumerate (pa_cons (pe_meth0 (pv 0) M.cl mW GW hr bW .nil pass0) pa_nil))
          (fun h0 => pg_tup rfl (pgs_cons (pg_name (i := 4) nd rfl (Or.inl rfl)) (pgs_cons (pg_name (i := 6) nd rfl (Or.inl rfl)) pgs_nil)))
        (Bg.gss_cons (Bg.gs_ps (t := tIfS (tAnd (tB (tDNotIn (tVar 4) (tVar 5))) (tB (tCall (spIsExch K) [] E0 (tCons (tVar 3) (tCons (tVar 6) tNil))))) (tDrop (tCall spExch [] E0 (tCons (tVar 3) (tCons (tVar 6) tNil)))) tNext) nx
            (fun h0 => ps_if (PW.pt (pw_and (pt_cmp (pc_dnotin hu (pv 4) (pv 5)) (by rfl)) (pw_and1 (pt_val (pe_cal I1 hr (by rfl) (pa_cons (pv 3) (pa_cons (pv 6) pa_nil)))))))
              (pss_one (ps_expr (pe_cal E1 hr (by rfl) (pa_cons (pv 3) (pa_cons (pv 6) pa_nil))))) pss_nil))
        (Bg.gss_cons (Bg.gs_yield (te := tCB (rdLst K) (tCons (tVar 3) tNil)) gp nx (fun h0 => pe_callTy call_list_of (by rfl) B.list (by decide +kernel) (pa_cons (pv 3) pa_nil))) Bg.gss_nil)))
      Bg.gss_nil)), ?_⟩
    refine ⟨_, rfl, o, _, rfl, .inl (SqL.of hO), fun N nN => ?_⟩
    have s1 : Same H (upd H N (.lst (xs.map V.int))) := same_new nN
    refine ⟨_, rfl, m, rfl, ⟨_, SqL.of (s1 _ _ hM)⟩, fun L nL => dc_list (K := K) (a := m) (xs := ms.map V.int) (fun i H' => Same (upd H N (.lst (xs.map V.int))) H' ∧ ∃ kvs, H' L = some (.dK kvs) ∧ kvs.length ≤ i ∧ ∀ z : Int, (valV kvs (.inl z)).isSome = decide (z ∈ ms.take i))
      ⟨same_new nL, [], upd_same, Nat.le_refl _, fun z => by rw [List.take_zero]; simp [valV_nil]⟩ (fun i H' _ q => q.1.seq (SqL.of (s1 _ _ hM))) ?_ ?_⟩
    · rintro i v H' hi ⟨sm, kvs, hL, hlen, hv⟩
      obtain ⟨z, hz, rfl, hlt⟩ := map_at hi
      refine ⟨rfl, turn_yes ⟨_, rfl, ?_⟩⟩
      refine ⟨kvs, .inl z, rfl, hL, line1000 (by omega), same_upd sm nL, _, upd_same, Nat.le_trans (length_putK kvs (.inl z) (.bl true)) (by omega), fun u => ?_⟩
      rw [valV_put, List.take_add_one, hz]
      by_cases hu : u = z
      · subst hu
        rw [if_pos rfl]
        simp
      · rw [if_neg (fun q => hu (Sum.inl.inj q)), hv u]
        simp [hu]
    · rintro H2 ⟨sm, kvs, hL, hlen, hv⟩
      rw [List.length_map, List.take_length] at hv
      have s2 : Same H H2 := s1.trans sm
      have nL0 : H L = none := s1.free nL
      have hN2 : H2 N = some (.lst (xs.map V.int)) := sm _ _ upd_same
      refine ⟨_, rfl, x, dx, _, rfl, s2 _ _ hx, sf_no n l (by decide +kernel) (by decide +kernel), x, n, rs, rfl, hS.same s2, fun H3 G s3 nG hG => ?_⟩
      refine ⟨G, _, rfl, SqL.of hG, gfor_enum (K := K) (a := G) (xs := (gat rs).map V.int) (OInv H x o m N L G n (gat rs) xs ms kvs)
        ⟨s2.trans s3, hG, s3 _ _ hL, rfl, xs, _, _, rfl, s3 _ _ hN2, oo, by rw [List.drop_zero], .inl rfl⟩ (fun i ys σ H' _ q => SqL.of q.2.1) ?_ ?_⟩
      · rintro i v T ys σ H4 hi ⟨s4, hG4, hL4, hly, zs, v4, v6, rfl, hN4, oz, hp, _⟩ hT
        obtain ⟨gi, hg, rfl, hlt⟩ := map_at hi
        obtain ⟨g1, g2⟩ := gat_gates hrs gi (List.mem_of_getElem? hg)
        obtain ⟨g, rfl⟩ := nat_of_pos (show 0 ≤ gi by omega)
        have hlz := oz.len
        have hlt' : i < 400 := by
          have : (gat rs).length = rs.length := List.length_map _
          omega
        have ed : (gat rs).drop i = (g : Int) :: (gat rs).drop (i + 1) := by
          rw [List.drop_eq_getElem_cons hlt]
          congr 1
          exact (List.getElem?_eq_some_iff.mp hg).2
        rw [ed] at hp
        have hp2 : Bm.play ms (i + 1) ((gat rs).drop (i + 1)) (if (i : Int) ∈ ms then zs else Bm.stp zs g) = Bm.play ms 0 (gat rs) xs := hp
        have hGT : G ≠ T := ne_of_none hG4 hT
        have hLT : L ≠ T := ne_of_none hL4 hT
        have hNT : N ≠ T := ne_of_none hN4 hT
        have hGN : G ≠ N := fun q => by
          rw [q, hN2] at nG
          cases nG
        have hLN : L ≠ N := fun q => by
          rw [q, upd_same] at nL
          cases nL
        have s5 : Same H (upd H4 T (.tup [.int (i : Nat), .int (g : Int)])) := same_upd s4 (s4.free hT)
        have fin : ∀ H5 zs2, Same H H5 → H5 G = some (.lst ((gat rs).map V.int)) → H5 L = some (.dK kvs) → H5 N = some (.lst (zs2.map V.int)) → Bm.IsOrd n zs2 → Bm.play ms (i + 1) ((gat rs).drop (i + 1)) zs2 = Bm.play ms 0 (gat rs) xs →
            ys.length < sizeLine ∧ tCB (rdLst K) (tCons (tVar 3) tNil) [some (.ref x), some (.ref o), some (.ref m), some (.ref N), some (.int (i : Nat)), some (.ref L), some (.int (g : Int))] H5 fun y H6 => OInv H x o m N L G n (gat rs) xs ms kvs (i + 1) (ys ++ [y]) [some (.ref x), some (.ref o), some (.ref m), some (.ref N), some (.int (i : Nat)), some (.ref L), some (.int (g : Int))] H6 := by
          intro H5 zs2 e1 e2 e3 e4 e5 e6
          refine ⟨line1000 (by omega), _, rfl, N, _, rfl, .inl (SqL.of e4), fun q nq => ?_⟩
          have nq0 : H q = none := e1.free nq
          refine ⟨same_upd e1 nq0, by rw [upd_ne (ne_of_none e2 nq)]; exact e2, by rw [upd_ne (ne_of_none e3 nq)]; exact e3, by rw [List.length_append, hly]; rfl, zs2, _, _, rfl, by rw [upd_ne (ne_of_none e4 nq)]; exact e4, e5, e6, .inr ⟨q, ?_, nq0, upd_same⟩⟩
          simp
        refine ⟨T, _, rfl, SqT.of upd_same, rfl, _, _, rfl, _, _, rfl, rfl, ?_⟩
        have hL5 : upd H4 T (.tup [.int (i : Nat), .int (g : Int)]) L = some (.dK kvs) := by rw [upd_ne hLT]; exact hL4
        have hG5 : upd H4 T (.tup [.int (i : Nat), .int (g : Int)]) G = some (.lst ((gat rs).map V.int)) := by rw [upd_ne hGT]; exact hG4
        have hN5 : upd H4 T (.tup [.int (i : Nat), .int (g : Int)]) N = some (.lst (zs.map V.int)) := by rw [upd_ne hNT]; exact hN4
        refine ⟨_, rfl, _, rfl, L, _, rfl, DGet.k (k := .inl ((i : Nat) : Int)) hL5, _, rfl, ?_⟩
        rw [hv]
        by_cases hm : ((i : Nat) : Int) ∈ ms
        · rw [if_pos hm] at hp2
          rw [decide_eq_true hm]
          exact iteF (fin _ zs s5 hG5 hL5 hN5 oz hp2)
        · rw [if_neg hm] at hp2
          rw [decide_eq_false hm]
          refine iteT ?_
          refine ⟨_, rfl, _, rfl, N, g, zs, rfl, SqL.of hN5, (by omega), (by omega), _, rfl, ?_⟩
          unfold Bm.stp at hp2
          by_cases hlt2 : zs.getD g 0 < zs.getD (g - 1) 0
          · rw [if_pos hlt2] at hp2
            rw [decide_eq_true hlt2]
            refine iteT ?_
            refine ⟨_, rfl, _, rfl, N, g, zs, rfl, hN5, (by omega), (by omega), fun H6 k6 hN6 => ?_⟩
            exact fin H6 _ (fun b u e => k6 b u (ne_of_none e nN) (s5 b u e)) (k6 _ _ hGN hG5) (k6 _ _ hLN hL5) hN6 (Bm.swapAt_ord oz (by omega) (by omega)) hp2
          · rw [if_neg hlt2] at hp2
            rw [decide_eq_false hlt2]
            exact iteF (fin _ zs s5 hG5 hL5 hN5 oz hp2)
      · rintro ys σ H4 ⟨s4, hG4, hL4, hly, zs, v4, v6, rfl, hN4, oz, hp, hlast⟩
        rw [List.length_map] at hly hp
        rw [List.drop_length] at hp
        refine hQ ys H4 s4 ?_
        rcases hlast with h0 | ⟨q, e1, e2, e3⟩
        · rw [List.length_map] at h0
          have e : rs = [] := by
            have : (gat rs).length = rs.length := List.length_map _
            exact List.eq_nil_of_length_eq_zero (by omega)
          exact .inl ⟨List.eq_nil_of_length_eq_zero (by omega), e⟩
        · refine .inr ⟨q, e1, e2, ?_⟩
          rw [← hp]
          exact e3
theorem ok_play (F : FnP K "play" "play" sPlay f fd) (B : Nb mg) (N5 : Cal P w K mg base 5 "need_play" ["schedule", "order", "missed"] (spNeedPlay C))
    (G : ∃ fo fdo, mg "orders_after" = some (.ref fo) ∧ PySem.W.keepIn K (.ref fo) = true ∧ KBn K fdo ["schedule", "order", "missed"] 2 ["missed"] (fun us ws => us ++ ws) (fun vs zs => vs ++ zs) ∧ Bg.GFn P w K mg base 2 fo fdo ["schedule", "order", "missed"] (spOA C)) :
    FnOk P w K mg base CX0 6 f fd ["schedule", "order", "missed"] (spPlay C) := by
  obtain ⟨fo, fdo, hmo, hko, hbo, GO⟩ := G
  refine ok0 F scPlay (fun vs H Q E h => ?_) (fun cdv A outer s H vs Q E hr h => ?_)
  · obtain ⟨x, o, m, n, rs, xs, ms, rfl, _⟩ := h
    rfl
  · obtain ⟨x, o, m, n, rs, xs, ms, rfl, hS, hO, oo, hM, h1, h2, h3, hQ⟩ := h
    have nd := scPlay.nd
    have hr2 : Room 2 _ := hr.mono (by decide)
    have hr3 : Room 3 _ := hr.mono (by decide)
    refine ⟨_, pss_cons (ps_expr (pe_cal N5 hr (by rfl) (pa_cons (pv 0) (pa_cons (pv 1) (pa_cons (pv 2) pa_nil)))))
      (pss_cons (ps_set (i := 3) nd rfl (Or.inl rfl) (pe_callTy call_list_of (by rfl) B.list (by decide +kernel) (pa_cons (pv 1) pa_nil)))
      (pss_cons (Bg.ps_forG (k := 2) (i := 4) (j := 3) hr3 rfl nd rfl rfl (by decide) rfl rfl rfl rfl (Bg.pgen_callN (n := 2) (ks := ["missed"]) GO hr2 (by rfl) hmo hko hbo (pa_cons (pv 0) (pa_cons (pv 1) pa_nil)) (pk_cons (pv 2) pk_nil)))
      (pss_one (ps_ret (pv 3))))), ?_⟩
    refine ⟨_, rfl, _, rfl, _, rfl, x, o, m, n, rs, xs, ms, rfl, hS, hO, oo, hM, h1, h2, h3, fun H1 s1 => ?_⟩
    refine ⟨_, rfl, o, _, rfl, .inl (SqL.of (s1 _ _ hO)), fun N nN => ?_⟩
    have s2 : Same H (upd H1 N (.lst (xs.map V.int))) := same_upd s1 (s1.free nN)
    have nN0 : H N = none := s1.free nN
    refine ⟨_, rfl, _, rfl, _, rfl, rfl, rfl, x, o, m, n, rs, xs, ms, rfl, hS.same s2, s2 _ _ hO, oo, s2 _ _ hM, h3, fun ys H2 s3 hys => ?_⟩
    rcases hys with ⟨rfl, rfl⟩ | ⟨q, e1, e2, e3⟩
    · refine ⟨_, rfl, hQ H2 N (s2.trans s3) nN0 ?_⟩
      exact s3 _ _ upd_same
    · unfold Bg.endσ
      rw [e1]
      exact ⟨_, rfl, hQ H2 q (s2.trans s3) (s2.free e2) e3⟩
end
end Bw

set_option maxHeartbeats 4000000
namespace Bw
open PySem PySem.Spec PyProof.Rows L2
theorem refs_not_bag {rs : List Row3} {a b c : Int} {q : Addr} (e : refs rs = [.int a, .int b, .int c, .ref q]) : False := by
  cases rs with
  | nil => cases e
  | cons r rs => exact absurd (List.cons.inj e).1 (by intro z; cases z)
theorem refs_ne {H : Hp} {p cA l : Addr} {rs : List Row3} (hb : BagAt H p cA) (hl : H l = some (.lst (refs rs))) : l ≠ p := fun z => by
  obtain ⟨a, b, c, cells, hB⟩ := hb
  have h1 := hB.at_
  rw [← z, hl] at h1
  exact refs_not_bag (HO.lst.inj (Option.some.inj h1))
theorem Sched.kp {C : Addr} {H H' : Hp} {x : Addr} {n : Nat} {rs : List Row3} {p cA : Addr} (h : Sched C H x n rs) (hb : BagAt H p cA) (k : Kp p H H') : Sched C H' x n rs := by
  obtain ⟨dx, l, h1, h2, h3, h4⟩ := h
  obtain ⟨ws, hp⟩ := hb.lst
  exact ⟨dx, l, k _ _ (ne_of h1 hp (by intro q; cases q)) h1, k _ _ (refs_ne hb h2) h2, h3.kp hb k, h4⟩
def spLaw (K : PySem.W.Frag) : Sp := fun vs H Q _ => ∃ (a : Addr) (ns : List Int), vs = [.ref a] ∧ SqL K H a (ns.map V.int) ∧ ns.length ≤ 63 ∧ ∀ H', Q (.bl true) H'
section
variable {P : Program} {w : World} {K : PySem.W.Frag} {mg : Str → Option Value} {base : Heap} {f C : Addr} {fd : FuncData}
/-- play, called by name with missed= -/
structure PlayC (P : Program) (w : World) (K : PySem.W.Frag) (mg : Str → Option Value) (base : Heap) (C : Addr) : Prop where
  ex : ∃ fp fdp, mg "play" = some (.ref fp) ∧ PySem.W.keepIn K (.ref fp) = true ∧ KBn K fdp ["schedule", "order", "missed"] 2 ["missed"] (fun us ws => us ++ ws) (fun vs zs => vs ++ zs) ∧ FnOk P w K mg base CX0 6 fp fdp ["schedule", "order", "missed"] (spPlay C)
theorem pick2 {a b : Addr} {v : Int} (h0 : 0 ≤ v) (h1 : v < 2) : (v = 0 ∧ atI [V.ref a, V.ref b] v = some (.ref a)) ∨ (v = 1 ∧ atI [V.ref a, V.ref b] v = some (.ref b)) := by
  have c : v = 0 ∨ v = 1 := by omega
  rcases c with rfl | rfl
  · exact .inl ⟨rfl, atI_nat (j := 0) rfl⟩
  · exact .inr ⟨rfl, atI_nat (j := 1) rfl⟩
theorem pickI {v : Int} (h0 : 0 ≤ v) (h1 : v < 2) : ∃ t : Nat, t ≤ 3 ∧ atI [V.int 0, V.int 3] v = some (.int (t : Int)) := by
  have c : v = 0 ∨ v = 1 := by omega
  rcases c with rfl | rfl
  · exact ⟨0, by decide, atI_nat (j := 0) rfl⟩
  · exact ⟨3, by decide, atI_nat (j := 1) rfl⟩
/-- what holds between two turns of the inner loop -/
def TInv (C : Addr) (H0 : Hp) (p cA x R : Addr) (n : Nat) (v0 v2 : Option V) (σ : L2.St) (H' : Hp) : Prop :=
  Kp p H0 H' ∧ BagAt H' p cA ∧ ∃ v6 v7 v8 v9 v10 v11 v12 v13, σ = [v0, some (.ref p), v2, some (.int (n : Int)), some (.ref R), some (.ref x), v6, v7, v8, v9, v10, v11, v12, v13]
theorem ok_law (F : FnP K "law" "law" sLaw f fd) (B : Nb mg) (M : Nm K mg C) (MK : Mkc P w K mg base 5 C) (BAG : Cal P w K mg base 1 "_law_bag" ["_law_script"] (spBag K)) (T1 : Cal P w K mg base 1 "_law_take" ["_law_bag_here", "_law_many"] spTake)
    (PL : Cal P w K mg base 2 "_law_places" ["_law_bag_here", "_law_least", "_law_most"] spLPlaces) (CM : Cal P w K mg base 3 "_law_comparisons" ["_law_bag_here", "_law_places_here", "_law_most"] spLComparisons)
    (OR : Cal P w K mg base 2 "_law_order" ["_law_bag_here", "_law_places_here"] spLOrder) (NE : Cal P w K mg base 2 "_law_near" ["_law_bag_here", "_law_rows", "_law_places_here"] spLNear)
    (MI : Cal P w K mg base 2 "_law_misses" ["_law_bag_here", "_law_many", "_law_most"] spLMisses) (LP : Cal P w K mg base 1 "_law_play" ["_law_gates_here", "_law_order_here", "_law_gone"] spLPlay)
    (LM : Cal P w K mg base 1 "_law_mirrored" ["_law_order_here"] spLMirrored) (INV : Cal P w K mg base 1 "inverse" ["order"] spInverse) (PLAY : PlayC P w K mg base C)
    (MB : Met P w K mg base 8 C "backwards" ["self"] (spBackwards C)) (MM : Met P w K mg base 8 C "mirrored" ["self"] (spMirrored C)) : FnOk P w K mg base CX0 9 f fd ["_law_script"] (spLaw K) := by
  obtain ⟨fI, fdI, mk, bI, GI⟩ := MK.ex
  obtain ⟨fB, fdB, mB, bB, GB⟩ := MB.ex
  obtain ⟨fM, fdM, mM, bM, GM⟩ := MM.ex
  obtain ⟨fp, fdp, hmp, hkp, hbp, GP_⟩ := PLAY.ex
  refine ok0 F scLaw (fun vs H Q E h => ?_) (fun cdv A outer s H vs Q E hr h => ?_)
  · obtain ⟨a, ns, rfl, _⟩ := h
    rfl
  · obtain ⟨a, ns, rfl, ha, hlen, hQ⟩ := h
    have nd := scLaw.nd
    have hr1 : Room 1 _ := hr.mono (by decide)
    have hr2 : Room 2 _ := hr.mono (by decide)
    have hr3 : Room 3 _ := hr.mono (by decide)
    have hr6 : Room 6 _ := hr.mono (by decide)
    refine ⟨_, pss_cons (ps_set (i := 1) nd rfl (Or.inl rfl) (pe_cal BAG hr1 (by rfl) (pa_cons (pv 0) pa_nil)))
      (pss_cons (ps_for PassesOwn.never rfl (pi_range1 (by rfl) B.range (pa_cons pe_int pa_nil)) (pg_name (i := 2) nd rfl (Or.inl rfl))
        (pss_cons (ps_set (i := 3) nd rfl (Or.inl rfl) (pe_cal PL hr2 (by rfl) (pa_cons (pv 1) (pa_cons pe_int (pa_cons pe_int pa_nil)))))
        (pss_cons (ps_set (i := 4) nd rfl (Or.inr rfl) (pe_cal CM hr3 (by rfl) (pa_cons (pv 1) (pa_cons (pv 3) (pa_cons pe_int pa_nil)))))
        (pss_cons (ps_set (i := 5) nd rfl (Or.inl rfl) (pe_make mk GI hr6 (by rfl) M.mgC bI .nil pass0 (pa_cons (pv 3) (pa_cons (pe_callTy call_list_of (by rfl) B.list (by decide +kernel) (pa_cons (pv 4) pa_nil)) pa_nil))))
        (pss_one (ps_for PassesOwn.never rfl (pi_range1 (by rfl) B.range (pa_cons pe_int pa_nil)) (pg_name (i := 6) nd rfl (Or.inl rfl))
          (pss_cons (ps_set (i := 7) nd rfl (Or.inl rfl) (pe_ix ix_list (pe_lst (pa_cons (pe_cal OR hr2 (by rfl) (pa_cons (pv 1) (pa_cons (pv 3) pa_nil))) (pa_cons (pe_cal NE hr2 (by rfl) (pa_cons (pv 1) (pa_cons (pv 4) (pa_cons (pv 3) pa_nil)))) pa_nil)))
            (pe_cal T1 hr1 (by rfl) (pa_cons (pv 1) (pa_cons pe_int pa_nil))) (fun _ _ => rfl)))
          (pss_cons (ps_set (i := 8) nd rfl (Or.inl rfl) (pe_cal MI hr2 (by rfl) (pa_cons (pv 1) (pa_cons (pe_callB call_len_seq (by rfl) B.len PySem.boot_len (pa_cons (pv 4) pa_nil)) (pa_cons (pe_ix ix_list (pe_lst (pa_cons pe_int (pa_cons pe_int pa_nil)))
            (pe_cal T1 hr1 (by rfl) (pa_cons (pv 1) (pa_cons pe_int pa_nil))) (fun _ _ => rfl)) pa_nil)))))
          (pss_cons (ps_set (i := 9) nd rfl (Or.inl rfl) (pe_callN (n := 2) (ks := ["missed"]) GP_ hr6 (by rfl) hmp hkp hbp pass0 (pa_cons (pv 5) (pa_cons (pv 7) pa_nil)) (pk_cons (pv 8) pk_nil)))
          (pss_cons (ps_if (pt_cmpR (op_neIL hr.units) (pe_callN (n := 2) (ks := ["missed"]) GP_ hr6 (by rfl) hmp hkp hbp pass0 (pa_cons (pe_meth0 (pv 5) M.cl mM GM hr bM .nil pass0) (pa_cons (pe_cal LM hr1 (by rfl) (pa_cons (pv 7) pa_nil)) pa_nil)) (pk_cons (pv 8) pk_nil))
            (pe_cal LM hr1 (by rfl) (pa_cons (pv 9) pa_nil)) (nomark _)) (pss_one ps_never) pss_nil)
          (pss_cons (ps_set (i := 10) nd rfl (Or.inl rfl) (pe_callB cr_sortedI (by rfl) B.sorted (by decide +kernel) (pa_cons (pe_lc (own := [("_law_at", 12)]) (g := gName 12)
              (te := tOp (rI0 fun i j => .int (i - j)) (tOp (rI0 fun i j => .int (i - j)) (tCB (fun xs H Q => ∃ p ys, xs = [V.ref p] ∧ (SqL K H p ys ∨ SqT K H p ys) ∧ Q (V.int (ys.length : Nat)) H) (tCons (tVar 4) tNil)) (tC (.int 1))) (tVar 12)) rfl nd
              (pi_list (pv 8)) (blkOk_by (own := [("_law_at", 12)]) (N := ["_law_script", "_law_bag_here", "_law_step", "_law_places_here", "_law_rows", "_law_schedule", "_law_turn", "_law_order_here", "_law_gone", "_law_final", "_law_back", "_law_other", "_law_at", "_law_row"]) (sc := defScope sLaw) (by decide +kernel))
              (fun _ _ _ _ _ => pg_name (i := 12) nd rfl (Or.inl rfl)) (fun _ _ _ _ _ => pts_nil) (fun _ _ _ _ _ => pe_op op_sub (pe_op op_sub (pe_callB (call_len_seq) (by rfl) B.len PySem.boot_len (pa_cons (pv 4) pa_nil)) pe_int) (pv 12))) pa_nil)))
          (pss_cons (ps_set (i := 11) nd rfl (Or.inl rfl) (pe_callN (n := 2) (ks := ["missed"]) GP_ hr6 (by rfl) hmp hkp hbp pass0 (pa_cons (pe_meth0 (pv 5) M.cl mB GB hr bB .nil pass0) (pa_cons (pe_cal INV hr1 (by rfl) (pa_cons (pv 7) pa_nil)) pa_nil)) (pk_cons (pv 10) pk_nil)))
          (pss_cons (ps_if (pt_cmpR op_ne (pe_cmpR (op_eqIL hr.units) (pv 9) (pe_callB cr_sortedI (by rfl) B.sorted (by decide +kernel) (pa_cons (pv 9) pa_nil)) (nomark _)) (pe_cmpR (op_eqIL hr.units) (pv 11) (pe_callB cr_sortedI (by rfl) B.sorted (by decide +kernel) (pa_cons (pv 11) pa_nil)) (nomark _)) (nomark _)) (pss_one ps_never) pss_nil)
          (pss_one (ps_if (pt_cmpR (op_neIL hr.units) (pv 9) (pe_cal LP hr1 (by rfl) (pa_cons (pe_lc (own := [("_law_row", 13)]) (g := gName 13) (te := tOp (rIxT K) (tVar 13) (tC (.int 0))) rfl nd
              (pi_list (pv 4)) (blkOk_by (own := [("_law_row", 13)]) (N := ["_law_script", "_law_bag_here", "_law_step", "_law_places_here", "_law_rows", "_law_schedule", "_law_turn", "_law_order_here", "_law_gone", "_law_final", "_law_back", "_law_other", "_law_at", "_law_row"]) (sc := defScope sLaw) (by decide +kernel))
              (fun _ _ _ _ _ => pg_name (i := 13) nd rfl (Or.inl rfl)) (fun _ _ _ _ _ => pts_nil) (fun _ _ _ _ _ => pe_ix ix_tup (pv 13) pe_int (fun _ _ => rfl))) (pa_cons (pv 7) (pa_cons (pv 8) pa_nil)))) (nomark _)) (pss_one ps_never) pss_nil)))))))))))))))
      (pss_one (ps_ret pe_bl))), ?_⟩
    refine ⟨_, rfl, a, ns, rfl, ha, hlen, fun H1 p cA s1 np b1 => ?_⟩
    refine ⟨4, rfl, (by decide), (by decide), ?_⟩
    refine for_range (n := 4) (fun i σ H' => BagAt H' p cA ∧ ∃ v2 v3 v4 v5 v6 v7 v8 v9 v10 v11 v12 v13, σ = [some (.ref a), some (.ref p), v2, v3, v4, v5, v6, v7, v8, v9, v10, v11, v12, v13]) ⟨b1, _, _, _, _, _, _, _, _, _, _, _, _, rfl⟩ ?_ ?_
    · rintro i σ H2 hi ⟨b2, v2, v3, v4, v5, v6, v7, v8, v9, v10, v11, v12, v13, rfl⟩
      refine ⟨_, rfl, p, cA, 1, 12, rfl, b2, (by decide), (by decide), fun H3 pl k3 b3 p0 p1 => ?_⟩
      obtain ⟨n, rfl⟩ := nat_of_pos (show 0 ≤ pl by omega)
      have hn1 : 1 ≤ n := by omega
      have hn12 : n ≤ 12 := by omega
      refine ⟨_, rfl, _, rfl, p, cA, n, 60, rfl, b3, hn1, hn12, (by decide), fun H4 R rs k4 b4 hRn hR4 hrl rows4 => ?_⟩
      refine ⟨_, rfl, _, rfl, R, _, rfl, .inl (SqL.of hR4), fun l nl => ?_⟩
      intro x dx nx ndx hne
      have s4 : Same H4 (upd (upd (upd H4 l (.lst (refs rs))) dx (.own x)) x (.ins C dx [])) := ((same_new nl).trans (same_new ndx)).trans (fun b o e => by
        rw [upd_ne fun z => ?_]
        · exact e
        · rw [z, upd_ne hne.symm, nx] at e
          cases e)
      have hlx : l ≠ x := fun z => by
        rw [← z, upd_same] at nx
        cases nx
      have hldx : l ≠ dx := fun z => by
        rw [← z, upd_same] at ndx
        cases ndx
      refine ⟨x, dx, l, n, rs, rfl, upd_same, by rw [upd_ne hlx, upd_ne hldx, upd_same], rows4.same s4, (by omega), hn1, hn12, fun H5 keep sc5 => ⟨rfl, ?_⟩⟩
      have s5 : Same H4 H5 := fun b o e => keep b o (fun z => by
        rw [z] at e
        have := same_new (o := .lst (refs rs)) nl _ _ e
        rw [nx] at this
        cases this) (s4 b o e)
      have b5 := b4.same s5
      have hR5 := s5 _ _ hR4
      have rows5 := rows4.same s5
      have hRp := refs_ne b5 hR5
      have gts := gat_gates rows5
      have hgl : (gat rs).length = rs.length := List.length_map _
      refine ⟨4, rfl, (by decide), (by decide), ?_⟩
      refine for_range (n := 4) (fun _ => TInv C H5 p cA x R n (some (.ref a)) (some (.int (0 + (i : Nat))))) ⟨Kp.refl _ _, b5, _, _, _, _, _, _, _, _, rfl⟩ ?_ ?_
      · rintro j σ H6 hj ⟨k6, b6, v6, v7, v8, v9, v10, v11, v12, v13, rfl⟩
        have hR6 := k6 _ _ hRp hR5
        have rows6 := rows5.kp b5 k6
        have S6 := sc5.kp b5 k6
        refine ⟨_, rfl, _, rfl, p, cA, n, rfl, b6, hn1, hn12, fun Ha qa xa ka ba fa ea oa => ?_⟩
        refine ⟨_, rfl, _, rfl, _, rfl, p, cA, R, n, rs, rfl, ba, ka _ _ hRp hR6, hRp, rows6.kp b6 ka, hn1, hn12, fun Hb qb xb kb bb fb eb ob => ?_⟩
        refine ⟨(by show 2 ≤ sizeLine; decide), fun l1 nl1 => ?_⟩
        refine ⟨_, rfl, p, cA, 2, rfl, bb.same (same_new nl1), (by decide), (by decide), fun Hc v kc bc v0 v1 => ?_⟩
        have hqap := (b6.apart fa).1
        have hqbp := (ba.apart fb).1
        have hlc : Hc l1 = some (.lst [.ref qa, .ref qb]) := kc _ _ (bb.apart nl1).1 upd_same
        have eac : Hc qa = some (.lst (xa.map V.int)) := kc _ _ hqap (same_new nl1 _ _ (kb _ _ hqap ea))
        have ebc : Hc qb = some (.lst (xb.map V.int)) := kc _ _ hqbp (same_new nl1 _ _ eb)
        obtain ⟨q, xs, hv, hqp, hq, ho⟩ : ∃ (q : Addr) (xs : List Int), atI [V.ref qa, V.ref qb] v = some (.ref q) ∧ q ≠ p ∧ Hc q = some (.lst (xs.map V.int)) ∧ Bm.IsOrd n xs := by
          rcases pick2 v0 v1 with ⟨_, e⟩ | ⟨_, e⟩
          · exact ⟨qa, xa, e, hqap, eac, oa⟩
          · exact ⟨qb, xb, e, hqbp, ebc, ob⟩
        refine ⟨l1, _, v, _, rfl, rfl, SqL.of hlc, hv, ?_⟩
        have kac : Kp p H6 Hc := ((ka.trans kb).trans (Same.kp (same_new nl1))).trans kc
        have hRc := kac _ _ hRp hR6
        refine ⟨_, rfl, _, rfl, R, _, rfl, .inl (SqL.of hRc), ?_⟩
        rw [show (refs rs).length = rs.length from List.length_map _]
        refine ⟨(by show 2 ≤ sizeLine; decide), fun l2 nl2 => ?_⟩
        refine ⟨_, rfl, p, cA, 2, rfl, bc.same (same_new nl2), (by decide), (by decide), fun Hd w' kd bd w0 w1 => ?_⟩
        obtain ⟨t, ht, hvt⟩ := pickI w0 w1
        have hl2d : Hd l2 = some (.lst [.int 0, .int 3]) := kd _ _ (bc.apart nl2).1 upd_same
        refine ⟨l2, _, w', _, rfl, rfl, SqL.of hl2d, hvt, ?_⟩
        refine ⟨p, cA, rs.length, t, rfl, bd, (by omega), (by omega), fun He g ms ke be fe ee hms hlt hml => ?_⟩
        have kce : Kp p Hc He := ((Same.kp (same_new nl2)).trans kd).trans ke
        have hqe := kce _ _ hqp hq
        have k6e : Kp p H6 He := kac.trans kce
        have hRe := k6e _ _ hRp hR6
        have rowsE := rows6.kp b6 k6e
        have Se := S6.kp b6 k6e
        have hol := ho.len
        refine ⟨_, rfl, _, rfl, _, rfl, rfl, rfl, x, q, g, n, rs, xs, ms, rfl, Se, hqe, ho, ee, hms, hlt, (by omega), fun Hf qf sf ff ef => ?_⟩
        have ordf : Bm.IsOrd n (Bm.play ms 0 (gat rs) xs) := Bm.play_ord gts ho
        have hfl := ordf.len
        generalize hA : Bm.play ms 0 (gat rs) xs = Af at ef ordf hfl
        -- the mirrored schedule
        obtain ⟨dxf, lf, hxf, _⟩ := id (Se.same sf)
        refine ⟨_, rfl, x, dxf, _, rfl, hxf, sf_no n lf (by decide +kernel) (by decide +kernel), x, n, rs, rfl, Se.same sf, fun Hg y rs' sg fg scg eg => ?_⟩
        have hrl' : rs'.length = rs.length := by
          have := congrArg List.length eg
          rw [List.length_map] at this
          have h2 : (gat rs').length = rs'.length := List.length_map _
          omega
        refine ⟨_, rfl, q, xs, rfl, (sf.trans sg) _ _ hqe, (by omega), fun Hh qm sh fh eh => ?_⟩
        have sEh : Same He Hh := (sf.trans sg).trans sh
        refine ⟨_, rfl, rfl, rfl, y, qm, g, n, rs', Bm.mir xs, ms, rfl, scg.same sh, eh, Bm.mir_ord ho, sEh _ _ ee, by rw [hrl']; exact hms, hlt, (by omega), fun Hi qi si fi ei => ?_⟩
        refine ⟨_, rfl, qf, Af, rfl, ((sg.trans sh).trans si) _ _ ef, (by omega), fun Hj qj sj fj ej => ?_⟩
        have mirEq : Bm.play ms 0 (gat rs') (Bm.mir xs) = Bm.mir Af := by
          rw [eg, ← hA]
          exact Bm.play_mir _ _ _ gts ho.len
        refine ⟨qi, qj, _, _, rfl, rfl, SqL.of (sj _ _ ei), SqL.of ej, _, rfl, ?_⟩
        rw [decide_eq_true mirEq]
        refine iteF ?_
        have sFj : Same Hf Hj := ((sg.trans sh).trans si).trans sj
        have sEj : Same He Hj := sf.trans sFj
        -- the misses turned about
        refine ⟨_, rfl, g, rfl, ⟨_, SqL.of (sEj _ _ ee)⟩, fun D hD => lc_list (K := K) (a := g) (xs := ms.map V.int) (fun i H' => Same Hj H' ∧ H' D = some (.lst (((ms.take i).map fun z => (rs.length : Int) - 1 - z).map V.int))) ⟨same_new hD, upd_same⟩ (fun i H' _ z => z.1.seq (SqL.of (sEj _ _ ee))) ?_ ?_⟩
        · rintro u z H' hi' ⟨sm, hD'⟩
          obtain ⟨z, hz, rfl, hlz⟩ := map_at hi'
          refine ⟨rfl, turn_yes ⟨_, rfl, R, _, rfl, .inl (SqL.of (sm _ _ (sEj _ _ hRe))), ?_⟩⟩
          rw [show (refs rs).length = rs.length from List.length_map _]
          refine ⟨_, _, rfl, rfl, _, rfl, _, _, rfl, rfl, _, hD', ?_, same_upd sm hD, ?_⟩
          · rw [List.length_map, List.length_map, List.length_take]
            exact line1000 (by omega)
          · rw [upd_same]
            refine congrArg (fun z => some (HO.lst z)) ?_
            rw [List.take_add_one, hz]
            simp
        · rintro Hk ⟨smk, hDk⟩
          rw [List.length_map, List.take_length] at hDk
          refine ⟨D, ms.map fun z => (rs.length : Int) - 1 - z, rfl, SqL.of hDk, fun bs qb2 perm rising nb => ?_⟩
          have sJl : Same Hj (upd Hk qb2 (.lst (bs.map V.int))) := smk.trans (same_new nb)
          generalize hHl : upd Hk qb2 (.lst (bs.map V.int)) = Hl at sJl
          have hbl : Hl qb2 = some (.lst (bs.map V.int)) := by rw [← hHl, upd_same]
          have memb : ∀ v, v ∈ bs ↔ (rs.length : Int) - 1 - v ∈ ms := fun v => by
            rw [perm.mem_iff, List.mem_map]
            constructor
            · rintro ⟨z, hz, e⟩
              rw [show (rs.length : Int) - 1 - v = z by omega]
              exact hz
            · intro h
              exact ⟨_, h, by omega⟩
          have ndms : ms.Nodup := hlt.imp fun {u v} h => Int.ne_of_lt h
          have ndb : bs.Nodup := perm.nodup_iff.mpr (List.pairwise_map.mpr (ndms.imp fun {u v} h e => h (by omega)))
          have sEl : Same He Hl := sEj.trans sJl
          obtain ⟨dxl, ll, hxl, _⟩ := id (Se.same sEl)
          refine ⟨_, rfl, x, dxl, _, rfl, hxl, sf_no n ll (by decide +kernel) (by decide +kernel), x, n, rs, rfl, Se.same sEl, fun Hm y2 sm2 fm scm => ?_⟩
          refine ⟨_, rfl, q, n, xs, rfl, (sEl.trans sm2) _ _ hqe, ho, hn12, fun Hn qn ys sn fn_ en inv => ?_⟩
          have sLn : Same Hl Hn := sm2.trans sn
          refine ⟨_, rfl, rfl, rfl, y2, qn, qb2, n, rs.reverse, ys, bs, rfl, scm.same sn, en, (Bm.IsInv.ord ho inv).1, sLn _ _ hbl, fun v hv => ?_, Bm.lt_of_le rising ndb, ?_, fun Ho qo so fo eo => ?_⟩
          · rw [List.length_reverse]
            have := hms _ ((memb v).mp hv)
            omega
          · rw [perm.length_eq, List.length_map]
            omega
          have grev : gat rs.reverse = (gat rs).reverse := List.map_reverse
          rw [grev] at eo
          have backIff : Bm.play ms 0 (gat rs) xs = Bm.idn n ↔ Bm.play bs 0 (gat rs).reverse ys = Bm.idn n := Bm.play_back gts ho inv fun u hu => by
            rw [hgl]
            exact memb _
          have ordo : Bm.IsOrd n (Bm.play bs 0 (gat rs).reverse ys) := Bm.play_ord (fun v hv => gts v (List.mem_reverse.mp hv)) (Bm.IsInv.ord ho inv).1
          generalize hB : Bm.play bs 0 (gat rs).reverse ys = Bo at eo backIff ordo
          rw [hA] at backIff
          have sFo : Same Hf Ho := ((sFj.trans sJl).trans sLn).trans so
          refine ⟨_, rfl, _, rfl, qf, Af, rfl, SqL.of (sFo _ _ ef), fun n1 q1 perm1 rising1 nq1 => ?_⟩
          have sP : Same Ho (upd Ho q1 (.lst (n1.map V.int))) := same_new nq1
          refine ⟨qf, q1, Af, n1, rfl, rfl, SqL.of (sP _ _ (sFo _ _ ef)), SqL.of upd_same, ?_⟩
          refine ⟨_, rfl, _, rfl, qo, Bo, rfl, SqL.of (sP _ _ eo), fun n2 q2 perm2 rising2 nq2 => ?_⟩
          have sQ := sP.trans (same_new (o := .lst (n2.map V.int)) nq2)
          refine ⟨qo, q2, Bo, n2, rfl, rfl, SqL.of (sQ _ _ eo), SqL.of upd_same, ?_⟩
          have en1 : n1 = Bm.idn n := Bm.sorted_idn (ordf.perm perm1) rising1
          have en2 : n2 = Bm.idn n := Bm.sorted_idn (ordo.perm perm2) rising2
          have e12 : decide (Af = n1) = decide (Bo = n2) := by
            rw [en1, en2]
            exact decide_eq_decide.mpr backIff
          refine ⟨rfl, _, rfl, ?_⟩
          rw [e12, decide_eq_true rfl]
          refine iteF ?_
          generalize hHq : upd (upd Ho q1 (.lst (n1.map V.int))) q2 (.lst (n2.map V.int)) = Hq at sQ
          have sFq : Same Hf Hq := sFo.trans sQ
          have sEq : Same He Hq := sf.trans sFq
          refine ⟨_, rfl, _, rfl, R, rfl, ⟨_, SqL.of (sEq _ _ hRe)⟩, fun D2 hD2 => lc_list (K := K) (a := R) (xs := refs rs) (fun i H' => Same Hq H' ∧ H' D2 = some (.lst (((gat rs).take i).map V.int))) ⟨same_new hD2, upd_same⟩ (fun i H' _ z => z.1.seq (SqL.of (sEq _ _ hRe))) ?_ ?_⟩
          · rintro u z H' hi' ⟨sm, hD'⟩
            obtain ⟨r, hr', rfl, hlt', hm⟩ := refs_at hi'
            obtain ⟨r1, r2⟩ := rowsE r hm
            refine ⟨rfl, turn_yes ⟨_, rfl, r.1, _, 0, _, rfl, rfl, SqT.of (sm _ _ (sEq _ _ r1)), atI_nat (j := 0) rfl, _, hD', ?_, same_upd sm hD2, ?_⟩⟩
            · rw [List.length_map, List.length_take]
              exact line1000 (by omega)
            · rw [upd_same]
              refine congrArg (fun z => some (HO.lst z)) ?_
              have e : (gat rs)[u]? = some r.2.1 := by
                unfold gat
                rw [List.getElem?_map, hr']
                rfl
              rw [List.take_add_one, e]
              simp
          · rintro Hr ⟨smr, hDr⟩
            rw [show (refs rs).length = (gat rs).length by rw [hgl]; exact List.length_map _, List.take_length] at hDr
            have sEr : Same He Hr := sEq.trans smr
            refine ⟨_, rfl, _, rfl, D2, q, g, n, gat rs, xs, ms, rfl, hDr, sEr _ _ hqe, sEr _ _ ee, gts, ho, fun Hz qz sz fz ez => ?_⟩
            refine ⟨qf, qz, Af, _, rfl, rfl, SqL.of ((sFq.trans smr).trans sz _ _ ef), SqL.of ez, _, rfl, ?_⟩
            rw [decide_eq_true hA.symm]
            refine iteF ?_
            exact ⟨k6.trans (k6e.trans (Same.kp (sEr.trans sz))), be.same (sEr.trans sz), _, _, _, _, _, _, _, _, rfl⟩
      · rintro σ H6 ⟨k6, b6, v6, v7, v8, v9, v10, v11, v12, v13, rfl⟩
        exact ⟨b6, _, _, _, _, _, _, _, _, _, _, _, _, rfl⟩
    · rintro σ H2 ⟨b2, v2, v3, v4, v5, v6, v7, v8, v9, v10, v11, v12, v13, rfl⟩
      exact hQ H2
end
end Bw

set_option maxHeartbeats 4000000
namespace Bw
open PySem PySem.Spec PyProof.Rows L2
theorem ba {a b : Bool} (h : (a && b) = true) : a = true ∧ b = true := by
  cases a <;> cases b <;> first | exact ⟨rfl, rfl⟩ | cases h
theorem exB_ok {K : PySem.W.Frag} (ex : exB K = true) (eg : getterW K = getterV) :
    Isi K (He.ga K "Schedule") ∧ PropOf K (He.ga K "Schedule") "places" (pgA K).1 (pgA K).2 ∧ ∃ fd, FnP K "places" "Schedule.places" sPlaces (pgA K).2 fd := by
  unfold exB at ex
  obtain ⟨h1, ex⟩ := ba ex
  obtain ⟨h2, ex⟩ := ba ex
  obtain ⟨h3, ex⟩ := ba ex
  obtain ⟨h4, ex⟩ := ba ex
  obtain ⟨h5, ex⟩ := ba ex
  obtain ⟨h6, ex⟩ := ba ex
  obtain ⟨h7, ex⟩ := ba ex
  obtain ⟨h8, ex⟩ := ba ex
  obtain ⟨h9, ex⟩ := ba ex
  obtain ⟨kp, c2⟩ := ba ex
  refine ⟨⟨of_decide_eq_true h1, of_decide_eq_true h2, of_decide_eq_true h3, of_decide_eq_true h4, of_decide_eq_true h5⟩, ⟨of_decide_eq_true h6, of_decide_eq_true h7, of_decide_eq_true h8, ?_⟩, ?_⟩
  · cases q : PySem.W.recIn K (pgA K).1 "property" with
    | none =>
      rw [q] at h9
      cases h9
    | some vs =>
      rw [q] at h9
      match vs, h9 with
      | .ref g :: rest, h9 =>
        have e : g = (pgA K).2 := of_decide_eq_true h9
        exact ⟨rest, by rw [← e]⟩
  · unfold getterW at eg
    cases q : K.lookup (pgA K).2 with
    | none =>
      rw [q] at c2
      cases c2
    | some o =>
      obtain ⟨oc, od, dt, osl⟩ := o
      rw [q] at c2 eg
      cases dt with
      | func fd =>
        obtain ⟨n1, n2, n3, n4, n5, n6, n7, n8, n9, n10, n11, n12, n13, n14, n15⟩ := fd
        have e2 : (some (n1, n2, n3, n4, n5, n6, n7, n15) : He.FnW) = getterV := eg
        unfold getterV at e2
        simp only [Option.some.injEq, Prod.mk.injEq] at e2
        obtain ⟨e1, e2, e3, e4, e5, e6, e7, e8⟩ := e2
        subst e1 e2 e3 e4 e5 e6 e7 e8
        obtain ⟨k1, k2⟩ := ba (show (PySem.W.codeIn K n13 "Schedule.places" && (He.dflB K n8 [] && He.kwdB K n9 [])) = true from c2)
        obtain ⟨k3, k4⟩ := ba k2
        exact ⟨_, ⟨oc, od, n8, n9, n10, n11, n12, n13, n14, osl, rfl, q, k1, He.dflB_ok k3, He.kwdB_ok k4⟩, kp⟩
      | _ => cases c2
theorem all_ok {P : Program} {w : World} {K : PySem.W.Frag} {h base : Heap} {mg : Str → Option Value} {f : Addr} {fdL : FuncData} (X : K.In h) (G : h.Ns mainGlobals mg) (c : He.SaysD fa fn K) (ex : exB K = true) (eg : getterW K = getterV)
    (FL : FnP K "law" "law" sLaw f fdL) : FnOk P w K mg base CX0 9 f fdL ["_law_script"] (spLaw K) := by
  have B : Nb mg := ⟨He.free_ok X G (c.fact 25 (f := .free "isinstance") rfl), He.free_ok X G (c.fact 26 (f := .free "int") rfl), He.free_ok X G (c.fact 27 (f := .free "bool") rfl), He.free_ok X G (c.fact 28 (f := .free "list") rfl), He.free_ok X G (c.fact 29 (f := .free "tuple") rfl), He.free_ok X G (c.fact 30 (f := .free "len") rfl), He.free_ok X G (c.fact 31 (f := .free "all") rfl), He.free_ok X G (c.fact 32 (f := .free "sorted") rfl), He.free_ok X G (c.fact 33 (f := .free "range") rfl), He.free_ok X G (c.fact 34 (f := .free "zip") rfl), He.free_ok X G (c.fact 35 (f := .free "abs") rfl), He.free_ok X G (c.fact 36 (f := .free "min") rfl), He.free_ok X G (c.fact 37 (f := .free "enumerate") rfl)⟩
  have M : Nm K mg (He.ga K "Schedule") := ⟨He.int_ok X G (c.fact 38 (f := .int "MAX_PLACES" 12) rfl), He.int_ok X G (c.fact 39 (f := .int "MAX_COMPARISONS" 400) rfl), He.int_ok X G (c.fact 40 (f := .int "MAX_PRICE" 1000000000000000000) rfl), He.cls_ok (c.fact 41 (f := .cls "Schedule") rfl), He.glo_ok X G (c.fact 24 (f := .glo "Schedule") rfl), He.noat_ok (c.fact 42 (f := .noat "Schedule" "place_count") rfl), He.noat_ok (c.fact 43 (f := .noat "Schedule" "rows") rfl)⟩
  have cIsInteger : Cal P w K mg base 1 "is_integer" ["thing"] spIsInteger := by
    obtain ⟨fd, F⟩ := c.def_ 0 (d := dG "is_integer" sIsInteger) rfl
    exact ⟨_, fd, He.glo_ok X G (c.fact 0 (f := .glo "is_integer") rfl), F.kp, (FunD.bindsN (ps := ["thing"]) F fun _ _ _ _ _ _ us hl => match us, hl with | [_], _ => rfl), ok_is_integer F B⟩
  have cIsBetween : Cal P w K mg base 2 "is_between" ["thing", "low", "high"] spIsBetween := by
    obtain ⟨fd, F⟩ := c.def_ 1 (d := dG "is_between" sIsBetween) rfl
    exact ⟨_, fd, He.glo_ok X G (c.fact 1 (f := .glo "is_between") rfl), F.kp, (FunD.bindsN (ps := ["thing", "low", "high"]) F fun _ _ _ _ _ _ us hl => match us, hl with | [_, _, _], _ => rfl), ok_is_between F cIsInteger⟩
  have cIsPrice : Cal P w K mg base 3 "is_price" ["thing"] spIsPrice := by
    obtain ⟨fd, F⟩ := c.def_ 2 (d := dG "is_price" sIsPrice) rfl
    exact ⟨_, fd, He.glo_ok X G (c.fact 2 (f := .glo "is_price") rfl), F.kp, (FunD.bindsN (ps := ["thing"]) F fun _ _ _ _ _ _ us hl => match us, hl with | [_], _ => rfl), ok_is_price F M cIsBetween⟩
  have cIsOrder : Cal P w K mg base 4 "is_order" ["thing", "places"] spIsOrder := by
    obtain ⟨fd, F⟩ := c.def_ 3 (d := dG "is_order" sIsOrder) rfl
    exact ⟨_, fd, He.glo_ok X G (c.fact 3 (f := .glo "is_order") rfl), F.kp, (FunD.bindsN (ps := ["thing", "places"]) F fun _ _ _ _ _ _ us hl => match us, hl with | [_, _], _ => rfl), ok_is_order F B cIsBetween⟩
  have cIsComparison : Cal P w K mg base 4 "is_comparison" ["thing", "places"] spIsComparison := by
    obtain ⟨fd, F⟩ := c.def_ 4 (d := dG "is_comparison" sIsComparison) rfl
    exact ⟨_, fd, He.glo_ok X G (c.fact 4 (f := .glo "is_comparison") rfl), F.kp, (FunD.bindsN (ps := ["thing", "places"]) F fun _ _ _ _ _ _ us hl => match us, hl with | [_, _], _ => rfl), ok_is_comparison F B cIsBetween cIsPrice⟩
  have cAreMisses : Cal P w K mg base 4 "are_misses" ["thing", "many"] spAreMisses := by
    obtain ⟨fd, F⟩ := c.def_ 5 (d := dG "are_misses" sAreMisses) rfl
    exact ⟨_, fd, He.glo_ok X G (c.fact 5 (f := .glo "are_misses") rfl), F.kp, (FunD.bindsN (ps := ["thing", "many"]) F fun _ _ _ _ _ _ us hl => match us, hl with | [_, _], _ => rfl), ok_are_misses F B cIsBetween⟩
  have MK : Mkc P w K mg base 5 (He.ga K "Schedule") := by
    obtain ⟨fd, F⟩ := c.def_ 6 (d := dM "__init__" "Schedule.__init__" sInit) rfl
    exact ⟨_, fd, He.mkr_ok (c.fact 49 (f := .mkr "Schedule") rfl), (FunD.bindsN (ps := ["self", "places", "comparisons"]) F fun _ _ _ _ _ _ us hl => match us, hl with | [_, _, _], _ => rfl), ok_init F B M cIsBetween cIsComparison⟩
  have mGates : Met P w K mg base 1 (He.ga K "Schedule") "gates" ["self"] (spGates (He.ga K "Schedule")) := by
    obtain ⟨fd, F⟩ := c.def_ 7 (d := dM "gates" "Schedule.gates" sGates) rfl
    exact ⟨_, fd, He.meth_ok (c.fact 44 (f := .meth "Schedule" "gates") rfl), (FunD.bindsN (ps := ["self"]) F fun _ _ _ _ _ _ us hl => match us, hl with | [_], _ => rfl), ok_gates F M⟩
  have mLen : Met P w K mg base 1 (He.ga K "Schedule") "__len__" ["self"] (spLen (He.ga K "Schedule")) := by
    obtain ⟨fd, F⟩ := c.def_ 11 (d := dM "__len__" "Schedule.__len__" sLen) rfl
    exact ⟨_, fd, He.meth_ok (c.fact 48 (f := .meth "Schedule" "__len__") rfl), (FunD.bindsN (ps := ["self"]) F fun _ _ _ _ _ _ us hl => match us, hl with | [_], _ => rfl), ok_len F B M⟩
  have mWithRows : Met P w K mg base 7 (He.ga K "Schedule") "with_rows" ["self", "rows"] (spWithRows (He.ga K "Schedule")) := by
    obtain ⟨fd, F⟩ := c.def_ 8 (d := dM "with_rows" "Schedule.with_rows" sWithRows) rfl
    exact ⟨_, fd, He.meth_ok (c.fact 45 (f := .meth "Schedule" "with_rows") rfl), (FunD.bindsN (ps := ["self", "rows"]) F fun _ _ _ _ _ _ us hl => match us, hl with | [_, _], _ => rfl), ok_with_rows F B M MK⟩
  have mBackwards : Met P w K mg base 8 (He.ga K "Schedule") "backwards" ["self"] (spBackwards (He.ga K "Schedule")) := by
    obtain ⟨fd, F⟩ := c.def_ 9 (d := dM "backwards" "Schedule.backwards" sBackwards) rfl
    exact ⟨_, fd, He.meth_ok (c.fact 46 (f := .meth "Schedule" "backwards") rfl), (FunD.bindsN (ps := ["self"]) F fun _ _ _ _ _ _ us hl => match us, hl with | [_], _ => rfl), ok_backwards F M mWithRows⟩
  have mMirrored : Met P w K mg base 8 (He.ga K "Schedule") "mirrored" ["self"] (spMirrored (He.ga K "Schedule")) := by
    obtain ⟨fd, F⟩ := c.def_ 10 (d := dM "mirrored" "Schedule.mirrored" sMirrored) rfl
    exact ⟨_, fd, He.meth_ok (c.fact 47 (f := .meth "Schedule" "mirrored") rfl), (FunD.bindsN (ps := ["self"]) F fun _ _ _ _ _ _ us hl => match us, hl with | [_], _ => rfl), ok_mirrored F M mWithRows⟩
  obtain ⟨S, hpr, fdg, Fg⟩ := exB_ok ex eg
  have PT_ : Pty P w K mg base (He.ga K "Schedule") := ⟨_, _, fdg, hpr, FunD.bindsN (ps := ["self"]) Fg fun _ _ _ _ _ _ us hl => match us, hl with | [_], _ => rfl, ok_places Fg M⟩
  have cInverse : Cal P w K mg base 1 "inverse" ["order"] spInverse := by
    obtain ⟨fd, F⟩ := c.def_ 12 (d := dG "inverse" sInverse) rfl
    exact ⟨_, fd, He.glo_ok X G (c.fact 6 (f := .glo "inverse") rfl), F.kp, (FunD.bindsN (ps := ["order"]) F fun _ _ _ _ _ _ us hl => match us, hl with | [_], _ => rfl), ok_inverse F B⟩
  have cNeedPlay : Cal P w K mg base 5 "need_play" ["schedule", "order", "missed"] (spNeedPlay (He.ga K "Schedule")) := by
    obtain ⟨fd, F⟩ := c.def_ 13 (d := dG "need_play" sNeedPlay) rfl
    exact ⟨_, fd, He.glo_ok X G (c.fact 7 (f := .glo "need_play") rfl), F.kp, (FunD.bindsN (ps := ["schedule", "order", "missed"]) F fun _ _ _ _ _ _ us hl => match us, hl with | [_, _, _], _ => rfl), ok_need_play F B M S PT_ mLen cIsOrder cAreMisses⟩
  have cIsExchanged : Cal P w K mg base 1 "is_exchanged" ["order", "gate"] (spIsExch K) := by
    obtain ⟨fd, F⟩ := c.def_ 14 (d := dG "is_exchanged" sIsExchanged) rfl
    exact ⟨_, fd, He.glo_ok X G (c.fact 8 (f := .glo "is_exchanged") rfl), F.kp, (FunD.bindsN (ps := ["order", "gate"]) F fun _ _ _ _ _ _ us hl => match us, hl with | [_, _], _ => rfl), ok_is_exchanged F⟩
  have cExchange : Cal P w K mg base 1 "exchange" ["order", "gate"] spExch := by
    obtain ⟨fd, F⟩ := c.def_ 15 (d := dG "exchange" sExchange) rfl
    exact ⟨_, fd, He.glo_ok X G (c.fact 9 (f := .glo "exchange") rfl), F.kp, (FunD.bindsN (ps := ["order", "gate"]) F fun _ _ _ _ _ _ us hl => match us, hl with | [_, _], _ => rfl), ok_exchange F⟩
  have PLAY : PlayC P w K mg base (He.ga K "Schedule") := by
    obtain ⟨fdo, Fo⟩ := c.def_ 16 (d := dG "orders_after" sOrdersAfter) rfl
    obtain ⟨fd, F⟩ := c.def_ 17 (d := dG "play" sPlay) rfl
    exact ⟨_, fd, He.glo_ok X G (c.fact 11 (f := .glo "play") rfl), F.kp, kb_missed F (fun _ _ _ _ _ _ _ _ _ => rfl),
      ok_play F B cNeedPlay ⟨_, fdo, He.glo_ok X G (c.fact 10 (f := .glo "orders_after") rfl), Fo.kp, kb_missed Fo (fun _ _ _ _ _ _ _ _ _ => rfl), gok_orders_after Fo B M mGates cIsExchanged cExchange⟩⟩
  have cLawBag : Cal P w K mg base 1 "_law_bag" ["_law_script"] (spBag K) := by
    obtain ⟨fd, F⟩ := c.def_ 18 (d := dG "_law_bag" sBag) rfl
    exact ⟨_, fd, He.glo_ok X G (c.fact 12 (f := .glo "_law_bag") rfl), F.kp, (FunD.bindsN (ps := ["_law_script"]) F fun _ _ _ _ _ _ us hl => match us, hl with | [_], _ => rfl), ok_bag F B⟩
  have cLawTake : Cal P w K mg base 1 "_law_take" ["_law_bag_here", "_law_many"] spTake := by
    obtain ⟨fd, F⟩ := c.def_ 19 (d := dG "_law_take" sTake) rfl
    exact ⟨_, fd, He.glo_ok X G (c.fact 13 (f := .glo "_law_take") rfl), F.kp, (FunD.bindsN (ps := ["_law_bag_here", "_law_many"]) F fun _ _ _ _ _ _ us hl => match us, hl with | [_, _], _ => rfl), ok_take F B⟩
  have cLawPlaces : Cal P w K mg base 2 "_law_places" ["_law_bag_here", "_law_least", "_law_most"] spLPlaces := by
    obtain ⟨fd, F⟩ := c.def_ 20 (d := dG "_law_places" sLPlaces) rfl
    exact ⟨_, fd, He.glo_ok X G (c.fact 14 (f := .glo "_law_places") rfl), F.kp, (FunD.bindsN (ps := ["_law_bag_here", "_law_least", "_law_most"]) F fun _ _ _ _ _ _ us hl => match us, hl with | [_, _, _], _ => rfl), ok_lplaces F cLawTake⟩
  have cLawGates : Cal P w K mg base 2 "_law_gates" ["_law_bag_here", "_law_places_here", "_law_most"] spLGates := by
    obtain ⟨fd, F⟩ := c.def_ 21 (d := dG "_law_gates" sLGates) rfl
    exact ⟨_, fd, He.glo_ok X G (c.fact 15 (f := .glo "_law_gates") rfl), F.kp, (FunD.bindsN (ps := ["_law_bag_here", "_law_places_here", "_law_most"]) F fun _ _ _ _ _ _ us hl => match us, hl with | [_, _, _], _ => rfl), ok_lgates F B cLawTake⟩
  have cLawPrice : Cal P w K mg base 2 "_law_price" ["_law_bag_here"] spLPrice := by
    obtain ⟨fd, F⟩ := c.def_ 22 (d := dG "_law_price" sLPrice) rfl
    exact ⟨_, fd, He.glo_ok X G (c.fact 16 (f := .glo "_law_price") rfl), F.kp, (FunD.bindsN (ps := ["_law_bag_here"]) F fun _ _ _ _ _ _ us hl => match us, hl with | [_], _ => rfl), ok_lprice F cLawTake⟩
  have cLawComparisons : Cal P w K mg base 3 "_law_comparisons" ["_law_bag_here", "_law_places_here", "_law_most"] spLComparisons := by
    obtain ⟨fd, F⟩ := c.def_ 23 (d := dG "_law_comparisons" sLComparisons) rfl
    exact ⟨_, fd, He.glo_ok X G (c.fact 17 (f := .glo "_law_comparisons") rfl), F.kp, (FunD.bindsN (ps := ["_law_bag_here", "_law_places_here", "_law_most"]) F fun _ _ _ _ _ _ us hl => match us, hl with | [_, _, _], _ => rfl), ok_lcomparisons F B cLawTake cLawPrice cLawGates⟩
  have cLawOrder : Cal P w K mg base 2 "_law_order" ["_law_bag_here", "_law_places_here"] spLOrder := by
    obtain ⟨fd, F⟩ := c.def_ 24 (d := dG "_law_order" sLOrder) rfl
    exact ⟨_, fd, He.glo_ok X G (c.fact 18 (f := .glo "_law_order") rfl), F.kp, (FunD.bindsN (ps := ["_law_bag_here", "_law_places_here"]) F fun _ _ _ _ _ _ us hl => match us, hl with | [_, _], _ => rfl), ok_lorder F B cLawTake⟩
  have cLawMisses : Cal P w K mg base 2 "_law_misses" ["_law_bag_here", "_law_many", "_law_most"] spLMisses := by
    obtain ⟨fd, F⟩ := c.def_ 25 (d := dG "_law_misses" sLMisses) rfl
    exact ⟨_, fd, He.glo_ok X G (c.fact 19 (f := .glo "_law_misses") rfl), F.kp, (FunD.bindsN (ps := ["_law_bag_here", "_law_many", "_law_most"]) F fun _ _ _ _ _ _ us hl => match us, hl with | [_, _, _], _ => rfl), ok_lmisses F B cLawTake⟩
  have cLawPlay : Cal P w K mg base 1 "_law_play" ["_law_gates_here", "_law_order_here", "_law_gone"] spLPlay := by
    obtain ⟨fd, F⟩ := c.def_ 26 (d := dG "_law_play" sLPlay) rfl
    exact ⟨_, fd, He.glo_ok X G (c.fact 20 (f := .glo "_law_play") rfl), F.kp, (FunD.bindsN (ps := ["_law_gates_here", "_law_order_here", "_law_gone"]) F fun _ _ _ _ _ _ us hl => match us, hl with | [_, _, _], _ => rfl), ok_lplay F B⟩
  have cLawMirrored : Cal P w K mg base 1 "_law_mirrored" ["_law_order_here"] spLMirrored := by
    obtain ⟨fd, F⟩ := c.def_ 27 (d := dG "_law_mirrored" sLMirrored) rfl
    exact ⟨_, fd, He.glo_ok X G (c.fact 21 (f := .glo "_law_mirrored") rfl), F.kp, (FunD.bindsN (ps := ["_law_order_here"]) F fun _ _ _ _ _ _ us hl => match us, hl with | [_], _ => rfl), ok_lmirrored F B⟩
  have cLawNear : Cal P w K mg base 2 "_law_near" ["_law_bag_here", "_law_rows", "_law_places_here"] spLNear := by
    obtain ⟨fd, F⟩ := c.def_ 28 (d := dG "_law_near" sLNear) rfl
    exact ⟨_, fd, He.glo_ok X G (c.fact 22 (f := .glo "_law_near") rfl), F.kp, (FunD.bindsN (ps := ["_law_bag_here", "_law_rows", "_law_places_here"]) F fun _ _ _ _ _ _ us hl => match us, hl with | [_, _, _], _ => rfl), ok_lnear F B cLawTake⟩
  exact ok_law FL B M MK cLawBag cLawTake cLawPlaces cLawComparisons cLawOrder cLawNear cLawMisses cLawPlay cLawMirrored cInverse PLAY mBackwards mMirrored
theorem facts {P : Program} {w : World} {K : PySem.W.Frag} {h : Heap} {mg : Str → Option Value} {f : Addr} (X : K.In h) (G : h.Ns mainGlobals mg) (hfa : mg ("law" : Str) = some (.ref f)) (c : He.SaysD fa fn K) (ex : exB K = true) (eg : getterW K = getterV) :
    ∃ fd : FuncData, (∀ (s : Shared) (v : Value), BindsTo s fd ⟨[v], []⟩ [("_law_script", v)]) ∧ ∀ base : Heap, K.In base → base.Ns mainGlobals mg → FnOk P w K mg base CX0 9 f fd ["_law_script"] (spLaw K) := by
  obtain ⟨fd, F⟩ := c.def_ 29 (d := dG "law" sLaw) rfl
  have e := hfa.symm.trans (He.glo_ok X G (c.fact 23 (f := .glo "law") rfl))
  cases e
  have b := FunD.bindsA (ps := ["_law_script"]) F fun _ _ _ _ _ _ us hl => match us, hl with | [_], _ => rfl
  exact ⟨fd, fun s v => b s [v] rfl, fun base _ _ => all_ok X G c ex eg F⟩
end Bw

set_option maxHeartbeats 0
open PySem PySem.W PySem.Calls PyProof.Rows
theorem PySem.Challenge.cw_bearsmisses_k27_whole_turned_about_holds : PySem.Challenge.rw_bearsmisses_k27_whole_turned_about.Holds := by
  w_on; o_law
  refine HandSHeadRun.head_any (r := OpenLaw.row PySem.Challenge.rw_bearsmisses_k27_whole_turned_about) (q := view (OpenLaw.row PySem.Challenge.rw_bearsmisses_k27_whole_turned_about).prog [38]) (H := Bw.hk) (ob := Bw.ob) (M := 8000) (loose := Bw.loose) (d := HandSHeadRun.topDef (OpenLaw.row PySem.Challenge.rw_bearsmisses_k27_whole_turned_about).prog 38) (kwd := []) Bw.ob_eq
    (by kernel_rfl) (fun s => by kernel_rfl) Bw.run (by kernel_rfl) (by kernel_rfl) (by kernel_rfl) (by rfl) (by first | assumption | decide +kernel) (by decide +kernel) ⟨rfl, rfl, rfl, rfl, rfl, by decide +kernel⟩ ?hw ?hc
  case hw => w_witness2
  case hc =>
    refine L2.walk_ofE (l := PySem.Challenge.rw_bearsmisses_k27_whole_turned_about) (n := 63) (k := 9) (x := "_law_script") (CX := L2.CX0) rfl (by decide) (by kernel_rfl) ⟨rfl, by decide, by decide⟩ ?F (fun _ _ _ _ z => z)
    intro w mg fa h Y G hmg0
    obtain ⟨K, KX, c, ex, eg⟩ := Y
    have hmg : mg ("law" : PySem.Str) = some (.ref fa) := by
      have e : (HandSHeadRun.topDef (OpenLaw.row PySem.Challenge.rw_bearsmisses_k27_whole_turned_about).prog 38).name = ("law" : PySem.Str) := by kernel_rfl
      rw [← e]
      exact hmg0
    obtain ⟨fd, hb, hF⟩ := Bw.facts (P := (PySem.Challenge.rw_bearsmisses_k27_whole_turned_about).prog) (w := w) KX G hmg c ex eg
    exact ⟨K, fd, Bw.spLaw K, KX, hb, fun H a ns hl _ hS => ⟨a, ns, rfl, hS, hl, fun _ => rfl⟩, hF⟩
