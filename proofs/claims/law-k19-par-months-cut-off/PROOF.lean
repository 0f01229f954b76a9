import PyProof.Rows.All
import Wide.All
import OpenK.AllK
import Wide.FinOn
import HandS.ForMost
import HandS.TupAny
import HandS.Small
import HandS.Walk
import HandS.SortRule
import HandS.Flt
import HandS.Wide
import HandS.DictComp
import HandS.Conv
import HandS.Steps
import PySem.Challenge.RW_heldwater_k19_par_months_cut_off
import KE.GoesMore
import KE.GoesEnum
import KE.KDictPairs
set_option Elab.async false
set_option linter.all false
set_option maxRecDepth 100000
set_option maxHeartbeats 1000000
namespace Hw

/-! ### rows of parcels -/
inductive Org where
  | held (k : Nat)
  | inn (k m : Nat)
  deriving DecidableEq

abbrev Row := List (Org × Int)

def jstep (acc : Row) (p : Org × Int) : Row :=
  if p.2 > 0 then
    match acc.getLast? with
    | some q => if q.1 = p.1 then acc.dropLast ++ [(p.1, q.2 + p.2)] else acc ++ [p]
    | none => acc ++ [p]
  else acc
def joined (row : Row) : Row := row.foldl jstep []
def pstep (s : Int × Row × Row) (p : Org × Int) : Int × Row × Row :=
  (s.1 - min p.2 s.1, s.2.1 ++ [(p.1, min p.2 s.1)], s.2.2 ++ [(p.1, p.2 - min p.2 s.1)])
def psplit (row : Row) (a : Int) : Int × Row × Row := row.foldl pstep (a, [], [])
def parted (row : Row) (a : Int) : Row × Row := (joined (psplit row a).2.1, joined (psplit row a).2.2)

def amt (o : Org) (row : Row) : Int := (row.map fun p => if p.1 = o then p.2 else 0).sum
def total (row : Row) : Int := (row.map fun p => p.2).sum
def NN (row : Row) : Prop := ∀ p ∈ row, 0 ≤ p.2
def Pos (row : Row) : Prop := ∀ p ∈ row, 0 < p.2
theorem Pos.nn {row : Row} (h : Pos row) : NN row := fun p hp => Int.le_of_lt (h p hp)

theorem amt_nil (o : Org) : amt o [] = 0 := rfl
theorem amt_cons (o : Org) (p : Org × Int) (r : Row) : amt o (p :: r) = (if p.1 = o then p.2 else 0) + amt o r := by
  simp [amt]
theorem amt_append (o : Org) (a b : Row) : amt o (a ++ b) = amt o a + amt o b := by
  simp [amt, List.sum_append]
theorem total_append (a b : Row) : total (a ++ b) = total a + total b := by
  simp [total, List.sum_append]
theorem total_nonneg {a : Row} (h : NN a) : 0 ≤ total a := by
  induction a with
  | nil => simp [total]
  | cons p r ih =>
    have h1 := h p (by simp)
    have h2 := ih fun q hq => h q (by simp [hq])
    simp only [total, List.map_cons, List.sum_cons] at *
    omega
theorem le_total {a : Row} (h : NN a) : ∀ p ∈ a, p.2 ≤ total a := by
  induction a with
  | nil => intro p hp; simp at hp
  | cons q r ih =>
    intro p hp
    have h1 := h q (by simp)
    have hr : NN r := fun q hq => h q (by simp [hq])
    have h2 := total_nonneg hr
    have e : total (q :: r) = q.2 + total r := by simp [total]
    rcases List.mem_cons.mp hp with rfl | hp
    · omega
    · have := ih hr p hp; omega

theorem snoc_of_getLast? {α : Type} {l : List α} {q : α} (h : l.getLast? = some q) : l = l.dropLast ++ [q] := by
  have hne : l ≠ [] := by intro e; subst e; simp at h
  have e : l.getLast hne = q := by
    rw [List.getLast?_eq_some_getLast hne] at h
    exact Option.some.inj h
  rw [← e]
  exact (List.dropLast_concat_getLast hne).symm

theorem jstep_amt {acc : Row} {p : Org × Int} (hp : 0 ≤ p.2) (o : Org) : amt o (jstep acc p) = amt o acc + (if p.1 = o then p.2 else 0) := by
  unfold jstep
  split
  · split
    · rename_i q hq
      have e := snoc_of_getLast? hq
      split
      · rename_i hqp
        conv => rhs; rw [e]
        rw [amt_append, amt_append, amt_cons, amt_cons, amt_nil]
        rw [hqp]
        split <;> omega
      · rw [amt_append, amt_cons, amt_nil]; omega
    · rw [amt_append, amt_cons, amt_nil]; omega
  · have : p.2 = 0 := by omega
    rw [this]; split <;> omega
theorem jstep_total {acc : Row} {p : Org × Int} (hp : 0 ≤ p.2) : total (jstep acc p) = total acc + p.2 := by
  unfold jstep
  split
  · split
    · rename_i q hq
      have e := snoc_of_getLast? hq
      split
      · conv => rhs; rw [e]
        rw [total_append, total_append]
        simp [total]; omega
      · rw [total_append]; simp [total]
    · rw [total_append]; simp [total]
  · omega
theorem jstep_pos {acc : Row} {p : Org × Int} (h : Pos acc) : Pos (jstep acc p) := by
  unfold jstep
  split
  · rename_i hp
    split
    · rename_i q hq
      have e := snoc_of_getLast? hq
      have hq' : 0 < q.2 := h q (by rw [e]; simp)
      split
      · intro x hx
        rcases List.mem_append.mp hx with hx | hx
        · exact h x (List.dropLast_subset _ hx)
        · have : x = (p.1, q.2 + p.2) := by simpa using hx
          subst this; show 0 < q.2 + p.2; omega
      · intro x hx
        rcases List.mem_append.mp hx with hx | hx
        · exact h x hx
        · have : x = p := by simpa using hx
          subst this; exact hp
    · intro x hx
      rcases List.mem_append.mp hx with hx | hx
      · exact h x hx
      · have : x = p := by simpa using hx
        subst this; exact hp
  · exact h
theorem jstep_org {acc : Row} {p : Org × Int} {C : Org → Prop} (h : ∀ x ∈ acc, C x.1) (hp : C p.1) : ∀ x ∈ jstep acc p, C x.1 := by
  unfold jstep
  split
  · split
    · split
      · intro x hx
        rcases List.mem_append.mp hx with hx | hx
        · exact h x (List.dropLast_subset _ hx)
        · obtain rfl := List.mem_singleton.mp hx; exact hp
      · intro x hx
        rcases List.mem_append.mp hx with hx | hx
        · exact h x hx
        · have : x = p := by simpa using hx
          subst this; exact hp
    · intro x hx
      rcases List.mem_append.mp hx with hx | hx
      · exact h x hx
      · have : x = p := by simpa using hx
        subst this; exact hp
  · exact h
theorem jfold_amt (o : Org) : ∀ (row acc : Row), NN row → amt o (row.foldl jstep acc) = amt o acc + amt o row
  | [], acc, _ => by simp [amt_nil]
  | p :: r, acc, h => by
    rw [List.foldl_cons, jfold_amt o r _ (fun q hq => h q (by simp [hq])), jstep_amt (h p (by simp)), amt_cons]; omega
theorem jfold_total : ∀ (row acc : Row), NN row → total (row.foldl jstep acc) = total acc + total row
  | [], acc, _ => by simp [total]
  | p :: r, acc, h => by
    rw [List.foldl_cons, jfold_total r _ (fun q hq => h q (by simp [hq])), jstep_total (h p (by simp))]
    have e : total (p :: r) = p.2 + total r := by simp [total]
    omega
theorem jfold_pos : ∀ (row acc : Row), Pos acc → Pos (row.foldl jstep acc)
  | [], _, h => h
  | _ :: r, _, h => jfold_pos r _ (jstep_pos h)
theorem jfold_org {C : Org → Prop} : ∀ (row acc : Row), (∀ x ∈ acc, C x.1) → (∀ x ∈ row, C x.1) → ∀ x ∈ row.foldl jstep acc, C x.1
  | [], _, h, _ => h
  | p :: r, _, h, hr => jfold_org r _ (jstep_org h (hr p (by simp))) fun x hx => hr x (by simp [hx])
theorem joined_amt {row : Row} (h : NN row) (o : Org) : amt o (joined row) = amt o row := by
  unfold joined; rw [jfold_amt o row [] h, amt_nil]; omega
theorem joined_total {row : Row} (h : NN row) : total (joined row) = total row := by
  unfold joined; rw [jfold_total row [] h]; simp [total]
theorem joined_pos (row : Row) : Pos (joined row) := jfold_pos row [] fun p hp => by simp at hp
theorem joined_org {C : Org → Prop} {row : Row} (h : ∀ x ∈ row, C x.1) : ∀ x ∈ joined row, C x.1 := jfold_org row [] (fun x hx => by simp at hx) h

/-! ### parting a row -/
structure PInv (a : Int) (row : Row) (s : Int × Row × Row) : Prop where
  ge : 0 ≤ s.1
  fr : NN s.2.1
  re : NN s.2.2
  am : ∀ o, amt o s.2.1 + amt o s.2.2 = amt o row
  tf : total s.2.1 + s.1 = a
  tr : total s.2.1 + total s.2.2 = total row
theorem pfold_inv (a : Int) : ∀ (row : Row) (pre : Row) (s : Int × Row × Row), NN row → PInv a pre s → PInv a (pre ++ row) (row.foldl pstep s)
  | [], pre, s, _, h => by simpa using h
  | p :: r, pre, s, hn, h => by
    have h1 := hn p (by simp)
    have ih := pfold_inv a r (pre ++ [p]) (pstep s p) (fun q hq => hn q (by simp [hq])) ?_
    · simpa using ih
    · have hs := h.ge
      refine ⟨?_, ?_, ?_, fun o => ?_, ?_, ?_⟩
      · show 0 ≤ s.1 - min p.2 s.1; omega
      · intro x hx
        rcases List.mem_append.mp (show x ∈ s.2.1 ++ [(p.1, min p.2 s.1)] from hx) with hx | hx
        · exact h.fr x hx
        · obtain rfl := List.mem_singleton.mp hx; show 0 ≤ min p.2 s.1; omega
      · intro x hx
        rcases List.mem_append.mp (show x ∈ s.2.2 ++ [(p.1, p.2 - min p.2 s.1)] from hx) with hx | hx
        · exact h.re x hx
        · obtain rfl := List.mem_singleton.mp hx; show 0 ≤ p.2 - min p.2 s.1; omega
      · have := h.am o
        show amt o (s.2.1 ++ [(p.1, min p.2 s.1)]) + amt o (s.2.2 ++ [(p.1, p.2 - min p.2 s.1)]) = amt o (pre ++ [p])
        rw [amt_append, amt_append, amt_append, amt_cons, amt_cons, amt_cons, amt_nil]
        dsimp only
        split <;> omega
      · have := h.tf
        show total (s.2.1 ++ [(p.1, min p.2 s.1)]) + (s.1 - min p.2 s.1) = a
        rw [total_append]; simp only [total, List.map_cons, List.map_nil, List.sum_cons, List.sum_nil] at *; omega
      · have := h.tr
        show total (s.2.1 ++ [(p.1, min p.2 s.1)]) + total (s.2.2 ++ [(p.1, p.2 - min p.2 s.1)]) = total (pre ++ [p])
        rw [total_append, total_append, total_append]; simp only [total, List.map_cons, List.map_nil, List.sum_cons, List.sum_nil] at *; omega
theorem psplit_inv {row : Row} {a : Int} (h : NN row) (ha : 0 ≤ a) : PInv a row (psplit row a) := by
  have := pfold_inv a row [] (a, [], []) h ⟨ha, (fun p hp => by simp at hp), (fun p hp => by simp at hp), fun o => by simp [amt], by simp [total], by simp [total]⟩
  rw [List.nil_append] at this
  exact this
theorem psplit_org {C : Org → Prop} : ∀ (row : Row) (s : Int × Row × Row), (∀ x ∈ row, C x.1) → (∀ x ∈ s.2.1, C x.1) → (∀ x ∈ s.2.2, C x.1) →
    (∀ x ∈ (row.foldl pstep s).2.1, C x.1) ∧ (∀ x ∈ (row.foldl pstep s).2.2, C x.1)
  | [], s, _, h1, h2 => ⟨h1, h2⟩
  | p :: r, s, hr, h1, h2 => by
    refine psplit_org r (pstep s p) (fun x hx => hr x (by simp [hx])) ?_ ?_
    · intro x hx
      rcases List.mem_append.mp (show x ∈ s.2.1 ++ [(p.1, min p.2 s.1)] from hx) with hx | hx
      · exact h1 x hx
      · obtain rfl := List.mem_singleton.mp hx; exact hr p (by simp)
    · intro x hx
      rcases List.mem_append.mp (show x ∈ s.2.2 ++ [(p.1, p.2 - min p.2 s.1)] from hx) with hx | hx
      · exact h2 x hx
      · obtain rfl := List.mem_singleton.mp hx; exact hr p (by simp)
theorem parted_amt {row : Row} {a : Int} (h : NN row) (ha : 0 ≤ a) (o : Org) : amt o (parted row a).1 + amt o (parted row a).2 = amt o row := by
  have i := psplit_inv h ha
  show amt o (joined _) + amt o (joined _) = _
  rw [joined_amt i.fr, joined_amt i.re, i.am]
theorem parted_pos1 (row : Row) (a : Int) : Pos (parted row a).1 := joined_pos _
theorem parted_pos2 (row : Row) (a : Int) : Pos (parted row a).2 := joined_pos _
theorem parted_org {C : Org → Prop} {row : Row} (a : Int) (h : ∀ x ∈ row, C x.1) : (∀ x ∈ (parted row a).1, C x.1) ∧ (∀ x ∈ (parted row a).2, C x.1) := by
  have := psplit_org row (a, [], []) h (fun x hx => by simp at hx) (fun x hx => by simp at hx)
  exact ⟨joined_org this.1, joined_org this.2⟩
theorem parted_total1 {row : Row} {a : Int} (h : NN row) (ha : 0 ≤ a) : total (parted row a).1 ≤ a := by
  have i := psplit_inv h ha
  have := i.tf; have := i.ge
  show total (joined _) ≤ a
  rw [joined_total i.fr]; omega
theorem parted_total2 {row : Row} {a : Int} (h : NN row) (ha : 0 ≤ a) : total (parted row a).2 ≤ total row := by
  have i := psplit_inv h ha
  have := i.tr; have := total_nonneg i.fr
  show total (joined _) ≤ _
  rw [joined_total i.re]; omega

/-! ### finite sums -/
def sm : Nat → (Nat → Int) → Int
  | 0, _ => 0
  | n + 1, f => sm n f + f n
theorem sm_congr {f g : Nat → Int} : ∀ {n : Nat}, (∀ i, i < n → f i = g i) → sm n f = sm n g
  | 0, _ => rfl
  | n + 1, h => by simp only [sm]; rw [sm_congr fun i hi => h i (by omega), h n (by omega)]
theorem sm_add (f g : Nat → Int) : ∀ n, sm n (fun i => f i + g i) = sm n f + sm n g
  | 0 => by simp [sm]
  | n + 1 => by simp only [sm]; rw [sm_add f g n]; omega
theorem sm_zero : ∀ n, sm n (fun _ => 0) = 0
  | 0 => rfl
  | n + 1 => by simp only [sm]; rw [sm_zero n]; rfl
theorem sm_swap (f : Nat → Nat → Int) (m : Nat) : ∀ n, sm n (fun i => sm m (fun j => f i j)) = sm m (fun j => sm n (fun i => f i j))
  | 0 => by simp [sm, sm_zero]
  | n + 1 => by simp only [sm]; rw [sm_swap f m n, sm_add]
theorem sm_pick (f : Nat → Int) (a : Nat) : ∀ n, sm n (fun k => if a = k then f k else 0) = if a < n then f a else 0
  | 0 => by simp [sm]
  | n + 1 => by
    simp only [sm]; rw [sm_pick f a n]
    by_cases h : a = n
    · subst h; simp
    · by_cases h2 : a < n
      · rw [if_pos h2, if_neg h, if_pos (by omega)]; omega
      · rw [if_neg h2, if_neg h, if_neg (by omega)]; omega
theorem sm_list (f : Nat → Int) : ∀ n, ((List.range n).map f).sum = sm n f
  | 0 => rfl
  | n + 1 => by rw [List.range_succ, List.map_append, List.sum_append, sm_list f n]; simp [sm]
theorem sm_split (f : Nat → Int) (a : Nat) : ∀ d, sm (a + d) f = sm a f + sm d (fun i => f (a + i))
  | 0 => by simp [sm]
  | d + 1 => by
    show sm (a + d) f + f (a + d) = _
    rw [sm_split f a d]; simp only [sm]; omega
theorem amt_flatten (o : Org) (f : Nat → Row) : ∀ n, amt o ((List.range n).map f).flatten = sm n (fun i => amt o (f i))
  | 0 => rfl
  | n + 1 => by
    rw [List.range_succ, List.map_append, List.flatten_append, amt_append, amt_flatten o f n]
    simp [sm]
theorem amt_flatten2 (o : Org) (f : Nat → List Row) : ∀ n, amt o ((List.range n).map f).flatten.flatten = sm n (fun i => amt o (f i).flatten)
  | 0 => rfl
  | n + 1 => by
    rw [List.range_succ, List.map_append, List.flatten_append, List.flatten_append, amt_append, amt_flatten2 o f n]
    simp [sm]
end Hw

namespace Hw

/-! ### the basin, the plan, the tracing -/
structure B where
  n : Nat
  months : Nat
  next : Nat → Option Nat
  travel : Nat → Nat
  reach : Nat → Option Int
  room : Nat → Int
  held : Nat → Int
  inflow : Nat → Nat → Int
  nr : Nat
  rsite : Nat → Nat
  dem : Nat → Nat → Int
structure P where
  del : Nat → Nat → Int
  rel : Nat → Nat → Int
  sto : Nat → Nat → Int
structure St where
  given : Nat → Nat → Row
  letw : Nat → Nat → Row
  stored : Nat → Nat → Row
  spilled : Nat → Nat → Row
def upd2 {α : Type} (f : Nat → Nat → α) (a b : Nat) (v : α) : Nat → Nat → α := fun x y => if x = a ∧ y = b then v else f x y
theorem upd2_same {α : Type} (f : Nat → Nat → α) (a b : Nat) (v : α) : upd2 f a b v a b = v := by simp [upd2]
theorem upd2_ne {α : Type} (f : Nat → Nat → α) {a b x y : Nat} (v : α) (h : ¬ (x = a ∧ y = b)) : upd2 f a b v x y = f x y := by simp [upd2, h]

def feeders (b : B) (k m : Nat) : List (Nat × Nat) :=
  ((List.range b.n).filter fun j => decide (b.next j = some k ∧ b.travel j ≤ m)).map fun j => (j, m - b.travel j)
def rowIn (b : B) (s : St) (k m : Nat) : Row :=
  (if 0 < m then s.stored k (m - 1) else [(.held k, b.held k)]) ++ ((feeders b k m).map fun f => s.letw f.1 f.2).flatten ++ [(.inn k m, b.inflow k m)]
def rowAt (b : B) (s : St) (k m : Nat) : Row := joined (rowIn b s k m)
def gstep (b : B) (p : P) (k m : Nat) (s : (Nat → Nat → Row) × Row) (r : Nat) : (Nat → Nat → Row) × Row :=
  if b.rsite r = k then (upd2 s.1 r m (parted s.2 (p.del r m)).1, (parted s.2 (p.del r m)).2) else s
def gfold (b : B) (p : P) (k m : Nat) (s : (Nat → Nat → Row) × Row) (i : Nat) : (Nat → Nat → Row) × Row := (List.range i).foldl (gstep b p k m) s
def step (b : B) (p : P) (s : St) (c : Nat × Nat) : St :=
  let g := gfold b p c.1 c.2 (s.given, rowAt b s c.1 c.2) b.nr
  let l := parted g.2 (p.rel c.1 c.2)
  let t := parted l.2 (p.sto c.1 c.2)
  ⟨g.1, upd2 s.letw c.1 c.2 l.1, upd2 s.stored c.1 c.2 t.1, upd2 s.spilled c.1 c.2 t.2⟩
def cells (n M : Nat) : List (Nat × Nat) := (List.range M).flatMap fun m => (List.range n).map fun k => (k, m)
def st0 : St := ⟨fun _ _ => [], fun _ _ => [], fun _ _ => [], fun _ _ => []⟩
def runL (b : B) (p : P) (s : St) (L : List (Nat × Nat)) : St := L.foldl (step b p) s
def run (b : B) (p : P) (M : Nat) : St := runL b p st0 (cells b.n M)

theorem cells_succ (n M : Nat) : cells n (M + 1) = cells n M ++ (List.range n).map fun k => (k, M) := by
  simp [cells, List.range_succ, List.flatMap_append]
theorem mem_cells {n M : Nat} {c : Nat × Nat} : c ∈ cells n M ↔ c.1 < n ∧ c.2 < M := by
  obtain ⟨k, m⟩ := c
  simp only [cells, List.mem_flatMap, List.mem_range, List.mem_map, Prod.mk.injEq]
  constructor
  · rintro ⟨a, h1, x, h2, rfl, rfl⟩; exact ⟨h2, h1⟩
  · rintro ⟨h1, h2⟩; exact ⟨m, h2, k, h1, rfl, rfl⟩
def bef (a c : Nat × Nat) : Prop := a.2 < c.2 ∨ (a.2 = c.2 ∧ a.1 < c.1)
theorem bef_ne {a c : Nat × Nat} (h : bef a c) : a ≠ c := by
  rintro rfl; unfold bef at h; omega
theorem bef_asymm {a c : Nat × Nat} (h : bef a c) : ¬ bef c a := by unfold bef at *; omega
theorem range_lt : ∀ n : Nat, (List.range n).Pairwise (· < ·) := fun _ => List.pairwise_lt_range
theorem cells_bef (n : Nat) : ∀ M, (cells n M).Pairwise bef
  | 0 => by simp [cells]
  | M + 1 => by
    rw [cells_succ, List.pairwise_append]
    refine ⟨cells_bef n M, ?_, ?_⟩
    · rw [List.pairwise_map]
      exact (range_lt n).imp fun h => Or.inr ⟨rfl, h⟩
    · intro a ha c hc
      have h1 := (mem_cells.mp ha).2
      obtain ⟨k, _, rfl⟩ := List.mem_map.mp hc
      exact Or.inl h1
theorem cells_split {n M k m : Nat} (hk : k < n) (hm : m < M) : ∃ L1 L2, cells n M = L1 ++ (k, m) :: L2 ∧ (∀ c ∈ L1, bef c (k, m)) ∧ (∀ c ∈ L2, bef (k, m) c) := by
  obtain ⟨L1, L2, e⟩ := List.append_of_mem ((mem_cells (c := (k, m))).mpr ⟨hk, hm⟩)
  have h := cells_bef n M
  rw [e, List.pairwise_append] at h
  refine ⟨L1, L2, e, fun c hc => h.2.2 c hc _ (by simp), fun c hc => ?_⟩
  exact (List.pairwise_cons.mp h.2.1).1 c hc

/-! ### what a step leaves as it was -/
theorem gfold_succ (b : B) (p : P) (k m : Nat) (s : (Nat → Nat → Row) × Row) (i : Nat) : gfold b p k m s (i + 1) = gstep b p k m (gfold b p k m s i) i := by
  simp [gfold, List.range_succ, List.foldl_append]
theorem gfold_keep (b : B) (p : P) (k m : Nat) (s : (Nat → Nat → Row) × Row) {r m' : Nat} : ∀ i, (¬ (b.rsite r = k ∧ m' = m) ∨ i ≤ r) → (gfold b p k m s i).1 r m' = s.1 r m'
  | 0, _ => rfl
  | i + 1, h => by
    rw [gfold_succ]
    have ih := gfold_keep b p k m s (r := r) (m' := m') i (by rcases h with h | h; exact .inl h; exact .inr (by omega))
    unfold gstep
    split
    · rename_i hk
      show upd2 _ i m _ r m' = _
      rw [upd2_ne _ _ fun z => ?_]
      · exact ih
      · obtain ⟨rfl, rfl⟩ := z
        rcases h with h | h
        · exact h ⟨hk, rfl⟩
        · omega
    · exact ih
theorem step_letw (b : B) (p : P) (s : St) {c : Nat × Nat} {k m : Nat} (h : c ≠ (k, m)) : (step b p s c).letw k m = s.letw k m := by
  show upd2 s.letw c.1 c.2 _ k m = _
  rw [upd2_ne]; rintro ⟨rfl, rfl⟩; exact h rfl
theorem step_stored (b : B) (p : P) (s : St) {c : Nat × Nat} {k m : Nat} (h : c ≠ (k, m)) : (step b p s c).stored k m = s.stored k m := by
  show upd2 s.stored c.1 c.2 _ k m = _
  rw [upd2_ne]; rintro ⟨rfl, rfl⟩; exact h rfl
theorem step_spilled (b : B) (p : P) (s : St) {c : Nat × Nat} {k m : Nat} (h : c ≠ (k, m)) : (step b p s c).spilled k m = s.spilled k m := by
  show upd2 s.spilled c.1 c.2 _ k m = _
  rw [upd2_ne]; rintro ⟨rfl, rfl⟩; exact h rfl
theorem step_given (b : B) (p : P) (s : St) {c : Nat × Nat} {r m : Nat} (h : c ≠ (b.rsite r, m)) : (step b p s c).given r m = s.given r m := by
  show (gfold b p c.1 c.2 (s.given, rowAt b s c.1 c.2) b.nr).1 r m = _
  rw [gfold_keep]
  left; rintro ⟨e1, rfl⟩; apply h; rw [e1]
theorem runL_letw (b : B) (p : P) {k m : Nat} : ∀ (L : List (Nat × Nat)) (s : St), (∀ c ∈ L, c ≠ (k, m)) → (runL b p s L).letw k m = s.letw k m
  | [], _, _ => rfl
  | c :: L, s, h => (runL_letw b p L (step b p s c) fun x hx => h x (by simp [hx])).trans (step_letw b p s (h c (by simp)))
theorem runL_stored (b : B) (p : P) {k m : Nat} : ∀ (L : List (Nat × Nat)) (s : St), (∀ c ∈ L, c ≠ (k, m)) → (runL b p s L).stored k m = s.stored k m
  | [], _, _ => rfl
  | c :: L, s, h => (runL_stored b p L (step b p s c) fun x hx => h x (by simp [hx])).trans (step_stored b p s (h c (by simp)))
theorem runL_spilled (b : B) (p : P) {k m : Nat} : ∀ (L : List (Nat × Nat)) (s : St), (∀ c ∈ L, c ≠ (k, m)) → (runL b p s L).spilled k m = s.spilled k m
  | [], _, _ => rfl
  | c :: L, s, h => (runL_spilled b p L (step b p s c) fun x hx => h x (by simp [hx])).trans (step_spilled b p s (h c (by simp)))
theorem runL_given (b : B) (p : P) {r m : Nat} : ∀ (L : List (Nat × Nat)) (s : St), (∀ c ∈ L, c ≠ (b.rsite r, m)) → (runL b p s L).given r m = s.given r m
  | [], _, _ => rfl
  | c :: L, s, h => (runL_given b p L (step b p s c) fun x hx => h x (by simp [hx])).trans (step_given b p s (h c (by simp)))
theorem run_add (b : B) (p : P) (M : Nat) : ∀ d, ∃ L, (∀ c ∈ L, M ≤ c.2) ∧ run b p (M + d) = runL b p (run b p M) L
  | 0 => ⟨[], by simp, rfl⟩
  | d + 1 => by
    obtain ⟨L, h, e⟩ := run_add b p M d
    refine ⟨L ++ (List.range b.n).map (fun k => (k, M + d)), fun c hc => ?_, ?_⟩
    · rcases List.mem_append.mp hc with hc | hc
      · exact h c hc
      · obtain ⟨k, _, rfl⟩ := List.mem_map.mp hc
        show M ≤ M + d; omega
    · show runL b p st0 (cells b.n (M + d + 1)) = _
      rw [cells_succ]
      unfold runL at *
      rw [List.foldl_append, List.foldl_append]
      show List.foldl _ (run b p (M + d)) _ = _
      rw [e]
/-- months that are over are as they are -/
theorem run_over (b : B) (p : P) {M M' m : Nat} (h : M ≤ M') (hm : m < M) : (∀ r, (run b p M').given r m = (run b p M).given r m) ∧ (∀ k, (run b p M').letw k m = (run b p M).letw k m) ∧
    (∀ k, (run b p M').stored k m = (run b p M).stored k m) ∧ (∀ k, (run b p M').spilled k m = (run b p M).spilled k m) := by
  obtain ⟨L, hL, e⟩ := run_add b p M (M' - M)
  have e' : M + (M' - M) = M' := by omega
  rw [e'] at e
  have ne : ∀ a, ∀ c ∈ L, c ≠ (a, m) := fun a c hc z => by
    have := hL c hc; rw [z] at this; exact absurd (show M ≤ m from this) (by omega)
  refine ⟨fun r => ?_, fun k => ?_, fun k => ?_, fun k => ?_⟩
  · rw [e, runL_given b p L _ (ne _)]
  · rw [e, runL_letw b p L _ (ne _)]
  · rw [e, runL_stored b p L _ (ne _)]
  · rw [e, runL_spilled b p L _ (ne _)]

/-! ### all rows are positive, of origins that have been -/
structure RowOk (M : Nat) (row : Row) : Prop where
  pos : Pos row
  old : ∀ x ∈ row, ∀ k m, x.1 = .inn k m → m < M
structure StOk (M : Nat) (s : St) : Prop where
  given : ∀ k m, RowOk M (s.given k m)
  letw : ∀ k m, RowOk M (s.letw k m)
  stored : ∀ k m, RowOk M (s.stored k m)
  spilled : ∀ k m, RowOk M (s.spilled k m)
theorem RowOk.nil (M : Nat) : RowOk M [] := ⟨fun p hp => by simp at hp, fun p hp => by simp at hp⟩
theorem RowOk.mono {M M' : Nat} {row : Row} (h : RowOk M row) (hm : M ≤ M') : RowOk M' row := ⟨h.pos, fun x hx k m e => Nat.lt_of_lt_of_le (h.old x hx k m e) hm⟩
theorem StOk.mono {M M' : Nat} {s : St} (h : StOk M s) (hm : M ≤ M') : StOk M' s := ⟨fun k m => (h.given k m).mono hm, fun k m => (h.letw k m).mono hm, fun k m => (h.stored k m).mono hm, fun k m => (h.spilled k m).mono hm⟩
theorem st0_ok (M : Nat) : StOk M st0 := ⟨fun _ _ => .nil M, fun _ _ => .nil M, fun _ _ => .nil M, fun _ _ => .nil M⟩
theorem RowOk.upd2 {M : Nat} {f : Nat → Nat → Row} (h : ∀ k m, RowOk M (f k m)) (a b : Nat) {v : Row} (hv : RowOk M v) : ∀ k m, RowOk M (upd2 f a b v k m) := fun k m => by
  unfold Hw.upd2; split
  · exact hv
  · exact h k m
theorem RowOk.part1 {M : Nat} {row : Row} (a : Int) (h : RowOk M row) : RowOk M (parted row a).1 :=
  ⟨parted_pos1 row a, (parted_org (C := fun o => ∀ k m, o = .inn k m → m < M) a h.old).1⟩
theorem RowOk.part2 {M : Nat} {row : Row} (a : Int) (h : RowOk M row) : RowOk M (parted row a).2 :=
  ⟨parted_pos2 row a, (parted_org (C := fun o => ∀ k m, o = .inn k m → m < M) a h.old).2⟩
theorem rowAt_ok {b : B} {s : St} {k m M : Nat} (h : StOk M s) (hm : m < M) : RowOk M (rowAt b s k m) := by
  refine ⟨joined_pos _, joined_org (C := fun o => ∀ k m, o = .inn k m → m < M) ?_⟩
  intro x hx k' m' e
  unfold rowIn at hx
  rcases List.mem_append.mp hx with hx | hx
  · rcases List.mem_append.mp hx with hx | hx
    · split at hx
      · exact (h.stored _ _).old x hx k' m' e
      · obtain rfl := List.mem_singleton.mp hx
        cases e
    · obtain ⟨l, hl, hx⟩ := List.mem_flatten.mp hx
      obtain ⟨f, _, rfl⟩ := List.mem_map.mp hl
      exact (h.letw _ _).old x hx k' m' e
  · obtain rfl := List.mem_singleton.mp hx
    cases e
    exact hm
theorem gfold_ok {b : B} {p : P} {k m M : Nat} {s : (Nat → Nat → Row) × Row} (h1 : ∀ k m, RowOk M (s.1 k m)) (h2 : RowOk M s.2) : ∀ i, (∀ k' m', RowOk M ((gfold b p k m s i).1 k' m')) ∧ RowOk M (gfold b p k m s i).2
  | 0 => ⟨h1, h2⟩
  | i + 1 => by
    obtain ⟨i1, i2⟩ := gfold_ok (b := b) (p := p) (k := k) (m := m) h1 h2 i
    rw [gfold_succ]
    unfold gstep
    split
    · exact ⟨RowOk.upd2 i1 _ _ (i2.part1 _), i2.part2 _⟩
    · exact ⟨i1, i2⟩
theorem step_ok {b : B} {p : P} {s : St} {c : Nat × Nat} {M : Nat} (h : StOk M s) (hm : c.2 < M) : StOk M (step b p s c) := by
  obtain ⟨g1, g2⟩ := gfold_ok (b := b) (p := p) (k := c.1) (m := c.2) (s := (s.given, rowAt b s c.1 c.2)) h.given (rowAt_ok h hm) b.nr
  exact ⟨g1, RowOk.upd2 h.letw _ _ (g2.part1 _), RowOk.upd2 h.stored _ _ ((g2.part2 _).part1 _), RowOk.upd2 h.spilled _ _ ((g2.part2 _).part2 _)⟩
theorem runL_ok {b : B} {p : P} {M : Nat} : ∀ (L : List (Nat × Nat)) (s : St), StOk M s → (∀ c ∈ L, c.2 < M) → StOk M (runL b p s L)
  | [], _, h, _ => h
  | c :: L, s, h, hl => runL_ok L _ (step_ok h (hl c (by simp))) fun x hx => hl x (by simp [hx])
theorem run_ok (b : B) (p : P) (M : Nat) : StOk M (run b p M) := runL_ok _ _ (st0_ok M) fun _ hc => (mem_cells.mp hc).2

/-! ### what comes in goes out -/
structure BOk (b : B) : Prop where
  n1 : 1 ≤ b.n
  nextlt : ∀ k j, k < b.n → b.next k = some j → k < j ∧ j < b.n
  held : ∀ k, 0 ≤ b.held k
  inflow : ∀ k m, 0 ≤ b.inflow k m
  rs : ∀ r, r < b.nr → b.rsite r < b.n
structure POk (p : P) : Prop where
  del : ∀ r m, 0 ≤ p.del r m
  rel : ∀ r m, 0 ≤ p.rel r m
  sto : ∀ r m, 0 ≤ p.sto r m

theorem gfold_amt {b : B} {p : P} (hp : POk p) (o : Org) (k m : Nat) {s : (Nat → Nat → Row) × Row} (h2 : Pos s.2) : ∀ i,
    Pos (gfold b p k m s i).2 ∧ sm i (fun r => if b.rsite r = k then amt o ((gfold b p k m s i).1 r m) else 0) + amt o (gfold b p k m s i).2 = amt o s.2
  | 0 => ⟨h2, by simp [sm, gfold]⟩
  | i + 1 => by
    obtain ⟨i1, i2⟩ := gfold_amt hp (b := b) o k m h2 i
    have e0 : sm i (fun r => if b.rsite r = k then amt o ((gfold b p k m s (i + 1)).1 r m) else 0) = sm i (fun r => if b.rsite r = k then amt o ((gfold b p k m s i).1 r m) else 0) := by
      refine sm_congr fun r hr => ?_
      rw [gfold_succ]
      unfold gstep
      split
      · split
        · show amt o (upd2 _ i m _ r m) = _
          rw [upd2_ne _ _ fun z => by omega]
        · rfl
      · rfl
    refine ⟨?_, ?_⟩
    · rw [gfold_succ]; unfold gstep
      split
      · exact parted_pos2 _ _
      · exact i1
    · simp only [sm]
      rw [e0]
      rw [gfold_succ]
      unfold gstep
      by_cases hk : b.rsite i = k
      · rw [if_pos hk, if_pos hk]
        show _ + amt o (upd2 _ i m _ i m) + amt o _ = _
        rw [upd2_same]
        have := parted_amt i1.nn (hp.del i m) o
        dsimp only
        omega
      · rw [if_neg hk, if_neg hk]; omega

/-- the equation of a cell, of the tracing as it is at the end -/
theorem cell_eq {b : B} {p : P} (hb : BOk b) (hp : POk p) (o : Org) {M k m : Nat} (hk : k < b.n) (hm : m < M) :
    amt o (if 0 < m then (run b p M).stored k (m - 1) else [(.held k, b.held k)]) + sm b.n (fun j => if b.next j = some k ∧ b.travel j ≤ m then amt o ((run b p M).letw j (m - b.travel j)) else 0)
      + (if Org.inn k m = o then b.inflow k m else 0)
    = sm b.nr (fun r => if b.rsite r = k then amt o ((run b p M).given r m) else 0) + amt o ((run b p M).letw k m) + amt o ((run b p M).stored k m) + amt o ((run b p M).spilled k m) := by
  obtain ⟨L1, L2, e, h1, h2⟩ := cells_split hk hm
  have hS : run b p M = runL b p (step b p (runL b p st0 L1) (k, m)) L2 := by
    show runL b p st0 (cells b.n M) = _
    rw [e]; simp [runL, List.foldl_append]
  have ok1 : StOk M (runL b p st0 L1) := runL_ok _ _ (st0_ok M) fun c hc => (mem_cells.mp (by rw [e]; simp [hc] : c ∈ cells b.n M)).2
  generalize hs : runL b p st0 L1 = s at hS ok1
  have n2 : ∀ c ∈ L2, c ≠ (k, m) := fun c hc z => (bef_ne (h2 c hc)) z.symm
  have n3 : ∀ a : Nat × Nat, bef a (k, m) → ∀ c ∈ (k, m) :: L2, c ≠ a := fun a ha c hc z => by
    subst z
    rcases List.mem_cons.mp hc with z | hc
    · exact bef_ne ha z
    · exact bef_asymm (h2 c hc) ha
  have S2 : run b p M = runL b p s ((k, m) :: L2) := hS
  -- values that were there ahead
  have l1 : ∀ a, bef a (k, m) → (run b p M).letw a.1 a.2 = s.letw a.1 a.2 := fun a ha => by rw [S2]; exact runL_letw b p _ s (n3 a ha)
  have l2 : ∀ a, bef a (k, m) → (run b p M).stored a.1 a.2 = s.stored a.1 a.2 := fun a ha => by rw [S2]; exact runL_stored b p _ s (n3 a ha)
  -- values that are made here
  have m1 : (run b p M).letw k m = (step b p s (k, m)).letw k m := by rw [hS]; exact runL_letw b p _ _ n2
  have m2 : (run b p M).stored k m = (step b p s (k, m)).stored k m := by rw [hS]; exact runL_stored b p _ _ n2
  have m3 : (run b p M).spilled k m = (step b p s (k, m)).spilled k m := by rw [hS]; exact runL_spilled b p _ _ n2
  have m4 : ∀ r, b.rsite r = k → (run b p M).given r m = (step b p s (k, m)).given r m := fun r hr => by
    rw [hS]; exact runL_given b p _ _ (by rw [hr]; exact n2)
  have er : rowAt b s k m = joined (rowIn b s k m) := rfl
  have nnR : NN (rowIn b s k m) := by
    intro x hx
    unfold rowIn at hx
    rcases List.mem_append.mp hx with hx | hx
    · rcases List.mem_append.mp hx with hx | hx
      · split at hx
        · exact (ok1.stored _ _).pos.nn x hx
        · obtain rfl := List.mem_singleton.mp hx
          exact hb.held k
      · obtain ⟨l, hl, hx⟩ := List.mem_flatten.mp hx
        obtain ⟨f, _, rfl⟩ := List.mem_map.mp hl
        exact (ok1.letw _ _).pos.nn x hx
    · obtain rfl := List.mem_singleton.mp hx
      exact hb.inflow k m
  have ein : amt o (rowAt b s k m) = amt o (if 0 < m then s.stored k (m - 1) else [(.held k, b.held k)]) + sm b.n (fun j => if b.next j = some k ∧ b.travel j ≤ m then amt o (s.letw j (m - b.travel j)) else 0) + (if Org.inn k m = o then b.inflow k m else 0) := by
    rw [er, joined_amt nnR]
    unfold rowIn
    rw [amt_append, amt_append, amt_cons, amt_nil]
    have ef : amt o ((feeders b k m).map fun f => s.letw f.1 f.2).flatten = sm b.n (fun j => if b.next j = some k ∧ b.travel j ≤ m then amt o (s.letw j (m - b.travel j)) else 0) := by
      unfold feeders
      rw [List.map_map]
      generalize b.n = n
      induction n with
      | zero => rfl
      | succ n ih =>
        rw [List.range_succ, List.filter_append, List.map_append, List.flatten_append, amt_append, ih]
        simp only [sm]
        by_cases hc : b.next n = some k ∧ b.travel n ≤ m
        · rw [if_pos hc]; simp [hc]
        · rw [if_neg hc]; simp only [List.filter_cons, decide_eq_true_eq, if_neg hc]; simp [amt]
    rw [ef]; dsimp only; omega
  have f1 : amt o (if 0 < m then (run b p M).stored k (m - 1) else [(.held k, b.held k)]) = amt o (if 0 < m then s.stored k (m - 1) else [(.held k, b.held k)]) := by
    split
    · rw [l2 (k, m - 1) (.inl (by show m - 1 < m; omega))]
    · rfl
  have f2 : sm b.n (fun j => if b.next j = some k ∧ b.travel j ≤ m then amt o ((run b p M).letw j (m - b.travel j)) else 0) = sm b.n (fun j => if b.next j = some k ∧ b.travel j ≤ m then amt o (s.letw j (m - b.travel j)) else 0) := by
    refine sm_congr fun j hj => ?_
    split
    · rename_i hc
      have hjk := (hb.nextlt j k hj hc.1).1
      rw [l1 (j, m - b.travel j) (by
        unfold bef; show m - b.travel j < m ∨ m - b.travel j = m ∧ j < k
        omega)]
    · rfl
  rw [f1, f2, ← ein, m1, m2, m3]
  have g0 := gfold_amt hp (b := b) o k m (s := (s.given, rowAt b s k m)) (joined_pos _) b.nr
  have f3 : sm b.nr (fun r => if b.rsite r = k then amt o ((run b p M).given r m) else 0) = sm b.nr (fun r => if b.rsite r = k then amt o ((gfold b p k m (s.given, rowAt b s k m) b.nr).1 r m) else 0) := by
    refine sm_congr fun r _ => ?_
    split
    · rename_i hr; rw [m4 r hr]; rfl
    · rfl
  rw [f3]
  generalize hg : gfold b p k m (s.given, rowAt b s k m) b.nr = g at *
  have e1 : (step b p s (k, m)).letw k m = (parted g.2 (p.rel k m)).1 := by
    show upd2 s.letw k m (parted (gfold b p k m (s.given, rowAt b s k m) b.nr).2 (p.rel k m)).1 k m = _
    rw [upd2_same, hg]
  have e2 : (step b p s (k, m)).stored k m = (parted (parted g.2 (p.rel k m)).2 (p.sto k m)).1 := by
    show upd2 s.stored k m (parted (parted (gfold b p k m (s.given, rowAt b s k m) b.nr).2 (p.rel k m)).2 (p.sto k m)).1 k m = _
    rw [upd2_same, hg]
  have e3 : (step b p s (k, m)).spilled k m = (parted (parted g.2 (p.rel k m)).2 (p.sto k m)).2 := by
    show upd2 s.spilled k m (parted (parted (gfold b p k m (s.given, rowAt b s k m) b.nr).2 (p.rel k m)).2 (p.sto k m)).2 k m = _
    rw [upd2_same, hg]
  rw [e1, e2, e3]
  have a1 := parted_amt g0.1.nn (hp.rel k m) o
  have a2 := parted_amt (parted_pos2 g.2 (p.rel k m)).nn (hp.sto k m) o
  have a3 := g0.2
  dsimp only at a3
  omega
end Hw

namespace Hw

/-! ### water that is open at a cut -/
/-- let down, and not come in ahead of the month T -/
def Opn (b : B) (j m T : Nat) : Prop := b.next j = none ∨ T ≤ m + b.travel j
instance (b : B) (j m T : Nat) : Decidable (Opn b j m T) := by unfold Opn; exact inferInstance

theorem sm_one (f : Nat → Int) (t : Nat) : ∀ T, sm T (fun m => if m + t = T then f m else 0) = if 0 < t ∧ t ≤ T then f (T - t) else 0 := by
  intro T
  have e : ∀ n, n ≤ T → sm n (fun m => if m + t = T then f m else 0) = if T - t < n ∧ t ≤ T then f (T - t) else 0 := by
    intro n
    induction n with
    | zero => intro _; simp [sm]
    | succ n ih =>
      intro hn
      simp only [sm]
      rw [ih (by omega)]
      by_cases h : n + t = T
      · have e1 : T - t = n := by omega
        rw [if_pos h, if_neg (by omega), if_pos (by omega), e1]; omega
      · rw [if_neg h]
        by_cases h2 : T - t < n ∧ t ≤ T
        · rw [if_pos h2, if_pos (by omega)]; omega
        · rw [if_neg h2, if_neg (by omega)]; omega
  rw [e T (Nat.le_refl _)]
  by_cases h : 0 < t ∧ t ≤ T
  · rw [if_pos h, if_pos (by omega)]
  · rw [if_neg h, if_neg (by omega)]
/-- one month more: what is open, site by site -/
theorem open_step (b : B) (L : Nat → Nat → Int) (j T : Nat) :
    sm T (fun m => if Opn b j m T then L j m else 0) + L j T = sm (T + 1) (fun m => if Opn b j m (T + 1) then L j m else 0) + (if b.next j ≠ none ∧ b.travel j ≤ T then L j (T - b.travel j) else 0) := by
  by_cases hn : b.next j = none
  · have e1 : ∀ m U, Opn b j m U := fun m U => .inl hn
    rw [if_neg (by simp [hn])]
    simp only [sm, if_pos (e1 _ _)]; omega
  · have ho : ∀ m U, Opn b j m U ↔ U ≤ m + b.travel j := fun m U => ⟨fun h => h.resolve_left hn, .inr⟩
    simp only [ho]
    have e1 : sm T (fun m => if T ≤ m + b.travel j then L j m else 0) = sm T (fun m => (if T + 1 ≤ m + b.travel j then L j m else 0) + (if m + b.travel j = T then L j m else 0)) := by
      refine sm_congr fun m _ => ?_
      by_cases h1 : T + 1 ≤ m + b.travel j
      · rw [if_pos (by omega), if_pos h1, if_neg (by omega)]; omega
      · by_cases h2 : m + b.travel j = T
        · rw [if_pos (by omega), if_neg h1, if_pos h2]; omega
        · rw [if_neg (by omega), if_neg h1, if_neg h2]; omega
    rw [e1, sm_add, sm_one]
    simp only [sm]
    by_cases ht : b.travel j ≤ T
    · rw [if_pos (⟨hn, ht⟩ : b.next j ≠ none ∧ b.travel j ≤ T)]
      by_cases h0 : 0 < b.travel j
      · rw [if_pos (⟨h0, ht⟩ : 0 < b.travel j ∧ b.travel j ≤ T), if_pos (show T + 1 ≤ T + b.travel j by omega)]; omega
      · have e0 : b.travel j = 0 := by omega
        rw [if_neg (show ¬ (0 < b.travel j ∧ b.travel j ≤ T) by omega), if_neg (show ¬ T + 1 ≤ T + b.travel j by omega), e0, Nat.sub_zero]
    · rw [if_neg (show ¬ (0 < b.travel j ∧ b.travel j ≤ T) by omega), if_neg (show ¬ (b.next j ≠ none ∧ b.travel j ≤ T) from fun z => ht z.2), if_pos (show T + 1 ≤ T + b.travel j by omega)]; omega

/-- what is stored or on the way, ahead of month T -/
def ahead (b : B) (S : St) (o : Org) (T : Nat) : Int := sm b.n (fun k => amt o (S.stored k (T - 1))) + sm b.n (fun j => sm T (fun m => if Opn b j m T then amt o (S.letw j m) else 0))
def outs (b : B) (S : St) (o : Org) (m : Nat) : Int := sm b.nr (fun r => amt o (S.given r m)) + sm b.n (fun k => amt o (S.spilled k m))
theorem ahead_step {b : B} {p : P} (hb : BOk b) (hp : POk p) (o : Org) {M T : Nat} (h1 : 1 ≤ T) (hT : T < M) (ho : ∀ k, Org.inn k T ≠ o) :
    ahead b (run b p M) o T = ahead b (run b p M) o (T + 1) + outs b (run b p M) o T := by
  generalize hS : run b p M = S
  have ce : ∀ k, k < b.n → amt o (S.stored k (T - 1)) + sm b.n (fun j => if b.next j = some k ∧ b.travel j ≤ T then amt o (S.letw j (T - b.travel j)) else 0)
      = sm b.nr (fun r => if b.rsite r = k then amt o (S.given r T) else 0) + amt o (S.letw k T) + amt o (S.stored k T) + amt o (S.spilled k T) := fun k hk => by
    have := cell_eq hb hp o hk hT
    rw [hS, if_pos (show 0 < T by omega), if_neg (ho k)] at this
    omega
  have e := sm_congr (n := b.n) ce
  simp only [sm_add] at e
  have e2 : sm b.n (fun k => sm b.n (fun j => if b.next j = some k ∧ b.travel j ≤ T then amt o (S.letw j (T - b.travel j)) else 0)) = sm b.n (fun j => if b.next j ≠ none ∧ b.travel j ≤ T then amt o (S.letw j (T - b.travel j)) else 0) := by
    rw [sm_swap (fun k j => if b.next j = some k ∧ b.travel j ≤ T then amt o (S.letw j (T - b.travel j)) else 0)]
    refine sm_congr fun j hj => ?_
    cases hn : b.next j with
    | none => simp [sm_zero]
    | some a =>
      have ha := (hb.nextlt j a hj hn).2
      by_cases ht : b.travel j ≤ T
      · have q := sm_pick (fun _ => amt o (S.letw j (T - b.travel j))) a b.n
        rw [if_pos ha] at q
        rw [if_pos ⟨by simp, ht⟩]
        refine Eq.trans (sm_congr fun k _ => ?_) q
        by_cases hk : a = k
        · rw [if_pos ⟨by rw [hk], ht⟩, if_pos hk]
        · rw [if_neg (fun z => hk (Option.some.inj z.1)), if_neg hk]
      · rw [if_neg (fun z => ht z.2)]
        exact (sm_congr fun k _ => if_neg fun z : _ ∧ _ => ht z.2).trans (sm_zero b.n)
  have e3 : sm b.n (fun k => sm b.nr (fun r => if b.rsite r = k then amt o (S.given r T) else 0)) = sm b.nr (fun r => amt o (S.given r T)) := by
    rw [sm_swap (fun k r => if b.rsite r = k then amt o (S.given r T) else 0)]
    refine sm_congr fun r hr => ?_
    rw [sm_pick (fun _ => amt o (S.given r T)) (b.rsite r) b.n, if_pos (hb.rs r hr)]
  rw [e2, e3] at e
  have e4 : sm b.n (fun j => sm T (fun m => if Opn b j m T then amt o (S.letw j m) else 0)) + sm b.n (fun j => amt o (S.letw j T))
      = sm b.n (fun j => sm (T + 1) (fun m => if Opn b j m (T + 1) then amt o (S.letw j m) else 0)) + sm b.n (fun j => if b.next j ≠ none ∧ b.travel j ≤ T then amt o (S.letw j (T - b.travel j)) else 0) := by
    rw [← sm_add, ← sm_add]
    exact sm_congr fun j _ => open_step b (fun j m => amt o (S.letw j m)) j T
  unfold ahead outs
  rw [show T + 1 - 1 = T by omega]
  omega
theorem ahead_all {b : B} {p : P} (hb : BOk b) (hp : POk p) (o : Org) {M T : Nat} (h1 : 1 ≤ T) (ho : ∀ k m, T ≤ m → Org.inn k m ≠ o) : ∀ d, T + d ≤ M →
    ahead b (run b p M) o T = ahead b (run b p M) o (T + d) + sm d (fun i => outs b (run b p M) o (T + i))
  | 0, _ => by simp [sm]
  | d + 1, hd => by
    rw [ahead_all hb hp o h1 ho d (by omega), ahead_step hb hp o (T := T + d) (by omega) (by omega) fun k => ho k _ (by omega)]
    simp only [sm]
    rw [show T + (d + 1) = T + d + 1 by omega]; omega

/-! ### what the law makes of it -/
/-- the rows that are let down too late, by the months there are -/
def lostAt (b : B) (S : St) (M j m : Nat) : Row := if Opn b j m M then S.letw j m else []
def tab (n : Nat) (f : Nat → Row) : List Row := (List.range n).map f
def tab2 (n M : Nat) (f : Nat → Nat → Row) : List (List Row) := (List.range n).map fun i => tab M (f i)
def laterRows (b : B) (S : St) (T M : Nat) : List Row :=
  tab b.n (fun k => S.stored k (M - 1)) ++ (tab2 b.nr (M - T) fun r i => S.given r (T + i)).flatten ++ (tab2 b.n (M - T) fun k i => S.spilled k (T + i)).flatten ++ (tab2 b.n M (lostAt b S M)).flatten
def aheadRows (b : B) (S : St) (T : Nat) : List Row := tab b.n (fun k => S.stored k (T - 1)) ++ (tab2 b.n T (lostAt b S T)).flatten
theorem amt_tab (o : Org) (n : Nat) (f : Nat → Row) : amt o (tab n f).flatten = sm n fun i => amt o (f i) := amt_flatten o f n
theorem amt_tab2 (o : Org) (n M : Nat) (f : Nat → Nat → Row) : amt o (tab2 n M f).flatten.flatten = sm n fun i => sm M fun j => amt o (f i j) := by
  unfold tab2; rw [amt_flatten2 o (fun i => tab M (f i)) n]
  exact sm_congr fun i _ => amt_tab o M (f i)
theorem amt_lost (b : B) (S : St) (o : Org) (M j m : Nat) : amt o (lostAt b S M j m) = if Opn b j m M then amt o (S.letw j m) else 0 := by
  unfold lostAt; split <;> rfl
theorem amt_ahead (b : B) (S : St) (o : Org) (T : Nat) : amt o (aheadRows b S T).flatten = ahead b S o T := by
  unfold aheadRows ahead
  rw [List.flatten_append, amt_append, amt_tab, amt_tab2]
  simp only [amt_lost]
theorem amt_later (b : B) (S : St) (o : Org) {T M : Nat} : amt o (laterRows b S T M).flatten = ahead b S o M + sm (M - T) (fun i => outs b S o (T + i)) := by
  unfold laterRows ahead outs
  rw [List.flatten_append, List.flatten_append, List.flatten_append, amt_append, amt_append, amt_append, amt_tab, amt_tab2, amt_tab2, amt_tab2, sm_add]
  simp only [amt_lost]
  rw [sm_swap (fun r i => amt o (S.given r (T + i))), sm_swap (fun k i => amt o (S.spilled k (T + i)))]
  omega
/-- the rows ahead are the same, traced to the cut alone -/
theorem aheadRows_cut (b : B) (p : P) {T M : Nat} (h1 : 1 ≤ T) (h : T ≤ M) : aheadRows b (run b p T) T = aheadRows b (run b p M) T := by
  unfold aheadRows
  have e1 : tab b.n (fun k => (run b p T).stored k (T - 1)) = tab b.n (fun k => (run b p M).stored k (T - 1)) := by
    unfold tab
    refine List.map_congr_left fun k _ => ?_
    exact ((run_over b p h (m := T - 1) (by omega)).2.2.1 k).symm
  have e2 : tab2 b.n T (lostAt b (run b p T) T) = tab2 b.n T (lostAt b (run b p M) T) := by
    unfold tab2 tab
    refine List.map_congr_left fun k _ => List.map_congr_left fun m hm => ?_
    unfold lostAt
    rw [(run_over b p h (m := m) (List.mem_range.mp hm)).2.1 k]
  rw [e1, e2]

/-! ### the tables by origins -/
def lk (d : List (Org × Int)) (o : Org) : Option Int := (d.find? fun kv => decide (kv.1 = o)).map (·.2)
def putO (d : List (Org × Int)) (o : Org) (v : Int) : List (Org × Int) :=
  if (d.any fun kv => decide (kv.1 = o)) = true then d.map (fun kv => if kv.1 = o then (kv.1, v) else kv) else d ++ [(o, v)]
def ostep (d : List (Org × Int)) (p : Org × Int) : List (Org × Int) := putO d p.1 ((lk d p.1).getD 0 + p.2)
def orgs (row : Row) : List (Org × Int) := row.foldl ostep []
theorem lk_nil (o : Org) : lk [] o = none := rfl
theorem lk_cons (p : Org × Int) (d : List (Org × Int)) (o : Org) : lk (p :: d) o = if p.1 = o then some p.2 else lk d o := by
  unfold lk
  rw [List.find?_cons]
  by_cases h : p.1 = o <;> simp [h]
theorem lk_any (d : List (Org × Int)) (o : Org) : (d.any fun kv => decide (kv.1 = o)) = (lk d o).isSome := by
  induction d with
  | nil => rfl
  | cons p r ih =>
    rw [List.any_cons, lk_cons, ih]
    by_cases h : p.1 = o <;> simp [h]
theorem lk_append (d e : List (Org × Int)) (o : Org) : lk (d ++ e) o = (lk d o).or (lk e o) := by
  induction d with
  | nil => simp [lk_nil]
  | cons p r ih =>
    rw [List.cons_append, lk_cons, lk_cons, ih]
    split <;> simp
theorem lk_map (d : List (Org × Int)) (o o' : Org) (v : Int) : lk (d.map fun kv => if kv.1 = o then (kv.1, v) else kv) o' = if o' = o then (lk d o').map (fun _ => v) else lk d o' := by
  induction d with
  | nil => simp [lk_nil]
  | cons p r ih =>
    rw [List.map_cons, lk_cons, lk_cons, ih]
    by_cases h1 : p.1 = o
    · rw [if_pos h1]
      by_cases h2 : p.1 = o'
      · rw [if_pos h2, if_pos h2, if_pos (h2.symm.trans h1)]; rfl
      · rw [if_neg h2, if_neg h2]
    · rw [if_neg h1]
      by_cases h2 : p.1 = o'
      · rw [if_pos h2, if_pos h2, if_neg (fun z => h1 (h2.trans z))]
      · rw [if_neg h2, if_neg h2]
theorem lk_put (d : List (Org × Int)) (o o' : Org) (v : Int) : lk (putO d o v) o' = if o' = o then some v else lk d o' := by
  unfold putO
  split
  · rename_i h
    rw [lk_map]
    split
    · rename_i e
      subst e
      rw [lk_any] at h
      obtain ⟨x, hx⟩ := Option.isSome_iff_exists.mp h
      rw [hx]; rfl
    · rfl
  · rename_i h
    rw [lk_append, lk_cons, lk_nil]
    rw [lk_any] at h
    by_cases e : o' = o
    · subst e
      have : lk d o' = none := by cases q : lk d o' with | none => rfl | some x => rw [q] at h; simp at h
      simp [this]
    · rw [if_neg (fun z => e z.symm), if_neg e]; simp
theorem putO_keys (d : List (Org × Int)) (o : Org) (v : Int) (h : (d.map (·.1)).Nodup) : ((putO d o v).map (·.1)).Nodup := by
  unfold putO
  split
  · have e : (d.map fun kv => if kv.1 = o then (kv.1, v) else kv).map (·.1) = d.map (·.1) := by
      rw [List.map_map]
      refine List.map_congr_left fun x _ => ?_
      simp only [Function.comp]
      split <;> rfl
    rw [e]; exact h
  · rename_i hn
    rw [List.map_append, List.nodup_append]
    refine ⟨h, by simp, fun a ha c hc => ?_⟩
    have ec : c = o := by simpa using hc
    subst ec
    rintro rfl
    obtain ⟨x, hx, ex⟩ := List.mem_map.mp ha
    exact hn (List.any_eq_true.mpr ⟨x, hx, by simp [ex]⟩)
theorem ofold_nd : ∀ (row : Row) (d : List (Org × Int)), (d.map (·.1)).Nodup → ((row.foldl ostep d).map (·.1)).Nodup
  | [], _, h => h
  | _ :: r, _, h => ofold_nd r _ (putO_keys _ _ _ h)
theorem orgs_nd (row : Row) : ((orgs row).map (·.1)).Nodup := ofold_nd row [] (by simp)
theorem ofold_lk (o : Org) : ∀ (row : Row) (d : List (Org × Int)), lk (row.foldl ostep d) o = if (∃ x ∈ row, x.1 = o) ∨ (lk d o).isSome = true then some ((lk d o).getD 0 + amt o row) else none
  | [], d => by
    simp only [List.foldl_nil]
    cases h : lk d o with
    | none => simp
    | some v => simp [amt]
  | p :: r, d => by
    rw [List.foldl_cons, ofold_lk o r]
    unfold ostep
    rw [lk_put, amt_cons]
    by_cases h : o = p.1
    · subst h
      rw [if_pos rfl, if_pos rfl]
      rw [if_pos (by exact Or.inr rfl), if_pos (by exact Or.inl ⟨p, by simp, rfl⟩)]
      simp; omega
    · rw [if_neg h, if_neg (show ¬ p.1 = o from fun z => h z.symm)]
      have e : ((∃ x ∈ p :: r, x.1 = o) ∨ (lk d o).isSome = true) ↔ ((∃ x ∈ r, x.1 = o) ∨ (lk d o).isSome = true) := by
        constructor
        · rintro (⟨x, hx, e⟩ | q)
          · rcases List.mem_cons.mp hx with rfl | hx
            · exact absurd e.symm h
            · exact .inl ⟨x, hx, e⟩
          · exact .inr q
        · rintro (⟨x, hx, e⟩ | q)
          · exact .inl ⟨x, by simp [hx], e⟩
          · exact .inr q
      by_cases q : (∃ x ∈ r, x.1 = o) ∨ (lk d o).isSome = true
      · rw [if_pos q, if_pos (e.mpr q)]; simp
      · rw [if_neg q, if_neg (fun z => q (e.mp z))]
theorem orgs_lk (o : Org) (row : Row) : lk (orgs row) o = if (∃ x ∈ row, x.1 = o) then some (amt o row) else none := by
  unfold orgs
  rw [ofold_lk]
  have e : ((∃ x ∈ row, x.1 = o) ∨ (lk [] o).isSome = true) ↔ (∃ x ∈ row, x.1 = o) := by simp [lk_nil]
  by_cases q : ∃ x ∈ row, x.1 = o
  · rw [if_pos q, if_pos (e.mpr q), lk_nil]; simp
  · rw [if_neg q, if_neg (fun z => q (e.mp z))]
theorem amt_nonneg {row : Row} (h : Pos row) (o : Org) : 0 ≤ amt o row := by
  induction row with
  | nil => simp [amt]
  | cons q t ih =>
    rw [amt_cons]
    have hq := h q (by simp)
    have := ih (fun x hx => h x (by simp [hx]))
    split <;> omega
theorem amt_pos {row : Row} (h : Pos row) (o : Org) : (∃ x ∈ row, x.1 = o) ↔ 0 < amt o row := by
  induction row with
  | nil => simp [amt]
  | cons p r ih =>
    have hr : Pos r := fun q hq => h q (by simp [hq])
    have ih := ih hr
    have hp := h p (by simp)
    rw [amt_cons]
    have h0 : 0 ≤ amt o r := amt_nonneg hr o
    by_cases e : p.1 = o
    · rw [if_pos e]
      exact ⟨fun _ => by omega, fun _ => ⟨p, by simp, e⟩⟩
    · rw [if_neg e]
      constructor
      · rintro ⟨x, hx, ex⟩
        rcases List.mem_cons.mp hx with rfl | hx
        · exact absurd ex e
        · have := ih.mp ⟨x, hx, ex⟩; omega
      · intro q
        obtain ⟨x, hx, ex⟩ := ih.mpr (by omega)
        exact ⟨x, by simp [hx], ex⟩
theorem lk_filter (f : Org → Bool) (o : Org) (d : List (Org × Int)) : lk (d.filter fun kv => f kv.1) o = if f o = true then lk d o else none := by
  induction d with
  | nil => simp [lk_nil]
  | cons p r ih =>
    rw [List.filter_cons]
    by_cases hp : f p.1 = true
    · rw [if_pos hp, lk_cons, lk_cons, ih]
      by_cases e : p.1 = o
      · rw [if_pos e, if_pos e, ← e, if_pos hp]
      · rw [if_neg e, if_neg e]
    · rw [if_neg hp, lk_cons, ih]
      by_cases e : p.1 = o
      · rw [← e, if_neg hp, if_neg hp]
      · rw [if_neg e]
/-- an origin of water that was there ahead of month T -/
def isOld (T : Nat) : Org → Bool
  | .held _ => true
  | .inn _ m => decide (m < T)
theorem flat_pos {rows : List Row} (h : ∀ r ∈ rows, Pos r) : Pos rows.flatten := fun x hx => by
  obtain ⟨l, hl, hx⟩ := List.mem_flatten.mp hx
  exact h l hl x hx
theorem tab2_ok {M : Nat} {n K : Nat} {f : Nat → Nat → Row} (h : ∀ i j, RowOk M (f i j)) : ∀ r ∈ (tab2 n K f).flatten, RowOk M r := fun r hr => by
  obtain ⟨l, hl, hr⟩ := List.mem_flatten.mp hr
  obtain ⟨i, _, rfl⟩ := List.mem_map.mp hl
  obtain ⟨j, _, rfl⟩ := List.mem_map.mp hr
  exact h i j
theorem tab_ok {M : Nat} {n : Nat} {f : Nat → Row} (h : ∀ i, RowOk M (f i)) : ∀ r ∈ tab n f, RowOk M r := fun r hr => by
  obtain ⟨i, _, rfl⟩ := List.mem_map.mp hr
  exact h i
theorem lost_ok {b : B} {S : St} {M K : Nat} (h : StOk M S) (j m : Nat) : RowOk M (lostAt b S K j m) := by
  unfold lostAt; split
  · exact h.letw j m
  · exact .nil M
theorem later_ok {b : B} {S : St} {M T K : Nat} (h : StOk M S) : ∀ r ∈ laterRows b S T K, RowOk M r := fun r hr => by
  unfold laterRows at hr
  rcases List.mem_append.mp hr with hr | hr
  · rcases List.mem_append.mp hr with hr | hr
    · rcases List.mem_append.mp hr with hr | hr
      · exact tab_ok (fun i => h.stored i _) r hr
      · exact tab2_ok (fun i j => h.given i _) r hr
    · exact tab2_ok (fun i j => h.spilled i _) r hr
  · exact tab2_ok (fun i j => lost_ok h i j) r hr
theorem ahead_ok {b : B} {S : St} {M T : Nat} (h : StOk M S) : ∀ r ∈ aheadRows b S T, RowOk M r := fun r hr => by
  unfold aheadRows at hr
  rcases List.mem_append.mp hr with hr | hr
  · exact tab_ok (fun i => h.stored i _) r hr
  · exact tab2_ok (fun i j => lost_ok h i j) r hr
/-- THE PLAIN LAW: the two tables agree -/
theorem law_tables {b : B} {p : P} (hb : BOk b) (hp : POk p) {T M : Nat} (h1 : 1 ≤ T) (hT : T ≤ M) (o : Org) :
    lk ((orgs (laterRows b (run b p M) T M).flatten).filter fun kv => isOld T kv.1) o = lk (orgs (aheadRows b (run b p T) T).flatten) o := by
  rw [lk_filter, orgs_lk, orgs_lk]
  have okM := run_ok b p M
  have okT := run_ok b p T
  have posL : Pos (laterRows b (run b p M) T M).flatten := flat_pos fun r hr => (later_ok okM r hr).pos
  have posA : Pos (aheadRows b (run b p T) T).flatten := flat_pos fun r hr => (ahead_ok okT r hr).pos
  by_cases ho : isOld T o = true
  · rw [if_pos ho]
    have hn : ∀ k m, T ≤ m → Org.inn k m ≠ o := by
      rintro k m hm rfl
      simp only [isOld, decide_eq_true_eq] at ho; omega
    have e := ahead_all hb hp o (M := M) h1 hn (M - T) (by omega)
    rw [show T + (M - T) = M by omega, ← amt_later, ← amt_ahead, ← aheadRows_cut b p h1 hT] at e
    have e2 : (∃ x ∈ (laterRows b (run b p M) T M).flatten, x.1 = o) ↔ (∃ x ∈ (aheadRows b (run b p T) T).flatten, x.1 = o) := by
      rw [amt_pos posL, amt_pos posA, e]
    rw [← e]
    by_cases q : ∃ x ∈ (laterRows b (run b p M) T M).flatten, x.1 = o
    · rw [if_pos q, if_pos (e2.mp q)]
    · rw [if_neg q, if_neg (fun z => q (e2.mpr z))]
  · rw [if_neg ho]
    rw [if_neg]
    rintro ⟨x, hx, ex⟩
    obtain ⟨l, hl, hx⟩ := List.mem_flatten.mp hx
    have q := (ahead_ok okT l hl).old x hx
    cases o with
    | held k => exact ho rfl
    | inn k m =>
      have := q k m ex
      exact ho (by simp [isOld, this])
end Hw

namespace Hw
/-! ### where water goes, where it comes from -/
def letTo (b : B) (k m : Nat) : Option (Nat × Nat) :=
  match b.next k with
  | none => none
  | some j => if b.months ≤ m + b.travel k then none else some (j, m + b.travel k)
def letFrom (b : B) (k m : Nat) : List (Nat × Nat) := (cells b.n b.months).filter fun c => decide (letTo b c.1 c.2 = some (k, m))
theorem letTo_eq {b : B} {j m' k m : Nat} : letTo b j m' = some (k, m) ↔ b.next j = some k ∧ m' + b.travel j = m ∧ m < b.months := by
  unfold letTo
  cases h : b.next j with
  | none => simp
  | some a =>
    dsimp only
    by_cases q : b.months ≤ m' + b.travel j
    · rw [if_pos q]; simp; intro _ e; omega
    · rw [if_neg q]
      simp only [Option.some.injEq, Prod.mk.injEq]
      constructor
      · rintro ⟨rfl, rfl⟩; exact ⟨rfl, rfl, by omega⟩
      · rintro ⟨rfl, rfl, _⟩; exact ⟨rfl, rfl⟩
theorem letTo_none {b : B} {j m : Nat} : letTo b j m = none ↔ Opn b j m b.months := by
  unfold letTo Opn
  cases h : b.next j with
  | none => simp
  | some a =>
    dsimp only
    by_cases q : b.months ≤ m + b.travel j
    · rw [if_pos q]; simp [q]
    · rw [if_neg q]; simp [q]
theorem sum_filter {α : Type} (p : α → Bool) (f : α → Int) : ∀ l : List α, ((l.filter p).map f).sum = (l.map fun x => if p x = true then f x else 0).sum
  | [] => rfl
  | a :: l => by
    rw [List.filter_cons, List.map_cons, List.sum_cons, ← sum_filter p f l]
    by_cases h : p a = true
    · rw [if_pos h, if_pos h]; simp
    · rw [if_neg h, if_neg h]; simp
theorem sum_cells (f : Nat → Nat → Int) (n : Nat) : ∀ M, ((cells n M).map fun c => f c.1 c.2).sum = sm M fun m => sm n fun k => f k m
  | 0 => rfl
  | M + 1 => by
    rw [cells_succ, List.map_append, List.sum_append, sum_cells f n M, List.map_map]
    have e : (List.map ((fun c : Nat × Nat => f c.1 c.2) ∘ fun k => (k, M)) (List.range n)).sum = sm n fun k => f k M := sm_list (fun k => f k M) n
    rw [e]; rfl
def inSum (b : B) (rel : Nat → Nat → Int) (k m : Nat) : Int := sm b.n fun j => if b.next j = some k ∧ b.travel j ≤ m then rel j (m - b.travel j) else 0
theorem sum_letFrom {b : B} {rel : Nat → Nat → Int} {k m : Nat} (hm : m < b.months) : ((letFrom b k m).map fun c => rel c.1 c.2).sum = inSum b rel k m := by
  unfold letFrom inSum
  rw [sum_filter]
  have e : ((cells b.n b.months).map fun c => if decide (letTo b c.1 c.2 = some (k, m)) = true then rel c.1 c.2 else 0) = (cells b.n b.months).map fun c => (fun j m' => if letTo b j m' = some (k, m) then rel j m' else 0) c.1 c.2 := by
    refine List.map_congr_left fun c _ => ?_
    simp only [decide_eq_true_eq]
  rw [e, sum_cells (fun j m' => if letTo b j m' = some (k, m) then rel j m' else 0), sm_swap]
  refine sm_congr fun j _ => ?_
  by_cases h : b.next j = some k ∧ b.travel j ≤ m
  · rw [if_pos h]
    have q := sm_pick (fun m' => rel j m') (m - b.travel j) b.months
    rw [if_pos (by omega)] at q
    rw [← q]
    refine sm_congr fun m' _ => ?_
    by_cases h2 : m - b.travel j = m'
    · rw [if_pos h2, if_pos (letTo_eq.mpr ⟨h.1, by omega, hm⟩)]
    · rw [if_neg h2, if_neg (fun z => h2 (by have := (letTo_eq.mp z).2.1; omega))]
  · rw [if_neg h]
    refine (sm_congr fun m' _ => if_neg fun z : letTo b j m' = some (k, m) => h ?_).trans (sm_zero b.months)
    obtain ⟨z1, z2, _⟩ := letTo_eq.mp z
    exact ⟨z1, by omega⟩
theorem mem_feeders {b : B} {k m : Nat} {c : Nat × Nat} : c ∈ feeders b k m ↔ c.1 < b.n ∧ b.next c.1 = some k ∧ b.travel c.1 ≤ m ∧ c.2 = m - b.travel c.1 := by
  obtain ⟨j, m'⟩ := c
  unfold feeders
  simp only [List.mem_map, List.mem_filter, List.mem_range, decide_eq_true_eq, Prod.mk.injEq]
  constructor
  · rintro ⟨a, ⟨h1, h2, h3⟩, rfl, rfl⟩; exact ⟨h1, h2, h3, rfl⟩
  · rintro ⟨h1, h2, h3, h4⟩; exact ⟨j, ⟨h1, h2, h3⟩, rfl, h4.symm⟩
theorem feeders_lt (b : B) (k m : Nat) : (feeders b k m).Pairwise fun a c => a.1 < c.1 := by
  unfold feeders
  rw [List.pairwise_map]
  exact (List.Pairwise.filter _ (range_lt b.n)).imp fun h => h
theorem perm_of_mem {α : Type} [DecidableEq α] {l m : List α} (hl : l.Nodup) (hm : m.Nodup) (h : ∀ a, a ∈ l ↔ a ∈ m) : l.Perm m := by
  rw [List.perm_iff_count]
  intro a
  rw [hl.count, hm.count]
  by_cases q : a ∈ l
  · rw [if_pos q, if_pos ((h a).mp q)]
  · rw [if_neg q, if_neg (fun z => q ((h a).mpr z))]
theorem feeders_perm {b : B} {k m : Nat} (hm : m < b.months) : (feeders b k m).Perm (letFrom b k m) := by
  refine perm_of_mem ((feeders_lt b k m).imp fun h z => by rw [z] at h; omega) ?_ fun c => ?_
  · unfold letFrom
    exact ((cells_bef b.n b.months).imp fun h => bef_ne h).filter _
  · rw [mem_feeders]
    unfold letFrom
    rw [List.mem_filter, mem_cells, decide_eq_true_eq, letTo_eq]
    constructor
    · rintro ⟨h1, h2, h3, h4⟩; exact ⟨⟨h1, by omega⟩, h2, by omega, hm⟩
    · rintro ⟨⟨h1, h2⟩, h3, h4, _⟩; exact ⟨h1, h3, by omega, by omega⟩

/-! ### right plans -/
def recv (b : B) (p : P) (k m : Nat) : Int := b.inflow k m + (if m = 0 then b.held k else 0) + (if 0 < m then p.sto k (m - 1) else 0) + inSum b p.rel k m
def used (b : B) (p : P) (k m : Nat) : Int := sm b.nr fun r => if b.rsite r = k then p.del r m else 0
structure RightP (b : B) (p : P) : Prop where
  del : ∀ r m, r < b.nr → m < b.months → p.del r m ≤ b.dem r m
  out : ∀ k m, k < b.n → m < b.months → b.next k = none → p.rel k m ≤ 0
  reach : ∀ k m x, k < b.n → m < b.months → b.reach k = some x → p.rel k m ≤ x
  room : ∀ k m, k < b.n → m < b.months → p.sto k m ≤ b.room k
  bal : ∀ k m, k < b.n → m < b.months → 0 ≤ recv b p k m - p.rel k m - p.sto k m - used b p k m
def cut (b : B) (T : Nat) : B := { b with months := T }
theorem RightP.cut {b : B} {p : P} (h : RightP b p) {T : Nat} (hT : T ≤ b.months) : RightP (Hw.cut b T) p :=
  ⟨fun r m h1 h2 => h.del r m h1 (Nat.lt_of_lt_of_le h2 hT), fun k m h1 h2 => h.out k m h1 (Nat.lt_of_lt_of_le h2 hT), fun k m x h1 h2 => h.reach k m x h1 (Nat.lt_of_lt_of_le h2 hT),
    fun k m h1 h2 => h.room k m h1 (Nat.lt_of_lt_of_le h2 hT), fun k m h1 h2 => h.bal k m h1 (Nat.lt_of_lt_of_le h2 hT)⟩
/-- the tracing does not look at how many months there are -/
theorem run_cut (b : B) (p : P) (T M : Nat) : run (cut b T) p M = run b p M := by
  have e : step (cut b T) p = step b p := rfl
  unfold run runL
  rw [e]; rfl
theorem bok_cut {b : B} (h : BOk b) (T : Nat) : BOk (cut b T) := ⟨h.n1, h.nextlt, h.held, h.inflow, h.rs⟩
end Hw

namespace Hw
/-! ### drawing a right plan, cell by cell -/
abbrev F3 := Nat → Nat → Nat → Int
def toPl (p : F3) : P := ⟨p 0, p 1, p 2⟩
theorem sm_ext {f : Nat → Int} {k : Nat} : ∀ d, (∀ j, k ≤ j → f j = 0) → sm (k + d) f = sm k f
  | 0, _ => rfl
  | d + 1, h => by
    show sm (k + d) f + f (k + d) = _
    rw [sm_ext d h, h (k + d) (by omega)]; omega
theorem sm_ge0 {f : Nat → Int} : ∀ n, (∀ i, i < n → 0 ≤ f i) → 0 ≤ sm n f
  | 0, _ => Int.le_refl 0
  | n + 1, h => by
    have h1 := sm_ge0 n fun i hi => h i (by omega)
    have h2 := h n (by omega)
    show 0 ≤ sm n f + f n
    omega
theorem sm_mono {f g : Nat → Int} : ∀ n, (∀ i, i < n → f i ≤ g i) → sm n f ≤ sm n g
  | 0, _ => Int.le_refl 0
  | n + 1, h => by
    have h1 := sm_mono n fun i hi => h i (by omega)
    have h2 := h n (by omega)
    show sm n f + f n ≤ sm n g + g n
    omega
/-- what the law's own reading of a cell finds -/
def recvK (b : B) (p : F3) (k m : Nat) : Int := b.inflow k m + (if m = 0 then b.held k else p 2 k (m - 1)) + sm k fun j => if b.next j = some k ∧ b.travel j ≤ m then p 1 j (m - b.travel j) else 0
theorem recvK_eq {b : B} (hb : BOk b) (p : F3) {k m : Nat} (hk : k < b.n) : recvK b p k m = recv b (toPl p) k m := by
  unfold recvK recv inSum
  have e : sm b.n (fun j => if b.next j = some k ∧ b.travel j ≤ m then (toPl p).rel j (m - b.travel j) else 0) = sm k fun j => if b.next j = some k ∧ b.travel j ≤ m then p 1 j (m - b.travel j) else 0 := by
    obtain ⟨d, hd⟩ : ∃ d, b.n = k + d := ⟨b.n - k, by omega⟩
    have q : ∀ j, k ≤ j → (if j < b.n ∧ b.next j = some k ∧ b.travel j ≤ m then p 1 j (m - b.travel j) else 0) = 0 := fun j hj => by
      rw [if_neg]
      rintro ⟨h0, h1, _⟩
      have := (hb.nextlt j k h0 h1).1
      omega
    have q2 := sm_ext d q
    rw [← hd] at q2
    rw [sm_congr (g := fun j => if j < b.n ∧ b.next j = some k ∧ b.travel j ≤ m then p 1 j (m - b.travel j) else 0) fun j hj => by simp [hj, toPl]]
    rw [q2]
    exact sm_congr fun j hj => by simp [show j < b.n by omega]
  rw [e]
  by_cases h : m = 0
  · subst h; simp
  · rw [if_neg h, if_neg h, if_pos (show 0 < m by omega)]
    show b.inflow k m + p 2 k (m - 1) + _ = b.inflow k m + 0 + p 2 k (m - 1) + _
    omega
structure PlOk (b : B) (p : F3) (i : Nat) : Prop where
  bd : ∀ a r m, 0 ≤ p a r m ∧ p a r m ≤ 12
  right : RightP b (toPl p)
  rel0 : ∀ k m, k < b.n → m < b.months → i ≤ m * b.n + k → p 1 k m = 0
  sto0 : ∀ k m, k < b.n → m < b.months → i ≤ m * b.n + k → p 2 k m = 0
  del0 : ∀ k m, k < b.n → m < b.months → i ≤ m * b.n + k → ∀ r, r < b.nr → b.rsite r = k → p 0 r m = 0
structure BOk2 (b : B) : Prop where
  ok : BOk b
  reach : ∀ k x, b.reach k = some x → 0 ≤ x
  room : ∀ k, 0 ≤ b.room k
  dem : ∀ r m, 0 ≤ b.dem r m
theorem used_ge0 {b : B} {p : F3} (h : ∀ a r m, 0 ≤ p a r m) (k m : Nat) : 0 ≤ used b (toPl p) k m := sm_ge0 _ fun i _ => by
  split
  · exact h 0 i m
  · omega
theorem PlOk.zero {b : B} (hb : BOk2 b) : PlOk b (fun _ _ _ => 0) 0 := by
  refine ⟨fun _ _ _ => ⟨Int.le_refl 0, by decide⟩, ⟨fun r m _ _ => hb.dem r m, fun k m _ _ _ => Int.le_refl 0, fun k m x _ _ e => hb.reach k x e, fun k m _ _ => hb.room k, fun k m _ _ => ?_⟩, fun _ _ _ _ _ => rfl, fun _ _ _ _ _ => rfl, fun _ _ _ _ _ _ _ _ => rfl⟩
  have e1 : used b (toPl fun _ _ _ => 0) k m = 0 := by
    refine (sm_congr fun i _ => ?_).trans (sm_zero b.nr)
    simp [toPl]
  have e2 : inSum b (fun _ _ => 0) k m = 0 := by
    refine (sm_congr fun i _ => ?_).trans (sm_zero b.n)
    simp
  have h1 := hb.ok.inflow k m
  have h2 := hb.ok.held k
  rw [e1]
  unfold recv
  show 0 ≤ b.inflow k m + (if m = 0 then b.held k else 0) + (if 0 < m then 0 else 0) + inSum b (fun _ _ => 0) k m - 0 - 0 - 0
  rw [e2]
  split <;> split <;> omega
/-- the cell's entries -/
def putCell (b : B) (p : F3) (k m : Nat) (x : Nat → Int) (y z : Int) : F3 := fun a r m' =>
  if a = 0 then (if r < b.nr ∧ b.rsite r = k ∧ m' = m then x r else p 0 r m') else if a = 1 then (if r = k ∧ m' = m then y else p 1 r m') else if a = 2 then (if r = k ∧ m' = m then z else p 2 r m') else p a r m'
structure CellOk (b : B) (p : F3) (k m : Nat) (x : Nat → Int) (y z : Int) : Prop where
  x0 : ∀ r, r < b.nr → b.rsite r = k → 0 ≤ x r ∧ x r ≤ 12 ∧ x r ≤ b.dem r m
  y0 : 0 ≤ y ∧ y ≤ 12
  z0 : 0 ≤ z ∧ z ≤ 12 ∧ z ≤ b.room k
  out : b.next k = none → y = 0
  reach : ∀ v, b.reach k = some v → y ≤ v
  bal : 0 ≤ recvK b p k m - sm b.nr (fun r => if b.rsite r = k then x r else 0) - y - z
theorem cell_apart {n k m k' m' : Nat} (hk : k < n) (hk' : k' < n) (h : ¬ (k' = k ∧ m' = m)) (hi : m * n + k ≤ m' * n + k') : m * n + k + 1 ≤ m' * n + k' := by
  rcases Nat.lt_or_ge (m * n + k) (m' * n + k') with h1 | h1
  · exact h1
  · exfalso
    have e : m * n + k = m' * n + k' := by omega
    have e1 : (m * n + k) % n = (m' * n + k') % n := by rw [e]
    rw [Nat.mul_add_mod_self_right, Nat.mul_add_mod_self_right, Nat.mod_eq_of_lt hk, Nat.mod_eq_of_lt hk'] at e1
    subst e1
    have e2 : m * n = m' * n := by omega
    have := Nat.eq_of_mul_eq_mul_right (by omega) e2
    exact h ⟨rfl, this.symm⟩
theorem PlOk.step {b : B} (hb : BOk2 b) {p : F3} {k m : Nat} {x : Nat → Int} {y z : Int} (hk : k < b.n) (hm : m < b.months) (h : PlOk b p (m * b.n + k)) (c : CellOk b p k m x y z) : PlOk b (putCell b p k m x y z) (m * b.n + k + 1) := by
  have f0 : ∀ r m', (putCell b p k m x y z) 0 r m' = if r < b.nr ∧ b.rsite r = k ∧ m' = m then x r else p 0 r m' := fun r m' => rfl
  have f1 : ∀ r m', (putCell b p k m x y z) 1 r m' = if r = k ∧ m' = m then y else p 1 r m' := fun r m' => rfl
  have f2 : ∀ r m', (putCell b p k m x y z) 2 r m' = if r = k ∧ m' = m then z else p 2 r m' := fun r m' => rfl
  have z1 := h.rel0 k m hk hm (Nat.le_refl _)
  have z2 := h.sto0 k m hk hm (Nat.le_refl _)
  have z0 := h.del0 k m hk hm (Nat.le_refl _)
  have bd : ∀ a r m', 0 ≤ putCell b p k m x y z a r m' ∧ putCell b p k m x y z a r m' ≤ 12 := fun a r m' => by
    unfold putCell
    split
    · split
      · rename_i q; exact ⟨(c.x0 r q.1 q.2.1).1, (c.x0 r q.1 q.2.1).2.1⟩
      · exact h.bd 0 r m'
    · split
      · split
        · exact c.y0
        · exact h.bd 1 r m'
      · split
        · split
          · exact ⟨c.z0.1, c.z0.2.1⟩
          · exact h.bd 2 r m'
        · exact h.bd a r m'
  have g1 : ∀ r m', p 1 r m' ≤ putCell b p k m x y z 1 r m' := fun r m' => by
    rw [f1]; split
    · rename_i q; rw [q.1, q.2, z1]; exact c.y0.1
    · exact Int.le_refl _
  have g2 : ∀ r m', p 2 r m' ≤ putCell b p k m x y z 2 r m' := fun r m' => by
    rw [f2]; split
    · rename_i q; rw [q.1, q.2, z2]; exact c.z0.1
    · exact Int.le_refl _
  have rec_ge : ∀ k' m', recv b (toPl p) k' m' ≤ recv b (toPl (putCell b p k m x y z)) k' m' := fun k' m' => by
    have e : inSum b (toPl p).rel k' m' ≤ inSum b (toPl (putCell b p k m x y z)).rel k' m' := sm_mono _ fun i _ => by
      split
      · exact g1 _ _
      · exact Int.le_refl _
    unfold recv
    have e2 := g2 k' (m' - 1)
    have e3 : (if 0 < m' then (toPl p).sto k' (m' - 1) else 0) ≤ (if 0 < m' then (toPl (putCell b p k m x y z)).sto k' (m' - 1) else 0) := by
      split
      · exact e2
      · exact Int.le_refl _
    omega
  refine ⟨bd, ⟨fun r m' hr hm' => ?_, fun k' m' hk' hm' hn => ?_, fun k' m' v hk' hm' hv => ?_, fun k' m' hk' hm' => ?_, fun k' m' hk' hm' => ?_⟩, fun k' m' hk' hm' hi => ?_, fun k' m' hk' hm' hi => ?_, fun k' m' hk' hm' hi r hr hs => ?_⟩
  · show putCell b p k m x y z 0 r m' ≤ _
    rw [f0]; split
    · rename_i q; rw [q.2.2]; exact (c.x0 r q.1 q.2.1).2.2
    · exact h.right.del r m' hr hm'
  · show putCell b p k m x y z 1 k' m' ≤ _
    rw [f1]; split
    · rename_i q; rw [q.1] at hn; rw [c.out hn]; exact Int.le_refl _
    · exact h.right.out k' m' hk' hm' hn
  · show putCell b p k m x y z 1 k' m' ≤ _
    rw [f1]; split
    · rename_i q; rw [q.1] at hv; exact c.reach v hv
    · exact h.right.reach k' m' v hk' hm' hv
  · show putCell b p k m x y z 2 k' m' ≤ _
    rw [f2]; split
    · rename_i q; rw [q.1]; exact c.z0.2.2
    · exact h.right.room k' m' hk' hm'
  · have e := rec_ge k' m'
    by_cases q : k' = k ∧ m' = m
    · obtain ⟨rfl, rfl⟩ := q
      have e1 : (toPl (putCell b p k' m' x y z)).rel k' m' = y := by show putCell b p k' m' x y z 1 k' m' = y; rw [f1, if_pos ⟨rfl, rfl⟩]
      have e2 : (toPl (putCell b p k' m' x y z)).sto k' m' = z := by show putCell b p k' m' x y z 2 k' m' = z; rw [f2, if_pos ⟨rfl, rfl⟩]
      have e3 : used b (toPl (putCell b p k' m' x y z)) k' m' = sm b.nr (fun r => if b.rsite r = k' then x r else 0) := by
        refine sm_congr fun r hr => ?_
        by_cases qs : b.rsite r = k'
        · rw [if_pos qs, if_pos qs]
          show putCell b p k' m' x y z 0 r m' = _
          rw [f0, if_pos ⟨hr, qs, rfl⟩]
        · rw [if_neg qs, if_neg qs]
      rw [e1, e2, e3]
      have := c.bal
      rw [recvK_eq hb.ok p hk'] at this
      omega
    · have e1 : (toPl (putCell b p k m x y z)).rel k' m' = (toPl p).rel k' m' := by show putCell b p k m x y z 1 k' m' = _; rw [f1, if_neg q]; rfl
      have e2 : (toPl (putCell b p k m x y z)).sto k' m' = (toPl p).sto k' m' := by show putCell b p k m x y z 2 k' m' = _; rw [f2, if_neg q]; rfl
      have e3 : used b (toPl (putCell b p k m x y z)) k' m' = used b (toPl p) k' m' := by
        refine sm_congr fun r hr => ?_
        by_cases qs : b.rsite r = k'
        · rw [if_pos qs, if_pos qs]
          show putCell b p k m x y z 0 r m' = _
          rw [f0, if_neg fun z => q ⟨qs.symm.trans z.2.1, z.2.2⟩]; rfl
        · rw [if_neg qs, if_neg qs]
      rw [e1, e2, e3]
      have := h.right.bal k' m' hk' hm'
      omega
  · rw [f1, if_neg]
    · exact h.rel0 k' m' hk' hm' (by omega)
    · rintro ⟨rfl, rfl⟩; omega
  · rw [f2, if_neg]
    · exact h.sto0 k' m' hk' hm' (by omega)
    · rintro ⟨rfl, rfl⟩; omega
  · rw [f0, if_neg]
    · exact h.del0 k' m' hk' hm' (by omega) r hr hs
    · rintro ⟨_, q1, rfl⟩
      rw [hs] at q1; subst q1; omega
theorem cells_get (n : Nat) : ∀ (M i : Nat), i < M * n → (cells n M)[i]? = some (i % n, i / n)
  | 0, i, h => by omega
  | M + 1, i, h => by
    have hl : (cells n M).length = M * n := by
      clear h
      induction M with
      | zero => simp [cells]
      | succ M ih => rw [cells_succ, List.length_append, ih]; simp [Nat.succ_mul]
    have hn : 0 < n := Nat.pos_of_ne_zero fun z => by subst z; simp at h
    rw [cells_succ]
    by_cases q : i < M * n
    · rw [List.getElem?_append_left (by omega)]
      exact cells_get n M i q
    · rw [List.getElem?_append_right (by omega), hl]
      have hs : (M + 1) * n = M * n + n := Nat.succ_mul M n
      have hi : i - M * n < n := by omega
      have e1 : i % n = i - M * n := by
        conv => lhs; rw [show i = M * n + (i - M * n) by omega]
        rw [Nat.mul_add_mod_self_right, Nat.mod_eq_of_lt hi]
      have e2 : i / n = M := by
        have hc : n * M = M * n := Nat.mul_comm n M
        obtain ⟨d, rfl⟩ : ∃ d, i = n * M + d := ⟨i - M * n, by omega⟩
        rw [Nat.mul_add_div hn, Nat.div_eq_of_lt (by omega)]; rfl
      rw [e1, e2]
      simp [hi]
end Hw

namespace Hw
/-! ### how long rows get -/
theorem jfold_len : ∀ (row acc : Row), (row.foldl jstep acc).length ≤ acc.length + row.length
  | [], acc => by simp
  | p :: r, acc => by
    have := jfold_len r (jstep acc p)
    rw [List.foldl_cons]
    have e : (jstep acc p).length ≤ acc.length + 1 := by
      unfold jstep
      split
      · split
        · split <;> simp
        · simp
      · omega
    simp only [List.length_cons]
    omega
theorem joined_len (row : Row) : (joined row).length ≤ row.length := by
  have := jfold_len row []
  simp at this
  exact this
theorem pfold_len : ∀ (row : Row) (s : Int × Row × Row), (row.foldl pstep s).2.1.length = s.2.1.length + row.length ∧ (row.foldl pstep s).2.2.length = s.2.2.length + row.length
  | [], s => by simp
  | p :: r, s => by
    obtain ⟨h1, h2⟩ := pfold_len r (pstep s p)
    rw [List.foldl_cons, h1, h2]
    simp [pstep]
    omega
theorem parted_len (row : Row) (a : Int) : (parted row a).1.length ≤ row.length ∧ (parted row a).2.length ≤ row.length := by
  obtain ⟨h1, h2⟩ := pfold_len row (a, [], [])
  simp at h1 h2
  refine ⟨Nat.le_trans (joined_len _) (Nat.le_of_eq h1), Nat.le_trans (joined_len _) (Nat.le_of_eq h2)⟩
def lb (k m : Nat) : Nat := (m + 2) ^ (k + 1)
def smN : Nat → (Nat → Nat) → Nat
  | 0, _ => 0
  | n + 1, f => smN n f + f n
theorem lb_step : ∀ k m, k < 3 → m < 4 → 1 + (if 0 < m then lb k (m - 1) else 1) + smN k (fun j => lb j m) ≤ lb k m := by
  intro k m hk hm
  match k, m, hk, hm with
  | 0, 0, _, _ | 0, 1, _, _ | 0, 2, _, _ | 0, 3, _, _ | 1, 0, _, _ | 1, 1, _, _ | 1, 2, _, _ | 1, 3, _, _ | 2, 0, _, _ | 2, 1, _, _ | 2, 2, _, _ | 2, 3, _, _ => decide
theorem lb_mono {k m m' : Nat} (h : m ≤ m') : lb k m ≤ lb k m' := Nat.pow_le_pow_left (by omega) _
theorem smN_filter (P : Nat → Bool) (f F : Nat → Nat) (hf : ∀ j, P j = true → f j ≤ F j) : ∀ k, (((List.range k).filter P).map f).sum ≤ smN k F
  | 0 => Nat.le_refl 0
  | k + 1 => by
    rw [List.range_succ, List.filter_append, List.map_append, List.sum_append]
    have ih := smN_filter P f F hf k
    show _ ≤ smN k F + F k
    have e : ((([k] : List Nat).filter P).map f).sum ≤ F k := by
      by_cases h : P k = true
      · rw [List.filter_cons, if_pos h]; simpa using hf k h
      · rw [List.filter_cons, if_neg h]; simp
    omega
theorem filter_below (P : Nat → Bool) {k n : Nat} (hk : k ≤ n) (h : ∀ j, j < n → P j = true → j < k) : (List.range n).filter P = (List.range k).filter P := by
  obtain ⟨d, rfl⟩ : ∃ d, n = k + d := ⟨n - k, by omega⟩
  clear hk
  induction d with
  | zero => rfl
  | succ d ih =>
    rw [show k + (d + 1) = (k + d) + 1 by omega, List.range_succ, List.filter_append, ih fun j hj => h j (by omega)]
    have e : ([k + d] : List Nat).filter P = [] := by
      rw [List.filter_cons, if_neg]
      · rfl
      · intro z
        have := h (k + d) (by omega) z
        omega
    rw [e, List.append_nil]
structure LenOk (b : B) (s : St) : Prop where
  letw : ∀ k m, (s.letw k m).length ≤ lb k m
  stored : ∀ k m, (s.stored k m).length ≤ lb k m
  spilled : ∀ k m, (s.spilled k m).length ≤ lb k m
  given : ∀ r m, (s.given r m).length ≤ lb (b.rsite r) m
theorem LenOk.st0 (b : B) : LenOk b st0 := ⟨fun _ _ => Nat.zero_le _, fun _ _ => Nat.zero_le _, fun _ _ => Nat.zero_le _, fun _ _ => Nat.zero_le _⟩
theorem rowIn_len {b : B} (hb : BOk b) {s : St} (h : LenOk b s) {k m : Nat} (hk : k < b.n) (hk3 : k < 3) (hm : m < 4) : (rowIn b s k m).length ≤ lb k m := by
  have e : (((feeders b k m).map fun f => s.letw f.1 f.2).flatten).length ≤ smN k fun j => lb j m := by
    rw [List.length_flatten, List.map_map]
    unfold feeders
    rw [List.map_map, filter_below _ (Nat.le_of_lt hk)]
    · refine smN_filter _ _ _ (fun j hj => ?_) k
      exact Nat.le_trans (h.letw j (m - b.travel j)) (lb_mono (by omega))
    · intro j hj hp
      simp only [decide_eq_true_eq] at hp
      exact (hb.nextlt j k hj hp.1).1
  have e2 := lb_step k m hk3 hm
  have e3 : (if 0 < m then s.stored k (m - 1) else [(Org.held k, b.held k)]).length ≤ if 0 < m then lb k (m - 1) else 1 := by
    split
    · exact h.stored k (m - 1)
    · simp
  unfold rowIn
  rw [List.length_append, List.length_append]
  simp only [List.length_cons, List.length_nil]
  omega
theorem gfold_len {b : B} {p : P} {k m : Nat} {s : (Nat → Nat → Row) × Row} (h1 : ∀ r m, (s.1 r m).length ≤ lb (b.rsite r) m) (h2 : s.2.length ≤ lb k m) : ∀ i, (∀ r m', ((gfold b p k m s i).1 r m').length ≤ lb (b.rsite r) m') ∧ (gfold b p k m s i).2.length ≤ lb k m
  | 0 => ⟨h1, h2⟩
  | i + 1 => by
    rw [gfold_succ]
    obtain ⟨q1, q2⟩ := gfold_len (p := p) h1 h2 i
    unfold gstep
    split
    · rename_i hs
      refine ⟨fun r m' => ?_, Nat.le_trans (parted_len _ _).2 q2⟩
      show List.length (upd2 (gfold b p k m s i).1 i m (parted (gfold b p k m s i).2 (p.del i m)).1 r m') ≤ _
      by_cases e : r = i ∧ m' = m
      · obtain ⟨rfl, rfl⟩ := e
        rw [upd2_same, hs]
        exact Nat.le_trans (parted_len _ _).1 q2
      · rw [upd2_ne _ _ e]; exact q1 r m'
    · exact ⟨q1, q2⟩
theorem LenOk.step {b : B} (hb : BOk b) {p : P} {s : St} (h : LenOk b s) {k m : Nat} (hk : k < b.n) (hk3 : k < 3) (hm : m < 4) : LenOk b (step b p s (k, m)) := by
  have hr : (rowAt b s k m).length ≤ lb k m := Nat.le_trans (joined_len _) (rowIn_len hb h hk hk3 hm)
  obtain ⟨q1, q2⟩ := gfold_len (b := b) (p := p) (k := k) (m := m) (s := (s.given, rowAt b s k m)) h.given hr b.nr
  have u : ∀ (f : Nat → Nat → Row) (v : Row), (∀ k m, (f k m).length ≤ lb k m) → v.length ≤ lb k m → ∀ k' m', (upd2 f k m v k' m').length ≤ lb k' m' := fun f v h1 h2 k' m' => by
    by_cases e : k' = k ∧ m' = m
    · obtain ⟨rfl, rfl⟩ := e
      rw [upd2_same]; exact h2
    · rw [upd2_ne _ _ e]; exact h1 k' m'
  have l2 := parted_len (gfold b p k m (s.given, rowAt b s k m) b.nr).2 (p.rel k m)
  have t2 := parted_len (parted (gfold b p k m (s.given, rowAt b s k m) b.nr).2 (p.rel k m)).2 (p.sto k m)
  exact ⟨u _ _ h.letw (Nat.le_trans l2.1 q2), u _ _ h.stored (Nat.le_trans t2.1 (Nat.le_trans l2.2 q2)), u _ _ h.spilled (Nat.le_trans t2.2 (Nat.le_trans l2.2 q2)), q1⟩
theorem lb_small {k m : Nat} (hk : k < 3) (hm : m < 4) : lb k m ≤ 125 := by
  match k, m, hk, hm with
  | 0, 0, _, _ | 0, 1, _, _ | 0, 2, _, _ | 0, 3, _, _ | 1, 0, _, _ | 1, 1, _, _ | 1, 2, _, _ | 1, 3, _, _ | 2, 0, _, _ | 2, 1, _, _ | 2, 2, _, _ | 2, 3, _, _ => decide

/-! ### tables that are being filled -/
abbrev Tab := Nat → Nat → Nat → Option Row
structure Agr (b : B) (F : Tab) (s : St) (i : Nat) : Prop where
  letw : ∀ k m, k < b.n → m * b.n + k < i → F 1 k m = some (s.letw k m)
  stored : ∀ k m, k < b.n → m * b.n + k < i → F 2 k m = some (s.stored k m)
  spilled : ∀ k m, k < b.n → m * b.n + k < i → F 3 k m = some (s.spilled k m)
  given : ∀ k m r, k < b.n → m * b.n + k < i → r < b.nr → b.rsite r = k → F 0 r m = some (s.given r m)
/-- a cell's entries -/
def trTab (b : B) (F : Tab) (s' : St) (k m : Nat) : Tab := fun i k' m' =>
  if i = 0 then (if k' < b.nr ∧ b.rsite k' = k ∧ m' = m then some (s'.given k' m') else F 0 k' m') else
  if i = 1 then (if k' = k ∧ m' = m then some (s'.letw k m) else F 1 k' m') else if i = 2 then (if k' = k ∧ m' = m then some (s'.stored k m) else F 2 k' m') else
  if i = 3 then (if k' = k ∧ m' = m then some (s'.spilled k m) else F 3 k' m') else F i k' m'
theorem Agr.step {b : B} {p : P} {F : Tab} {s : St} {k m : Nat} (hk : k < b.n) (h : Agr b F s (m * b.n + k)) : Agr b (trTab b F (step b p s (k, m)) k m) (step b p s (k, m)) (m * b.n + k + 1) := by
  have old : ∀ k' m', k' < b.n → m' * b.n + k' < m * b.n + k + 1 → ¬ (k' = k ∧ m' = m) → m' * b.n + k' < m * b.n + k := fun k' m' hk' hi hne => by
    rcases Nat.lt_or_ge (m' * b.n + k') (m * b.n + k) with z | z
    · exact z
    · have := cell_apart hk hk' hne z
      omega
  have ne : ∀ {k' m'}, ¬ (k' = k ∧ m' = m) → ((k, m) : Nat × Nat) ≠ (k', m') := fun h e => by cases e; exact h ⟨rfl, rfl⟩
  refine ⟨fun k' m' hk' hi => ?_, fun k' m' hk' hi => ?_, fun k' m' hk' hi => ?_, fun k' m' r hk' hi hr hs => ?_⟩
  · show (if k' = k ∧ m' = m then some _ else F 1 k' m') = _
    by_cases e : k' = k ∧ m' = m
    · obtain ⟨rfl, rfl⟩ := e; exact if_pos ⟨rfl, rfl⟩
    · rw [if_neg e, h.letw k' m' hk' (old k' m' hk' hi e)]
      show _ = some (upd2 _ k m _ k' m')
      rw [upd2_ne _ _ e]
  · show (if k' = k ∧ m' = m then some _ else F 2 k' m') = _
    by_cases e : k' = k ∧ m' = m
    · obtain ⟨rfl, rfl⟩ := e; exact if_pos ⟨rfl, rfl⟩
    · rw [if_neg e, h.stored k' m' hk' (old k' m' hk' hi e)]
      show _ = some (upd2 _ k m _ k' m')
      rw [upd2_ne _ _ e]
  · show (if k' = k ∧ m' = m then some _ else F 3 k' m') = _
    by_cases e : k' = k ∧ m' = m
    · obtain ⟨rfl, rfl⟩ := e; exact if_pos ⟨rfl, rfl⟩
    · rw [if_neg e, h.spilled k' m' hk' (old k' m' hk' hi e)]
      show _ = some (upd2 _ k m _ k' m')
      rw [upd2_ne _ _ e]
  · show (if r < b.nr ∧ b.rsite r = k ∧ m' = m then some _ else F 0 r m') = _
    by_cases e : k' = k ∧ m' = m
    · obtain ⟨rfl, rfl⟩ := e; exact if_pos ⟨hr, hs, rfl⟩
    · rw [if_neg fun z => e ⟨hs.symm.trans z.2.1, z.2.2⟩, h.given k' m' r hk' (old k' m' hk' hi e) hr hs]
      show _ = some ((gfold b p k m (s.given, rowAt b s k m) b.nr).1 r m')
      rw [gfold_keep b p k m _ b.nr (.inl fun z => e ⟨hs.symm.trans z.1, z.2⟩)]
/-- after i cells -/
def runI (b : B) (p : P) (M i : Nat) : St := runL b p st0 ((cells b.n M).take i)
theorem runI_succ {b : B} {p : P} {M k m : Nat} (hi : m * b.n + k < M * b.n) (hk : k < b.n) : runI b p M (m * b.n + k + 1) = step b p (runI b p M (m * b.n + k)) (k, m) := by
  have e := cells_get b.n M _ hi
  have e1 : (m * b.n + k) % b.n = k := by rw [Nat.mul_add_mod_self_right, Nat.mod_eq_of_lt hk]
  have e2 : (m * b.n + k) / b.n = m := by rw [Nat.mul_comm m, Nat.mul_add_div (by omega), Nat.div_eq_of_lt hk]; rfl
  rw [e1, e2] at e
  unfold runI runL
  rw [List.take_add_one, e, List.foldl_append]; rfl
theorem cells_len (n : Nat) : ∀ M, (cells n M).length = M * n
  | 0 => by simp [cells]
  | M + 1 => by rw [cells_succ, List.length_append, cells_len n M]; simp [Nat.succ_mul]
theorem runI_all (b : B) (p : P) (M : Nat) : runI b p M (M * b.n) = run b p M := by
  unfold runI run
  rw [← cells_len b.n M, List.take_length]
theorem runI_len {b : B} (hb : BOk b) (hn : b.n ≤ 3) (p : P) {M : Nat} (hM : M ≤ 4) : ∀ i, i ≤ M * b.n → LenOk b (runI b p M i)
  | 0, _ => by
    show LenOk b st0
    exact .st0 b
  | i + 1, h => by
    have n0 : 0 < b.n := hb.n1
    have hk : i % b.n < b.n := Nat.mod_lt _ n0
    have hm : i / b.n < M := Nat.div_lt_of_lt_mul (by rw [Nat.mul_comm]; omega)
    have ei : i = (i / b.n) * b.n + i % b.n := (Nat.div_add_mod' i b.n).symm
    have ih := runI_len hb hn p hM i (by omega)
    generalize i % b.n = k at *
    generalize i / b.n = m at *
    subst ei
    rw [runI_succ (by omega) hk]
    exact ih.step hb hk (by omega) (by omega)
end Hw

namespace Hw
/-! ### rows are small -/
def OrgS : Org → Prop
  | .held k => k < 3
  | .inn k m => k < 3 ∧ m < 4
structure RowS (c : Int) (row : Row) : Prop where
  pos : Pos row
  tot : total row ≤ c
  org : ∀ x ∈ row, OrgS x.1
theorem RowS.nil {c : Int} (h : 0 ≤ c) : RowS c [] := ⟨fun p hp => by simp at hp, h, fun p hp => by simp at hp⟩
theorem RowS.mono {c d : Int} {row : Row} (h : RowS c row) (k : c ≤ d) : RowS d row := ⟨h.pos, Int.le_trans h.tot k, h.org⟩
theorem RowS.part1 {c : Int} {row : Row} (h : RowS c row) {a : Int} (h0 : 0 ≤ a) (h1 : a ≤ 12) : RowS 12 (parted row a).1 :=
  ⟨parted_pos1 row a, Int.le_trans (parted_total1 h.pos.nn h0) h1, (parted_org a h.org).1⟩
theorem RowS.part2 {c : Int} {row : Row} (h : RowS c row) {a : Int} (h0 : 0 ≤ a) : RowS c (parted row a).2 :=
  ⟨parted_pos2 row a, Int.le_trans (parted_total2 h.pos.nn h0) h.tot, (parted_org a h.org).2⟩
structure StS (s : St) : Prop where
  given : ∀ k m, RowS 12 (s.given k m)
  letw : ∀ k m, RowS 12 (s.letw k m)
  stored : ∀ k m, RowS 12 (s.stored k m)
  spilled : ∀ k m, RowS 1000 (s.spilled k m)
theorem StS.st0 : StS st0 := ⟨fun _ _ => .nil (by decide), fun _ _ => .nil (by decide), fun _ _ => .nil (by decide), fun _ _ => .nil (by decide)⟩
structure BS (b : B) : Prop where
  ok : BOk b
  n3 : b.n ≤ 3
  held : ∀ k, b.held k ≤ 100
  inflow : ∀ k m, b.inflow k m ≤ 100
structure PS (p : P) : Prop where
  ok : POk p
  del : ∀ r m, p.del r m ≤ 12
  rel : ∀ r m, p.rel r m ≤ 12
  sto : ∀ r m, p.sto r m ≤ 12
theorem total_flat : ∀ L : List Row, (∀ r ∈ L, total r ≤ 12) → total L.flatten ≤ 12 * L.length
  | [], _ => by simp [total]
  | r :: L, h => by
    have ih := total_flat L fun r hr => h r (by simp [hr])
    have h0 := h r (by simp)
    rw [List.flatten_cons, total_append]
    simp only [List.length_cons]
    omega
theorem rowAt_S {b : B} (hb : BS b) {s : St} (h : StS s) {k m : Nat} (hk : k < b.n) (hm : m < 4) : RowS 1000 (rowAt b s k m) := by
  have n3 := hb.n3
  have lf : (feeders b k m).length ≤ 3 := by
    unfold feeders
    rw [List.length_map]
    exact Nat.le_trans (List.length_filter_le _ _) (by simp [n3])
  have f1 := total_flat ((feeders b k m).map fun f => s.letw f.1 f.2) fun r hr => by
    obtain ⟨f, _, rfl⟩ := List.mem_map.mp hr
    exact (h.letw f.1 f.2).tot
  rw [List.length_map] at f1
  have first : NN (if 0 < m then s.stored k (m - 1) else [(Org.held k, b.held k)]) ∧ total (if 0 < m then s.stored k (m - 1) else [(Org.held k, b.held k)]) ≤ 100 ∧ ∀ x ∈ (if 0 < m then s.stored k (m - 1) else [(Org.held k, b.held k)]), OrgS x.1 := by
    split
    · have q := h.stored k (m - 1)
      exact ⟨q.pos.nn, Int.le_trans q.tot (by decide), q.org⟩
    · refine ⟨fun p hp => ?_, by simpa [total] using hb.held k, fun x hx => ?_⟩
      · rw [List.mem_singleton.mp hp]; exact hb.ok.held k
      · rw [List.mem_singleton.mp hx]
        show k < 3
        omega
  have nn : NN (rowIn b s k m) := by
    intro p hp
    unfold rowIn at hp
    rcases List.mem_append.mp hp with hp | hp
    · rcases List.mem_append.mp hp with hp | hp
      · exact first.1 p hp
      · obtain ⟨r, hr, hp⟩ := List.mem_flatten.mp hp
        obtain ⟨f, _, rfl⟩ := List.mem_map.mp hr
        exact (h.letw f.1 f.2).pos.nn p hp
    · rw [List.mem_singleton.mp hp]; exact hb.ok.inflow k m
  refine ⟨joined_pos _, ?_, joined_org ?_⟩
  · show total (joined (rowIn b s k m)) ≤ 1000
    rw [joined_total nn]
    unfold rowIn
    rw [total_append, total_append]
    have e : total [(Org.inn k m, b.inflow k m)] = b.inflow k m := by simp [total]
    have i1 := hb.inflow k m
    have l2 : (12 : Int) * ((feeders b k m).length : Int) ≤ 36 := by omega
    have := first.2.1
    omega
  · intro x hx
    unfold rowIn at hx
    rcases List.mem_append.mp hx with hx | hx
    · rcases List.mem_append.mp hx with hx | hx
      · exact first.2.2 x hx
      · obtain ⟨r, hr, hx⟩ := List.mem_flatten.mp hx
        obtain ⟨f, _, rfl⟩ := List.mem_map.mp hr
        exact (h.letw f.1 f.2).org x hx
    · rw [List.mem_singleton.mp hx]
      exact ⟨by omega, hm⟩
theorem gfold_S {b : B} {p : P} (hp : PS p) {k m : Nat} {s : (Nat → Nat → Row) × Row} {c : Int} (h1 : ∀ r m, RowS 12 (s.1 r m)) (h2 : RowS c s.2) : ∀ i, (∀ r m', RowS 12 ((gfold b p k m s i).1 r m')) ∧ RowS c (gfold b p k m s i).2
  | 0 => ⟨h1, h2⟩
  | i + 1 => by
    rw [gfold_succ]
    obtain ⟨q1, q2⟩ := gfold_S (b := b) (k := k) (m := m) hp h1 h2 i
    unfold gstep
    split
    · refine ⟨fun r m' => ?_, q2.part2 (hp.ok.del i m)⟩
      by_cases e : r = i ∧ m' = m
      · obtain ⟨rfl, rfl⟩ := e
        show RowS 12 (upd2 _ r m' _ r m')
        rw [upd2_same]
        exact q2.part1 (hp.ok.del r m') (hp.del r m')
      · show RowS 12 (upd2 _ i m _ r m')
        rw [upd2_ne _ _ e]; exact q1 r m'
    · exact ⟨q1, q2⟩
theorem step_S {b : B} (hb : BS b) {p : P} (hp : PS p) {s : St} (h : StS s) {c : Nat × Nat} (hk : c.1 < b.n) (hm : c.2 < 4) : StS (step b p s c) := by
  obtain ⟨k, m⟩ := c
  obtain ⟨g1, g2⟩ := gfold_S (b := b) (k := k) (m := m) (s := (s.given, rowAt b s k m)) hp h.given (rowAt_S hb h hk hm) b.nr
  have u : ∀ {d : Int} (f : Nat → Nat → Row) (v : Row), (∀ k m, RowS d (f k m)) → RowS d v → ∀ k' m', RowS d (upd2 f k m v k' m') := fun f v h1 h2 k' m' => by
    by_cases e : k' = k ∧ m' = m
    · obtain ⟨rfl, rfl⟩ := e
      rw [upd2_same]; exact h2
    · rw [upd2_ne _ _ e]; exact h1 k' m'
  have l2 := g2.part2 (hp.ok.rel k m)
  exact ⟨g1, u _ _ h.letw (g2.part1 (hp.ok.rel k m) (hp.rel k m)), u _ _ h.stored (l2.part1 (hp.ok.sto k m) (hp.sto k m)), u _ _ h.spilled (l2.part2 (hp.ok.sto k m))⟩
theorem runL_S {b : B} (hb : BS b) {p : P} (hp : PS p) : ∀ (L : List (Nat × Nat)) (s : St), StS s → (∀ c ∈ L, c.1 < b.n ∧ c.2 < 4) → StS (runL b p s L)
  | [], _, h, _ => h
  | c :: L, s, h, hc => runL_S hb hp L _ (step_S hb hp h (hc c (by simp)).1 (hc c (by simp)).2) fun c' hc' => hc c' (by simp [hc'])
theorem run_S {b : B} (hb : BS b) {p : P} (hp : PS p) {M : Nat} (hM : M ≤ 4) : StS (run b p M) := runL_S hb hp _ _ .st0 fun c hc => by
  have := mem_cells.mp hc
  exact ⟨this.1, by omega⟩
theorem run_len {b : B} (hb : BOk b) (hn : b.n ≤ 3) (p : P) {M : Nat} (hM : M ≤ 4) : LenOk b (run b p M) := by
  rw [← runI_all]
  exact runI_len hb hn p hM _ (Nat.le_refl _)
end Hw

namespace Hw
theorem lk_key {T : List (Org × Int)} {o : Org} : (∃ v, lk T o = some v) ↔ o ∈ T.map (·.1) := by
  induction T with
  | nil => simp [lk]
  | cons p T ih =>
    rw [lk_cons, List.map_cons, List.mem_cons]
    by_cases h : p.1 = o
    · rw [if_pos h]; exact ⟨fun _ => .inl h.symm, fun _ => ⟨_, rfl⟩⟩
    · rw [if_neg h, ih]
      exact ⟨.inr, fun z => z.resolve_left fun q => h q.symm⟩
theorem same_len {T1 T2 : List (Org × Int)} (h1 : (T1.map (·.1)).Nodup) (h2 : (T2.map (·.1)).Nodup) (h : ∀ o, lk T1 o = lk T2 o) : T1.length = T2.length := by
  have p := perm_of_mem h1 h2 fun o => by rw [← lk_key, ← lk_key, h o]
  have := p.length_eq
  simpa using this
theorem filter_nd {T : List (Org × Int)} (f : Org × Int → Bool) (h : (T.map (·.1)).Nodup) : ((T.filter f).map (·.1)).Nodup := by
  refine List.Nodup.sublist ?_ h
  exact (List.filter_sublist (p := f) (l := T)).map _
theorem flat_len : ∀ (L : List Row), (∀ r ∈ L, r.length ≤ 125) → L.flatten.length ≤ 125 * L.length
  | [], _ => by simp
  | r :: L, h => by
    have ih := flat_len L fun r hr => h r (by simp [hr])
    have h0 := h r (by simp)
    rw [List.flatten_cons, List.length_append]
    simp only [List.length_cons]
    omega
theorem tab2_len (f : Nat → Nat → Row) (M : Nat) : ∀ n, ((tab2 n M f).flatten).length = n * M
  | 0 => by simp [tab2]
  | n + 1 => by
    have ih := tab2_len f M n
    unfold tab2 at ih ⊢
    rw [List.range_succ, List.map_append, List.flatten_append, List.length_append, ih]
    simp [tab, Nat.succ_mul]
theorem tab2_mem {f : Nat → Nat → Row} {n M : Nat} {P : Row → Prop} (h : ∀ i j, i < n → j < M → P (f i j)) : ∀ r ∈ (tab2 n M f).flatten, P r := fun r hr => by
  obtain ⟨l, hl, hr⟩ := List.mem_flatten.mp hr
  obtain ⟨i, hi, rfl⟩ := List.mem_map.mp hl
  obtain ⟨j, hj, rfl⟩ := List.mem_map.mp hr
  exact h i j (List.mem_range.mp hi) (List.mem_range.mp hj)
theorem tab_mem {f : Nat → Row} {n : Nat} {P : Row → Prop} (h : ∀ i, i < n → P (f i)) : ∀ r ∈ tab n f, P r := fun r hr => by
  obtain ⟨i, hi, rfl⟩ := List.mem_map.mp hr
  exact h i (List.mem_range.mp hi)
theorem lost_len {b : B} {s : St} (h : LenOk b s) {M k m : Nat} : (lostAt b s M k m).length ≤ lb k m := by
  unfold lostAt
  split
  · exact h.letw k m
  · exact Nat.zero_le _
theorem to125 {k m : Nat} {row : Row} (hk : k < 3) (hm : m < 4) (h : row.length ≤ lb k m) : row.length ≤ 125 := Nat.le_trans h (lb_small hk hm)
structure Rts (b : B) : Prop where
  r3 : b.nr ≤ 3
  rs : ∀ r, b.rsite r < 3
theorem later_small {b : B} (n3 : b.n ≤ 3) (hr : Rts b) {s : St} (h : LenOk b s) {T M : Nat} (hT : T ≤ M) (hM : M ≤ 4) (h1 : 1 ≤ M) : (laterRows b s T M).flatten.length ≤ 50000 := by
  have ok : ∀ r ∈ laterRows b s T M, r.length ≤ 125 := by
    intro r hr'
    unfold laterRows at hr'
    rcases List.mem_append.mp hr' with hr' | hr'
    · rcases List.mem_append.mp hr' with hr' | hr'
      · rcases List.mem_append.mp hr' with hr' | hr'
        · exact tab_mem (P := fun r => r.length ≤ 125) (fun i hi => to125 (show i < 3 by omega) (show M - 1 < 4 by omega) (h.stored i _)) r hr'
        · exact tab2_mem (P := fun r => r.length ≤ 125) (fun i j hi hj => to125 (hr.rs i) (show T + j < 4 by omega) (h.given i _)) r hr'
      · exact tab2_mem (P := fun r => r.length ≤ 125) (fun i j hi hj => to125 (show i < 3 by omega) (show T + j < 4 by omega) (h.spilled i _)) r hr'
    · exact tab2_mem (P := fun r => r.length ≤ 125) (fun i j hi hj => to125 (show i < 3 by omega) (show j < 4 by omega) (lost_len h)) r hr'
  have l : (laterRows b s T M).length ≤ 48 := by
    unfold laterRows
    rw [List.length_append, List.length_append, List.length_append, tab2_len, tab2_len, tab2_len]
    have e1 := Nat.mul_le_mul hr.r3 (show M - T ≤ 4 by omega)
    have e2 := Nat.mul_le_mul n3 (show M - T ≤ 4 by omega)
    have e3 := Nat.mul_le_mul n3 hM
    simp only [tab, List.length_map, List.length_range]
    omega
  have := flat_len _ ok
  omega
theorem ahead_small {b : B} (n3 : b.n ≤ 3) {s : St} (h : LenOk b s) {T : Nat} (hM : T ≤ 4) (h1 : 1 ≤ T) : (aheadRows b s T).flatten.length ≤ 50000 := by
  have ok : ∀ r ∈ aheadRows b s T, r.length ≤ 125 := by
    intro r hr'
    unfold aheadRows at hr'
    rcases List.mem_append.mp hr' with hr' | hr'
    · exact tab_mem (P := fun r => r.length ≤ 125) (fun i hi => to125 (show i < 3 by omega) (show T - 1 < 4 by omega) (h.stored i _)) r hr'
    · exact tab2_mem (P := fun r => r.length ≤ 125) (fun i j hi hj => to125 (show i < 3 by omega) (show j < 4 by omega) (lost_len h)) r hr'
  have l : (aheadRows b s T).length ≤ 15 := by
    unfold aheadRows
    rw [List.length_append, tab2_len]
    have e3 := Nat.mul_le_mul n3 hM
    simp only [tab, List.length_map, List.length_range]
    omega
  have := flat_len _ ok
  omega
end Hw
namespace Hw
theorem filter_nd' {T : List (Org × Int)} (f : Org × Int → Bool) (h : (T.map (·.1)).Nodup) : ((T.filter f).map (·.1)).Nodup := filter_nd f h
end Hw

/-! Readings over plain data: what an expression is worth, with no heap in sight. -/
namespace Dt
open PySem L2

/-- plain data; raw: a value as it is -/
inductive D where
  | non
  | bl (b : Bool)
  | int (i : Int)
  | str (x : Str)
  | list (ds : List D)
  | tup (ds : List D)
  | raw (v : V)

mutual
/-- v stands for the data d in the heap -/
def R (H : Hp) : V → D → Prop
  | v, .non => v = .non
  | v, .bl b => v = .bl b
  | v, .int i => v = .int i
  | v, .str x => v = .str x
  | v, .list ds => ∃ a xs, v = .ref a ∧ H a = some (.lst xs) ∧ RA H xs ds
  | v, .tup ds => ∃ a xs, v = .ref a ∧ H a = some (.tup xs) ∧ RA H xs ds
  | v, .raw u => v = u
def RA (H : Hp) : List V → List D → Prop
  | vs, [] => vs = []
  | vs, d :: ds => ∃ v r, vs = v :: r ∧ R H v d ∧ RA H r ds
end

def Sub (H H' : Hp) : Prop := ∀ a o, H a = some o → H' a = some o
theorem Sub.refl (H : Hp) : Sub H H := fun _ _ h => h
theorem Sub.trans {A B C : Hp} (h : Sub A B) (k : Sub B C) : Sub A C := fun a o e => k a o (h a o e)
theorem Sub.upd {H : Hp} {p : Addr} {o : HO} (h : H p = none) : Sub H (upd H p o) := fun a u e => by
  rw [upd_ne (ne_of_none e h)]; exact e
mutual
theorem R.mono {H H' : Hp} (s : Sub H H') : ∀ {d : D} {v : V}, R H v d → R H' v d
  | .non, _, h => h
  | .bl _, _, h => h
  | .int _, _, h => h
  | .str _, _, h => h
  | .list ds, _, h => by
    obtain ⟨a, xs, e, h1, h2⟩ := h
    exact ⟨a, xs, e, s a _ h1, RA.mono s h2⟩
  | .tup ds, _, h => by
    obtain ⟨a, xs, e, h1, h2⟩ := h
    exact ⟨a, xs, e, s a _ h1, RA.mono s h2⟩
  | .raw _, _, h => h
theorem RA.mono {H H' : Hp} (s : Sub H H') : ∀ {ds : List D} {vs : List V}, RA H vs ds → RA H' vs ds
  | [], _, h => h
  | d :: ds, _, h => by
    obtain ⟨v, r, e, h1, h2⟩ := h
    exact ⟨v, r, e, R.mono s h1, RA.mono s h2⟩
end
theorem RA.length {H : Hp} : ∀ {ds : List D} {vs : List V}, RA H vs ds → vs.length = ds.length
  | [], _, h => by cases h; rfl
  | d :: ds, _, h => by
    obtain ⟨v, r, rfl, _, h2⟩ := h
    simp [RA.length h2]
theorem RA.get {H : Hp} : ∀ {ds : List D} {vs : List V} {i : Nat} {d : D}, RA H vs ds → ds[i]? = some d → ∃ v, vs[i]? = some v ∧ R H v d
  | [], _, _, _, _, e => by simp at e
  | d :: ds, _, 0, _, h, e => by
    obtain ⟨v, r, rfl, h1, _⟩ := h
    simp at e; subst e
    exact ⟨v, rfl, h1⟩
  | d :: ds, _, i + 1, _, h, e => by
    obtain ⟨v, r, rfl, _, h2⟩ := h
    obtain ⟨w, e1, e2⟩ := RA.get (i := i) h2 (by simpa using e)
    exact ⟨w, by simpa using e1, e2⟩
theorem RA.getV {H : Hp} : ∀ {ds : List D} {vs : List V} {i : Nat} {v : V}, RA H vs ds → vs[i]? = some v → ∃ d, ds[i]? = some d ∧ R H v d
  | [], _, i, _, h, e => by cases h; simp at e
  | d :: ds, _, 0, _, h, e => by
    obtain ⟨v, r, rfl, h1, _⟩ := h
    simp at e; subst e
    exact ⟨d, rfl, h1⟩
  | d :: ds, _, i + 1, _, h, e => by
    obtain ⟨v, r, rfl, _, h2⟩ := h
    obtain ⟨w, e1, e2⟩ := RA.getV (i := i) h2 (by simpa using e)
    exact ⟨w, by simpa using e1, e2⟩
theorem RA.nil {H : Hp} : RA H [] [] := by unfold RA; rfl
theorem RA.cons {H : Hp} {v : V} {d : D} {vs : List V} {ds : List D} (h : R H v d) (t : RA H vs ds) : RA H (v :: vs) (d :: ds) := ⟨v, vs, rfl, h, t⟩
theorem RA.append {H : Hp} : ∀ {ds es : List D} {vs ws : List V}, RA H vs ds → RA H ws es → RA H (vs ++ ws) (ds ++ es)
  | [], _, _, _, h, k => by cases h; exact k
  | d :: ds, _, _, _, h, k => by
    obtain ⟨v, r, rfl, h1, h2⟩ := h
    exact .cons h1 (RA.append h2 k)
theorem RA.set {H : Hp} {v : V} {d : D} (hv : R H v d) : ∀ {ds : List D} {vs : List V} (i : Nat), RA H vs ds → RA H (vs.set i v) (ds.set i d)
  | [], _, _, h => by cases h; exact .nil
  | _ :: _, _, 0, h => by
    obtain ⟨w, r, rfl, _, h2⟩ := h
    exact .cons hv h2
  | _ :: _, _, i + 1, h => by
    obtain ⟨w, r, rfl, h1, h2⟩ := h
    exact .cons h1 (RA.set hv i h2)
theorem RA.take {H : Hp} : ∀ {ds : List D} {vs : List V} (i : Nat), RA H vs ds → RA H (vs.take i) (ds.take i)
  | _, _, 0, _ => .nil
  | [], _, _ + 1, h => by cases h; exact .nil
  | _ :: _, _, i + 1, h => by
    obtain ⟨w, r, rfl, h1, h2⟩ := h
    exact .cons h1 (RA.take i h2)
theorem RA.drop {H : Hp} : ∀ {ds : List D} {vs : List V} (i : Nat), RA H vs ds → RA H (vs.drop i) (ds.drop i)
  | _, _, 0, h => h
  | [], _, _ + 1, h => by cases h; exact .nil
  | _ :: _, _, i + 1, h => by
    obtain ⟨w, r, rfl, _, h2⟩ := h
    exact RA.drop i h2
theorem RA.ints {H : Hp} : ∀ {ns : List Int} {vs : List V}, RA H vs (ns.map D.int) → vs = ns.map V.int
  | [], _, h => h
  | n :: ns, _, h => by
    obtain ⟨v, r, rfl, h1, h2⟩ := h
    cases (show v = .int n from h1)
    rw [RA.ints h2]; rfl

/-- what may be changed, and what holds of it -/
structure Res where
  M : Addr → Prop
  J : Hp → Hp → Prop
  st : ∀ B H B2 H2, J B H → Sub B B2 → (∀ a o, M a → H a = some o → H2 a = some o) → J B2 H2
/-- nothing may be changed -/
def r0 : Res := ⟨fun _ => False, fun _ _ => True, fun _ _ _ _ _ _ _ => True.intro⟩

/-- from known B, heap H to known B2, heap H2 -/
structure Grow (M : Addr → Prop) (B H B2 H2 : Hp) : Prop where
  b : Sub B B2
  h : ∀ a o, H a = some o → ¬ M a → H2 a = some o
  t : ∀ a, H a ≠ none → H2 a ≠ none
  k : Sub B2 H2
  n : ∀ a, H a ≠ none → B2 a = B a
theorem Grow.refl {M : Addr → Prop} {B H : Hp} (s : Sub B H) : Grow M B H B H := ⟨.refl B, fun _ _ e _ => e, fun _ h => h, s, fun _ _ => rfl⟩
theorem Grow.trans {M : Addr → Prop} {B H B2 H2 B3 H3 : Hp} (a : Grow M B H B2 H2) (c : Grow M B2 H2 B3 H3) : Grow M B H B3 H3 :=
  ⟨a.b.trans c.b, fun x o e m => c.h x o (a.h x o e m) m, fun x h => c.t x (a.t x h), c.k, fun x h => (c.n x (a.t x h)).trans (a.n x h)⟩
theorem Grow.mono {M M' : Addr → Prop} {B H B2 H2 : Hp} (a : Grow M B H B2 H2) (m : ∀ x, M x → M' x) : Grow M' B H B2 H2 :=
  ⟨a.b, fun x o e n => a.h x o e fun z => n (m x z), a.t, a.k, a.n⟩
/-- what is not there yet may be changed besides -/
theorem Grow.less {M M' : Addr → Prop} {B H B2 H2 : Hp} (a : Grow M' B H B2 H2) (m : ∀ x, M' x → M x ∨ H x = none) : Grow M B H B2 H2 :=
  ⟨a.b, fun x o e n => a.h x o e fun z => (m x z).elim n fun y => (by rw [y] at e; cases e), a.t, a.k, a.n⟩
/-- a new object that stays -/
theorem Grow.new {M : Addr → Prop} {B H : Hp} (s : Sub B H) {p : Addr} {o : HO} (hp : H p = none) : Grow M B H (upd B p o) (upd H p o) := by
  have bp : B p = none := by
    cases e : B p with
    | none => rfl
    | some u => rw [s p u e] at hp; cases hp
  refine ⟨Sub.upd bp, fun a u e _ => Sub.upd hp a u e, fun a h => ?_, fun a u e => ?_, fun a h => ?_⟩
  · by_cases z : a = p
    · subst z; rw [upd_same]; simp
    · rw [upd_ne z]; exact h
  · by_cases z : a = p
    · subst z; rw [upd_same] at e ⊢; exact e
    · rw [upd_ne z] at e ⊢; exact s a u e
  · exact upd_ne fun z => h (z ▸ hp)
/-- a new object that may change yet -/
theorem Grow.fresh {M : Addr → Prop} {B H : Hp} (s : Sub B H) {p : Addr} {o : HO} (hp : H p = none) : Grow M B H B (upd H p o) := by
  refine ⟨.refl B, fun a u e _ => Sub.upd hp a u e, fun a h => ?_, s.trans (Sub.upd hp), fun _ _ => rfl⟩
  by_cases z : a = p
  · subst z; rw [upd_same]; simp
  · rw [upd_ne z]; exact h
theorem none_of {B H : Hp} (s : Sub B H) {p : Addr} (hp : H p = none) : B p = none := by
  cases e : B p with
  | none => rfl
  | some u => rw [s p u e] at hp; cases hp

/-! ### slots -/
inductive Sl where
  | no
  | dat (d : D)
  /-- a list of this frame's own, that may change -/
  | own (l : Addr) (ds : List D)
  /-- a dict of this frame's own -/
  | ownD (l : Addr) (kvs : List (List Key × V))
def Sl.addr : Sl → Option Addr
  | .own l _ => some l
  | .ownD l _ => some l
  | _ => none
def SlOk (M : Addr → Prop) (B H : Hp) (o : Option V) : Sl → Prop
  | .no => True
  | .dat d => ∃ v, o = some v ∧ R B v d
  | .own l ds => o = some (.ref l) ∧ B l = none ∧ ¬ M l ∧ ∃ xs, H l = some (.lst xs) ∧ RA B xs ds
  | .ownD l kvs => o = some (.ref l) ∧ B l = none ∧ ¬ M l ∧ H l = some (.dT kvs)
structure EnvOk (r : Res) (B H : Hp) (σ : L2.St) (sl : List Sl) : Prop where
  len : σ.length = sl.length
  at_ : ∀ (i : Nat) (s : Sl), sl[i]? = some s → ∃ o, σ[i]? = some o ∧ SlOk r.M B H o s
  nd : ∀ (i j : Nat) (s u : Sl) (l : Addr), sl[i]? = some s → sl[j]? = some u → s.addr = some l → u.addr = some l → i = j
  sub : Sub B H
  mb : ∀ a, r.M a → B a = none
  mt : ∀ a, r.M a → H a ≠ none
  J : r.J B H
theorem SlOk.grow {M : Addr → Prop} {B H B2 H2 : Hp} (g : Grow M B H B2 H2) {o : Option V} : ∀ {s : Sl}, SlOk M B H o s → SlOk M B2 H2 o s
  | .no, _ => trivial
  | .dat d, ⟨v, e, h⟩ => ⟨v, e, h.mono g.b⟩
  | .own l ds, ⟨e, h1, h2, xs, h3, h4⟩ => ⟨e, (g.n l (by rw [h3]; simp)).trans h1, h2, xs, g.h l _ h3 h2, h4.mono g.b⟩
  | .ownD l kvs, ⟨e, h1, h2, h3⟩ => ⟨e, (g.n l (by rw [h3]; simp)).trans h1, h2, g.h l _ h3 h2⟩
theorem EnvOk.grow {r : Res} {B H B2 H2 : Hp} {σ : L2.St} {sl : List Sl} (e : EnvOk r B H σ sl) (g : Grow r.M B H B2 H2) (j : r.J B2 H2) : EnvOk r B2 H2 σ sl :=
  ⟨e.len, fun i s h => let ⟨o, h1, h2⟩ := e.at_ i s h; ⟨o, h1, h2.grow g⟩, e.nd, g.k, fun a m => (g.n a (e.mt a m)).trans (e.mb a m), fun a m => g.t a (e.mt a m), j⟩
theorem EnvOk.set {r : Res} {B H : Hp} {σ : L2.St} {sl : List Sl} (e : EnvOk r B H σ sl) (i : Nat) {o : Option V} {s : Sl} (h : SlOk r.M B H o s) (hs : ∀ l, s.addr = some l → ∀ (j : Nat) (u : Sl), sl[j]? = some u → u.addr = some l → j = i) : EnvOk r B H (σ.set i o) (sl.set i s) := by
  refine ⟨by simp [e.len], fun j u hu => ?_, fun j k s1 s2 l h1 h2 a1 a2 => ?_, e.sub, e.mb, e.mt, e.J⟩
  · by_cases hj : i = j
    · subst hj
      have hl : i < sl.length := by
        have := (List.getElem?_eq_some_iff.mp hu).1
        simpa using this
      rw [List.getElem?_set_self hl] at hu
      cases hu
      exact ⟨o, List.getElem?_set_self (by rw [e.len]; exact hl), h⟩
    · rw [List.getElem?_set_ne hj] at hu ⊢
      exact e.at_ j u hu
  · by_cases hj : i = j
    · by_cases hk : i = k
      · exact hj.symm.trans hk
      · subst hj
        have hl : i < sl.length := by
          have := (List.getElem?_eq_some_iff.mp h1).1
          simpa using this
        rw [List.getElem?_set_self hl] at h1
        cases h1
        rw [List.getElem?_set_ne hk] at h2
        exact (hs l a1 k s2 h2 a2).symm
    · rw [List.getElem?_set_ne hj] at h1
      by_cases hk : i = k
      · subst hk
        have hl : i < sl.length := by
          have := (List.getElem?_eq_some_iff.mp h2).1
          simpa using this
        rw [List.getElem?_set_self hl] at h2
        cases h2
        exact hs l a2 j s1 h1 a1
      · rw [List.getElem?_set_ne hk] at h2
        exact e.nd j k s1 s2 l h1 h2 a1 a2
theorem EnvOk.setD {r : Res} {B H : Hp} {σ : L2.St} {sl : List Sl} (e : EnvOk r B H σ sl) (i : Nat) {v : V} {d : D} (h : R B v d) : EnvOk r B H (σ.set i (some v)) (sl.set i (.dat d)) :=
  e.set i (s := .dat d) ⟨v, rfl, h⟩ fun l z => by cases z
theorem EnvOk.setNo {r : Res} {B H : Hp} {σ : L2.St} {sl : List Sl} (e : EnvOk r B H σ sl) (i : Nat) (o : Option V) : EnvOk r B H (σ.set i o) (sl.set i .no) :=
  e.set i (s := .no) trivial fun l z => by cases z

/-! ### expressions -/
/-- te gives a value that stands for a d with P d -/
def EvP (r : Res) (te : TE) (sl : List Sl) (P : D → Prop) : Prop :=
  ∀ B H σ, EnvOk r B H σ sl → ∀ Q : VK, (∀ v B2 H2 d, Grow r.M B H B2 H2 → r.J B2 H2 → R B2 v d → P d → Q v H2) → te σ H Q
def EvA (r : Res) (ta : TA) (sl : List Sl) (P : List D → Prop) : Prop :=
  ∀ B H σ, EnvOk r B H σ sl → ∀ Q : List V → Hp → Prop, (∀ vs B2 H2 ds, Grow r.M B H B2 H2 → r.J B2 H2 → RA B2 vs ds → P ds → Q vs H2) → ta σ H Q
def EvT (r : Res) (tt : TT) (sl : List Sl) (P : Bool → Prop) : Prop :=
  ∀ B H σ, EnvOk r B H σ sl → ∀ Q : Bool → Hp → Prop, (∀ b B2 H2, Grow r.M B H B2 H2 → r.J B2 H2 → P b → Q b H2) → tt σ H Q
/-- an operation on two values -/
def OpD (r : Res) (f : R2) (x y : D) (P : D → Prop) : Prop :=
  ∀ B H v w, Sub B H → r.J B H → R B v x → R B w y → ∀ Q : VK, (∀ u B2 H2 d, Grow r.M B H B2 H2 → r.J B2 H2 → R B2 u d → P d → Q u H2) → f v w H Q
/-- a call on values -/
def CaD (r : Res) (f : List V → Hp → VK → Prop) (xs : List D) (P : D → Prop) : Prop :=
  ∀ B H vs, Sub B H → r.J B H → RA B vs xs → ∀ Q : VK, (∀ u B2 H2 d, Grow r.M B H B2 H2 → r.J B2 H2 → R B2 u d → P d → Q u H2) → f vs H Q

section
variable {r : Res} {sl : List Sl} {P : D → Prop} {ta tb te : TE} {f : R2} {K : PySem.W.Frag}
theorem EvP.mono {P' : D → Prop} (h : EvP r te sl P) (k : ∀ d, P d → P' d) : EvP r te sl P' := fun B H σ e Q q => h B H σ e Q fun v B2 H2 d g j rr p => q v B2 H2 d g j rr (k d p)
theorem ev_var {i : Nat} (d : D) (h : sl[i]? = some (.dat d)) (p : P d) : EvP r (tVar i) sl P := fun B H σ e Q q => by
  obtain ⟨o, e1, v, rfl, rv⟩ := e.at_ i _ h
  exact ⟨v, e1, q v B H d (.refl e.sub) e.J rv p⟩
theorem ev_c {v : V} {d : D} (p : P d) (hv : ∀ B, R B v d) : EvP r (tC v) sl P := fun B H σ e Q q => q v B H d (.refl e.sub) e.J (hv B) p
theorem ev_int {i : Int} (p : P (.int i)) : EvP r (tC (.int i)) sl P := ev_c p fun _ => rfl
theorem ev_str {i : Str} (p : P (.str i)) : EvP r (tC (.str i)) sl P := ev_c p fun _ => rfl
theorem ev_non (p : P .non) : EvP r (tC .non) sl P := ev_c p fun _ => rfl
theorem ev_bl {b : Bool} (p : P (.bl b)) : EvP r (tC (.bl b)) sl P := ev_c p fun _ => rfl
theorem ev_op (h : EvP r ta sl fun x => EvP r tb sl fun y => OpD r f x y P) : EvP r (tOp f ta tb) sl P := fun B H σ e Q q =>
  h B H σ e _ fun v B2 H2 d g j rv p => p B2 H2 σ (e.grow g j) _ fun w B3 H3 d' g' j' rw' p' => p' B3 H3 v w g'.k j' (rv.mono g'.b) rw' Q fun u B4 H4 d4 g4 j4 r4 p4 => q u B4 H4 d4 ((g.trans g').trans g4) j4 r4 p4
theorem ea_nil {P : List D → Prop} (p : P []) : EvA r tNil sl P := fun B H σ e Q q => q [] B H [] (.refl e.sub) e.J .nil p
theorem ea_cons {t : TA} {P : List D → Prop} (h : EvP r te sl fun d => EvA r t sl fun ds => P (d :: ds)) : EvA r (tCons te t) sl P := fun B H σ e Q q =>
  h B H σ e _ fun v B2 H2 d g j rv p => p B2 H2 σ (e.grow g j) _ fun vs B3 H3 ds g' j' rvs p' => q (v :: vs) B3 H3 (d :: ds) (g.trans g') j' (.cons (rv.mono g'.b) rvs) p'
theorem ev_tup {t : TA} (h : EvA r t sl fun ds => ds.length ≤ 100000 ∧ P (.tup ds)) : EvP r (tTup t) sl P := fun B H σ e Q q =>
  h B H σ e _ fun vs B2 H2 ds g j rv p => ⟨by rw [rv.length]; exact Nat.le_trans p.1 (by decide), fun a ha => by
    have g' := Grow.new (M := r.M) g.k (o := .tup vs) ha
    exact q (.ref a) _ _ (.tup ds) (g.trans g') (r.st _ _ _ _ j g'.b fun x o m e' => Sub.upd ha x o e') ⟨a, vs, rfl, upd_same, rv.mono g'.b⟩ p.2⟩
theorem ev_lst {t : TA} (h : EvA r t sl fun ds => ds.length ≤ 100000 ∧ P (.list ds)) : EvP r (tLst t) sl P := fun B H σ e Q q =>
  h B H σ e _ fun vs B2 H2 ds g j rv p => ⟨by rw [rv.length]; exact Nat.le_trans p.1 (by decide), fun a ha => by
    have g' := Grow.new (M := r.M) g.k (o := .lst vs) ha
    exact q (.ref a) _ _ (.list ds) (g.trans g') (r.st _ _ _ _ j g'.b fun x o m e' => Sub.upd ha x o e') ⟨a, vs, rfl, upd_same, rv.mono g'.b⟩ p.2⟩
theorem ev_if {t : TT} (h : EvT r t sl fun b => if b = true then EvP r ta sl P else EvP r tb sl P) : EvP r (tIf t ta tb) sl P := fun B H σ e Q q =>
  h B H σ e _ fun b B2 H2 g j p => by
    cases b with
    | true => exact p B2 H2 σ (e.grow g j) Q fun v B3 H3 d g' j' rv p' => q v B3 H3 d (g.trans g') j' rv p'
    | false => exact p B2 H2 σ (e.grow g j) Q fun v B3 H3 d g' j' rv p' => q v B3 H3 d (g.trans g') j' rv p'
theorem ev_cb {t : TA} {g : List V → Hp → VK → Prop} (h : EvA r t sl fun ds => CaD r g ds P) : EvP r (tCB g t) sl P := fun B H σ e Q q =>
  h B H σ e _ fun vs B2 H2 ds g1 j rv p => p B2 H2 vs g1.k j rv Q fun u B3 H3 d g2 j2 ru pu => q u B3 H3 d (g1.trans g2) j2 ru pu
/-! ### tests -/
theorem et_test {P : Bool → Prop} (h : EvP r te sl fun d => ∃ b, d = .bl b ∧ P b) : EvT r (tTest te) sl P := fun B H σ e Q q =>
  h B H σ e _ fun v B2 H2 d g j rv ⟨b, hd, p⟩ => by
    subst hd
    exact ⟨b, rv, q b B2 H2 g j p⟩
theorem et_B {P : Bool → Prop} (h : EvP r te sl fun d => ∃ b, d = .bl b ∧ P b) : EvT r (tB te) sl P := fun B H σ e Q q =>
  h B H σ e _ fun v B2 H2 d g j rv ⟨b, hd, p⟩ => by
    subst hd
    exact ⟨b, rv, q b B2 H2 g j p⟩
theorem et_and {P : Bool → Prop} {t u : TT} (h : EvT r t sl fun b => if b = true then EvT r u sl P else P false) : EvT r (tAnd t u) sl P := fun B H σ e Q q =>
  h B H σ e _ fun b B2 H2 g j p => by
    cases b with
    | true => exact p B2 H2 σ (e.grow g j) Q fun c B3 H3 g' j' p' => q c B3 H3 (g.trans g') j' p'
    | false => exact q false B2 H2 g j p
theorem et_or {P : Bool → Prop} {t u : TT} (h : EvT r t sl fun b => if b = true then P true else EvT r u sl P) : EvT r (tOr t u) sl P := fun B H σ e Q q =>
  h B H σ e _ fun b B2 H2 g j p => by
    cases b with
    | true => exact q true B2 H2 g j p
    | false => exact p B2 H2 σ (e.grow g j) Q fun c B3 H3 g' j' p' => q c B3 H3 (g.trans g') j' p'
theorem et_not {P : Bool → Prop} {t : TT} (h : EvT r t sl fun b => P (!b)) : EvT r (tNot t) sl P := fun B H σ e Q q =>
  h B H σ e _ fun b B2 H2 g j p => q (!b) B2 H2 g j p
/-! ### operations -/
/-- nothing new -/
theorem od_val {x y : D} {d : D} (p : P d) (h : ∀ B H v w, Sub B H → r.J B H → R B v x → R B w y → ∃ u, R B u d ∧ ∀ Q : VK, Q u H → f v w H Q) : OpD r f x y P := fun B H v w s j rv rw' Q q => by
  obtain ⟨u, ru, k⟩ := h B H v w s j rv rw'
  exact k Q (q u B H d (.refl s) j ru p)
theorem od_I0 {g : Int → Int → V} {i j : Int} {d : D} (p : P d) (hd : ∀ B, R B (g i j) d) : OpD r (rI0 g) (.int i) (.int j) P := od_val p fun B H v w s _ rv rw' => by
  cases (show v = .int i from rv); cases (show w = .int j from rw')
  exact ⟨_, hd B, fun Q q => ⟨i, j, rfl, rfl, q⟩⟩
theorem od_I {C : Int → Int → Prop} {g : Int → Int → V} {i j : Int} {d : D} (c : C i j) (p : P d) (hd : ∀ B, R B (g i j) d) : OpD r (rI C g) (.int i) (.int j) P := od_val p fun B H v w s _ rv rw' => by
  cases (show v = .int i from rv); cases (show w = .int j from rw')
  exact ⟨_, hd B, fun Q q => ⟨i, j, rfl, rfl, c, q⟩⟩
theorem od_add {i j : Int} (p : P (.int (i + j))) : OpD r (rI0 fun i j => .int (i + j)) (.int i) (.int j) P := od_I0 p fun _ => rfl
theorem od_sub {i j : Int} (p : P (.int (i - j))) : OpD r (rI0 fun i j => .int (i - j)) (.int i) (.int j) P := od_I0 p fun _ => rfl
theorem od_lt {i j : Int} (p : P (.bl (decide (i < j)))) : OpD r (rI0 fun i j => .bl (decide (i < j))) (.int i) (.int j) P := od_I0 p fun _ => rfl
theorem od_le {i j : Int} (p : P (.bl (decide (i ≤ j)))) : OpD r (rI0 fun i j => .bl (decide (i ≤ j))) (.int i) (.int j) P := od_I0 p fun _ => rfl
theorem od_gt {i j : Int} (p : P (.bl (decide (j < i)))) : OpD r (rI0 fun i j => .bl (decide (j < i))) (.int i) (.int j) P := od_I0 p fun _ => rfl
theorem od_ge {i j : Int} (p : P (.bl (decide (j ≤ i)))) : OpD r (rI0 fun i j => .bl (decide (j ≤ i))) (.int i) (.int j) P := od_I0 p fun _ => rfl
theorem atI_get {α : Type} {xs : List α} {i : Int} {a : α} (h : atI xs i = some a) : ∃ j : Nat, ixN xs.length i = some j ∧ xs[j]? = some a := by
  unfold atI at h
  cases e : ixN xs.length i with
  | none => rw [e] at h; cases h
  | some j => rw [e] at h; exact ⟨j, rfl, h⟩
theorem atI_of {α β : Type} {xs : List α} {ys : List β} {i : Int} {a : α} (hl : xs.length = ys.length) (h : ∀ j : Nat, ys[j]? ≠ none → ∃ b, ys[j]? = some b ∧ xs[j]? = some a → True) : True := trivial
theorem RA.atI {H : Hp} {ds : List D} {vs : List V} {i : Int} {d : D} (h : RA H vs ds) (e : L2.atI ds i = some d) : ∃ v, L2.atI vs i = some v ∧ R H v d := by
  obtain ⟨j, e1, e2⟩ := atI_get e
  obtain ⟨v, e3, rv⟩ := h.get e2
  refine ⟨v, ?_, rv⟩
  unfold L2.atI
  rw [h.length, e1]
  exact e3
theorem od_ixT {ds : List D} {i : Int} (d : D) (h : atI ds i = some d) (p : P d) : OpD r (rIxT K) (.tup ds) (.int i) P := od_val p fun B H v w s _ rv rw' => by
  obtain ⟨a, xs, rfl, ha, hx⟩ := rv
  cases (show w = .int i from rw')
  obtain ⟨u, e, ru⟩ := hx.atI h
  exact ⟨u, ru, fun Q q => ⟨a, xs, i, u, rfl, rfl, SqT.of (s a _ ha), e, q⟩⟩
theorem od_ixL {ds : List D} {i : Int} (d : D) (h : atI ds i = some d) (p : P d) : OpD r (rIxL K) (.list ds) (.int i) P := od_val p fun B H v w s _ rv rw' => by
  obtain ⟨a, xs, rfl, ha, hx⟩ := rv
  cases (show w = .int i from rw')
  obtain ⟨u, e, ru⟩ := hx.atI h
  exact ⟨u, ru, fun Q q => ⟨a, xs, i, u, rfl, rfl, SqL.of (s a _ ha), e, q⟩⟩
theorem od_ix1 {ds : List D} {i : Int} (d : D) (h : atI ds i = some d) (p : P d) : OpD r (rIx K) (.tup ds) (.int i) P := od_val p fun B H v w s _ rv rw' => by
  obtain ⟨a, xs, rfl, ha, hx⟩ := rv
  cases (show w = .int i from rw')
  obtain ⟨u, e, ru⟩ := hx.atI h
  exact ⟨u, ru, fun Q q => Or.inr (Or.inl ⟨a, xs, i, u, rfl, rfl, SqT.of (s a _ ha), e, q⟩)⟩
theorem od_ix2 {ds : List D} {i : Int} (d : D) (h : atI ds i = some d) (p : P d) : OpD r (rIx K) (.list ds) (.int i) P := od_val p fun B H v w s _ rv rw' => by
  obtain ⟨a, xs, rfl, ha, hx⟩ := rv
  cases (show w = .int i from rw')
  obtain ⟨u, e, ru⟩ := hx.atI h
  exact ⟨u, ru, fun Q q => Or.inl ⟨a, xs, i, u, rfl, rfl, SqL.of (s a _ ha), e, q⟩⟩
theorem od_ix3 {z : Str} {i : Int} (c : Nat) (hz : z.length ≤ sizeLine) (h : atI z.cps.toList i = some c) (p : P (.str ⟨#[c]⟩)) : OpD r (rIx K) (.str z) (.int i) P := od_val p fun B H v w s _ rv rw' => by
  cases (show v = .str z from rv); cases (show w = .int i from rw')
  exact ⟨_, rfl, fun Q q => Or.inr (Or.inr ⟨z, i, c, rfl, rfl, hz, h, q⟩)⟩
/-- == of scalars -/
def scD : D → Option V
  | .non => some .non
  | .bl b => some (.bl b)
  | .int i => some (.int i)
  | .str x => some (.str x)
  | _ => none
theorem scD_rel {B : Hp} {v : V} : ∀ {d : D} {u : V}, scD d = some u → R B v d → v = u
  | .non, _, e, h => by cases e; exact h
  | .bl _, _, e, h => by cases e; exact h
  | .int _, _, e, h => by cases e; exact h
  | .str _, _, e, h => by cases e; exact h
theorem od_eq {x y : D} {u w : V} (hx : scD x = some u) (hy : scD y = some w) (hs : scal u w = true) (p : P (.bl (decide (u = w)))) : OpD r rEq x y P := od_val p fun B H v v' s _ rv rw' => by
  cases scD_rel hx rv; cases scD_rel hy rw'
  exact ⟨_, rfl, fun Q q => ⟨hs, q⟩⟩
theorem od_ne {x y : D} {u w : V} (hx : scD x = some u) (hy : scD y = some w) (hs : scal u w = true) (p : P (.bl (!decide (u = w)))) : OpD r rNe x y P := od_val p fun B H v v' s _ rv rw' => by
  cases scD_rel hx rv; cases scD_rel hy rw'
  exact ⟨_, rfl, fun Q q => ⟨hs, q⟩⟩
def isNon : D → Option Bool
  | .non => some true
  | .raw _ => none
  | _ => some false
theorem isNon_rel {B : Hp} {v : V} : ∀ {d : D} {b : Bool}, isNon d = some b → R B v d → decide (v = .non) = b
  | .non, _, e, h => by cases e; cases (show v = .non from h); rfl
  | .bl _, _, e, h => by cases e; cases (show v = _ from h); rfl
  | .int _, _, e, h => by cases e; cases (show v = _ from h); rfl
  | .str _, _, e, h => by cases e; cases (show v = _ from h); rfl
  | .list _, _, e, h => by cases e; obtain ⟨a, xs, rfl, _⟩ := h; rfl
  | .tup _, _, e, h => by cases e; obtain ⟨a, xs, rfl, _⟩ := h; rfl
theorem od_isN {x : D} {b : Bool} (h : isNon x = some b) (p : P (.bl b)) : OpD r rIsN x .non P := od_val p fun B H v w s _ rv rw' => by
  cases (show w = .non from rw')
  exact ⟨.bl b, rfl, fun Q q => ⟨rfl, by rw [isNon_rel h rv]; exact q⟩⟩
theorem od_notN {x : D} {b : Bool} (h : isNon x = some b) (p : P (.bl (!b))) : OpD r rNotN x .non P := od_val p fun B H v w s _ rv rw' => by
  cases (show w = .non from rw')
  exact ⟨.bl (!b), rfl, fun Q q => ⟨rfl, by rw [isNon_rel h rv]; exact q⟩⟩
end
end Dt

namespace Dt
open PySem L2

/-! ### statements -/
/-- where a body stands: B0, H0 the entry's -/
structure At (r : Res) (B0 H0 B H : Hp) (σ : L2.St) (sl : List Sl) : Prop where
  e : EnvOk r B H σ sl
  own : ∀ (i : Nat) (s : Sl) (l : Addr), sl[i]? = some s → s.addr = some l → H0 l = none
  g : Grow r.M B0 H0 B H
/-- what is wanted behind a statement -/
structure Post where
  nx : List Sl → Prop
  rt : Hp → Hp → Hp → V → Prop
  bk : List Sl → Prop
  ct : List Sl → Prop
/-- hands back data with P -/
def Ret (P : D → Prop) : Hp → Hp → Hp → V → Prop := fun _ B _ v => ∃ d, R B v d ∧ P d
structure Fin (r : Res) (B0 H0 : Hp) (N : Post) (D : Ends) : Prop where
  nx : ∀ B H σ sl, N.nx sl → At r B0 H0 B H σ sl → D.nx σ H
  rt : ∀ B H v, N.rt H0 B H v → r.J B H → Grow r.M B0 H0 B H → D.rt v H
  bk : ∀ B H σ sl, N.bk sl → At r B0 H0 B H σ sl → D.bk σ H
  ct : ∀ B H σ sl, N.ct sl → At r B0 H0 B H σ sl → D.ct σ H
def Sx (r : Res) (t : TS) (sl : List Sl) (N : Post) : Prop :=
  ∀ B0 H0 B H σ D, At r B0 H0 B H σ sl → Fin r B0 H0 N D → t D σ H
/-- a target takes the data d -/
def Gx (r : Res) (g : TG) (d : D) (sl : List Sl) (P : List Sl → Prop) : Prop :=
  ∀ B0 H0 B H σ v, At r B0 H0 B H σ sl → R B v d → ∀ Q : L2.St → Hp → Prop, (∀ B2 H2 σ2 sl2, P sl2 → At r B0 H0 B2 H2 σ2 sl2 → Sub B B2 → Q σ2 H2) → g v σ H Q
def Gxs (r : Res) (g : TGs) (ds : List D) (sl : List Sl) (P : List Sl → Prop) : Prop :=
  ∀ B0 H0 B H σ vs, At r B0 H0 B H σ sl → RA B vs ds → ∀ Q : L2.St → Hp → Prop, (∀ B2 H2 σ2 sl2, P sl2 → At r B0 H0 B2 H2 σ2 sl2 → Sub B B2 → Q σ2 H2) → g vs σ H Q

section
variable {r : Res} {sl : List Sl} {N : Post} {t u : TS} {te ta tb : TE} {g : TG} {K : PySem.W.Frag}
theorem At.grow {B0 H0 B H B2 H2 : Hp} {σ : L2.St} (a : At r B0 H0 B H σ sl) (g : Grow r.M B H B2 H2) (j : r.J B2 H2) : At r B0 H0 B2 H2 σ sl := ⟨a.e.grow g j, a.own, a.g.trans g⟩
theorem own_set {H0 : Hp} {sl : List Sl} {i : Nat} {u : Sl} (h : ∀ (i : Nat) (s : Sl) (l : Addr), sl[i]? = some s → s.addr = some l → H0 l = none) (hu : ∀ l, u.addr = some l → H0 l = none) :
    ∀ (j : Nat) (s : Sl) (l : Addr), (sl.set i u)[j]? = some s → s.addr = some l → H0 l = none := fun j s l hs ha => by
  by_cases hj : i = j
  · subst hj
    have hl : i < sl.length := by
      have := (List.getElem?_eq_some_iff.mp hs).1
      simpa using this
    rw [List.getElem?_set_self hl] at hs
    cases hs; exact hu l ha
  · rw [List.getElem?_set_ne hj] at hs
    exact h j s l hs ha
theorem At.setD {B0 H0 B H : Hp} {σ : L2.St} (a : At r B0 H0 B H σ sl) (i : Nat) {v : V} {d : D} (h : R B v d) : At r B0 H0 B H (σ.set i (some v)) (sl.set i (.dat d)) :=
  ⟨a.e.setD i h, own_set a.own fun l z => (by cases z), a.g⟩
/-- all that is known here is known -/
theorem At.fresh {B0 H0 B H : Hp} {σ : L2.St} (a : At r B0 H0 B H σ sl) {p : Addr} (hp : H p = none) : H0 p = none := by
  cases e : H0 p with
  | none => rfl
  | some o => exact absurd hp (a.g.t p (by rw [e]; simp))
theorem Post.mono {N N' : Post} {B0 H0 : Hp} {D : Ends} (f : Fin r B0 H0 N' D) (h1 : ∀ sl, N.nx sl → N'.nx sl) (h2 : ∀ a b c v, N.rt a b c v → N'.rt a b c v) (h3 : ∀ sl, N.bk sl → N'.bk sl) (h4 : ∀ sl, N.ct sl → N'.ct sl) : Fin r B0 H0 N D :=
  ⟨fun B H σ sl h a => f.nx B H σ sl (h1 sl h) a, fun B H v h j g => f.rt B H v (h2 _ _ _ v h) j g, fun B H σ sl h a => f.bk B H σ sl (h3 sl h) a, fun B H σ sl h a => f.ct B H σ sl (h4 sl h) a⟩
theorem sx_seq (h : Sx r t sl { N with nx := fun sl2 => Sx r u sl2 N }) : Sx r (tSeq t u) sl N := fun B0 H0 B H σ D a f =>
  h B0 H0 B H σ _ a ⟨fun B H σ sl2 hu a' => hu B0 H0 B H σ D a' f, f.rt, f.bk, f.ct⟩
theorem sx_next (h : N.nx sl) : Sx r tNext sl N := fun B0 H0 B H σ D a f => f.nx B H σ sl h a
theorem sx_ret (h : EvP r te sl fun d => ∀ H0 B H v, R B v d → N.rt H0 B H v) : Sx r (tRet te) sl N := fun B0 H0 B H σ D a f =>
  h B H σ a.e _ fun v B2 H2 d g j rv p => f.rt B2 H2 v (p H0 B2 H2 v rv) j (a.g.trans g)
theorem sx_retD {P : D → Prop} {nx bk ct : List Sl → Prop} (h : EvP r te sl P) : Sx r (tRet te) sl ⟨nx, Ret P, bk, ct⟩ := sx_ret (h.mono fun d p _ _ _ v rv => ⟨d, rv, p⟩)
theorem sx_asg (h : EvP r te sl fun d => Gx r g d sl N.nx) : Sx r (tAsg te g) sl N := fun B0 H0 B H σ D a f =>
  h B H σ a.e _ fun v B2 H2 d g j rv p => p B0 H0 B2 H2 σ v (a.grow g j) rv _ fun B3 H3 σ3 sl3 n a3 _ => f.nx B3 H3 σ3 sl3 n a3
theorem gx_name {i : Nat} {d : D} {P : List Sl → Prop} (h : P (sl.set i (.dat d))) : Gx r (gName i) d sl P := fun B0 H0 B H σ v a rv Q q => q B H _ _ h (a.setD i rv) (.refl B)
theorem sx_set {i : Nat} (h : EvP r te sl fun d => N.nx (sl.set i (.dat d))) : Sx r (tAsg te (gName i)) sl N := sx_asg (h.mono fun d p => gx_name p)
theorem gxs_nil {P : List Sl → Prop} (h : P sl) : Gxs r gNil [] sl P := fun B0 H0 B H σ vs a rv Q q => ⟨rv, q B H σ sl h a (.refl B)⟩
theorem gxs_cons {gs : TGs} {d : D} {ds : List D} {P : List Sl → Prop} (h : Gx r g d sl fun sl2 => Gxs r gs ds sl2 P) : Gxs r (gCons g gs) (d :: ds) sl P := fun B0 H0 B H σ vs a rv Q q => by
  obtain ⟨v, w, rfl, h1, h2⟩ := rv
  refine ⟨v, w, rfl, ?_⟩
  exact h B0 H0 B H σ v a h1 _ fun B2 H2 σ2 sl2 p a2 s2 => p B0 H0 B2 H2 σ2 w a2 (h2.mono s2) Q fun B3 H3 σ3 sl3 p3 a3 s3 => q B3 H3 σ3 sl3 p3 a3 (s2.trans s3)
theorem gx_tup {gs : TGs} {n : Nat} {ds : List D} {P : List Sl → Prop} (hn : ds.length = n) (h : Gxs r gs ds sl P) : Gx r (gTup K n gs) (.tup ds) sl P := fun B0 H0 B H σ v a rv Q q => by
  obtain ⟨p, xs, rfl, hp, hx⟩ := rv
  exact ⟨p, xs, rfl, SqT.of (a.e.sub p _ hp), by rw [hx.length, hn], h B0 H0 B H σ xs a hx Q q⟩
theorem sx_if {tt : TT} (h : EvT r tt sl fun b => if b = true then Sx r t sl N else Sx r u sl N) : Sx r (tIfS tt t u) sl N := fun B0 H0 B H σ D a f =>
  h B H σ a.e _ fun b B2 H2 g j p => by
    cases b with
    | true => exact p B0 H0 B2 H2 σ D (a.grow g j) f
    | false => exact p B0 H0 B2 H2 σ D (a.grow g j) f
theorem sx_aug {i : Nat} {f : Int → Int → Int} (x : Int) (hx : sl[i]? = some (.dat (.int x))) (h : EvP r te sl fun d => ∃ y, d = .int y ∧ N.nx (sl.set i (.dat (.int (f x y))))) : Sx r (tAug i te (ipI f)) sl N := fun B0 H0 B H σ D a fn => by
  obtain ⟨o, e1, v, rfl, rv⟩ := a.e.at_ i _ hx
  cases (show v = .int x from rv)
  exact ⟨_, e1, h B H σ a.e _ fun w B2 H2 d g j rw' ⟨y, hd, n⟩ => by
    subst hd
    cases (show w = .int y from rw')
    exact ⟨x, y, rfl, rfl, fn.nx B2 H2 _ _ n ((a.grow g j).setD i (show R B2 (.int (f x y)) (.int (f x y)) from rfl))⟩⟩
theorem sx_drop (h : EvP r te sl fun _ => N.nx sl) : Sx r (tDrop te) sl N := fun B0 H0 B H σ D a f =>
  h B H σ a.e _ fun v B2 H2 d g j rv p => f.nx B2 H2 σ sl p (a.grow g j)
/-- a word between a statement and the rest -/
theorem sx_cut {t u : TS} (M : List Sl → Prop) (h : Sx r t sl { N with nx := M }) (k : ∀ sl2, M sl2 → Sx r u sl2 N) : Sx r (tSeq t u) sl N := fun B0 H0 B H σ D a f =>
  h B0 H0 B H σ _ a ⟨fun B H σ sl2 hu a' => k sl2 hu B0 H0 B H σ D a' f, f.rt, f.bk, f.ct⟩

/-! ### lists of one's own -/
/-- x = [] -/
theorem sx_new {i : Nat} (h : ∀ l, N.nx (sl.set i (.own l []))) : Sx r (tAsg (tLst tNil) (gName i)) sl N := fun B0 H0 B H σ D a f => by
  refine ⟨by show 0 ≤ sizeLine; decide, fun l hl => ?_⟩
  have g := Grow.fresh (M := r.M) a.e.sub (o := .lst []) hl
  have j : r.J B (upd H l (.lst [])) := r.st _ _ _ _ a.e.J (.refl B) fun x o m e' => Sub.upd hl x o e'
  have a2 := a.grow g j
  refine f.nx B _ _ _ (h l) ⟨a2.e.set i (s := .own l []) ⟨rfl, none_of a.e.sub hl, fun m => a.e.mt l m hl, [], upd_same, .nil⟩ fun l' z k u hu hk => ?_, own_set a2.own fun l' z => (by cases z; exact a.fresh hl), a2.g⟩
  have z : l = l' := Option.some.inj z
  subst z
  obtain ⟨o, _, ok⟩ := a.e.at_ k u hu
  cases u with
  | no => cases hk
  | dat d => cases hk
  | own l2 ds => cases hk; obtain ⟨_, _, _, xs, h3, _⟩ := ok; rw [hl] at h3; cases h3
  | ownD l2 ds => cases hk; obtain ⟨_, _, _, h3⟩ := ok; rw [hl] at h3; cases h3
/-- the state behind a change of an own list -/
theorem At.setOwn {B0 H0 B H : Hp} {σ : L2.St} {i : Nat} {l : Addr} {ds es : List D} {ys : List V} (a : At r B0 H0 B H σ sl) (hi : sl[i]? = some (.own l ds)) (hy : RA B ys es) :
    At r B0 H0 B (upd H l (.lst ys)) σ (sl.set i (.own l es)) := by
  obtain ⟨o, e1, e2, hB, hM, xs, hH, hx⟩ := a.e.at_ i _ hi
  have hil : i < sl.length := (List.getElem?_eq_some_iff.mp hi).1
  have ne : ∀ x, B x ≠ none → x ≠ l := fun x hx z => by subst z; exact hx hB
  refine ⟨⟨by simp [a.e.len], fun j s hs => ?_, fun j k s u l' h1 h2 a1 a2 => ?_, fun x u e => ?_, a.e.mb, fun x m => ?_, ?_⟩, own_set a.own fun l' z => (by cases z; exact a.own i _ l hi rfl), ?_⟩
  · by_cases hj : i = j
    · subst hj
      rw [List.getElem?_set_self hil] at hs
      cases hs
      exact ⟨o, e1, e2, hB, hM, ys, upd_same, hy⟩
    · rw [List.getElem?_set_ne hj] at hs
      obtain ⟨o', f1, f2⟩ := a.e.at_ j s hs
      refine ⟨o', f1, ?_⟩
      cases s with
      | no => trivial
      | dat d => exact f2
      | own l2 ds2 =>
        obtain ⟨g1, g2, g3, zs, g4, g5⟩ := f2
        have : l2 ≠ l := fun z => hj (a.e.nd i j _ _ l hi hs rfl (by rw [z]; rfl))
        exact ⟨g1, g2, g3, zs, by rw [upd_ne this]; exact g4, g5⟩
      | ownD l2 ds2 =>
        obtain ⟨g1, g2, g3, g4⟩ := f2
        have : l2 ≠ l := fun z => hj (a.e.nd i j _ _ l hi hs rfl (by rw [z]; rfl))
        exact ⟨g1, g2, g3, by rw [upd_ne this]; exact g4⟩
  · have find : ∀ (k : Nat) (v : Sl), (sl.set i (.own l es))[k]? = some v → v.addr = some l' → ∃ v', sl[k]? = some v' ∧ v'.addr = some l' := fun k v hv av => by
      by_cases hk : i = k
      · subst hk
        rw [List.getElem?_set_self hil] at hv
        cases hv
        exact ⟨_, hi, av⟩
      · rw [List.getElem?_set_ne hk] at hv
        exact ⟨v, hv, av⟩
    obtain ⟨s', q1, q2⟩ := find j s h1 a1
    obtain ⟨u', q3, q4⟩ := find k u h2 a2
    exact a.e.nd j k s' u' l' q1 q3 q2 q4
  · rw [upd_ne (ne x (by rw [e]; simp))]; exact a.e.sub x u e
  · by_cases z : x = l
    · subst z; rw [upd_same]; simp
    · rw [upd_ne z]; exact a.e.mt x m
  · refine r.st _ _ _ _ a.e.J (.refl B) fun x u m e => ?_
    rw [upd_ne (show x ≠ l from fun z => hM (z ▸ m))]; exact e
  · have h0 := a.own i _ l hi rfl
    refine ⟨a.g.b, fun x u e m => ?_, fun x h => ?_, fun x u e => ?_, a.g.n⟩
    · rw [upd_ne (ne_of_none e h0)]; exact a.g.h x u e m
    · by_cases z : x = l
      · subst z; rw [upd_same]; simp
      · rw [upd_ne z]; exact a.g.t x h
    · rw [upd_ne (ne x (by rw [e]; simp))]; exact a.e.sub x u e
/-- xs.append(e) -/
theorem sx_append {i : Nat} {l : Addr} {ds : List D} (hi : sl[i]? = some (.own l ds)) (h : EvP r te sl fun d => ds.length < 100000 ∧ N.nx (sl.set i (.own l (ds ++ [d])))) :
    Sx r (tDrop (tBM K "list" rAppend (tVar i) (tCons te tNil))) sl N := fun B0 H0 B H σ D a f => by
  obtain ⟨o, e1, e2, hB, hM, xs, hH, hx⟩ := a.e.at_ i _ hi
  subst e2
  refine ⟨.ref l, e1, Or.inl ⟨rfl, _, SqL.of hH⟩, h B H σ a.e _ fun v B2 H2 d g j rv ⟨hlen, n⟩ => ?_⟩
  have a2 := a.grow g j
  obtain ⟨o2, f1, f2, fB, fM, zs, fH, fx⟩ := a2.e.at_ i _ hi
  refine ⟨l, zs, v, rfl, rfl, fH, by rw [fx.length]; exact Nat.lt_of_lt_of_le hlen (by decide), ?_⟩
  exact f.nx B2 _ σ _ n (a2.setOwn hi (fx.append (.cons rv .nil)))
/-- xs[k] = e -/
theorem gx_setOwn {i : Nat} {l : Addr} {ds : List D} {d : D} {P : List Sl → Prop} {ti : TE} (hi : sl[i]? = some (.own l ds)) (h : EvP r ti sl fun k => ∃ z j, k = .int z ∧ ixN ds.length z = some j ∧ P (sl.set i (.own l (ds.set j d)))) :
    Gx r (gSub (tVar i) ti rSetL) d sl P := fun B0 H0 B H σ v a rv Q q => by
  obtain ⟨o, e1, e2, hB, hM, xs, hH, hx⟩ := a.e.at_ i _ hi
  subst e2
  refine ⟨.ref l, e1, h B H σ a.e _ fun w B2 H2 k g j rw' ⟨z, jj, hk, hix, n⟩ => ?_⟩
  subst hk
  cases (show w = .int z from rw')
  have a2 := a.grow g j
  obtain ⟨o2, f1, f2, fB, fM, zs, fH, fx⟩ := a2.e.at_ i _ hi
  refine ⟨l, zs, z, jj, rfl, rfl, fH, by rw [fx.length]; exact hix, ?_⟩
  exact q B2 _ σ _ n (a2.setOwn hi (fx.set (rv.mono g.b) jj)) g.b
/-- xs[k], read -/
theorem ev_ixOwn {i : Nat} {l : Addr} {ds : List D} {P : D → Prop} (hi : sl[i]? = some (.own l ds)) (h : EvP r ta sl fun k => ∃ z d, k = .int z ∧ atI ds z = some d ∧ P d) : EvP r (tOp (rIx K) (tVar i) ta) sl P := fun B H σ e Q q => by
  obtain ⟨o, e1, e2, hB, hM, xs, hH, hx⟩ := e.at_ i _ hi
  subst e2
  refine ⟨.ref l, e1, h B H σ e _ fun w B2 H2 k g j rw' ⟨z, d, hk, hix, p⟩ => ?_⟩
  subst hk
  cases (show w = .int z from rw')
  obtain ⟨o2, f1, f2, fB, fM, zs, fH, fx⟩ := (e.grow g j).at_ i _ hi
  obtain ⟨v, e3, rv⟩ := fx.atI hix
  exact Or.inl ⟨l, zs, z, v, rfl, rfl, SqL.of fH, e3, q v B2 H2 d g j rv p⟩
/-- if xs: -/
theorem et_own {i : Nat} {l : Addr} {ds : List D} {P : Bool → Prop} (hi : sl[i]? = some (.own l ds)) (h : P (!ds.isEmpty)) : EvT r (fun σ H Q => tVar i σ H fun x H' => ∃ k, TruV K x H' k ∧ Q k H') sl P := fun B H σ e Q q => by
  obtain ⟨o, e1, e2, hB, hM, xs, hH, hx⟩ := e.at_ i _ hi
  subst e2
  refine ⟨.ref l, e1, !ds.isEmpty, Or.inl ⟨xs, SqL.of hH, ?_⟩, q _ B H (.refl e.sub) e.J h⟩
  have := hx.length
  cases xs with
  | nil => cases ds with
    | nil => rfl
    | cons d ds => simp at this
  | cons x xs => cases ds with
    | nil => simp at this
    | cons d ds => rfl
/-- from now on the list stays as it is -/
theorem At.freeze {B0 H0 B H : Hp} {σ : L2.St} {i : Nat} {l : Addr} {ds : List D} (a : At r B0 H0 B H σ sl) (hi : sl[i]? = some (.own l ds)) :
    ∃ B2, Sub B B2 ∧ At r B0 H0 B2 H σ (sl.set i (.dat (.list ds))) := by
  obtain ⟨o, e1, e2, hB, hM, xs, hH, hx⟩ := a.e.at_ i _ hi
  subst e2
  have hil : i < sl.length := (List.getElem?_eq_some_iff.mp hi).1
  have sB : Sub B (upd B l (.lst xs)) := Sub.upd hB
  have h0 := a.own i _ l hi rfl
  refine ⟨upd B l (.lst xs), sB, ⟨by simp [a.e.len], fun j s hs => ?_, fun j k s u l' h1 h2 a1 a2 => ?_, fun x u e => ?_, fun x m => ?_, a.e.mt, ?_⟩, own_set a.own fun l' z => (by cases z), ?_⟩
  · by_cases hj : i = j
    · subst hj
      rw [List.getElem?_set_self hil] at hs
      cases hs
      exact ⟨_, e1, .ref l, rfl, l, xs, rfl, upd_same, hx.mono sB⟩
    · rw [List.getElem?_set_ne hj] at hs
      obtain ⟨o', f1, f2⟩ := a.e.at_ j s hs
      refine ⟨o', f1, ?_⟩
      cases s with
      | no => trivial
      | dat d => obtain ⟨v, q1, q2⟩ := f2; exact ⟨v, q1, q2.mono sB⟩
      | own l2 ds2 =>
        obtain ⟨g1, g2, g3, zs, g4, g5⟩ := f2
        have : l2 ≠ l := fun z => hj (a.e.nd i j _ _ l hi hs rfl (by rw [z]; rfl))
        exact ⟨g1, by rw [upd_ne this]; exact g2, g3, zs, g4, g5.mono sB⟩
      | ownD l2 ds2 =>
        obtain ⟨g1, g2, g3, g4⟩ := f2
        have : l2 ≠ l := fun z => hj (a.e.nd i j _ _ l hi hs rfl (by rw [z]; rfl))
        exact ⟨g1, by rw [upd_ne this]; exact g2, g3, g4⟩
  · have find : ∀ (k : Nat) (v : Sl), (sl.set i (.dat (.list ds)))[k]? = some v → v.addr = some l' → sl[k]? = some v := fun k v hv av => by
      by_cases hk : i = k
      · subst hk
        rw [List.getElem?_set_self hil] at hv
        cases hv; cases av
      · rw [List.getElem?_set_ne hk] at hv
        exact hv
    exact a.e.nd j k s u l' (find j s h1 a1) (find k u h2 a2) a1 a2
  · by_cases z : x = l
    · subst z; rw [upd_same] at e; cases e; exact hH
    · rw [upd_ne z] at e; exact a.e.sub x u e
  · rw [upd_ne (show x ≠ l from fun z => hM (z ▸ m))]; exact a.e.mb x m
  · exact r.st _ _ _ _ a.e.J sB fun x u m e => e
  · refine ⟨a.g.b.trans sB, a.g.h, a.g.t, fun x u e => ?_, fun x h => ?_⟩
    · by_cases z : x = l
      · subst z; rw [upd_same] at e; cases e; exact hH
      · rw [upd_ne z] at e; exact a.g.k x u e
    · rw [upd_ne (show x ≠ l from fun z => h (z ▸ h0))]; exact a.g.n x h
theorem sx_freeze (i : Nat) {l : Addr} {ds : List D} (hi : sl[i]? = some (.own l ds)) (h : Sx r t (sl.set i (.dat (.list ds))) N) : Sx r t sl N := fun B0 H0 B H σ D a f => by
  obtain ⟨B2, _, a2⟩ := a.freeze hi
  exact h B0 H0 B2 H σ D a2 f
end
end Dt

namespace Dt
open PySem L2

/-! ### what is walked -/
/-- n turns, the i-th hands out f i; B2: what is known from here on -/
structure WalkD (J : It) (n : Nat) (f : Nat → D) (B2 : Hp) : Prop where
  goes : ∀ i H, i < n → Sub B2 H → J.go i H
  stops : ∀ H, Sub B2 H → J.stop n H
  gives : ∀ i H x H', i < n → Sub B2 H → J.yld i H x H' → ∀ B, Sub B2 B → Sub B H → ∃ B', Grow (fun _ => False) B H B' H' ∧ R B' x (f i)
def WkD (r : Res) (wi : TI) (sl : List Sl) (P : Nat → (Nat → D) → Prop) : Prop :=
  ∀ B H σ, EnvOk r B H σ sl → ∀ Rk : It → Hp → Prop, (∀ J B2 H2 n f, Grow r.M B H B2 H2 → r.J B2 H2 → P n f → WalkD J n f B2 → Rk J H2) → wi σ H Rk
section
variable {r : Res} {sl : List Sl} {N : Post} {t u : TS} {te ta tb tl : TE} {g : TG} {K : PySem.W.Frag} {wi : TI}
theorem WkD.mono {P P' : Nat → (Nat → D) → Prop} (h : WkD r wi sl P) (k : ∀ n f, P n f → P' n f) : WkD r wi sl P' := fun B H σ e Rk q => h B H σ e Rk fun J B2 H2 n f g j p w => q J B2 H2 n f g j (k n f p) w
theorem wk_list {P : Nat → (Nat → D) → Prop} (h : EvP r tl sl fun d => ∃ ds n f, d = .list ds ∧ ds.length = n ∧ (∀ i, i < n → ds[i]? = some (f i)) ∧ P n f) : WkD r (iList K tl) sl P := fun B H σ e Rk q =>
  h B H σ e _ fun v B2 H2 d g j rv ⟨ds, n, f, hd, hl, hf, p⟩ => by
    subst hd
    obtain ⟨a, xs, rfl, ha, hx⟩ := rv
    have hn : xs.length = n := by rw [hx.length, hl]
    refine ⟨a, rfl, ⟨xs, SqL.of (g.k a _ ha)⟩, q _ B2 H2 n f g j p ⟨fun i H' hi s => ?_, fun H' s => ⟨xs, SqL.of (s a _ ha), Nat.le_of_eq hn⟩, fun i H' x H'' hi s y B' sB sH => ?_⟩⟩
    · exact ⟨xs, xs[i], SqL.of (s a _ ha), List.getElem?_eq_getElem (by omega)⟩
    · obtain ⟨rfl, hy⟩ := y
      obtain ⟨d, e1, rd⟩ := hx.getV (hy xs (SqL.of (s a _ ha)))
      rw [hf i hi] at e1; cases e1
      exact ⟨B', .refl sH, rd.mono sB⟩
theorem wk_tup {P : Nat → (Nat → D) → Prop} (h : EvP r tl sl fun d => ∃ ds n f, d = .tup ds ∧ ds.length = n ∧ (∀ i, i < n → ds[i]? = some (f i)) ∧ P n f) : WkD r (iTup K tl) sl P := fun B H σ e Rk q =>
  h B H σ e _ fun v B2 H2 d g j rv ⟨ds, n, f, hd, hl, hf, p⟩ => by
    subst hd
    obtain ⟨a, xs, rfl, ha, hx⟩ := rv
    have hn : xs.length = n := by rw [hx.length, hl]
    refine ⟨a, rfl, ⟨xs, SqT.of (g.k a _ ha)⟩, q _ B2 H2 n f g j p ⟨fun i H' hi s => ?_, fun H' s => ⟨xs, SqT.of (s a _ ha), Nat.le_of_eq hn⟩, fun i H' x H'' hi s y B' sB sH => ?_⟩⟩
    · exact ⟨xs, xs[i], SqT.of (s a _ ha), List.getElem?_eq_getElem (by omega)⟩
    · obtain ⟨rfl, hy⟩ := y
      obtain ⟨d, e1, rd⟩ := hx.getV (hy xs (SqT.of (s a _ ha)))
      rw [hf i hi] at e1; cases e1
      exact ⟨B', .refl sH, rd.mono sB⟩
theorem wk_rng1 {t : TA} {P : Nat → (Nat → D) → Prop} (h : EvA r t sl fun ds => ∃ n : Nat, ds = [.int n] ∧ n < 2 ^ 60 ∧ P n fun i => .int i) : WkD r (iRng1 t) sl P := fun B H σ e Rk q =>
  h B H σ e _ fun vs B2 H2 ds g j rv ⟨n, hd, hn, p⟩ => by
    subst hd
    obtain ⟨v, w, rfl, h1, h2⟩ := rv
    cases (show v = .int n from h1)
    cases (show w = [] from h2)
    refine ⟨n, rfl, by omega, by omega, q _ B2 H2 n _ g j p ⟨fun i H' hi s => (by show i < (n : Int).toNat; omega), fun H' s => (by show (n : Int).toNat ≤ n; omega), fun i H' x H'' hi s y B' sB sH => ?_⟩⟩
    obtain ⟨rfl, rfl⟩ := y
    exact ⟨B', .refl sH, by show V.int (0 + (i : Int)) = V.int i; rw [Int.zero_add]⟩
theorem wk_rng2 {t : TA} {P : Nat → (Nat → D) → Prop} (h : EvA r t sl fun ds => ∃ a b : Nat, ds = [.int a, .int b] ∧ a < 2 ^ 60 ∧ b < 2 ^ 60 ∧ P (b - a) fun i => .int ((a : Int) + i)) : WkD r (iRng2 t) sl P := fun B H σ e Rk q =>
  h B H σ e _ fun vs B2 H2 ds g j rv ⟨a, b, hd, ha, hb, p⟩ => by
    subst hd
    obtain ⟨v, w, rfl, h1, v2, w2, rfl, h3, h4⟩ := rv
    cases (show v = .int a from h1)
    cases (show v2 = .int b from h3)
    cases (show w2 = [] from h4)
    refine ⟨a, b, rfl, by omega, q _ B2 H2 (b - a) _ g j p ⟨fun i H' hi s => (by show i < ((b : Int) - a).toNat; omega), fun H' s => (by show ((b : Int) - a).toNat ≤ b - a; omega), fun i H' x H'' hi s y B' sB sH => ?_⟩⟩
    obtain ⟨rfl, rfl⟩ := y
    exact ⟨B', .refl sH, rfl⟩

/-! ### for -/
theorem At.rebase {B0 H0 B H : Hp} {σ : L2.St} (a : At r B0 H0 B H σ sl) : At r B H0 B H σ sl :=
  ⟨a.e, a.own, .refl B, a.g.h, a.g.t, a.g.k, fun _ _ => rfl⟩
theorem Grow.back {M : Addr → Prop} {B0 H0 B H B2 H2 : Hp} (a : Grow M B0 H0 B H) (c : Grow M B H0 B2 H2) : Grow M B0 H0 B2 H2 :=
  ⟨a.b.trans c.b, c.h, c.t, c.k, fun x h => (c.n x h).trans (a.n x h)⟩
theorem At.unbase {B0 H0 B H B2 H2 : Hp} {σ : L2.St} (a : Grow r.M B0 H0 B H) (c : At r B H0 B2 H2 σ sl) : At r B0 H0 B2 H2 σ sl := ⟨c.e, c.own, a.back c.g⟩
theorem Fin.rebase {B0 H0 B H : Hp} {D : Ends} (a : Grow r.M B0 H0 B H) (f : Fin r B0 H0 N D) : Fin r B H0 N D :=
  ⟨fun B2 H2 σ sl h c => f.nx B2 H2 σ sl h (c.unbase a), fun B2 H2 v h j g => f.rt B2 H2 v h j (a.back g), fun B2 H2 σ sl h c => f.bk B2 H2 σ sl h (c.unbase a), fun B2 H2 σ sl h c => f.ct B2 H2 σ sl h (c.unbase a)⟩
theorem sx_for (h : WkD r wi sl fun n f => ∃ I : Nat → List Sl → Prop, I 0 sl ∧ (∀ i sl2, i < n → I i sl2 → Gx r g (f i) sl2 fun sl3 => Sx r t sl3 { N with nx := I (i + 1), bk := N.nx, ct := I (i + 1) }) ∧ ∀ sl2, I n sl2 → N.nx sl2) : Sx r (tFor wi g t) sl N := fun B0 H0 B H σ D a f => by
  refine h B H σ a.e _ fun J B2 H2 n it g2 j ⟨I, i0, is, ie⟩ w => ?_
  have a2 := (a.grow g2 j)
  have ar := a2.rebase
  have fr := f.rebase a2.g
  refine ⟨fun i m σ H => m = n - i ∧ i ≤ n ∧ ∃ B sl2, At r B2 H0 B H σ sl2 ∧ I i sl2, ⟨n, rfl, Nat.zero_le _, B2, sl, ar, i0⟩, ?_⟩
  rintro i m σ3 H3 ⟨rfl, hi, B3, sl3, a3, p⟩
  have s3 : Sub B2 H3 := a3.g.b.trans a3.e.sub
  by_cases hlt : i < n
  · refine .inr ⟨w.goes i H3 hlt s3, fun σ' H' => ∃ B sl2, At r B2 H0 B H' σ' sl2 ∧ I (i + 1) sl2, fun σ' H' ⟨B, sl2, q1, q2⟩ => ⟨n - (i + 1), by omega, rfl, hlt, B, sl2, q1, q2⟩, fun x H' y => ?_⟩
    obtain ⟨B4, g4, rx⟩ := w.gives i H3 x H' hlt s3 y B3 a3.g.b a3.e.sub
    have a4 := a3.grow (g4.mono fun _ z => z.elim) (r.st _ _ _ _ a3.e.J g4.b fun b o m e => g4.h b o e fun z => z)
    refine is i sl3 hlt p B2 H0 B4 H' σ3 x a4 rx _ fun B5 H5 σ5 sl5 k5 a5 _ => k5 B2 H0 B5 H5 σ5 _ a5 ⟨?_, ?_, ?_, ?_⟩
    · exact fun B H σ sl q b => ⟨B, sl, b, q⟩
    · exact fun B H v q j g => fr.rt B H v q j g
    · exact fun B H σ sl q b => fr.nx B H σ sl q b
    · exact fun B H σ sl q b => ⟨B, sl, b, q⟩
  · have e : i = n := by omega
    subst e
    exact .inl ⟨w.stops H3 s3, fr.nx B3 H3 σ3 sl3 (ie sl3 p) a3⟩

/-! ### comprehensions -/
def wipeS (sl : List Sl) : List Nat → List Sl
  | [] => sl
  | v :: vs => (wipeS sl vs).set v .no
theorem EnvOk.wipe {B H : Hp} {σ : L2.St} (e : EnvOk r B H σ sl) : ∀ vs : List Nat, EnvOk r B H (L2.wipe σ vs) (wipeS sl vs)
  | [] => e
  | v :: vs => (EnvOk.wipe e vs).setNo v none
theorem wipe_get (σ : L2.St) (i : Nat) : ∀ vs : List Nat, (L2.wipe σ vs)[i]? = if i ∈ vs then (σ[i]?).map (fun _ => none) else σ[i]?
  | [] => by simp [L2.wipe]
  | v :: vs => by
    unfold L2.wipe
    by_cases h : v = i
    · subst h
      rw [if_pos (by simp)]
      by_cases hl : v < (L2.wipe σ vs).length
      · rw [List.getElem?_set_self hl]
        rw [wipe_length] at hl
        rw [List.getElem?_eq_getElem hl]; rfl
      · rw [List.getElem?_eq_none (by simpa using hl)]
        rw [wipe_length] at hl
        rw [List.getElem?_eq_none (by simpa using hl)]; rfl
    · rw [List.getElem?_set_ne h, wipe_get σ i vs]
      have e : (i ∈ v :: vs) ↔ i ∈ vs := by simp [Ne.symm h]
      by_cases q : i ∈ vs
      · rw [if_pos q, if_pos (e.mpr q)]
      · rw [if_neg q, if_neg fun z => q (e.mp z)]
theorem wipe_set {σ : L2.St} {vs : List Nat} {j : Nat} (hj : j ∈ vs) (x : Option V) : L2.wipe (σ.set j x) vs = L2.wipe σ vs := by
  apply List.ext_getElem?
  intro i
  rw [wipe_get, wipe_get]
  by_cases h : i ∈ vs
  · rw [if_pos h, if_pos h, List.getElem?_set]
    by_cases hj : j = i
    · subst hj
      rw [if_pos rfl]
      split
      · rename_i hl; rw [List.getElem?_eq_getElem hl]; rfl
      · rename_i hl; rw [List.getElem?_eq_none (by omega)]
    · rw [if_neg hj]
  · rw [if_neg h, if_neg h, List.getElem?_set_ne (show j ≠ i from fun z => h (z ▸ hj))]
theorem wipe_wipe (σ : L2.St) (vs : List Nat) : L2.wipe (L2.wipe σ vs) vs = L2.wipe σ vs := by
  apply List.ext_getElem?
  intro i
  rw [wipe_get, wipe_get]
  by_cases h : i ∈ vs
  · rw [if_pos h, if_pos h, Option.map_map]; rfl
  · rw [if_neg h, if_neg h]
/-- a comprehension's target: names of its own, at vs -/
def CgP (r : Res) (g : TG) (d : D) (vs : List Nat) (sl : List Sl) (P : List Sl → Prop) : Prop :=
  ∀ B H σ v, EnvOk r B H σ sl → R B v d → ∀ Q : L2.St → Hp → Prop, (∀ σ2 sl2, P sl2 → EnvOk r B H σ2 sl2 → L2.wipe σ2 vs = L2.wipe σ vs → Q σ2 H) → g v σ H Q
theorem cg_name {j : Nat} {d : D} {vs : List Nat} {P : List Sl → Prop} (hj : j ∈ vs) (h : P (sl.set j (.dat d))) : CgP r (gName j) d vs sl P := fun B H σ v e rv Q q => q _ _ h (e.setD j rv) (wipe_set hj _)
theorem cg_two {i j : Nat} {d1 d2 : D} {vs : List Nat} {P : List Sl → Prop} (hi : i ∈ vs) (hj : j ∈ vs) (h : P ((sl.set i (.dat d1)).set j (.dat d2))) : CgP r (gTup K 2 (gCons (gName i) (gCons (gName j) gNil))) (.tup [d1, d2]) vs sl P := fun B H σ v e rv Q q => by
  obtain ⟨a, xs, rfl, ha, v1, w1, rfl, h1, v2, w2, rfl, h2, h3⟩ := rv
  cases (show w2 = [] from h3)
  exact ⟨a, [v1, v2], rfl, SqT.of (e.sub a _ ha), rfl, v1, [v2], rfl, v2, [], rfl, rfl, q _ _ h ((e.setD i h1).setD j h2) ((wipe_set hj _).trans (wipe_set hi _))⟩
theorem EnvOk.setH {B H : Hp} {σ : L2.St} (e : EnvOk r B H σ sl) {l : Addr} {o : HO} (hB : B l = none) (hM : ¬ r.M l) (hs : ∀ (i : Nat) (s : Sl), sl[i]? = some s → s.addr ≠ some l) : EnvOk r B (upd H l o) σ sl := by
  have ne : ∀ x, B x ≠ none → x ≠ l := fun x hx z => by subst z; exact hx hB
  refine ⟨e.len, fun j s h => ?_, e.nd, fun x u q => ?_, e.mb, fun x m => ?_, ?_⟩
  · obtain ⟨o', f1, f2⟩ := e.at_ j s h
    refine ⟨o', f1, ?_⟩
    cases s with
    | no => trivial
    | dat d => exact f2
    | own l2 ds2 =>
      obtain ⟨g1, g2, g3, zs, g4, g5⟩ := f2
      have : l2 ≠ l := fun z => hs j _ h (by rw [z]; rfl)
      exact ⟨g1, g2, g3, zs, by rw [upd_ne this]; exact g4, g5⟩
    | ownD l2 ds2 =>
      obtain ⟨g1, g2, g3, g4⟩ := f2
      have : l2 ≠ l := fun z => hs j _ h (by rw [z]; rfl)
      exact ⟨g1, g2, g3, by rw [upd_ne this]; exact g4⟩
  · rw [upd_ne (ne x (by rw [q]; simp))]; exact e.sub x u q
  · rw [upd_ne (show x ≠ l from fun z => hM (z ▸ m))]; exact e.mt x m
  · refine r.st _ _ _ _ e.J (.refl B) fun x u m q => ?_
    rw [upd_ne (show x ≠ l from fun z => hM (z ▸ m))]; exact q
theorem EnvOk.apart {B H : Hp} {σ : L2.St} (e : EnvOk r B H σ sl) {l : Addr} (hl : H l = none) : ∀ (i : Nat) (s : Sl), sl[i]? = some s → s.addr ≠ some l := fun i s h ha => by
  obtain ⟨o, _, ok⟩ := e.at_ i s h
  cases s with
  | no => cases ha
  | dat d => cases ha
  | own l2 ds => cases ha; obtain ⟨_, _, _, xs, h3, _⟩ := ok; rw [hl] at h3; cases h3
  | ownD l2 ds => cases ha; obtain ⟨_, _, _, h3⟩ := ok; rw [hl] at h3; cases h3
/-- what has grown beside a new object, which stays from now on as it is -/
theorem Grow.keep {M : Addr → Prop} {B H B2 H2 : Hp} {l : Addr} {o : HO} (g : Grow (fun a => M a ∨ a = l) B H B2 H2) (hl : H l = none) (hB : B2 l = none) (ho : H2 l = some o) : Grow M B H (upd B2 l o) H2 := by
  refine ⟨g.b.trans (Sub.upd hB), fun x u e m => ?_, g.t, fun x u e => ?_, fun x h => ?_⟩
  · exact g.h x u e fun z => z.elim m fun y => ne_of_none e hl y
  · by_cases z : x = l
    · subst z; rw [upd_same] at e; cases e; exact ho
    · rw [upd_ne z] at e; exact g.k x u e
  · rw [upd_ne (show x ≠ l from fun z => h (z ▸ hl))]; exact g.n x h
theorem ev_lc {tt : TT} {vs : List Nat} {P : D → Prop} (h : WkD r wi sl fun n f => n ≤ 50000 ∧ ∃ I : Nat → List D → Prop, I 0 [] ∧
    (∀ i acc, i < n → acc.length ≤ i → I i acc → CgP r g (f i) vs (wipeS sl vs) fun sl2 => EvT r tt sl2 fun b => if b = true then EvP r te sl2 fun d => I (i + 1) (acc ++ [d]) else I (i + 1) acc) ∧ ∀ acc, I n acc → P (.list acc)) :
    EvP r (tLc wi g tt te vs) sl P := fun B H σ e Q q => by
  refine h B H σ e _ fun J B2 H2 n it g2 j ⟨hn, I, i0, is, ie⟩ w => fun Dl hD => ?_
  have e2 := (e.grow g2 j).wipe vs
  have ap := e2.apart hD
  have mD : ¬ r.M Dl := fun m => e2.mt Dl m hD
  have bD : B2 Dl = none := none_of e2.sub hD
  refine ⟨fun i m H => m = n - i ∧ i ≤ n ∧ ∃ B acc xs, EnvOk r B H (L2.wipe σ vs) (wipeS sl vs) ∧ Grow (fun a => r.M a ∨ a = Dl) B2 H2 B H ∧ B Dl = none ∧ H Dl = some (.lst xs) ∧ RA B xs acc ∧ acc.length ≤ i ∧ I i acc,
    ⟨n, rfl, Nat.zero_le _, B2, [], [], e2.setH bD mD ap, Grow.fresh e2.sub hD, bD, upd_same, .nil, Nat.le_refl _, i0⟩, ?_⟩
  rintro i m H3 ⟨rfl, hi, B3, acc, xs, e3, g3, b3, h3, r3, l3, p⟩
  have s3 : Sub B2 H3 := g3.b.trans e3.sub
  by_cases hlt : i < n
  · refine .inr ⟨w.goes i H3 hlt s3, fun H => ∃ B acc xs, EnvOk r B H (L2.wipe σ vs) (wipeS sl vs) ∧ Grow (fun a => r.M a ∨ a = Dl) B2 H2 B H ∧ B Dl = none ∧ H Dl = some (.lst xs) ∧ RA B xs acc ∧ acc.length ≤ i + 1 ∧ I (i + 1) acc,
      fun H' z => ⟨n - (i + 1), by omega, rfl, hlt, z⟩, fun x H4 y => ?_⟩
    obtain ⟨B4, g4, rx⟩ := w.gives i H3 x H4 hlt s3 y B3 g3.b e3.sub
    have e4 := e3.grow (g4.mono fun _ z => z.elim) (r.st _ _ _ _ e3.J g4.b fun b o m e => g4.h b o e fun z => z)
    have h4 : H4 Dl = some (.lst xs) := g4.h _ _ h3 fun z => z
    have b4 : B4 Dl = none := (g4.n Dl (by rw [h3]; simp)).trans b3
    refine is i acc hlt l3 p B4 H4 _ x e4 rx _ fun σ5 sl5 k5 e5 w5 => ⟨w5.trans (wipe_wipe σ vs), ?_⟩
    refine k5 B4 H4 σ5 e5 _ fun b B6 H6 g6 j6 p6 => ?_
    have h6 : H6 Dl = some (.lst xs) := g6.h _ _ h4 mD
    have b6 : B6 Dl = none := (g6.n Dl (by rw [h4]; simp)).trans b4
    have G6 : Grow (fun a => r.M a ∨ a = Dl) B2 H2 B6 H6 := (g3.trans (g4.mono fun _ z => z.elim)).trans (g6.mono fun _ z => .inl z)
    cases b with
    | false => exact ⟨B6, acc, xs, e4.grow g6 j6, G6, b6, h6, (r3.mono g4.b).mono g6.b, by omega, p6⟩
    | true =>
      refine p6 B6 H6 σ5 (e5.grow g6 j6) _ fun v B7 H7 d g7 j7 rv p7 => ?_
      have h7 : H7 Dl = some (.lst xs) := g7.h _ _ h6 mD
      have b7 : B7 Dl = none := (g7.n Dl (by rw [h6]; simp)).trans b6
      have e7 := (e4.grow g6 j6).grow g7 j7
      have G7 := G6.trans (g7.mono (M' := fun a => r.M a ∨ a = Dl) fun _ z => .inl z)
      refine ⟨xs, h7, Nat.lt_of_le_of_lt (show xs.length ≤ 50000 by rw [r3.length]; omega) (by decide), B7, acc ++ [d], xs ++ [v], e7.setH b7 mD ap, ?_, b7, upd_same, (((r3.mono g4.b).mono g6.b).mono g7.b).append (.cons rv .nil), by simp; omega, p7⟩
      refine ⟨G7.b, fun a o ea na => ?_, fun a ha => ?_, fun a o ea => ?_, G7.n⟩
      · rw [upd_ne (show a ≠ Dl from fun z => na (.inr z))]; exact G7.h a o ea na
      · by_cases z : a = Dl
        · subst z; rw [upd_same]; simp
        · rw [upd_ne z]; exact G7.t a ha
      · rw [upd_ne (show a ≠ Dl from fun z => by rw [z, b7] at ea; cases ea)]; exact G7.k a o ea
  · have ei : i = n := by omega
    subst ei
    refine .inl ⟨w.stops H3 s3, ?_⟩
    have G := g3.keep hD b3 h3
    have gg := g2.trans G
    refine q (.ref Dl) _ H3 (.list acc) gg (r.st _ _ _ _ e3.J (Sub.upd b3) fun a o m e => e) ⟨Dl, xs, rfl, upd_same, r3.mono (Sub.upd b3)⟩ (ie acc p)
theorem et_yes {P : Bool → Prop} (p : P true) : EvT r tYes sl P := fun B H σ e Q q => q true B H (.refl e.sub) e.J p

/-! ### calls of defs -/
/-- a callee's footing within the caller's -/
structure Compat (r c : Res) : Prop where
  m : ∀ a, c.M a → r.M a
  j : ∀ B H, r.J B H → c.J B H
  back : ∀ B H B2 H2, r.J B H → c.J B2 H2 → Grow c.M B H B2 H2 → r.J B2 H2
theorem Compat.refl (r : Res) : Compat r r := ⟨fun _ h => h, fun _ _ h => h, fun _ _ _ _ _ h _ => h⟩
theorem Compat.pure (r : Res) : Compat r r0 := ⟨fun _ h => h.elim, fun _ _ _ => trivial, fun B H B2 H2 j _ g => r.st B H B2 H2 j g.b fun a o _ e => g.h a o e fun z => z⟩
/-- a def's promise over data: T says of the arguments what comes of them -/
def spD (r : Res) (T : List D → (D → Prop) → Prop) : Sp := fun vs H Q _ => ∃ B ds P, Sub B H ∧ (∀ a, r.M a → B a = none) ∧ (∀ a, r.M a → H a ≠ none) ∧ r.J B H ∧ RA B vs ds ∧ T ds P ∧
  ∀ v B2 H2 d, Grow r.M B H B2 H2 → r.J B2 H2 → R B2 v d → P d → Q v H2
theorem ev_call {c : Res} {T : List D → (D → Prop) → Prop} {E : XK} {ta : TA} {P : D → Prop} (k : Compat r c) (h : EvA r ta sl fun ds => T ds P) : EvP r (tCall (spD c T) [] E ta) sl P := fun B H σ e Q q =>
  h B H σ e _ fun vs B2 H2 ds g j rv p => by
    have e2 := e.grow g j
    refine ⟨B2, ds, P, g.k, fun a m => e2.mb a (k.m a m), fun a m => e2.mt a (k.m a m), k.j _ _ j, by rw [List.append_nil]; exact rv, p, fun v B3 H3 d g3 j3 rv3 p3 => ?_⟩
    exact q v B3 H3 d (g.trans (g3.mono k.m)) (k.back _ _ _ _ j j3 g3) rv3 p3
/-- a def's slots at the entry -/
def slots (n : Nat) (ds : List D) : List Sl := ds.map .dat ++ List.replicate (n - ds.length) .no
theorem slots_ok {r : Res} {B H : Hp} {N : List Str} {vs : List V} {ds : List D} (s : Sub B H) (mb : ∀ a, r.M a → B a = none) (mt : ∀ a, r.M a → H a ≠ none) (j : r.J B H) (h : RA B vs ds) : EnvOk r B H (L2.start N vs) (slots N.length ds) := by
  have hl := h.length
  have nad : ∀ (i : Nat) (s : Sl) (l : Addr), (slots N.length ds)[i]? = some s → s.addr = some l → False := fun i s l hs ha => by
    unfold slots at hs
    by_cases hi : i < ds.length
    · rw [List.getElem?_append_left (by simpa using hi), List.getElem?_map] at hs
      cases e : ds[i]? with
      | none => rw [e] at hs; cases hs
      | some d => rw [e] at hs; cases hs; cases ha
    · rw [List.getElem?_append_right (by simpa using hi), List.getElem?_replicate] at hs
      split at hs
      · cases hs; cases ha
      · cases hs
  refine ⟨by simp [slots, L2.start, hl], fun i s hs => ?_, fun i j s u l h1 h2 a1 a2 => (nad i s l h1 a1).elim, s, mb, mt, j⟩
  unfold slots at hs
  by_cases hi : i < ds.length
  · rw [List.getElem?_append_left (by simpa using hi), List.getElem?_map] at hs
    cases e : ds[i]? with
    | none => rw [e] at hs; cases hs
    | some d =>
      rw [e] at hs; cases hs
      obtain ⟨v, e1, rv⟩ := h.get e
      refine ⟨some v, ?_, v, rfl, rv⟩
      unfold L2.start
      rw [List.getElem?_append_left (by simpa [hl] using hi), List.getElem?_map, e1]; rfl
  · rw [List.getElem?_append_right (by simpa using hi), List.getElem?_replicate] at hs
    split at hs
    · rename_i hlt
      cases hs
      refine ⟨none, ?_, trivial⟩
      unfold L2.start
      simp only [List.length_map] at hlt
      rw [List.getElem?_append_right (by simp [hl]; omega), List.getElem?_replicate, if_pos (by simp only [List.length_map, hl]; exact hlt)]
    · cases hs
theorem spD_go {T : List D → (D → Prop) → Prop} {vs : List V} {H : Hp} {Q : VK} {E : XK} {N : List Str} (h : spD r T vs H Q E)
    (k : ∀ ds P, T ds P → Sx r t (slots N.length ds) ⟨fun _ => P .non, Ret P, fun _ => False, fun _ => False⟩) : t { nx := fun _ H' => Q .non H', rt := Q } (L2.start N vs) H := by
  obtain ⟨B, ds, P, s, mb, mt, j, rv, hT, q⟩ := h
  have e := slots_ok (N := N) s mb mt j rv
  refine k ds P hT B H B H _ _ ⟨e, fun i s l hs ha => ?_, .refl s⟩ ⟨fun B2 H2 σ sl n a => ?_, fun B2 H2 v ⟨d, rd, p⟩ j g => q v B2 H2 d g j rd p, fun _ _ _ _ z => z.elim, fun _ _ _ _ z => z.elim⟩
  · exfalso
    unfold slots at hs
    by_cases hi : i < ds.length
    · rw [List.getElem?_append_left (by simpa using hi), List.getElem?_map] at hs
      cases e : ds[i]? with
      | none => rw [e] at hs; cases hs
      | some d => rw [e] at hs; cases hs; cases ha
    · rw [List.getElem?_append_right (by simpa using hi), List.getElem?_replicate] at hs
      split at hs
      · cases hs; cases ha
      · cases hs
  · exact q .non B2 H2 .non a.g a.e.J rfl n
theorem spD_len {T : List D → (D → Prop) → Prop} {n : Nat} (hT : ∀ ds P, T ds P → ds.length = n) : ∀ vs H Q E, spD r T vs H Q E → vs.length = n := fun vs H Q E h => by
  obtain ⟨B, ds, P, s, mb, mt, j, rv, hT', q⟩ := h
  rw [rv.length, hT ds P hT']
end
end Dt

namespace Dt
open PySem L2
section
variable {r : Res} {sl : List Sl} {N : Post} {t u : TS} {te ta tb tl : TE} {g : TG} {K : PySem.W.Frag} {wi : TI} {P : D → Prop}

/-! ### built-ins on data -/
theorem ca_val {f : List V → Hp → VK → Prop} {xs : List D} {d : D} (p : P d) (h : ∀ B H vs, Sub B H → r.J B H → RA B vs xs → ∃ u, R B u d ∧ ∀ Q : VK, Q u H → f vs H Q) : CaD r f xs P := fun B H vs s j rv Q q => by
  obtain ⟨u, ru, k⟩ := h B H vs s j rv
  exact k Q (q u B H d (.refl s) j ru p)
theorem RA.one {B : Hp} {vs : List V} {d : D} (h : RA B vs [d]) : ∃ v, vs = [v] ∧ R B v d := by
  obtain ⟨v, w, rfl, h1, h2⟩ := h
  cases (show w = [] from h2)
  exact ⟨v, rfl, h1⟩
theorem RA.two {B : Hp} {vs : List V} {d e : D} (h : RA B vs [d, e]) : ∃ v w, vs = [v, w] ∧ R B v d ∧ R B w e := by
  obtain ⟨v, w, rfl, h1, h2⟩ := h
  obtain ⟨w', rfl, h3⟩ := h2.one
  exact ⟨v, w', rfl, h1, h3⟩
theorem RA.three {B : Hp} {vs : List V} {d e f : D} (h : RA B vs [d, e, f]) : ∃ v w x, vs = [v, w, x] ∧ R B v d ∧ R B w e ∧ R B x f := by
  obtain ⟨v, w, rfl, h1, h2⟩ := h
  obtain ⟨w', x, rfl, h3, h4⟩ := h2.two
  exact ⟨v, w', x, rfl, h1, h3, h4⟩
theorem ca_lenT {ds : List D} (p : P (.int ds.length)) : CaD r (fun xs H Q => ∃ p ys, xs = [V.ref p] ∧ (SqL K H p ys ∨ SqT K H p ys) ∧ Q (.int ys.length) H) [.tup ds] P := ca_val p fun B H vs s _ rv => by
  obtain ⟨v, rfl, a, xs, rfl, ha, hx⟩ := rv.one
  exact ⟨.int ds.length, rfl, fun Q q => ⟨a, xs, rfl, .inr (SqT.of (s a _ ha)), by rw [hx.length]; exact q⟩⟩
theorem ca_lenL {ds : List D} (p : P (.int ds.length)) : CaD r (fun xs H Q => ∃ p ys, xs = [V.ref p] ∧ (SqL K H p ys ∨ SqT K H p ys) ∧ Q (.int ys.length) H) [.list ds] P := ca_val p fun B H vs s _ rv => by
  obtain ⟨v, rfl, a, xs, rfl, ha, hx⟩ := rv.one
  exact ⟨.int ds.length, rfl, fun Q q => ⟨a, xs, rfl, .inl (SqL.of (s a _ ha)), by rw [hx.length]; exact q⟩⟩
theorem Grow.newJ {B H : Hp} (s : Sub B H) {p : Addr} {o : HO} (hp : H p = none) (j : r.J B H) : r.J (upd B p o) (upd H p o) :=
  r.st _ _ _ _ j (Sub.upd (none_of s hp)) fun x u m e => Sub.upd hp x u e
/-- tuple(a list), list(a tuple) -/
theorem ca_tuple {ds : List D} (p : P (.tup ds)) : CaD r (fun xs H Q => ∃ p ys, xs = [V.ref p] ∧ ((SqL K H p ys ∧ ∀ l, H l = none → Q (.ref l) (upd H l (.tup ys))) ∨ (SqT K H p ys ∧ Q (.ref p) H))) [.list ds] P := fun B H vs s j rv Q q => by
  obtain ⟨v, rfl, a, xs, rfl, ha, hx⟩ := rv.one
  exact ⟨a, xs, rfl, .inl ⟨SqL.of (s a _ ha), fun l hl => q _ _ _ (.tup ds) (Grow.new s hl) (Grow.newJ s hl j) ⟨l, xs, rfl, upd_same, hx.mono (Sub.upd (none_of s hl))⟩ p⟩⟩
theorem ca_tupleT {ds : List D} (p : P (.tup ds)) : CaD r (fun xs H Q => ∃ p ys, xs = [V.ref p] ∧ ((SqL K H p ys ∧ ∀ l, H l = none → Q (.ref l) (upd H l (.tup ys))) ∨ (SqT K H p ys ∧ Q (.ref p) H))) [.tup ds] P := ca_val p fun B H vs s _ rv => by
  obtain ⟨v, rfl, a, xs, rfl, ha, hx⟩ := rv.one
  exact ⟨.ref a, ⟨a, xs, rfl, ha, hx⟩, fun Q q => ⟨a, xs, rfl, .inr ⟨SqT.of (s a _ ha), q⟩⟩⟩
theorem ca_list {ds : List D} (p : P (.list ds)) : CaD r (fun xs H Q => ∃ p ys, xs = [V.ref p] ∧ (SqL K H p ys ∨ SqT K H p ys) ∧ ∀ l, H l = none → Q (.ref l) (upd H l (.lst ys))) [.tup ds] P := fun B H vs s j rv Q q => by
  obtain ⟨v, rfl, a, xs, rfl, ha, hx⟩ := rv.one
  exact ⟨a, xs, rfl, .inr (SqT.of (s a _ ha)), fun l hl => q _ _ _ (.list ds) (Grow.new s hl) (Grow.newJ s hl j) ⟨l, xs, rfl, upd_same, hx.mono (Sub.upd (none_of s hl))⟩ p⟩
theorem ca_sum {ns : List Int} (p : P (.int ns.sum)) : CaD r (rSum K) [.list (ns.map D.int)] P := ca_val p fun B H vs s _ rv => by
  obtain ⟨v, rfl, a, xs, rfl, ha, hx⟩ := rv.one
  cases hx.ints
  exact ⟨.int ns.sum, rfl, fun Q q => ⟨a, ns, rfl, SqL.of (s a _ ha), q⟩⟩
theorem ca_int {i : Int} (p : P (.int i)) : CaD r (fun xs H Q => (∃ i, xs = [V.int i] ∧ Q (.int i) H) ∨ ∃ k : Bool, xs = [V.bl k] ∧ Q (.int (if k then 1 else 0)) H) [.int i] P := ca_val p fun B H vs s _ rv => by
  obtain ⟨v, rfl, h⟩ := rv.one
  cases (show v = .int i from h)
  exact ⟨.int i, rfl, fun Q q => .inl ⟨i, rfl, q⟩⟩
theorem ca_intB {k : Bool} (p : P (.int (if k then 1 else 0))) : CaD r (fun xs H Q => (∃ i, xs = [V.int i] ∧ Q (.int i) H) ∨ ∃ k : Bool, xs = [V.bl k] ∧ Q (.int (if k then 1 else 0)) H) [.bl k] P := ca_val p fun B H vs s _ rv => by
  obtain ⟨v, rfl, h⟩ := rv.one
  cases (show v = .bl k from h)
  exact ⟨.int (if k then 1 else 0), rfl, fun Q q => .inr ⟨k, rfl, q⟩⟩
theorem ca_min2 {i j : Int} (p : P (.int (min i j))) : CaD r (fun xs H Q => ∃ i j, xs = [V.int i, V.int j] ∧ Q (.int (if j < i then j else i)) H) [.int i, .int j] P := ca_val p fun B H vs s _ rv => by
  obtain ⟨v, w, rfl, h1, h2⟩ := rv.two
  cases (show v = .int i from h1); cases (show w = .int j from h2)
  refine ⟨.int (min i j), rfl, fun Q q => ⟨i, j, rfl, ?_⟩⟩
  have e : (if j < i then j else i) = min i j := by split <;> omega
  rw [e]; exact q
theorem ca_min3 {i j k : Int} (p : P (.int (min (min i j) k))) : CaD r (rNuC3 nuMin3) [.int i, .int j, .int k] P := ca_val p fun B H vs s _ rv => by
  obtain ⟨v, w, x, rfl, h1, h2, h3⟩ := rv.three
  cases (show v = .int i from h1); cases (show w = .int j from h2); cases (show x = .int k from h3)
  refine ⟨.int (min (min i j) k), rfl, fun Q q => ⟨.int i, .int j, .int k, .int (min (min i j) k), rfl, ?_, q⟩⟩
  have two : ∀ a b : Int, nuMin2 (.int a) (.int b) = some (.int (min a b)) := fun a b => by
    show some (if decide (b < a) = true then V.int b else V.int a) = _
    by_cases h : b < a
    · rw [if_pos (decide_eq_true h)]; congr 2; omega
    · rw [if_neg (by simp [h])]; congr 2; omega
  show (nuMin2 (.int i) (.int j)).bind _ = _
  rw [two]
  exact two _ _

/-! ### operators on data -/
theorem od_new {f : R2} {x y d : D} {o : List V → HO} (p : P d) (hd : ∀ B H v w, Sub B H → R B v x → R B w y → ∃ xs, (∀ Q : VK, (∀ l, H l = none → Q (.ref l) (upd H l (o xs))) → f v w H Q) ∧ ∀ l, R (upd B l (o xs)) (.ref l) d ∨ B l ≠ none) : OpD r f x y P := fun B H v w s j rv rw' Q q => by
  obtain ⟨xs, k, kd⟩ := hd B H v w s rv rw'
  exact k Q fun l hl => q _ _ _ d (Grow.new s hl) (Grow.newJ s hl j) ((kd l).resolve_right fun z => z (none_of s hl)) p
theorem od_cat {a b : List D} (hz : a.length + b.length ≤ 100000) (p : P (.list (a ++ b))) : OpD r rCat (.list a) (.list b) P := od_new (o := .lst) p fun B H v w s rv rw' => by
  obtain ⟨q1, xs, rfl, h1, k1⟩ := rv
  obtain ⟨q2, ys, rfl, h2, k2⟩ := rw'
  refine ⟨xs ++ ys, fun Q q => ⟨q1, q2, xs, ys, rfl, rfl, s _ _ h1, s _ _ h2, by rw [k1.length, k2.length]; exact Nat.le_trans hz (by decide), q⟩, fun l => ?_⟩
  cases e : B l with
  | some o => right; simp
  | none => left; exact ⟨l, xs ++ ys, rfl, upd_same, (k1.mono (Sub.upd e)).append (k2.mono (Sub.upd e))⟩
theorem od_catA {a b : List D} (hz : a.length + b.length ≤ 100000) (p : P (.tup (a ++ b))) : OpD r (rCatA K) (.tup a) (.tup b) P := fun B H v w s j rv rw' Q q => by
  obtain ⟨q1, xs, rfl, h1, k1⟩ := rv
  obtain ⟨q2, ys, rfl, h2, k2⟩ := rw'
  refine ⟨q1, q2, xs, ys, rfl, rfl, SqT.of (s _ _ h1), SqT.of (s _ _ h2), by rw [k1.length, k2.length]; exact Nat.le_trans hz (by decide), fun hx => ?_, fun hx hy => ?_, fun hx hy l hl => ?_⟩
  · subst hx
    have ea : a = [] := List.eq_nil_of_length_eq_zero (by have := k1.length; simp at this; omega)
    subst ea
    exact q _ B H (.tup b) (.refl s) j ⟨q2, ys, rfl, h2, k2⟩ p
  · subst hy
    have eb : b = [] := List.eq_nil_of_length_eq_zero (by have := k2.length; simp at this; omega)
    subst eb
    exact q _ B H (.tup (a ++ [])) (.refl s) j ⟨q1, xs, rfl, h1, by rw [List.append_nil]; exact k1⟩ p
  · have e := none_of s hl
    exact q _ _ _ (.tup (a ++ b)) (Grow.new s hl) (Grow.newJ s hl j) ⟨l, xs ++ ys, rfl, upd_same, (k1.mono (Sub.upd e)).append (k2.mono (Sub.upd e))⟩ p
theorem od_addS {i j : Str} (hz : i.length + j.length ≤ 100000) (p : P (.str (i ++ j))) : OpD r (fun x y H Q => ∃ i j, x = V.str i ∧ y = V.str j ∧ i.length + j.length ≤ sizeLine ∧ Q (.str (i ++ j)) H) (.str i) (.str j) P := od_val p fun B H v w s _ rv rw' => by
  cases (show v = .str i from rv); cases (show w = .str j from rw')
  exact ⟨_, rfl, fun Q q => ⟨i, j, rfl, rfl, Nat.le_trans hz (by decide), q⟩⟩
theorem od_mul {i j : Int} (h : CMul i j) (p : P (.int (i * j))) : OpD r (rI CMul fun i j => .int (i * j)) (.int i) (.int j) P := od_I h p fun _ => rfl
theorem od_fdiv {i j : Int} (h : CDiv i j) (p : P (.int (i / j))) : OpD r (rI CDiv fun i j => .int (i / j)) (.int i) (.int j) P := od_I h p fun _ => rfl
theorem od_mod {i j : Int} (h : 0 < j) (p : P (.int (i % j))) : OpD r (rI (fun _ j => 0 < j) fun i j => .int (i % j)) (.int i) (.int j) P := od_I h p fun _ => rfl
theorem od_pow {i j : Int} (h : CPow i j) (p : P (.int (i ^ j.toNat))) : OpD r (rI CPow fun i j => .int (i ^ j.toNat)) (.int i) (.int j) P := od_I h p fun _ => rfl

/-! ### slices of tuples -/
theorem cut_hi {xs : List V} {n : Nat} : cutV xs none (some (n : Int)) = xs.take n := by
  unfold cutV
  rw [HT.sIx_none, HT.sIx_nat, List.drop_zero, Nat.sub_zero]
  by_cases h : n ≤ xs.length
  · rw [Nat.min_eq_left h]
  · rw [Nat.min_eq_right (by omega), List.take_of_length_le (Nat.le_refl _), List.take_of_length_le (by omega)]
theorem cut_lo {xs : List V} {n : Nat} : cutV xs (some (n : Int)) none = xs.drop n := by
  unfold cutV
  rw [HT.sIx_none, HT.sIx_nat]
  by_cases h : n ≤ xs.length
  · rw [Nat.min_eq_left h]
    exact List.take_of_length_le (by simp)
  · rw [Nat.min_eq_right (by omega), Nat.sub_self, List.take_zero, List.drop_eq_nil_of_le (by omega)]
theorem ev_slHi (h : EvP r te sl fun d => ∃ ds, d = .tup ds ∧ EvP r ta sl fun k => ∃ n : Nat, k = .int n ∧ P (.tup (ds.take n))) : EvP r (tSl (rSlA K) te tNoPart (tPart ta)) sl P := fun B H σ e Q q =>
  h B H σ e _ fun v B2 H2 d g j rv ⟨ds, hd, h2⟩ => h2 B2 H2 σ (e.grow g j) _ fun w B3 H3 k g3 j3 rw' ⟨n, hk, p⟩ => by
    subst hd hk
    cases (show w = .int n from rw')
    refine ⟨n, rfl, ?_⟩
    obtain ⟨a, xs, rfl, ha, hx⟩ := rv
    have ha3 := g3.b _ _ ha
    refine ⟨a, xs, rfl, SqT.of (g3.k _ _ ha3), fun hw => ?_, fun hw l hl => ?_⟩
    · have hn : xs.length ≤ n := by
        have := hw.2
        rw [HT.sIx_nat] at this
        omega
      refine q _ B3 H3 (.tup (ds.take n)) (g.trans g3) j3 ⟨a, xs, rfl, ha3, ?_⟩ p
      rw [List.take_of_length_le (by rw [← hx.length]; exact hn)]
      exact hx.mono g3.b
    · have el := none_of g3.k hl
      refine q _ _ _ (.tup (ds.take n)) ((g.trans g3).trans (Grow.new g3.k hl)) (Grow.newJ g3.k hl j3) ⟨l, _, rfl, upd_same, ?_⟩ p
      rw [cut_hi]
      exact ((hx.mono g3.b).mono (Sub.upd el)).take n
theorem ev_slLo (h : EvP r te sl fun d => ∃ ds, d = .tup ds ∧ EvP r ta sl fun k => ∃ n : Nat, k = .int n ∧ P (.tup (ds.drop n))) : EvP r (tSl (rSlA K) te (tPart ta) tNoPart) sl P := fun B H σ e Q q =>
  h B H σ e _ fun v B2 H2 d g j rv ⟨ds, hd, h2⟩ => h2 B2 H2 σ (e.grow g j) _ fun w B3 H3 k g3 j3 rw' ⟨n, hk, p⟩ => by
    subst hd hk
    cases (show w = .int n from rw')
    refine ⟨n, rfl, ?_⟩
    obtain ⟨a, xs, rfl, ha, hx⟩ := rv
    have ha3 := g3.b _ _ ha
    refine ⟨a, xs, rfl, SqT.of (g3.k _ _ ha3), fun hw => ?_, fun hw l hl => ?_⟩
    · have hn : min n xs.length = 0 := by
        have := hw.1
        rw [HT.sIx_nat] at this
        exact this
      refine q _ B3 H3 (.tup (ds.drop n)) (g.trans g3) j3 ⟨a, xs, rfl, ha3, ?_⟩ p
      by_cases h0 : n = 0
      · subst h0; exact hx.mono g3.b
      · have : xs = [] := List.eq_nil_of_length_eq_zero (by omega)
        subst this
        have hd : ds = [] := List.eq_nil_of_length_eq_zero (by have := hx.length; simp at this; omega)
        subst hd
        simp; exact .nil
    · have el := none_of g3.k hl
      refine q _ _ _ (.tup (ds.drop n)) ((g.trans g3).trans (Grow.new g3.k hl)) (Grow.newJ g3.k hl j3) ⟨l, _, rfl, upd_same, ?_⟩ p
      rw [cut_lo]
      exact ((hx.mono g3.b).mono (Sub.upd el)).drop n
/-! ### places in tables -/
theorem atI_map {α : Type} {n k : Nat} {f : Nat → α} (h : k < n) : atI ((List.range n).map f) (k : Int) = some (f k) := atI_nat (by simp [h])
theorem atI_cons0 {α : Type} (a : α) (l : List α) : atI (a :: l) 0 = some a := atI_nat (j := 0) rfl
theorem get_map {n k : Nat} {f : Nat → D} (h : k < n) : ((List.range n).map f)[k]? = some (f k) := by simp [h]
/-- the last of them -/
theorem atI_last' {α : Type} {xs : List α} {a : α} (h : xs.getLast? = some a) : atI xs (-1) = some a := by
  unfold atI ixN
  have hne : xs ≠ [] := by intro e; subst e; simp at h
  have hl : 0 < xs.length := List.length_pos_iff.mpr hne
  rw [if_neg (by decide), if_pos (by omega)]
  show xs[(-1 + (xs.length : Int)).toNat]? = some a
  have e : (-1 + (xs.length : Int)).toNat = xs.length - 1 := by omega
  rw [e, ← List.getLast?_eq_getElem?]; exact h
end
end Dt

/-! enumerate over a tuple -/
namespace PySem
open Builtin
theorem own_meets_enum (t : Addr) (items : Array Value) :
    Meets (Builtin.«enumerate.__new__» ⟨[.type "enumerate", .ref t], []⟩) (fun _ R s => s.heap.IsTuple t items ∧
      R (.ok (.ret (.ref (s.heap.push { cls := .type "tuple_iterator", data := .fields #[.ref t, .int 0 0] }).objs.size)))
        { s with heap := (s.heap.push { cls := .type "tuple_iterator", data := .fields #[.ref t, .int 0 0] }).push { cls := .type "enumerate", data := .fields #[.none, .bool false, .ref s.heap.objs.size, rawInt 0, .none, .none] } }) :=
  .of_wp fun prog w A R s h => by
    obtain ⟨hp, g, d, tk, os⟩ := s
    obtain ⟨ht, hq⟩ := h
    have hsub := sub_enumerate
    have q1 : ∀ {A' : Around} {E : Value → Shared → Prop} {Q : Value → Shared → Prop}, Q (.ref hp.objs.size) ⟨hp.push { cls := .type "tuple_iterator", data := .fields #[.ref t, .int 0 0] }, g, d, tk, os⟩ →
        wpAny (model prog w) A' (pyIter (.ref t)) Q E ⟨hp, g, d, tk, os⟩ := fun q => wpAny_pyIter_tuple ht q
    wp_walk using q1
    refine wpAny_stack_any fun st => wpAny_pure ?_
    split
    · rename_i c _ _ _ _ _
      cases (c == Value.type "enumerate")
      · wp_walk using q1
        exact ⟨_, rfl, hq⟩
      · wp_walk using q1
        exact ⟨_, rfl, hq⟩
    · wp_walk using q1
      exact ⟨_, rfl, hq⟩
theorem own_call_enum {prog : Program} {w : World} {A : Around} {E : Value → Shared → Prop} {s : Shared} {t : Addr} {items : Array Value} {Q : Value → Shared → Prop} (ht : s.heap.IsTuple t items)
    (h : ∀ h', IsEnum h' (s.heap.objs.size + 1) s.heap.objs.size 0 .none → h'.IsTupleIter s.heap.objs.size t 0 → (∀ b o, s.heap.get? b = some o → h'.get? b = some o) →
      Q (.ref (s.heap.objs.size + 1)) { s with heap := h' }) : wpAny (model prog w) A (call (.type "enumerate") [.ref t]) Q E s := by
  refine callType_new F.called_enumerate (by decide) (F.typeCall_enumerate_1 _) (F.newCall_enumerate_1 _) (fun obj => F.args_object_init_2 obj _) F.entry_enumerate_new (own_meets_enum t items) ⟨ht, ?_⟩
  generalize ho : ({ cls := .type "tuple_iterator", data := .fields #[.ref t, .int 0 0] } : Obj) = o
  have hf : o.isFreed = false := by rw [← ho]; rfl
  have hz : (s.heap.push o).objs.size = s.heap.objs.size + 1 := Heap.size_push ..
  show _ ∧ _
  rw [hz]
  have he : IsEnum ((s.heap.push o).push { cls := .type "enumerate", data := .fields #[.none, .bool false, .ref s.heap.objs.size, rawInt 0, .none, .none] }) (s.heap.objs.size + 1) s.heap.objs.size 0 .none := by
    have z := Heap.get?_push_size (s.heap.push o) (o := { cls := .type "enumerate", data := .fields #[.none, .bool false, .ref s.heap.objs.size, rawInt 0, .none, .none] }) rfl
    rw [hz] at z
    exact z
  refine ⟨⟨_, he, rfl⟩, h _ he ⟨o, Heap.get?_push_of_some _ (Heap.get?_push_size _ hf), by rw [← ho], by rw [← ho]; rfl⟩ fun b ob x => Heap.get?_push_of_some _ (Heap.get?_push_of_some _ x)⟩
end PySem
namespace Dt
open PySem PySem.Spec PyProof.Rows L2
/-- the tuple at a, each item with its number in a new pair -/
def Itp (K : PySem.W.Frag) (a : Addr) : It where
  go := fun i H => ∃ (xs : List V) (x : V), SqT K H a xs ∧ xs[i]? = some x
  yld := fun i H v H' => ∃ T x, v = .ref T ∧ H T = none ∧ H' = upd H T (.tup [.int (i : Nat), x]) ∧ ∀ xs, SqT K H a xs → xs[i]? = some x
  stop := fun i H => ∃ xs : List V, SqT K H a xs ∧ xs.length = i
theorem tup_apart {h : Heap} {a it : Addr} {i : Nat} {items : Array Value} (hi : h.IsTupleIter it a i) (ht : h.IsTuple a items) : a ≠ it := by
  rintro rfl
  obtain ⟨o, e, c, _⟩ := hi
  obtain ⟨o', e', c', _⟩ := ht
  rw [e] at e'; cases e'
  rw [c] at c'
  injection c' with z
  exact absurd z (by decide)
theorem turn_p {P : Program} {w : World} {K : PySem.W.Frag} {elts : List Expr} {kk : Nat} {tpos : Pos} (a e it : Addr) :
    Turn P w K (.Tuple elts kk tpos) (Itp K a) [e, it] e (fun i h => (∃ old, IsEnum h e it ((i : Nat) : Int) old) ∧ h.IsTupleIter it a i ∧ e ≠ it) where
  mem := by simp
  obj := by
    rintro i h ⟨⟨old, he⟩, ⟨o, ho, hc, hd⟩, _⟩ b hb
    have q : b = e ∨ b = it := by simpa using hb
    rcases q with rfl | rfl
    · exact ⟨_, he, fun v z => nomatch z⟩
    · exact ⟨o, ho, fun v z => by rw [hd] at z; cases z⟩
  keep := by
    rintro i h h' ⟨⟨old, he⟩, hi, hne⟩ k
    exact ⟨⟨old, k e (by simp) _ he⟩, hi.at fun o q => k it (by simp) o q, hne⟩
  item := by
    rintro X rfl rfl rfl hc i pins s σ H E I hf ⟨⟨old, he⟩, hit, hne⟩ ⟨xs, x, hq, hx⟩
    obtain ⟨its, rv, p, hz⟩ := I.tuple hq
    have pT : s.heap.IsTuple a its.toArray := p
    have hea : e ≠ a := by
      rintro rfl
      obtain ⟨o', e', c', _⟩ := pT
      rw [he] at e'; cases e'
      injection (show Value.type "enumerate" = Value.type "tuple" from c') with z
      exact absurd z (by decide)
    have hlen := rv.length
    have hlt : i < its.toArray.size := by
      have := (List.getElem?_eq_some_iff.mp hx).1
      simp; omega
    have Dr := Draws.tuple (prog := X.prog) (w := X.w) (A := X.A.in1) (show X.A.in1.handled = none from I.ok.hd hc) it a (tup_apart hit pT) its.toArray
    have hel : e < s.heap.objs.size := Heap.lt_size he
    have hil : it < s.heap.objs.size := by obtain ⟨_, q, _⟩ := hit; exact Heap.lt_size q
    refine wpAny_pyNext_enum_itemD Dr he ⟨hit, pT⟩ hlt hne (by simp [hne, hea]) fun u h' tk hu ho hst hT hsz hk => ?_
    have hu' : its[i]? = some u := by simpa using hu
    obtain ⟨u2, hu2, ru⟩ := rv.get hx
    rw [hu'] at hu2
    cases hu2
    refine ⟨_, rfl, wpAny_letOwnedTupleGo_enum (s := { s with heap := h', toks := tk + 1 }) ho fun h'' he' sb => ?_⟩
    have hT2 : h''.get? s.heap.objs.size = some { cls := .type "tuple", data := .seq #[.int i tk, u] } := (sb.2 _ (Nat.ne_of_gt hel)).trans hT
    have new : ObjOk X.prog X.w (upd H s.heap.objs.size (.tup [.int (i : Nat), x])) h'' s.heap.objs.size (.tup [.int (i : Nat), x]) :=
      ⟨by show 2 ≤ sizeLine; decide, [.int i tk, u], .cons ⟨_, rfl⟩ (.cons ru .nil), ⟨_, hT2, rfl, _, rfl⟩⟩
    have I1 : Inv X pins σ (upd H s.heap.objs.size (.tup [.int (i : Nat), x])) { s with heap := h'', toks := tk + 1 } := by
      refine I.turnedNew (ch := [e, it]) (fun b ob hb q => ?_) hf (Nat.le_refl _) new
      exact (sb.2 b (fun z => hb (by simp [z]))).trans (hk b ob (fun z => hb (by simp [z])) (fun z => hb (by simp [z])) q)
    refine ⟨.ref s.heap.objs.size, _, I1, rfl, ⟨_, x, rfl, I.hok.fresh (Nat.le_refl _), rfl, fun ys hy => by rw [I.tuple_inj hy hq]; exact hx⟩, ⟨⟨u, ?_⟩, hst.1.at fun o q => (sb.2 it (Ne.symm hne)).trans q, hne⟩, fun b hb => ?_⟩
    · rw [show ((i + 1 : Nat) : Int) = (i : Int) + 1 by omega]
      exact he'
    · have hb' : b < s.heap.objs.size := by
        have q : b = e ∨ b = it := by simpa using hb
        rcases q with rfl | rfl
        · exact hel
        · exact hil
      rw [upd_ne (Nat.ne_of_lt hb')]
      exact (hf b hb).1
  done := by
    rintro X rfl rfl rfl hc i pins s σ H E I hf ⟨⟨old, he⟩, hit, hne⟩ ⟨xs, hq, hx⟩
    obtain ⟨its, rv, p, hz⟩ := I.tuple hq
    have pT : s.heap.IsTuple a its.toArray := p
    obtain ⟨f0, f1, f2, f3, f4, f5⟩ := hf it (by simp)
    have hh : X.A.handled = none := I.ok.hd hc
    have hl := rv.length
    have Dr := Draws.tuple (prog := X.prog) (w := X.w) (A := X.A.in1) (show X.A.in1.handled = none from hh) it a (tup_apart hit pT) its.toArray
    refine wpAny_pyNext_enum_endD Dr he ⟨?_, pT⟩ fun h' eb => ⟨rfl, I.turned (t' := s.toks) (fun b o hb q => eb b o hb q) f0 f1 f3 f4 f5⟩
    have e0 : its.toArray.size = i := by simp; omega
    rw [e0]
    exact hit
  self := fun A i s Q E st h => let ⟨⟨_, he⟩, _⟩ := st; wpAny_pyIter_enum he h
def iEnumT (K : PySem.W.Frag) (ta : TA) : TI := fun σ H R => ta σ H fun vs H1 => ∃ a xs, vs = [.ref a] ∧ SqT K H1 a xs ∧ R (Itp K a) H1
theorem pi_enumT {X : Cx} {e : Expr} {ta : TA} {p pos tpos : Pos} {elts : List Expr} {kk : Nat} (hg : Gl X "enumerate") (hm : X.mg "enumerate" = none) (ha : PA X [e] ta) (hs : starEach [e] X.env = [(false, eval e X.env)] := by rfl) :
    PI X (.Tuple elts kk tpos) (.Call (.Name "enumerate" p) [e] [] pos) (iEnumT X.K ta) := by
  refine ⟨fun pins s σ H R I h => Call_ (ld_blt I hg hm boot_enumerate (PyProof.Rows.callWith_type1 (thn (ha.run pos pins s σ H _ I h) fun us s1 ⟨vs, H1, I1, r1, a, xs, ex, hq, q⟩ => ?_) hs rfl))⟩
  subst ex
  cases r1 with
  | cons r rr =>
    cases rr
    cases r
    obtain ⟨its, rv, p', hz⟩ := I1.tuple hq
    refine own_call_enum (show s1.heap.IsTuple a its.toArray from p') fun h' he hit hk => wpAny_pyIter_enum he ?_
    refine ⟨s1.heap.objs.size + 1, [s1.heap.objs.size + 1, s1.heap.objs.size], _, _, H1, rfl, I1.kept (t' := s1.toks) hk, turn_p a (s1.heap.objs.size + 1) s1.heap.objs.size, ⟨⟨.none, he⟩, hit, Nat.succ_ne_self _⟩, fun b hb => ?_, q⟩
    have hle : s1.heap.objs.size ≤ b := by
      have z : b = s1.heap.objs.size + 1 ∨ b = s1.heap.objs.size := by simpa using hb
      rcases z with z | z <;> (rw [z]; first | exact Nat.le_refl _ | exact Nat.le_succ _)
    exact I1.fpOk hle (I1.hok.fresh hle)
/-- .. over data -/
theorem wk_enumT {r : Res} {sl : List Sl} {K : PySem.W.Frag} {t : TA} {P : Nat → (Nat → D) → Prop} (h : EvA r t sl fun ds => ∃ (es : List D) (n : Nat) (f : Nat → D), ds = [.tup es] ∧ es.length = n ∧ (∀ i, i < n → es[i]? = some (f i)) ∧ P n fun i => .tup [.int i, f i]) :
    WkD r (iEnumT K t) sl P := fun B H σ e Rk q =>
  h B H σ e _ fun vs B2 H2 ds g j rv ⟨es, n, f, hd, hl, hf, p⟩ => by
    subst hd
    obtain ⟨v, rfl, a, xs, rfl, ha, hx⟩ := rv.one
    have hn : xs.length = n := by rw [hx.length, hl]
    refine ⟨a, xs, rfl, SqT.of (g.k a _ ha), q _ B2 H2 n _ g j p ⟨fun i H' hi s => ?_, fun H' s => ⟨xs, SqT.of (s a _ ha), hn⟩, fun i H' x H'' hi s y B' sB sH => ?_⟩⟩
    · exact ⟨xs, xs[i], SqT.of (s a _ ha), List.getElem?_eq_getElem (by omega)⟩
    · obtain ⟨T, u, rfl, hT, rfl, hy⟩ := y
      obtain ⟨d, e1, rd⟩ := hx.getV (hy xs (SqT.of (s a _ ha)))
      rw [hf i hi] at e1; cases e1
      refine ⟨_, Grow.new sH hT, T, _, rfl, upd_same, ?_⟩
      exact .cons rfl (.cons ((rd.mono sB).mono (Sub.upd (none_of sH hT))) .nil)
end Dt

namespace Dt
open PySem L2
/-! ### the text by places -/
def top (i : Nat) : Stmt := PySem.Challenge.pw_heldwater_k19_par_months_cut_off.main.body.getD i (.Pass ⟨0, 0, 0, 0⟩)
abbrev s_site_number : Stmt := top 8
abbrev s_cells : Stmt := top 9
abbrev s_cell_supply : Stmt := top 10
abbrev s_let_to : Stmt := top 11
abbrev s_let_from : Stmt := top 12
abbrev s_received : Stmt := top 17
abbrev s_spill : Stmt := top 18
abbrev s_cell_fault : Stmt := top 19
abbrev s_month_fault : Stmt := top 20
abbrev s_plan_fault : Stmt := top 21
abbrev s_joined : Stmt := top 23
abbrev s_parted : Stmt := top 24
abbrev s_init : Stmt := inClass (top 25) 0
abbrev s_row_at : Stmt := inClass (top 25) 1
abbrev s_trace : Stmt := inClass (top 25) 2
abbrev s_lost : Stmt := inClass (top 25) 3
abbrev s_tuples : Stmt := top 26
abbrev s_parcels : Stmt := top 27
abbrev s__law_cell : Stmt := top 29
abbrev s__law_digits : Stmt := top 30
abbrev s__law_draw : Stmt := top 31
abbrev s__law_same : Stmt := top 32
abbrev s__law_basin : Stmt := top 33
abbrev s__law_demands : Stmt := top 34
abbrev s__law_rights : Stmt := top 35
abbrev s__law_cells : Stmt := top 36
abbrev s__law_receives : Stmt := top 37
abbrev s__law_drawn_plan : Stmt := top 38
abbrev s__law_rows : Stmt := top 39
abbrev s__law_origins : Stmt := top 40
abbrev s__law_cut : Stmt := top 41
abbrev s_law : Stmt := top 42

/-- what the top has left: constants, built-ins that no name hides -/
structure Txt (mg : Str → Option Value) : Prop where
  cNAME : ∃ t, mg "NAME" = some (.int 0 t)
  cNEXT : ∃ t, mg "NEXT" = some (.int 1 t)
  cTRAVEL : ∃ t, mg "TRAVEL" = some (.int 2 t)
  cREACH : ∃ t, mg "REACH" = some (.int 3 t)
  cROOM : ∃ t, mg "ROOM" = some (.int 4 t)
  cHELD : ∃ t, mg "HELD" = some (.int 5 t)
  cINFLOWS : ∃ t, mg "INFLOWS" = some (.int 6 t)
  range : mg "range" = none
  len : mg "len" = none
  enumerate : mg "enumerate" = none
  sum : mg "sum" = none
  min : mg "min" = none
  sorted : mg "sorted" = none
  tuple : mg "tuple" = none
  list : mg "list" = none
  int : mg "int" = none
  repr : mg "repr" = none
  dict : mg "dict" = none
/-- a def of the text stands at its name -/
structure FunAt (K : PySem.W.Frag) (mg : Str → Option Value) (x : Str) (st : Stmt) (ps : List Str) : Prop where
  ex : ∃ f fd, Fun K x x st f fd ∧ mg x = some (.ref f) ∧ Binds K fd ps []
/-- .. and keeps a promise -/
structure Has (P : Program) (w : World) (K : PySem.W.Frag) (mg : Str → Option Value) (base : Heap) (k : Nat) (x : Str) (ps : List Str) (sp : Sp) : Prop where
  ex : ∃ f fd, FnOk P w K mg base CX0 k f fd ps sp ∧ mg x = some (.ref f) ∧ PySem.W.keepIn K (.ref f) = true ∧ Binds K fd ps []
section
variable {P : Program} {w : World} {K : PySem.W.Frag} {mg : Str → Option Value} {base : Heap}
theorem pe_gint {X : Cx} {x : Str} {i : Int} {pos : Pos} (h : ∃ t, X.mg x = some (.int i t)) (hg : Gl X x) (hd : (x == ("__debug__" : Str)) = false := by decide) : PE X (.Name x pos) (tC (.int i)) := by
  obtain ⟨t, h⟩ := h
  exact pe_glob hg h ⟨t, rfl⟩ hd
theorem pe_has {X : Cx} {k : Nat} {x : Str} {ps : List Str} {sp : Sp} {e : Expr} {es : List Expr} {t : TA} {p pos : Pos} (h : Has X.prog X.w X.K X.mg X.base k x ps sp) (hr : Room k X.A) (hg : Gl X x) (ha : PA X (e :: es) t)
    (hdb : (x == ("__debug__" : Str)) = false := by decide) (he : starEach (e :: es) X.env = (false, eval e X.env) :: starEach es X.env := by rfl) (hpl : (backTo pos (starEach es X.env)).any (·.1) = false := by rfl) :
    PE X (.Call (.Name x p) (e :: es) [] pos) (tCall sp [] E0 t) := by
  obtain ⟨f, fd, F, hm, hk, hb⟩ := h.ex
  exact pe_call F hr hg hm hk hb .nil pass0 ha hdb he hpl
/-- what a body is asked for -/
abbrev endOf (P : D → Prop) : Post := ⟨fun _ => P .non, Ret P, fun _ => False, fun _ => False⟩
theorem has_of {x : Str} {st : Stmt} {N ps : List Str} {k : Nat} {r : Res} {T : List D → (D → Prop) → Prop} (F : FunAt K mg x st ps) (S : FnScope N ps (defScope st)) (hT : ∀ ds P, T ds P → ds.length = ps.length)
    (hbody : ∀ (f : Addr) (cdv : Value) (A : Around) (outer : List PySem.Env) (s : Shared) (H : Hp) (E : XK), Room k (A.deeper (PyProof.Rows.envOfC x (defScope st) s.heap.objs.size f cdv)) →
      ∃ t, PSs (cxOf CX0 P w K mg base N x (defScope st) f cdv A outer s H E).nox (defBody st) t ∧ ∀ ds Pd, T ds Pd → Sx r t (slots N.length ds) (endOf Pd)) : Has P w K mg base (k + 1) x ps (spD r T) := by
  obtain ⟨f, fd, F, hm, hb⟩ := F.ex
  refine ⟨f, fd, F.ok S (spD_len hT) fun cdv A outer s H vs Q E hr h => ?_, hm, F.kp, hb⟩
  obtain ⟨t, ht, hs⟩ := hbody f cdv A outer s H E hr
  exact ⟨t, ht, spD_go h hs⟩
end

/-! ### the shapes of the data -/
def nm (k : Nat) : Str := ⟨#[115, 97 + k]⟩
def nmR (k : Nat) : Str := ⟨#[114, 97 + k]⟩
theorem nm_inj {i j : Nat} (h : nm i = nm j) : i = j := by
  unfold nm at h
  injection h with h
  have := congrArg Array.toList h
  simp at this
  exact this
def dN : Option Nat → D
  | none => .non
  | some j => .str (nm j)
def dO : Option Int → D
  | none => .non
  | some i => .int i
abbrev dRow (n : Nat) (f : Nat → Int) : D := .tup ((List.range n).map fun i => .int (f i))
abbrev dSite (b : Hw.B) (k : Nat) : D := .tup [.str (nm k), dN (b.next k), .int (b.travel k), dO (b.reach k), .int (b.room k), .int (b.held k), dRow b.months (b.inflow k)]
abbrev dB (b : Hw.B) : D := .tup [.int b.months, .tup ((List.range b.n).map (dSite b))]
abbrev dRight (b : Hw.B) (k : Nat) : D := .tup [.str (nmR k), .str (nm (b.rsite k)), dRow b.months (b.dem k)]
abbrev dRs (b : Hw.B) : D := .tup ((List.range b.nr).map (dRight b))
abbrev dMat (n M : Nat) (f : Nat → Nat → Int) : D := .tup ((List.range n).map fun i => dRow M (f i))
abbrev dP (b : Hw.B) (p : Hw.P) : D := .tup [dMat b.nr b.months p.del, dMat b.n b.months p.rel, dMat b.n b.months p.sto]
abbrev dC (k m : Nat) : D := .tup [.int k, .int m]
abbrev dCell (c : Nat × Nat) : D := dC c.1 c.2
def dOC : Option (Nat × Nat) → D
  | none => .non
  | some c => dCell c
/-- sizes -/
structure Good (b : Hw.B) : Prop where
  ok : Hw.BOk b
  m1 : 1 ≤ b.months
  n4 : b.n ≤ 4
  m4 : b.months ≤ 4
  r4 : b.nr ≤ 4
end Dt

namespace Dt
open PySem L2
section
variable {r : Res} {sl : List Sl} {N : Post} {t u : TS} {te ta tb tl : TE} {g : TG} {K : PySem.W.Frag} {wi : TI} {P : D → Prop}
theorem and_len {n : Nat} {Q : Prop} (h : n ≤ 100000) (q : Q) : n ≤ 100000 ∧ Q := ⟨h, q⟩
theorem ev_var' {i : Nat} {d : D} (h : sl[i]? = some (.dat d)) (p : P d) : EvP r (tVar i) sl P := ev_var d h p
theorem od_ix1' {ds : List D} {i : Int} {d : D} (h : atI ds i = some d) (p : P d) : OpD r (rIx K) (.tup ds) (.int i) P := od_ix1 d h p
theorem od_ix2' {ds : List D} {i : Int} {d : D} (h : atI ds i = some d) (p : P d) : OpD r (rIx K) (.list ds) (.int i) P := od_ix2 d h p
theorem od_ixM {n k : Nat} {f : Nat → D} (h : k < n) (p : P (f k)) : OpD r (rIx K) (.tup ((List.range n).map f)) (.int (k : Nat)) P := od_ix1 _ (atI_map h) p
theorem od_ixML {n k : Nat} {f : Nat → D} (h : k < n) (p : P (f k)) : OpD r (rIx K) (.list ((List.range n).map f)) (.int (k : Nat)) P := od_ix2 _ (atI_map h) p
theorem od_ixR {n k : Nat} {f : Nat → Int} (h : k < n) (p : P (.int (f k))) : OpD r (rIx K) (dRow n f) (.int (k : Nat)) P := od_ixM (f := fun i => .int (f i)) h p
theorem od_eqI {i j : Int} (p : P (.bl (decide (i = j)))) : OpD r rEq (.int i) (.int j) P := od_eq rfl rfl rfl (by
  have e : decide (V.int i = V.int j) = decide (i = j) := by
    rw [Bool.eq_iff_iff]; simp
  rw [e]; exact p)
theorem od_eqS {i j : Str} (p : P (.bl (decide (i = j)))) : OpD r rEq (.str i) (.str j) P := od_eq rfl rfl rfl (by
  have e : decide (V.str i = V.str j) = decide (i = j) := by
    rw [Bool.eq_iff_iff]; simp
  rw [e]; exact p)
theorem if_dec {c A B : Prop} [Decidable c] (h1 : c → A) (h2 : ¬ c → B) : if decide c = true then A else B := by
  by_cases h : c
  · rw [if_pos (decide_eq_true h)]; exact h1 h
  · rw [if_neg (by simp [h])]; exact h2 h
theorem if_tt {A B : Prop} (h : A) : if true = true then A else B := by rw [if_pos rfl]; exact h
theorem if_ff {A B : Prop} (h : B) : if false = true then A else B := by rw [if_neg (by decide)]; exact h
theorem isN_dN {o : Option Nat} : isNon (dN o) = some o.isNone := by cases o <;> rfl
theorem isN_dO {o : Option Int} : isNon (dO o) = some o.isNone := by cases o <;> rfl
theorem if_b {c : Bool} {A B : Prop} (h1 : c = true → A) (h2 : c = false → B) : if c = true then A else B := by
  cases c with
  | true => exact if_tt (h1 rfl)
  | false => exact if_ff (h2 rfl)
theorem if_nt {A B : Prop} (h : B) : if (!true) = true then A else B := if_ff h
theorem if_nf {A B : Prop} (h : A) : if (!false) = true then A else B := if_tt h
theorem ev_neg (h : EvP r te sl fun d => ∃ i, d = .int i ∧ P (.int (-i))) : EvP r (tUn (rU fun i => .int (-i)) te) sl P := fun B H σ e Q q =>
  h B H σ e _ fun v B2 H2 d g j rv ⟨i, hd, p⟩ => by
    subst hd
    cases (show v = .int i from rv)
    exact ⟨i, rfl, q (.int (-i)) B2 H2 (.int (-i)) g j rfl p⟩
theorem od_mulL {i j : Int} (h : -1000000000 < i ∧ i < 1000000000) (p : P (.int (i * j))) : OpD r (rI CMul fun i j => .int (i * j)) (.int i) (.int j) P := od_mul (.inl (by omega)) p
theorem od_mulR {i j : Int} (h : -1000000000 < j ∧ j < 1000000000) (p : P (.int (i * j))) : OpD r (rI CMul fun i j => .int (i * j)) (.int i) (.int j) P := od_mul (.inr (by omega)) p
theorem od_modD {i j : Int} (h : 0 < j) (p : P (.int (i % j))) : OpD r (rI (fun _ j => 0 < j) fun i j => .int (i % j)) (.int i) (.int j) P := od_mod h p
theorem od_fdivD {i j : Int} (h : 0 < j ∧ j < 1073741824) (p : P (.int (i / j))) : OpD r (rI CDiv fun i j => .int (i / j)) (.int i) (.int j) P := od_fdiv h p
theorem ex_bl {Q : Bool → Prop} {b : Bool} (h : Q b) : ∃ c, D.bl b = .bl c ∧ Q c := ⟨b, rfl, h⟩
theorem ex_int {Q : Int → Prop} {b : Int} (h : Q b) : ∃ c, D.int b = .int c ∧ Q c := ⟨b, rfl, h⟩
end
end Dt

namespace Dt
open PySem L2
section
variable {r : Res} {sl : List Sl} {N : Post} {t u : TS} {te ta tb tl : TE} {g g1 : TG} {K : PySem.W.Frag} {wi wi1 : TI} {P : D → Prop}
/-- no slot has l of its own -/
def Apart (sl : List Sl) (l : Addr) : Prop := ∀ (i : Nat) (s : Sl), sl[i]? = some s → s.addr ≠ some l
theorem Apart.setD {sl : List Sl} {l : Addr} (h : Apart sl l) (i : Nat) (d : D) : Apart (sl.set i (.dat d)) l := fun j s hs ha => by
  by_cases hj : i = j
  · subst hj
    have hl : i < sl.length := by
      have := (List.getElem?_eq_some_iff.mp hs).1
      simpa using this
    rw [List.getElem?_set_self hl] at hs
    cases hs; cases ha
  · rw [List.getElem?_set_ne hj] at hs
    exact h j s hs ha
theorem Apart.setNo {sl : List Sl} {l : Addr} (h : Apart sl l) (i : Nat) : Apart (sl.set i .no) l := fun j s hs ha => by
  by_cases hj : i = j
  · subst hj
    have hl : i < sl.length := by
      have := (List.getElem?_eq_some_iff.mp hs).1
      simpa using this
    rw [List.getElem?_set_self hl] at hs
    cases hs; cases ha
  · rw [List.getElem?_set_ne hj] at hs
    exact h j s hs ha
theorem Apart.wipe {sl : List Sl} {l : Addr} (h : Apart sl l) : ∀ vs, Apart (wipeS sl vs) l
  | [] => h
  | v :: vs => (Apart.wipe h vs).setNo v
/-- a name of a comprehension takes d -/
def CgN (r : Res) (g : TG) (d : D) (vs : List Nat) (sl : List Sl) (P : List Sl → Prop) : Prop :=
  ∀ B H σ v, EnvOk r B H σ sl → R B v d → ∀ Q : L2.St → Hp → Prop, (∀ σ2 sl2, P sl2 → EnvOk r B H σ2 sl2 → (∀ l, Apart sl l → Apart sl2 l) → L2.wipe σ2 vs = L2.wipe σ vs → Q σ2 H) → g v σ H Q
theorem cgn_name {j : Nat} {d : D} {vs : List Nat} {P : List Sl → Prop} (hj : j ∈ vs) (h : P (sl.set j (.dat d))) : CgN r (gName j) d vs sl P := fun B H σ v e rv Q q => q _ _ h (e.setD j rv) (fun l a => a.setD j d) (wipe_set hj _)
theorem grow_beside {M : Addr → Prop} {B H B2 H2 : Hp} {l : Addr} {o : HO} (G : Grow (fun a => M a ∨ a = l) B H B2 H2) (b : B2 l = none) : Grow (fun a => M a ∨ a = l) B H B2 (upd H2 l o) := by
  refine ⟨G.b, fun a o ea na => ?_, fun a ha => ?_, fun a o ea => ?_, G.n⟩
  · rw [upd_ne (show a ≠ l from fun z => na (.inr z))]; exact G.h a o ea na
  · by_cases z : a = l
    · subst z; rw [upd_same]; simp
    · rw [upd_ne z]; exact G.t a ha
  · rw [upd_ne (show a ≠ l from fun z => by rw [z, b] at ea; cases ea)]; exact G.k a o ea
theorem ev_lc2 {vs vs1 : List Nat} (h : WkD r wi sl fun n f => n ≤ 200 ∧ ∃ I : Nat → List D → Prop, I 0 [] ∧
    (∀ i acc, i < n → I i acc → CgN r g (f i) vs (wipeS sl vs) fun sl2 => WkD r wi1 sl2 fun n1 f1 => n1 ≤ 200 ∧ ∃ I1 : Nat → List D → Prop, I1 0 acc ∧
      (∀ j acc', j < n1 → I1 j acc' → CgN r g1 (f1 j) vs1 (wipeS sl2 vs1) fun sl3 => EvP r te sl3 fun d => I1 (j + 1) (acc' ++ [d])) ∧ ∀ acc', I1 n1 acc' → I (i + 1) acc') ∧ ∀ acc, I n acc → P (.list acc)) :
    EvP r (tLc2 wi g tYes wi1 g1 tYes te vs vs1) sl P := fun B H σ e Q q => by
  refine h B H σ e _ fun J B2 H2 n it g2 j ⟨hn, I, i0, is, ie⟩ w => fun Dl hD => ?_
  have e2 := (e.grow g2 j).wipe vs
  have ap : Apart (wipeS sl vs) Dl := e2.apart hD
  have mD : ¬ r.M Dl := fun m => e2.mt Dl m hD
  have bD : B2 Dl = none := none_of e2.sub hD
  refine ⟨fun i m H => m = n - i ∧ i ≤ n ∧ ∃ B acc xs, EnvOk r B H (L2.wipe σ vs) (wipeS sl vs) ∧ Grow (fun a => r.M a ∨ a = Dl) B2 H2 B H ∧ B Dl = none ∧ H Dl = some (.lst xs) ∧ RA B xs acc ∧ acc.length ≤ i * 200 ∧ I i acc,
    ⟨n, rfl, Nat.zero_le _, B2, [], [], e2.setH bD mD ap, Grow.fresh e2.sub hD, bD, upd_same, .nil, by simp, i0⟩, ?_⟩
  rintro i m H3 ⟨rfl, hi, B3, acc, xs, e3, g3, b3, h3, r3, l3, p⟩
  have s3 : Sub B2 H3 := g3.b.trans e3.sub
  by_cases hlt : i < n
  · refine .inr ⟨w.goes i H3 hlt s3, fun H => ∃ B acc xs, EnvOk r B H (L2.wipe σ vs) (wipeS sl vs) ∧ Grow (fun a => r.M a ∨ a = Dl) B2 H2 B H ∧ B Dl = none ∧ H Dl = some (.lst xs) ∧ RA B xs acc ∧ acc.length ≤ (i + 1) * 200 ∧ I (i + 1) acc,
      fun H' z => ⟨n - (i + 1), by omega, rfl, hlt, z⟩, fun x H4 y => ?_⟩
    obtain ⟨B4, g4, rx⟩ := w.gives i H3 x H4 hlt s3 y B3 g3.b e3.sub
    have e4 := e3.grow (g4.mono fun _ z => z.elim) (r.st _ _ _ _ e3.J g4.b fun b o m e => g4.h b o e fun z => z)
    have h4 : H4 Dl = some (.lst xs) := g4.h _ _ h3 fun z => z
    have b4 : B4 Dl = none := (g4.n Dl (by rw [h3]; simp)).trans b3
    refine is i acc hlt p B4 H4 _ x e4 rx _ fun σ5 sl5 k5 e5 ap5 w5 => ⟨w5.trans (wipe_wipe σ vs), ?_⟩
    have a5 : Apart sl5 Dl := ap5 Dl ap
    simp only [tYes, ↓reduceIte]
    refine k5 B4 H4 σ5 e5 _ fun J1 B6 H6 n1 it1 g6 j6 ⟨hn1, I1, i10, i1s, i1e⟩ w1 => ?_
    have e56 := e5.grow g6 j6
    refine ⟨fun k m1 H => m1 = n1 - k ∧ k ≤ n1 ∧ ∃ B acc xs, EnvOk r B H (L2.wipe σ vs) (wipeS sl vs) ∧ EnvOk r B H σ5 sl5 ∧ Grow (fun a => r.M a ∨ a = Dl) B2 H2 B H ∧ Sub B6 B ∧ B Dl = none ∧ H Dl = some (.lst xs) ∧ RA B xs acc ∧ acc.length ≤ i * 200 + k ∧ I1 k acc,
      ⟨n1, rfl, Nat.zero_le _, B6, acc, xs, e4.grow g6 j6, e56, (g3.trans (g4.mono fun _ z => z.elim)).trans (g6.mono fun _ z => .inl z), .refl _, (g6.n Dl (by rw [h4]; simp)).trans b4, g6.h _ _ h4 mD, (r3.mono g4.b).mono g6.b, by omega, i10⟩, ?_⟩
    rintro k m1 H7 ⟨rfl, hk, B7, acc7, xs7, e7, f7, g7, s67, b7, h7, r7, l7, p7⟩
    have s7 : Sub B6 H7 := s67.trans e7.sub
    by_cases hlk : k < n1
    · refine .inr ⟨w1.goes k H7 hlk s7, fun H => ∃ B acc xs, EnvOk r B H (L2.wipe σ vs) (wipeS sl vs) ∧ EnvOk r B H σ5 sl5 ∧ Grow (fun a => r.M a ∨ a = Dl) B2 H2 B H ∧ Sub B6 B ∧ B Dl = none ∧ H Dl = some (.lst xs) ∧ RA B xs acc ∧ acc.length ≤ i * 200 + (k + 1) ∧ I1 (k + 1) acc,
        fun H' z => ⟨n1 - (k + 1), by omega, rfl, hlk, z⟩, fun x8 H8 y8 => ?_⟩
      obtain ⟨B8, g8, rx8⟩ := w1.gives k H7 x8 H8 hlk s7 y8 B7 s67 e7.sub
      have j8 := r.st _ _ _ _ e7.J g8.b fun b o m e => g8.h b o e fun z => z
      have e8 := e7.grow (g8.mono fun _ z => z.elim) j8
      have f8 := f7.grow (g8.mono fun _ z => z.elim) j8
      have h8 : H8 Dl = some (.lst xs7) := g8.h _ _ h7 fun z => z
      have b8 : B8 Dl = none := (g8.n Dl (by rw [h7]; simp)).trans b7
      refine i1s k acc7 hlk p7 B8 H8 _ x8 (f8.wipe vs1) rx8 _ fun σ9 sl9 k9 e9 ap9 w9 => ⟨w9.trans (wipe_wipe σ5 vs1), ?_⟩
      simp only [tYes, ↓reduceIte]
      refine k9 B8 H8 σ9 e9 _ fun v B10 H10 d g10 j10 rv p10 => ?_
      have h10 : H10 Dl = some (.lst xs7) := g10.h _ _ h8 mD
      have b10 : B10 Dl = none := (g10.n Dl (by rw [h8]; simp)).trans b8
      have e10 := e8.grow g10 j10
      have f10 := f8.grow g10 j10
      have hle : i * 200 + 200 ≤ n * 200 := by have := Nat.mul_le_mul_right 200 hlt; omega
      have G10 : Grow (fun a => r.M a ∨ a = Dl) B2 H2 B10 H10 := (g7.trans (g8.mono fun _ z => z.elim)).trans (g10.mono fun _ z => .inl z)
      refine ⟨xs7, h10, Nat.lt_of_le_of_lt (show xs7.length ≤ 50000 by rw [r7.length]; omega) (by decide), B10, acc7 ++ [d], xs7 ++ [v], e10.setH b10 mD ap, f10.setH b10 mD a5, grow_beside G10 b10, (s67.trans g8.b).trans g10.b, b10, upd_same, ((r7.mono g8.b).mono g10.b).append (.cons rv .nil), by simp; omega, p10⟩
    · have ek : k = n1 := by omega
      subst ek
      exact .inl ⟨w1.stops H7 s7, B7, acc7, xs7, e7, g7, b7, h7, r7, by omega, i1e acc7 p7⟩
  · have ei : i = n := by omega
    subst ei
    refine .inl ⟨w.stops H3 s3, ?_⟩
    have G := g3.keep hD b3 h3
    exact q (.ref Dl) _ H3 (.list acc) (g2.trans G) (r.st _ _ _ _ e3.J (Sub.upd b3) fun a o m e => e) ⟨Dl, xs, rfl, upd_same, r3.mono (Sub.upd b3)⟩ (ie acc p)
/-! ### deep == -/
mutual
/-- data without values as they are -/
def toP : D → PyData
  | .non => .none
  | .bl b => .bool b
  | .int i => .int i
  | .str x => .str x
  | .list ds => .list (toPs ds)
  | .tup ds => .tuple (toPs ds)
  | .raw _ => .none
def toPs : List D → List PyData
  | [] => []
  | d :: ds => toP d :: toPs ds
end
mutual
def noRaw : D → Bool
  | .raw _ => false
  | .list ds => noRaws ds
  | .tup ds => noRaws ds
  | _ => true
def noRaws : List D → Bool
  | [] => true
  | d :: ds => noRaw d && noRaws ds
end
mutual
theorem R.dp {H : Hp} : ∀ {d : D} {v : V}, noRaw d = true → R H v d → Dp K H v (toP d)
  | .non, _, _, h => by cases (show _ = V.non from h); exact .non
  | .bl b, _, _, h => by cases (show _ = V.bl b from h); exact .bl b
  | .int b, _, _, h => by cases (show _ = V.int b from h); exact .int b
  | .str b, _, _, h => by cases (show _ = V.str b from h); exact .str b
  | .list ds, _, n, h => by
    obtain ⟨a, xs, rfl, ha, hx⟩ := h
    exact .lst (SqL.of ha) (RA.dp (by simpa [noRaw] using n) hx)
  | .tup ds, _, n, h => by
    obtain ⟨a, xs, rfl, ha, hx⟩ := h
    exact .tup (SqT.of ha) (RA.dp (by simpa [noRaw] using n) hx)
  | .raw u, _, n, _ => by simp [noRaw] at n
theorem RA.dp {H : Hp} : ∀ {ds : List D} {vs : List V}, noRaws ds = true → RA H vs ds → DpAll K H vs (toPs ds)
  | [], _, _, h => by cases (show _ = [] from h); exact .nil
  | d :: ds, _, n, h => by
    obtain ⟨v, r, rfl, h1, h2⟩ := h
    have n' : noRaw d = true ∧ noRaws ds = true := by simpa [noRaws] using n
    exact .cons (R.dp n'.1 h1) (RA.dp n'.2 h2)
end
theorem od_eqD {x y : D} {b : Bool} (nx : noRaw x = true) (ny : noRaw y = true) (sx : SeqAt.shaped (toP x) = true) (sy : SeqAt.shaped (toP y) = true) (hb : PyData.eqv (toP x) (toP y) = b) (p : P (.bl b)) : OpD r (rEqD K) x y P := od_val p fun B H v w s _ rv rw' =>
  ⟨.bl b, rfl, fun Q q => ⟨toP x, toP y, (R.mono s rv).dp nx, (R.mono s rw').dp ny, sx, sy, by rw [hb]; exact q⟩⟩
end
end Dt

/-! the rules with the written part named, so that they fit within a comprehension's block -/
namespace Dt
open PySem L2
section
variable {X : Cx}
theorem ixq (K : PySem.W.Frag) (h : X.K = K := by rfl) : IxR X (rIx K) := h ▸ ix_seq
theorem lenq (K : PySem.W.Frag) (h : X.K = K := by rfl) : CallR X (.builtin "len") (fun xs H Q => ∃ p ys, xs = [V.ref p] ∧ (SqL K H p ys ∨ SqT K H p ys) ∧ Q (.int ys.length) H) := h ▸ call_len_seq
theorem tupq (K : PySem.W.Frag) (h : X.K = K := by rfl) : CallR X (.type "tuple") (fun xs H Q => ∃ p ys, xs = [V.ref p] ∧ ((SqL K H p ys ∧ ∀ l, H l = none → Q (.ref l) (upd H l (.tup ys))) ∨ (SqT K H p ys ∧ Q (.ref p) H))) := h ▸ call_tuple_of
theorem listq (K : PySem.W.Frag) (h : X.K = K := by rfl) : CallR X (.type "list") (fun xs H Q => ∃ p ys, xs = [V.ref p] ∧ (SqL K H p ys ∨ SqT K H p ys) ∧ ∀ l, H l = none → Q (.ref l) (upd H l (.lst ys))) := h ▸ call_list_of
theorem sumq (K : PySem.W.Frag) (hc : X.calm = true := by rfl) (h : X.K = K := by rfl) : CallR X (.builtin "sum") (rSum K) := h ▸ cr_sum hc
theorem sortq (K : PySem.W.Frag) (h : X.K = K := by rfl) : CallR X (.builtin "sorted") (rSortedPO K) := h ▸ cr_sortedPO
theorem eqq (K : PySem.W.Frag) (hu : X.A.units + 64 < cLine) (h : X.K = K := by rfl) : OpR X (compareOp .Eq) (rEqD K) := h ▸ op_eqD hu
theorem slq (K : PySem.W.Frag) (h : X.K = K := by rfl) : SlR X (rSlA K) := h ▸ sl_tupA
theorem catq (K : PySem.W.Frag) (h : X.K = K := by rfl) : OpR X (binaryOp .Add) (rCatA K) := h ▸ op_catA
theorem pi_listq (K : PySem.W.Frag) {tg l : Expr} {tl : TE} (hl : PE X l tl) (h : X.K = K := by rfl) : PI X tg l (iList K tl) := h ▸ pi_list hl
theorem pi_tupq (K : PySem.W.Frag) {tg l : Expr} {tl : TE} (hl : PE X l tl) (h : X.K = K := by rfl) : PI X tg l (iTup K tl) := h ▸ pi_tup hl
theorem pg_tupq (K : PySem.W.Frag) (n : Nat) {es : List Expr} {k : Nat} {t : TGs} {pos : Pos} (hc : X.calm = true) (hg : PGs X es t) (h : X.K = K := by rfl) (hn : (assignEach es X.env).length = n := by rfl) (hst : (assignEach es X.env).findIdx? (·.1) = none := by rfl) :
    PG X (.Tuple es k pos) (gTup K n t) := h ▸ pg_tup hc hg hn hst
theorem pe_fldq (K : PySem.W.Frag) {e : Expr} {f : Str} {ta : TE} {pos : Pos} (he : PE X e ta) (hb : attributeBase e f X.env (eval e X.env) = eval e X.env) (h : X.K = K := by rfl) : PE X (.Attribute e f pos) (tFld K ta f) := h ▸ pe_fld he hb
theorem pi_enumq (K : PySem.W.Frag) {e : Expr} {ta : TA} {p pos tpos : Pos} {elts : List Expr} {kk : Nat} (hg : Gl X "enumerate") (hm : X.mg "enumerate" = none) (ha : PA X [e] ta) (h : X.K = K := by rfl) (hs : starEach [e] X.env = [(false, eval e X.env)] := by rfl) :
    PI X (.Tuple elts kk tpos) (.Call (.Name "enumerate" p) [e] [] pos) (iEnumT K ta) := h ▸ pi_enumT hg hm ha hs
end
end Dt

/-! statements that change what is kept -/
namespace Dt
open PySem L2
def Fr (r r' : Res) (H0 : Hp) : Prop := ∀ x, r'.M x → r.M x ∨ H0 x = none
section
variable {γ : Type} {r r1 : Res} {R : γ → Res} {g : γ} {sl : List Sl} {t u : TS} {te ta tb : TE} {K : PySem.W.Frag} {wi : TI} {P : γ → List Sl → Prop} {N : Post}
/-- from what g says to what some g' says -/
def SxG (R : γ → Res) (g : γ) (t : TS) (sl : List Sl) (P : γ → List Sl → Prop) : Prop :=
  ∀ B0 H0 B H σ D, At (R g) B0 H0 B H σ sl → (∀ B H σ sl g', P g' sl → At (R g') B0 H0 B H σ sl → D.nx σ H) → t D σ H
/-- to the end of the body -/
def SxE (r : Res) (R : γ → Res) (g : γ) (t : TS) (sl : List Sl) (N : Post) : Prop :=
  ∀ B0 H0 B H σ D, At (R g) B0 H0 B H σ sl → Fr r (R g) H0 → Fin r B0 H0 N D → t D σ H
theorem sxg_of (h : Sx (R g) t sl ⟨P g, fun _ _ _ _ => False, fun _ => False, fun _ => False⟩) : SxG R g t sl P := fun B0 H0 B H σ D a f =>
  h B0 H0 B H σ D a ⟨fun B H σ sl n a' => f B H σ sl g n a', fun _ _ _ z => z.elim, fun _ _ _ _ z => z.elim, fun _ _ _ _ z => z.elim⟩
theorem sxg_next (h : P g sl) : SxG R g tNext sl P := fun B0 H0 B H σ D a f => f B H σ sl g h a
theorem sxg_seq (h : SxG R g t sl fun g' sl2 => SxG R g' u sl2 P) : SxG R g (tSeq t u) sl P := fun B0 H0 B H σ D a f =>
  h B0 H0 B H σ _ a fun B H σ sl g' p a' => p B0 H0 B H σ D a' f
theorem SxG.mono {P' : γ → List Sl → Prop} (h : SxG R g t sl P) (k : ∀ g sl, P g sl → P' g sl) : SxG R g t sl P' := fun B0 H0 B H σ D a f => h B0 H0 B H σ D a fun B H σ sl g' p a' => f B H σ sl g' (k g' sl p) a'
theorem sxg_cut (M : γ → List Sl → Prop) (h : SxG R g t sl M) (k : ∀ g sl, M g sl → SxG R g u sl P) : SxG R g (tSeq t u) sl P := sxg_seq (h.mono k)
theorem sxg_set {i : Nat} (h : EvP (R g) te sl fun d => P g (sl.set i (.dat d))) : SxG R g (tAsg te (gName i)) sl P := sxg_of (sx_set h)
theorem sxg_asg {gt : TG} (h : EvP (R g) te sl fun d => Gx (R g) gt d sl (P g)) : SxG R g (tAsg te gt) sl P := sxg_of (sx_asg h)
theorem sxg_drop (h : EvP (R g) te sl fun _ => P g sl) : SxG R g (tDrop te) sl P := sxg_of (sx_drop h)
theorem sxg_if {tt : TT} (h : EvT (R g) tt sl fun b => if b = true then SxG R g t sl P else SxG R g u sl P) : SxG R g (tIfS tt t u) sl P := fun B0 H0 B H σ D a f =>
  h B H σ a.e _ fun b B2 H2 g j p => by
    cases b with
    | true => exact p B0 H0 B2 H2 σ D (a.grow g j) f
    | false => exact p B0 H0 B2 H2 σ D (a.grow g j) f
theorem sxg_for {gt : TG} (hM : ∀ g g' x, (R g).M x → (R g').M x) (h : WkD (R g) wi sl fun n f => ∃ I : Nat → γ → List Sl → Prop, I 0 g sl ∧ (∀ i g' sl2, i < n → I i g' sl2 → Gx (R g') gt (f i) sl2 fun sl3 => SxG R g' t sl3 (I (i + 1))) ∧ ∀ g' sl2, I n g' sl2 → P g' sl2) : SxG R g (tFor wi gt t) sl P := fun B0 H0 B H σ D a f => by
  refine h B H σ a.e _ fun J B2 H2 n it g2 j ⟨I, i0, is, ie⟩ w => ?_
  have a2 := (a.grow g2 j)
  have ar := a2.rebase
  refine ⟨fun i m σ H => m = n - i ∧ i ≤ n ∧ ∃ B sl2 g', At (R g') B2 H0 B H σ sl2 ∧ I i g' sl2, ⟨n, rfl, Nat.zero_le _, B2, sl, g, ar, i0⟩, ?_⟩
  rintro i m σ3 H3 ⟨rfl, hi, B3, sl3, g3, a3, p⟩
  have s3 : Sub B2 H3 := a3.g.b.trans a3.e.sub
  by_cases hlt : i < n
  · refine .inr ⟨w.goes i H3 hlt s3, fun σ' H' => ∃ B sl2 g', At (R g') B2 H0 B H' σ' sl2 ∧ I (i + 1) g' sl2, fun σ' H' ⟨B, sl2, g', q1, q2⟩ => ⟨n - (i + 1), by omega, rfl, hlt, B, sl2, g', q1, q2⟩, fun x H' y => ?_⟩
    obtain ⟨B4, g4, rx⟩ := w.gives i H3 x H' hlt s3 y B3 a3.g.b a3.e.sub
    have a4 := a3.grow (g4.mono fun _ z => z.elim) ((R g3).st _ _ _ _ a3.e.J g4.b fun b o m e => g4.h b o e fun z => z)
    refine is i g3 sl3 hlt p B2 H0 B4 H' σ3 x a4 rx _ fun B5 H5 σ5 sl5 k5 a5 _ => k5 B2 H0 B5 H5 σ5 _ a5 fun B H σ sl g' q b => ⟨B, sl, g', b, q⟩
  · have e : i = n := by omega
    subst e
    exact .inl ⟨w.stops H3 s3, f B3 H3 σ3 sl3 g3 (ie g3 sl3 p) (a3.unbase (a2.g.mono (hM g g3)))⟩
theorem sxe_seq (hM : ∀ g g' x, (R g).M x → (R g').M x) (h : SxG R g t sl fun g' sl2 => SxE r R g' u sl2 N) : SxE r R g (tSeq t u) sl N := fun B0 H0 B H σ D a fr f =>
  h B0 H0 B H σ _ a fun B H σ sl g' p a' => p B0 H0 B H σ D a' (fun x m => fr x (hM g' g x m)) f
theorem sxe_ret {Pd : D → Prop} {nx bk ct : List Sl → Prop} (hJ : ∀ B H, (R g).J B H → r.J B H) (h : EvP (R g) te sl Pd) : SxE r R g (tRet te) sl ⟨nx, Ret Pd, bk, ct⟩ := fun B0 H0 B H σ D a fr f =>
  h B H σ a.e _ fun v B2 H2 d g j rv p => f.rt B2 H2 v ⟨d, rv, p⟩ (hJ _ _ j) ((a.g.trans g).less fr)
/-- one footing for another that says the same -/
theorem EnvOk.swap {r r' : Res} {B H : Hp} {σ : L2.St} (e : EnvOk r B H σ sl) (hM : ∀ x, r'.M x ↔ r.M x) (j : r'.J B H) : EnvOk r' B H σ sl := by
  refine ⟨e.len, fun i s h => ?_, e.nd, e.sub, fun a m => e.mb a ((hM a).mp m), fun a m => e.mt a ((hM a).mp m), j⟩
  obtain ⟨o, h1, h2⟩ := e.at_ i s h
  refine ⟨o, h1, ?_⟩
  cases s with
  | no => trivial
  | dat d => exact h2
  | own l ds => obtain ⟨q1, q2, q3, q4⟩ := h2; exact ⟨q1, q2, fun z => q3 ((hM l).mp z), q4⟩
  | ownD l ds => obtain ⟨q1, q2, q3, q4⟩ := h2; exact ⟨q1, q2, fun z => q3 ((hM l).mp z), q4⟩
theorem At.swap {r r' : Res} {B0 H0 B H : Hp} {σ : L2.St} (a : At r B0 H0 B H σ sl) (hM : ∀ x, r'.M x ↔ r.M x) (j : r'.J B H) : At r' B0 H0 B H σ sl :=
  ⟨a.e.swap hM j, a.own, a.g.mono fun x m => (hM x).mpr m⟩
theorem sxe_swap {δ : Type} {R' : δ → Res} {g' : δ} (hM : ∀ x, (R' g').M x ↔ (R g).M x) (hJ : ∀ B H, (R g).J B H → (R' g').J B H) (h : SxE r R' g' t sl N) : SxE r R g t sl N := fun B0 H0 B H σ D a fr f =>
  h B0 H0 B H σ D (a.swap hM (hJ _ _ a.e.J)) (fun x m => fr x ((hM x).mp m)) f
theorem sx_e (h : SxE r (fun _ : Unit => r) () t sl N) : Sx r t sl N := fun B0 H0 B H σ D a f => h B0 H0 B H σ D a (fun _ m => .inl m) f

/-! ### rows of one's own -/
def rAdd (r : Res) (as : List Addr) (zs : List V) : Res := ⟨fun x => r.M x ∨ x ∈ as, fun B H => r.J B H ∧ ∀ a ∈ as, H a = some (.lst zs), fun B H B2 H2 ⟨j, k⟩ s m => ⟨r.st B H B2 H2 j s fun a o ma e => m a o (.inl ma) e, fun a ha => m a _ (.inr ha) (k a ha)⟩⟩
/-- a new list that nobody else has -/
def EvFresh (r : Res) (te : TE) (sl : List Sl) (zs : List V) : Prop :=
  ∀ B H σ, EnvOk r B H σ sl → ∀ Q : VK, (∀ B2 H2 a, Grow r.M B H B2 H2 → r.J B2 H2 → H2 a = none → Q (.ref a) (upd H2 a (.lst zs))) → te σ H Q
theorem RA.raws {B : Hp} : ∀ as : List Addr, RA B (as.map V.ref) (as.map fun a => D.raw (.ref a))
  | [] => .nil
  | a :: as => .cons (show R B (.ref a) (.raw (.ref a)) from rfl) (RA.raws as)
theorem EnvOk.more {r r' : Res} {B H : Hp} {σ : L2.St} (e : EnvOk r B H σ sl) (hs : ∀ s ∈ sl, s.addr = none) (mb : ∀ a, r'.M a → B a = none) (mt : ∀ a, r'.M a → H a ≠ none) (j : r'.J B H) : EnvOk r' B H σ sl := by
  refine ⟨e.len, fun i s h => ?_, e.nd, e.sub, mb, mt, j⟩
  obtain ⟨o, h1, h2⟩ := e.at_ i s h
  refine ⟨o, h1, ?_⟩
  have ha := hs s (List.mem_of_getElem? h)
  cases s with
  | no => trivial
  | dat d => exact h2
  | own l ds => cases ha
  | ownD l ds => cases ha
theorem sxe_rows {i k : Nat} {vs : List Nat} {zs : List V} (hk : k ∈ vs) (hs : ∀ s ∈ sl, s.addr = none)
    (h : WkD r1 wi sl fun n f => n ≤ 50000 ∧ (∀ j, j < n → EvFresh r1 te ((wipeS sl vs).set k (.dat (f j))) zs) ∧
      ∀ as : List Addr, as.length = n → as.Nodup → (∀ a ∈ as, ¬ r1.M a) → SxE r (fun _ : Unit => rAdd r1 as zs) () u (sl.set i (.dat (.list (as.map fun a => .raw (.ref a))))) N) :
    SxE r (fun _ : Unit => r1) () (tSeq (tAsg (tLc wi (gName k) tYes te vs) (gName i)) u) sl N := fun B0 H0 B H σ D a0 fr f => by
  refine h B H σ a0.e _ fun J B2 H2 n it g2 j ⟨hn, hf, hc⟩ w => fun Dl hD => ?_
  have a2 := a0.grow g2 j
  have e2 := a2.e.wipe vs
  have ap := e2.apart hD
  have mD : ¬ r1.M Dl := fun m => e2.mt Dl m hD
  have bD : B2 Dl = none := none_of e2.sub hD
  refine ⟨fun i m H => m = n - i ∧ i ≤ n ∧ ∃ (B : Hp) (as : List Addr), EnvOk r1 B H (L2.wipe σ vs) (wipeS sl vs) ∧ Grow (fun a => r1.M a ∨ a = Dl) B2 H2 B H ∧ B Dl = none ∧ H Dl = some (.lst (as.map V.ref)) ∧ as.length = i ∧ as.Nodup ∧ ∀ a ∈ as, H a = some (.lst zs) ∧ B a = none ∧ ¬ r1.M a ∧ H2 a = none ∧ a ≠ Dl,
    ⟨n, rfl, Nat.zero_le _, B2, [], e2.setH bD mD ap, Grow.fresh e2.sub hD, bD, upd_same, rfl, .nil, (fun a ha => by cases ha)⟩, ?_⟩
  rintro i' m H3 ⟨rfl, hi, B3, as, e3, g3, b3, h3, l3, n3, p3⟩
  have s3 : Sub B2 H3 := g3.b.trans e3.sub
  by_cases hlt : i' < n
  · refine .inr ⟨w.goes i' H3 hlt s3, fun H => ∃ (B : Hp) (as : List Addr), EnvOk r1 B H (L2.wipe σ vs) (wipeS sl vs) ∧ Grow (fun a => r1.M a ∨ a = Dl) B2 H2 B H ∧ B Dl = none ∧ H Dl = some (.lst (as.map V.ref)) ∧ as.length = i' + 1 ∧ as.Nodup ∧ ∀ a ∈ as, H a = some (.lst zs) ∧ B a = none ∧ ¬ r1.M a ∧ H2 a = none ∧ a ≠ Dl,
      fun H' z => ⟨n - (i' + 1), by omega, rfl, hlt, z⟩, fun x H4 y => ?_⟩
    obtain ⟨B4, g4, rx⟩ := w.gives i' H3 x H4 hlt s3 y B3 g3.b e3.sub
    have e4 := e3.grow (g4.mono fun _ z => z.elim) (r1.st _ _ _ _ e3.J g4.b fun b o m e => g4.h b o e fun z => z)
    have h4 : H4 Dl = some (.lst (as.map V.ref)) := g4.h _ _ h3 fun z => z
    have b4 : B4 Dl = none := (g4.n Dl (by rw [h3]; simp)).trans b3
    refine ⟨(wipe_set hk _).trans (wipe_wipe σ vs), ?_⟩
    simp only [tYes, ↓reduceIte]
    refine hf i' hlt B4 H4 _ (e4.setD k rx) _ fun B7 H7 a g7 j7 ha7 => ?_
    have h7 : H7 Dl = some (.lst (as.map V.ref)) := g7.h _ _ h4 mD
    have b7 : B7 Dl = none := (g7.n Dl (by rw [h4]; simp)).trans b4
    have e7 := e4.grow g7 j7
    have G7 : Grow (fun a => r1.M a ∨ a = Dl) B2 H2 B7 H7 := (g3.trans (g4.mono fun _ z => z.elim)).trans (g7.mono fun _ z => .inl z)
    have aD : a ≠ Dl := fun z => by rw [z, h7] at ha7; cases ha7
    have p7 : ∀ x ∈ as, H7 x = some (.lst zs) ∧ B7 x = none ∧ ¬ r1.M x ∧ H2 x = none ∧ x ≠ Dl := fun x hx => by
      obtain ⟨q1, q2, q3, q4, q5⟩ := p3 x hx
      have q6 := g4.h _ _ q1 fun z => z
      exact ⟨g7.h _ _ q6 q3, (g7.n x (by rw [q6]; simp)).trans ((g4.n x (by rw [q1]; simp)).trans q2), q3, q4, q5⟩
    have ma : ¬ r1.M a := fun m => e7.mt a m ha7
    have aas : a ∉ as := fun z => by rw [(p7 a z).1] at ha7; cases ha7
    have G8 := Grow.fresh (M := fun a => r1.M a ∨ a = Dl) (o := .lst zs) G7.k ha7
    have e8 : EnvOk r1 B7 (upd H7 a (.lst zs)) (L2.wipe σ vs) (wipeS sl vs) := e7.setH (none_of e7.sub ha7) ma (e7.apart ha7)
    have h8 : upd H7 a (.lst zs) Dl = some (.lst (as.map V.ref)) := by rw [upd_ne (Ne.symm aD)]; exact h7
    refine ⟨as.map V.ref, h8, Nat.lt_of_le_of_lt (show (as.map V.ref).length ≤ 50000 by rw [List.length_map]; omega) (by decide), B7, as ++ [a], e8.setH b7 mD ap, ?_, b7, ?_, by simp; omega, ?_, ?_⟩
    · exact grow_beside (G7.trans G8) b7
    · rw [upd_same]; simp
    · rw [List.nodup_append]
      refine ⟨n3, by simp, fun x hx y hy => ?_⟩
      rw [List.mem_singleton] at hy
      subst hy
      exact fun z => aas (z ▸ hx)
    · intro x hx
      rcases List.mem_append.mp hx with hx | hx
      · obtain ⟨q1, q2, q3, q4, q5⟩ := p7 x hx
        refine ⟨?_, q2, q3, q4, q5⟩
        rw [upd_ne q5, upd_ne (show x ≠ a from fun z => aas (z ▸ hx))]; exact q1
      · rw [List.mem_singleton] at hx
        subst hx
        refine ⟨by rw [upd_ne aD, upd_same], none_of e7.sub ha7, ma, ?_, aD⟩
        cases q : H2 x with
        | none => rfl
        | some o => exact absurd ha7 (G7.t x (by rw [q]; simp))
  · have ei : i' = n := by omega
    subst ei
    refine .inl ⟨w.stops H3 s3, ?_⟩
    have G := g3.keep hD b3 h3
    have a3 := a2.grow G (r1.st _ _ _ _ e3.J (Sub.upd b3) fun a o m e => e)
    have bz : ∀ x ∈ as, upd B3 Dl (.lst (as.map V.ref)) x = none := fun x hx => by
      rw [upd_ne (p3 x hx).2.2.2.2]; exact (p3 x hx).2.1
    have e5 : EnvOk (rAdd r1 as zs) _ H3 σ sl := a3.e.more hs (fun x m => m.elim (a3.e.mb x) (bz x)) (fun x m => m.elim (a3.e.mt x) fun z => by rw [(p3 x z).1]; simp) ⟨a3.e.J, fun x hx => (p3 x hx).1⟩
    have a5 : At (rAdd r1 as zs) B0 H0 _ H3 σ sl := ⟨e5, a3.own, a3.g.mono fun x m => .inl m⟩
    refine hc as l3 n3 (fun x hx => (p3 x hx).2.2.1) B0 H0 _ H3 _ D (a5.setD i (v := .ref Dl) ⟨Dl, as.map V.ref, rfl, upd_same, RA.raws as⟩) (fun x m => ?_) f
    rcases m with m | m
    · exact fr x m
    · exact .inr (a2.fresh (p3 x m).2.2.2.1)
/-- [z] * n, a new list -/
theorem ev_rep {z : Int} {n : Nat} (hn : n ≤ 1000) (h : EvP r ta sl fun d => d = .int n) : EvFresh r (tOp rRep (tLst (tCons (tC (.int z)) tNil)) ta) sl (List.replicate n (.int z)) := fun B H σ e Q q => by
  refine ⟨by show 1 ≤ sizeLine; decide, fun l hl => ?_⟩
  have g1 := Grow.fresh (M := r.M) e.sub (o := .lst [.int z]) hl
  have j1 : r.J B (upd H l (.lst [.int z])) := r.st _ _ _ _ e.J (.refl B) fun x o m e' => Sub.upd hl x o e'
  have e1 := e.grow g1 j1
  refine h B _ σ e1 _ fun v B2 H2 d g2 j2 rv hd => ?_
  subst hd
  cases (show v = .int n from rv)
  have hl2 : H2 l = some (.lst [.int z]) := g2.h _ _ upd_same fun m => e.mt l m hl
  refine ⟨l, n, [.int z], rfl, rfl, hl2, by omega, by omega, by show 1 * (n : Int).toNat ≤ sizeLine; rw [Int.toNat_natCast]; exact Nat.le_trans (show 1 * n ≤ 1000 by omega) (by decide), fun p hp => ?_⟩
  have q' := q B2 H2 p (g1.trans g2) j2 hp
  have ez : (List.replicate (n : Int).toNat [V.int z]).flatten = List.replicate n (.int z) := by
    rw [Int.toNat_natCast]
    clear q' hn q h rv j2
    induction n with
    | zero => rfl
    | succ n ih => rw [List.replicate_succ, List.flatten_cons, ih, List.replicate_succ]; rfl
  rw [ez]
  exact q'
end
theorem noOwn_of {sl : List Sl} (h : (sl.all fun s => s.addr.isNone) = true) : ∀ s ∈ sl, s.addr = none := fun s hs => by
  have := List.all_eq_true.mp h s hs
  exact Option.isNone_iff_eq_none.mp this
/-! ### promises that hold for every footing of a kind -/
def spE {ι : Type} (r : ι → Res) (T : ι → List D → (D → Prop) → Prop) : Sp := fun vs H Q E => ∃ i, spD (r i) (T i) vs H Q E
theorem ev_callE {ι : Type} {r : Res} {c : ι → Res} {sl : List Sl} {T : ι → List D → (D → Prop) → Prop} {E : XK} {ta : TA} {Pd : D → Prop} (i : ι) (k : Compat r (c i)) (h : EvA r ta sl fun ds => T i ds Pd) : EvP r (tCall (spE c T) [] E ta) sl Pd := fun B H σ e Q q =>
  h B H σ e _ fun vs B2 H2 ds g j rv p => by
    have e2 := e.grow g j
    refine ⟨i, B2, ds, Pd, g.k, fun a m => e2.mb a (k.m a m), fun a m => e2.mt a (k.m a m), k.j _ _ j, by rw [List.append_nil]; exact rv, p, fun v B3 H3 d g3 j3 rv3 p3 => ?_⟩
    exact q v B3 H3 d (g.trans (g3.mono k.m)) (k.back _ _ _ _ j j3 g3) rv3 p3
theorem has_ofE {ι : Type} {P : Program} {w : World} {K : PySem.W.Frag} {mg : Str → Option Value} {base : Heap} {x : Str} {st : Stmt} {N ps : List Str} {k : Nat} {r : ι → Res} {T : ι → List D → (D → Prop) → Prop} (F : FunAt K mg x st ps) (S : FnScope N ps (defScope st)) (hT : ∀ i ds P, T i ds P → ds.length = ps.length)
    (hbody : ∀ (f : Addr) (cdv : Value) (A : Around) (outer : List PySem.Env) (s : Shared) (H : Hp) (E : XK), Room k (A.deeper (PyProof.Rows.envOfC x (defScope st) s.heap.objs.size f cdv)) →
      ∃ t, PSs (cxOf CX0 P w K mg base N x (defScope st) f cdv A outer s H E).nox (defBody st) t ∧ ∀ i ds Pd, T i ds Pd → Sx (r i) t (slots N.length ds) (endOf Pd)) : Has P w K mg base (k + 1) x ps (spE r T) := by
  obtain ⟨f, fd, F, hm, hb⟩ := F.ex
  refine ⟨f, fd, F.ok S (fun vs H Q E h => ?_) fun cdv A outer s H vs Q E hr h => ?_, hm, F.kp, hb⟩
  · obtain ⟨i, h⟩ := h
    exact spD_len (hT i) vs H Q E h
  · obtain ⟨t, ht, hs⟩ := hbody f cdv A outer s H E hr
    obtain ⟨i, h⟩ := h
    exact ⟨t, ht, spD_go h (hs i)⟩
end Dt

/-! a dict comprehension whose keys are tuples -/
namespace Dt
open PySem L2
section
variable {X : Cx} {pins : List (Addr × Obj)} {σ : L2.St} {H : Hp} {s : Shared} {scope : Scope} {fp : List Addr}
def bcells (X : Cx) (s : Shared) (scope : Scope) : List (Str × Addr) := cellsFrom (s.heap.objs.size + 1) scope.names (cloFrom X.env.cells scope.names [])
abbrev benv (X : Cx) (s : Shared) (scope : Scope) : PySem.Env := compEnvC scope (bcells X s scope) s.heap.objs.size X.env
def tabObj : Obj := { cls := .type "dict", data := .dict #[] }
def bsh (s : Shared) (scope : Scope) : Shared := { s with heap := pushCells (s.heap.push tabObj) scope.names }
/-- the block's context -/
abbrev BX (X : Cx) (s : Shared) (H : Hp) (scope : Scope) (fp : List Addr) : Cx := X.blk s H scope (benv X s scope) fp
theorem blk_still {σ' : L2.St} {H' : Hp} {s' : Shared} (I' : Inv (BX X s H scope fp) [] σ' H' s') (hn : ∀ b ∈ fp, H' b = none) : ∀ b ∈ fp, FpOk (BX X s H scope fp) [] H' b := by
  intro b hb
  have e := I'.ok.exf b hb
  refine ⟨hn b hb, e.1, I'.ok.exfs b hb, Or.inl hb, e.2, ?_⟩
  intro q hq
  cases hq
theorem blk_out {σ' : L2.St} {H' : Hp} {s' : Shared} (I : Inv X pins σ H s) (I' : Inv (BX X s H scope fp) [] σ' H' s') (hf : ∀ b ∈ fp, FpOk X pins H b ∧ b < s.heap.objs.size) :
    Inv X pins σ H' s' ∧ (∃ m, s'.heap.Ns s.heap.objs.size m) ∧ FpOk X pins H' s.heap.objs.size := by
  refine ⟨I.call' (ch := fp) I'.os I'.base I'.hok I'.bare ?_, ?_, I.fpOk (Nat.le_refl _) I'.free⟩
  · intro b hb
    obtain ⟨⟨_, q1, _, q3, q4, q5⟩, _⟩ := hf b hb
    exact ⟨q3, q1, q4, q5⟩
  · obtain ⟨m, z, _⟩ := I'.loc
    exact ⟨m, z⟩
theorem blk_next {P : Program} {w : World} {K : PySem.W.Frag} {tg : Expr} {J : It} {it : Addr} {tn : Nat → Heap → Prop} {i : Nat} {σ' : L2.St} {H' : Hp} {s' : Shared} {h0 : Heap} {vs : List Nat} (T : Turn P w K tg J fp it tn) (t0 : tn i h0)
    (I' : Inv (BX X s H scope fp) ([] ++ pinsAt fp h0) σ' H' s') (hw : wipe σ' vs = wipe σ vs) : Inv (BX X s H scope fp) [] (wipe σ vs) H' s' ∧ tn i s'.heap ∧ ∀ b ∈ fp, H' b = none := by
  have there : ∀ b ∈ fp, ∀ o, h0.get? b = some o → s'.heap.get? b = some o ∧ H' b = none := by
    intro b hb o e
    obtain ⟨z1, z2, _⟩ := I'.pin (b, o) (List.mem_append_right _ (List.mem_append_right _ (mem_pinsAt hb e)))
    exact ⟨z1, z2⟩
  refine ⟨(Inv.unpinned (pins := []) I').weak ?_ ?_, T.keep i _ _ t0 fun b hb o e => (there b hb o e).1, fun b hb => ?_⟩
  · have l1 := wipe_length σ' vs
    rw [hw] at l1
    exact l1
  · intro n v e
    rw [← hw] at e
    exact (wipe_some e).1
  · obtain ⟨o, e, _⟩ := T.obj i h0 t0 b hb
    exact (there b hb o e).2
/-- a pair goes into the table -/
theorem setT {E : Value → Shared → Prop} {D b : Addr} {kvs : List (List Key × V)} {k : List Key} {v : V} {r : Value} {Q : Unit → Shared → Prop} (hu : X.A.units < cLine) (I : Inv X pins σ H s) (hD : H D = some (.dT kvs)) (hz : kvs.length < sizeLine) (eb : H b = some (.tup (k.map kV)))
    (rv : RelV v r) (h : ∀ s', Inv X pins σ (upd H D (.dT (putK kvs k v))) s' → Q () s') : wpAny (model X.prog X.w) X.A (dictSet D (.ref b) r) Q E s := by
  obtain ⟨z1, z2, xs, rel, dd⟩ := dt_of I.hok hD
  have hx : xs.length ≤ sizeLine := by have := Paired.length rel; omega
  refine wpAny_dictSet_heap (hsz := hx) (show (tupleKind (mixKind X.prog X.w)).room X.A from hu) (key_of I.hok eb) dd fun h1 d1 sb => h _ ?_
  have hl := length_putK kvs k v
  obtain ⟨q, es, ep, hq, w1, w2, w3, w4⟩ := d1
  refine d_write I (by rw [hD]; trivial) sb ⟨q, hq⟩ ⟨by omega, z2, _, (rel.put k eb rv).keeps fun c ys ec => ?_, q, es, ep, hq, w1, w2, w3, w4.2⟩
  rw [upd_ne]
  · exact ec
  · intro z
    rw [z, hD] at ec
    cases ec
def tDcT (wi : TI) (g : TG) (tt : TT) (tk tv : TE) (vs : List Nat) : TE := fun σ H Q => wi σ H fun J H1 => ∀ D, H1 D = none → ∃ W : Nat → Nat → Hp → Prop, (∃ m, W 0 m (upd H1 D (.dT []))) ∧ ∀ i m H, W i m H →
  (J.stop i H ∧ Q (.ref D) H) ∨ (J.go i H ∧ ∃ Nx : Hp → Prop, (∀ H', Nx H' → ∃ m', m' < m ∧ W (i + 1) m' H') ∧ ∀ x H', J.yld i H x H' → g x (wipe σ vs) H' fun σ2 H2 => wipe σ2 vs = wipe σ vs ∧ tt σ2 H2 fun c H3 =>
    if c = true then tk σ2 H3 fun y H4 => tv σ2 H4 fun z H5 => ∃ kvs k b, y = .ref b ∧ H5 b = some (.tup (k.map kV)) ∧ H5 D = some (.dT kvs) ∧ kvs.length < sizeLine ∧ Nx (upd H5 D (.dT (putK kvs k z))) else Nx H3)
theorem dct_core {kx vx tg iter : Expr} {ifs : List Expr} {own : List (Str × Nat)} {pos pos' : Pos} {wi : TI} {g : TG} {tt : TT} {tk tv : TE} {Q : VK} {use : Option (Value → Sem Unit)} {Qf : Value → Shared → Prop} (hu : X.A.units < cLine) (hc : X.calm = true) (hN : X.N.Nodup) (I : Inv X pins σ H s) (hi : PI X tg iter wi) (ok : BlkOk X.N X.env.scope scope own)
    (hg : ∀ s H C cl fp, PG (X.blk s H scope (compEnvC scope cl C X.env) fp) tg g) (ht : ∀ s H C cl fp, PTs (X.blk s H scope (compEnvC scope cl C X.env) fp) ifs tt)
    (hk : ∀ s H C cl fp, PE (X.blk s H scope (compEnvC scope cl C X.env) fp) kx tk) (he : ∀ s H C cl fp, PE (X.blk s H scope (compEnvC scope cl C X.env) fp) vx tv)
    (hs : ∀ x, foldedSetIterable iter X.env x = pure x) (h : tDcT wi g tt tk tv (own.map (·.2)) σ H Q)
    (done : ∀ D C s' m H', Inv X pins σ H' s' → Q (.ref D) H' → s'.heap.Ns C m → FpOk X pins H' C → compPost (model X.prog X.w) X.A X.xe use Qf (.ref D) C (.ok .next) s') :
    wpAny (model X.prog X.w) X.A (comprehension (.DictComp kx vx [⟨tg, iter, ifs, 0⟩] scope pos) scope X.env pos' newDict false (eval iter X.env) use) Qf X.xe s := by
  obtain ⟨vs, hvs⟩ : ∃ vs, vs = own.map (·.2) := ⟨_, rfl⟩
  rw [← hvs] at h
  have cl : closureFor scope X.env = pure (cloFrom X.env.cells scope.names []) := closure_ok fun y hy e => (ok.free y hy e).elim (fun z => I.ok.has _ (Or.inl z)) fun z => I.ok.has _ (Or.inr z)
  refine wpAny_comprehension_free (use := use) rfl hs cl ok.kind (fun y hy e => (ok.uniq y hy).trans (by rw [e])) ?_
  refine thn (hi.run pins s σ H _ I h) fun v s1 r1 => thn r1 fun v2 s2 r2 => ?_
  obtain ⟨it, fp, tn, J, H2, rfl, I2, T, t2, f2, q⟩ := r2
  refine wpAny_newObj_type (newEnv_comp ?_)
  -- the table
  obtain ⟨D, hD⟩ : ∃ D, D = s2.heap.objs.size := ⟨_, rfl⟩
  have fresh : H2 D = none := I2.hok.fresh (Nat.le_of_eq hD.symm)
  obtain ⟨W, ⟨m0, w0⟩, each⟩ := q D fresh
  obtain ⟨s3, hs3⟩ : ∃ s3 : Shared, s3 = { s2 with heap := s2.heap.push tabObj } := ⟨_, rfl⟩
  have I3 : Inv X pins σ (upd H2 D (.dT [])) s3 := by
    subst hs3 hD
    exact I2.laid (t' := s2.toks) (fun b o => Heap.get?_push_of_some _) (Nat.le_refl _) (dt_empty s2.heap I2.big)
  have low : ∀ b ∈ fp, b < s2.heap.objs.size := fun b hb => by
    obtain ⟨o, e, _⟩ := T.obj 0 _ t2 b hb
    exact Heap.lt_size e
  have keep3 : ∀ b o, s2.heap.get? b = some o → s3.heap.get? b = some o := fun b o e => by
    subst hs3; exact Heap.get?_push_of_some _ e
  have f3 : ∀ b ∈ fp, FpOk X pins (upd H2 D (.dT [])) b ∧ b < s3.heap.objs.size := fun b hb => by
    have lb := low b hb
    refine ⟨⟨(upd_ne (show b ≠ D from fun z => by rw [z, hD] at lb; exact Nat.lt_irrefl _ lb)).trans (f2 b hb).1, (f2 b hb).2⟩, ?_⟩
    subst hs3
    exact Nat.lt_of_lt_of_le lb (by rw [Heap.size_push]; omega)
  obtain ⟨H3, hH3⟩ : ∃ H3, H3 = upd H2 D (.dT []) := ⟨_, rfl⟩
  rw [← hH3] at I3 f3 w0
  have I4 : Inv (BX X s3 H3 scope fp) [] (wipe σ vs) H3 (bsh s3 scope) := hvs ▸ block_start I3 ok hN f3
  have t4 : tn 0 (bsh s3 scope).heap := T.keep 0 _ _ t2 fun b _ o e => pushCells_keeps _ _ _ _ (Heap.get?_push_of_some _ (keep3 b o e))
  have main : codeAny (model X.prog X.w) X.A (.compLoop (.DictComp kx vx [⟨tg, iter, ifs, 0⟩] scope pos) 0 (.ref it) (.ref D) (benv X s3 scope))
      (compPost (model X.prog X.w) X.A X.xe use Qf (.ref D) s3.heap.objs.size) (bsh s3 scope) := by
    refine compLoop_anyD (fun n s' => ∃ i H', Inv (BX X s3 H3 scope fp) [] (wipe σ vs) H' s' ∧ tn i s'.heap ∧ (∀ b ∈ fp, H' b = none) ∧ W i n H') ?_ m0 ⟨0, H3, I4, t4, fun b hb => (f3 b hb).1.1, w0⟩
    rintro n s5 ⟨i, H5, I5, t5, n5, w5⟩
    rcases each i n H5 w5 with ⟨stop, fin⟩ | ⟨go, Nx, less, one⟩
    · refine thnF (T.done (BX X s3 H3 scope fp) rfl rfl rfl hc i [] s5 _ H5 (fun _ _ => False) I5 (blk_still I5 n5) t5 stop) ?_
      rintro r s6 ⟨rfl, I6⟩
      obtain ⟨I7, ⟨m, hm⟩, z⟩ := blk_out I3 I6 f3
      exact done D _ s6 m H5 I7 fin hm z
    · refine thnF (T.item (BX X s3 H3 scope fp) rfl rfl rfl hc i [] s5 _ H5 (fun _ _ => False) I5 (blk_still I5 n5) t5 go) ?_
      rintro r s6 ⟨u, rfl, h6⟩
      refine thnF h6 ?_
      rintro _ s7 ⟨x, H7, I7, r7, y7, t7, n7⟩
      have I7' := I7.pinned (blk_still I7 n7) (T.obj _ _ t7)
      have back : ∀ {s' : Shared} {H' : Hp} {σ' : L2.St}, wipe σ' vs = wipe (wipe σ vs) vs → Inv (BX X s3 H3 scope fp) ([] ++ pinsAt fp s7.heap) σ' H' s' → Nx H' → ∃ m, m < n ∧ ∃ i H', Inv (BX X s3 H3 scope fp) [] (wipe σ vs) H' s' ∧ tn i s'.heap ∧ (∀ b ∈ fp, H' b = none) ∧ W i m H' := by
        intro s' H' σ' hw I' nx
        obtain ⟨m, hm, w'⟩ := less H' nx
        rw [Dt.wipe_wipe] at hw
        obtain ⟨z1, z2, z3⟩ := blk_next T t7 I' hw
        exact ⟨m, hm, i + 1, H', z1, z2, z3, w'⟩
      refine thnF ((hg _ _ _ _ _).run _ s7 _ H7 x u _ I7' r7 (one x H7 y7)) ?_
      rintro _ s8 ⟨σ8, H8, I8, hw8, q8⟩
      have hw8' : wipe σ8 vs = wipe (wipe σ vs) vs := by rw [Dt.wipe_wipe]; exact hw8
      refine thnF ((ht _ _ _ _ _).run _ s8 σ8 H8 _ I8 q8) ?_
      rintro c s9 ⟨H9, I9, q9⟩
      cases c with
      | false => exact back hw8' I9 q9
      | true =>
        refine thnF ((hk _ _ _ _ _).run _ s9 σ8 H9 _ I9 q9) ?_
        rintro ku s10 ⟨y, H10, I10, ry, q10⟩
        refine thnF ((he _ _ _ _ _).run _ s10 σ8 H10 _ I10 q10) ?_
        rintro vu s11 ⟨z, H11, I11, rz, kvs, k, b, rfl, eb, eD, el, nx⟩
        cases (show ku = Value.ref b from ry)
        exact setT (X := BX X s3 H3 scope fp) hu I11 eD el eb rz fun s12 I12 => back hw8' I12 nx
  have goal := codeAny_compStart_dict main (T.self X.A 0 _ _ _ t4 main)
  subst hs3 hD
  exact goal
/-- as a value -/
theorem pe_dcT {kx vx tg iter : Expr} {ifs : List Expr} {own : List (Str × Nat)} {pos : Pos} {wi : TI} {g : TG} {tt : TT} {tk tv : TE} (hu : X.A.units < cLine) (hc : X.calm = true) (hN : X.N.Nodup) (hi : PI X tg iter wi) (ok : BlkOk X.N X.env.scope scope own)
    (hg : ∀ s H C cl fp, PG (X.blk s H scope (compEnvC scope cl C X.env) fp) tg g) (ht : ∀ s H C cl fp, PTs (X.blk s H scope (compEnvC scope cl C X.env) fp) ifs tt)
    (hk : ∀ s H C cl fp, PE (X.blk s H scope (compEnvC scope cl C X.env) fp) kx tk) (he : ∀ s H C cl fp, PE (X.blk s H scope (compEnvC scope cl C X.env) fp) vx tv)
    (hs : ∀ x, foldedSetIterable iter X.env x = pure x := by intro _; rfl) : PE X (.DictComp kx vx [⟨tg, iter, ifs, 0⟩] scope pos) (tDcT wi g tt tk tv (own.map (·.2))) := by
  refine ⟨fun pins s σ H Q I h => ?_⟩
  rw [arm_eval_DictComp]
  refine dct_core hu hc hN I hi ok hg ht hk he hs h fun D C s' m H' I' fin hm z => ?_
  obtain ⟨g0, g1, g2, g3, g4, g5⟩ := z
  exact ⟨m, hm, fun h' sb => ⟨.ref D, H', I'.turned (t' := s'.toks) (fun b o hb e => (sb.2 b hb).trans e) g0 g1 g3 g4 g5, rfl, fin⟩⟩
/-- name = {..} within a row of text, the name a local -/
theorem ps_setDcT {i : Nat} {y : Str} {py : Pos} {kx vx tg iter : Expr} {ifs : List Expr} {own : List (Str × Nat)} {pos spos : Pos} {wi : TI} {g : TG} {tt : TT} {tk tv : TE} (hu : X.A.units < cLine) (hc : X.calm = true) (hN : X.N.Nodup) (hy : X.N[i]? = some y) (hyl : X.env.scope.names.lookup y = some .local)
    (hsw : swapsWith (.DictComp kx vx [⟨tg, iter, ifs, 0⟩] scope pos) (some (.Name y py)) spos.line X.env = pure true) (hi : PI X tg iter wi) (ok : BlkOk X.N X.env.scope scope own)
    (hg : ∀ s H C cl fp, PG (X.blk s H scope (compEnvC scope cl C X.env) fp) tg g) (ht : ∀ s H C cl fp, PTs (X.blk s H scope (compEnvC scope cl C X.env) fp) ifs tt)
    (hk : ∀ s H C cl fp, PE (X.blk s H scope (compEnvC scope cl C X.env) fp) kx tk) (he : ∀ s H C cl fp, PE (X.blk s H scope (compEnvC scope cl C X.env) fp) vx tv)
    (hs : ∀ x, foldedSetIterable iter X.env x = pure x := by intro _; rfl) : PS X (.Assign [.Name y py] (.DictComp kx vx [⟨tg, iter, ifs, 0⟩] scope pos) spos) (tAsg (tDcT wi g tt tk tv (own.map (·.2))) (gName i)) := by
  refine ⟨fun pins s σ H Dn I h => ?_⟩
  rw [exec_Assign_Name_used _ _ _ _ hsw]
  refine wpAny_bind (wpAny_standAt (wpAny_bind ?_))
  show wpAny _ X.A (comprehension (.DictComp kx vx [⟨tg, iter, ifs, 0⟩] scope pos) scope X.env (firstIterPos [⟨tg, iter, ifs, 0⟩] pos) newDict false (eval iter X.env) (some (assign (.Name y py) X.env)) >>= fun _ => pure ()) _ _ s
  refine wpAny_bind (thn (dct_core (Q := fun x H1 => gName i x σ H1 Dn.nx) (Qf := fun _ s' => SP X pins Dn .next s') hu hc hN I hi ok hg ht hk he hs h ?_) fun _ s' hq => wpAny_pure (wpAny_pure hq))
  intro D C s' m H' I' fin hm z
  obtain ⟨g0, g1, g2, g3, g4, g5⟩ := z
  show wpAny _ _ (assign (.Name y py) X.env (.ref D)) _ _ _
  refine wpAny_assign_Name (store_ok2 (v := V.ref D) I' hN hy (.inl hyl) rfl (fun s2 I2 ⟨a, sb, ha⟩ => ?_) (.inr hyl))
  have ne : C ≠ a := ha.elim (fun e => e ▸ g1) fun e q => g4 y a e q.symm
  exact ⟨m, hm.sameBut sb ne, fun h3 sb3 => ⟨_, H', I2.turned (t' := s2.toks) (fun b o hb e => (sb3.2 b hb).trans e) g0 g1 g3 g4 g5, fin⟩⟩
theorem swD_true {kx vx : Expr} {gs : List Comprehension} {pos py : Pos} {y : Str} {l : Nat} {env : PySem.Env} (hk : env.scope.kind = .function) (hy : env.scope.names.lookup y = some .local) (hl : (py.line == pos.line) = true)
    (ha : (scope.names.any fun q => q.1 == y && (q.2 == .local || q.2 == .cell)) = false) : swapsWith (.DictComp kx vx gs scope pos) (some (.Name y py)) l env = pure true := by
  have k1 : env.kindOf y = some .local := hy
  have k2 : env.blockKind = .function := by
    unfold Env.blockKind
    rw [hk]; rfl
  unfold swapsWith
  simp only [k2, k1, ha, Expr.pos, hl]
  rfl
end
end Dt

set_option maxHeartbeats 1000000
namespace Dt
open PySem L2
local macro_rules | `(tactic| walk_at "ev") => `(tactic| repeat' (first
  | with_reducible refine sx_seq ?_ | with_reducible refine sx_next ?_ | with_reducible refine sx_retD ?_ | with_reducible refine sx_set ?_ | with_reducible refine sx_asg ?_ | with_reducible refine sx_if ?_ | ((with_reducible apply sx_append); (exact rfl)) | with_reducible refine sx_drop ?_
  | with_reducible refine gx_name ?_ | with_reducible refine gx_tup (by with_unfolding_all rfl) ?_ | with_reducible refine gxs_cons ?_ | with_reducible refine gxs_nil ?_
  | ((with_reducible apply ev_ixOwn); (exact rfl)) | with_reducible refine ev_op ?_ | ((with_reducible apply ev_var'); (exact rfl)) | with_reducible refine ev_int ?_ | with_reducible refine ev_str ?_ | with_reducible refine ev_non ?_ | with_reducible refine ev_bl ?_
  | with_reducible refine ev_neg ?_ | with_reducible refine ca_min2 ?_ | with_reducible refine ca_min3 ?_ | with_reducible refine ca_lenT ?_ | with_reducible refine ca_lenL ?_ | with_reducible refine ca_tuple ?_ | with_reducible refine ca_list ?_ | with_reducible refine ca_int ?_ | with_reducible refine ca_intB ?_
  | with_reducible refine ea_cons ?_ | with_reducible refine ea_nil ?_ | with_reducible refine ev_cb ?_ | with_reducible refine ev_if ?_
  | with_reducible refine et_test ?_ | with_reducible refine et_not ?_ | with_reducible refine et_or ?_ | with_reducible refine et_and ?_ | with_reducible refine et_yes ?_
  | with_reducible refine od_add ?_ | with_reducible refine od_sub ?_ | with_reducible refine od_lt ?_ | with_reducible refine od_le ?_ | with_reducible refine od_gt ?_ | with_reducible refine od_ge ?_ | with_reducible refine od_eqI ?_ | ((with_reducible apply od_mulL); (omega)) | ((with_reducible apply od_mulR); (omega)) | ((with_reducible apply od_modD); (omega)) | ((with_reducible apply od_fdivD); (omega))
  | with_reducible refine od_ixM (by first | assumption | omega) ?_ | ((with_reducible apply od_ix1'); (exact rfl)) | ((with_reducible apply od_ix2'); (exact rfl)) | with_reducible refine od_isN isN_dN ?_ | with_reducible refine od_isN isN_dO ?_ | with_reducible refine od_notN isN_dN ?_ | with_reducible refine od_notN isN_dO ?_ | ((with_reducible apply od_isN); (exact rfl)) | ((with_reducible apply od_notN); (exact rfl))
  | with_reducible refine ev_tup ?_ | with_reducible refine ev_lst ?_ | with_reducible refine ex_bl ?_ | with_reducible refine ex_int ?_ | with_reducible refine if_tt ?_ | with_reducible refine if_ff ?_ | with_reducible refine if_dec (fun _ => ?_) (fun _ => ?_) | with_reducible refine if_nt ?_ | with_reducible refine if_nf ?_ | with_reducible refine if_b (fun _ => ?_) (fun _ => ?_)
  | ((with_reducible apply and_len); (exact Nat.le_of_ble_eq_true rfl))
  ))
section
variable {P : Program} {w : World} {K : PySem.W.Frag} {mg : Str → Option Value} {base : Heap}
/-! ## D1 -/
abbrev N_cell_supply : List Str := ["basin", "cell", "number", "month", "site"]
theorem sc_cell_supply : FnScope N_cell_supply ["basin", "cell"] (defScope s_cell_supply) := ⟨rfl, rfl, rfl, by decide +kernel, rfl, by decide +kernel, by decide +kernel⟩
def tt_cell_supply : List D → (D → Prop) → Prop := fun ds P => ∃ (b : Hw.B) (k m : Nat), ds = [dB b, dC k m] ∧ k < b.n ∧ m < b.months ∧ P (.int (b.inflow k m + if m = 0 then b.held k else 0))
theorem ok_cell_supply (T : Txt mg) (F : FunAt K mg "cell_supply" s_cell_supply ["basin", "cell"]) : Has P w K mg base 1 "cell_supply" ["basin", "cell"] (spD r0 tt_cell_supply) := by
  refine has_of F sc_cell_supply (by rintro ds P ⟨b, k, m, rfl, _⟩; rfl) fun f cdv A outer s H E hr => ⟨_, (pss_cons (ps_asg (pv 1) (pg_tupq K 2 rfl (pgs_cons (pg_name (i := 2) sc_cell_supply.nd rfl (Or.inl rfl)) (pgs_cons (pg_name (i := 3) sc_cell_supply.nd rfl (Or.inl rfl)) pgs_nil))))
  (pss_cons (ps_set (i := 4) sc_cell_supply.nd rfl (Or.inl rfl) (pe_ix (ixq K) (pe_ix (ixq K) (pv 0) pe_int (fun _ _ => rfl)) (pv 2) (fun _ _ => rfl)))
  (pss_one (ps_ret (pe_op op_add (pe_ix (ixq K) (pe_ix (ixq K) (pv 4) (pe_gint T.cINFLOWS rfl) (fun _ _ => rfl)) (pv 3) (fun _ _ => rfl)) (pe_ifExp (pt_cmpR op_eq (pv 3) pe_int (nomark _)) (pe_ix (ixq K) (pv 4) (pe_gint T.cHELD rfl) (fun _ _ => rfl)) pe_int)))))), ?_⟩
  rintro ds Pd ⟨b, k, m, rfl, hk, hm, p⟩
  walk_at "ev"
  · rename_i h
    rw [if_pos (by omega)] at p
    exact p
  · rename_i h
    rw [if_neg (by omega)] at p
    exact p

abbrev N_site_number : List Str := ["basin", "name", "number", "site"]
theorem sc_site_number : FnScope N_site_number ["basin", "name"] (defScope s_site_number) := ⟨rfl, rfl, rfl, by decide +kernel, rfl, by decide +kernel, by decide +kernel⟩
def tt_site_number : List D → (D → Prop) → Prop := fun ds P => ∃ (b : Hw.B) (j : Nat), ds = [dB b, .str (nm j)] ∧ j < b.n ∧ P (.int j)
theorem ok_site_number (T : Txt mg) (F : FunAt K mg "site_number" s_site_number ["basin", "name"]) : Has P w K mg base 1 "site_number" ["basin", "name"] (spD r0 tt_site_number) := by
  refine has_of F sc_site_number (by rintro ds P ⟨b, j, rfl, _⟩; rfl) fun f cdv A outer s H E hr => ⟨_, (pss_cons (ps_for PassesOwn.never rfl (pi_enumq K rfl T.enumerate (pa_cons (pe_ix (ixq K) (pv 0) pe_int (fun _ _ => rfl)) pa_nil)) (pg_tupq K 2 rfl (pgs_cons (pg_name (i := 2) sc_site_number.nd rfl (Or.inl rfl)) (pgs_cons (pg_name (i := 3) sc_site_number.nd rfl (Or.inl rfl)) pgs_nil))) (pss_one (ps_if (pt_cmpR op_eq (pe_ix (ixq K) (pv 3) (pe_gint T.cNAME rfl) (fun _ _ => rfl)) (pv 1) (nomark _)) (pss_one (ps_ret (pv 2))) pss_nil)))
  (pss_one (ps_ret pe_non))), ?_⟩
  rintro ds Pd ⟨b, j, rfl, hj, p⟩
  refine sx_seq (sx_for (wk_enumT ?_))
  walk_at "ev"
  refine ⟨_, b.n, dSite b, rfl, by simp, fun i hi => by simp [hi], fun i sl => i ≤ j ∧ sl[0]? = some (.dat (dB b)) ∧ sl[1]? = some (.dat (.str (nm j))) ∧ sl.length = 4, ⟨Nat.zero_le _, rfl, rfl, rfl⟩, ?_, ?_⟩
  · rintro i sl hi ⟨hij, h0, h1, hl⟩
    obtain ⟨x0, x1, x2, x3, rfl⟩ : ∃ a b c d, sl = [a, b, c, d] := by
      match sl, hl with
      | [a, b, c, d], _ => exact ⟨a, b, c, d, rfl⟩
    cases h0; cases h1
    walk_at "ev"
    refine od_eqS (ex_bl (if_dec (fun h => ?_) fun h => ?_))
    · cases nm_inj h
      walk_at "ev"
      exact p
    · have : i ≠ j := fun z => h (by rw [z])
      walk_at "ev"
      exact ⟨by omega, rfl, rfl, rfl⟩
  · rintro sl ⟨hij, _⟩
    omega

abbrev N_let_to : List Str := ["basin", "cell", "number", "month", "site"]
theorem sc_let_to : FnScope N_let_to ["basin", "cell"] (defScope s_let_to) := ⟨rfl, rfl, rfl, by decide +kernel, rfl, by decide +kernel, by decide +kernel⟩
def tt_let_to : List D → (D → Prop) → Prop := fun ds P => ∃ (b : Hw.B) (k m : Nat), ds = [dB b, dC k m] ∧ k < b.n ∧ m < b.months ∧ Good b ∧ P (dOC (Hw.letTo b k m))
theorem ok_let_to (T : Txt mg) (F : FunAt K mg "let_to" s_let_to ["basin", "cell"]) (h_site_number : Has P w K mg base 1 "site_number" ["basin", "name"] (spD r0 tt_site_number)) :
    Has P w K mg base 2 "let_to" ["basin", "cell"] (spD r0 tt_let_to) := by
  refine has_of F sc_let_to (by rintro ds P ⟨b, k, m, rfl, _⟩; rfl) fun f cdv A outer s H E hr => ⟨_, (pss_cons (ps_asg (pv 1) (pg_tupq K 2 rfl (pgs_cons (pg_name (i := 2) sc_let_to.nd rfl (Or.inl rfl)) (pgs_cons (pg_name (i := 3) sc_let_to.nd rfl (Or.inl rfl)) pgs_nil))))
  (pss_cons (ps_set (i := 4) sc_let_to.nd rfl (Or.inl rfl) (pe_ix (ixq K) (pe_ix (ixq K) (pv 0) pe_int (fun _ _ => rfl)) (pv 2) (fun _ _ => rfl)))
  (pss_cons (ps_if (PW.pt (pw_or (pt_cmpR op_isN1 (pe_ix (ixq K) (pv 4) (pe_gint T.cNEXT rfl) (fun _ _ => rfl)) pe_non (nomark _)) (pw_or1 (pt_cmpR op_ge (pe_op op_add (pv 3) (pe_ix (ixq K) (pv 4) (pe_gint T.cTRAVEL rfl) (fun _ _ => rfl))) (pe_ix (ixq K) (pv 0) pe_int (fun _ _ => rfl)) (nomark _))))) (pss_one (ps_ret pe_non)) pss_nil)
  (pss_one (ps_ret (pe_tup (pa_cons (pe_has h_site_number (hr.mono (by decide)) rfl (pa_cons (pv 0) (pa_cons (pe_ix (ixq K) (pv 4) (pe_gint T.cNEXT rfl) (fun _ _ => rfl)) pa_nil))) (pa_cons (pe_op op_add (pv 3) (pe_ix (ixq K) (pv 4) (pe_gint T.cTRAVEL rfl) (fun _ _ => rfl))) pa_nil)))))))), ?_⟩
  rintro ds Pd ⟨b, k, m, rfl, hk, hm, hn, p⟩
  walk_at "ev"
  · rename_i h
    have e : Hw.letTo b k m = none := by unfold Hw.letTo; rw [Option.isNone_iff_eq_none.mp h]
    rw [e] at p
    exact p
  · rename_i h h'
    obtain ⟨j, hj⟩ : ∃ j, b.next k = some j := Option.ne_none_iff_exists'.mp fun z => by rw [z] at h; cases h
    have e : Hw.letTo b k m = none := by
      unfold Hw.letTo; rw [hj]; exact if_pos (by omega)
    rw [e] at p
    exact p
  · rename_i h h'
    obtain ⟨j, hj⟩ : ∃ j, b.next k = some j := Option.ne_none_iff_exists'.mp fun z => by rw [z] at h; cases h
    have e : Hw.letTo b k m = some (j, m + b.travel k) := by
      unfold Hw.letTo; rw [hj]; exact if_neg (by omega)
    rw [e] at p
    refine ev_call (Compat.pure _) ?_
    walk_at "ev"
    refine ⟨b, j, by rw [hj]; rfl, (hn.ok.nextlt k j hk hj).2, ?_⟩
    walk_at "ev"
    rw [show ((m : Int) + (b.travel k : Int)) = ((m + b.travel k : Nat) : Int) by omega]
    exact p

/-! ## D2 -/
abbrev N_cells : List Str := ["basin", "months", "sites", "month", "number"]
theorem sc_cells : FnScope N_cells ["basin"] (defScope s_cells) := ⟨rfl, rfl, rfl, by decide +kernel, rfl, by decide +kernel, by decide +kernel⟩
def tt_cells : List D → (D → Prop) → Prop := fun ds P => ∃ (b : Hw.B), ds = [dB b] ∧ Good b ∧ P (.list ((Hw.cells b.n b.months).map dCell))
theorem ok_cells (T : Txt mg) (F : FunAt K mg "cells" s_cells ["basin"]) : Has P w K mg base 1 "cells" ["basin"] (spD r0 tt_cells) := by
  refine has_of F sc_cells (by rintro ds P ⟨b, rfl, _⟩; rfl) fun f cdv A outer s H E hr => ⟨_, (pss_cons (ps_asg (pv 0) (pg_tupq K 2 rfl (pgs_cons (pg_name (i := 1) sc_cells.nd rfl (Or.inl rfl)) (pgs_cons (pg_name (i := 2) sc_cells.nd rfl (Or.inr rfl)) pgs_nil))))
  (pss_one (ps_ret (pe_lc2 (own := [("month", 3), ("number", 4)]) (vs1 := [4]) rfl sc_cells.nd (pi_range1 rfl T.range (pa_cons (pv 1) pa_nil)) (blkOk_by (own := [("month", 3), ("number", 4)]) (N := N_cells) (sc := (defScope s_cells)) (by decide +kernel)) (by decide) (fun _ _ _ _ _ => (pg_name (i := 3) sc_cells.nd rfl (Or.inl rfl))) (fun _ _ _ _ _ => pts_nil) (fun _ _ _ _ _ => (pi_range1 rfl T.range (pa_cons (pe_callB (lenq K) (by rfl) T.len (by decide +kernel) (pa_cons (pv 2) pa_nil)) pa_nil))) (fun _ _ _ _ _ => (pg_name (i := 4) sc_cells.nd rfl (Or.inl rfl))) (fun _ _ _ _ _ => pts_nil) (fun _ _ _ _ _ => (pe_tup (pa_cons (pv 4) (pa_cons (pv 3) pa_nil)))))))), ?_⟩
  rintro ds Pd ⟨b, rfl, hb, p⟩
  walk_at "ev"
  refine ev_lc2 (wk_rng1 ?_)
  walk_at "ev"
  have h1 := hb.n4
  have h2 := hb.m4
  refine ⟨b.months, rfl, by omega, by omega, fun i acc => acc = (Hw.cells b.n i).map dCell, rfl, ?_, fun acc h => by rw [h]; exact p⟩
  rintro i acc hi rfl
  refine cgn_name (by decide) (wk_rng1 ?_)
  walk_at "ev"
  try refine ca_lenT ?_
  walk_at "ev"
  refine ⟨b.n, by simp, by omega, by omega, fun j acc => acc = (Hw.cells b.n i ++ (List.range j).map fun k => (k, i)).map dCell, by simp, ?_, fun acc h => (by dsimp only at h ⊢; rw [h, Hw.cells_succ])⟩
  rintro j acc hj rfl
  refine cgn_name (by decide) ?_
  walk_at "ev"
  dsimp only
  rw [List.range_succ]
  simp

theorem eqv_cell {o : Option (Nat × Nat)} {k m : Nat} : PyData.eqv (toP (dOC o)) (toP (dC k m)) = decide (o = some (k, m)) := by
  cases o with
  | none => simp [dOC, toP, PyData.eqv]
  | some c =>
    obtain ⟨a, c⟩ := c
    simp only [dOC, dCell, dC, toP, toPs, PyData.eqv, PyData.eqvAll]
    rw [Bool.eq_iff_iff]
    simp
    omega
theorem dOC_ok (o : Option (Nat × Nat)) : noRaw (dOC o) = true ∧ SeqAt.shaped (toP (dOC o)) = true := by
  cases o with
  | none => exact ⟨rfl, rfl⟩
  | some c => exact ⟨rfl, rfl⟩
abbrev N_let_from : List Str := ["basin", "cell", "other"]
theorem sc_let_from : FnScope N_let_from ["basin", "cell"] (defScope s_let_from) := ⟨rfl, rfl, rfl, by decide +kernel, rfl, by decide +kernel, by decide +kernel⟩
def tt_let_from : List D → (D → Prop) → Prop := fun ds P => ∃ (b : Hw.B) (k m : Nat), ds = [dB b, dC k m] ∧ Good b ∧ P (.list ((Hw.letFrom b k m).map dCell))
theorem cells_le {b : Hw.B} (hb : Good b) : (Hw.cells b.n b.months).length ≤ 16 := by
  have e : ∀ M, (Hw.cells b.n M).length = M * b.n := by
    intro M
    induction M with
    | zero => simp [Hw.cells]
    | succ M ih => rw [Hw.cells_succ, List.length_append, ih]; simp [Nat.succ_mul]
  rw [e]
  have h1 := hb.n4
  have h2 := hb.m4
  have := Nat.mul_le_mul h2 h1
  omega
theorem ok_let_from (T : Txt mg) (F : FunAt K mg "let_from" s_let_from ["basin", "cell"]) (h_cells : Has P w K mg base 1 "cells" ["basin"] (spD r0 tt_cells))
    (h_let_to : Has P w K mg base 2 "let_to" ["basin", "cell"] (spD r0 tt_let_to)) : Has P w K mg base 3 "let_from" ["basin", "cell"] (spD r0 tt_let_from) := by
  refine has_of F sc_let_from (by rintro ds P ⟨b, k, m, rfl, _⟩; rfl) fun f cdv A outer s H E hr => ⟨_, (pss_one (ps_ret (pe_lc (own := [("other", 2)]) rfl sc_let_from.nd (pi_listq K (pe_has h_cells (hr.mono (by decide)) rfl (pa_cons (pv 0) pa_nil))) (blkOk_by (own := [("other", 2)]) (N := N_let_from) (sc := (defScope s_let_from)) (by decide +kernel)) (fun _ _ _ _ _ => (pg_name (i := 2) sc_let_from.nd rfl (Or.inl rfl))) (fun _ _ _ _ _ => (pts_one (pt_cmpR (eqq K hr.units) (pe_has h_let_to (hr.mono (by decide)) rfl (pa_cons (pv 0) (pa_cons (pv 2) pa_nil))) (pv 1) (nomark _)))) (fun _ _ _ _ _ => (pv 2))))), ?_⟩
  rintro ds Pd ⟨b, k, m, rfl, hb, p⟩
  walk_at "ev"
  refine ev_lc (wk_list (ev_call (Compat.pure _) ?_))
  walk_at "ev"
  have hl := cells_le hb
  refine ⟨b, rfl, hb, _, _, fun i => dCell ((Hw.cells b.n b.months).getD i (0, 0)), rfl, rfl, fun i hi => ?_, by simp; omega, fun i acc => acc = (((Hw.cells b.n b.months).take i).filter fun c => decide (Hw.letTo b c.1 c.2 = some (k, m))).map dCell, by simp, ?_, ?_⟩
  · simp only [List.length_map] at hi
    simp [hi]
  · rintro i acc hi _ rfl
    simp only [List.length_map] at hi
    have hc : (Hw.cells b.n b.months).getD i (0, 0) ∈ Hw.cells b.n b.months := by
      rw [List.getD_eq_getElem?_getD, List.getElem?_eq_getElem hi]
      exact List.getElem_mem hi
    have ht : (Hw.cells b.n b.months).take (i + 1) = (Hw.cells b.n b.months).take i ++ [(Hw.cells b.n b.months).getD i (0, 0)] := by
      rw [List.take_add_one, List.getElem?_eq_getElem hi, List.getD_eq_getElem?_getD, List.getElem?_eq_getElem hi]; rfl
    dsimp only
    rw [ht]
    generalize (Hw.cells b.n b.months).getD i (0, 0) = c at *
    obtain ⟨k', m'⟩ := c
    obtain ⟨h1, h2⟩ := Hw.mem_cells.mp hc
    refine cg_name (by decide) ?_
    walk_at "ev"
    refine ev_call (Compat.pure _) ?_
    walk_at "ev"
    refine ⟨b, k', m', rfl, h1, h2, hb, ?_⟩
    walk_at "ev"
    obtain ⟨z1, z2⟩ := dOC_ok (Hw.letTo b k' m')
    refine od_eqD (b := decide (Hw.letTo b k' m' = some (k, m))) z1 rfl z2 rfl eqv_cell (ex_bl (if_dec (fun h => ?_) fun h => ?_))
    · walk_at "ev"
      simp [List.filter_append, h]
    · simp [List.filter_append, h]
  · rintro acc rfl
    simp only [List.length_map, List.take_length]
    exact p

abbrev N_received : List Str := ["basin", "plan", "cell", "number", "month", "_", "releases", "storages", "found", "other", "when"]
theorem sc_received : FnScope N_received ["basin", "plan", "cell"] (defScope s_received) := ⟨rfl, rfl, rfl, by decide +kernel, rfl, by decide +kernel, by decide +kernel⟩
def tt_received : List D → (D → Prop) → Prop := fun ds P => ∃ (b : Hw.B) (p : Hw.P) (k m : Nat), ds = [dB b, dP b p, dC k m] ∧ Good b ∧ k < b.n ∧ m < b.months ∧ P (.int (Hw.recv b p k m))
theorem ok_received (T : Txt mg) (F : FunAt K mg "received" s_received ["basin", "plan", "cell"]) (h_cell_supply : Has P w K mg base 1 "cell_supply" ["basin", "cell"] (spD r0 tt_cell_supply))
    (h_let_from : Has P w K mg base 3 "let_from" ["basin", "cell"] (spD r0 tt_let_from)) : Has P w K mg base 4 "received" ["basin", "plan", "cell"] (spD r0 tt_received) := by
  refine has_of F sc_received (by rintro ds P ⟨b, p, k, m, rfl, _⟩; rfl) fun f cdv A outer s H E hr => ⟨_, (pss_cons (ps_asg (pv 2) (pg_tupq K 2 rfl (pgs_cons (pg_name (i := 3) sc_received.nd rfl (Or.inl rfl)) (pgs_cons (pg_name (i := 4) sc_received.nd rfl (Or.inl rfl)) pgs_nil))))
  (pss_cons (ps_asg (pv 1) (pg_tupq K 3 rfl (pgs_cons (pg_name (i := 5) sc_received.nd rfl (Or.inl rfl)) (pgs_cons (pg_name (i := 6) sc_received.nd rfl (Or.inr rfl)) (pgs_cons (pg_name (i := 7) sc_received.nd rfl (Or.inl rfl)) pgs_nil)))))
  (pss_cons (ps_set (i := 8) sc_received.nd rfl (Or.inl rfl) (pe_has h_cell_supply (hr.mono (by decide)) rfl (pa_cons (pv 0) (pa_cons (pv 2) pa_nil))))
  (pss_cons (ps_if (pt_cmpR op_gt (pv 4) pe_int (nomark _)) (pss_one (ps_aug (i := 8) sc_received.nd rfl (Or.inl rfl) (pe_ix (ixq K) (pe_ix (ixq K) (pv 7) (pv 3) (fun _ _ => rfl)) (pe_op op_sub (pv 4) pe_int) (fun _ _ => rfl)) ip_add)) pss_nil)
  (pss_one (ps_ret (pe_op op_add (pv 8) (pe_callB (sumq K) (by rfl) T.sum (by decide +kernel) (pa_cons (pe_lc (own := [("other", 9), ("when", 10)]) rfl sc_received.nd (pi_listq K (pe_has h_let_from (hr.mono (by decide)) rfl (pa_cons (pv 0) (pa_cons (pv 2) pa_nil)))) (blkOk_by (own := [("other", 9), ("when", 10)]) (N := N_received) (sc := (defScope s_received)) (by decide +kernel)) (fun _ _ _ _ _ => (pg_tupq K 2 rfl (pgs_cons (pg_name (i := 9) sc_received.nd rfl (Or.inl rfl)) (pgs_cons (pg_name (i := 10) sc_received.nd rfl (Or.inl rfl)) pgs_nil)))) (fun _ _ _ _ _ => pts_nil) (fun _ _ _ _ _ => (pe_ix (ixq K) (pe_ix (ixq K) (pv 6) (pv 9) (fun _ _ => rfl)) (pv 10) (fun _ _ => rfl)))) pa_nil))))))))), ?_⟩
  rintro ds Pd ⟨b, p, k, m, rfl, hb, hk, hm, q⟩
  walk_at "ev"
  refine ev_call (Compat.pure _) ?_
  walk_at "ev"
  refine ⟨b, k, m, rfl, hk, hm, ?_⟩
  walk_at "ev"
  case' p.p.p.p.p.refine_1 =>
    rename_i h0
    have q' : Pd (.int ((b.inflow k m + if m = 0 then b.held k else 0) + p.sto k (m - 1) + Hw.inSum b p.rel k m)) := by
      have e : Hw.recv b p k m = (b.inflow k m + if m = 0 then b.held k else 0) + p.sto k (m - 1) + Hw.inSum b p.rel k m := by
        unfold Hw.recv
        rw [if_pos (show 0 < m by omega)]
      rw [← e]; exact q
    refine sx_aug _ rfl ?_
    walk_at "ev"
    rw [show ((m : Int) - 1) = ((m - 1 : Nat) : Int) by omega]
    walk_at "ev"
  case' p.p.p.p.p.refine_2.p =>
    rename_i h0
    have q' : Pd (.int ((b.inflow k m + if m = 0 then b.held k else 0) + Hw.inSum b p.rel k m)) := by
      have e : Hw.recv b p k m = (b.inflow k m + if m = 0 then b.held k else 0) + Hw.inSum b p.rel k m := by
        unfold Hw.recv
        rw [if_neg (show ¬ 0 < m by omega)]
        omega
      rw [← e]; exact q
  all_goals
    refine ev_lc (wk_list (ev_call (Compat.pure _) ?_))
    walk_at "ev"
    have hl : (Hw.letFrom b k m).length ≤ 16 := Nat.le_trans (List.length_filter_le _ _) (cells_le hb)
    refine ⟨b, k, m, rfl, hb, _, _, fun i => dCell ((Hw.letFrom b k m).getD i (0, 0)), rfl, rfl, fun i hi => ?_, by simp; omega, fun i acc => acc = ((Hw.letFrom b k m).take i).map fun c => D.int (p.rel c.1 c.2), by simp, ?_, ?_⟩
    · simp only [List.length_map] at hi
      simp [hi]
    · rintro i acc hi _ rfl
      simp only [List.length_map] at hi
      have hc : (Hw.letFrom b k m).getD i (0, 0) ∈ Hw.letFrom b k m := by
        rw [List.getD_eq_getElem?_getD, List.getElem?_eq_getElem hi]
        exact List.getElem_mem hi
      have ht : (Hw.letFrom b k m).take (i + 1) = (Hw.letFrom b k m).take i ++ [(Hw.letFrom b k m).getD i (0, 0)] := by
        rw [List.take_add_one, List.getElem?_eq_getElem hi, List.getD_eq_getElem?_getD, List.getElem?_eq_getElem hi]; rfl
      dsimp only
      rw [ht]
      generalize (Hw.letFrom b k m).getD i (0, 0) = c at *
      obtain ⟨k', m'⟩ := c
      obtain ⟨h1, h2⟩ := Hw.mem_cells.mp (List.mem_filter.mp hc).1
      dsimp only at h1 h2
      refine cg_two (by decide) (by decide) ?_
      walk_at "ev"
      simp
    · rintro acc rfl
      simp only [List.length_map, List.take_length]
      walk_at "ev"
      have e : ((Hw.letFrom b k m).map fun c => D.int (p.rel c.1 c.2)) = ((Hw.letFrom b k m).map fun c => p.rel c.1 c.2).map D.int := by rw [List.map_map]; rfl
      rw [e]
      refine ca_sum ?_
      rw [Hw.sum_letFrom hm]
      walk_at "ev"
      exact q'

/-! ## D3 -/
abbrev N_spill : List Str := ["basin", "rights", "plan", "cell", "number", "month", "deliveries", "releases", "storages", "found", "at", "right"]
theorem sc_spill : FnScope N_spill ["basin", "rights", "plan", "cell"] (defScope s_spill) := ⟨rfl, rfl, rfl, by decide +kernel, rfl, by decide +kernel, by decide +kernel⟩
def tt_spill : List D → (D → Prop) → Prop := fun ds P => ∃ (b : Hw.B) (p : Hw.P) (k m : Nat), ds = [dB b, dRs b, dP b p, dC k m] ∧ Good b ∧ k < b.n ∧ m < b.months ∧ P (.int (Hw.recv b p k m - p.rel k m - p.sto k m - Hw.used b p k m))
theorem ok_spill (T : Txt mg) (F : FunAt K mg "spill" s_spill ["basin", "rights", "plan", "cell"]) (h_received : Has P w K mg base 4 "received" ["basin", "plan", "cell"] (spD r0 tt_received))
    (h_site_number : Has P w K mg base 1 "site_number" ["basin", "name"] (spD r0 tt_site_number)) : Has P w K mg base 5 "spill" ["basin", "rights", "plan", "cell"] (spD r0 tt_spill) := by
  refine has_of F sc_spill (by rintro ds P ⟨b, p, k, m, rfl, _⟩; rfl) fun f cdv A outer s H E hr => ⟨_, (pss_cons (ps_asg (pv 3) (pg_tupq K 2 rfl (pgs_cons (pg_name (i := 4) sc_spill.nd rfl (Or.inl rfl)) (pgs_cons (pg_name (i := 5) sc_spill.nd rfl (Or.inl rfl)) pgs_nil))))
  (pss_cons (ps_asg (pv 2) (pg_tupq K 3 rfl (pgs_cons (pg_name (i := 6) sc_spill.nd rfl (Or.inl rfl)) (pgs_cons (pg_name (i := 7) sc_spill.nd rfl (Or.inl rfl)) (pgs_cons (pg_name (i := 8) sc_spill.nd rfl (Or.inl rfl)) pgs_nil)))))
  (pss_cons (ps_set (i := 9) sc_spill.nd rfl (Or.inl rfl) (pe_op op_sub (pe_op op_sub (pe_has h_received (hr.mono (by decide)) rfl (pa_cons (pv 0) (pa_cons (pv 2) (pa_cons (pv 3) pa_nil)))) (pe_ix (ixq K) (pe_ix (ixq K) (pv 7) (pv 4) (fun _ _ => rfl)) (pv 5) (fun _ _ => rfl))) (pe_ix (ixq K) (pe_ix (ixq K) (pv 8) (pv 4) (fun _ _ => rfl)) (pv 5) (fun _ _ => rfl))))
  (pss_cons (ps_for PassesOwn.never rfl (pi_enumq K rfl T.enumerate (pa_cons (pv 1) pa_nil)) (pg_tupq K 2 rfl (pgs_cons (pg_name (i := 10) sc_spill.nd rfl (Or.inl rfl)) (pgs_cons (pg_name (i := 11) sc_spill.nd rfl (Or.inl rfl)) pgs_nil))) (pss_one (ps_if (pt_cmpR op_eq (pe_has h_site_number (hr.mono (by decide)) rfl (pa_cons (pv 0) (pa_cons (pe_ix (ixq K) (pv 11) pe_int (fun _ _ => rfl)) pa_nil))) (pv 4) (nomark _)) (pss_one (ps_aug (i := 9) sc_spill.nd rfl (Or.inl rfl) (pe_ix (ixq K) (pe_ix (ixq K) (pv 6) (pv 10) (fun _ _ => rfl)) (pv 5) (fun _ _ => rfl)) ip_sub)) pss_nil)))
  (pss_one (ps_ret (pv 9))))))), ?_⟩
  rintro ds Pd ⟨b, p, k, m, rfl, hb, hk, hm, q⟩
  walk_at "ev"
  refine ev_call (Compat.pure _) ?_
  walk_at "ev"
  refine ⟨b, p, k, m, rfl, hb, hk, hm, ?_⟩
  walk_at "ev"
  refine sx_for (wk_enumT ?_)
  walk_at "ev"
  refine ⟨_, b.nr, dRight b, rfl, by simp, fun i hi => by simp [hi], fun i sl => ∃ x y, sl = [.dat (dB b), .dat (dRs b), .dat (dP b p), .dat (dC k m), .dat (.int k), .dat (.int m), .dat (dMat b.nr b.months p.del), .dat (dMat b.n b.months p.rel), .dat (dMat b.n b.months p.sto),
    .dat (.int (Hw.recv b p k m - p.rel k m - p.sto k m - Hw.sm i fun r => if b.rsite r = k then p.del r m else 0)), x, y], ⟨_, _, by simp only [Hw.sm, Int.sub_zero]; rfl⟩, ?_, ?_⟩
  · rintro i sl hi ⟨x, y, rfl⟩
    walk_at "ev"
    refine ev_call (Compat.pure _) ?_
    walk_at "ev"
    refine ⟨b, b.rsite i, rfl, hb.ok.rs i hi, ?_⟩
    walk_at "ev"
    · rename_i h
      have h' : b.rsite i = k := by omega
      refine sx_aug _ rfl ?_
      walk_at "ev"
      refine ⟨.dat (.int i), .dat (dRight b i), ?_⟩
      simp [Hw.sm, h', Int.sub_sub, Int.add_assoc]
    · rename_i h
      have h' : ¬ b.rsite i = k := by omega
      refine ⟨.dat (.int i), .dat (dRight b i), ?_⟩
      simp [Hw.sm, h']
  · rintro sl ⟨x, y, rfl⟩
    walk_at "ev"
    exact q

abbrev N_cell_fault : List Str := ["basin", "rights", "plan", "cell", "number", "month", "_", "releases", "storages", "site", "release"]
theorem sc_cell_fault : FnScope N_cell_fault ["basin", "rights", "plan", "cell"] (defScope s_cell_fault) := ⟨rfl, rfl, rfl, by decide +kernel, rfl, by decide +kernel, by decide +kernel⟩
def tt_cell_fault : List D → (D → Prop) → Prop := fun ds P => ∃ (b : Hw.B) (p : Hw.P) (k m : Nat), ds = [dB b, dRs b, dP b p, dC k m] ∧ Good b ∧ k < b.n ∧ m < b.months ∧ Hw.RightP b p ∧ P .non
theorem ok_cell_fault (T : Txt mg) (F : FunAt K mg "cell_fault" s_cell_fault ["basin", "rights", "plan", "cell"]) (h_spill : Has P w K mg base 5 "spill" ["basin", "rights", "plan", "cell"] (spD r0 tt_spill)) :
    Has P w K mg base 6 "cell_fault" ["basin", "rights", "plan", "cell"] (spD r0 tt_cell_fault) := by
  refine has_of F sc_cell_fault (by rintro ds P ⟨b, p, k, m, rfl, _⟩; rfl) fun f cdv A outer s H E hr => ⟨_, (pss_cons (ps_asg (pv 3) (pg_tupq K 2 rfl (pgs_cons (pg_name (i := 4) sc_cell_fault.nd rfl (Or.inl rfl)) (pgs_cons (pg_name (i := 5) sc_cell_fault.nd rfl (Or.inl rfl)) pgs_nil))))
  (pss_cons (ps_asg (pv 2) (pg_tupq K 3 rfl (pgs_cons (pg_name (i := 6) sc_cell_fault.nd rfl (Or.inl rfl)) (pgs_cons (pg_name (i := 7) sc_cell_fault.nd rfl (Or.inl rfl)) (pgs_cons (pg_name (i := 8) sc_cell_fault.nd rfl (Or.inl rfl)) pgs_nil)))))
  (pss_cons (ps_set (i := 9) sc_cell_fault.nd rfl (Or.inl rfl) (pe_ix (ixq K) (pe_ix (ixq K) (pv 0) pe_int (fun _ _ => rfl)) (pv 4) (fun _ _ => rfl)))
  (pss_cons (ps_set (i := 10) sc_cell_fault.nd rfl (Or.inl rfl) (pe_ix (ixq K) (pe_ix (ixq K) (pv 7) (pv 4) (fun _ _ => rfl)) (pv 5) (fun _ _ => rfl)))
  (pss_cons (ps_if (PW.pt (pw_or (PW.pt (pw_and (pt_cmpR op_isN1 (pe_ix (ixq K) (pv 9) (pe_gint T.cNEXT rfl) (fun _ _ => rfl)) pe_non (nomark _)) (pw_and1 (pt_cmpR op_gt (pv 10) pe_int (nomark _))))) (pw_or1 (PW.pt (pw_and (pt_cmpR op_notN1 (pe_ix (ixq K) (pv 9) (pe_gint T.cREACH rfl) (fun _ _ => rfl)) pe_non (nomark _)) (pw_and1 (pt_cmpR op_gt (pv 10) (pe_ix (ixq K) (pv 9) (pe_gint T.cREACH rfl) (fun _ _ => rfl)) (nomark _)))))))) (pss_one (ps_ret (pe_tup (pa_cons pe_str (pa_cons (pv 4) (pa_cons (pv 5) pa_nil)))))) pss_nil)
  (pss_cons (ps_if (pt_cmpR op_gt (pe_ix (ixq K) (pe_ix (ixq K) (pv 8) (pv 4) (fun _ _ => rfl)) (pv 5) (fun _ _ => rfl)) (pe_ix (ixq K) (pv 9) (pe_gint T.cROOM rfl) (fun _ _ => rfl)) (nomark _)) (pss_one (ps_ret (pe_tup (pa_cons pe_str (pa_cons (pv 4) (pa_cons (pv 5) pa_nil)))))) pss_nil)
  (pss_one (ps_ret (pe_ifExp (pt_cmpR op_lt (pe_has h_spill (hr.mono (by decide)) rfl (pa_cons (pv 0) (pa_cons (pv 1) (pa_cons (pv 2) (pa_cons (pv 3) pa_nil))))) pe_int (nomark _)) (pe_tup (pa_cons pe_str (pa_cons (pv 4) (pa_cons (pv 5) pa_nil)))) pe_non))))))))), ?_⟩
  rintro ds Pd ⟨b, p, k, m, rfl, hb, hk, hm, hp, q⟩
  have r1 := hp.out k m hk hm
  have r2 := hp.reach k m
  have r3 := hp.room k m hk hm
  have r4 := hp.bal k m hk hm
  walk_at "ev"
  iterate 4
    all_goals try first
      | (exfalso; omega)
      | (exfalso; have z := r1 (Option.isNone_iff_eq_none.mp ‹(b.next k).isNone = true›); omega)
      | exact q
      | (refine ev_call (Compat.pure _) ?_; walk_at "ev"; refine ⟨b, p, k, m, rfl, hb, hk, hm, ?_⟩; walk_at "ev")
      | (have hx0 : ∃ x, b.reach k = some x := Option.ne_none_iff_exists'.mp fun z => (by simp [z] at *)
         obtain ⟨x, hx⟩ := hx0
         have z := r2 x hk hm hx
         rw [hx]
         simp only [dO]
         walk_at "ev")

abbrev N_month_fault : List Str := ["basin", "rights", "plan", "month", "number", "right", "fault"]
theorem sc_month_fault : FnScope N_month_fault ["basin", "rights", "plan", "month"] (defScope s_month_fault) := ⟨rfl, rfl, rfl, by decide +kernel, rfl, by decide +kernel, by decide +kernel⟩
def tt_month_fault : List D → (D → Prop) → Prop := fun ds P => ∃ (b : Hw.B) (p : Hw.P) (m : Nat), ds = [dB b, dRs b, dP b p, .int m] ∧ Good b ∧ m < b.months ∧ Hw.RightP b p ∧ P .non
theorem ok_month_fault (T : Txt mg) (F : FunAt K mg "month_fault" s_month_fault ["basin", "rights", "plan", "month"]) (h_cell_fault : Has P w K mg base 6 "cell_fault" ["basin", "rights", "plan", "cell"] (spD r0 tt_cell_fault)) :
    Has P w K mg base 7 "month_fault" ["basin", "rights", "plan", "month"] (spD r0 tt_month_fault) := by
  refine has_of F sc_month_fault (by rintro ds P ⟨b, p, m, rfl, _⟩; rfl) fun f cdv A outer s H E hr => ⟨_, (pss_cons (ps_for PassesOwn.never rfl (pi_enumq K rfl T.enumerate (pa_cons (pv 1) pa_nil)) (pg_tupq K 2 rfl (pgs_cons (pg_name (i := 4) sc_month_fault.nd rfl (Or.inl rfl)) (pgs_cons (pg_name (i := 5) sc_month_fault.nd rfl (Or.inl rfl)) pgs_nil))) (pss_one (ps_if (pt_cmpR op_gt (pe_ix (ixq K) (pe_ix (ixq K) (pe_ix (ixq K) (pv 2) pe_int (fun _ _ => rfl)) (pv 4) (fun _ _ => rfl)) (pv 3) (fun _ _ => rfl)) (pe_ix (ixq K) (pe_ix (ixq K) (pv 5) pe_int (fun _ _ => rfl)) (pv 3) (fun _ _ => rfl)) (nomark _)) (pss_one (ps_ret (pe_tup (pa_cons pe_str (pa_cons (pv 4) (pa_cons (pv 3) pa_nil)))))) pss_nil)))
  (pss_cons (ps_for PassesOwn.never rfl (pi_range1 rfl T.range (pa_cons (pe_callB (lenq K) (by rfl) T.len (by decide +kernel) (pa_cons (pe_ix (ixq K) (pv 0) pe_int (fun _ _ => rfl)) pa_nil)) pa_nil)) (pg_name (i := 4) sc_month_fault.nd rfl (Or.inl rfl)) (pss_cons (ps_set (i := 6) sc_month_fault.nd rfl (Or.inl rfl) (pe_has h_cell_fault (hr.mono (by decide)) rfl (pa_cons (pv 0) (pa_cons (pv 1) (pa_cons (pv 2) (pa_cons (pe_tup (pa_cons (pv 4) (pa_cons (pv 3) pa_nil))) pa_nil))))))
  (pss_one (ps_if (pt_cmpR op_notN1 (pv 6) pe_non (nomark _)) (pss_one (ps_ret (pv 6))) pss_nil))))
  (pss_one (ps_ret pe_non)))), ?_⟩
  rintro ds Pd ⟨b, p, m, rfl, hb, hm, hp, q⟩
  walk_at "ev"
  refine sx_for (wk_enumT ?_)
  walk_at "ev"
  refine ⟨_, b.nr, dRight b, rfl, by simp, fun i hi => by simp [hi], fun i sl => ∃ x y z, sl = [.dat (dB b), .dat (dRs b), .dat (dP b p), .dat (.int m), x, y, z], ⟨_, _, _, rfl⟩, ?_, ?_⟩
  · rintro i sl hi ⟨x, y, z, rfl⟩
    have hd := hp.del i m hi hm
    walk_at "ev"
    · exfalso; omega
    · exact ⟨_, _, _, rfl⟩
  · rintro sl ⟨x, y, z, rfl⟩
    walk_at "ev"
    refine sx_for (wk_rng1 ?_)
    walk_at "ev"
    try refine ca_lenT ?_
    walk_at "ev"
    refine ⟨b.n, by simp, by have := hb.n4; omega, fun i sl => ∃ x y z, sl = [.dat (dB b), .dat (dRs b), .dat (dP b p), .dat (.int m), x, y, z], ⟨_, _, _, rfl⟩, ?_, ?_⟩
    · rintro i sl hi ⟨x, y, z, rfl⟩
      walk_at "ev"
      refine ev_call (Compat.pure _) ?_
      walk_at "ev"
      refine ⟨b, p, i, m, rfl, hb, hi, hm, hp, ?_⟩
      walk_at "ev"
      exact ⟨_, _, _, rfl⟩
    · rintro sl ⟨x, y, z, rfl⟩
      walk_at "ev"
      exact q

abbrev N_plan_fault : List Str := ["basin", "rights", "plan", "month", "fault"]
theorem sc_plan_fault : FnScope N_plan_fault ["basin", "rights", "plan"] (defScope s_plan_fault) := ⟨rfl, rfl, rfl, by decide +kernel, rfl, by decide +kernel, by decide +kernel⟩
def tt_plan_fault : List D → (D → Prop) → Prop := fun ds P => ∃ (b : Hw.B) (p : Hw.P), ds = [dB b, dRs b, dP b p] ∧ Good b ∧ Hw.RightP b p ∧ P .non
theorem ok_plan_fault (T : Txt mg) (F : FunAt K mg "plan_fault" s_plan_fault ["basin", "rights", "plan"]) (h_month_fault : Has P w K mg base 7 "month_fault" ["basin", "rights", "plan", "month"] (spD r0 tt_month_fault)) :
    Has P w K mg base 8 "plan_fault" ["basin", "rights", "plan"] (spD r0 tt_plan_fault) := by
  refine has_of F sc_plan_fault (by rintro ds P ⟨b, p, rfl, _⟩; rfl) fun f cdv A outer s H E hr => ⟨_, (pss_cons (ps_for PassesOwn.never rfl (pi_range1 rfl T.range (pa_cons (pe_ix (ixq K) (pv 0) pe_int (fun _ _ => rfl)) pa_nil)) (pg_name (i := 3) sc_plan_fault.nd rfl (Or.inl rfl)) (pss_cons (ps_set (i := 4) sc_plan_fault.nd rfl (Or.inl rfl) (pe_has h_month_fault (hr.mono (by decide)) rfl (pa_cons (pv 0) (pa_cons (pv 1) (pa_cons (pv 2) (pa_cons (pv 3) pa_nil))))))
  (pss_one (ps_if (pt_cmpR op_notN1 (pv 4) pe_non (nomark _)) (pss_one (ps_ret (pv 4))) pss_nil))))
  (pss_one (ps_ret pe_non))), ?_⟩
  rintro ds Pd ⟨b, p, rfl, hb, hp, q⟩
  walk_at "ev"
  refine sx_for (wk_rng1 ?_)
  walk_at "ev"
  refine ⟨b.months, rfl, by have := hb.m4; omega, fun i sl => ∃ x y, sl = [.dat (dB b), .dat (dRs b), .dat (dP b p), x, y], ⟨_, _, rfl⟩, ?_, ?_⟩
  · rintro i sl hi ⟨x, y, rfl⟩
    walk_at "ev"
    refine ev_call (Compat.pure _) ?_
    walk_at "ev"
    refine ⟨b, p, i, rfl, hb, hi, hp, ?_⟩
    walk_at "ev"
    exact ⟨_, _, rfl⟩
  · rintro sl ⟨x, y, rfl⟩
    walk_at "ev"
    exact q

/-! ## D4 -/
abbrev dOrg : Hw.Org → D
  | .held k => .tup [.str "held", .int k]
  | .inn k m => .tup [.str "in", .int k, .int m]
abbrev dPar (p : Hw.Org × Int) : D := .tup [dOrg p.1, .int p.2]
abbrev dPs (row : Hw.Row) : D := .list (row.map dPar)
abbrev dRowT (row : Hw.Row) : D := .tup (row.map dPar)
theorem org_eqv {a b : Hw.Org} : PyData.eqv (toP (dOrg a)) (toP (dOrg b)) = decide (a = b) := by
  have ne : ((Str.ofString "held") == (Str.ofString "in")) = false := by decide +kernel
  have ne2 : ((Str.ofString "in") == (Str.ofString "held")) = false := by decide +kernel
  cases a with
  | held k =>
    cases b with
    | held k' =>
      simp only [dOrg, toP, toPs, PyData.eqv, PyData.eqvAll]
      rw [Bool.eq_iff_iff]; simp
      omega
    | inn k' m' => simp [dOrg, toP, toPs, PyData.eqv, PyData.eqvAll, ne]
  | inn k m =>
    cases b with
    | held k' => simp [dOrg, toP, toPs, PyData.eqv, PyData.eqvAll, ne2]
    | inn k' m' =>
      simp only [dOrg, toP, toPs, PyData.eqv, PyData.eqvAll]
      rw [Bool.eq_iff_iff]; simp
      omega
theorem org_ok (o : Hw.Org) : noRaw (dOrg o) = true ∧ SeqAt.shaped (toP (dOrg o)) = true := by
  have h1 : PyData.strOk (Str.ofString "held") = true := by decide +kernel
  have h2 : PyData.strOk (Str.ofString "in") = true := by decide +kernel
  cases o <;> refine ⟨rfl, ?_⟩ <;> simp [SeqAt.shaped, dOrg, toP, toPs, PyData.canLay0, PyData.canLayAll0, PyData.depth, PyData.depthAll, h1, h2]
theorem set_last {α : Type} {l : List α} {q x : α} (h : l.getLast? = some q) : l.set (l.length - 1) x = l.dropLast ++ [x] := by
  have e := Hw.snoc_of_getLast? h
  have hl : l.length = l.dropLast.length + 1 := by
    have hne : l ≠ [] := by
      intro z
      subst z
      simp at h
    have := List.length_pos_iff.mpr hne
    rw [List.length_dropLast]
    omega
  rw [show l.length - 1 = l.dropLast.length by omega]
  conv => lhs; rw [e]
  rw [List.dropLast_concat]
  simp
theorem ixN_last {n : Nat} (h : 0 < n) : ixN n (-1) = some (n - 1) := by
  unfold ixN
  rw [if_neg (by decide), if_pos (by omega)]
  congr 1
  omega
theorem jfold_len : ∀ (row acc : Hw.Row), (row.foldl Hw.jstep acc).length ≤ acc.length + row.length
  | [], acc => by simp
  | p :: r, acc => by
    have := jfold_len r (Hw.jstep acc p)
    rw [List.foldl_cons]
    have e : (Hw.jstep acc p).length ≤ acc.length + 1 := by
      unfold Hw.jstep
      split
      · split
        · split <;> simp
        · simp
      · omega
    simp only [List.length_cons]
    omega
theorem last_par {acc : Hw.Row} {q : Hw.Org × Int} (h : acc.getLast? = some q) : (acc.map dPar).getLast? = some (dPar q) := by rw [List.getLast?_map, h]; rfl
abbrev N_joined : List Str := ["row", "found", "origin", "amount"]
theorem sc_joined : FnScope N_joined ["row"] (defScope s_joined) := ⟨rfl, rfl, rfl, by decide +kernel, rfl, by decide +kernel, by decide +kernel⟩
def tt_joined : List D → (D → Prop) → Prop := fun ds P => ∃ (row : Hw.Row), ds = [dPs row] ∧ row.length ≤ 10000 ∧ P (dPs (Hw.joined row))
theorem ok_joined (T : Txt mg) (F : FunAt K mg "joined" s_joined ["row"]) : Has P w K mg base 1 "joined" ["row"] (spD r0 tt_joined) := by
  refine has_of F sc_joined (by rintro ds P ⟨row, rfl, _⟩; rfl) fun f cdv A outer s H E hr => ⟨_, (pss_cons (ps_set (i := 1) sc_joined.nd rfl (Or.inl rfl) (pe_lst pa_nil))
  (pss_cons (ps_for PassesOwn.never rfl (pi_listq K (pv 0)) (pg_tupq K 2 rfl (pgs_cons (pg_name (i := 2) sc_joined.nd rfl (Or.inl rfl)) (pgs_cons (pg_name (i := 3) sc_joined.nd rfl (Or.inl rfl)) pgs_nil))) (pss_one (ps_if (PW.pt (pw_and (pt_cmpR op_gt (pv 3) pe_int (nomark _)) (pw_and (pt_truth (pv 1) (by intro _; rfl)) (pw_and1 (pt_cmpR (eqq K hr.units) (pe_ix (ixq K) (pe_ix (ixq K) (pv 1) (pe_un un_neg pe_int) (fun _ _ => rfl)) pe_int (fun _ _ => rfl)) (pv 2) (nomark _)))))) (pss_one (ps_asg (pe_tup (pa_cons (pv 2) (pa_cons (pe_op op_add (pe_ix (ixq K) (pe_ix (ixq K) (pv 1) (pe_un un_neg pe_int) (fun _ _ => rfl)) pe_int (fun _ _ => rfl)) (pv 3)) pa_nil))) (pg_sub (pv 1) (pe_un un_neg pe_int) set_list))) (pss_one (ps_if (pt_cmpR op_gt (pv 3) pe_int (nomark _)) (pss_one (ps_expr (pe_bm PySem.F.plainAttrs_list PySem.F.slot_list_append PySem.F.type_list_append mt_append (pv 1) (pa_cons (pe_tup (pa_cons (pv 2) (pa_cons (pv 3) pa_nil))) pa_nil)))) pss_nil)))))
  (pss_one (ps_ret (pv 1))))), ?_⟩
  rintro ds Pd ⟨row, rfl, hl, p⟩
  refine sx_seq (sx_new fun l => ?_)
  walk_at "ev"
  refine sx_for (wk_list (ev_var _ rfl ⟨_, row.length, fun i => dPar (row.getD i (.held 0, 0)), rfl, by simp, fun i hi => by simp [hi], fun i sl => ∃ x y, sl = [.dat (dPs row), .own l (((row.take i).foldl Hw.jstep []).map dPar), x, y], ⟨_, _, rfl⟩, ?_, ?_⟩))
  · rintro i sl hi ⟨x, y, rfl⟩
    have ht : row.take (i + 1) = row.take i ++ [row.getD i (.held 0, 0)] := by
      rw [List.take_add_one, List.getElem?_eq_getElem hi, List.getD_eq_getElem?_getD, List.getElem?_eq_getElem hi]; rfl
    dsimp only
    rw [ht, List.foldl_append]
    have hlen := jfold_len (row.take i) []
    simp only [List.length_nil, List.length_take] at hlen
    generalize (row.take i).foldl Hw.jstep [] = acc at *
    generalize row.getD i (.held 0, 0) = q at *
    obtain ⟨o, a⟩ := q
    simp only [List.foldl_cons, List.foldl_nil]
    walk_at "ev"
    · rename_i ha
      have ha : 0 < a := ha
      refine et_own rfl ?_
      cases hg : acc.getLast? with
      | none =>
        have e : acc = [] := List.getLast?_eq_none_iff.mp hg
        subst e
        refine if_ff ?_
        walk_at "ev"
        · refine ⟨by simp, .dat (dOrg o), .dat (.int a), ?_⟩
          simp [Hw.jstep, ha]
        · rename_i h2
          exact absurd ha h2
      | some q =>
        have hne : acc ≠ [] := by intro z; subst z; simp at hg
        have e1 : (!(acc.map dPar).isEmpty) = true := by simp [hne]
        have hp : 0 < (acc.map dPar).length := by rw [List.length_map]; exact List.length_pos_iff.mpr hne
        rw [e1]
        walk_at "ev"
        refine ⟨_, dPar q, rfl, atI_last' (last_par hg), ?_⟩
        walk_at "ev"
        obtain ⟨z1, z2⟩ := org_ok q.1
        obtain ⟨z3, z4⟩ := org_ok o
        refine od_eqD (b := decide (q.1 = o)) z1 z3 z2 z4 org_eqv (ex_bl (if_dec (fun h => ?_) fun h => ?_))
        · walk_at "ev"
          refine ⟨_, dPar q, rfl, atI_last' (last_par hg), ?_⟩
          walk_at "ev"
          refine gx_setOwn (l := l) (ds := acc.map dPar) rfl ?_
          walk_at "ev"
          refine ⟨_, _, rfl, ixN_last hp, .dat (dOrg o), .dat (.int a), ?_⟩
          rw [set_last (last_par hg)]
          have e3 : Hw.jstep acc (o, a) = acc.dropLast ++ [(o, q.2 + a)] := by
            unfold Hw.jstep
            rw [if_pos ha, hg]
            exact if_pos h
          rw [e3]
          simp
        · have e3 : Hw.jstep acc (o, a) = acc ++ [(o, a)] := by
            unfold Hw.jstep
            rw [if_pos ha, hg]
            exact if_neg h
          rw [e3]
          walk_at "ev"
          · refine ⟨by simp; omega, .dat (dOrg o), .dat (.int a), ?_⟩
            simp
          · rename_i h2
            exact absurd ha h2
    · rename_i h1 h2
      exact absurd h2 h1
    · rename_i h1 h2
      have e3 : Hw.jstep acc (o, a) = acc := by
        unfold Hw.jstep
        exact if_neg h1
      rw [e3]
      exact ⟨_, _, rfl⟩
  · rintro sl ⟨x, y, rfl⟩
    simp only [List.take_length]
    refine sx_freeze 1 rfl ?_
    walk_at "ev"
    exact p

theorem pfold_len : ∀ (row : Hw.Row) (s : Int × Hw.Row × Hw.Row), (row.foldl Hw.pstep s).2.1.length = s.2.1.length + row.length ∧ (row.foldl Hw.pstep s).2.2.length = s.2.2.length + row.length
  | [], s => by simp
  | p :: r, s => by
    obtain ⟨h1, h2⟩ := pfold_len r (Hw.pstep s p)
    rw [List.foldl_cons, h1, h2]
    simp [Hw.pstep]
    omega
abbrev N_parted : List Str := ["row", "amount", "front", "rest", "origin", "size", "part"]
theorem sc_parted : FnScope N_parted ["row", "amount"] (defScope s_parted) := ⟨rfl, rfl, rfl, by decide +kernel, rfl, by decide +kernel, by decide +kernel⟩
def tt_parted : List D → (D → Prop) → Prop := fun ds P => ∃ (row : Hw.Row) (a : Int), ds = [dPs row, .int a] ∧ row.length ≤ 10000 ∧ P (.tup [dPs (Hw.parted row a).1, dPs (Hw.parted row a).2])
theorem ok_parted (T : Txt mg) (F : FunAt K mg "parted" s_parted ["row", "amount"]) (h_joined : Has P w K mg base 1 "joined" ["row"] (spD r0 tt_joined)) : Has P w K mg base 2 "parted" ["row", "amount"] (spD r0 tt_parted) := by
  refine has_of F sc_parted (by rintro ds P ⟨row, a, rfl, _⟩; rfl) fun f cdv A outer s H E hr => ⟨_, (pss_cons (ps_set (i := 2) sc_parted.nd rfl (Or.inl rfl) (pe_lst pa_nil))
  (pss_cons (ps_set (i := 3) sc_parted.nd rfl (Or.inl rfl) (pe_lst pa_nil))
  (pss_cons (ps_for PassesOwn.never rfl (pi_listq K (pv 0)) (pg_tupq K 2 rfl (pgs_cons (pg_name (i := 4) sc_parted.nd rfl (Or.inl rfl)) (pgs_cons (pg_name (i := 5) sc_parted.nd rfl (Or.inl rfl)) pgs_nil))) (pss_cons (ps_set (i := 6) sc_parted.nd rfl (Or.inl rfl) (pe_callB (call_min2 rfl) (by rfl) T.min (by decide +kernel) (pa_cons (pv 5) (pa_cons (pv 1) pa_nil))))
  (pss_cons (ps_aug (i := 1) sc_parted.nd rfl (Or.inl rfl) (pv 6) ip_sub)
  (pss_cons (ps_expr (pe_bm PySem.F.plainAttrs_list PySem.F.slot_list_append PySem.F.type_list_append mt_append (pv 2) (pa_cons (pe_tup (pa_cons (pv 4) (pa_cons (pv 6) pa_nil))) pa_nil)))
  (pss_one (ps_expr (pe_bm PySem.F.plainAttrs_list PySem.F.slot_list_append PySem.F.type_list_append mt_append (pv 3) (pa_cons (pe_tup (pa_cons (pv 4) (pa_cons (pe_op op_sub (pv 5) (pv 6)) pa_nil))) pa_nil))))))))
  (pss_one (ps_ret (pe_tup (pa_cons (pe_has h_joined (hr.mono (by decide)) rfl (pa_cons (pv 2) pa_nil)) (pa_cons (pe_has h_joined (hr.mono (by decide)) rfl (pa_cons (pv 3) pa_nil)) pa_nil)))))))), ?_⟩
  rintro ds Pd ⟨row, a, rfl, hl, p⟩
  refine sx_seq (sx_new fun l1 => sx_seq (sx_new fun l2 => ?_))
  refine sx_seq (sx_for (wk_list (ev_var _ rfl ⟨_, row.length, fun i => dPar (row.getD i (.held 0, 0)), rfl, by simp, fun i hi => by simp [hi], fun i sl => ∃ x y z, sl = [.dat (dPs row), .dat (.int ((row.take i).foldl Hw.pstep (a, [], [])).1), .own l1 (((row.take i).foldl Hw.pstep (a, [], [])).2.1.map dPar), .own l2 (((row.take i).foldl Hw.pstep (a, [], [])).2.2.map dPar), x, y, z], ⟨_, _, _, rfl⟩, ?_, ?_⟩)))
  · rintro i sl hi ⟨x, y, z, rfl⟩
    have ht : row.take (i + 1) = row.take i ++ [row.getD i (.held 0, 0)] := by
      rw [List.take_add_one, List.getElem?_eq_getElem hi, List.getD_eq_getElem?_getD, List.getElem?_eq_getElem hi]; rfl
    dsimp only
    rw [ht, List.foldl_append]
    obtain ⟨g1, g2⟩ := pfold_len (row.take i) (a, [], [])
    simp only [List.length_nil, List.length_take] at g1 g2
    generalize (row.take i).foldl Hw.pstep (a, [], []) = acc at *
    generalize row.getD i (.held 0, 0) = q at *
    obtain ⟨o, c⟩ := q
    obtain ⟨a', f1, f2⟩ := acc
    simp only [List.foldl_cons, List.foldl_nil]
    dsimp only at g1 g2
    walk_at "ev"
    refine sx_aug _ rfl ?_
    walk_at "ev"
    refine ⟨by simp; omega, ?_⟩
    walk_at "ev"
    refine ⟨by simp; omega, ?_⟩
    refine ⟨.dat (dOrg o), .dat (.int c), .dat (.int (min c a')), ?_⟩
    simp [Hw.pstep]
  · rintro sl ⟨x, y, z, rfl⟩
    simp only [List.take_length]
    refine sx_freeze 2 rfl (sx_freeze 3 rfl ?_)
    obtain ⟨g1, g2⟩ := pfold_len row (a, [], [])
    simp only [List.length_nil] at g1 g2
    walk_at "ev"
    refine ev_call (Compat.pure _) ?_
    walk_at "ev"
    refine ⟨_, rfl, by omega, ?_⟩
    walk_at "ev"
    refine ev_call (Compat.pure _) ?_
    walk_at "ev"
    refine ⟨_, rfl, by omega, ?_⟩
    walk_at "ev"
    exact p

/-! ## D5 -/
/-! ### the script -/
theorem SqL_mono {B B2 : Hp} {a : Addr} {xs : List V} (s : Sub B B2) (h : SqL K B a xs) : SqL K B2 a xs := by
  rcases h with (h | ⟨o, h⟩) | h
  · exact .inl (.inl (s _ _ h))
  · exact .inl (.inr ⟨o, s _ _ h⟩)
  · exact .inr h
/-- the script is known -/
def rScr (K : PySem.W.Frag) (a : Addr) (ns : List Int) : Res := ⟨fun _ => False, fun B _ => SqL K B a (ns.map V.int), fun _ _ _ _ j s _ => SqL_mono s j⟩
theorem ca_lenS {a : Addr} {ns : List Int} {Pd : D → Prop} (p : Pd (.int ns.length)) : CaD (rScr K a ns) (fun xs H Q => ∃ p ys, xs = [V.ref p] ∧ (SqL K H p ys ∨ SqT K H p ys) ∧ Q (.int ys.length) H) [.raw (.ref a)] Pd := ca_val p fun B H vs s j rv => by
  obtain ⟨v, rfl, h⟩ := rv.one
  cases (show v = .ref a from h)
  exact ⟨.int ns.length, rfl, fun Q q => ⟨a, _, rfl, .inl (SqL_mono s j), by rw [List.length_map]; exact q⟩⟩
theorem od_ixS {a : Addr} {ns : List Int} {Pd : D → Prop} {k : Nat} (hk : k < ns.length) (p : Pd (.int ns[k])) : OpD (rScr K a ns) (rIx K) (.raw (.ref a)) (.int k) Pd := od_val p fun B H v w s j rv rw' => by
  cases (show v = .ref a from rv); cases (show w = .int k from rw')
  exact ⟨.int ns[k], rfl, fun Q q => .inl ⟨a, _, k, _, rfl, rfl, SqL_mono s j, atI_nat (by simp [hk]), q⟩⟩
abbrev N__law_cell : List Str := ["_law_script", "_law_k"]
theorem sc__law_cell : FnScope N__law_cell ["_law_script", "_law_k"] (defScope s__law_cell) := ⟨rfl, rfl, rfl, by decide +kernel, rfl, by decide +kernel, by decide +kernel⟩
def tt_law_cell (i : Addr × List Int) : List D → (D → Prop) → Prop := fun ds P => ∃ (k : Nat), ds = [.raw (.ref i.1), .int k] ∧ ∀ x : Int, P (.int x)
theorem ok__law_cell (T : Txt mg) (F : FunAt K mg "_law_cell" s__law_cell ["_law_script", "_law_k"]) : Has P w K mg base 1 "_law_cell" ["_law_script", "_law_k"] (spE (fun i : Addr × List Int => rScr K i.1 i.2) tt_law_cell) := by
  refine has_ofE F sc__law_cell (by rintro i ds P ⟨k, rfl, _⟩; rfl) fun f cdv A outer s H E hr => ⟨_, (pss_cons (ps_if (pt_cmpR op_lt (pv 1) (pe_callB (lenq K) (by rfl) T.len (by decide +kernel) (pa_cons (pv 0) pa_nil)) (nomark _)) (pss_one (ps_ret (pe_ix (ixq K) (pv 0) (pv 1) (fun _ _ => rfl)))) pss_nil)
  (pss_one (ps_ret pe_int))), ?_⟩
  rintro ⟨a, ns⟩ ds Pd ⟨k, rfl, p⟩
  walk_at "ev"
  refine ca_lenS ?_
  walk_at "ev"
  · rename_i h
    refine od_ixS (by omega) ?_
    exact p _
  · exact p 0
abbrev N__law_digits : List Str := ["_law_script", "_law_first", "_law_last", "_law_digits_here", "_law_k", "_law_cell_here", "_law_place", "_law_seed"]
theorem sc__law_digits : FnScope N__law_digits ["_law_script", "_law_first", "_law_last"] (defScope s__law_digits) := ⟨rfl, rfl, rfl, by decide +kernel, rfl, by decide +kernel, by decide +kernel⟩
def tt_law_digits (i : Addr × List Int) : List D → (D → Prop) → Prop := fun ds P => ds = [.raw (.ref i.1), .int 0, .int 60] ∧ ∀ ns : List Int, (∀ n ∈ ns, 0 ≤ n ∧ n < 1000) → P (.list (ns.map .int))
theorem ok__law_digits (T : Txt mg) (F : FunAt K mg "_law_digits" s__law_digits ["_law_script", "_law_first", "_law_last"]) 
    (h__law_cell : Has P w K mg base 1 "_law_cell" ["_law_script", "_law_k"] (spE (fun i : Addr × List Int => rScr K i.1 i.2) tt_law_cell)) : Has P w K mg base 2 "_law_digits" ["_law_script", "_law_first", "_law_last"] (spE (fun i : Addr × List Int => rScr K i.1 i.2) tt_law_digits) := by
  refine has_ofE F sc__law_digits (by rintro i ds P ⟨rfl, _⟩; rfl) fun f cdv A outer s H E hr => ⟨_, (pss_cons (ps_set (i := 3) sc__law_digits.nd rfl (Or.inl rfl) (pe_lst pa_nil))
  (pss_cons (ps_for PassesOwn.never rfl (pi_range2 rfl T.range (pa_cons (pv 1) (pa_cons (pv 2) pa_nil))) (pg_name (i := 4) sc__law_digits.nd rfl (Or.inl rfl)) (pss_cons (ps_set (i := 5) sc__law_digits.nd rfl (Or.inl rfl) (pe_has h__law_cell (hr.mono (by decide)) rfl (pa_cons (pv 0) (pa_cons (pv 4) pa_nil))))
  (pss_cons (ps_if (pt_cmpR op_lt (pv 5) pe_int (nomark _)) (pss_one (ps_set (i := 5) sc__law_digits.nd rfl (Or.inl rfl) (pe_op op_sub pe_int (pe_op op_mul pe_int (pv 5))))) pss_nil)
  (pss_one (ps_if (pt_cmpR op_ge (pv 5) (pe_op op_pow pe_int pe_int) (nomark _)) (pss_one (ps_for PassesOwn.never rfl (pi_range1 rfl T.range (pa_cons pe_int pa_nil)) (pg_name (i := 6) sc__law_digits.nd rfl (Or.inl rfl)) (pss_one (ps_if (pt_cmpR op_gt (pv 5) pe_int (nomark _)) (pss_cons (ps_expr (pe_bm PySem.F.plainAttrs_list PySem.F.slot_list_append PySem.F.type_list_append mt_append (pv 3) (pa_cons (pe_op op_mod (pe_callTy call_int1 (by rfl) T.int (by decide +kernel) (pa_cons (pv 5) pa_nil)) pe_int) pa_nil)))
  (pss_one (ps_set (i := 5) sc__law_digits.nd rfl (Or.inl rfl) (pe_op op_fdiv (pv 5) pe_int)))) pss_nil)))) (pss_cons (ps_set (i := 7) sc__law_digits.nd rfl (Or.inl rfl) (pe_op op_mod (pe_callTy call_int1 (by rfl) T.int (by decide +kernel) (pa_cons (pe_op op_add (pe_op op_add (pe_op op_mul (pv 5) pe_int) (pe_op op_mul (pv 4) pe_int)) pe_int) pa_nil)) pe_int))
  (pss_one (ps_for PassesOwn.never rfl (pi_range1 rfl T.range (pa_cons pe_int pa_nil)) (pg_name (i := 6) sc__law_digits.nd rfl (Or.inl rfl)) (pss_cons (ps_set (i := 7) sc__law_digits.nd rfl (Or.inl rfl) (pe_op op_mod (pe_callTy call_int1 (by rfl) T.int (by decide +kernel) (pa_cons (pe_op op_add (pe_op op_add (pe_op op_mul (pv 7) pe_int) (pe_op op_mul pe_int (pv 6))) pe_int) pa_nil)) pe_int))
  (pss_one (ps_expr (pe_bm PySem.F.plainAttrs_list PySem.F.slot_list_append PySem.F.type_list_append mt_append (pv 3) (pa_cons (pe_op op_mod (pe_callTy call_int1 (by rfl) T.int (by decide +kernel) (pa_cons (pe_op op_fdiv (pv 7) pe_int) pa_nil)) pe_int) pa_nil)))))))))))))
  (pss_one (ps_ret (pv 3))))), ?_⟩
  rintro ⟨a, ms⟩ ds Pd ⟨rfl, p⟩
  refine sx_seq (sx_new fun l => sx_seq (sx_for (wk_rng2 ?_)))
  walk_at "ev"
  refine ⟨0, 60, rfl, by decide, by decide, fun i sl => ∃ (ns : List Int) (x y z u : Sl), sl = [.dat (.raw (.ref a)), .dat (.int 0), .dat (.int 60), .own l (ns.map .int), x, y, z, u] ∧ (∀ n ∈ ns, 0 ≤ n ∧ n < 1000) ∧ ns.length ≤ 60 * i, ⟨[], _, _, _, _, rfl, by simp, by simp⟩, ?_, ?_⟩
  · rintro i sl hi ⟨ns, x, y, z, u, rfl, hn, hl⟩
    refine gx_name (sx_seq (sx_set ?_))
    walk_at "ev"
    refine ev_callE (a, ms) (Compat.refl _) ?_
    walk_at "ev"
    refine ⟨i, by simp, fun c => ?_⟩
    refine sx_cut (fun sl => ∃ (c : Int) (z u : Sl), sl = [.dat (.raw (.ref a)), .dat (.int 0), .dat (.int 60), .own l (ns.map .int), .dat (.int i), .dat (.int c), z, u]) ?_ ?_
    · walk_at "ev"
      · exact ⟨_, _, _, by simp; exact ⟨rfl, rfl, rfl⟩⟩
      · exact ⟨_, _, _, by simp; exact ⟨rfl, rfl, rfl⟩⟩
    rintro sl ⟨c, z, u, rfl⟩
    walk_at "ev"
    refine od_pow ⟨by decide, by decide, by decide⟩ ?_
    walk_at "ev"
    · refine sx_for (wk_rng1 ?_)
      walk_at "ev"
      refine ⟨60, rfl, by decide, fun j sl => ∃ (ks : List Int) (c : Int) (z u : Sl), sl = [.dat (.raw (.ref a)), .dat (.int 0), .dat (.int 60), .own l (ks.map .int), .dat (.int i), .dat (.int c), z, u] ∧ (∀ n ∈ ks, 0 ≤ n ∧ n < 1000) ∧ ks.length ≤ ns.length + j, ⟨ns, c, z, u, rfl, hn, by omega⟩, ?_, ?_⟩
      · rintro j sl hj ⟨ks, c, z, u, rfl, hk, hkl⟩
        walk_at "ev"
        · refine ⟨by simp; omega, ?_⟩
          walk_at "ev"
          refine ⟨ks ++ [c % 1000], c / 1000, .dat (.int j), u, by simp, ?_, by simp; omega⟩
          intro n hm
          rcases List.mem_append.mp hm with hm | hm
          · exact hk n hm
          · have e := List.mem_singleton.mp hm
            omega
        · exact ⟨ks, c, .dat (.int j), u, by simp, hk, by omega⟩
      · rintro sl ⟨ks, c, z, u, rfl, hk, hkl⟩
        exact ⟨ks, _, _, _, _, rfl, hk, by omega⟩
    · refine sx_for (wk_rng1 ?_)
      walk_at "ev"
      refine ⟨12, rfl, by decide, fun j sl => ∃ (ks : List Int) (d : Int) (z : Sl), sl = [.dat (.raw (.ref a)), .dat (.int 0), .dat (.int 60), .own l (ks.map .int), .dat (.int i), .dat (.int c), z, .dat (.int d)] ∧ (∀ n ∈ ks, 0 ≤ n ∧ n < 1000) ∧ ks.length ≤ ns.length + j, ⟨ns, _, _, rfl, hn, by omega⟩, ?_, ?_⟩
      · rintro j sl hj ⟨ks, d, z, rfl, hk, hkl⟩
        walk_at "ev"
        refine ⟨by simp; omega, ?_⟩
        refine ⟨ks ++ [(d * 16807 + 7 * (j : Int) + 1) % 2147483647 / 997 % 1000], (d * 16807 + 7 * (j : Int) + 1) % 2147483647, .dat (.int j), by simp, ?_, by simp; omega⟩
        intro n hm
        rcases List.mem_append.mp hm with hm | hm
        · exact hk n hm
        · have e := List.mem_singleton.mp hm
          omega
      · rintro sl ⟨ks, d, z, rfl, hk, hkl⟩
        exact ⟨ks, _, _, _, _, rfl, hk, by omega⟩
  · rintro sl ⟨ns, x, y, z, u, rfl, hn, hl⟩
    refine sx_freeze 3 rfl ?_
    walk_at "ev"
    exact p ns hn

/-! ## D6 -/
/-! ### the box: a list of digits and a place in it -/
structure Digs (ns : List Int) : Prop where
  ok : ∀ n ∈ ns, 0 ≤ n ∧ n < 1000
def BoxAt (b l : Addr) (ns : List Int) (B H : Hp) : Prop := (∃ k : Nat, H b = some (.lst [.ref l, .int k])) ∧ R B (.ref l) (.list (ns.map .int))
def rBox (b l : Addr) (ns : List Int) : Res := ⟨fun x => x = b, BoxAt b l ns, fun B H B2 H2 ⟨⟨k, h1⟩, h2⟩ s m => ⟨⟨k, m b _ rfl h1⟩, h2.mono s⟩⟩
structure Bx where
  b : Addr
  l : Addr
  ns : List Int
abbrev rBx (i : Bx) : Res := rBox i.b i.l i.ns
section
variable {b l : Addr} {ns : List Int} {Pd : D → Prop}
theorem od_box1 (p : ∀ k : Nat, Pd (.int k)) : OpD (rBox b l ns) (rIx K) (.raw (.ref b)) (.int 1) Pd := fun B H v w s j rv rw' Q q => by
  cases (show v = .ref b from rv); cases (show w = .int 1 from rw')
  obtain ⟨⟨k, h1⟩, h2⟩ := id j
  exact .inl ⟨b, _, 1, .int k, rfl, rfl, SqL.of h1, atI_nat (j := 1) rfl, q _ B H (.int k) (.refl s) j rfl (p k)⟩
theorem od_box0 (p : Pd (.list (ns.map .int))) : OpD (rBox b l ns) (rIx K) (.raw (.ref b)) (.int 0) Pd := fun B H v w s j rv rw' Q q => by
  cases (show v = .ref b from rv); cases (show w = .int 0 from rw')
  obtain ⟨⟨k, h1⟩, h2⟩ := id j
  exact .inl ⟨b, _, 0, .ref l, rfl, rfl, SqL.of h1, atI_nat (j := 0) rfl, q _ B H _ (.refl s) j h2 p⟩
/-- a change of what may be changed -/
theorem EnvOk.setM {r : Res} {B H : Hp} {σ : L2.St} {sl : List Sl} (e : EnvOk r B H σ sl) {x : Addr} {o : HO} (m : r.M x) (j : r.J B (upd H x o)) : EnvOk r B (upd H x o) σ sl ∧ Grow r.M B H B (upd H x o) := by
  have bx := e.mb x m
  have sb : Sub B (upd H x o) := fun a u ea => by
    rw [upd_ne (show a ≠ x from fun z => by rw [z, bx] at ea; cases ea)]
    exact e.sub a u ea
  have g : Grow r.M B H B (upd H x o) := by
    refine ⟨.refl B, fun a u ea na => ?_, fun a ha => ?_, sb, fun _ _ => rfl⟩
    · rw [upd_ne (show a ≠ x from fun z => na (z ▸ m))]; exact ea
    · by_cases z : a = x
      · subst z; rw [upd_same]; simp
      · rw [upd_ne z]; exact ha
  exact ⟨e.grow g j, g⟩
theorem gx_box {i : Nat} {k : Nat} {sl : List Sl} {P : List Sl → Prop} (hi : sl[i]? = some (.dat (.raw (.ref b)))) (p : P sl) : Gx (rBox b l ns) (gSub (tVar i) (tC (.int 1)) rSetL) (.int ((k : Int) + 1)) sl P := fun B0 H0 B H σ v a rv Q q => by
  cases (show v = .int ((k : Int) + 1) from rv)
  obtain ⟨o, e1, v, rfl, rv⟩ := a.e.at_ i _ hi
  cases (show v = .ref b from rv)
  obtain ⟨⟨k', h1⟩, h2⟩ := id a.e.J
  refine ⟨_, e1, b, [.ref l, .int k'], 1, 1, rfl, rfl, h1, rfl, ?_⟩
  obtain ⟨e2, g2⟩ := a.e.setM (x := b) (o := .lst [.ref l, .int ((k : Int) + 1)]) rfl ⟨⟨k + 1, by rw [upd_same]; rfl⟩, h2⟩
  exact q B _ σ sl p ⟨e2, a.own, a.g.trans g2⟩ (.refl B)
end
abbrev N__law_draw : List Str := ["_law_box", "_law_many", "_law_at"]
theorem sc__law_draw : FnScope N__law_draw ["_law_box", "_law_many"] (defScope s__law_draw) := ⟨rfl, rfl, rfl, by decide +kernel, rfl, by decide +kernel, by decide +kernel⟩
def tt_law_draw (i : Bx) : List D → (D → Prop) → Prop := fun ds P => ∃ n : Int, ds = [.raw (.ref i.b), .int n] ∧ 0 < n ∧ ∀ i : Int, 0 ≤ i → i < n → P (.int i)
theorem ok__law_draw (T : Txt mg) (F : FunAt K mg "_law_draw" s__law_draw ["_law_box", "_law_many"]) : Has P w K mg base 1 "_law_draw" ["_law_box", "_law_many"] (spE rBx tt_law_draw) := by
  refine has_ofE F sc__law_draw (by rintro i ds P ⟨n, rfl, _⟩; rfl) fun f cdv A outer s H E hr => ⟨_, (pss_cons (ps_set (i := 2) sc__law_draw.nd rfl (Or.inl rfl) (pe_ix (ixq K) (pv 0) pe_int (fun _ _ => rfl)))
  (pss_cons (ps_asg (pe_op op_add (pv 2) pe_int) (pg_sub (pv 0) pe_int set_list))
  (pss_cons (ps_if (pt_cmpR op_lt (pv 2) (pe_callB (lenq K) (by rfl) T.len (by decide +kernel) (pa_cons (pe_ix (ixq K) (pv 0) pe_int (fun _ _ => rfl)) pa_nil)) (nomark _)) (pss_one (ps_ret (pe_op op_mod (pe_callTy call_int1 (by rfl) T.int (by decide +kernel) (pa_cons (pe_ix (ixq K) (pe_ix (ixq K) (pv 0) pe_int (fun _ _ => rfl)) (pv 2) (fun _ _ => rfl)) pa_nil)) (pv 1)))) pss_nil)
  (pss_one (ps_ret (pe_op op_mod (pe_callTy call_int1 (by rfl) T.int (by decide +kernel) (pa_cons (pe_op op_add (pe_op op_mul (pv 2) pe_int) pe_int) pa_nil)) (pv 1))))))), ?_⟩
  rintro ⟨b, l, ns⟩ ds Pd ⟨n, rfl, hn, p⟩
  walk_at "ev"
  refine od_box1 fun k => ?_
  walk_at "ev"
  refine gx_box rfl ?_
  walk_at "ev"
  refine od_box0 ?_
  walk_at "ev"
  · rename_i h
    simp only [List.length_map] at h
    refine od_box0 ?_
    walk_at "ev"
    refine od_ix2 (.int (ns[k]'(by omega))) (atI_nat (by simp)) ?_
    walk_at "ev"
    exact p _ (Int.emod_nonneg _ (by omega)) (Int.emod_lt_of_pos _ hn)
  · exact p _ (Int.emod_nonneg _ (by omega)) (Int.emod_lt_of_pos _ hn)

abbrev N__law_demands : List Str := ["_law_box", "_law_months", "_law_m"]
theorem sc__law_demands : FnScope N__law_demands ["_law_box", "_law_months"] (defScope s__law_demands) := ⟨rfl, rfl, rfl, by decide +kernel, rfl, by decide +kernel, by decide +kernel⟩
def tt_law_demands (i : Bx) : List D → (D → Prop) → Prop := fun ds P => ∃ n : Nat, ds = [.raw (.ref i.b), .int n] ∧ n ≤ 4 ∧ ∀ f : Nat → Int, (∀ i, 0 ≤ f i ∧ f i < 7) → P (dRow n f)
theorem ok__law_demands (T : Txt mg) (F : FunAt K mg "_law_demands" s__law_demands ["_law_box", "_law_months"]) (h__law_draw : Has P w K mg base 1 "_law_draw" ["_law_box", "_law_many"] (spE rBx tt_law_draw)) :
    Has P w K mg base 2 "_law_demands" ["_law_box", "_law_months"] (spE rBx tt_law_demands) := by
  refine has_ofE F sc__law_demands (by rintro i ds P ⟨n, rfl, _⟩; rfl) fun f cdv A outer s H E hr => ⟨_, (pss_one (ps_ret (pe_callTy (tupq K) (by rfl) T.tuple (by decide +kernel) (pa_cons (pe_lc (own := [("_law_m", 2)]) rfl sc__law_demands.nd (pi_range1 rfl T.range (pa_cons (pv 1) pa_nil)) (blkOk_by (own := [("_law_m", 2)]) (N := N__law_demands) (sc := (defScope s__law_demands)) (by decide +kernel)) (fun _ _ _ _ _ => (pg_name (i := 2) sc__law_demands.nd rfl (Or.inl rfl))) (fun _ _ _ _ _ => pts_nil) (fun _ _ _ _ _ => (pe_has h__law_draw (hr.mono (by decide)) rfl (pa_cons (pv 0) (pa_cons pe_int pa_nil))))) pa_nil)))), ?_⟩
  rintro ⟨b, l, ns⟩ ds Pd ⟨n, rfl, hn, p⟩
  walk_at "ev"
  refine ev_lc (wk_rng1 ?_)
  walk_at "ev"
  refine ⟨n, rfl, by omega, by omega, fun i acc => ∃ g : Nat → Int, acc = (List.range i).map (fun j => .int (g j)) ∧ ∀ j, 0 ≤ g j ∧ g j < 7, ⟨fun _ => 0, rfl, fun _ => ⟨Int.le_refl 0, by show (0:Int) < 7; decide⟩⟩, ?_, ?_⟩
  · rintro i acc hi _ ⟨g, rfl, hg⟩
    refine cg_name (by decide) ?_
    walk_at "ev"
    refine ev_callE ⟨b, l, ns⟩ (Compat.refl _) ?_
    walk_at "ev"
    refine ⟨7, rfl, by decide, fun c h0 h1 => ⟨fun j => if j = i then c else g j, ?_, fun j => ?_⟩⟩
    · rw [List.range_succ, List.map_append]
      congr 1
      · refine List.map_congr_left fun j hj => ?_
        dsimp only
        rw [if_neg (show ¬ j = i from fun z => by have := List.mem_range.mp hj; omega)]
      · simp
    · dsimp only
      split
      · exact ⟨h0, h1⟩
      · exact hg j
  · rintro acc ⟨g, rfl, hg⟩
    walk_at "ev"
    exact p g hg

/-! ### a drawn basin -/
structure SiteOk (b : Hw.B) (k : Nat) : Prop where
  next : ∀ j, b.next k = some j → k < j ∧ j < b.n
  travel : b.travel k ≤ 2
  reach : ∀ x, b.reach k = some x → 0 ≤ x
  room : 0 ≤ b.room k
  held : 0 ≤ b.held k ∧ b.held k ≤ 100
  inflow : ∀ m, 0 ≤ b.inflow k m ∧ b.inflow k m ≤ 100
structure BasinOk (b : Hw.B) : Prop where
  n : 1 ≤ b.n ∧ b.n ≤ 3
  m : 1 ≤ b.months ∧ b.months ≤ 4
  site : ∀ k, SiteOk b k
def setSite (b : Hw.B) (i : Nat) (nx : Option Nat) (tr : Nat) (re : Option Int) (ro he : Int) (fl : Nat → Int) : Hw.B :=
  { b with next := fun k => if k = i then nx else b.next k, travel := fun k => if k = i then tr else b.travel k, reach := fun k => if k = i then re else b.reach k, room := fun k => if k = i then ro else b.room k,
           held := fun k => if k = i then he else b.held k, inflow := fun k => if k = i then fl else b.inflow k }
theorem abcd {j : Nat} (h : j < 4) : atI (Str.ofString "abcd").cps.toList (j : Int) = some (97 + j) := by
  match j, h with
  | 0, _ => decide +kernel
  | 1, _ => decide +kernel
  | 2, _ => decide +kernel
  | 3, _ => decide +kernel
theorem s_nm (j : Nat) : (Str.ofString "s") ++ (⟨#[97 + j]⟩ : Str) = nm j := by
  have e : Str.ofString "s" = ⟨#[115]⟩ := by decide +kernel
  rw [e]; rfl
theorem r_nm (j : Nat) : (Str.ofString "r") ++ (⟨#[97 + j]⟩ : Str) = nmR j := by
  have e : Str.ofString "r" = ⟨#[114]⟩ := by decide +kernel
  rw [e]; rfl
theorem pick4 {x : Int} (h0 : 0 ≤ x) (h1 : x < 4) : ∃ t : Nat, t ≤ 2 ∧ atI [D.int 0, .int 0, .int 1, .int 2] x = some (.int t) := by
  obtain ⟨j, rfl⟩ : ∃ j : Nat, x = j := ⟨x.toNat, by omega⟩
  match j, h1 with
  | 0, _ => exact ⟨0, by omega, atI_nat (j := 0) rfl⟩
  | 1, _ => exact ⟨0, by omega, atI_nat (j := 1) rfl⟩
  | 2, _ => exact ⟨1, by omega, atI_nat (j := 2) rfl⟩
  | 3, _ => exact ⟨2, by omega, atI_nat (j := 3) rfl⟩
theorem pick3n {x y : Int} (h0 : 0 ≤ x) (h1 : x < 3) (hy : 0 ≤ y) : ∃ t : Option Int, (∀ z, t = some z → 0 ≤ z) ∧ atI [.non, .non, D.int y] x = some (dO t) := by
  obtain ⟨j, rfl⟩ : ∃ j : Nat, x = j := ⟨x.toNat, by omega⟩
  match j, h1 with
  | 0, _ => exact ⟨none, (fun z e => by cases e), atI_nat (j := 0) rfl⟩
  | 1, _ => exact ⟨none, (fun z e => by cases e), atI_nat (j := 1) rfl⟩
  | 2, _ => exact ⟨some y, (fun z e => by cases e; exact hy), atI_nat (j := 2) rfl⟩
theorem pick3 {x a c : Int} (h0 : 0 ≤ x) (h1 : x < 3) (ha : 0 ≤ a ∧ a < 5) (hc : 0 ≤ c ∧ c < 9) : ∃ t : Int, 0 ≤ t ∧ t < 9 ∧ atI [D.int 0, .int a, .int c] x = some (.int t) := by
  obtain ⟨j, rfl⟩ : ∃ j : Nat, x = j := ⟨x.toNat, by omega⟩
  match j, h1 with
  | 0, _ => exact ⟨0, by omega, by omega, atI_nat (j := 0) rfl⟩
  | 1, _ => exact ⟨a, by omega, by omega, atI_nat (j := 1) rfl⟩
  | 2, _ => exact ⟨c, by omega, by omega, atI_nat (j := 2) rfl⟩
theorem abcd_len : (Str.ofString "abcd").length ≤ sizeLine := by decide +kernel
abbrev N__law_basin : List Str := ["_law_box", "_law_many", "_law_months", "_law_sites", "_law_k", "_law_other", "_law_travel", "_law_reach", "_law_room", "_law_held", "_law_m"]
theorem sc__law_basin : FnScope N__law_basin ["_law_box"] (defScope s__law_basin) := ⟨rfl, rfl, rfl, by decide +kernel, rfl, by decide +kernel, by decide +kernel⟩
def tt_law_basin (i : Bx) : List D → (D → Prop) → Prop := fun ds P => ds = [.raw (.ref i.b)] ∧ ∀ c : Hw.B, BasinOk c → P (dB c)
theorem ok__law_basin (T : Txt mg) (F : FunAt K mg "_law_basin" s__law_basin ["_law_box"]) (h__law_draw : Has P w K mg base 1 "_law_draw" ["_law_box", "_law_many"] (spE rBx tt_law_draw)) :
    Has P w K mg base 2 "_law_basin" ["_law_box"] (spE rBx tt_law_basin) := by
  refine has_ofE F sc__law_basin (by rintro i ds P ⟨rfl, _⟩; rfl) fun f cdv A outer s H E hr => ⟨_, (pss_cons (ps_set (i := 1) sc__law_basin.nd rfl (Or.inl rfl) (pe_op op_add pe_int (pe_has h__law_draw (hr.mono (by decide)) rfl (pa_cons (pv 0) (pa_cons pe_int pa_nil)))))
  (pss_cons (ps_set (i := 2) sc__law_basin.nd rfl (Or.inl rfl) (pe_ix (ixq K) (pe_lst (pa_cons (pe_op op_add pe_int (pe_has h__law_draw (hr.mono (by decide)) rfl (pa_cons (pv 0) (pa_cons pe_int pa_nil)))) (pa_cons (pe_op op_add pe_int (pe_has h__law_draw (hr.mono (by decide)) rfl (pa_cons (pv 0) (pa_cons pe_int pa_nil)))) (pa_cons (pe_op op_add pe_int (pe_has h__law_draw (hr.mono (by decide)) rfl (pa_cons (pv 0) (pa_cons pe_int pa_nil)))) pa_nil)))) (pe_op op_sub (pe_callTy call_int1 (by rfl) T.int (by decide +kernel) (pa_cons (pv 1) pa_nil)) pe_int) (fun _ _ => rfl)))
  (pss_cons (ps_set (i := 3) sc__law_basin.nd rfl (Or.inl rfl) (pe_lst pa_nil))
  (pss_cons (ps_for PassesOwn.never rfl (pi_range1 rfl T.range (pa_cons (pv 1) pa_nil)) (pg_name (i := 4) sc__law_basin.nd rfl (Or.inl rfl)) (pss_cons (ps_set (i := 5) sc__law_basin.nd rfl (Or.inl rfl) pe_non)
  (pss_cons (ps_set (i := 6) sc__law_basin.nd rfl (Or.inl rfl) pe_int)
  (pss_cons (ps_set (i := 7) sc__law_basin.nd rfl (Or.inl rfl) pe_non)
  (pss_cons (ps_if (pt_cmpR op_lt (pv 4) (pe_op op_sub (pv 1) pe_int) (nomark _)) (pss_cons (ps_set (i := 5) sc__law_basin.nd rfl (Or.inl rfl) (pe_op op_add_str pe_str (pe_ix (ixq K) pe_str (pe_callTy call_int1 (by rfl) T.int (by decide +kernel) (pa_cons (pe_op op_add (pe_op op_add (pv 4) pe_int) (pe_has h__law_draw (hr.mono (by decide)) rfl (pa_cons (pv 0) (pa_cons (pe_op op_sub (pe_op op_sub (pv 1) (pv 4)) pe_int) pa_nil)))) pa_nil)) (fun _ _ => rfl))))
  (pss_cons (ps_set (i := 6) sc__law_basin.nd rfl (Or.inl rfl) (pe_ix (ixq K) (pe_lst (pa_cons pe_int (pa_cons pe_int (pa_cons pe_int (pa_cons pe_int pa_nil))))) (pe_has h__law_draw (hr.mono (by decide)) rfl (pa_cons (pv 0) (pa_cons pe_int pa_nil))) (fun _ _ => rfl)))
  (pss_one (ps_set (i := 7) sc__law_basin.nd rfl (Or.inl rfl) (pe_ix (ixq K) (pe_lst (pa_cons pe_non (pa_cons pe_non (pa_cons (pe_has h__law_draw (hr.mono (by decide)) rfl (pa_cons (pv 0) (pa_cons pe_int pa_nil))) pa_nil)))) (pe_has h__law_draw (hr.mono (by decide)) rfl (pa_cons (pv 0) (pa_cons pe_int pa_nil))) (fun _ _ => rfl)))))) pss_nil)
  (pss_cons (ps_set (i := 8) sc__law_basin.nd rfl (Or.inl rfl) (pe_ix (ixq K) (pe_lst (pa_cons pe_int (pa_cons (pe_has h__law_draw (hr.mono (by decide)) rfl (pa_cons (pv 0) (pa_cons pe_int pa_nil))) (pa_cons (pe_has h__law_draw (hr.mono (by decide)) rfl (pa_cons (pv 0) (pa_cons pe_int pa_nil))) pa_nil)))) (pe_has h__law_draw (hr.mono (by decide)) rfl (pa_cons (pv 0) (pa_cons pe_int pa_nil))) (fun _ _ => rfl)))
  (pss_cons (ps_set (i := 9) sc__law_basin.nd rfl (Or.inl rfl) (pe_op op_mul (pe_has h__law_draw (hr.mono (by decide)) rfl (pa_cons (pv 0) (pa_cons (pe_op op_add (pv 8) pe_int) pa_nil))) (pe_has h__law_draw (hr.mono (by decide)) rfl (pa_cons (pv 0) (pa_cons pe_int pa_nil)))))
  (pss_one (ps_expr (pe_bm PySem.F.plainAttrs_list PySem.F.slot_list_append PySem.F.type_list_append mt_append (pv 3) (pa_cons (pe_tup (pa_cons (pe_op op_add_str pe_str (pe_ix (ixq K) pe_str (pe_callTy call_int1 (by rfl) T.int (by decide +kernel) (pa_cons (pv 4) pa_nil)) (fun _ _ => rfl))) (pa_cons (pv 5) (pa_cons (pv 6) (pa_cons (pv 7) (pa_cons (pv 8) (pa_cons (pv 9) (pa_cons (pe_callTy (tupq K) (by rfl) T.tuple (by decide +kernel) (pa_cons (pe_lc (own := [("_law_m", 10)]) rfl sc__law_basin.nd (pi_range1 rfl T.range (pa_cons (pv 2) pa_nil)) (blkOk_by (own := [("_law_m", 10)]) (N := N__law_basin) (sc := (defScope s__law_basin)) (by decide +kernel)) (fun _ _ _ _ _ => (pg_name (i := 10) sc__law_basin.nd rfl (Or.inl rfl))) (fun _ _ _ _ _ => pts_nil) (fun _ _ _ _ _ => (pe_has h__law_draw (hr.mono (by decide)) rfl (pa_cons (pv 0) (pa_cons pe_int pa_nil))))) pa_nil)) pa_nil)))))))) pa_nil)))))))))))
  (pss_one (ps_ret (pe_tup (pa_cons (pv 2) (pa_cons (pe_callTy (tupq K) (by rfl) T.tuple (by decide +kernel) (pa_cons (pv 3) pa_nil)) pa_nil))))))))), ?_⟩
  rintro ⟨b, l, ns⟩ ds Pd ⟨rfl, p⟩
  walk_at "ev"
  refine ev_callE ⟨b, l, ns⟩ (Compat.refl _) ?_
  walk_at "ev"
  refine ⟨3, rfl, by decide, fun c0 h0 h1 => ?_⟩
  walk_at "ev"
  refine ev_callE ⟨b, l, ns⟩ (Compat.refl _) ?_
  walk_at "ev"
  refine ⟨4, rfl, by decide, fun c1 h2 h3 => ?_⟩
  walk_at "ev"
  refine ev_callE ⟨b, l, ns⟩ (Compat.refl _) ?_
  walk_at "ev"
  refine ⟨3, rfl, by decide, fun c2 h4 h5 => ?_⟩
  walk_at "ev"
  refine ev_callE ⟨b, l, ns⟩ (Compat.refl _) ?_
  walk_at "ev"
  refine ⟨2, rfl, by decide, fun c3 h6 h7 => ?_⟩
  walk_at "ev"
  obtain ⟨c, rfl⟩ : ∃ c : Nat, c0 = c := ⟨c0.toNat, by omega⟩
  have hc : c < 3 := by omega
  -- how many months
  refine od_ix2 (.int (if c = 0 then 1 + c1 else if c = 1 then 1 + c2 else 1 + c3)) ?_ ?_
  · rw [show (1 + (c : Int) - 1) = (c : Int) by omega]
    match c, hc with
    | 0, _ => exact atI_nat (j := 0) rfl
    | 1, _ => exact atI_nat (j := 1) rfl
    | 2, _ => exact atI_nat (j := 2) rfl
  obtain ⟨M, hM, hM1, hM4⟩ : ∃ M : Nat, (if c = 0 then 1 + c1 else if c = 1 then 1 + c2 else 1 + c3) = (M : Int) ∧ 1 ≤ M ∧ M ≤ 4 := by
    refine ⟨(if c = 0 then 1 + c1 else if c = 1 then 1 + c2 else 1 + c3).toNat, ?_, ?_, ?_⟩ <;> (split <;> try split) <;> omega
  rw [hM, show (1 + (c : Int)) = ((1 + c : Nat) : Int) by omega]
  refine sx_seq (sx_new fun l2 => sx_seq (sx_for (wk_rng1 ?_)))
  walk_at "ev"
  refine ⟨1 + c, rfl, by omega, fun i sl => ∃ d : Hw.B, d.n = 1 + c ∧ d.months = M ∧ (∀ k, SiteOk d k) ∧ ∃ x4 x5 x6 x7 x8 x9 x10 : Sl, sl = [.dat (.raw (.ref b)), .dat (.int ((1 + c : Nat) : Int)), .dat (.int M), .own l2 ((List.range i).map (dSite d)), x4, x5, x6, x7, x8, x9, x10],
    ⟨⟨1 + c, M, fun _ => none, fun _ => 0, fun _ => none, fun _ => 0, fun _ => 0, fun _ _ => 0, 0, fun _ => 0, fun _ _ => 0⟩, rfl, rfl, fun k => ⟨fun j e => (by cases e), Nat.zero_le _, fun x e => (by cases e), Int.le_refl 0, ⟨Int.le_refl 0, by show (0:Int) ≤ 100; decide⟩, fun m => ⟨Int.le_refl 0, by show (0:Int) ≤ 100; decide⟩⟩, _, _, _, _, _, _, _, rfl⟩, ?_, ?_⟩
  · rintro i sl hi ⟨d, d1, d2, d3, x4, x5, x6, x7, x8, x9, x10, rfl⟩
    refine gx_name (sx_seq (sx_set (ev_non (sx_seq (sx_set (ev_int (sx_seq (sx_set (ev_non ?_)))))))))
    dsimp only [List.set]
    refine sx_cut (fun sl => ∃ (nx : Option Nat) (tr : Nat) (re : Option Int) (x8 x9 x10 : Sl), sl = [.dat (.raw (.ref b)), .dat (.int ((1 + c : Nat) : Int)), .dat (.int M), .own l2 ((List.range i).map (dSite d)), .dat (.int i), .dat (dN nx), .dat (.int tr), .dat (dO re), x8, x9, x10] ∧ (∀ j, nx = some j → i < j ∧ j < 1 + c) ∧ tr ≤ 2 ∧ ∀ x, re = some x → 0 ≤ x) ?_ ?_
    · walk_at "ev"
      · rename_i h
        refine ev_callE ⟨b, l, ns⟩ (Compat.refl _) ?_
        walk_at "ev"
        refine ⟨_, rfl, by omega, fun a h8 h9 => ?_⟩
        walk_at "ev"
        obtain ⟨a, rfl⟩ : ∃ a' : Nat, a = a' := ⟨a.toNat, by omega⟩
        refine od_ix3 _ abcd_len (show atI _ ((i : Int) + 1 + (a : Int)) = _ from abcd (j := i + 1 + a) (by omega)) ?_
        refine od_addS (by show 1 + 1 ≤ 100000; decide) ?_
        rw [s_nm]
        walk_at "ev"
        refine ev_callE ⟨b, l, ns⟩ (Compat.refl _) ?_
        walk_at "ev"
        refine ⟨4, rfl, by decide, fun e h8 h9 => ?_⟩
        obtain ⟨t, ht, et⟩ := pick4 h8 h9
        refine od_ix2 _ et ?_
        walk_at "ev"
        refine ev_callE ⟨b, l, ns⟩ (Compat.refl _) ?_
        walk_at "ev"
        refine ⟨6, rfl, by decide, fun f h8 h9 => ?_⟩
        walk_at "ev"
        refine ev_callE ⟨b, l, ns⟩ (Compat.refl _) ?_
        walk_at "ev"
        refine ⟨3, rfl, by decide, fun g h10 h11 => ?_⟩
        obtain ⟨re, hre, ere⟩ := pick3n h10 h11 h8
        refine od_ix2 _ ere ?_
        walk_at "ev"
        exact ⟨some (i + 1 + a), t, re, _, _, _, rfl, fun j e => (by cases e; omega), ht, hre⟩
      · exact ⟨none, 0, none, _, _, _, rfl, fun j e => (by cases e), by omega, fun j e => by cases e⟩
    rintro sl ⟨nx, tr, re, x8, x9, x10, rfl, hnx, htr, hre⟩
    walk_at "ev"
    refine ev_callE ⟨b, l, ns⟩ (Compat.refl _) ?_
    walk_at "ev"
    refine ⟨5, rfl, by decide, fun a ha0 ha1 => ?_⟩
    walk_at "ev"
    refine ev_callE ⟨b, l, ns⟩ (Compat.refl _) ?_
    walk_at "ev"
    refine ⟨9, rfl, by decide, fun e he0 he1 => ?_⟩
    walk_at "ev"
    refine ev_callE ⟨b, l, ns⟩ (Compat.refl _) ?_
    walk_at "ev"
    refine ⟨3, rfl, by decide, fun g h8 h9 => ?_⟩
    obtain ⟨ro, hro, hro1, ero⟩ := pick3 h8 h9 ⟨ha0, ha1⟩ ⟨he0, he1⟩
    refine od_ix2 _ ero ?_
    walk_at "ev"
    refine ev_callE ⟨b, l, ns⟩ (Compat.refl _) ?_
    walk_at "ev"
    refine ⟨_, rfl, by omega, fun y hy0 hy1 => ?_⟩
    refine ev_callE ⟨b, l, ns⟩ (Compat.refl _) ?_
    walk_at "ev"
    refine ⟨2, rfl, by decide, fun z hz0 hz1 => ?_⟩
    refine od_mulL (by omega) ?_
    have hyz : 0 ≤ y * z ∧ y * z ≤ 100 := by
      rcases (show z = 0 ∨ z = 1 by omega) with rfl | rfl <;> omega
    generalize y * z = he at hyz
    walk_at "ev"
    refine od_ix3 _ abcd_len (abcd (j := i) (by omega)) ?_
    refine od_addS (by show 1 + 1 ≤ 100000; decide) ?_
    rw [s_nm]
    walk_at "ev"
    refine ev_lc (wk_rng1 ?_)
    walk_at "ev"
    refine ⟨M, rfl, by omega, by omega, fun i acc => ∃ g : Nat → Int, acc = (List.range i).map (fun j => .int (g j)) ∧ ∀ j, 0 ≤ g j ∧ g j ≤ 100, ⟨fun _ => 0, rfl, fun _ => ⟨Int.le_refl 0, by show (0:Int) ≤ 100; decide⟩⟩, ?_, ?_⟩
    · rintro i' acc hi' _ ⟨g, rfl, hg⟩
      refine cg_name (by decide) ?_
      walk_at "ev"
      refine ev_callE ⟨b, l, ns⟩ (Compat.refl _) ?_
      walk_at "ev"
      refine ⟨8, rfl, by decide, fun c h0 h1 => ⟨fun j => if j = i' then c else g j, ?_, fun j => ?_⟩⟩
      · rw [List.range_succ, List.map_append]
        congr 1
        · refine List.map_congr_left fun j hj => ?_
          dsimp only
          rw [if_neg (show ¬ j = i' from fun z => by have := List.mem_range.mp hj; omega)]
        · simp
      · dsimp only
        split
        · omega
        · exact hg j
    · rintro acc ⟨fl, rfl, hfl⟩
      walk_at "ev"
      refine ⟨by simp; omega, setSite d i nx tr re ro he fl, d1, d2, ?_, .dat (.int i), .dat (dN nx), .dat (.int tr), .dat (dO re), .dat (.int ro), .dat (.int he), x10, ?_⟩
      · intro k
        by_cases e : k = i
        · subst e
          refine ⟨fun j hj => ?_, ?_, ?_, ?_, ?_, ?_⟩
          · have := hnx j (by simpa [setSite] using hj)
            exact ⟨this.1, by show j < d.n; omega⟩
          · simpa [setSite] using htr
          · intro x hx; exact hre x (by simpa [setSite] using hx)
          · simpa [setSite] using hro
          · simpa [setSite] using hyz
          · intro m; simpa [setSite] using hfl m
        · obtain ⟨q1, q2, q3, q4, q5, q6⟩ := d3 k
          refine ⟨fun j hj => ?_, ?_, ?_, ?_, ?_, ?_⟩
          · exact q1 j (by simpa [setSite, e] using hj)
          · simpa [setSite, e] using q2
          · intro x hx; exact q3 x (by simpa [setSite, e] using hx)
          · simpa [setSite, e] using q4
          · simpa [setSite, e] using q5
          · intro m; simpa [setSite, e] using q6 m
      · have e1 : (List.range (i + 1)).map (dSite (setSite d i nx tr re ro he fl)) = (List.range i).map (dSite d) ++ [.tup [.str (nm i), dN nx, .int tr, dO re, .int ro, .int he, .tup ((List.range M).map fun j => .int (fl j))]] := by
          rw [List.range_succ, List.map_append]
          congr 1
          · refine List.map_congr_left fun j hj => ?_
            have hne : ¬ j = i := fun z => by have := List.mem_range.mp hj; omega
            simp [dSite, setSite, hne]
          · simp [dSite, setSite, d2]
        rw [e1]
        rfl
  · rintro sl ⟨d, d1, d2, d3, x4, x5, x6, x7, x8, x9, x10, rfl⟩
    refine sx_freeze 3 rfl ?_
    walk_at "ev"
    rw [← d1, ← d2]
    exact p d ⟨by omega, by omega, d3⟩

/-! ## D7 -/
abbrev N__law_rights : List Str := ["_law_box", "_law_basin_here", "_law_most", "_law_names", "_law_found", "_law_k", "_law_site"]
theorem sc__law_rights : FnScope N__law_rights ["_law_box", "_law_basin_here", "_law_most"] (defScope s__law_rights) := ⟨rfl, rfl, rfl, by decide +kernel, rfl, by decide +kernel, by decide +kernel⟩
def setR (c : Hw.B) (nr : Nat) (rs : Nat → Nat) (dem : Nat → Nat → Int) : Hw.B := { c with nr := nr, rsite := rs, dem := dem }
def tt_law_rights (i : Bx) : List D → (D → Prop) → Prop := fun ds P => ∃ c : Hw.B, ds = [.raw (.ref i.b), dB c, .int 3] ∧ BasinOk c ∧ ∀ nr rs dem, nr ≤ 3 → (∀ r, rs r < c.n) → (∀ r m, 0 ≤ dem r m ∧ dem r m < 7) → P (dRs (setR c nr rs dem))
theorem ok__law_rights (T : Txt mg) (F : FunAt K mg "_law_rights" s__law_rights ["_law_box", "_law_basin_here", "_law_most"]) (h__law_draw : Has P w K mg base 1 "_law_draw" ["_law_box", "_law_many"] (spE rBx tt_law_draw))
    (h__law_demands : Has P w K mg base 2 "_law_demands" ["_law_box", "_law_months"] (spE rBx tt_law_demands)) :
    Has P w K mg base 3 "_law_rights" ["_law_box", "_law_basin_here", "_law_most"] (spE rBx tt_law_rights) := by
  refine has_ofE F sc__law_rights (by rintro i ds P ⟨c, rfl, _⟩; rfl) fun f cdv A outer s H E hr => ⟨_, (pss_cons (ps_setLc (i := 3) (own := [("_law_site", 6)]) rfl sc__law_rights.nd rfl rfl (sw_true rfl rfl rfl (by decide +kernel)) (pi_tupq K (pe_ix (ixq K) (pv 1) pe_int (fun _ _ => rfl))) (blkOk_by (own := [("_law_site", 6)]) (N := N__law_rights) (sc := (defScope s__law_rights)) (by decide +kernel)) (fun _ _ _ _ _ => (pg_name (i := 6) sc__law_rights.nd rfl (Or.inl rfl))) (fun _ _ _ _ _ => pts_nil) (fun _ _ _ _ _ => (pe_ix (ixq K) (pv 6) pe_int (fun _ _ => rfl))))
  (pss_cons (ps_set (i := 4) sc__law_rights.nd rfl (Or.inl rfl) (pe_lst pa_nil))
  (pss_cons (ps_for PassesOwn.never rfl (pi_range1 rfl T.range (pa_cons (pe_has h__law_draw (hr.mono (by decide)) rfl (pa_cons (pv 0) (pa_cons (pe_op op_add (pv 2) pe_int) pa_nil))) pa_nil)) (pg_name (i := 5) sc__law_rights.nd rfl (Or.inl rfl)) (pss_one (ps_expr (pe_bm PySem.F.plainAttrs_list PySem.F.slot_list_append PySem.F.type_list_append mt_append (pv 4) (pa_cons (pe_tup (pa_cons (pe_op op_add_str pe_str (pe_ix (ixq K) pe_str (pe_callTy call_int1 (by rfl) T.int (by decide +kernel) (pa_cons (pv 5) pa_nil)) (fun _ _ => rfl))) (pa_cons (pe_ix (ixq K) (pv 3) (pe_op op_mod (pe_callTy call_int1 (by rfl) T.int (by decide +kernel) (pa_cons (pe_has h__law_draw (hr.mono (by decide)) rfl (pa_cons (pv 0) (pa_cons pe_int pa_nil))) pa_nil)) (pe_callB (lenq K) (by rfl) T.len (by decide +kernel) (pa_cons (pv 3) pa_nil))) (fun _ _ => rfl)) (pa_cons (pe_has h__law_demands (hr.mono (by decide)) rfl (pa_cons (pv 0) (pa_cons (pe_ix (ixq K) (pv 1) pe_int (fun _ _ => rfl)) pa_nil))) pa_nil)))) pa_nil)))))
  (pss_one (ps_ret (pe_callTy (tupq K) (by rfl) T.tuple (by decide +kernel) (pa_cons (pv 4) pa_nil))))))), ?_⟩
  rintro ⟨b, l, ns⟩ ds Pd ⟨c, rfl, hc, p⟩
  have hn := hc.n
  have hm := hc.m
  refine sx_seq (sx_set (ev_lc (wk_tup ?_)))
  walk_at "ev"
  refine ⟨_, c.n, fun i => dSite c i, rfl, by simp, fun i hi => by simp [hi], by omega, fun i acc => acc = (List.range i).map fun j => .str (nm j), rfl, ?_, ?_⟩
  · rintro i acc hi _ rfl
    refine cg_name (by decide) ?_
    walk_at "ev"
    dsimp only
    rw [List.range_succ, List.map_append]; rfl
  rintro acc rfl
  refine sx_seq (sx_new fun l2 => sx_seq (sx_for (wk_rng1 ?_)))
  walk_at "ev"
  refine ev_callE ⟨b, l, ns⟩ (Compat.refl _) ?_
  walk_at "ev"
  refine ⟨_, rfl, by omega, fun x hx0 hx1 => ?_⟩
  walk_at "ev"
  obtain ⟨x, rfl⟩ : ∃ x' : Nat, x = x' := ⟨x.toNat, by omega⟩
  refine ⟨x, rfl, by omega, fun i sl => ∃ (rs : Nat → Nat) (dem : Nat → Nat → Int) (x5 x6 : Sl), (∀ r, rs r < c.n) ∧ (∀ r m, 0 ≤ dem r m ∧ dem r m < 7) ∧
    sl = [.dat (.raw (.ref b)), .dat (dB c), .dat (.int 3), .dat (.list ((List.range c.n).map fun j => .str (nm j))), .own l2 ((List.range i).map fun r => .tup [.str (nmR r), .str (nm (rs r)), dRow c.months (dem r)]), x5, x6],
    ⟨fun _ => 0, fun _ _ => 0, _, _, fun _ => (by show 0 < c.n; omega), fun _ _ => ⟨Int.le_refl 0, by show (0:Int) < 7; decide⟩, rfl⟩, ?_, ?_⟩
  · rintro i sl hi ⟨rs, dem, x5, x6, h1, h2, rfl⟩
    walk_at "ev"
    refine od_ix3 _ abcd_len (abcd (j := i) (by omega)) ?_
    refine od_addS (by show 1 + 1 ≤ 100000; decide) ?_
    rw [r_nm]
    walk_at "ev"
    refine ev_callE ⟨b, l, ns⟩ (Compat.refl _) ?_
    walk_at "ev"
    refine ⟨90, rfl, by decide, fun y hy0 hy1 => ?_⟩
    walk_at "ev"
    refine od_modD (by simp; omega) ?_
    simp only [List.length_map, List.length_range]
    obtain ⟨z, hz, ez⟩ : ∃ z : Nat, z < c.n ∧ y % (c.n : Int) = z := by
      have q0 := Int.emod_nonneg y (show (c.n : Int) ≠ 0 by omega)
      have q1 := Int.emod_lt_of_pos y (show (0:Int) < c.n by omega)
      exact ⟨(y % (c.n : Int)).toNat, by omega, by omega⟩
    rw [ez]
    refine od_ixML hz ?_
    walk_at "ev"
    refine ev_callE ⟨b, l, ns⟩ (Compat.refl _) ?_
    walk_at "ev"
    refine ⟨c.months, rfl, by omega, fun fl hfl => ?_⟩
    walk_at "ev"
    refine ⟨by omega, fun r => if r = i then z else rs r, fun r => if r = i then fl else dem r, .dat (.int i), x6, fun r => ?_, fun r m => ?_, ?_⟩
    · dsimp only; split
      · exact hz
      · exact h1 r
    · dsimp only; split
      · exact hfl m
      · exact h2 r m
    · have e1 : ((List.range (i + 1)).map fun r => D.tup [.str (nmR r), .str (nm (if r = i then z else rs r)), dRow c.months (if r = i then fl else dem r)]) = ((List.range i).map fun r => D.tup [.str (nmR r), .str (nm (rs r)), dRow c.months (dem r)]) ++ [.tup [.str (nmR i), .str (nm z), dRow c.months fl]] := by
        rw [List.range_succ, List.map_append]
        congr 1
        · refine List.map_congr_left fun j hj => ?_
          have hne : ¬ j = i := fun z => by have := List.mem_range.mp hj; omega
          simp [hne]
        · simp
      rw [e1]
      rfl
  · rintro sl ⟨rs, dem, x5, x6, h1, h2, rfl⟩
    refine sx_freeze 4 rfl ?_
    walk_at "ev"
    exact p x rs dem (by omega) h1 h2

/-! ## D8 -/
theorem ev_slHi' {r : Res} {sl : List Sl} {te ta : TE} {P : D → Prop} (h : EvP r te sl fun d => ∃ ds, d = .tup ds ∧ EvP r ta sl fun k => ∃ n : Nat, k = .int n ∧ P (.tup (ds.take n))) : EvP r (tSl (rSlA K) te tNoPart (tPart ta)) sl P := ev_slHi h
theorem cells_len (n : Nat) : ∀ M, (Hw.cells n M).length = M * n
  | 0 => by simp [Hw.cells]
  | M + 1 => by rw [Hw.cells_succ, List.length_append, cells_len n M]; simp [Nat.succ_mul]
abbrev N__law_cells : List Str := ["_law_basin_here", "_law_found", "_law_m", "_law_k"]
theorem sc__law_cells : FnScope N__law_cells ["_law_basin_here"] (defScope s__law_cells) := ⟨rfl, rfl, rfl, by decide +kernel, rfl, by decide +kernel, by decide +kernel⟩
def tt_law_cells : List D → (D → Prop) → Prop := fun ds P => ∃ (b : Hw.B), ds = [dB b] ∧ b.n ≤ 4 ∧ b.months ≤ 4 ∧ P (.list ((Hw.cells b.n b.months).map dCell))
theorem ok__law_cells (T : Txt mg) (F : FunAt K mg "_law_cells" s__law_cells ["_law_basin_here"]) : Has P w K mg base 1 "_law_cells" ["_law_basin_here"] (spD r0 tt_law_cells) := by
  refine has_of F sc__law_cells (by rintro ds P ⟨b, rfl, _⟩; rfl) fun f cdv A outer s H E hr => ⟨_, (pss_cons (ps_set (i := 1) sc__law_cells.nd rfl (Or.inl rfl) (pe_lst pa_nil))
  (pss_cons (ps_for PassesOwn.never rfl (pi_range1 rfl T.range (pa_cons (pe_ix (ixq K) (pv 0) pe_int (fun _ _ => rfl)) pa_nil)) (pg_name (i := 2) sc__law_cells.nd rfl (Or.inr rfl)) (pss_one (ps_set (i := 1) sc__law_cells.nd rfl (Or.inl rfl) (pe_op op_cat (pv 1) (pe_lc (own := [("_law_k", 3)]) rfl sc__law_cells.nd (pi_range1 rfl T.range (pa_cons (pe_callB (lenq K) (by rfl) T.len (by decide +kernel) (pa_cons (pe_ix (ixq K) (pv 0) pe_int (fun _ _ => rfl)) pa_nil)) pa_nil)) (blkOk_by (own := [("_law_k", 3)]) (N := N__law_cells) (sc := (defScope s__law_cells)) (by decide +kernel)) (fun _ _ _ _ _ => (pg_name (i := 3) sc__law_cells.nd rfl (Or.inl rfl))) (fun _ _ _ _ _ => pts_nil) (fun _ _ _ _ _ => (pe_tup (pa_cons (pv 3) (pa_cons (pv 2) pa_nil)))))))))
  (pss_one (ps_ret (pv 1))))), ?_⟩
  rintro ds Pd ⟨b, rfl, h1, h2, p⟩
  walk_at "ev"
  refine sx_for (wk_rng1 ?_)
  walk_at "ev"
  refine ⟨b.months, rfl, by omega, fun i sl => ∃ x y, sl = [.dat (dB b), .dat (.list ((Hw.cells b.n i).map dCell)), x, y], ⟨_, _, rfl⟩, ?_, ?_⟩
  · rintro i sl hi ⟨x, y, rfl⟩
    walk_at "ev"
    refine ev_lc (wk_rng1 ?_)
    walk_at "ev"
    refine ⟨b.n, by simp, by omega, by omega, fun j acc => acc = (List.range j).map fun k => dC k i, rfl, ?_, ?_⟩
    · rintro j acc hj _ rfl
      refine cg_name (by decide) ?_
      walk_at "ev"
      dsimp only
      rw [List.range_succ, List.map_append]; rfl
    · rintro acc rfl
      have hl := cells_len b.n i
      have := Nat.mul_le_mul (show i ≤ 4 by omega) h1
      refine od_cat (by simp only [List.length_map, List.length_range]; omega) ?_
      walk_at "ev"
      refine ⟨.dat (.int i), y, ?_⟩
      have e : (Hw.cells b.n (i + 1)).map dCell = (Hw.cells b.n i).map dCell ++ (List.range b.n).map fun k => dC k i := by
        rw [Hw.cells_succ, List.map_append, List.map_map]; rfl
      rw [e]
      rfl
  · rintro sl ⟨x, y, rfl⟩
    walk_at "ev"
    exact p
abbrev N__law_cut : List Str := ["_law_basin_here", "_law_rights_here", "_law_plan", "_law_many", "_law_sites", "_law_fewer", "_law_site", "_law_right", "_law_part", "_law_row"]
theorem sc__law_cut : FnScope N__law_cut ["_law_basin_here", "_law_rights_here", "_law_plan", "_law_many"] (defScope s__law_cut) := ⟨rfl, rfl, rfl, by decide +kernel, rfl, by decide +kernel, by decide +kernel⟩
def tt_law_cut : List D → (D → Prop) → Prop := fun ds P => ∃ (b : Hw.B) (p : Hw.P) (t : Nat), ds = [dB b, dRs b, dP b p, .int t] ∧ b.n ≤ 4 ∧ b.nr ≤ 4 ∧ b.months ≤ 4 ∧ t ≤ b.months ∧ P (.list [dB (Hw.cut b t), dRs (Hw.cut b t), dP (Hw.cut b t) p])
theorem take_range {α : Type} {t n : Nat} (f : Nat → α) (h : t ≤ n) : ((List.range n).map f).take t = (List.range t).map f := by
  rw [← List.map_take, List.take_range, Nat.min_eq_left h]
theorem ok__law_cut (T : Txt mg) (F : FunAt K mg "_law_cut" s__law_cut ["_law_basin_here", "_law_rights_here", "_law_plan", "_law_many"]) : Has P w K mg base 1 "_law_cut" ["_law_basin_here", "_law_rights_here", "_law_plan", "_law_many"] (spD r0 tt_law_cut) := by
  refine has_of F sc__law_cut (by rintro ds P ⟨b, p, t, rfl, _⟩; rfl) fun f cdv A outer s H E hr => ⟨_, (pss_cons (ps_set (i := 4) sc__law_cut.nd rfl (Or.inl rfl) (pe_callTy (tupq K) (by rfl) T.tuple (by decide +kernel) (pa_cons (pe_lc (own := [("_law_site", 6)]) rfl sc__law_cut.nd (pi_tupq K (pe_ix (ixq K) (pv 0) pe_int (fun _ _ => rfl))) (blkOk_by (own := [("_law_site", 6)]) (N := N__law_cut) (sc := (defScope s__law_cut)) (by decide +kernel)) (fun _ _ _ _ _ => (pg_name (i := 6) sc__law_cut.nd rfl (Or.inl rfl))) (fun _ _ _ _ _ => pts_nil) (fun _ _ _ _ _ => (pe_op (catq K) (pe_slice (slq K) (pv 6) po_none (po_some pe_int)) (pe_tup (pa_cons (pe_slice (slq K) (pe_ix (ixq K) (pv 6) pe_int (fun _ _ => rfl)) po_none (po_some (pv 3))) pa_nil))))) pa_nil)))
  (pss_cons (ps_set (i := 5) sc__law_cut.nd rfl (Or.inl rfl) (pe_callTy (tupq K) (by rfl) T.tuple (by decide +kernel) (pa_cons (pe_lc (own := [("_law_right", 7)]) rfl sc__law_cut.nd (pi_tupq K (pv 1)) (blkOk_by (own := [("_law_right", 7)]) (N := N__law_cut) (sc := (defScope s__law_cut)) (by decide +kernel)) (fun _ _ _ _ _ => (pg_name (i := 7) sc__law_cut.nd rfl (Or.inl rfl))) (fun _ _ _ _ _ => pts_nil) (fun _ _ _ _ _ => (pe_op (catq K) (pe_slice (slq K) (pv 7) po_none (po_some pe_int)) (pe_tup (pa_cons (pe_slice (slq K) (pe_ix (ixq K) (pv 7) pe_int (fun _ _ => rfl)) po_none (po_some (pv 3))) pa_nil))))) pa_nil)))
  (pss_one (ps_ret (pe_lst (pa_cons (pe_tup (pa_cons (pv 3) (pa_cons (pv 4) pa_nil))) (pa_cons (pv 5) (pa_cons (pe_callTy (tupq K) (by rfl) T.tuple (by decide +kernel) (pa_cons (pe_lc (own := [("_law_part", 8)]) rfl sc__law_cut.nd (pi_tupq K (pv 2)) (blkOk_by (own := [("_law_part", 8)]) (N := N__law_cut) (sc := (defScope s__law_cut)) (by decide +kernel)) (fun _ _ _ _ _ => (pg_name (i := 8) sc__law_cut.nd rfl (Or.inl rfl))) (fun _ _ _ _ _ => pts_nil) (fun _ _ _ _ _ => (pe_callTy (tupq K) (by rfl) T.tuple (by decide +kernel) (pa_cons (pe_lc (own := [("_law_row", 9)]) rfl sc__law_cut.nd (pi_tupq K (pv 8)) (blkOk_by (own := [("_law_row", 9)]) (N := N__law_cut) (sc := (relS ({ kind := .function, names := [(PySem.Str.ofString ".0", .local), (PySem.Str.ofString "_law_part", .local), (PySem.Str.ofString "tuple", .globalImplicit), (PySem.Str.ofString "_law_many", .free)], isGenerator := false, isCoroutine := false, more := [] : PySem.Scope }) (defScope s__law_cut))) (by decide +kernel)) (fun _ _ _ _ _ => (pg_name (i := 9) sc__law_cut.nd rfl (Or.inl rfl))) (fun _ _ _ _ _ => pts_nil) (fun _ _ _ _ _ => (pe_slice (slq K) (pv 9) po_none (po_some (pv 3))))) pa_nil)))) pa_nil)) pa_nil)))))))), ?_⟩
  rintro ds Pd ⟨b, q, t, rfl, h1, h2, h3, h4, p⟩
  walk_at "ev"
  refine ev_lc (wk_tup ?_)
  walk_at "ev"
  refine ⟨_, b.n, dSite b, rfl, by simp, fun i hi => by simp [hi], by omega, fun i acc => acc = (List.range i).map (dSite (Hw.cut b t)), rfl, ?_, ?_⟩
  · rintro i acc hi _ rfl
    refine cg_name (by decide) ?_
    walk_at "ev"
    refine ev_slHi (ev_var _ rfl ⟨_, rfl, ev_int ⟨6, rfl, ?_⟩⟩)
    walk_at "ev"
    refine ev_slHi ?_
    walk_at "ev"
    refine ⟨_, rfl, ?_⟩
    walk_at "ev"
    refine ⟨t, rfl, ?_⟩
    rw [take_range _ h4]
    walk_at "ev"
    refine od_catA (by show 6 + 1 ≤ 100000; decide) ?_
    dsimp only
    rw [List.range_succ, List.map_append]; rfl
  rintro acc rfl
  walk_at "ev"
  refine ev_lc (wk_tup ?_)
  walk_at "ev"
  refine ⟨_, b.nr, dRight b, rfl, by simp, fun i hi => by simp [hi], by omega, fun i acc => acc = (List.range i).map (dRight (Hw.cut b t)), rfl, ?_, ?_⟩
  · rintro i acc hi _ rfl
    refine cg_name (by decide) ?_
    walk_at "ev"
    refine ev_slHi (ev_var _ rfl ⟨_, rfl, ev_int ⟨2, rfl, ?_⟩⟩)
    walk_at "ev"
    refine ev_slHi ?_
    walk_at "ev"
    refine ⟨_, rfl, ?_⟩
    walk_at "ev"
    refine ⟨t, rfl, ?_⟩
    rw [take_range _ h4]
    walk_at "ev"
    refine od_catA (by show 2 + 1 ≤ 100000; decide) ?_
    dsimp only
    rw [List.range_succ, List.map_append]; rfl
  rintro acc rfl
  walk_at "ev"
  refine ev_lc (wk_tup ?_)
  walk_at "ev"
  refine ⟨_, 3, fun i => dMat (if i = 0 then b.nr else b.n) b.months (if i = 0 then q.del else if i = 1 then q.rel else q.sto), rfl, rfl, ?_, by omega, fun i acc => acc = (List.range i).map fun i => dMat (if i = 0 then b.nr else b.n) t (if i = 0 then q.del else if i = 1 then q.rel else q.sto), rfl, ?_, ?_⟩
  · intro i hi
    match i, hi with
    | 0, _ => rfl
    | 1, _ => rfl
    | 2, _ => rfl
  · rintro i acc hi _ rfl
    have hN : (if i = 0 then b.nr else b.n) ≤ 4 := by split <;> omega
    dsimp only
    rw [List.range_succ, List.map_append]
    simp only [List.map_cons, List.map_nil]
    generalize (if i = 0 then b.nr else b.n) = N at *
    generalize (if i = 0 then q.del else if i = 1 then q.rel else q.sto) = F at *
    refine cg_name (by decide) ?_
    walk_at "ev"
    refine ev_lc (wk_tup ?_)
    walk_at "ev"
    refine ⟨_, N, fun i => dRow b.months (F i), rfl, by simp, fun i hi => by simp [hi], by omega, fun i acc => acc = (List.range i).map fun i => dRow t (F i), rfl, ?_, ?_⟩
    · rintro i acc hi _ rfl
      refine cg_name (by decide) ?_
      walk_at "ev"
      refine ev_slHi ?_
      walk_at "ev"
      refine ⟨_, rfl, ?_⟩
      walk_at "ev"
      refine ⟨t, rfl, ?_⟩
      rw [take_range _ h4]
      dsimp only
      rw [List.range_succ, List.map_append]; rfl
    · rintro acc rfl
      walk_at "ev"
      rfl
  · rintro acc rfl
    walk_at "ev"
    exact p

/-! ## D9 -/
/-! ### the matrices of a plan that is being drawn -/
structure Pl where
  b : Addr
  l : Addr
  ns : List Int
  ad : Nat → Nat → Addr
  nr : Nat
  n : Nat
  M : Nat
def Pl.wd (X : Pl) (i : Nat) : Nat := if i = 0 then X.nr else X.n
structure Pl.Ok (X : Pl) : Prop where
  apart : ∀ i r, i < 3 → r < X.wd i → X.ad i r ≠ X.b
  inj : ∀ i r i' r', i < 3 → r < X.wd i → i' < 3 → r' < X.wd i' → X.ad i r = X.ad i' r' → i = i' ∧ r = r'
def rPlan (X : Pl) (p : Hw.F3) : Res := ⟨fun x => x = X.b ∨ ∃ i r, i < 3 ∧ r < X.wd i ∧ x = X.ad i r, fun B H => BoxAt X.b X.l X.ns B H ∧ ∀ i r, i < 3 → r < X.wd i → H (X.ad i r) = some (.lst ((List.range X.M).map fun m => .int (p i r m))),
  fun B H B2 H2 ⟨j, k⟩ s m => ⟨(rBox X.b X.l X.ns).st B H B2 H2 j s fun a o ma e => m a o (.inl ma) e, fun i r hi hr => m _ _ (.inr ⟨i, r, hi, hr, rfl⟩) (k i r hi hr)⟩⟩
abbrev rPl (z : Pl × Hw.F3) : Res := rPlan z.1 z.2
abbrev dA (X : Pl) (i : Nat) : D := .list ((List.range (X.wd i)).map fun r => .raw (.ref (X.ad i r)))
section
variable {X : Pl} {p : Hw.F3} {Pd : D → Prop} {sl : List Sl} {te : TE}
theorem plan_box (h : X.Ok) : Compat (rPlan X p) (rBox X.b X.l X.ns) := ⟨fun a m => .inl m, fun B H j => j.1, fun B H B2 H2 j c g => ⟨c, fun i r hi hr => g.h _ _ (j.2 i r hi hr) (h.apart i r hi hr)⟩⟩
theorem od_row {i r m : Nat} (hi : i < 3) (hr : r < X.wd i) (hm : m < X.M) (q : Pd (.int (p i r m))) : OpD (rPlan X p) (rIx K) (.raw (.ref (X.ad i r))) (.int (m : Nat)) Pd := od_val q fun B H v w s j rv rw' => by
  cases (show v = .ref (X.ad i r) from rv); cases (show w = .int m from rw')
  exact ⟨.int (p i r m), rfl, fun Q q => .inl ⟨_, _, m, _, rfl, rfl, SqL.of (j.2 i r hi hr), atI_map hm, q⟩⟩
theorem od_rowP {i r m : Nat} (hi : i < 3) (hr : r < X.wd i) (hM : 0 < X.M) (hm : m ≤ X.M) (q : Pd (.int (p i r (if m = 0 then X.M - 1 else m - 1)))) : OpD (rPlan X p) (rIx K) (.raw (.ref (X.ad i r))) (.int ((m : Nat) - 1)) Pd := by
  by_cases z : m = 0
  · subst z
    refine od_val q fun B H v w s j rv rw' => ?_
    cases (show v = .ref (X.ad i r) from rv); cases (show w = .int (((0 : Nat) : Int) - 1) from rw')
    refine ⟨.int (p i r (X.M - 1)), rfl, fun Q q => .inl ⟨_, _, -1, _, rfl, rfl, SqL.of (j.2 i r hi hr), atI_last' ?_, q⟩⟩
    rw [List.getLast?_eq_getElem?]
    have : X.M - 1 < X.M := by omega
    simp [this]
  · rw [if_neg z] at q
    rw [show ((m : Int) - 1) = ((m - 1 : Nat) : Int) by omega]
    exact od_row hi hr (by omega) q
theorem RA.dints {B : Hp} : ∀ ns : List Int, RA B (ns.map V.int) (ns.map D.int)
  | [] => .nil
  | i :: ns => .cons (show R B (.int i) (.int i) from rfl) (RA.dints ns)
theorem ca_tupleRow {i r : Nat} (hi : i < 3) (hr : r < X.wd i) (q : Pd (dRow X.M (p i r))) : CaD (rPlan X p) (fun xs H Q => ∃ p ys, xs = [V.ref p] ∧ ((SqL K H p ys ∧ ∀ l, H l = none → Q (.ref l) (upd H l (.tup ys))) ∨ (SqT K H p ys ∧ Q (.ref p) H))) [.raw (.ref (X.ad i r))] Pd := fun B H vs s j rv Q k => by
  obtain ⟨v, rfl, h⟩ := rv.one
  cases (show v = .ref _ from h)
  refine ⟨_, _, rfl, .inl ⟨SqL.of (j.2 i r hi hr), fun l hl => k _ _ _ (dRow X.M (p i r)) (Grow.new s hl) (Grow.newJ s hl j) ⟨l, _, rfl, upd_same, ?_⟩ q⟩⟩
  have e := RA.dints (B := upd B l (.tup ((List.range X.M).map fun m => .int (p i r m)))) ((List.range X.M).map (p i r))
  rw [List.map_map, List.map_map] at e
  exact e
def upd3 (p : Hw.F3) (i r m : Nat) (x : Int) : Hw.F3 := fun i' r' m' => if i' = i ∧ r' = r ∧ m' = m then x else p i' r' m'
theorem ixN_nat {n k : Nat} (h : k < n) : ixN n (k : Int) = some k := by
  unfold ixN
  rw [if_pos (by omega), if_pos (by omega)]
  rfl
theorem sxg_setRow {si sj sk : Nat} {P : Hw.F3 → List Sl → Prop} (ok : X.Ok) (h : EvP (rPlan X p) te sl fun d => ∃ (x : Int) (i r m : Nat), d = .int x ∧ i < 3 ∧ r < X.wd i ∧ m < X.M ∧ sl[si]? = some (.dat (dA X i)) ∧ sl[sj]? = some (.dat (.int r)) ∧ sl[sk]? = some (.dat (.int m)) ∧ P (upd3 p i r m x) sl) :
    SxG (rPlan X) p (tAsg te (gSub (tOp (rIx K) (tVar si) (tVar sj)) (tVar sk) rSetL)) sl P := fun B0 H0 B H σ Dn a f =>
  h B H σ a.e _ fun v B2 H2 d g j rv ⟨x, i, r, m, hd, hi, hr, hm, h1, h2, h3, q⟩ => by
    subst hd
    cases (show v = .int x from rv)
    have a2 := a.grow g j
    obtain ⟨o1, e1, v1, rfl, rv1⟩ := a2.e.at_ si _ h1
    obtain ⟨o2, e2, v2, rfl, rv2⟩ := a2.e.at_ sj _ h2
    obtain ⟨o3, e3, v3, rfl, rv3⟩ := a2.e.at_ sk _ h3
    cases (show v2 = .int r from rv2)
    cases (show v3 = .int m from rv3)
    obtain ⟨la, xs, rfl, hla, hx⟩ := rv1
    obtain ⟨va, e4, rva⟩ := hx.atI (atI_map (f := fun r => D.raw (.ref (X.ad i r))) hr)
    cases (show va = .ref (X.ad i r) from rva)
    have row := j.2 i r hi hr
    refine ⟨_, e1, _, e2, Or.inl ⟨la, xs, r, _, rfl, rfl, SqL.of (a2.e.sub _ _ hla), e4, ⟨_, e3, ?_⟩⟩⟩
    refine ⟨_, _, m, m, rfl, rfl, row, ixN_nat (by simp [hm]), ?_⟩
    have es : ((List.range X.M).map fun m => V.int (p i r m)).set m (.int x) = (List.range X.M).map fun m' => .int (upd3 p i r m x i r m') := by
      apply List.ext_getElem?
      intro z
      rw [List.getElem?_set]
      by_cases hz : m = z
      · subst hz; simp [hm, upd3]
      · rw [if_neg hz]
        by_cases hl : z < X.M
        · simp [hl, upd3, Ne.symm hz]
        · simp [Nat.not_lt.mp hl]
    rw [es]
    have mm : (rPlan X p).M (X.ad i r) := .inr ⟨i, r, hi, hr, rfl⟩
    have bx := a2.e.mb _ mm
    have j' : (rPlan X (upd3 p i r m x)).J B2 (upd H2 (X.ad i r) (.lst ((List.range X.M).map fun m' => .int (upd3 p i r m x i r m')))) := by
      refine ⟨?_, fun i' r' hi' hr' => ?_⟩
      · obtain ⟨⟨k, q1⟩, q2⟩ := j.1
        exact ⟨⟨k, by rw [upd_ne (Ne.symm (ok.apart i r hi hr))]; exact q1⟩, q2⟩
      · by_cases z : X.ad i' r' = X.ad i r
        · obtain ⟨rfl, rfl⟩ := ok.inj i' r' i r hi' hr' hi hr z
          rw [upd_same]
        · rw [upd_ne z, j.2 i' r' hi' hr']
          congr 2
          refine List.map_congr_left fun m' _ => ?_
          unfold upd3
          rw [if_neg]
          rintro ⟨rfl, rfl, _⟩
          exact z rfl
    have sb : Sub B2 (upd H2 (X.ad i r) (.lst ((List.range X.M).map fun m' => .int (upd3 p i r m x i r m')))) := fun a u ea => by
      rw [upd_ne (show a ≠ X.ad i r from fun z => by rw [z, bx] at ea; cases ea)]
      exact a2.e.sub a u ea
    have gg : Grow (rPlan X p).M B2 H2 B2 (upd H2 (X.ad i r) (.lst ((List.range X.M).map fun m' => .int (upd3 p i r m x i r m')))) := by
      refine ⟨.refl B2, fun a u ea na => ?_, fun a ha => ?_, sb, fun _ _ => rfl⟩
      · rw [upd_ne (show a ≠ X.ad i r from fun z => na (z ▸ mm))]; exact ea
      · by_cases z : a = X.ad i r
        · rw [z, upd_same]; simp
        · rw [upd_ne z]; exact ha
    refine f B2 _ σ sl _ q ⟨⟨a2.e.len, fun k s hs => ?_, a2.e.nd, sb, a2.e.mb, fun y m => gg.t y (a2.e.mt y m), j'⟩, a2.own, a2.g.trans gg⟩
    obtain ⟨o, q1, q2⟩ := a2.e.at_ k s hs
    exact ⟨o, q1, q2.grow gg⟩
end
abbrev N__law_rows : List Str := ["_law_rows_here", "_law_row"]
theorem sc__law_rows : FnScope N__law_rows ["_law_rows_here"] (defScope s__law_rows) := ⟨rfl, rfl, rfl, by decide +kernel, rfl, by decide +kernel, by decide +kernel⟩
def tt_rowsM (z : Pl × Hw.F3) : List D → (D → Prop) → Prop := fun ds P => ∃ i, i < 3 ∧ (∀ i, z.1.wd i ≤ 4) ∧ ds = [dA z.1 i] ∧ P (dMat (z.1.wd i) z.1.M (z.2 i))
theorem ok_rowsM (T : Txt mg) (F : FunAt K mg "_law_rows" s__law_rows ["_law_rows_here"]) : Has P w K mg base 1 "_law_rows" ["_law_rows_here"] (spE rPl tt_rowsM) := by
  refine has_ofE F sc__law_rows (by rintro z ds P ⟨i, hi, _, rfl, _⟩; rfl) fun f cdv A outer s H E hr => ⟨_, (pss_one (ps_ret (pe_callTy (tupq K) (by rfl) T.tuple (by decide +kernel) (pa_cons (pe_lc (own := [("_law_row", 1)]) rfl sc__law_rows.nd (pi_listq K (pv 0)) (blkOk_by (own := [("_law_row", 1)]) (N := N__law_rows) (sc := (defScope s__law_rows)) (by decide +kernel)) (fun _ _ _ _ _ => (pg_name (i := 1) sc__law_rows.nd rfl (Or.inl rfl))) (fun _ _ _ _ _ => pts_nil) (fun _ _ _ _ _ => (pe_callTy (tupq K) (by rfl) T.tuple (by decide +kernel) (pa_cons (pv 1) pa_nil)))) pa_nil)))), ?_⟩
  rintro ⟨X, p⟩ ds Pd ⟨i, hi, hX, rfl, q⟩
  dsimp only at hX q ⊢
  show Sx (rPlan X p) _ _ _
  have h1 := hX i
  walk_at "ev"
  refine ev_lc (wk_list (ev_var _ rfl ?_))
  refine ⟨_, X.wd i, fun r => .raw (.ref (X.ad i r)), rfl, by simp, fun i hi => by simp [hi], by omega, fun j acc => acc = (List.range j).map fun r => dRow X.M (p i r), rfl, ?_, ?_⟩
  · rintro j acc hj _ rfl
    refine cg_name (by decide) ?_
    walk_at "ev"
    refine ca_tupleRow hi hj ?_
    dsimp only
    rw [List.range_succ, List.map_append]; rfl
  · rintro acc rfl
    walk_at "ev"
    exact q
abbrev N__law_receives : List Str := ["_law_basin_here", "_law_plan", "_law_k", "_law_m", "_law_site", "_law_total", "_law_j", "_law_other"]
theorem sc__law_receives : FnScope N__law_receives ["_law_basin_here", "_law_plan", "_law_k", "_law_m"] (defScope s__law_receives) := ⟨rfl, rfl, rfl, by decide +kernel, rfl, by decide +kernel, by decide +kernel⟩
def tt_law_receives (z : Pl × Hw.F3) : List D → (D → Prop) → Prop := fun ds P => ∃ (c : Hw.B) (k m : Nat), ds = [dB c, .tup [dA z.1 0, dA z.1 1, dA z.1 2], .int k, .int m] ∧ z.1.n ≤ 4 ∧ c.n = z.1.n ∧ c.months = z.1.M ∧ k < c.n ∧ m < c.months ∧ (∀ k, c.travel k ≤ 2) ∧ P (.int (Hw.recvK c z.2 k m))
theorem eq_nm {o : Option Nat} {k : Nat} {r : Res} {Pd : D → Prop} (h : Pd (.bl (decide (o = some k)))) : OpD r rEq (dN o) (.str (nm k)) Pd := by
  cases o with
  | none => exact od_eq (u := .non) (w := .str (nm k)) rfl rfl rfl (by simpa using h)
  | some j =>
    refine od_eqS ?_
    have e : decide (nm j = nm k) = decide ((some j : Option Nat) = some k) := by
      rw [Bool.eq_iff_iff]; simp
      exact ⟨nm_inj, fun z => by rw [z]⟩
    rw [e]; exact h
theorem ok__law_receives (T : Txt mg) (F : FunAt K mg "_law_receives" s__law_receives ["_law_basin_here", "_law_plan", "_law_k", "_law_m"]) : Has P w K mg base 1 "_law_receives" ["_law_basin_here", "_law_plan", "_law_k", "_law_m"] (spE rPl tt_law_receives) := by
  refine has_ofE F sc__law_receives (by rintro z ds P ⟨c, k, m, rfl, _⟩; rfl) fun f cdv A outer s H E hr => ⟨_, (pss_cons (ps_set (i := 4) sc__law_receives.nd rfl (Or.inl rfl) (pe_ix (ixq K) (pe_ix (ixq K) (pv 0) pe_int (fun _ _ => rfl)) (pv 2) (fun _ _ => rfl)))
  (pss_cons (ps_set (i := 5) sc__law_receives.nd rfl (Or.inl rfl) (pe_op op_add (pe_ix (ixq K) (pe_ix (ixq K) (pv 4) pe_int (fun _ _ => rfl)) (pv 3) (fun _ _ => rfl)) (pe_ix (ixq K) (pe_lst (pa_cons (pe_ix (ixq K) (pv 4) pe_int (fun _ _ => rfl)) (pa_cons (pe_ix (ixq K) (pe_ix (ixq K) (pe_ix (ixq K) (pv 1) pe_int (fun _ _ => rfl)) (pv 2) (fun _ _ => rfl)) (pe_op op_sub (pv 3) pe_int) (fun _ _ => rfl)) pa_nil))) (pe_callTy call_int1 (by rfl) T.int (by decide +kernel) (pa_cons (pe_cmpR op_gt (pv 3) pe_int (nomark _)) pa_nil)) (fun _ _ => rfl))))
  (pss_cons (ps_for PassesOwn.never rfl (pi_range1 rfl T.range (pa_cons (pv 2) pa_nil)) (pg_name (i := 6) sc__law_receives.nd rfl (Or.inl rfl)) (pss_cons (ps_set (i := 7) sc__law_receives.nd rfl (Or.inl rfl) (pe_ix (ixq K) (pe_ix (ixq K) (pv 0) pe_int (fun _ _ => rfl)) (pv 6) (fun _ _ => rfl)))
  (pss_one (ps_if (PW.pt (pw_and (pt_cmpR op_eq (pe_ix (ixq K) (pv 7) pe_int (fun _ _ => rfl)) (pe_ix (ixq K) (pv 4) pe_int (fun _ _ => rfl)) (nomark _)) (pw_and1 (pt_cmpR op_ge (pv 3) (pe_ix (ixq K) (pv 7) pe_int (fun _ _ => rfl)) (nomark _))))) (pss_one (ps_set (i := 5) sc__law_receives.nd rfl (Or.inl rfl) (pe_op op_add (pv 5) (pe_ix (ixq K) (pe_ix (ixq K) (pe_ix (ixq K) (pv 1) pe_int (fun _ _ => rfl)) (pv 6) (fun _ _ => rfl)) (pe_op op_sub (pv 3) (pe_ix (ixq K) (pv 7) pe_int (fun _ _ => rfl))) (fun _ _ => rfl))))) pss_nil))))
  (pss_one (ps_ret (pv 5)))))), ?_⟩
  rintro ⟨X, p⟩ ds Pd ⟨c, k, m, rfl, hX, hn, hM, hk, hm, ht, q⟩
  dsimp only at hX hn hM q ⊢
  show Sx (rPlan X p) _ _ _
  have hw1 : X.wd 1 = X.n := rfl
  have hw2 : X.wd 2 = X.n := rfl
  walk_at "ev"
  refine od_ixML (by omega) ?_
  walk_at "ev"
  refine od_rowP (by omega) (by omega) (by omega) (by omega) ?_
  walk_at "ev"
  have go : ∀ {r : Res} {Q : D → Prop}, Q (.int (if m = 0 then c.held k else p 2 k (m - 1))) → OpD r (rIx K) (.list [.int (c.held k), .int (p 2 k (if m = 0 then X.M - 1 else m - 1))]) (.int (if decide ((0 : Int) < (m : Int)) = true then 1 else 0)) Q := fun {r Q} hq => by
    by_cases z : m = 0
    · subst z
      exact od_ix2 _ (atI_nat (j := 0) rfl) hq
    · rw [if_neg z] at hq ⊢
      rw [if_pos (decide_eq_true (show (0:Int) < m by omega))]
      exact od_ix2 _ (atI_nat (j := 1) rfl) hq
  refine go ?_
  walk_at "ev"
  obtain ⟨fj, hfj⟩ : ∃ fj : Nat → Int, fj = fun j => if c.next j = some k ∧ c.travel j ≤ m then p 1 j (m - c.travel j) else 0 := ⟨_, rfl⟩
  obtain ⟨T0, hT0⟩ : ∃ T0, T0 = c.inflow k m + (if m = 0 then c.held k else p 2 k (m - 1)) := ⟨_, rfl⟩
  have hq : Pd (.int (T0 + Hw.sm k fj)) := by rw [hfj, hT0]; exact q
  rw [← hT0]
  refine sx_for (wk_rng1 ?_)
  walk_at "ev"
  refine ⟨k, rfl, by omega, fun j sl => ∃ x y, sl = [.dat (dB c), .dat (.tup [dA X 0, dA X 1, dA X 2]), .dat (.int k), .dat (.int m), .dat (dSite c k), .dat (.int (T0 + Hw.sm j fj)), x, y], ⟨_, _, by rw [show Hw.sm 0 fj = 0 from rfl, Int.add_zero]; rfl⟩, ?_, ?_⟩
  · rintro j sl hj ⟨x, y, rfl⟩
    have hs : T0 + Hw.sm (j + 1) fj = T0 + Hw.sm j fj + fj j := by rw [Int.add_assoc]; rfl
    dsimp only
    rw [hs]
    generalize T0 + Hw.sm j fj = T1
    walk_at "ev"
    refine eq_nm (ex_bl (if_dec (fun h1 => ?_) fun h1 => ?_))
    · walk_at "ev"
      · rename_i h2
        have ht2 : c.travel j ≤ m := by omega
        refine od_ixML (by omega) ?_
        walk_at "ev"
        rw [show ((m : Int) - (c.travel j : Int)) = ((m - c.travel j : Nat) : Int) by omega]
        refine od_row (by omega) (by omega) (by omega) ?_
        walk_at "ev"
        refine ⟨.dat (.int j), .dat (dSite c j), ?_⟩
        rw [show fj j = p 1 j (m - c.travel j) by rw [hfj]; exact if_pos ⟨h1, ht2⟩]
        rfl
      · rename_i h2
        refine ⟨.dat (.int j), .dat (dSite c j), ?_⟩
        rw [show fj j = 0 by rw [hfj]; exact if_neg fun z => h2 (by omega), Int.add_zero]
        rfl
    · walk_at "ev"
      refine ⟨.dat (.int j), .dat (dSite c j), ?_⟩
      rw [show fj j = 0 by rw [hfj]; exact if_neg fun z => h1 z.1, Int.add_zero]
      rfl
  · rintro sl ⟨x, y, rfl⟩
    walk_at "ev"
    exact hq

/-! ## D10 -/
theorem as_fun {as : List Addr} {n : Nat} (h : as.length = n) : ∃ a : Nat → Addr, as = (List.range n).map a := by
  refine ⟨fun i => as.getD i 0, ?_⟩
  apply List.ext_getElem?
  intro i
  by_cases hi : i < n
  · rw [List.getElem?_map, List.getElem?_range hi]
    rw [List.getElem?_eq_getElem (by omega)]
    simp [h, hi]
  · rw [List.getElem?_eq_none (by omega), List.getElem?_eq_none (by simp; omega)]
theorem inj_of {a : Nat → Addr} {n : Nat} (h : ((List.range n).map a).Nodup) {i j : Nat} (hi : i < n) (hj : j < n) (e : a i = a j) : i = j := by
  have h2 := List.pairwise_map.mp h
  have go : ∀ i j, i < j → j < n → a i ≠ a j := fun i j hij hj => by
    have := List.pairwise_iff_getElem.mp h2 i j (by simp; omega) (by simpa using hj) hij
    simpa using this
  rcases Nat.lt_trichotomy i j with z | z | z
  · exact absurd e (go i j z hj)
  · exact z
  · exact absurd e.symm (go j i z hi)
def mkPl (b l : Addr) (ns : List Int) (a0 a1 a2 : Nat → Addr) (nr n M : Nat) : Pl := ⟨b, l, ns, fun i => if i = 0 then a0 else if i = 1 then a1 else a2, nr, n, M⟩
section
variable {b l : Addr} {ns : List Int} {a0 a1 a2 : Nat → Addr} {nr n M : Nat} {zs : List V}
theorem mkPl_M (p : Hw.F3) : ∀ x, (rPlan (mkPl b l ns a0 a1 a2 nr n M) p).M x ↔ (rAdd (rAdd (rAdd (rBx ⟨b, l, ns⟩) ((List.range nr).map a0) zs) ((List.range n).map a1) zs) ((List.range n).map a2) zs).M x := fun x => by
  constructor
  · rintro (h | ⟨i, r, hi, hr, rfl⟩)
    · exact .inl (.inl (.inl h))
    · match i, hi with
      | 0, _ => exact .inl (.inl (.inr (List.mem_map.mpr ⟨r, List.mem_range.mpr hr, rfl⟩)))
      | 1, _ => exact .inl (.inr (List.mem_map.mpr ⟨r, List.mem_range.mpr hr, rfl⟩))
      | 2, _ => exact .inr (List.mem_map.mpr ⟨r, List.mem_range.mpr hr, rfl⟩)
  · rintro (((h | h) | h) | h)
    · exact .inl h
    · obtain ⟨r, hr, rfl⟩ := List.mem_map.mp h
      exact .inr ⟨0, r, by omega, List.mem_range.mp hr, rfl⟩
    · obtain ⟨r, hr, rfl⟩ := List.mem_map.mp h
      exact .inr ⟨1, r, by omega, List.mem_range.mp hr, rfl⟩
    · obtain ⟨r, hr, rfl⟩ := List.mem_map.mp h
      exact .inr ⟨2, r, by omega, List.mem_range.mp hr, rfl⟩
theorem mkPl_J (B H : Hp) (h : (rAdd (rAdd (rAdd (rBx ⟨b, l, ns⟩) ((List.range nr).map a0) (List.replicate M (.int 0))) ((List.range n).map a1) (List.replicate M (.int 0))) ((List.range n).map a2) (List.replicate M (.int 0))).J B H) : (rPlan (mkPl b l ns a0 a1 a2 nr n M) fun _ _ _ => 0).J B H := by
  obtain ⟨⟨⟨j, h0⟩, h1⟩, h2⟩ := h
  have e : (List.replicate M (V.int 0)) = (List.range M).map fun _ => V.int 0 := by
    apply List.ext_getElem?
    intro i
    simp [List.getElem?_replicate]
    split <;> simp [*]
  rw [e] at h0 h1 h2
  refine ⟨j, fun i r hi hr => ?_⟩
  match i, hi with
  | 0, _ => exact h0 _ (List.mem_map.mpr ⟨r, List.mem_range.mpr hr, rfl⟩)
  | 1, _ => exact h1 _ (List.mem_map.mpr ⟨r, List.mem_range.mpr hr, rfl⟩)
  | 2, _ => exact h2 _ (List.mem_map.mpr ⟨r, List.mem_range.mpr hr, rfl⟩)
theorem mkPl_ok (n0 : ((List.range nr).map a0).Nodup) (n1 : ((List.range n).map a1).Nodup) (n2 : ((List.range n).map a2).Nodup) (m0 : ∀ a ∈ (List.range nr).map a0, ¬ (rBx ⟨b, l, ns⟩).M a)
    (m1 : ∀ a ∈ (List.range n).map a1, ¬ (rAdd (rBx ⟨b, l, ns⟩) ((List.range nr).map a0) zs).M a) (m2 : ∀ a ∈ (List.range n).map a2, ¬ (rAdd (rAdd (rBx ⟨b, l, ns⟩) ((List.range nr).map a0) zs) ((List.range n).map a1) zs).M a) : (mkPl b l ns a0 a1 a2 nr n M).Ok := by
  have q0 : ∀ r, r < nr → a0 r ∈ (List.range nr).map a0 := fun r hr => List.mem_map.mpr ⟨r, List.mem_range.mpr hr, rfl⟩
  have q1 : ∀ r, r < n → a1 r ∈ (List.range n).map a1 := fun r hr => List.mem_map.mpr ⟨r, List.mem_range.mpr hr, rfl⟩
  have q2 : ∀ r, r < n → a2 r ∈ (List.range n).map a2 := fun r hr => List.mem_map.mpr ⟨r, List.mem_range.mpr hr, rfl⟩
  have d01 : ∀ r r', r < nr → r' < n → a0 r ≠ a1 r' := fun r r' h h' e => m1 _ (q1 r' h') (.inr (e ▸ q0 r h))
  have d02 : ∀ r r', r < nr → r' < n → a0 r ≠ a2 r' := fun r r' h h' e => m2 _ (q2 r' h') (.inl (.inr (e ▸ q0 r h)))
  have d12 : ∀ r r', r < n → r' < n → a1 r ≠ a2 r' := fun r r' h h' e => m2 _ (q2 r' h') (.inr (e ▸ q1 r h))
  refine ⟨fun i r hi hr => ?_, fun i r i' r' hi hr hi' hr' e => ?_⟩
  · match i, hi with
    | 0, _ => exact fun z => m0 _ (q0 r hr) z
    | 1, _ => exact fun z => m1 _ (q1 r hr) (.inl z)
    | 2, _ => exact fun z => m2 _ (q2 r hr) (.inl (.inl z))
  · match i, i', hi, hi' with
    | 0, 0, _, _ => exact ⟨rfl, inj_of n0 hr hr' e⟩
    | 1, 1, _, _ => exact ⟨rfl, inj_of n1 hr hr' e⟩
    | 2, 2, _, _ => exact ⟨rfl, inj_of n2 hr hr' e⟩
    | 0, 1, _, _ => exact absurd e (d01 r r' hr hr')
    | 1, 0, _, _ => exact absurd e.symm (d01 r' r hr' hr)
    | 0, 2, _, _ => exact absurd e (d02 r r' hr hr')
    | 2, 0, _, _ => exact absurd e.symm (d02 r' r hr' hr)
    | 1, 2, _, _ => exact absurd e (d12 r r' hr hr')
    | 2, 1, _, _ => exact absurd e.symm (d12 r' r hr' hr)
end
theorem upd3_id {p : Hw.F3} {i r m : Nat} {v : Int} (h : p i r m = v) : upd3 p i r m v = p := by
  funext i' r' m'
  unfold upd3
  split
  · rename_i e; obtain ⟨rfl, rfl, rfl⟩ := e; exact h.symm
  · rfl
theorem upd3_at {p : Hw.F3} {i r m : Nat} {v : Int} : upd3 p i r m v i r m = v := if_pos ⟨rfl, rfl, rfl⟩
theorem recvK_ge0 {c : Hw.B} (hb : Hw.BOk2 c) {p : Hw.F3} (hp : ∀ a r m, 0 ≤ p a r m) (k m : Nat) : 0 ≤ Hw.recvK c p k m := by
  have h1 := hb.ok.inflow k m
  have h2 := hb.ok.held k
  have h3 := hp 2 k (m - 1)
  have h4 : 0 ≤ Hw.sm k fun j => if c.next j = some k ∧ c.travel j ≤ m then p 1 j (m - c.travel j) else 0 := Hw.sm_ge0 _ fun i _ => by
    split
    · exact hp 1 _ _
    · exact Int.le_refl 0
  unfold Hw.recvK
  split <;> omega
structure RightsOk (c : Hw.B) : Prop where
  nr : c.nr ≤ 3
  rs : ∀ r, c.rsite r < c.n
  dem : ∀ r m, 0 ≤ c.dem r m ∧ c.dem r m < 7
theorem bok2 {c : Hw.B} (h : BasinOk c) (k : RightsOk c) : Hw.BOk2 c :=
  ⟨⟨h.n.1, fun a j _ e => (h.site a).next j e, fun a => (h.site a).held.1, fun a m => ((h.site a).inflow m).1, fun r _ => k.rs r⟩, fun a x e => (h.site a).reach x e, fun a => (h.site a).room, fun r m => (k.dem r m).1⟩
abbrev N__law_drawn_plan : List Str := ["_law_box", "_law_basin_here", "_law_rights_here", "_law_deliveries", "_law_site", "_law_releases", "_law_storages", "_law_k", "_law_m", "_law_left", "_law_r", "_law_most", "_law_right"]
theorem sc__law_drawn_plan : FnScope N__law_drawn_plan ["_law_box", "_law_basin_here", "_law_rights_here"] (defScope s__law_drawn_plan) := ⟨rfl, rfl, rfl, by decide +kernel, rfl, by decide +kernel, by decide +kernel⟩
def tt_law_drawn_plan (i : Bx) : List D → (D → Prop) → Prop := fun ds P => ∃ c : Hw.B, ds = [.raw (.ref i.b), dB c, dRs c] ∧ BasinOk c ∧ RightsOk c ∧ ∀ p : Hw.F3, Hw.PlOk c p (c.months * c.n) → P (dP c (Hw.toPl p))
/-- within a cell, after i rights -/
def midCell (c : Hw.B) (p : Hw.F3) (k m i : Nat) (x : Nat → Int) : Hw.F3 := fun a r m' => if a = 0 ∧ r < i ∧ c.rsite r = k ∧ m' = m then x r else p a r m'
theorem midCell0 {c : Hw.B} {p : Hw.F3} {k m : Nat} {x : Nat → Int} : midCell c p k m 0 x = p := by
  funext a r m'; simp [midCell]
theorem midCell_skip {c : Hw.B} {p : Hw.F3} {k m i : Nat} {x : Nat → Int} (h : c.rsite i ≠ k) : midCell c p k m (i + 1) x = midCell c p k m i x := by
  funext a r m'
  unfold midCell
  by_cases e : a = 0 ∧ r < i ∧ c.rsite r = k ∧ m' = m
  · rw [if_pos e, if_pos ⟨e.1, by omega, e.2.2⟩]
  · rw [if_neg e, if_neg]
    rintro ⟨h1, h2, h3, h4⟩
    by_cases z : r = i
    · subst z; exact h h3
    · exact e ⟨h1, by omega, h3, h4⟩
theorem midCell_put {c : Hw.B} {p : Hw.F3} {k m i : Nat} {x : Nat → Int} {v : Int} (h : c.rsite i = k) : upd3 (midCell c p k m i x) 0 i m v = midCell c p k m (i + 1) fun r => if r = i then v else x r := by
  funext a r m'
  unfold upd3 midCell
  by_cases e : a = 0 ∧ r = i ∧ m' = m
  · obtain ⟨rfl, rfl, rfl⟩ := e
    simp [h]
  · rw [if_neg e]
    by_cases e2 : a = 0 ∧ r < i ∧ c.rsite r = k ∧ m' = m
    · rw [if_pos e2, if_pos ⟨e2.1, by omega, e2.2.2⟩]; exact (if_neg (show ¬ r = i by omega)).symm
    · rw [if_neg e2, if_neg]
      rintro ⟨h1, h2, h3, h4⟩
      by_cases z : r = i
      · exact e ⟨h1, z, h4⟩
      · exact e2 ⟨h1, by omega, h3, h4⟩
theorem mid_putCell {c : Hw.B} {p : Hw.F3} {k m : Nat} {x : Nat → Int} {y z : Int} : upd3 (upd3 (midCell c p k m c.nr x) 1 k m y) 2 k m z = Hw.putCell c p k m x y z := by
  funext a r m'
  unfold upd3 midCell Hw.putCell
  by_cases a2 : a = 2
  · subst a2
    by_cases q : r = k ∧ m' = m
    · simp [q]
    · simp [q]
  · by_cases a1 : a = 1
    · subst a1
      by_cases q : r = k ∧ m' = m
      · simp [q]
      · simp [q]
    · by_cases a0 : a = 0
      · subst a0; simp
      · simp [a0, a1, a2]
theorem mid_recv {c : Hw.B} {p : Hw.F3} {k m i : Nat} {x : Nat → Int} : ∀ r m', midCell c p k m i x 1 r m' = p 1 r m' ∧ midCell c p k m i x 2 r m' = p 2 r m' := fun r m' => by
  unfold midCell
  constructor <;> rw [if_neg] <;> rintro ⟨h, _⟩ <;> omega
theorem ok__law_drawn_plan (T : Txt mg) (F : FunAt K mg "_law_drawn_plan" s__law_drawn_plan ["_law_box", "_law_basin_here", "_law_rights_here"])
    (h__law_draw : Has P w K mg base 1 "_law_draw" ["_law_box", "_law_many"] (spE rBx tt_law_draw))
    (h__law_cells : Has P w K mg base 1 "_law_cells" ["_law_basin_here"] (spD r0 tt_law_cells))
    (h__law_receives : Has P w K mg base 1 "_law_receives" ["_law_basin_here", "_law_plan", "_law_k", "_law_m"] (spE rPl tt_law_receives))
    (h__law_rows : Has P w K mg base 1 "_law_rows" ["_law_rows_here"] (spE rPl tt_rowsM)) :
    Has P w K mg base 2 "_law_drawn_plan" ["_law_box", "_law_basin_here", "_law_rights_here"] (spE rBx tt_law_drawn_plan) := by
  refine has_ofE F sc__law_drawn_plan (by rintro z ds P ⟨c, rfl, _⟩; rfl) fun f cdv A outer s H E hr => ⟨_, (pss_cons (ps_setLc (i := 3) (own := [("_law_right", 12)]) rfl sc__law_drawn_plan.nd rfl rfl (sw_true rfl rfl rfl (by decide +kernel)) (pi_tupq K (pv 2)) (blkOk_by (own := [("_law_right", 12)]) (N := N__law_drawn_plan) (sc := (defScope s__law_drawn_plan)) (by decide +kernel)) (fun _ _ _ _ _ => (pg_name (i := 12) sc__law_drawn_plan.nd rfl (Or.inl rfl))) (fun _ _ _ _ _ => pts_nil) (fun _ _ _ _ _ => (pe_op op_rep (pe_lst (pa_cons pe_int pa_nil)) (pe_ix (ixq K) (pv 1) pe_int (fun _ _ => rfl)))))
  (pss_cons (ps_setLc (i := 5) (own := [("_law_site", 4)]) rfl sc__law_drawn_plan.nd rfl rfl (sw_true rfl rfl rfl (by decide +kernel)) (pi_tupq K (pe_ix (ixq K) (pv 1) pe_int (fun _ _ => rfl))) (blkOk_by (own := [("_law_site", 4)]) (N := N__law_drawn_plan) (sc := (defScope s__law_drawn_plan)) (by decide +kernel)) (fun _ _ _ _ _ => (pg_name (i := 4) sc__law_drawn_plan.nd rfl (Or.inl rfl))) (fun _ _ _ _ _ => pts_nil) (fun _ _ _ _ _ => (pe_op op_rep (pe_lst (pa_cons pe_int pa_nil)) (pe_ix (ixq K) (pv 1) pe_int (fun _ _ => rfl)))))
  (pss_cons (ps_setLc (i := 6) (own := [("_law_site", 4)]) rfl sc__law_drawn_plan.nd rfl rfl (sw_true rfl rfl rfl (by decide +kernel)) (pi_tupq K (pe_ix (ixq K) (pv 1) pe_int (fun _ _ => rfl))) (blkOk_by (own := [("_law_site", 4)]) (N := N__law_drawn_plan) (sc := (defScope s__law_drawn_plan)) (by decide +kernel)) (fun _ _ _ _ _ => (pg_name (i := 4) sc__law_drawn_plan.nd rfl (Or.inl rfl))) (fun _ _ _ _ _ => pts_nil) (fun _ _ _ _ _ => (pe_op op_rep (pe_lst (pa_cons pe_int pa_nil)) (pe_ix (ixq K) (pv 1) pe_int (fun _ _ => rfl)))))
  (pss_cons (ps_for PassesOwn.never rfl (pi_listq K (pe_has h__law_cells (hr.mono (by decide)) rfl (pa_cons (pv 1) pa_nil))) (pg_tupq K 2 rfl (pgs_cons (pg_name (i := 7) sc__law_drawn_plan.nd rfl (Or.inl rfl)) (pgs_cons (pg_name (i := 8) sc__law_drawn_plan.nd rfl (Or.inl rfl)) pgs_nil))) (pss_cons (ps_set (i := 4) sc__law_drawn_plan.nd rfl (Or.inl rfl) (pe_ix (ixq K) (pe_ix (ixq K) (pv 1) pe_int (fun _ _ => rfl)) (pv 7) (fun _ _ => rfl)))
  (pss_cons (ps_set (i := 9) sc__law_drawn_plan.nd rfl (Or.inl rfl) (pe_has h__law_receives (hr.mono (by decide)) rfl (pa_cons (pv 1) (pa_cons (pe_tup (pa_cons (pv 3) (pa_cons (pv 5) (pa_cons (pv 6) pa_nil)))) (pa_cons (pv 7) (pa_cons (pv 8) pa_nil))))))
  (pss_cons (ps_for PassesOwn.never rfl (pi_range1 rfl T.range (pa_cons (pe_callB (lenq K) (by rfl) T.len (by decide +kernel) (pa_cons (pv 2) pa_nil)) pa_nil)) (pg_name (i := 10) sc__law_drawn_plan.nd rfl (Or.inl rfl)) (pss_one (ps_if (pt_cmpR op_eq (pe_ix (ixq K) (pe_ix (ixq K) (pv 2) (pv 10) (fun _ _ => rfl)) pe_int (fun _ _ => rfl)) (pe_ix (ixq K) (pv 4) pe_int (fun _ _ => rfl)) (nomark _)) (pss_cons (ps_asg (pe_callB (call_min3Nu rfl) (by rfl) T.min (by decide +kernel) (pa_cons (pv 9) (pa_cons (pe_ix (ixq K) (pe_ix (ixq K) (pe_ix (ixq K) (pv 2) (pv 10) (fun _ _ => rfl)) pe_int (fun _ _ => rfl)) (pv 8) (fun _ _ => rfl)) (pa_cons (pe_has h__law_draw (hr.mono (by decide)) rfl (pa_cons (pv 0) (pa_cons pe_int pa_nil))) pa_nil)))) (pg_sub (pe_ix (ixq K) (pv 3) (pv 10) (fun _ _ => rfl)) (pv 8) set_list))
  (pss_one (ps_set (i := 9) sc__law_drawn_plan.nd rfl (Or.inl rfl) (pe_op op_sub (pv 9) (pe_ix (ixq K) (pe_ix (ixq K) (pv 3) (pv 10) (fun _ _ => rfl)) (pv 8) (fun _ _ => rfl)))))) pss_nil)))
  (pss_cons (ps_if (pt_cmpR op_notN1 (pe_ix (ixq K) (pv 4) pe_int (fun _ _ => rfl)) pe_non (nomark _)) (pss_cons (ps_set (i := 11) sc__law_drawn_plan.nd rfl (Or.inl rfl) (pv 9))
  (pss_cons (ps_if (pt_cmpR op_notN1 (pe_ix (ixq K) (pv 4) pe_int (fun _ _ => rfl)) pe_non (nomark _)) (pss_one (ps_set (i := 11) sc__law_drawn_plan.nd rfl (Or.inl rfl) (pe_callB (call_min2 rfl) (by rfl) T.min (by decide +kernel) (pa_cons (pv 9) (pa_cons (pe_ix (ixq K) (pv 4) pe_int (fun _ _ => rfl)) pa_nil))))) pss_nil)
  (pss_cons (ps_asg (pe_callB (call_min2 rfl) (by rfl) T.min (by decide +kernel) (pa_cons (pv 11) (pa_cons (pe_has h__law_draw (hr.mono (by decide)) rfl (pa_cons (pv 0) (pa_cons pe_int pa_nil))) pa_nil))) (pg_sub (pe_ix (ixq K) (pv 5) (pv 7) (fun _ _ => rfl)) (pv 8) set_list))
  (pss_one (ps_set (i := 9) sc__law_drawn_plan.nd rfl (Or.inl rfl) (pe_op op_sub (pv 9) (pe_ix (ixq K) (pe_ix (ixq K) (pv 5) (pv 7) (fun _ _ => rfl)) (pv 8) (fun _ _ => rfl)))))))) pss_nil)
  (pss_one (ps_asg (pe_callB (call_min3Nu rfl) (by rfl) T.min (by decide +kernel) (pa_cons (pv 9) (pa_cons (pe_ix (ixq K) (pv 4) pe_int (fun _ _ => rfl)) (pa_cons (pe_has h__law_draw (hr.mono (by decide)) rfl (pa_cons (pv 0) (pa_cons pe_int pa_nil))) pa_nil)))) (pg_sub (pe_ix (ixq K) (pv 6) (pv 7) (fun _ _ => rfl)) (pv 8) set_list))))))))
  (pss_one (ps_ret (pe_tup (pa_cons (pe_has h__law_rows (hr.mono (by decide)) rfl (pa_cons (pv 3) pa_nil)) (pa_cons (pe_has h__law_rows (hr.mono (by decide)) rfl (pa_cons (pv 5) pa_nil)) (pa_cons (pe_has h__law_rows (hr.mono (by decide)) rfl (pa_cons (pv 6) pa_nil)) pa_nil)))))))))), ?_⟩
  rintro ⟨b, l, ns⟩ ds Pd ⟨c, rfl, hc, hri, q⟩
  have hn := hc.n
  have hM := hc.m
  have hnr := hri.nr
  refine sx_e (sxe_rows (k := 12) (zs := List.replicate c.months (.int 0)) (by decide) (noOwn_of rfl) (wk_tup (ev_var _ rfl ⟨_, c.nr, dRight c, rfl, by simp, fun i hi => by simp [hi], by omega, fun j hj => ev_rep (by omega) ?_, fun as0 l0 n0 m0 => ?_⟩)))
  · walk_at "ev"
    rfl
  obtain ⟨a0, rfl⟩ := as_fun l0
  refine sxe_rows (k := 4) (zs := List.replicate c.months (.int 0)) (by decide) (noOwn_of rfl) (wk_tup ?_)
  walk_at "ev"
  refine ⟨_, c.n, dSite c, rfl, by simp, fun i hi => by simp [hi], by omega, fun j hj => ev_rep (by omega) ?_, fun as1 l1 n1 m1 => ?_⟩
  · walk_at "ev"
    rfl
  obtain ⟨a1, rfl⟩ := as_fun l1
  refine sxe_rows (k := 4) (zs := List.replicate c.months (.int 0)) (by decide) (noOwn_of rfl) (wk_tup ?_)
  walk_at "ev"
  refine ⟨_, c.n, dSite c, rfl, by simp, fun i hi => by simp [hi], by omega, fun j hj => ev_rep (by omega) ?_, fun as2 l2 n2 m2 => ?_⟩
  · walk_at "ev"
    rfl
  obtain ⟨a2, rfl⟩ := as_fun l2
  obtain ⟨X, hX⟩ : ∃ X, X = mkPl b l ns a0 a1 a2 c.nr c.n c.months := ⟨_, rfl⟩
  have okX : X.Ok := hX ▸ mkPl_ok n0 n1 n2 m0 m1 m2
  have w0 : X.wd 0 = c.nr := by rw [hX]; rfl
  have w1 : X.wd 1 = c.n := by rw [hX]; rfl
  have w2 : X.wd 2 = c.n := by rw [hX]; rfl
  have wM : X.M = c.months := by rw [hX]; rfl
  have wn : X.n = c.n := by rw [hX]; rfl
  have wall : ∀ i, X.wd i ≤ 4 := fun i => by rw [hX]; unfold Pl.wd; split <;> show _ ≤ 4 <;> simp only [mkPl] <;> omega
  have box : ∀ p, Compat (rPlan X p) (rBx ⟨b, l, ns⟩) := fun p => by
    have := plan_box (p := p) okX
    rw [hX] at this ⊢
    exact this
  refine sxe_swap (R' := rPlan X) (g' := fun _ _ _ => 0) (hX ▸ mkPl_M _) (hX ▸ mkPl_J) ?_
  have e0 : D.list (((List.range c.nr).map a0).map fun a => D.raw (.ref a)) = dA X 0 := by rw [hX, List.map_map]; rfl
  have e1 : D.list (((List.range c.n).map a1).map fun a => D.raw (.ref a)) = dA X 1 := by rw [hX, List.map_map]; rfl
  have e2 : D.list (((List.range c.n).map a2).map fun a => D.raw (.ref a)) = dA X 2 := by rw [hX, List.map_map]; rfl
  rw [e0, e1, e2]
  clear e0 e1 e2 n0 n1 n2 m0 m1 m2 l0 l1 l2
  have hb2 := bok2 hc hri
  refine sxe_seq (fun _ _ _ h => h) (sxg_for (fun _ _ _ h => h) (wk_list (ev_call (Compat.pure _) ?_)))
  walk_at "ev"
  have hcl := cells_len c.n c.months
  refine ⟨c, rfl, by omega, by omega, _, c.months * c.n, fun i => dC (i % c.n) (i / c.n), rfl, by simp [hcl], fun i hi => by rw [List.getElem?_map, Hw.cells_get _ _ _ hi]; rfl, fun i g sl => ∃ x4 x7 x8 x9 x10 x11 : Sl, sl = [.dat (.raw (.ref b)), .dat (dB c), .dat (dRs c), .dat (dA X 0), x4, .dat (dA X 1), .dat (dA X 2), x7, x8, x9, x10, x11, .no] ∧ Hw.PlOk c g i, ⟨_, _, _, _, _, _, rfl, Hw.PlOk.zero hb2⟩, ?_, ?_⟩
  · rintro i g sl hi ⟨x4, x7, x8, x9, x10, x11, rfl, hp⟩
    have hk : i % c.n < c.n := Nat.mod_lt _ (by omega)
    have hm : i / c.n < c.months := Nat.div_lt_of_lt_mul (by rw [Nat.mul_comm]; exact hi)
    have ei : i = (i / c.n) * c.n + i % c.n := (Nat.div_add_mod' i c.n).symm
    dsimp only
    generalize i % c.n = k at *
    generalize i / c.n = m at *
    subst ei
    have g0 : ∀ a r m, 0 ≤ g a r m := fun a r m => (hp.bd a r m).1
    walk_at "ev"
    refine sxg_seq (sxg_set ?_)
    walk_at "ev"
    refine sxg_seq (sxg_set (ev_callE (X, g) (Compat.refl _) ?_))
    walk_at "ev"
    refine ⟨c, k, m, rfl, by show X.n ≤ 4; omega, wn.symm, wM.symm, hk, hm, fun k => (hc.site k).travel, ?_⟩
    refine sxg_cut (fun g2 sl => ∃ (x : Nat → Int) (L : Int) (x10 : Sl), g2 = midCell c g k m c.nr x ∧ sl = [.dat (.raw (.ref b)), .dat (dB c), .dat (dRs c), .dat (dA X 0), .dat (dSite c k), .dat (dA X 1), .dat (dA X 2), .dat (.int k), .dat (.int m), .dat (.int L), x10, x11, .no] ∧
      (∀ r, r < c.nr → c.rsite r = k → 0 ≤ x r ∧ x r ≤ 12 ∧ x r ≤ c.dem r m) ∧ L = Hw.recvK c g k m - Hw.sm c.nr (fun r => if c.rsite r = k then x r else 0) ∧ 0 ≤ L) (sxg_for (fun _ _ _ h => h) (wk_rng1 ?_)) ?_
    · walk_at "ev"
      refine ⟨c.nr, by simp, by omega, fun i g2 sl => ∃ (x : Nat → Int) (L : Int) (x10 : Sl), g2 = midCell c g k m i x ∧ sl = [.dat (.raw (.ref b)), .dat (dB c), .dat (dRs c), .dat (dA X 0), .dat (dSite c k), .dat (dA X 1), .dat (dA X 2), .dat (.int k), .dat (.int m), .dat (.int L), x10, x11, .no] ∧
        (∀ r, r < i → c.rsite r = k → 0 ≤ x r ∧ x r ≤ 12 ∧ x r ≤ c.dem r m) ∧ L = Hw.recvK c g k m - Hw.sm i (fun r => if c.rsite r = k then x r else 0) ∧ 0 ≤ L,
        ⟨fun _ => 0, Hw.recvK c g k m, _, midCell0.symm, rfl, fun r hr => absurd hr (by omega), (by show _ = Hw.recvK c g k m - 0; omega), recvK_ge0 hb2 g0 k m⟩, ?_, fun g2 sl h => h⟩
      rintro r g2 sl hr ⟨x, L, x10, rfl, rfl, hx, hL, hL0⟩
      walk_at "ev"
      refine sxg_if ?_
      walk_at "ev"
      refine od_eqS (ex_bl (if_dec (fun h => ?_) fun h => ?_))
      · have hs : c.rsite r = k := nm_inj h
        have hd := hri.dem r m
        refine sxg_seq (sxg_setRow okX ?_)
        walk_at "ev"
        refine ev_callE ⟨b, l, ns⟩ (box _) ?_
        walk_at "ev"
        refine ⟨9, rfl, by decide, fun y h0 h1 => ?_⟩
        walk_at "ev"
        obtain ⟨v, hv⟩ : ∃ v, v = min (min L (c.dem r m)) y := ⟨_, rfl⟩
        rw [← hv]
        refine ⟨v, 0, r, m, rfl, by omega, by omega, by omega, rfl, rfl, rfl, sxg_set ?_⟩
        walk_at "ev"
        refine od_ixML (by omega) ?_
        walk_at "ev"
        refine od_row (by omega) (by omega) (by omega) ?_
        rw [upd3_at]
        walk_at "ev"
        refine ⟨fun r' => if r' = r then v else x r', L - v, .dat (.int r), midCell_put hs, rfl, fun r' hr' hs' => ?_, ?_, by omega⟩
        · dsimp only
          split
          · rename_i e; subst e; exact ⟨by omega, by omega, by omega⟩
          · exact hx r' (by omega) hs'
        · have es : Hw.sm (r + 1) (fun r' => if c.rsite r' = k then (if r' = r then v else x r') else 0) = Hw.sm r (fun r' => if c.rsite r' = k then x r' else 0) + v := by
            show Hw.sm r _ + _ = _
            congr 1
            · refine Hw.sm_congr fun j hj => ?_
              rw [if_neg (show ¬ j = r by omega)]
            · dsimp only; rw [if_pos hs, if_pos rfl]
          dsimp only
          rw [es]; omega
      · have hs : c.rsite r ≠ k := fun z => h (by rw [z])
        refine sxg_next ⟨x, L, .dat (.int r), (midCell_skip hs).symm, rfl, fun r' hr' hs' => hx r' ?_ hs', ?_, hL0⟩
        · rcases Nat.lt_or_ge r' r with z | z
          · exact z
          · exact absurd hs' (by rw [show r' = r by omega]; exact hs)
        · show L = _ - (Hw.sm r _ + _)
          dsimp only
          rw [if_neg hs, Int.add_zero]; exact hL
    rintro g2 sl ⟨x, L, x10, rfl, rfl, hx, hL, hL0⟩
    refine sxg_cut (fun g2 sl => ∃ (y L2 : Int) (x11 : Sl), g2 = upd3 (midCell c g k m c.nr x) 1 k m y ∧ sl = [.dat (.raw (.ref b)), .dat (dB c), .dat (dRs c), .dat (dA X 0), .dat (dSite c k), .dat (dA X 1), .dat (dA X 2), .dat (.int k), .dat (.int m), .dat (.int L2), x10, x11, .no] ∧
      (0 ≤ y ∧ y ≤ 12) ∧ (c.next k = none → y = 0) ∧ (∀ v, c.reach k = some v → y ≤ v) ∧ L2 = L - y ∧ 0 ≤ L2) (sxg_if ?_) ?_
    · walk_at "ev"
      · rename_i h
        refine sxg_seq (sxg_set ?_)
        walk_at "ev"
        refine sxg_cut (fun g2 sl => g2 = midCell c g k m c.nr x ∧ ∃ (mo : Int), sl = [.dat (.raw (.ref b)), .dat (dB c), .dat (dRs c), .dat (dA X 0), .dat (dSite c k), .dat (dA X 1), .dat (dA X 2), .dat (.int k), .dat (.int m), .dat (.int L), x10, .dat (.int mo), .no] ∧ 0 ≤ mo ∧ mo ≤ L ∧ ∀ v, c.reach k = some v → mo ≤ v) (sxg_if ?_) ?_
        · walk_at "ev"
          · rename_i h3
            cases hre : c.reach k with
            | none => rw [hre] at h3; cases h3
            | some v =>
              have hv0 := (hc.site k).reach v hre
              refine sxg_set ?_
              walk_at "ev"
              rw [hre]
              refine ca_min2 ?_
              refine ⟨rfl, min L v, rfl, by omega, by omega, fun v' e => by cases e; omega⟩
          · rename_i h3
            refine sxg_next ⟨rfl, L, rfl, hL0, Int.le_refl _, fun v e => ?_⟩
            rw [e] at h3; cases h3
        rintro g2 sl ⟨rfl, mo, rfl, hm0, hm1, hm2⟩
        refine sxg_seq (sxg_setRow okX ?_)
        walk_at "ev"
        refine ev_callE ⟨b, l, ns⟩ (box _) ?_
        walk_at "ev"
        refine ⟨12, rfl, by decide, fun y h0 h1 => ?_⟩
        walk_at "ev"
        refine ⟨min mo y, 1, k, m, rfl, by omega, by omega, by omega, rfl, rfl, rfl, sxg_set ?_⟩
        walk_at "ev"
        refine od_ixML (by omega) ?_
        walk_at "ev"
        refine od_row (by omega) (by omega) (by omega) ?_
        rw [upd3_at]
        walk_at "ev"
        refine ⟨min mo y, L - min mo y, _, rfl, rfl, ⟨by omega, by omega⟩, fun e => ?_, fun v e => ?_, rfl, by omega⟩
        · rw [e] at h; cases h
        · have := hm2 v e; omega
      · rename_i h
        have hnx : c.next k = none := by
          cases e : c.next k with
          | none => rfl
          | some j => rw [e] at h; cases h
        refine sxg_next ⟨0, L, _, (upd3_id ?_).symm, rfl, ⟨Int.le_refl 0, by show (0:Int) ≤ 12; decide⟩, fun _ => rfl, fun v e => (hc.site k).reach v e, by omega, hL0⟩
        rw [(mid_recv (c := c) (p := g) (k := k) (m := m) (i := c.nr) (x := x) k m).1]
        exact hp.rel0 k m hk hm (Nat.le_refl _)
    rintro g2 sl ⟨y, L2, x11, rfl, rfl, hy, hnx, hre, hL2, hL20⟩
    refine sxg_setRow okX ?_
    walk_at "ev"
    refine ev_callE ⟨b, l, ns⟩ (box _) ?_
    walk_at "ev"
    refine ⟨12, rfl, by decide, fun z h0 h1 => ?_⟩
    walk_at "ev"
    have hro := (hc.site k).room
    refine ⟨min (min L2 (c.room k)) z, 2, k, m, rfl, by omega, by omega, by omega, rfl, rfl, rfl, .dat (dSite c k), .dat (.int k), .dat (.int m), .dat (.int L2), x10, x11, rfl, ?_⟩
    rw [mid_putCell]
    exact Hw.PlOk.step hb2 hk hm hp ⟨hx, hy, ⟨by omega, by omega, by omega⟩, hnx, hre, by omega⟩
  · rintro g sl ⟨x4, x7, x8, x9, x10, x11, rfl, hp⟩
    refine sxe_ret (fun B H j => ?_) ?_
    · have := j.1
      rw [hX] at this
      exact this
    walk_at "ev"
    refine ev_callE (X, g) (Compat.refl _) ?_
    walk_at "ev"
    refine ⟨0, by omega, wall, rfl, ?_⟩
    walk_at "ev"
    refine ev_callE (X, g) (Compat.refl _) ?_
    walk_at "ev"
    refine ⟨1, by omega, wall, rfl, ?_⟩
    walk_at "ev"
    refine ev_callE (X, g) (Compat.refl _) ?_
    walk_at "ev"
    refine ⟨2, by omega, wall, rfl, ?_⟩
    walk_at "ev"
    dsimp only
    rw [w0, w1, w2, wM]
    exact q g hp

/-! ## D11 -/
/-! ### targets that change what is kept -/
section
variable {γ : Type} {r : Res} {R : γ → Res} {g : γ} {sl : List Sl} {te : TE}
def GxG (R : γ → Res) (g : γ) (gt : TG) (d : D) (sl : List Sl) (P : γ → List Sl → Prop) : Prop :=
  ∀ B0 H0 B H σ v, At (R g) B0 H0 B H σ sl → Dt.R B v d → ∀ Q : L2.St → Hp → Prop, (∀ B2 H2 σ2 sl2 g2, P g2 sl2 → At (R g2) B0 H0 B2 H2 σ2 sl2 → Sub B B2 → Q σ2 H2) → gt v σ H Q
def GxsG (R : γ → Res) (g : γ) (gs : TGs) (ds : List D) (sl : List Sl) (P : γ → List Sl → Prop) : Prop :=
  ∀ B0 H0 B H σ vs, At (R g) B0 H0 B H σ sl → RA B vs ds → ∀ Q : L2.St → Hp → Prop, (∀ B2 H2 σ2 sl2 g2, P g2 sl2 → At (R g2) B0 H0 B2 H2 σ2 sl2 → Sub B B2 → Q σ2 H2) → gs vs σ H Q
theorem gxg_name {i : Nat} {d : D} {P : γ → List Sl → Prop} (h : P g (sl.set i (.dat d))) : GxG R g (gName i) d sl P := fun B0 H0 B H σ v a rv Q q => q B H _ _ g h (a.setD i rv) (.refl B)
theorem gxsg_nil {P : γ → List Sl → Prop} (h : P g sl) : GxsG R g gNil [] sl P := fun B0 H0 B H σ vs a rv Q q => ⟨rv, q B H σ sl g h a (.refl B)⟩
theorem gxsg_cons {gt : TG} {gs : TGs} {d : D} {ds : List D} {P : γ → List Sl → Prop} (h : GxG R g gt d sl fun g2 sl2 => GxsG R g2 gs ds sl2 P) : GxsG R g (gCons gt gs) (d :: ds) sl P := fun B0 H0 B H σ vs a rv Q q => by
  obtain ⟨v, w, rfl, h1, h2⟩ := rv
  refine ⟨v, w, rfl, ?_⟩
  exact h B0 H0 B H σ v a h1 _ fun B2 H2 σ2 sl2 g2 p a2 s2 => p B0 H0 B2 H2 σ2 w a2 (h2.mono s2) Q fun B3 H3 σ3 sl3 g3 p3 a3 s3 => q B3 H3 σ3 sl3 g3 p3 a3 (s2.trans s3)
theorem gxg_tup {K : PySem.W.Frag} {gs : TGs} {n : Nat} {ds : List D} {P : γ → List Sl → Prop} (hn : ds.length = n) (h : GxsG R g gs ds sl P) : GxG R g (gTup K n gs) (.tup ds) sl P := fun B0 H0 B H σ v a rv Q q => by
  obtain ⟨p, xs, rfl, hp, hx⟩ := rv
  exact ⟨p, xs, rfl, SqT.of (a.e.sub p _ hp), by rw [hx.length, hn], h B0 H0 B H σ xs a hx Q q⟩
theorem sxg_asgG {gt : TG} {P : γ → List Sl → Prop} (h : EvP (R g) te sl fun d => GxG R g gt d sl P) : SxG R g (tAsg te gt) sl P := fun B0 H0 B H σ Dn a f =>
  h B H σ a.e _ fun v B2 H2 d g j rv p => p B0 H0 B2 H2 σ v (a.grow g j) rv _ fun B3 H3 σ3 sl3 g3 n a3 _ => f B3 H3 σ3 sl3 g3 n a3
end

/-! ### methods -/
structure HasM (P : Program) (w : World) (K : PySem.W.Frag) (mg : Str → Option Value) (base : Heap) (C : Addr) (k : Nat) (x : Str) (ps : List Str) (sp : Sp) : Prop where
  ex : ∃ f fd, FnOk P w K mg base CX0 k f fd ps sp ∧ Meth K C x f ∧ Binds K fd ps []
structure FunAtM (K : PySem.W.Frag) (C : Addr) (x q : Str) (st : Stmt) (ps : List Str) : Prop where
  ex : ∃ f fd, Fun K x q st f fd ∧ Meth K C x f ∧ Binds K fd ps []
structure HasI (P : Program) (w : World) (K : PySem.W.Frag) (mg : Str → Option Value) (base : Heap) (C : Addr) (k : Nat) (ps : List Str) (sp : Sp) : Prop where
  ex : ∃ f fd, FnOk P w K mg base CX0 k f fd ps sp ∧ Mk K C f ∧ Binds K fd ps []
structure FunAtI (K : PySem.W.Frag) (C : Addr) (x q : Str) (st : Stmt) (ps : List Str) : Prop where
  ex : ∃ f fd, Fun K x q st f fd ∧ Mk K C f ∧ Binds K fd ps []
/-- the class -/
structure TrCls (K : PySem.W.Frag) (mg : Str → Option Value) (C : Addr) : Prop where
  cls : Cls K C
  at_ : mg "Tracing" = some (.ref C)
  n1 : NoAttr K C "basin"
  n2 : NoAttr K C "rights"
  n3 : NoAttr K C "plan"
  n4 : NoAttr K C "given"
  n5 : NoAttr K C "let"
  n6 : NoAttr K C "stored"
  n7 : NoAttr K C "spilled"
theorem pe_hasM {X : Cx} {pl : Sem Bool} {k : Nat} {C : Addr} {m : Str} {ps : List Str} {sp : Sp} {e o : Expr} {es : List Expr} {ta : TE} {t : TA} {apos pos : Pos} (c : TrCls X.K X.mg C) (h : HasM X.prog X.w X.K X.mg X.base C k m ps sp) (hr : Room k X.A) (he : PE X o ta) (ha : PA X (e :: es) t)
    (hst : starEach (e :: es) X.env = (false, eval e X.env) :: starEach es X.env := by rfl) (hpl : (backTo pos (starEach es X.env)).any (·.1) = false := by rfl)
    (ht : eval (.Call (.Attribute o m apos) (e :: es) [] pos) X.env = (do
      let ov ← eval o X.env
      standAt apos.atName
      let (f, first) ← holding [ov] (getMethod ov m pl)
      callWith pos f first (backTo pos (starEach (e :: es) X.env)) (backToKw pos (keywordEach [] X.env))) := by rfl) :
    PE X (.Call (.Attribute o m apos) (e :: es) [] pos) (tMeth C m sp [] E0 ta t) := by
  obtain ⟨f, fd, F, hm, hb⟩ := h.ex
  exact pe_meth (pl := pl) he c.cls hm F hr hb .nil pass0 ha hst hpl ht
theorem pe_mk {X : Cx} {k : Nat} {C : Addr} {ps : List Str} {sp : Sp} {e : Expr} {es : List Expr} {t : TA} {p pos : Pos} (c : TrCls X.K X.mg C) (h : HasI X.prog X.w X.K X.mg X.base C k ps sp) (hr : Room (k + 1) X.A) (hg : Gl X "Tracing") (ha : PA X (e :: es) t)
    (he : starEach (e :: es) X.env = (false, eval e X.env) :: starEach es X.env := by rfl) (hpl : (backTo pos (starEach es X.env)).any (·.1) = false := by rfl) :
    PE X (.Call (.Name "Tracing" p) (e :: es) [] pos) (tMake C sp [] E0 t) := by
  obtain ⟨f, fd, F, hm, hb⟩ := h.ex
  exact pe_make hm F hr hg c.at_ hb .nil pass0 ha (by decide) he hpl
section
variable {ι : Type} {x q : Str} {st : Stmt} {N ps : List Str} {k : Nat} {C : Addr}
theorem has_ofME {r : ι → Res} {T : ι → List D → (D → Prop) → Prop} (F : FunAtM K C x q st ps) (S : FnScope N ps (defScope st)) (hT : ∀ i ds P, T i ds P → ds.length = ps.length)
    (hbody : ∀ (f : Addr) (cdv : Value) (A : Around) (outer : List PySem.Env) (s : Shared) (H : Hp) (E : XK), Room k (A.deeper (PyProof.Rows.envOfC q (defScope st) s.heap.objs.size f cdv)) →
      ∃ t, PSs (cxOf CX0 P w K mg base N q (defScope st) f cdv A outer s H E).nox (defBody st) t ∧ ∀ i ds Pd, T i ds Pd → Sx (r i) t (slots N.length ds) (endOf Pd)) : HasM P w K mg base C (k + 1) x ps (spE r T) := by
  obtain ⟨f, fd, F, hm, hb⟩ := F.ex
  refine ⟨f, fd, F.ok S (fun vs H Q E h => ?_) fun cdv A outer s H vs Q E hr h => ?_, hm, hb⟩
  · obtain ⟨i, h⟩ := h
    exact spD_len (hT i) vs H Q E h
  · obtain ⟨t, ht, hs⟩ := hbody f cdv A outer s H E hr
    obtain ⟨i, h⟩ := h
    exact ⟨t, ht, spD_go h (hs i)⟩
/-- a method that changes what is kept -/
def spG {γ : Type} (r : ι → γ → Res) (T : ι → γ → List D → (γ → Prop) → Prop) : Sp := fun vs H Q _ => ∃ i g B ds P, Sub B H ∧ (∀ a, (r i g).M a → B a = none) ∧ (∀ a, (r i g).M a → H a ≠ none) ∧ (r i g).J B H ∧ RA B vs ds ∧ T i g ds P ∧
  ∀ B2 H2 g', Grow (r i g').M B H B2 H2 → (r i g').J B2 H2 → P g' → Q .non H2
theorem has_ofMG {γ : Type} {r : ι → γ → Res} {T : ι → γ → List D → (γ → Prop) → Prop} (F : FunAtM K C x q st ps) (S : FnScope N ps (defScope st)) (hT : ∀ i g ds P, T i g ds P → ds.length = ps.length)
    (hbody : ∀ (f : Addr) (cdv : Value) (A : Around) (outer : List PySem.Env) (s : Shared) (H : Hp) (E : XK), Room k (A.deeper (PyProof.Rows.envOfC q (defScope st) s.heap.objs.size f cdv)) →
      ∃ t, PSs (cxOf CX0 P w K mg base N q (defScope st) f cdv A outer s H E).nox (defBody st) t ∧ ∀ i g ds P, T i g ds P → SxG (r i) g t (slots N.length ds) fun g' _ => P g') : HasM P w K mg base C (k + 1) x ps (spG r T) := by
  obtain ⟨f, fd, F, hm, hb⟩ := F.ex
  refine ⟨f, fd, F.ok S (fun vs H Q E h => ?_) fun cdv A outer s H vs Q E hr h => ?_, hm, hb⟩
  · obtain ⟨i, g, B, ds, P, _, _, _, _, rv, hT', _⟩ := h
    rw [rv.length, hT i g ds P hT']
  · obtain ⟨t, ht, hs⟩ := hbody f cdv A outer s H E hr
    obtain ⟨i, g, B, ds, P, s, mb, mt, j, rv, hT', k⟩ := h
    refine ⟨t, ht, hs i g ds P hT' B H B H _ _ ⟨slots_ok s mb mt j rv, fun z s l hs ha => ?_, .refl s⟩ fun B2 H2 σ sl g' p a => k B2 H2 g' a.g a.e.J p⟩
    exfalso
    unfold slots at hs
    by_cases hi : z < ds.length
    · rw [List.getElem?_append_left (by simpa using hi), List.getElem?_map] at hs
      cases e : ds[z]? with
      | none => rw [e] at hs; cases hs
      | some d => rw [e] at hs; cases hs; cases ha
    · rw [List.getElem?_append_right (by simpa using hi), List.getElem?_replicate] at hs
      split at hs
      · cases hs; cases ha
      · cases hs
end

/-! ### tables of rows -/
abbrev k2 (k m : Nat) : List Key := [.inl k, .inl m]
theorem k2_inj {k m k' m' : Nat} : k2 k m = k2 k' m' ↔ k = k' ∧ m = m' := by
  simp only [k2, List.cons.injEq, Sum.inl.injEq, and_true]
  omega
theorem cell_at {B : Hp} {v : V} {k m : Nat} (h : R B v (dC k m)) : ∃ b, v = .ref b ∧ B b = some (.tup ((k2 k m).map kV)) := by
  obtain ⟨b, xs, rfl, hb, v1, w1, rfl, h1, v2, w2, rfl, h2, h3⟩ := h
  cases (show v1 = .int k from h1); cases (show v2 = .int m from h2); cases (show w2 = [] from h3)
  exact ⟨b, rfl, hb⟩
def DAt (B H : Hp) (a : Addr) (F : Nat → Nat → Option Hw.Row) (c : Nat) : Prop := ∃ kvs, H a = some (.dT kvs) ∧ kvs.length ≤ c ∧ ∀ k m row, F k m = some row → ∃ v, valV kvs (k2 k m) = some v ∧ R B v (dPs row)
theorem DAt.mono {B H B2 H2 : Hp} {a : Addr} {F : Nat → Nat → Option Hw.Row} {c c2 : Nat} (h : DAt B H a F c) (s : Sub B B2) (m : ∀ o, H a = some o → H2 a = some o) (hc : c ≤ c2) : DAt B2 H2 a F c2 := by
  obtain ⟨kvs, h1, h2, h3⟩ := h
  exact ⟨kvs, m _ h1, by omega, fun k m row e => let ⟨v, e1, e2⟩ := h3 k m row e; ⟨v, e1, e2.mono s⟩⟩
/-- one table -/
def rDc (z : Addr × (Nat → Nat → Option Hw.Row) × Nat) : Res := ⟨fun x => x = z.1, fun B H => DAt B H z.1 z.2.1 z.2.2, fun B H B2 H2 j s m => j.mono s (fun o e => m _ o rfl e) (Nat.le_refl _)⟩
structure Tr where
  b : Hw.B
  p : Hw.P
  self : Addr
  dx : Addr
  vb : V
  vr : V
  vp : V
  a : Nat → Addr
def fs7 (vb vr vp : V) (a : Nat → Addr) : List (Str × V) := [("basin", vb), ("rights", vr), ("plan", vp), ("given", .ref (a 0)), ("let", .ref (a 1)), ("stored", .ref (a 2)), ("spilled", .ref (a 3))]
abbrev Tab := Nat → Nat → Nat → Option Hw.Row
structure Tr.Ok (X : Tr) : Prop where
  inj : ∀ i j, i < 4 → j < 4 → X.a i = X.a j → i = j
def rTr (C : Addr) (X : Tr) (g : Tab × Nat) : Res := ⟨fun x => ∃ i, i < 4 ∧ x = X.a i,
  fun B H => B X.self = some (.ins C X.dx (fs7 X.vb X.vr X.vp X.a)) ∧ R B X.vb (dB X.b) ∧ R B X.vr (dRs X.b) ∧ R B X.vp (dP X.b X.p) ∧ X.Ok ∧ ∀ i, i < 4 → DAt B H (X.a i) (g.1 i) g.2,
  fun B H B2 H2 ⟨j1, j2, j3, j4, j5, j6⟩ s m => ⟨s _ _ j1, j2.mono s, j3.mono s, j4.mono s, j5, fun i hi => (j6 i hi).mono s (fun o e => m _ o ⟨i, hi, rfl⟩ e) (Nat.le_refl _)⟩⟩
section
variable {C : Addr} {X : Tr} {g : Tab × Nat} {sl : List Sl} {Pd : D → Prop} {td ty te : TE} {ta : TA} {i : Nat}
theorem tr_dc {i : Nat} (hi : i < 4) : Compat (rTr C X g) (rDc (X.a i, g.1 i, g.2)) := ⟨fun a m => ⟨i, hi, m⟩, fun B H j => j.2.2.2.2.2 i hi, fun B H B2 H2 ⟨j1, j2, j3, j4, j5, j6⟩ c gr => ⟨gr.b _ _ j1, j2.mono gr.b, j3.mono gr.b, j4.mono gr.b, j5, fun z hz => by
  by_cases e : z = i
  · subst e; exact c
  · refine (j6 z hz).mono gr.b (fun o eo => gr.h _ o eo fun q => e (j5.inj z i hz hi q)) (Nat.le_refl _)⟩⟩
theorem ev_fldX {f : Str} {v : V} {d : D} (cl : TrCls K mg C) (na : NoAttr K C f) (hi : sl[i]? = some (.dat (.raw (.ref X.self)))) (hv : (fs7 X.vb X.vr X.vp X.a).lookup f = some v) (hd : ∀ B H, (rTr C X g).J B H → R B v d) (p : Pd d) : EvP (rTr C X g) (tFld K (tVar i) f) sl Pd := fun B H σ e Q q => by
  obtain ⟨o, e1, u, rfl, ru⟩ := e.at_ i _ hi
  cases (show u = .ref X.self from ru)
  exact ⟨_, e1, X.self, C, X.dx, _, v, rfl, e.sub _ _ e.J.1, cl.cls, na, hv, q v B H d (.refl e.sub) e.J (hd B H e.J) p⟩
theorem fld_basin (cl : TrCls K mg C) (hi : sl[i]? = some (.dat (.raw (.ref X.self)))) (p : Pd (dB X.b)) : EvP (rTr C X g) (tFld K (tVar i) "basin") sl Pd := ev_fldX cl cl.n1 hi rfl (fun B H j => j.2.1) p
theorem fld_rights (cl : TrCls K mg C) (hi : sl[i]? = some (.dat (.raw (.ref X.self)))) (p : Pd (dRs X.b)) : EvP (rTr C X g) (tFld K (tVar i) "rights") sl Pd := ev_fldX cl cl.n2 hi rfl (fun B H j => j.2.2.1) p
theorem fld_plan (cl : TrCls K mg C) (hi : sl[i]? = some (.dat (.raw (.ref X.self)))) (p : Pd (dP X.b X.p)) : EvP (rTr C X g) (tFld K (tVar i) "plan") sl Pd := ev_fldX cl cl.n3 hi rfl (fun B H j => j.2.2.2.1) p
theorem fld_given (cl : TrCls K mg C) (hi : sl[i]? = some (.dat (.raw (.ref X.self)))) (p : Pd (.raw (.ref (X.a 0)))) : EvP (rTr C X g) (tFld K (tVar i) "given") sl Pd := ev_fldX (d := .raw (.ref (X.a 0))) cl cl.n4 hi rfl (fun B H j => rfl) p
theorem fld_let (cl : TrCls K mg C) (hi : sl[i]? = some (.dat (.raw (.ref X.self)))) (p : Pd (.raw (.ref (X.a 1)))) : EvP (rTr C X g) (tFld K (tVar i) "let") sl Pd := ev_fldX (d := .raw (.ref (X.a 1))) cl cl.n5 hi rfl (fun B H j => rfl) p
theorem fld_stored (cl : TrCls K mg C) (hi : sl[i]? = some (.dat (.raw (.ref X.self)))) (p : Pd (.raw (.ref (X.a 2)))) : EvP (rTr C X g) (tFld K (tVar i) "stored") sl Pd := ev_fldX (d := .raw (.ref (X.a 2))) cl cl.n6 hi rfl (fun B H j => rfl) p
theorem fld_spilled (cl : TrCls K mg C) (hi : sl[i]? = some (.dat (.raw (.ref X.self)))) (p : Pd (.raw (.ref (X.a 3)))) : EvP (rTr C X g) (tFld K (tVar i) "spilled") sl Pd := ev_fldX (d := .raw (.ref (X.a 3))) cl cl.n7 hi rfl (fun B H j => rfl) p
/-- d[k, m] -/
theorem ev_dgetD {z : Addr × (Nat → Nat → Option Hw.Row) × Nat} {r : Res} (hz : ∀ B H, r.J B H → DAt B H z.1 z.2.1 z.2.2) (h : EvP r td sl fun d => d = .raw (.ref z.1) ∧ EvP r ty sl fun y => ∃ k m row, y = dC k m ∧ z.2.1 k m = some row ∧ Pd (dPs row)) : EvP r (tDGet td ty) sl Pd := fun B H σ e Q q =>
  h B H σ e _ fun v B2 H2 d g1 j1 rv ⟨hd, h2⟩ => h2 B2 H2 σ (e.grow g1 j1) _ fun y B3 H3 d3 g3 j3 ry ⟨k, m, row, hy, hr, p⟩ => by
    subst hd hy
    cases (show v = .ref z.1 from rv)
    obtain ⟨b, rfl, hb⟩ := cell_at ry
    obtain ⟨kvs, e1, e2, e3⟩ := hz _ _ j3
    obtain ⟨u, f1, f2⟩ := e3 k m row hr
    exact ⟨z.1, u, rfl, by rw [← f1]; exact DGet.t e1 (g3.k _ _ hb), q u B3 H3 _ (g1.trans g3) j3 f2 p⟩
theorem ev_dget {i : Nat} (hi : i < 4) (h : EvP (rTr C X g) td sl fun d => d = .raw (.ref (X.a i)) ∧ EvP (rTr C X g) ty sl fun y => ∃ k m row, y = dC k m ∧ g.1 i k m = some row ∧ Pd (dPs row)) : EvP (rTr C X g) (tDGet td ty) sl Pd :=
  ev_dgetD (z := (X.a i, g.1 i, g.2)) (fun B H j => j.2.2.2.2.2 i hi) h
/-- d[k, m] = row -/
def put (g : Tab × Nat) (i k m : Nat) (row : Hw.Row) : Tab × Nat := (fun i' k' m' => if i' = i ∧ k' = k ∧ m' = m then some row else g.1 i' k' m', g.2 + 1)
theorem gxg_dict {i : Nat} {row : Hw.Row} {P : Tab × Nat → List Sl → Prop} (hi : i < 4) (hc : g.2 < 100000) (h : EvP (rTr C X g) td sl fun d => d = .raw (.ref (X.a i)) ∧ EvP (rTr C X g) ty sl fun y => ∃ k m, y = dC k m ∧ P (put g i k m row) sl) :
    GxG (rTr C X) g (gSub td ty rSetD) (dPs row) sl P := fun B0 H0 B H σ v a rv Q q =>
  h B H σ a.e _ fun u B2 H2 d g1 j1 ru ⟨hd, h2⟩ => h2 B2 H2 σ (a.e.grow g1 j1) _ fun y B3 H3 d3 g3 j3 ry ⟨k, m, hy, p⟩ => by
    subst hd hy
    cases (show u = .ref (X.a i) from ru)
    obtain ⟨b, rfl, hb⟩ := cell_at ry
    have a3 := (a.grow g1 j1).grow g3 j3
    obtain ⟨kvs, e1, e2, e3⟩ := j3.2.2.2.2.2 i hi
    have mm : (rTr C X g).M (X.a i) := ⟨i, hi, rfl⟩
    have bx := a3.e.mb _ mm
    refine ⟨X.a i, _, rfl, DPut.t e1 (g3.k _ _ hb) (Nat.lt_of_lt_of_le (show kvs.length < 100000 by omega) (by decide)), ?_⟩
    have rv3 : R B3 v (dPs row) := (rv.mono g1.b).mono g3.b
    have j' : (rTr C X (put g i k m row)).J B3 (upd H3 (X.a i) (.dT (putK kvs (k2 k m) v))) := by
      obtain ⟨q1, q2, q3, q4, q5, q6⟩ := j3
      refine ⟨q1, q2, q3, q4, q5, fun i' hi' => ?_⟩
      by_cases z : i' = i
      · subst z
        refine ⟨_, upd_same, by have := length_putK kvs (k2 k m) v; show _ ≤ g.2 + 1; omega, fun k' m' row' er => ?_⟩
        rw [valV_put]
        have er : (if i' = i' ∧ k' = k ∧ m' = m then some row else g.1 i' k' m') = some row' := er
        by_cases zz : k' = k ∧ m' = m
        · rw [if_pos ⟨rfl, zz⟩] at er
          cases er
          exact ⟨v, if_pos (k2_inj.mpr zz), rv3⟩
        · rw [if_neg (fun z => zz z.2)] at er
          rw [if_neg (fun z => zz (k2_inj.mp z))]
          exact e3 k' m' row' er
      · have e : (put g i k m row).1 i' = g.1 i' := by
          funext k' m'
          exact if_neg fun q => z q.1
        rw [e]
        refine (q6 i' hi').mono (.refl _) (fun o eo => ?_) (Nat.le_succ _)
        rw [upd_ne (show X.a i' ≠ X.a i from fun q => z (q5.inj i' i hi' hi q))]; exact eo
    have sb : Sub B3 (upd H3 (X.a i) (.dT (putK kvs (k2 k m) v))) := fun x u ea => by
      rw [upd_ne (show x ≠ X.a i from fun z => by rw [z, bx] at ea; cases ea)]
      exact a3.e.sub x u ea
    have gg : Grow (rTr C X g).M B3 H3 B3 (upd H3 (X.a i) (.dT (putK kvs (k2 k m) v))) := by
      refine ⟨.refl B3, fun x u ea na => ?_, fun x ha => ?_, sb, fun _ _ => rfl⟩
      · rw [upd_ne (show x ≠ X.a i from fun z => na (z ▸ mm))]; exact ea
      · by_cases z : x = X.a i
        · rw [z, upd_same]; simp
        · rw [upd_ne z]; exact ha
    refine q B3 _ σ sl _ p ⟨⟨a3.e.len, fun n s hs => ?_, a3.e.nd, sb, a3.e.mb, fun y m => gg.t y (a3.e.mt y m), j'⟩, a3.own, a3.g.trans gg⟩ (g1.b.trans g3.b)
    obtain ⟨o, q1, q2⟩ := a3.e.at_ n s hs
    exact ⟨o, q1, q2.grow gg⟩
theorem ev_meth {ι : Type} {c : ι → Res} {T : ι → List D → (D → Prop) → Prop} {m : Str} {E : XK} (hi : sl[i]? = some (.dat (.raw (.ref X.self)))) (hm : (fs7 X.vb X.vr X.vp X.a).lookup m = none) (z : ι) (k : Compat (rTr C X g) (c z)) (h : EvA (rTr C X g) ta sl fun ds => T z (.raw (.ref X.self) :: ds) Pd) :
    EvP (rTr C X g) (tMeth C m (spE c T) [] E (tVar i) ta) sl Pd := fun B H σ e Q q => by
  obtain ⟨o, e1, u, rfl, ru⟩ := e.at_ i _ hi
  cases (show u = .ref X.self from ru)
  refine ⟨_, e1, X.self, X.dx, _, rfl, e.sub _ _ e.J.1, hm, h B H σ e _ fun vs B2 H2 ds g j rv p => ?_⟩
  have e2 := e.grow g j
  refine ⟨z, B2, _, Pd, g.k, fun a m => e2.mb a (k.m a m), fun a m => e2.mt a (k.m a m), k.j _ _ j, ?_, p, fun v B3 H3 d g3 j3 rv3 p3 => q v B3 H3 d (g.trans (g3.mono k.m)) (k.back _ _ _ _ j j3 g3) rv3 p3⟩
  rw [List.append_nil]
  exact .cons (show R B2 (.ref X.self) (.raw (.ref X.self)) from rfl) rv
theorem sxg_meth {T : Tr → Tab × Nat → List D → (Tab × Nat → Prop) → Prop} {m : Str} {E : XK} {P : Tab × Nat → List Sl → Prop} (hi : sl[i]? = some (.dat (.raw (.ref X.self)))) (hm : (fs7 X.vb X.vr X.vp X.a).lookup m = none) (h : EvA (rTr C X g) ta sl fun ds => T X g (.raw (.ref X.self) :: ds) fun g' => P g' sl) :
    SxG (rTr C X) g (tDrop (tMeth C m (spG (rTr C) T) [] E (tVar i) ta)) sl P := fun B0 H0 B H σ Dn a f => by
  obtain ⟨o, e1, u, rfl, ru⟩ := a.e.at_ i _ hi
  cases (show u = .ref X.self from ru)
  refine ⟨_, e1, X.self, X.dx, _, rfl, a.e.sub _ _ a.e.J.1, hm, h B H σ a.e _ fun vs B2 H2 ds g1 j rv p => ?_⟩
  have a2 := a.grow g1 j
  refine ⟨X, g, B2, _, _, g1.k, a2.e.mb, a2.e.mt, j, ?_, p, fun B3 H3 g' g3 j3 p3 => f B3 H3 σ sl g' p3 ⟨⟨a2.e.len, fun n s hs => ?_, a2.e.nd, g3.k, fun y m => (g3.n y (a2.e.mt y m)).trans (a2.e.mb y m), fun y m => g3.t y (a2.e.mt y m), j3⟩, a2.own, a2.g.trans g3⟩⟩
  · rw [List.append_nil]
    exact .cons (show R B2 (.ref X.self) (.raw (.ref X.self)) from rfl) rv
  · obtain ⟨o, q1, q2⟩ := a2.e.at_ n s hs
    exact ⟨o, q1, q2.grow g3⟩
end

/-! ## D12 -/
/-! ### sorted pairs of ints -/
def keyV (B : Hp) (v : V) : Int × Int := match v with
  | .ref t => (match B t with
    | some (.tup [.int i, .int j]) => (i, j)
    | _ => (0, 0))
  | _ => (0, 0)
abbrev intP (c : Nat × Nat) : Int × Int := ((c.1 : Int), (c.2 : Int))
theorem keys_of {B : Hp} : ∀ {L : List (Nat × Nat)} {xs : List V}, RA B xs (L.map dCell) → (∀ x ∈ xs, ∃ t, x = V.ref t ∧ B t = some (.tup [.int (keyV B x).1, .int (keyV B x).2])) ∧ xs.map (keyV B) = L.map intP
  | [], _, h => by cases (show _ = [] from h); exact ⟨fun x hx => (by cases hx), rfl⟩
  | c :: L, _, h => by
    obtain ⟨v, r, rfl, h1, h2⟩ := h
    obtain ⟨q1, q2⟩ := keys_of h2
    obtain ⟨t, rfl, ht⟩ := cell_at h1
    have hk : keyV B (.ref t) = intP c := by
      unfold keyV
      dsimp only
      rw [ht]; rfl
    refine ⟨fun x hx => ?_, by rw [List.map_cons, hk, q2]; rfl⟩
    rcases List.mem_cons.mp hx with rfl | hx
    · exact ⟨t, rfl, by rw [hk]; exact ht⟩
    · exact q1 x hx
theorem of_keys {B : Hp} : ∀ {L : List (Nat × Nat)} {ys : List V}, (∀ x ∈ ys, ∃ t, x = V.ref t ∧ B t = some (.tup [.int (keyV B x).1, .int (keyV B x).2])) → ys.map (keyV B) = L.map intP → RA B ys (L.map dCell)
  | [], ys, _, e => by
    have : ys = [] := by simpa using e
    subst this; exact .nil
  | c :: L, [], _, e => by cases e
  | c :: L, y :: ys, h, e => by
    rw [List.map_cons, List.map_cons] at e
    obtain ⟨e1, e2⟩ := List.cons.inj e
    obtain ⟨t, rfl, ht⟩ := h y (by simp)
    rw [e1] at ht
    refine .cons ⟨t, _, rfl, ht, ?_⟩ (of_keys (fun x hx => h x (by simp [hx])) e2)
    exact .cons (show R B (.int _) (.int _) from rfl) (.cons (show R B (.int _) (.int _) from rfl) .nil)
theorem ca_sorted {r : Res} {L L' : List (Nat × Nat)} {Pd : D → Prop} (hp : L'.Perm L) (hs : L'.Pairwise fun a c => a.1 < c.1) (p : Pd (.list (L'.map dCell))) : CaD r (rSortedPO K) [.list (L.map dCell)] Pd := fun B H vs s j rv Q q => by
  obtain ⟨v, rfl, a, xs, rfl, ha, hx⟩ := rv.one
  obtain ⟨k1, k2⟩ := keys_of hx
  refine ⟨a, xs, keyV B, rfl, SqL.of (s a _ ha), fun x hx => ?_, fun ys l srt stb hl => ?_⟩
  · obtain ⟨t, e, ht⟩ := k1 x hx
    exact ⟨t, e, s _ _ ht⟩
  · have ek : ys.map (keyV B) = L'.map intP := by
      refine List.Perm.eq_of_pairwise (le := fun x y => SrtO.lexB y x = false) (fun x y _ _ h1 h2 => ?_) (List.pairwise_map.mpr srt) (List.pairwise_map.mpr (hs.imp fun h => ?_)) ?_
      · have q1 := SrtO.lexB_no.mp h1
        have q2 := SrtO.lexB_no.mp h2
        exact Prod.ext (by omega) (by omega)
      · refine SrtO.lexB_no.mpr ?_
        dsimp only [intP]
        omega
      · refine (stb.perm.map _).trans ?_
        rw [k2]
        exact (hp.map _).symm
    have eb := none_of s hl
    exact q (.ref l) _ _ (.list (L'.map dCell)) (Grow.new s hl) (Grow.newJ s hl j) ⟨l, ys, rfl, upd_same, (of_keys (fun x hx => k1 x (stb.perm.mem_iff.mp hx)) ek).mono (Sub.upd eb)⟩ p
abbrev N_row_at : List Str := ["self", "cell", "number", "month", "site", "row", "other"]
theorem sc_row_at : FnScope N_row_at ["self", "cell"] (defScope s_row_at) := ⟨rfl, rfl, rfl, by decide +kernel, rfl, by decide +kernel, by decide +kernel⟩
abbrev rTc (C : Addr) (z : Tr × Tab × Nat) : Res := rTr C z.1 z.2
def tt_row_at (z : Tr × Tab × Nat) : List D → (D → Prop) → Prop := fun ds P => ∃ (s : Hw.St) (k m : Nat), ds = [.raw (.ref z.1.self), dC k m] ∧ Good z.1.b ∧ k < z.1.b.n ∧ m < z.1.b.months ∧ (0 < m → z.2.1 2 k (m - 1) = some (s.stored k (m - 1))) ∧
  (∀ f ∈ Hw.feeders z.1.b k m, z.2.1 1 f.1 f.2 = some (s.letw f.1 f.2)) ∧ (Hw.rowIn z.1.b s k m).length ≤ 1000 ∧ P (dPs (Hw.rowAt z.1.b s k m))
theorem ok_row_at (T : Txt mg) {C : Addr} (TC : TrCls K mg C) (F : FunAtM K C "row_at" "Tracing.row_at" s_row_at ["self", "cell"]) (h_let_from : Has P w K mg base 3 "let_from" ["basin", "cell"] (spD r0 tt_let_from))
    (h_joined : Has P w K mg base 1 "joined" ["row"] (spD r0 tt_joined)) : HasM P w K mg base C 4 "row_at" ["self", "cell"] (spE (rTc C) tt_row_at) := by
  refine has_ofME F sc_row_at (by rintro z ds P ⟨s, k, m, rfl, _⟩; rfl) fun f cdv A outer s H E hr => ⟨_, (pss_cons (ps_asg (pv 1) (pg_tupq K 2 rfl (pgs_cons (pg_name (i := 2) sc_row_at.nd rfl (Or.inl rfl)) (pgs_cons (pg_name (i := 3) sc_row_at.nd rfl (Or.inl rfl)) pgs_nil))))
  (pss_cons (ps_set (i := 4) sc_row_at.nd rfl (Or.inl rfl) (pe_ix (ixq K) (pe_ix (ixq K) (pe_fldq K (pv 0) rfl) pe_int (fun _ _ => rfl)) (pv 2) (fun _ _ => rfl)))
  (pss_cons (ps_set (i := 5) sc_row_at.nd rfl (Or.inl rfl) (pe_ifExp (pt_cmpR op_gt (pv 3) pe_int (nomark _)) (pe_dget (hu_of hr) (pe_fldq K (pv 0) rfl) (pe_tup (pa_cons (pv 2) (pa_cons (pe_op op_sub (pv 3) pe_int) pa_nil))) (fun _ _ => rfl)) (pe_lst (pa_cons (pe_tup (pa_cons (pe_tup (pa_cons pe_str (pa_cons (pv 2) pa_nil))) (pa_cons (pe_ix (ixq K) (pv 4) (pe_gint T.cHELD rfl) (fun _ _ => rfl)) pa_nil))) pa_nil))))
  (pss_cons (ps_for PassesOwn.never rfl (pi_listq K (pe_callB (sortq K) (by rfl) T.sorted (by decide +kernel) (pa_cons (pe_has h_let_from (hr.mono (by decide)) rfl (pa_cons (pe_fldq K (pv 0) rfl) (pa_cons (pv 1) pa_nil))) pa_nil))) (pg_name (i := 6) sc_row_at.nd rfl (Or.inl rfl)) (pss_one (ps_set (i := 5) sc_row_at.nd rfl (Or.inl rfl) (pe_op op_cat (pv 5) (pe_dget (hu_of hr) (pe_fldq K (pv 0) rfl) (pv 6) (fun _ _ => rfl))))))
  (pss_one (ps_ret (pe_has h_joined (hr.mono (by decide)) rfl (pa_cons (pe_op op_cat (pv 5) (pe_lst (pa_cons (pe_tup (pa_cons (pe_tup (pa_cons pe_str (pa_cons (pv 2) (pa_cons (pv 3) pa_nil)))) (pa_cons (pe_ix (ixq K) (pe_ix (ixq K) (pv 4) (pe_gint T.cINFLOWS rfl) (fun _ _ => rfl)) (pv 3) (fun _ _ => rfl)) pa_nil))) pa_nil))) pa_nil)))))))), ?_⟩
  rintro ⟨X, g⟩ ds Pd ⟨s, k, m, rfl, hb, hk, hm, hst, hfe, hlen, q⟩
  dsimp only at hb hk hm hst hfe hlen q ⊢
  show Sx (rTr C X g) _ _ _
  walk_at "ev"
  refine fld_basin TC rfl (ev_int (od_ix1' rfl (ev_var' rfl (od_ixM hk ?_))))
  refine sx_cut (fun sl => ∃ row1 : Hw.Row, row1 = (if 0 < m then s.stored k (m - 1) else [(.held k, X.b.held k)]) ∧ sl = [.dat (.raw (.ref X.self)), .dat (dC k m), .dat (.int k), .dat (.int m), .dat (dSite X.b k), .dat (dPs row1), .no]) (sx_set (ev_if ?_)) ?_
  · walk_at "ev"
    · rename_i h
      refine ev_dget (i := 2) (by decide) (fld_stored TC rfl ⟨rfl, ?_⟩)
      walk_at "ev"
      rw [show ((m : Int) - 1) = ((m - 1 : Nat) : Int) by omega]
      exact ⟨k, m - 1, _, rfl, hst (by omega), _, (if_pos (by omega)).symm, rfl⟩
    · rename_i h
      exact ⟨_, (if_neg (by omega)).symm, rfl⟩
  rintro sl ⟨row1, hrow, rfl⟩
  have hin : Hw.rowIn X.b s k m = row1 ++ ((Hw.feeders X.b k m).map fun f => s.letw f.1 f.2).flatten ++ [(.inn k m, X.b.inflow k m)] := by rw [hrow]; rfl
  have hl := hlen
  rw [hin, List.length_append, List.length_append] at hl
  simp only [List.length_cons, List.length_nil] at hl
  obtain ⟨fe, hfd⟩ : ∃ fe, fe = Hw.feeders X.b k m := ⟨_, rfl⟩
  refine sx_seq (sx_for (wk_list (ev_cb (ea_cons (ev_call (Compat.pure _) (ea_cons (fld_basin TC rfl ?_)))))))
  walk_at "ev"
  refine ⟨X.b, k, m, rfl, hb, ?_⟩
  walk_at "ev"
  refine ca_sorted (L' := Hw.feeders X.b k m) (Hw.feeders_perm hm) (Hw.feeders_lt X.b k m) ?_
  rw [← hfd] at hfe hl hin ⊢
  refine ⟨_, fe.length, fun i => dCell (fe.getD i (0, 0)), rfl, by simp, fun i hi => by simp [hi], fun i sl => ∃ x, sl = [.dat (.raw (.ref X.self)), .dat (dC k m), .dat (.int k), .dat (.int m), .dat (dSite X.b k), .dat (dPs (row1 ++ ((fe.take i).map fun f => s.letw f.1 f.2).flatten)), x], ⟨_, by simp; rfl⟩, ?_, ?_⟩
  · rintro i sl hi ⟨x, rfl⟩
    have hc : fe.getD i (0, 0) ∈ fe := by
      rw [List.getD_eq_getElem?_getD, List.getElem?_eq_getElem hi]
      exact List.getElem_mem hi
    have ht : fe.take (i + 1) = fe.take i ++ [fe.getD i (0, 0)] := by
      rw [List.take_add_one, List.getElem?_eq_getElem hi, List.getD_eq_getElem?_getD, List.getElem?_eq_getElem hi]; rfl
    have hlt : ((fe.take (i + 1)).map fun f => s.letw f.1 f.2).flatten.length ≤ (fe.map fun f => s.letw f.1 f.2).flatten.length := by
      conv => rhs; rw [← List.take_append_drop (i + 1) fe]
      rw [List.map_append, List.flatten_append, List.length_append]
      exact Nat.le_add_right _ _
    dsimp only
    rw [ht, List.map_append, List.flatten_append] at hlt ⊢
    generalize fe.getD i (0, 0) = c at *
    simp only [List.map_cons, List.map_nil, List.flatten_cons, List.flatten_nil, List.append_nil, List.length_append] at hlt ⊢
    walk_at "ev"
    refine ev_dget (i := 1) (by decide) (fld_let TC rfl ⟨rfl, ?_⟩)
    walk_at "ev"
    refine ⟨c.1, c.2, _, rfl, hfe c hc, od_cat (by simp only [List.length_map, List.length_append]; omega) ?_⟩
    refine ⟨.dat (dCell c), ?_⟩
    rw [← List.append_assoc, ← List.map_append]
    rfl
  · rintro sl ⟨x, rfl⟩
    rw [List.take_length]
    walk_at "ev"
    refine ev_call (Compat.pure _) ?_
    walk_at "ev"
    refine od_cat (by simp only [List.length_map, List.length_append, List.length_cons, List.length_nil]; omega) ?_
    walk_at "ev"
    refine ⟨Hw.rowIn X.b s k m, ?_, by omega, q⟩
    rw [hin]
    simp only [dPs, List.map_append]
    rfl
abbrev N_lost : List Str := ["self", "cell"]
theorem sc_lost : FnScope N_lost ["self", "cell"] (defScope s_lost) := ⟨rfl, rfl, rfl, by decide +kernel, rfl, by decide +kernel, by decide +kernel⟩
def tt_lost (z : Tr × Tab × Nat) : List D → (D → Prop) → Prop := fun ds P => ∃ (k m : Nat) (row : Hw.Row), ds = [.raw (.ref z.1.self), dC k m] ∧ Good z.1.b ∧ k < z.1.b.n ∧ m < z.1.b.months ∧ z.2.1 1 k m = some row ∧ P (dPs (if Hw.letTo z.1.b k m = none then row else []))
theorem ok_lost (T : Txt mg) {C : Addr} (TC : TrCls K mg C) (F : FunAtM K C "lost" "Tracing.lost" s_lost ["self", "cell"]) (h_let_to : Has P w K mg base 2 "let_to" ["basin", "cell"] (spD r0 tt_let_to)) :
    HasM P w K mg base C 3 "lost" ["self", "cell"] (spE (rTc C) tt_lost) := by
  refine has_ofME F sc_lost (by rintro z ds P ⟨k, m, row, rfl, _⟩; rfl) fun f cdv A outer s H E hr => ⟨_, (pss_one (ps_ret (pe_ifExp (pt_cmpR op_isN1 (pe_has h_let_to (hr.mono (by decide)) rfl (pa_cons (pe_fldq K (pv 0) rfl) (pa_cons (pv 1) pa_nil))) pe_non (nomark _)) (pe_dget (hu_of hr) (pe_fldq K (pv 0) rfl) (pv 1) (fun _ _ => rfl)) (pe_lst pa_nil)))), ?_⟩
  rintro ⟨X, g⟩ ds Pd ⟨k, m, row, rfl, hb, hk, hm, hrow, q⟩
  dsimp only at hb hk hm hrow q ⊢
  show Sx (rTr C X g) _ _ _
  refine sx_retD (ev_if (et_test (ev_op (ev_call (Compat.pure _) (ea_cons (fld_basin TC rfl ?_))))))
  walk_at "ev"
  refine ⟨X.b, k, m, rfl, hk, hm, hb, ?_⟩
  have hnn : isNon (dOC (Hw.letTo X.b k m)) = some (decide (Hw.letTo X.b k m = none)) := by
    cases Hw.letTo X.b k m <;> rfl
  walk_at "ev"
  refine od_isN hnn (ex_bl (if_dec (fun h => ?_) fun h => ?_))
  · refine ev_dget (i := 1) (by decide) (fld_let TC rfl ⟨rfl, ?_⟩)
    walk_at "ev"
    rw [if_pos h] at q
    exact ⟨k, m, row, rfl, hrow, q⟩
  · walk_at "ev"
    rw [if_neg h] at q
    exact q
abbrev N_trace : List Str := ["self", "cell", "number", "month", "deliveries", "releases", "storages", "row", "at", "right"]
theorem sc_trace : FnScope N_trace ["self", "cell"] (defScope s_trace) := ⟨rfl, rfl, rfl, by decide +kernel, rfl, by decide +kernel, by decide +kernel⟩
def tt_trace (C : Addr) (X : Tr) (g : Tab × Nat) : List D → (Tab × Nat → Prop) → Prop := fun ds P => ∃ (s : Hw.St) (k m : Nat), ds = [.raw (.ref X.self), dC k m] ∧ Good X.b ∧ k < X.b.n ∧ m < X.b.months ∧ (0 < m → g.1 2 k (m - 1) = some (s.stored k (m - 1))) ∧
  (∀ f ∈ Hw.feeders X.b k m, g.1 1 f.1 f.2 = some (s.letw f.1 f.2)) ∧ (Hw.rowIn X.b s k m).length ≤ 1000 ∧ X.b.nr ≤ 4 ∧ g.2 ≤ 1000 ∧ ∀ c, c ≤ g.2 + 8 → P (Hw.trTab X.b g.1 (Hw.step X.b X.p s (k, m)) k m, c)
def midT (F : Tab) (b : Hw.B) (k m i : Nat) (G : Nat → Nat → Hw.Row) : Tab := fun a r m' => if a = 0 ∧ r < i ∧ b.rsite r = k ∧ m' = m then some (G r m) else F a r m'
theorem midT0 {F : Tab} {b : Hw.B} {k m : Nat} {G : Nat → Nat → Hw.Row} : midT F b k m 0 G = F := by
  funext a r m'; simp [midT]
theorem midT_put {F : Tab} {b : Hw.B} {k m i c : Nat} {G : Nat → Nat → Hw.Row} {row : Hw.Row} (h : b.rsite i = k) : put (midT F b k m i G, c) 0 i m row = (midT F b k m (i + 1) (Hw.upd2 G i m row), c + 1) := by
  refine Prod.ext ?_ rfl
  funext a r m'
  show (if a = 0 ∧ r = i ∧ m' = m then some row else midT F b k m i G a r m') = midT F b k m (i + 1) (Hw.upd2 G i m row) a r m'
  unfold midT
  by_cases e : a = 0 ∧ r = i ∧ m' = m
  · obtain ⟨rfl, rfl, rfl⟩ := e
    rw [if_pos ⟨rfl, rfl, rfl⟩, if_pos ⟨rfl, by omega, h, rfl⟩, Hw.upd2_same]
  · rw [if_neg e]
    by_cases e2 : a = 0 ∧ r < i ∧ b.rsite r = k ∧ m' = m
    · rw [if_pos e2, if_pos ⟨e2.1, by omega, e2.2.2⟩, Hw.upd2_ne]
      rintro ⟨rfl, _⟩; omega
    · rw [if_neg e2, if_neg]
      rintro ⟨h1, h2, h3, h4⟩
      by_cases z : r = i
      · exact e ⟨h1, z, h4⟩
      · exact e2 ⟨h1, by omega, h3, h4⟩
theorem midT_skip {F : Tab} {b : Hw.B} {k m i : Nat} {G : Nat → Nat → Hw.Row} (h : b.rsite i ≠ k) : midT F b k m (i + 1) G = midT F b k m i G := by
  funext a r m'
  unfold midT
  by_cases e2 : a = 0 ∧ r < i ∧ b.rsite r = k ∧ m' = m
  · rw [if_pos e2, if_pos ⟨e2.1, by omega, e2.2.2⟩]
  · rw [if_neg e2, if_neg]
    rintro ⟨h1, h2, h3, h4⟩
    by_cases z : r = i
    · subst z; exact h h3
    · exact e2 ⟨h1, by omega, h3, h4⟩
theorem mid_tr {F : Tab} {b : Hw.B} {k m c : Nat} {G : Nat → Nat → Hw.Row} {s' : Hw.St} {l1 t1 t2 : Hw.Row} (hG : s'.given = G) (h1 : s'.letw k m = l1) (h2 : s'.stored k m = t1) (h3 : s'.spilled k m = t2) :
    put (put (put (midT F b k m b.nr G, c) 1 k m l1) 2 k m t1) 3 k m t2 = (Hw.trTab b F s' k m, c + 1 + 1 + 1) := by
  subst hG h1 h2 h3
  refine Prod.ext ?_ rfl
  funext a r m'
  show (if a = 3 ∧ r = k ∧ m' = m then _ else if a = 2 ∧ r = k ∧ m' = m then _ else if a = 1 ∧ r = k ∧ m' = m then _ else if a = 0 ∧ r < b.nr ∧ b.rsite r = k ∧ m' = m then _ else F a r m') = Hw.trTab b F s' k m a r m'
  unfold Hw.trTab
  by_cases a0 : a = 0
  · subst a0
    by_cases e : r < b.nr ∧ b.rsite r = k ∧ m' = m
    · simp [e]
    · simp [e]
  · by_cases a1 : a = 1
    · subst a1; simp
    · by_cases a2 : a = 2
      · subst a2; simp
      · by_cases a3 : a = 3
        · subst a3; simp
        · simp [a0, a1, a2, a3]
theorem ok_trace (T : Txt mg) {C : Addr} (TC : TrCls K mg C) (F : FunAtM K C "trace" "Tracing.trace" s_trace ["self", "cell"]) (h_row_at : HasM P w K mg base C 4 "row_at" ["self", "cell"] (spE (rTc C) tt_row_at))
    (h_parted : Has P w K mg base 2 "parted" ["row", "amount"] (spD r0 tt_parted)) (h_site_number : Has P w K mg base 1 "site_number" ["basin", "name"] (spD r0 tt_site_number)) : HasM P w K mg base C 5 "trace" ["self", "cell"] (spG (rTr C) (tt_trace C)) := by
  refine has_ofMG F sc_trace (by rintro X g ds P ⟨s, k, m, rfl, _⟩; rfl) fun f cdv A outer s H E hr => ⟨_, (pss_cons (ps_asg (pv 1) (pg_tupq K 2 rfl (pgs_cons (pg_name (i := 2) sc_trace.nd rfl (Or.inl rfl)) (pgs_cons (pg_name (i := 3) sc_trace.nd rfl (Or.inl rfl)) pgs_nil))))
  (pss_cons (ps_asg (pe_fldq K (pv 0) rfl) (pg_tupq K 3 rfl (pgs_cons (pg_name (i := 4) sc_trace.nd rfl (Or.inl rfl)) (pgs_cons (pg_name (i := 5) sc_trace.nd rfl (Or.inl rfl)) (pgs_cons (pg_name (i := 6) sc_trace.nd rfl (Or.inl rfl)) pgs_nil)))))
  (pss_cons (ps_set (i := 7) sc_trace.nd rfl (Or.inl rfl) (pe_hasM TC h_row_at (hr.mono (by decide)) (pv 0) (pa_cons (pv 1) pa_nil)))
  (pss_cons (ps_for PassesOwn.never rfl (pi_enumq K rfl T.enumerate (pa_cons (pe_fldq K (pv 0) rfl) pa_nil)) (pg_tupq K 2 rfl (pgs_cons (pg_name (i := 8) sc_trace.nd rfl (Or.inl rfl)) (pgs_cons (pg_name (i := 9) sc_trace.nd rfl (Or.inl rfl)) pgs_nil))) (pss_one (ps_if (pt_cmpR op_eq (pe_has h_site_number (hr.mono (by decide)) rfl (pa_cons (pe_fldq K (pv 0) rfl) (pa_cons (pe_ix (ixq K) (pv 9) pe_int (fun _ _ => rfl)) pa_nil))) (pv 2) (nomark _)) (pss_one (ps_asg (pe_has h_parted (hr.mono (by decide)) rfl (pa_cons (pv 7) (pa_cons (pe_ix (ixq K) (pe_ix (ixq K) (pv 4) (pv 8) (fun _ _ => rfl)) (pv 3) (fun _ _ => rfl)) pa_nil))) (pg_tupq K 2 rfl (pgs_cons (pg_sub (pe_fldq K (pv 0) rfl) (pe_tup (pa_cons (pv 8) (pa_cons (pv 3) pa_nil))) (set_dict (hu_of hr))) (pgs_cons (pg_name (i := 7) sc_trace.nd rfl (Or.inl rfl)) pgs_nil))))) pss_nil)))
  (pss_cons (ps_asg (pe_has h_parted (hr.mono (by decide)) rfl (pa_cons (pv 7) (pa_cons (pe_ix (ixq K) (pe_ix (ixq K) (pv 5) (pv 2) (fun _ _ => rfl)) (pv 3) (fun _ _ => rfl)) pa_nil))) (pg_tupq K 2 rfl (pgs_cons (pg_sub (pe_fldq K (pv 0) rfl) (pv 1) (set_dict (hu_of hr))) (pgs_cons (pg_name (i := 7) sc_trace.nd rfl (Or.inl rfl)) pgs_nil))))
  (pss_one (ps_asg (pe_has h_parted (hr.mono (by decide)) rfl (pa_cons (pv 7) (pa_cons (pe_ix (ixq K) (pe_ix (ixq K) (pv 6) (pv 2) (fun _ _ => rfl)) (pv 3) (fun _ _ => rfl)) pa_nil))) (pg_tupq K 2 rfl (pgs_cons (pg_sub (pe_fldq K (pv 0) rfl) (pv 1) (set_dict (hu_of hr))) (pgs_cons (pg_sub (pe_fldq K (pv 0) rfl) (pv 1) (set_dict (hu_of hr))) pgs_nil)))))))))), ?_⟩
  rintro X g ds Pd ⟨s, k, m, rfl, hb, hk, hm, hst, hfe, hlen, hnr, hc, q⟩
  refine sxg_seq (sxg_asg ?_)
  walk_at "ev"
  refine sxg_seq (sxg_asg (fld_plan TC rfl ?_))
  walk_at "ev"
  refine sxg_seq (sxg_set (ev_meth rfl (by rfl) (X, g) (Compat.refl _) ?_))
  walk_at "ev"
  refine ⟨s, k, m, rfl, hb, hk, hm, hst, hfe, hlen, ?_⟩
  have hrl : (Hw.rowAt X.b s k m).length ≤ 1000 := Nat.le_trans (Hw.joined_len _) hlen
  dsimp only
  generalize hG0 : Hw.rowAt X.b s k m = row0 at *
  obtain ⟨G, hG⟩ : ∃ G, G = Hw.gfold X.b X.p k m (s.given, row0) := ⟨_, rfl⟩
  have G0 : G 0 = (s.given, row0) := by rw [hG]; rfl
  have GS : ∀ i, G (i + 1) = Hw.gstep X.b X.p k m (G i) i := fun i => by rw [hG]; exact Hw.gfold_succ ..
  refine sxg_seq (sxg_for (fun _ _ _ h => h) (wk_enumT (ea_cons (fld_rights TC rfl (ea_nil ?_)))))
  refine ⟨_, X.b.nr, dRight X.b, rfl, by simp, fun i hi => by simp [hi], fun i g' sl => ∃ (c : Nat) (x8 x9 : Sl), c ≤ g.2 + i ∧ (G i).2.length ≤ 1000 ∧ g' = (midT g.1 X.b k m i (G i).1, c) ∧
    sl = [.dat (.raw (.ref X.self)), .dat (dC k m), .dat (.int k), .dat (.int m), .dat (dMat X.b.nr X.b.months X.p.del), .dat (dMat X.b.n X.b.months X.p.rel), .dat (dMat X.b.n X.b.months X.p.sto), .dat (dPs (G i).2), x8, x9],
    ⟨g.2, _, _, Nat.le_refl _, by rw [G0]; exact hrl, by rw [midT0], by rw [G0]; rfl⟩, ?_, ?_⟩
  · rintro i g' sl hi ⟨c, x8, x9, hcc, hl, rfl, rfl⟩
    walk_at "ev"
    refine sxg_if (et_test (ev_op (ev_call (Compat.pure _) (ea_cons (fld_basin TC rfl ?_)))))
    walk_at "ev"
    refine ⟨X.b, X.b.rsite i, rfl, hb.ok.rs i hi, ?_⟩
    walk_at "ev"
    · rename_i h
      have hs : X.b.rsite i = k := by omega
      have e : G (i + 1) = (Hw.upd2 (G i).1 i m (Hw.parted (G i).2 (X.p.del i m)).1, (Hw.parted (G i).2 (X.p.del i m)).2) := by rw [GS]; exact if_pos hs
      have hl2 := Hw.parted_len (G i).2 (X.p.del i m)
      refine sxg_asgG (ev_call (Compat.pure _) ?_)
      walk_at "ev"
      refine ⟨(G i).2, X.p.del i m, rfl, by omega, ?_⟩
      refine gxg_tup rfl (gxsg_cons (gxg_dict (i := 0) (by decide) (by show c < 100000; omega) (fld_given TC rfl ⟨rfl, ?_⟩)))
      walk_at "ev"
      refine ⟨i, m, rfl, gxsg_cons (gxg_name (gxsg_nil ⟨c + 1, .dat (.int i), .dat (dRight X.b i), by omega, ?_, ?_, ?_⟩))⟩
      · rw [e]; exact Nat.le_trans hl2.2 hl
      · rw [e]; exact midT_put hs
      · rw [e]; rfl
    · rename_i h
      have hs : X.b.rsite i ≠ k := by omega
      have e : G (i + 1) = G i := by rw [GS]; exact if_neg hs
      refine sxg_next ⟨c, .dat (.int i), .dat (dRight X.b i), by omega, ?_, ?_, ?_⟩
      · rw [e]; exact hl
      · rw [e, midT_skip hs]
      · rw [e]; rfl
  · rintro g' sl ⟨c, x8, x9, hcc, hl, rfl, rfl⟩
    have hl2 := Hw.parted_len (G X.b.nr).2 (X.p.rel k m)
    refine sxg_seq (sxg_asgG (ev_call (Compat.pure _) ?_))
    walk_at "ev"
    refine ⟨(G X.b.nr).2, X.p.rel k m, rfl, by omega, ?_⟩
    refine gxg_tup rfl (gxsg_cons (gxg_dict (i := 1) (by decide) (by show c < 100000; omega) (fld_let TC rfl ⟨rfl, ?_⟩)))
    walk_at "ev"
    refine ⟨k, m, rfl, gxsg_cons (gxg_name (gxsg_nil ?_))⟩
    refine sxg_asgG (ev_call (Compat.pure _) ?_)
    walk_at "ev"
    refine ⟨_, X.p.sto k m, rfl, by omega, ?_⟩
    refine gxg_tup rfl (gxsg_cons (gxg_dict (i := 2) (by decide) (by show c + 1 < 100000; omega) (fld_stored TC rfl ⟨rfl, ?_⟩)))
    walk_at "ev"
    refine ⟨k, m, rfl, gxsg_cons (gxg_dict (i := 3) (by decide) (by show c + 1 + 1 < 100000; omega) (fld_spilled TC rfl ⟨rfl, ?_⟩))⟩
    walk_at "ev"
    refine ⟨k, m, rfl, gxsg_nil ?_⟩
    have es : Hw.step X.b X.p s (k, m) = ⟨(G X.b.nr).1, Hw.upd2 s.letw k m (Hw.parted (G X.b.nr).2 (X.p.rel k m)).1, Hw.upd2 s.stored k m (Hw.parted (Hw.parted (G X.b.nr).2 (X.p.rel k m)).2 (X.p.sto k m)).1, Hw.upd2 s.spilled k m (Hw.parted (Hw.parted (G X.b.nr).2 (X.p.rel k m)).2 (X.p.sto k m)).2⟩ := by
      rw [hG, ← hG0]; rfl
    rw [mid_tr (s' := Hw.step X.b X.p s (k, m)) (by rw [es]) (by rw [es]; exact Hw.upd2_same ..) (by rw [es]; exact Hw.upd2_same ..) (by rw [es]; exact Hw.upd2_same ..)]
    exact q _ (by omega)

/-! ## D13 -/
/-! ### what __init__ lays -/
def sp_init (C : Addr) : Sp := fun vs H Q _ => ∃ (x dx : Addr) (vb vr vp : V), vs = [.ref x, vb, vr, vp] ∧ H x = some (.ins C dx []) ∧ ∀ (H' : Hp) (a : Nat → Addr), (∀ y o, H y = some o → y ≠ x → H' y = some o) → H' x = some (.ins C dx (fs7 vb vr vp a)) →
  (∀ i, i < 4 → H (a i) = none ∧ H' (a i) = some (.dT [])) → (∀ i j, i < 4 → j < 4 → a i = a j → i = j) → Q .non H'
structure Ini (H : Hp) (x C dx : Addr) (H' : Hp) (fs : List (Str × V)) (as : List Addr) : Prop where
  old : ∀ y o, H y = some o → y ≠ x → H' y = some o
  at_ : H' x = some (.ins C dx fs)
  new : ∀ a ∈ as, H a = none ∧ H' a = some (.dT [])
  nd : as.Nodup
section
variable {H : Hp} {x C dx : Addr} {H' : Hp} {fs : List (Str × V)} {as : List Addr} {σ : L2.St} {Dn : Ends} {f : Str}
theorem Ini.fld (h : Ini H x C dx H' fs as) (hx : H x ≠ none) (fs' : List (Str × V)) : Ini H x C dx (upd H' x (.ins C dx fs')) fs' as :=
  ⟨fun y o e n => (upd_ne n).trans (h.old y o e n), upd_same, fun a ha => ⟨(h.new a ha).1, (upd_ne (show a ≠ x from fun z => hx (z ▸ (h.new a ha).1))).trans (h.new a ha).2⟩, h.nd⟩
theorem Ini.dct (h : Ini H x C dx H' fs as) {p : Addr} (hp : H' p = none) (hx : H x ≠ none) : Ini H x C dx (upd H' p (.dT [])) fs (as ++ [p]) := by
  have px : p ≠ x := fun z => by rw [z, h.at_] at hp; cases hp
  refine ⟨fun y o e n => (upd_ne (fun z => by rw [← z, h.old y o e n] at hp; cases hp)).trans (h.old y o e n), (upd_ne (Ne.symm px)).trans h.at_, fun a ha => ?_, ?_⟩
  · rcases List.mem_append.mp ha with ha | ha
    · refine ⟨(h.new a ha).1, (upd_ne (fun z => ?_)).trans (h.new a ha).2⟩
      rw [← z, (h.new a ha).2] at hp; cases hp
    · rw [List.mem_singleton] at ha
      subst ha
      refine ⟨?_, upd_same⟩
      cases e : H a with
      | none => rfl
      | some o => rw [h.old a o e px] at hp; cases hp
  · rw [List.nodup_append]
    refine ⟨h.nd, by simp, fun a ha b hb => ?_⟩
    rw [List.mem_singleton] at hb
    subst hb
    rintro rfl
    rw [(h.new a ha).2] at hp; cases hp
theorem ini_fld {i : Nat} {v : V} (cl : Cls K C) (na : NoAttr K C f) (hi : σ[i]? = some (some v)) (h0 : σ[0]? = some (some (.ref x))) (hx : H' x = some (.ins C dx fs)) (hl : fs.length < 1000) (k : Dn.nx σ (upd H' x (.ins C dx (putF f v fs)))) : sFld K (tVar 0) (tVar i) f Dn σ H' :=
  ⟨v, hi, .ref x, h0, x, C, dx, fs, rfl, hx, cl, na, hl, k⟩
theorem ini_dct (cl : Cls K C) (na : NoAttr K C f) (h0 : σ[0]? = some (some (.ref x))) (hx : H' x = some (.ins C dx fs)) (hl : fs.length < 1000) (k : ∀ p, H' p = none → Dn.nx σ (upd (upd H' p (.dT [])) x (.ins C dx (putF f (.ref p) fs)))) : sFld K (tVar 0) tDNewT f Dn σ H' := by
  intro p hp
  exact ⟨.ref x, h0, x, C, dx, fs, rfl, (upd_ne (fun z => by rw [← z, hx] at hp; cases hp)).trans hx, cl, na, hl, k p hp⟩
end
abbrev N_init : List Str := ["self", "basin", "rights", "plan"]
theorem sc_init : FnScope N_init ["self", "basin", "rights", "plan"] (defScope s_init) := ⟨rfl, rfl, rfl, by decide +kernel, rfl, by decide +kernel, by decide +kernel⟩
theorem ok_init (T : Txt mg) {C : Addr} (TC : TrCls K mg C) (F : FunAtI K C "__init__" "Tracing.__init__" s_init ["self", "basin", "rights", "plan"]) : HasI P w K mg base C 1 ["self", "basin", "rights", "plan"] (sp_init C) := by
  obtain ⟨f, fd, F, hm, hb⟩ := F.ex
  refine ⟨f, fd, F.ok sc_init (fun vs H Q E h => ?_) fun cdv A outer s H vs Q E hr h => ⟨_, (pss_cons (ps_fld (pv 0) (pv 1) rfl)
  (pss_cons (ps_fld (pv 0) (pv 2) rfl)
  (pss_cons (ps_fld (pv 0) (pv 3) rfl)
  (pss_cons (ps_fld (pv 0) pe_dnewT rfl)
  (pss_cons (ps_fld (pv 0) pe_dnewT rfl)
  (pss_cons (ps_fld (pv 0) pe_dnewT rfl)
  (pss_one (ps_fld (pv 0) pe_dnewT rfl)))))))), ?_⟩, hm, hb⟩
  · obtain ⟨x, dx, vb, vr, vp, rfl, _⟩ := h; rfl
  obtain ⟨x, dx, vb, vr, vp, rfl, hx, k⟩ := h
  have hx' : H x ≠ none := by rw [hx]; simp
  have i0 : Ini H x C dx H [] [] := ⟨fun y o e _ => e, hx, fun a ha => (by cases ha), .nil⟩
  refine ini_fld TC.cls TC.n1 rfl rfl i0.at_ (Nat.le_of_ble_eq_true rfl) ?_
  have i1 := i0.fld hx' (putF "basin" vb [])
  refine ini_fld TC.cls TC.n2 rfl rfl i1.at_ (Nat.le_of_ble_eq_true rfl) ?_
  have i2 := i1.fld hx' (putF "rights" vr (putF "basin" vb []))
  refine ini_fld TC.cls TC.n3 rfl rfl i2.at_ (Nat.le_of_ble_eq_true rfl) ?_
  have i3 := i2.fld hx' (putF "plan" vp (putF "rights" vr (putF "basin" vb [])))
  refine ini_dct TC.cls TC.n4 rfl i3.at_ (Nat.le_of_ble_eq_true rfl) fun p0 h0 => ?_
  have i4 := (i3.dct h0 hx').fld hx' (putF "given" (.ref p0) (putF "plan" vp (putF "rights" vr (putF "basin" vb []))))
  refine ini_dct TC.cls TC.n5 rfl i4.at_ (Nat.le_of_ble_eq_true rfl) fun p1 h1 => ?_
  have i5 := (i4.dct h1 hx').fld hx' (putF "let" (.ref p1) (putF "given" (.ref p0) (putF "plan" vp (putF "rights" vr (putF "basin" vb [])))))
  refine ini_dct TC.cls TC.n6 rfl i5.at_ (Nat.le_of_ble_eq_true rfl) fun p2 h2 => ?_
  have i6 := (i5.dct h2 hx').fld hx' (putF "stored" (.ref p2) (putF "let" (.ref p1) (putF "given" (.ref p0) (putF "plan" vp (putF "rights" vr (putF "basin" vb []))))))
  refine ini_dct TC.cls TC.n7 rfl i6.at_ (Nat.le_of_ble_eq_true rfl) fun p3 h3 => ?_
  have i7 := (i6.dct h3 hx').fld hx' (putF "spilled" (.ref p3) (putF "stored" (.ref p2) (putF "let" (.ref p1) (putF "given" (.ref p0) (putF "plan" vp (putF "rights" vr (putF "basin" vb [])))))))
  have nd := i7.nd
  refine k _ (fun i => [p0, p1, p2, p3].getD i 0) i7.old i7.at_ (fun i hi => ?_) fun i j hi hj e => ?_
  · match i, hi with
    | 0, _ => exact i7.new p0 (by simp)
    | 1, _ => exact i7.new p1 (by simp)
    | 2, _ => exact i7.new p2 (by simp)
    | 3, _ => exact i7.new p3 (by simp)
  · simp only [List.nil_append, List.cons_append] at nd
    exact (List.getElem_inj (xs := [p0, p1, p2, p3]) (h₀ := hi) (h₁ := hj) nd).mp (by
      have e1 : [p0, p1, p2, p3].getD i 0 = [p0, p1, p2, p3][i] := by simp [hi]
      have e2 : [p0, p1, p2, p3].getD j 0 = [p0, p1, p2, p3][j] := by simp [hj]
      rw [← e1, ← e2]; exact e)
abbrev N_tuples : List Str := ["rows", "many", "months", "number", "month"]
theorem sc_tuples : FnScope N_tuples ["rows", "many", "months"] (defScope s_tuples) := ⟨rfl, rfl, rfl, by decide +kernel, rfl, by decide +kernel, by decide +kernel⟩
abbrev dTab (n M : Nat) (f : Nat → Nat → Hw.Row) : D := .tup ((List.range n).map fun k => .tup ((List.range M).map fun m => dRowT (f k m)))
def tt_tuples (z : Addr × (Nat → Nat → Option Hw.Row) × Nat) : List D → (D → Prop) → Prop := fun ds P => ∃ (n M : Nat) (f : Nat → Nat → Hw.Row), ds = [.raw (.ref z.1), .int n, .int M] ∧ n ≤ 4 ∧ M ≤ 4 ∧ (∀ k m, k < n → m < M → z.2.1 k m = some (f k m)) ∧ P (dTab n M f)
theorem ok_tuples (T : Txt mg) (F : FunAt K mg "tuples" s_tuples ["rows", "many", "months"]) : Has P w K mg base 1 "tuples" ["rows", "many", "months"] (spE rDc tt_tuples) := by
  refine has_ofE F sc_tuples (by rintro z ds P ⟨n, M, f, rfl, _⟩; rfl) fun f cdv A outer s H E hr => ⟨_, (pss_one (ps_ret (pe_callTy (tupq K) (by rfl) T.tuple (by decide +kernel) (pa_cons (pe_lc (own := [("number", 3)]) rfl sc_tuples.nd (pi_range1 rfl T.range (pa_cons (pv 1) pa_nil)) (blkOk_by (own := [("number", 3)]) (N := N_tuples) (sc := (defScope s_tuples)) (by decide +kernel)) (fun _ _ _ _ _ => (pg_name (i := 3) sc_tuples.nd rfl (Or.inr rfl))) (fun _ _ _ _ _ => pts_nil) (fun _ _ _ _ _ => (pe_callTy (tupq K) (by rfl) T.tuple (by decide +kernel) (pa_cons (pe_lc (own := [("month", 4)]) rfl sc_tuples.nd (pi_range1 rfl T.range (pa_cons (pv 2) pa_nil)) (blkOk_by (own := [("month", 4)]) (N := N_tuples) (sc := (relS ({ kind := .function, names := [(PySem.Str.ofString ".0", .local), (PySem.Str.ofString "number", .cell), (PySem.Str.ofString "tuple", .globalImplicit), (PySem.Str.ofString "range", .globalImplicit), (PySem.Str.ofString "months", .free), (PySem.Str.ofString "rows", .free)], isGenerator := false, isCoroutine := false, more := [] : PySem.Scope }) (defScope s_tuples))) (by decide +kernel)) (fun _ _ _ _ _ => (pg_name (i := 4) sc_tuples.nd rfl (Or.inl rfl))) (fun _ _ _ _ _ => pts_nil) (fun _ _ _ _ _ => (pe_callTy (tupq K) (by rfl) T.tuple (by decide +kernel) (pa_cons (pe_dget (hu_of hr) (pv 0) (pe_tup (pa_cons (pv 3) (pa_cons (pv 4) pa_nil))) (fun _ _ => rfl)) pa_nil)))) pa_nil)))) pa_nil)))), ?_⟩
  rintro z ds Pd ⟨n, M, f, rfl, hn, hM, hf, q⟩
  walk_at "ev"
  refine ev_lc (wk_rng1 ?_)
  walk_at "ev"
  refine ⟨n, rfl, by omega, by omega, fun i acc => acc = (List.range i).map fun k => .tup ((List.range M).map fun m => dRowT (f k m)), rfl, ?_, ?_⟩
  · rintro k acc hk _ rfl
    refine cg_name (by decide) ?_
    walk_at "ev"
    refine ev_lc (wk_rng1 ?_)
    walk_at "ev"
    refine ⟨M, rfl, by omega, by omega, fun i acc => acc = (List.range i).map fun m => dRowT (f k m), rfl, ?_, ?_⟩
    · rintro m acc hm _ rfl
      refine cg_name (by decide) ?_
      walk_at "ev"
      refine ev_dgetD (z := z) (fun B H j => j) ?_
      walk_at "ev"
      refine ⟨rfl, ?_⟩
      walk_at "ev"
      refine ⟨k, m, _, rfl, hf k m hk hm, ?_⟩
      walk_at "ev"
      dsimp only
      rw [List.range_succ, List.map_append]; rfl
    · rintro acc rfl
      walk_at "ev"
      dsimp only
      rw [List.range_succ, List.map_append]; rfl
  · rintro acc rfl
    walk_at "ev"
    exact q

/-! ## D14 -/
section
variable {C : Addr} {sl : List Sl} {N : Post} {u : TS} {ta : TA} {i k : Nat} {γ : Type} {r r' : Res} {R : γ → Res} {g : γ}
/-- Tracing(..) -/
theorem sxe_make (hs : ∀ s ∈ sl, s.addr = none) (h : EvA r0 ta sl fun ds => ∃ (b : Hw.B) (p : Hw.P), ds = [dB b, dRs b, dP b p] ∧ ∀ X : Tr, X.b = b → X.p = p → X.Ok → SxE r0 (rTr C X) (fun _ _ _ => none, 0) u (sl.set i (.dat (.raw (.ref X.self)))) N) :
    SxE r0 (fun _ : Unit => r0) () (tSeq (tAsg (tMake C (sp_init C) [] E0 ta) (gName i)) u) sl N := fun B0 H0 B H σ Dn a fr f =>
  h B H σ a.e _ fun vs B2 H2 ds g2 j2 rv ⟨b, p, hd, hX⟩ => by
    subst hd
    have a2 := a.grow g2 j2
    obtain ⟨vb, vr, vp, rfl, hb, hr, hp⟩ := rv.three
    refine fun x dx hx hdx hne => ⟨x, dx, vb, vr, vp, rfl, upd_same, fun H' a4 h1 h2 h3 h4 => ⟨rfl, ?_⟩⟩
    obtain ⟨X, hXe⟩ : ∃ X : Tr, X = ⟨b, p, x, dx, vb, vr, vp, a4⟩ := ⟨_, rfl⟩
    have bx : B2 x = none := none_of a2.e.sub hx
    have old : ∀ y o, H2 y = some o → H' y = some o := fun y o e => by
      have y1 : y ≠ x := fun z => by rw [z, hx] at e; cases e
      have y2 : y ≠ dx := fun z => by rw [z, hdx] at e; cases e
      exact h1 y o (by rw [upd_ne y1, upd_ne y2]; exact e) y1
    have new : ∀ i, i < 4 → H2 (a4 i) = none ∧ a4 i ≠ x := fun i hi => by
      have e := (h3 i hi).1
      have y1 : a4 i ≠ x := fun z => by rw [z, upd_same] at e; cases e
      have y2 : a4 i ≠ dx := fun z => by rw [upd_ne y1, z, upd_same] at e; cases e
      rw [upd_ne y1, upd_ne y2] at e
      exact ⟨e, y1⟩
    have sb : Sub B2 (upd B2 x (.ins C dx (fs7 vb vr vp a4))) := Sub.upd bx
    have G : Grow (fun _ => False) B2 H2 (upd B2 x (.ins C dx (fs7 vb vr vp a4))) H' := by
      refine ⟨sb, fun y o e _ => old y o e, fun y hy => ?_, fun y o e => ?_, fun y hy => upd_ne fun z => hy (z ▸ hx)⟩
      · obtain ⟨o, e⟩ := Option.ne_none_iff_exists'.mp hy
        rw [old y o e]; simp
      · by_cases z : y = x
        · subst z; rw [upd_same] at e; cases e; exact h2
        · rw [upd_ne z] at e; exact old y o (a2.e.sub y o e)
    have a3 : At r0 B0 H0 _ H' σ sl := a2.grow (r := r0) G trivial
    have j5 : (rTr C X (fun _ _ _ => none, 0)).J (upd B2 x (.ins C dx (fs7 vb vr vp a4))) H' := by
      subst hXe
      exact ⟨upd_same, hb.mono sb, hr.mono sb, hp.mono sb, ⟨h4⟩, fun i hi => ⟨[], (h3 i hi).2, Nat.le_refl 0, fun k m row e => by cases e⟩⟩
    have mb : ∀ y, (rTr C X (fun _ _ _ => none, 0)).M y → (upd B2 x (.ins C dx (fs7 vb vr vp a4))) y = none := by
      subst hXe
      rintro y ⟨i, hi, rfl⟩
      exact (upd_ne (new i hi).2).trans (none_of a2.e.sub (new i hi).1)
    have mt : ∀ y, (rTr C X (fun _ _ _ => none, 0)).M y → H' y ≠ none := by
      subst hXe
      rintro y ⟨i, hi, rfl⟩
      rw [show H' (a4 i) = _ from (h3 i hi).2]; simp
    have a5 : At (rTr C X (fun _ _ _ => none, 0)) B0 H0 _ H' σ sl := ⟨a3.e.more hs mb mt j5, a3.own, a3.g.mono fun _ z => z.elim⟩
    have gap : Fr r0 (rTr C X (fun _ _ _ => none, 0)) H0 := by
      subst hXe
      rintro y ⟨i, hi, rfl⟩
      exact .inr (a2.fresh (new i hi).1)
    have fin := hX X (by rw [hXe]) (by rw [hXe]) ⟨by rw [hXe]; exact h4⟩ B0 H0 _ H' _ Dn (a5.setD i (v := .ref X.self) (d := .raw (.ref X.self)) rfl) gap f
    rw [show (V.ref x) = V.ref X.self by rw [hXe]]
    exact fin
/-- .. with a table besides -/
def rPlus (r : Res) (z : Addr × (Nat → Nat → Option Hw.Row) × Nat) : Res := ⟨fun x => r.M x ∨ x = z.1, fun B H => r.J B H ∧ DAt B H z.1 z.2.1 z.2.2,
  fun B H B2 H2 ⟨j1, j2⟩ s m => ⟨r.st B H B2 H2 j1 s fun a o ma e => m a o (.inl ma) e, j2.mono s (fun o e => m _ o (.inr rfl) e) (Nat.le_refl _)⟩⟩
theorem plus_l {c : Res} {z : Addr × (Nat → Nat → Option Hw.Row) × Nat} (k : Compat r c) (hz : ¬ c.M z.1) : Compat (rPlus r z) c :=
  ⟨fun a m => .inl (k.m a m), fun B H j => k.j B H j.1, fun B H B2 H2 j cj gr => ⟨k.back B H B2 H2 j.1 cj gr, j.2.mono gr.b (fun o e => gr.h _ o e hz) (Nat.le_refl _)⟩⟩
theorem plus_r {z : Addr × (Nat → Nat → Option Hw.Row) × Nat} (hz : ¬ r.M z.1) : Compat (rPlus r z) (rDc z) :=
  ⟨fun a m => .inr m, fun B H j => j.2, fun B H B2 H2 j cj gr => ⟨r.st B H B2 H2 j.1 gr.b fun a o ma e => gr.h a o e fun q => hz ((show a = z.1 from q) ▸ ma), cj⟩⟩
/-- {cell: row for ..} -/
theorem sxe_dct {wi : TI} {tk tv : TE} {vs : List Nat} {G : Nat → Nat → Hw.Row} (hk : k ∈ vs) (hs : ∀ s ∈ sl, s.addr = none)
    (h : WkD r' wi sl fun n f => n ≤ 50000 ∧ ∃ c : Nat → Nat × Nat, (∀ j, j < n → EvP r' tk ((wipeS sl vs).set k (.dat (f j))) fun d => d = dCell (c j) ∧ EvP r' tv ((wipeS sl vs).set k (.dat (f j))) fun d => d = dPs (G (c j).1 (c j).2)) ∧
      ∀ (Dl : Addr) (F : Nat → Nat → Option Hw.Row), ¬ r'.M Dl → (∀ j, j < n → F (c j).1 (c j).2 = some (G (c j).1 (c j).2)) → SxE r (fun _ : Unit => rPlus r' (Dl, F, n)) () u (sl.set i (.dat (.raw (.ref Dl)))) N) :
    SxE r (fun _ : Unit => r') () (tSeq (tAsg (tDcT wi (gName k) tYes tk tv vs) (gName i)) u) sl N := fun B0 H0 B H σ Dn a0 fr f => by
  refine h B H σ a0.e _ fun J B2 H2 n it g2 j ⟨hn, c, hf, hc⟩ w => fun Dl hD => ?_
  have a2 := a0.grow g2 j
  have e2 := a2.e.wipe vs
  have ap := e2.apart hD
  have mD : ¬ r'.M Dl := fun m => e2.mt Dl m hD
  have bD : B2 Dl = none := none_of e2.sub hD
  have F0 : ∀ i, ∃ F : Nat → Nat → Option Hw.Row, ∀ a m row, F a m = some row ↔ (∃ j, j < i ∧ c j = (a, m)) ∧ row = G a m := fun i => by
    classical
    refine ⟨fun a m => if ∃ j, j < i ∧ c j = (a, m) then some (G a m) else none, fun a m row => ?_⟩
    by_cases z : ∃ j, j < i ∧ c j = (a, m)
    · simp only [if_pos z, Option.some.injEq]
      exact ⟨fun e => ⟨z, e.symm⟩, fun e => e.2.symm⟩
    · simp only [if_neg z]
      exact ⟨fun e => (by cases e), fun e => absurd e.1 z⟩
  obtain ⟨F, hF⟩ : ∃ F : Nat → Nat → Nat → Option Hw.Row, ∀ i a m row, F i a m = some row ↔ (∃ j, j < i ∧ c j = (a, m)) ∧ row = G a m := ⟨fun i => Classical.choose (F0 i), fun i => Classical.choose_spec (F0 i)⟩
  refine ⟨fun i m H => m = n - i ∧ i ≤ n ∧ ∃ B, EnvOk r' B H (L2.wipe σ vs) (wipeS sl vs) ∧ Grow (fun a => r'.M a ∨ a = Dl) B2 H2 B H ∧ B Dl = none ∧ DAt B H Dl (F i) i,
    ⟨n, rfl, Nat.zero_le _, B2, e2.setH bD mD ap, Grow.fresh e2.sub hD, bD, [], upd_same, Nat.le_refl 0, fun a m row e => ?_⟩, ?_⟩
  · obtain ⟨⟨j, hj, _⟩, _⟩ := (hF 0 a m row).mp e
    omega
  rintro i' m H3 ⟨rfl, hi, B3, e3, g3, b3, kvs, k1, k2', k3⟩
  have s3 : Sub B2 H3 := g3.b.trans e3.sub
  by_cases hlt : i' < n
  · refine .inr ⟨w.goes i' H3 hlt s3, fun H => ∃ B, EnvOk r' B H (L2.wipe σ vs) (wipeS sl vs) ∧ Grow (fun a => r'.M a ∨ a = Dl) B2 H2 B H ∧ B Dl = none ∧ DAt B H Dl (F (i' + 1)) (i' + 1),
      fun H' z => ⟨n - (i' + 1), by omega, rfl, hlt, z⟩, fun x H4 y => ?_⟩
    obtain ⟨B4, g4, rx⟩ := w.gives i' H3 x H4 hlt s3 y B3 g3.b e3.sub
    have e4 := e3.grow (g4.mono fun _ z => z.elim) (r'.st _ _ _ _ e3.J g4.b fun b o m e => g4.h b o e fun z => z)
    have h4 : H4 Dl = some (.dT kvs) := g4.h _ _ k1 fun z => z
    have b4 : B4 Dl = none := (g4.n Dl (by rw [k1]; simp)).trans b3
    refine ⟨(wipe_set hk _).trans (wipe_wipe σ vs), ?_⟩
    simp only [tYes, ↓reduceIte]
    have e5 := e4.setD k rx
    obtain ⟨p1⟩ : Nonempty True := ⟨trivial⟩
    refine hf i' hlt B4 H4 _ e5 _ fun y B6 H6 d6 g6 j6 ry ⟨hy, p6⟩ => p6 B6 H6 _ (e5.grow g6 j6) _ fun z B7 H7 d7 g7 j7 rz hz => ?_
    subst hy hz
    obtain ⟨b, rfl, hb⟩ := cell_at (k := (c i').1) (m := (c i').2) ry
    have h6 : H6 Dl = some (.dT kvs) := g6.h _ _ h4 mD
    have b6 : B6 Dl = none := (g6.n Dl (by rw [h4]; simp)).trans b4
    have h7 : H7 Dl = some (.dT kvs) := g7.h _ _ h6 mD
    have b7 : B7 Dl = none := (g7.n Dl (by rw [h6]; simp)).trans b6
    have e7 := (e4.grow g6 j6).grow g7 j7
    have G7 := ((g3.trans (g4.mono fun _ z => z.elim)).trans (g6.mono fun _ z => .inl z)).trans (g7.mono (M' := fun a => r'.M a ∨ a = Dl) fun _ z => .inl z)
    refine ⟨kvs, k2 (c i').1 (c i').2, b, rfl, g7.k _ _ (g7.b _ _ hb), h7, Nat.lt_of_le_of_lt (show kvs.length ≤ 50000 by omega) (by decide), B7, e7.setH b7 mD ap, grow_beside G7 b7, b7, _, upd_same, ?_, fun a m row er => ?_⟩
    · have := length_putK kvs (k2 (c i').1 (c i').2) z
      exact Nat.le_trans this (by omega)
    · obtain ⟨⟨j, hj, ej⟩, rfl⟩ := (hF (i' + 1) a m row).mp er
      rw [valV_put]
      by_cases zz : a = (c i').1 ∧ m = (c i').2
      · obtain ⟨rfl, rfl⟩ := zz
        exact ⟨z, if_pos rfl, rz⟩
      · rw [if_neg (fun q => zz (k2_inj.mp q))]
        have hj' : j < i' := by
          rcases Nat.lt_or_ge j i' with q | q
          · exact q
          · exfalso
            rw [show j = i' by omega] at ej
            exact zz (by rw [ej]; exact ⟨rfl, rfl⟩)
        obtain ⟨v, f1, f2⟩ := k3 a m (G a m) ((hF i' a m _).mpr ⟨⟨j, hj', ej⟩, rfl⟩)
        exact ⟨v, f1, ((f2.mono g4.b).mono g6.b).mono g7.b⟩
  · have ei : i' = n := by omega
    subst ei
    refine .inl ⟨w.stops H3 s3, ?_⟩
    have a3 : At r' B0 H0 B3 H3 σ sl := by
      have eσ := a2.e
      have G3 : Grow (fun a => r'.M a ∨ a = Dl) B2 H2 B3 H3 := g3
      have G4 : Grow r'.M B2 H2 B3 H3 := G3.less fun x m => m.elim .inl fun q => .inr (q ▸ hD)
      exact a2.grow G4 e3.J
    have e5 : EnvOk (rPlus r' (Dl, F i', i')) B3 H3 σ sl := a3.e.more hs (fun x m => m.elim (a3.e.mb x) fun q => by rw [show x = Dl from q]; exact b3) (fun x m => m.elim (a3.e.mt x) fun q => by rw [show x = Dl from q, k1]; simp) ⟨a3.e.J, kvs, k1, k2', k3⟩
    have a5 : At (rPlus r' (Dl, F i', i')) B0 H0 B3 H3 σ sl := ⟨e5, a3.own, a3.g.mono fun x m => .inl m⟩
    refine hc Dl (F i') mD (fun j hj => (hF i' _ _ _).mpr ⟨⟨j, hj, rfl⟩, rfl⟩) B0 H0 B3 H3 _ Dn (a5.setD i (v := .ref Dl) (d := .raw (.ref Dl)) rfl) (fun x m => ?_) f
    rcases m with m | m
    · exact fr x m
    · exact .inr (by rw [show x = Dl from m]; exact a2.fresh hD)
end

/-! ## D15 -/
theorem sxe_fix {γ : Type} {r : Res} {R : γ → Res} {g : γ} {t : TS} {sl : List Sl} {N : Post} (h : SxE r (fun _ : Unit => R g) () t sl N) : SxE r R g t sl N := h
theorem ev_fldR {C : Addr} {X : Tr} {g : Tab × Nat} {sl : List Sl} {Pd : D → Prop} {i : Nat} {r : Res} (hr : ∀ B H, r.J B H → (rTr C X g).J B H) {f : Str} {v : V} {d : D} (cl : TrCls K mg C) (na : NoAttr K C f) (hi : sl[i]? = some (.dat (.raw (.ref X.self)))) (hv : (fs7 X.vb X.vr X.vp X.a).lookup f = some v)
    (hd : ∀ B H, (rTr C X g).J B H → R B v d) (p : Pd d) : EvP r (tFld K (tVar i) f) sl Pd := fun B H σ e Q q => by
  obtain ⟨o, e1, u, rfl, ru⟩ := e.at_ i _ hi
  cases (show u = .ref X.self from ru)
  have j := hr B H e.J
  exact ⟨_, e1, X.self, C, X.dx, _, v, rfl, e.sub _ _ j.1, cl.cls, na, hv, q v B H d (.refl e.sub) e.J (hd B H j) p⟩
theorem lost_eq {b : Hw.B} {s : Hw.St} : (fun k m => if Hw.letTo b k m = none then s.letw k m else []) = Hw.lostAt b s b.months := by
  funext k m
  unfold Hw.lostAt
  by_cases h : Hw.letTo b k m = none
  · rw [if_pos h, if_pos (Hw.letTo_none.mp h)]
  · rw [if_neg h, if_neg (fun z => h (Hw.letTo_none.mpr z))]
theorem ix_lt {n m k M : Nat} (hk : k < n) (hm : m < M) : m * n + k < M * n := by
  have := Nat.mul_le_mul_right n (show m + 1 ≤ M by omega)
  rw [Nat.succ_mul] at this
  omega
abbrev N_parcels : List Str := ["basin", "rights", "plan", "tracing", "cell", "months", "sites", "lost", "given", "stored", "number"]
theorem sc_parcels : FnScope N_parcels ["basin", "rights", "plan"] (defScope s_parcels) := ⟨rfl, rfl, rfl, by decide +kernel, rfl, by decide +kernel, by decide +kernel⟩
abbrev dTold (b : Hw.B) (s : Hw.St) (M : Nat) : D := .tup [dTab b.nr M s.given, .tup ((List.range b.n).map fun k => dRowT (s.stored k (M - 1))), dTab b.n M s.spilled, dTab b.n M (Hw.lostAt b s M)]
def tt_parcels : List D → (D → Prop) → Prop := fun ds P => ∃ (b : Hw.B) (p : Hw.P), ds = [dB b, dRs b, dP b p] ∧ Good b ∧ Hw.RightP b p ∧ b.n ≤ 3 ∧ P (dTold b (Hw.run b p b.months) b.months)
theorem ok_parcels (T : Txt mg) {C : Addr} (TC : TrCls K mg C) (F : FunAt K mg "parcels" s_parcels ["basin", "rights", "plan"]) (h_plan_fault : Has P w K mg base 8 "plan_fault" ["basin", "rights", "plan"] (spD r0 tt_plan_fault))
    (h_init : HasI P w K mg base C 1 ["self", "basin", "rights", "plan"] (sp_init C)) (h_cells : Has P w K mg base 1 "cells" ["basin"] (spD r0 tt_cells)) (h_trace : HasM P w K mg base C 5 "trace" ["self", "cell"] (spG (rTr C) (tt_trace C)))
    (h_lost : HasM P w K mg base C 3 "lost" ["self", "cell"] (spE (rTc C) tt_lost)) (h_tuples : Has P w K mg base 1 "tuples" ["rows", "many", "months"] (spE rDc tt_tuples)) : Has P w K mg base 9 "parcels" ["basin", "rights", "plan"] (spD r0 tt_parcels) := by
  refine has_of F sc_parcels (by rintro ds P ⟨b, p, rfl, _⟩; rfl) fun f cdv A outer s H E hr => ⟨_, (pss_cons (ps_if (pt_cmpR op_notN1 (pe_has h_plan_fault (hr.mono (by decide)) rfl (pa_cons (pv 0) (pa_cons (pv 1) (pa_cons (pv 2) pa_nil)))) pe_non (nomark _)) (pss_one ps_never) pss_nil)
  (pss_cons (ps_set (i := 3) sc_parcels.nd rfl (Or.inr rfl) (pe_mk TC h_init (hr.mono (by decide)) rfl (pa_cons (pv 0) (pa_cons (pv 1) (pa_cons (pv 2) pa_nil)))))
  (pss_cons (ps_for PassesOwn.never rfl (pi_listq K (pe_has h_cells (hr.mono (by decide)) rfl (pa_cons (pv 0) pa_nil))) (pg_name (i := 4) sc_parcels.nd rfl (Or.inl rfl)) (pss_one (ps_expr (pe_hasM TC h_trace (hr.mono (by decide)) (pv 3) (pa_cons (pv 4) pa_nil)))))
  (pss_cons (ps_asg (pv 0) (pg_tupq K 2 rfl (pgs_cons (pg_name (i := 5) sc_parcels.nd rfl (Or.inr rfl)) (pgs_cons (pg_name (i := 6) sc_parcels.nd rfl (Or.inl rfl)) pgs_nil))))
  (pss_cons (ps_setDcT (i := 7) (own := [("cell", 4)]) (Nat.lt_of_succ_lt (hu_of hr)) rfl sc_parcels.nd rfl rfl (swD_true rfl rfl rfl (by decide +kernel)) (pi_listq K (pe_has h_cells (hr.mono (by decide)) rfl (pa_cons (pv 0) pa_nil))) (blkOk_by (own := [("cell", 4)]) (N := N_parcels) (sc := (defScope s_parcels)) (by decide +kernel)) (fun _ _ _ _ _ => (pg_name (i := 4) sc_parcels.nd rfl (Or.inl rfl))) (fun _ _ _ _ _ => pts_nil) (fun _ _ _ _ _ => (pv 4)) (fun _ _ _ _ _ => (pe_hasM TC h_lost (hr.mono (by decide)) (pv 3) (pa_cons (pv 4) pa_nil))))
  (pss_cons (ps_set (i := 8) sc_parcels.nd rfl (Or.inl rfl) (pe_has h_tuples (hr.mono (by decide)) rfl (pa_cons (pe_fldq K (pv 3) rfl) (pa_cons (pe_callB (lenq K) (by rfl) T.len (by decide +kernel) (pa_cons (pv 1) pa_nil)) (pa_cons (pv 5) pa_nil)))))
  (pss_cons (ps_set (i := 9) sc_parcels.nd rfl (Or.inl rfl) (pe_callTy (tupq K) (by rfl) T.tuple (by decide +kernel) (pa_cons (pe_lc (own := [("number", 10)]) rfl sc_parcels.nd (pi_range1 rfl T.range (pa_cons (pe_callB (lenq K) (by rfl) T.len (by decide +kernel) (pa_cons (pv 6) pa_nil)) pa_nil)) (blkOk_by (own := [("number", 10)]) (N := N_parcels) (sc := (defScope s_parcels)) (by decide +kernel)) (fun _ _ _ _ _ => (pg_name (i := 10) sc_parcels.nd rfl (Or.inl rfl))) (fun _ _ _ _ _ => pts_nil) (fun _ _ _ _ _ => (pe_callTy (tupq K) (by rfl) T.tuple (by decide +kernel) (pa_cons (pe_dget (hu_of hr) (pe_fldq K (pv 3) rfl) (pe_tup (pa_cons (pv 10) (pa_cons (pe_op op_sub (pv 5) pe_int) pa_nil))) (fun _ _ => rfl)) pa_nil)))) pa_nil)))
  (pss_one (ps_ret (pe_tup (pa_cons (pv 8) (pa_cons (pv 9) (pa_cons (pe_has h_tuples (hr.mono (by decide)) rfl (pa_cons (pe_fldq K (pv 3) rfl) (pa_cons (pe_callB (lenq K) (by rfl) T.len (by decide +kernel) (pa_cons (pv 6) pa_nil)) (pa_cons (pv 5) pa_nil)))) (pa_cons (pe_has h_tuples (hr.mono (by decide)) rfl (pa_cons (pv 7) (pa_cons (pe_callB (lenq K) (by rfl) T.len (by decide +kernel) (pa_cons (pv 6) pa_nil)) (pa_cons (pv 5) pa_nil)))) pa_nil)))))))))))))), ?_⟩
  rintro ds Pd ⟨b, p, rfl, hb, hp, hn, q⟩
  refine sx_cut (fun sl => sl = [.dat (dB b), .dat (dRs b), .dat (dP b p), .no, .no, .no, .no, .no, .no, .no, .no]) ?_ ?_
  · walk_at "ev"
    refine ev_call (Compat.pure _) ?_
    walk_at "ev"
    refine ⟨b, p, rfl, hb, hp, ?_⟩
    walk_at "ev"
    rfl
  rintro sl rfl
  refine sx_e (sxe_make (noOwn_of rfl) ?_)
  walk_at "ev"
  refine ⟨b, p, rfl, fun X hXb hXp okX => ?_⟩
  subst hXb hXp
  dsimp only [List.set]
  have hcl := Hw.cells_len X.b.n X.b.months
  have hM4 := hb.m4
  have h12 := Nat.mul_le_mul hM4 hn
  have n0 : 0 < X.b.n := hb.ok.n1
  refine sxe_seq (fun _ _ _ h => h) (sxg_for (fun _ _ _ h => h) (wk_list (ev_call (Compat.pure _) ?_)))
  walk_at "ev"
  refine ⟨X.b, rfl, hb, _, X.b.months * X.b.n, fun i => dC (i % X.b.n) (i / X.b.n), rfl, by simp [hcl], fun i hi => by rw [List.getElem?_map, Hw.cells_get _ _ _ hi]; rfl, fun i g sl => g.2 ≤ 8 * i ∧ Hw.Agr X.b g.1 (Hw.runI X.b X.p X.b.months i) i ∧
    ∃ x4, x4.addr = none ∧ sl = [.dat (dB X.b), .dat (dRs X.b), .dat (dP X.b X.p), .dat (.raw (.ref X.self)), x4, .no, .no, .no, .no, .no, .no], ⟨Nat.le_refl 0, ⟨fun k m _ h => absurd h (Nat.not_lt_zero _), fun k m _ h => absurd h (Nat.not_lt_zero _), fun k m _ h => absurd h (Nat.not_lt_zero _), fun k m r _ h => absurd h (Nat.not_lt_zero _)⟩, .no, rfl, rfl⟩, ?_, ?_⟩
  · rintro i g sl hi ⟨hg, ha, x4, hx4, rfl⟩
    have hk : i % X.b.n < X.b.n := Nat.mod_lt _ n0
    have hm : i / X.b.n < X.b.months := Nat.div_lt_of_lt_mul (by rw [Nat.mul_comm]; exact hi)
    have ei : i = (i / X.b.n) * X.b.n + i % X.b.n := (Nat.div_add_mod' i X.b.n).symm
    dsimp only
    generalize i % X.b.n = k at *
    generalize i / X.b.n = m at *
    subst ei
    have hlen := Hw.runI_len hb.ok hn X.p hM4 _ (Nat.le_of_lt hi)
    rw [Hw.runI_succ hi hk]
    generalize Hw.runI X.b X.p X.b.months (m * X.b.n + k) = st at *
    refine gx_name (sxg_meth rfl (by rfl) ?_)
    walk_at "ev"
    refine ⟨st, k, m, rfl, hb, hk, hm, fun h0 => ha.stored k (m - 1) hk ?_, fun f hf => ?_, ?_, hb.r4, by omega, fun c hc => ?_⟩
    · have : (m - 1 + 1) * X.b.n = (m - 1) * X.b.n + X.b.n := Nat.succ_mul _ _
      rw [show m - 1 + 1 = m by omega] at this
      omega
    · obtain ⟨f1, f2, f3, f4⟩ := Hw.mem_feeders.mp hf
      have hlt := (hb.ok.nextlt f.1 k f1 f2).1
      refine ha.letw f.1 f.2 f1 ?_
      have := Nat.mul_le_mul_right X.b.n (show f.2 ≤ m by omega)
      omega
    · exact Nat.le_trans (Hw.rowIn_len hb.ok hlen hk (by omega) (by omega)) (Nat.le_trans (Hw.lb_small (by omega) (by omega)) (by omega))
    · exact ⟨by dsimp only; omega, ha.step hk, .dat (dC k m), rfl, rfl⟩
  rintro g sl ⟨hg, ha, x4, hx4, rfl⟩
  rw [Hw.runI_all] at ha
  generalize Hw.run X.b X.p X.b.months = st at *
  refine sxe_fix (sxe_seq (fun _ _ _ h => h) (sxg_asg ?_))
  walk_at "ev"
  refine sxe_dct (G := Hw.lostAt X.b st X.b.months) (k := 4) (by decide) (noOwn_of (by simp [hx4, show ∀ d, (Sl.dat d).addr = none from fun _ => rfl, show Sl.no.addr = none from rfl])) (wk_list (ev_call (Compat.pure _) ?_))
  walk_at "ev"
  refine ⟨X.b, rfl, hb, _, X.b.months * X.b.n, fun i => dC (i % X.b.n) (i / X.b.n), rfl, by simp [hcl], fun i hi => by rw [List.getElem?_map, Hw.cells_get _ _ _ hi]; rfl, by omega, fun i => (i % X.b.n, i / X.b.n), fun j hj => ?_, fun Dl F hD hF => ?_⟩
  · have hk : j % X.b.n < X.b.n := Nat.mod_lt _ n0
    have hm : j / X.b.n < X.b.months := Nat.div_lt_of_lt_mul (by rw [Nat.mul_comm]; exact hj)
    refine ev_var _ rfl ⟨rfl, ev_meth rfl (by rfl) (X, g) (Compat.refl _) ?_⟩
    walk_at "ev"
    exact ⟨j % X.b.n, j / X.b.n, st.letw _ _, rfl, hb, hk, hm, ha.letw _ _ hk (ix_lt hk hm), congrArg dPs (congrFun (congrFun (lost_eq (b := X.b) (s := st)) (j % X.b.n)) (j / X.b.n))⟩
  have hF2 : ∀ k m, k < X.b.n → m < X.b.months → F k m = some (Hw.lostAt X.b st X.b.months k m) := fun k m hk hm => by
    have := hF (m * X.b.n + k) (ix_lt hk hm)
    dsimp only at this
    rw [show (m * X.b.n + k) % X.b.n = k by rw [Nat.mul_add_mod_self_right, Nat.mod_eq_of_lt hk], show (m * X.b.n + k) / X.b.n = m by rw [Nat.mul_comm m, Nat.mul_add_div n0, Nat.div_eq_of_lt hk]; rfl] at this
    exact this
  have hne : ∀ i, i < 4 → ¬ (rDc (X.a i, g.1 i, g.2)).M Dl := fun i hi z => hD ⟨i, hi, z⟩
  have hJ : ∀ B H, (rPlus (rTr C X g) (Dl, F, X.b.months * X.b.n)).J B H → (rTr C X g).J B H := fun B H j => j.1
  clear hF
  dsimp only [List.set]
  refine sxe_seq (fun _ _ _ h => h) (sxg_set (ev_callE (X.a 0, g.1 0, g.2) (plus_l (tr_dc (by decide)) (hne 0 (by decide))) (ea_cons (ev_fldR (d := .raw (.ref (X.a 0))) hJ TC TC.n4 rfl rfl (fun B H j => rfl) ?_))))
  walk_at "ev"
  refine ⟨X.b.nr, X.b.months, st.given, by simp, hb.r4, hM4, fun r m hr hm => ha.given (X.b.rsite r) m r (hb.ok.rs r hr) (ix_lt (hb.ok.rs r hr) hm) hr rfl, ?_⟩
  refine sxe_seq (fun _ _ _ h => h) (sxg_set ?_)
  walk_at "ev"
  refine ev_lc (wk_rng1 ?_)
  walk_at "ev"
  refine ⟨X.b.n, by simp, by omega, by omega, fun i acc => acc = (List.range i).map fun k => dRowT (st.stored k (X.b.months - 1)), rfl, ?_, ?_⟩
  · rintro k acc hk _ rfl
    have hm1 := hb.m1
    refine cg_name (by decide) ?_
    walk_at "ev"
    refine ev_dgetD (z := (X.a 2, g.1 2, g.2)) (fun B H j => j.1.2.2.2.2.2 2 (by decide)) (ev_fldR (d := .raw (.ref (X.a 2))) hJ TC TC.n6 rfl rfl (fun B H j => rfl) ⟨rfl, ?_⟩)
    walk_at "ev"
    rw [show ((X.b.months : Int) - 1) = ((X.b.months - 1 : Nat) : Int) by omega]
    refine ⟨k, X.b.months - 1, _, rfl, ha.stored k _ hk (ix_lt hk (by omega)), ?_⟩
    walk_at "ev"
    dsimp only
    rw [List.range_succ, List.map_append]; rfl
  rintro acc rfl
  walk_at "ev"
  refine sxe_ret (fun _ _ _ => trivial) ?_
  walk_at "ev"
  refine ev_callE (X.a 3, g.1 3, g.2) (plus_l (tr_dc (by decide)) (hne 3 (by decide))) (ea_cons (ev_fldR (d := .raw (.ref (X.a 3))) hJ TC TC.n7 rfl rfl (fun B H j => rfl) ?_))
  walk_at "ev"
  refine ⟨X.b.n, X.b.months, st.spilled, by simp, by omega, hM4, fun k m hk hm => ha.spilled k m hk (ix_lt hk hm), ?_⟩
  walk_at "ev"
  refine ev_callE (Dl, F, X.b.months * X.b.n) (plus_r hD) ?_
  walk_at "ev"
  refine ⟨X.b.n, X.b.months, Hw.lostAt X.b st X.b.months, by simp, by omega, hM4, hF2, ?_⟩
  walk_at "ev"
  exact q

/-! ## D16 -/
/-! ### a table of one's own -/
def kOrg : Hw.Org → List Key
  | .held k => [.inr "held", .inl k]
  | .inn k m => [.inr "in", .inl k, .inl m]
abbrev encO (p : Hw.Org × Int) : List Key × V := (kOrg p.1, .int p.2)
theorem kOrg_inj {a b : Hw.Org} : kOrg a = kOrg b ↔ a = b := by
  have ne : ((Str.ofString "held") = (Str.ofString "in")) = False := by
    rw [eq_iff_iff]; exact ⟨fun h => absurd h (by decide +kernel), False.elim⟩
  have ne2 : ((Str.ofString "in") = (Str.ofString "held")) = False := by
    rw [eq_iff_iff]; exact ⟨fun h => absurd h (by decide +kernel), False.elim⟩
  cases a <;> cases b <;> simp [kOrg, ne, ne2] <;> omega
theorem org_at {B : Hp} {v : V} : ∀ {o : Hw.Org}, R B v (dOrg o) → ∃ b, v = .ref b ∧ B b = some (.tup ((kOrg o).map kV))
  | .held k, h => by
    obtain ⟨b, xs, rfl, hb, v1, w1, rfl, h1, v2, w2, rfl, h2, h3⟩ := h
    cases (show v1 = .str "held" from h1); cases (show v2 = .int k from h2); cases (show w2 = [] from h3)
    exact ⟨b, rfl, hb⟩
  | .inn k m, h => by
    obtain ⟨b, xs, rfl, hb, v1, w1, rfl, h1, v2, w2, rfl, h2, v3, w3, rfl, h3, h4⟩ := h
    cases (show v1 = .str "in" from h1); cases (show v2 = .int k from h2); cases (show v3 = .int m from h3); cases (show w3 = [] from h4)
    exact ⟨b, rfl, hb⟩
theorem val_enc (o : Hw.Org) : ∀ T : List (Hw.Org × Int), valV (T.map encO) (kOrg o) = (Hw.lk T o).map V.int
  | [] => rfl
  | p :: T => by
    rw [List.map_cons, Hw.lk_cons]
    by_cases h : p.1 = o
    · rw [if_pos h]; exact valV_pos (kOrg_inj.mpr h)
    · rw [if_neg h, valV_neg (fun z => h (kOrg_inj.mp z))]; exact val_enc o T
theorem put_enc (T : List (Hw.Org × Int)) (o : Hw.Org) (v : Int) : putK (T.map encO) (kOrg o) (.int v) = (Hw.putO T o v).map encO := by
  unfold putK Hw.putO
  have e : ((T.map encO).any fun kv => decide (kv.1 = kOrg o)) = (T.any fun kv => decide (kv.1 = o)) := by
    rw [List.any_map]
    congr 1
    funext p
    simp [kOrg_inj]
  rw [e]
  split
  · rw [List.map_map, List.map_map]
    refine List.map_congr_left fun p _ => ?_
    by_cases h : p.1 = o
    · simp [h]
    · simp [h, kOrg_inj]
  · simp
section
variable {r : Res} {sl : List Sl} {N : Post} {te : TE} {i j : Nat} {l : Addr} {kvs : List (List Key × V)} {T : List (Hw.Org × Int)}
theorem sx_newD (h : ∀ l, N.nx (sl.set i (.ownD l []))) : Sx r (tAsg tDNewT (gName i)) sl N := fun B0 H0 B H σ Dn a f => by
  intro l hl
  have g := Grow.fresh (M := r.M) a.e.sub (o := .dT []) hl
  have j : r.J B (upd H l (.dT [])) := r.st _ _ _ _ a.e.J (.refl B) fun x o m e' => Sub.upd hl x o e'
  have a2 := a.grow g j
  refine f.nx B _ _ _ (h l) ⟨a2.e.set i (s := .ownD l []) ⟨rfl, none_of a.e.sub hl, fun m => a.e.mt l m hl, upd_same⟩ fun l' z k u hu hk => ?_, own_set a2.own fun l' z => (by cases z; exact a.fresh hl), a2.g⟩
  have z : l = l' := Option.some.inj z
  subst z
  exact absurd hk (a.e.apart hl k u hu)
theorem At.setOwnD {B0 H0 B H : Hp} {σ : L2.St} {kvs2 : List (List Key × V)} (a : At r B0 H0 B H σ sl) (hi : sl[i]? = some (.ownD l kvs)) : At r B0 H0 B (upd H l (.dT kvs2)) σ (sl.set i (.ownD l kvs2)) := by
  obtain ⟨o, e1, e2, hB, hM, hH⟩ := a.e.at_ i _ hi
  have h0 := a.own i _ l hi rfl
  have hil : i < sl.length := (List.getElem?_eq_some_iff.mp hi).1
  have others : ∀ (j : Nat) (s : Sl), sl[j]? = some s → i ≠ j → s.addr ≠ some l := fun j s hs hj hz => hj (a.e.nd i j _ _ l hi hs rfl hz)
  have sb : Sub B (upd H l (.dT kvs2)) := fun x u e => by
    rw [upd_ne (show x ≠ l from fun z => by rw [z, hB] at e; cases e)]; exact a.e.sub x u e
  refine ⟨⟨by simp [a.e.len], fun j s hs => ?_, fun j k s u l' h1 h2 a1 a2 => ?_, sb, a.e.mb, fun x m => ?_, ?_⟩, own_set a.own fun l' z => (by cases z; exact h0), ?_⟩
  · by_cases hj : i = j
    · subst hj
      rw [List.getElem?_set_self hil] at hs
      cases hs
      exact ⟨o, e1, e2, hB, hM, upd_same⟩
    · rw [List.getElem?_set_ne hj] at hs
      obtain ⟨o', f1, f2⟩ := a.e.at_ j s hs
      have no := others j s hs hj
      refine ⟨o', f1, ?_⟩
      cases s with
      | no => trivial
      | dat d => exact f2
      | own l2 ds2 =>
        obtain ⟨g1, g2, g3, zs, g4, g5⟩ := f2
        exact ⟨g1, g2, g3, zs, (upd_ne (fun z => no (by rw [z]; rfl))).trans g4, g5⟩
      | ownD l2 ds2 =>
        obtain ⟨g1, g2, g3, g4⟩ := f2
        exact ⟨g1, g2, g3, (upd_ne (fun z => no (by rw [z]; rfl))).trans g4⟩
  · have find : ∀ (k : Nat) (v : Sl), (sl.set i (.ownD l kvs2))[k]? = some v → v.addr = some l' → ∃ v', sl[k]? = some v' ∧ v'.addr = some l' := fun k v hv av => by
      by_cases hk : i = k
      · subst hk
        rw [List.getElem?_set_self hil] at hv
        cases hv
        exact ⟨_, hi, av⟩
      · rw [List.getElem?_set_ne hk] at hv
        exact ⟨v, hv, av⟩
    obtain ⟨s', q1, q2⟩ := find j s h1 a1
    obtain ⟨u', q3, q4⟩ := find k u h2 a2
    exact a.e.nd j k s' u' l' q1 q3 q2 q4
  · by_cases z : x = l
    · rw [z, upd_same]; simp
    · rw [upd_ne z]; exact a.e.mt x m
  · refine r.st _ _ _ _ a.e.J (.refl B) fun x u m e => ?_
    rw [upd_ne (show x ≠ l from fun z => hM (z ▸ m))]; exact e
  · refine ⟨a.g.b, fun x u e m => ?_, fun x h => ?_, sb, a.g.n⟩
    · rw [upd_ne (ne_of_none e h0)]; exact a.g.h x u e m
    · by_cases z : x = l
      · rw [z, upd_same]; simp
      · rw [upd_ne z]; exact a.g.t x h
/-- table[origin] = value -/
theorem sx_putD {o : Hw.Org} (hi : sl[i]? = some (.ownD l (T.map encO))) (hj : sl[j]? = some (.dat (dOrg o))) (hl : T.length < 100000) (h : EvP r te sl fun d => ∃ v : Int, d = .int v ∧ N.nx (sl.set i (.ownD l ((Hw.putO T o v).map encO)))) :
    Sx r (tAsg te (gSub (tVar i) (tVar j) rSetD)) sl N := fun B0 H0 B H σ Dn a f =>
  h B H σ a.e _ fun v B2 H2 d g jj rv ⟨x, hd, n⟩ => by
    subst hd
    cases (show v = .int x from rv)
    have a2 := a.grow g jj
    obtain ⟨_, e1, e2, hB, hM, hH⟩ := a2.e.at_ i _ hi
    obtain ⟨_, f1, u, rfl, ru⟩ := a2.e.at_ j _ hj
    subst e2
    obtain ⟨b, rfl, hb⟩ := org_at ru
    refine ⟨_, e1, _, f1, l, _, rfl, DPut.t hH (a2.e.sub _ _ hb) (Nat.lt_of_lt_of_le (show (T.map encO).length < 100000 by simpa using hl) (by decide)), ?_⟩
    rw [put_enc]
    exact f.nx B2 _ σ _ n (a2.setOwnD hi)
/-- table.get(origin, z) -/
theorem ev_getD {o : Hw.Org} {z : Int} {P : D → Prop} (hi : sl[i]? = some (.ownD l (T.map encO))) (hj : sl[j]? = some (.dat (dOrg o))) (p : P (.int ((Hw.lk T o).getD z))) : EvP r (tDGet2 (tVar i) (tVar j) (tC (.int z))) sl P := fun B H σ e Q q => by
  obtain ⟨_, e1, e2, hB, hM, hH⟩ := e.at_ i _ hi
  obtain ⟨_, f1, u, rfl, ru⟩ := e.at_ j _ hj
  subst e2
  obtain ⟨b, rfl, hb⟩ := org_at ru
  have q' := q (.int ((Hw.lk T o).getD z)) B H (.int ((Hw.lk T o).getD z)) (.refl e.sub) e.J rfl p
  refine ⟨_, e1, l, rfl, .inr ⟨_, .inl hH⟩, _, f1, valV (T.map encO) (kOrg o), DGet.t hH (e.sub _ _ hb), ?_⟩
  rw [val_enc]
  cases hk : Hw.lk T o with
  | none => rw [hk] at q'; exact q'
  | some v => rw [hk] at q'; exact q'
theorem sx_retD' (hi : sl[i]? = some (.ownD l kvs)) (h : ∀ H0 B H, H0 l = none → B l = none → H l = some (.dT kvs) → N.rt H0 B H (.ref l)) : Sx r (tRet (tVar i)) sl N := fun B0 H0 B H σ Dn a f => by
  obtain ⟨_, e1, e2, hB, hM, hH⟩ := a.e.at_ i _ hi
  subst e2
  exact ⟨_, e1, f.rt B H _ (h _ _ _ (a.own i _ l hi rfl) hB hH) a.e.J a.g⟩
end

/-! ## D17 -/
theorem putO_len (d : List (Hw.Org × Int)) (o : Hw.Org) (v : Int) : (Hw.putO d o v).length ≤ d.length + 1 := by
  unfold Hw.putO
  split
  · simp
  · simp
theorem ofold_len : ∀ (row : Hw.Row) (d : List (Hw.Org × Int)), (row.foldl Hw.ostep d).length ≤ d.length + row.length
  | [], d => Nat.le_refl _
  | p :: row, d => by
    have h1 := ofold_len row (Hw.ostep d p)
    have h2 := putO_len d p.1 ((Hw.lk d p.1).getD 0 + p.2)
    rw [List.foldl_cons]
    have h3 : (Hw.ostep d p).length ≤ d.length + 1 := h2
    simp only [List.length_cons]
    omega
theorem flat_take {α : Type} (L : List (List α)) : ∀ i, ((L.take i).flatten).length ≤ L.flatten.length := fun i => by
  conv => rhs; rw [← List.take_append_drop i L, List.flatten_append, List.length_append]
  exact Nat.le_add_right _ _
def spO : Sp := fun vs H Q _ => ∃ (B : Hp) (rows : List Hw.Row), Sub B H ∧ (RA B vs [.list (rows.map dRowT)] ∨ RA B vs [.tup (rows.map dRowT)]) ∧ rows.flatten.length ≤ 50000 ∧
  ∀ l B2 H2, Grow (fun _ => False) B H B2 H2 → H l = none → B2 l = none → H2 l = some (.dT ((Hw.orgs rows.flatten).map encO)) → Q (.ref l) H2
theorem origins_sx {wi : TI} {d0 : D} {rows : List Hw.Row} (hz : rows.flatten.length ≤ 50000) (hwi : ∀ (sl : List Sl) (P : Nat → (Nat → D) → Prop), sl[0]? = some (.dat d0) → P rows.length (fun i => dRowT (rows.getD i [])) → WkD r0 wi sl P) {N : Post}
    (hN : ∀ H0 B H l, H0 l = none → B l = none → H l = some (.dT ((Hw.orgs rows.flatten).map encO)) → N.rt H0 B H (.ref l)) :
    Sx r0 (tSeq (tAsg tDNewT (gName 1)) (tSeq (tFor wi (gName 2) (tFor (iTup K (tVar 2)) (gTup K 2 (gCons (gName 3) (gCons (gName 4) gNil))) (tAsg (tOp (rI0 fun i j => .int (i + j)) (tDGet2 (tVar 1) (tVar 3) (tC (.int 0))) (tVar 4)) (gSub (tVar 1) (tVar 3) rSetD)))) (tRet (tVar 1))))
      [.dat d0, .no, .no, .no, .no] N := by
  refine sx_seq (sx_newD fun l => sx_seq (sx_for (hwi _ _ rfl ⟨fun i sl => ∃ x2 x3 x4, sl = [.dat d0, .ownD l ((Hw.orgs (rows.take i).flatten).map encO), x2, x3, x4], ⟨_, _, _, rfl⟩, ?_, ?_⟩)))
  · rintro i sl hi ⟨x2, x3, x4, rfl⟩
    have ht : rows.take (i + 1) = rows.take i ++ [rows.getD i []] := by
      rw [List.take_add_one, List.getElem?_eq_getElem hi, List.getD_eq_getElem?_getD, List.getElem?_eq_getElem hi]; rfl
    have h1 := flat_take rows (i + 1)
    rw [ht, List.flatten_append, List.length_append] at h1
    have e : Hw.orgs (rows.take (i + 1)).flatten = (rows.getD i []).foldl Hw.ostep (Hw.orgs (rows.take i).flatten) := by
      rw [ht, List.flatten_append]
      unfold Hw.orgs
      rw [List.foldl_append]; simp
    have h2 := ofold_len (rows.take i).flatten []
    dsimp only
    rw [e]
    simp only [List.flatten_cons, List.flatten_nil, List.append_nil] at h1
    generalize rows.getD i [] = row at *
    have h2' : (Hw.orgs (rows.take i).flatten).length ≤ (rows.take i).flatten.length := by simpa [Hw.orgs] using h2
    generalize Hw.orgs (rows.take i).flatten = T at *
    refine gx_name (sx_for (wk_tup (ev_var _ rfl ⟨_, row.length, fun j => dPar (row.getD j (.held 0, 0)), rfl, by simp, fun j hj => by simp [hj], fun j sl => ∃ x3 x4, sl = [.dat d0, .ownD l (((row.take j).foldl Hw.ostep T).map encO), .dat (dRowT row), x3, x4], ⟨_, _, rfl⟩, ?_, ?_⟩)))
    · rintro j sl hj ⟨x3, x4, rfl⟩
      have hj2 : row.take (j + 1) = row.take j ++ [row.getD j (.held 0, 0)] := by
        rw [List.take_add_one, List.getElem?_eq_getElem hj, List.getD_eq_getElem?_getD, List.getElem?_eq_getElem hj]; rfl
      have h3 := ofold_len (row.take j) T
      have h4 : (row.take j).length ≤ row.length := by rw [List.length_take]; omega
      dsimp only
      rw [hj2, List.foldl_append]
      generalize (row.take j).foldl Hw.ostep T = T2 at *
      generalize row.getD j (.held 0, 0) = p at *
      obtain ⟨o, a⟩ := p
      refine gx_tup rfl (gxs_cons (gx_name (gxs_cons (gx_name (gxs_nil ?_)))))
      refine sx_putD (o := o) rfl rfl (by omega) (ev_op (ev_getD (o := o) rfl rfl ?_))
      walk_at "ev"
      exact ⟨.dat (dOrg o), .dat (.int a), rfl⟩
    · rintro sl ⟨x3, x4, rfl⟩
      rw [List.take_length]
      exact ⟨_, _, _, rfl⟩
  · rintro sl ⟨x2, x3, x4, rfl⟩
    rw [List.take_length]
    exact sx_retD' rfl fun H0 B H h1 h2 h3 => hN H0 B H l h1 h2 h3
abbrev N__law_origins : List Str := ["_law_rows_here", "_law_found", "_law_row", "_law_origin", "_law_amount"]
theorem sc__law_origins : FnScope N__law_origins ["_law_rows_here"] (defScope s__law_origins) := ⟨rfl, rfl, rfl, by decide +kernel, rfl, by decide +kernel, by decide +kernel⟩
theorem ok__law_origins (T : Txt mg) (F : FunAt K mg "_law_origins" s__law_origins ["_law_rows_here"]) : Has P w K mg base 1 "_law_origins" ["_law_rows_here"] spO := by
  obtain ⟨f, fd, F, hm, hb⟩ := F.ex
  have len : ∀ vs H Q E, spO vs H Q E → vs.length = 1 := fun vs H Q E h => by
    obtain ⟨B, rows, _, h | h, _⟩ := h
    · exact h.length
    · exact h.length
  have at0 : ∀ {B H : Hp} {vs : List V} {d : D}, Sub B H → RA B vs [d] → At r0 B H B H (L2.start N__law_origins vs) [.dat d, .no, .no, .no, .no] := fun {B H vs d} s rv => by
    refine ⟨slots_ok (r := r0) (N := N__law_origins) s (fun _ (z : False) => z.elim) (fun _ (z : False) => z.elim) trivial rv, fun i s l hs ha => ?_, .refl s⟩
    match i, hs with
    | 0, hs => cases hs; cases ha
    | 1, hs => cases hs; cases ha
    | 2, hs => cases hs; cases ha
    | 3, hs => cases hs; cases ha
    | 4, hs => cases hs; cases ha
  refine ⟨f, fd, F.ok sc__law_origins len fun cdv A outer s H vs Q E hr h => ?_, hm, F.kp, hb⟩
  obtain ⟨B, rows, sb, hc, hz, k⟩ := h
  rcases hc with rv | rv
  · refine ⟨_, (pss_cons (ps_set (i := 1) sc__law_origins.nd rfl (Or.inl rfl) pe_dnewT)
  (pss_cons (ps_for PassesOwn.never rfl (pi_listq K (pv 0)) (pg_name (i := 2) sc__law_origins.nd rfl (Or.inl rfl)) (pss_one (ps_for PassesOwn.never rfl (pi_tupq K (pv 2)) (pg_tupq K 2 rfl (pgs_cons (pg_name (i := 3) sc__law_origins.nd rfl (Or.inl rfl)) (pgs_cons (pg_name (i := 4) sc__law_origins.nd rfl (Or.inl rfl)) pgs_nil))) (pss_one (ps_asg (pe_op op_add (pe_dget2 (hu_of hr) (pv 1) (pv 3) pe_int ⟨rfl, rfl, rfl, rfl⟩) (pv 4)) (pg_sub (pv 1) (pv 3) (set_dict (hu_of hr))))))))
  (pss_one (ps_ret (pv 1))))), ?_⟩
    refine origins_sx (K := K) (N := ⟨fun _ => False, fun H0 B2 H2 v => ∃ l, v = .ref l ∧ H0 l = none ∧ B2 l = none ∧ H2 l = some (.dT ((Hw.orgs rows.flatten).map encO)), fun _ => False, fun _ => False⟩) hz (fun sl P h0 p => wk_list (ev_var _ h0 ⟨_, rows.length, _, rfl, by simp, fun i hi => by simp [hi], p⟩)) (fun H0 B H l h1 h2 h3 => ⟨l, rfl, h1, h2, h3⟩) B H B H _ _ (at0 sb rv)
      ⟨fun _ _ _ _ z => z.elim, fun B2 H2 v ⟨l, e, h1, h2, h3⟩ j g => e ▸ k l B2 H2 g h1 h2 h3, fun _ _ _ _ z => z.elim, fun _ _ _ _ z => z.elim⟩
  · refine ⟨_, (pss_cons (ps_set (i := 1) sc__law_origins.nd rfl (Or.inl rfl) pe_dnewT)
  (pss_cons (ps_for PassesOwn.never rfl (pi_tupq K (pv 0)) (pg_name (i := 2) sc__law_origins.nd rfl (Or.inl rfl)) (pss_one (ps_for PassesOwn.never rfl (pi_tupq K (pv 2)) (pg_tupq K 2 rfl (pgs_cons (pg_name (i := 3) sc__law_origins.nd rfl (Or.inl rfl)) (pgs_cons (pg_name (i := 4) sc__law_origins.nd rfl (Or.inl rfl)) pgs_nil))) (pss_one (ps_asg (pe_op op_add (pe_dget2 (hu_of hr) (pv 1) (pv 3) pe_int ⟨rfl, rfl, rfl, rfl⟩) (pv 4)) (pg_sub (pv 1) (pv 3) (set_dict (hu_of hr))))))))
  (pss_one (ps_ret (pv 1))))), ?_⟩
    refine origins_sx (K := K) (N := ⟨fun _ => False, fun H0 B2 H2 v => ∃ l, v = .ref l ∧ H0 l = none ∧ B2 l = none ∧ H2 l = some (.dT ((Hw.orgs rows.flatten).map encO)), fun _ => False, fun _ => False⟩) hz (fun sl P h0 p => wk_tup (ev_var _ h0 ⟨_, rows.length, _, rfl, by simp, fun i hi => by simp [hi], p⟩)) (fun H0 B H l h1 h2 h3 => ⟨l, rfl, h1, h2, h3⟩) B H B H _ _ (at0 sb rv)
      ⟨fun _ _ _ _ z => z.elim, fun B2 H2 v ⟨l, e, h1, h2, h3⟩ j g => e ▸ k l B2 H2 g h1 h2 h3, fun _ _ _ _ z => z.elim, fun _ _ _ _ z => z.elim⟩

/-! ## D18 -/
open PyProof.Rows
/-! ### two tables compared: all is equal -/
section
variable {prog : Program} {κ : Type} [DecidableEq κ] {knd : HeapKind prog w κ} {A : Around} {E : Value → Shared → Prop} {s : Shared}
theorem same_all {nm : String} {a b : Addr} {xs ys : List (κ × Addr × Value)} {Q : Bool → Shared → Prop} (za : (a == sysModules) = false) (zb : (b == sysModules) = false) (hu : knd.room A) (da : s.heap.DictOfH knd a xs) (db : s.heap.DictOfH knd b ys) (hl : xs.length = ys.length)
    (hall : ∀ x ∈ xs, (∃ (j : Nat) (p : Addr × Value), ys[j]? = some (x.1, p)) ∧ ∀ (j : Nat) (p : Addr × Value), ys[j]? = some (x.1, p) → ∃ i t u, x.2.2 = Value.int i t ∧ p.2 = Value.int i u) (h : Q true s) :
    wpAny (model prog w) A (Builtin.Dict.samePairs nm a b) Q E s := by
  obtain ⟨oa, es, ep, ga, _, va, ea, ka, _⟩ := da
  obtain ⟨ob, fs, fp, gb, _, vb, eb, kb, nb⟩ := db
  have sa := size_of_entries ea
  have sb := size_of_entries eb
  unfold Builtin.Dict.samePairs Builtin.Dict.showsAll
  rw [if_neg (by rw [za]; simp), if_neg (by rw [zb]; simp)]
  refine wpAny_bind (wpAny_pure (wpAny_bind (wpAny_pure (wpAny_bind (wpAny_dictEntries ga va ?_)))))
  dsimp only
  refine wpAny_bind (wpAny_dictEntries gb vb ?_)
  rw [if_neg (by rw [sa, sb, hl]; simp)]
  refine wpAny_bind (wpAny_dictEpoch ga va (wpAny_bind ?_))
  rw [Std.Legacy.Range.forIn_eq_forIn_range']
  simp only [Std.Legacy.Range.size, Nat.sub_zero, Nat.add_sub_cancel, Nat.div_one]
  refine wpAny_forIn_list _ (fun rest q s' => s' = s ∧ q = (none, ()) ∧ ∃ i, rest = List.range' i (es.size - i)) _ ?_ ?_ _ _ ⟨rfl, rfl, 0, by simp⟩
  · rintro n rest q s' ⟨rfl, rfl, i, hr⟩
    obtain ⟨k, hk⟩ : ∃ k, es.size - i = k + 1 := by
      cases z : es.size - i with
      | zero => rw [z] at hr; simp at hr
      | succ k => exact ⟨k, rfl⟩
    rw [hk, List.range'_succ] at hr
    obtain ⟨rfl, rfl⟩ := List.cons.inj hr
    have lt : n < xs.length := by omega
    obtain ⟨x, hx⟩ : ∃ x, xs[n]? = some x := ⟨xs[n], List.getElem?_eq_getElem lt⟩
    have mx : x ∈ xs := List.mem_of_getElem? hx
    obtain ⟨⟨j, p, hj⟩, hv⟩ := hall x mx
    refine wpAny_bind (wpAny_dictEntries ga va ?_)
    rw [entry_at ea n, hx]
    show wpAny _ _ (holding [Value.ref x.2.1, x.2.2] _ >>= _) _ _ _
    refine wpAny_bind (wpAny_holding (wpAny_bind ?_))
    refine wpAny_dictFind_heap (knd := knd) hu (ka x mx) gb vb eb kb nb (fun no => absurd hj (no j p)) fun j2 p2 hj2 => ?_
    refine wpAny_bind (wpAny_dictEntries gb vb ?_)
    rw [entry_at eb j2, hj2]
    obtain ⟨i2, t, u, e1, e2⟩ := hv j2 p2 hj2
    show wpAny _ _ (holding [p2.2] (eqBool x.2.2 p2.2)) _ _ _
    rw [e1, e2]
    refine wpAny_holding (SeqAt.EqAt.int_int i2 t i2 u prog w E _ ?_)
    rw [show (i2 == i2) = true by simp]
    show wpAny _ _ (if (!true) = true then _ else _) _ _ _
    rw [if_neg (by decide)]
    refine wpAny_bind (wpAny_dictEpoch ga va ?_)
    rw [if_neg (by simp)]
    exact wpAny_pure ⟨rfl, rfl, n + 1, by rw [show es.size - (n + 1) = k by omega]⟩
  · rintro q s' ⟨rfl, rfl, i, hr⟩
    exact wpAny_pure h
theorem ne_all {a b : Addr} {xs ys : List (κ × Addr × Value)} {Q : Value → Shared → Prop} (za : (a == sysModules) = false) (zb : (b == sysModules) = false) (hu : knd.room A.in1) (hc : A.units < cLine) (da : s.heap.DictOfH knd a xs) (db : s.heap.DictOfH knd b ys) (hl : xs.length = ys.length)
    (hall : ∀ x ∈ xs, (∃ (j : Nat) (p : Addr × Value), ys[j]? = some (x.1, p)) ∧ ∀ (j : Nat) (p : Addr × Value), ys[j]? = some (x.1, p) → ∃ i t u, x.2.2 = Value.int i t ∧ p.2 = Value.int i u) (h : Q (.bool false) s) :
    wpAny (model prog w) A (compareOp .NotEq (.ref a) (.ref b)) Q E s := by
  refine wpAny_richCompare_same_room (op := .NotEq) da.typeIs db.typeIs PySem.F.slot_dict_ne ?_ hc
  refine wpAny_call_entry PySem.F.slot_dict_ne da.typeIs PySem.F.entry_dict_ne ?_ (PySem.F.args_dict_ne_2 _ _)
  show wpAny _ _ (Builtin.Dict.dictSlotArgs "__ne__" ⟨[.ref a, .ref b], []⟩ >>= _) _ _ s
  unfold Builtin.Dict.dictSlotArgs
  refine wpAny_bind (wpAny_bind (wpAny_notOrdered_dict da.typeIs ?_))
  refine wpAny_pure (wpAny_bind (wpAny_isInstance (T := "dict") db.typeIs PySem.F.sub_dict_dict ?_))
  simp only [Bool.not_true, Bool.false_eq_true, if_false]
  refine wpAny_bind (wpAny_pure (wpAny_bind (wpAny_pure (wpAny_bind (same_all za zb hu da db hl hall ?_)))))
  exact wpAny_pure ⟨_, rfl, (fun x => nomatch x), h⟩
end
/-- a heap's table against the abstract one -/
theorem kt_row {H : Hp} : ∀ {T : List (Hw.Org × Int)} {xs : List (List Key × Addr × Value)}, KT H (T.map encO) xs → ∀ x ∈ xs, ∃ p ∈ T, x.1 = kOrg p.1 ∧ ∃ t, x.2.2 = Value.int p.2 t
  | [], _, h, x, hx => by cases h; cases hx
  | p :: T, _, h, x, hx => by
    cases h with
    | cons a t =>
      rcases List.mem_cons.mp hx with rfl | hx
      · obtain ⟨e1, _, e2⟩ := a
        obtain ⟨tk, e3⟩ := (show ∃ t, _ = Value.int p.2 t from e2)
        exact ⟨p, by simp, e1.symm, tk, e3⟩
      · obtain ⟨p', h1, h2⟩ := kt_row t x hx
        exact ⟨p', by simp [h1], h2⟩
theorem kt_find {H : Hp} {o : Hw.Org} {v : Int} : ∀ {T : List (Hw.Org × Int)} {xs : List (List Key × Addr × Value)}, KT H (T.map encO) xs → Hw.lk T o = some v → ∃ (j : Nat) (b : Addr) (t : Tok), xs[j]? = some (kOrg o, b, Value.int v t)
  | [], _, h, e => by cases e
  | p :: T, _, h, e => by
    cases h with
    | @cons _ q _ _ a t =>
      rw [Hw.lk_cons] at e
      by_cases z : p.1 = o
      · rw [if_pos z] at e
        cases e
        obtain ⟨e1, _, e2⟩ := a
        obtain ⟨tk, e3⟩ := (show ∃ t, _ = Value.int p.2 t from e2)
        refine ⟨0, q.2.1, tk, ?_⟩
        rw [← z]
        show some q = _
        rw [show q = (q.1, q.2.1, q.2.2) from rfl, e3, ← e1]
      · rw [if_neg z] at e
        obtain ⟨j, b, tk, e1⟩ := kt_find t e
        exact ⟨j + 1, b, tk, by simpa using e1⟩
def rNeO : R2 := fun x y H Q => ∃ (a b : Addr) (T1 T2 : List (Hw.Org × Int)), x = .ref a ∧ y = .ref b ∧ H a = some (.dT (T1.map encO)) ∧ H b = some (.dT (T2.map encO)) ∧ T1.length = T2.length ∧ (∀ o v, Hw.lk T1 o = some v → Hw.lk T2 o = some v) ∧ (T1.map (·.1)).Nodup ∧ Q (.bl false) H
theorem lk_mem {T : List (Hw.Org × Int)} (hn : (T.map (·.1)).Nodup) : ∀ {p : Hw.Org × Int}, p ∈ T → Hw.lk T p.1 = some p.2 := by
  induction T with
  | nil => intro p hp; cases hp
  | cons q T ih =>
    intro p hp
    rw [List.map_cons, List.nodup_cons] at hn
    rw [Hw.lk_cons]
    rcases List.mem_cons.mp hp with rfl | hp
    · exact if_pos rfl
    · rw [if_neg (fun z => hn.1 (by rw [z]; exact List.mem_map_of_mem hp))]
      exact ih hn.2 hp
theorem op_neO {X : Cx} (hu : X.A.units + 1 < cLine) : OpR X (compareOp .NotEq) rNeO := by
  intro pins s σ H x y v u Q I rx ry h
  obtain ⟨a, b, T1, T2, rfl, rfl, ea, eb, hl, hlk, hn, q⟩ := h
  obtain rfl : v = Value.ref a := rx
  obtain rfl : u = Value.ref b := ry
  obtain ⟨_, za, xs, ra, da⟩ := dt_of I.hok ea
  obtain ⟨_, zb, ys, rb, db⟩ := dt_of I.hok eb
  have l1 := Paired.length ra
  have l2 := Paired.length rb
  have nb := db
  obtain ⟨_, _, _, _, _, _, _, _, nd⟩ := nb
  refine ne_all (knd := tupleKind (mixKind X.prog X.w)) za zb hu (Nat.lt_of_succ_lt hu) da db (by rw [← l1, ← l2]; simpa using hl) (fun x hx => ?_) ⟨.bl false, H, I, rfl, q⟩
  obtain ⟨p, hp, e1, t, e2⟩ := kt_row ra x hx
  obtain ⟨j, b2, u2, e3⟩ := kt_find rb (hlk p.1 p.2 (lk_mem hn hp))
  refine ⟨⟨j, (b2, .int p.2 u2), by rw [e1]; exact e3⟩, fun j' p' e' => ?_⟩
  rw [e1] at e'
  obtain rfl := idxH_unique nd e3 e'
  rw [e3] at e'
  cases e'
  exact ⟨p.2, t, u2, e2, rfl⟩

/-! ### dict(pairs) -/
def PairsO (H : Hp) (ps : List Addr) (T : List (Hw.Org × Int)) : Prop := Paired (fun p kv => ∃ q, H p = some (.tup [.ref q, .int kv.2]) ∧ H q = some (.tup ((kOrg kv.1).map kV))) ps T
theorem pairsO_of {X : Cx} {pins : List (Addr × Obj)} {σ : L2.St} {H : Hp} {s : Shared} (I : Inv X pins σ H s) : ∀ {ps : List Addr} {T : List (Hw.Org × Int)}, PairsO H ps T →
    ∃ xs : List (List Key × Addr × Value), KT H (T.map encO) xs ∧ xs.length = ps.length ∧ xs.map (·.1) = T.map (fun p => kOrg p.1) ∧ ∀ (j : Nat) (k : List Key) (b : Addr) (v : Value), xs[j]? = some (k, b, v) → ∃ p, ps[j]? = some p ∧ s.heap.IsTuple p #[.ref b, v]
  | _, _, .nil => ⟨[], .nil, rfl, rfl, fun j k b v e => by simp at e⟩
  | _, _, .cons (a := p) (b := kv) h t => by
    obtain ⟨xs, r, hl, hk, hp⟩ := pairsO_of I t
    obtain ⟨q, e1, e2⟩ := h
    obtain ⟨its, rv, ht, _⟩ := I.tuple (SqT.of e1)
    obtain ⟨u, y, rfl, ru, ry⟩ := vals2 rv
    obtain rfl : u = Value.ref q := ru
    refine ⟨(kOrg kv.1, q, y) :: xs, .cons ⟨rfl, e2, ry⟩ r, by simp [hl], by simp [hk], fun j k b v e => ?_⟩
    cases j with
    | zero =>
      cases (Option.some.inj e)
      exact ⟨p, rfl, ht⟩
    | succ j => exact hp j k b v (by simpa using e)
theorem stored_new {κ : Type} [DecidableEq κ] : ∀ (ps xs : List (κ × Addr × Value)), ((xs ++ ps).map (·.1)).Nodup → storedAllH xs ps = xs ++ ps
  | [], xs, _ => (List.append_nil xs).symm
  | p :: ps, xs, h => by
    have hnot : atKey xs p.1 = none := atKey_none_of_get fun j q e => by
      rw [List.map_append, List.nodup_append] at h
      exact h.2.2 p.1 (List.mem_map.mpr ⟨_, List.mem_of_getElem? e, rfl⟩) p.1 (by simp) rfl
    show storedAllH (storedH xs p.1 p.2.1 p.2.2) ps = _
    rw [storedH_new hnot, stored_new ps _ (by rw [List.append_assoc]; exact h), List.append_assoc]
    rfl
def rDictO : List V → Hp → VK → Prop := fun vs H Q => ∃ (a : Addr) (ps : List Addr) (T : List (Hw.Org × Int)), vs = [.ref a] ∧ H a = some (.lst (ps.map V.ref)) ∧ PairsO H ps T ∧ (T.map (·.1)).Nodup ∧ ∀ d, H d = none → Q (.ref d) (upd H d (.dT (T.map encO)))
theorem call_dictO {X : Cx} (hcalm : X.calm = true) (hu : X.A.units + 3 < cLine) : CallR X (.type "dict") rDictO := by
  intro pins s σ H vs us Q I r q
  obtain ⟨a, ps, T, rfl, ha, hp, hn, q⟩ := q
  obtain ⟨u, rfl, ru⟩ := vals1 r
  obtain rfl : u = Value.ref a := ru
  obtain ⟨its, rv, ⟨o, n, ho, hc, hd, hdat⟩, hz⟩ := I.list (SqL.of ha)
  obtain rfl := refs_at rv
  obtain ⟨xs, kt, hl, hk, hx⟩ := pairsO_of I hp
  rw [List.length_map] at hz
  obtain ⟨prs, hprs⟩ : ∃ prs : List (Value × Value), prs = xs.map fun x => (Value.ref x.2.1, x.2.2) := ⟨_, rfl⟩
  have lp : prs.length = xs.length := by rw [hprs, List.length_map]
  have nd : (xs.map (·.1)).Nodup := by
    rw [hk]
    exact List.pairwise_map.mpr ((List.pairwise_map.mp hn).imp fun h z => h (kOrg_inj.mp z))
  have ok : PlainSeq "list" s.heap a (ps.map Value.ref).toArray ∧ PairItems s.heap (ps.map Value.ref).toArray (fun j => ps.getD j 0) prs := by
    refine ⟨⟨o, n, ho, hc, hd, hdat⟩, by simp [lp, hl], fun j k v e => ?_⟩
    rw [hprs, List.getElem?_map] at e
    cases ex : xs[j]? with
    | none => rw [ex] at e; cases e
    | some x =>
      obtain ⟨k', b', v'⟩ := x
      rw [ex] at e
      cases e
      obtain ⟨p, e1, e2⟩ := hx j k' b' v' ex
      refine ⟨by simp [e1], .inl ?_⟩
      have e3 : ps.getD j 0 = p := by rw [List.getD_eq_getElem?_getD, e1]; rfl
      show s.heap.IsTuple (ps.getD j 0) _
      rw [e3]; exact e2
  refine call_dict_pairsH (knd := tupleKind (mixKind X.prog X.w)) (ps := xs) (PairArg.list a (ps.map Value.ref).toArray (fun j => ps.getD j 0) prs) (I.ok.hd hcalm) (show X.A.units + 1 + 1 < cLine by omega) ok ⟨lp.symm, fun i key v e => ?_⟩ (fun h' keep x hx' => ?_) (by rw [lp, hl]; exact hz) fun h' tk hd' keep => ?_
  · have e : prs[i]? = some (key, v) := e
    rw [hprs, List.getElem?_map] at e
    cases ex : xs[i]? with
    | none => rw [ex] at e; cases e
    | some x =>
      obtain ⟨k', b', v'⟩ := x
      rw [ex] at e
      cases e
      exact ⟨k', b', rfl, rfl⟩
  · have ki : (tupleKind (mixKind X.prog X.w)).is s.heap x.1 x.2.1 := by
      have all : ∀ {l : List (List Key × V)} {m : List (List Key × Addr × Value)}, KT H l m → ∀ x ∈ m, H x.2.1 = some (.tup (x.1.map kV)) := by
        intro l m z
        induction z with
        | nil => intro x hx; cases hx
        | cons a _ ih =>
          intro x hx
          rcases List.mem_cons.mp hx with rfl | hx
          · rw [← a.1]; exact a.2.1
          · exact ih x hx
      exact key_of I.hok (all kt x hx')
    obtain ⟨ob, items, m, g1, g2⟩ := ki
    exact ⟨ob, items, m, keep _ _ (Nat.ne_of_lt (Heap.lt_size g1)) (by simp) g1, g2⟩
  · rw [stored_new xs [] (by simpa using nd), List.nil_append] at hd'
    have zm : (s.heap.objs.size == sysModules) = false := beq_eq_false_iff_ne.mpr (Nat.ne_of_gt I.big)
    have lT : (T.map encO).length ≤ sizeLine := by rw [Paired.length kt, hl]; exact hz
    obtain ⟨ob, es, ep, g1, g2, g3, g4, g5, g6⟩ := hd'
    have fresh : H s.heap.objs.size = none := I.hok.fresh (Nat.le_refl _)
    refine ⟨.ref s.heap.objs.size, upd H s.heap.objs.size (.dT (T.map encO)), I.laid (t' := tk) (fun b u => keep b u (by simp)) (Nat.le_refl _) ⟨lT, zm, xs, KT.keeps kt fun b ys e => ?_, ob, es, ep, g1, g2, g3, g4, g6⟩, rfl, q _ fresh⟩
    rw [upd_ne (fun z => by rw [z, fresh] at e; cases e)]; exact e

/-! ## D19 -/
open PyProof.Rows
/-! ### defs that are called where nothing is being shown -/
structure FnG (P : Program) (w : World) (K : PySem.W.Frag) (mg : Str → Option Value) (base : Heap) (k : Nat) (f : Addr) (fd : FuncData) (ps : List Str) (sp : Sp) : Prop where
  len : ∀ vs H Q E, sp vs H Q E → vs.length = ps.length
  run : ∀ (A : Around) (outer : List PySem.Env) (s : Shared) (H : Hp) (args : Args) (us : List Value) (vs : List V) (Q : VK) (E : XK), Room k A → A.guards = some [] → Env0 P w K mg base A outer s H → BindsTo s fd args (ps.zip us) → Vals vs us → sp vs H Q E → codeAny (model P w) A (.call (.ref f) args) (CR CX0 outer P w H s Q E) s
theorem fnG_of {x q : Str} {st : Stmt} {f : Addr} {fd : FuncData} {N ps : List Str} {k : Nat} {sp : Sp} (F : Fun K x q st f fd) (S : FnScope N ps (defScope st)) (len : ∀ vs H Q E, sp vs H Q E → vs.length = ps.length)
    (body : ∀ (cdv : Value) (A : Around) (outer : List PySem.Env) (s : Shared) (H : Hp) (vs : List V) (Q : VK) (E : XK), Room k (A.deeper (envOfC q (defScope st) s.heap.objs.size f cdv)) → A.guards = some [] → sp vs H Q E →
      ∃ t, PSs (cxOf CX0 P w K mg base N q (defScope st) f cdv A outer s H E).nox (defBody st) t ∧ t { nx := fun _ H' => Q .non H', rt := Q } (L2.start N vs) H) : FnG P w K mg base (k + 1) f fd ps sp := by
  obtain ⟨oc, od, kV, doc, pm, an, cdv, ct, osl, rfl, lk, hcd⟩ := F.ex
  refine ⟨len, ?_⟩
  intro A outer s H args us vs Q E hr hg e0 hb rv hsp
  have inK : K.In s.heap := e0.mod.kin.keeps fun b o e => (e0.bs b o e).1
  have names : ∀ y ∈ ps.zip us, (defScope st).names.lookup y.1 = some .local ∨ ((defScope st).names.lookup y.1 = some .cell ∧ ((cellsFrom (s.heap.objs.size + 1) (defScope st).names []).lookup y.1).isSome = true) := by
    rintro ⟨n, v⟩ hy
    refine (S.par n (List.of_mem_zip hy).1).imp id fun z => ⟨z, PySem.W.cellsFrom_some _ _ _ (Or.inl z)⟩
  refine codeAny_call_function hr.depth (inK _ _ lk) rfl S.co S.gen rfl (PySem.W.codeRec_of inK hcd) (hb _ _ _ _ (wpAny_newFunctionEnv_cells S.kind names ?_))
  rintro env rfl s1 x
  refine ⟨(e0.mod.nolimit.keeps fun b o e => (e0.bs b o e).1).keeps x.toInCall.keep, codeAny_func ?_⟩
  obtain ⟨t, ht, hq⟩ := body cdv A outer s H vs Q E (hr.deeper _) hg hsp
  have I : Inv (cxOf CX0 P w K mg base N q (defScope st) f cdv A outer s H E) [] (L2.start N vs) H s1 := inv_start S hr.hd e0 (len _ _ _ _ hsp) rv x
  refine wpAny_mono (ht.nox.run [] s1 _ H _ I hq) ?_ fun e s' hs => hs
  intro fl s' hs
  cases fl with
  | next =>
    obtain ⟨σ', H', J, z⟩ := hs
    exact ⟨V.non, H', J.os, J.bare, J.base, J.hok, rfl, z⟩
  | ret u =>
    obtain ⟨v, σ', H', J, r, z⟩ := hs
    exact ⟨v, H', J.os, J.bare, J.base, J.hok, r, z⟩
  | brk => exact hs.elim fun _ z => z.elim fun _ z => z.2.elim
  | cont => exact hs.elim fun _ z => z.elim fun _ z => z.2.elim
structure HasG (P : Program) (w : World) (K : PySem.W.Frag) (mg : Str → Option Value) (base : Heap) (k : Nat) (x : Str) (ps : List Str) (sp : Sp) : Prop where
  ex : ∃ f fd, FnG P w K mg base k f fd ps sp ∧ mg x = some (.ref f) ∧ PySem.W.keepIn K (.ref f) = true ∧ Binds K fd ps []
theorem pe_hasG {X : Cx} {k : Nat} {x : Str} {ps : List Str} {sp : Sp} {e : Expr} {es : List Expr} {t : TA} {p pos : Pos} (h : HasG X.prog X.w X.K X.mg X.base k x ps sp) (gd : X.A.guards = some []) (hr : Room k X.A) (hg : Gl X x) (ha : PA X (e :: es) t)
    (hdb : (x == ("__debug__" : Str)) = false := by decide) (he : starEach (e :: es) X.env = (false, eval e X.env) :: starEach es X.env := by rfl) (hpl : (backTo pos (starEach es X.env)).any (·.1) = false := by rfl) :
    PE X (.Call (.Name x p) (e :: es) [] pos) (tCall sp [] E0 t) := by
  obtain ⟨f, fd, F, hm, hk, hb⟩ := h.ex
  refine ⟨fun pins s σ H Q I h => ?_⟩
  refine wpAny_Call_Name_kw (ld_glob I hg hm (PySem.W.callWith_K (h₀ := X.base) I.ok.mod.kin hk (thn (ha.run pos pins s σ H _ I h) ?_) he hpl) hdb)
  rintro us s1 ⟨vs, H1, I1, r, q⟩
  rw [List.append_nil] at q
  refine ⟨I1.kIn, wpAny_call (codeAny_mono (F.run X.A X.stack s1 H1 ⟨us, []⟩ us vs Q E0 hr gd I1.env0 ?_ r q) ?_)⟩
  · have hl : (us ++ []).length = ps.length := by rw [List.append_nil, ← r.length]; exact F.len _ _ _ _ q
    have z := hb s1 us I1.kIn hl
    rw [List.append_nil] at z
    exact z
  · intro r2 s2 hq
    cases r2 with
    | error e => exact hq.elim
    | ok fl =>
      cases fl with
      | ret u => exact I1.after hq
      | next => exact hq.elim
      | brk => exact hq.elim
      | cont => exact hq.elim
/-! ### repr -/
/-- what may be shown -/
structure ShOk (c e : Nat) (d : PyData) : Prop where
  sh : d.showable = true
  lf : d.leavesShort 13 = true
  nd : d.hasDict = false
  wt : d.weight ≤ c
  dp : d.depth ≤ e
def rRepr (K : PySem.W.Frag) : List V → Hp → VK → Prop := fun vs H Q => ∃ v d, vs = [v] ∧ (∃ a, v = .ref a) ∧ Dp K H v d ∧ ShOk 1000000 8 d ∧ Q (.str d.shown) H
theorem cr_repr {X : Cx} (gd : X.A.guards = some []) (hu : X.A.units + 64 < cLine) : CallR X (.builtin "repr") (rRepr X.K) := by
  intro pins s σ H vs us Q I r q
  obtain ⟨v, d, rfl, ⟨a, rfl⟩, hd, ok, q⟩ := q
  obtain ⟨u, rfl, ru⟩ := vals1 r
  obtain ⟨as, rd⟩ := Dp.reads I d _ u hd ru
  obtain rfl : u = Value.ref a := ru
  have dp := ok.dp
  refine repr_of_reads' rd ok.sh (fun z => by rw [ok.nd] at z; cases z) gd (by omega) (fun b o e => e) (fun h' u tk hk => ⟨.str d.shown, H, I.kept (t' := tk) hk, ⟨u, rfl⟩, q⟩) ?_
  exact PyData.shown_fits (B := 13) (by decide) (by decide) ok.lf (Nat.le_trans ok.wt (by decide))
theorem reprq {X : Cx} (K : PySem.W.Frag) (gd : X.A.guards = some []) (hu : X.A.units + 64 < cLine) (h : X.K = K := by rfl) : CallR X (.builtin "repr") (rRepr K) := h ▸ cr_repr gd hu
theorem ca_repr {r : Res} {d : D} {Pd : D → Prop} (hd : (∃ ds, d = .tup ds) ∨ ∃ ds, d = .list ds) (nr : noRaw d = true) (ok : ShOk 1000000 8 (toP d)) (p : Pd (.str (toP d).shown)) : CaD r (rRepr K) [d] Pd := ca_val p fun B H vs s j rv => by
  obtain ⟨v, rfl, h⟩ := rv.one
  refine ⟨.str (toP d).shown, rfl, fun Q q => ⟨v, toP d, rfl, ?_, (R.mono s h).dp nr, ok, q⟩⟩
  rcases hd with ⟨ds, rfl⟩ | ⟨ds, rfl⟩
  · obtain ⟨a, xs, rfl, _⟩ := h; exact ⟨a, rfl⟩
  · obtain ⟨a, xs, rfl, _⟩ := h; exact ⟨a, rfl⟩
abbrev N__law_same : List Str := ["_law_actual", "_law_due"]
theorem sc__law_same : FnScope N__law_same ["_law_actual", "_law_due"] (defScope s__law_same) := ⟨rfl, rfl, rfl, by decide +kernel, rfl, by decide +kernel, by decide +kernel⟩
def tt_law_same : List D → (D → Prop) → Prop := fun ds P => ∃ d : D, ds = [d, d] ∧ (∃ es, d = .tup es) ∧ noRaw d = true ∧ ShOk 1000000 8 (toP d) ∧ P (.bl true)
theorem ok__law_same (T : Txt mg) (F : FunAt K mg "_law_same" s__law_same ["_law_actual", "_law_due"]) : HasG P w K mg base 1 "_law_same" ["_law_actual", "_law_due"] (spD r0 tt_law_same) := by
  obtain ⟨f, fd, F, hm, hb⟩ := F.ex
  refine ⟨f, fd, fnG_of F sc__law_same (spD_len (by rintro ds P ⟨d, rfl, _⟩; rfl)) fun cdv A outer s H vs Q E hr hg h => ⟨_, (pss_one (ps_ret (pe_cmpR op_eq (pe_callB (reprq K hg hr.units) (by rfl) T.repr (by decide +kernel) (pa_cons (pv 0) pa_nil)) (pe_callB (reprq K hg hr.units) (by rfl) T.repr (by decide +kernel) (pa_cons (pv 1) pa_nil)) (nomark _)))), spD_go h ?_⟩, hm, F.kp, hb⟩
  rintro ds Pd ⟨d, rfl, ⟨es, rfl⟩, nr, ok, p⟩
  walk_at "ev"
  refine ca_repr (.inl ⟨_, rfl⟩) nr ok ?_
  walk_at "ev"
  refine ca_repr (.inl ⟨_, rfl⟩) nr ok ?_
  refine od_eqS ?_
  simpa using p

/-! ## D20 -/
/-! ### the law's last rows: old keys, a dict of them, compared -/
def isOldP (t : Nat) (p : Hw.Org × Int) : Bool := Hw.isOld t p.1
def KeysAt (H : Hp) (qs : List Addr) (T : List (Hw.Org × Int)) : Prop := Paired (fun q p => H q = some (.tup ((kOrg p.1).map kV))) qs T
theorem KeysAt.mono {H H' : Hp} {T : List (Hw.Org × Int)} (s : Sub H H') : ∀ {qs : List Addr} {T : List (Hw.Org × Int)}, KeysAt H qs T → KeysAt H' qs T
  | _, _, .nil => .nil
  | _, _, .cons a t => .cons (s _ _ a) (KeysAt.mono (T := T) s t)
theorem KeysAt.upd {H : Hp} {D : Addr} {xs ys : List V} (h : H D = some (.lst xs)) : ∀ {qs : List Addr} {T : List (Hw.Org × Int)}, KeysAt H qs T → KeysAt (L2.upd H D (.lst ys)) qs T
  | _, _, .nil => .nil
  | _, _, .cons a t => .cons ((upd_ne (fun z => by rw [z, h] at a; cases a)).trans a) (KeysAt.upd h t)
theorem KeysAt.get {H : Hp} : ∀ {qs : List Addr} {T : List (Hw.Org × Int)} {i : Nat} {q : Addr}, KeysAt H qs T → qs[i]? = some q → ∃ p, T[i]? = some p ∧ H q = some (.tup ((kOrg p.1).map kV))
  | _, _, _, _, .nil, e => by simp at e
  | _, _, 0, _, .cons (b := p) a t, e => by
    cases (Option.some.inj e)
    exact ⟨p, rfl, a⟩
  | _, _, i + 1, _, .cons a t, e => by
    obtain ⟨p, h1, h2⟩ := KeysAt.get (i := i) t (by simpa using e)
    exact ⟨p, by simpa using h1, h2⟩
theorem PairsO.mono {H H' : Hp} (s : Sub H H') : ∀ {qs : List Addr} {T : List (Hw.Org × Int)}, PairsO H qs T → PairsO H' qs T
  | _, _, .nil => .nil
  | _, _, .cons ⟨q, a, b⟩ t => .cons ⟨q, s _ _ a, s _ _ b⟩ (PairsO.mono s t)
theorem PairsO.upd {H : Hp} {D : Addr} {xs ys : List V} (h : H D = some (.lst xs)) : ∀ {qs : List Addr} {T : List (Hw.Org × Int)}, PairsO H qs T → PairsO (L2.upd H D (.lst ys)) qs T
  | _, _, .nil => .nil
  | _, _, .cons ⟨q, a, b⟩ t => .cons ⟨q, (upd_ne (fun z => by rw [z, h] at a; cases a)).trans a, (upd_ne (fun z => by rw [z, h] at b; cases b)).trans b⟩ (PairsO.upd h t)
theorem envNo {B H : Hp} (σ : L2.St) (s : Sub B H) : EnvOk r0 B H σ (List.replicate σ.length .no) := by
  refine ⟨by simp, fun i s hs => ?_, fun i j s u l h1 h2 a1 a2 => ?_, s, fun _ z => z.elim, fun _ z => z.elim, trivial⟩
  · rw [List.getElem?_replicate] at hs
    split at hs
    · cases hs
      rename_i hi
      exact ⟨σ[i], List.getElem?_eq_getElem hi, trivial⟩
    · cases hs
  · rw [List.getElem?_replicate] at h1
    split at h1
    · cases h1; cases a1
    · cases h1
theorem EnvOk.know {B H : Hp} {σ : L2.St} {sl : List Sl} {r : Res} (e : EnvOk r B H σ sl) {i : Nat} {v : V} {d : D} (h : σ[i]? = some (some v)) (rv : R B v d) : EnvOk r B H σ (sl.set i (.dat d)) := by
  have q := e.setD i rv
  have es : σ.set i (some v) = σ := by
    apply List.ext_getElem?
    intro j
    rw [List.getElem?_set]
    by_cases z : i = j
    · subst z
      rw [if_pos rfl]
      have := (List.getElem?_eq_some_iff.mp h).1
      rw [if_pos this, h]
    · rw [if_neg z]
  rw [es] at q
  exact q
/-- is it old -/
theorem old_test {t : Nat} {o : Hw.Org} {sl : List Sl} (h16 : sl[16]? = some (.dat (dOrg o))) (h6 : sl[6]? = some (.dat (.int t))) :
    EvT r0 (tOr (tTest (tOp rEq (tOp (rIx K) (tVar 16) (tC (.int 0))) (tC (.str "held")))) (tTest (tOp (rI0 fun i j => .bl (decide (i < j))) (tOp (rIx K) (tVar 16) (tC (.int 2))) (tVar 6)))) sl fun b => b = Hw.isOld t o := by
  refine et_or (et_test (ev_op (ev_op (ev_var _ h16 (ev_int ?_)))))
  cases o with
  | held k =>
    refine od_ix1' rfl (ev_str (od_eqS (ex_bl ?_)))
    rw [if_pos (by simp)]
    rfl
  | inn k m =>
    refine od_ix1' rfl (ev_str (od_eqS (ex_bl ?_)))
    have ne : decide ((Str.ofString "in") = (Str.ofString "held")) = false := by decide +kernel
    rw [ne]
    refine if_ff (et_test (ev_op (ev_op (ev_var _ h16 (ev_int (od_ix1' rfl (ev_var _ h6 (od_lt (ex_bl ?_)))))))))
    show decide ((m : Int) < (t : Int)) = decide (m < t)
    rw [Bool.eq_iff_iff]
    simp
theorem tail_sx {r : Res} {sl : List Sl} {N : Post} {l : Addr} {T : List (Hw.Org × Int)} {rows : List Hw.Row} {t : Nat} {u : TS} (hl : sl.length = 17) (hf : sl[13]? = some (.ownD l (T.map encO))) (hm : sl[6]? = some (.dat (.int t))) (ha : sl[14]? = some (.dat (.tup (rows.map dRowT))))
    (hT : T.length ≤ 50000) (h2 : rows.flatten.length ≤ 50000) (hnd : (T.map (·.1)).Nodup) (hle : (T.filter (isOldP t)).length = (Hw.orgs rows.flatten).length) (hlk : ∀ o v, Hw.lk (T.filter (isOldP t)) o = some v → Hw.lk (Hw.orgs rows.flatten) o = some v) (k : N.nx (sl.set 15 .no)) :
    Sx r (tSeq (tLock (tAsg (tLc (iKeys (tVar 13)) (gName 16) (tOr (tTest (tOp rEq (tOp (rIx K) (tVar 16) (tC (.int 0))) (tC (.str "held")))) (tTest (tOp (rI0 fun i j => .bl (decide (i < j))) (tOp (rIx K) (tVar 16) (tC (.int 2))) (tVar 6)))) (tVar 16) [16]) (gName 15)))
      (tIfS (tTest (tOp rNeO (tCB rDictO (tCons (tLc (iList K (tVar 15)) (gName 16) tYes (tTup (tCons (tVar 16) (tCons (tDGet (tVar 13) (tVar 16)) tNil))) [16]) tNil)) (tCall spO [] E0 (tCons (tVar 14) tNil)))) u tNext)) sl N := fun B0 H0 B H σ Dn a f => by
  obtain ⟨_, e13, e2, hB, hM, hH⟩ := a.e.at_ 13 _ hf
  subst e2
  obtain ⟨_, e6, v6, rfl, r6⟩ := a.e.at_ 6 _ hm
  cases (show v6 = .int t from r6)
  have lσ : σ.length = 17 := a.e.len.trans hl
  obtain ⟨T1, hT1⟩ : ∃ T1, T1 = T.filter (isOldP t) := ⟨_, rfl⟩
  refine ⟨l, _, hH, trivial, fun od => ⟨_, e13, l, od, rfl, .inr ⟨T.map encO, upd_same, fun Dl hD => ?_⟩⟩⟩
  obtain ⟨HL, hHL⟩ : ∃ HL, HL = upd H l (.frz od (.dT (T.map encO))) := ⟨_, rfl⟩
  rw [← hHL] at hD ⊢
  have hLl : HL l = some (.frz od (.dT (T.map encO))) := by rw [hHL]; exact upd_same
  refine ⟨fun i m H3 => m = T.length - i ∧ i ≤ T.length ∧ ∃ qs : List Addr, Sub HL H3 ∧ H3 Dl = some (.lst (qs.map V.ref)) ∧ KeysAt H3 qs ((T.take i).filter (isOldP t)), ⟨T.length, rfl, Nat.zero_le _, [], Sub.upd hD, upd_same, .nil⟩, ?_⟩
  rintro i m H3 ⟨rfl, hi, qs, kp, hDl, hq⟩
  by_cases hlt : i < T.length
  · refine .inr ⟨⟨kp _ _ hLl, by simpa using hlt⟩, fun H3 => ∃ qs : List Addr, Sub HL H3 ∧ H3 Dl = some (.lst (qs.map V.ref)) ∧ KeysAt H3 qs ((T.take (i + 1)).filter (isOldP t)), fun H' z => ⟨T.length - (i + 1), by omega, rfl, hlt, z⟩, ?_⟩
    rintro x H4 ⟨rfl, k, v, q, hk, rfl, hqt⟩
    obtain ⟨p, hp⟩ : ∃ p, T[i]? = some p := ⟨T[i], List.getElem?_eq_getElem hlt⟩
    rw [List.getElem?_map, hp] at hk
    cases hk
    have tk : T.take (i + 1) = T.take i ++ [p] := by rw [List.take_add_one, hp]; rfl
    refine ⟨(wipe_set (by simp) _).trans (wipe_wipe σ [16]), ?_⟩
    have s2 : (L2.wipe σ [16]).set 16 (some (V.ref q)) = (σ.set 16 none).set 16 (some (V.ref q)) := rfl
    have h16 : ((L2.wipe σ [16]).set 16 (some (V.ref q)))[16]? = some (some (V.ref q)) := by
      rw [List.getElem?_set_self (by rw [wipe_length, lσ]; decide)]
    have h6 : ((L2.wipe σ [16]).set 16 (some (V.ref q)))[6]? = some (some (V.int t)) := by
      rw [List.getElem?_set_ne (by decide)]
      show (σ.set 16 none)[6]? = _
      rw [List.getElem?_set_ne (by decide)]; exact e6
    obtain ⟨Bq, hBq⟩ : ∃ Bq : Hp, Bq = upd (fun _ => none) q (.tup ((kOrg p.1).map kV)) := ⟨_, rfl⟩
    have sq : Sub Bq H4 := fun x o e => by
      rw [hBq] at e
      by_cases z : x = q
      · subst z; rw [upd_same] at e; cases e; exact hqt
      · rw [upd_ne z] at e; cases e
    have rq : R Bq (.ref q) (dOrg p.1) := by
      have bq : Bq q = some (.tup ((kOrg p.1).map kV)) := by rw [hBq]; exact upd_same
      obtain ⟨o, c⟩ := p
      cases o with
      | held k => exact ⟨q, _, rfl, bq, .cons (show R Bq (.str _) (.str _) from rfl) (.cons (show R Bq (.int _) (.int _) from rfl) .nil)⟩
      | inn k m => exact ⟨q, _, rfl, bq, .cons (show R Bq (.str _) (.str _) from rfl) (.cons (show R Bq (.int _) (.int _) from rfl) (.cons (show R Bq (.int _) (.int _) from rfl) .nil))⟩
    have env := ((envNo ((L2.wipe σ [16]).set 16 (some (V.ref q))) sq).know h16 rq).know (d := .int t) h6 rfl
    have len : ((L2.wipe σ [16]).set 16 (some (V.ref q))).length = 17 := by rw [List.length_set, wipe_length, lσ]
    refine old_test (K := K) (t := t) (o := p.1) (by rw [len]; rfl) (by rw [len]; rfl) Bq H4 _ env _ fun b B2 H5 g5 _ hb => ?_
    subst hb
    have k5 : Sub H4 H5 := fun x o e => g5.h x o e fun z => z
    by_cases old : isOldP t p = true
    · rw [if_pos (show Hw.isOld t p.1 = true from old)]
      refine ⟨_, h16, _, k5 _ _ hDl, ?_, qs ++ [q], ?_, by rw [upd_same]; simp, ?_⟩
      · have l1 : qs.length = ((T.take i).filter (isOldP t)).length := Paired.length hq
        have l2 : ((T.take i).filter (isOldP t)).length ≤ i := Nat.le_trans (List.length_filter_le _ _) (by rw [List.length_take]; omega)
        exact Nat.lt_of_le_of_lt (show (qs.map V.ref).length ≤ 50000 by rw [List.length_map]; omega) (by decide)
      · intro x o e
        rw [upd_ne (show x ≠ Dl from fun z => by rw [z, hD] at e; cases e)]
        exact k5 _ _ (kp _ _ e)
      · rw [tk, List.filter_append, show [p].filter (isOldP t) = [p] by simp [old]]
        exact Paired.snoc ((hq.mono (T := T) k5).upd (k5 _ _ hDl)) ((upd_ne (fun z => by rw [z, hDl] at hqt; cases hqt)).trans (k5 _ _ hqt))
    · have old' : Hw.isOld t p.1 = false := by
        cases z : Hw.isOld t p.1 with
        | true => exact absurd z old
        | false => rfl
      rw [old']
      refine if_ff ⟨qs, kp.trans k5, k5 _ _ hDl, ?_⟩
      rw [tk, List.filter_append, show [p].filter (isOldP t) = [] by simp [old], List.append_nil]
      exact hq.mono (T := T) k5
  have ei : i = T.length := by omega
  subst ei
  rw [List.take_length, ← hT1] at hq
  refine .inl ⟨⟨kp _ _ hLl, by simp⟩, kp _ _ hLl, ?_⟩
  -- unlocked
  have Dll : Dl ≠ l := fun z => by rw [z, hLl] at hD; cases hD
  have nH : H Dl = none := by rw [hHL, upd_ne Dll] at hD; exact hD
  obtain ⟨H4, hH4⟩ : ∃ H4, H4 = upd H3 l (.dT (T.map encO)) := ⟨_, rfl⟩
  rw [← hH4]
  have k4 : Sub H H4 := fun x o e => by
    rw [hH4]
    by_cases z : x = l
    · subst z; rw [hH] at e; cases e; exact upd_same
    · rw [upd_ne z]; exact kp _ _ (by rw [hHL, upd_ne z]; exact e)
  have q4 : KeysAt H4 qs T1 := by
    have go : ∀ {qs : List Addr} {T1 : List (Hw.Org × Int)}, KeysAt H3 qs T1 → KeysAt H4 qs T1 := by
      intro qs T1 z
      induction z with
      | nil => exact .nil
      | cons a _ ih => exact .cons (by rw [hH4, upd_ne (fun z => by rw [z, kp _ _ hLl] at a; cases a)]; exact a) ih
    exact go hq
  have d4 : H4 Dl = some (.lst (qs.map V.ref)) := by rw [hH4, upd_ne Dll]; exact hDl
  have l4 : H4 l = some (.dT (T.map encO)) := by rw [hH4]; exact upd_same
  have G4 : Grow r.M B H B H4 := ⟨.refl B, fun x o e _ => k4 x o e, fun x hx => by
    obtain ⟨o, e⟩ := Option.ne_none_iff_exists'.mp hx
    rw [k4 x o e]; simp, a.e.sub.trans k4, fun _ _ => rfl⟩
  have a4 : At r B0 H0 B H4 (σ.set 15 (some (.ref Dl))) (sl.set 15 .no) := by
    have z := a.grow G4 (r.st _ _ _ _ a.e.J (.refl B) fun x o _ e => k4 x o e)
    exact ⟨z.e.setNo 15 _, own_set z.own fun l' z => (by cases z), z.g⟩
  have e15 : (σ.set 15 (some (V.ref Dl)))[15]? = some (some (.ref Dl)) := List.getElem?_set_self (by rw [lσ]; decide)
  have e13' : (σ.set 15 (some (V.ref Dl)))[13]? = some (some (.ref l)) := by rw [List.getElem?_set_ne (by decide)]; exact e13
  obtain ⟨σ4, hσ4⟩ : ∃ σ4, σ4 = σ.set 15 (some (V.ref Dl)) := ⟨_, rfl⟩
  rw [← hσ4] at a4 e15 e13'
  rw [← hσ4]
  dsimp only
  have lσ4 : σ4.length = 17 := by rw [hσ4, List.length_set, lσ]
  have nd1 : (T1.map (·.1)).Nodup := hT1 ▸ Hw.filter_nd' _ hnd
  have lq : qs.length = T1.length := Paired.length q4
  have l1T : T1.length ≤ 50000 := by rw [hT1]; exact Nat.le_trans (List.length_filter_le _ _) hT
  -- the pairs
  refine ⟨.ref Dl, e15, Dl, rfl, ⟨_, SqL.of d4⟩, fun D2 hD2 => ?_⟩
  have D2l : D2 ≠ Dl := fun z => by rw [z, d4] at hD2; cases hD2
  refine ⟨fun i m H5 => m = T1.length - i ∧ i ≤ T1.length ∧ ∃ ps : List Addr, Sub H4 H5 ∧ H5 D2 = some (.lst (ps.map V.ref)) ∧ PairsO H5 ps (T1.take i), ⟨T1.length, rfl, Nat.zero_le _, [], Sub.upd hD2, upd_same, .nil⟩, ?_⟩
  rintro i m H5 ⟨rfl, hi, ps, k5, h5, hp5⟩
  by_cases hlt : i < T1.length
  · refine .inr ⟨⟨_, _, SqL.of (k5 _ _ d4), List.getElem?_eq_getElem (by simpa [lq] using hlt)⟩, fun H5 => ∃ ps : List Addr, Sub H4 H5 ∧ H5 D2 = some (.lst (ps.map V.ref)) ∧ PairsO H5 ps (T1.take (i + 1)), fun H' z => ⟨T1.length - (i + 1), by omega, rfl, hlt, z⟩, ?_⟩
    rintro x H6 ⟨rfl, hx⟩
    have hx := hx _ (SqL.of (k5 _ _ d4))
    obtain ⟨q, hq5⟩ : ∃ q, qs[i]? = some q := ⟨qs[i], List.getElem?_eq_getElem (by omega)⟩
    rw [List.getElem?_map, hq5] at hx
    cases hx
    obtain ⟨p, hp, hqt⟩ := q4.get hq5
    have tk : T1.take (i + 1) = T1.take i ++ [p] := by rw [List.take_add_one, hp]; rfl
    have hqt6 := k5 _ _ hqt
    have pT : p ∈ T := by
      have := List.mem_of_getElem? hp
      rw [hT1] at this
      exact (List.mem_filter.mp this).1
    have hv : valV (T.map encO) (kOrg p.1) = some (.int p.2) := by rw [val_enc, lk_mem hnd pT]; rfl
    refine ⟨(wipe_set (by simp) _).trans (wipe_wipe σ4 [16]), ?_⟩
    simp only [tYes, ↓reduceIte]
    have h16 : ((L2.wipe σ4 [16]).set 16 (some (V.ref q)))[16]? = some (some (V.ref q)) := by
      rw [List.getElem?_set_self (by rw [wipe_length, lσ4]; decide)]
    have h13 : ((L2.wipe σ4 [16]).set 16 (some (V.ref q)))[13]? = some (some (V.ref l)) := by
      rw [List.getElem?_set_ne (by decide)]
      show (σ4.set 16 none)[13]? = _
      rw [List.getElem?_set_ne (by decide)]; exact e13'
    refine ⟨_, h16, _, h13, _, h16, l, .int p.2, rfl, by rw [← hv]; exact DGet.t (k5 _ _ l4) hqt6, ?_⟩
    refine ⟨by show 2 ≤ sizeLine; decide, fun P hP => ?_⟩
    have PD : P ≠ D2 := fun z => by rw [z, h5] at hP; cases hP
    have lps : ps.length ≤ i := by
      have := Paired.length hp5
      rw [List.length_take] at this
      omega
    refine ⟨ps.map V.ref, (upd_ne (Ne.symm PD)).trans h5, Nat.lt_of_le_of_lt (show (ps.map V.ref).length ≤ 50000 by rw [List.length_map]; omega) (by decide), ps ++ [P], ?_, by rw [upd_same]; simp, ?_⟩
    · intro x o e
      have xD : x ≠ D2 := fun z => by rw [z, hD2] at e; cases e
      rw [upd_ne xD]
      exact Sub.upd hP _ _ (k5 _ _ e)
    · rw [tk]
      refine Paired.snoc ((hp5.mono (Sub.upd hP)).upd ((upd_ne (Ne.symm PD)).trans h5)) ⟨q, (upd_ne PD).trans upd_same, ?_⟩
      have qD : q ≠ D2 := fun z => by rw [z, h5] at hqt6; cases hqt6
      exact (upd_ne qD).trans (Sub.upd hP _ _ hqt6)
  have ei : i = T1.length := by omega
  subst ei
  rw [List.take_length] at hp5
  refine .inl ⟨⟨_, SqL.of (k5 _ _ d4), by simp [lq]⟩, D2, ps, T1, rfl, h5, hp5, nd1, fun d hd => ?_⟩
  -- the other table
  have k6 : Sub H4 (upd H5 d (.dT (T1.map encO))) := k5.trans (Sub.upd hd)
  have ha4 : (sl.set 15 .no)[14]? = some (.dat (.tup (rows.map dRowT))) := by rw [List.getElem?_set_ne (by decide)]; exact ha
  obtain ⟨_, e14, v14, rfl, r14⟩ := a4.e.at_ 14 _ ha4
  refine ⟨_, e14, ?_⟩
  refine ⟨B, rows, a4.e.sub.trans k6, .inr (.cons r14 .nil), h2, fun l2 B2 H7 g7 n7 b7 h7 => ?_⟩
  refine ⟨d, l2, T1, _, rfl, rfl, g7.h _ _ upd_same (fun z => z), h7, by rw [hT1]; exact hle, fun o v e => hlk o v (by rw [← hT1]; exact e), nd1, false, rfl, ?_⟩
  show Dn.nx σ4 H7
  have G6 : Grow r.M B H4 B (upd H5 d (.dT (T1.map encO))) := ⟨.refl B, fun x o e _ => k6 x o e, fun x hx => by
    obtain ⟨o, e⟩ := Option.ne_none_iff_exists'.mp hx
    rw [k6 x o e]; simp, a4.e.sub.trans k6, fun _ _ => rfl⟩
  have G7 := G6.trans (g7.mono (M' := r.M) fun _ z => z.elim)
  exact f.nx B2 H7 σ4 _ k (a4.grow G7 (r.st _ _ _ _ a4.e.J g7.b fun x o _ e => g7.h _ _ (k6 _ _ e) fun z => z))

/-! ## D21 -/
/-! ### what is shown is small -/
theorem ShOk.mono {c e c' e' : Nat} {d : PyData} (h : ShOk c e d) (hc : c ≤ c') (he : e ≤ e') : ShOk c' e' d := ⟨h.sh, h.lf, h.nd, Nat.le_trans h.wt hc, Nat.le_trans h.dp he⟩
theorem sh_int {i : Int} (h : i.natAbs < 10 ^ 12) : ShOk 41 0 (.int i) := by
  have l : i.natAbs.log2 < 40 := by
    by_cases z : i.natAbs = 0
    · rw [z]; decide
    · exact (Nat.log2_lt z).mpr (Nat.lt_of_lt_of_le h (by decide))
  refine ⟨?_, ?_, rfl, ?_, Nat.le_refl _⟩
  · show decide (i.natAbs.log2 < 1920) = true
    exact decide_eq_true (by omega)
  · show decide ((PyData.shown (.int i)).length ≤ 13) = true
    exact decide_eq_true (PyData.shown_int_le h)
  · show (if i == 0 then 0 else i.natAbs.log2 + 1) ≤ 41
    split <;> omega
theorem sh_held : ShOk 41 0 (.str (Str.ofString "held")) := ⟨rfl, by decide +kernel, rfl, by decide +kernel, Nat.le_refl _⟩
theorem sh_in : ShOk 41 0 (.str (Str.ofString "in")) := ⟨rfl, by decide +kernel, rfl, by decide +kernel, Nat.le_refl _⟩
theorem sh_all {c e : Nat} : ∀ {xs : List PyData}, (∀ x ∈ xs, ShOk c e x) → PyData.showableAll xs = true ∧ PyData.leavesShortAll 13 xs = true ∧ PyData.hasDictAll xs = false ∧ PyData.weightAll xs ≤ xs.length * (c + 1) ∧ PyData.depthAll xs ≤ e
  | [], _ => ⟨rfl, rfl, rfl, Nat.zero_le _, Nat.zero_le _⟩
  | x :: xs, h => by
    obtain ⟨h1, h2, h3, h4, h5⟩ := sh_all fun y hy => h y (List.mem_cons_of_mem x hy)
    have hx := h x (by simp)
    refine ⟨?_, ?_, ?_, ?_, ?_⟩
    · simp [PyData.showableAll, hx.sh, h1]
    · simp [PyData.leavesShortAll, hx.lf, h2]
    · simp [PyData.hasDictAll, hx.nd, h3]
    · have := hx.wt
      show PyData.weight x + 1 + PyData.weightAll xs ≤ (xs.length + 1) * (c + 1)
      rw [Nat.succ_mul]
      omega
    · have := hx.dp
      show max (PyData.depth x) (PyData.depthAll xs) ≤ e
      omega
theorem sh_tup {c e n : Nat} {xs : List PyData} (h : ∀ x ∈ xs, ShOk c e x) (hn : xs.length ≤ n) : ShOk (n * (c + 1)) (e + 1) (.tuple xs) := by
  obtain ⟨h1, h2, h3, h4, h5⟩ := sh_all h
  refine ⟨h1, h2, h3, Nat.le_trans h4 (Nat.mul_le_mul_right _ hn), ?_⟩
  show PyData.depthAll xs + 1 ≤ e + 1
  omega
theorem toPs_map {α : Type} (f : α → D) : ∀ l : List α, toPs (l.map f) = l.map fun x => toP (f x)
  | [] => rfl
  | x :: l => by rw [List.map_cons, List.map_cons, toPs, toPs_map f l]
theorem noRaws_map {α : Type} (f : α → D) : ∀ l : List α, (∀ x ∈ l, noRaw (f x) = true) → noRaws (l.map f) = true
  | [], _ => rfl
  | x :: l, h => by
    rw [List.map_cons, noRaws, h x (by simp), noRaws_map f l fun y hy => h y (by simp [hy])]; rfl
theorem sh_org {o : Hw.Org} (h : Hw.OrgS o) : ShOk 126 1 (toP (dOrg o)) := by
  cases o with
  | held k =>
    have h : k < 3 := h
    refine sh_tup (n := 3) (c := 41) (e := 0) (xs := [.str (Str.ofString "held"), .int k]) (fun x hx => ?_) (Nat.le_of_ble_eq_true rfl)
    rcases List.mem_cons.mp hx with rfl | hx
    · exact sh_held
    · rw [List.mem_singleton.mp hx]; exact sh_int (by omega)
  | inn k m =>
    have h : k < 3 ∧ m < 4 := h
    refine sh_tup (n := 3) (c := 41) (e := 0) (xs := [.str (Str.ofString "in"), .int k, .int m]) (fun x hx => ?_) (Nat.le_of_ble_eq_true rfl)
    rcases List.mem_cons.mp hx with rfl | hx
    · exact sh_in
    · rcases List.mem_cons.mp hx with rfl | hx
      · exact sh_int (by omega)
      · rw [List.mem_singleton.mp hx]; exact sh_int (by omega)
theorem sh_par {p : Hw.Org × Int} (h : Hw.OrgS p.1) (h0 : 0 ≤ p.2) (h1 : p.2 ≤ 1000) : ShOk 254 2 (toP (dPar p)) := by
  refine sh_tup (n := 2) (c := 126) (e := 1) (xs := [toP (dOrg p.1), .int p.2]) (fun x hx => ?_) (Nat.le_of_ble_eq_true rfl)
  rcases List.mem_cons.mp hx with rfl | hx
  · exact sh_org h
  · rw [List.mem_singleton.mp hx]; exact (sh_int (by omega)).mono (by decide) (by decide)
theorem sh_row {row : Hw.Row} (h : Hw.RowS 1000 row) (hl : row.length ≤ 125) : ShOk 31875 3 (toP (dRowT row)) := by
  show ShOk 31875 3 (.tuple (toPs (row.map dPar)))
  rw [toPs_map]
  refine sh_tup (n := 125) (c := 254) (e := 2) (fun x hx => ?_) (by simpa using hl)
  obtain ⟨p, hp, rfl⟩ := List.mem_map.mp hx
  exact sh_par (h.org p hp) (h.pos.nn p hp) (Int.le_trans (Hw.le_total h.pos.nn p hp) h.tot)
theorem sh_tab {n M : Nat} {f : Nat → Nat → Hw.Row} (hn : n ≤ 3) (hM : M ≤ 4) (h : ∀ k m, k < n → m < M → Hw.RowS 1000 (f k m) ∧ (f k m).length ≤ 125) : ShOk 1000000 8 (toP (dTab n M f)) := by
  show ShOk 1000000 8 (.tuple (toPs ((List.range n).map fun k => D.tup ((List.range M).map fun m => dRowT (f k m)))))
  rw [toPs_map]
  refine (sh_tup (n := 3) (c := 127504) (e := 4) (fun x hx => ?_) (by simpa using hn)).mono (by decide) (by decide)
  obtain ⟨k, hk, rfl⟩ := List.mem_map.mp hx
  show ShOk 127504 4 (.tuple (toPs ((List.range M).map fun m => dRowT (f k m))))
  rw [toPs_map]
  refine sh_tup (n := 4) (c := 31875) (e := 3) (fun x hx => ?_) (by simpa using hM)
  obtain ⟨m, hm, rfl⟩ := List.mem_map.mp hx
  obtain ⟨h1, h2⟩ := h k m (List.mem_range.mp hk) (List.mem_range.mp hm)
  exact sh_row h1 h2
theorem nr_row (row : Hw.Row) : noRaw (dRowT row) = true := by
  show noRaws (row.map dPar) = true
  refine noRaws_map _ _ fun p _ => ?_
  obtain ⟨o, a⟩ := p
  cases o <;> rfl
theorem nr_tab (n M : Nat) (f : Nat → Nat → Hw.Row) : noRaw (dTab n M f) = true := by
  show noRaws ((List.range n).map fun k => D.tup ((List.range M).map fun m => dRowT (f k m))) = true
  exact noRaws_map _ _ fun k _ => noRaws_map _ _ fun m _ => nr_row _
theorem tab_congr {n M : Nat} {f g : Nat → Nat → Hw.Row} (h : ∀ k m, k < n → m < M → f k m = g k m) : dTab n M f = dTab n M g := by
  unfold dTab
  congr 1
  refine List.map_congr_left fun k hk => ?_
  congr 1
  refine List.map_congr_left fun m hm => ?_
  rw [h k m (List.mem_range.mp hk) (List.mem_range.mp hm)]

/-! ### the box is made; a table is made -/
theorem sxe_box {sl : List Sl} {N : Post} {te : TE} {u : TS} {i : Nat} {a : Addr} {ms : List Int} (hs : ∀ s ∈ sl, s.addr = none) (h : EvP (rScr K a ms) te sl fun d => ∃ ns : List Int, d = .list (ns.map .int) ∧ ∀ b l, SxE r0 (fun _ : Unit => rBx ⟨b, l, ns⟩) () u (sl.set i (.dat (.raw (.ref b)))) N) :
    SxE r0 (fun _ : Unit => rScr K a ms) () (tSeq (tAsg (tLst (tCons te (tCons (tC (.int 0)) tNil))) (gName i)) u) sl N := fun B0 H0 B H σ Dn at0 fr f =>
  h B H σ at0.e _ fun v B2 H2 d g j rv ⟨ns, hd, k⟩ => by
    subst hd
    obtain ⟨l, xs, rfl, hl, hx⟩ := rv
    refine ⟨by show 2 ≤ sizeLine; decide, fun p hp => ?_⟩
    have a2 := at0.grow g j
    have gf := Grow.fresh (M := (rScr K a ms).M) a2.e.sub (o := .lst [.ref l, .int 0]) hp
    have a3 := a2.grow gf ((rScr K a ms).st _ _ _ _ j (.refl B2) fun x o m _ => m.elim)
    have bp : B2 p = none := none_of a2.e.sub hp
    have e5 : EnvOk (rBx ⟨p, l, ns⟩) B2 (upd H2 p (.lst [.ref l, .int 0])) σ sl := a3.e.more hs (fun x m => by rw [show x = p from m]; exact bp) (fun x m => by rw [show x = p from m, upd_same]; simp) ⟨⟨0, upd_same⟩, l, xs, rfl, hl, hx⟩
    have a5 : At (rBx ⟨p, l, ns⟩) B0 H0 B2 _ σ sl := ⟨e5, a3.own, a3.g.mono fun _ z => z.elim⟩
    exact k p l B0 H0 B2 _ _ Dn (a5.setD i (v := .ref p) (d := .raw (.ref p)) rfl) (fun x m => .inr (by rw [show x = p from m]; exact a2.fresh hp)) f
theorem sxe_sx {γ : Type} {R : γ → Res} {g : γ} {sl : List Sl} {N : Post} {t : TS} (h : Sx (R g) t sl N) : SxE r0 R g t sl N := fun B0 H0 B H σ Dn a fr f => by
  have down : ∀ {B H : Hp} {σ : L2.St} {sl : List Sl}, At (R g) B0 H0 B H σ sl → At r0 B0 H0 B H σ sl := fun {B H σ sl} z => by
    refine ⟨⟨z.e.len, fun i s hs => ?_, z.e.nd, z.e.sub, fun _ q => q.elim, fun _ q => q.elim, trivial⟩, z.own, z.g.less fr⟩
    obtain ⟨o, h1, h2⟩ := z.e.at_ i s hs
    refine ⟨o, h1, ?_⟩
    cases s with
    | no => trivial
    | dat d => exact h2
    | own l ds => exact ⟨h2.1, h2.2.1, fun q => q.elim, h2.2.2.2⟩
    | ownD l ds => exact ⟨h2.1, h2.2.1, fun q => q.elim, h2.2.2.2⟩
  exact h B0 H0 B H σ Dn a ⟨fun B H σ sl n z => f.nx B H σ sl n (down z), fun B H v n j z => f.rt B H v n trivial (z.less fr), fun B H σ sl n z => f.bk B H σ sl n (down z), fun B H σ sl n z => f.ct B H σ sl n (down z)⟩
theorem sx_callO {r : Res} {sl : List Sl} {N : Post} {i j : Nat} {rows : List Hw.Row} (hj : sl[j]? = some (.dat (.list (rows.map dRowT)))) (hz : rows.flatten.length ≤ 50000) (h : ∀ l, N.nx (sl.set i (.ownD l ((Hw.orgs rows.flatten).map encO)))) :
    Sx r (tAsg (tCall spO [] E0 (tCons (tVar j) tNil)) (gName i)) sl N := fun B0 H0 B H σ Dn a f => by
  obtain ⟨_, e1, v, rfl, rv⟩ := a.e.at_ j _ hj
  refine ⟨_, e1, B, rows, a.e.sub, .inl (.cons rv .nil), hz, fun l B2 H2 g hl bl hh => ?_⟩
  have a2 := a.grow (g.mono fun _ z => z.elim) (r.st _ _ _ _ a.e.J g.b fun x o _ e => g.h x o e fun z => z)
  refine f.nx B2 H2 _ _ (h l) ⟨a2.e.set i (s := .ownD l _) ⟨rfl, bl, fun m => a.e.mt l m hl, hh⟩ fun l' z k u hu hk => ?_, own_set a2.own fun l' z => (by cases z; exact a.fresh hl), a2.g⟩
  have z : l = l' := Option.some.inj z
  subst z
  exact absurd hk (a.e.apart hl k u hu)

/-! ## D22 -/
open PyProof.Rows
theorem range_cat {α : Type} (f g : Nat → α) (n : Nat) : ∀ m, (List.range n).map f ++ (List.range m).map g = (List.range (n + m)).map fun i => if i < n then f i else g (i - n)
  | 0 => by
    rw [List.range_zero, List.map_nil, List.append_nil]
    exact List.map_congr_left fun i hi => (if_pos (List.mem_range.mp hi)).symm
  | m + 1 => by
    rw [show n + (m + 1) = (n + m) + 1 by omega, List.range_succ, List.range_succ, List.map_append, List.map_append, ← List.append_assoc, range_cat f g n m]
    congr 1
    show [g m] = [if n + m < n then f (n + m) else g (n + m - n)]
    rw [if_neg (by omega), Nat.add_sub_cancel_left]
theorem tab2_cat (f g : Nat → Nat → Hw.Row) (K n : Nat) : ∀ m, (Hw.tab2 n K f).flatten ++ (Hw.tab2 m K g).flatten = (Hw.tab2 (n + m) K fun i => if i < n then f i else g (i - n)).flatten := fun m => by
  have e := range_cat (fun i => Hw.tab K (f i)) (fun i => Hw.tab K (g i)) n m
  unfold Hw.tab2
  rw [← List.flatten_append, e]
  congr 1
  refine List.map_congr_left fun i _ => ?_
  dsimp only
  split <;> rfl
theorem drop_range {α : Type} {t n : Nat} (f : Nat → α) (h : t ≤ n) : ((List.range n).map f).drop t = (List.range (n - t)).map fun i => f (t + i) := by
  obtain ⟨d, rfl⟩ : ∃ d, n = t + d := ⟨n - t, by omega⟩
  apply List.ext_getElem?
  intro i
  rw [List.getElem?_drop]
  by_cases hi : i < d
  · simp [hi]
  · simp [hi]
theorem tab2_succ (f : Nat → Nat → Hw.Row) (K n : Nat) : (Hw.tab2 (n + 1) K f).flatten = (Hw.tab2 n K f).flatten ++ Hw.tab K (f n) := by
  unfold Hw.tab2
  rw [List.range_succ, List.map_append, List.flatten_append]
  simp
theorem tab2_len' (f : Nat → Nat → Hw.Row) (M n : Nat) : ((Hw.tab2 n M f).flatten).length = n * M := Hw.tab2_len f M n
theorem good_of {c : Hw.B} (h : BasinOk c) (k : RightsOk c) : Good c := ⟨(bok2 h k).ok, h.m.1, by have := h.n; omega, h.m.2, by have := k.nr; omega⟩
theorem good_cut {c : Hw.B} (h : Good c) {t : Nat} (h1 : 1 ≤ t) (h2 : t ≤ c.months) : Good (Hw.cut c t) := ⟨Hw.bok_cut h.ok t, h1, h.n4, by have := h.m4; show t ≤ 4; omega, h.r4⟩
abbrev N_law : List Str := ["_law_script", "_law_box", "_law_basin_here", "_law_rights_here", "_law_turn", "_law_plan", "_law_many", "_law_short", "_law_told", "_law_fewer", "_law_part", "_law_row", "_law_later", "_law_found", "_law_ahead", "_law_old", "_law_origin"]
theorem sc_law : FnScope N_law ["_law_script"] (defScope s_law) := ⟨rfl, rfl, rfl, by decide +kernel, rfl, by decide +kernel, by decide +kernel⟩
def sp_law (K : PySem.W.Frag) : Sp := fun vs H Q _ => ∃ (B : Hp) (a : Addr) (ns : List Int), vs = [.ref a] ∧ Sub B H ∧ SqL K B a (ns.map V.int) ∧ ∀ H', Q (.bl true) H'
theorem ok_law (T : Txt mg) {f : Addr} {fd : FuncData} (F : Fun K "law" "law" s_law f fd) (h__law_digits : Has P w K mg base 2 "_law_digits" ["_law_script", "_law_first", "_law_last"] (spE (fun i : Addr × List Int => rScr K i.1 i.2) tt_law_digits))
    (h__law_draw : Has P w K mg base 1 "_law_draw" ["_law_box", "_law_many"] (spE rBx tt_law_draw)) (h__law_basin : Has P w K mg base 2 "_law_basin" ["_law_box"] (spE rBx tt_law_basin))
    (h__law_rights : Has P w K mg base 3 "_law_rights" ["_law_box", "_law_basin_here", "_law_most"] (spE rBx tt_law_rights)) (h__law_drawn_plan : Has P w K mg base 2 "_law_drawn_plan" ["_law_box", "_law_basin_here", "_law_rights_here"] (spE rBx tt_law_drawn_plan))
    (h__law_cut : Has P w K mg base 1 "_law_cut" ["_law_basin_here", "_law_rights_here", "_law_plan", "_law_many"] (spD r0 tt_law_cut)) (h_parcels : Has P w K mg base 9 "parcels" ["basin", "rights", "plan"] (spD r0 tt_parcels))
    (h__law_same : HasG P w K mg base 1 "_law_same" ["_law_actual", "_law_due"] (spD r0 tt_law_same)) (h__law_origins : Has P w K mg base 1 "_law_origins" ["_law_rows_here"] spO) :
    FnG P w K mg base 10 f fd ["_law_script"] (sp_law K) := by
  refine fnG_of F sc_law (by rintro vs H Q E ⟨B, a, ns, rfl, _⟩; rfl) fun cdv A outer s H vs Q E hr hg h => ⟨_, (pss_cons (ps_set (i := 1) sc_law.nd rfl (Or.inl rfl) (pe_lst (pa_cons (pe_has h__law_digits (hr.mono (by decide)) rfl (pa_cons (pv 0) (pa_cons pe_int (pa_cons pe_int pa_nil)))) (pa_cons pe_int pa_nil))))
  (pss_cons (ps_set (i := 2) sc_law.nd rfl (Or.inl rfl) (pe_has h__law_basin (hr.mono (by decide)) rfl (pa_cons (pv 1) pa_nil)))
  (pss_cons (ps_set (i := 3) sc_law.nd rfl (Or.inl rfl) (pe_has h__law_rights (hr.mono (by decide)) rfl (pa_cons (pv 1) (pa_cons (pv 2) (pa_cons pe_int pa_nil)))))
  (pss_cons (ps_if (pt_cmpR op_eq (pe_ix (ixq K) (pv 2) pe_int (fun _ _ => rfl)) pe_int (nomark _)) (pss_one (ps_ret pe_bl)) pss_nil)
  (pss_cons (ps_for PassesOwn.never rfl (pi_range1 rfl T.range (pa_cons pe_int pa_nil)) (pg_name (i := 4) sc_law.nd rfl (Or.inl rfl)) (pss_cons (ps_set (i := 5) sc_law.nd rfl (Or.inl rfl) (pe_has h__law_drawn_plan (hr.mono (by decide)) rfl (pa_cons (pv 1) (pa_cons (pv 2) (pa_cons (pv 3) pa_nil)))))
  (pss_cons (ps_set (i := 6) sc_law.nd rfl (Or.inr rfl) (pe_op op_add pe_int (pe_op op_mod (pe_callTy call_int1 (by rfl) T.int (by decide +kernel) (pa_cons (pe_has h__law_draw (hr.mono (by decide)) rfl (pa_cons (pv 1) (pa_cons pe_int pa_nil))) pa_nil)) (pe_op op_sub (pe_ix (ixq K) (pv 2) pe_int (fun _ _ => rfl)) pe_int))))
  (pss_cons (ps_set (i := 7) sc_law.nd rfl (Or.inl rfl) (pe_has h__law_cut (hr.mono (by decide)) rfl (pa_cons (pv 2) (pa_cons (pv 3) (pa_cons (pv 5) (pa_cons (pv 6) pa_nil))))))
  (pss_cons (ps_set (i := 8) sc_law.nd rfl (Or.inl rfl) (pe_has h_parcels (hr.mono (by decide)) rfl (pa_cons (pv 2) (pa_cons (pv 3) (pa_cons (pv 5) pa_nil)))))
  (pss_cons (ps_set (i := 9) sc_law.nd rfl (Or.inl rfl) (pe_has h_parcels (hr.mono (by decide)) rfl (pa_cons (pe_ix (ixq K) (pv 7) pe_int (fun _ _ => rfl)) (pa_cons (pe_ix (ixq K) (pv 7) pe_int (fun _ _ => rfl)) (pa_cons (pe_ix (ixq K) (pv 7) pe_int (fun _ _ => rfl)) pa_nil)))))
  (pss_cons (ps_for PassesOwn.never rfl (pi_listq K (pe_lst (pa_cons pe_int (pa_cons pe_int pa_nil)))) (pg_name (i := 10) sc_law.nd rfl (Or.inl rfl)) (pss_one (ps_if (pt_not (pt_val (pe_hasG h__law_same hg (hr.mono (by decide)) rfl (pa_cons (pe_callTy (tupq K) (by rfl) T.tuple (by decide +kernel) (pa_cons (pe_lc (own := [("_law_row", 11)]) rfl sc_law.nd (pi_tupq K (pe_ix (ixq K) (pv 8) (pv 10) (fun _ _ => rfl))) (blkOk_by (own := [("_law_row", 11)]) (N := N_law) (sc := (defScope s_law)) (by decide +kernel)) (fun _ _ _ _ _ => (pg_name (i := 11) sc_law.nd rfl (Or.inl rfl))) (fun _ _ _ _ _ => pts_nil) (fun _ _ _ _ _ => (pe_slice (slq K) (pv 11) po_none (po_some (pv 6))))) pa_nil)) (pa_cons (pe_ix (ixq K) (pv 9) (pv 10) (fun _ _ => rfl)) pa_nil))))) (pss_one (ps_ret pe_bl)) pss_nil)))
  (pss_cons (ps_set (i := 12) sc_law.nd rfl (Or.inl rfl) (pe_callTy (listq K) (by rfl) T.list (by decide +kernel) (pa_cons (pe_ix (ixq K) (pv 8) pe_int (fun _ _ => rfl)) pa_nil)))
  (pss_cons (ps_for PassesOwn.never rfl (pi_tupq K (pe_op (catq K) (pe_ix (ixq K) (pv 8) pe_int (fun _ _ => rfl)) (pe_ix (ixq K) (pv 8) pe_int (fun _ _ => rfl)))) (pg_name (i := 11) sc_law.nd rfl (Or.inl rfl)) (pss_one (ps_set (i := 12) sc_law.nd rfl (Or.inl rfl) (pe_op op_cat (pv 12) (pe_callTy (listq K) (by rfl) T.list (by decide +kernel) (pa_cons (pe_slice (slq K) (pv 11) (po_some (pv 6)) po_none) pa_nil))))))
  (pss_cons (ps_for PassesOwn.never rfl (pi_tupq K (pe_ix (ixq K) (pv 8) pe_int (fun _ _ => rfl))) (pg_name (i := 11) sc_law.nd rfl (Or.inl rfl)) (pss_one (ps_set (i := 12) sc_law.nd rfl (Or.inl rfl) (pe_op op_cat (pv 12) (pe_callTy (listq K) (by rfl) T.list (by decide +kernel) (pa_cons (pv 11) pa_nil))))))
  (pss_cons (ps_set (i := 13) sc_law.nd rfl (Or.inr rfl) (pe_has h__law_origins (hr.mono (by decide)) rfl (pa_cons (pv 12) pa_nil)))
  (pss_cons (ps_set (i := 14) sc_law.nd rfl (Or.inl rfl) (pe_ix (ixq K) (pv 9) pe_int (fun _ _ => rfl)))
  (pss_cons (ps_for PassesOwn.never rfl (pi_tupq K (pe_ix (ixq K) (pv 9) pe_int (fun _ _ => rfl))) (pg_name (i := 11) sc_law.nd rfl (Or.inl rfl)) (pss_one (ps_set (i := 14) sc_law.nd rfl (Or.inl rfl) (pe_op (catq K) (pv 14) (pv 11)))))
  (pss_cons (ps_lock (ps_setLc (i := 15) (own := [("_law_origin", 16)]) rfl sc_law.nd rfl rfl (sw_true rfl rfl rfl (by decide +kernel)) (pi_keys (pv 13)) (blkOk_by (own := [("_law_origin", 16)]) (N := N_law) (sc := (defScope s_law)) (by decide +kernel)) (fun _ _ _ _ _ => (pg_name (i := 16) sc_law.nd rfl (Or.inl rfl))) (fun _ _ _ _ _ => (pts_one (PW.pt (pw_or (pt_cmpR op_eq (pe_ix (ixq K) (pv 16) pe_int (fun _ _ => rfl)) pe_str (nomark _)) (pw_or1 (pt_cmpR op_lt (pe_ix (ixq K) (pv 16) pe_int (fun _ _ => rfl)) (pv 6) (nomark _))))))) (fun _ _ _ _ _ => (pv 16))))
  (pss_one (ps_if (pt_cmpR (op_neO (hu_of hr)) (pe_callTy (call_dictO rfl (Nat.lt_of_le_of_lt (Nat.add_le_add_left (by decide : 3 ≤ 64) _) hr.units)) (by rfl) T.dict (by decide +kernel) (pa_cons (pe_lc (own := [("_law_origin", 16)]) rfl sc_law.nd (pi_listq K (pv 15)) (blkOk_by (own := [("_law_origin", 16)]) (N := N_law) (sc := (defScope s_law)) (by decide +kernel)) (fun _ _ _ _ _ => (pg_name (i := 16) sc_law.nd rfl (Or.inl rfl))) (fun _ _ _ _ _ => pts_nil) (fun _ _ _ _ _ => (pe_tup (pa_cons (pv 16) (pa_cons (pe_dget (hu_of hr) (pv 13) (pv 16) (fun _ _ => rfl)) pa_nil))))) pa_nil)) (pe_has h__law_origins (hr.mono (by decide)) rfl (pa_cons (pv 14) pa_nil)) (nomark _)) (pss_one (ps_ret pe_bl)) pss_nil))))))))))))))))
  (pss_one (ps_ret pe_bl))))))), ?_⟩
  obtain ⟨B, a, ms, rfl, sb, hs, hq⟩ := h
  have start : At (rScr K a ms) B H B H (L2.start N_law [.ref a]) (slots N_law.length [.raw (.ref a)]) := by
    refine ⟨slots_ok (r := rScr K a ms) (N := N_law) sb (fun _ (z : False) => z.elim) (fun _ (z : False) => z.elim) hs (.cons rfl .nil), fun i s l h1 h2 => ?_, .refl sb⟩
    have := noOwn_of (sl := slots N_law.length [.raw (.ref a)]) rfl s (List.mem_of_getElem? h1)
    rw [this] at h2; cases h2
  suffices main : SxE r0 (fun _ : Unit => rScr K a ms) () _ (slots N_law.length [.raw (.ref a)]) (endOf fun d => d = .bl true) from
    main B H B H _ _ start (fun x m => m.elim) ⟨fun _ _ _ _ z _ => (by cases z), fun B2 H2 v ⟨d, rd, hd⟩ _ _ => (by
      subst hd
      cases (show v = .bl true from rd)
      exact hq H2), fun _ _ _ _ z => z.elim, fun _ _ _ _ z => z.elim⟩
  refine sxe_box (a := a) (ms := ms) (noOwn_of rfl) (ev_callE (a, ms) (Compat.refl _) ?_)
  walk_at "ev"
  refine ⟨rfl, fun ns _ => ⟨ns, rfl, fun b l => sxe_sx ?_⟩⟩
  refine sx_seq (sx_set (ev_callE ⟨b, l, ns⟩ (Compat.refl _) ?_))
  walk_at "ev"
  refine ⟨rfl, fun c0 hc0 => ?_⟩
  refine sx_seq (sx_set (ev_callE ⟨b, l, ns⟩ (Compat.refl _) ?_))
  walk_at "ev"
  refine ⟨c0, rfl, hc0, fun nr rs dem g1 g2 g3 => ?_⟩
  obtain ⟨c, hcd⟩ : ∃ c, c = setR c0 nr rs dem := ⟨_, rfl⟩
  have hc : BasinOk c := by rw [hcd]; exact ⟨hc0.n, hc0.m, fun k => ⟨(hc0.site k).next, (hc0.site k).travel, (hc0.site k).reach, (hc0.site k).room, (hc0.site k).held, (hc0.site k).inflow⟩⟩
  have hr3 : RightsOk c := by rw [hcd]; exact ⟨g1, g2, g3⟩
  have eB : dB c0 = dB c := by rw [hcd]; rfl
  rw [← hcd, eB]
  clear hcd eB g1 g2 g3 hc0
  have hgood := good_of hc hr3
  have hb2 := bok2 hc hr3
  have hn := hc.n
  have hM := hc.m
  refine sx_cut (fun sl => c.months ≠ 1 ∧ sl = [.dat (.raw (.ref a)), .dat (.raw (.ref b)), .dat (dB c), .dat (dRs c), .no, .no, .no, .no, .no, .no, .no, .no, .no, .no, .no, .no, .no]) ?_ ?_
  · walk_at "ev"
    · rfl
    · exact ⟨by omega, rfl⟩
  rintro sl ⟨h1, rfl⟩
  refine sx_seq (sx_for (wk_rng1 ?_))
  walk_at "ev"
  refine ⟨2, rfl, by decide, fun i sl => ∃ x4 x5 x6 x7 x8 x9 x10 x11 x12 x13 x14 x15 x16 : Sl, sl = [.dat (.raw (.ref a)), .dat (.raw (.ref b)), .dat (dB c), .dat (dRs c), x4, x5, x6, x7, x8, x9, x10, x11, x12, x13, x14, x15, x16], ⟨_, _, _, _, _, _, _, _, _, _, _, _, _, rfl⟩, ?_, ?_⟩
  case refine_2 =>
    rintro sl ⟨x4, x5, x6, x7, x8, x9, x10, x11, x12, x13, x14, x15, x16, rfl⟩
    walk_at "ev"
    rfl
  rintro i sl _ ⟨x4, x5, x6, x7, x8, x9, x10, x11, x12, x13, x14, x15, x16, rfl⟩
  refine gx_name (sx_seq (sx_set (ev_callE ⟨b, l, ns⟩ (Compat.refl _) ?_)))
  walk_at "ev"
  refine ⟨c, rfl, hc, hr3, fun p hp => ?_⟩
  refine sx_seq (sx_set ?_)
  walk_at "ev"
  refine ev_callE ⟨b, l, ns⟩ (Compat.refl _) ?_
  walk_at "ev"
  refine ⟨90, rfl, by decide, fun y hy0 hy1 => ?_⟩
  walk_at "ev"
  obtain ⟨t, ht, ht1, htM⟩ : ∃ t : Nat, 1 + y % ((c.months : Int) - 1) = (t : Int) ∧ 1 ≤ t ∧ t < c.months := by
    have q0 := Int.emod_nonneg y (show ((c.months : Int) - 1) ≠ 0 by omega)
    have q1 := Int.emod_lt_of_pos y (show (0 : Int) < (c.months : Int) - 1 by omega)
    exact ⟨(1 + y % ((c.months : Int) - 1)).toNat, by omega, by omega, by omega⟩
  rw [ht]
  clear ht
  obtain ⟨P0, hP0⟩ : ∃ P0, P0 = Hw.toPl p := ⟨_, rfl⟩
  have pok : Hw.POk P0 := by rw [hP0]; exact ⟨fun r m => (hp.bd 0 r m).1, fun r m => (hp.bd 1 r m).1, fun r m => (hp.bd 2 r m).1⟩
  have hps : Hw.PS P0 := ⟨pok, by rw [hP0]; exact fun r m => (hp.bd 0 r m).2, by rw [hP0]; exact fun r m => (hp.bd 1 r m).2, by rw [hP0]; exact fun r m => (hp.bd 2 r m).2⟩
  have hright : Hw.RightP c P0 := by rw [hP0]; exact hp.right
  rw [← hP0]
  clear hP0 hp p
  refine ev_call (Compat.pure _) ?_
  walk_at "ev"
  refine ⟨c, P0, t, rfl, by omega, by have := hr3.nr; omega, hM.2, by omega, ?_⟩
  refine sx_seq (sx_set (ev_call (Compat.pure _) ?_))
  walk_at "ev"
  refine ⟨c, P0, rfl, hgood, hright, hn.2, ?_⟩
  refine sx_seq (sx_set (ev_call (Compat.pure _) ?_))
  walk_at "ev"
  refine ⟨Hw.cut c t, P0, rfl, good_cut hgood ht1 (by omega), hright.cut (by omega), hn.2, ?_⟩
  rw [Hw.run_cut]
  obtain ⟨S, hS⟩ : ∃ S, S = Hw.run c P0 c.months := ⟨_, rfl⟩
  obtain ⟨S2, hS2⟩ : ∃ S2, S2 = Hw.run c P0 t := ⟨_, rfl⟩
  have hbs : Hw.BS c := ⟨hb2.ok, hn.2, fun k => (hc.site k).held.2, fun k m => ((hc.site k).inflow m).2⟩
  have lenS : Hw.LenOk c S := by rw [hS]; exact Hw.run_len hb2.ok hn.2 P0 hM.2
  have lenS2 : Hw.LenOk c S2 := by rw [hS2]; exact Hw.run_len hb2.ok hn.2 P0 (by omega)
  have smS : Hw.StS S := by rw [hS]; exact Hw.run_S hbs hps hM.2
  have over : ∀ m, m < t → (∀ r, S.given r m = S2.given r m) ∧ (∀ k, S.spilled k m = S2.spilled k m) := fun m hm => by
    have z := Hw.run_over c P0 (M := t) (M' := c.months) (m := m) (by omega) hm
    rw [hS, hS2]
    exact ⟨z.1, z.2.2.2⟩
  have law := fun o => Hw.law_tables hb2.ok pok ht1 (show t ≤ c.months by omega) o
  rw [← hS, ← hS2] at law
  show Sx _ _ [.dat (.raw (.ref a)), .dat (.raw (.ref b)), .dat (dB c), .dat (dRs c), _, _, .dat (.int t), _, .dat (dTold c (Hw.run c P0 c.months) c.months), .dat (dTold (Hw.cut c t) (Hw.run c P0 t) t), x10, x11, x12, x13, x14, x15, x16] _
  rw [← hS, ← hS2]
  have htold : (⟨c.nr, c.months, S.given⟩ : Nat × Nat × (Nat → Nat → Hw.Row)) = ⟨c.nr, c.months, S.given⟩ := rfl
  -- what the rights get and what is spilled
  refine sx_seq (sx_for (wk_list ?_))
  walk_at "ev"
  refine ⟨_, 2, fun i => .int ((2 * i : Nat) : Int), rfl, rfl, fun i hi => ?_, fun i sl => ∃ x4 x5 x7 x10 x11, sl = [.dat (.raw (.ref a)), .dat (.raw (.ref b)), .dat (dB c), .dat (dRs c), x4, x5, .dat (.int t), x7, .dat (dTold c S c.months), .dat (dTold (Hw.cut c t) S2 t), x10, x11, x12, x13, x14, x15, x16], ⟨_, _, _, _, _, rfl⟩, ?_, ?_⟩
  · match i, hi with
    | 0, _ => rfl
    | 1, _ => rfl
  · rintro j sl hj ⟨x4, x5, x7, x10, x11, rfl⟩
    obtain ⟨nn, F, G, hnn, e1, e2, hFG, hsm⟩ : ∃ (nn : Nat) (F G : Nat → Nat → Hw.Row), nn ≤ 3 ∧ atI [dTab c.nr c.months S.given, .tup ((List.range c.n).map fun k => dRowT (S.stored k (c.months - 1))), dTab c.n c.months S.spilled, dTab c.n c.months (Hw.lostAt c S c.months)] ((2 * j : Nat) : Int) = some (dTab nn c.months F) ∧
        atI [dTab c.nr t S2.given, .tup ((List.range c.n).map fun k => dRowT (S2.stored k (t - 1))), dTab c.n t S2.spilled, dTab c.n t (Hw.lostAt (Hw.cut c t) S2 t)] ((2 * j : Nat) : Int) = some (dTab nn t G) ∧
        (∀ k m, k < nn → m < t → F k m = G k m) ∧ ∀ k m, k < nn → m < t → Hw.RowS 1000 (F k m) ∧ (F k m).length ≤ 125 := by
      match j, hj with
      | 0, _ => exact ⟨c.nr, S.given, S2.given, hr3.nr, atI_nat (j := 0) rfl, atI_nat (j := 0) rfl, fun k m _ hm => (over m hm).1 k, fun k m _ hm => ⟨(smS.given k m).mono (by decide), Hw.to125 (by have := hr3.rs k; omega) (show m < 4 by omega) (lenS.given k m)⟩⟩
      | 1, _ => exact ⟨c.n, S.spilled, S2.spilled, hn.2, atI_nat (j := 2) rfl, atI_nat (j := 2) rfl, fun k m _ hm => (over m hm).2 k, fun k m hk hm => ⟨smS.spilled k m, Hw.to125 (show k < 3 by omega) (show m < 4 by omega) (lenS.spilled k m)⟩⟩
    refine gx_name (sx_if (et_not (et_B (ev_call (Compat.pure _) (ea_cons (ev_cb (ea_cons ?_)))))))
    refine ev_lc (wk_tup (ev_op (ev_var _ rfl (ev_var _ rfl (od_ix1 _ e1 ?_)))))
    refine ⟨_, nn, fun k => .tup ((List.range c.months).map fun m => dRowT (F k m)), rfl, by simp, fun i hi => by simp [hi], by omega, fun i acc => acc = (List.range i).map fun k => .tup ((List.range t).map fun m => dRowT (F k m)), rfl, ?_, ?_⟩
    · rintro k acc hk _ rfl
      refine cg_name (by decide) ?_
      walk_at "ev"
      refine ev_slHi ?_
      walk_at "ev"
      refine ⟨_, rfl, ?_⟩
      walk_at "ev"
      refine ⟨t, rfl, ?_⟩
      rw [take_range _ (by omega)]
      dsimp only
      rw [List.range_succ, List.map_append]; rfl
    · rintro acc rfl
      refine ea_nil (ca_tuple (ea_cons (ev_op (ev_var _ rfl (ev_var _ rfl (od_ix1 _ e2 (ea_nil ?_)))))))
      refine ⟨dTab nn t F, ?_, ⟨_, rfl⟩, nr_tab nn t F, sh_tab hnn (by omega) hsm, true, rfl, if_nt (sx_next ?_)⟩
      · show [dTab nn t F, dTab nn t G] = [dTab nn t F, dTab nn t F]
        rw [← tab_congr hFG]
      · exact ⟨_, _, _, _, _, rfl⟩
  rintro sl ⟨x4, x5, x7, x10, x11, rfl⟩
  -- the later rows
  refine sx_seq (sx_set ?_)
  walk_at "ev"
  obtain ⟨base0, hbase⟩ : ∃ base0 : List Hw.Row, base0 = Hw.tab c.n fun k => S.stored k (c.months - 1) := ⟨_, rfl⟩
  obtain ⟨Hh, hHh⟩ : ∃ Hh : Nat → Nat → Hw.Row, Hh = fun i => if i < c.nr then S.given i else S.spilled (i - c.nr) := ⟨_, rfl⟩
  have lbase : base0.length = c.n := by rw [hbase]; simp [Hw.tab]
  have n1 := hn.2
  have n2 := hr3.nr
  have e0 : D.list ((List.range c.n).map fun k => dRowT (S.stored k (c.months - 1))) = .list (base0.map dRowT) := by rw [hbase]; unfold Hw.tab; rw [List.map_map]; rfl
  rw [e0]
  refine sx_for (wk_tup ?_)
  walk_at "ev"
  have hcat : ((List.range c.nr).map fun k => D.tup ((List.range c.months).map fun m => dRowT (S.given k m))) ++ ((List.range c.n).map fun k => D.tup ((List.range c.months).map fun m => dRowT (S.spilled k m))) = (List.range (c.nr + c.n)).map fun i => D.tup ((List.range c.months).map fun m => dRowT (Hh i m)) := by
    rw [range_cat]
    refine List.map_congr_left fun i _ => ?_
    rw [hHh]
    dsimp only
    split <;> rfl
  refine od_catA (by simp only [List.length_map, List.length_range]; omega) ?_
  rw [hcat]
  refine ⟨_, c.nr + c.n, fun i => .tup ((List.range c.months).map fun m => dRowT (Hh i m)), rfl, by simp, fun i hi => by simp [hi], fun i sl => ∃ x4 x5 x7 x10 x11, sl = [.dat (.raw (.ref a)), .dat (.raw (.ref b)), .dat (dB c), .dat (dRs c), x4, x5, .dat (.int t), x7, .dat (dTold c S c.months), .dat (dTold (Hw.cut c t) S2 t), x10, x11,
    .dat (.list ((base0 ++ (Hw.tab2 i (c.months - t) fun r j => Hh r (t + j)).flatten).map dRowT)), x13, x14, x15, x16], ⟨x4, x5, x7, x10, x11, by simp [Hw.tab2]⟩, ?_, ?_⟩
  · rintro k sl hk ⟨x4, x5, x7, x10, x11, rfl⟩
    refine gx_name (sx_set ?_)
    walk_at "ev"
    refine ev_slLo ?_
    walk_at "ev"
    refine ⟨_, rfl, ?_⟩
    walk_at "ev"
    refine ⟨t, rfl, ?_⟩
    rw [drop_range _ (by omega)]
    walk_at "ev"
    have l1 := tab2_len' (fun r j => Hh r (t + j)) (c.months - t) k
    have l2 := Nat.mul_le_mul (show k ≤ 6 by omega) (show c.months - t ≤ 4 by omega)
    refine od_cat (by simp only [List.length_map, List.length_range, List.length_append]; omega) ?_
    refine ⟨x4, x5, x7, x10, .dat (.tup ((List.range c.months).map fun m => dRowT (Hh k m))), ?_⟩
    rw [tab2_succ, ← List.append_assoc, List.map_append (l₁ := base0 ++ _)]
    unfold Hw.tab
    rw [List.map_map (l := List.range (c.months - t))]
    rfl
  rintro sl ⟨x4, x5, x7, x10, x11, rfl⟩
  refine sx_seq (sx_for (wk_tup ?_))
  walk_at "ev"
  obtain ⟨base1, hbase1⟩ : ∃ base1 : List Hw.Row, base1 = base0 ++ (Hw.tab2 (c.nr + c.n) (c.months - t) fun r j => Hh r (t + j)).flatten := ⟨_, rfl⟩
  rw [← hbase1]
  have lbase1 : base1.length ≤ 100 := by
    have l1 := tab2_len' (fun r j => Hh r (t + j)) (c.months - t) (c.nr + c.n)
    have l2 := Nat.mul_le_mul (show c.nr + c.n ≤ 6 by omega) (show c.months - t ≤ 4 by omega)
    rw [hbase1, List.length_append]
    omega
  refine ⟨_, c.n, fun i => .tup ((List.range c.months).map fun m => dRowT (Hw.lostAt c S c.months i m)), rfl, by simp, fun i hi => by simp [hi], fun i sl => ∃ x4 x5 x7 x10 x11, sl = [.dat (.raw (.ref a)), .dat (.raw (.ref b)), .dat (dB c), .dat (dRs c), x4, x5, .dat (.int t), x7, .dat (dTold c S c.months), .dat (dTold (Hw.cut c t) S2 t), x10, x11,
    .dat (.list ((base1 ++ (Hw.tab2 i c.months (Hw.lostAt c S c.months)).flatten).map dRowT)), x13, x14, x15, x16], ⟨x4, x5, x7, x10, x11, by simp [Hw.tab2]⟩, ?_, ?_⟩
  · rintro k sl hk ⟨x4, x5, x7, x10, x11, rfl⟩
    refine gx_name (sx_set ?_)
    walk_at "ev"
    have l1 := tab2_len' (Hw.lostAt c S c.months) c.months k
    have l2 := Nat.mul_le_mul (show k ≤ 3 by omega) hM.2
    refine od_cat (by simp only [List.length_map, List.length_range, List.length_append]; omega) ?_
    refine ⟨x4, x5, x7, x10, .dat (.tup ((List.range c.months).map fun m => dRowT (Hw.lostAt c S c.months k m))), ?_⟩
    rw [tab2_succ, ← List.append_assoc, List.map_append (l₁ := base1 ++ _)]
    unfold Hw.tab
    rw [List.map_map (l := List.range c.months)]
    rfl
  rintro sl ⟨x4, x5, x7, x10, x11, rfl⟩
  have elater : base1 ++ (Hw.tab2 c.n c.months (Hw.lostAt c S c.months)).flatten = Hw.laterRows c S t c.months := by
    rw [hbase1, hbase]
    unfold Hw.laterRows
    congr 1
    have z := tab2_cat (fun r i => S.given r (t + i)) (fun k i => S.spilled k (t + i)) (c.months - t) c.nr c.n
    rw [List.append_assoc, z]
    congr 3
    funext r i
    rw [hHh]
    dsimp only
    split <;> rfl
  rw [elater]
  have rts : Hw.Rts c := ⟨n2, fun r => by have := hr3.rs r; omega⟩
  have sm1 := Hw.later_small hn.2 rts lenS (T := t) (M := c.months) (by omega) hM.2 hM.1
  have sm2 := Hw.ahead_small hn.2 lenS2 (T := t) (by omega) ht1
  refine sx_seq (sx_callO rfl sm1 fun l2 => ?_)
  -- the rows ahead
  refine sx_seq (sx_set ?_)
  walk_at "ev"
  obtain ⟨base2, hbase2⟩ : ∃ base2 : List Hw.Row, base2 = Hw.tab c.n fun k => S2.stored k (t - 1) := ⟨_, rfl⟩
  have lbase2 : base2.length = c.n := by rw [hbase2]; simp [Hw.tab]
  have e2 : D.tup ((List.range c.n).map fun k => dRowT (S2.stored k (t - 1))) = .tup (base2.map dRowT) := by rw [hbase2]; unfold Hw.tab; rw [List.map_map]; rfl
  show Sx _ _ [.dat (.raw (.ref a)), .dat (.raw (.ref b)), .dat (dB c), .dat (dRs c), x4, x5, .dat (.int t), x7, .dat (dTold c S c.months), .dat (dTold (Hw.cut c t) S2 t), x10, x11, _, .ownD l2 _, .dat (.tup ((List.range c.n).map fun k => dRowT (S2.stored k (t - 1)))), x15, x16] _
  rw [e2]
  refine sx_for (wk_tup ?_)
  walk_at "ev"
  refine ⟨_, c.n, fun i => .tup ((List.range t).map fun m => dRowT (Hw.lostAt c S2 t i m)), rfl, (by simp; rfl), fun i hi => get_map (f := fun i => D.tup ((List.range t).map fun m => dRowT (Hw.lostAt c S2 t i m))) hi, fun i sl => ∃ x4 x5 x7 x10 x11 x12, sl = [.dat (.raw (.ref a)), .dat (.raw (.ref b)), .dat (dB c), .dat (dRs c), x4, x5, .dat (.int t), x7, .dat (dTold c S c.months), .dat (dTold (Hw.cut c t) S2 t), x10, x11, x12,
    .ownD l2 ((Hw.orgs (Hw.laterRows c S t c.months).flatten).map encO), .dat (.tup ((base2 ++ (Hw.tab2 i t (Hw.lostAt c S2 t)).flatten).map dRowT)), x15, x16], ⟨x4, x5, x7, x10, x11, _, by simp [Hw.tab2]; rfl⟩, ?_, ?_⟩
  · rintro k sl hk ⟨x4, x5, x7, x10, x11, x12, rfl⟩
    refine gx_name (sx_set ?_)
    walk_at "ev"
    have l1 := tab2_len' (Hw.lostAt c S2 t) t k
    have l2 := Nat.mul_le_mul (show k ≤ 3 by omega) (show t ≤ 4 by omega)
    refine od_catA (by simp only [List.length_map, List.length_range, List.length_append]; omega) ?_
    refine ⟨x4, x5, x7, x10, .dat (.tup ((List.range t).map fun m => dRowT (Hw.lostAt c S2 t k m))), x12, ?_⟩
    rw [tab2_succ, ← List.append_assoc, List.map_append (l₁ := base2 ++ _)]
    unfold Hw.tab
    rw [List.map_map (l := List.range t)]
    rfl
  rintro sl ⟨x4, x5, x7, x10, x11, x12, rfl⟩
  have eahead : base2 ++ (Hw.tab2 c.n t (Hw.lostAt c S2 t)).flatten = Hw.aheadRows c S2 t := by rw [hbase2]; rfl
  rw [eahead]
  have nd1 := Hw.orgs_nd (Hw.laterRows c S t c.months).flatten
  have nd2 := Hw.orgs_nd (Hw.aheadRows c S2 t).flatten
  have lT : (Hw.orgs (Hw.laterRows c S t c.months).flatten).length ≤ 50000 := by
    have z := ofold_len (Hw.laterRows c S t c.months).flatten []
    have z2 : (Hw.orgs (Hw.laterRows c S t c.months).flatten).length ≤ 0 + (Hw.laterRows c S t c.months).flatten.length := z
    omega
  refine tail_sx (K := K) (l := l2) (T := Hw.orgs (Hw.laterRows c S t c.months).flatten) (rows := Hw.aheadRows c S2 t) (t := t) rfl rfl rfl rfl lT sm2 nd1 ?_ (fun o v e => ?_) ?_
  · exact Hw.same_len (Hw.filter_nd _ nd1) nd2 law
  · exact (law o).symm.trans e
  · exact ⟨_, _, _, _, _, _, _, _, _, _, _, _, _, rfl⟩

/-! ## D23 -/
open PyProof.Rows
/-! ### the law is called -/
section
variable {fa a : Addr} {fd : FuncData} {x : Str} {s1 : Shared} {vs : List Value} {ns : List Int} {mb : Str → Option Value}
abbrev LawEnd (s1 : Shared) : Result → Shared → Prop := fun r s' => r = .ok (.ret (.bool true)) ∧ OldK s1.heap s'.heap ∧ s'.os = s1.os ∧ AllBare s'.gens
theorem call_from {H : Hp} (KX : K.In s1.heap) (hns : s1.heap.Ns mainGlobals mg) (hb : s1.heap.Ns builtinsNs mb) (hbb : ∀ x : Str, x ≠ "__name__" → mb x = bootBuiltins x) (hlim : s1.heap.NoLimit) (hg : s1.gens = #[])
    (ha : s1.heap.get? a = some { cls := .type "list", data := .seq vs.toArray }) (only : ∀ b, b ≠ a → H b = none) (frz : ∀ u, H a = some u → ∃ o xs, u = .frz o (.lst xs)) (hS : SqL K H a (ns.map V.int)) (hok : HOk P w H s1.heap) (hK : H a ≠ none → K.lookup a = none)
    (F : ∀ base : Heap, K.In base → base.Ns mainGlobals mg → FnG P w K mg base 10 fa fd [x] (sp_law K)) (hbind : ∀ (s : Shared) (u : Value), BindsTo s fd ⟨[u], []⟩ [(x, u)]) :
    codeAny (model P w) callerA (.call (.ref fa) ⟨[.ref a], []⟩) (LawEnd s1) s1 := by
  have hid : ∀ {b : Addr} {o : Obj}, s1.heap.get? b = some o → H b = none → (hidT s1.heap H).get? b = some o := fun e n => hidT_get e n
  have dict_free : ∀ {b : Addr} {o : Obj} {es : Array DictEntry} {ep : Nat}, s1.heap.get? b = some o → o.data = .dict es ep → H b = none := by
    intro b o es ep e d
    by_cases z : b = a
    · rw [z, ha] at e
      cases e
      cases (show Data.seq vs.toArray _ = Data.dict es ep from d)
    · exact only b z
  have ns_of : ∀ {b : Addr} {m : Str → Option Value}, s1.heap.Ns b m → (hidT s1.heap H).Ns b m := by
    rintro b m ⟨o, es, ep, e, d, r⟩
    exact ⟨o, es, ep, hid e (dict_free e d), d, r⟩
  have inK : K.In (hidT s1.heap H) := by
    intro b o e
    refine hid (KX b o e) ?_
    by_cases z : b = a
    · cases q : H a with
      | none => rw [z]; exact q
      | some u =>
        have n := hK (by rw [q]; simp)
        rw [z, n] at e; cases e
    · exact only b z
  obtain ⟨mc, m1, m2⟩ := hlim
  have md : Mod K mg (hidT s1.heap H) := ⟨inK, ns_of hns, ⟨mb, ns_of hb, hbb⟩, ⟨mc, ns_of m1, m2⟩⟩
  have env : Env0 P w K mg (hidT s1.heap H) callerA [] s1 H := ⟨rfl, md, fun b o e => of_hidT e, Nat.le_of_eq (hidT_size _ _), trivial, (fun b hb => by cases (show b ∈ ([] : List Addr) from hb)), hok, .of_eq hg⟩
  have run := (F _ inK (ns_of hns)).run callerA [] s1 H ⟨[.ref a], []⟩ [.ref a] [.ref a] (fun v _ => v = .bl true) (fun _ _ _ => False) ⟨rfl, by decide, by decide⟩ rfl env (hbind s1 (.ref a)) (.cons rfl .nil) ⟨H, a, ns, rfl, fun _ _ e => e, hS, fun _ => rfl⟩
  refine codeAny_mono run ?_
  intro r s' h
  cases r with
  | error e => exact h.elim
  | ok fl =>
    cases fl with
    | next => exact h.elim
    | brk => exact h.elim
    | cont => exact h.elim
    | ret u =>
      obtain ⟨v, H', os, bare, un, ok2, rv, hv⟩ := h
      have hv : v = .bl true := hv
      subst hv
      obtain rfl : u = Value.bool true := rv
      refine ⟨rfl, OldK.of_keep ?_, os, bare⟩
      intro b o e
      cases q : H b with
      | none => exact un.keep b o e q (by intro z; cases (show b ∈ ([] : List Addr) from z)) (by simp)
      | some u =>
        have z : b = a := Classical.byContradiction fun z => by rw [only b z] at q; cases q
        subst z
        obtain ⟨ob, xs, rfl⟩ := frz u q
        obtain ⟨g1, _⟩ := hok b _ q
        obtain ⟨g2, _⟩ := ok2 b _ (un.frzs b ob _ q)
        rw [e] at g1
        cases g1
        exact g2
theorem call_G (KX : K.In s1.heap) (hns : s1.heap.Ns mainGlobals mg) (hb : s1.heap.Ns builtinsNs mb) (hbb : ∀ x : Str, x ≠ "__name__" → mb x = bootBuiltins x) (hlim : s1.heap.NoLimit) (hg : s1.gens = #[])
    (ha : s1.heap.get? a = some { cls := .type "list", data := .seq vs.toArray }) (hi : IntsAre vs ns) (hl : ns.length ≤ sizeLine)
    (F : ∀ base : Heap, K.In base → base.Ns mainGlobals mg → FnG P w K mg base 10 fa fd [x] (sp_law K)) (hbind : ∀ (s : Shared) (u : Value), BindsTo s fd ⟨[u], []⟩ [(x, u)]) :
    codeAny (model P w) callerA (.call (.ref fa) ⟨[.ref a], []⟩) (LawEnd s1) s1 := by
  have rv := vals_ints hi
  cases hk : K.lookup a with
  | none =>
    obtain ⟨H, hH⟩ : ∃ H : Hp, H = upd (fun _ => none) a (.frz { cls := .type "list", data := .seq vs.toArray } (.lst (ns.map V.int))) := ⟨_, rfl⟩
    have at_ : H a = some (.frz { cls := .type "list", data := .seq vs.toArray } (.lst (ns.map V.int))) := by rw [hH]; exact upd_same
    have off : ∀ b, b ≠ a → H b = none := fun b z => by rw [hH, upd_ne z]
    refine call_from KX hns hb hbb hlim hg ha off (fun u e => ?_) (.inl (.inr ⟨_, at_⟩)) (fun b u e => ?_) (fun _ => hk) F hbind
    · rw [at_] at e; cases e; exact ⟨_, _, rfl⟩
    · by_cases z : b = a
      · subst z
        rw [at_] at e
        cases e
        exact ⟨ha, by rw [List.length_map]; exact hl, vs, _, rv, ha⟩
      · rw [off b z] at e; cases e
  | some o =>
    have e := KX a o hk
    rw [ha] at e
    cases e
    exact call_from (H := fun _ => none) KX hns hb hbb hlim hg ha (fun _ _ => rfl) (fun u e => by cases e) (.inr ⟨_, vs.toArray, _, hk, rfl, rfl, rfl, by rw [List.size_toArray, hi.length]; exact hl, by simpa using rv⟩) (fun b u e => by cases e) (fun z => absurd rfl z) F hbind
end
theorem walk_G {l : PySem.W.OpenLaw} {q : Program} {loose : List Str} {XP : (Str → Option Value) → Heap → Prop} {YP : World → Heap → Prop} {d : DefRec} {K : Params → PySem.W.Frag} (hn : l.most = some 63) (hdf : d.params.defaults = []) (hY : ∀ (w : World) (h : Heap), YP w h → (K w.params).In h)
    (F : ∀ (w : World) (mg : Str → Option Value) (fa : Addr) (h : Heap), (K w.params).In h → h.Ns mainGlobals mg → mg d.name = some (.ref fa) →
      ∃ fd : FuncData, (∀ (s : Shared) (u : Value), BindsTo s fd ⟨[u], []⟩ [("_law_script", u)]) ∧ ∀ base : Heap, (K w.params).In base → base.Ns mainGlobals mg → FnG l.prog w (K w.params) mg base 10 fa fd ["_law_script"] (sp_law (K w.params))) :
    PySem.W.WalkO q loose XP YP l.row.toRowW d [] (fun f vs => PySem.call f vs) := by
  refine Att.attach_call hn hdf fun w s₀ s₁ mg mb fa o pm cd doc a vs ns G Y ho hd hcd hmg hobj hints hlen hg => ?_
  obtain ⟨fd, hb, hF⟩ := F w mg fa _ (hY w _ Y) G.T.g hmg
  exact call_G (hY w _ Y) G.T.g G.T.b G.T.builtins G.T.nolimit hg hobj hints (Nat.le_trans hlen (by decide)) hF hb

/-! ## all together -/
theorem all_mk {l : PySem.W.OpenLaw} {w : World} {K : PySem.W.Frag} {h : Heap} {mg : Str → Option Value} {fa C f1 f2 f3 f4 f5 f6 f7 f8 f9 f10 f11 f12 f13 f14 f15 f16 f17 f18 f19 f20 f21 f22 f23 f24 f25 f26 f27 f28 f29 f30 f31 f32 : Addr} (X : K.In h) (G : h.Ns mainGlobals mg) (hfa : mg "law" = some (.ref fa))
    {od1 an1 od2 an2 od3 an3 od4 an4 od5 an5 od6 an6 od7 an7 od8 an8 od9 an9 od10 an10 od11 an11 od12 an12 od13 an13 od14 an14 od15 an15 od16 an16 od17 an17 od18 an18 od19 an19 od20 an20 od21 an21 od22 an22 od23 an23 od24 an24 od25 an25 od26 an26 od27 an27 od28 an28 od29 an29 od30 an30 od31 an31 od32 an32 : Option Addr} {sl1 sl2 sl3 sl4 sl5 sl6 sl7 sl8 sl9 sl10 sl11 sl12 sl13 sl14 sl15 sl16 sl17 sl18 sl19 sl20 sl21 sl22 sl23 sl24 sl25 sl26 sl27 sl28 sl29 sl30 sl31 sl32 : Array (Option Value)} {oc1 kV1 dc1 pm1 cd1 ct1 oc2 kV2 dc2 pm2 cd2 ct2 oc3 kV3 dc3 pm3 cd3 ct3 oc4 kV4 dc4 pm4 cd4 ct4 oc5 kV5 dc5 pm5 cd5 ct5 oc6 kV6 dc6 pm6 cd6 ct6 oc7 kV7 dc7 pm7 cd7 ct7 oc8 kV8 dc8 pm8 cd8 ct8 oc9 kV9 dc9 pm9 cd9 ct9 oc10 kV10 dc10 pm10 cd10 ct10 oc11 kV11 dc11 pm11 cd11 ct11 oc12 kV12 dc12 pm12 cd12 ct12 oc13 kV13 dc13 pm13 cd13 ct13 oc14 kV14 dc14 pm14 cd14 ct14 oc15 kV15 dc15 pm15 cd15 ct15 oc16 kV16 dc16 pm16 cd16 ct16 oc17 kV17 dc17 pm17 cd17 ct17 oc18 kV18 dc18 pm18 cd18 ct18 oc19 kV19 dc19 pm19 cd19 ct19 oc20 kV20 dc20 pm20 cd20 ct20 oc21 kV21 dc21 pm21 cd21 ct21 oc22 kV22 dc22 pm22 cd22 ct22 oc23 kV23 dc23 pm23 cd23 ct23 oc24 kV24 dc24 pm24 cd24 ct24 oc25 kV25 dc25 pm25 cd25 ct25 oc26 kV26 dc26 pm26 cd26 ct26 oc27 kV27 dc27 pm27 cd27 ct27 oc28 kV28 dc28 pm28 cd28 ct28 oc29 kV29 dc29 pm29 cd29 ct29 oc30 kV30 dc30 pm30 cd30 ct30 oc31 kV31 dc31 pm31 cd31 ct31 oc32 kV32 dc32 pm32 cd32 ct32 : Value} {t1 t2 t3 t4 t5 t6 t7 : Tok}
    (a1 : PySem.W.nsIn K mainGlobals "site_number" = some (some (.ref f1)))
    (l1 : K.lookup f1 = some ⟨oc1, od1, .func (PySem.W.fnOf "site_number" "site_number" (defArgs s_site_number) (defBody s_site_number) (defScope s_site_number) .none kV1 dc1 pm1 an1 cd1 ct1), sl1⟩)
    (c1 : PySem.W.codeIn K cd1 "site_number" = true) (k1 : PySem.W.keepIn K (.ref f1) = true)
    (a2 : PySem.W.nsIn K mainGlobals "cells" = some (some (.ref f2)))
    (l2 : K.lookup f2 = some ⟨oc2, od2, .func (PySem.W.fnOf "cells" "cells" (defArgs s_cells) (defBody s_cells) (defScope s_cells) .none kV2 dc2 pm2 an2 cd2 ct2), sl2⟩)
    (c2 : PySem.W.codeIn K cd2 "cells" = true) (k2 : PySem.W.keepIn K (.ref f2) = true)
    (a3 : PySem.W.nsIn K mainGlobals "cell_supply" = some (some (.ref f3)))
    (l3 : K.lookup f3 = some ⟨oc3, od3, .func (PySem.W.fnOf "cell_supply" "cell_supply" (defArgs s_cell_supply) (defBody s_cell_supply) (defScope s_cell_supply) .none kV3 dc3 pm3 an3 cd3 ct3), sl3⟩)
    (c3 : PySem.W.codeIn K cd3 "cell_supply" = true) (k3 : PySem.W.keepIn K (.ref f3) = true)
    (a4 : PySem.W.nsIn K mainGlobals "let_to" = some (some (.ref f4)))
    (l4 : K.lookup f4 = some ⟨oc4, od4, .func (PySem.W.fnOf "let_to" "let_to" (defArgs s_let_to) (defBody s_let_to) (defScope s_let_to) .none kV4 dc4 pm4 an4 cd4 ct4), sl4⟩)
    (c4 : PySem.W.codeIn K cd4 "let_to" = true) (k4 : PySem.W.keepIn K (.ref f4) = true)
    (a5 : PySem.W.nsIn K mainGlobals "let_from" = some (some (.ref f5)))
    (l5 : K.lookup f5 = some ⟨oc5, od5, .func (PySem.W.fnOf "let_from" "let_from" (defArgs s_let_from) (defBody s_let_from) (defScope s_let_from) .none kV5 dc5 pm5 an5 cd5 ct5), sl5⟩)
    (c5 : PySem.W.codeIn K cd5 "let_from" = true) (k5 : PySem.W.keepIn K (.ref f5) = true)
    (a6 : PySem.W.nsIn K mainGlobals "received" = some (some (.ref f6)))
    (l6 : K.lookup f6 = some ⟨oc6, od6, .func (PySem.W.fnOf "received" "received" (defArgs s_received) (defBody s_received) (defScope s_received) .none kV6 dc6 pm6 an6 cd6 ct6), sl6⟩)
    (c6 : PySem.W.codeIn K cd6 "received" = true) (k6 : PySem.W.keepIn K (.ref f6) = true)
    (a7 : PySem.W.nsIn K mainGlobals "spill" = some (some (.ref f7)))
    (l7 : K.lookup f7 = some ⟨oc7, od7, .func (PySem.W.fnOf "spill" "spill" (defArgs s_spill) (defBody s_spill) (defScope s_spill) .none kV7 dc7 pm7 an7 cd7 ct7), sl7⟩)
    (c7 : PySem.W.codeIn K cd7 "spill" = true) (k7 : PySem.W.keepIn K (.ref f7) = true)
    (a8 : PySem.W.nsIn K mainGlobals "cell_fault" = some (some (.ref f8)))
    (l8 : K.lookup f8 = some ⟨oc8, od8, .func (PySem.W.fnOf "cell_fault" "cell_fault" (defArgs s_cell_fault) (defBody s_cell_fault) (defScope s_cell_fault) .none kV8 dc8 pm8 an8 cd8 ct8), sl8⟩)
    (c8 : PySem.W.codeIn K cd8 "cell_fault" = true) (k8 : PySem.W.keepIn K (.ref f8) = true)
    (a9 : PySem.W.nsIn K mainGlobals "month_fault" = some (some (.ref f9)))
    (l9 : K.lookup f9 = some ⟨oc9, od9, .func (PySem.W.fnOf "month_fault" "month_fault" (defArgs s_month_fault) (defBody s_month_fault) (defScope s_month_fault) .none kV9 dc9 pm9 an9 cd9 ct9), sl9⟩)
    (c9 : PySem.W.codeIn K cd9 "month_fault" = true) (k9 : PySem.W.keepIn K (.ref f9) = true)
    (a10 : PySem.W.nsIn K mainGlobals "plan_fault" = some (some (.ref f10)))
    (l10 : K.lookup f10 = some ⟨oc10, od10, .func (PySem.W.fnOf "plan_fault" "plan_fault" (defArgs s_plan_fault) (defBody s_plan_fault) (defScope s_plan_fault) .none kV10 dc10 pm10 an10 cd10 ct10), sl10⟩)
    (c10 : PySem.W.codeIn K cd10 "plan_fault" = true) (k10 : PySem.W.keepIn K (.ref f10) = true)
    (a11 : PySem.W.nsIn K mainGlobals "joined" = some (some (.ref f11)))
    (l11 : K.lookup f11 = some ⟨oc11, od11, .func (PySem.W.fnOf "joined" "joined" (defArgs s_joined) (defBody s_joined) (defScope s_joined) .none kV11 dc11 pm11 an11 cd11 ct11), sl11⟩)
    (c11 : PySem.W.codeIn K cd11 "joined" = true) (k11 : PySem.W.keepIn K (.ref f11) = true)
    (a12 : PySem.W.nsIn K mainGlobals "parted" = some (some (.ref f12)))
    (l12 : K.lookup f12 = some ⟨oc12, od12, .func (PySem.W.fnOf "parted" "parted" (defArgs s_parted) (defBody s_parted) (defScope s_parted) .none kV12 dc12 pm12 an12 cd12 ct12), sl12⟩)
    (c12 : PySem.W.codeIn K cd12 "parted" = true) (k12 : PySem.W.keepIn K (.ref f12) = true)
    (a13 : PySem.W.nsIn K mainGlobals "tuples" = some (some (.ref f13)))
    (l13 : K.lookup f13 = some ⟨oc13, od13, .func (PySem.W.fnOf "tuples" "tuples" (defArgs s_tuples) (defBody s_tuples) (defScope s_tuples) .none kV13 dc13 pm13 an13 cd13 ct13), sl13⟩)
    (c13 : PySem.W.codeIn K cd13 "tuples" = true) (k13 : PySem.W.keepIn K (.ref f13) = true)
    (a14 : PySem.W.nsIn K mainGlobals "parcels" = some (some (.ref f14)))
    (l14 : K.lookup f14 = some ⟨oc14, od14, .func (PySem.W.fnOf "parcels" "parcels" (defArgs s_parcels) (defBody s_parcels) (defScope s_parcels) .none kV14 dc14 pm14 an14 cd14 ct14), sl14⟩)
    (c14 : PySem.W.codeIn K cd14 "parcels" = true) (k14 : PySem.W.keepIn K (.ref f14) = true)
    (a15 : PySem.W.nsIn K mainGlobals "_law_cell" = some (some (.ref f15)))
    (l15 : K.lookup f15 = some ⟨oc15, od15, .func (PySem.W.fnOf "_law_cell" "_law_cell" (defArgs s__law_cell) (defBody s__law_cell) (defScope s__law_cell) .none kV15 dc15 pm15 an15 cd15 ct15), sl15⟩)
    (c15 : PySem.W.codeIn K cd15 "_law_cell" = true) (k15 : PySem.W.keepIn K (.ref f15) = true)
    (a16 : PySem.W.nsIn K mainGlobals "_law_digits" = some (some (.ref f16)))
    (l16 : K.lookup f16 = some ⟨oc16, od16, .func (PySem.W.fnOf "_law_digits" "_law_digits" (defArgs s__law_digits) (defBody s__law_digits) (defScope s__law_digits) .none kV16 dc16 pm16 an16 cd16 ct16), sl16⟩)
    (c16 : PySem.W.codeIn K cd16 "_law_digits" = true) (k16 : PySem.W.keepIn K (.ref f16) = true)
    (a17 : PySem.W.nsIn K mainGlobals "_law_draw" = some (some (.ref f17)))
    (l17 : K.lookup f17 = some ⟨oc17, od17, .func (PySem.W.fnOf "_law_draw" "_law_draw" (defArgs s__law_draw) (defBody s__law_draw) (defScope s__law_draw) .none kV17 dc17 pm17 an17 cd17 ct17), sl17⟩)
    (c17 : PySem.W.codeIn K cd17 "_law_draw" = true) (k17 : PySem.W.keepIn K (.ref f17) = true)
    (a18 : PySem.W.nsIn K mainGlobals "_law_same" = some (some (.ref f18)))
    (l18 : K.lookup f18 = some ⟨oc18, od18, .func (PySem.W.fnOf "_law_same" "_law_same" (defArgs s__law_same) (defBody s__law_same) (defScope s__law_same) .none kV18 dc18 pm18 an18 cd18 ct18), sl18⟩)
    (c18 : PySem.W.codeIn K cd18 "_law_same" = true) (k18 : PySem.W.keepIn K (.ref f18) = true)
    (a19 : PySem.W.nsIn K mainGlobals "_law_basin" = some (some (.ref f19)))
    (l19 : K.lookup f19 = some ⟨oc19, od19, .func (PySem.W.fnOf "_law_basin" "_law_basin" (defArgs s__law_basin) (defBody s__law_basin) (defScope s__law_basin) .none kV19 dc19 pm19 an19 cd19 ct19), sl19⟩)
    (c19 : PySem.W.codeIn K cd19 "_law_basin" = true) (k19 : PySem.W.keepIn K (.ref f19) = true)
    (a20 : PySem.W.nsIn K mainGlobals "_law_demands" = some (some (.ref f20)))
    (l20 : K.lookup f20 = some ⟨oc20, od20, .func (PySem.W.fnOf "_law_demands" "_law_demands" (defArgs s__law_demands) (defBody s__law_demands) (defScope s__law_demands) .none kV20 dc20 pm20 an20 cd20 ct20), sl20⟩)
    (c20 : PySem.W.codeIn K cd20 "_law_demands" = true) (k20 : PySem.W.keepIn K (.ref f20) = true)
    (a21 : PySem.W.nsIn K mainGlobals "_law_rights" = some (some (.ref f21)))
    (l21 : K.lookup f21 = some ⟨oc21, od21, .func (PySem.W.fnOf "_law_rights" "_law_rights" (defArgs s__law_rights) (defBody s__law_rights) (defScope s__law_rights) .none kV21 dc21 pm21 an21 cd21 ct21), sl21⟩)
    (c21 : PySem.W.codeIn K cd21 "_law_rights" = true) (k21 : PySem.W.keepIn K (.ref f21) = true)
    (a22 : PySem.W.nsIn K mainGlobals "_law_cells" = some (some (.ref f22)))
    (l22 : K.lookup f22 = some ⟨oc22, od22, .func (PySem.W.fnOf "_law_cells" "_law_cells" (defArgs s__law_cells) (defBody s__law_cells) (defScope s__law_cells) .none kV22 dc22 pm22 an22 cd22 ct22), sl22⟩)
    (c22 : PySem.W.codeIn K cd22 "_law_cells" = true) (k22 : PySem.W.keepIn K (.ref f22) = true)
    (a23 : PySem.W.nsIn K mainGlobals "_law_receives" = some (some (.ref f23)))
    (l23 : K.lookup f23 = some ⟨oc23, od23, .func (PySem.W.fnOf "_law_receives" "_law_receives" (defArgs s__law_receives) (defBody s__law_receives) (defScope s__law_receives) .none kV23 dc23 pm23 an23 cd23 ct23), sl23⟩)
    (c23 : PySem.W.codeIn K cd23 "_law_receives" = true) (k23 : PySem.W.keepIn K (.ref f23) = true)
    (a24 : PySem.W.nsIn K mainGlobals "_law_drawn_plan" = some (some (.ref f24)))
    (l24 : K.lookup f24 = some ⟨oc24, od24, .func (PySem.W.fnOf "_law_drawn_plan" "_law_drawn_plan" (defArgs s__law_drawn_plan) (defBody s__law_drawn_plan) (defScope s__law_drawn_plan) .none kV24 dc24 pm24 an24 cd24 ct24), sl24⟩)
    (c24 : PySem.W.codeIn K cd24 "_law_drawn_plan" = true) (k24 : PySem.W.keepIn K (.ref f24) = true)
    (a25 : PySem.W.nsIn K mainGlobals "_law_rows" = some (some (.ref f25)))
    (l25 : K.lookup f25 = some ⟨oc25, od25, .func (PySem.W.fnOf "_law_rows" "_law_rows" (defArgs s__law_rows) (defBody s__law_rows) (defScope s__law_rows) .none kV25 dc25 pm25 an25 cd25 ct25), sl25⟩)
    (c25 : PySem.W.codeIn K cd25 "_law_rows" = true) (k25 : PySem.W.keepIn K (.ref f25) = true)
    (a26 : PySem.W.nsIn K mainGlobals "_law_origins" = some (some (.ref f26)))
    (l26 : K.lookup f26 = some ⟨oc26, od26, .func (PySem.W.fnOf "_law_origins" "_law_origins" (defArgs s__law_origins) (defBody s__law_origins) (defScope s__law_origins) .none kV26 dc26 pm26 an26 cd26 ct26), sl26⟩)
    (c26 : PySem.W.codeIn K cd26 "_law_origins" = true) (k26 : PySem.W.keepIn K (.ref f26) = true)
    (a27 : PySem.W.nsIn K mainGlobals "_law_cut" = some (some (.ref f27)))
    (l27 : K.lookup f27 = some ⟨oc27, od27, .func (PySem.W.fnOf "_law_cut" "_law_cut" (defArgs s__law_cut) (defBody s__law_cut) (defScope s__law_cut) .none kV27 dc27 pm27 an27 cd27 ct27), sl27⟩)
    (c27 : PySem.W.codeIn K cd27 "_law_cut" = true) (k27 : PySem.W.keepIn K (.ref f27) = true)
    (a28 : PySem.W.nsIn K mainGlobals "law" = some (some (.ref f28)))
    (l28 : K.lookup f28 = some ⟨oc28, od28, .func (PySem.W.fnOf "law" "law" (defArgs s_law) (defBody s_law) (defScope s_law) .none kV28 dc28 pm28 an28 cd28 ct28), sl28⟩)
    (c28 : PySem.W.codeIn K cd28 "law" = true) (k28 : PySem.W.keepIn K (.ref f28) = true)
    (a29 : PySem.W.findIn K (.ref C) "__init__" = some (some (.ref f29)))
    (l29 : K.lookup f29 = some ⟨oc29, od29, .func (PySem.W.fnOf "__init__" "Tracing.__init__" (defArgs s_init) (defBody s_init) (defScope s_init) .none kV29 dc29 pm29 an29 cd29 ct29), sl29⟩)
    (c29 : PySem.W.codeIn K cd29 "Tracing.__init__" = true) (k29 : PySem.W.keepIn K (.ref f29) = true)
    (i29 : PySem.W.isFn K (.ref f29) = true)
    (a30 : PySem.W.findIn K (.ref C) "row_at" = some (some (.ref f30)))
    (l30 : K.lookup f30 = some ⟨oc30, od30, .func (PySem.W.fnOf "row_at" "Tracing.row_at" (defArgs s_row_at) (defBody s_row_at) (defScope s_row_at) .none kV30 dc30 pm30 an30 cd30 ct30), sl30⟩)
    (c30 : PySem.W.codeIn K cd30 "Tracing.row_at" = true) (k30 : PySem.W.keepIn K (.ref f30) = true)
    (i30 : PySem.W.isFn K (.ref f30) = true)
    (a31 : PySem.W.findIn K (.ref C) "trace" = some (some (.ref f31)))
    (l31 : K.lookup f31 = some ⟨oc31, od31, .func (PySem.W.fnOf "trace" "Tracing.trace" (defArgs s_trace) (defBody s_trace) (defScope s_trace) .none kV31 dc31 pm31 an31 cd31 ct31), sl31⟩)
    (c31 : PySem.W.codeIn K cd31 "Tracing.trace" = true) (k31 : PySem.W.keepIn K (.ref f31) = true)
    (i31 : PySem.W.isFn K (.ref f31) = true)
    (a32 : PySem.W.findIn K (.ref C) "lost" = some (some (.ref f32)))
    (l32 : K.lookup f32 = some ⟨oc32, od32, .func (PySem.W.fnOf "lost" "Tracing.lost" (defArgs s_lost) (defBody s_lost) (defScope s_lost) .none kV32 dc32 pm32 an32 cd32 ct32), sl32⟩)
    (c32 : PySem.W.codeIn K cd32 "Tracing.lost" = true) (k32 : PySem.W.keepIn K (.ref f32) = true)
    (i32 : PySem.W.isFn K (.ref f32) = true)
    (aC : PySem.W.nsIn K mainGlobals "Tracing" = some (some (.ref C))) (pg : PySem.W.plainGet K C Str.empty = true) (hd : PySem.W.hasDictIn K C = true) (po : PySem.W.plainOver K C = true)
    (sa : PySem.W.findIn K (.ref C) "__setattr__" = some (some (.builtin "object.__setattr__"))) (mk0 : PySem.W.makesIn K C = true) (kc : PySem.W.keepIn K (.ref C) = true)
    (n1 : PySem.W.findIn K (.ref C) "basin" = some none)
    (n2 : PySem.W.findIn K (.ref C) "rights" = some none)
    (n3 : PySem.W.findIn K (.ref C) "plan" = some none)
    (n4 : PySem.W.findIn K (.ref C) "given" = some none)
    (n5 : PySem.W.findIn K (.ref C) "let" = some none)
    (n6 : PySem.W.findIn K (.ref C) "stored" = some none)
    (n7 : PySem.W.findIn K (.ref C) "spilled" = some none)
    (q1 : PySem.W.nsIn K mainGlobals "NAME" = some (some (.int 0 t1)))
    (q2 : PySem.W.nsIn K mainGlobals "NEXT" = some (some (.int 1 t2)))
    (q3 : PySem.W.nsIn K mainGlobals "TRAVEL" = some (some (.int 2 t3)))
    (q4 : PySem.W.nsIn K mainGlobals "REACH" = some (some (.int 3 t4)))
    (q5 : PySem.W.nsIn K mainGlobals "ROOM" = some (some (.int 4 t5)))
    (q6 : PySem.W.nsIn K mainGlobals "HELD" = some (some (.int 5 t6)))
    (q7 : PySem.W.nsIn K mainGlobals "INFLOWS" = some (some (.int 6 t7)))
    (z1 : PySem.W.nsIn K mainGlobals "range" = some none)
    (z2 : PySem.W.nsIn K mainGlobals "len" = some none)
    (z3 : PySem.W.nsIn K mainGlobals "enumerate" = some none)
    (z4 : PySem.W.nsIn K mainGlobals "sum" = some none)
    (z5 : PySem.W.nsIn K mainGlobals "min" = some none)
    (z6 : PySem.W.nsIn K mainGlobals "sorted" = some none)
    (z7 : PySem.W.nsIn K mainGlobals "tuple" = some none)
    (z8 : PySem.W.nsIn K mainGlobals "list" = some none)
    (z9 : PySem.W.nsIn K mainGlobals "int" = some none)
    (z10 : PySem.W.nsIn K mainGlobals "repr" = some none)
    (z11 : PySem.W.nsIn K mainGlobals "dict" = some none) :
    ∃ fd : FuncData, (∀ (s : Shared) (v : Value), BindsTo s fd ⟨[v], []⟩ [("_law_script", v)]) ∧ ∀ base : Heap, K.In base → base.Ns mainGlobals mg → FnG l.prog w K mg base 10 fa fd ["_law_script"] (sp_law K) := by
  have e := hfa.symm.trans (PySem.W.mg_of X G a28)
  cases e
  have T : Txt mg := ⟨⟨_, PySem.W.mg_of X G q1⟩, ⟨_, PySem.W.mg_of X G q2⟩, ⟨_, PySem.W.mg_of X G q3⟩, ⟨_, PySem.W.mg_of X G q4⟩, ⟨_, PySem.W.mg_of X G q5⟩, ⟨_, PySem.W.mg_of X G q6⟩, ⟨_, PySem.W.mg_of X G q7⟩, PySem.W.mg_none_of X G z1, PySem.W.mg_none_of X G z2, PySem.W.mg_none_of X G z3, PySem.W.mg_none_of X G z4, PySem.W.mg_none_of X G z5, PySem.W.mg_none_of X G z6, PySem.W.mg_none_of X G z7, PySem.W.mg_none_of X G z8, PySem.W.mg_none_of X G z9, PySem.W.mg_none_of X G z10, PySem.W.mg_none_of X G z11⟩
  have TC : TrCls K mg C := ⟨⟨pg, hd, po, sa⟩, PySem.W.mg_of X G aC, n1, n2, n3, n4, n5, n6, n7⟩
  have G1 := fun_mk (st := s_site_number) l1 c1 k1
  have F_site_number : FunAt K mg "site_number" s_site_number ["basin", "name"] := ⟨f1, _, G1, PySem.W.mg_of X G a1, G1.binds (fun _ _ _ _ _ _ us hl => match us, hl with | [_, _], _ => rfl)⟩
  have G2 := fun_mk (st := s_cells) l2 c2 k2
  have F_cells : FunAt K mg "cells" s_cells ["basin"] := ⟨f2, _, G2, PySem.W.mg_of X G a2, G2.binds (fun _ _ _ _ _ _ us hl => match us, hl with | [_], _ => rfl)⟩
  have G3 := fun_mk (st := s_cell_supply) l3 c3 k3
  have F_cell_supply : FunAt K mg "cell_supply" s_cell_supply ["basin", "cell"] := ⟨f3, _, G3, PySem.W.mg_of X G a3, G3.binds (fun _ _ _ _ _ _ us hl => match us, hl with | [_, _], _ => rfl)⟩
  have G4 := fun_mk (st := s_let_to) l4 c4 k4
  have F_let_to : FunAt K mg "let_to" s_let_to ["basin", "cell"] := ⟨f4, _, G4, PySem.W.mg_of X G a4, G4.binds (fun _ _ _ _ _ _ us hl => match us, hl with | [_, _], _ => rfl)⟩
  have G5 := fun_mk (st := s_let_from) l5 c5 k5
  have F_let_from : FunAt K mg "let_from" s_let_from ["basin", "cell"] := ⟨f5, _, G5, PySem.W.mg_of X G a5, G5.binds (fun _ _ _ _ _ _ us hl => match us, hl with | [_, _], _ => rfl)⟩
  have G6 := fun_mk (st := s_received) l6 c6 k6
  have F_received : FunAt K mg "received" s_received ["basin", "plan", "cell"] := ⟨f6, _, G6, PySem.W.mg_of X G a6, G6.binds (fun _ _ _ _ _ _ us hl => match us, hl with | [_, _, _], _ => rfl)⟩
  have G7 := fun_mk (st := s_spill) l7 c7 k7
  have F_spill : FunAt K mg "spill" s_spill ["basin", "rights", "plan", "cell"] := ⟨f7, _, G7, PySem.W.mg_of X G a7, G7.binds (fun _ _ _ _ _ _ us hl => match us, hl with | [_, _, _, _], _ => rfl)⟩
  have G8 := fun_mk (st := s_cell_fault) l8 c8 k8
  have F_cell_fault : FunAt K mg "cell_fault" s_cell_fault ["basin", "rights", "plan", "cell"] := ⟨f8, _, G8, PySem.W.mg_of X G a8, G8.binds (fun _ _ _ _ _ _ us hl => match us, hl with | [_, _, _, _], _ => rfl)⟩
  have G9 := fun_mk (st := s_month_fault) l9 c9 k9
  have F_month_fault : FunAt K mg "month_fault" s_month_fault ["basin", "rights", "plan", "month"] := ⟨f9, _, G9, PySem.W.mg_of X G a9, G9.binds (fun _ _ _ _ _ _ us hl => match us, hl with | [_, _, _, _], _ => rfl)⟩
  have G10 := fun_mk (st := s_plan_fault) l10 c10 k10
  have F_plan_fault : FunAt K mg "plan_fault" s_plan_fault ["basin", "rights", "plan"] := ⟨f10, _, G10, PySem.W.mg_of X G a10, G10.binds (fun _ _ _ _ _ _ us hl => match us, hl with | [_, _, _], _ => rfl)⟩
  have G11 := fun_mk (st := s_joined) l11 c11 k11
  have F_joined : FunAt K mg "joined" s_joined ["row"] := ⟨f11, _, G11, PySem.W.mg_of X G a11, G11.binds (fun _ _ _ _ _ _ us hl => match us, hl with | [_], _ => rfl)⟩
  have G12 := fun_mk (st := s_parted) l12 c12 k12
  have F_parted : FunAt K mg "parted" s_parted ["row", "amount"] := ⟨f12, _, G12, PySem.W.mg_of X G a12, G12.binds (fun _ _ _ _ _ _ us hl => match us, hl with | [_, _], _ => rfl)⟩
  have G13 := fun_mk (st := s_tuples) l13 c13 k13
  have F_tuples : FunAt K mg "tuples" s_tuples ["rows", "many", "months"] := ⟨f13, _, G13, PySem.W.mg_of X G a13, G13.binds (fun _ _ _ _ _ _ us hl => match us, hl with | [_, _, _], _ => rfl)⟩
  have G14 := fun_mk (st := s_parcels) l14 c14 k14
  have F_parcels : FunAt K mg "parcels" s_parcels ["basin", "rights", "plan"] := ⟨f14, _, G14, PySem.W.mg_of X G a14, G14.binds (fun _ _ _ _ _ _ us hl => match us, hl with | [_, _, _], _ => rfl)⟩
  have G15 := fun_mk (st := s__law_cell) l15 c15 k15
  have F__law_cell : FunAt K mg "_law_cell" s__law_cell ["_law_script", "_law_k"] := ⟨f15, _, G15, PySem.W.mg_of X G a15, G15.binds (fun _ _ _ _ _ _ us hl => match us, hl with | [_, _], _ => rfl)⟩
  have G16 := fun_mk (st := s__law_digits) l16 c16 k16
  have F__law_digits : FunAt K mg "_law_digits" s__law_digits ["_law_script", "_law_first", "_law_last"] := ⟨f16, _, G16, PySem.W.mg_of X G a16, G16.binds (fun _ _ _ _ _ _ us hl => match us, hl with | [_, _, _], _ => rfl)⟩
  have G17 := fun_mk (st := s__law_draw) l17 c17 k17
  have F__law_draw : FunAt K mg "_law_draw" s__law_draw ["_law_box", "_law_many"] := ⟨f17, _, G17, PySem.W.mg_of X G a17, G17.binds (fun _ _ _ _ _ _ us hl => match us, hl with | [_, _], _ => rfl)⟩
  have G18 := fun_mk (st := s__law_same) l18 c18 k18
  have F__law_same : FunAt K mg "_law_same" s__law_same ["_law_actual", "_law_due"] := ⟨f18, _, G18, PySem.W.mg_of X G a18, G18.binds (fun _ _ _ _ _ _ us hl => match us, hl with | [_, _], _ => rfl)⟩
  have G19 := fun_mk (st := s__law_basin) l19 c19 k19
  have F__law_basin : FunAt K mg "_law_basin" s__law_basin ["_law_box"] := ⟨f19, _, G19, PySem.W.mg_of X G a19, G19.binds (fun _ _ _ _ _ _ us hl => match us, hl with | [_], _ => rfl)⟩
  have G20 := fun_mk (st := s__law_demands) l20 c20 k20
  have F__law_demands : FunAt K mg "_law_demands" s__law_demands ["_law_box", "_law_months"] := ⟨f20, _, G20, PySem.W.mg_of X G a20, G20.binds (fun _ _ _ _ _ _ us hl => match us, hl with | [_, _], _ => rfl)⟩
  have G21 := fun_mk (st := s__law_rights) l21 c21 k21
  have F__law_rights : FunAt K mg "_law_rights" s__law_rights ["_law_box", "_law_basin_here", "_law_most"] := ⟨f21, _, G21, PySem.W.mg_of X G a21, G21.binds (fun _ _ _ _ _ _ us hl => match us, hl with | [_, _, _], _ => rfl)⟩
  have G22 := fun_mk (st := s__law_cells) l22 c22 k22
  have F__law_cells : FunAt K mg "_law_cells" s__law_cells ["_law_basin_here"] := ⟨f22, _, G22, PySem.W.mg_of X G a22, G22.binds (fun _ _ _ _ _ _ us hl => match us, hl with | [_], _ => rfl)⟩
  have G23 := fun_mk (st := s__law_receives) l23 c23 k23
  have F__law_receives : FunAt K mg "_law_receives" s__law_receives ["_law_basin_here", "_law_plan", "_law_k", "_law_m"] := ⟨f23, _, G23, PySem.W.mg_of X G a23, G23.binds (fun _ _ _ _ _ _ us hl => match us, hl with | [_, _, _, _], _ => rfl)⟩
  have G24 := fun_mk (st := s__law_drawn_plan) l24 c24 k24
  have F__law_drawn_plan : FunAt K mg "_law_drawn_plan" s__law_drawn_plan ["_law_box", "_law_basin_here", "_law_rights_here"] := ⟨f24, _, G24, PySem.W.mg_of X G a24, G24.binds (fun _ _ _ _ _ _ us hl => match us, hl with | [_, _, _], _ => rfl)⟩
  have G25 := fun_mk (st := s__law_rows) l25 c25 k25
  have F__law_rows : FunAt K mg "_law_rows" s__law_rows ["_law_rows_here"] := ⟨f25, _, G25, PySem.W.mg_of X G a25, G25.binds (fun _ _ _ _ _ _ us hl => match us, hl with | [_], _ => rfl)⟩
  have G26 := fun_mk (st := s__law_origins) l26 c26 k26
  have F__law_origins : FunAt K mg "_law_origins" s__law_origins ["_law_rows_here"] := ⟨f26, _, G26, PySem.W.mg_of X G a26, G26.binds (fun _ _ _ _ _ _ us hl => match us, hl with | [_], _ => rfl)⟩
  have G27 := fun_mk (st := s__law_cut) l27 c27 k27
  have F__law_cut : FunAt K mg "_law_cut" s__law_cut ["_law_basin_here", "_law_rights_here", "_law_plan", "_law_many"] := ⟨f27, _, G27, PySem.W.mg_of X G a27, G27.binds (fun _ _ _ _ _ _ us hl => match us, hl with | [_, _, _, _], _ => rfl)⟩
  have G28 := fun_mk (st := s_law) l28 c28 k28
  have G29 := fun_mk (st := s_init) l29 c29 k29
  have F_init : FunAtI K C "__init__" "Tracing.__init__" s_init ["self", "basin", "rights", "plan"] := ⟨f29, _, G29, ⟨mk0, a29, i29, kc⟩, G29.binds (fun _ _ _ _ _ _ us hl => match us, hl with | [_, _, _, _], _ => rfl)⟩
  have G30 := fun_mk (st := s_row_at) l30 c30 k30
  have F_row_at : FunAtM K C "row_at" "Tracing.row_at" s_row_at ["self", "cell"] := ⟨f30, _, G30, ⟨a30, i30, k30⟩, G30.binds (fun _ _ _ _ _ _ us hl => match us, hl with | [_, _], _ => rfl)⟩
  have G31 := fun_mk (st := s_trace) l31 c31 k31
  have F_trace : FunAtM K C "trace" "Tracing.trace" s_trace ["self", "cell"] := ⟨f31, _, G31, ⟨a31, i31, k31⟩, G31.binds (fun _ _ _ _ _ _ us hl => match us, hl with | [_, _], _ => rfl)⟩
  have G32 := fun_mk (st := s_lost) l32 c32 k32
  have F_lost : FunAtM K C "lost" "Tracing.lost" s_lost ["self", "cell"] := ⟨f32, _, G32, ⟨a32, i32, k32⟩, G32.binds (fun _ _ _ _ _ _ us hl => match us, hl with | [_, _], _ => rfl)⟩
  refine ⟨PySem.W.fnOf "law" "law" (defArgs s_law) (defBody s_law) (defScope s_law) .none kV28 dc28 pm28 an28 cd28 ct28, fun s v => ?bd, fun base _ _ => ?run⟩
  case run =>
    have h_site_number := ok_site_number (P := l.prog) (w := w) (base := base) T F_site_number
    have h_cell_supply := ok_cell_supply (P := l.prog) (w := w) (base := base) T F_cell_supply
    have h_let_to := ok_let_to T F_let_to h_site_number
    have h_cells := ok_cells (P := l.prog) (w := w) (base := base) T F_cells
    have h_let_from := ok_let_from T F_let_from h_cells h_let_to
    have h_received := ok_received T F_received h_cell_supply h_let_from
    have h_spill := ok_spill T F_spill h_received h_site_number
    have h_cell_fault := ok_cell_fault T F_cell_fault h_spill
    have h_month_fault := ok_month_fault T F_month_fault h_cell_fault
    have h_plan_fault := ok_plan_fault T F_plan_fault h_month_fault
    have h_joined := ok_joined (P := l.prog) (w := w) (base := base) T F_joined
    have h_parted := ok_parted T F_parted h_joined
    have h_law_cell := ok__law_cell (P := l.prog) (w := w) (base := base) T F__law_cell
    have h_digits := ok__law_digits T F__law_digits h_law_cell
    have h_draw := ok__law_draw (P := l.prog) (w := w) (base := base) T F__law_draw
    have h_demands := ok__law_demands T F__law_demands h_draw
    have h_basin := ok__law_basin T F__law_basin h_draw
    have h_rights := ok__law_rights T F__law_rights h_draw h_demands
    have h_lcells := ok__law_cells (P := l.prog) (w := w) (base := base) T F__law_cells
    have h_rows := ok_rowsM (P := l.prog) (w := w) (base := base) T F__law_rows
    have h_receives := ok__law_receives (P := l.prog) (w := w) (base := base) T F__law_receives
    have h_drawn := ok__law_drawn_plan T F__law_drawn_plan h_draw h_lcells h_receives h_rows
    have h_row_at := ok_row_at T TC F_row_at h_let_from h_joined
    have h_lost := ok_lost T TC F_lost h_let_to
    have h_trace := ok_trace T TC F_trace h_row_at h_parted h_site_number
    have h_init := ok_init (P := l.prog) (w := w) (base := base) T TC F_init
    have h_tuples := ok_tuples (P := l.prog) (w := w) (base := base) T F_tuples
    have h_parcels := ok_parcels T TC F_parcels h_plan_fault h_init h_cells h_trace h_lost h_tuples
    have h_origins := ok__law_origins (P := l.prog) (w := w) (base := base) T F__law_origins
    have h_cut := ok__law_cut (P := l.prog) (w := w) (base := base) T F__law_cut
    have h_same := ok__law_same (P := l.prog) (w := w) (base := base) T F__law_same
    exact ok_law T G28 h_digits h_draw h_basin h_rights h_drawn h_cut h_parcels h_same h_origins
  case bd => exact .of_eq rfl
end
end Dt
open PySem PySem.W PyProof.Rows
set_option maxRecDepth 100000 in
set_option maxHeartbeats 0 in
theorem PySem.Challenge.cw_heldwater_k19_par_months_cut_off_holds : PySem.Challenge.rw_heldwater_k19_par_months_cut_off.Holds := by
  w_on; o_law; k_head; (case hw => w_witness2)
  k_fill
  refine Dt.walk_G (l := PySem.Challenge.rw_heldwater_k19_par_months_cut_off) rfl rfl (fun w h Y => PySem.W.kIn_of Y) ?F
  case F =>
    intro w mg fa h KX G hmg
    refine' Dt.all_mk KX G hmg ?a1 ?l1 ?c1 ?k1 ?a2 ?l2 ?c2 ?k2 ?a3 ?l3 ?c3 ?k3 ?a4 ?l4 ?c4 ?k4 ?a5 ?l5 ?c5 ?k5 ?a6 ?l6 ?c6 ?k6 ?a7 ?l7 ?c7 ?k7 ?a8 ?l8 ?c8 ?k8 ?a9 ?l9 ?c9 ?k9 ?a10 ?l10 ?c10 ?k10 ?a11 ?l11 ?c11 ?k11 ?a12 ?l12 ?c12 ?k12 ?a13 ?l13 ?c13 ?k13 ?a14 ?l14 ?c14 ?k14 ?a15 ?l15 ?c15 ?k15 ?a16 ?l16 ?c16 ?k16 ?a17 ?l17 ?c17 ?k17 ?a18 ?l18 ?c18 ?k18 ?a19 ?l19 ?c19 ?k19 ?a20 ?l20 ?c20 ?k20 ?a21 ?l21 ?c21 ?k21 ?a22 ?l22 ?c22 ?k22 ?a23 ?l23 ?c23 ?k23 ?a24 ?l24 ?c24 ?k24 ?a25 ?l25 ?c25 ?k25 ?a26 ?l26 ?c26 ?k26 ?a27 ?l27 ?c27 ?k27 ?a28 ?l28 ?c28 ?k28 ?a29 ?l29 ?c29 ?k29 ?i29 ?a30 ?l30 ?c30 ?k30 ?i30 ?a31 ?l31 ?c31 ?k31 ?i31 ?a32 ?l32 ?c32 ?k32 ?i32 ?aC ?pg ?hd ?po ?sa ?mk0 ?kc ?n1 ?n2 ?n3 ?n4 ?n5 ?n6 ?n7 ?q1 ?q2 ?q3 ?q4 ?q5 ?q6 ?q7 ?z1 ?z2 ?z3 ?z4 ?z5 ?z6 ?z7 ?z8 ?z9 ?z10 ?z11
    (case aC => k_is)
    (case a1 => k_is)
    (case l1 => k_is)
    (case c1 => k_is)
    (case k1 => k_is)
    (case a2 => k_is)
    (case l2 => k_is)
    (case c2 => k_is)
    (case k2 => k_is)
    (case a3 => k_is)
    (case l3 => k_is)
    (case c3 => k_is)
    (case k3 => k_is)
    (case a4 => k_is)
    (case l4 => k_is)
    (case c4 => k_is)
    (case k4 => k_is)
    (case a5 => k_is)
    (case l5 => k_is)
    (case c5 => k_is)
    (case k5 => k_is)
    (case a6 => k_is)
    (case l6 => k_is)
    (case c6 => k_is)
    (case k6 => k_is)
    (case a7 => k_is)
    (case l7 => k_is)
    (case c7 => k_is)
    (case k7 => k_is)
    (case a8 => k_is)
    (case l8 => k_is)
    (case c8 => k_is)
    (case k8 => k_is)
    (case a9 => k_is)
    (case l9 => k_is)
    (case c9 => k_is)
    (case k9 => k_is)
    (case a10 => k_is)
    (case l10 => k_is)
    (case c10 => k_is)
    (case k10 => k_is)
    (case a11 => k_is)
    (case l11 => k_is)
    (case c11 => k_is)
    (case k11 => k_is)
    (case a12 => k_is)
    (case l12 => k_is)
    (case c12 => k_is)
    (case k12 => k_is)
    (case a13 => k_is)
    (case l13 => k_is)
    (case c13 => k_is)
    (case k13 => k_is)
    (case a14 => k_is)
    (case l14 => k_is)
    (case c14 => k_is)
    (case k14 => k_is)
    (case a15 => k_is)
    (case l15 => k_is)
    (case c15 => k_is)
    (case k15 => k_is)
    (case a16 => k_is)
    (case l16 => k_is)
    (case c16 => k_is)
    (case k16 => k_is)
    (case a17 => k_is)
    (case l17 => k_is)
    (case c17 => k_is)
    (case k17 => k_is)
    (case a18 => k_is)
    (case l18 => k_is)
    (case c18 => k_is)
    (case k18 => k_is)
    (case a19 => k_is)
    (case l19 => k_is)
    (case c19 => k_is)
    (case k19 => k_is)
    (case a20 => k_is)
    (case l20 => k_is)
    (case c20 => k_is)
    (case k20 => k_is)
    (case a21 => k_is)
    (case l21 => k_is)
    (case c21 => k_is)
    (case k21 => k_is)
    (case a22 => k_is)
    (case l22 => k_is)
    (case c22 => k_is)
    (case k22 => k_is)
    (case a23 => k_is)
    (case l23 => k_is)
    (case c23 => k_is)
    (case k23 => k_is)
    (case a24 => k_is)
    (case l24 => k_is)
    (case c24 => k_is)
    (case k24 => k_is)
    (case a25 => k_is)
    (case l25 => k_is)
    (case c25 => k_is)
    (case k25 => k_is)
    (case a26 => k_is)
    (case l26 => k_is)
    (case c26 => k_is)
    (case k26 => k_is)
    (case a27 => k_is)
    (case l27 => k_is)
    (case c27 => k_is)
    (case k27 => k_is)
    (case a28 => k_is)
    (case l28 => k_is)
    (case c28 => k_is)
    (case k28 => k_is)
    (case a29 => k_is)
    (case l29 => k_is)
    (case c29 => k_is)
    (case k29 => k_is)
    (case i29 => k_is)
    (case a30 => k_is)
    (case l30 => k_is)
    (case c30 => k_is)
    (case k30 => k_is)
    (case i30 => k_is)
    (case a31 => k_is)
    (case l31 => k_is)
    (case c31 => k_is)
    (case k31 => k_is)
    (case i31 => k_is)
    (case a32 => k_is)
    (case l32 => k_is)
    (case c32 => k_is)
    (case k32 => k_is)
    (case i32 => k_is)
    (case pg => k_is)
    (case hd => k_is)
    (case po => k_is)
    (case sa => k_is)
    (case mk0 => k_is)
    (case kc => k_is)
    (case n1 => k_is)
    (case n2 => k_is)
    (case n3 => k_is)
    (case n4 => k_is)
    (case n5 => k_is)
    (case n6 => k_is)
    (case n7 => k_is)
    (case q1 => k_is)
    (case q2 => k_is)
    (case q3 => k_is)
    (case q4 => k_is)
    (case q5 => k_is)
    (case q6 => k_is)
    (case q7 => k_is)
    (case z1 => k_is)
    (case z2 => k_is)
    (case z3 => k_is)
    (case z4 => k_is)
    (case z5 => k_is)
    (case z6 => k_is)
    (case z7 => k_is)
    (case z8 => k_is)
    (case z9 => k_is)
    (case z10 => k_is)
    (case z11 => k_is)
