import PyProof.Rows.All
import Wide.All
import OpenK.AllK
import Wide.FinOn
import HandS.ForMost
import HandS.Evl
import HandS.Codes
import HandS.TupAny
import HandS.IsInst
import HandS.More
import HandS.Defaults
import HandS.Zip
import HandS.Strs
import HandS.Set
import HandS.SetFor
import KE.SortKeyHeap
import KE.KDictKeyed
import HandS.Head0
import HandS.Head1
import HandS.Head2
import HandS.HeadEnd
import HandS.HeadHook1
import HandS.HeadHook2
import KE.KeyNested
import PyProof.Rows.SetFrom
import HandS.Lambda
import HandS.SortKw
import KE.SortLaws
import HandS.EndTab
import HandS.HeadWalk
import KE.KNestM
import PySem.Challenge.RW_hearkenway_k17_whole_no_tree_of_all_is_c
set_option Elab.async false
set_option linter.all false
set_option maxRecDepth 100000
set_option maxHeartbeats 0
/-! part HKA -/
/-! Nets, trees, prices: plain lists. -/
namespace HK

structure Road where
  i : Int
  j : Int
  p : Int
  l : Int
structure Net where
  n : Int
  rs : List Road

def lex2 (a b : Road) : Prop := a.i < b.i ∨ (a.i = b.i ∧ a.j < b.j)

structure ROk (n : Int) (r : Road) : Prop where
  i0 : 0 ≤ r.i
  i1 : r.i < n
  j0 : 0 ≤ r.j
  j1 : r.j < n
  ne : r.i ≠ r.j
  p0 : 0 ≤ r.p
  p1 : r.p ≤ 1000
  l0 : 1 ≤ r.l
  l1 : r.l ≤ 1000

structure Net.Ok (N : Net) : Prop where
  n1 : 1 ≤ N.n
  n12 : N.n ≤ 12
  rs : ∀ r ∈ N.rs, ROk N.n r
  up : N.rs.Pairwise lex2

inductive Reach (N : Net) (root : Int) : Int → Prop where
  | root : Reach N root root
  | step {r : Road} : r ∈ N.rs → Reach N root r.i → Reach N root r.j

def Net.road (N : Net) (i j : Int) : Option Road := N.rs.find? (fun r => r.i == i && r.j == j)
def Net.cost (N : Net) (i j : Int) : Int := ((N.road i j).map Road.p).getD 0
def Net.has (N : Net) (i j : Int) : Prop := ∃ r ∈ N.rs, r.i = i ∧ r.j = j

theorem lex_ne {rs : List Road} (h : rs.Pairwise lex2) {a b : Road} (ha : a ∈ rs) (hb : b ∈ rs) (hi : a.i = b.i) (hj : a.j = b.j) : a = b := by
  induction rs with
  | nil => simp at ha
  | cons r rs ih =>
    obtain ⟨h1, h2⟩ := List.pairwise_cons.mp h
    rcases List.mem_cons.mp ha with rfl | ha' <;> rcases List.mem_cons.mp hb with rfl | hb'
    · rfl
    · have := h1 _ hb'; unfold lex2 at this; omega
    · have := h1 _ ha'; unfold lex2 at this; omega
    · exact ih h2 ha' hb'

theorem road_some {N : Net} {i j : Int} {r : Road} (h : N.road i j = some r) : r ∈ N.rs ∧ r.i = i ∧ r.j = j := by
  have h1 := List.mem_of_find?_eq_some h
  have h2 := List.find?_some h
  simp at h2
  exact ⟨h1, h2.1, h2.2⟩
theorem road_has {N : Net} {i j : Int} (h : N.has i j) : ∃ r, N.road i j = some r := by
  obtain ⟨r, hr, hi, hj⟩ := h
  cases e : N.road i j with
  | some r => exact ⟨r, rfl⟩
  | none =>
    have := List.find?_eq_none.mp e r hr
    simp [hi, hj] at this
theorem road_of {N : Net} (ok : N.Ok) {r : Road} (hr : r ∈ N.rs) : N.road r.i r.j = some r := by
  obtain ⟨r', h⟩ := road_has ⟨r, hr, rfl, rfl⟩
  obtain ⟨a, b, c⟩ := road_some h
  rw [h, lex_ne ok.up a hr b c]
theorem cost_of {N : Net} (ok : N.Ok) {r : Road} (hr : r ∈ N.rs) : N.cost r.i r.j = r.p := by
  unfold Net.cost; rw [road_of ok hr]; rfl
theorem has_cost {N : Net} (ok : N.Ok) {i j : Int} (h : N.has i j) : ∃ r ∈ N.rs, r.i = i ∧ r.j = j ∧ N.cost i j = r.p := by
  obtain ⟨r, hr, rfl, rfl⟩ := h
  exact ⟨r, hr, rfl, rfl, cost_of ok hr⟩

/-! ### dicts of places -/
abbrev D := List (Int × Int)
section
variable {κ α : Type} [DecidableEq κ]
def get (d : List (κ × α)) (k : κ) : Option α := (d.find? (fun e => e.1 == k)).map (·.2)
def keys (d : List (κ × α)) : List κ := d.map (·.1)
def put (d : List (κ × α)) (k : κ) (v : α) : List (κ × α) :=
  if d.any (fun e => e.1 == k) then d.map (fun e => if e.1 == k then (k, v) else e) else d ++ [(k, v)]

theorem get_nil {k : κ} : get ([] : List (κ × α)) k = none := rfl
theorem get_cons {e : κ × α} {d : List (κ × α)} {k : κ} : get (e :: d) k = if e.1 = k then some e.2 else get d k := by
  unfold get
  by_cases h : e.1 = k <;> simp [h]
theorem get_none {d : List (κ × α)} {k : κ} : get d k = none ↔ k ∉ keys d := by
  induction d with
  | nil => simp [get_nil, keys]
  | cons e d ih =>
    rw [get_cons]
    by_cases h : e.1 = k
    · simp [h, keys]
    · simp only [h, if_false, ih]
      simp only [keys, List.map_cons, List.mem_cons]
      constructor
      · rintro a (b | b)
        · exact h b.symm
        · exact a b
      · intro a b; exact a (.inr b)
theorem get_mem {d : List (κ × α)} {k : κ} {v : α} (h : get d k = some v) : (k, v) ∈ d := by
  induction d with
  | nil => simp [get_nil] at h
  | cons e d ih =>
    rw [get_cons] at h
    by_cases he : e.1 = k
    · rw [if_pos he] at h
      have : e = (k, v) := by cases e; simp at he h; simp [he, h]
      rw [this]; exact List.mem_cons_self ..
    · rw [if_neg he] at h
      exact List.mem_cons_of_mem _ (ih h)
theorem get_key {d : List (κ × α)} {k : κ} {v : α} (h : get d k = some v) : k ∈ keys d := by
  have := get_mem h
  exact List.mem_map.mpr ⟨_, this, rfl⟩
theorem key_get {d : List (κ × α)} {k : κ} (h : k ∈ keys d) : ∃ v, get d k = some v := by
  cases e : get d k with
  | some v => exact ⟨v, rfl⟩
  | none => exact absurd h (get_none.mp e)
theorem mem_get {d : List (κ × α)} (nd : (keys d).Nodup) {k : κ} {v : α} (h : (k, v) ∈ d) : get d k = some v := by
  induction d with
  | nil => simp at h
  | cons e d ih =>
    have nd' : e.1 ∉ keys d ∧ (keys d).Nodup := List.nodup_cons.mp nd
    rw [get_cons]
    rcases List.mem_cons.mp h with rfl | h
    · simp
    · have : e.1 ≠ k := by
        intro q; subst q
        exact nd'.1 (List.mem_map.mpr ⟨_, h, rfl⟩)
      rw [if_neg this]
      exact ih nd'.2 h
theorem get_snoc {d : List (κ × α)} {k x : κ} {v : α} (h : k ∉ keys d) : get (d ++ [(k, v)]) x = if x = k then some v else get d x := by
  induction d with
  | nil =>
    show get [(k, v)] x = _
    rw [get_cons, get_nil]
    by_cases e : x = k
    · simp [e]
    · have : ¬ k = x := fun q => e q.symm
      simp [e, this]
  | cons e d ih =>
    have h' : ¬ k = e.1 ∧ k ∉ keys d := by
      simp only [keys, List.map_cons, List.mem_cons, not_or] at h
      exact h
    show get (e :: (d ++ [(k, v)])) x = _
    rw [get_cons, get_cons, ih h'.2]
    by_cases q : e.1 = x
    · have : ¬ x = k := fun z => h'.1 (by rw [← z, q])
      simp [q, this]
    · simp [q]
theorem any_key {d : List (κ × α)} {k : κ} : d.any (fun e => e.1 == k) = true ↔ k ∈ keys d := by
  rw [List.any_eq_true]
  constructor
  · rintro ⟨e, he, q⟩
    exact List.mem_map.mpr ⟨e, he, by simpa using q⟩
  · intro h
    obtain ⟨e, he, q⟩ := List.mem_map.mp h
    exact ⟨e, he, by simpa using q⟩
theorem put_new {d : List (κ × α)} {k : κ} {v : α} (h : k ∉ keys d) : put d k v = d ++ [(k, v)] := by
  unfold put
  have : ¬ (d.any (fun e => e.1 == k) = true) := fun q => h (any_key.mp q)
  rw [if_neg this]
theorem get_put {d : List (κ × α)} {k x : κ} {v : α} : get (put d k v) x = if x = k then some v else get d x := by
  by_cases h : k ∈ keys d
  · unfold put
    rw [if_pos (any_key.mpr h)]
    induction d with
    | nil => simp [keys] at h
    | cons e d ih =>
      rw [List.map_cons, get_cons, get_cons]
      by_cases q : e.1 = k
      · have q' : (e.1 == k) = true := by simp [q]
        rw [if_pos q']
        by_cases z : x = k
        · subst z; simp
        · have z' : ¬ k = x := fun w => z w.symm
          have z2 : ¬ e.1 = x := fun w => z (by rw [← w, q])
          simp only [z', z2, if_false]
          by_cases hd : k ∈ keys d
          · rw [ih hd]
          · have : d.map (fun e => if (e.1 == k) = true then (k, v) else e) = d := by
              have : ∀ l : List (κ × α), k ∉ keys l → l.map (fun e => if (e.1 == k) = true then (k, v) else e) = l := by
                intro l
                induction l with
                | nil => intro _; rfl
                | cons a l ihl =>
                  intro hl
                  simp only [keys, List.map_cons, List.mem_cons, not_or] at hl
                  have : ¬ (a.1 == k) = true := by simp; exact fun w => hl.1 w.symm
                  rw [List.map_cons, if_neg this, ihl hl.2]
              exact this d hd
            rw [this]; simp [z]
      · have q' : ¬ (e.1 == k) = true := by simp [q]
        have hd : k ∈ keys d := by
          simp only [keys, List.map_cons, List.mem_cons] at h
          rcases h with h | h
          · exact absurd h.symm q
          · exact h
        rw [if_neg q', ih hd]
        by_cases z : e.1 = x
        · have : ¬ x = k := fun w => q (by rw [z, w])
          simp [z, this]
        · simp [z]
  · rw [put_new h, get_snoc h]
theorem keys_put_old {d : List (κ × α)} {k : κ} {v : α} (h : k ∈ keys d) : keys (put d k v) = keys d := by
  unfold put
  rw [if_pos (any_key.mpr h)]
  unfold keys
  rw [List.map_map]
  apply List.map_congr_left
  intro e _
  by_cases q : e.1 = k <;> simp [q]
theorem keys_put_new {d : List (κ × α)} {k : κ} {v : α} (h : k ∉ keys d) : keys (put d k v) = keys d ++ [k] := by
  rw [put_new h]; simp [keys]
theorem mem_keys_put {d : List (κ × α)} {k x : κ} {v : α} : x ∈ keys (put d k v) ↔ x = k ∨ x ∈ keys d := by
  by_cases h : k ∈ keys d
  · rw [keys_put_old h]
    constructor
    · exact .inr
    · rintro (rfl | q)
      · exact h
      · exact q
  · rw [keys_put_new h]
    simp only [List.mem_append, List.mem_singleton]
    exact Or.comm
theorem nd_snoc {l : List κ} {k : κ} (h : l.Nodup) (hk : k ∉ l) : (l ++ [k]).Nodup := by
  rw [List.nodup_append]
  refine ⟨h, by simp, ?_⟩
  intro a ha b hb
  simp at hb; subst hb
  intro e; subst e; exact hk ha
theorem nd_put {d : List (κ × α)} {k : κ} {v : α} (h : (keys d).Nodup) : (keys (put d k v)).Nodup := by
  by_cases q : k ∈ keys d
  · rw [keys_put_old q]; exact h
  · rw [keys_put_new q]; exact nd_snoc h q
end

/-! ### trees -/
def par (d : D) (x : Int) : Int := (get d x).getD x
def iter (f : Int → Int) : Nat → Int → Int
  | 0, x => x
  | m + 1, x => iter f m (f x)
def Home (d : D) (root x : Int) : Prop := ∃ m, iter (par d) m x = root
structure Tree (N : Net) (root : Int) (d : D) : Prop where
  nd : (keys d).Nodup
  rt : root ∉ keys d
  rd : ∀ e ∈ d, N.has e.2 e.1
  hm : ∀ k ∈ keys d, Home d root k

theorem par_get {d : D} {k v : Int} (h : get d k = some v) : par d k = v := by unfold par; rw [h]; rfl
theorem par_out {d : D} {k : Int} (h : k ∉ keys d) : par d k = k := by unfold par; rw [get_none.mpr h]; rfl
theorem iter_fix {f : Int → Int} {x : Int} (h : f x = x) : ∀ m, iter f m x = x
  | 0 => rfl
  | m + 1 => by show iter f m (f x) = x; rw [h]; exact iter_fix h m
theorem iter_add {f : Int → Int} : ∀ (a b : Nat) (x : Int), iter f (a + b) x = iter f b (iter f a x)
  | 0, b, x => by rw [Nat.zero_add]; rfl
  | a + 1, b, x => by rw [Nat.succ_add_eq_add_succ, Nat.add_succ]; exact iter_add a b (f x)
theorem iter_succ' {f : Int → Int} (m : Nat) (x : Int) : iter f (m + 1) x = f (iter f m x) := iter_add m 1 x

/-- the least number of steps home: all places on the way differ -/
theorem home_min {d : D} {root x : Int} (h : Home d root x) : ∃ m, iter (par d) m x = root ∧ ∀ k, k < m → iter (par d) k x ≠ root := by
  obtain ⟨m, hm⟩ := h
  induction m using Nat.strongRecOn with
  | _ m ih =>
    by_cases q : ∃ k, k < m ∧ iter (par d) k x = root
    · obtain ⟨k, hk, e⟩ := q
      exact ih k hk e
    · exact ⟨m, hm, fun k hk e => q ⟨k, hk, e⟩⟩
theorem home_len {d : D} {root x : Int} (rt : root ∉ keys d) (h : Home d root x) : iter (par d) d.length x = root := by
  obtain ⟨m, hm, hmin⟩ := home_min h
  have fixr : par d root = root := par_out rt
  have inkeys : ∀ k, k < m → iter (par d) k x ∈ keys d := by
    intro k hk
    apply Decidable.byContradiction
    intro q
    have f : par d (iter (par d) k x) = iter (par d) k x := par_out q
    have e : iter (par d) m x = iter (par d) k x := by
      have : m = k + (m - k) := by omega
      rw [this, iter_add, iter_fix f]
    exact hmin k hk (e.symm.trans hm)
  have inj : ∀ a b, a < b → b < m → iter (par d) a x ≠ iter (par d) b x := by
    intro a b hab hb e
    have e2 : iter (par d) (a + (m - b)) x = root := by
      rw [iter_add, e, ← iter_add]
      have : b + (m - b) = m := by omega
      rw [this, hm]
    exact hmin (a + (m - b)) (by omega) e2
  have nd : ((List.range m).map fun k => iter (par d) k x).Nodup := by
    unfold List.Nodup
    rw [List.pairwise_map]
    refine List.Pairwise.imp_of_mem ?_ (List.pairwise_lt_range (n := m))
    intro a b ha hb hab
    exact inj a b hab (List.mem_range.mp hb)
  have sub : ((List.range m).map fun k => iter (par d) k x) ⊆ keys d := by
    intro y hy
    obtain ⟨k, hk, e⟩ := List.mem_map.mp hy
    rw [← e]; exact inkeys k (List.mem_range.mp hk)
  have le := List.Nodup.length_le_of_subset nd sub
  simp [keys] at le
  have : d.length = m + (d.length - m) := by omega
  rw [this, iter_add, hm, iter_fix fixr]
theorem home_of_iter {d : D} {root x : Int} {m : Nat} (h : iter (par d) m x = root) : Home d root x := ⟨m, h⟩

def cst (N : Net) (d : D) : Int := (d.map fun e => N.cost e.2 e.1).sum
def Full (N : Net) (root : Int) (d : D) : Prop := Tree N root d ∧ ∀ x, Reach N root x → x ≠ root → x ∈ keys d

theorem tree_reach_iter {N : Net} {root : Int} {d : D} (T : Tree N root d) : ∀ (m : Nat) (x : Int), iter (par d) m x = root → Reach N root x
  | 0, x, h => by
    have : x = root := h
    rw [this]; exact .root
  | m + 1, x, h => by
    have ih := tree_reach_iter T m (par d x) h
    by_cases q : x ∈ keys d
    · obtain ⟨v, hv⟩ := key_get q
      rw [par_get hv] at ih
      obtain ⟨r, hr, e1, e2⟩ := T.rd _ (get_mem hv)
      simp at e1 e2
      subst e1 e2
      exact .step hr ih
    · rw [par_out q] at ih; exact ih
theorem tree_reach {N : Net} {root : Int} {d : D} (T : Tree N root d) {k : Int} (h : k ∈ keys d) : Reach N root k := by
  obtain ⟨m, hm⟩ := T.hm k h
  exact tree_reach_iter T m k hm
theorem tree_par_reach {N : Net} {root : Int} {d : D} (T : Tree N root d) {e : Int × Int} (h : e ∈ d) : Reach N root e.2 := by
  have hk : e.1 ∈ keys d := List.mem_map.mpr ⟨e, h, rfl⟩
  obtain ⟨m, hm⟩ := T.hm _ hk
  cases m with
  | zero =>
    have : e.1 = root := hm
    exact absurd (this ▸ hk) T.rt
  | succ m =>
    have : par d e.1 = e.2 := par_get (mem_get T.nd h)
    have hm' : iter (par d) m (par d e.1) = root := hm
    rw [this] at hm'
    exact tree_reach_iter T m _ hm'

/-! ### weights -/
abbrev Wt := List (List Int × Int)
def ent (S : List Int) (i j : Int) : Bool := decide (j ∈ S) && !decide (i ∈ S)
def load (ws : Wt) (i j : Int) : Int := (ws.map fun w => if ent w.1 i j then w.2 else 0).sum
def cnt (S : List Int) (d : D) : Int := (d.map fun e => if ent S e.2 e.1 then (1 : Int) else 0).sum
def tot (ws : Wt) : Int := (ws.map (·.2)).sum

theorem sum_map_add {α : Type} (l : List α) (f g : α → Int) : (l.map fun x => f x + g x).sum = (l.map f).sum + (l.map g).sum := by
  induction l with
  | nil => simp
  | cons a l ih => simp only [List.map_cons, List.sum_cons, ih]; omega
theorem sum_map_mul {α : Type} (l : List α) (c : Int) (f : α → Int) : (l.map fun x => c * f x).sum = c * (l.map f).sum := by
  induction l with
  | nil => simp
  | cons a l ih => simp only [List.map_cons, List.sum_cons, ih, Int.mul_add]
theorem sum_map_le {α : Type} {l : List α} {f g : α → Int} (h : ∀ x ∈ l, f x ≤ g x) : (l.map f).sum ≤ (l.map g).sum := by
  induction l with
  | nil => simp
  | cons a l ih =>
    simp only [List.map_cons, List.sum_cons]
    have h1 := h a (List.mem_cons_self ..)
    have h2 := ih fun x hx => h x (List.mem_cons_of_mem _ hx)
    omega
theorem sum_map_congr {α : Type} {l : List α} {f g : α → Int} (h : ∀ x ∈ l, f x = g x) : (l.map f).sum = (l.map g).sum := by
  rw [List.map_congr_left h]
theorem sum_zero {α : Type} (l : List α) : (l.map fun _ => (0 : Int)).sum = 0 := by
  induction l with
  | nil => rfl
  | cons a l ih => simp only [List.map_cons, List.sum_cons, ih]; rfl
theorem sum_nonneg {α : Type} {l : List α} {f : α → Int} (h : ∀ x ∈ l, 0 ≤ f x) : 0 ≤ (l.map f).sum := by
  have := sum_map_le (l := l) (f := fun _ => 0) (g := f) h
  rw [sum_zero] at this; exact this
theorem perm_sum {l m : List Int} (h : l.Perm m) : l.sum = m.sum := by
  induction h with
  | nil => rfl
  | cons x _ ih => simp only [List.sum_cons, ih]
  | swap x y l => simp only [List.sum_cons]; omega
  | trans _ _ a b => exact a.trans b

theorem load_cons (w : List Int × Int) (ws : Wt) (i j : Int) : load (w :: ws) i j = (if ent w.1 i j then w.2 else 0) + load ws i j := by
  simp [load]
theorem load_snoc (w : List Int × Int) (ws : Wt) (i j : Int) : load (ws ++ [w]) i j = load ws i j + (if ent w.1 i j then w.2 else 0) := by
  simp [load]
theorem swap_sum (d : D) : ∀ ws : Wt, (d.map fun e => load ws e.2 e.1).sum = (ws.map fun w => w.2 * cnt w.1 d).sum
  | [] => by
    show (d.map fun _ => (0 : Int)).sum = 0
    exact sum_zero d
  | w :: ws => by
    have ih := swap_sum d ws
    have e : (d.map fun e => load (w :: ws) e.2 e.1) = d.map fun e => (if ent w.1 e.2 e.1 then w.2 else 0) + load ws e.2 e.1 := by
      apply List.map_congr_left; intro a _; exact load_cons w ws _ _
    rw [e, sum_map_add, ih, List.map_cons, List.sum_cons]
    have e2 : (d.map fun e => if ent w.1 e.2 e.1 = true then w.2 else 0).sum = w.2 * cnt w.1 d := by
      unfold cnt
      rw [← sum_map_mul]
      apply sum_map_congr
      intro a _
      by_cases h : ent w.1 a.2 a.1 <;> simp [h]
    rw [e2]
theorem cnt_nonneg (S : List Int) (d : D) : 0 ≤ cnt S d := sum_nonneg fun e _ => by split <;> omega
theorem cnt_pos {S : List Int} {d : D} {e : Int × Int} (he : e ∈ d) (h : ent S e.2 e.1 = true) : 1 ≤ cnt S d := by
  induction d with
  | nil => simp at he
  | cons a d ih =>
    have e0 : cnt S (a :: d) = (if ent S a.2 a.1 then (1 : Int) else 0) + cnt S d := by simp [cnt]
    rw [e0]
    have := cnt_nonneg S d
    rcases List.mem_cons.mp he with rfl | he
    · rw [if_pos h]; omega
    · have := ih he
      split <;> omega

/-- a walk home from within S leaves S -/
theorem leaves {N : Net} {root : Int} {d : D} (F : Full N root d) {S : List Int} (hr : root ∉ S) (hs : ∀ x ∈ S, Reach N root x) :
    ∀ (m : Nat) (x : Int), x ∈ S → iter (par d) m x = root → ∃ e ∈ d, ent S e.2 e.1 = true
  | 0, x, hx, h => by
    have : x = root := h
    exact absurd (this ▸ hx) hr
  | m + 1, x, hx, h => by
    have hk : x ∈ keys d := F.2 x (hs x hx) (fun q => hr (q ▸ hx))
    obtain ⟨v, hv⟩ := key_get hk
    have h' : iter (par d) m (par d x) = root := h
    rw [par_get hv] at h'
    by_cases q : v ∈ S
    · exact leaves F hr hs m v q h'
    · exact ⟨(x, v), get_mem hv, by simp [ent, hx, q]⟩
structure WOk (N : Net) (root : Int) (ws : Wt) : Prop where
  pos : ∀ w ∈ ws, 0 ≤ w.2
  ne : ∀ w ∈ ws, w.1 ≠ []
  rt : ∀ w ∈ ws, root ∉ w.1
  re : ∀ w ∈ ws, ∀ x ∈ w.1, Reach N root x
  ld : ∀ r ∈ N.rs, Reach N root r.i → load ws r.i r.j ≤ r.p
theorem weak {N : Net} (ok : N.Ok) {root : Int} {d : D} {ws : Wt} (F : Full N root d) (W : WOk N root ws) : tot ws ≤ cst N d := by
  have h1 : (d.map fun e => load ws e.2 e.1).sum ≤ cst N d := by
    unfold cst
    apply sum_map_le
    intro e he
    obtain ⟨r, hr, e1, e2, e3⟩ := has_cost ok (F.1.rd e he)
    rw [e3, ← e1, ← e2]
    exact W.ld r hr (e1 ▸ tree_par_reach F.1 he)
  rw [swap_sum] at h1
  refine Int.le_trans ?_ h1
  unfold tot
  apply sum_map_le
  intro w hw
  have hp := W.pos w hw
  have hc : 1 ≤ cnt w.1 d := by
    obtain ⟨x, hx⟩ := List.exists_mem_of_ne_nil _ (W.ne w hw)
    have hk : x ∈ keys d := F.2 x (W.re w hw x hx) (fun q => W.rt w hw (q ▸ hx))
    obtain ⟨m, hm⟩ := F.1.hm x hk
    obtain ⟨e, he, h⟩ := leaves F (W.rt w hw) (W.re w hw) m x hx hm
    exact cnt_pos he h
  have := Int.mul_le_mul_of_nonneg_left hc hp
  omega
theorem strong {N : Net} {d : D} {ws : Wt} (hl : ∀ e ∈ d, N.cost e.2 e.1 = load ws e.2 e.1) (hc : ∀ w ∈ ws, cnt w.1 d = 1) : cst N d = tot ws := by
  unfold cst
  rw [sum_map_congr hl, swap_sum]
  unfold tot
  apply sum_map_congr
  intro w hw
  rw [hc w hw]; omega

/-! ### the least price -/
def IsMin (N : Net) (root t : Int) : Prop := (∃ d, Full N root d ∧ cst N d = t) ∧ ∀ d, Full N root d → t ≤ cst N d
theorem isMin_of {N : Net} (ok : N.Ok) {root : Int} {d : D} {ws : Wt} (F : Full N root d) (W : WOk N root ws) (hl : ∀ e ∈ d, N.cost e.2 e.1 = load ws e.2 e.1) (hc : ∀ w ∈ ws, cnt w.1 d = 1) : IsMin N root (cst N d) :=
  ⟨⟨d, F, rfl⟩, fun d' F' => by rw [strong hl hc]; exact weak ok F' W⟩
theorem IsMin.uniq {N : Net} {root t u : Int} (a : IsMin N root t) (b : IsMin N root u) : t = u := by
  obtain ⟨⟨d, F, e⟩, h⟩ := a
  obtain ⟨⟨d', F', e'⟩, h'⟩ := b
  have := h d' F'
  have := h' d F
  omega
abbrev NK := List Int × Int
end HK

/-! part HKB -/
/-! The walk's ground: the text by places, facts of the module, heaps, evaluations. -/
namespace HK
open PySem PySem.Spec PyProof.Rows L2 Evl
open C8 (Cal Met Mak pe_c pe_mk pe_mt pe_mt0 pe_gc fnScope_by)
abbrev PW : Program := PySem.Challenge.pw_hearkenway_k17_whole_no_tree_of_all_is_c
def top (i : Nat) : Stmt := PW.main.body.getD i (.Pass ⟨0, 0, 0, 0⟩)

/-! ### facts of the module -/
structure Txt (K : PySem.W.Frag) (mg : Str → Option Value) : Prop where
  g_len : mg "len" = none
  g_range : mg "range" = none
  g_isinstance : mg "isinstance" = none
  g_all : mg "all" = none
  g_sum : mg "sum" = none
  g_sorted : mg "sorted" = none
  g_min : mg "min" = none
  g_tuple : mg "tuple" = none
  g_dict : mg "dict" = none
  g_set : mg "set" = none
  g_int : mg "int" = none
  g_bool : mg "bool" = none
  c_MOST_PLACES : ∃ u, mg "MOST_PLACES" = some u ∧ RelV (.int 12) u
  c_MOST_PRICE : ∃ u, mg "MOST_PRICE" = some u ∧ RelV (.int 1000) u
  c_MOST_LATE : ∃ u, mg "MOST_LATE" = some u ∧ RelV (.int 1000) u
  c_MOST_HEARERS : ∃ u, mg "MOST_HEARERS" = some u ∧ RelV (.int 6) u

/-- a def of the module as it stands behind the top -/
structure DefAt (K : PySem.W.Frag) (mg : Str → Option Value) (x : Str) (st : Stmt) (ps : List Str) : Prop where
  ex : ∃ (f : Addr) (fd : FuncData), FunD K x x (defArgs st) (defBody st) (defScope st) [] [] f fd ∧ mg x = some (.ref f) ∧ Binds K fd ps []
/-- a method of the class at C -/
structure MetAt (K : PySem.W.Frag) (C : Addr) (m qual : Str) (st : Stmt) (ps : List Str) : Prop where
  ex : ∃ (f : Addr) (fd : FuncData), FunD K m qual (defArgs st) (defBody st) (defScope st) [] [] f fd ∧ Cls K C ∧ Meth K C m f ∧ Binds K fd ps []
structure MakAt (K : PySem.W.Frag) (mg : Str → Option Value) (x : Str) (C : Addr) (qual : Str) (st : Stmt) (ps : List Str) : Prop where
  ex : ∃ (f : Addr) (fd : FuncData), FunD K "__init__" qual (defArgs st) (defBody st) (defScope st) [] [] f fd ∧ Mk K C f ∧ mg x = some (.ref C) ∧ Binds K fd ps []
section
variable {P : Program} {w : World} {K : PySem.W.Frag} {mg : Str → Option Value} {base : Heap}
theorem DefAt.cal {x : Str} {st : Stmt} {ps N : List Str} {k : Nat} {sp : Sp} (F : DefAt K mg x st ps) (S : FnScope N ps (defScope st)) (len : ∀ vs H Q E, sp vs H Q E → vs.length = ps.length)
    (hbody : ∀ (f : Addr) (cdv : Value) (A : Around) (outer : List Env) (s : Shared) (H : Hp) (vs : List V) (Q : VK) (E : XK), Room k (A.deeper (envOfC x (defScope st) s.heap.objs.size f cdv)) → sp vs H Q E →
      ∃ t, PSs (cxOf CX0 P w K mg base N x (defScope st) f cdv A outer s H E).nox (defBody st) t ∧ t { nx := fun _ H' => Q .non H', rt := Q } (start N vs) H) : Cal P w K mg base (k + 1) x sp [] := by
  obtain ⟨f, fd, D, hm, b⟩ := F.ex
  refine ⟨f, fd, ps, [], D.ok S len fun cdv A outer s H vs Q E hr hsp => ?_, hm, D.kp, b, .nil⟩
  obtain ⟨t, h, q⟩ := hbody f cdv A outer s H vs Q E hr hsp
  exact ⟨t, h.nox, q⟩
theorem MetAt.met {C : Addr} {m qual : Str} {st : Stmt} {ps N : List Str} {k : Nat} {sp : Sp} (F : MetAt K C m qual st ps) (S : FnScope N ps (defScope st)) (len : ∀ vs H Q E, sp vs H Q E → vs.length = ps.length)
    (hbody : ∀ (f : Addr) (cdv : Value) (A : Around) (outer : List Env) (s : Shared) (H : Hp) (vs : List V) (Q : VK) (E : XK), Room k (A.deeper (envOfC qual (defScope st) s.heap.objs.size f cdv)) → sp vs H Q E →
      ∃ t, PSs (cxOf CX0 P w K mg base N qual (defScope st) f cdv A outer s H E).nox (defBody st) t ∧ t { nx := fun _ H' => Q .non H', rt := Q } (start N vs) H) : Met P w K mg base (k + 1) C m sp [] := by
  obtain ⟨f, fd, D, hc, hm, b⟩ := F.ex
  refine ⟨f, fd, ps, [], hc, hm, D.ok S len fun cdv A outer s H vs Q E hr hsp => ?_, b, .nil⟩
  obtain ⟨t, h, q⟩ := hbody f cdv A outer s H vs Q E hr hsp
  exact ⟨t, h.nox, q⟩
theorem MakAt.mak {x : Str} {C : Addr} {qual : Str} {st : Stmt} {ps N : List Str} {k : Nat} {sp : Sp} (F : MakAt K mg x C qual st ps) (S : FnScope N ps (defScope st)) (len : ∀ vs H Q E, sp vs H Q E → vs.length = ps.length)
    (hbody : ∀ (f : Addr) (cdv : Value) (A : Around) (outer : List Env) (s : Shared) (H : Hp) (vs : List V) (Q : VK) (E : XK), Room k (A.deeper (envOfC qual (defScope st) s.heap.objs.size f cdv)) → sp vs H Q E →
      ∃ t, PSs (cxOf CX0 P w K mg base N qual (defScope st) f cdv A outer s H E).nox (defBody st) t ∧ t { nx := fun _ H' => Q .non H', rt := Q } (start N vs) H) : Mak P w K mg base (k + 1) x C sp [] := by
  obtain ⟨f, fd, D, hM, hm, b⟩ := F.ex
  refine ⟨f, fd, ps, [], hM, D.ok S len fun cdv A outer s H vs Q E hr hsp => ?_, hm, b, .nil⟩
  obtain ⟨t, h, q⟩ := hbody f cdv A outer s H vs Q E hr hsp
  exact ⟨t, h.nox, q⟩
end

/-! ### heaps: what stands -/
/-- all tuples stay -/
def TEx (H H' : Hp) : Prop := ∀ a xs, H a = some (.tup xs) → H' a = some (.tup xs)
/-- all but what stands at the addresses B stays -/
def ExB (B : List Addr) (H H' : Hp) : Prop := ∀ a o, a ∉ B → H a = some o → H' a = some o
theorem TEx.refl (H : Hp) : TEx H H := fun _ _ h => h
theorem TEx.trans {H H1 H2 : Hp} (a : TEx H H1) (b : TEx H1 H2) : TEx H H2 := fun x o h => b x o (a x o h)
theorem tex {H H' : Hp} (e : Ex H H') : TEx H H' := fun a xs h => e a _ h
theorem tex_upd {H : Hp} {a : Addr} {o u : HO} (h : H a = some u) (d : ∀ xs, u ≠ .tup xs) : TEx H (upd H a o) := fun b xs hb => by
  rw [upd_ne (ne_of hb h (fun q => d xs q.symm))]; exact hb
theorem ExB.refl (B : List Addr) (H : Hp) : ExB B H H := fun _ _ _ h => h
theorem ExB.trans {B : List Addr} {H H1 H2 : Hp} (a : ExB B H H1) (b : ExB B H1 H2) : ExB B H H2 := fun x o n h => b x o n (a x o n h)
theorem ExB.of {B : List Addr} {H H' : Hp} (e : Ex H H') : ExB B H H' := fun a o _ h => e a o h
theorem ExB.upd {B : List Addr} {H : Hp} {a : Addr} {o : HO} (h : a ∈ B) : ExB B H (upd H a o) := fun b u n hb => by
  rw [upd_ne (fun q => n (by rw [q]; exact h))]; exact hb
theorem ExB.mono {B C : List Addr} {H H' : Hp} (e : ExB B H H') (h : ∀ a ∈ B, a ∈ C) : ExB C H H' := fun a o n => e a o fun q => n (h a q)
/-- what was new is not tracked before -/
theorem ExB.ex {B : List Addr} {H0 H H' : Hp} (e0 : Ex H0 H) (hB : ∀ a ∈ B, H0 a = none) (e : ExB B H H') : Ex H0 H' := fun a o h => e a o (fun q => by
  rw [hB a q] at h; cases h) (e0 a o h)
theorem fresh_ne {H : Hp} {a b : Addr} {o : HO} (h : H a = some o) (h' : H b = none) : a ≠ b := ne_of_none h h'

/-- an evaluation: the value and the heap as R says -/
def EvP (te : TE) (σ : L2.St) (H : Hp) (R : V → Hp → Prop) : Prop := ∀ H1, Ex H H1 → ∀ Q : VK, (∀ v H2, Ex H1 H2 → R v H2 → Q v H2) → te σ H1 Q
def RetP (R : V → Hp → Prop) (H : Hp) (Q : VK) : Prop := ∀ v H2, Ex H H2 → R v H2 → Q v H2
section
variable {K : PySem.W.Frag} {σ : L2.St} {H H' : Hp} {ta tb tc te tx : TE} {t u : TT} {x y z v : V} {r r' : R2} {R : V → Hp → Prop}
theorem Ev.p (h : Ev te σ H v) : EvP te σ H fun x _ => x = v := fun H1 e Q q => h H1 e Q fun H2 e2 => q v H2 e2 rfl
theorem EvP.val (h : EvP te σ H fun x _ => x = v) : Ev te σ H v := fun H1 e Q q => h H1 e Q fun x H2 e2 ex => by
  rw [ex]; exact q H2 e2
theorem EvP.mono (e : Ex H H') (h : EvP te σ H R) : EvP te σ H' R := fun H1 a Q q => h H1 (e.trans a) Q q
theorem evp_call {sp : Sp} {vs : List V} {E : XK} {ta : TA} (h : EvA ta σ H vs) (hs : ∀ H1, Ex H H1 → ∀ Q, RetP R H1 Q → sp (vs ++ []) H1 Q E) : EvP (tCall sp [] E ta) σ H R := fun H1 e Q q =>
  h H1 e _ fun H2 e2 => hs H2 (e.trans e2) Q fun v H3 e3 hr => q v H3 (e2.trans e3) hr
/-- a call whose value is known -/
theorem ev_callV {sp : Sp} {vs : List V} {E : XK} {ta : TA} (h : EvA ta σ H vs) (hs : ∀ H1, Ex H H1 → ∀ Q, RetV z H1 Q → sp (vs ++ []) H1 Q E) : Ev (tCall sp [] E ta) σ H z := fun H1 e Q q =>
  h H1 e _ fun H2 e2 => hs H2 (e.trans e2) Q fun H3 e3 => q H3 (e2.trans e3)
theorem ev_chain {b1 b2 : Bool} (ha : Ev ta σ H x) (hb : Ev tb σ H y) (hr : RV r x y H (.bl b1)) (hc : b1 = true → Ev tc σ H z) (hr' : b1 = true → RV r' y z H (.bl b2)) : Ev (tChain r r' ta tb tc) σ H (.bl (b1 && b2)) := fun H1 e Q q =>
  ha H1 e _ fun H2 e2 => hb H2 (e.trans e2) _ fun H3 e3 => hr H3 ((e.trans e2).trans e3) _ fun H4 e4 => ⟨b1, rfl, by
    cases b1 with
    | true =>
      show tc σ H4 _
      exact hc rfl H4 (((e.trans e2).trans e3).trans e4) _ fun H5 e5 => hr' rfl H5 ((((e.trans e2).trans e3).trans e4).trans e5) Q fun H6 e6 => q H6 ((((e2.trans e3).trans e4).trans e5).trans e6)
    | false => exact q H4 ((e2.trans e3).trans e4)⟩
theorem ev_isN (h : Ev ta σ H x) : Ev (tIsN ta) σ H (.bl (decide (x = .non))) := fun H1 e Q q => h H1 e _ fun H2 e2 => q H2 e2
theorem ev_notN (h : Ev ta σ H x) : Ev (tNotN ta) σ H (.bl (!decide (x = .non))) := fun H1 e Q q => h H1 e _ fun H2 e2 => q H2 e2
theorem ev_isi {t u : Value} {b : Bool} {ta tb : TE} {y : V} (ha : Ev ta σ H x) (hb : Ev tb σ H y) (hc : ClsV y u) (ht : ∀ H1, Ex H H1 → TyX K H1 x t) (hk : PySem.W.kitOne K t u = some b) : Ev (tCB (rIsi K) (tCons ta (tCons tb tNil))) σ H (.bl b) := fun H1 e Q q =>
  ha H1 e _ fun H2 e2 => hb H2 (e.trans e2) _ fun H3 e3 => ⟨x, y, t, u, b, rfl, hc, ht H3 ((e.trans e2).trans e3), hk, q H3 (e2.trans e3)⟩
theorem ev_isiI {i : Int} {n : String} {b : Bool} (ha : Ev ta σ H (.int i)) (hk : kitB "int" n = some b) : Ev (tCB (rIsi K) (tCons ta (tCons (tC (.ty n)) tNil))) σ H (.bl b) :=
  ev_isi ha ev_c (.ty n) (fun _ _ => .base (.int i)) (kit_ty hk)
theorem ev_isiT {a : Addr} {xs : List V} {n : String} {b : Bool} (ha : Ev ta σ H (.ref a)) (h : H a = some (.tup xs)) (hk : kitB "tuple" n = some b) : Ev (tCB (rIsi K) (tCons ta (tCons (tC (.ty n)) tNil))) σ H (.bl b) :=
  ev_isi ha ev_c (.ty n) (fun _ e => .base (.tup (e a _ h))) (kit_ty hk)
theorem ev_lenT {a : Addr} {xs : List V} (ha : Ev ta σ H (.ref a)) (h : H a = some (.tup xs)) : Ev (tCB (rLenS K) (tCons ta tNil)) σ H (.int (xs.length : Int)) := fun H1 e Q q =>
  ha H1 e _ fun H2 e2 => ⟨a, xs, rfl, Or.inr (st_of (e2 a _ (e a _ h))), q H2 e2⟩
theorem ev_lenL {a : Addr} {xs : List V} (ha : Ev ta σ H (.ref a)) (h : H a = some (.lst xs)) : Ev (tCB (rLenS K) (tCons ta tNil)) σ H (.int (xs.length : Int)) := ev_len ha (sq_of h)
/-- an item of a tuple, of a list -/
theorem ev_ixT {a : Addr} {xs : List V} {i : Int} (ha : Ev ta σ H (.ref a)) (hb : Ev tb σ H (.int i)) (h : H a = some (.tup xs)) (hv : atI xs i = some v) : Ev (tOp (rIxT K) ta tb) σ H v := ev_op ha hb (rv_ixT (st_of h) hv)
theorem ev_ixL {a : Addr} {xs : List V} {i : Int} (ha : Ev ta σ H (.ref a)) (hb : Ev tb σ H (.int i)) (h : H a = some (.lst xs)) (hv : atI xs i = some v) : Ev (tOp (rIxL K) ta tb) σ H v := ev_op ha hb (rv_ixL (sq_of h) hv)
/-- dicts -/
theorem ex_dget {a : Addr} {o : Option V} (e : Ex H H') (g : DGet H a y o) : DGet H' a y o := by
  rcases g with ⟨kvs, k, h, ey, l⟩ | ⟨kvs, k, b, h, ey, eb, l⟩
  · exact .inl ⟨kvs, k, ex_rd e h, ey, l⟩
  · exact .inr ⟨kvs, k, b, ex_rd e h, ey, e b _ eb, l⟩
theorem ev_dget {a : Addr} {td ty : TE} (ha : Ev td σ H (.ref a)) (hb : Ev ty σ H y) (g : DGet H a y (some v)) : Ev (tDGet td ty) σ H v := fun H1 e Q q =>
  ha H1 e _ fun H2 e2 => hb H2 (e.trans e2) _ fun H3 e3 => ⟨a, v, rfl, ex_dget ((e.trans e2).trans e3) g, q H3 (e2.trans e3)⟩
theorem ev_din {a : Addr} {td ty : TE} {o : Option V} (hb : Ev ty σ H y) (ha : Ev td σ H (.ref a)) (g : DGet H a y o) : Ev (tDIn ty td) σ H (.bl o.isSome) := fun H1 e Q q =>
  hb H1 e _ fun H2 e2 => ha H2 (e.trans e2) _ fun H3 e3 => ⟨a, o, rfl, ex_dget ((e.trans e2).trans e3) g, q H3 (e2.trans e3)⟩
theorem ev_dnotin {a : Addr} {td ty : TE} {o : Option V} (hb : Ev ty σ H y) (ha : Ev td σ H (.ref a)) (g : DGet H a y o) : Ev (tDNotIn ty td) σ H (.bl (!o.isSome)) := fun H1 e Q q =>
  hb H1 e _ fun H2 e2 => ha H2 (e.trans e2) _ fun H3 e3 => ⟨a, o, rfl, ex_dget ((e.trans e2).trans e3) g, q H3 (e2.trans e3)⟩
/-- a field -/
theorem ev_fld {a C dx : Addr} {fs : List (Str × V)} {f : Str} (ha : Ev ta σ H (.ref a)) (h : H a = some (.ins C dx fs)) (hc : Cls K C) (hn : NoAttr K C f) (hl : fs.lookup f = some v) : Ev (tFld K ta f) σ H v := fun H1 e Q q =>
  ha H1 e _ fun H2 e2 => ⟨a, C, dx, fs, v, rfl, e2 a _ (e a _ h), hc, hn, hl, q H2 e2⟩
/-- len of a dict, a locked one too -/
def rLenD : List V → Hp → VK → Prop := fun xs H Q => ∃ a kvs, xs = [V.ref a] ∧ Rd H a (.dK kvs) ∧ Q (.int kvs.length) H
theorem call_lenR {X : Cx} : CallR X (.builtin "len") rLenD := by
  intro pins s σ H xs us Q I r h
  obtain ⟨a, kvs, rfl, ha, q⟩ := h
  obtain ⟨u, rfl, ru⟩ := vals1 r
  cases ru
  exact d_len I ha fun t s' I' => ⟨.int kvs.length, H, I', ⟨t, rfl⟩, q⟩
theorem ev_lenD {a : Addr} {kvs : List (Key × V)} (ha : Ev ta σ H (.ref a)) (h : Rd H a (.dK kvs)) : Ev (tCB rLenD (tCons ta tNil)) σ H (.int kvs.length) := fun H1 e Q q =>
  ha H1 e _ fun H2 e2 => ⟨a, kvs, rfl, ex_rd (e.trans e2) h, q H2 e2⟩
/-- a list of truths, all -/
theorem evp_all {bs : List Bool} (ha : EvL ta σ H (bs.map V.bl)) : Ev (tCB (rAll K) (tCons ta tNil)) σ H (.bl (bs.all id)) := fun H1 e Q q =>
  ha H1 e _ fun p H2 _ e2 h => ⟨p, bs, rfl, sq_of h, q H2 e2⟩
theorem ev_sum {ns : List Int} (ha : EvL ta σ H (ns.map V.int)) : Ev (tCB (rSum K) (tCons ta tNil)) σ H (.int ns.sum) := fun H1 e Q q =>
  ha H1 e _ fun p H2 _ e2 h => ⟨p, ns, rfl, sq_of h, q H2 e2⟩

/-! statements -/
variable {D : Ends} {tu tw tz : TS} {g : TG}
theorem s_dput {a : Addr} {td ty tv : TE} {kvs : List (Key × V)} {k : Key} (hv : Ev tv σ H v) (ha : Ev td σ H (.ref a)) (hk : Ev ty σ H (kV k)) (h : H a = some (.dK kvs)) (hl : kvs.length < 100000)
    (q : ∀ H1, Ex H H1 → D.nx σ (upd H1 a (.dK (putK kvs k v)))) : sDPut td ty tv D σ H := hv H (Ex.refl H) _ fun H1 e1 => ha H1 e1 _ fun H2 e2 => hk H2 (e1.trans e2) _ fun H3 e3 =>
  ⟨a, _, rfl, DPut.k (((e1.trans e2).trans e3) a _ h) (sz_lt hl), q H3 ((e1.trans e2).trans e3)⟩
theorem q_dput {a : Addr} {td ty tv : TE} {kvs : List (Key × V)} {k : Key} (hv : Ev tv σ H v) (ha : Ev td σ H (.ref a)) (hk : Ev ty σ H (kV k)) (h : H a = some (.dK kvs)) (hl : kvs.length < 100000)
    (q : ∀ H1, Ex H H1 → tz D σ (upd H1 a (.dK (putK kvs k v)))) : tSeq (sDPut td ty tv) tz D σ H := s_dput (D := { D with nx := tz D }) hv ha hk h hl q
theorem s_asgP {i : Nat} (h : EvP te σ H R) (k : ∀ v H1, Ex H H1 → R v H1 → D.nx (σ.set i (some v)) H1) : tAsg te (gName i) D σ H := h H (Ex.refl H) _ fun v H1 e r => k v H1 e r
theorem q_asgP {i : Nat} (h : EvP te σ H R) (k : ∀ v H1, Ex H H1 → R v H1 → tz D (σ.set i (some v)) H1) : tSeq (tAsg te (gName i)) tz D σ H := s_asgP (D := { D with nx := tz D }) h k
theorem s_retP (h : EvP te σ H R) (k : ∀ v H1, Ex H H1 → R v H1 → D.rt v H1) : tRet te D σ H := h H (Ex.refl H) _ fun v H1 e r => k v H1 e r
theorem s_dropP (h : EvP te σ H R) (k : ∀ v H1, Ex H H1 → R v H1 → D.nx σ H1) : tDrop te D σ H := h H (Ex.refl H) _ fun v H1 e r => k v H1 e r
theorem q_dropP (h : EvP te σ H R) (k : ∀ v H1, Ex H H1 → R v H1 → tz D σ H1) : tSeq (tDrop te) tz D σ H := s_dropP (D := { D with nx := tz D }) h k
/-- targets of two, of four names -/
theorem g2 {b : Addr} {v1 v2 : V} {i1 i2 : Nat} {Q : L2.St → Hp → Prop} (h : H b = some (.tup [v1, v2])) (q : Q ((σ.set i1 (some v1)).set i2 (some v2)) H) : gTup K 2 (gCons (gName i1) (gCons (gName i2) gNil)) (.ref b) σ H Q :=
  ⟨b, [v1, v2], rfl, st_of h, rfl, v1, [v2], rfl, v2, [], rfl, rfl, q⟩
theorem g4 {b : Addr} {v1 v2 v3 v4 : V} {i1 i2 i3 i4 : Nat} {Q : L2.St → Hp → Prop} (h : H b = some (.tup [v1, v2, v3, v4])) (q : Q ((((σ.set i1 (some v1)).set i2 (some v2)).set i3 (some v3)).set i4 (some v4)) H) :
    gTup K 4 (gCons (gName i1) (gCons (gName i2) (gCons (gName i3) (gCons (gName i4) gNil)))) (.ref b) σ H Q :=
  ⟨b, [v1, v2, v3, v4], rfl, st_of h, rfl, v1, _, rfl, v2, _, rfl, v3, _, rfl, v4, _, rfl, rfl, q⟩
end

/-! ### nets in the heap -/
def rdV (r : Road) : List V := [.int r.i, .int r.j, .int r.p, .int r.l]
structure RoadsAt (H : Hp) (as : List Addr) (rs : List Road) : Prop where
  len : as.length = rs.length
  at_ : ∀ (k : Nat) (b : Addr) (r : Road), as[k]? = some b → rs[k]? = some r → H b = some (.tup (rdV r))
structure NetAt (H : Hp) (a : Addr) (N : Net) : Prop where
  ex : ∃ (t : Addr) (as : List Addr), H a = some (.tup [.int N.n, .ref t]) ∧ H t = some (.tup (as.map V.ref)) ∧ RoadsAt H as N.rs
theorem RoadsAt.mono {H H' : Hp} {as : List Addr} {rs : List Road} (e : TEx H H') (h : RoadsAt H as rs) : RoadsAt H' as rs := ⟨h.len, fun k b r ha hr => e b _ (h.at_ k b r ha hr)⟩
theorem NetAt.mono {H H' : Hp} {a : Addr} {N : Net} (e : TEx H H') (h : NetAt H a N) : NetAt H' a N := by
  obtain ⟨t, as, h1, h2, h3⟩ := h.ex
  exact ⟨t, as, e _ _ h1, e _ _ h2, h3.mono e⟩
theorem RoadsAt.get {H : Hp} {as : List Addr} {rs : List Road} (h : RoadsAt H as rs) {k : Nat} {x : V} (hx : (as.map V.ref)[k]? = some x) : ∃ (b : Addr) (r : Road), x = .ref b ∧ as[k]? = some b ∧ rs[k]? = some r ∧ H b = some (.tup (rdV r)) := by
  rw [List.getElem?_map] at hx
  cases ha : as[k]? with
  | none => rw [ha] at hx; cases hx
  | some b =>
    rw [ha] at hx
    have hk : k < as.length := (List.getElem?_eq_some_iff.mp ha).1
    have hk2 : k < rs.length := h.len ▸ hk
    exact ⟨b, rs[k], (Option.some.inj hx).symm, rfl, List.getElem?_eq_getElem hk2, h.at_ k b _ ha (List.getElem?_eq_getElem hk2)⟩

/-! ### dicts of ints in the heap -/
def dI (d : D) : List (Key × V) := d.map fun e => (Sum.inl e.1, V.int e.2)
theorem dI_len (d : D) : (dI d).length = d.length := by simp [dI]
theorem dI_val (d : D) (k : Int) : valV (dI d) (Sum.inl k) = (get d k).map V.int := by
  induction d with
  | nil => rfl
  | cons e d ih =>
    have e0 : dI (e :: d) = (Sum.inl e.1, V.int e.2) :: dI d := rfl
    rw [e0, get_cons]
    by_cases h : e.1 = k
    · rw [valV_pos (by rw [h]), if_pos h]; rfl
    · rw [valV_neg (fun q => h (Sum.inl.inj q)), if_neg h, ih]
theorem dI_snoc (d : D) (k v : Int) : dI (d ++ [(k, v)]) = dI d ++ [(Sum.inl k, V.int v)] := by simp [dI]
theorem dI_put (d : D) (k v : Int) : putK (dI d) (Sum.inl k) (.int v) = dI (put d k v) := by
  have ea : ((dI d).any fun kv => decide (kv.1 = (Sum.inl k : Key))) = d.any fun e => e.1 == k := by
    unfold dI
    rw [List.any_map]
    congr 1
    funext e
    by_cases h : e.1 = k
    · simp [h]
    · have : ¬ ((Sum.inl e.1 : Key) = Sum.inl k) := fun q => h (Sum.inl.inj q)
      simp [h, this]
  unfold putK put
  rw [ea]
  split
  · unfold dI
    rw [List.map_map, List.map_map]
    apply List.map_congr_left
    intro e _
    by_cases h : e.1 = k
    · simp [h]
    · have : ¬ ((Sum.inl e.1 : Key) = Sum.inl k) := fun q => h (Sum.inl.inj q)
      simp [h, this]
  · rw [dI_snoc]
theorem dget_I {H : Hp} {a : Addr} {d : D} (h : Rd H a (.dK (dI d))) (k : Int) : DGet H a (.int k) ((get d k).map V.int) := .inl ⟨dI d, Sum.inl k, h, rfl, (dI_val d k).symm⟩
theorem isSome_map {α β : Type} (f : α → β) (o : Option α) : (o.map f).isSome = o.isSome := by cases o <;> rfl

theorem q_skip {σ : L2.St} {H : Hp} {D : Ends} {t : TT} {tu tz : TS} {b : Bool} (h : EvT t σ H b) (hb : b = false) (k : ∀ H1, Ex H H1 → tz D σ H1) : tSeq (tIfS t tu tNext) tz D σ H :=
  q_when h (fun e => by rw [hb] at e; cases e) (fun _ => k)
theorem s_skip {σ : L2.St} {H : Hp} {D : Ends} {t : TT} {tu : TS} {b : Bool} (h : EvT t σ H b) (hb : b = false) (k : ∀ H1, Ex H H1 → D.nx σ H1) : tIfS t tu tNext D σ H :=
  s_when h (fun e => by rw [hb] at e; cases e) (fun _ => k)

/-! ### what is walked, one way for all -/
def Walks (J : It) (n : Nat) (Item : Nat → V → Hp → Prop) (G : Hp → Prop) : Prop := ∀ H, G H → (∀ i, i < n → J.go i H ∧ ∀ x H', J.yld i H x H' → H' = H ∧ Item i x H) ∧ J.stop n H
theorem walks_tup (K : PySem.W.Frag) (a : Addr) (xs : List V) : Walks (Itt K a) xs.length (fun i x _ => xs[i]? = some x) (fun H => SqT K H a xs) := fun H h =>
  ⟨fun i hi => ⟨⟨xs, xs[i], h, List.getElem?_eq_getElem hi⟩, fun x H' y => ⟨y.1, by obtain ⟨e, y⟩ := y; exact y xs h⟩⟩, ⟨xs, h, Nat.le_refl _⟩⟩
theorem walks_lst (K : PySem.W.Frag) (a : Addr) (xs : List V) : Walks (Itl K a) xs.length (fun i x _ => xs[i]? = some x) (fun H => SqL K H a xs) := fun H h =>
  ⟨fun i hi => ⟨⟨xs, xs[i], h, List.getElem?_eq_getElem hi⟩, fun x H' y => ⟨y.1, by obtain ⟨e, y⟩ := y; exact y xs h⟩⟩, ⟨xs, h, Nat.le_refl _⟩⟩
theorem walks_rng (lo : Int) (n : Nat) : Walks (Itr lo n) n (fun i x _ => x = .int (lo + i)) (fun _ => True) := fun H _ =>
  ⟨fun i hi => ⟨hi, fun x H' y => ⟨y.1, y.2⟩⟩, Nat.le_refl n⟩
theorem walks_keys (d : Addr) (o : Obj) (kvs : List (Key × V)) : Walks (Itk d o kvs) kvs.length (fun i x _ => ∃ k v, kvs[i]? = some (k, v) ∧ x = kV k) (fun H => H d = some (.frz o (.dK kvs))) := fun H h =>
  ⟨fun i hi => ⟨⟨h, hi⟩, fun x H' y => ⟨y.1, y.2⟩⟩, ⟨h, Nat.le_refl _⟩⟩
theorem walks_keysT (d : Addr) (o : Obj) (kvs : List (List Key × V)) : Walks (Itkt d o kvs) kvs.length (fun i x H => ∃ k v q, kvs[i]? = some (k, v) ∧ x = .ref q ∧ H q = some (.tup (k.map kV))) (fun H => H d = some (.frz o (.dT kvs))) := fun H h =>
  ⟨fun i hi => ⟨⟨h, hi⟩, fun x H' y => ⟨y.1, y.2⟩⟩, ⟨h, Nat.le_refl _⟩⟩
theorem for_walk {J : It} {n : Nat} {Item : Nat → V → Hp → Prop} {G : Hp → Prop} {g : TG} {tb : TS} {D : Ends} {σ : L2.St} {H : Hp} (W : Walks J n Item G) (Pv : Nat → L2.St → Hp → Prop) (h0 : Pv 0 σ H) (hG : ∀ i σ H, i ≤ n → Pv i σ H → G H)
    (hs : ∀ i x σ H, i < n → Item i x H → Pv i σ H → g x σ H fun σ2 H2 => tb { D with nx := Pv (i + 1), ct := Pv (i + 1), bk := D.nx } σ2 H2) (hd : ∀ σ H, Pv n σ H → D.nx σ H) :
    ∃ W : Nat → Nat → L2.St → Hp → Prop, (∃ m, W 0 m σ H) ∧ ∀ i m σ H, W i m σ H →
      (J.stop i H ∧ D.nx σ H) ∨ (J.go i H ∧ ∃ N : L2.St → Hp → Prop, (∀ σ' H', N σ' H' → ∃ m', m' < m ∧ W (i + 1) m' σ' H') ∧ ∀ x H', J.yld i H x H' → g x σ H' fun σ2 H2 => tb { D with nx := N, ct := N, bk := D.nx } σ2 H2) := by
  refine ⟨fun i m σ H => m = n - i ∧ i ≤ n ∧ Pv i σ H, ⟨n, by simp, Nat.zero_le _, h0⟩, ?_⟩
  rintro i m σ H ⟨rfl, hi, p⟩
  obtain ⟨w1, w2⟩ := W H (hG i σ H hi p)
  by_cases hlt : i < n
  · obtain ⟨hgo, hy⟩ := w1 i hlt
    refine .inr ⟨hgo, Pv (i + 1), fun σ' H' p' => ⟨n - (i + 1), by omega, rfl, hlt, p'⟩, fun x H' y => ?_⟩
    obtain ⟨e, it⟩ := hy x H' y
    subst e
    exact hs i x σ H' hlt it p
  · have e : i = n := by omega
    subst e
    exact .inl ⟨w2, hd σ H p⟩
theorem lc_walk {J : It} {n : Nat} {Item : Nat → V → Hp → Prop} {G : Hp → Prop} {g : TG} {tt : TT} {te : TE} {vs : List Nat} {σ : L2.St} {H1 : Hp} {D : Addr} {Qd : Hp → Prop} (W : Walks J n Item G) (Pv : Nat → Hp → Prop) (h0 : Pv 0 (upd H1 D (.lst []))) (hG : ∀ i H, i ≤ n → Pv i H → G H)
    (hs : ∀ i x H, i < n → Item i x H → Pv i H → g x (wipe σ vs) H fun σ2 H2 => wipe σ2 vs = wipe σ vs ∧ tt σ2 H2 fun b H3 =>
      if b = true then te σ2 H3 fun y H4 => ∃ acc, H4 D = some (.lst acc) ∧ acc.length < sizeLine ∧ Pv (i + 1) (upd H4 D (.lst (acc ++ [y]))) else Pv (i + 1) H3) (hd : ∀ H, Pv n H → Qd H) :
    ∃ W : Nat → Nat → Hp → Prop, (∃ m, W 0 m (upd H1 D (.lst []))) ∧ ∀ i m H, W i m H →
      (J.stop i H ∧ Qd H) ∨ (J.go i H ∧ ∃ Nx : Hp → Prop, (∀ H', Nx H' → ∃ m', m' < m ∧ W (i + 1) m' H') ∧ ∀ x H', J.yld i H x H' → g x (wipe σ vs) H' fun σ2 H2 => wipe σ2 vs = wipe σ vs ∧ tt σ2 H2 fun b H3 =>
        if b = true then te σ2 H3 fun y H4 => ∃ acc, H4 D = some (.lst acc) ∧ acc.length < sizeLine ∧ Nx (upd H4 D (.lst (acc ++ [y]))) else Nx H3) := by
  refine ⟨fun i m H => m = n - i ∧ i ≤ n ∧ Pv i H, ⟨n, by simp, Nat.zero_le _, h0⟩, ?_⟩
  rintro i m H ⟨rfl, hi, p⟩
  obtain ⟨w1, w2⟩ := W H (hG i H hi p)
  by_cases hlt : i < n
  · obtain ⟨hgo, hy⟩ := w1 i hlt
    refine .inr ⟨hgo, Pv (i + 1), fun H' p' => ⟨n - (i + 1), by omega, rfl, hlt, p'⟩, fun x H' y => ?_⟩
    obtain ⟨e, it⟩ := hy x H' y
    subst e
    exact hs i x H' hlt it p
  · have e : i = n := by omega
    subst e
    exact .inl ⟨w2, hd H p⟩

/-! ### a comprehension, by a relation between the turn, what is made so far, and the heap; it stays while the tuples stay -/
section
variable {K : PySem.W.Frag} {σ : L2.St} {H : Hp} {g : TG} {t : TT} {te tl : TE} {vs : List Nat}
/-- how the target is set in the i-th turn -/
def Sets (g : TG) (σ0 : L2.St) (n : Nat) (Item : Nat → V → Hp → Prop) (H : Hp) (st : Nat → L2.St) : Prop := ∀ i x H1, i < n → Ex H H1 → Item i x H1 → ∀ Q : L2.St → Hp → Prop, Q (st i) H1 → g x σ0 H1 Q
structure Step (n : Nat) (H : Hp) (st : Nat → L2.St) (t : TT) (te : TE) (f : Nat → Bool) (R : Nat → List V → Hp → Prop) : Prop where
  mono : ∀ i acc H1 H2, TEx H1 H2 → R i acc H1 → R i acc H2
  zero : ∀ H1, Ex H H1 → R 0 [] H1
  test : ∀ i H1, i < n → Ex H H1 → EvT t (st i) H1 (f i)
  yes : ∀ i acc H1, i < n → Ex H H1 → f i = true → R i acc H1 → EvP te (st i) H1 fun y H2 => R (i + 1) (acc ++ [y]) H2
  no : ∀ i acc H1, i < n → Ex H H1 → f i = false → R i acc H1 → R (i + 1) acc H1
theorem lc_run {J : It} {n : Nat} {Item : Nat → V → Hp → Prop} {G : Hp → Prop} (W : Walks J n Item G) (hG : ∀ H1, Ex H H1 → G H1) (hn : n ≤ 40000) (f : Nat → Bool) (st : Nat → L2.St) (R : Nat → List V → Hp → Prop)
    (hg : Sets g (wipe σ vs) n Item H st) (hw : ∀ i, i < n → wipe (st i) vs = wipe σ vs) (S : Step n H st t te f R) {H1 : Hp} (e1 : Ex H H1) {Dl : Addr} (hD : H1 Dl = none) {Q : VK}
    (q : ∀ acc H2, Ex H1 H2 → H2 Dl = some (.lst acc) → acc.length ≤ n → R n acc H2 → Q (.ref Dl) H2) :
    ∃ W : Nat → Nat → Hp → Prop, (∃ m, W 0 m (upd H1 Dl (.lst []))) ∧ ∀ i m H, W i m H →
      (J.stop i H ∧ Q (.ref Dl) H) ∨ (J.go i H ∧ ∃ Nx : Hp → Prop, (∀ H', Nx H' → ∃ m', m' < m ∧ W (i + 1) m' H') ∧ ∀ x H', J.yld i H x H' → g x (wipe σ vs) H' fun σ2 H2 => wipe σ2 vs = wipe σ vs ∧ t σ2 H2 fun b H3 =>
        if b = true then te σ2 H3 fun y H4 => ∃ acc, H4 Dl = some (.lst acc) ∧ acc.length < sizeLine ∧ Nx (upd H4 Dl (.lst (acc ++ [y]))) else Nx H3) := by
  refine lc_walk W (fun i H' => Ex H1 H' ∧ ∃ acc, H' Dl = some (.lst acc) ∧ acc.length ≤ i ∧ R i acc H') ⟨Ex.new hD, [], upd_same, Nat.le_refl 0, S.mono 0 [] H1 _ (tex (Ex.new hD)) (S.zero H1 e1)⟩
    (fun i H' _ p => hG H' (e1.trans p.1)) ?_ (fun H' p => by obtain ⟨p1, acc, p2, p3, p4⟩ := p; exact q acc H' p1 p2 p3 p4)
  rintro i x H' hi it ⟨p1, acc, p2, p3, p4⟩
  refine hg i x H' hi (e1.trans p1) it _ ⟨hw i hi, ?_⟩
  refine S.test i H' hi (e1.trans p1) H' (Ex.refl H') _ fun H3 e3 => ?_
  have r3 : R i acc H3 := S.mono i acc _ _ (tex e3) p4
  have e13 : Ex H1 H3 := p1.trans e3
  cases hf : f i with
  | true =>
    show te (st i) H3 _
    refine S.yes i acc H3 hi (e1.trans e13) hf r3 H3 (Ex.refl H3) _ fun y H4 e4 r4 => ?_
    have h4 : H4 Dl = some (.lst acc) := e4 Dl _ (e3 Dl _ p2)
    have tx : TEx H4 (upd H4 Dl (.lst (acc ++ [y]))) := tex_upd h4 fun xs z => nomatch z
    exact ⟨acc, h4, Nat.lt_of_le_of_lt p3 (Nat.lt_of_lt_of_le hi (sz_of (by omega))), Ex.mut (e13.trans e4) hD, acc ++ [y], upd_same, by rw [List.length_append, List.length_singleton]; omega, S.mono _ _ _ _ tx r4⟩
  | false =>
    exact ⟨e13, acc, e3 Dl _ p2, Nat.le_succ_of_le p3, S.no i acc H3 hi (e1.trans e13) hf r3⟩
/-- a new list, by the relation at the end -/
def NewL (H : Hp) (n : Nat) (R : List V → Hp → Prop) (v : V) (H2 : Hp) : Prop := ∃ p acc, v = .ref p ∧ H p = none ∧ H2 p = some (.lst acc) ∧ acc.length ≤ n ∧ R acc H2
def EvN (te : TE) (σ : L2.St) (H : Hp) (n : Nat) (R : List V → Hp → Prop) : Prop := ∀ H1, Ex H H1 → ∀ Q : VK, (∀ p acc H2, H1 p = none → Ex H1 H2 → H2 p = some (.lst acc) → acc.length ≤ n → R acc H2 → Q (.ref p) H2) → te σ H1 Q
theorem EvN.p {n : Nat} {R : List V → Hp → Prop} (h : EvN te σ H n R) : EvP te σ H (NewL H n R) := fun H1 e Q q => h H1 e Q fun p acc H2 hp e2 h2 hl r => q _ H2 e2 ⟨p, acc, rfl, fresh_back e hp, h2, hl, r⟩
/-- a new list whose items are known -/
theorem EvN.l {n : Nat} {R : List V → Hp → Prop} {xs : List V} (h : EvN te σ H n R) (ex : ∀ acc H2, R acc H2 → acc = xs) : EvL te σ H xs := fun H1 e Q q => h H1 e Q fun p acc H2 hp e2 h2 hl r => q p H2 hp e2 (by rw [← ex acc H2 r]; exact h2)
theorem lcT {a : Addr} {xs : List V} (h : Ev tl σ H (.ref a)) (hx : H a = some (.tup xs)) (hn : xs.length ≤ 40000) (f : Nat → Bool) (st : Nat → L2.St) (R : Nat → List V → Hp → Prop)
    (hg : Sets g (wipe σ vs) xs.length (fun i x _ => xs[i]? = some x) H st) (hw : ∀ i, i < xs.length → wipe (st i) vs = wipe σ vs) (S : Step xs.length H st t te f R) : EvN (tLc (iTup K tl) g t te vs) σ H xs.length (R xs.length) := fun H0 e0 Q q =>
  h H0 e0 _ fun H1 e1 => ⟨a, rfl, ⟨xs, st_of (e1 a _ (e0 a _ hx))⟩, fun Dl hD => lc_run (walks_tup K a xs) (fun H1 e => st_of (e a _ hx)) hn f st R hg hw S (e0.trans e1) hD
    fun acc H2 e2 h2 hl r => q _ acc H2 (fresh_back e1 hD) (e1.trans e2) h2 hl r⟩
theorem lcL {a : Addr} {xs : List V} (h : Ev tl σ H (.ref a)) (hx : H a = some (.lst xs)) (hn : xs.length ≤ 40000) (f : Nat → Bool) (st : Nat → L2.St) (R : Nat → List V → Hp → Prop)
    (hg : Sets g (wipe σ vs) xs.length (fun i x _ => xs[i]? = some x) H st) (hw : ∀ i, i < xs.length → wipe (st i) vs = wipe σ vs) (S : Step xs.length H st t te f R) : EvN (tLc (iList K tl) g t te vs) σ H xs.length (R xs.length) := fun H0 e0 Q q =>
  h H0 e0 _ fun H1 e1 => ⟨a, rfl, ⟨xs, sq_of (e1 a _ (e0 a _ hx))⟩, fun Dl hD => lc_run (walks_lst K a xs) (fun H1 e => sq_of (e a _ hx)) hn f st R hg hw S (e0.trans e1) hD
    fun acc H2 e2 h2 hl r => q _ acc H2 (fresh_back e1 hD) (e1.trans e2) h2 hl r⟩
theorem lcR {ta : TA} {n : Int} (h : EvA ta σ H [.int n]) (hn : n ≤ 40000) (hn0 : -1000 ≤ n) (f : Nat → Bool) (st : Nat → L2.St) (R : Nat → List V → Hp → Prop)
    (hg : Sets g (wipe σ vs) n.toNat (fun i x _ => x = .int (0 + i)) H st) (hw : ∀ i, i < n.toNat → wipe (st i) vs = wipe σ vs) (S : Step n.toNat H st t te f R) : EvN (tLc (iRng1 ta) g t te vs) σ H n.toNat (R n.toNat) := fun H0 e0 Q q =>
  h H0 e0 _ fun H1 e1 => ⟨n, rfl, by omega, by omega, fun Dl hD => lc_run (walks_rng 0 n.toNat) (fun H1 e => trivial) (by omega) f st R hg hw S (e0.trans e1) hD
    fun acc H2 e2 h2 hl r => q _ acc H2 (fresh_back e1 hD) (e1.trans e2) h2 hl r⟩
/-- over a dict's keys, the dict locked meanwhile -/
theorem lock_back {d : Addr} {u : HO} {od : Obj} {H H' : Hp} (h : H d = some u) (e : Ex (upd H d (.frz od u)) H') : Ex H (upd H' d u) := fun a o ha => by
  by_cases q : a = d
  · subst q; rw [h] at ha; cases ha; exact upd_same
  · rw [upd_ne q]; exact e a o (by rw [upd_ne q]; exact ha)
theorem lock_tex {d : Addr} {u : HO} {od : Obj} {H : Hp} (h : H d = some u) (mu : Mut (some u)) : TEx H (upd H d (.frz od u)) := tex_upd h (by rintro xs rfl; exact mu)
theorem lcK {d : Addr} {kvs : List (Key × V)} (hx : H d = some (.dK kvs)) (hn : kvs.length ≤ 40000) (f : Nat → Bool) (st : Nat → L2.St) (R : Nat → List V → Hp → Prop)
    (h : ∀ H1, Ev tl σ H1 (.ref d)) (k : ∀ od H1, Ex H H1 → Sets g (wipe σ vs) kvs.length (fun i x _ => ∃ k v, kvs[i]? = some (k, v) ∧ x = kV k) (upd H1 d (.frz od (.dK kvs))) st ∧ (∀ i, i < kvs.length → wipe (st i) vs = wipe σ vs) ∧ Step kvs.length (upd H1 d (.frz od (.dK kvs))) st t te f R) :
    EvN (tLockE (tLc (iKeys tl) g t te vs)) σ H kvs.length (R kvs.length) := fun H1 e1 Q q => ⟨d, .dK kvs, e1 d _ hx, trivial, fun od => by
  obtain ⟨hg, hw, S⟩ := k od H1 e1
  refine h _ _ (Ex.refl _) _ fun H2 e2 => ⟨d, od, rfl, .inl ⟨kvs, e2 d _ upd_same, fun Dl hD => lc_run (Q := fun v H' => H' d = some (HO.frz od (.dK kvs)) ∧ Q v (upd H' d (.dK kvs))) (walks_keys d od kvs) (fun H1 e => e d _ upd_same) hn f st R hg hw S e2 hD fun acc H3 e3 h3 hl r => ?_⟩⟩
  have e23 := e2.trans e3
  have hp : Dl ≠ d := fun z => by
    have := fresh_back e2 hD
    rw [z, upd_same] at this; cases this
  have hp1 : H1 Dl = none := by
    have := fresh_back e2 hD
    rw [upd_ne hp] at this; exact this
  exact ⟨e23 d _ upd_same, q Dl acc _ hp1 (lock_back (e1 d _ hx) e23) (by rw [upd_ne hp]; exact h3) hl (S.mono _ _ _ _ (tex_upd (e23 d _ upd_same) fun xs z => nomatch z) r)⟩⟩
theorem lcKT {d : Addr} {kvs : List (List Key × V)} (hx : H d = some (.dT kvs)) (hn : kvs.length ≤ 40000) (f : Nat → Bool) (st : Nat → L2.St) (R : Nat → List V → Hp → Prop)
    (h : ∀ od H1, Ex H H1 → Ev tl σ (upd H1 d (.frz od (.dT kvs))) (.ref d)) (k : ∀ od H1, Ex H H1 → Sets g (wipe σ vs) kvs.length (fun i x H => ∃ k v q, kvs[i]? = some (k, v) ∧ x = .ref q ∧ H q = some (.tup (k.map kV))) (upd H1 d (.frz od (.dT kvs))) st ∧ (∀ i, i < kvs.length → wipe (st i) vs = wipe σ vs) ∧ Step kvs.length (upd H1 d (.frz od (.dT kvs))) st t te f R) :
    EvN (tLockE (tLc (iKeys tl) g t te vs)) σ H kvs.length (R kvs.length) := fun H1 e1 Q q => ⟨d, .dT kvs, e1 d _ hx, trivial, fun od => by
  obtain ⟨hg, hw, S⟩ := k od H1 e1
  refine h od H1 e1 _ (Ex.refl _) _ fun H2 e2 => ⟨d, od, rfl, .inr ⟨kvs, e2 d _ upd_same, fun Dl hD => lc_run (Q := fun v H' => H' d = some (HO.frz od (.dT kvs)) ∧ Q v (upd H' d (.dT kvs))) (walks_keysT d od kvs) (fun H1 e => e d _ upd_same) hn f st R hg hw S e2 hD fun acc H3 e3 h3 hl r => ?_⟩⟩
  have e23 := e2.trans e3
  have hp : Dl ≠ d := fun z => by
    have := fresh_back e2 hD
    rw [z, upd_same] at this; cases this
  have hp1 : H1 Dl = none := by
    have := fresh_back e2 hD
    rw [upd_ne hp] at this; exact this
  exact ⟨e23 d _ upd_same, q Dl acc _ hp1 (lock_back (e1 d _ hx) e23) (by rw [upd_ne hp]; exact h3) hl (S.mono _ _ _ _ (tex_upd (e23 d _ upd_same) fun xs z => nomatch z) r)⟩⟩
end

/-! ### loops -/
section
variable {K : PySem.W.Frag} {σ : L2.St} {H : Hp} {g : TG} {tl : TE} {tb tz : TS} {D : Ends}
theorem s_forTW {a : Addr} {xs : List V} (h : Ev tl σ H (.ref a)) (hx : H a = some (.tup xs)) (Pv : Nat → L2.St → Hp → Prop) (h0 : ∀ H1, Ex H H1 → Pv 0 σ H1) (hG : ∀ i σ' H', i ≤ xs.length → Pv i σ' H' → TEx H H')
    (hs : ∀ i x σ' H', xs[i]? = some x → Pv i σ' H' → g x σ' H' fun σ2 H2 => tb { D with nx := Pv (i + 1), ct := Pv (i + 1), bk := D.nx } σ2 H2) (hd : ∀ σ' H', Pv xs.length σ' H' → D.nx σ' H') : tFor (iTup K tl) g tb D σ H :=
  h H (Ex.refl H) _ fun H1 e => ⟨a, rfl, ⟨xs, st_of (e a _ hx)⟩, for_walk (walks_tup K a xs) Pv (h0 H1 e) (fun i σ' H' hi p => st_of (hG i σ' H' hi p a _ hx)) (fun i x σ' H' _ it p => hs i x σ' H' it p) hd⟩
theorem q_forTW {a : Addr} {xs : List V} (h : Ev tl σ H (.ref a)) (hx : H a = some (.tup xs)) (Pv : Nat → L2.St → Hp → Prop) (h0 : ∀ H1, Ex H H1 → Pv 0 σ H1) (hG : ∀ i σ' H', i ≤ xs.length → Pv i σ' H' → TEx H H')
    (hs : ∀ i x σ' H', xs[i]? = some x → Pv i σ' H' → g x σ' H' fun σ2 H2 => tb { D with nx := Pv (i + 1), ct := Pv (i + 1), bk := tz D } σ2 H2) (hd : ∀ σ' H', Pv xs.length σ' H' → tz D σ' H') : tSeq (tFor (iTup K tl) g tb) tz D σ H :=
  s_forTW (D := { D with nx := tz D }) h hx Pv h0 hG hs hd
/-- over a list that stands still -/
theorem s_forLW {a : Addr} {xs : List V} (h : Ev tl σ H (.ref a)) (hx : H a = some (.lst xs)) (Pv : Nat → L2.St → Hp → Prop) (h0 : ∀ H1, Ex H H1 → Pv 0 σ H1) (hG : ∀ i σ' H', i ≤ xs.length → Pv i σ' H' → H' a = some (.lst xs))
    (hs : ∀ i x σ' H', xs[i]? = some x → Pv i σ' H' → g x σ' H' fun σ2 H2 => tb { D with nx := Pv (i + 1), ct := Pv (i + 1), bk := D.nx } σ2 H2) (hd : ∀ σ' H', Pv xs.length σ' H' → D.nx σ' H') : tFor (iList K tl) g tb D σ H :=
  h H (Ex.refl H) _ fun H1 e => ⟨a, rfl, ⟨xs, sq_of (e a _ hx)⟩, for_walk (walks_lst K a xs) Pv (h0 H1 e) (fun i σ' H' hi p => sq_of (hG i σ' H' hi p)) (fun i x σ' H' _ it p => hs i x σ' H' it p) hd⟩
theorem q_forLW {a : Addr} {xs : List V} (h : Ev tl σ H (.ref a)) (hx : H a = some (.lst xs)) (Pv : Nat → L2.St → Hp → Prop) (h0 : ∀ H1, Ex H H1 → Pv 0 σ H1) (hG : ∀ i σ' H', i ≤ xs.length → Pv i σ' H' → H' a = some (.lst xs))
    (hs : ∀ i x σ' H', xs[i]? = some x → Pv i σ' H' → g x σ' H' fun σ2 H2 => tb { D with nx := Pv (i + 1), ct := Pv (i + 1), bk := tz D } σ2 H2) (hd : ∀ σ' H', Pv xs.length σ' H' → tz D σ' H') : tSeq (tFor (iList K tl) g tb) tz D σ H :=
  s_forLW (D := { D with nx := tz D }) h hx Pv h0 hG hs hd
/-- over a dict's keys, locked: within, the dict stands locked -/
theorem s_forKW {d : Addr} {kvs : List (Key × V)} (hx : H d = some (.dK kvs)) (h : ∀ H1, Ev tl σ H1 (.ref d)) (Pv : Obj → Nat → L2.St → Hp → Prop) (h0 : ∀ od H1, Ex (upd H d (.frz od (.dK kvs))) H1 → Pv od 0 σ H1)
    (hG : ∀ od i σ' H', i ≤ kvs.length → Pv od i σ' H' → H' d = some (.frz od (.dK kvs)))
    (hs : ∀ od i k v σ' H', kvs[i]? = some (k, v) → Pv od i σ' H' → g (kV k) σ' H' fun σ2 H2 => tb ⟨Pv od (i + 1), fun v H' => H' d = some (.frz od (.dK kvs)) ∧ D.rt v (upd H' d (.dK kvs)), fun σ' H' => H' d = some (.frz od (.dK kvs)) ∧ D.nx σ' (upd H' d (.dK kvs)), Pv od (i + 1)⟩ σ2 H2)
    (hd : ∀ od σ' H', Pv od kvs.length σ' H' → D.nx σ' (upd H' d (.dK kvs))) : tLock (tFor (iKeys tl) g tb) D σ H := ⟨d, .dK kvs, hx, trivial, fun od =>
  h _ _ (Ex.refl _) _ fun H2 e2 => ⟨d, od, rfl, .inl ⟨kvs, e2 d _ upd_same, for_walk (walks_keys d od kvs) (Pv od) (h0 od H2 e2) (fun i σ' H' hi p => hG od i σ' H' hi p) (fun i x σ' H' _ it p => by
    obtain ⟨k, v, hk, rfl⟩ := it
    exact hs od i k v σ' H' hk p) (fun σ' H' p => ⟨hG od _ σ' H' (Nat.le_refl _) p, hd od σ' H' p⟩)⟩⟩⟩
theorem q_forKW {d : Addr} {kvs : List (Key × V)} (hx : H d = some (.dK kvs)) (h : ∀ H1, Ev tl σ H1 (.ref d)) (Pv : Obj → Nat → L2.St → Hp → Prop) (h0 : ∀ od H1, Ex (upd H d (.frz od (.dK kvs))) H1 → Pv od 0 σ H1)
    (hG : ∀ od i σ' H', i ≤ kvs.length → Pv od i σ' H' → H' d = some (.frz od (.dK kvs)))
    (hs : ∀ od i k v σ' H', kvs[i]? = some (k, v) → Pv od i σ' H' → g (kV k) σ' H' fun σ2 H2 => tb ⟨Pv od (i + 1), fun v H' => H' d = some (.frz od (.dK kvs)) ∧ D.rt v (upd H' d (.dK kvs)), fun σ' H' => H' d = some (.frz od (.dK kvs)) ∧ tz D σ' (upd H' d (.dK kvs)), Pv od (i + 1)⟩ σ2 H2)
    (hd : ∀ od σ' H', Pv od kvs.length σ' H' → tz D σ' (upd H' d (.dK kvs))) : tSeq (tLock (tFor (iKeys tl) g tb)) tz D σ H := s_forKW (D := { D with nx := tz D }) hx h Pv h0 hG hs hd
theorem s_forKTW {d : Addr} {kvs : List (List Key × V)} (hx : H d = some (.dT kvs)) (h : ∀ od, Ev tl σ (upd H d (.frz od (.dT kvs))) (.ref d)) (Pv : Obj → Nat → L2.St → Hp → Prop) (h0 : ∀ od H1, Ex (upd H d (.frz od (.dT kvs))) H1 → Pv od 0 σ H1)
    (hG : ∀ od i σ' H', i ≤ kvs.length → Pv od i σ' H' → H' d = some (.frz od (.dT kvs)))
    (hs : ∀ od i k v q σ' H', kvs[i]? = some (k, v) → H' q = some (.tup (k.map kV)) → Pv od i σ' H' → g (.ref q) σ' H' fun σ2 H2 => tb ⟨Pv od (i + 1), fun v H' => H' d = some (.frz od (.dT kvs)) ∧ D.rt v (upd H' d (.dT kvs)), fun σ' H' => H' d = some (.frz od (.dT kvs)) ∧ D.nx σ' (upd H' d (.dT kvs)), Pv od (i + 1)⟩ σ2 H2)
    (hd : ∀ od σ' H', Pv od kvs.length σ' H' → D.nx σ' (upd H' d (.dT kvs))) : tLock (tFor (iKeys tl) g tb) D σ H := ⟨d, .dT kvs, hx, trivial, fun od =>
  h od _ (Ex.refl _) _ fun H2 e2 => ⟨d, od, rfl, .inr ⟨kvs, e2 d _ upd_same, for_walk (walks_keysT d od kvs) (Pv od) (h0 od H2 e2) (fun i σ' H' hi p => hG od i σ' H' hi p) (fun i x σ' H' _ it p => by
    obtain ⟨k, v, q, hk, rfl, hq⟩ := it
    exact hs od i k v q σ' H' hk hq p) (fun σ' H' p => ⟨hG od _ σ' H' (Nat.le_refl _) p, hd od σ' H' p⟩)⟩⟩⟩
theorem q_forKTW {d : Addr} {kvs : List (List Key × V)} (hx : H d = some (.dT kvs)) (h : ∀ od, Ev tl σ (upd H d (.frz od (.dT kvs))) (.ref d)) (Pv : Obj → Nat → L2.St → Hp → Prop) (h0 : ∀ od H1, Ex (upd H d (.frz od (.dT kvs))) H1 → Pv od 0 σ H1)
    (hG : ∀ od i σ' H', i ≤ kvs.length → Pv od i σ' H' → H' d = some (.frz od (.dT kvs)))
    (hs : ∀ od i k v q σ' H', kvs[i]? = some (k, v) → H' q = some (.tup (k.map kV)) → Pv od i σ' H' → g (.ref q) σ' H' fun σ2 H2 => tb ⟨Pv od (i + 1), fun v H' => H' d = some (.frz od (.dT kvs)) ∧ D.rt v (upd H' d (.dT kvs)), fun σ' H' => H' d = some (.frz od (.dT kvs)) ∧ tz D σ' (upd H' d (.dT kvs)), Pv od (i + 1)⟩ σ2 H2)
    (hd : ∀ od σ' H', Pv od kvs.length σ' H' → tz D σ' (upd H' d (.dT kvs))) : tSeq (tLock (tFor (iKeys tl) g tb)) tz D σ H := s_forKTW (D := { D with nx := tz D }) hx h Pv h0 hG hs hd
end

section
variable {K : PySem.W.Frag} {σ σ0 : L2.St} {H : Hp} {g : TG} {te tl : TE} {tb tz : TS} {D : Ends} {v : V}
theorem q_asgG (h : Ev te σ H v) (k : ∀ H1, Ex H H1 → g v σ H1 (tz D)) : tSeq (tAsg te g) tz D σ H := h H (Ex.refl H) _ fun H1 e => k H1 e
theorem s_asgG (h : Ev te σ H v) (k : ∀ H1, Ex H H1 → g v σ H1 D.nx) : tAsg te g D σ H := h H (Ex.refl H) _ fun H1 e => k H1 e
theorem q_asgGP {R : V → Hp → Prop} (h : EvP te σ H R) (k : ∀ v H1, Ex H H1 → R v H1 → g v σ H1 (tz D)) : tSeq (tAsg te g) tz D σ H := h H (Ex.refl H) _ fun v H1 e r => k v H1 e r
theorem sets_name {j n : Nat} {xs : List V} : Sets (gName j) σ0 n (fun i x _ => xs[i]? = some x) H (fun i => σ0.set j (xs[i]?)) := fun i x H1 _ _ hx Q q => by
  have : (fun i => σ0.set j (xs[i]?)) i = σ0.set j (some x) := by show σ0.set j (xs[i]?) = _; rw [hx]
  rw [this] at q; exact q
theorem sets_rng {j n : Nat} : Sets (gName j) σ0 n (fun i x _ => x = .int (0 + i)) H (fun i => σ0.set j (some (.int (i : Int)))) := fun i x H1 _ _ hx Q q => by
  subst hx
  show Q (σ0.set j (some (.int (0 + (i : Int))))) H1
  rw [Int.zero_add]; exact q
theorem sets_key {j n : Nat} {d : HK.D} : Sets (gName j) σ0 n (fun i x _ => ∃ k v, (dI d)[i]? = some (k, v) ∧ x = kV k) H (fun i => σ0.set j ((d[i]?).map fun e => V.int e.1)) := fun i x H1 _ _ hx Q q => by
  obtain ⟨k, v, hk, rfl⟩ := hx
  have : (fun i => σ0.set j ((d[i]?).map fun e => V.int e.1)) i = σ0.set j (some (kV k)) := by
    show σ0.set j ((d[i]?).map fun e => V.int e.1) = _
    unfold dI at hk
    rw [List.getElem?_map] at hk
    cases hd : d[i]? with
    | none => rw [hd] at hk; cases hk
    | some e => rw [hd] at hk; cases hk; rfl
  rw [this] at q; exact q
def setRd (i1 i2 i3 i4 : Nat) (σ0 : L2.St) (r : Road) : L2.St := (((σ0.set i1 (some (.int r.i))).set i2 (some (.int r.j))).set i3 (some (.int r.p))).set i4 (some (.int r.l))
def rd0 : Road := ⟨0, 0, 0, 0⟩
theorem sets_road {as : List Addr} {rs : List Road} {i1 i2 i3 i4 n : Nat} (hR : RoadsAt H as rs) : Sets (gTup K 4 (gCons (gName i1) (gCons (gName i2) (gCons (gName i3) (gCons (gName i4) gNil))))) σ0 n (fun i x _ => (as.map V.ref)[i]? = some x) H (fun i => setRd i1 i2 i3 i4 σ0 (rs.getD i rd0)) := fun i x H1 _ e hx Q q => by
  obtain ⟨b, r, rfl, ha, hr, hb⟩ := hR.get hx
  have : rs.getD i rd0 = r := by rw [List.getD_eq_getElem?_getD, hr]; rfl
  have q' : Q (setRd i1 i2 i3 i4 σ0 (rs.getD i rd0)) H1 := q
  rw [this] at q'
  exact g4 (e b _ hb) q'
/-- a slice of a tuple, not the whole -/
theorem eu_sl {a : Addr} {xs : List V} {tl th : TO} {lo hi : Option Int} (h : Ev te σ H (.ref a)) (h1 : EvO tl σ H lo) (h2 : EvO th σ H hi) (hx : H a = some (.tup xs)) (hc : ¬ (HT.sIx xs.length 0 lo = 0 ∧ HT.sIx xs.length xs.length hi = xs.length)) : EvU (tSl (rSlA K) te tl th) σ H (cutV xs lo hi) := fun H1 e Q q =>
  h H1 e _ fun H2 e2 => h1 H2 (e.trans e2) _ fun H3 e3 => h2 H3 ((e.trans e2).trans e3) _ fun H4 e4 =>
    ⟨a, xs, rfl, st_of (e4 a _ (e3 a _ (e2 a _ (e a _ hx)))), fun z => absurd z hc, fun _ p hp => q p _ (fresh_back ((e2.trans e3).trans e4) hp) (((e2.trans e3).trans e4).trans (Ex.new hp)) upd_same⟩
theorem rv_ltT {p q : Addr} {ns ms : List Int} (hp : H p = some (.tup (ns.map V.int))) (hq : H q = some (.tup (ms.map V.int))) : RV (rLtT K) (.ref p) (.ref q) H (.bl (HT.lexLt ns ms)) := fun H1 e Q k =>
  ⟨p, q, ns, ms, rfl, rfl, st_of (e p _ hp), st_of (e q _ hq), k H1 (Ex.refl H1)⟩
/-- a relation that tells the items, for comprehensions of known values -/
theorem step_vals {n : Nat} {st : Nat → L2.St} {t : TT} {te : TE} {f : Nat → Bool} (v : Nat → V) (ht : ∀ i H1, i < n → Ex H H1 → EvT t (st i) H1 (f i)) (he : ∀ i H1, i < n → Ex H H1 → f i = true → Ev te (st i) H1 (v i)) :
    Step n H st t te f (fun i acc _ => acc = given i f v) where
  mono := fun i acc H1 H2 _ r => r
  zero := fun H1 _ => rfl
  test := ht
  yes := fun i acc H1 hi e hf r => fun H2 e2 Q q => he i H1 hi e hf H2 e2 Q fun H3 e3 => q (v i) H3 e3 (by rw [given_yes hf, r])
  no := fun i acc H1 hi e hf r => by rw [given_no hf, r]
theorem et_yes : EvT tYes σ H true := fun H1 _ _ q => q H1 (Ex.refl H1)
theorem given_all (n : Nat) (v : Nat → V) : given n (fun _ => true) v = (List.range n).map v := by
  unfold given
  rw [List.filter_eq_self.mpr (fun _ _ => rfl)]
end

/-! ### rules by the written part itself (within comprehensions) -/
section
variable {X : Cx} {K : PySem.W.Frag}
theorem ixT (h : X.K = K) : IxR X (rIxT K) := by subst h; exact ix_tup
theorem ixL (h : X.K = K) : IxR X (rIxL K) := by subst h; exact ix_list
theorem inS (h : X.K = K) : OpR X (compareOp .In) (rIn K false) := by subst h; exact op_in_seq
theorem ninS (h : X.K = K) : OpR X (compareOp .NotIn) (rIn K true) := by subst h; exact op_notIn_seq
theorem lenS (h : X.K = K) : CallR X (.builtin "len") (rLenS K) := by subst h; exact call_len_seq
theorem allK (h : X.K = K) (hc : X.calm = true) : CallR X (.builtin "all") (rAll K) := by subst h; exact cr_all hc
theorem sumK (h : X.K = K) (hc : X.calm = true) : CallR X (.builtin "sum") (rSum K) := by subst h; exact cr_sum hc
theorem minK (h : X.K = K) (hc : X.calm = true) : CallR X (.builtin "min") (rMin K) := by subst h; exact cr_min hc
theorem sortedK (h : X.K = K) : CallR X (.builtin "sorted") (rSorted K) := by subst h; exact cr_sorted
theorem isiK (h : X.K = K) : CallR X (.builtin "isinstance") (rIsi K) := by subst h; exact call_isi
def rTupOf (K : PySem.W.Frag) : List V → Hp → VK → Prop := fun xs H Q => ∃ p ys, xs = [.ref p] ∧ ((SqL K H p ys ∧ ∀ l, H l = none → Q (.ref l) (upd H l (.tup ys))) ∨ (SqT K H p ys ∧ Q (.ref p) H))
theorem tupK (h : X.K = K) : CallR X (.type "tuple") (rTupOf K) := by subst h; exact call_tuple_of
theorem slK (h : X.K = K) : SlR X (rSlA K) := by subst h; exact sl_tupA
theorem eqK (h : X.K = K) (hu : X.A.units + 64 < cLine) : OpR X (compareOp .Eq) (rEqD K) := by subst h; exact op_eqD hu
theorem neK (h : X.K = K) (hu : X.A.units + 64 < cLine) : OpR X (compareOp .NotEq) (rNeD K) := by subst h; exact op_neD hu
theorem ltK (h : X.K = K) (hu : X.A.units < cLine) : OpR X (compareOp .Lt) (rLtT K) := by subst h; exact op_ltT hu
theorem catK (h : X.K = K) : OpR X (binaryOp .Add) (rCatA K) := by subst h; exact op_catA
theorem fldK {e : Expr} {ta : TE} {f : Str} {pos : Pos} (h : X.K = K) (he : PE X e ta) (hb : attributeBase e f X.env (eval e X.env) = eval e X.env) : PE X (.Attribute e f pos) (tFld K ta f) := by subst h; exact pe_fld he hb
theorem pi_lstK {tg l : Expr} {tl : TE} (h : X.K = K) (hl : PE X l tl) : PI X tg l (iList K tl) := by subst h; exact pi_list hl
theorem pi_tupK {tg l : Expr} {tl : TE} (h : X.K = K) (hl : PE X l tl) : PI X tg l (iTup K tl) := by subst h; exact pi_tup hl
theorem pg_tupK {es : List Expr} {k : Nat} {pos : Pos} {t : TGs} {n : Nat} (hK : X.K = K) (hc : X.calm = true) (h : PGs X es t)
    (hn : (assignEach es X.env).length = n := by rfl) (hst : (assignEach es X.env).findIdx? (·.1) = none := by rfl) : PG X (.Tuple es k pos) (gTup K n t) := by subst hK; exact pg_tup hc h hn hst
end

/-! ### new objects; dicts of ints -/
section
variable {K : PySem.W.Frag} {σ : L2.St} {H : Hp} {te td ty tv : TE} {tz : TS} {D : Ends} {o : HO}
def EvW (te : TE) (σ : L2.St) (H : Hp) (o : HO) : Prop := ∀ H1, Ex H H1 → ∀ Q : VK, (∀ p H2, H1 p = none → Ex H1 H2 → H2 p = some o → Q (.ref p) H2) → te σ H1 Q
theorem s_asgW {i : Nat} (h : EvW te σ H o) (k : ∀ p H1, H p = none → Ex H H1 → H1 p = some o → D.nx (σ.set i (some (.ref p))) H1) : tAsg te (gName i) D σ H := h H (Ex.refl H) _ fun p H1 hp e h1 => k p H1 hp e h1
theorem q_asgW {i : Nat} (h : EvW te σ H o) (k : ∀ p H1, H p = none → Ex H H1 → H1 p = some o → tz D (σ.set i (some (.ref p))) H1) : tSeq (tAsg te (gName i)) tz D σ H := s_asgW (D := { D with nx := tz D }) h k
theorem s_retW (h : EvW te σ H o) (k : ∀ p H1, H p = none → Ex H H1 → H1 p = some o → D.rt (.ref p) H1) : tRet te D σ H := h H (Ex.refl H) _ fun p H1 hp e h1 => k p H1 hp e h1
theorem ew_newK : EvW tDNewK σ H (.dK []) := fun H1 _ Q q p hp => q p _ hp (Ex.new hp) upd_same
theorem ew_newT : EvW tDNewT σ H (.dT []) := fun H1 _ Q q p hp => q p _ hp (Ex.new hp) upd_same
theorem ew_disp1 {tk : TE} {k v : Int} (hk : Ev tk σ H (.int k)) (hv : Ev tv σ H (.int v)) : EvW (tDisp [(tk, tv)]) σ H (.dK (dI [(k, v)])) := fun H1 e Q q p hp =>
  hk _ (e.trans (Ex.new hp)) _ fun H2 e2 => hv H2 ((e.trans (Ex.new hp)).trans e2) _ fun H3 e3 =>
    ⟨e3 p _ (e2 p _ upd_same), [(Sum.inl k, .int v)], rfl, (by show 1 ≤ 15; decide), q p _ hp (Ex.mut (((Ex.new hp).trans e2).trans e3) hp) upd_same⟩
theorem ev_dgetI {a : Addr} {d : HK.D} {k : Int} (ha : Ev td σ H (.ref a)) (hb : Ev ty σ H (.int k)) (h : Rd H a (.dK (dI d))) (hs : (get d k).isSome = true) : Ev (tDGet td ty) σ H (.int ((get d k).getD 0)) := by
  obtain ⟨v, hv⟩ := Option.isSome_iff_exists.mp hs
  have := dget_I h k
  rw [hv] at this ⊢
  exact ev_dget ha hb this
theorem ev_dinI {a : Addr} {d : HK.D} {k : Int} (hb : Ev ty σ H (.int k)) (ha : Ev td σ H (.ref a)) (h : Rd H a (.dK (dI d))) : Ev (tDIn ty td) σ H (.bl (get d k).isSome) := by
  have := ev_din hb ha (dget_I h k)
  rw [isSome_map] at this; exact this
theorem ev_dnotinI {a : Addr} {d : HK.D} {k : Int} (hb : Ev ty σ H (.int k)) (ha : Ev td σ H (.ref a)) (h : Rd H a (.dK (dI d))) : Ev (tDNotIn ty td) σ H (.bl (!(get d k).isSome)) := by
  have := ev_dnotin hb ha (dget_I h k)
  rw [isSome_map] at this; exact this
theorem s_dputI {a : Addr} {d : HK.D} {k v : Int} (hv : Ev tv σ H (.int v)) (ha : Ev td σ H (.ref a)) (hk : Ev ty σ H (.int k)) (h : H a = some (.dK (dI d))) (hl : d.length ≤ 1000)
    (q : ∀ H1, Ex H H1 → D.nx σ (upd H1 a (.dK (dI (put d k v))))) : sDPut td ty tv D σ H := s_dput (k := Sum.inl k) hv ha hk h (by rw [dI_len]; omega) fun H1 e => by rw [dI_put]; exact q H1 e
theorem q_dputI {a : Addr} {d : HK.D} {k v : Int} (hv : Ev tv σ H (.int v)) (ha : Ev td σ H (.ref a)) (hk : Ev ty σ H (.int k)) (h : H a = some (.dK (dI d))) (hl : d.length ≤ 1000)
    (q : ∀ H1, Ex H H1 → tz D σ (upd H1 a (.dK (dI (put d k v))))) : tSeq (sDPut td ty tv) tz D σ H := s_dputI (D := { D with nx := tz D }) hv ha hk h hl q
end

section
variable {σ : L2.St} {H : Hp} {t : TT} {tu tz : TS} {D : Ends}
theorem s_whileW (W : Nat → L2.St → Hp → Prop) (m0 : Nat) (h0 : W m0 σ H)
    (hs : ∀ m σ' H', W m σ' H' → ∃ b, EvT t σ' H' b ∧ (b = true → ∀ H1, Ex H' H1 → tu { D with nx := fun σ2 H2 => ∃ m', m' < m ∧ W m' σ2 H2, ct := fun σ2 H2 => ∃ m', m' < m ∧ W m' σ2 H2, bk := D.nx } σ' H1) ∧ (b = false → ∀ H1, Ex H' H1 → D.nx σ' H1)) : tWhile t tu D σ H :=
  s_while W m0 h0 fun m σ' H' hw => by
    obtain ⟨b, h1, h2, h3⟩ := hs m σ' H' hw
    exact ⟨b, h1, fun e H1 e1 => ⟨_, fun σ2 H2 h => h, h2 e H1 e1⟩, h3⟩
theorem q_whileW (W : Nat → L2.St → Hp → Prop) (m0 : Nat) (h0 : W m0 σ H)
    (hs : ∀ m σ' H', W m σ' H' → ∃ b, EvT t σ' H' b ∧ (b = true → ∀ H1, Ex H' H1 → tu { D with nx := fun σ2 H2 => ∃ m', m' < m ∧ W m' σ2 H2, ct := fun σ2 H2 => ∃ m', m' < m ∧ W m' σ2 H2, bk := tz D } σ' H1) ∧ (b = false → ∀ H1, Ex H' H1 → tz D σ' H1)) : tSeq (tWhile t tu) tz D σ H :=
  s_whileW (D := { D with nx := tz D }) W m0 h0 hs
end

/-! ### in, over ints -/
theorem flat_ints (l : List Int) : (l.map V.int).all flatV = true := by
  rw [List.all_map]; exact List.all_eq_true.mpr fun _ _ => rfl
theorem inV_ints (i : Int) (l : List Int) : inV (.int i) (l.map V.int) = decide (i ∈ l) := by
  unfold inV
  rw [List.any_map]
  induction l with
  | nil => rfl
  | cons a l ih =>
    rw [List.any_cons, ih]
    show ((a == i) || decide (i ∈ l)) = _
    by_cases h : a = i
    · simp [h]
    · have : ¬ i = a := fun q => h q.symm
      have h2 : (a == i) = false := by simp [h]
      rw [h2]; simp [this]
section
variable {K : PySem.W.Frag} {σ : L2.St} {H : Hp} {ta tb td ty tv : TE} {tz : TS} {D : Ends}
theorem ev_inLI {i : Int} {p : Addr} {l : List Int} (ha : Ev ta σ H (.int i)) (hb : Ev tb σ H (.ref p)) (h : H p = some (.lst (l.map V.int))) : Ev (tOp (rIn K false) ta tb) σ H (.bl (decide (i ∈ l))) := by
  have := ev_op ha hb (rv_isL (K := K) (sq_of h) (x := .int i) rfl (flat_ints l))
  rw [inV_ints] at this; exact this
theorem ev_ninLI {i : Int} {p : Addr} {l : List Int} (ha : Ev ta σ H (.int i)) (hb : Ev tb σ H (.ref p)) (h : H p = some (.lst (l.map V.int))) : Ev (tOp (rIn K true) ta tb) σ H (.bl (!decide (i ∈ l))) := by
  have := ev_op ha hb (rv_niL (K := K) (sq_of h) (x := .int i) rfl (flat_ints l))
  rw [inV_ints] at this; exact this
theorem ev_inTI {i : Int} {p : Addr} {l : List Int} (ha : Ev ta σ H (.int i)) (hb : Ev tb σ H (.ref p)) (h : H p = some (.tup (l.map V.int))) : Ev (tOp (rIn K false) ta tb) σ H (.bl (decide (i ∈ l))) := by
  have := ev_op ha hb (rv_isT (K := K) (st_of h) (x := .int i) rfl (flat_ints l))
  rw [inV_ints] at this; exact this
theorem ev_ninTI {i : Int} {p : Addr} {l : List Int} (ha : Ev ta σ H (.int i)) (hb : Ev tb σ H (.ref p)) (h : H p = some (.tup (l.map V.int))) : Ev (tOp (rIn K true) ta tb) σ H (.bl (!decide (i ∈ l))) := by
  have := ev_op ha hb (rv_niT (K := K) (st_of h) (x := .int i) rfl (flat_ints l))
  rw [inV_ints] at this; exact this

/-! ### dicts of roads -/
def k2 (e : Int × Int) : List Key := [Sum.inl e.1, Sum.inl e.2]
theorem k2_inj {e f : Int × Int} (h : k2 e = k2 f) : e = f := by
  unfold k2 at h
  have h1 := (List.cons.inj h).1
  have h2 := (List.cons.inj (List.cons.inj h).2).1
  exact Prod.ext (Sum.inl.inj h1) (Sum.inl.inj h2)
def dE (l : List ((Int × Int) × Int)) : List (List Key × V) := l.map fun e => (k2 e.1, V.int e.2)
theorem dE_len (l : List ((Int × Int) × Int)) : (dE l).length = l.length := by simp [dE]
theorem dE_val (d : List ((Int × Int) × Int)) (k : Int × Int) : valV (dE d) (k2 k) = (get d k).map V.int := by
  induction d with
  | nil => rfl
  | cons e d ih =>
    have e0 : dE (e :: d) = (k2 e.1, V.int e.2) :: dE d := rfl
    rw [e0, get_cons]
    by_cases h : e.1 = k
    · rw [valV_pos (by rw [h]), if_pos h]; rfl
    · rw [valV_neg (fun q => h (k2_inj q)), if_neg h, ih]
theorem dE_put (d : List ((Int × Int) × Int)) (k : Int × Int) (v : Int) : putK (dE d) (k2 k) (.int v) = dE (put d k v) := by
  have ea : ((dE d).any fun kv => decide (kv.1 = k2 k)) = (get d k).isSome := by rw [valV_any, dE_val, isSome_map]
  by_cases h : k ∈ keys d
  · obtain ⟨w, hw⟩ := key_get h
    unfold putK put
    rw [if_pos (by rw [ea, hw]; rfl), if_pos (any_key.mpr h)]
    unfold dE
    rw [List.map_map, List.map_map]
    apply List.map_congr_left
    intro e _
    by_cases q : e.1 = k
    · simp [q]
    · have h1 : ¬ (k2 e.1 = k2 k) := fun z => q (k2_inj z)
      have q' : ¬ (@BEq.beq _ instBEqOfDecidableEq e.1 k) = true := by simp [q]
      show (if k2 e.1 = k2 k then (k2 e.1, V.int v) else (k2 e.1, V.int e.2)) = (fun e : (Int × Int) × Int => (k2 e.1, V.int e.2)) (if (@BEq.beq _ instBEqOfDecidableEq e.1 k) = true then (k, v) else e)
      rw [if_neg h1, if_neg q']
  · have hn := get_none.mpr h
    unfold putK
    rw [if_neg (by rw [ea, hn]; simp), put_new h]
    simp [dE]
def e2V (e : Int × Int) : List V := [.int e.1, .int e.2]
theorem dget_E {a b : Addr} {l : List ((Int × Int) × Int)} {e : Int × Int} (h : Rd H a (.dT (dE l))) (hb : H b = some (.tup (e2V e))) : DGet H a (.ref b) ((get l e).map V.int) := .inr ⟨dE l, k2 e, b, h, rfl, hb, (dE_val l e).symm⟩
/-- the key a tuple that is made on the way -/
theorem ev_dgetU {a : Addr} {l : List ((Int × Int) × Int)} {e : Int × Int} {v : Int} (ha : Ev td σ H (.ref a)) (hb : EvU ty σ H (e2V e)) (h : Rd H a (.dT (dE l))) (hv : get l e = some v) : Ev (tDGet td ty) σ H (.int v) := fun H1 e1 Q q =>
  ha H1 e1 _ fun H2 e2 => hb H2 (e1.trans e2) _ fun p H3 hp e3 h3 => ⟨a, .int v, rfl, by
    have := dget_E (ex_rd ((e1.trans e2).trans e3) h) h3
    rw [hv] at this; exact this, q H3 (e2.trans e3)⟩
theorem ev_dgetE {a b : Addr} {l : List ((Int × Int) × Int)} {e : Int × Int} {v : Int} (ha : Ev td σ H (.ref a)) (hb : Ev ty σ H (.ref b)) (h : Rd H a (.dT (dE l))) (hk : H b = some (.tup (e2V e))) (hv : get l e = some v) : Ev (tDGet td ty) σ H (.int v) := by
  have := dget_E h hk
  rw [hv] at this
  exact ev_dget ha hb this
theorem s_dputU {a : Addr} {l : List ((Int × Int) × Int)} {e : Int × Int} {v : Int} (hv : Ev tv σ H (.int v)) (ha : Ev td σ H (.ref a)) (hk : EvU ty σ H (e2V e)) (h : H a = some (.dT (dE l))) (hl : l.length ≤ 1000)
    (q : ∀ H1, Ex H H1 → D.nx σ (upd H1 a (.dT (dE (put l e v))))) : sDPut td ty tv D σ H := hv H (Ex.refl H) _ fun H1 e1 => ha H1 e1 _ fun H2 e2 => hk H2 (e1.trans e2) _ fun p H3 hp e3 h3 =>
  ⟨a, _, rfl, DPut.t (k := k2 e) (((e1.trans e2).trans e3) a _ h) h3 (sz_lt (by rw [dE_len]; omega)), by rw [dE_put]; exact q H3 ((e1.trans e2).trans e3)⟩
theorem s_dputE {a b : Addr} {l : List ((Int × Int) × Int)} {e : Int × Int} {v : Int} (hv : Ev tv σ H (.int v)) (ha : Ev td σ H (.ref a)) (hk : Ev ty σ H (.ref b)) (hb : H b = some (.tup (e2V e))) (h : H a = some (.dT (dE l))) (hl : l.length ≤ 1000)
    (q : ∀ H1, Ex H H1 → D.nx σ (upd H1 a (.dT (dE (put l e v))))) : sDPut td ty tv D σ H := hv H (Ex.refl H) _ fun H1 e1 => ha H1 e1 _ fun H2 e2 => hk H2 (e1.trans e2) _ fun H3 e3 =>
  ⟨a, _, rfl, DPut.t (k := k2 e) (((e1.trans e2).trans e3) a _ h) (((e1.trans e2).trans e3) b _ hb) (sz_lt (by rw [dE_len]; omega)), by rw [dE_put]; exact q H3 ((e1.trans e2).trans e3)⟩
theorem q_dputU {a : Addr} {l : List ((Int × Int) × Int)} {e : Int × Int} {v : Int} (hv : Ev tv σ H (.int v)) (ha : Ev td σ H (.ref a)) (hk : EvU ty σ H (e2V e)) (h : H a = some (.dT (dE l))) (hl : l.length ≤ 1000)
    (q : ∀ H1, Ex H H1 → tz D σ (upd H1 a (.dT (dE (put l e v))))) : tSeq (sDPut td ty tv) tz D σ H := s_dputU (D := { D with nx := tz D }) hv ha hk h hl q
theorem q_dputE {a b : Addr} {l : List ((Int × Int) × Int)} {e : Int × Int} {v : Int} (hv : Ev tv σ H (.int v)) (ha : Ev td σ H (.ref a)) (hk : Ev ty σ H (.ref b)) (hb : H b = some (.tup (e2V e))) (h : H a = some (.dT (dE l))) (hl : l.length ≤ 1000)
    (q : ∀ H1, Ex H H1 → tz D σ (upd H1 a (.dT (dE (put l e v))))) : tSeq (sDPut td ty tv) tz D σ H := s_dputE (D := { D with nx := tz D }) hv ha hk hb h hl q

/-! ### fields stored -/
theorem s_fldP {a C dx : Addr} {fs : List (Str × V)} {f : Str} {i : Nat} {R : V → Hp → Prop} (hv : EvP tv σ H R) (hi : σ[i]? = some (some (.ref a))) (h : H a = some (.ins C dx fs)) (hc : Cls K C) (hn : NoAttr K C f) (hl : fs.length < 1000)
    (k : ∀ y H1, Ex H H1 → R y H1 → D.nx σ (upd H1 a (.ins C dx (putF f y fs)))) : sFld K (tVar i) tv f D σ H := hv H (Ex.refl H) _ fun y H1 e1 r => ⟨.ref a, hi, a, C, dx, fs, rfl, e1 a _ h, hc, hn, hl, k y H1 e1 r⟩
theorem q_fldP {a C dx : Addr} {fs : List (Str × V)} {f : Str} {i : Nat} {R : V → Hp → Prop} (hv : EvP tv σ H R) (hi : σ[i]? = some (some (.ref a))) (h : H a = some (.ins C dx fs)) (hc : Cls K C) (hn : NoAttr K C f) (hl : fs.length < 1000)
    (k : ∀ y H1, Ex H H1 → R y H1 → tz D σ (upd H1 a (.ins C dx (putF f y fs)))) : tSeq (sFld K (tVar i) tv f) tz D σ H := s_fldP (D := { D with nx := tz D }) hv hi h hc hn hl k
theorem EvW.p {te : TE} {o : HO} (h : EvW te σ H o) : EvP te σ H fun v H2 => ∃ p, v = .ref p ∧ H p = none ∧ H2 p = some o := fun H1 e Q q => h H1 e Q fun p H2 hp e2 h2 => q _ H2 e2 ⟨p, rfl, fresh_back e hp, h2⟩
end
theorem lock_ex {H0 H : Hp} {d : Addr} {o : HO} (e : Ex H0 H) : Ex (upd H0 d o) (upd H d o) := fun a u h => by
  by_cases q : a = d
  · subst q; rw [upd_same] at h ⊢; exact h
  · rw [upd_ne q] at h ⊢; exact e a u h

def rSortedDI : List V → Hp → VK → Prop := fun xs H Q => ∃ (a : Addr) (kvs : List (Key × V)) (ks : List Int), xs = [.ref a] ∧ Rd H a (.dK kvs) ∧ kvs.map (·.1) = ks.map Sum.inl ∧ ks.length < 64 ∧
    ∀ (ys : List Int) (p : Addr), ys.Perm ks → ys.Pairwise (· ≤ ·) → H p = none → Q (.ref p) (upd H p (.lst (ys.map V.int)))
theorem sortedDI {X : Cx} (hc : X.calm = true) : CallR X (.builtin "sorted") rSortedDI := call_sortedDI hc
end HK

/-! part HKC -/
/-! The walks of nets.py. -/
namespace HK
open PySem PySem.Spec PyProof.Rows L2 Evl
open C8 (Cal Met Mak pe_c pe_mk pe_mt pe_mt0 pe_gc fnScope_by)
set_option hygiene false in
local macro_rules | `(tactic| walk_at "len") => `(tactic| (intro vs H Q E h; first
  | (obtain ⟨rfl, _⟩ := h; rfl)
  | (obtain ⟨_, rfl, _⟩ := h; rfl)
  | (obtain ⟨_, _, rfl, _⟩ := h; rfl)
  | (obtain ⟨_, _, _, rfl, _⟩ := h; rfl)
  | (obtain ⟨_, _, _, _, rfl, _⟩ := h; rfl)
  | (obtain ⟨_, _, _, _, _, rfl, _⟩ := h; rfl)
  | (obtain ⟨_, _, _, _, _, _, rfl, _⟩ := h; rfl)
  | (obtain ⟨_, _, _, _, _, _, _, rfl, _⟩ := h; rfl)
  | (obtain ⟨_, _, _, _, _, _, _, _, rfl, _⟩ := h; rfl)
  | (obtain ⟨_, _, _, _, _, _, _, _, _, rfl, _⟩ := h; rfl)
  | (obtain ⟨_, _, _, _, _, _, _, _, _, _, rfl, _⟩ := h; rfl)
  | (obtain ⟨_, _, _, _, _, _, _, _, _, _, _, rfl, _⟩ := h; rfl)
  | (obtain ⟨_, _, _, _, _, _, _, _, _, _, _, _, rfl, _⟩ := h; rfl)
  | (obtain ⟨_, _, _, _, _, _, _, _, _, _, _, _, _, rfl, _⟩ := h; rfl)
  | (obtain ⟨_, _, _, _, _, _, _, _, _, _, _, _, _, _, rfl, _⟩ := h; rfl)
  | (obtain ⟨_, _, _, _, _, _, _, _, _, _, _, _, _, _, _, rfl, _⟩ := h; rfl)
  | (obtain ⟨_, _, _, _, _, _, _, _, _, _, _, _, _, _, _, _, rfl, _⟩ := h; rfl)
  | (obtain ⟨_, _, _, _, _, _, _, _, _, _, _, _, _, _, _, _, _, rfl, _⟩ := h; rfl)
  | (obtain ⟨_, _, _, _, _, _, _, _, _, _, _, _, _, _, _, _, _, _, rfl, _⟩ := h; rfl)
  | (obtain ⟨_, _, _, _, _, _, _, _, _, _, _, _, _, _, _, _, _, _, _, rfl, _⟩ := h; rfl)
  | (obtain ⟨_, _, _, _, _, _, _, _, _, _, _, _, _, _, _, _, _, _, _, _, rfl, _⟩ := h; rfl)
  | (obtain ⟨_, _, _, _, _, _, _, _, _, _, _, _, _, _, _, _, _, _, _, _, _, rfl, _⟩ := h; rfl)
  | (obtain ⟨_, _, _, _, _, _, _, _, _, _, _, _, _, _, _, _, _, _, _, _, _, _, rfl, _⟩ := h; rfl)
  | (obtain ⟨_, _, _, _, _, _, _, _, _, _, _, _, _, _, _, _, _, _, _, _, _, _, _, rfl, _⟩ := h; rfl)
  | (obtain ⟨_, _, _, _, _, _, _, _, _, _, _, _, _, _, _, _, _, _, _, _, _, _, _, _, rfl, _⟩ := h; rfl)
  | (obtain ⟨_, _, _, _, _, _, _, _, _, _, _, _, _, _, _, _, _, _, _, _, _, _, _, _, _, rfl, _⟩ := h; rfl)))

section
variable {P : Program} {w : World} {K : PySem.W.Frag} {mg : Str → Option Value} {base : Heap}

/-! ### is_whole -/
def spWhole : Sp := fun vs H Q _ => ∃ i : Int, vs = [.int i] ∧ RetV (.bl true) H Q
abbrev s_is_whole : Stmt := top 10
abbrev N_is_whole : List Str := ["thing"]
theorem sc_is_whole : FnScope N_is_whole ["thing"] (defScope s_is_whole) := fnScope_by (by decide +kernel)
theorem ok_is_whole (F : DefAt K mg "is_whole" s_is_whole ["thing"]) (T : Txt K mg) : Cal P w K mg base 1 "is_whole" spWhole [] := by
  refine F.cal sc_is_whole (by walk_at "len") (fun f cdv A outer s H vs Q E hr h => ?_)
  obtain ⟨i, rfl, k⟩ := h
  have nd := sc_is_whole.nd
  refine ⟨_, (pss_one (ps_ret (pe_and (pe_callB (isiK (K := K) rfl) (by rfl) T.g_isinstance (by decide +kernel) (pa_cons (pv 0) (pa_cons (pe_bltn (v := .ty "int") (by rfl) T.g_int (by decide +kernel) rfl) pa_nil))) (pe_one (pe_not (pe_callB (isiK (K := K) rfl) (by rfl) T.g_isinstance (by decide +kernel) (pa_cons (pv 0) (pa_cons (pe_bltn (v := .ty "bool") (by rfl) T.g_bool (by decide +kernel) rfl) pa_nil)))))))), ?_⟩
  exact s_ret (ev_andV (ev_isiI (b := true) (ev_var rfl) (by decide +kernel)) (fun _ => ev_notV (ev_isiI (b := false) (ev_var rfl) (by decide +kernel)))) k

/-! ### is_from_to -/
def spFromTo : Sp := fun vs H Q _ => ∃ i a b : Int, vs = [.int i, .int a, .int b] ∧ RetV (.bl (decide (a ≤ i) && decide (i ≤ b))) H Q
abbrev s_is_from_to : Stmt := top 11
abbrev N_is_from_to : List Str := ["thing", "least", "most"]
theorem sc_is_from_to : FnScope N_is_from_to ["thing", "least", "most"] (defScope s_is_from_to) := fnScope_by (by decide +kernel)
theorem ok_is_from_to (F : DefAt K mg "is_from_to" s_is_from_to ["thing", "least", "most"]) (T : Txt K mg) (c_is_whole : Cal P w K mg base 1 "is_whole" spWhole []) : Cal P w K mg base 2 "is_from_to" spFromTo [] := by
  refine F.cal sc_is_from_to (by walk_at "len") (fun f cdv A outer s H vs Q E hr h => ?_)
  obtain ⟨i, a, b, rfl, k⟩ := h
  have nd := sc_is_from_to.nd
  refine ⟨_, (pss_one (ps_ret (pe_and (pe_c c_is_whole hr (by decide) (by rfl) (pa_cons (pv 0) pa_nil)) (pe_one (pe_chain op_le op_le (pv 1) (pv 0) (pv 2)))))), ?_⟩
  exact s_ret (ev_andV (ev_callV (ea_cons (ev_var rfl) ea_nil) (fun H1 e Q k => ⟨i, rfl, k⟩)) (fun _ => ev_chain (ev_var rfl) (ev_var rfl) rv_I0 (fun _ => ev_var rfl) (fun _ => rv_I0))) k
theorem ev_fromTo {σ : L2.St} {H : Hp} {E : XK} {t1 t2 t3 : TE} {i a b : Int} (h1 : Ev t1 σ H (.int i)) (h2 : Ev t2 σ H (.int a)) (h3 : Ev t3 σ H (.int b)) : Ev (tCall spFromTo [] E (tCons t1 (tCons t2 (tCons t3 tNil)))) σ H (.bl (decide (a ≤ i) && decide (i ≤ b))) :=
  ev_callV (ea_cons h1 (ea_cons h2 (ea_cons h3 ea_nil))) (fun H1 e Q k => ⟨i, a, b, rfl, k⟩)

/-! ### is_road -/
def spRoad : Sp := fun vs H Q _ => ∃ (n : Int) (b : Addr) (r : Road), vs = [.int n, .ref b] ∧ H b = some (.tup (rdV r)) ∧ ROk n r ∧ RetV (.bl true) H Q
abbrev s_is_road : Stmt := top 12
abbrev N_is_road : List Str := ["n", "thing"]
theorem sc_is_road : FnScope N_is_road ["n", "thing"] (defScope s_is_road) := fnScope_by (by decide +kernel)
theorem ok_is_road (F : DefAt K mg "is_road" s_is_road ["n", "thing"]) (T : Txt K mg) (c_is_from_to : Cal P w K mg base 2 "is_from_to" spFromTo []) : Cal P w K mg base 3 "is_road" spRoad [] := by
  refine F.cal sc_is_road (by walk_at "len") (fun f cdv A outer s H vs Q E hr h => ?_)
  obtain ⟨n, b, r, rfl, hb, ok, k⟩ := h
  have nd := sc_is_road.nd
  refine ⟨_, (pss_cons (ps_if (PW.pt (pw_or (pt_not (pt_val (pe_callB (isiK (K := K) rfl) (by rfl) T.g_isinstance (by decide +kernel) (pa_cons (pv 1) (pa_cons (pe_bltn (v := .ty "tuple") (by rfl) T.g_tuple (by decide +kernel) rfl) pa_nil))))) (pw_or1 (pt_cmpR op_ne (pe_callB (lenS (K := K) rfl) (by rfl) T.g_len PySem.boot_len (pa_cons (pv 1) pa_nil)) pe_int (nomark _))))) (pss_one (ps_ret pe_bl)) pss_nil)
      (pss_cons (ps_if (PW.pt (pw_or (pt_not (pt_val (pe_c c_is_from_to hr (by decide) (by rfl) (pa_cons (pe_ix (ixT (K := K) rfl) (pv 1) pe_int (fun _ _ => rfl)) (pa_cons pe_int (pa_cons (pe_op op_sub (pv 0) pe_int) pa_nil)))))) (pw_or (pt_not (pt_val (pe_c c_is_from_to hr (by decide) (by rfl) (pa_cons (pe_ix (ixT (K := K) rfl) (pv 1) pe_int (fun _ _ => rfl)) (pa_cons pe_int (pa_cons (pe_op op_sub (pv 0) pe_int) pa_nil)))))) (pw_or1 (pt_cmpR op_eq (pe_ix (ixT (K := K) rfl) (pv 1) pe_int (fun _ _ => rfl)) (pe_ix (ixT (K := K) rfl) (pv 1) pe_int (fun _ _ => rfl)) (nomark _)))))) (pss_one (ps_ret pe_bl)) pss_nil)
      (pss_one (ps_ret (pe_and (pe_c c_is_from_to hr (by decide) (by rfl) (pa_cons (pe_ix (ixT (K := K) rfl) (pv 1) pe_int (fun _ _ => rfl)) (pa_cons pe_int (pa_cons (pe_gc (by rfl) T.c_MOST_PRICE) pa_nil)))) (pe_one (pe_c c_is_from_to hr (by decide) (by rfl) (pa_cons (pe_ix (ixT (K := K) rfl) (pv 1) pe_int (fun _ _ => rfl)) (pa_cons pe_int (pa_cons (pe_gc (by rfl) T.c_MOST_LATE) pa_nil)))))))))), ?_⟩
  refine q_skip (et_or (et_not (et_B (ev_isiT (b := true) (ev_var rfl) hb (by decide +kernel)))) fun _ => et_test (ev_op (ev_lenT (ev_var rfl) hb) ev_c (rv_ne rfl))) (by simp [rdV]) fun H1 e1 => ?_
  have hb1 := e1 b _ hb
  refine q_skip (et_or (et_not (et_B (ev_fromTo (ev_ixT (i := 0) (v := .int r.i) (ev_var rfl) ev_c hb1 rfl) ev_c (ev_op (ev_var rfl) ev_c rv_I0)))) fun _ => et_or (et_not (et_B (ev_fromTo (ev_ixT (i := 1) (v := .int r.j) (ev_var rfl) ev_c hb1 rfl) ev_c (ev_op (ev_var rfl) ev_c rv_I0)))) fun _ =>
    et_test (ev_op (ev_ixT (i := 0) (v := .int r.i) (ev_var rfl) ev_c hb1 rfl) (ev_ixT (i := 1) (v := .int r.j) (ev_var rfl) ev_c hb1 rfl) (rv_eq rfl))) ?_ fun H2 e2 => ?_
  · have := ok.i0; have := ok.i1; have := ok.j0; have := ok.j1; have := ok.ne
    have h1 : r.i ≤ n - 1 := by omega
    have h2 : r.j ≤ n - 1 := by omega
    simp [*]
  have hb2 := e2 b _ hb1
  have v1 : (decide (0 ≤ r.p) && decide (r.p ≤ 1000) && (decide (1 ≤ r.l) && decide (r.l ≤ 1000))) = true := by simp [ok.p0, ok.p1, ok.l0, ok.l1]
  refine s_ret (ev_is (ev_andV (ev_fromTo (ev_ixT (i := 2) (v := .int r.p) (ev_var rfl) ev_c hb2 rfl) ev_c ev_c) fun _ => ev_fromTo (ev_ixT (i := 3) (v := .int r.l) (ev_var rfl) ev_c hb2 rfl) ev_c ev_c) (by rw [v1])) fun H3 e3 => k H3 ((e1.trans e2).trans e3)

/-! ### is_net -/
def spIsNet : Sp := fun vs H Q _ => ∃ (a : Addr) (N : Net), vs = [.ref a] ∧ NetAt H a N ∧ N.Ok ∧ RetV (.bl true) H Q
abbrev s_is_net : Stmt := top 13
abbrev N_is_net : List Str := ["thing", "n", "roads", "k", "road"]
theorem sc_is_net : FnScope N_is_net ["thing"] (defScope s_is_net) := fnScope_by (by decide +kernel)
theorem lex_at {rs : List Road} (h : rs.Pairwise lex2) {k : Nat} {a b : Road} (ha : rs[k]? = some a) (hb : rs[k + 1]? = some b) : lex2 a b := by
  obtain ⟨h1, e1⟩ := List.getElem?_eq_some_iff.mp ha
  obtain ⟨h2, e2⟩ := List.getElem?_eq_some_iff.mp hb
  rw [← e1, ← e2]
  exact List.pairwise_iff_getElem.mp h k (k + 1) h1 h2 (Nat.lt_succ_self k)
theorem lexLt_of {a b : Road} (h : lex2 a b) : HT.lexLt [a.i, a.j] [b.i, b.j] = true := by
  rw [HT.lexLt_cons]
  unfold lex2 at h
  by_cases e : a.i = b.i
  · rw [if_pos e, HT.lexLt_cons]
    have : ¬ a.j = b.j := by omega
    rw [if_neg this]; simp; omega
  · rw [if_neg e]; simp; omega
/-- a valid net has few roads -/
theorem few_roads {N : Net} (ok : N.Ok) : N.rs.length ≤ 144 := by
  have key : ∀ (rs : List Road), rs.Pairwise lex2 → (∀ r ∈ rs, ROk N.n r) → (rs.map fun r => (r.i * 12 + r.j).toNat).Nodup := by
    intro rs h1 h2
    unfold List.Nodup
    rw [List.pairwise_map]
    refine List.Pairwise.imp_of_mem ?_ h1
    intro a b ha hb hab
    have A := h2 a ha; have B := h2 b hb
    have := A.i0; have := A.i1; have := A.j0; have := A.j1; have := B.i0; have := B.i1; have := B.j0; have := B.j1; have := ok.n12
    unfold lex2 at hab
    omega
  have sub : (N.rs.map fun r => (r.i * 12 + r.j).toNat) ⊆ List.range 144 := by
    intro x hx
    obtain ⟨r, hr, rfl⟩ := List.mem_map.mp hx
    have A := ok.rs r hr
    have := A.i0; have := A.i1; have := A.j0; have := A.j1; have := ok.n12
    rw [List.mem_range]; omega
  have := List.Nodup.length_le_of_subset (key N.rs ok.up ok.rs) sub
  simpa using this
theorem ok_is_net (F : DefAt K mg "is_net" s_is_net ["thing"]) (T : Txt K mg) (c_is_from_to : Cal P w K mg base 2 "is_from_to" spFromTo []) (c_is_road : Cal P w K mg base 3 "is_road" spRoad []) : Cal P w K mg base 4 "is_net" spIsNet [] := by
  refine F.cal sc_is_net (by walk_at "len") (fun f cdv A outer s H vs Q E hr h => ?_)
  obtain ⟨a, N, rfl, hN, ok, k⟩ := h
  have nd := sc_is_net.nd
  refine ⟨_, (pss_cons (ps_if (PW.pt (pw_or (pt_not (pt_val (pe_callB (isiK (K := K) rfl) (by rfl) T.g_isinstance (by decide +kernel) (pa_cons (pv 0) (pa_cons (pe_bltn (v := .ty "tuple") (by rfl) T.g_tuple (by decide +kernel) rfl) pa_nil))))) (pw_or (pt_cmpR op_ne (pe_callB (lenS (K := K) rfl) (by rfl) T.g_len PySem.boot_len (pa_cons (pv 0) pa_nil)) pe_int (nomark _)) (pw_or1 (pt_not (pt_val (pe_c c_is_from_to hr (by decide) (by rfl) (pa_cons (pe_ix (ixT (K := K) rfl) (pv 0) pe_int (fun _ _ => rfl)) (pa_cons pe_int (pa_cons (pe_gc (by rfl) T.c_MOST_PLACES) pa_nil)))))))))) (pss_one (ps_ret pe_bl)) pss_nil)
      (pss_cons (ps_asg (pv 0) (pg_tupK (K := K) rfl rfl (pgs_cons (pg_name (i := 1) nd rfl (Or.inr rfl)) (pgs_cons (pg_name (i := 2) nd rfl (Or.inr rfl)) pgs_nil))))
      (pss_cons (ps_if (PW.pt (pw_or (pt_not (pt_val (pe_callB (isiK (K := K) rfl) (by rfl) T.g_isinstance (by decide +kernel) (pa_cons (pv 2) (pa_cons (pe_bltn (v := .ty "tuple") (by rfl) T.g_tuple (by decide +kernel) rfl) pa_nil))))) (pw_or1 (pt_not (pt_val (pe_callB (allK (K := K) rfl rfl) (by rfl) T.g_all (by decide +kernel) (pa_cons (pe_lc (own := [("road", 4)]) (g := (gName 4)) rfl nd (pi_tupK (K := K) rfl (pv 2)) (blkOk_by (own := [("road", 4)]) (N := N_is_net) (sc := defScope s_is_net) (by decide +kernel)) (fun _ _ _ _ _ => (pg_name (i := 4) nd rfl (Or.inl rfl))) (fun _ _ _ _ _ => pts_nil) (fun _ _ _ _ _ => (pe_c c_is_road hr (by decide) (by rfl) (pa_cons (pv 1) (pa_cons (pv 4) pa_nil))))) pa_nil))))))) (pss_one (ps_ret pe_bl)) pss_nil)
      (pss_one (ps_ret (pe_callB (allK (K := K) rfl rfl) (by rfl) T.g_all (by decide +kernel) (pa_cons (pe_lc (own := [("k", 3)]) (g := (gName 3)) rfl nd (pi_range1 (by rfl) T.g_range (pa_cons (pe_op op_sub (pe_callB (lenS (K := K) rfl) (by rfl) T.g_len PySem.boot_len (pa_cons (pv 2) pa_nil)) pe_int) pa_nil)) (blkOk_by (own := [("k", 3)]) (N := N_is_net) (sc := defScope s_is_net) (by decide +kernel)) (fun _ _ _ _ _ => (pg_name (i := 3) nd rfl (Or.inl rfl))) (fun _ _ _ _ _ => pts_nil) (fun _ _ _ _ _ => (pe_cmpR (ltK (K := K) rfl hr.units0) (pe_slice (slK (K := K) rfl) (pe_ix (ixT (K := K) rfl) (pv 2) (pv 3) (fun _ _ => rfl)) po_none (po_some pe_int)) (pe_slice (slK (K := K) rfl) (pe_ix (ixT (K := K) rfl) (pv 2) (pe_op op_add (pv 3) pe_int) (fun _ _ => rfl)) po_none (po_some pe_int)) (nomark _)))) pa_nil))))))), ?_⟩
  obtain ⟨t, as, ha, ht, hR⟩ := hN.ex
  have few := few_roads ok
  have al : (as.map V.ref).length = N.rs.length := by rw [List.length_map, hR.len]
  refine q_skip (et_or (et_not (et_B (ev_isiT (b := true) (ev_var rfl) ha (by decide +kernel)))) fun _ => et_or (et_test (ev_op (ev_lenT (ev_var rfl) ha) ev_c (rv_ne rfl))) fun _ =>
    et_not (et_B (ev_fromTo (ev_ixT (i := 0) (v := .int N.n) (ev_var rfl) ev_c ha rfl) ev_c ev_c))) ?_ fun H1 e1 => ?_
  · have := ok.n1; have := ok.n12; simp [*]
  refine q_asgG (ev_var rfl) fun H2 e2 => g2 (e2 _ _ (e1 _ _ ha)) ?_
  have e12 := e1.trans e2
  have hR2 : RoadsAt H2 as N.rs := hR.mono (tex e12)
  have ht2 := e12 _ _ ht
  refine q_skip (et_or (et_not (et_B (ev_isiT (b := true) (ev_var rfl) ht2 (by decide +kernel)))) fun _ => et_not (et_B (evp_all (bs := List.replicate N.rs.length true) (EvN.l (lcT (ev_var rfl) ht2 (by omega) (fun _ => true) _ _ sets_name ?_
    (step_vals (fun _ => .bl true) (fun i H3 hi e => et_yes) fun i H3 hi e _ => ?_)) fun acc _ r => ?_)))) ?_ fun H3 e3 => ?_
  · intro i hi; rfl
  · have hx : (as.map V.ref)[i]? = some (as.map V.ref)[i] := List.getElem?_eq_getElem hi
    obtain ⟨b, r, hb1, hb2, hb3, hb4⟩ := hR2.get hx
    rw [hb1] at hx
    exact ev_callV (ea_cons (ev_var rfl) (ea_cons (ev_var (congrArg some hx)) ea_nil)) fun H4 e4 Q k => ⟨N.n, b, r, rfl, (e.trans e4) _ _ hb4, ok.rs r (List.mem_of_getElem? hb3), k⟩
  · rw [r, given_all, List.map_replicate, al]
    rw [List.map_const', List.length_range]
  · simp
  have e13 := e12.trans e3
  have hR3 : RoadsAt H3 as N.rs := hR2.mono (tex e3)
  have ht3 := e3 _ _ ht2
  refine s_ret (ev_is (evp_all (bs := List.replicate ((N.rs.length : Int) - 1).toNat true) (EvN.l (lcR (n := ((as.map V.ref).length : Int) - 1) (ea_cons (ev_op (ev_lenT (ev_var rfl) ht3) ev_c rv_I0) ea_nil) (by omega) (by omega) (fun _ => true) _ _ sets_rng ?_
    (step_vals (fun _ => .bl true) (fun i H4 hi e => et_yes) fun i H4 hi e _ => ?_)) fun acc _ r => ?_)) (by simp)) fun H4 e4 => k H4 (e13.trans e4)
  · intro i hi; rfl
  · have hi1 : i < N.rs.length := by omega
    have hi2 : i + 1 < N.rs.length := by omega
    have hx1 : (as.map V.ref)[i]? = some (as.map V.ref)[i] := List.getElem?_eq_getElem (by omega)
    have hx2 : (as.map V.ref)[i + 1]? = some (as.map V.ref)[i + 1] := List.getElem?_eq_getElem (by omega)
    obtain ⟨b1, r1, p1, p2, p3, p4⟩ := hR3.get hx1
    obtain ⟨b2, r2, q1, q2, q3, q4⟩ := hR3.get hx2
    rw [p1] at hx1; rw [q1] at hx2
    refine ev_is (ev_opUU (xs := [.int r1.i, .int r1.j]) (ys := [.int r2.i, .int r2.j]) (eu_sl (ev_ixT (ev_var rfl) (ev_var rfl) (e _ _ ht3) (at_of rfl hx1)) eo_none (eo_some ev_c) (e _ _ p4) (by show ¬ (0 = 0 ∧ 2 = 4); decide))
      (eu_sl (ev_ixT (ev_var rfl) (ev_op (ev_var rfl) ev_c rv_I0) (e _ _ ht3) (at_of (j := i + 1) (by omega) hx2)) eo_none (eo_some ev_c) (e _ _ q4) (by show ¬ (0 = 0 ∧ 2 = 4); decide)) (fun p q H5 hp hq _ => rv_ltT (ns := [r1.i, r1.j]) (ms := [r2.i, r2.j]) hp hq)) ?_
    rw [lexLt_of (lex_at ok.up p3 q3)]
  · rw [r, given_all, List.map_replicate, al]
    rw [List.map_const', List.length_range]

/-! ### need_net, need_place -/
def spNeedNet : Sp := fun vs H Q _ => ∃ (a : Addr) (N : Net), vs = [.ref a] ∧ NetAt H a N ∧ N.Ok ∧ RetV .non H Q
abbrev s_need_net : Stmt := top 14
abbrev N_need_net : List Str := ["net"]
theorem sc_need_net : FnScope N_need_net ["net"] (defScope s_need_net) := fnScope_by (by decide +kernel)
theorem ok_need_net (F : DefAt K mg "need_net" s_need_net ["net"]) (T : Txt K mg) (c_is_net : Cal P w K mg base 4 "is_net" spIsNet []) : Cal P w K mg base 5 "need_net" spNeedNet [] := by
  refine F.cal sc_need_net (by walk_at "len") (fun f cdv A outer s H vs Q E hr h => ?_)
  obtain ⟨a, N, rfl, hN, ok, k⟩ := h
  have nd := sc_need_net.nd
  refine ⟨_, (pss_one (ps_if (pt_not (pt_val (pe_c c_is_net hr (by decide) (by rfl) (pa_cons (pv 0) pa_nil)))) (pss_one ps_never) pss_nil)), ?_⟩
  exact s_skip (et_not (et_B (ev_callV (ea_cons (ev_var rfl) ea_nil) fun H1 e Q k => ⟨a, N, rfl, hN.mono (tex e), ok, k⟩))) rfl k
theorem ev_needNet {σ : L2.St} {H : Hp} {E : XK} {t1 : TE} {a : Addr} {N : Net} (h1 : Ev t1 σ H (.ref a)) (hN : NetAt H a N) (ok : N.Ok) : Ev (tCall spNeedNet [] E (tCons t1 tNil)) σ H .non :=
  ev_callV (ea_cons h1 ea_nil) fun H1 e Q k => ⟨a, N, rfl, hN.mono (tex e), ok, k⟩
def spNeedPlace : Sp := fun vs H Q _ => ∃ (a : Addr) (N : Net) (x : Int), vs = [.ref a, .int x] ∧ NetAt H a N ∧ 0 ≤ x ∧ x < N.n ∧ RetV .non H Q
abbrev s_need_place : Stmt := top 15
abbrev N_need_place : List Str := ["net", "place"]
theorem sc_need_place : FnScope N_need_place ["net", "place"] (defScope s_need_place) := fnScope_by (by decide +kernel)
theorem ok_need_place (F : DefAt K mg "need_place" s_need_place ["net", "place"]) (T : Txt K mg) : Cal P w K mg base 1 "need_place" spNeedPlace [] := by
  refine F.cal sc_need_place (by walk_at "len") (fun f cdv A outer s H vs Q E hr h => ?_)
  obtain ⟨a, N, x, rfl, hN, h0, h1, k⟩ := h
  have nd := sc_need_place.nd
  refine ⟨_, (pss_one (ps_if (pt_not (pt_chain op_le op_lt pe_int (pv 1) (pe_ix (ixT (K := K) rfl) (pv 0) pe_int (fun _ _ => rfl)))) (pss_one ps_never) pss_nil)), ?_⟩
  obtain ⟨t, as, ha, _⟩ := hN.ex
  exact s_skip (et_not (et_test (ev_chain ev_c (ev_var rfl) rv_I0 (fun _ => ev_ixT (i := 0) (v := .int N.n) (ev_var rfl) ev_c ha rfl) (fun _ => rv_I0)))) (by simp [h0, h1]) k
theorem ev_needPlace {σ : L2.St} {H : Hp} {E : XK} {t1 t2 : TE} {a : Addr} {N : Net} {x : Int} (h1 : Ev t1 σ H (.ref a)) (h2 : Ev t2 σ H (.int x)) (hN : NetAt H a N) (hx : 0 ≤ x) (hx1 : x < N.n) : Ev (tCall spNeedPlace [] E (tCons t1 (tCons t2 tNil))) σ H .non :=
  ev_callV (ea_cons h1 (ea_cons h2 ea_nil)) fun H1 e Q k => ⟨a, N, x, rfl, hN.mono (tex e), hx, hx1, k⟩

/-! ### road_of -/
def spRoadOf : Sp := fun vs H Q _ => ∃ (a : Addr) (N : Net) (i j : Int) (r : Road), vs = [.ref a, .int i, .int j] ∧ NetAt H a N ∧ N.road i j = some r ∧ RetP (fun v H2 => ∃ b, v = .ref b ∧ H2 b = some (.tup (rdV r))) H Q
abbrev s_road_of : Stmt := top 17
abbrev N_road_of : List Str := ["net", "i", "j", "road"]
theorem sc_road_of : FnScope N_road_of ["net", "i", "j"] (defScope s_road_of) := fnScope_by (by decide +kernel)
theorem ok_road_of (F : DefAt K mg "road_of" s_road_of ["net", "i", "j"]) (T : Txt K mg) : Cal P w K mg base 1 "road_of" spRoadOf [] := by
  refine F.cal sc_road_of (by walk_at "len") (fun f cdv A outer s H vs Q E hr h => ?_)
  obtain ⟨a, N, i, j, r, rfl, hN, hr0, k⟩ := h
  have nd := sc_road_of.nd
  refine ⟨_, (pss_cons (ps_for PassesOwn.never rfl (pi_tupK (K := K) rfl (pe_ix (ixT (K := K) rfl) (pv 0) pe_int (fun _ _ => rfl))) (pg_name (i := 3) nd rfl (Or.inl rfl)) (pss_one (ps_if (PW.pt (pw_and (pt_cmpR op_eq (pe_ix (ixT (K := K) rfl) (pv 3) pe_int (fun _ _ => rfl)) (pv 1) (nomark _)) (pw_and1 (pt_cmpR op_eq (pe_ix (ixT (K := K) rfl) (pv 3) pe_int (fun _ _ => rfl)) (pv 2) (nomark _))))) (pss_one (ps_ret (pv 3))) pss_nil)))
      (pss_one (ps_ret pe_non))), ?_⟩
  obtain ⟨t, as, ha, ht, hR⟩ := hN.ex
  refine q_forTW (ev_ixT (i := 1) (v := .ref t) (ev_var rfl) ev_c ha rfl) ht (fun n σ H' => Ex H H' ∧ (∃ x, σ = [some (.ref a), some (.int i), some (.int j), x]) ∧ ∀ k r', k < n → N.rs[k]? = some r' → ¬ (r'.i = i ∧ r'.j = j))
    (fun H1 e => ⟨e, ⟨_, rfl⟩, fun k _ hk => absurd hk (Nat.not_lt_zero k)⟩) (fun n σ H' _ p => tex p.1) ?_ ?_
  · rintro n x σ H' hx ⟨e, ⟨y, rfl⟩, hno⟩
    obtain ⟨b, r', rfl, hb1, hb2, hb3⟩ := hR.get hx
    have hb := e _ _ hb3
    show (tIfS _ _ _ : TS) _ ([some (.ref a), some (.int i), some (.int j), some (.ref b)] : L2.St) H'
    refine s_when (et_and (et_test (ev_op (ev_ixT (i := 0) (v := .int r'.i) (ev_var rfl) ev_c hb rfl) (ev_var rfl) (rv_eq rfl))) fun _ => et_test (ev_op (ev_ixT (i := 1) (v := .int r'.j) (ev_var rfl) ev_c hb rfl) (ev_var rfl) (rv_eq rfl))) (fun q H1 e1 => ?_) (fun q H1 e1 => ?_)
    · have q' : r'.i = i ∧ r'.j = j := by simpa using q
      have e' : N.road i j = some r' := by
        unfold Net.road
        rw [List.find?_eq_some_iff_getElem]
        obtain ⟨hl, he⟩ := List.getElem?_eq_some_iff.mp hb2
        refine ⟨by simp [q'.1, q'.2], n, hl, he, fun m hm => ?_⟩
        have := hno m N.rs[m] hm (List.getElem?_eq_getElem (by omega))
        simp; omega
      have er : r' = r := Option.some.inj (e'.symm.trans hr0)
      subst er
      exact s_ret (ev_var rfl) fun H2 e2 => k _ H2 ((e.trans e1).trans e2) ⟨b, rfl, e2 _ _ (e1 _ _ hb)⟩
    · refine ⟨e.trans e1, ⟨_, rfl⟩, fun m r'' hm hr'' => ?_⟩
      rcases Nat.lt_or_ge m n with h | h
      · exact hno m r'' h hr''
      · have : m = n := by omega
        subst this
        rw [hb2] at hr''; cases hr''
        intro z
        simp [z.1, z.2] at q
  · rintro σ H' ⟨e, _, hno⟩
    exfalso
    obtain ⟨h1, h2, h3⟩ := road_some hr0
    obtain ⟨m, hm, em⟩ := List.getElem_of_mem h1
    refine hno m r ?_ (by rw [List.getElem?_eq_getElem hm, em]) ⟨h2, h3⟩
    rw [List.length_map, hR.len]; exact hm
theorem evp_roadOf {σ : L2.St} {H : Hp} {E : XK} {t1 t2 t3 : TE} {a : Addr} {N : Net} {i j : Int} {r : Road} (h1 : Ev t1 σ H (.ref a)) (h2 : Ev t2 σ H (.int i)) (h3 : Ev t3 σ H (.int j)) (hN : NetAt H a N) (hr : N.road i j = some r) :
    EvP (tCall spRoadOf [] E (tCons t1 (tCons t2 (tCons t3 tNil)))) σ H (fun v H2 => ∃ b, v = .ref b ∧ H2 b = some (.tup (rdV r))) :=
  evp_call (ea_cons h1 (ea_cons h2 (ea_cons h3 ea_nil))) fun H1 e Q k => ⟨a, N, i, j, r, rfl, hN.mono (tex e), hr, k⟩

/-! ### comes_home -/
def spHome : Sp := fun vs H Q _ => ∃ (root x : Int) (b : Addr) (d : D), vs = [.int root, .ref b, .int x] ∧ Rd H b (.dK (dI d)) ∧ d.length ≤ 100000 ∧ RetV (.bl (decide (iter (par d) d.length x = root))) H Q
abbrev s_comes_home : Stmt := top 18
abbrev N_comes_home : List Str := ["root", "ahead", "place", "turn"]
theorem sc_comes_home : FnScope N_comes_home ["root", "ahead", "place"] (defScope s_comes_home) := fnScope_by (by decide +kernel)
theorem ok_comes_home (F : DefAt K mg "comes_home" s_comes_home ["root", "ahead", "place"]) (T : Txt K mg) : Cal P w K mg base 1 "comes_home" spHome [] := by
  refine F.cal sc_comes_home (by walk_at "len") (fun f cdv A outer s H vs Q E hr h => ?_)
  obtain ⟨root, x, b, d, rfl, hd, hl, k⟩ := h
  have nd := sc_comes_home.nd
  refine ⟨_, (pss_cons (ps_for PassesOwn.never rfl (pi_range1 (by rfl) T.g_range (pa_cons (pe_callB call_lenR (by rfl) T.g_len PySem.boot_len (pa_cons (pv 1) pa_nil)) pa_nil)) (pg_name (i := 3) nd rfl (Or.inl rfl)) (pss_one (ps_if (pt_cmp (pc_din (hu_of hr) (pv 2) (pv 1)) rfl) (pss_one (ps_set (i := 2) nd rfl (Or.inl rfl) (pe_dget (hu_of hr) (pv 1) (pv 2) (fun _ _ => rfl)))) pss_nil)))
      (pss_one (ps_ret (pe_cmpR op_eq (pv 2) (pv 0) (nomark _))))), ?_⟩
  refine q_forR1 (n := ((dI d).length : Int)) (ea_cons (ev_lenD (ev_var rfl) hd) ea_nil) ⟨by omega, by rw [dI_len]; omega⟩ (fun n σ H' => Ex H H' ∧ ∃ y, σ = [some (.int root), some (.ref b), some (.int (iter (par d) n x)), y]) (fun H1 e => ⟨e, _, rfl⟩) ?_ ?_
  · rintro n σ H' hn ⟨e, y, rfl⟩
    have hd' := ex_rd e hd
    refine s_when (et_B (ev_din (ev_var rfl) (ev_var rfl) (dget_I hd' (iter (par d) n x)))) (fun q H1 e1 => ?_) (fun q H1 e1 => ?_)
    · rw [isSome_map] at q
      obtain ⟨v, hv⟩ := Option.isSome_iff_exists.mp q
      refine s_asg (ev_dget (v := .int v) (ev_var rfl) (ev_var rfl) ?_) fun H2 e2 => ⟨(e.trans e1).trans e2, some (.int (n : Int)), ?_⟩
      · have := dget_I (ex_rd e1 hd') (iter (par d) n x); rw [hv] at this; exact this
      · rw [iter_succ', par_get hv]; rfl
    · rw [isSome_map] at q
      have hv : get d (iter (par d) n x) = none := by simpa using q
      refine ⟨e.trans e1, some (.int (n : Int)), ?_⟩
      rw [iter_succ', par_out (get_none.mp hv)]; rfl
  · rintro σ H' ⟨e, y, rfl⟩
    refine s_ret (ev_is (ev_op (ev_var rfl) (ev_var rfl) (rv_eq rfl)) ?_) fun H1 e1 => k H1 (e.trans e1)
    have : ((dI d).length : Int).toNat = d.length := by rw [dI_len]; omega
    rw [this]
    congr 1
    by_cases h : iter (par d) d.length x = root <;> simp [h]

/-! ### is_tree_in, need_tree, price -/
def spTreeIn : Sp := fun vs H Q _ => ∃ (a b : Addr) (N : Net) (root : Int) (d : D), vs = [.ref a, .int root, .ref b] ∧ NetAt H a N ∧ H b = some (.dK (dI d)) ∧ d.length ≤ 1000 ∧ Tree N root d ∧ RetV (.bl true) H Q
abbrev s_is_tree_in : Stmt := top 19
abbrev N_is_tree_in : List Str := ["net", "root", "ahead", "place"]
theorem sc_is_tree_in : FnScope N_is_tree_in ["net", "root", "ahead"] (defScope s_is_tree_in) := fnScope_by (by decide +kernel)
theorem dI_get {d : D} {i : Nat} (hi : i < (dI d).length) : ∃ e : Int × Int, d[i]? = some e ∧ e ∈ d := by
  rw [dI_len] at hi
  exact ⟨d[i], List.getElem?_eq_getElem hi, List.getElem_mem hi⟩
theorem map_true (n : Nat) : given n (fun _ => true) (fun _ => V.bl true) = (List.replicate n true).map V.bl := by
  rw [given_all, List.map_replicate, List.map_const', List.length_range]
theorem all_true (n : Nat) : (List.replicate n true).all id = true := by simp
theorem ok_is_tree_in (F : DefAt K mg "is_tree_in" s_is_tree_in ["net", "root", "ahead"]) (T : Txt K mg) (c_road_of : Cal P w K mg base 1 "road_of" spRoadOf []) (c_comes_home : Cal P w K mg base 1 "comes_home" spHome []) : Cal P w K mg base 2 "is_tree_in" spTreeIn [] := by
  refine F.cal sc_is_tree_in (by walk_at "len") (fun f cdv A outer s H vs Q E hr h => ?_)
  obtain ⟨a, b, N, root, d, rfl, hN, hd, hl, ht, k⟩ := h
  have nd := sc_is_tree_in.nd
  refine ⟨_, (pss_cons (ps_if (pt_cmp (pc_din (hu_of hr) (pv 1) (pv 2)) rfl) (pss_one (ps_ret pe_bl)) pss_nil)
      (pss_cons (ps_if (pt_not (pt_val (pe_callB (allK (K := K) rfl rfl) (by rfl) T.g_all (by decide +kernel) (pa_cons (pe_lock (pe_lc (own := [("place", 3)]) (g := (gName 3)) rfl nd (pi_keys (pv 2)) (blkOk_by (own := [("place", 3)]) (N := N_is_tree_in) (sc := defScope s_is_tree_in) (by decide +kernel)) (fun _ _ _ _ _ => (pg_name (i := 3) nd rfl (Or.inl rfl))) (fun _ _ _ _ _ => pts_nil) (fun _ _ _ _ _ => (pe_cmp (pc_notN (pe_c c_road_of hr (by decide) (by rfl) (pa_cons (pv 0) (pa_cons (pe_dget (hu_of hr) (pv 2) (pv 3) (fun _ _ => rfl)) (pa_cons (pv 3) pa_nil))))))))) pa_nil)))) (pss_one (ps_ret pe_bl)) pss_nil)
      (pss_one (ps_ret (pe_callB (allK (K := K) rfl rfl) (by rfl) T.g_all (by decide +kernel) (pa_cons (pe_lock (pe_lc (own := [("place", 3)]) (g := (gName 3)) rfl nd (pi_keys (pv 2)) (blkOk_by (own := [("place", 3)]) (N := N_is_tree_in) (sc := defScope s_is_tree_in) (by decide +kernel)) (fun _ _ _ _ _ => (pg_name (i := 3) nd rfl (Or.inl rfl))) (fun _ _ _ _ _ => pts_nil) (fun _ _ _ _ _ => (pe_c c_comes_home hr (by decide) (by rfl) (pa_cons (pv 1) (pa_cons (pv 2) (pa_cons (pv 3) pa_nil))))))) pa_nil)))))), ?_⟩
  refine q_skip (et_B (ev_din (ev_var rfl) (ev_var rfl) (dget_I (.inl hd) root))) (by rw [isSome_map, get_none.mpr ht.rt]; rfl) fun H1 e1 => ?_
  refine q_skip (et_not (et_B (evp_all (bs := List.replicate (dI d).length true) (EvN.l (lcK (e1 _ _ hd) (by rw [dI_len]; omega) (fun _ => true) _ _ (fun H2 => ev_var rfl) (fun od H2 e2 => ⟨sets_key, fun i hi => rfl,
    step_vals (fun _ => .bl true) (fun i H3 hi e => et_yes) fun i H3 hi e _ => ?_⟩)) fun acc _ r => by rw [r]; exact map_true _)))) (by rw [all_true]; rfl) fun H2 e2 => ?_
  · obtain ⟨x, hx, hm⟩ := dI_get hi
    obtain ⟨r, hr⟩ := road_has (ht.rd x hm)
    have hv : ((d[i]?).map fun e => V.int e.1) = some (.int x.1) := by rw [hx]; rfl
    have hN3 : NetAt H3 a N := (hN.mono (tex (e1.trans e2))).mono ((lock_tex ((e1.trans e2) _ _ hd) trivial).trans (tex e))
    have hd3 : Rd H3 b (.dK (dI d)) := .inr ⟨od, e _ _ upd_same⟩
    have hg : DGet H3 b (.int x.1) (some (.int x.2)) := by
      have := dget_I hd3 x.1; rw [mem_get ht.nd hm] at this; exact this
    exact EvP.val (fun H4 e4 Q q => evp_roadOf (ev_var rfl) (ev_dget (ev_var rfl) (ev_var (congrArg some hv)) hg) (ev_var (congrArg some hv)) hN3 hr H4 e4 _ fun v H5 e5 ⟨b', hv', _⟩ => q _ H5 e5 (by rw [hv']; rfl))
  have hd2 := e2 _ _ (e1 _ _ hd)
  refine s_ret (ev_is (evp_all (bs := List.replicate (dI d).length true) (EvN.l (lcK hd2 (by rw [dI_len]; omega) (fun _ => true) _ _ (fun H2 => ev_var rfl) (fun od H3 e3 => ⟨sets_key, fun i hi => rfl,
    step_vals (fun _ => .bl true) (fun i H4 hi e => et_yes) fun i H4 hi e _ => ?_⟩)) fun acc _ r => by rw [r]; exact map_true _)) (by rw [all_true])) fun H3 e3 => k H3 ((e1.trans e2).trans e3)
  · obtain ⟨x, hx, hm⟩ := dI_get hi
    have hv : ((d[i]?).map fun e => V.int e.1) = some (.int x.1) := by rw [hx]; rfl
    have hd4 : Rd H4 b (.dK (dI d)) := .inr ⟨od, e _ _ upd_same⟩
    refine ev_is (ev_callV (ea_cons (ev_var rfl) (ea_cons (ev_var rfl) (ea_cons (ev_var (congrArg some hv)) ea_nil))) fun H5 e5 Q k => ⟨root, x.1, b, d, rfl, ex_rd e5 hd4, by omega, k⟩) ?_
    rw [home_len ht.rt (ht.hm x.1 (List.mem_map.mpr ⟨x, hm, rfl⟩))]; simp
def spNeedTree : Sp := fun vs H Q _ => ∃ (a b : Addr) (N : Net) (root : Int) (d : D), vs = [.ref a, .int root, .ref b] ∧ NetAt H a N ∧ H b = some (.dK (dI d)) ∧ d.length ≤ 1000 ∧ Tree N root d ∧ RetV .non H Q
abbrev s_need_tree : Stmt := top 20
abbrev N_need_tree : List Str := ["net", "root", "ahead"]
theorem sc_need_tree : FnScope N_need_tree ["net", "root", "ahead"] (defScope s_need_tree) := fnScope_by (by decide +kernel)
theorem ok_need_tree (F : DefAt K mg "need_tree" s_need_tree ["net", "root", "ahead"]) (T : Txt K mg) (c_is_tree_in : Cal P w K mg base 2 "is_tree_in" spTreeIn []) : Cal P w K mg base 3 "need_tree" spNeedTree [] := by
  refine F.cal sc_need_tree (by walk_at "len") (fun f cdv A outer s H vs Q E hr h => ?_)
  obtain ⟨a, b, N, root, d, rfl, hN, hd, hl, ht, k⟩ := h
  have nd := sc_need_tree.nd
  refine ⟨_, (pss_one (ps_if (pt_not (pt_val (pe_c c_is_tree_in hr (by decide) (by rfl) (pa_cons (pv 0) (pa_cons (pv 1) (pa_cons (pv 2) pa_nil)))))) (pss_one ps_never) pss_nil)), ?_⟩
  exact s_skip (et_not (et_B (ev_callV (ea_cons (ev_var rfl) (ea_cons (ev_var rfl) (ea_cons (ev_var rfl) ea_nil))) fun H1 e Q k => ⟨a, b, N, root, d, rfl, hN.mono (tex e), e _ _ hd, hl, ht, k⟩))) rfl k
theorem ev_needTree {σ : L2.St} {H : Hp} {E : XK} {t1 t2 t3 : TE} {a b : Addr} {N : Net} {root : Int} {d : D} (h1 : Ev t1 σ H (.ref a)) (h2 : Ev t2 σ H (.int root)) (h3 : Ev t3 σ H (.ref b)) (hN : NetAt H a N) (hd : H b = some (.dK (dI d))) (hl : d.length ≤ 1000) (ht : Tree N root d) :
    Ev (tCall spNeedTree [] E (tCons t1 (tCons t2 (tCons t3 tNil)))) σ H .non := ev_callV (ea_cons h1 (ea_cons h2 (ea_cons h3 ea_nil))) fun H1 e Q k => ⟨a, b, N, root, d, rfl, hN.mono (tex e), e _ _ hd, hl, ht, k⟩
def spPrice : Sp := fun vs H Q _ => ∃ (a b : Addr) (N : Net) (root : Int) (d : D), vs = [.ref a, .int root, .ref b] ∧ NetAt H a N ∧ N.Ok ∧ 0 ≤ root ∧ root < N.n ∧ H b = some (.dK (dI d)) ∧ d.length ≤ 1000 ∧ Tree N root d ∧ RetV (.int (cst N d)) H Q
abbrev s_price : Stmt := top 21
abbrev N_price : List Str := ["net", "root", "ahead", "place"]
theorem sc_price : FnScope N_price ["net", "root", "ahead"] (defScope s_price) := fnScope_by (by decide +kernel)
theorem ok_price (F : DefAt K mg "price" s_price ["net", "root", "ahead"]) (T : Txt K mg) (c_need_net : Cal P w K mg base 5 "need_net" spNeedNet []) (c_need_place : Cal P w K mg base 1 "need_place" spNeedPlace []) (c_need_tree : Cal P w K mg base 3 "need_tree" spNeedTree [])
    (c_road_of : Cal P w K mg base 1 "road_of" spRoadOf []) : Cal P w K mg base 6 "price" spPrice [] := by
  refine F.cal sc_price (by walk_at "len") (fun f cdv A outer s H vs Q E hr h => ?_)
  obtain ⟨a, b, N, root, d, rfl, hN, ok, h0, h1, hd, hl, ht, k⟩ := h
  have nd := sc_price.nd
  refine ⟨_, (pss_cons (ps_expr (pe_c c_need_net hr (by decide) (by rfl) (pa_cons (pv 0) pa_nil)))
      (pss_cons (ps_expr (pe_c c_need_place hr (by decide) (by rfl) (pa_cons (pv 0) (pa_cons (pv 1) pa_nil))))
      (pss_cons (ps_expr (pe_c c_need_tree hr (by decide) (by rfl) (pa_cons (pv 0) (pa_cons (pv 1) (pa_cons (pv 2) pa_nil)))))
      (pss_one (ps_ret (pe_callB (sumK (K := K) rfl rfl) (by rfl) T.g_sum (by decide +kernel) (pa_cons (pe_lock (pe_lc (own := [("place", 3)]) (g := (gName 3)) rfl nd (pi_keys (pv 2)) (blkOk_by (own := [("place", 3)]) (N := N_price) (sc := defScope s_price) (by decide +kernel)) (fun _ _ _ _ _ => (pg_name (i := 3) nd rfl (Or.inl rfl))) (fun _ _ _ _ _ => pts_nil) (fun _ _ _ _ _ => (pe_ix (ixT (K := K) rfl) (pe_c c_road_of hr (by decide) (by rfl) (pa_cons (pv 0) (pa_cons (pe_dget (hu_of hr) (pv 2) (pv 3) (fun _ _ => rfl)) (pa_cons (pv 3) pa_nil)))) pe_int (fun _ _ => rfl))))) pa_nil))))))), ?_⟩
  refine q_drop (ev_needNet (ev_var rfl) hN ok) fun H1 e1 => q_drop (ev_needPlace (ev_var rfl) (ev_var rfl) (hN.mono (tex e1)) h0 h1) fun H2 e2 => ?_
  have e12 := e1.trans e2
  refine q_drop (ev_needTree (ev_var rfl) (ev_var rfl) (ev_var rfl) (hN.mono (tex e12)) (e12 _ _ hd) hl ht) fun H3 e3 => ?_
  have e13 := e12.trans e3
  refine s_ret (ev_is (w := .int (cst N d)) (ev_sum (ns := d.map fun e : Int × Int => N.cost e.2 e.1) (EvN.l (lcK (e13 _ _ hd) (by rw [dI_len]; omega) (fun _ => true) _ _ (fun H2 => ev_var rfl) (fun od H4 e4 => ⟨sets_key, fun i hi => rfl,
    step_vals (fun i => .int (let e := d.getD i (0, 0); N.cost e.2 e.1)) (fun i H3 hi e => et_yes) fun i H5 hi e _ => ?_⟩)) fun acc _ r => ?_)) rfl) fun H4 e4 => k H4 (e13.trans e4)
  · obtain ⟨x, hx, hm⟩ := dI_get hi
    obtain ⟨r, hr⟩ := road_has (ht.rd x hm)
    have hv : ((d[i]?).map fun e => V.int e.1) = some (.int x.1) := by rw [hx]; rfl
    have hg0 : d.getD i (0, 0) = x := by rw [List.getD_eq_getElem?_getD, hx]; rfl
    have hN5 : NetAt H5 a N := (hN.mono (tex (e13.trans e4))).mono ((lock_tex ((e13.trans e4) _ _ hd) trivial).trans (tex e))
    have hd5 : Rd H5 b (.dK (dI d)) := .inr ⟨od, e _ _ upd_same⟩
    have hg : DGet H5 b (.int x.1) (some (.int x.2)) := by
      have := dget_I hd5 x.1; rw [mem_get ht.nd hm] at this; exact this
    have hc : N.cost x.2 x.1 = r.p := by unfold Net.cost; rw [hr]; rfl
    rw [hg0]
    show Ev _ _ _ (.int (N.cost x.2 x.1))
    rw [hc]
    exact fun H6 e6 Q q => evp_roadOf (ev_var rfl) (ev_dget (ev_var rfl) (ev_var (congrArg some hv)) hg) (ev_var (congrArg some hv)) hN5 hr H6 e6 _ fun v H7 e7 ⟨b', hv', hb'⟩ => by
      subst hv'
      exact ⟨b', rdV r, 2, .int r.p, rfl, rfl, st_of hb', rfl, q H7 e7⟩
  · rw [r, given_all]
    apply List.ext_getElem?
    intro i
    rw [List.getElem?_map, List.getElem?_map, List.getElem?_map]
    by_cases hi : i < d.length
    · rw [List.getElem?_range (by rw [dI_len]; exact hi), List.getElem?_eq_getElem hi]
      simp [List.getD_eq_getElem?_getD, List.getElem?_eq_getElem hi]
    · rw [List.getElem?_eq_none (by rw [List.length_range, dI_len]; omega), List.getElem?_eq_none (Nat.le_of_not_lt hi)]; rfl
theorem ev_price {σ : L2.St} {H : Hp} {E : XK} {t1 t2 t3 : TE} {a b : Addr} {N : Net} {root : Int} {d : D} (h1 : Ev t1 σ H (.ref a)) (h2 : Ev t2 σ H (.int root)) (h3 : Ev t3 σ H (.ref b)) (hN : NetAt H a N) (ok : N.Ok) (r0 : 0 ≤ root) (r1 : root < N.n) (hd : H b = some (.dK (dI d))) (hl : d.length ≤ 1000) (ht : Tree N root d) :
    Ev (tCall spPrice [] E (tCons t1 (tCons t2 (tCons t3 tNil)))) σ H (.int (cst N d)) := ev_callV (ea_cons h1 (ea_cons h2 (ea_cons h3 ea_nil))) fun H1 e Q k => ⟨a, b, N, root, d, rfl, hN.mono (tex e), ok, r0, r1, e _ _ hd, hl, ht, k⟩
end
end HK

/-! part HKD -/
/-! Shortest ways by relaxing: potentials. -/
namespace HK

theorem len_range {l : List Int} {n : Int} (nd : l.Nodup) (h : ∀ x ∈ l, 0 ≤ x ∧ x < n) : (l.length : Int) ≤ max n 0 := by
  have sub : (l.map Int.toNat) ⊆ List.range n.toNat := by
    intro x hx
    obtain ⟨y, hy, rfl⟩ := List.mem_map.mp hx
    have := h y hy
    rw [List.mem_range]; omega
  have nd2 : (l.map Int.toNat).Nodup := by
    unfold List.Nodup
    rw [List.pairwise_map]
    refine List.Pairwise.imp_of_mem ?_ nd
    intro a b ha hb hab
    have := h a ha; have := h b hb
    omega
  have := List.Nodup.length_le_of_subset nd2 sub
  simp at this
  omega

def vsum (d : D) : Int := (d.map (·.2)).sum
structure BF (n B : Int) (d : D) : Prop where
  nd : (keys d).Nodup
  rg : ∀ k ∈ keys d, 0 ≤ k ∧ k < n
  lo : ∀ e ∈ d, 0 ≤ e.2
  hi : ∀ e ∈ d, e.2 ≤ B + 1000 * d.length
def pot (B : Int) (d : D) : Nat := (12 - d.length) * (B + 13000).toNat + (vsum d).toNat

theorem BF.len {n B : Int} {d : D} (b : BF n B d) (hn : n ≤ 12) : d.length ≤ 12 := by
  have := len_range b.nd b.rg
  simp [keys] at this
  omega
theorem vsum_nonneg {d : D} (h : ∀ e ∈ d, 0 ≤ e.2) : 0 ≤ vsum d := sum_nonneg h
theorem mem_put {d : D} {k v : Int} {e : Int × Int} (h : e ∈ put d k v) : e = (k, v) ∨ (e ∈ d ∧ e.1 ≠ k) := by
  by_cases hk : k ∈ keys d
  · unfold put at h
    rw [if_pos (any_key.mpr hk)] at h
    obtain ⟨x, hx, rfl⟩ := List.mem_map.mp h
    by_cases q : x.1 = k
    · left; simp [q]
    · right; simp [q]; exact hx
  · rw [put_new hk] at h
    rcases List.mem_append.mp h with h | h
    · right; exact ⟨h, fun q => hk (q ▸ List.mem_map.mpr ⟨e, h, rfl⟩)⟩
    · left; simpa using h
theorem put_len_new {d : D} {k v : Int} (h : k ∉ keys d) : (put d k v).length = d.length + 1 := by rw [put_new h]; simp
theorem put_len_old {d : D} {k v : Int} (h : k ∈ keys d) : (put d k v).length = d.length := by
  have := congrArg List.length (keys_put_old (v := v) h)
  simpa [keys] using this
theorem vsum_put_new {d : D} {k v : Int} (h : k ∉ keys d) : vsum (put d k v) = vsum d + v := by
  rw [put_new h]; simp [vsum]
theorem vsum_put_old : ∀ {d : D} {k v w : Int}, (keys d).Nodup → get d k = some w → vsum (put d k v) = vsum d - w + v
  | [], _, _, _, _, h => by simp [get_nil] at h
  | e :: d, k, v, w, nd, h => by
    have nd' : e.1 ∉ keys d ∧ (keys d).Nodup := List.nodup_cons.mp nd
    have hk : k ∈ keys (e :: d) := get_key h
    unfold put
    rw [if_pos (any_key.mpr hk)]
    rw [get_cons] at h
    have same : ∀ l : D, k ∉ keys l → l.map (fun e => if (e.1 == k) = true then (k, v) else e) = l := by
      intro l hl
      have : l.map (fun e => if (e.1 == k) = true then (k, v) else e) = l.map id := by
        apply List.map_congr_left
        intro a ha
        have : ¬ a.1 = k := fun q => hl (q ▸ List.mem_map.mpr ⟨a, ha, rfl⟩)
        simp [this]
      rw [this, List.map_id]
    by_cases q : e.1 = k
    · rw [if_pos q] at h
      have : e.2 = w := Option.some.inj h
      have hd : k ∉ keys d := q ▸ nd'.1
      rw [List.map_cons, same d hd]
      simp [vsum, q]
      omega
    · rw [if_neg q] at h
      have hd : k ∈ keys d := get_key h
      have ih := vsum_put_old (v := v) nd'.2 h
      unfold put at ih
      rw [if_pos (any_key.mpr hd)] at ih
      rw [List.map_cons]
      have q' : ¬ (e.1 == k) = true := by simp [q]
      rw [if_neg q']
      simp only [vsum, List.map_cons, List.sum_cons] at ih ⊢
      omega
theorem BF.new {n B : Int} {d : D} (b : BF n B d) (hn : n ≤ 12) (hB : 0 ≤ B) {i j v c : Int} (hi : get d i = some v) (hj : j ∉ keys d) (j0 : 0 ≤ j) (j1 : j < n) (c0 : 0 ≤ c) (c1 : c ≤ 1000) :
    BF n B (put d j (v + c)) ∧ pot B (put d j (v + c)) < pot B d := by
  have hv0 := b.lo _ (get_mem hi)
  have hv1 := b.hi _ (get_mem hi)
  simp at hv0 hv1
  have hlen := put_len_new (v := v + c) hj
  have b' : BF n B (put d j (v + c)) := by
    refine ⟨nd_put b.nd, fun k hk => ?_, fun e he => ?_, fun e he => ?_⟩
    · rcases mem_keys_put.mp hk with rfl | hk
      · exact ⟨j0, j1⟩
      · exact b.rg k hk
    · rcases mem_put he with rfl | ⟨he, _⟩
      · show 0 ≤ v + c; omega
      · exact b.lo e he
    · rw [hlen]
      rcases mem_put he with rfl | ⟨he, _⟩
      · show v + c ≤ _; omega
      · have := b.hi e he; omega
  refine ⟨b', ?_⟩
  have l12 := b'.len hn
  have s0 := vsum_nonneg b.lo
  unfold pot
  rw [hlen, vsum_put_new hj]
  rw [hlen] at l12
  obtain ⟨m, hm⟩ : ∃ m, 12 - d.length = m + 1 := ⟨11 - d.length, by omega⟩
  have hm' : 12 - (d.length + 1) = m := by omega
  rw [hm, hm', Nat.add_mul]
  have : (vsum d + (v + c)).toNat ≤ (vsum d).toNat + (v + c).toNat := by omega
  have : (v + c).toNat < 1 * (B + 13000).toNat := by omega
  omega
theorem BF.old {n B : Int} {d : D} (b : BF n B d) {i j v c w : Int} (hi : get d i = some v) (hj : get d j = some w) (c0 : 0 ≤ c) (lt : v + c < w) :
    BF n B (put d j (v + c)) ∧ pot B (put d j (v + c)) < pot B d := by
  have hv0 := b.lo _ (get_mem hi)
  have hw1 := b.hi _ (get_mem hj)
  have hw0 := b.lo _ (get_mem hj)
  simp at hv0 hw1 hw0
  have hk : j ∈ keys d := get_key hj
  have hlen := put_len_old (v := v + c) hk
  have b' : BF n B (put d j (v + c)) := by
    refine ⟨nd_put b.nd, fun k hk' => ?_, fun e he => ?_, fun e he => ?_⟩
    · rcases mem_keys_put.mp hk' with rfl | hk'
      · exact b.rg _ hk
      · exact b.rg k hk'
    · rcases mem_put he with rfl | ⟨he, _⟩
      · show 0 ≤ v + c; omega
      · exact b.lo e he
    · rw [hlen]
      rcases mem_put he with rfl | ⟨he, _⟩
      · show v + c ≤ _; omega
      · exact b.hi e he
  refine ⟨b', ?_⟩
  have s1 := vsum_nonneg b'.lo
  unfold pot
  rw [hlen]
  rw [vsum_put_old b.nd hj] at s1 ⊢
  omega

/-- nothing more to relax: each road's weight c -/
def Settled (d : D) (r : Road) (c : Int) : Prop := ∀ v, get d r.i = some v → ∃ w, get d r.j = some w ∧ w ≤ v + c
theorem settled_reach {N : Net} {root : Int} {d : D} {c : Road → Int} (h0 : root ∈ keys d) (h : ∀ r ∈ N.rs, Settled d r (c r)) : ∀ x, Reach N root x → x ∈ keys d := by
  intro x hx
  induction hx with
  | root => exact h0
  | step hr _ ih =>
    obtain ⟨v, hv⟩ := key_get ih
    obtain ⟨w, hw, _⟩ := h _ hr v hv
    exact get_key hw
end HK

/-! part HKE -/
/-! The walks of early.py. -/
namespace HK
open PySem PySem.Spec PyProof.Rows L2 Evl
open C8 (Cal Met Mak pe_c pe_mk pe_mt pe_mt0 pe_gc fnScope_by)
set_option hygiene false in
local macro_rules | `(tactic| walk_at "len") => `(tactic| (intro vs H Q E h; first
  | (obtain ⟨rfl, _⟩ := h; rfl)
  | (obtain ⟨_, rfl, _⟩ := h; rfl)
  | (obtain ⟨_, _, rfl, _⟩ := h; rfl)
  | (obtain ⟨_, _, _, rfl, _⟩ := h; rfl)
  | (obtain ⟨_, _, _, _, rfl, _⟩ := h; rfl)
  | (obtain ⟨_, _, _, _, _, rfl, _⟩ := h; rfl)
  | (obtain ⟨_, _, _, _, _, _, rfl, _⟩ := h; rfl)
  | (obtain ⟨_, _, _, _, _, _, _, rfl, _⟩ := h; rfl)
  | (obtain ⟨_, _, _, _, _, _, _, _, rfl, _⟩ := h; rfl)
  | (obtain ⟨_, _, _, _, _, _, _, _, _, rfl, _⟩ := h; rfl)
  | (obtain ⟨_, _, _, _, _, _, _, _, _, _, rfl, _⟩ := h; rfl)
  | (obtain ⟨_, _, _, _, _, _, _, _, _, _, _, rfl, _⟩ := h; rfl)
  | (obtain ⟨_, _, _, _, _, _, _, _, _, _, _, _, rfl, _⟩ := h; rfl)
  | (obtain ⟨_, _, _, _, _, _, _, _, _, _, _, _, _, rfl, _⟩ := h; rfl)
  | (obtain ⟨_, _, _, _, _, _, _, _, _, _, _, _, _, _, rfl, _⟩ := h; rfl)
  | (obtain ⟨_, _, _, _, _, _, _, _, _, _, _, _, _, _, _, rfl, _⟩ := h; rfl)
  | (obtain ⟨_, _, _, _, _, _, _, _, _, _, _, _, _, _, _, _, rfl, _⟩ := h; rfl)
  | (obtain ⟨_, _, _, _, _, _, _, _, _, _, _, _, _, _, _, _, _, rfl, _⟩ := h; rfl)
  | (obtain ⟨_, _, _, _, _, _, _, _, _, _, _, _, _, _, _, _, _, _, rfl, _⟩ := h; rfl)
  | (obtain ⟨_, _, _, _, _, _, _, _, _, _, _, _, _, _, _, _, _, _, _, rfl, _⟩ := h; rfl)
  | (obtain ⟨_, _, _, _, _, _, _, _, _, _, _, _, _, _, _, _, _, _, _, _, rfl, _⟩ := h; rfl)
  | (obtain ⟨_, _, _, _, _, _, _, _, _, _, _, _, _, _, _, _, _, _, _, _, _, rfl, _⟩ := h; rfl)
  | (obtain ⟨_, _, _, _, _, _, _, _, _, _, _, _, _, _, _, _, _, _, _, _, _, _, rfl, _⟩ := h; rfl)
  | (obtain ⟨_, _, _, _, _, _, _, _, _, _, _, _, _, _, _, _, _, _, _, _, _, _, _, rfl, _⟩ := h; rfl)
  | (obtain ⟨_, _, _, _, _, _, _, _, _, _, _, _, _, _, _, _, _, _, _, _, _, _, _, _, rfl, _⟩ := h; rfl)
  | (obtain ⟨_, _, _, _, _, _, _, _, _, _, _, _, _, _, _, _, _, _, _, _, _, _, _, _, _, rfl, _⟩ := h; rfl)))

section
variable {P : Program} {w : World} {K : PySem.W.Frag} {mg : Str → Option Value} {base : Heap}
/-- a dict of few places -/
structure Few (n : Int) (d : D) : Prop where
  nd : (keys d).Nodup
  rg : ∀ k ∈ keys d, 0 ≤ k ∧ k < n
theorem Few.len {n : Int} {d : D} (b : Few n d) (hn : n ≤ 12) : d.length ≤ 12 := by
  have := len_range b.nd b.rg
  simp [keys] at this
  omega
theorem Few.put {n : Int} {d : D} (b : Few n d) {k v : Int} (h0 : 0 ≤ k) (h1 : k < n) : Few n (put d k v) := ⟨nd_put b.nd, fun x hx => by
  rcases mem_keys_put.mp hx with rfl | hx
  · exact ⟨h0, h1⟩
  · exact b.rg x hx⟩
theorem Few.nil {n : Int} : Few n [] := ⟨List.nodup_nil, fun k hk => by simp [keys] at hk⟩

/-! ### earliest_by -/
def spEarliestBy : Sp := fun vs H Q _ => ∃ (a : Addr) (N : Net) (root : Int), vs = [.ref a, .int root] ∧ NetAt H a N ∧ N.Ok ∧ 0 ≤ root ∧ root < N.n ∧
  RetP (fun v H2 => ∃ t f g d, v = .ref t ∧ H2 t = some (.tup [.ref f, .ref g]) ∧ H2 f = some (.dK (dI d)) ∧ (keys d).Nodup ∧ ∀ x, x ∈ keys d ↔ Reach N root x) H Q
structure EBI (N : Net) (root : Int) (f g : Addr) (H0 : Hp) (d dg : D) (H : Hp) : Prop where
  ex : Ex H0 H
  hf : H f = some (.dK (dI d))
  hg : H g = some (.dK (dI dg))
  bf : BF N.n 0 d
  fw : Few N.n dg
  rt : root ∈ keys d
  re : ∀ k ∈ keys d, Reach N root k
theorem EBI.mono {N : Net} {root : Int} {f g : Addr} {H0 H H' : Hp} {d dg : D} (I : EBI N root f g H0 d dg H) (e : Ex H H') : EBI N root f g H0 d dg H' := ⟨I.ex.trans e, e _ _ I.hf, e _ _ I.hg, I.bf, I.fw, I.rt, I.re⟩
abbrev s_earliest_by : Stmt := top 23
abbrev N_earliest_by : List Str := ["net", "root", "found", "ahead", "moved", "i", "j", "cost", "late"]
theorem sc_earliest_by : FnScope N_earliest_by ["net", "root"] (defScope s_earliest_by) := fnScope_by (by decide +kernel)
theorem ok_earliest_by (F : DefAt K mg "earliest_by" s_earliest_by ["net", "root"]) (T : Txt K mg) : Cal P w K mg base 1 "earliest_by" spEarliestBy [] := by
  refine F.cal sc_earliest_by (by walk_at "len") (fun f0 cdv A outer s H vs Q E hr h => ?_)
  obtain ⟨a, N, root, rfl, hN, ok, r0, r1, k⟩ := h
  have nd := sc_earliest_by.nd
  refine ⟨_, (pss_cons (ps_set (i := 2) nd rfl (Or.inl rfl) (pe_disp (pps_cons (pv 1) pe_int pps_nil) (by rfl) (by rfl) (fun z => by cases z) (by decide)))
      (pss_cons (ps_set (i := 3) nd rfl (Or.inl rfl) pe_dnewK)
      (pss_cons (ps_set (i := 4) nd rfl (Or.inl rfl) pe_bl)
      (pss_cons (ps_while PassesOwn.never (pt_val (pv 4)) (pss_cons (ps_set (i := 4) nd rfl (Or.inl rfl) pe_bl)
      (pss_one (ps_for PassesOwn.never rfl (pi_tupK (K := K) rfl (pe_ix (ixT (K := K) rfl) (pv 0) pe_int (fun _ _ => rfl))) (pg_tupK (K := K) rfl rfl (pgs_cons (pg_name (i := 5) nd rfl (Or.inl rfl)) (pgs_cons (pg_name (i := 6) nd rfl (Or.inl rfl)) (pgs_cons (pg_name (i := 7) nd rfl (Or.inl rfl)) (pgs_cons (pg_name (i := 8) nd rfl (Or.inl rfl)) pgs_nil))))) (pss_one (ps_if (PW.pt (pw_and (pt_cmp (pc_din (hu_of hr) (pv 5) (pv 2)) rfl) (pw_and1 (PW.pt (pw_or (pt_cmp (pc_dnotin (hu_of hr) (pv 6) (pv 2)) rfl) (pw_or1 (pt_cmpR op_lt (pe_op op_add (pe_dget (hu_of hr) (pv 2) (pv 5) (fun _ _ => rfl)) (pv 8)) (pe_dget (hu_of hr) (pv 2) (pv 6) (fun _ _ => rfl)) (nomark _)))))))) (pss_cons (ps_dput (hu_of hr) (pv 2) (pv 6) (pe_op op_add (pe_dget (hu_of hr) (pv 2) (pv 5) (fun _ _ => rfl)) (pv 8)) rfl)
      (pss_cons (ps_dput (hu_of hr) (pv 3) (pv 6) (pv 5) rfl)
      (pss_one (ps_set (i := 4) nd rfl (Or.inl rfl) pe_bl)))) pss_nil))))))
      (pss_one (ps_ret (pe_tup (pa_cons (pv 2) (pa_cons (pv 3) pa_nil))))))))), ?_⟩
  obtain ⟨t, as, ha, ht, hR⟩ := hN.ex
  have n12 := ok.n12
  refine q_asgW (ew_disp1 (ev_var rfl) ev_c) fun f H1 f0 e1 hf1 => ?_
  refine q_asgW ew_newK fun g H2 g1 e2 hg2 => ?_
  have hf2 := e2 _ _ hf1
  have g0 : H g = none := fresh_back e1 g1
  have fg : f ≠ g := ne_of_none hf1 g1
  refine q_asg ev_c fun H3 e3 => ?_
  have b0 : BF N.n 0 [(root, 0)] := ⟨by simp [keys], fun k hk => by simp [keys] at hk; omega, fun e he => by simp at he; simp [he], fun e he => by simp at he; simp [he]⟩
  refine q_whileW (fun m σ H' => ∃ (b : Bool) (d dg : D) (x5 x6 x7 x8 : Option V), m = 2 * pot 0 d + (if b then 1 else 0) ∧ σ = [some (.ref a), some (.int root), some (.ref f), some (.ref g), some (.bl b), x5, x6, x7, x8] ∧
    EBI N root f g H d dg H' ∧ (b = false → ∀ r ∈ N.rs, Settled d r r.l)) _ ⟨true, [(root, 0)], [], none, none, none, none, rfl, rfl,
      ⟨(e1.trans e2).trans e3, e3 _ _ hf2, e3 _ _ hg2, b0, Few.nil, by simp [keys], fun k hk => by simp [keys] at hk; rw [hk]; exact .root⟩, fun z => by cases z⟩ ?_
  · rintro m σ H4 ⟨b, d, dg, x5, x6, x7, x8, rfl, rfl, I, hb⟩
    refine ⟨b, et_B (ev_var rfl), fun eb H5 e5 => ?_, fun eb H5 e5 => ?_⟩
    · subst eb
      have I5 := I.mono e5
      refine q_asg ev_c fun H6 e6 => ?_
      have I6 := I5.mono e6
      refine s_forTW (xs := as.map V.ref) (ev_ixT (i := 1) (v := .ref t) (ev_var rfl) ev_c (I6.ex _ _ ha) rfl) (I6.ex _ _ ht) (fun n σ H' => ∃ (b : Bool) (d' dg' : D) (x5 x6 x7 x8 : Option V), σ = [some (.ref a), some (.int root), some (.ref f), some (.ref g), some (.bl b), x5, x6, x7, x8] ∧ EBI N root f g H d' dg' H' ∧ TEx H6 H' ∧
        ((b = false ∧ d' = d ∧ ∀ k r, k < n → N.rs[k]? = some r → Settled d r r.l) ∨ (b = true ∧ pot 0 d' < pot 0 d))) (fun H7 e7 => ⟨false, d, dg, x5, x6, x7, x8, rfl, I6.mono e7, tex e7, .inl ⟨rfl, rfl, fun k r hk => absurd hk (Nat.not_lt_zero k)⟩⟩)
        (fun n σ H' _ p => by obtain ⟨_, _, _, _, _, _, _, _, _, tx, _⟩ := p; exact tx) ?_ ?_
      · rintro n x σ H7 hx ⟨b, d', dg', x5, x6, x7, x8, rfl, I7, tx, hc⟩
        obtain ⟨c, r, rfl, hc1, hc2, hc3⟩ := hR.get hx
        have hrd := ok.rs r (List.mem_of_getElem? hc2)
        refine g4 (I7.ex _ _ hc3) ?_
        show (tIfS _ _ _ : TS) _ ([some (.ref a), some (.int root), some (.ref f), some (.ref g), some (.bl b), some (.int r.i), some (.int r.j), some (.int r.p), some (.int r.l)] : L2.St) H7
        have hf7 : Rd H7 f (.dK (dI d')) := .inl I7.hf
        refine s_when (et_and (b := !(get d' r.j).isSome || decide ((get d' r.i).getD 0 + r.l < (get d' r.j).getD 0)) (et_B (ev_dinI (ev_var rfl) (ev_var rfl) hf7)) fun q1 => et_or (et_B (ev_dnotinI (ev_var rfl) (ev_var rfl) hf7)) fun q2 =>
          et_test (ev_op (ev_op (ev_dgetI (ev_var rfl) (ev_var rfl) hf7 q1) (ev_var rfl) rv_I0) (ev_dgetI (ev_var rfl) (ev_var rfl) hf7 (by simpa using q2)) rv_I0)) (fun q H8 e8 => ?_) (fun q H8 e8 => ?_)
        · have I8 := I7.mono e8
          have qi : (get d' r.i).isSome = true := (Bool.and_eq_true_iff.mp q).1
          obtain ⟨v, hv⟩ := Option.isSome_iff_exists.mp qi
          have q2 := (Bool.and_eq_true_iff.mp q).2
          have step : BF N.n 0 (put d' r.j (v + r.l)) ∧ pot 0 (put d' r.j (v + r.l)) < pot 0 d' := by
            cases hj : get d' r.j with
            | none => exact I7.bf.new n12 (by omega) hv (get_none.mp hj) hrd.j0 hrd.j1 (by have := hrd.l0; omega) hrd.l1
            | some w =>
              rw [hv, hj] at q2
              exact I7.bf.old hv hj (by have := hrd.l0; omega) (by simpa using q2)
          refine q_dputI (d := d') (k := r.j) (v := v + r.l) (ev_op (ev_is (ev_dgetI (ev_var rfl) (ev_var rfl) (.inl I8.hf) qi) (by rw [hv]; rfl)) (ev_var rfl) rv_I0) (ev_var rfl) (ev_var rfl) I8.hf (by have := I8.bf.len n12; omega) fun H9 e9 => ?_
          have hg9 : (upd H9 f (.dK (dI (put d' r.j (v + r.l))))) g = some (.dK (dI dg')) := by rw [upd_ne fg.symm]; exact e9 _ _ I8.hg
          refine q_dputI (d := dg') (k := r.j) (v := r.i) (ev_var rfl) (ev_var rfl) (ev_var rfl) hg9 (by have := I8.fw.len n12; omega) fun H10 e10 => ?_
          refine s_asg ev_c fun H11 e11 => ?_
          have E9 : Ex H (upd H9 f (.dK (dI (put d' r.j (v + r.l))))) := Ex.mut (I8.ex.trans e9) f0
          have E10 : Ex H (upd H10 g (.dK (dI (put dg' r.j r.i)))) := Ex.mut (E9.trans e10) g0
          have T10 : TEx H6 (upd H10 g (.dK (dI (put dg' r.j r.i)))) := ((((tx.trans (tex e8)).trans (tex e9)).trans (tex_upd (e9 _ _ I8.hf) fun xs z => nomatch z)).trans (tex e10)).trans (tex_upd (e10 _ _ hg9) fun xs z => nomatch z)
          refine ⟨true, put d' r.j (v + r.l), put dg' r.j r.i, some (.int r.i), some (.int r.j), some (.int r.p), some (.int r.l), rfl, ⟨E10.trans e11, ?_, e11 _ _ upd_same, step.1, I8.fw.put hrd.j0 hrd.j1, mem_keys_put.mpr (.inr I7.rt), ?_⟩, T10.trans (tex e11), .inr ⟨rfl, ?_⟩⟩
          · refine e11 _ _ ?_
            rw [upd_ne fg]; exact e10 _ _ upd_same
          · intro k hk
            rcases mem_keys_put.mp hk with rfl | hk
            · exact .step (List.mem_of_getElem? hc2) (I7.re _ (get_key hv))
            · exact I7.re k hk
          · rcases hc with ⟨_, rfl, _⟩ | ⟨_, h⟩
            · exact step.2
            · exact Nat.lt_trans step.2 h
        · refine ⟨b, d', dg', _, _, _, _, rfl, I7.mono e8, tx.trans (tex e8), ?_⟩
          rcases hc with ⟨h1, rfl, h3⟩ | h
          · refine .inl ⟨h1, rfl, fun m r' hm hr' => ?_⟩
            rcases Nat.lt_or_ge m n with h | h
            · exact h3 m r' h hr'
            · have : m = n := by omega
              subst this
              rw [hc2] at hr'; cases hr'
              intro v hv
              rw [hv] at q
              cases hj : get d' r.j with
              | none => rw [hj] at q; simp at q
              | some w => rw [hj] at q; simp at q; exact ⟨w, rfl, q⟩
          · exact .inr h
      · rintro σ H7 ⟨b, d', dg', x5, x6, x7, x8, rfl, I7, _, hc⟩
        rcases hc with ⟨rfl, rfl, h3⟩ | ⟨rfl, h⟩
        · refine ⟨2 * pot 0 d' + 0, by simp, false, d', dg', x5, x6, x7, x8, rfl, rfl, I7, fun _ r hr => ?_⟩
          obtain ⟨m, hm, em⟩ := List.getElem_of_mem hr
          exact h3 m r (by rw [List.length_map, hR.len]; exact hm) (by rw [List.getElem?_eq_getElem hm, em])
        · exact ⟨2 * pot 0 d' + 1, by simp; omega, true, d', dg', x5, x6, x7, x8, rfl, rfl, I7, fun z => by cases z⟩
    · subst eb
      have I5 := I.mono e5
      refine s_retW (eu_tup (ea_cons (ev_var rfl) (ea_cons (ev_var rfl) ea_nil)) (by show 2 ≤ 100000; decide)) fun p H6 hp e6 h6 => k _ H6 (I5.ex.trans e6) ⟨p, f, g, d, rfl, h6, e6 _ _ I5.hf, I.bf.nd, fun x => ⟨I.re x, settled_reach (c := fun r => r.l) I.rt (hb rfl) x⟩⟩

def spEarliestIn : Sp := fun vs H Q _ => ∃ (a : Addr) (N : Net) (root : Int), vs = [.ref a, .int root] ∧ NetAt H a N ∧ N.Ok ∧ 0 ≤ root ∧ root < N.n ∧
  RetP (fun v H2 => ∃ f d, v = .ref f ∧ H2 f = some (.dK (dI d)) ∧ (keys d).Nodup ∧ ∀ x, x ∈ keys d ↔ Reach N root x) H Q
abbrev s_earliest_in : Stmt := top 24
abbrev N_earliest_in : List Str := ["net", "root"]
theorem sc_earliest_in : FnScope N_earliest_in ["net", "root"] (defScope s_earliest_in) := fnScope_by (by decide +kernel)
theorem ok_earliest_in (F : DefAt K mg "earliest_in" s_earliest_in ["net", "root"]) (T : Txt K mg) (c_earliest_by : Cal P w K mg base 1 "earliest_by" spEarliestBy []) : Cal P w K mg base 2 "earliest_in" spEarliestIn [] := by
  refine F.cal sc_earliest_in (by walk_at "len") (fun f0 cdv A outer s H vs Q E hr h => ?_)
  obtain ⟨a, N, root, rfl, hN, ok, r0, r1, k⟩ := h
  have nd := sc_earliest_in.nd
  refine ⟨_, (pss_one (ps_ret (pe_ix (ixT (K := K) rfl) (pe_c c_earliest_by hr (by decide) (by rfl) (pa_cons (pv 0) (pa_cons (pv 1) pa_nil))) pe_int (fun _ _ => rfl)))), ?_⟩
  refine s_retP (R := fun v H2 => ∃ f d, v = .ref f ∧ H2 f = some (.dK (dI d)) ∧ (keys d).Nodup ∧ ∀ x, x ∈ keys d ↔ Reach N root x) (fun H1 e Q q => ?_) k
  refine evp_call (ea_cons (ev_var rfl) (ea_cons (ev_var rfl) ea_nil)) (fun H2 e2 Q k => ⟨a, N, root, rfl, hN.mono (tex e2), ok, r0, r1, k⟩) H1 e _ fun v H2 e2 r => ?_
  obtain ⟨t, f, g, d, rfl, h1, h2, h3, h4⟩ := r
  exact ⟨t, [.ref f, .ref g], 0, .ref f, rfl, rfl, st_of h1, rfl, q _ H2 e2 ⟨f, d, rfl, h2, h3, h4⟩⟩
theorem reach_range {N : Net} (ok : N.Ok) {root : Int} (r0 : 0 ≤ root) (r1 : root < N.n) {x : Int} (h : Reach N root x) : 0 ≤ x ∧ x < N.n := by
  cases h with
  | root => exact ⟨r0, r1⟩
  | step hr _ => exact ⟨(ok.rs _ hr).j0, (ok.rs _ hr).j1⟩
end
end HK

/-! part HKF -/
/-! Weighing (Edmonds, Fulkerson): the mathematics. -/
namespace HK
abbrev E2 := List ((Int × Int) × Int)

/-! ### trees grown road by road -/
inductive Grown (N : Net) (root : Int) : D → Prop where
  | nil : Grown N root []
  | snoc {d : D} {k v : Int} : Grown N root d → (v = root ∨ v ∈ keys d) → k ≠ root → k ∉ keys d → N.has v k → Grown N root (d ++ [(k, v)])
theorem keys_snoc {d : D} {k v : Int} : keys (d ++ [(k, v)]) = keys d ++ [k] := by simp [keys]
theorem iter_snoc {d : D} {k v root : Int} (hk : k ∉ keys d) (hr : k ≠ root) : ∀ (m : Nat) (x : Int), iter (par d) m x = root → iter (par (d ++ [(k, v)])) m x = root
  | 0, _, h => h
  | m + 1, x, h => by
    have h' : iter (par d) m (par d x) = root := h
    by_cases e : x = k
    · subst e
      rw [par_out hk, iter_fix (par_out hk)] at h'
      exact absurd h' hr
    · have : par (d ++ [(k, v)]) x = par d x := by unfold par; rw [get_snoc hk, if_neg e]
      show iter _ m (par (d ++ [(k, v)]) x) = root
      rw [this]
      exact iter_snoc hk hr m _ h'
theorem Grown.tree {N : Net} {root : Int} {d : D} (g : Grown N root d) : Tree N root d := by
  induction g with
  | nil => exact ⟨List.nodup_nil, by simp [keys], fun e he => by simp at he, fun k hk => by simp [keys] at hk⟩
  | @snoc d k v g hv hr hk hh ih =>
    have home : ∀ x, x ∈ keys d → Home (d ++ [(k, v)]) root x := fun x hx => by
      obtain ⟨m, hm⟩ := ih.hm x hx
      exact ⟨m, iter_snoc hk hr m x hm⟩
    refine ⟨by rw [keys_snoc]; exact nd_snoc ih.nd hk, ?_, ?_, ?_⟩
    · rw [keys_snoc]; intro h
      rcases List.mem_append.mp h with h | h
      · exact ih.rt h
      · exact hr (List.mem_singleton.mp h).symm
    · intro e he
      rcases List.mem_append.mp he with he | he
      · exact ih.rd e he
      · rw [List.mem_singleton.mp he]; exact hh
    · intro x hx
      rw [keys_snoc] at hx
      rcases List.mem_append.mp hx with hx | hx
      · exact home x hx
      · rw [List.mem_singleton.mp hx]
        have pk : par (d ++ [(k, v)]) k = v := by unfold par; rw [get_snoc hk, if_pos rfl]; rfl
        rcases hv with rfl | hv
        · exact ⟨1, pk⟩
        · obtain ⟨m, hm⟩ := home v hv
          exact ⟨m + 1, by show iter _ m (par _ k) = root; rw [pk]; exact hm⟩
theorem cnt_snoc (S : List Int) (d : D) (k v : Int) : cnt S (d ++ [(k, v)]) = cnt S d + (if ent S v k then 1 else 0) := by simp [cnt]

/-! ### places behind -/
structure Behind (sp : E2) (p : Int) (l : List Int) : Prop where
  nd : l.Nodup
  me : p ∈ l
  cl : ∀ i j, (i, j) ∈ keys sp → j ∈ l → i ∈ l
  mi : ∀ P : Int → Prop, (∀ i j, (i, j) ∈ keys sp → P j → P i) → P p → ∀ x ∈ l, P x

structure WI (N : Net) (root : Int) (lf sp : E2) (ws : Wt) : Prop where
  ndl : (keys lf).Nodup
  nds : (keys sp).Nodup
  lk : ∀ i j, (i, j) ∈ keys lf ↔ ∃ r ∈ N.rs, r.i = i ∧ r.j = j ∧ Reach N root i
  lv : ∀ r ∈ N.rs, Reach N root r.i → get lf (r.i, r.j) = some (r.p - load ws r.i r.j)
  l0 : ∀ e c, get lf e = some c → 0 ≤ c
  sk : ∀ e, e ∈ keys sp ↔ get lf e = some 0
  st : ∀ e t, get sp e = some t → 0 ≤ t ∧ t ≤ ws.length
  wp : ∀ w ∈ ws, 0 ≤ w.2 ∧ w.1 ≠ [] ∧ root ∉ w.1 ∧ ∀ x ∈ w.1, Reach N root x
  wb : ∀ (k : Nat) w i j t, ws[k]? = some w → get sp (i, j) = some t → ent w.1 i j = true → (k : Int) + 1 ≤ t
  wc : ∀ (k : Nat) w, ws[k]? = some w → ∀ A : Int → Prop, (∃ v ∈ w.1, A v) → (∃ u ∈ w.1, ¬ A u) → ∃ i j t, get sp (i, j) = some t ∧ t ≤ (k : Int) ∧ i ∈ w.1 ∧ j ∈ w.1 ∧ A i ∧ ¬ A j
section
variable {N : Net} {root : Int} {lf sp lf' sp' : E2} {ws : Wt}
theorem WI.reach_i (W : WI N root lf sp ws) {i j : Int} (h : (i, j) ∈ keys sp) : Reach N root i := by
  have h1 := get_key ((W.sk _).mp h)
  obtain ⟨r, _, _, _, h2⟩ := (W.lk i j).mp h1
  exact h2
theorem WI.reach_j (W : WI N root lf sp ws) {i j : Int} (h : (i, j) ∈ keys sp) : Reach N root j := by
  have h1 := get_key ((W.sk _).mp h)
  obtain ⟨r, hr, h2, h3, h4⟩ := (W.lk i j).mp h1
  subst h2 h3
  exact .step hr h4
theorem WI.has (W : WI N root lf sp ws) {i j : Int} (h : (i, j) ∈ keys sp) : N.has i j := by
  have h1 := get_key ((W.sk _).mp h)
  obtain ⟨r, hr, h2, h3, h4⟩ := (W.lk i j).mp h1
  exact ⟨r, hr, h2, h3⟩
/-- the fewest places behind, without the root: no road cuts them that is not spent -/
theorem cut_of {p : Int} {best : List Int} (hb : Behind sp p best) (hr : root ∉ best)
    (hmin : ∀ q ∈ best, ∃ sm, Behind sp q sm ∧ (root ∈ sm ∨ best.length ≤ sm.length)) (A : Int → Prop) (h1 : ∃ v ∈ best, A v) (h2 : ∃ u ∈ best, ¬ A u) :
    ∃ i j, (i, j) ∈ keys sp ∧ i ∈ best ∧ j ∈ best ∧ A i ∧ ¬ A j := by
  apply Classical.byContradiction
  intro hno
  obtain ⟨v, hv, hAv⟩ := h1
  obtain ⟨u, hu, hAu⟩ := h2
  obtain ⟨sm, hs, hl⟩ := hmin u hu
  have sub : ∀ x ∈ sm, x ∈ best ∧ ¬ A x := hs.mi (fun x => x ∈ best ∧ ¬ A x) (fun i j hij hj => by
    have hi := hb.cl i j hij hj.1
    exact ⟨hi, fun ha => hno ⟨i, j, hij, hi, hj.1, ha, hj.2⟩⟩) ⟨hu, hAu⟩
  rcases hl with hl | hl
  · exact hr (sub _ hl).1
  · have nd : (v :: sm).Nodup := List.nodup_cons.mpr ⟨fun h => (sub v h).2 hAv, hs.nd⟩
    have ss : (v :: sm) ⊆ best := fun x hx => by
      rcases List.mem_cons.mp hx with rfl | hx
      · exact hv
      · exact (sub x hx).1
    have := List.Nodup.length_le_of_subset nd ss
    simp at this; omega

/-! ### one weighing -/
structure PWg (lf sp : E2) (least T : Int) (done : List (Int × Int)) (lf' sp' : E2) : Prop where
  kl : keys lf' = keys lf
  gl : ∀ e, get lf' e = if e ∈ done then (get lf e).map (· - least) else get lf e
  nd : (keys sp').Nodup
  gs : ∀ e, get sp' e = if e ∈ done ∧ get lf e = some least then some T else get sp e
theorem PWg.start (nds : (keys sp).Nodup) (least T : Int) : PWg lf sp least T [] lf sp := ⟨rfl, fun e => by simp, nds, fun e => by simp⟩
theorem PWg.step {least T : Int} {done : List (Int × Int)} (h : PWg lf sp least T done lf' sp') {e : Int × Int} {c : Int} (he : e ∉ done) (hc : get lf e = some c) :
    get lf' e = some c ∧ PWg lf sp least T (done ++ [e]) (put lf' e (c - least)) (if c - least = 0 then put sp' e T else sp') := by
  have h1 : get lf' e = some c := by rw [h.gl, if_neg he, hc]
  refine ⟨h1, ⟨by rw [keys_put_old (get_key h1)]; exact h.kl, fun x => ?_, ?_, fun x => ?_⟩⟩
  · rw [get_put]
    by_cases q : x = e
    · subst q; simp [hc]
    · rw [if_neg q, h.gl]; simp [q]
  · split
    · exact nd_put h.nd
    · exact h.nd
  · by_cases q : x = e
    · subst q
      by_cases z : c - least = 0
      · have : c = least := by omega
        rw [if_pos z, get_put, if_pos rfl]; simp [hc, this]
      · have : ¬ c = least := by omega
        rw [if_neg z, h.gs]; simp [hc, this]
    · have : get (if c - least = 0 then put sp' e T else sp') x = get sp' x := by
        split
        · rw [get_put, if_neg q]
        · rfl
      rw [this, h.gs]; simp [q]
theorem WI.weigh (W : WI N root lf sp ws) (ok : N.Ok) {some_ : List Int} (hne : some_ ≠ []) (hr : root ∉ some_) (hre : ∀ x ∈ some_, Reach N root x) (hb : ∀ i j, (i, j) ∈ keys sp → j ∈ some_ → i ∈ some_)
    (hc : ∀ A : Int → Prop, (∃ v ∈ some_, A v) → (∃ u ∈ some_, ¬ A u) → ∃ i j, (i, j) ∈ keys sp ∧ i ∈ some_ ∧ j ∈ some_ ∧ A i ∧ ¬ A j)
    {least : Int} {roads : List (Int × Int)} (hrd : ∀ e, e ∈ roads ↔ e ∈ keys lf ∧ ent some_ e.1 e.2 = true) (hl : ∀ e ∈ roads, ∀ c, get lf e = some c → least ≤ c) (hl0 : 0 ≤ least)
    (h : PWg lf sp least (ws.length + 1) roads lf' sp') : WI N root lf' sp' (ws ++ [(some_, least)]) := by
  have unspent : ∀ e ∈ roads, e ∉ keys sp := fun e he hs => by
    have := ((hrd e).mp he).2
    simp only [ent, Bool.and_eq_true, decide_eq_true_eq, Bool.not_eq_true', decide_eq_false_iff_not] at this
    exact this.2 (hb e.1 e.2 hs this.1)
  have old : ∀ e t, get sp e = some t → get sp' e = some t := fun e t ht => by
    rw [h.gs, if_neg]
    · exact ht
    · rintro ⟨h1, _⟩
      exact unspent e h1 (get_key ht)
  have new : ∀ e t, get sp' e = some t → get sp e = some t ∨ (t = ws.length + 1 ∧ e ∈ roads) := fun e t ht => by
    rw [h.gs] at ht
    split at ht
    · next q => right; exact ⟨(Option.some.inj ht).symm, q.1⟩
    · exact .inl ht
  have wsk : ∀ (k : Nat) w, (ws ++ [(some_, least)])[k]? = some w → ws[k]? = some w ∨ (k = ws.length ∧ w = (some_, least)) := fun k w hk => by
    rcases Nat.lt_or_ge k ws.length with q | q
    · rw [List.getElem?_append_left q] at hk; exact .inl hk
    · rw [List.getElem?_append_right q] at hk
      have : k - ws.length = 0 := by
        apply Classical.byContradiction
        intro z
        rw [List.getElem?_eq_none (by simp; omega)] at hk; cases hk
      rw [this] at hk
      right; exact ⟨by omega, (Option.some.inj hk).symm⟩
  refine ⟨by rw [h.kl]; exact W.ndl, h.nd, fun i j => by rw [h.kl]; exact W.lk i j, fun r hr' hx => ?_, fun e c he => ?_, fun e => ?_, fun e t ht => ?_, fun w hw => ?_, fun k w i j t hk ht he => ?_, fun k w hk A hA hB => ?_⟩
  · have g := W.lv r hr' hx
    rw [h.gl, load_snoc]
    by_cases q : (r.i, r.j) ∈ roads
    · have := ((hrd _).mp q).2
      rw [if_pos q, g, if_pos this]
      simp; omega
    · have : ¬ ent some_ r.i r.j = true := fun z => q ((hrd _).mpr ⟨get_key g, z⟩)
      rw [if_neg q, g, if_neg this]
      simp
  · rw [h.gl] at he
    by_cases q : e ∈ roads
    · rw [if_pos q] at he
      obtain ⟨c', h1, h2⟩ := Option.map_eq_some_iff.mp he
      have := hl e q c' h1
      omega
    · rw [if_neg q] at he; exact W.l0 e c he
  · by_cases q : e ∈ roads
    · obtain ⟨c, hc'⟩ := key_get ((hrd e).mp q).1
      have g1 : get lf' e = some (c - least) := by rw [h.gl, if_pos q, hc']; rfl
      have g2 := h.gs e
      rw [hc'] at g2
      constructor
      · intro hk
        obtain ⟨t, ht⟩ := key_get hk
        by_cases z : c = least
        · rw [g1, z]; simp
        · rw [if_neg (by simp [z])] at g2
          rw [ht] at g2
          exact absurd (get_key g2.symm) (unspent e q)
      · intro hz
        rw [g1] at hz
        have z : c = least := by have := Option.some.inj hz; omega
        rw [if_pos ⟨q, by rw [z]⟩] at g2
        exact get_key g2
    · have g1 : get lf' e = get lf e := by rw [h.gl, if_neg q]
      have g2 : get sp' e = get sp e := by rw [h.gs, if_neg (fun z => q z.1)]
      rw [g1, ← W.sk e]
      constructor
      · intro hk
        obtain ⟨t, ht⟩ := key_get hk
        rw [g2] at ht; exact get_key ht
      · intro hk
        obtain ⟨t, ht⟩ := key_get hk
        rw [← g2] at ht; exact get_key ht
  · rw [List.length_append, List.length_singleton]
    rcases new e t ht with z | ⟨z, _⟩
    · have := W.st e t z; omega
    · omega
  · rcases List.mem_append.mp hw with hw | hw
    · exact W.wp w hw
    · rw [List.mem_singleton.mp hw]; exact ⟨hl0, hne, hr, hre⟩
  · rcases wsk k w hk with hk' | ⟨rfl, rfl⟩
    · rcases new _ t ht with z | ⟨z, _⟩
      · exact W.wb k w i j t hk' z he
      · have := (List.getElem?_eq_some_iff.mp hk').1
        omega
    · rcases new _ t ht with z | ⟨z, _⟩
      · have he' : ent some_ i j = true := he
        simp only [ent, Bool.and_eq_true, decide_eq_true_eq, Bool.not_eq_true', decide_eq_false_iff_not] at he'
        exact absurd (hb i j (get_key z) he'.1) he'.2
      · omega
  · rcases wsk k w hk with hk' | ⟨rfl, rfl⟩
    · obtain ⟨i, j, t, h1, h2⟩ := W.wc k w hk' A hA hB
      exact ⟨i, j, t, old _ _ h1, h2⟩
    · obtain ⟨i, j, h1, h2⟩ := hc A hA hB
      obtain ⟨t, ht⟩ := key_get h1
      exact ⟨i, j, t, old _ _ ht, (W.st _ _ ht).2, h2⟩
/-- one weighing spends a road -/
theorem PWg.more (W : WI N root lf sp ws) {least T : Int} {roads : List (Int × Int)} (h : PWg lf sp least T roads lf' sp') (hun : ∀ e ∈ roads, e ∉ keys sp) {e : Int × Int} (he : e ∈ roads) (hc : get lf e = some least) : sp.length < sp'.length := by
  have hk : e ∈ keys sp' := get_key (v := T) (by rw [h.gs, if_pos ⟨he, hc⟩])
  have nd : (e :: keys sp).Nodup := List.nodup_cons.mpr ⟨hun e he, W.nds⟩
  have ss : (e :: keys sp) ⊆ keys sp' := fun x hx => by
    rcases List.mem_cons.mp hx with rfl | hx
    · exact hk
    · obtain ⟨t, ht⟩ := key_get hx
      refine get_key (v := t) ?_
      rw [h.gs, if_neg (fun z => hun x z.1 hx)]; exact ht
  have := List.Nodup.length_le_of_subset nd ss
  simp [keys] at this; omega
theorem WI.sp_len (W : WI N root lf sp ws) : sp.length ≤ lf.length := by
  have ss : keys sp ⊆ keys lf := fun x hx => get_key ((W.sk x).mp hx)
  have := List.Nodup.length_le_of_subset W.nds ss
  simpa [keys] using this
theorem PWg.sp_len (W : WI N root lf sp ws) {least T : Int} {done : List (Int × Int)} (h : PWg lf sp least T done lf' sp') (hd : ∀ e ∈ done, e ∈ keys lf) : sp'.length ≤ lf.length := by
  have ss : keys sp' ⊆ keys lf := fun x hx => by
    obtain ⟨t, ht⟩ := key_get hx
    rw [h.gs] at ht
    split at ht
    · next q => exact hd x q.1
    · exact get_key ((W.sk x).mp (get_key ht))
  have := List.Nodup.length_le_of_subset h.nd ss
  simpa [keys] using this
/-- places that can be reached, without the root: a road leads into them -/
theorem some_in {S : List Int} (hr : root ∉ S) : ∀ x, Reach N root x → x ∈ S → ∃ r ∈ N.rs, Reach N root r.i ∧ r.i ∉ S ∧ r.j ∈ S := by
  intro x hx
  induction hx with
  | root => intro h; exact absurd h hr
  | @step r hr' hi ih =>
    intro h
    by_cases q : r.i ∈ S
    · exact ih q
    · exact ⟨r, hr', hi, q, h⟩

/-! ### the tree by spent roads -/
structure TG (N : Net) (root : Int) (sp : E2) (ws : Wt) (d : D) : Prop where
  gr : Grown N root d
  sp : ∀ e ∈ d, (e.2, e.1) ∈ keys sp
  c1 : ∀ (k : Nat) w, ws[k]? = some w → ((∀ x ∈ w.1, x ∉ root :: keys d) ∧ cnt w.1 d = 0) ∨ ((∃ x ∈ w.1, x ∈ root :: keys d) ∧ cnt w.1 d = 1)
theorem TG.start (W : WI N root lf sp ws) : TG N root sp ws [] := ⟨.nil, fun e he => by simp at he, fun k w hk => .inl ⟨fun x hx h => by
  simp [keys] at h; subst h
  exact (W.wp w (List.mem_of_getElem? hk)).2.2.1 hx, rfl⟩⟩
theorem TG.step (W : WI N root lf sp ws) {d : D} (T : TG N root sp ws d) {i j t : Int} (h : get sp (i, j) = some t) (hi : i ∈ root :: keys d) (hj : j ∉ root :: keys d)
    (hmin : ∀ i' j' t', get sp (i', j') = some t' → i' ∈ root :: keys d → j' ∉ root :: keys d → t ≤ t') : TG N root sp ws (d ++ [(j, i)]) := by
  have hj' : j ≠ root ∧ j ∉ keys d := by simpa [not_or] using hj
  have hi' : i = root ∨ i ∈ keys d := by simpa using hi
  refine ⟨.snoc T.gr hi' hj'.1 hj'.2 (W.has (get_key h)), fun e he => ?_, fun k w hk => ?_⟩
  · rcases List.mem_append.mp he with he | he
    · exact T.sp e he
    · rw [List.mem_singleton.mp he]; exact get_key h
  · rw [keys_snoc, cnt_snoc]
    have mem : ∀ x, x ∈ root :: (keys d ++ [j]) ↔ x ∈ root :: keys d ∨ x = j := fun x => by simp [or_assoc]
    by_cases e : ent w.1 i j = true
    · have e' : j ∈ w.1 ∧ i ∉ w.1 := by simpa [ent] using e
      rw [if_pos e]
      right
      refine ⟨⟨j, e'.1, (mem j).mpr (.inr rfl)⟩, ?_⟩
      rcases T.c1 k w hk with ⟨_, hc⟩ | ⟨hv, hc⟩
      · rw [hc]; rfl
      · exfalso
        obtain ⟨i', j', t', h1, h2, _, _, h3, h4⟩ := W.wc k w hk (fun x => x ∈ root :: keys d) hv ⟨j, e'.1, hj⟩
        have a := hmin i' j' t' h1 h3 h4
        have b := W.wb k w i j t hk h e
        omega
    · rw [if_neg e, Int.add_zero]
      rcases T.c1 k w hk with ⟨hn, hc⟩ | ⟨hv, hc⟩
      · have hjw : j ∉ w.1 := fun q => by
          have : i ∉ w.1 := fun z => hn i z hi
          exact e (by simp [ent, q, this])
        refine .inl ⟨fun x hx h => ?_, hc⟩
        rcases (mem x).mp h with h | rfl
        · exact hn x hx h
        · exact hjw hx
      · obtain ⟨x, hx, h⟩ := hv
        exact .inr ⟨⟨x, hx, (mem x).mpr (.inl h)⟩, hc⟩
theorem TG.done (W : WI N root lf sp ws) (ok : N.Ok) {d : D} (T : TG N root sp ws d) (hno : ∀ i j t, get sp (i, j) = some t → i ∈ root :: keys d → j ∈ root :: keys d)
    (fin : ∀ q, Reach N root q → ∃ sm, Behind sp q sm ∧ root ∈ sm) : Full N root d ∧ IsMin N root (cst N d) := by
  have full : ∀ x, Reach N root x → x ∈ root :: keys d := fun x hx => by
    apply Classical.byContradiction
    intro hn
    obtain ⟨sm, hs, hr⟩ := fin x hx
    have := hs.mi (fun y => y ∉ root :: keys d) (fun i j hij hj hi => by
      obtain ⟨t, ht⟩ := key_get hij
      exact hj (hno i j t ht hi)) hn root hr
    exact this (List.mem_cons_self ..)
  have F : Full N root d := ⟨T.gr.tree, fun x hx hne => by
    rcases List.mem_cons.mp (full x hx) with h | h
    · exact absurd h hne
    · exact h⟩
  refine ⟨F, isMin_of ok (ws := ws) F ⟨fun w hw => (W.wp w hw).1, fun w hw => (W.wp w hw).2.1, fun w hw => (W.wp w hw).2.2.1, fun w hw => (W.wp w hw).2.2.2, fun r hr hx => ?_⟩ (fun e he => ?_) (fun w hw => ?_)⟩
  · have := W.l0 _ _ (W.lv r hr hx); omega
  · have h1 := T.sp e he
    obtain ⟨r, hr, h2, h3⟩ := W.has h1
    have h4 := W.reach_i h1
    rw [← h2] at h4
    have g := W.lv r hr h4
    rw [h2, h3, (W.sk _).mp h1] at g
    have := Option.some.inj g
    rw [← h2, ← h3, cost_of ok hr, h2, h3]
    omega
  · obtain ⟨k, hk, ek⟩ := List.getElem_of_mem hw
    have hk' : ws[k]? = some w := by rw [List.getElem?_eq_getElem hk, ek]
    rcases T.c1 k w hk' with ⟨hn, _⟩ | ⟨_, hc⟩
    · obtain ⟨x, hx⟩ := List.exists_mem_of_ne_nil _ (W.wp w hw).2.1
      exact absurd (full x ((W.wp w hw).2.2.2 x hx)) (hn x hx)
    · exact hc
end

/-! ### the beginning -/
structure InitI (N : Net) (root : Int) (k : Nat) (lf sp : E2) : Prop where
  ndl : (keys lf).Nodup
  nds : (keys sp).Nodup
  gl : ∀ e c, get lf e = some c ↔ ∃ m r, m < k ∧ N.rs[m]? = some r ∧ (r.i, r.j) = e ∧ r.p = c ∧ Reach N root r.i
  gs : ∀ e t, get sp e = some t ↔ t = 0 ∧ get lf e = some 0
theorem InitI.start {N : Net} {root : Int} : InitI N root 0 [] [] := ⟨List.nodup_nil, List.nodup_nil, fun e c => by simp [get_nil], fun e t => by simp [get_nil]⟩
theorem InitI.skip {N : Net} {root : Int} {k : Nat} {lf sp : E2} (I : InitI N root k lf sp) {r : Road} (hr : N.rs[k]? = some r) (hn : ¬ Reach N root r.i) : InitI N root (k + 1) lf sp := by
  refine ⟨I.ndl, I.nds, fun e c => ?_, I.gs⟩
  rw [I.gl]
  constructor
  · rintro ⟨m, r', h1, h2⟩; exact ⟨m, r', by omega, h2⟩
  · rintro ⟨m, r', h1, h2, h3, h4, h5⟩
    rcases Nat.lt_or_ge m k with h | h
    · exact ⟨m, r', h, h2, h3, h4, h5⟩
    · have : m = k := by omega
      subst this
      rw [hr] at h2; cases h2; exact absurd h5 hn
theorem InitI.step {N : Net} (ok : N.Ok) {root : Int} {k : Nat} {lf sp : E2} (I : InitI N root k lf sp) {r : Road} (hr : N.rs[k]? = some r) (hn : Reach N root r.i) :
    (r.i, r.j) ∉ keys lf ∧ (r.i, r.j) ∉ keys sp ∧ InitI N root (k + 1) (put lf (r.i, r.j) r.p) (if r.p = 0 then put sp (r.i, r.j) 0 else sp) := by
  have hnk : (r.i, r.j) ∉ keys lf := fun h => by
    obtain ⟨c, hc⟩ := key_get h
    obtain ⟨m, r', h1, h2, h3, _⟩ := (I.gl _ _).mp hc
    have hi : r'.i = r.i := congrArg Prod.fst h3
    have hj : r'.j = r.j := congrArg Prod.snd h3
    obtain ⟨q1, e1⟩ := List.getElem?_eq_some_iff.mp h2
    obtain ⟨q2, e2⟩ := List.getElem?_eq_some_iff.mp hr
    have := List.pairwise_iff_getElem.mp ok.up m k q1 q2 h1
    rw [e1, e2] at this
    unfold lex2 at this
    omega
  have hns : (r.i, r.j) ∉ keys sp := fun h => by
    obtain ⟨c, hc⟩ := key_get h
    exact hnk (get_key ((I.gs _ _).mp hc).2)
  refine ⟨hnk, hns, nd_put I.ndl, ?_, fun e c => ?_, fun e t => ?_⟩
  · split
    · exact nd_put I.nds
    · exact I.nds
  · rw [get_put]
    constructor
    · intro h
      split at h
      · next q => exact ⟨k, r, by omega, hr, q.symm, Option.some.inj h, hn⟩
      · obtain ⟨m, r', h1, h2⟩ := (I.gl _ _).mp h
        exact ⟨m, r', by omega, h2⟩
    · rintro ⟨m, r', h1, h2, h3, h4, h5⟩
      rcases Nat.lt_or_ge m k with h | h
      · have := (I.gl e c).mpr ⟨m, r', h, h2, h3, h4, h5⟩
        have ne : ¬ e = (r.i, r.j) := fun q => hnk (q ▸ get_key this)
        rw [if_neg ne]; exact this
      · have : m = k := by omega
        subst this
        rw [hr] at h2; cases h2
        rw [if_pos h3.symm, h4]
  · rw [get_put]
    by_cases e0 : e = (r.i, r.j)
    · rw [if_pos e0]
      by_cases p0 : r.p = 0
      · rw [if_pos p0, get_put, if_pos e0, p0]
        constructor
        · intro h; exact ⟨(Option.some.inj h).symm, rfl⟩
        · rintro ⟨rfl, _⟩; rfl
      · rw [if_neg p0]
        constructor
        · intro h; exact absurd (e0 ▸ get_key h) hns
        · rintro ⟨_, h⟩; exact absurd (Option.some.inj h) p0
    · rw [if_neg e0]
      have : get (if r.p = 0 then put sp (r.i, r.j) 0 else sp) e = get sp e := by
        split
        · rw [get_put, if_neg e0]
        · rfl
      rw [this]; exact I.gs e t
theorem InitI.done {N : Net} (ok : N.Ok) {root : Int} {lf sp : E2} (I : InitI N root N.rs.length lf sp) : WI N root lf sp [] := by
  have gl' : ∀ e c, get lf e = some c ↔ ∃ r ∈ N.rs, (r.i, r.j) = e ∧ r.p = c ∧ Reach N root r.i := fun e c => by
    rw [I.gl]
    constructor
    · rintro ⟨m, r, _, h1, h2⟩; exact ⟨r, List.mem_of_getElem? h1, h2⟩
    · rintro ⟨r, h1, h2⟩
      obtain ⟨m, hm, em⟩ := List.getElem_of_mem h1
      exact ⟨m, r, hm, by rw [List.getElem?_eq_getElem hm, em], h2⟩
  refine ⟨I.ndl, I.nds, fun i j => ⟨fun h => ?_, ?_⟩, fun r hr hx => ?_, fun e c h => ?_, fun e => ⟨fun h => ?_, fun h => ?_⟩, fun e t h => ?_, fun w hw => by simp at hw, fun k w i j t hk => by simp at hk, fun k w hk => by simp at hk⟩
  · obtain ⟨c, hc⟩ := key_get h
    obtain ⟨r, h1, h2, h3, h4⟩ := (gl' _ _).mp hc
    have hi : r.i = i := congrArg Prod.fst h2
    exact ⟨r, h1, hi, congrArg Prod.snd h2, hi ▸ h4⟩
  · rintro ⟨r, h1, rfl, rfl, h4⟩
    exact get_key ((gl' _ _).mpr ⟨r, h1, rfl, rfl, h4⟩)
  · rw [(gl' _ _).mpr ⟨r, hr, rfl, rfl, hx⟩]; simp [load]
  · obtain ⟨r, h1, _, rfl, _⟩ := (gl' _ _).mp h
    exact (ok.rs r h1).p0
  · obtain ⟨t, ht⟩ := key_get h
    exact ((I.gs _ _).mp ht).2
  · exact get_key ((I.gs e 0).mpr ⟨rfl, h⟩)
  · have := ((I.gs _ _).mp h).1
    simp; omega
end HK

/-! part HKG -/
/-! The walks of everywhere.py: the class. -/
namespace HK
open PySem PySem.Spec PyProof.Rows L2 Evl
open C8 (Cal Met Mak pe_c pe_mk pe_mt pe_mt0 pe_gc fnScope_by)
set_option hygiene false in
local macro_rules | `(tactic| walk_at "len") => `(tactic| (intro vs H Q E h; first
  | (obtain ⟨rfl, _⟩ := h; rfl)
  | (obtain ⟨_, rfl, _⟩ := h; rfl)
  | (obtain ⟨_, _, rfl, _⟩ := h; rfl)
  | (obtain ⟨_, _, _, rfl, _⟩ := h; rfl)
  | (obtain ⟨_, _, _, _, rfl, _⟩ := h; rfl)
  | (obtain ⟨_, _, _, _, _, rfl, _⟩ := h; rfl)
  | (obtain ⟨_, _, _, _, _, _, rfl, _⟩ := h; rfl)
  | (obtain ⟨_, _, _, _, _, _, _, rfl, _⟩ := h; rfl)
  | (obtain ⟨_, _, _, _, _, _, _, _, rfl, _⟩ := h; rfl)
  | (obtain ⟨_, _, _, _, _, _, _, _, _, rfl, _⟩ := h; rfl)
  | (obtain ⟨_, _, _, _, _, _, _, _, _, _, rfl, _⟩ := h; rfl)
  | (obtain ⟨_, _, _, _, _, _, _, _, _, _, _, rfl, _⟩ := h; rfl)
  | (obtain ⟨_, _, _, _, _, _, _, _, _, _, _, _, rfl, _⟩ := h; rfl)
  | (obtain ⟨_, _, _, _, _, _, _, _, _, _, _, _, _, rfl, _⟩ := h; rfl)
  | (obtain ⟨_, _, _, _, _, _, _, _, _, _, _, _, _, _, rfl, _⟩ := h; rfl)
  | (obtain ⟨_, _, _, _, _, _, _, _, _, _, _, _, _, _, _, rfl, _⟩ := h; rfl)
  | (obtain ⟨_, _, _, _, _, _, _, _, _, _, _, _, _, _, _, _, rfl, _⟩ := h; rfl)
  | (obtain ⟨_, _, _, _, _, _, _, _, _, _, _, _, _, _, _, _, _, rfl, _⟩ := h; rfl)
  | (obtain ⟨_, _, _, _, _, _, _, _, _, _, _, _, _, _, _, _, _, _, rfl, _⟩ := h; rfl)
  | (obtain ⟨_, _, _, _, _, _, _, _, _, _, _, _, _, _, _, _, _, _, _, rfl, _⟩ := h; rfl)
  | (obtain ⟨_, _, _, _, _, _, _, _, _, _, _, _, _, _, _, _, _, _, _, _, rfl, _⟩ := h; rfl)
  | (obtain ⟨_, _, _, _, _, _, _, _, _, _, _, _, _, _, _, _, _, _, _, _, _, rfl, _⟩ := h; rfl)
  | (obtain ⟨_, _, _, _, _, _, _, _, _, _, _, _, _, _, _, _, _, _, _, _, _, _, rfl, _⟩ := h; rfl)
  | (obtain ⟨_, _, _, _, _, _, _, _, _, _, _, _, _, _, _, _, _, _, _, _, _, _, _, rfl, _⟩ := h; rfl)
  | (obtain ⟨_, _, _, _, _, _, _, _, _, _, _, _, _, _, _, _, _, _, _, _, _, _, _, _, rfl, _⟩ := h; rfl)
  | (obtain ⟨_, _, _, _, _, _, _, _, _, _, _, _, _, _, _, _, _, _, _, _, _, _, _, _, _, rfl, _⟩ := h; rfl)))

/-! ### fields -/
theorem n1 : ¬ (("root" : Str) = "reached") := by decide +kernel
theorem n2 : ¬ (("root" : Str) = "left") := by decide +kernel
theorem n3 : ¬ (("root" : Str) = "spent") := by decide +kernel
theorem n4 : ¬ (("root" : Str) = "weights") := by decide +kernel
theorem n5 : ¬ (("reached" : Str) = "left") := by decide +kernel
theorem n6 : ¬ (("reached" : Str) = "spent") := by decide +kernel
theorem n7 : ¬ (("reached" : Str) = "weights") := by decide +kernel
theorem n8 : ¬ (("left" : Str) = "spent") := by decide +kernel
theorem n9 : ¬ (("left" : Str) = "weights") := by decide +kernel
theorem n10 : ¬ (("spent" : Str) = "weights") := by decide +kernel
def fsW (root : Int) (ra la sa wa : Addr) : List (Str × V) := putF "weights" (.ref wa) (putF "spent" (.ref sa) (putF "left" (.ref la) (putF "reached" (.ref ra) (putF "root" (.int root) []))))
section
variable {root : Int} {ra la sa wa : Addr}
theorem fs_root : (fsW root ra la sa wa).lookup ("root" : Str) = some (.int root) := by
  unfold fsW; rw [lookup_putF, if_neg n4, lookup_putF, if_neg n3, lookup_putF, if_neg n2, lookup_putF, if_neg n1, lookup_putF, if_pos rfl]
theorem fs_reached : (fsW root ra la sa wa).lookup ("reached" : Str) = some (.ref ra) := by
  unfold fsW; rw [lookup_putF, if_neg n7, lookup_putF, if_neg n6, lookup_putF, if_neg n5, lookup_putF, if_pos rfl]
theorem fs_left : (fsW root ra la sa wa).lookup ("left" : Str) = some (.ref la) := by
  unfold fsW; rw [lookup_putF, if_neg n9, lookup_putF, if_neg n8, lookup_putF, if_pos rfl]
theorem fs_spent : (fsW root ra la sa wa).lookup ("spent" : Str) = some (.ref sa) := by
  unfold fsW; rw [lookup_putF, if_neg n10, lookup_putF, if_pos rfl]
theorem fs_weights : (fsW root ra la sa wa).lookup ("weights" : Str) = some (.ref wa) := by
  unfold fsW; rw [lookup_putF, if_pos rfl]
theorem fs_no {m : Str} (h1 : ¬ m = "root") (h2 : ¬ m = "reached") (h3 : ¬ m = "left") (h4 : ¬ m = "spent") (h5 : ¬ m = "weights") : (fsW root ra la sa wa).lookup m = none := by
  unfold fsW; rw [lookup_putF, if_neg h5, lookup_putF, if_neg h4, lookup_putF, if_neg h3, lookup_putF, if_neg h2, lookup_putF, if_neg h1]; rfl
end
theorem putF_len (f : Str) (v : V) (fs : List (Str × V)) (n : Nat) (h : fs.length ≤ n) : (putF f v fs).length ≤ n + 1 := Nat.le_trans (length_putF f v fs) (by omega)
structure WTxt (K : PySem.W.Frag) (C : Addr) : Prop where
  cl : Cls K C
  n_root : NoAttr K C "root"
  n_reached : NoAttr K C "reached"
  n_left : NoAttr K C "left"
  n_spent : NoAttr K C "spent"
  n_weights : NoAttr K C "weights"
/-- a Weighing at o -/
structure WAt (C : Addr) (H : Hp) (o : Addr) (root : Int) (ra la sa wa : Addr) (rc : List Int) (lf sp : E2) (nw : Nat) : Prop where
  ob : ∃ dx, H o = some (.ins C dx (fsW root ra la sa wa))
  rc : H ra = some (.lst (rc.map V.int))
  lf : H la = some (.dT (dE lf))
  sp : H sa = some (.dT (dE sp))
  ws : ∃ xs, H wa = some (.lst xs) ∧ xs.length = nw
  ls : la ≠ sa
  rw : ra ≠ wa
section
variable {C o ra la sa wa : Addr} {H H' : Hp} {root : Int} {rc : List Int} {lf sp : E2} {nw : Nat}
theorem WAt.mono (h : WAt C H o root ra la sa wa rc lf sp nw) (e : Ex H H') : WAt C H' o root ra la sa wa rc lf sp nw := by
  obtain ⟨dx, h1⟩ := h.ob
  obtain ⟨xs, h2, h3⟩ := h.ws
  exact ⟨⟨dx, e _ _ h1⟩, e _ _ h.rc, e _ _ h.lf, e _ _ h.sp, ⟨xs, e _ _ h2, h3⟩, h.ls, h.rw⟩
variable {K : PySem.W.Frag} {σ : L2.St} {ta : TE}
theorem WAt.ev_root (h : WAt C H o root ra la sa wa rc lf sp nw) (T : WTxt K C) (ho : Ev ta σ H (.ref o)) : Ev (tFld K ta "root") σ H (.int root) := by
  obtain ⟨dx, h1⟩ := h.ob; exact ev_fld ho h1 T.cl T.n_root fs_root
theorem WAt.ev_reached (h : WAt C H o root ra la sa wa rc lf sp nw) (T : WTxt K C) (ho : Ev ta σ H (.ref o)) : Ev (tFld K ta "reached") σ H (.ref ra) := by
  obtain ⟨dx, h1⟩ := h.ob; exact ev_fld ho h1 T.cl T.n_reached fs_reached
theorem WAt.ev_left (h : WAt C H o root ra la sa wa rc lf sp nw) (T : WTxt K C) (ho : Ev ta σ H (.ref o)) : Ev (tFld K ta "left") σ H (.ref la) := by
  obtain ⟨dx, h1⟩ := h.ob; exact ev_fld ho h1 T.cl T.n_left fs_left
theorem WAt.ev_spent (h : WAt C H o root ra la sa wa rc lf sp nw) (T : WTxt K C) (ho : Ev ta σ H (.ref o)) : Ev (tFld K ta "spent") σ H (.ref sa) := by
  obtain ⟨dx, h1⟩ := h.ob; exact ev_fld ho h1 T.cl T.n_spent fs_spent
theorem WAt.ev_weights (h : WAt C H o root ra la sa wa rc lf sp nw) (T : WTxt K C) (ho : Ev ta σ H (.ref o)) : Ev (tFld K ta "weights") σ H (.ref wa) := by
  obtain ⟨dx, h1⟩ := h.ob; exact ev_fld ho h1 T.cl T.n_weights fs_weights
end
theorem dE_at {l : E2} {i : Nat} {k : List Key} {v : V} (h : (dE l)[i]? = some (k, v)) : ∃ e c, l[i]? = some (e, c) ∧ k = k2 e ∧ v = .int c := by
  unfold dE at h
  rw [List.getElem?_map] at h
  cases hl : l[i]? with
  | none => rw [hl] at h; cases h
  | some x => rw [hl] at h; cases h; exact ⟨x.1, x.2, rfl, rfl, rfl⟩
section
variable {P : Program} {w : World} {K : PySem.W.Frag} {mg : Str → Option Value} {base : Heap} {C : Addr}

/-! ### behind_of -/
def spBehind (C : Addr) : Sp := fun vs H Q _ => ∃ (o : Addr) (p : Int) (root : Int) (ra la sa wa : Addr) (rc : List Int) (lf sp : E2) (nw : Nat), vs = [.ref o, .int p] ∧ WAt C H o root ra la sa wa rc lf sp nw ∧ (∀ i j, (i, j) ∈ keys sp → 0 ≤ i ∧ i < 12) ∧ 0 ≤ p ∧ p < 12 ∧
  RetP (fun v H2 => ∃ q l, v = .ref q ∧ H q = none ∧ H2 q = some (.lst (l.map V.int)) ∧ Behind sp p l) H Q
abbrev s_W_behind_of : Stmt := inClass (top 26) 1
abbrev N_W_behind_of : List Str := ["self", "place", "found", "at", "i", "j"]
theorem sc_W_behind_of : FnScope N_W_behind_of ["self", "place"] (defScope s_W_behind_of) := fnScope_by (by decide +kernel)
structure BeI (sp : E2) (p : Int) (l : List Int) : Prop where
  nd : l.Nodup
  me : p ∈ l
  rg : ∀ x ∈ l, 0 ≤ x ∧ x < 12
  mi : ∀ P : Int → Prop, (∀ i j, (i, j) ∈ keys sp → P j → P i) → P p → ∀ x ∈ l, P x
theorem BeI.snoc {sp : E2} {p : Int} {l : List Int} (B : BeI sp p l) (hsp : ∀ i j, (i, j) ∈ keys sp → 0 ≤ i ∧ i < 12) {i j : Int} (hk : (i, j) ∈ keys sp) (hj : j ∈ l) (hi : i ∉ l) : BeI sp p (l ++ [i]) :=
  ⟨nd_snoc B.nd hi, List.mem_append_left _ B.me, fun x hx => by
    rcases List.mem_append.mp hx with h | h
    · exact B.rg x h
    · rw [List.mem_singleton.mp h]; exact hsp i j hk, fun P hP hp x hx => by
    rcases List.mem_append.mp hx with h | h
    · exact B.mi P hP hp x h
    · rw [List.mem_singleton.mp h]; exact hP i j hk (B.mi P hP hp j hj)⟩
theorem BeI.len {sp : E2} {p : Int} {l : List Int} (B : BeI sp p l) : l.length ≤ 12 := by
  have := len_range B.nd B.rg
  omega
theorem ok_behind_of (F : MetAt K C "behind_of" "Weighing.behind_of" s_W_behind_of ["self", "place"]) (T : Txt K mg) (W : WTxt K C) : Met P w K mg base 1 C "behind_of" (spBehind C) [] := by
  refine F.met sc_W_behind_of (by walk_at "len") (fun f cdv A outer s H vs Q E hr h => ?_)
  obtain ⟨o, p, root, ra, la, sa, wa, rc, lf, sp, nw, rfl, hW, hsp, p0, p1, k⟩ := h
  have nd := sc_W_behind_of.nd
  refine ⟨_, (pss_cons (ps_set (i := 2) nd rfl (Or.inl rfl) (pe_lst (pa_cons (pv 1) pa_nil)))
      (pss_cons (ps_set (i := 3) nd rfl (Or.inl rfl) pe_int)
      (pss_cons (ps_while PassesOwn.never (pt_cmpR op_lt (pv 3) (pe_callB (lenS (K := K) rfl) (by rfl) T.g_len PySem.boot_len (pa_cons (pv 2) pa_nil)) (nomark _)) (pss_cons (ps_lock (ps_for PassesOwn.never rfl (pi_keys (fldK (K := K) rfl (pv 0) rfl)) (pg_tupK (K := K) rfl rfl (pgs_cons (pg_name (i := 4) nd rfl (Or.inl rfl)) (pgs_cons (pg_name (i := 5) nd rfl (Or.inl rfl)) pgs_nil))) (pss_one (ps_if (PW.pt (pw_and (pt_cmpR op_eq (pv 5) (pe_ix (ixL (K := K) rfl) (pv 2) (pv 3) (fun _ _ => rfl)) (nomark _)) (pw_and1 (pt_cmpR (ninS (K := K) rfl) (pv 4) (pv 2) rfl)))) (pss_one (ps_expr (pe_bm PySem.F.plainAttrs_list PySem.F.slot_list_append PySem.F.type_list_append mt_append (pv 2) (pa_cons (pv 4) pa_nil)))) pss_nil))))
      (pss_one (ps_set (i := 3) nd rfl (Or.inl rfl) (pe_op op_add (pv 3) pe_int)))))
      (pss_one (ps_ret (pv 2)))))), ?_⟩
  refine q_asgW (o := .lst ([p].map V.int)) (el_lst (ea_cons (ev_var rfl) ea_nil) (by show 1 ≤ 100000; decide)) fun q H1 q0 e1 hq1 => ?_
  refine q_asg ev_c fun H2 e2 => ?_
  have sq : sa ≠ q := ne_of_none hW.sp q0
  refine q_whileW (fun m σ H' => ∃ (l : List Int) (n : Nat) (x4 x5 : Option V), m = 12 - n ∧ n ≤ l.length ∧ σ = [some (.ref o), some (.int p), some (.ref q), some (.int (n : Int)), x4, x5] ∧ Ex H H' ∧ H' q = some (.lst (l.map V.int)) ∧
    BeI sp p l ∧ ∀ m' i j, m' < n → (i, j) ∈ keys sp → l[m']? = some j → i ∈ l) _ ⟨[p], 0, none, none, rfl, Nat.zero_le _, rfl, e1.trans e2, e2 _ _ hq1, ⟨by simp, by simp, fun x hx => by simp at hx; omega, fun P hP hp x hx => by simp at hx; rw [hx]; exact hp⟩, fun m' i j hm => absurd hm (Nat.not_lt_zero _)⟩ ?_
  rintro m σ H3 ⟨l, n, x4, x5, rfl, hn, rfl, e3, hq, B, hdone⟩
  refine ⟨_, et_test (ev_op (ev_var rfl) (ev_lenL (ev_var rfl) hq) rv_I0), fun hb H4 e4 => ?_, fun hb H4 e4 => ?_⟩
  · have hlt : n < l.length := by simpa using hb
    have W4 := hW.mono (e3.trans e4)
    have hq4 := e4 _ _ hq
    have l12 := B.len
    refine q_forKTW W4.sp (fun od => (fun H5 e5 Q q => by
      obtain ⟨dx, h1⟩ := W4.ob
      have h1' : (upd H4 sa (HO.frz od (.dT (dE sp)))) o = some (.ins C dx (fsW root ra la sa wa)) := by rw [upd_ne (ne_of h1 W4.sp (fun z => nomatch z))]; exact h1
      exact ev_fld (ev_var rfl) h1' W.cl W.n_spent fs_spent H5 e5 Q q)) (fun od t σ' H' => ∃ (l' : List Int) (x4 x5 : Option V), σ' = [some (.ref o), some (.int p), some (.ref q), some (.int (n : Int)), x4, x5] ∧ Ex (upd H sa (.frz od (.dT (dE sp)))) H' ∧ H' q = some (.lst (l'.map V.int)) ∧
        BeI sp p l' ∧ l <+: l' ∧ ∀ (t' : Nat) i j c, t' < t → sp[t']? = some ((i, j), c) → l[n]? = some j → i ∈ l')
      (fun od H5 e5 => ⟨l, x4, x5, rfl, (lock_ex (e3.trans e4)).trans e5, e5 _ _ (by rw [upd_ne sq.symm]; exact hq4), B, List.prefix_refl l, fun t' i j c ht => absurd ht (Nat.not_lt_zero _)⟩)
      (fun od t σ' H' _ p => by obtain ⟨_, _, _, _, e, _⟩ := p; exact e _ _ upd_same) ?_ ?_
    · rintro od t kk v q2 σ' H5 hk hq2 ⟨l', x4, x5, rfl, e5, hq5, B5, hpre, hdn⟩
      obtain ⟨⟨i, j⟩, c, hsp1, rfl, rfl⟩ := dE_at hk
      have hkey : (i, j) ∈ keys sp := List.mem_map.mpr ⟨_, List.mem_of_getElem? hsp1, rfl⟩
      refine g2 hq2 ?_
      show (tIfS _ _ _ : TS) _ ([some (.ref o), some (.int p), some (.ref q), some (.int (n : Int)), some (.int i), some (.int j)] : L2.St) H5
      obtain ⟨tl, rfl⟩ := hpre
      have hln : l[n]? = some l[n] := List.getElem?_eq_getElem hlt
      have hln' : ((l ++ tl).map V.int)[n]? = some (.int l[n]) := by rw [List.getElem?_map, List.getElem?_append_left hlt, hln]; rfl
      refine s_when (et_and (et_test (ev_op (ev_var rfl) (ev_ixL (ev_var rfl) (ev_var rfl) hq5 (atI_nat hln')) (rv_eq rfl))) fun _ => et_test (ev_ninLI (ev_var rfl) (ev_var rfl) hq5)) (fun hb2 H6 e6 => ?_) (fun hb2 H6 e6 => ?_)
      · have hb3 : j = l[n] ∧ i ∉ l ++ tl := by simpa using hb2
        have B6 := B5.snoc hsp hkey (by rw [hb3.1]; exact List.mem_append_left _ (List.getElem_mem hlt)) hb3.2
        refine s_app (e6 _ _ hq5) (ev_var rfl) (ev_var rfl) (by have := B5.len; rw [List.length_map]; omega) fun H7 e7 => ?_
        refine ⟨l ++ tl ++ [i], _, _, rfl, Ex.mut ((e5.trans e6).trans e7) (by rw [upd_ne sq.symm]; exact q0), by rw [upd_same]; simp, B6, ⟨tl ++ [i], by simp⟩, fun t' i' j' c' ht hs hj => ?_⟩
        rcases Nat.lt_or_ge t' t with h | h
        · exact List.mem_append_left _ (hdn t' i' j' c' h hs hj)
        · have : t' = t := by omega
          subst this
          rw [hsp1] at hs; cases hs
          simp
      · refine ⟨l ++ tl, _, _, rfl, e5.trans e6, e6 _ _ hq5, B5, ⟨tl, rfl⟩, fun t' i' j' c' ht hs hj => ?_⟩
        rcases Nat.lt_or_ge t' t with h | h
        · exact hdn t' i' j' c' h hs hj
        · have : t' = t := by omega
          subst this
          rw [hsp1] at hs; cases hs
          have : j = l[n] := by rw [hln] at hj; exact (Option.some.inj hj).symm
          simp [this] at hb2
          exact List.mem_append.mpr (Decidable.or_iff_not_imp_left.mpr hb2)
    · rintro od σ' H5 ⟨l', x4, x5, rfl, e5, hq5, B5, hpre, hdn⟩
      have eb := lock_back hW.sp e5
      refine s_asg (ev_op (ev_var rfl) ev_c rv_I0) fun H6 e6 => ?_
      obtain ⟨tl, rfl⟩ := hpre
      refine ⟨12 - (n + 1), by omega, l ++ tl, n + 1, x4, x5, rfl, by rw [List.length_append]; omega, ?_, eb.trans e6, e6 _ _ (by rw [upd_ne sq.symm]; exact hq5), B5, fun m' i j hm hk hj => ?_⟩
      · rfl
      · rw [List.getElem?_append_left (by omega)] at hj
        rcases Nat.lt_or_ge m' n with h | h
        · exact List.mem_append_left _ (hdone m' i j h hk hj)
        · have : m' = n := by omega
          subst this
          obtain ⟨x, hx, ex⟩ := List.mem_map.mp hk
          obtain ⟨t', ht, et⟩ := List.getElem_of_mem hx
          exact hdn t' i j x.2 (by rw [dE_len]; exact ht) (by rw [List.getElem?_eq_getElem ht, et, ← ex]) hj
  · have hge : ¬ n < l.length := by simpa using hb
    refine s_ret (ev_var rfl) fun H5 e5 => k _ H5 ((e3.trans e4).trans e5) ⟨q, l, rfl, q0, e5 _ _ (e4 _ _ hq), B.nd, B.me, fun i j hk hj => ?_, B.mi⟩
    obtain ⟨m', hm, em⟩ := List.getElem_of_mem hj
    exact hdone m' i j (by omega) hk (by rw [List.getElem?_eq_getElem hm, em])

/-! ### bare_places -/
def spBare (C : Addr) : Sp := fun vs H Q _ => ∃ (o : Addr) (root : Int) (ra la sa wa : Addr) (rc : List Int) (lf sp : E2) (nw : Nat), vs = [.ref o] ∧ WAt C H o root ra la sa wa rc lf sp nw ∧ (∀ i j, (i, j) ∈ keys sp → 0 ≤ i ∧ i < 12) ∧ (∀ x ∈ rc, 0 ≤ x ∧ x < 12) ∧
  RetP (fun v H2 => (v = .non ∧ ∀ q ∈ rc, ∃ sm, Behind sp q sm ∧ root ∈ sm) ∨ ∃ b best p, v = .ref b ∧ H b = none ∧ H2 b = some (.lst (best.map V.int)) ∧ p ∈ rc ∧ Behind sp p best ∧ root ∉ best ∧ ∀ q ∈ rc, ∃ sm, Behind sp q sm ∧ (root ∈ sm ∨ best.length ≤ sm.length)) H Q
abbrev s_W_bare_places : Stmt := inClass (top 26) 2
abbrev N_W_bare_places : List Str := ["self", "best", "place", "some"]
theorem sc_W_bare_places : FnScope N_W_bare_places ["self"] (defScope s_W_bare_places) := fnScope_by (by decide +kernel)
/-- the fewest so far -/
def BareI (H0 : Hp) (root : Int) (sp : E2) (rc : List Int) (v : V) (H : Hp) : Prop := (v = .non ∧ ∀ q ∈ rc, ∃ sm, Behind sp q sm ∧ root ∈ sm) ∨ ∃ b best p, v = .ref b ∧ H0 b = none ∧ H b = some (.lst (best.map V.int)) ∧ p ∈ rc ∧ Behind sp p best ∧ root ∉ best ∧ ∀ q ∈ rc, ∃ sm, Behind sp q sm ∧ (root ∈ sm ∨ best.length ≤ sm.length)
theorem BareI.mono {H0 : Hp} {root : Int} {sp : E2} {rc : List Int} {v : V} {H H' : Hp} (e : Ex H H') (h : BareI H0 root sp rc v H) : BareI H0 root sp rc v H' := by
  rcases h with h | ⟨b, best, p, h1, h0, h2, h3⟩
  · exact .inl h
  · exact .inr ⟨b, best, p, h1, h0, e _ _ h2, h3⟩
theorem take_succ_mem {rc : List Int} {i : Nat} {x y : Int} (h : rc[i]? = some x) (hy : y ∈ rc.take (i + 1)) : y ∈ rc.take i ∨ y = x := by
  rw [List.take_succ, h] at hy
  simpa using hy
theorem ok_bare_places (F : MetAt K C "bare_places" "Weighing.bare_places" s_W_bare_places ["self"]) (T : Txt K mg) (W : WTxt K C) (m_behind_of : Met P w K mg base 1 C "behind_of" (spBehind C) []) : Met P w K mg base 2 C "bare_places" (spBare C) [] := by
  refine F.met sc_W_bare_places (by walk_at "len") (fun f cdv A outer s H vs Q E hr h => ?_)
  obtain ⟨o, root, ra, la, sa, wa, rc, lf, sp, nw, rfl, hW, hsp, hrc, k⟩ := h
  have nd := sc_W_bare_places.nd
  refine ⟨_, (pss_cons (ps_set (i := 1) nd rfl (Or.inl rfl) pe_non)
      (pss_cons (ps_for PassesOwn.never rfl (pi_lstK (K := K) rfl (fldK (K := K) rfl (pv 0) rfl)) (pg_name (i := 2) nd rfl (Or.inl rfl)) (pss_cons (ps_set (i := 3) nd rfl (Or.inl rfl) (pe_mt m_behind_of hr (by decide) (pv 0) (pa_cons (pv 2) pa_nil)))
      (pss_one (ps_if (PW.pt (pw_and (pt_cmpR (ninS (K := K) rfl) (fldK (K := K) rfl (pv 0) rfl) (pv 3) rfl) (pw_and1 (PW.pt (pw_or (pt_cmp (pc_isN (pv 1))) (pw_or1 (pt_cmpR op_lt (pe_callB (lenS (K := K) rfl) (by rfl) T.g_len PySem.boot_len (pa_cons (pv 3) pa_nil)) (pe_callB (lenS (K := K) rfl) (by rfl) T.g_len PySem.boot_len (pa_cons (pv 1) pa_nil)) (nomark _)))))))) (pss_one (ps_set (i := 1) nd rfl (Or.inl rfl) (pv 3))) pss_nil))))
      (pss_one (ps_ret (pv 1))))), ?_⟩
  refine q_asg ev_c fun H1 e1 => ?_
  have W1 := hW.mono e1
  refine q_forLW (W1.ev_reached W (ev_var rfl)) W1.rc (fun i σ H' => ∃ (v : V) (x2 x3 : Option V), σ = [some (.ref o), some v, x2, x3] ∧ Ex H H' ∧ BareI H root sp (rc.take i) v H') (fun H2 e2 => ⟨.non, none, none, rfl, e1.trans e2, .inl ⟨rfl, fun q hq => by simp at hq⟩⟩)
    (fun i σ H' _ p => by obtain ⟨_, _, _, _, e, _⟩ := p; exact e _ _ hW.rc) ?_ ?_
  · rintro i x σ H2 hx ⟨v, x2, x3, rfl, e2, I⟩
    rw [List.getElem?_map] at hx
    cases hi : rc[i]? with
    | none => rw [hi] at hx; cases hx
    | some y =>
    rw [hi] at hx
    obtain rfl : V.int y = x := Option.some.inj hx
    have hy := hrc y (List.mem_of_getElem? hi)
    show (tSeq _ _ : TS) _ ([some (.ref o), some v, some (.int y), x3] : L2.St) H2
    have hm : EvP (tMeth C "behind_of" (spBehind C) [] E0 (tVar 0) (tCons (tVar 2) tNil)) ([some (.ref o), some v, some (.int y), x3] : L2.St) H2 (fun v H3 => ∃ q l, v = .ref q ∧ H2 q = none ∧ H3 q = some (.lst (l.map V.int)) ∧ Behind sp y l) := fun H3 e3 Q q => by
      have W3 := hW.mono (e2.trans e3)
      obtain ⟨dx, h1⟩ := W3.ob
      exact ⟨_, rfl, o, dx, _, rfl, h1, fs_no (by decide +kernel) (by decide +kernel) (by decide +kernel) (by decide +kernel) (by decide +kernel), _, rfl, o, y, root, ra, la, sa, wa, rc, lf, sp, nw, rfl, W3, hsp, hy.1, hy.2, fun v H4 e4 ⟨q', l, h1, h2, h3⟩ => q v H4 e4 ⟨q', l, h1, fresh_back e3 h2, h3⟩⟩
    refine q_asgP hm fun v2 H3 e3 r3 => ?_
    obtain ⟨b, l, rfl, hb0, hb, B⟩ := r3
    have hb00 := fresh_back e2 hb0
    have W3 := hW.mono (e2.trans e3)
    have I3 := I.mono e3
    show (tIfS _ _ _ : TS) _ ([some (.ref o), some v, some (.int y), some (.ref b)] : L2.St) H3
    have hlen : ∃ n : Int, (v ≠ .non → Ev (tCB (rLenS K) (tCons (tVar 1) tNil)) ([some (.ref o), some v, some (.int y), some (.ref b)] : L2.St) H3 (.int n)) ∧ (∀ (b : Addr) (best : List Int), v = .ref b → H3 b = some (.lst (best.map V.int)) → n = best.length) := by
      rcases I3 with ⟨rfl, _⟩ | ⟨b', best, p, rfl, h0, h2, _⟩
      · exact ⟨0, fun z => absurd rfl z, fun _ _ z => nomatch z⟩
      · refine ⟨best.length, fun _ => ?_, fun b'' best' hb'' h2' => ?_⟩
        · have := ev_lenL (K := K) (ta := tVar 1) (σ := ([some (.ref o), some (.ref b'), some (.int y), some (.ref b)] : L2.St)) (ev_var rfl) h2
          rw [List.length_map] at this; exact this
        · cases hb''
          rw [h2] at h2'
          have := congrArg List.length (HO.lst.inj (Option.some.inj h2'))
          simp at this; omega
    obtain ⟨n, hn1, hn2⟩ := hlen
    refine s_when (et_and (b := decide (v = .non) || decide ((l.length : Int) < n)) (et_test (ev_ninLI (W3.ev_root W (ev_var rfl)) (ev_var rfl) hb)) fun _ => et_or (et_B (ev_isN (ev_var rfl))) fun hv => et_test (ev_op (ev_is (ev_lenL (ev_var rfl) hb) (by rw [List.length_map])) (hn1 (by simpa using hv)) rv_I0)) (fun q H4 e4 => ?_) (fun q H4 e4 => ?_)
    · have hroot : root ∉ l := by have := (Bool.and_eq_true_iff.mp q).1; simpa using this
      have q2 := (Bool.and_eq_true_iff.mp q).2
      refine s_asg (ev_var rfl) fun H5 e5 => ?_
      refine ⟨.ref b, _, _, rfl, ((e2.trans e3).trans e4).trans e5, .inr ⟨b, l, y, rfl, hb00, e5 _ _ (e4 _ _ hb), ?_, B, hroot, fun z hz => ?_⟩⟩
      · rw [List.take_succ, hi]; simp
      · rcases take_succ_mem hi hz with hz | rfl
        · rcases I3 with ⟨rfl, h⟩ | ⟨b', best, p, rfl, h0, h2, h3, h4, h5, h6⟩
          · obtain ⟨sm, s1, s2⟩ := h z hz; exact ⟨sm, s1, .inl s2⟩
          · have hn3 := hn2 b' best rfl h2
            have hlt : (l.length : Int) < n := by simpa using q2
            obtain ⟨sm, s1, s2⟩ := h6 z hz
            refine ⟨sm, s1, s2.imp id fun s2 => ?_⟩
            omega
        · exact ⟨l, B, .inr (Nat.le_refl _)⟩
    · refine ⟨v, _, _, rfl, (e2.trans e3).trans e4, ?_⟩
      rcases I3 with ⟨rfl, h⟩ | ⟨b', best, p, rfl, h0, h2, h3, h4, h5, h6⟩
      · refine .inl ⟨rfl, fun z hz => ?_⟩
        rcases take_succ_mem hi hz with hz | rfl
        · exact h z hz
        · refine ⟨l, B, ?_⟩
          simpa using q
      · refine .inr ⟨b', best, p, rfl, h0, e4 _ _ h2, ?_, h4, h5, fun z hz => ?_⟩
        · rw [List.take_succ]; exact List.mem_append_left _ h3
        · rcases take_succ_mem hi hz with hz | rfl
          · exact h6 z hz
          · refine ⟨l, B, ?_⟩
            have hn3 := hn2 b' best rfl h2
            by_cases hr : root ∈ l
            · exact .inl hr
            · right
              simp [hr] at q
              omega
  · rintro σ H2 ⟨v, x2, x3, rfl, e2, I⟩
    rw [List.length_map, List.take_length] at I
    exact s_ret (ev_var rfl) fun H3 e3 => k _ H3 (e2.trans e3) (I.mono e3)
theorem evp_bare {σ : L2.St} {H : Hp} {i : Nat} {o : Addr} {root : Int} {ra la sa wa : Addr} {rc : List Int} {lf sp : E2} {nw : Nat} (hi : σ[i]? = some (some (.ref o))) (hW : WAt C H o root ra la sa wa rc lf sp nw) (hsp : ∀ i j, (i, j) ∈ keys sp → 0 ≤ i ∧ i < 12) (hrc : ∀ x ∈ rc, 0 ≤ x ∧ x < 12) :
    EvP (tMeth C "bare_places" (spBare C) [] E0 (tVar i) tNil) σ H (BareI H root sp rc) := fun H3 e3 Q q => by
  have W3 := hW.mono e3
  obtain ⟨dx, h1⟩ := W3.ob
  exact ⟨_, hi, o, dx, _, rfl, h1, fs_no (by decide +kernel) (by decide +kernel) (by decide +kernel) (by decide +kernel) (by decide +kernel), o, root, ra, la, sa, wa, rc, lf, sp, nw, rfl, W3, hsp, hrc, fun v H4 e4 r => q v H4 e4 (r.imp id fun ⟨b, best, p, h1, h2, h3⟩ => ⟨b, best, p, h1, fresh_back e3 h2, h3⟩)⟩

/-! ### roads_into -/
structure TupsAt {α : Type} (enc : α → List V) (H : Hp) (as : List Addr) (xs : List α) : Prop where
  len : as.length = xs.length
  at_ : ∀ (k : Nat) (b : Addr) (x : α), as[k]? = some b → xs[k]? = some x → H b = some (.tup (enc x))
theorem TupsAt.mono {α : Type} {enc : α → List V} {H H' : Hp} {as : List Addr} {xs : List α} (e : TEx H H') (h : TupsAt enc H as xs) : TupsAt enc H' as xs := ⟨h.len, fun k b x ha hx => e b _ (h.at_ k b x ha hx)⟩
theorem TupsAt.nil {α : Type} {enc : α → List V} {H : Hp} : TupsAt enc H [] [] := ⟨rfl, fun k b x ha => by simp at ha⟩
theorem TupsAt.snoc {α : Type} {enc : α → List V} {H : Hp} {as : List Addr} {xs : List α} (h : TupsAt enc H as xs) {b : Addr} {x : α} (hb : H b = some (.tup (enc x))) : TupsAt enc H (as ++ [b]) (xs ++ [x]) := by
  refine ⟨by rw [List.length_append, List.length_append, h.len]; rfl, fun k c y ha hx => ?_⟩
  rcases Nat.lt_or_ge k as.length with q | q
  · rw [List.getElem?_append_left q] at ha
    rw [List.getElem?_append_left (by rw [← h.len]; exact q)] at hx
    exact h.at_ k c y ha hx
  · rw [List.getElem?_append_right q] at ha
    rw [List.getElem?_append_right (by rw [← h.len]; exact q)] at hx
    have : k - as.length = 0 := by
      apply Classical.byContradiction
      intro z
      rw [List.getElem?_eq_none (by simp; omega)] at ha; cases ha
    rw [this] at ha
    rw [← h.len, this] at hx
    cases ha; cases hx; exact hb
theorem TupsAt.get {α : Type} {enc : α → List V} {H : Hp} {as : List Addr} {xs : List α} (h : TupsAt enc H as xs) {k : Nat} {v : V} (hv : (as.map V.ref)[k]? = some v) : ∃ b x, v = .ref b ∧ as[k]? = some b ∧ xs[k]? = some x ∧ H b = some (.tup (enc x)) := by
  rw [List.getElem?_map] at hv
  cases ha : as[k]? with
  | none => rw [ha] at hv; cases hv
  | some b =>
    rw [ha] at hv
    have hk2 : k < xs.length := h.len ▸ (List.getElem?_eq_some_iff.mp ha).1
    exact ⟨b, xs[k], (Option.some.inj hv).symm, rfl, List.getElem?_eq_getElem hk2, h.at_ k b _ ha (List.getElem?_eq_getElem hk2)⟩
def into (lf : E2) (S : List Int) : List (Int × Int) := (keys lf).filter fun e => ent S e.1 e.2
def spInto (C : Addr) : Sp := fun vs H Q _ => ∃ (o b : Addr) (S : List Int) (root : Int) (ra la sa wa : Addr) (rc : List Int) (lf sp : E2) (nw : Nat), vs = [.ref o, .ref b] ∧ WAt C H o root ra la sa wa rc lf sp nw ∧ H b = some (.lst (S.map V.int)) ∧ lf.length ≤ 1000 ∧
  RetP (fun v H2 => ∃ q as, v = .ref q ∧ H q = none ∧ H2 q = some (.lst (as.map V.ref)) ∧ TupsAt e2V H2 as (into lf S)) H Q
abbrev s_W_roads_into : Stmt := inClass (top 26) 3
abbrev N_W_roads_into : List Str := ["self", "some", "i", "j"]
theorem sc_W_roads_into : FnScope N_W_roads_into ["self", "some"] (defScope s_W_roads_into) := fnScope_by (by decide +kernel)
theorem keys_getD {lf : E2} {i : Nat} {e : Int × Int} {c : Int} (h : lf[i]? = some (e, c)) : (keys lf).getD i (0, 0) = e ∧ (keys lf)[i]? = some e := by
  have : (keys lf)[i]? = some e := by unfold keys; rw [List.getElem?_map, h]; rfl
  exact ⟨by rw [List.getD_eq_getElem?_getD, this]; rfl, this⟩
theorem ok_roads_into (F : MetAt K C "roads_into" "Weighing.roads_into" s_W_roads_into ["self", "some"]) (T : Txt K mg) (W : WTxt K C) : Met P w K mg base 1 C "roads_into" (spInto C) [] := by
  refine F.met sc_W_roads_into (by walk_at "len") (fun f cdv A outer s H vs Q E hr h => ?_)
  obtain ⟨o, b, S, root, ra, la, sa, wa, rc, lf, sp, nw, rfl, hW, hb, hl, k⟩ := h
  have nd := sc_W_roads_into.nd
  refine ⟨_, (pss_one (ps_ret (pe_lock (pe_lc (own := [("i", 2), ("j", 3)]) (g := (gTup K 2 (gCons (gName 2) (gCons (gName 3) gNil)))) rfl nd (pi_keys (fldK (K := K) rfl (pv 0) rfl)) (blkOk_by (own := [("i", 2), ("j", 3)]) (N := N_W_roads_into) (sc := defScope s_W_roads_into) (by decide +kernel)) (fun _ _ _ _ _ => (pg_tupK (K := K) rfl rfl (pgs_cons (pg_name (i := 2) nd rfl (Or.inl rfl)) (pgs_cons (pg_name (i := 3) nd rfl (Or.inl rfl)) pgs_nil)))) (fun _ _ _ _ _ => (pts_one (PW.pt (pw_and (pt_cmpR (inS (K := K) rfl) (pv 3) (pv 1) rfl) (pw_and1 (pt_cmpR (ninS (K := K) rfl) (pv 2) (pv 1) rfl)))))) (fun _ _ _ _ _ => (pe_tup (pa_cons (pv 2) (pa_cons (pv 3) pa_nil)))))))), ?_⟩
  have key : EvN _ ([some (.ref o), some (.ref b), none, none] : L2.St) H (dE lf).length _ := lcKT (σ := ([some (.ref o), some (.ref b), none, none] : L2.St)) (tl := tFld K (tVar 0) "left") (g := gTup K 2 (gCons (gName 2) (gCons (gName 3) gNil))) (t := tAnd (tTest (tOp (rIn K false) (tVar 3) (tVar 1))) (tTest (tOp (rIn K true) (tVar 2) (tVar 1)))) (te := tTup (tCons (tVar 2) (tCons (tVar 3) tNil))) (vs := [2, 3]) hW.lf (by rw [dE_len]; omega)
    (fun i => ent S ((keys lf).getD i (0, 0)).1 ((keys lf).getD i (0, 0)).2) (fun i => [some (.ref o), some (.ref b), some (.int ((keys lf).getD i (0, 0)).1), some (.int ((keys lf).getD i (0, 0)).2)])
    (fun i acc H => ∃ as, acc = as.map V.ref ∧ TupsAt e2V H as (((keys lf).take i).filter fun e => ent S e.1 e.2)) (fun od H1 e1 H2 e2 Q q => by
      have W1 := hW.mono e1
      obtain ⟨dx, h1⟩ := W1.ob
      have h1' : (upd H1 la (HO.frz od (.dT (dE lf)))) o = some (.ins C dx (fsW root ra la sa wa)) := by rw [upd_ne (ne_of h1 W1.lf (fun z => nomatch z))]; exact h1
      exact ev_fld (ev_var rfl) h1' W.cl W.n_left fs_left H2 e2 Q q)
    (fun od H1 e1 => ⟨fun i x H2 hi e2 hx Q q => ?_, fun i hi => rfl, ?_⟩)
  · refine s_retP (key.p) fun v H1 e1 r => k v H1 e1 ?_
    obtain ⟨q, acc, rfl, hq, h2, _, as, rfl, ht⟩ := r
    refine ⟨q, as, rfl, hq, h2, ?_⟩
    have : (keys lf).take (dE lf).length = keys lf := by rw [dE_len]; exact List.take_of_length_le (by simp [keys])
    rw [this] at ht; exact ht
  · obtain ⟨k, v, q', hk, rfl, hq'⟩ := hx
    obtain ⟨e, c, he, rfl, rfl⟩ := dE_at hk
    have q2 : Q ([some (.ref o), some (.ref b), some (.int ((keys lf).getD i (0, 0)).1), some (.int ((keys lf).getD i (0, 0)).2)] : L2.St) H2 := q
    rw [(keys_getD he).1] at q2
    exact g2 hq' q2
  · have hb1 : (upd H1 la (HO.frz od (.dT (dE lf)))) b = some (.lst (S.map V.int)) := by rw [upd_ne (ne_of hb hW.lf (fun z => nomatch z))]; exact e1 _ _ hb
    refine ⟨fun i acc H2 H3 e r => ?_, fun H2 e => ⟨[], rfl, TupsAt.nil⟩, fun i H2 hi e => ?_, fun i acc H2 hi e hf r => ?_, fun i acc H2 hi e hf r => ?_⟩
    · obtain ⟨as, h1, h2⟩ := r; exact ⟨as, h1, h2.mono e⟩
    · exact et_and (et_test (ev_inLI (ev_var rfl) (ev_var rfl) (e _ _ hb1))) fun _ => et_test (ev_ninLI (ev_var rfl) (ev_var rfl) (e _ _ hb1))
    · obtain ⟨as, rfl, h2⟩ := r
      refine fun H3 e3 Q q => eu_tup (ea_cons (ev_var rfl) (ea_cons (ev_var rfl) ea_nil)) (by show 2 ≤ 100000; decide) H3 e3 Q fun p H4 hp e4 h4 => q _ H4 e4 ?_
      rw [dE_len] at hi
      obtain ⟨e', c, he'⟩ : ∃ e' c, lf[i]? = some (e', c) := ⟨lf[i].1, lf[i].2, List.getElem?_eq_getElem hi⟩
      obtain ⟨g1, g2'⟩ := keys_getD he'
      refine ⟨as ++ [p], by simp, ?_⟩
      rw [List.take_succ, g2', List.filter_append]
      rw [g1] at hf h4
      have : List.filter (fun e => ent S e.1 e.2) [e'] = [e'] := by simp [hf]
      rw [Option.toList_some, this]
      exact (h2.mono (tex (e3.trans e4))).snoc h4
    · obtain ⟨as, rfl, h2⟩ := r
      rw [dE_len] at hi
      obtain ⟨e', c, he'⟩ : ∃ e' c, lf[i]? = some (e', c) := ⟨lf[i].1, lf[i].2, List.getElem?_eq_getElem hi⟩
      obtain ⟨g1, g2'⟩ := keys_getD he'
      refine ⟨as, rfl, ?_⟩
      rw [List.take_succ, g2', List.filter_append]
      rw [g1] at hf
      have : List.filter (fun e => ent S e.1 e.2) [e'] = [] := by simp [hf]
      rw [Option.toList_some, this, List.append_nil]; exact h2

/-! ### weigh -/
theorem WAt.setL {o ra la sa wa : Addr} {H : Hp} {root : Int} {rc : List Int} {lf lf' sp : E2} {nw : Nat} (h : WAt C H o root ra la sa wa rc lf sp nw) : WAt C (upd H la (.dT (dE lf'))) o root ra la sa wa rc lf' sp nw := by
  obtain ⟨dx, h1⟩ := h.ob
  obtain ⟨xs, h2, h3⟩ := h.ws
  exact ⟨⟨dx, by rw [upd_ne (ne_of h1 h.lf (fun z => nomatch z))]; exact h1⟩, by rw [upd_ne (ne_of h.rc h.lf (fun z => nomatch z))]; exact h.rc, upd_same, by rw [upd_ne h.ls.symm]; exact h.sp, ⟨xs, by rw [upd_ne (ne_of h2 h.lf (fun z => nomatch z))]; exact h2, h3⟩, h.ls, h.rw⟩
theorem WAt.setS {o ra la sa wa : Addr} {H : Hp} {root : Int} {rc : List Int} {lf sp sp' : E2} {nw : Nat} (h : WAt C H o root ra la sa wa rc lf sp nw) : WAt C (upd H sa (.dT (dE sp'))) o root ra la sa wa rc lf sp' nw := by
  obtain ⟨dx, h1⟩ := h.ob
  obtain ⟨xs, h2, h3⟩ := h.ws
  exact ⟨⟨dx, by rw [upd_ne (ne_of h1 h.sp (fun z => nomatch z))]; exact h1⟩, by rw [upd_ne (ne_of h.rc h.sp (fun z => nomatch z))]; exact h.rc, by rw [upd_ne h.ls]; exact h.lf, upd_same, ⟨xs, by rw [upd_ne (ne_of h2 h.sp (fun z => nomatch z))]; exact h2, h3⟩, h.ls, h.rw⟩
theorem WAt.setW {o ra la sa wa : Addr} {H : Hp} {root : Int} {rc : List Int} {lf sp : E2} {nw n : Nat} {xs : List V} (h : WAt C H o root ra la sa wa rc lf sp nw) (hx : xs.length = n) : WAt C (upd H wa (.lst xs)) o root ra la sa wa rc lf sp n := by
  obtain ⟨dx, h1⟩ := h.ob
  obtain ⟨ys, h2, h3⟩ := h.ws
  exact ⟨⟨dx, by rw [upd_ne (ne_of h1 h2 (fun z => nomatch z))]; exact h1⟩, by rw [upd_ne h.rw]; exact h.rc, by rw [upd_ne (ne_of h.lf h2 (fun z => nomatch z))]; exact h.lf, by rw [upd_ne (ne_of h.sp h2 (fun z => nomatch z))]; exact h.sp, ⟨xs, upd_same, hx⟩, h.ls, h.rw⟩
theorem WI.lf_len {N : Net} {root : Int} {lf sp : E2} {ws : Wt} (W : WI N root lf sp ws) (ok : N.Ok) : lf.length ≤ 144 := by
  have ss : keys lf ⊆ N.rs.map fun r => (r.i, r.j) := fun x hx => by
    obtain ⟨r, hr, h1, h2, _⟩ := (W.lk x.1 x.2).mp hx
    exact List.mem_map.mpr ⟨r, hr, by rw [h1, h2]⟩
  have := List.Nodup.length_le_of_subset W.ndl ss
  have := few_roads ok
  simp [keys] at *
  omega
/-- the value of an evaluation thrown away -/
theorem s_appP {σ : L2.St} {H : Hp} {ta te : TE} {D : Ends} {R : V → Hp → Prop} {l : Addr} {xs : List V} (hl : H l = some (.lst xs)) (ha : Ev ta σ H (.ref l)) (h : EvP te σ H R) (hz : xs.length < 100000) (k : ∀ v H1, Ex H H1 → R v H1 → D.nx σ (upd H1 l (.lst (xs ++ [v])))) :
    tDrop (tBM K "list" rAppend ta (tCons te tNil)) D σ H := ha H (Ex.refl H) _ fun H1 e1 =>
  ⟨Or.inl ⟨rfl, xs, sq_of (e1 l _ hl)⟩, h H1 e1 _ fun v H2 e2 r => ⟨l, xs, v, rfl, rfl, e2 l _ (e1 l _ hl), sz_lt hz, k v H2 (e1.trans e2) r⟩⟩
theorem q_appP {σ : L2.St} {H : Hp} {ta te : TE} {tz : TS} {D : Ends} {R : V → Hp → Prop} {l : Addr} {xs : List V} (hl : H l = some (.lst xs)) (ha : Ev ta σ H (.ref l)) (h : EvP te σ H R) (hz : xs.length < 100000) (k : ∀ v H1, Ex H H1 → R v H1 → tz D σ (upd H1 l (.lst (xs ++ [v])))) :
    tSeq (tDrop (tBM K "list" rAppend ta (tCons te tNil))) tz D σ H := s_appP (D := { D with nx := tz D }) hl ha h hz k
theorem evp_min {σ : L2.St} {H : Hp} {ta : TE} {ns : List Int} (ha : EvL ta σ H (ns.map V.int)) (h0 : 0 < ns.length) : EvP (tCB (rMin K) (tCons ta tNil)) σ H (fun v _ => ∃ m, v = .int m ∧ m ∈ ns ∧ ∀ y ∈ ns, m ≤ y) := fun H1 e Q q =>
  ha H1 e _ fun p H2 _ e2 h => ⟨p, ns, rfl, sq_of h, h0, fun m hm hle => q _ H2 e2 ⟨m, rfl, hm, hle⟩⟩
def spWeigh (C : Addr) : Sp := fun vs H Q _ => ∃ (o b : Addr) (S : List Int) (root : Int) (ra la sa wa : Addr) (rc : List Int) (lf sp : E2) (N : Net) (ws : Wt), vs = [.ref o, .ref b] ∧ WAt C H o root ra la sa wa rc lf sp ws.length ∧ H b = some (.lst (S.map V.int)) ∧ b ≠ wa ∧ N.Ok ∧ WI N root lf sp ws ∧ S.length ≤ 12 ∧
  S ≠ [] ∧ root ∉ S ∧ (∀ x ∈ S, Reach N root x) ∧ (∀ i j, (i, j) ∈ keys sp → j ∈ S → i ∈ S) ∧ (∀ A : Int → Prop, (∃ v ∈ S, A v) → (∃ u ∈ S, ¬ A u) → ∃ i j, (i, j) ∈ keys sp ∧ i ∈ S ∧ j ∈ S ∧ A i ∧ ¬ A j) ∧ ws.length ≤ 1000 ∧
  ∀ H' lf' sp' ws', ExB [la, sa, wa] H H' → WAt C H' o root ra la sa wa rc lf' sp' ws'.length → WI N root lf' sp' ws' → sp.length < sp'.length → lf'.length = lf.length → ws'.length = ws.length + 1 → Q .non H'
abbrev s_W_weigh : Stmt := inClass (top 26) 4
abbrev N_W_weigh : List Str := ["self", "some", "roads", "least", "road"]
theorem sc_W_weigh : FnScope N_W_weigh ["self", "some"] (defScope s_W_weigh) := fnScope_by (by decide +kernel)
theorem ok_weigh (F : MetAt K C "weigh" "Weighing.weigh" s_W_weigh ["self", "some"]) (T : Txt K mg) (W : WTxt K C) (m_roads_into : Met P w K mg base 1 C "roads_into" (spInto C) []) : Met P w K mg base 2 C "weigh" (spWeigh C) [] := by
  refine F.met sc_W_weigh (by walk_at "len") (fun f cdv A outer s H vs Q E hr h => ?_)
  obtain ⟨o, b, S, root, ra, la, sa, wa, rc, lf, sp, N, ws, rfl, hW, hb, hbw, ok, I, hS12, hne, hrt, hre, hcl, hcut, hwl, k⟩ := h
  have nd := sc_W_weigh.nd
  refine ⟨_, (pss_cons (ps_set (i := 2) nd rfl (Or.inl rfl) (pe_mt m_roads_into hr (by decide) (pv 0) (pa_cons (pv 1) pa_nil)))
      (pss_cons (ps_set (i := 3) nd rfl (Or.inl rfl) (pe_callB (minK (K := K) rfl rfl) (by rfl) T.g_min (by decide +kernel) (pa_cons (pe_lc (own := [("road", 4)]) (g := (gName 4)) rfl nd (pi_lstK (K := K) rfl (pv 2)) (blkOk_by (own := [("road", 4)]) (N := N_W_weigh) (sc := defScope s_W_weigh) (by decide +kernel)) (fun _ _ _ _ _ => (pg_name (i := 4) nd rfl (Or.inl rfl))) (fun _ _ _ _ _ => pts_nil) (fun _ _ _ _ _ => (pe_dget (hu_of hr) (fldK (K := K) rfl (pv 0) rfl) (pv 4) (fun _ _ => rfl)))) pa_nil)))
      (pss_cons (ps_expr (pe_bm PySem.F.plainAttrs_list PySem.F.slot_list_append PySem.F.type_list_append mt_append (fldK (K := K) rfl (pv 0) rfl) (pa_cons (pe_tup (pa_cons (pe_callTy (tupK (K := K) rfl) (by rfl) T.g_tuple (by decide +kernel) (pa_cons (pe_callB (sortedK (K := K) rfl) (by rfl) T.g_sorted (by decide +kernel) (pa_cons (pv 1) pa_nil)) pa_nil)) (pa_cons (pv 3) pa_nil))) pa_nil)))
      (pss_one (ps_for PassesOwn.never rfl (pi_lstK (K := K) rfl (pv 2)) (pg_name (i := 4) nd rfl (Or.inl rfl)) (pss_cons (ps_dput (hu_of hr) (fldK (K := K) rfl (pv 0) rfl) (pv 4) (pe_op op_sub (pe_dget (hu_of hr) (fldK (K := K) rfl (pv 0) rfl) (pv 4) (fun _ _ => rfl)) (pv 3)) rfl)
      (pss_one (ps_if (pt_cmpR op_eq (pe_dget (hu_of hr) (fldK (K := K) rfl (pv 0) rfl) (pv 4) (fun _ _ => rfl)) pe_int (nomark _)) (pss_one (ps_dput (hu_of hr) (fldK (K := K) rfl (pv 0) rfl) (pv 4) (pe_callB (lenS (K := K) rfl) (by rfl) T.g_len PySem.boot_len (pa_cons (fldK (K := K) rfl (pv 0) rfl) pa_nil)) rfl)) pss_nil)))))))), ?_⟩
  have l144 := I.lf_len ok
  have hm : EvP (tMeth C "roads_into" (spInto C) [] E0 (tVar 0) (tCons (tVar 1) tNil)) ([some (.ref o), some (.ref b), none, none, none] : L2.St) H (fun v H2 => ∃ q as, v = .ref q ∧ H q = none ∧ H2 q = some (.lst (as.map V.ref)) ∧ TupsAt e2V H2 as (into lf S)) := fun H3 e3 Q q => by
    have W3 := hW.mono e3
    obtain ⟨dx, h1⟩ := W3.ob
    refine ⟨_, rfl, o, dx, _, rfl, h1, fs_no (by decide +kernel) (by decide +kernel) (by decide +kernel) (by decide +kernel) (by decide +kernel), _, rfl, o, b, S, root, ra, la, sa, wa, rc, lf, sp, ws.length, rfl, W3, e3 _ _ hb, by omega, fun v H4 e4 r => ?_⟩
    obtain ⟨q', as, h1, h2, h3⟩ := r
    exact q v H4 e4 ⟨q', as, h1, fresh_back e3 h2, h3⟩
  refine q_asgP hm fun v H1 e1 r => ?_
  obtain ⟨q, as, rfl, q0, hq, hT⟩ := r
  have W1 := hW.mono e1
  have rdm : ∀ e, e ∈ into lf S ↔ e ∈ keys lf ∧ ent S e.1 e.2 = true := fun e => List.mem_filter
  have rnd : (into lf S).Nodup := List.Pairwise.filter _ I.ndl
  have rne : 0 < (into lf S).length := by
    obtain ⟨x, hx⟩ := List.exists_mem_of_ne_nil _ hne
    obtain ⟨r, hr, h1, h2, h3⟩ := some_in hrt x (hre x hx) hx
    have : (r.i, r.j) ∈ into lf S := (rdm _).mpr ⟨get_key (I.lv r hr h1), by simp [ent, h2, h3]⟩
    exact List.length_pos_of_mem this
  have rlen : (into lf S).length ≤ 144 := Nat.le_trans (List.length_filter_le _ _) (by simp [keys]; omega)
  have ral : (as.map V.ref).length = (into lf S).length := by rw [List.length_map, hT.len]
  refine q_asgP (evp_min (ns := (into lf S).map fun e => (get lf e).getD 0) (EvN.l (lcL (ev_var rfl) hq (by omega) (fun _ => true) _ _ sets_name (fun i hi => rfl)
    (step_vals (fun i => .int ((get lf ((into lf S).getD i (0, 0))).getD 0)) (fun i H3 hi e => et_yes) fun i H2 hi e _ => ?_)) fun acc _ r => ?_) (by rw [List.length_map]; exact rne)) fun v H2 e2 r => ?_
  · have hx : (as.map V.ref)[i]? = some (as.map V.ref)[i] := List.getElem?_eq_getElem hi
    obtain ⟨b', e', p1, p2, p3, p4⟩ := hT.get hx
    rw [p1] at hx
    have g0 : (into lf S).getD i (0, 0) = e' := by rw [List.getD_eq_getElem?_getD, p3]; rfl
    obtain ⟨c, hc⟩ := key_get ((rdm e').mp (List.mem_of_getElem? p3)).1
    rw [g0, hc]
    have W2 := W1.mono e
    exact ev_dgetE (W2.ev_left W (ev_var rfl)) (ev_var (congrArg some hx)) (.inl W2.lf) (e _ _ p4) hc
  · rw [r, given_all]
    apply List.ext_getElem?
    intro i
    rw [List.getElem?_map, List.getElem?_map, List.getElem?_map]
    by_cases hi : i < (into lf S).length
    · rw [List.getElem?_range (by omega), List.getElem?_eq_getElem hi]
      simp [List.getD_eq_getElem?_getD, List.getElem?_eq_getElem hi]
    · rw [List.getElem?_eq_none (by rw [List.length_range]; omega), List.getElem?_eq_none (Nat.le_of_not_lt hi)]; rfl
  obtain ⟨least, rfl, hmem, hmin⟩ := r
  have W2 := W1.mono e2
  obtain ⟨xs, hx1, hx2⟩ := W2.ws
  have hb2 := e2 _ _ (e1 _ _ hb)
  have elt : EvP (tTup (tCons (tCB (rTupOf K) (tCons (tCB (rSorted K) (tCons (tVar 1) tNil)) tNil)) (tCons (tVar 3) tNil))) ([some (.ref o), some (.ref b), some (.ref q), some (.int least), none] : L2.St) H2 (fun _ _ => True) := fun H3 e3 Q q => by
    refine ⟨_, rfl, b, S, rfl, sq_of (e3 _ _ hb2), by omega, fun ns' p _ _ hp => ?_⟩
    refine ⟨p, ns'.map V.int, rfl, .inl ⟨sq_of upd_same, fun t ht => ?_⟩⟩
    refine ⟨_, rfl, (by show 2 ≤ 16777216; decide), fun p2 hp2 => ?_⟩
    exact q _ _ (((Ex.new hp).trans (Ex.new ht)).trans (Ex.new hp2)) trivial
  refine q_appP hx1 (W2.ev_weights W (ev_var rfl)) elt (by omega) fun y H3 e3 _ => ?_
  have W3 : WAt C (upd H3 wa (.lst (xs ++ [y]))) o root ra la sa wa rc lf sp (ws.length + 1) := (W2.mono e3).setW (by rw [List.length_append, hx2]; rfl)
  have qw : q ≠ wa := fun z => by
    obtain ⟨ys, h2, _⟩ := hW.ws
    rw [z, h2] at q0; cases q0
  have hq3 : (upd H3 wa (.lst (xs ++ [y]))) q = some (.lst (as.map V.ref)) := by rw [upd_ne qw]; exact e3 _ _ (e2 _ _ hq)
  have T3 : TEx H1 (upd H3 wa (.lst (xs ++ [y]))) := (tex (e2.trans e3)).trans (tex_upd (e3 _ _ hx1) fun xs z => nomatch z)
  have B3 : ExB [la, sa, wa] H (upd H3 wa (.lst (xs ++ [y]))) := (ExB.of ((e1.trans e2).trans e3)).trans (ExB.upd (by simp))
  have ql : q ≠ la := fun z => by rw [z, hW.lf] at q0; cases q0
  have qs : q ≠ sa := fun z => by rw [z, hW.sp] at q0; cases q0
  refine s_forLW (ev_var rfl) hq3 (fun i σ H' => ∃ (lf' sp' : E2) (x4 : Option V), σ = [some (.ref o), some (.ref b), some (.ref q), some (.int least), x4] ∧ ExB [la, sa, wa] H H' ∧ WAt C H' o root ra la sa wa rc lf' sp' (ws.length + 1) ∧ H' q = some (.lst (as.map V.ref)) ∧ TupsAt e2V H' as (into lf S) ∧
    PWg lf sp least (ws.length + 1) ((into lf S).take i) lf' sp') (fun H4 e4 => ⟨lf, sp, none, rfl, B3.trans (ExB.of e4), W3.mono e4, e4 _ _ hq3, (hT.mono T3).mono (tex e4), PWg.start I.nds _ _⟩)
    (fun i σ H' _ p => by obtain ⟨_, _, _, _, _, _, h, _⟩ := p; exact h) ?_ ?_
  · rintro i x σ H4 hx ⟨lf', sp', x4, rfl, B4, W4, hq4, hT4, PW⟩
    obtain ⟨b', e', rfl, p2, p3, p4⟩ := hT4.get hx
    show (tSeq _ _ : TS) _ ([some (.ref o), some (.ref b), some (.ref q), some (.int least), some (.ref b')] : L2.St) H4
    have he' := (rdm e').mp (List.mem_of_getElem? p3)
    obtain ⟨c, hc⟩ := key_get he'.1
    have hnot : e' ∉ (into lf S).take i := fun hm => by
      obtain ⟨m, hm1, hm2⟩ := List.getElem_of_mem hm
      rw [List.length_take] at hm1
      rw [List.getElem_take] at hm2
      have := nd_ix rnd (List.getElem?_eq_getElem (by omega) : (into lf S)[m]? = _) (by rw [p3, hm2])
      omega
    obtain ⟨hget, PW'⟩ := PW.step hnot hc
    have htake : (into lf S).take i ++ [e'] = (into lf S).take (i + 1) := by rw [List.take_succ, p3]; rfl
    rw [htake] at PW'
    have lfl : ∀ l : E2, keys l = keys lf → l.length = lf.length := fun l h => by have := congrArg List.length h; simpa [keys] using this
    have spl : ∀ l s', PWg lf sp least (ws.length + 1) ((into lf S).take (i + 1)) l s' → s'.length ≤ 144 := fun l s' h => Nat.le_trans (h.sp_len I (fun e he => ((rdm e).mp (List.mem_of_mem_take he)).1)) l144
    have spl0 : sp'.length ≤ 144 := Nat.le_trans (PW.sp_len I (fun e he => ((rdm e).mp (List.mem_of_mem_take he)).1)) l144
    refine q_dputE (e := e') (v := c - least) (ev_op (ev_dgetE (W4.ev_left W (ev_var rfl)) (ev_var rfl) (.inl W4.lf) p4 hget) (ev_var rfl) rv_I0) (W4.ev_left W (ev_var rfl)) (ev_var rfl) p4 W4.lf (by rw [lfl _ PW.kl]; omega) fun H5 e5 => ?_
    have W5 : WAt C (upd H5 la (.dT (dE (put lf' e' (c - least))))) o root ra la sa wa rc (put lf' e' (c - least)) sp' (ws.length + 1) := (W4.mono e5).setL
    have T5 : TEx H4 (upd H5 la (.dT (dE (put lf' e' (c - least))))) := (tex e5).trans (tex_upd (e5 _ _ W4.lf) fun xs z => nomatch z)
    have B5 := (B4.trans (ExB.of e5)).trans (ExB.upd (o := .dT (dE (put lf' e' (c - least)))) (a := la) (by simp))
    have hq5 : (upd H5 la (.dT (dE (put lf' e' (c - least))))) q = some (.lst (as.map V.ref)) := by rw [upd_ne ql]; exact e5 _ _ hq4
    have hg5 : get (put lf' e' (c - least)) e' = some (c - least) := by rw [get_put, if_pos rfl]
    refine s_when (et_test (ev_op (ev_dgetE (W5.ev_left W (ev_var rfl)) (ev_var rfl) (.inl W5.lf) (T5 _ _ p4) hg5) ev_c (rv_eq rfl))) (fun hz H6 e6 => ?_) (fun hz H6 e6 => ?_)
    · have hz' : c - least = 0 := by simpa using hz
      rw [if_pos hz'] at PW'
      have W6 := W5.mono e6
      obtain ⟨ys, hy1, hy2⟩ := W6.ws
      refine s_dputE (e := e') (v := (ws.length : Int) + 1) (ev_is (ev_lenL (W6.ev_weights W (ev_var rfl)) hy1) (by rw [hy2]; rfl)) (W6.ev_spent W (ev_var rfl)) (ev_var rfl) (e6 _ _ (T5 _ _ p4)) W6.sp (by omega) fun H7 e7 => ?_
      have T7 := (T5.trans (tex (e6.trans e7))).trans (tex_upd (o := .dT (dE (put sp' e' ((ws.length : Int) + 1)))) (e7 _ _ W6.sp) fun xs z => nomatch z)
      exact ⟨_, _, _, rfl, (B5.trans (ExB.of (e6.trans e7))).trans (ExB.upd (by simp)), (W6.mono e7).setS, by rw [upd_ne qs]; exact e7 _ _ (e6 _ _ hq5), hT4.mono T7, PW'⟩
    · have hz' : ¬ c - least = 0 := by simpa using hz
      rw [if_neg hz'] at PW'
      exact ⟨_, _, _, rfl, B5.trans (ExB.of e6), W5.mono e6, e6 _ _ hq5, hT4.mono (T5.trans (tex e6)), PW'⟩
  · rintro σ H4 ⟨lf', sp', x4, rfl, B4, W4, hq4, hT4, PW⟩
    rw [ral, List.take_length] at PW
    have hl : ∀ e ∈ into lf S, ∀ c, get lf e = some c → least ≤ c := fun e he c hc => by
      have := hmin ((get lf e).getD 0) (List.mem_map.mpr ⟨e, he, rfl⟩)
      rw [hc] at this; exact this
    obtain ⟨em, hem, hem2⟩ := List.mem_map.mp hmem
    obtain ⟨c, hc⟩ := key_get ((rdm em).mp hem).1
    have hcl' : c = least := by rw [hc] at hem2; exact hem2
    have hl0 : 0 ≤ least := by rw [← hcl']; exact I.l0 em c hc
    have hun : ∀ e ∈ into lf S, e ∉ keys sp := fun e he hs => by
      have := ((rdm e).mp he).2
      simp only [ent, Bool.and_eq_true, decide_eq_true_eq, Bool.not_eq_true', decide_eq_false_iff_not] at this
      exact this.2 (hcl e.1 e.2 hs this.1)
    have I' := I.weigh ok hne hrt hre hcl hcut rdm hl hl0 PW
    have hlen : (ws ++ [(S, least)]).length = ws.length + 1 := by simp
    exact k H4 lf' sp' (ws ++ [(S, least)]) B4 (by rw [hlen]; exact W4) I' (PW.more I hun hem (by rw [hc, hcl'])) (by have := congrArg List.length PW.kl; simpa [keys] using this) hlen
end
end HK

/-! part HKI -/
/-! The walks of everywhere.py: the rest. -/
namespace HK
open PySem PySem.Spec PyProof.Rows L2 Evl
open C8 (Cal Met Mak pe_c pe_mk pe_mt pe_mt0 pe_gc fnScope_by)
set_option hygiene false in
local macro_rules | `(tactic| walk_at "len") => `(tactic| (intro vs H Q E h; first
  | (obtain ⟨rfl, _⟩ := h; rfl)
  | (obtain ⟨_, rfl, _⟩ := h; rfl)
  | (obtain ⟨_, _, rfl, _⟩ := h; rfl)
  | (obtain ⟨_, _, _, rfl, _⟩ := h; rfl)
  | (obtain ⟨_, _, _, _, rfl, _⟩ := h; rfl)
  | (obtain ⟨_, _, _, _, _, rfl, _⟩ := h; rfl)
  | (obtain ⟨_, _, _, _, _, _, rfl, _⟩ := h; rfl)
  | (obtain ⟨_, _, _, _, _, _, _, rfl, _⟩ := h; rfl)
  | (obtain ⟨_, _, _, _, _, _, _, _, rfl, _⟩ := h; rfl)
  | (obtain ⟨_, _, _, _, _, _, _, _, _, rfl, _⟩ := h; rfl)
  | (obtain ⟨_, _, _, _, _, _, _, _, _, _, rfl, _⟩ := h; rfl)
  | (obtain ⟨_, _, _, _, _, _, _, _, _, _, _, rfl, _⟩ := h; rfl)
  | (obtain ⟨_, _, _, _, _, _, _, _, _, _, _, _, rfl, _⟩ := h; rfl)
  | (obtain ⟨_, _, _, _, _, _, _, _, _, _, _, _, _, rfl, _⟩ := h; rfl)
  | (obtain ⟨_, _, _, _, _, _, _, _, _, _, _, _, _, _, rfl, _⟩ := h; rfl)
  | (obtain ⟨_, _, _, _, _, _, _, _, _, _, _, _, _, _, _, rfl, _⟩ := h; rfl)
  | (obtain ⟨_, _, _, _, _, _, _, _, _, _, _, _, _, _, _, _, rfl, _⟩ := h; rfl)
  | (obtain ⟨_, _, _, _, _, _, _, _, _, _, _, _, _, _, _, _, _, rfl, _⟩ := h; rfl)
  | (obtain ⟨_, _, _, _, _, _, _, _, _, _, _, _, _, _, _, _, _, _, rfl, _⟩ := h; rfl)
  | (obtain ⟨_, _, _, _, _, _, _, _, _, _, _, _, _, _, _, _, _, _, _, rfl, _⟩ := h; rfl)
  | (obtain ⟨_, _, _, _, _, _, _, _, _, _, _, _, _, _, _, _, _, _, _, _, rfl, _⟩ := h; rfl)
  | (obtain ⟨_, _, _, _, _, _, _, _, _, _, _, _, _, _, _, _, _, _, _, _, _, rfl, _⟩ := h; rfl)
  | (obtain ⟨_, _, _, _, _, _, _, _, _, _, _, _, _, _, _, _, _, _, _, _, _, _, rfl, _⟩ := h; rfl)
  | (obtain ⟨_, _, _, _, _, _, _, _, _, _, _, _, _, _, _, _, _, _, _, _, _, _, _, rfl, _⟩ := h; rfl)
  | (obtain ⟨_, _, _, _, _, _, _, _, _, _, _, _, _, _, _, _, _, _, _, _, _, _, _, _, rfl, _⟩ := h; rfl)
  | (obtain ⟨_, _, _, _, _, _, _, _, _, _, _, _, _, _, _, _, _, _, _, _, _, _, _, _, _, rfl, _⟩ := h; rfl)))

section
variable {P : Program} {w : World} {K : PySem.W.Frag} {mg : Str → Option Value} {base : Heap} {C : Addr}

/-! ### weigh_all -/
theorem WI.rg {N : Net} {root : Int} {lf sp : E2} {ws : Wt} (I : WI N root lf sp ws) (ok : N.Ok) (r0 : 0 ≤ root) (r1 : root < N.n) : ∀ i j, (i, j) ∈ keys sp → 0 ≤ i ∧ i < 12 := fun i j h => by
  have := reach_range ok r0 r1 (I.reach_i h)
  have := ok.n12
  omega
def spWeighAll (C : Addr) : Sp := fun vs H Q _ => ∃ (o : Addr) (root : Int) (ra la sa wa : Addr) (rc : List Int) (lf sp : E2) (N : Net) (ws : Wt), vs = [.ref o] ∧ WAt C H o root ra la sa wa rc lf sp ws.length ∧ N.Ok ∧ 0 ≤ root ∧ root < N.n ∧ WI N root lf sp ws ∧ (∀ x, x ∈ rc ↔ Reach N root x) ∧ ws = [] ∧
  ∀ H' lf' sp' ws', ExB [la, sa, wa] H H' → WAt C H' o root ra la sa wa rc lf' sp' ws'.length → WI N root lf' sp' ws' → (∀ q, Reach N root q → ∃ sm, Behind sp' q sm ∧ root ∈ sm) → Q .non H'
abbrev s_W_weigh_all : Stmt := inClass (top 26) 5
abbrev N_W_weigh_all : List Str := ["self", "some"]
theorem sc_W_weigh_all : FnScope N_W_weigh_all ["self"] (defScope s_W_weigh_all) := fnScope_by (by decide +kernel)
theorem ok_weigh_all (F : MetAt K C "weigh_all" "Weighing.weigh_all" s_W_weigh_all ["self"]) (T : Txt K mg) (W : WTxt K C) (m_bare_places : Met P w K mg base 2 C "bare_places" (spBare C) []) (m_weigh : Met P w K mg base 2 C "weigh" (spWeigh C) []) : Met P w K mg base 3 C "weigh_all" (spWeighAll C) [] := by
  refine F.met sc_W_weigh_all (by walk_at "len") (fun f cdv A outer s H vs Q E hr h => ?_)
  obtain ⟨o, root, ra, la, sa, wa, rc, lf, sp, N, ws, rfl, hW, ok, r0, r1, I, hrc, hws, k⟩ := h
  have nd := sc_W_weigh_all.nd
  refine ⟨_, (pss_cons (ps_set (i := 1) nd rfl (Or.inl rfl) (pe_mt0 m_bare_places hr (by decide) (pv 0)))
      (pss_one (ps_while PassesOwn.never (pt_cmp (pc_notN (pv 1))) (pss_cons (ps_expr (pe_mt m_weigh hr (by decide) (pv 0) (pa_cons (pv 1) pa_nil)))
      (pss_one (ps_set (i := 1) nd rfl (Or.inl rfl) (pe_mt0 m_bare_places hr (by decide) (pv 0)))))))), ?_⟩
  have rcr : ∀ x ∈ rc, 0 ≤ x ∧ x < 12 := fun x hx => by
    have := reach_range ok r0 r1 ((hrc x).mp hx)
    have := ok.n12
    omega
  refine q_asgP (evp_bare (i := 0) rfl hW (I.rg ok r0 r1) rcr) fun v H1 e1 r1' => ?_
  refine s_whileW (fun m σ H' => ∃ (lf' sp' : E2) (ws' : Wt) (v : V), m = lf.length - sp'.length ∧ σ = [some (.ref o), some v] ∧ ExB [la, sa, wa] H H' ∧ WAt C H' o root ra la sa wa rc lf' sp' ws'.length ∧ WI N root lf' sp' ws' ∧ lf'.length = lf.length ∧ ws'.length ≤ sp'.length ∧ (∃ H0, BareI H0 root sp' rc v H' ∧ ∃ o, H0 wa = some o)) _
    ⟨lf, sp, ws, v, rfl, rfl, ExB.of e1, hW.mono e1, I, rfl, by rw [hws]; exact Nat.zero_le _, H, r1', by obtain ⟨xs, h, _⟩ := hW.ws; exact ⟨_, h⟩⟩ ?_
  rintro m σ H2 ⟨lf', sp', ws', v, rfl, rfl, B2, W2, I2, hl, hle, H0, BI, ow, how⟩
  refine ⟨_, et_B (ev_notN (ev_var rfl)), fun hb H3 e3 => ?_, fun hb H3 e3 => ?_⟩
  · rcases BI with ⟨rfl, _⟩ | ⟨b, best, p, rfl, hb0, hb1, hp, BH, hroot, hmin⟩
    · simp at hb
    · have W3 := W2.mono e3
      have spl : sp'.length ≤ lf'.length := I2.sp_len
      have l144 := I2.lf_len ok
      have bre : ∀ x ∈ best, Reach N root x := BH.mi (fun x => Reach N root x) (fun i j hij _ => I2.reach_i hij) ((hrc p).mp hp)
      have bl : best.length ≤ 12 := by
        have := len_range BH.nd (fun x hx => reach_range ok r0 r1 (bre x hx))
        have := ok.n12
        omega
      obtain ⟨dx, h1⟩ := W3.ob
      refine ⟨_, rfl, o, dx, _, rfl, h1, fs_no (by decide +kernel) (by decide +kernel) (by decide +kernel) (by decide +kernel) (by decide +kernel), _, rfl, o, b, best, root, ra, la, sa, wa, rc, lf', sp', N, ws', rfl, W3, e3 _ _ hb1, (ne_of_none how hb0).symm, ok, I2, bl,
        List.ne_nil_of_mem BH.me, hroot, bre, BH.cl, cut_of BH hroot (fun q hq => hmin q ((hrc q).mpr (bre q hq))), by omega, fun H4 lf4 sp4 ws4 B4 W4 I4 hlt hl4 hws4 => ?_⟩
      have spl4 : sp4.length ≤ lf4.length := I4.sp_len
      refine s_asgP (evp_bare (i := 0) rfl W4 (I4.rg ok r0 r1) rcr) fun v H5 e5 r5 => ?_
      refine ⟨lf.length - sp4.length, by omega, lf4, sp4, ws4, v, rfl, rfl, ((B2.trans (ExB.of e3)).trans B4).trans (ExB.of e5), W4.mono e5, I4, by omega, by omega, H4, r5, by obtain ⟨xs, h, _⟩ := W4.ws; exact ⟨_, h⟩⟩
  · have hv : v = .non := by simpa using hb
    rcases BI with ⟨_, hfin⟩ | ⟨b, best, p, rfl, _⟩
    · exact k H3 lf' sp' ws' (B2.trans (ExB.of e3)) (W2.mono e3) I2 fun q hq => hfin q ((hrc q).mpr hq)
    · cases hv

/-! ### next_road -/
/-- what next_road tells -/
def NextI (H0 : Hp) (sp : E2) (th : List Int) (keysDone : List (Int × Int)) (v : V) (H : Hp) : Prop :=
  (v = .non ∧ ∀ e ∈ keysDone, e.1 ∈ th → e.2 ∈ th) ∨ ∃ b t i j, v = .ref b ∧ H0 b = none ∧ H b = some (.tup [.int t, .int i, .int j]) ∧ get sp (i, j) = some t ∧ i ∈ th ∧ j ∉ th ∧ ∀ e ∈ keysDone, ∀ t', get sp e = some t' → e.1 ∈ th → e.2 ∉ th → t ≤ t'
theorem NextI.mono {H0 : Hp} {sp : E2} {th : List Int} {kd : List (Int × Int)} {v : V} {H H' : Hp} (e : Ex H H') (h : NextI H0 sp th kd v H) : NextI H0 sp th kd v H' := by
  rcases h with h | ⟨b, t, i, j, h1, h2, h3, h4⟩
  · exact .inl h
  · exact .inr ⟨b, t, i, j, h1, h2, e _ _ h3, h4⟩
def spNext (C : Addr) : Sp := fun vs H Q _ => ∃ (o b : Addr) (th : List Int) (root : Int) (ra la sa wa : Addr) (rc : List Int) (lf sp : E2) (nw : Nat), vs = [.ref o, .ref b] ∧ WAt C H o root ra la sa wa rc lf sp nw ∧ H b = some (.lst (th.map V.int)) ∧ (keys sp).Nodup ∧
  RetP (fun v H2 => NextI H sp th (keys sp) v H2) H Q
abbrev s_W_next_road : Stmt := inClass (top 26) 6
abbrev N_W_next_road : List Str := ["self", "there", "best", "i", "j", "one"]
theorem sc_W_next_road : FnScope N_W_next_road ["self", "there"] (defScope s_W_next_road) := fnScope_by (by decide +kernel)
theorem lexLt_false {t i j t' i' j' : Int} (h : HT.lexLt [t, i, j] [t', i', j'] = false) : t' ≤ t := by
  rw [HT.lexLt_cons] at h
  by_cases e : t = t'
  · omega
  · rw [if_neg e] at h; simp at h; omega
theorem lexLt_true {t i j t' i' j' : Int} (h : HT.lexLt [t, i, j] [t', i', j'] = true) : t ≤ t' := by
  rw [HT.lexLt_cons] at h
  by_cases e : t = t'
  · omega
  · rw [if_neg e] at h; simp at h; omega
theorem ok_next_road (F : MetAt K C "next_road" "Weighing.next_road" s_W_next_road ["self", "there"]) (T : Txt K mg) (W : WTxt K C) : Met P w K mg base 1 C "next_road" (spNext C) [] := by
  refine F.met sc_W_next_road (by walk_at "len") (fun f cdv A outer s H vs Q E hr h => ?_)
  obtain ⟨o, b, th, root, ra, la, sa, wa, rc, lf, sp, nw, rfl, hW, hb, hnd, k⟩ := h
  have nd := sc_W_next_road.nd
  refine ⟨_, (pss_cons (ps_set (i := 2) nd rfl (Or.inl rfl) pe_non)
      (pss_cons (ps_lock (ps_for PassesOwn.never rfl (pi_keys (fldK (K := K) rfl (pv 0) rfl)) (pg_tupK (K := K) rfl rfl (pgs_cons (pg_name (i := 3) nd rfl (Or.inl rfl)) (pgs_cons (pg_name (i := 4) nd rfl (Or.inl rfl)) pgs_nil))) (pss_one (ps_if (PW.pt (pw_and (pt_cmpR (inS (K := K) rfl) (pv 3) (pv 1) rfl) (pw_and1 (pt_cmpR (ninS (K := K) rfl) (pv 4) (pv 1) rfl)))) (pss_cons (ps_set (i := 5) nd rfl (Or.inl rfl) (pe_tup (pa_cons (pe_dget (hu_of hr) (fldK (K := K) rfl (pv 0) rfl) (pe_tup (pa_cons (pv 3) (pa_cons (pv 4) pa_nil))) (fun _ _ => rfl)) (pa_cons (pv 3) (pa_cons (pv 4) pa_nil)))))
      (pss_one (ps_if (PW.pt (pw_or (pt_cmp (pc_isN (pv 2))) (pw_or1 (pt_cmpR (ltK (K := K) rfl hr.units0) (pv 5) (pv 2) (nomark _))))) (pss_one (ps_set (i := 2) nd rfl (Or.inl rfl) (pv 5))) pss_nil))) pss_nil))))
      (pss_one (ps_ret (pv 2))))), ?_⟩
  refine q_asg ev_c fun H1 e1 => ?_
  have W1 := hW.mono e1
  have bs : b ≠ sa := ne_of hb hW.sp (fun z => nomatch z)
  have takeS : ∀ i e c, sp[i]? = some (e, c) → (keys sp).take (i + 1) = (keys sp).take i ++ [e] := fun i e c h => by rw [List.take_succ, (keys_getD h).2]; rfl
  refine q_forKTW W1.sp (fun od => (fun H5 e5 Q q => by
      obtain ⟨dx, h1⟩ := W1.ob
      have h1' : (upd H1 sa (HO.frz od (.dT (dE sp)))) o = some (.ins C dx (fsW root ra la sa wa)) := by rw [upd_ne (ne_of h1 W1.sp (fun z => nomatch z))]; exact h1
      exact ev_fld (ev_var rfl) h1' W.cl W.n_spent fs_spent H5 e5 Q q))
    (fun od i σ H' => ∃ (v : V) (x3 x4 x5 : Option V), σ = [some (.ref o), some (.ref b), some v, x3, x4, x5] ∧ Ex (upd H sa (.frz od (.dT (dE sp)))) H' ∧ NextI H sp th ((keys sp).take i) v H')
    (fun od H2 e2 => ⟨.non, none, none, none, rfl, (lock_ex e1).trans e2, .inl ⟨rfl, fun e he => by simp at he⟩⟩) (fun od i σ H' _ p => by obtain ⟨_, _, _, _, _, e, _⟩ := p; exact e _ _ upd_same) ?_ ?_
  · rintro od n kk v0 q2 σ H2 hk hq2 ⟨v, x3, x4, x5, rfl, e2, I⟩
    obtain ⟨⟨i, j⟩, c, hsp1, rfl, rfl⟩ := dE_at hk
    refine g2 hq2 ?_
    show (tIfS _ _ _ : TS) _ ([some (.ref o), some (.ref b), some v, some (.int i), some (.int j), x5] : L2.St) H2
    have hb2 : H2 b = some (.lst (th.map V.int)) := e2 _ _ (by rw [upd_ne bs]; exact hb)
    have hc : get sp (i, j) = some c := mem_get hnd (List.mem_of_getElem? hsp1)
    refine s_when (et_and (et_test (ev_inLI (ev_var rfl) (ev_var rfl) hb2)) fun _ => et_test (ev_ninLI (ev_var rfl) (ev_var rfl) hb2)) (fun q H3 e3 => ?_) (fun q H3 e3 => ?_)
    · have q' : i ∈ th ∧ j ∉ th := by simpa using q
      have e23 := e2.trans e3
      obtain ⟨dx, h1⟩ := hW.ob
      have h3 : H3 o = some (.ins C dx (fsW root ra la sa wa)) := e23 _ _ (by rw [upd_ne (ne_of h1 hW.sp (fun z => nomatch z))]; exact h1)
      have s3 : Rd H3 sa (.dT (dE sp)) := .inr ⟨od, e23 _ _ upd_same⟩
      refine q_asgW (o := .tup [.int c, .int i, .int j]) (eu_tup (ea_cons (ev_dgetU (l := sp) (e := (i, j)) (ev_fld (ev_var rfl) h3 W.cl W.n_spent fs_spent) (eu_tup (ea_cons (ev_var rfl) (ea_cons (ev_var rfl) ea_nil)) (by show 2 ≤ 100000; decide)) s3 hc) (ea_cons (ev_var rfl) (ea_cons (ev_var rfl) ea_nil))) (by show 3 ≤ 100000; decide)) fun p H4 hp e4 h4 => ?_
      have I4 := I.mono (e3.trans e4)
      have p0 : H p = none := by
        have h5 := fresh_back e23 hp
        by_cases z : p = sa
        · rw [z, upd_same] at h5; cases h5
        · rw [upd_ne z] at h5; exact h5
      show (tIfS _ _ _ : TS) _ ([some (.ref o), some (.ref b), some v, some (.int i), some (.int j), some (.ref p)] : L2.St) H4
      have fin1 : ∀ H5, Ex H4 H5 → (∀ e ∈ (keys sp).take n, ∀ t', get sp e = some t' → e.1 ∈ th → e.2 ∉ th → c ≤ t') → NextI H sp th ((keys sp).take (n + 1)) (.ref p) H5 := fun H5 e5 h => by
        refine .inr ⟨p, c, i, j, rfl, p0, e5 _ _ h4, hc, q'.1, q'.2, fun e he t' ht h1 h2 => ?_⟩
        rw [takeS n _ _ hsp1] at he
        rcases List.mem_append.mp he with he | he
        · exact h e he t' ht h1 h2
        · rw [List.mem_singleton.mp he, hc] at ht
          cases ht; exact Int.le_refl _
      rcases I4 with ⟨rfl, hno⟩ | ⟨b', t, i', j', rfl, hb0, hb1, hg, hi', hj', hmin⟩
      · refine s_when (b := true) (et_is (et_or (et_B (ev_isN (ev_var rfl))) fun z => by simp at z) (b := true) (by simp : (decide ((V.non : V) = .non) || false) = true)) (fun _ H5 e5 => s_asg (ev_var rfl) fun H6 e6 => ?_) (fun z => nomatch z)
        refine ⟨.ref p, _, _, _, rfl, ((e23.trans e4).trans e5).trans e6, fin1 _ (e5.trans e6) fun e he t' _ h1 h2 => absurd (hno e he h1) h2⟩
      · refine s_when (et_or (b := HT.lexLt [c, i, j] [t, i', j']) (et_B (ev_isN (ev_var rfl))) fun _ => et_test (ev_op (ev_var rfl) (ev_var rfl) (rv_ltT (ns := [c, i, j]) (ms := [t, i', j']) h4 hb1))) (fun z H5 e5 => s_asg (ev_var rfl) fun H6 e6 => ?_) (fun z H5 e5 => ?_)
        · have z' : HT.lexLt [c, i, j] [t, i', j'] = true := by simpa using z
          have := lexLt_true z'
          refine ⟨.ref p, _, _, _, rfl, ((e23.trans e4).trans e5).trans e6, fin1 _ (e5.trans e6) fun e he t' ht h1 h2 => ?_⟩
          have := hmin e he t' ht h1 h2
          omega
        · have z' : HT.lexLt [c, i, j] [t, i', j'] = false := by simpa using z
          have := lexLt_false z'
          refine ⟨.ref b', _, _, _, rfl, (e23.trans e4).trans e5, .inr ⟨b', t, i', j', rfl, hb0, e5 _ _ hb1, hg, hi', hj', fun e he t' ht h1 h2 => ?_⟩⟩
          rw [takeS n _ _ hsp1] at he
          rcases List.mem_append.mp he with he | he
          · exact hmin e he t' ht h1 h2
          · rw [List.mem_singleton.mp he, hc] at ht
            cases ht; exact this
    · have q' : i ∈ th → j ∈ th := by simpa using q
      refine ⟨v, _, _, _, rfl, e2.trans e3, ?_⟩
      rcases I.mono e3 with ⟨rfl, hno⟩ | ⟨b', t, i', j', rfl, hb0, hb1, hg, hi', hj', hmin⟩
      · refine .inl ⟨rfl, fun e he h1 => ?_⟩
        rw [takeS n _ _ hsp1] at he
        rcases List.mem_append.mp he with he | he
        · exact hno e he h1
        · rw [List.mem_singleton.mp he] at h1 ⊢; exact q' h1
      · refine .inr ⟨b', t, i', j', rfl, hb0, hb1, hg, hi', hj', fun e he t' ht h1 h2 => ?_⟩
        rw [takeS n _ _ hsp1] at he
        rcases List.mem_append.mp he with he | he
        · exact hmin e he t' ht h1 h2
        · rw [List.mem_singleton.mp he] at h1 h2; exact absurd (q' h1) h2
  · rintro od σ H2 ⟨v, x3, x4, x5, rfl, e2, I⟩
    have hk : (keys sp).take (dE sp).length = keys sp := by rw [dE_len]; exact List.take_of_length_le (by simp [keys])
    rw [hk] at I
    have eb := lock_back hW.sp e2
    refine s_ret (ev_var rfl) fun H3 e3 => k v H3 (eb.trans e3) ?_
    rcases I with h | ⟨b', t, i', j', rfl, hb0, hb1, h⟩
    · exact .inl h
    · exact .inr ⟨b', t, i', j', rfl, hb0, e3 _ _ (by rw [upd_ne (ne_of_none hW.sp hb0).symm]; exact hb1), h⟩
theorem evp_next {σ : L2.St} {H : Hp} {i n : Nat} {o b : Addr} {th : List Int} {root : Int} {ra la sa wa : Addr} {rc : List Int} {lf sp : E2} {nw : Nat} (hi : σ[i]? = some (some (.ref o))) (hn : σ[n]? = some (some (.ref b))) (hW : WAt C H o root ra la sa wa rc lf sp nw) (hb : H b = some (.lst (th.map V.int))) (hnd : (keys sp).Nodup) :
    EvP (tMeth C "next_road" (spNext C) [] E0 (tVar i) (tCons (tVar n) tNil)) σ H (NextI H sp th (keys sp)) := fun H3 e3 Q q => by
  have W3 := hW.mono e3
  obtain ⟨dx, h1⟩ := W3.ob
  exact ⟨_, hi, o, dx, _, rfl, h1, fs_no (by decide +kernel) (by decide +kernel) (by decide +kernel) (by decide +kernel) (by decide +kernel), _, hn, o, b, th, root, ra, la, sa, wa, rc, lf, sp, nw, rfl, W3, e3 _ _ hb, hnd,
    fun v H4 e4 r => q v H4 e4 (r.imp id fun ⟨b, t, i, j, h1, h2, h3⟩ => ⟨b, t, i, j, h1, fresh_back e3 h2, h3⟩)⟩

/-! ### tree -/
def spWTree (C : Addr) : Sp := fun vs H Q _ => ∃ (o : Addr) (root : Int) (ra la sa wa : Addr) (rc : List Int) (lf sp : E2) (N : Net) (ws : Wt), vs = [.ref o] ∧ WAt C H o root ra la sa wa rc lf sp ws.length ∧ N.Ok ∧ 0 ≤ root ∧ root < N.n ∧ WI N root lf sp ws ∧
  RetP (fun v H2 => ∃ b d, v = .ref b ∧ H2 b = some (.dK (dI d)) ∧ TG N root sp ws d ∧ ∀ i j t, get sp (i, j) = some t → i ∈ root :: keys d → j ∈ root :: keys d) H Q
abbrev s_W_tree : Stmt := inClass (top 26) 7
abbrev N_W_tree : List Str := ["self", "there", "ahead", "best"]
theorem sc_W_tree : FnScope N_W_tree ["self"] (defScope s_W_tree) := fnScope_by (by decide +kernel)
theorem ok_wtree (F : MetAt K C "tree" "Weighing.tree" s_W_tree ["self"]) (T : Txt K mg) (W : WTxt K C) (m_next_road : Met P w K mg base 1 C "next_road" (spNext C) []) : Met P w K mg base 2 C "tree" (spWTree C) [] := by
  refine F.met sc_W_tree (by walk_at "len") (fun f cdv A outer s H vs Q E hr h => ?_)
  obtain ⟨o, root, ra, la, sa, wa, rc, lf, sp, N, ws, rfl, hW, ok, r0, r1, I, k⟩ := h
  have nd := sc_W_tree.nd
  refine ⟨_, (pss_cons (ps_set (i := 1) nd rfl (Or.inl rfl) (pe_lst (pa_cons (fldK (K := K) rfl (pv 0) rfl) pa_nil)))
      (pss_cons (ps_set (i := 2) nd rfl (Or.inl rfl) pe_dnewK)
      (pss_cons (ps_set (i := 3) nd rfl (Or.inl rfl) (pe_mt m_next_road hr (by decide) (pv 0) (pa_cons (pv 1) pa_nil)))
      (pss_cons (ps_while PassesOwn.never (pt_cmp (pc_notN (pv 3))) (pss_cons (ps_dput (hu_of hr) (pv 2) (pe_ix (ixT (K := K) rfl) (pv 3) pe_int (fun _ _ => rfl)) (pe_ix (ixT (K := K) rfl) (pv 3) pe_int (fun _ _ => rfl)) rfl)
      (pss_cons (ps_expr (pe_bm PySem.F.plainAttrs_list PySem.F.slot_list_append PySem.F.type_list_append mt_append (pv 1) (pa_cons (pe_ix (ixT (K := K) rfl) (pv 3) pe_int (fun _ _ => rfl)) pa_nil)))
      (pss_one (ps_set (i := 3) nd rfl (Or.inl rfl) (pe_mt m_next_road hr (by decide) (pv 0) (pa_cons (pv 1) pa_nil)))))))
      (pss_one (ps_ret (pv 2))))))), ?_⟩
  refine q_asgW (o := .lst ([root].map V.int)) (el_lst (ea_cons (hW.ev_root W (ev_var rfl)) ea_nil) (by show 1 ≤ 100000; decide)) fun th H1 th0 e1 hth => ?_
  refine q_asgW ew_newK fun ah H2 ah1 e2 hah => ?_
  have ah0 := fresh_back e1 ah1
  have ta : th ≠ ah := ne_of_none hth ah1
  have e12 := e1.trans e2
  refine q_asgP (evp_next (th := [root]) (i := 0) (n := 1) rfl rfl (hW.mono e12) (e2 _ _ hth) I.nds) fun v H3 e3 r3 => ?_
  refine q_whileW (fun m σ H' => ∃ (d : D) (v : V) (H0 : Hp), m = 12 - d.length ∧ σ = [some (.ref o), some (.ref th), some (.ref ah), some v] ∧ Ex H H' ∧ H' th = some (.lst ((root :: keys d).map V.int)) ∧ H' ah = some (.dK (dI d)) ∧ TG N root sp ws d ∧ NextI H0 sp (root :: keys d) (keys sp) v H') _
    ⟨[], v, H2, rfl, rfl, e12.trans e3, e3 _ _ (e2 _ _ hth), e3 _ _ hah, TG.start I, r3⟩ ?_
  rintro m σ H4 ⟨d, v, H0, rfl, rfl, e4, hth4, hah4, TGd, NI⟩
  refine ⟨_, et_B (ev_notN (ev_var rfl)), fun hb H5 e5 => ?_, fun hb H5 e5 => ?_⟩
  · rcases NI with ⟨rfl, _⟩ | ⟨b, t, i, j, rfl, _, hb1, hg, hi, hj, hmin⟩
    · simp at hb
    · have hb5 := e5 _ _ hb1
      have W5 := hW.mono (e4.trans e5)
      have TGn := TGd.step I hg hi hj (fun i' j' t' h1 h2 h3 => hmin (i', j') (get_key h1) t' h1 h2 h3)
      have jk : j ∉ keys d := fun z => hj (List.mem_cons_of_mem _ z)
      have few : d.length < 12 := by
        have nd' : (keys (d ++ [(j, i)])).Nodup := TGn.gr.tree.nd
        have := len_range nd' (fun x hx => reach_range ok r0 r1 (tree_reach TGn.gr.tree hx))
        simp [keys] at this
        have := ok.n12
        omega
      have hput : put d j i = d ++ [(j, i)] := put_new jk
      refine q_dputI (d := d) (k := j) (v := i) (ev_ixT (i := 1) (v := .int i) (ev_var rfl) ev_c hb5 rfl) (ev_var rfl) (ev_ixT (i := 2) (v := .int j) (ev_var rfl) ev_c hb5 rfl) (e5 _ _ hah4) (by omega) fun H6 e6 => ?_
      have E6 : Ex H (upd H6 ah (.dK (dI (put d j i)))) := Ex.mut ((e4.trans e5).trans e6) ah0
      have bah : b ≠ ah := ne_of hb5 (e5 _ _ hah4) (fun z => nomatch z)
      have hb6 : (upd H6 ah (.dK (dI (put d j i)))) b = some (.tup [.int t, .int i, .int j]) := by rw [upd_ne bah]; exact e6 _ _ hb5
      have hth6 : (upd H6 ah (.dK (dI (put d j i)))) th = some (.lst ((root :: keys d).map V.int)) := by rw [upd_ne ta]; exact e6 _ _ (e5 _ _ hth4)
      refine q_app hth6 (ev_var rfl) (ev_ixT (i := 2) (v := .int j) (ev_var rfl) ev_c hb6 rfl) (by simp [keys]; omega) fun H7 e7 => ?_
      have hth7 : (upd H7 th (.lst ((root :: keys d).map V.int ++ [.int j]))) th = some (.lst ((root :: keys (d ++ [(j, i)])).map V.int)) := by rw [upd_same, keys_snoc]; simp
      have hah7 : (upd H7 th (.lst ((root :: keys d).map V.int ++ [.int j]))) ah = some (.dK (dI (d ++ [(j, i)]))) := by rw [upd_ne ta.symm, ← hput]; exact e7 _ _ upd_same
      have E7 : Ex H (upd H7 th (.lst ((root :: keys d).map V.int ++ [.int j]))) := Ex.mut (E6.trans e7) th0
      refine s_asgP (evp_next (i := 0) (n := 1) rfl rfl (hW.mono E7) hth7 I.nds) fun v H8 e8 r8 => ?_
      refine ⟨12 - (d ++ [(j, i)]).length, by rw [List.length_append, List.length_singleton]; omega, d ++ [(j, i)], v, _, rfl, rfl, E7.trans e8, e8 _ _ hth7, e8 _ _ hah7, TGn, r8⟩
  · have hv : v = .non := by simpa using hb
    rcases NI with ⟨_, hno⟩ | ⟨b, t, i, j, rfl, _⟩
    · exact s_ret (ev_var rfl) fun H6 e6 => k _ H6 ((e4.trans e5).trans e6) ⟨ah, d, rfl, e6 _ _ (e5 _ _ hah4), TGd, fun i j t h1 h2 => hno (i, j) (get_key h1) h2⟩
    · cases hv

/-! ### __init__ -/
theorem fl1 {f1 : Str} {v1 : V} : (putF f1 v1 []).length < 1000 := by have := length_putF f1 v1 []; simp at this; omega
theorem fl2 {f1 f2 : Str} {v1 v2 : V} : (putF f2 v2 (putF f1 v1 [])).length < 1000 := by
  have := length_putF f1 v1 []; have := length_putF f2 v2 (putF f1 v1 []); simp at *; omega
theorem fl3 {f1 f2 f3 : Str} {v1 v2 v3 : V} : (putF f3 v3 (putF f2 v2 (putF f1 v1 []))).length < 1000 := by
  have := length_putF f1 v1 []; have := length_putF f2 v2 (putF f1 v1 []); have := length_putF f3 v3 (putF f2 v2 (putF f1 v1 [])); simp at *; omega
theorem fl4 {f1 f2 f3 f4 : Str} {v1 v2 v3 v4 : V} : (putF f4 v4 (putF f3 v3 (putF f2 v2 (putF f1 v1 [])))).length < 1000 := by
  have := length_putF f1 v1 []; have := length_putF f2 v2 (putF f1 v1 []); have := length_putF f3 v3 (putF f2 v2 (putF f1 v1 [])); have := length_putF f4 v4 (putF f3 v3 (putF f2 v2 (putF f1 v1 []))); simp at *; omega
theorem ExB.mut {B : List Addr} {H H' : Hp} {l : Addr} {o : HO} (e : ExB B H H') (h : H l = none) : ExB B H (L2.upd H' l o) := fun a u n ha => by
  rw [L2.upd_ne (ne_of_none ha h)]; exact e a u n ha
theorem ExB.tex {B : List Addr} {H H' : Hp} (e : ExB B H H') (h : ∀ b ∈ B, ∀ xs, H b ≠ some (.tup xs)) : TEx H H' := fun a xs ha => e a _ (fun q => h a q xs ha) ha
def spInit (C : Addr) : Sp := fun vs H Q _ => ∃ (x a : Addr) (root : Int) (N : Net) (dx : Addr), vs = [.ref x, .ref a, .int root] ∧ H x = some (.ins C dx []) ∧ NetAt H a N ∧ N.Ok ∧ 0 ≤ root ∧ root < N.n ∧
  ∀ H' ra la sa wa rc lf sp, ExB [x] H H' → WAt C H' x root ra la sa wa rc lf sp 0 → WI N root lf sp [] → (∀ y, y ∈ rc ↔ Reach N root y) → H la = none → H sa = none → H wa = none → Q .non H'
abbrev s_W_init : Stmt := inClass (top 26) 0
abbrev N_W_init : List Str := ["self", "net", "root", "i", "j", "cost", "late"]
theorem sc_W_init : FnScope N_W_init ["self", "net", "root"] (defScope s_W_init) := fnScope_by (by decide +kernel)
theorem ok_init (F : MakAt K mg "Weighing" C "Weighing.__init__" s_W_init ["self", "net", "root"]) (T : Txt K mg) (W : WTxt K C) (c_earliest_in : Cal P w K mg base 2 "earliest_in" spEarliestIn []) : Mak P w K mg base 3 "Weighing" C (spInit C) [] := by
  refine F.mak sc_W_init (by walk_at "len") (fun f cdv A outer s H vs Q E hr h => ?_)
  obtain ⟨x, a, root, N, dx, rfl, hx, hN, ok, r0, r1, k⟩ := h
  have nd := sc_W_init.nd
  refine ⟨_, (pss_cons (ps_fld (pv 0) (pv 2) rfl)
      (pss_cons (ps_fld (pv 0) (pe_callB (sortedDI rfl) (by rfl) T.g_sorted (by decide +kernel) (pa_cons (pe_c c_earliest_in hr (by decide) (by rfl) (pa_cons (pv 1) (pa_cons (pv 2) pa_nil))) pa_nil)) rfl)
      (pss_cons (ps_fld (pv 0) pe_dnewT rfl)
      (pss_cons (ps_fld (pv 0) pe_dnewT rfl)
      (pss_cons (ps_fld (pv 0) (pe_lst pa_nil) rfl)
      (pss_one (ps_for PassesOwn.never rfl (pi_tupK (K := K) rfl (pe_ix (ixT (K := K) rfl) (pv 1) pe_int (fun _ _ => rfl))) (pg_tupK (K := K) rfl rfl (pgs_cons (pg_name (i := 3) nd rfl (Or.inl rfl)) (pgs_cons (pg_name (i := 4) nd rfl (Or.inl rfl)) (pgs_cons (pg_name (i := 5) nd rfl (Or.inl rfl)) (pgs_cons (pg_name (i := 6) nd rfl (Or.inl rfl)) pgs_nil))))) (pss_one (ps_if (pt_cmpR (inS (K := K) rfl) (pv 3) (fldK (K := K) rfl (pv 0) rfl) rfl) (pss_cons (ps_dput (hu_of hr) (fldK (K := K) rfl (pv 0) rfl) (pe_tup (pa_cons (pv 3) (pa_cons (pv 4) pa_nil))) (pv 5) rfl)
      (pss_one (ps_if (pt_cmpR op_eq (pv 5) pe_int (nomark _)) (pss_one (ps_dput (hu_of hr) (fldK (K := K) rfl (pv 0) rfl) (pe_tup (pa_cons (pv 3) (pa_cons (pv 4) pa_nil))) pe_int rfl)) pss_nil))) pss_nil))))))))), ?_⟩
  obtain ⟨t, as, ha, ht, hR⟩ := hN.ex
  have n12 := ok.n12
  -- root
  refine q_fldP (Ev.p (ev_var rfl)) rfl hx W.cl W.n_root (by decide) fun y H1 e1 hy => ?_
  subst hy
  have hx1 : (upd H1 x (.ins C dx (putF "root" (.int root) []))) x = some (.ins C dx (putF "root" (.int root) [])) := upd_same
  have B1 : ExB [x] H (upd H1 x (.ins C dx (putF "root" (.int root) []))) := (ExB.of e1).trans (ExB.upd (by simp))
  have xt : ∀ b ∈ [x], ∀ xs, H b ≠ some (.tup xs) := fun b hb xs z => by rw [List.mem_singleton.mp hb, hx] at z; cases z
  generalize hG1 : upd H1 x (.ins C dx (putF "root" (.int root) [])) = G1 at *
  -- reached
  have hv : EvP (tCB rSortedDI (tCons (tCall spEarliestIn [] C8.E0 (tCons (tVar 1) (tCons (tVar 2) tNil))) tNil)) ([some (.ref x), some (.ref a), some (.int root), none, none, none, none] : L2.St) G1 (fun v H2 => ∃ (ra : Addr) (rc : List Int), v = .ref ra ∧ G1 ra = none ∧ H2 ra = some (.lst (rc.map V.int)) ∧ ∀ y, y ∈ rc ↔ Reach N root y) := fun H2 e2 Q q =>
    evp_call (ta := tCons (tVar 1) (tCons (tVar 2) tNil)) (sp := spEarliestIn) (E := E0) (ea_cons (ev_var rfl) (ea_cons (ev_var rfl) ea_nil)) (fun H3 e3 Q k => ⟨a, N, root, rfl, hN.mono ((B1.tex xt).trans (tex e3)), ok, r0, r1, k⟩) H2 e2 _ fun v H3 e3 r => by
      obtain ⟨f', d, rfl, hf', hnd, hiff⟩ := r
      have hl : d.length ≤ 12 := by
        have := len_range hnd (fun y hy => reach_range ok r0 r1 ((hiff y).mp hy))
        simp [keys] at this
        omega
      refine ⟨f', dI d, keys d, rfl, .inl hf', by simp [dI, keys], by simp [keys]; omega, fun ys p hp _ hnew => ?_⟩
      exact q _ _ (e3.trans (Ex.new hnew)) ⟨p, ys, rfl, fresh_back (e2.trans e3) hnew, upd_same, fun y => by rw [hp.mem_iff]; exact hiff y⟩
  refine q_fldP hv rfl hx1 W.cl W.n_reached fl1 fun y H2 e2 r2 => ?_
  obtain ⟨ra, rc, rfl, ra1, hra, hrc⟩ := r2
  have rax : ra ≠ x := (ne_of_none hx1 ra1).symm
  have hx2 : (upd H2 x (.ins C dx (putF "reached" (.ref ra) (putF "root" (.int root) [])))) x = some (.ins C dx (putF "reached" (.ref ra) (putF "root" (.int root) []))) := upd_same
  have B2 : ExB [x] H (upd H2 x (.ins C dx (putF "reached" (.ref ra) (putF "root" (.int root) [])))) := (B1.trans (ExB.of e2)).trans (ExB.upd (by simp))
  have hra2 : (upd H2 x (.ins C dx (putF "reached" (.ref ra) (putF "root" (.int root) [])))) ra = some (.lst (rc.map V.int)) := by rw [upd_ne rax]; exact hra
  have ra0 : H ra = none := by
    cases q : H ra with
    | none => rfl
    | some o => rw [B1 ra o (by simp; exact rax) q] at ra1; cases ra1
  generalize hG2 : upd H2 x (.ins C dx (putF "reached" (.ref ra) (putF "root" (.int root) []))) = G2 at *
  -- left
  refine q_fldP (EvW.p ew_newT) rfl hx2 W.cl W.n_left fl2 fun y H3 e3 r3 => ?_
  obtain ⟨la, rfl, la2, hla⟩ := r3
  have lax : la ≠ x := (ne_of_none hx2 la2).symm
  have lara : la ≠ ra := (ne_of_none hra2 la2).symm
  have hx3 : (upd H3 x (.ins C dx (putF "left" (.ref la) (putF "reached" (.ref ra) (putF "root" (.int root) []))))) x = some (.ins C dx (putF "left" (.ref la) (putF "reached" (.ref ra) (putF "root" (.int root) [])))) := upd_same
  have B3 : ExB [x] H (upd H3 x (.ins C dx (putF "left" (.ref la) (putF "reached" (.ref ra) (putF "root" (.int root) []))))) := (B2.trans (ExB.of e3)).trans (ExB.upd (by simp))
  have hra3 : (upd H3 x (.ins C dx (putF "left" (.ref la) (putF "reached" (.ref ra) (putF "root" (.int root) []))))) ra = some (.lst (rc.map V.int)) := by rw [upd_ne rax]; exact e3 _ _ hra2
  have hla3 : (upd H3 x (.ins C dx (putF "left" (.ref la) (putF "reached" (.ref ra) (putF "root" (.int root) []))))) la = some (.dT []) := by rw [upd_ne lax]; exact hla
  have la0 : H la = none := by
    cases q : H la with
    | none => rfl
    | some o => rw [B2 la o (by simp; exact lax) q] at la2; cases la2
  generalize hG3 : upd H3 x (.ins C dx (putF "left" (.ref la) (putF "reached" (.ref ra) (putF "root" (.int root) [])))) = G3 at *
  -- spent
  refine q_fldP (EvW.p ew_newT) rfl hx3 W.cl W.n_spent fl3 fun y H4 e4 r4 => ?_
  obtain ⟨sa, rfl, sa3, hsa⟩ := r4
  have sax : sa ≠ x := (ne_of_none hx3 sa3).symm
  have ls : la ≠ sa := ne_of_none hla3 sa3
  have hx4 : (upd H4 x (.ins C dx (putF "spent" (.ref sa) (putF "left" (.ref la) (putF "reached" (.ref ra) (putF "root" (.int root) [])))))) x = some (.ins C dx (putF "spent" (.ref sa) (putF "left" (.ref la) (putF "reached" (.ref ra) (putF "root" (.int root) []))))) := upd_same
  have B4 : ExB [x] H (upd H4 x (.ins C dx (putF "spent" (.ref sa) (putF "left" (.ref la) (putF "reached" (.ref ra) (putF "root" (.int root) [])))))) := (B3.trans (ExB.of e4)).trans (ExB.upd (by simp))
  have hra4 : (upd H4 x (.ins C dx (putF "spent" (.ref sa) (putF "left" (.ref la) (putF "reached" (.ref ra) (putF "root" (.int root) [])))))) ra = some (.lst (rc.map V.int)) := by rw [upd_ne rax]; exact e4 _ _ hra3
  have hla4 : (upd H4 x (.ins C dx (putF "spent" (.ref sa) (putF "left" (.ref la) (putF "reached" (.ref ra) (putF "root" (.int root) [])))))) la = some (.dT []) := by rw [upd_ne lax]; exact e4 _ _ hla3
  have hsa4 : (upd H4 x (.ins C dx (putF "spent" (.ref sa) (putF "left" (.ref la) (putF "reached" (.ref ra) (putF "root" (.int root) [])))))) sa = some (.dT []) := by rw [upd_ne sax]; exact hsa
  have sa0 : H sa = none := by
    cases q : H sa with
    | none => rfl
    | some o => rw [B3 sa o (by simp; exact sax) q] at sa3; cases sa3
  generalize hG4 : upd H4 x (.ins C dx (putF "spent" (.ref sa) (putF "left" (.ref la) (putF "reached" (.ref ra) (putF "root" (.int root) []))))) = G4 at *
  -- weights
  refine q_fldP (EvW.p (o := .lst []) (el_lst ea_nil (Nat.zero_le _))) rfl hx4 W.cl W.n_weights fl4 fun y H5 e5 r5 => ?_
  obtain ⟨wa, rfl, wa4, hwa⟩ := r5
  have wax : wa ≠ x := (ne_of_none hx4 wa4).symm
  have rw' : ra ≠ wa := ne_of_none hra4 wa4
  have wa0 : H wa = none := by
    cases q : H wa with
    | none => rfl
    | some o => rw [B4 wa o (by simp; exact wax) q] at wa4; cases wa4
  have B5 : ExB [x] H (upd H5 x (.ins C dx (fsW root ra la sa wa))) := (B4.trans (ExB.of e5)).trans (ExB.upd (by simp))
  have W5 : WAt C (upd H5 x (.ins C dx (fsW root ra la sa wa))) x root ra la sa wa rc [] [] 0 := ⟨⟨dx, upd_same⟩, by rw [upd_ne rax]; exact e5 _ _ hra4, by rw [upd_ne lax]; exact e5 _ _ hla4, by rw [upd_ne sax]; exact e5 _ _ hsa4, ⟨[], by rw [upd_ne wax]; exact hwa, rfl⟩, ls, rw'⟩
  show (tFor _ _ _ : TS) _ _ (upd H5 x (.ins C dx (fsW root ra la sa wa)))
  generalize hG5 : upd H5 x (.ins C dx (fsW root ra la sa wa)) = G5 at *
  refine s_forTW (xs := as.map V.ref) (ev_ixT (i := 1) (v := .ref t) (ev_var rfl) ev_c ((B5.tex xt) _ _ ha) rfl) ((B5.tex xt) _ _ ht) (fun n σ H' => ∃ (lf sp : E2) (x3 x4 x5 x6 : Option V), σ = [some (.ref x), some (.ref a), some (.int root), x3, x4, x5, x6] ∧ ExB [x] H H' ∧ TEx G5 H' ∧ WAt C H' x root ra la sa wa rc lf sp 0 ∧ InitI N root n lf sp)
    (fun H6 e6 => ⟨[], [], none, none, none, none, rfl, B5.trans (ExB.of e6), tex e6, W5.mono e6, InitI.start⟩) (fun n σ H' _ p => by obtain ⟨_, _, _, _, _, _, _, _, tx, _⟩ := p; exact tx) ?_ ?_
  · rintro n y σ H6 hy ⟨lf, sp, x3, x4, x5, x6, rfl, B6, T6, W6, I6⟩
    obtain ⟨c, r, rfl, hc1, hc2, hc3⟩ := hR.get hy
    have hrd := ok.rs r (List.mem_of_getElem? hc2)
    refine g4 ((B6.tex xt) _ _ hc3) ?_
    show (tIfS _ _ _ : TS) _ ([some (.ref x), some (.ref a), some (.int root), some (.int r.i), some (.int r.j), some (.int r.p), some (.int r.l)] : L2.St) H6
    refine s_when (et_test (ev_inLI (ev_var rfl) (W6.ev_reached W (ev_var rfl)) W6.rc)) (fun q H7 e7 => ?_) (fun q H7 e7 => ?_)
    · have hre : Reach N root r.i := (hrc _).mp (by simpa using q)
      obtain ⟨nk, ns, I7⟩ := I6.step ok hc2 hre
      have W7 := W6.mono e7
      have lfl : lf.length ≤ 144 := by
        have ss : keys lf ⊆ N.rs.map fun r => (r.i, r.j) := fun e he => by
          obtain ⟨c, hc⟩ := key_get he
          obtain ⟨m, r', _, h1, h2, _⟩ := (I6.gl _ _).mp hc
          exact List.mem_map.mpr ⟨r', List.mem_of_getElem? h1, h2⟩
        have := List.Nodup.length_le_of_subset I6.ndl ss
        have := few_roads ok
        simp [keys] at *
        omega
      have spl : sp.length ≤ lf.length := by
        have ss : keys sp ⊆ keys lf := fun e he => by
          obtain ⟨c, hc⟩ := key_get he
          exact get_key ((I6.gs _ _).mp hc).2
        have := List.Nodup.length_le_of_subset I6.nds ss
        simpa [keys] using this
      refine q_dputU (e := (r.i, r.j)) (v := r.p) (ev_var rfl) (W7.ev_left W (ev_var rfl)) (eu_tup (ea_cons (ev_var rfl) (ea_cons (ev_var rfl) ea_nil)) (by show 2 ≤ 100000; decide)) W7.lf (by omega) fun H8 e8 => ?_
      have W8 : WAt C (upd H8 la (.dT (dE (put lf (r.i, r.j) r.p)))) x root ra la sa wa rc (put lf (r.i, r.j) r.p) sp 0 := (W7.mono e8).setL
      have B8 : ExB [x] H (upd H8 la (.dT (dE (put lf (r.i, r.j) r.p)))) := ((B6.trans (ExB.of e7)).trans (ExB.of e8)).mut la0
      have T8 : TEx G5 (upd H8 la (.dT (dE (put lf (r.i, r.j) r.p)))) := ((T6.trans (tex e7)).trans (tex e8)).trans (tex_upd (e8 _ _ W7.lf) fun xs z => nomatch z)
      refine s_when (et_test (ev_op (ev_var rfl) ev_c (rv_eq rfl))) (fun q H9 e9 => ?_) (fun q H9 e9 => ?_)
      · have p0 : r.p = 0 := by simpa using q
        rw [if_pos p0] at I7
        have W9 := W8.mono e9
        refine s_dputU (e := (r.i, r.j)) (v := 0) ev_c (W9.ev_spent W (ev_var rfl)) (eu_tup (ea_cons (ev_var rfl) (ea_cons (ev_var rfl) ea_nil)) (by show 2 ≤ 100000; decide)) W9.sp (by omega) fun H10 e10 => ?_
        exact ⟨_, _, _, _, _, _, rfl, ((B8.trans (ExB.of e9)).trans (ExB.of e10)).mut sa0, ((T8.trans (tex e9)).trans (tex e10)).trans (tex_upd (e10 _ _ W9.sp) fun xs z => nomatch z), (W9.mono e10).setS, I7⟩
      · have p0 : ¬ r.p = 0 := by simpa using q
        rw [if_neg p0] at I7
        exact ⟨_, _, _, _, _, _, rfl, B8.trans (ExB.of e9), T8.trans (tex e9), W8.mono e9, I7⟩
    · have hre : ¬ Reach N root r.i := fun z => by simp [(hrc r.i).mpr z] at q
      exact ⟨lf, sp, _, _, _, _, rfl, B6.trans (ExB.of e7), T6.trans (tex e7), W6.mono e7, I6.skip hc2 hre⟩
  · rintro σ H6 ⟨lf, sp, x3, x4, x5, x6, rfl, B6, T6, W6, I6⟩
    rw [List.length_map, hR.len] at I6
    exact k H6 ra la sa wa rc lf sp B6 W6 (I6.done ok) hrc la0 sa0 wa0

/-! ### everywhere -/
def spEverywhere : Sp := fun vs H Q _ => ∃ (a : Addr) (root : Int) (N : Net), vs = [.ref a, .int root] ∧ NetAt H a N ∧ N.Ok ∧ 0 ≤ root ∧ root < N.n ∧
  RetP (fun v H2 => ∃ t b wv d, v = .ref t ∧ H2 t = some (.tup [.ref b, wv]) ∧ H2 b = some (.dK (dI d)) ∧ Grown N root d ∧ Full N root d ∧ IsMin N root (cst N d)) H Q
abbrev s_everywhere : Stmt := top 27
abbrev N_everywhere : List Str := ["net", "root", "weighing"]
theorem sc_everywhere : FnScope N_everywhere ["net", "root"] (defScope s_everywhere) := fnScope_by (by decide +kernel)
theorem ok_everywhere (F : DefAt K mg "everywhere" s_everywhere ["net", "root"]) (T : Txt K mg) (W : WTxt K C) (c_need_net : Cal P w K mg base 5 "need_net" spNeedNet []) (c_need_place : Cal P w K mg base 1 "need_place" spNeedPlace [])
    (c_Weighing : Mak P w K mg base 3 "Weighing" C (spInit C) []) (m_weigh_all : Met P w K mg base 3 C "weigh_all" (spWeighAll C) []) (m_tree : Met P w K mg base 2 C "tree" (spWTree C) []) : Cal P w K mg base 6 "everywhere" spEverywhere [] := by
  refine F.cal sc_everywhere (by walk_at "len") (fun f cdv A outer s H vs Q E hr h => ?_)
  obtain ⟨a, root, N, rfl, hN, ok, r0, r1, k⟩ := h
  have nd := sc_everywhere.nd
  refine ⟨_, (pss_cons (ps_expr (pe_c c_need_net hr (by decide) (by rfl) (pa_cons (pv 0) pa_nil)))
      (pss_cons (ps_expr (pe_c c_need_place hr (by decide) (by rfl) (pa_cons (pv 0) (pa_cons (pv 1) pa_nil))))
      (pss_cons (ps_set (i := 2) nd rfl (Or.inl rfl) (pe_mk c_Weighing hr (by decide) (by rfl) (pa_cons (pv 0) (pa_cons (pv 1) pa_nil))))
      (pss_cons (ps_expr (pe_mt0 m_weigh_all hr (by decide) (pv 2)))
      (pss_one (ps_ret (pe_tup (pa_cons (pe_mt0 m_tree hr (by decide) (pv 2)) (pa_cons (fldK (K := K) rfl (pv 2) rfl) pa_nil))))))))), ?_⟩
  refine q_drop (ev_needNet (ev_var rfl) hN ok) fun H1 e1 => q_drop (ev_needPlace (ev_var rfl) (ev_var rfl) (hN.mono (tex e1)) r0 r1) fun H2 e2 => ?_
  have N2 := hN.mono (tex (e1.trans e2))
  have hmk : EvP (tMake C (spInit C) [] C8.E0 (tCons (tVar 0) (tCons (tVar 1) tNil))) ([some (.ref a), some (.int root), none] : L2.St) H2 (fun v H3 => ∃ (x ra la sa wa : Addr) (rc : List Int) (lf sp : E2), v = .ref x ∧ WAt C H3 x root ra la sa wa rc lf sp 0 ∧ WI N root lf sp [] ∧ (∀ y, y ∈ rc ↔ Reach N root y) ∧ H2 la = none ∧ H2 sa = none ∧ H2 wa = none) := fun H3 e3 Q q => by
    refine ⟨_, rfl, _, rfl, fun x dx hx hdx hne => ?_⟩
    have E3 : Ex H3 (upd (upd H3 dx (.own x)) x (.ins C dx [])) := fun b o hb => by rw [upd_ne (ne_of_none hb hx), upd_ne (ne_of_none hb hdx)]; exact hb
    refine ⟨x, a, root, N, dx, rfl, upd_same, N2.mono ((tex e3).trans (tex E3)), ok, r0, r1, fun H' ra la sa wa rc lf sp B W' I hrc l0 s0 w0 => ⟨rfl, ?_⟩⟩
    have E4 : Ex H3 H' := B.ex E3 (fun b hb => by rw [List.mem_singleton.mp hb]; exact hx)
    exact q _ H' E4 ⟨x, ra, la, sa, wa, rc, lf, sp, rfl, W', I, hrc, fresh_back (e3.trans E3) l0, fresh_back (e3.trans E3) s0, fresh_back (e3.trans E3) w0⟩
  refine q_asgP hmk fun v H3 e3 r3 => ?_
  obtain ⟨x, ra, la, sa, wa, rc, lf, sp, rfl, W3, I3, hrc, l0, s0, w0⟩ := r3
  obtain ⟨dx, hx3⟩ := W3.ob
  show (tSeq _ _ : TS) _ ([some (.ref a), some (.int root), some (.ref x)] : L2.St) H3
  refine ⟨_, rfl, x, dx, _, rfl, hx3, fs_no (by decide +kernel) (by decide +kernel) (by decide +kernel) (by decide +kernel) (by decide +kernel), x, root, ra, la, sa, wa, rc, lf, sp, N, [], rfl, W3, ok, r0, r1, I3, hrc, rfl, fun H4 lf4 sp4 ws4 B4 W4 I4 fin => ?_⟩
  have E4 : Ex H2 H4 := B4.ex e3 (fun b hb => by
    simp at hb
    rcases hb with rfl | rfl | rfl
    · exact l0
    · exact s0
    · exact w0)
  obtain ⟨dx4, hx4⟩ := W4.ob
  refine ⟨_, rfl, x, dx4, _, rfl, hx4, fs_no (by decide +kernel) (by decide +kernel) (by decide +kernel) (by decide +kernel) (by decide +kernel), x, root, ra, la, sa, wa, rc, lf4, sp4, N, ws4, rfl, W4, ok, r0, r1, I4, fun v H5 e5 r5 => ?_⟩
  obtain ⟨b, d, rfl, hb, TGd, hno⟩ := r5
  obtain ⟨Fd, Md⟩ := TGd.done I4 ok hno fin
  obtain ⟨dx5, hx5⟩ := (W4.mono e5).ob
  refine ⟨_, rfl, x, C, dx5, _, _, rfl, hx5, W.cl, W.n_weights, fs_weights, (by show 2 ≤ 16777216; decide), fun p hp => ?_⟩
  exact k _ _ ((((e1.trans e2).trans E4).trans e5).trans (Ex.new hp)) ⟨p, b, _, d, rfl, upd_same, (by rw [upd_ne (ne_of_none hb hp)]; exact hb), TGd.gr, Fd, Md⟩
end
end HK

/-! part HKH -/
/-! Grafts: the mathematics. -/
namespace HK
/-- onward roads lead down: value, then stamp -/
structure OnI (N : Net) (root : Int) (ah d dg : D) (st : Int → Nat) (T : Nat) : Prop where
  base : ∀ x, x = root ∨ x ∈ keys ah → get d x = some 0
  on : ∀ x v, get d x = some v → x = root ∨ x ∈ keys ah ∨ ∃ y u, get dg x = some y ∧ get d y = some u ∧ N.has y x ∧ (u < v ∨ (u = v ∧ st y < st x))
  cl : ∀ x, st x < T
theorem OnI.step {N : Net} {root : Int} {ah d dg : D} {st : Int → Nat} {T : Nat} (I : OnI N root ah d dg st T) (h0 : ∀ e ∈ d, 0 ≤ e.2) {i j v c : Int} (hi : get d i = some v) (hh : N.has i j) (c0 : 0 ≤ c) (hj : ∀ w, get d j = some w → v + c < w) :
    OnI N root ah (put d j (v + c)) (put dg j i) (fun x => if x = j then T else st x) (T + 1) := by
  have hv := h0 _ (get_mem hi)
  simp at hv
  have nb : ¬ (j = root ∨ j ∈ keys ah) := fun q => by
    have := hj 0 (I.base j q); omega
  have ij : i ≠ j := fun q => by
    have := hj v (q ▸ hi); omega
  refine ⟨fun x hx => ?_, fun x u hx => ?_, fun x => ?_⟩
  · rw [get_put]
    by_cases e : x = j
    · subst e; exact absurd hx nb
    · rw [if_neg e]; exact I.base x hx
  · rw [get_put] at hx
    by_cases e : x = j
    · subst e
      rw [if_pos rfl] at hx
      have : u = v + c := (Option.some.inj hx).symm
      subst this
      refine .inr (.inr ⟨i, v, by rw [get_put, if_pos rfl], by rw [get_put, if_neg ij]; exact hi, hh, ?_⟩)
      have := I.cl i
      by_cases z : c = 0
      · right; exact ⟨by omega, by rw [if_neg ij, if_pos rfl]; exact this⟩
      · left; omega
    · rw [if_neg e] at hx
      rcases I.on x u hx with h | h | ⟨y, w, h1, h2, h3, h4⟩
      · exact .inl h
      · exact .inr (.inl h)
      · by_cases q : y = j
        · subst q
          have := hj w h2
          exact .inr (.inr ⟨y, v + c, by rw [get_put, if_neg e]; exact h1, by rw [get_put, if_pos rfl], h3, .inl (by omega)⟩)
        · exact .inr (.inr ⟨y, w, by rw [get_put, if_neg e]; exact h1, by rw [get_put, if_neg q]; exact h2, h3, by rw [if_neg q, if_neg e]; exact h4⟩)
  · show (if x = j then T else st x) < T + 1
    have := I.cl x
    split <;> omega
/-- a measure by which the onward roads lead down -/
structure Onward (N : Net) (root : Int) (ah : D) (ks : List Int) (dg : D) (mu : Int → Nat) : Prop where
  on : ∀ x ∈ ks, x = root ∨ x ∈ keys ah ∨ ∃ y, get dg x = some y ∧ y ∈ ks ∧ N.has y x ∧ mu y < mu x
theorem OnI.done {N : Net} {root : Int} {ah d dg : D} {st : Int → Nat} {T : Nat} (I : OnI N root ah d dg st T) (h0 : ∀ e ∈ d, 0 ≤ e.2) : ∃ mu, Onward N root ah (keys d) dg mu := by
  refine ⟨fun x => ((get d x).getD 0).toNat * (T + 1) + st x, ⟨fun x hx => ?_⟩⟩
  obtain ⟨v, hv⟩ := key_get hx
  rcases I.on x v hv with h | h | ⟨y, u, h1, h2, h3, h4⟩
  · exact .inl h
  · exact .inr (.inl h)
  · refine .inr (.inr ⟨y, h1, get_key h2, h3, ?_⟩)
    show ((get d y).getD 0).toNat * (T + 1) + st y < ((get d x).getD 0).toNat * (T + 1) + st x
    rw [hv, h2]
    have p1 := h0 _ (get_mem hv)
    have p2 := h0 _ (get_mem h2)
    simp at p1 p2
    have := I.cl y
    show u.toNat * (T + 1) + st y < v.toNat * (T + 1) + st x
    rcases h4 with h | ⟨h, h'⟩
    · obtain ⟨m, hm⟩ : ∃ m, v.toNat = u.toNat + 1 + m := ⟨v.toNat - u.toNat - 1, by omega⟩
      rw [hm, Nat.add_mul, Nat.add_mul]
      omega
    · rw [h]; omega

/-- the grafting loop -/
structure GI (N : Net) (root : Int) (ah : D) (ks : List Int) (mu : Int → Nat) (place : Int) (l : D) (h : Int) : Prop where
  hk : h ∈ ks
  old : ∀ k v, get ah k = some v → get l k = some v
  nd : (keys l).Nodup
  rt : root ∉ keys l
  rd : ∀ e ∈ l, N.has e.2 e.1
  new : ∀ k v, get l k = some v → k ∉ keys ah → k ∈ ks ∧ mu h < mu k ∧ mu v < mu k
  cl : ∀ k v, get l k = some v → v = root ∨ v ∈ keys l ∨ v = h
  pl : place = h ∨ place ∈ keys l
theorem GI.start {N : Net} {root : Int} {ah : D} (T : Tree N root ah) {ks : List Int} {mu : Int → Nat} {place : Int} (hp : place ∈ ks) : GI N root ah ks mu place ah place := by
  refine ⟨hp, fun k v h => h, T.nd, T.rt, T.rd, fun k v h hn => absurd (get_key h) hn, fun k v h => ?_, .inl rfl⟩
  obtain ⟨m, hm⟩ := T.hm k (get_key h)
  cases m with
  | zero => exact absurd ((show k = root from hm) ▸ get_key h) T.rt
  | succ m =>
    have hm' : iter (par ah) m (par ah k) = root := hm
    rw [par_get h] at hm'
    by_cases q : v ∈ keys ah
    · exact .inr (.inl q)
    · rw [iter_fix (par_out q)] at hm'; exact .inl hm'
theorem GI.step {N : Net} {root : Int} {ah dg l : D} {ks : List Int} {mu : Int → Nat} {place h : Int} (G : GI N root ah ks mu place l h) (O : Onward N root ah ks dg mu) (h1 : h ≠ root) (h2 : h ∉ keys ah) :
    ∃ y, get dg h = some y ∧ mu y < mu h ∧ GI N root ah ks mu place (put l h y) y := by
  rcases O.on h G.hk with q | q | ⟨y, g1, g2, g3, g4⟩
  · exact absurd q h1
  · exact absurd q h2
  · have hl : h ∉ keys l := fun q => by
      obtain ⟨v, hv⟩ := key_get q
      have := (G.new h v hv h2).2.1; omega
    refine ⟨y, g1, g4, g2, fun k v hk => ?_, nd_put G.nd, fun q => ?_, fun e he => ?_, fun k v hk hn => ?_, fun k v hk => ?_, ?_⟩
    · rw [get_put, if_neg (fun q : k = h => h2 (q ▸ get_key hk))]; exact G.old k v hk
    · rcases mem_keys_put.mp q with q | q
      · exact h1 q.symm
      · exact G.rt q
    · rw [put_new hl] at he
      rcases List.mem_append.mp he with he | he
      · exact G.rd e he
      · rw [List.mem_singleton.mp he]; exact g3
    · rw [get_put] at hk
      by_cases q : k = h
      · subst q
        rw [if_pos rfl] at hk; cases hk
        exact ⟨G.hk, g4, g4⟩
      · rw [if_neg q] at hk
        have := G.new k v hk hn
        exact ⟨this.1, by omega, this.2.2⟩
    · rw [get_put] at hk
      by_cases q : k = h
      · subst q
        rw [if_pos rfl] at hk; cases hk
        exact .inr (.inr rfl)
      · rw [if_neg q] at hk
        rcases G.cl k v hk with z | z | z
        · exact .inl z
        · exact .inr (.inl (mem_keys_put.mpr (.inr z)))
        · exact .inr (.inl (mem_keys_put.mpr (.inl z)))
    · rcases G.pl with z | z
      · exact .inr (mem_keys_put.mpr (.inl z))
      · exact .inr (mem_keys_put.mpr (.inr z))
theorem GI.done {N : Net} {root : Int} {ah l : D} (T : Tree N root ah) {ks : List Int} {mu : Int → Nat} {place h : Int} (G : GI N root ah ks mu place l h) (hh : h = root ∨ h ∈ keys ah) :
    Tree N root l ∧ (∀ k ∈ keys ah, k ∈ keys l) ∧ (place = root ∨ place ∈ keys l) := by
  have sub : ∀ k ∈ keys ah, k ∈ keys l := fun k hk => by
    obtain ⟨v, hv⟩ := key_get hk
    exact get_key (G.old k v hv)
  have home0 : ∀ (m : Nat) (x : Int), x = root ∨ x ∈ keys ah → iter (par ah) m x = root → iter (par l) m x = root := by
    intro m
    induction m with
    | zero => intro x _ h; exact h
    | succ m ih =>
      intro x hx h
      rcases hx with rfl | hx
      · rw [iter_fix (par_out G.rt)]
      · obtain ⟨v, hv⟩ := key_get hx
        have h' : iter (par ah) m (par ah x) = root := h
        rw [par_get hv] at h'
        show iter (par l) m (par l x) = root
        rw [par_get (G.old x v hv)]
        refine ih v ?_ h'
        by_cases q : v ∈ keys ah
        · exact .inr q
        · rw [iter_fix (par_out q)] at h'; exact .inl h'
  have home1 : ∀ k ∈ keys ah, Home l root k := fun k hk => by
    obtain ⟨m, hm⟩ := T.hm k hk
    exact ⟨m, home0 m k (.inr hk) hm⟩
  have home2 : ∀ (n : Nat) (k : Int), mu k < n → k ∈ keys l → Home l root k := by
    intro n
    induction n with
    | zero => intro k h; exact absurd h (Nat.not_lt_zero _)
    | succ n ih =>
      intro k hk hl
      by_cases q : k ∈ keys ah
      · exact home1 k q
      · obtain ⟨v, hv⟩ := key_get hl
        have hmu := (G.new k v hv q).2.2
        have : v = root ∨ v ∈ keys l := by
          rcases G.cl k v hv with z | z | z
          · exact .inl z
          · exact .inr z
          · subst z
            rcases hh with z | z
            · exact .inl z
            · exact .inr (sub _ z)
        rcases this with rfl | z
        · exact ⟨1, par_get hv⟩
        · obtain ⟨m, hm⟩ := ih v (by omega) z
          exact ⟨m + 1, by show iter _ m (par l k) = root; rw [par_get hv]; exact hm⟩
  refine ⟨⟨G.nd, G.rt, G.rd, fun k hk => home2 (mu k + 1) k (Nat.lt_succ_self _) hk⟩, sub, ?_⟩
  rcases G.pl with rfl | z
  · rcases hh with z | z
    · exact .inl z
    · exact .inr (sub _ z)
  · exact .inr z
end HK

/-! part HKJ -/
/-! The walks of grafts.py. -/
namespace HK
open PySem PySem.Spec PyProof.Rows L2 Evl
open C8 (Cal Met Mak pe_c pe_mk pe_mt pe_mt0 pe_gc fnScope_by)
set_option hygiene false in
local macro_rules | `(tactic| walk_at "len") => `(tactic| (intro vs H Q E h; first
  | (obtain ⟨rfl, _⟩ := h; rfl)
  | (obtain ⟨_, rfl, _⟩ := h; rfl)
  | (obtain ⟨_, _, rfl, _⟩ := h; rfl)
  | (obtain ⟨_, _, _, rfl, _⟩ := h; rfl)
  | (obtain ⟨_, _, _, _, rfl, _⟩ := h; rfl)
  | (obtain ⟨_, _, _, _, _, rfl, _⟩ := h; rfl)
  | (obtain ⟨_, _, _, _, _, _, rfl, _⟩ := h; rfl)
  | (obtain ⟨_, _, _, _, _, _, _, rfl, _⟩ := h; rfl)
  | (obtain ⟨_, _, _, _, _, _, _, _, rfl, _⟩ := h; rfl)
  | (obtain ⟨_, _, _, _, _, _, _, _, _, rfl, _⟩ := h; rfl)
  | (obtain ⟨_, _, _, _, _, _, _, _, _, _, rfl, _⟩ := h; rfl)
  | (obtain ⟨_, _, _, _, _, _, _, _, _, _, _, rfl, _⟩ := h; rfl)
  | (obtain ⟨_, _, _, _, _, _, _, _, _, _, _, _, rfl, _⟩ := h; rfl)
  | (obtain ⟨_, _, _, _, _, _, _, _, _, _, _, _, _, rfl, _⟩ := h; rfl)
  | (obtain ⟨_, _, _, _, _, _, _, _, _, _, _, _, _, _, rfl, _⟩ := h; rfl)
  | (obtain ⟨_, _, _, _, _, _, _, _, _, _, _, _, _, _, _, rfl, _⟩ := h; rfl)
  | (obtain ⟨_, _, _, _, _, _, _, _, _, _, _, _, _, _, _, _, rfl, _⟩ := h; rfl)
  | (obtain ⟨_, _, _, _, _, _, _, _, _, _, _, _, _, _, _, _, _, rfl, _⟩ := h; rfl)
  | (obtain ⟨_, _, _, _, _, _, _, _, _, _, _, _, _, _, _, _, _, _, rfl, _⟩ := h; rfl)
  | (obtain ⟨_, _, _, _, _, _, _, _, _, _, _, _, _, _, _, _, _, _, _, rfl, _⟩ := h; rfl)
  | (obtain ⟨_, _, _, _, _, _, _, _, _, _, _, _, _, _, _, _, _, _, _, _, rfl, _⟩ := h; rfl)
  | (obtain ⟨_, _, _, _, _, _, _, _, _, _, _, _, _, _, _, _, _, _, _, _, _, rfl, _⟩ := h; rfl)
  | (obtain ⟨_, _, _, _, _, _, _, _, _, _, _, _, _, _, _, _, _, _, _, _, _, _, rfl, _⟩ := h; rfl)
  | (obtain ⟨_, _, _, _, _, _, _, _, _, _, _, _, _, _, _, _, _, _, _, _, _, _, _, rfl, _⟩ := h; rfl)
  | (obtain ⟨_, _, _, _, _, _, _, _, _, _, _, _, _, _, _, _, _, _, _, _, _, _, _, _, rfl, _⟩ := h; rfl)
  | (obtain ⟨_, _, _, _, _, _, _, _, _, _, _, _, _, _, _, _, _, _, _, _, _, _, _, _, _, rfl, _⟩ := h; rfl)))

section
variable {P : Program} {w : World} {K : PySem.W.Frag} {mg : Str → Option Value} {base : Heap}
def spPricesBy : Sp := fun vs H Q _ => ∃ (a ab : Addr) (N : Net) (root : Int) (ah : D), vs = [.ref a, .int root, .ref ab] ∧ NetAt H a N ∧ N.Ok ∧ 0 ≤ root ∧ root < N.n ∧ H ab = some (.dK (dI ah)) ∧ Tree N root ah ∧
  RetP (fun v H2 => ∃ t f g d dg mu, v = .ref t ∧ H2 t = some (.tup [.ref f, .ref g]) ∧ H2 f = some (.dK (dI d)) ∧ H2 g = some (.dK (dI dg)) ∧ Onward N root ah (keys d) dg mu ∧ (keys d).Nodup ∧ ∀ x, Reach N root x → x ∈ keys d) H Q
structure PBI (N : Net) (root : Int) (ah : D) (f g : Addr) (H0 : Hp) (d dg : D) (H : Hp) : Prop where
  ex : Ex H0 H
  hf : H f = some (.dK (dI d))
  hg : H g = some (.dK (dI dg))
  bf : BF N.n 0 d
  fw : Few N.n dg
  on : ∃ st T, OnI N root ah d dg st T
theorem PBI.mono {N : Net} {root : Int} {ah : D} {f g : Addr} {H0 H H' : Hp} {d dg : D} (I : PBI N root ah f g H0 d dg H) (e : Ex H H') : PBI N root ah f g H0 d dg H' := ⟨I.ex.trans e, e _ _ I.hf, e _ _ I.hg, I.bf, I.fw, I.on⟩
theorem tree_few {N : Net} (ok : N.Ok) {root : Int} (r0 : 0 ≤ root) (r1 : root < N.n) {d : D} (T : Tree N root d) : Few N.n d := ⟨T.nd, fun k hk => reach_range ok r0 r1 (tree_reach T hk)⟩
abbrev s_prices_by : Stmt := top 44
abbrev N_prices_by : List Str := ["net", "root", "ahead", "found", "onward", "place", "moved", "i", "j", "cost", "late"]
theorem sc_prices_by : FnScope N_prices_by ["net", "root", "ahead"] (defScope s_prices_by) := fnScope_by (by decide +kernel)
theorem ok_prices_by (F : DefAt K mg "prices_by" s_prices_by ["net", "root", "ahead"]) (T : Txt K mg) : Cal P w K mg base 1 "prices_by" spPricesBy [] := by
  refine F.cal sc_prices_by (by walk_at "len") (fun f0 cdv A outer s H vs Q E hr h => ?_)
  obtain ⟨a, ab, N, root, ah, rfl, hN, ok, r0, r1, hab, hT, k⟩ := h
  have nd := sc_prices_by.nd
  refine ⟨_, (pss_cons (ps_set (i := 3) nd rfl (Or.inl rfl) (pe_disp (pps_cons (pv 1) pe_int pps_nil) (by rfl) (by rfl) (fun z => by cases z) (by decide)))
      (pss_cons (ps_set (i := 4) nd rfl (Or.inl rfl) pe_dnewK)
      (pss_cons (ps_lock (ps_for PassesOwn.never rfl (pi_keys (pv 2)) (pg_name (i := 5) nd rfl (Or.inl rfl)) (pss_one (ps_dput (hu_of hr) (pv 3) (pv 5) pe_int rfl))))
      (pss_cons (ps_set (i := 6) nd rfl (Or.inl rfl) pe_bl)
      (pss_cons (ps_while PassesOwn.never (pt_val (pv 6)) (pss_cons (ps_set (i := 6) nd rfl (Or.inl rfl) pe_bl)
      (pss_one (ps_for PassesOwn.never rfl (pi_tupK (K := K) rfl (pe_ix (ixT (K := K) rfl) (pv 0) pe_int (fun _ _ => rfl))) (pg_tupK (K := K) rfl rfl (pgs_cons (pg_name (i := 7) nd rfl (Or.inl rfl)) (pgs_cons (pg_name (i := 8) nd rfl (Or.inl rfl)) (pgs_cons (pg_name (i := 9) nd rfl (Or.inl rfl)) (pgs_cons (pg_name (i := 10) nd rfl (Or.inl rfl)) pgs_nil))))) (pss_one (ps_if (PW.pt (pw_and (pt_cmp (pc_din (hu_of hr) (pv 7) (pv 3)) rfl) (pw_and1 (PW.pt (pw_or (pt_cmp (pc_dnotin (hu_of hr) (pv 8) (pv 3)) rfl) (pw_or1 (pt_cmpR op_lt (pe_op op_add (pe_dget (hu_of hr) (pv 3) (pv 7) (fun _ _ => rfl)) (pv 9)) (pe_dget (hu_of hr) (pv 3) (pv 8) (fun _ _ => rfl)) (nomark _)))))))) (pss_cons (ps_dput (hu_of hr) (pv 3) (pv 8) (pe_op op_add (pe_dget (hu_of hr) (pv 3) (pv 7) (fun _ _ => rfl)) (pv 9)) rfl)
      (pss_cons (ps_dput (hu_of hr) (pv 4) (pv 8) (pv 7) rfl)
      (pss_one (ps_set (i := 6) nd rfl (Or.inl rfl) pe_bl)))) pss_nil))))))
      (pss_one (ps_ret (pe_tup (pa_cons (pv 3) (pa_cons (pv 4) pa_nil)))))))))), ?_⟩
  obtain ⟨t, as, ha, ht, hR⟩ := hN.ex
  have n12 := ok.n12
  have hfew := tree_few ok r0 r1 hT
  refine q_asgW (ew_disp1 (ev_var rfl) ev_c) fun f H1 f0 e1 hf1 => ?_
  refine q_asgW ew_newK fun g H2 g1 e2 hg2 => ?_
  have hf2 := e2 _ _ hf1
  have g0 : H g = none := fresh_back e1 g1
  have fg : f ≠ g := ne_of_none hf1 g1
  have hab2 := e2 _ _ (e1 _ _ hab)
  have fab : f ≠ ab := (ne_of_none hab f0).symm
  have gab : g ≠ ab := (ne_of_none hab g0).symm
  -- nought in the tree
  refine q_forKW hab2 (fun H1 => ev_var rfl) (fun od n σ H' => ∃ (d : D) (x5 : Option V), σ = [some (.ref a), some (.int root), some (.ref ab), some (.ref f), some (.ref g), x5, none, none, none, none, none] ∧ Ex (upd H ab (.frz od (.dK (dI ah)))) H' ∧ H' f = some (.dK (dI d)) ∧ H' g = some (.dK (dI [])) ∧
      Few N.n d ∧ (∀ x v, get d x = some v → v = 0 ∧ (x = root ∨ x ∈ keys ah)) ∧ (∀ x, x = root ∨ x ∈ keys (ah.take n) → get d x = some 0)) (fun od H3 e3 => ⟨[(root, 0)], none, rfl, (lock_ex (e1.trans e2)).trans e3, e3 _ _ (by rw [upd_ne fab]; exact hf2), e3 _ _ (by rw [upd_ne gab]; exact hg2),
        ⟨by simp [keys], fun k hk => by simp [keys] at hk; omega⟩, fun x v hx => by rw [get_cons, get_nil] at hx; simp at hx; exact ⟨hx.2.symm, .inl hx.1.symm⟩, fun x hx => by simp [keys] at hx; rw [hx, get_cons]; simp⟩)
      (fun od n σ H' _ p => by obtain ⟨_, _, _, e, _⟩ := p; exact e _ _ upd_same) ?_ ?_
  · rintro od n kk v σ H3 hk ⟨d, x5, rfl, e3, hf3, hg3, hfw, hz, hall⟩
    obtain ⟨e, he, hm⟩ := dI_get (List.getElem?_eq_some_iff.mp hk).1
    have hkk : kk = Sum.inl e.1 := by
      unfold dI at hk; rw [List.getElem?_map, he] at hk; cases hk; rfl
    subst hkk
    have he1 := hfew.rg e.1 (List.mem_map.mpr ⟨e, hm, rfl⟩)
    show (sDPut _ _ _ : TS) _ ([some (.ref a), some (.int root), some (.ref ab), some (.ref f), some (.ref g), some (.int e.1), none, none, none, none, none] : L2.St) H3
    refine s_dputI (d := d) (k := e.1) (v := 0) ev_c (ev_var rfl) (ev_var rfl) hf3 (by have := hfw.len n12; omega) fun H4 e4 => ?_
    refine ⟨put d e.1 0, _, rfl, Ex.mut (e3.trans e4) (by rw [upd_ne fab]; exact f0), upd_same, by rw [upd_ne fg.symm]; exact e4 _ _ hg3, hfw.put he1.1 he1.2, fun x v hx => ?_, fun x hx => ?_⟩
    · rw [get_put] at hx
      split at hx
      · next q => exact ⟨(Option.some.inj hx).symm, .inr (q ▸ List.mem_map.mpr ⟨e, hm, rfl⟩)⟩
      · exact hz x v hx
    · rw [get_put]
      by_cases q : x = e.1
      · rw [if_pos q]
      · rw [if_neg q]
        refine hall x (hx.imp id fun hx => ?_)
        rw [List.take_succ, he] at hx
        simp [keys] at hx ⊢
        rcases hx with hx | hx
        · exact hx
        · exact absurd hx q
  rintro od σ H3 ⟨d, x5, rfl, e3, hf3, hg3, hfw, hz, hall⟩
  rw [dI_len, List.take_length] at hall
  have E3 := lock_back hab e3
  have hf3' : (upd H3 ab (.dK (dI ah))) f = some (.dK (dI d)) := by rw [upd_ne fab]; exact hf3
  have hg3' : (upd H3 ab (.dK (dI ah))) g = some (.dK (dI [])) := by rw [upd_ne gab]; exact hg3
  generalize hG3 : upd H3 ab (.dK (dI ah)) = G3 at *
  refine q_asg ev_c fun H4 e4 => ?_
  have hz0 : ∀ e ∈ d, e.2 = 0 := fun e he => (hz e.1 e.2 (mem_get hfw.nd he)).1
  have b0 : BF N.n 0 d := ⟨hfw.nd, hfw.rg, fun e he => by rw [hz0 e he]; exact Int.le_refl _, fun e he => by rw [hz0 e he]; omega⟩
  have on0 : OnI N root ah d [] (fun _ => 0) 1 := ⟨hall, fun x v hx => (hz x v hx).2.imp id .inl, fun x => Nat.one_pos⟩
  refine q_whileW (fun m σ H' => ∃ (b : Bool) (d dg : D) (x5 x7 x8 x9 x10 : Option V), m = 2 * pot 0 d + (if b then 1 else 0) ∧ σ = [some (.ref a), some (.int root), some (.ref ab), some (.ref f), some (.ref g), x5, some (.bl b), x7, x8, x9, x10] ∧
    PBI N root ah f g H d dg H' ∧ (b = false → ∀ r ∈ N.rs, Settled d r r.p)) _ ⟨true, d, [], _, none, none, none, none, rfl, rfl, ⟨E3.trans e4, e4 _ _ hf3', e4 _ _ hg3', b0, Few.nil, _, _, on0⟩, fun z => by cases z⟩ ?_
  rintro m σ H4 ⟨b, d, dg, x5, x7, x8, x9, x10, rfl, rfl, I, hb⟩
  refine ⟨b, et_B (ev_var rfl), fun eb H5 e5 => ?_, fun eb H5 e5 => ?_⟩
  · subst eb
    have I5 := I.mono e5
    refine q_asg ev_c fun H6 e6 => ?_
    have I6 := I5.mono e6
    refine s_forTW (xs := as.map V.ref) (ev_ixT (i := 1) (v := .ref t) (ev_var rfl) ev_c (I6.ex _ _ ha) rfl) (I6.ex _ _ ht) (fun n σ H' => ∃ (b : Bool) (d' dg' : D) (x5 x7 x8 x9 x10 : Option V), σ = [some (.ref a), some (.int root), some (.ref ab), some (.ref f), some (.ref g), x5, some (.bl b), x7, x8, x9, x10] ∧ PBI N root ah f g H d' dg' H' ∧ TEx H6 H' ∧
      ((b = false ∧ d' = d ∧ ∀ k r, k < n → N.rs[k]? = some r → Settled d r r.p) ∨ (b = true ∧ pot 0 d' < pot 0 d))) (fun H7 e7 => ⟨false, d, dg, x5, x7, x8, x9, x10, rfl, I6.mono e7, tex e7, .inl ⟨rfl, rfl, fun k r hk => absurd hk (Nat.not_lt_zero k)⟩⟩)
      (fun n σ H' _ p => by obtain ⟨_, _, _, _, _, _, _, _, _, _, tx, _⟩ := p; exact tx) ?_ ?_
    · rintro n x σ H7 hx ⟨b, d', dg', x5, x7, x8, x9, x10, rfl, I7, tx, hc⟩
      obtain ⟨c, r, rfl, hc1, hc2, hc3⟩ := hR.get hx
      have hrd := ok.rs r (List.mem_of_getElem? hc2)
      refine g4 (I7.ex _ _ hc3) ?_
      show (tIfS _ _ _ : TS) _ ([some (.ref a), some (.int root), some (.ref ab), some (.ref f), some (.ref g), x5, some (.bl b), some (.int r.i), some (.int r.j), some (.int r.p), some (.int r.l)] : L2.St) H7
      have hf7 : Rd H7 f (.dK (dI d')) := .inl I7.hf
      refine s_when (et_and (b := !(get d' r.j).isSome || decide ((get d' r.i).getD 0 + r.p < (get d' r.j).getD 0)) (et_B (ev_dinI (ev_var rfl) (ev_var rfl) hf7)) fun q1 => et_or (et_B (ev_dnotinI (ev_var rfl) (ev_var rfl) hf7)) fun q2 =>
        et_test (ev_op (ev_op (ev_dgetI (ev_var rfl) (ev_var rfl) hf7 q1) (ev_var rfl) rv_I0) (ev_dgetI (ev_var rfl) (ev_var rfl) hf7 (by simpa using q2)) rv_I0)) (fun q H8 e8 => ?_) (fun q H8 e8 => ?_)
      · have I8 := I7.mono e8
        have qi : (get d' r.i).isSome = true := (Bool.and_eq_true_iff.mp q).1
        obtain ⟨v, hv⟩ := Option.isSome_iff_exists.mp qi
        have q2 := (Bool.and_eq_true_iff.mp q).2
        have lt : ∀ w, get d' r.j = some w → v + r.p < w := fun w hw => by
          rw [hv, hw] at q2; simpa using q2
        have step : BF N.n 0 (put d' r.j (v + r.p)) ∧ pot 0 (put d' r.j (v + r.p)) < pot 0 d' := by
          cases hj : get d' r.j with
          | none => exact I7.bf.new n12 (by omega) hv (get_none.mp hj) hrd.j0 hrd.j1 hrd.p0 hrd.p1
          | some w => exact I7.bf.old hv hj hrd.p0 (lt w hj)
        obtain ⟨st, TT, on⟩ := I8.on
        have on' := on.step I8.bf.lo hv ⟨r, List.mem_of_getElem? hc2, rfl, rfl⟩ hrd.p0 lt
        refine q_dputI (d := d') (k := r.j) (v := v + r.p) (ev_op (ev_is (ev_dgetI (ev_var rfl) (ev_var rfl) (.inl I8.hf) qi) (by rw [hv]; rfl)) (ev_var rfl) rv_I0) (ev_var rfl) (ev_var rfl) I8.hf (by have := I8.bf.len n12; omega) fun H9 e9 => ?_
        have hg9 : (upd H9 f (.dK (dI (put d' r.j (v + r.p))))) g = some (.dK (dI dg')) := by rw [upd_ne fg.symm]; exact e9 _ _ I8.hg
        refine q_dputI (d := dg') (k := r.j) (v := r.i) (ev_var rfl) (ev_var rfl) (ev_var rfl) hg9 (by have := I8.fw.len n12; omega) fun H10 e10 => ?_
        refine s_asg ev_c fun H11 e11 => ?_
        have E9 : Ex H (upd H9 f (.dK (dI (put d' r.j (v + r.p))))) := Ex.mut (I8.ex.trans e9) f0
        have E10 : Ex H (upd H10 g (.dK (dI (put dg' r.j r.i)))) := Ex.mut (E9.trans e10) g0
        have T10 : TEx H6 (upd H10 g (.dK (dI (put dg' r.j r.i)))) := ((((tx.trans (tex e8)).trans (tex e9)).trans (tex_upd (e9 _ _ I8.hf) fun xs z => nomatch z)).trans (tex e10)).trans (tex_upd (e10 _ _ hg9) fun xs z => nomatch z)
        refine ⟨true, put d' r.j (v + r.p), put dg' r.j r.i, x5, some (.int r.i), some (.int r.j), some (.int r.p), some (.int r.l), rfl, ⟨E10.trans e11, ?_, e11 _ _ upd_same, step.1, I8.fw.put hrd.j0 hrd.j1, _, _, on'⟩, T10.trans (tex e11), .inr ⟨rfl, ?_⟩⟩
        · refine e11 _ _ ?_
          rw [upd_ne fg]; exact e10 _ _ upd_same
        · rcases hc with ⟨_, rfl, _⟩ | ⟨_, h⟩
          · exact step.2
          · exact Nat.lt_trans step.2 h
      · refine ⟨b, d', dg', _, _, _, _, _, rfl, I7.mono e8, tx.trans (tex e8), ?_⟩
        rcases hc with ⟨h1, rfl, h3⟩ | h
        · refine .inl ⟨h1, rfl, fun m r' hm hr' => ?_⟩
          rcases Nat.lt_or_ge m n with h | h
          · exact h3 m r' h hr'
          · have : m = n := by omega
            subst this
            rw [hc2] at hr'; cases hr'
            intro v hv
            rw [hv] at q
            cases hj : get d' r.j with
            | none => rw [hj] at q; simp at q
            | some w => rw [hj] at q; simp at q; exact ⟨w, rfl, q⟩
        · exact .inr h
    · rintro σ H7 ⟨b, d', dg', x5, x7, x8, x9, x10, rfl, I7, _, hc⟩
      rcases hc with ⟨rfl, rfl, h3⟩ | ⟨rfl, h⟩
      · refine ⟨2 * pot 0 d' + 0, by simp, false, d', dg', x5, x7, x8, x9, x10, rfl, rfl, I7, fun _ r hr => ?_⟩
        obtain ⟨m, hm, em⟩ := List.getElem_of_mem hr
        exact h3 m r (by rw [List.length_map, hR.len]; exact hm) (by rw [List.getElem?_eq_getElem hm, em])
      · exact ⟨2 * pot 0 d' + 1, by simp; omega, true, d', dg', x5, x7, x8, x9, x10, rfl, rfl, I7, fun z => by cases z⟩
  · subst eb
    have I5 := I.mono e5
    obtain ⟨st, TT, on⟩ := I.on
    obtain ⟨mu, hmu⟩ := on.done I.bf.lo
    have rt : root ∈ keys d := get_key (on.base root (.inl rfl))
    refine s_retW (eu_tup (ea_cons (ev_var rfl) (ea_cons (ev_var rfl) ea_nil)) (by show 2 ≤ 100000; decide)) fun p H6 hp e6 h6 => k _ H6 (I5.ex.trans e6) ⟨p, f, g, d, dg, mu, rfl, h6, e6 _ _ I5.hf, e6 _ _ I5.hg, hmu, I.bf.nd, settled_reach (c := fun r => r.p) rt (hb rfl)⟩

/-! ### graft -/
def spGraft : Sp := fun vs H Q _ => ∃ (a ab : Addr) (N : Net) (root place : Int) (ah : D), vs = [.ref a, .int root, .ref ab, .int place] ∧ NetAt H a N ∧ N.Ok ∧ 0 ≤ root ∧ root < N.n ∧ Reach N root place ∧ H ab = some (.dK (dI ah)) ∧ Tree N root ah ∧
  RetP (fun v H2 => ∃ t lb u nb l, v = .ref t ∧ H2 t = some (.tup [.ref lb, u, .ref nb]) ∧ H2 lb = some (.dK (dI l)) ∧ Tree N root l ∧ (∀ k ∈ keys ah, k ∈ keys l) ∧ (place = root ∨ place ∈ keys l)) H Q
abbrev s_graft : Stmt := top 45
abbrev N_graft : List Str := ["net", "root", "ahead", "place", "numbers", "onward", "longer", "here"]
theorem sc_graft : FnScope N_graft ["net", "root", "ahead", "place"] (defScope s_graft) := fnScope_by (by decide +kernel)
theorem ew_dictD {σ : L2.St} {H : Hp} {ta : TE} {a : Addr} {kvs : List (Key × V)} (ha : Ev ta σ H (.ref a)) (h : Rd H a (.dK kvs)) : EvW (tCB (fun xs H Q => ∃ (a : Addr) (kvs : List (Key × V)), xs = [.ref a] ∧ Rd H a (.dK kvs) ∧ ∀ p, H p = none → Q (.ref p) (upd H p (.dK kvs))) (tCons ta tNil)) σ H (.dK kvs) := fun H1 e Q q =>
  ha H1 e _ fun H2 e2 => ⟨a, kvs, rfl, ex_rd (e.trans e2) h, fun p hp => q p _ (fresh_back e2 hp) (e2.trans (Ex.new hp)) upd_same⟩
theorem ok_graft (F : DefAt K mg "graft" s_graft ["net", "root", "ahead", "place"]) (T : Txt K mg) (c_need_net : Cal P w K mg base 5 "need_net" spNeedNet []) (c_need_place : Cal P w K mg base 1 "need_place" spNeedPlace []) (c_need_tree : Cal P w K mg base 3 "need_tree" spNeedTree [])
    (c_prices_by : Cal P w K mg base 1 "prices_by" spPricesBy []) : Cal P w K mg base 6 "graft" spGraft [] := by
  refine F.cal sc_graft (by walk_at "len") (fun f0 cdv A outer s H vs Q E hr h => ?_)
  obtain ⟨a, ab, N, root, place, ah, rfl, hN, ok, r0, r1, hp, hab, hT, k⟩ := h
  have nd := sc_graft.nd
  refine ⟨_, (pss_cons (ps_expr (pe_c c_need_net hr (by decide) (by rfl) (pa_cons (pv 0) pa_nil)))
      (pss_cons (ps_expr (pe_c c_need_place hr (by decide) (by rfl) (pa_cons (pv 0) (pa_cons (pv 1) pa_nil))))
      (pss_cons (ps_expr (pe_c c_need_place hr (by decide) (by rfl) (pa_cons (pv 0) (pa_cons (pv 3) pa_nil))))
      (pss_cons (ps_expr (pe_c c_need_tree hr (by decide) (by rfl) (pa_cons (pv 0) (pa_cons (pv 1) (pa_cons (pv 2) pa_nil)))))
      (pss_cons (ps_asg (pe_c c_prices_by hr (by decide) (by rfl) (pa_cons (pv 0) (pa_cons (pv 1) (pa_cons (pv 2) pa_nil)))) (pg_tupK (K := K) rfl rfl (pgs_cons (pg_name (i := 4) nd rfl (Or.inl rfl)) (pgs_cons (pg_name (i := 5) nd rfl (Or.inl rfl)) pgs_nil))))
      (pss_cons (ps_if (pt_cmp (pc_dnotin (hu_of hr) (pv 3) (pv 4)) rfl) (pss_one (ps_ret (pe_tup (pa_cons pe_non (pa_cons pe_non (pa_cons (pv 4) pa_nil)))))) pss_nil)
      (pss_cons (ps_set (i := 6) nd rfl (Or.inl rfl) (pe_callTy call_dictD (by rfl) T.g_dict (by decide +kernel) (pa_cons (pv 2) pa_nil)))
      (pss_cons (ps_set (i := 7) nd rfl (Or.inl rfl) (pv 3))
      (pss_cons (ps_while PassesOwn.never (PW.pt (pw_and (pt_cmpR op_ne (pv 7) (pv 1) (nomark _)) (pw_and1 (pt_cmp (pc_dnotin (hu_of hr) (pv 7) (pv 2)) rfl)))) (pss_cons (ps_dput (hu_of hr) (pv 6) (pv 7) (pe_dget (hu_of hr) (pv 5) (pv 7) (fun _ _ => rfl)) rfl)
      (pss_one (ps_set (i := 7) nd rfl (Or.inl rfl) (pe_dget (hu_of hr) (pv 5) (pv 7) (fun _ _ => rfl))))))
      (pss_one (ps_ret (pe_tup (pa_cons (pv 6) (pa_cons (pe_dget (hu_of hr) (pv 4) (pv 3) (fun _ _ => rfl)) (pa_cons (pv 4) pa_nil))))))))))))))), ?_⟩
  have n12 := ok.n12
  have hfew := tree_few ok r0 r1 hT
  have al := hfew.len n12
  have pr := reach_range ok r0 r1 hp
  refine q_drop (ev_needNet (ev_var rfl) hN ok) fun H1 e1 => ?_
  refine q_drop (ev_needPlace (ev_var rfl) (ev_var rfl) (hN.mono (tex e1)) r0 r1) fun H2 e2 => ?_
  have e12 := e1.trans e2
  refine q_drop (ev_needPlace (ev_var rfl) (ev_var rfl) (hN.mono (tex e12)) pr.1 pr.2) fun H3 e3 => ?_
  have e13 := e12.trans e3
  refine q_drop (ev_needTree (ev_var rfl) (ev_var rfl) (ev_var rfl) (hN.mono (tex e13)) (e13 _ _ hab) (by omega) hT) fun H4 e4 => ?_
  have e14 := e13.trans e4
  have hpb : EvP (tCall spPricesBy [] C8.E0 (tCons (tVar 0) (tCons (tVar 1) (tCons (tVar 2) tNil)))) ([some (.ref a), some (.int root), some (.ref ab), some (.int place), none, none, none, none] : L2.St) H4
    (fun v H2 => ∃ t f g d dg mu, v = .ref t ∧ H2 t = some (.tup [.ref f, .ref g]) ∧ H2 f = some (.dK (dI d)) ∧ H2 g = some (.dK (dI dg)) ∧ Onward N root ah (keys d) dg mu ∧ (keys d).Nodup ∧ ∀ x, Reach N root x → x ∈ keys d) :=
    evp_call (ea_cons (ev_var rfl) (ea_cons (ev_var rfl) (ea_cons (ev_var rfl) ea_nil))) fun H5 e5 Q q => ⟨a, ab, N, root, ah, rfl, hN.mono (tex (e14.trans e5)), ok, r0, r1, (e14.trans e5) _ _ hab, hT, q⟩
  refine q_asgGP hpb fun v H5 e5 r => ?_
  obtain ⟨t, f, g, d, dg, mu, rfl, h1, hf, hg, O, ndd, hall⟩ := r
  refine g2 h1 ?_
  have e15 := e14.trans e5
  have hpd := hall place hp
  obtain ⟨pv, hpv⟩ := key_get hpd
  refine q_skip (et_B (ev_dnotinI (ev_var rfl) (ev_var rfl) (.inl hf))) (by rw [hpv]; rfl) fun H6 e6 => ?_
  have e16 := e15.trans e6
  refine q_asgW (ew_dictD (ev_var rfl) (.inl (e16 _ _ hab))) fun lb H7 l6 e7 hlb => ?_
  have lb0 : H lb = none := fresh_back e16 l6
  have lbg : lb ≠ g := (ne_of_none (e6 _ _ hg) l6).symm
  have lbf : lb ≠ f := (ne_of_none (e6 _ _ hf) l6).symm
  refine q_asg (ev_var rfl) fun H8 e8 => ?_
  have e18 := e16.trans (e7.trans e8)
  refine q_whileW (fun m σ H' => ∃ (l : D) (h : Int), m = mu h ∧ σ = [some (.ref a), some (.int root), some (.ref ab), some (.int place), some (.ref f), some (.ref g), some (.ref lb), some (.int h)] ∧ Ex H H' ∧ H' lb = some (.dK (dI l)) ∧ H' g = some (.dK (dI dg)) ∧ H' f = some (.dK (dI d)) ∧ GI N root ah (keys d) mu place l h) _
    ⟨ah, place, rfl, rfl, e18, e8 _ _ hlb, (e6.trans (e7.trans e8)) _ _ hg, (e6.trans (e7.trans e8)) _ _ hf, GI.start hT hpd⟩ ?_
  rintro m σ H9 ⟨l, h, rfl, rfl, e9, hl9, hg9, hf9, G⟩
  refine ⟨_, et_and (et_test (ev_op (ev_var rfl) (ev_var rfl) (rv_ne rfl))) fun _ => et_B (ev_dnotinI (ev_var rfl) (ev_var rfl) (.inl (e9 _ _ hab))), fun hb H10 e10 => ?_, fun hb H10 e10 => ?_⟩
  · have q1 : h ≠ root := by have := (Bool.and_eq_true_iff.mp hb).1; simpa using this
    have q2 : h ∉ keys ah := by
      have := (Bool.and_eq_true_iff.mp hb).2
      exact get_none.mp (by simpa using this)
    obtain ⟨y, hy, hmu, G'⟩ := G.step O q1 q2
    have lfew : Few N.n l := ⟨G.nd, fun k hk => by
      obtain ⟨v, hv⟩ := key_get hk
      obtain ⟨r, hr, _, e2⟩ := G.rd _ (get_mem hv)
      have := ok.rs r hr
      have e2' : r.j = k := e2
      rw [← e2']; exact ⟨this.j0, this.j1⟩⟩
    have hyI : (get dg h).isSome = true := by rw [hy]; rfl
    refine q_dputI (d := l) (k := h) (v := y) (ev_is (ev_dgetI (ev_var rfl) (ev_var rfl) (.inl (e10 _ _ hg9)) hyI) (by rw [hy]; rfl)) (ev_var rfl) (ev_var rfl) (e10 _ _ hl9) (by have := lfew.len n12; omega) fun H11 e11 => ?_
    have hg11 : (upd H11 lb (.dK (dI (put l h y)))) g = some (.dK (dI dg)) := by rw [upd_ne lbg.symm]; exact e11 _ _ (e10 _ _ hg9)
    have hf11 : (upd H11 lb (.dK (dI (put l h y)))) f = some (.dK (dI d)) := by rw [upd_ne lbf.symm]; exact e11 _ _ (e10 _ _ hf9)
    refine s_asg (ev_is (w := .int y) (ev_dgetI (ev_var rfl) (ev_var rfl) (.inl hg11) hyI) (by simp [hy])) fun H12 e12 => ?_
    exact ⟨mu y, hmu, put l h y, y, rfl, rfl, (Ex.mut ((e9.trans e10).trans e11) lb0).trans e12, e12 _ _ upd_same, e12 _ _ hg11, e12 _ _ hf11, G'⟩
  · have hh : h = root ∨ h ∈ keys ah := by
      by_cases q : h = root
      · exact .inl q
      · right
        apply Classical.byContradiction
        intro z
        rw [get_none.mpr z] at hb
        simp [q] at hb
    obtain ⟨T1, T2, T3⟩ := G.done hT hh
    refine s_retW (eu_tup (ea_cons (ev_var rfl) (ea_cons (ev_dgetI (ev_var rfl) (ev_var rfl) (.inl (e10 _ _ hf9)) (by rw [hpv]; exact Option.isSome_some)) (ea_cons (ev_var rfl) ea_nil))) (by show 3 ≤ 100000; decide)) fun p H11 hp e11 h11 => ?_
    exact k _ H11 ((e9.trans e10).trans e11) ⟨p, lb, _, f, l, rfl, h11, e11 _ _ (e10 _ _ hl9), T1, T2, T3⟩
end
end HK

/-! part HKX -/
/-! Dicts whose keys are (a tuple of ints, an int). -/
namespace HK
open PySem PySem.Spec PyProof.Rows L2 Evl
def nk (k : NK) : NestedKey := .tup [.tup (k.1.map .num), .num k.2]
theorem map_num_inj : ∀ {a b : List Int}, a.map NestedKey.num = b.map NestedKey.num → a = b
  | [], [], _ => rfl
  | [], _ :: _, h => by simp at h
  | _ :: _, [], h => by simp at h
  | x :: a, y :: b, h => by
    rw [List.map_cons, List.map_cons] at h
    have h1 := (List.cons.inj h).1
    have h2 := (List.cons.inj h).2
    cases h1
    rw [map_num_inj h2]
theorem nk_inj {a b : NK} (h : nk a = nk b) : a = b := by
  unfold nk at h
  have h1 := NestedKey.tup.inj h
  have h2 := NestedKey.tup.inj (List.cons.inj h1).1
  have h3 := (List.cons.inj (List.cons.inj h1).2).1
  exact Prod.ext (map_num_inj h2) (NestedKey.num.inj h3)
theorem depth_nums : ∀ l : List Int, NestedKey.depthAll (l.map .num) = 0
  | [] => rfl
  | x :: l => by
    show max 0 (NestedKey.depthAll (l.map .num)) = 0
    rw [depth_nums l]; rfl
theorem nk_depth (k : NK) : (nk k).depth ≤ 8 := by
  show (max (NestedKey.depthAll (k.1.map .num) + 1) (max 0 0)) + 1 ≤ 8
  rw [depth_nums]; decide
/-- the key's own tuple -/
def KeyAt (H : Hp) (b : Addr) (k : NK) : Prop := ∃ q, H b = some (.tup [.ref q, .int k.2]) ∧ H q = some (.tup (k.1.map V.int))
theorem KeyAt.mono {H H' : Hp} {b : Addr} {k : NK} (e : TEx H H') (h : KeyAt H b k) : KeyAt H' b k := by
  obtain ⟨q, h1, h2⟩ := h; exact ⟨q, e _ _ h1, e _ _ h2⟩
section
variable (P : Program) (w : World)
abbrev NRel : (NK × Addr × V) → (NestedKey × Addr × Value) → Prop := fun p q => nk p.1 = q.1 ∧ p.2.1 = q.2.1 ∧ RelV p.2.2 q.2.2
def DNo (a : Addr) (xs : List (NK × Addr × V)) : HO := .ext fun h => (a == sysModules) = false ∧ xs.length ≤ sizeLine ∧ ∃ ys : List (NestedKey × Addr × Value), Paired NRel xs ys ∧
  ∃ o es ep, h.get? a = some o ∧ o.ExactDict ∧ o.data = .dict es ep ∧ es.toList = ys.map (entryOfKey (nestedKind P w)) ∧ (ys.map (·.1)).Nodup
def DNAt (H : Hp) (a : Addr) (kvs : List (NK × V)) : Prop := ∃ xs, H a = some (DNo P w a xs) ∧ xs.map (fun x => (x.1, x.2.2)) = kvs ∧ ∀ x ∈ xs, KeyAt H x.2.1 x.1
end
section
variable {P : Program} {w : World} {H : Hp} {h : Heap} {a b : Addr} {k : NK} {kvs : List (NK × V)}
theorem DNAt.mono {H' : Hp} (e : Ex H H') (g : DNAt P w H a kvs) : DNAt P w H' a kvs := by
  obtain ⟨xs, h1, h2, h3⟩ := g
  exact ⟨xs, e _ _ h1, h2, fun x hx => (h3 x hx).mono (tex e)⟩
/-- at another address -/
theorem DNAt.upd {c : Addr} {o : HO} (g : DNAt P w H a kvs) (hc : a ≠ c) (ht : ∀ xs, H c ≠ some (.tup xs)) : DNAt P w (upd H c o) a kvs := by
  obtain ⟨xs, h1, h2, h3⟩ := g
  have tx : TEx H (L2.upd H c o) := fun b xs hb => by
    rw [upd_ne (fun q => ht xs (by rw [← q]; exact hb))]; exact hb
  exact ⟨xs, by rw [upd_ne hc]; exact h1, h2, fun x hx => (h3 x hx).mono tx⟩
theorem key_nest (ok : HOk P w H h) (hk : KeyAt H b k) : (nestedKind P w).is h (nk k) b := by
  obtain ⟨q, h1, h2⟩ := hk
  obtain ⟨_, its, r, o, g1, g2, n, g3⟩ := (show ObjOk P w H h b (.tup [.ref q, .int k.2]) from ok b _ h1)
  obtain ⟨_, its2, r2, o2, f1, f2, n2, f3⟩ := (show ObjOk P w H h q (.tup (k.1.map V.int)) from ok q _ h2)
  obtain ⟨u1, u2, rfl, ru1, ru2⟩ := vals2 r
  cases ru1
  obtain ⟨t, rfl⟩ := (show ∃ t, u2 = Value.int k.2 t from ru2)
  have all : ∀ (l : List Int) (us : List Value), Vals (l.map V.int) us → NestedAll h (l.map .num) us := by
    intro l
    induction l with
    | nil => intro us r; cases r; exact .nil
    | cons x l ih =>
      intro us r
      rw [List.map_cons] at r
      cases r with
      | cons hx ht =>
        obtain ⟨t, rfl⟩ := hx
        exact .cons (.int x t) (ih _ ht)
  refine ⟨.tup g1 g2 g3 (.cons (.tup f1 f2 f3 ?_) (.cons (.int _ _) .nil)), nk_depth k⟩
  simpa using all k.1 its2 r2
theorem nrel_get {xs : List (NK × Addr × V)} {ys : List (NestedKey × Addr × Value)} (r : Paired NRel xs ys) (k : NK) : RelO (get (xs.map fun x => (x.1, x.2.2)) k) ((atKey ys (nk k)).map (·.2)) := by
  induction r with
  | nil => exact True.intro
  | @cons p q ps qs h t ih =>
    obtain ⟨h1, h2, h3⟩ := h
    rw [List.map_cons, get_cons]
    by_cases e : p.1 = k
    · have e' : q.1 = nk k := by rw [← h1, e]
      have b : atKey (q :: qs) (nk k) = some q.2 := by simp [atKey, List.find?_cons, e']
      rw [if_pos e, b]; exact h3
    · have e' : ¬ q.1 = nk k := fun z => e (nk_inj (h1.trans z))
      have b : atKey (q :: qs) (nk k) = atKey qs (nk k) := by simp [atKey, List.find?_cons, e']
      rw [if_neg e, b]; exact ih
theorem dn_of (ok : HOk P w H h) (g : DNAt P w H a kvs) : (a == sysModules) = false ∧ kvs.length ≤ sizeLine ∧ ∃ xs ys, H a = some (DNo P w a xs) ∧ xs.map (fun x => (x.1, x.2.2)) = kvs ∧ (∀ x ∈ xs, KeyAt H x.2.1 x.1) ∧ Paired NRel xs ys ∧ h.DictOfH (nestedKind P w) a ys := by
  obtain ⟨xs, h1, h2, h3⟩ := g
  obtain ⟨⟨g1, g2, ys, g3, o, es, ep, f1, f2, f3, f4, f5⟩, _⟩ := (show ObjOk P w H h a (DNo P w a xs) from ok a _ h1)
  refine ⟨g1, by rw [← h2, List.length_map]; exact g2, xs, ys, h1, h2, h3, g3, o, es, ep, f1, f2, f3, f4, ?_, f5⟩
  have all : ∀ {l : List (NK × Addr × V)} {m : List (NestedKey × Addr × Value)}, Paired NRel l m → (∀ x ∈ l, KeyAt H x.2.1 x.1) → ∀ y ∈ m, (nestedKind P w).is h y.1 y.2.1 := by
    intro l m q
    induction q with
    | nil => intro _ y hy; exact nomatch hy
    | @cons p q ps qs hq t ih =>
      intro hl y hy
      rcases List.mem_cons.mp hy with e | hy
      · subst e
        rw [← hq.1, ← hq.2.1]
        exact key_nest ok (hl p (List.mem_cons_self ..))
      · exact ih (fun x hx => hl x (List.mem_cons_of_mem _ hx)) y hy
  exact all g3 h3
/-- a store -/
def putX (xs : List (NK × Addr × V)) (k : NK) (b : Addr) (v : V) : List (NK × Addr × V) :=
  if (get (xs.map fun x => (x.1, x.2.2)) k).isSome then xs.map (fun x => if x.1 = k then (x.1, x.2.1, v) else x) else xs ++ [(k, b, v)]
theorem putX_map (xs : List (NK × Addr × V)) (k : NK) (b : Addr) (v : V) : (putX xs k b v).map (fun x => (x.1, x.2.2)) = put (xs.map fun x => (x.1, x.2.2)) k v := by
  unfold putX
  by_cases h : k ∈ keys (xs.map fun x => (x.1, x.2.2))
  · obtain ⟨u, hu⟩ := key_get h
    rw [if_pos (by rw [hu]; rfl)]
    unfold put
    rw [if_pos (any_key.mpr h), List.map_map, List.map_map]
    apply List.map_congr_left
    intro x _
    show (fun x : NK × Addr × V => (x.1, x.2.2)) (if x.1 = k then (x.1, x.2.1, v) else x) = (if (@BEq.beq _ instBEqOfDecidableEq x.1 k) = true then (k, v) else (x.1, x.2.2))
    by_cases q : x.1 = k
    · rw [if_pos q, if_pos (by simp [q])]; simp [q]
    · rw [if_neg q, if_neg (by simp [q])]
  · rw [if_neg (by rw [get_none.mpr h]; simp), put_new h]; simp
theorem nrel_put {xs : List (NK × Addr × V)} {ys : List (NestedKey × Addr × Value)} (r : Paired NRel xs ys) (k : NK) {b : Addr} {v : V} {u : Value} (rv : RelV v u) : Paired NRel (putX xs k b v) (storedH ys (nk k) b u) := by
  have e : (get (xs.map fun x => (x.1, x.2.2)) k).isSome = (atKey ys (nk k)).isSome := by
    have := (nrel_get r k).isSome_eq
    rw [Option.isSome_map] at this; exact this
  unfold putX storedH
  rw [e]
  by_cases q : (atKey ys (nk k)).isSome = true
  · rw [if_pos q, if_pos q]
    clear e q
    induction r with
    | nil => exact .nil
    | @cons p q ps qs h t ih =>
      rw [List.map_cons, List.map_cons]
      refine .cons ?_ ih
      obtain ⟨h1, h2, h3⟩ := h
      unfold putAt
      by_cases z : p.1 = k
      · rw [if_pos z, if_pos (by rw [← h1, z])]; exact ⟨h1, h2, rv⟩
      · rw [if_neg z, if_neg (fun z' => z (nk_inj (h1.trans z')))]; exact ⟨h1, h2, h3⟩
  · rw [if_neg q, if_neg q]; exact Paired.snoc r ⟨rfl, rfl, rv⟩
theorem put_len_le {κ α : Type} [DecidableEq κ] (d : List (κ × α)) (k : κ) (v : α) : (put d k v).length ≤ d.length + 1 := by
  unfold put; split <;> simp
end
section
variable {X : Cx} {pins : List (Addr × Obj)} {σ : L2.St} {H : Hp} {s : Shared} {a b : Addr} {v : V} {u r : Value} {A : Around} {E : Value → Shared → Prop} {kvs : List (NK × V)} {k : NK}
theorem room8 (hu : A.units + 64 < cLine) : (nestedKind X.prog X.w).room A.in1 := by
  show A.units + 1 + 8 < cLine
  omega
theorem x_getItem {Q : Value → Shared → Prop} (hu : A.units + 64 < cLine) (I : Inv X pins σ H s) (g : DNAt X.prog X.w H a kvs) (hk : KeyAt H b k) (hv : get kvs k = some v) (h : ∀ w' s', Inv X pins σ H s' → RelV v w' → Q w' s') :
    wpAny (model X.prog X.w) A (getItem (.ref a) (.ref b)) Q E s := by
  obtain ⟨_, _, xs, ys, _, rfl, _, rel, dd⟩ := dn_of I.hok g
  obtain ⟨w', hw, rw'⟩ := RelO.some_of (v := v) (o := (atKey ys (nk k)).map (·.2)) (by rw [← hv]; exact nrel_get rel k)
  obtain ⟨p, hp, hp2⟩ := Option.map_eq_some_iff.mp hw
  refine wpAny_getItem_heap (room8 hu) (key_nest I.hok hk) dd hp ?_
  rw [hp2]
  exact h w' _ (I.tok _) rw'
theorem x_get2 {Q : Value → Shared → Prop} {d : V} (hu : A.units + 64 < cLine) (I : Inv X pins σ H s) (g : DNAt X.prog X.w H a kvs) (hk : KeyAt H b k) (rd : RelV d r) (h : ∀ w' s', Inv X pins σ H s' → RelV ((get kvs k).getD d) w' → Q w' s') :
    wpAny (model X.prog X.w) A (call (.builtin "dict.get") [.ref a, .ref b, r]) Q E s := by
  obtain ⟨hd, _, xs, ys, _, rfl, _, rel, dd⟩ := dn_of I.hok g
  refine call_meetsIn PySem.F.slot_dict_get dd.typeIs PySem.F.entry_dict_get (PySem.F.args_dict_get_3 _ _ _) (meetsH_dict_get_default (nestedKind X.prog X.w) a b hd r) ⟨room8 hu, nk k, ys, key_nest I.hok hk, dd, h _ _ (I.tok _) ?_⟩
  exact (nrel_get rel k).getD rd
/-- the heap behind a[k] = v -/
theorem x_setItem {Q : Unit → Shared → Prop} (hu : A.units + 64 < cLine) (I : Inv X pins σ H s) (g : DNAt X.prog X.w H a kvs) (hk : KeyAt H b k) (rv : RelV v r) (hl : kvs.length < sizeLine)
    (h : ∀ s' H', Inv X pins σ H' s' → DNAt X.prog X.w H' a (put kvs k v) → (∃ o, H' = upd H a o) → Q () s') :
    wpAny (model X.prog X.w) A (setItem (.ref a) (.ref b) r) Q E s := by
  obtain ⟨hd, _, xs, ys, ha, rfl, hks, rel, dd⟩ := dn_of I.hok g
  have hz : ys.length ≤ sizeLine := by rw [← Paired.length rel]; rw [List.length_map] at hl; omega
  refine wpAny_setItem_heap (hsz := hz) (room8 hu) (key_nest I.hok hk) dd fun h' dd' hs => ?_
  obtain ⟨q, es, ep, hq, h2, h3, h4, _, h5⟩ := dd'
  have hlen : (putX xs k b v).length ≤ sizeLine := by
    have := congrArg List.length (putX_map xs k b v)
    rw [List.length_map] at this
    have := put_len_le (xs.map fun x => (x.1, x.2.2)) k v
    omega
  have tx : TEx H (upd H a (DNo X.prog X.w a (putX xs k b v))) := tex_upd ha fun xs z => nomatch z
  have new : ObjOk X.prog X.w (upd H a (DNo X.prog X.w a (putX xs k b v))) h' a (DNo X.prog X.w a (putX xs k b v)) :=
    ⟨⟨hd, hlen, _, nrel_put rel k rv, q, es, ep, hq, h2, h3, h4, h5⟩, ⟨q, hq⟩, fun h1 h2 p st => by
      obtain ⟨p1, p2, ys, p3, o, es, ep, p4, p5⟩ := p
      exact ⟨p1, p2, ys, p3, o, es, ep, st _ p4, p5⟩⟩
  refine h _ _ (d_write I (by rw [ha]; exact True.intro) hs ⟨q, hq⟩ new) ⟨putX xs k b v, upd_same, putX_map xs k b v, fun x hx => ?_⟩ ⟨_, rfl⟩
  have hin : KeyAt H x.2.1 x.1 := by
    unfold putX at hx
    split at hx
    · obtain ⟨y, hy, rfl⟩ := List.mem_map.mp hx
      split
      · exact hks y hy
      · exact hks y hy
    · rcases List.mem_append.mp hx with hx | hx
      · exact hks x hx
      · rw [List.mem_singleton.mp hx]; exact hk
  exact hin.mono tx
end
/-! ### the rules -/
section
variable (P : Program) (w : World)
def tXNew : TE := fun _ H Q => ∀ p H', H p = none → Ex H H' → DNAt P w H' p [] → Q (.ref p) H'
def tXGet (td ty : TE) : TE := fun σ H Q => td σ H fun x H1 => ty σ H1 fun y H2 => ∃ a b kvs k v, x = .ref a ∧ y = .ref b ∧ DNAt P w H2 a kvs ∧ KeyAt H2 b k ∧ get kvs k = some v ∧ Q v H2
def tXGet2 (td ty tx : TE) : TE := fun σ H Q => td σ H fun x H1 => ∃ a kvs, x = .ref a ∧ DNAt P w H1 a kvs ∧ ty σ H1 fun y H2 => tx σ H2 fun z H3 => ∃ b kvs k, y = .ref b ∧ DNAt P w H3 a kvs ∧ KeyAt H3 b k ∧ Q ((get kvs k).getD z) H3
def sXPut (td ty tv : TE) : TS := fun D σ H => tv σ H fun v H1 => td σ H1 fun x H2 => ty σ H2 fun y H3 => ∃ a b kvs k, x = .ref a ∧ y = .ref b ∧ DNAt P w H3 a kvs ∧ KeyAt H3 b k ∧ kvs.length < sizeLine ∧
  ∀ H4, DNAt P w H4 a (put kvs k v) → (∃ o, H4 = upd H3 a o) → D.nx σ H4
end
section
variable {X : Cx} {o i e f value : Expr} {pos pos' apos cpos : Pos} {td ty tv tx : TE}
theorem pe_dnewX : PE X (.Dict [] [] pos) (tXNew X.prog X.w) := ⟨fun pins s σ H Q I h => by
  have hn := I.hok.fresh (Nat.le_refl s.heap.objs.size)
  refine wpAny_Dict_empty ⟨.ref s.heap.objs.size, upd H s.heap.objs.size (DNo X.prog X.w s.heap.objs.size []), I.laid (a := s.heap.objs.size) (o := DNo X.prog X.w s.heap.objs.size []) (t' := s.toks) (fun _ _ q => Heap.get?_push_of_some _ q) (Nat.le_refl _) ?_, rfl, h _ _ hn (Ex.new hn) ⟨[], upd_same, rfl, fun x hx => nomatch hx⟩⟩
  exact ⟨⟨beq_eq_false_iff_ne.mpr (Ne.symm (Nat.ne_of_lt I.big)), Nat.zero_le _, [], .nil, _, #[], 0, Heap.get?_push_size _ rfl, ⟨rfl, rfl, rfl⟩, rfl, rfl, List.nodup_nil⟩, ⟨_, Heap.get?_push_size _ rfl⟩, fun h1 h2 p st => by
      obtain ⟨p1, p2, ys, p3, o, es, ep, p4, p5⟩ := p
      exact ⟨p1, p2, ys, p3, o, es, ep, st _ p4, p5⟩⟩⟩
theorem dn_typeIs {pins : List (Addr × Obj)} {σ : L2.St} {H : Hp} {s : Shared} {a : Addr} {kvs : List (NK × V)} (I : Inv X pins σ H s) (g : DNAt X.prog X.w H a kvs) :
    s.TypeIs (.ref a) "dict" ∧ (∀ b, Value.ref a = .ref b → ∃ ob, s.heap.get? b = some ob ∧ ob.dict = none) := by
  obtain ⟨_, _, xs, ys, _, _, _, _, dd⟩ := dn_of I.hok g
  refine ⟨dd.typeIs, fun b q => ?_⟩
  cases q
  obtain ⟨ob, _, _, h1, h2, _⟩ := dd
  exact ⟨ob, h1, h2.2.1⟩
theorem pe_xget (hu : X.A.units + 64 < cLine) (ho : PE X o td) (hi : PE X i ty) (hs : NoSl i) : PE X (.Subscript o i pos) (tXGet X.prog X.w td ty) := by
  refine ⟨fun pins s σ H Q I h => ?_⟩
  refine subD_of PySem.F.slot_dict_getitem.lookup hs (thn (ho.run pins s σ H _ I h) fun u s1 ⟨x, H1, I1, rx, q1⟩ => thn (hi.run pins s1 σ H1 _ I1 q1) fun iv s2 ⟨y, H2, I2, ry, a, b, kvs, k, v, ex, ey, g, hk, hv, q2⟩ => ?_)
  subst ex ey
  obtain rfl : u = Value.ref a := rx
  obtain rfl : iv = Value.ref b := ry
  exact ⟨(dn_typeIs I2 g).1, x_getItem hu I2 g hk hv fun w' s3 I3 rw' => ⟨v, H2, I3, rw', q2⟩⟩
theorem pe_xget2 (hu : X.A.units + 64 < cLine) (ho : PE X o td) (he : PE X e ty) (hf : PE X f tx) (m : M2 X o "get" apos e f cpos) : PE X (.Call (.Attribute o "get" apos) [e, f] [] cpos) (tXGet2 X.prog X.w td ty tx) := by
  refine ⟨fun pins s σ H Q I h => ?_⟩
  refine wpAny_Call_method m.base m.few m.line PySem.F.plainAttrs_dict PySem.F.slot_dict_get PySem.F.type_dict_get (thn (ho.run pins s σ H _ I h) fun u s1 ⟨x, H1, I1, rx, a, kvs, ex, d, q1⟩ => ?_)
  subst ex
  obtain rfl : u = Value.ref a := rx
  obtain ⟨t1, t2⟩ := dn_typeIs I1 d
  refine ⟨t1, t2, ?_⟩
  rw [m.trees]
  refine Calls.callWith_builtin rfl (Calls.evalArgs_plain (Calls.spliced_cons (thn (he.run pins s1 σ H1 _ I1 q1) fun iv s2 ⟨y, H2, I2, ry, q2⟩ =>
    Calls.spliced_cons (thn (hf.run pins s2 σ H2 _ I2 q2) fun fv s3 ⟨z, H3, I3, rz, b, kvs, k, ey, g, hk, q3⟩ => Calls.spliced_nil ?_))))
  subst ey
  obtain rfl : iv = Value.ref b := ry
  exact x_get2 hu I3 g hk rz fun w' s4 I4 rw' => ⟨_, H3, I4, rw', q3⟩
theorem ps_xput (hu : X.A.units + 64 < cLine) (ho : PE X o td) (hi : PE X i ty) (hv : PE X value tv) (hs : swapsWith value (some (.Subscript o i pos')) pos.line X.env = pure false) :
    PS X (.Assign [.Subscript o i pos'] value pos) (sXPut X.prog X.w td ty tv) := by
  refine ⟨fun pins s σ H D I h => ?_⟩
  refine wpAny_Assign_Subscript (thn (hv.run pins s σ H _ I h) fun r s1 ⟨v, H1, I1, rv, q1⟩ => thn (ho.run pins s1 σ H1 _ I1 q1) fun u s2 ⟨x, H2, I2, rx, q2⟩ => thn (hi.run pins s2 σ H2 _ I2 q2) fun iv s3 ⟨y, H3, I3, ry, a, b, kvs, k, ex, ey, g, hk, hl, q3⟩ => ?_) hs
  subst ex ey
  obtain rfl : u = Value.ref a := rx
  obtain rfl : iv = Value.ref b := ry
  exact x_setItem hu I3 g hk rv hl fun s4 H4 I4 g4 h4 => ⟨σ, H4, I4, q3 H4 g4 h4⟩
end
/-! ### their evaluation: the key a tuple that is made on the way -/
section
variable {P : Program} {w : World} {σ : L2.St} {H : Hp} {td ty tv tx : TE} {tz : TS} {D : Ends} {a : Addr} {kvs : List (NK × V)} {k : NK} {v : V}
/-- a key is made -/
def EvKey (ty : TE) (σ : L2.St) (H : Hp) (k : NK) : Prop := EvP ty σ H fun y H2 => ∃ b, y = .ref b ∧ KeyAt H2 b k
theorem ek_tup {q : Addr} {t1 t2 : TE} (h1 : Ev t1 σ H (.ref q)) (h2 : Ev t2 σ H (.int k.2)) (hq : H q = some (.tup (k.1.map V.int))) : EvKey (tTup (tCons t1 (tCons t2 tNil))) σ H k := fun H1 e Q c =>
  eu_tup (ea_cons h1 (ea_cons h2 ea_nil)) (by show 2 ≤ 100000; decide) H1 e Q fun p H2 hp e2 h2 => c _ H2 e2 ⟨p, rfl, q, h2, e2 _ _ (e _ _ hq)⟩
theorem ev_xget (ha : Ev td σ H (.ref a)) (hk : EvKey ty σ H k) (g : DNAt P w H a kvs) (hv : get kvs k = some v) : Ev (tXGet P w td ty) σ H v := fun H1 e Q q =>
  ha H1 e _ fun H2 e2 => hk H2 (e.trans e2) _ fun y H3 e3 ⟨b, ey, hb⟩ => ⟨a, b, kvs, k, v, rfl, ey, g.mono ((e.trans e2).trans e3), hb, hv, q H3 (e2.trans e3)⟩
theorem s_xput (hv : Ev tv σ H v) (ha : Ev td σ H (.ref a)) (hk : EvKey ty σ H k) (g : DNAt P w H a kvs) (hl : kvs.length < 100000)
    (q : ∀ H1 H2, Ex H H1 → DNAt P w H2 a (put kvs k v) → (∃ o, H2 = upd H1 a o) → D.nx σ H2) : sXPut P w td ty tv D σ H := hv H (Ex.refl H) _ fun H1 e1 => ha H1 e1 _ fun H2 e2 => hk H2 (e1.trans e2) _ fun y H3 e3 ⟨b, ey, hb⟩ =>
  ⟨a, b, kvs, k, rfl, ey, g.mono ((e1.trans e2).trans e3), hb, sz_lt hl, fun H4 g4 h4 => q H3 H4 ((e1.trans e2).trans e3) g4 h4⟩
theorem q_xput (hv : Ev tv σ H v) (ha : Ev td σ H (.ref a)) (hk : EvKey ty σ H k) (g : DNAt P w H a kvs) (hl : kvs.length < 100000)
    (q : ∀ H1 H2, Ex H H1 → DNAt P w H2 a (put kvs k v) → (∃ o, H2 = upd H1 a o) → tz D σ H2) : tSeq (sXPut P w td ty tv) tz D σ H := s_xput (D := { D with nx := tz D }) hv ha hk g hl q
theorem s_xputP {R : V → Hp → Prop} (hv : EvP tv σ H R) (ha : ∀ H1, Ex H H1 → Ev td σ H1 (.ref a)) (hk : ∀ H1, Ex H H1 → EvKey ty σ H1 k) (g : DNAt P w H a kvs) (hl : kvs.length < 100000)
    (q : ∀ v H0 H1 H2, Ex H H0 → R v H0 → Ex H0 H1 → DNAt P w H2 a (put kvs k v) → (∃ o, H2 = upd H1 a o) → D.nx σ H2) : sXPut P w td ty tv D σ H := hv H (Ex.refl H) _ fun v H1 e1 r => ha H1 e1 H1 (Ex.refl H1) _ fun H2 e2 => hk H2 (e1.trans e2) H2 (Ex.refl H2) _ fun y H3 e3 ⟨b, ey, hb⟩ =>
  ⟨a, b, kvs, k, rfl, ey, g.mono ((e1.trans e2).trans e3), hb, sz_lt hl, fun H4 g4 h4 => q v H1 H3 H4 e1 r (e2.trans e3) g4 h4⟩
theorem q_xputP {R : V → Hp → Prop} (hv : EvP tv σ H R) (ha : ∀ H1, Ex H H1 → Ev td σ H1 (.ref a)) (hk : ∀ H1, Ex H H1 → EvKey ty σ H1 k) (g : DNAt P w H a kvs) (hl : kvs.length < 100000)
    (q : ∀ v H0 H1 H2, Ex H H0 → R v H0 → Ex H0 H1 → DNAt P w H2 a (put kvs k v) → (∃ o, H2 = upd H1 a o) → tz D σ H2) : tSeq (sXPut P w td ty tv) tz D σ H := s_xputP (D := { D with nx := tz D }) hv ha hk g hl q
theorem s_asgX {i : Nat} (q : ∀ p H', H p = none → Ex H H' → DNAt P w H' p [] → D.nx (σ.set i (some (.ref p))) H') : tAsg (tXNew P w) (gName i) D σ H := fun p H' hp e g => q p H' hp e g
theorem q_asgX {i : Nat} (q : ∀ p H', H p = none → Ex H H' → DNAt P w H' p [] → tz D (σ.set i (some (.ref p))) H') : tSeq (tAsg (tXNew P w) (gName i)) tz D σ H := s_asgX (D := { D with nx := tz D }) q
end
end HK

/-! part HKT -/
/-! sorted(set(a list of ints)). The call's road is that of the library's lemmas for a tuple (SetFor) and for a list (SetFrom), joined. -/
namespace HK
open PySem PySem.Spec PyProof.Rows L2 Evl
section
variable {P : Program} {w : World} {A : Around} {E : Value → Shared → Prop} {s : Shared}
abbrev emptyS (w : World) : Obj := { cls := .type "set", dict := none, data := .set #[] 0 (.fresh 0 0 (!w.params.followText "set-order")) }
theorem set_of_list {l : Addr} {items : Array Value} (ns : List Int) {Q : Value → Shared → Prop} (hh : A.handled = none) (hl : s.heap.IsList l items) (hit : IntsAre items.toList ns) (hb : ns.length + 1 < scanBound)
    (h : ∀ (h' : Heap) (tk c : Nat), SetR w h' s.heap.objs.size (fun j => decide (j ∈ ns)) c → c ≤ ns.length → (∀ b o, s.heap.get? b = some o → h'.get? b = some o) → Q (.ref s.heap.objs.size) { s with heap := h', toks := tk }) :
    wpAny (model P w) A (call (.type "set") [.ref l]) Q E s := by
  have hisz : items.size = ns.length := by
    have q := IntsAre.length hit
    rw [Array.length_toList] at q
    exact q
  obtain ⟨c, tl, hmro⟩ := F.called_set.mro
  have hmade := F.called_set.made
  have hsub := F.called_set.sub
  refine wpAny_call (codeAny_of_tree ?_)
  show wpAny _ _ (callAny (.type "set") _) _ _ _
  refine wpAny_pure ⟨Code.quiet_builtin _ (by decide +kernel), codeAny_builtin F.entry_type_call ?_⟩
  rw [Around.under_plain (weight_type_call_type "set" [.ref l] []) rfl]
  have h1 := F.called_set.notType
  have h2 := F.called_set.canCreate
  have hct := F.typeCall_set_1 (.ref l)
  repeat (any_goals (first | assumption | wp_step))
  refine codeAny_mono (code_set_led1 (.ref l) (E := E) (Q₁ := fun obj s₁ => obj = .ref s.heap.objs.size ∧ s₁ = { s with heap := s.heap.push (emptyS w) }) ⟨rfl, rfl⟩) fun r s₁ hr => ?_
  cases r with
  | error e => exact hr
  | ok fl =>
    cases fl with
    | ret obj =>
      obtain ⟨rfl, rfl⟩ := hr
      have hS : (s.heap.push (emptyS w)).get? s.heap.objs.size = some (emptyS w) := Heap.get?_push_size _ rfl
      have hT : Shared.TypeIs { s with heap := s.heap.push (emptyS w) } (.ref s.heap.objs.size) "set" := ⟨_, hS, rfl⟩
      have hli := F.called_set.init.lookup
      have hbi := F.called_set.init.bind (.ref s.heap.objs.size)
      repeat (any_goals (first | assumption | wp_step))
      refine codeAny_mono (codeAny_call_builtin (R := wants (fun r s₂ => r = .none ∧ ∃ h' tk c, s₂ = { s with heap := h', toks := tk } ∧ SetR w h' s.heap.objs.size (fun j => decide (j ∈ ns)) c ∧ c ≤ ns.length ∧
          (∀ b o, s.heap.get? b = some o → h'.get? b = some o)) E) F.called_set.init.plain F.entry_set_init (check_set_init_1 hT ?_)) fun r₂ s₂ hr₂ => ?_
      · obtain ⟨ol, hol, hcl, nl, hdl⟩ := hl
        obtain ⟨ocls, odict, odata, oslots⟩ := ol
        simp only at hcl hdl
        subst hcl; subst hdl
        have hol' : (s.heap.push (emptyS w)).get? l = some { cls := .type "list", dict := odict, data := .seq items nl, slots := oslots } := Heap.get?_push_of_some _ hol
        have hsls := F.sub_list_set
        have hslf := F.sub_list_frozenset
        have hne : (Value.type "list" == Value.type "dict") = false := by decide
        have hl1 : (s.heap.push (emptyS w)).IsList l items := ⟨_, hol', rfl, nl, rfl⟩
        unfold Builtin.«set.__init__» noKeywords Builtin.Frozenset.updateFrom
        generalize hPI : pyIter = PI
        wp_walk
        subst hPI
        refine wpAny_pyIter_list hl1 ?_
        refine wpAny_bind (wpAny_runValue ?_)
        have hlS : l < s.heap.objs.size := Heap.lt_size hol
        have hh3 : A.in1.in1.in1.handled = none := by simp [hh]
        have hneI : l ≠ (s.heap.push (emptyS w)).objs.size := by
          rw [Heap.size_push]; exact Nat.ne_of_lt (Nat.lt_succ_of_lt hlS)
        have hSf : s.heap.objs.size ∉ [(s.heap.push (emptyS w)).objs.size, l] := by
          rw [Heap.size_push]; simp only [List.mem_cons, List.mem_singleton, List.not_mem_nil, or_false, not_or]
          exact ⟨Nat.ne_of_lt (Nat.lt_succ_self _), Nat.ne_of_gt hlS⟩
        have hval : ∀ (i : Nat) (v : Value), items[i]? = some v → ∃ k t, ns[i]? = some k ∧ v = .int k t := fun i v hv => by
          have hi : i < ns.length := by rw [← hisz]; exact (Array.getElem?_eq_some_iff.mp hv).1
          obtain ⟨t, e⟩ := PyProof.Rows.IntsAre.int_at hit i v (by rw [Array.getElem?_toList]; exact hv)
          refine ⟨ns[i], t, List.getElem?_eq_getElem hi, ?_⟩
          rw [e, List.getD_eq_getElem?_getD, List.getElem?_eq_getElem hi] <;> rfl
        refine set_update_ints ((Walks.list hh3 _ l hneI items).toS) s.heap.objs.size
          hSf ns hisz hb hval (items.size - 0) 0 _ (by omega) (Nat.zero_le _)
          ⟨⟨_, Heap.get?_push_size _ rfl, rfl, rfl⟩, (hl1.push _)⟩ ?hS0 ?hR
        case hS0 =>
          exact ⟨0, Nat.le_refl 0, setR_new_at (Heap.get?_push_of_some _ hS)⟩
        case hR =>
          intro s' c' hm hc' hS'
          obtain ⟨h', g2, d', tk', os'⟩ := s'
          have eg : g2 = s.gens := hm.gens
          have ed : d' = s.drawn := hm.drawn
          have eo : os' = s.os := hm.os
          subst eg; subst ed; subst eo
          show wpAny _ _ _ _ _ _
          refine wpAny_pure ?_
          show wpAny _ _ (ret Value.none) _ _ _
          rw [hisz] at hc'
          refine wpAny_pure ⟨rfl, h', tk', c', rfl, hS', hc', fun b o e => ?_⟩
          have hb0 : b < s.heap.objs.size := Heap.lt_size e
          have hb2 : b ≠ (s.heap.push (emptyS w)).objs.size := by
            rw [Heap.size_push]; exact Nat.ne_of_lt (Nat.lt_succ_of_lt hb0)
          exact hm.heap b o (by simp only [List.mem_cons, List.mem_singleton, List.not_mem_nil, or_false, not_or]; exact ⟨Nat.ne_of_lt hb0, hb2⟩) (Heap.get?_push_of_some _ (Heap.get?_push_of_some _ e))
      · cases r₂ with
        | error e => exact hr₂
        | ok fl₂ =>
          cases fl₂ with
          | ret r =>
            obtain ⟨rfl, h', tk, c', rfl, hS', hc', hk'⟩ := hr₂
            repeat (any_goals (first | assumption | wp_step))
            exact h _ _ _ hS' hc' hk'
          | _ => exact hr₂.elim
    | _ => exact hr.elim
end
/-- sorted(set(xs)), xs a list of ints: rising, the same members -/
def tSortedSet (K : PySem.W.Frag) (ta : TE) : TE := fun σ H Q => ta σ H fun x H1 => ∃ (l : Addr) (ns : List Int), x = .ref l ∧ SqL K H1 l (ns.map V.int) ∧ ns.length < 1000 ∧ (∃ m : List Int, m.length < 64 ∧ ∀ k ∈ ns, k ∈ m) ∧
  ∀ (out : List Int) (p : Addr) (H2 : Hp), out.Pairwise (· < ·) → (∀ k, k ∈ out ↔ k ∈ ns) → H1 p = none → Ex H1 H2 → H2 p = some (.lst (out.map V.int)) → Q (.ref p) H2
section
variable {X : Cx}
theorem pe_sortedSet {a : Expr} {ta : TE} {p p2 q pos : Pos} (hg : Gl X "sorted") (hm : X.mg "sorted" = none) (hg2 : Gl X "set") (hm2 : X.mg "set" = none) (ha : PE X a ta) (hc : X.calm = true := by rfl)
    (na : starEach [a] X.env = (false, eval a X.env) :: starEach [] X.env := by rfl) : PE X (.Call (.Name "sorted" p) [.Call (.Name "set" p2) [a] [] q] [] pos) (tSortedSet X.K ta) := by
  refine ⟨fun pins s σ H Q I h => ?_⟩
  refine Call_ (ld_blt I hg hm (u := .builtin "sorted") rfl ?_)
  refine PyProof.Rows.callWith_builtin1 (PyProof.Rows.args_cons ?_ rfl) rfl rfl
  refine Call_ (ld_blt I hg2 hm2 boot_set ?_)
  refine PyProof.Rows.callWith_type1 (PyProof.Rows.args_cons (thn (ha.run pins s σ H _ I h) fun v s1 ⟨x, H1, I1, r1, q1⟩ => PyProof.Rows.args_nil ?_) na) na rfl
  obtain ⟨l, ns, rfl, hq, hlen, ⟨m, hm64, hsub⟩, q1⟩ := q1
  cases r1
  obtain ⟨its, r, pl, hz⟩ := I1.list hq
  refine set_of_list ns (I1.ok.hd hc) pl.isList (by simpa using r.ints) (by unfold scanBound; omega) fun h' tk c R hcn k => ?_
  refine PyProof.Rows.args_nil ?_
  have I2 : Inv X pins σ H1 { s1 with heap := h', toks := tk } := I1.kept k
  have c64 : c < 64 := by
    obtain ⟨o, es, ep, t, ho, hex, hd, g, nd, hm2', hb, hf, hn, _⟩ := R
    have : (es.toList.map keyOf).length ≤ m.length := List.Nodup.length_le_of_subset nd fun z hz => hsub z (by
      have := (hm2' z).mpr hz
      simpa using this)
    rw [List.length_map, Array.length_toList, hn] at this
    omega
  refine sorted_set (s := { s1 with heap := h', toks := tk }) R (I2.ok.hd hc) c64 fun s' p out c2 ns' k2 g o hp hg' hi hs hmm hl => ?_
  have hlen2 : (ns'.map V.int).length ≤ sizeLine := by rw [List.length_map, hl, sizeLine_eq]; omega
  have hn : H1 p = none := I2.hok.fresh hp
  have J := I2.call (h' := s'.heap) (g' := s'.gens) (d' := s'.drawn) (t' := s'.toks) (ch := []) (Un.laid (ex := []) k2 hp hn) (I2.hok.laid k2 hp (o := .lst (ns'.map V.int)) ⟨hlen2, out.toList, c2, vals_of_ints hi, hg'⟩) (by rw [g]; exact I2.bare) (fun _ z => nomatch z)
  have e : s' = { s1 with heap := s'.heap, gens := s'.gens, drawn := s'.drawn, toks := s'.toks } := by
    cases s'
    cases s1
    cases o
    rfl
  rw [e]
  exact ⟨.ref p, _, J, rfl, q1 ns' p _ hs (fun k => by rw [hmm k]; simp) hn (Ex.new hn) upd_same⟩
end
end HK

/-! part HKS -/
/-! sorted by the key (len, itself). -/
namespace HK
open PySem PySem.Spec PyProof.Rows L2 Evl
/-- the lambda's text: (len(v), v) -/
def lamBody (v : Str) (p1 p2 p3 p4 p5 : Pos) (x1 : Nat) : Expr := .Tuple [.Call (.Name "len" p1) [.Name v p2] [] p3, .Name v p4] x1 p5
def kenc (ns : List Int) : PyData := .tuple [.int ns.length, .tuple (ns.map .int)]
theorem readsAll_ints {h : Heap} : ∀ {ns : List Int} {us : List Value}, Vals (ns.map V.int) us → ReadsAll h us (ns.map .int) []
  | [], us, r => by cases r; exact .nil
  | n :: ns, us, r => by
    rw [List.map_cons] at r
    cases r with
    | cons hx ht =>
      obtain ⟨t, rfl⟩ := hx
      exact .cons (as := []) (bs := []) (.int _ _) (readsAll_ints ht)
section
variable {prog : Program} {w : World} {A : Around} {s : Shared}
theorem lam_turn {f c' q : Addr} {qual v : Str} {pm ctv : Value} {params : Arguments} {scope : Scope} {p1 p2 p3 p4 p5 : Pos} {x1 : Nat} {mg mb : Str → Option Value} {ns : List Int} {its : List Value}
    (hr : A.depth < recursionLimit) (hf : s.heap.get? f = some (PySem.W.kla_obj "<lambda>" qual params (lamBody v p1 p2 p3 p4 p5 x1) scope [] pm c' ctv))
    (hc : s.heap.CodeRec (.ref c') qual) (hco : scope.isCoroutine = false) (hgen : scope.isGenerator = false) (hk : scope.kind = .function) (hcell : ∀ x ∈ scope.names, x.2 ≠ .cell)
    (hbind : ∀ u : Value, bindArgs (PySem.W.kla_fn "<lambda>" qual params (lamBody v p1 p2 p3 p4 p5 x1) scope [] pm (.ref c') ctv) ⟨[u], []⟩ = pure [(v, u)])
    (hloc : scope.names.lookup v = some .local) (hlen : scope.names.lookup ("len" : Str) = some .globalImplicit) (hdb : (v == ("__debug__" : Str)) = false)
    (G : s.heap.Ns mainGlobals mg) (hg : mg "len" = none) (B : s.heap.Ns builtinsNs mb) (hb : mb "len" = some (.builtin "len")) (NL : s.heap.NoLimit)
    (hq : IsTup s.heap q its.toArray) (hv : Vals (ns.map V.int) its) (hz : ns.length ≤ sizeLine) :
    wpAny (model prog w) A (call (.ref f) [.ref q]) (PySem.W.KeyPure (kenc ns) s) (fun _ _ => False) s := by
  have hl := hv.length
  rw [List.length_map] at hl
  have hs : sizeLine = 16777216 := sizeLine_eq
  refine wpAny_call (codeAny_mono (PySem.W.kla_callFunE (R := fun r s' => ∃ u, r = .ok (.ret u) ∧ PySem.W.KeyPure (kenc ns) s u s') hr hf rfl hco hgen rfl hc ?_) fun r s' h => ?_)
  · rw [hbind]
    refine wpAny_pure (wpAny_newFunctionEnv hcell (fun y hy => ?_) (fun h₁ hns hsb => ⟨NL.fresh _ hsb, ?_⟩) hk)
    · rw [List.mem_singleton.mp hy]; exact hloc
    have kp : ∀ b o, s.heap.get? b = some o → h₁.get? b = some o := fun b o e => hsb.extBut b o (Nat.ne_of_lt (Heap.lt_size e)) (Heap.get?_push_of_some _ e)
    refine PySem.W.kla_codeExpr ?_
    unfold lamBody
    refine wpAny_Tuple_spliced ?_
    show wpAny _ _ (spliced ((false, eval (.Call (.Name "len" p1) [.Name v p2] [] p3) _) :: backTo p5 (starEach [.Name v p4] _))) _ _ _
    refine Calls.spliced_cons ?_
    refine wpAny_Call_Name_kw (Calls.Name_function_global hk hlen (Calls.loadGlobal_builtin (G.keeps kp) hg (B.keeps kp) hb ?_) (by decide))
    refine PyProof.Rows.callWith_builtin1 (Calls.spliced_cons (wpAny_Name (wpAny_loadName_local hk hloc hns (v := .ref q) (by simp) ?_) hdb)) rfl rfl
    refine Calls.spliced_nil ?_
    have hq1 : IsTup h₁ q its.toArray := by
      obtain ⟨o, h1, h2⟩ := hq
      exact ⟨o, kp _ _ h1, h2⟩
    refine PyProof.Rows.len_tuple hq1 (by simp only [List.size_toArray]; omega) ?_
    show wpAny _ _ (spliced ((false, eval (.Name v p4) _) :: backTo p5 (starEach [] _))) _ _ _
    refine Calls.spliced_cons (wpAny_Name (wpAny_loadName_local hk hloc hns (v := .ref q) (by simp) ?_) hdb)
    refine Calls.spliced_nil ⟨by show 2 ≤ sizeLine; omega, ?_⟩
    refine ⟨_, rfl, _, _, rfl, fun b o e => Heap.get?_push_of_some _ (kp b o e), ?_⟩
    refine .tuple (Heap.get?_push_size _ rfl) rfl rfl ?_
    obtain ⟨o, o1, o2, n, o3⟩ := hq1
    refine .cons (as := []) (bs := []) ?_ (.cons (as := []) (bs := []) ?_ .nil)
    · rw [List.size_toArray, ← hl]; exact .int _ _
    · exact .tuple (Heap.get?_push_of_some _ o1) o2 o3 (readsAll_ints hv)
  · obtain ⟨u, rfl, h⟩ := h
    exact h
end
abbrev TupL := Addr × List Int
def refL (ts : List TupL) : List V := ts.map fun t => V.ref t.1
theorem eachRef : ∀ {ts : List TupL} {us : List Value}, Vals (refL ts) us → PySem.W.EachIs (fun v (t : TupL) => v = Value.ref t.1) us ts
  | [], us, r => by cases r; exact .nil
  | t :: ts, us, r => by
    cases r with
    | cons h q => exact .cons h (eachRef q)
theorem refEach {ts : List TupL} {us : List Value} (e : PySem.W.EachIs (fun v (t : TupL) => v = Value.ref t.1) us ts) : Vals (refL ts) us := by
  induction e with
  | nil => exact .nil
  | cons h _ ih => exact .cons h ih
def kLe (a b : TupL) : Bool := PySem.W.dataLe false (fun x : TupL => kenc x.2) a b
theorem kLe_len {a b : TupL} (h : kLe a b = true) : a.2.length ≤ b.2.length := by
  unfold kLe at h
  rw [PySem.W.dataLe_eq] at h
  have h' : (!PySem.W.dataLt (kenc b.2) (kenc a.2)) = true := h
  unfold kenc at h'
  rw [PySem.W.dataLt_pair (by simp [PySem.W.alike]) (by rw [PySem.W.alike]; exact PySem.W.alike_ints _ _), PySem.W.dataLt_int] at h'
  simp only [PyData.eqv, beq_iff_eq] at h'
  by_cases q : (b.2.length : Int) = a.2.length
  · omega
  · rw [if_neg q] at h'
    simp at h'
    omega
def tSortK (T : List (Addr × Str)) (te : TE) : TE := fun σ H Q => te σ H fun x H1 => LamX.Tabs T H1 ∧ ∃ (a : Addr) (ts : List TupL), x = .ref a ∧ H1 a = some (.lst (refL ts)) ∧ (∀ t ∈ ts, H1 t.1 = some (.tup (t.2.map V.int))) ∧
  ∀ p H2 out, LamX.ExtN H1 H2 → LamX.Tabs T H2 → out.Perm ts → out.Pairwise (fun s t => s.2.length ≤ t.2.length) → (∀ xs, H1 p ≠ some (.lst xs)) → H2 p = some (.lst (refL out)) → Q (.ref p) H2
section
variable {X : Cx}
theorem pe_sortK {T : List (Addr × Str)} {e : Expr} {te : TE} {v : Str} {c P : Addr} {k : Nat} {params : Arguments} {scope : Scope} {p p1 p2 p3 p4 p5 lpos kpos pos : Pos} {x1 : Nat}
    (hg : Gl X "sorted") (hm : X.mg "sorted" = none) (hlm : X.mg "len" = none) (he : PE X e te) (hr : Room k X.A)
    (TB : LamX.TabB X.base X.mg c P) (hcode : X.env.code = .ref c) (hmT : (P, X.env.qual ++ "<lambda>") ∈ T) (hu : ∀ p ∈ T, p.1 = P → p.2 = X.env.qual ++ "<lambda>")
    (hdef : defaultsOf params X.env = ([], [])) (hco : scope.isCoroutine = false) (hgen : scope.isGenerator = false) (hk : scope.kind = .function) (hcell : ∀ x ∈ scope.names, x.2 ≠ .cell) (hfree : ∀ y ∈ scope.names, y.2 ≠ .free)
    (hbind : ∀ (q : Str) (pm cv ctv : Value) (u : Value), bindArgs (PySem.W.kla_fn "<lambda>" q params (lamBody v p1 p2 p3 p4 p5 x1) scope [] pm cv ctv) ⟨[u], []⟩ = pure [(v, u)])
    (hclo : cloFrom X.env.cells scope.names [] = []) (hloc : scope.names.lookup v = some .local) (hlen : scope.names.lookup ("len" : Str) = some .globalImplicit) (hdb : (v == ("__debug__" : Str)) = false)
    (hn : ("sorted" : Str) ≠ "__name__" := by decide)
    (na : backTo pos (starEach [e] X.env) = (false, eval e X.env) :: backTo pos (starEach [] X.env) := by rfl) (hpl : (backTo pos (starEach [e] X.env)).any (·.1) = false := by rfl) :
    PE X (.Call (.Name "sorted" p) [e] [⟨some "key", .Lambda params (lamBody v p1 p2 p3 p4 p5 x1) scope lpos, kpos⟩] pos) (tSortK T te) := by
  refine ⟨fun pins s σ H Q I h => ?_⟩
  refine wpAny_Call_Name_kw (ld_blt I hg hm (u := .builtin "sorted") rfl ?_ hn)
  refine PyProof.Rows.callWith_kw ?_ na hpl
  rw [na]
  refine Calls.spliced_cons (thn (he.run pins s σ H _ I h) fun u0 s1 ⟨x, H1, I1, r1, q1⟩ => Calls.spliced_nil ?_)
  obtain ⟨hT, a, ts, ex, hL, hTs, q⟩ := q1
  subst ex
  obtain rfl : u0 = Value.ref a := r1
  show wpAny _ _ (evalAll ((do let v ← eval (.Lambda params (lamBody v p1 p2 p3 p4 p5 x1) scope lpos) X.env; standAt pos; pure v) :: (backToKw pos (keywordEach [] X.env)).map (·.2))) _ _ s1
  refine wpAny_evalAll_cons (wpAny_bind (LamX.lam_make2 I1 TB hcode hmT hu hT hdef (fun y hy hy2 => absurd hy2 (hfree y hy)) fun f c' pm' ctv H2 s2 I2 eN T2 hf hfn hfr hco2 => wpAny_bind (wpAny_standAt (wpAny_pure (wpAny_evalAll_nil ?_)))))
  rw [hclo] at hf
  show wpAny _ _ (call (.builtin "sorted") [.ref a] [(Str.ofString "key", .ref f)]) _ _ s2
  have hL2 : H2 a = some (.lst (refL ts)) := eN _ _ hL (fun ps z => nomatch z)
  have hTs2 : ∀ t ∈ ts, H2 t.1 = some (.tup (t.2.map V.int)) := fun t ht => eN _ _ (hTs t ht) (fun ps z => nomatch z)
  obtain ⟨its, rv, pl, hz⟩ := I2.list (.inl (.inl hL2))
  have EE := eachRef rv
  have hzl : ts.length ≤ sizeLine := by
    have := hz
    unfold refL at this
    rw [List.length_map] at this
    exact this
  obtain ⟨oc, vs', tq, hoc, hdc, hvc⟩ := (show ObjOk X.prog X.w H2 s2.heap c' (LamX.CodeO c' (X.env.qual ++ "<lambda>")) from I2.hok c' _ hco2).1
  obtain ⟨mb, b1, b2⟩ := I2.mod.blt
  have rd := hr.dp
  have ru := hr.un
  refine PySem.W.sorted_key_data (b := false) (R := fun v (t : TupL) => v = Value.ref t.1) (k := fun t : TupL => kenc t.2) pl.isList EE (PySem.W.AllAlike.of fun x y => ?_) (PySem.W.Sortable.tuples fun t => ⟨_, _, rfl⟩) hzl (fun t ht => ?_) (PyProof.Rows.ksk_s1 _ _) (fun x => PyProof.Rows.ksk_l1 _ _) (fun x => PyProof.Rows.ksk_t1 f x)
    (fun u t hu' ht h tk kp => ?_) fun out cc h' tk kp hfr2 hD hlen' EO => ?_
  · unfold kenc
    rw [PySem.W.alike, PySem.W.alikeAll, PySem.W.alikeAll, PySem.W.alike, PySem.W.alike, PySem.W.alike_ints, PySem.W.alikeAll]
    rfl
  · have : (kenc t.2).depth ≤ 4 := by
      unfold kenc
      rw [PyData.depth, PyData.depthAll, PyData.depthAll, PyData.depth, PyData.depth, PySem.W.depth_ints, PyData.depthAll]
      decide
    omega
  · subst hu'
    have ok2 := I2.hok t.1 _ (hTs2 t ht)
    obtain ⟨z1, its', rv', o, o1, o2, n, o3⟩ := (show ObjOk X.prog X.w H2 s2.heap t.1 (.tup (t.2.map V.int)) from ok2)
    rw [List.length_map] at z1
    refine lam_turn (s := { s2 with heap := h, toks := tk }) (mg := X.mg) (mb := mb) (its := its') (by show X.A.depth < recursionLimit; omega) (kp _ _ hf) ⟨c', oc, vs', tq, rfl, kp _ _ hoc, hdc, hvc⟩ hco hgen hk hcell (fun u => hbind _ _ _ _ u) hloc hlen hdb
      ((I2.mod.glob.keeps I2.bk).keeps kp) hlm ((b1.keeps I2.bk).keeps kp) ((b2 _ (by decide)).trans rfl) (I2.nolimit.keeps kp) ⟨o, kp _ _ o1, o2, n, o3⟩ rv' z1
  · have hn1 : H2 (s2.heap.objs.size + 1) = none := I2.hok.fresh (Nat.le_succ _)
    have pm : (ts.mergeSort kLe).Perm ts := List.mergeSort_perm _ _
    have hsrt : (ts.mergeSort kLe).Pairwise (fun s t => s.2.length ≤ t.2.length) := by
      have := PySem.W.sort_pairwise (PySem.W.sortLe_total (PyProof.Rows.listOrd PyProof.Rows.itemOrd) false fun t : TupL => PySem.W.keyToks (kenc t.2)) ts
      exact List.Pairwise.imp (fun h => kLe_len h) this
    have rout : Vals (refL (ts.mergeSort kLe)) out := refEach EO
    have I3 : Inv X pins σ (upd H2 (s2.heap.objs.size + 1) (.lst (refL (ts.mergeSort kLe)))) { s2 with heap := h', toks := tk } :=
      I2.laid kp (Nat.le_succ _) ⟨by rw [← rout.length] at hlen'; rw [hlen']; exact hzl, out, cc, rout, hD⟩
    exact ⟨.ref _, _, I3, rfl, q _ _ _ (eN.trans (LamX.ExtN.of fun b o e => by rw [upd_ne (ne_of_none e hn1)]; exact e)) (T2.ext fun b o e => by rw [upd_ne (ne_of_none e hn1)]; exact e) pm hsrt (fun xs z => by
      have := eN _ _ z (fun ps y => nomatch y)
      rw [hn1] at this; cases this) upd_same⟩
end
end HK

/-! part HKK -/
/-! Cheapest trees by tables: the mathematics. -/
namespace HK
/-! ### parts -/
def grow (f : List (List Int)) (p : Int) : List (List Int) := f ++ f.map (· ++ [p])
def partsF (hs : List Int) : List (List Int) := hs.foldl grow [[]]
theorem partsF_snoc (hs : List Int) (p : Int) : partsF (hs ++ [p]) = grow (partsF hs) p := by
  unfold partsF; rw [List.foldl_append]; rfl
theorem rev_ind {α : Type} {C : List α → Prop} (h0 : C []) (h1 : ∀ l x, C l → C (l ++ [x])) (l : List α) : C l := by
  have : ∀ m : List α, C m.reverse := by
    intro m
    induction m with
    | nil => exact h0
    | cons x m ih => rw [List.reverse_cons]; exact h1 _ _ ih
  have := this l.reverse
  rwa [List.reverse_reverse] at this
theorem sub_snoc {s hs : List Int} {p : Int} : s.Sublist (hs ++ [p]) ↔ s.Sublist hs ∨ ∃ t, t.Sublist hs ∧ s = t ++ [p] := by
  constructor
  · intro h
    obtain ⟨a, b, rfl, ha, hb⟩ := List.sublist_append_iff.mp h
    cases b with
    | nil => left; simpa using ha
    | cons x b =>
      right
      have hb' := List.sublist_cons_iff.mp hb
      have : x :: b = [p] := by
        have hl := hb.length_le
        simp at hl
        subst hl
        have := hb.subset (List.mem_cons_self ..)
        simp at this
        rw [this]
      exact ⟨a, ha, by rw [this]⟩
  · rintro (h | ⟨t, ht, rfl⟩)
    · exact h.trans (List.sublist_append_left ..)
    · exact List.Sublist.append ht (List.Sublist.refl _)
theorem mem_partsF (hs : List Int) : ∀ s, s ∈ partsF hs ↔ s.Sublist hs := by
  induction hs using rev_ind with
  | h0 => intro s; simp [partsF]
  | h1 hs p ih =>
    intro s
    rw [partsF_snoc, sub_snoc]
    unfold grow
    rw [List.mem_append, ih, List.mem_map]
    constructor
    · rintro (h | ⟨t, ht, rfl⟩)
      · exact .inl h
      · exact .inr ⟨t, (ih t).mp ht, rfl⟩
    · rintro (h | ⟨t, ht, rfl⟩)
      · exact .inl h
      · exact .inr ⟨t, (ih t).mpr ht, rfl⟩
theorem nd_partsF {hs : List Int} (nd : hs.Nodup) : (partsF hs).Nodup := by
  induction hs using rev_ind with
  | h0 => simp [partsF]
  | h1 hs p ih =>
    have nd' := List.nodup_append.mp nd
    have hp : p ∉ hs := fun h => nd'.2.2 p h p (by simp) rfl
    rw [partsF_snoc]
    unfold grow
    rw [List.nodup_append]
    refine ⟨ih nd'.1, ?_, ?_⟩
    · unfold List.Nodup
      rw [List.pairwise_map]
      refine List.Pairwise.imp ?_ (ih nd'.1)
      intro a b hab h
      exact hab (List.append_cancel_right h)
    · intro a ha b hb e
      obtain ⟨t, ht, rfl⟩ := List.mem_map.mp hb
      have h1 := (mem_partsF hs a).mp ha
      have : p ∈ a := by rw [e]; simp
      exact hp (h1.subset this)
theorem len_partsF (hs : List Int) : (partsF hs).length = 2 ^ hs.length := by
  induction hs using rev_ind with
  | h0 => rfl
  | h1 hs p ih =>
    rw [partsF_snoc]
    unfold grow
    simp [ih, Nat.pow_succ]
    omega
structure PartsL (hs : List Int) (out : List (List Int)) : Prop where
  mem : ∀ s, s ∈ out ↔ s ≠ [] ∧ s.Sublist hs
  nd : out.Nodup
  up : out.Pairwise (fun a b => a.length ≤ b.length)
theorem PartsL.of {hs : List Int} (nd : hs.Nodup) {out : List (List Int)} (hp : out.Perm ((partsF hs).filter (fun s => decide (s ≠ [])))) (up : out.Pairwise (fun a b => a.length ≤ b.length)) : PartsL hs out := by
  refine ⟨fun s => ?_, ?_, up⟩
  · rw [hp.mem_iff, List.mem_filter, mem_partsF]
    simp [and_comm]
  · rw [hp.nodup_iff]
    exact (nd_partsF nd).filter _
theorem PartsL.len {hs : List Int} {out : List (List Int)} (p : PartsL hs out) : out.length ≤ 2 ^ hs.length := by
  have : out ⊆ partsF hs := fun s hs' => (mem_partsF hs s).mpr ((p.mem s).mp hs').2
  have := List.Nodup.length_le_of_subset p.nd this
  rwa [len_partsF] at this
/-! ### splits -/
def without (s B : List Int) : List Int := s.filter (fun h => !decide (h ∈ B))
structure SplitsL (s : List Int) (ps : List (List Int × List Int)) : Prop where
  mem : ∀ A B, (A, B) ∈ ps ↔ (B ≠ [] ∧ B.Sublist s.tail ∧ A = without s B)
theorem split_facts {s A B : List Int} (nd : s.Nodup) (h : B ≠ [] ∧ B.Sublist s.tail ∧ A = without s B) :
    A ≠ [] ∧ B ≠ [] ∧ A.Sublist s ∧ B.Sublist s ∧ A.length < s.length ∧ B.length < s.length ∧ ∀ x ∈ s, x ∈ A ∨ x ∈ B := by
  obtain ⟨h1, h2, rfl⟩ := h
  cases s with
  | nil => simp at h2; exact absurd h2 h1
  | cons x t =>
    have h2 : B.Sublist t := h2
    have xt := (List.nodup_cons.mp nd).1
    have xB : x ∉ B := fun q => xt (h2.subset q)
    refine ⟨?_, h1, List.filter_sublist, h2.trans (List.sublist_cons_self ..), ?_, ?_, fun y hy => ?_⟩
    · have : x ∈ without (x :: t) B := by unfold without; rw [List.mem_filter]; exact ⟨List.mem_cons_self .., by simp [xB]⟩
      intro e; rw [e] at this; simp at this
    · obtain ⟨y, hy⟩ := List.exists_mem_of_ne_nil _ h1
      have hyt := h2.subset hy
      unfold without
      apply List.length_filter_lt_length_iff_exists.mpr
      exact ⟨y, List.mem_cons_of_mem _ hyt, by simp [hy]⟩
    · have := h2.length_le
      simp; omega
    · by_cases q : y ∈ B
      · exact .inr q
      · left; unfold without; rw [List.mem_filter]; exact ⟨hy, by simp [q]⟩
theorem split_len {s A B : List Int} (nd : s.Nodup) (h : B ≠ [] ∧ B.Sublist s.tail ∧ A = without s B) : A.length + B.length = s.length := by
  obtain ⟨_, h2, rfl⟩ := h
  have hB : B.Sublist s := h2.trans (List.tail_sublist s)
  have e1 : (s.filter (fun h => decide (h ∈ B))).length ≤ B.length := List.Nodup.length_le_of_subset (nd.filter _) fun x hx => by simpa using (List.mem_filter.mp hx).2
  have e2 : B.length ≤ (s.filter (fun h => decide (h ∈ B))).length := List.Nodup.length_le_of_subset (nd.sublist hB) fun x hx => List.mem_filter.mpr ⟨hB.subset hx, by simpa using hx⟩
  have e3 : ∀ l : List Int, (l.filter (fun h => !decide (h ∈ B))).length + (l.filter (fun h => decide (h ∈ B))).length = l.length := by
    intro l
    induction l with
    | nil => rfl
    | cons x l ih =>
      by_cases q : x ∈ B
      · simp [q]; omega
      · simp [q]; omega
  have := e3 s
  unfold without
  omega
theorem split_cover {s : List Int} {ps : List (List Int × List Int)} (S : SplitsL s ps) (q : Int → Bool) (h1 : s.filter q ≠ []) (h2 : s.filter (fun x => !q x) ≠ []) :
    (s.filter q, s.filter (fun x => !q x)) ∈ ps ∨ (s.filter (fun x => !q x), s.filter q) ∈ ps := by
  have key : ∀ q : Int → Bool, s.filter (fun x => !q x) ≠ [] → (∀ x t, s = x :: t → q x = true) → (s.filter q, s.filter (fun x => !q x)) ∈ ps := by
    intro q h2 hx
    rw [S.mem]
    refine ⟨h2, ?_, ?_⟩
    · cases s with
      | nil => simp at h2
      | cons x t =>
        have : (x :: t).filter (fun x => !q x) = t.filter (fun x => !q x) := by
          rw [List.filter_cons, if_neg]; simp [hx x t rfl]
        rw [this]; exact List.filter_sublist
    · unfold without
      apply List.filter_congr
      intro x hx'
      by_cases z : q x = true
      · simp [z]
      · simp [z, hx']
  cases hs : s with
  | nil => rw [hs] at h1; simp at h1
  | cons x t =>
    by_cases z : q x = true
    · left
      rw [← hs]
      exact key q h2 fun y u e => by rw [hs] at e; cases e; exact z
    · right
      rw [← hs]
      have := key (fun x => !q x) (by simpa using h1) fun y u e => by rw [hs] at e; cases e; simpa using z
      simpa using this

/-! ### the lower bound -/
abbrev TF := NK → Option Int
structure Lower (N : Net) (hs : List Int) (T : TF) : Prop where
  one : ∀ h ∈ hs, ∃ v, T ([h], h) = some v ∧ v ≤ 0
  road : ∀ s, s ≠ [] → s.Sublist hs → ∀ r ∈ N.rs, ∀ u, T (s, r.j) = some u → ∃ v, T (s, r.i) = some v ∧ v ≤ r.p + u
  part : ∀ s, s ≠ [] → s.Sublist hs → ∀ (q : Int → Bool) p a b, s.filter q ≠ [] → s.filter (fun x => !q x) ≠ [] → T (s.filter q, p) = some a → T (s.filter (fun x => !q x), p) = some b → ∃ v, T (s, p) = some v ∧ v ≤ a + b
theorem sum_bump {l : List Int} (nd : l.Nodup) {f g : Int → Int} {p c : Int} (c0 : 0 ≤ c) (h : ∀ x ∈ l, f x ≤ g x + (if x = p then c else 0)) : (l.map f).sum ≤ (l.map g).sum + c := by
  induction l with
  | nil => simpa using c0
  | cons a l ih =>
    have nd' := List.nodup_cons.mp nd
    simp only [List.map_cons, List.sum_cons]
    have ha := h a (List.mem_cons_self ..)
    by_cases e : a = p
    · subst e
      rw [if_pos rfl] at ha
      have : (l.map f).sum ≤ (l.map g).sum := sum_map_le fun x hx => by
        have := h x (List.mem_cons_of_mem _ hx)
        rw [if_neg (fun z => nd'.1 (by rw [← z]; exact hx))] at this
        omega
      omega
    · rw [if_neg e] at ha
      have := ih nd'.2 fun x hx => h x (List.mem_cons_of_mem _ hx)
      omega
theorem Grown.nodup {N : Net} {root : Int} {d : D} (g : Grown N root d) : (root :: keys d).Nodup := by
  induction g with
  | nil => simp [keys]
  | @snoc d k v g hv hr hk hh ih =>
    rw [keys_snoc, ← List.cons_append]
    exact nd_snoc ih (by simp; exact ⟨hr, hk⟩)
theorem cst_snoc {N : Net} {d : D} {k v : Int} : cst N (d ++ [(k, v)]) = cst N d + N.cost v k := by simp [cst]
theorem cost_nonneg {N : Net} (ok : N.Ok) (i j : Int) : 0 ≤ N.cost i j := by
  unfold Net.cost
  cases h : N.road i j with
  | none => exact Int.le_refl _
  | some r => exact (ok.rs r (road_some h).1).p0
/-- the hearers that stand at x -/
def at_ (hs : List Int) (a : Int → Int) (x : Int) : List Int := hs.filter (fun h => decide (a h = x))
def wt (T : TF) (hs : List Int) (a : Int → Int) (x : Int) : Int := if at_ hs a x = [] then 0 else (T (at_ hs a x, x)).getD 0
theorem lower_gen {N : Net} (ok : N.Ok) {hs : List Int} {T : TF} (L : Lower N hs T) (hne : hs ≠ []) {root : Int} {d : D} (g : Grown N root d) :
    ∀ a : Int → Int, (∀ h ∈ hs, a h = root ∨ a h ∈ keys d) → (∀ x, at_ hs a x ≠ [] → ∃ v, T (at_ hs a x, x) = some v) →
      ∃ v, T (hs, root) = some v ∧ v ≤ ((root :: keys d).map (wt T hs a)).sum + cst N d := by
  induction g with
  | nil =>
    intro a ha hT
    have e : at_ hs a root = hs := by
      unfold at_
      apply List.filter_eq_self.mpr
      intro h hh
      rcases ha h hh with q | q
      · simp [q]
      · simp [keys] at q
    obtain ⟨v, hv⟩ := hT root (by rw [e]; exact hne)
    rw [e] at hv
    refine ⟨v, hv, ?_⟩
    have : wt T hs a root = v := by unfold wt; rw [e, if_neg hne, hv]; rfl
    simp [keys, cst, this]
  | @snoc d k p g hp hr hk hh ih =>
    intro a ha hT
    have ndr := g.nodup
    have c0 := cost_nonneg ok p k
    have pk : p ≠ k := by
      rintro rfl
      rcases hp with q | q
      · exact hr q
      · exact hk q
    have sumk : ((root :: keys (d ++ [(k, p)])).map (wt T hs a)).sum = ((root :: keys d).map (wt T hs a)).sum + wt T hs a k := by
      rw [keys_snoc]; simp; omega
    rw [sumk, cst_snoc]
    by_cases hA : at_ hs a k = []
    · have ha' : ∀ h ∈ hs, a h = root ∨ a h ∈ keys d := fun h hh' => by
        rcases ha h hh' with q | q
        · exact .inl q
        · rw [keys_snoc] at q
          rcases List.mem_append.mp q with q | q
          · exact .inr q
          · exfalso
            have : h ∈ at_ hs a k := by unfold at_; rw [List.mem_filter]; exact ⟨hh', by simpa using q⟩
            rw [hA] at this; simp at this
      obtain ⟨v, h1, h2⟩ := ih a ha' hT
      have : wt T hs a k = 0 := by unfold wt; rw [if_pos hA]
      exact ⟨v, h1, by omega⟩
    · obtain ⟨u, hu⟩ := hT k hA
      obtain ⟨r, hr1, hr2, hr3, hr4⟩ := has_cost ok hh
      have subk : (at_ hs a k).Sublist hs := List.filter_sublist
      have wk : wt T hs a k = u := by unfold wt; rw [if_neg hA, hu]; rfl
      obtain ⟨w, hw, hwle⟩ := L.road (at_ hs a k) hA subk r hr1 u (by rw [hr3]; exact hu)
      rw [hr2] at hw
      -- the hearers at k move to p
      have e1 : ∀ x, x ≠ p → x ≠ k → at_ hs (fun h => if a h = k then p else a h) x = at_ hs a x := fun x h1 h2 => by
        unfold at_
        apply List.filter_congr
        intro h _
        by_cases q : a h = k
        · have q1 : ¬ p = x := fun z => h1 z.symm
          have q2 : ¬ k = x := fun z => h2 z.symm
          simp [q, q1, q2]
        · simp [q]
      have e2 : at_ hs (fun h => if a h = k then p else a h) k = [] := by
        unfold at_
        apply List.filter_eq_nil_iff.mpr
        intro h _
        by_cases q : a h = k
        · simp [q, pk]
        · simp [q]
      have e3 : at_ hs (fun h => if a h = k then p else a h) p = hs.filter (fun h => decide (a h = k) || decide (a h = p)) := by
        unfold at_
        apply List.filter_congr
        intro h _
        by_cases q : a h = k
        · simp [q]
        · simp [q]
      have f1 : (hs.filter (fun h => decide (a h = k) || decide (a h = p))).filter (fun h => decide (a h = k)) = at_ hs a k := by
        unfold at_
        rw [List.filter_filter]
        apply List.filter_congr
        intro h _
        by_cases q : a h = k <;> simp [q]
      have f2 : (hs.filter (fun h => decide (a h = k) || decide (a h = p))).filter (fun h => !decide (a h = k)) = at_ hs a p := by
        unfold at_
        rw [List.filter_filter]
        apply List.filter_congr
        intro h _
        by_cases q : a h = k
        · have : ¬ k = p := fun z => pk z.symm
          simp [q, this]
        · simp [q]
      have ex : ∃ z, T (at_ hs (fun h => if a h = k then p else a h) p, p) = some z ∧ z ≤ wt T hs a p + (r.p + u) := by
        rw [e3]
        by_cases hB : at_ hs a p = []
        · have e4 : hs.filter (fun h => decide (a h = k) || decide (a h = p)) = at_ hs a k := by
            rw [← f1]
            symm
            apply List.filter_eq_self.mpr
            intro h hh'
            apply Decidable.byContradiction
            intro q
            have : h ∈ (hs.filter (fun h => decide (a h = k) || decide (a h = p))).filter (fun h => !decide (a h = k)) := by
              rw [List.mem_filter]; exact ⟨hh', by simpa using q⟩
            rw [f2, hB] at this; simp at this
          rw [e4]
          refine ⟨w, hw, ?_⟩
          have : wt T hs a p = 0 := by unfold wt; rw [if_pos hB]
          omega
        · obtain ⟨y, hy⟩ := hT p hB
          have wp : wt T hs a p = y := by unfold wt; rw [if_neg hB, hy]; rfl
          have hne' : hs.filter (fun h => decide (a h = k) || decide (a h = p)) ≠ [] := fun z => by
            rw [z] at f1; simp at f1; exact hA f1
          obtain ⟨z, hz, hzl⟩ := L.part _ hne' List.filter_sublist (fun h => decide (a h = k)) p w y (by rw [f1]; exact hA) (by rw [f2]; exact hB) (by rw [f1]; exact hw) (by rw [f2]; exact hy)
          exact ⟨z, hz, by omega⟩
      obtain ⟨z, hz, hzl⟩ := ex
      have hzne : at_ hs (fun h => if a h = k then p else a h) p ≠ [] := by
        rw [e3]; intro q; rw [q] at f1; simp at f1; exact hA f1
      have ha' : ∀ h ∈ hs, (if a h = k then p else a h) = root ∨ (if a h = k then p else a h) ∈ keys d := fun h hh' => by
        by_cases q : a h = k
        · rw [if_pos q]; exact hp
        · rw [if_neg q]
          rcases ha h hh' with q' | q'
          · exact .inl q'
          · rw [keys_snoc] at q'
            rcases List.mem_append.mp q' with q' | q'
            · exact .inr q'
            · exact absurd (by simpa using q') q
      obtain ⟨v, h1, h2⟩ := ih (fun h => if a h = k then p else a h) ha' fun x hx => by
        by_cases q1 : x = p
        · subst q1; exact ⟨z, hz⟩
        · by_cases q2 : x = k
          · subst q2; exact absurd e2 hx
          · rw [e1 x q1 q2] at hx ⊢; exact hT x hx
      refine ⟨v, h1, ?_⟩
      have u0 : 0 ≤ r.p + u ∨ r.p + u < 0 := by omega
      have wp' : wt T hs (fun h => if a h = k then p else a h) p = z := by unfold wt; rw [if_neg hzne, hz]; rfl
      -- the sum
      have : ((root :: keys d).map (wt T hs (fun h => if a h = k then p else a h))).sum ≤ ((root :: keys d).map (wt T hs a)).sum + (r.p + u) := by
        have hpin : p ∈ root :: keys d := by rcases hp with q | q <;> simp [q]
        have key : ∀ l : List Int, l.Nodup → k ∉ l → p ∈ l → (l.map (wt T hs (fun h => if a h = k then p else a h))).sum ≤ (l.map (wt T hs a)).sum + (r.p + u) := by
          intro l
          induction l with
          | nil => intro _ _ h; simp at h
          | cons x l ihl =>
            intro nd' hk' hp'
            have nd2 := List.nodup_cons.mp nd'
            simp only [List.map_cons, List.sum_cons]
            have same : ∀ y, y ≠ p → y ≠ k → wt T hs (fun h => if a h = k then p else a h) y = wt T hs a y := fun y h1 h2 => by unfold wt; rw [e1 y h1 h2]
            by_cases q : x = p
            · subst q
              rw [wp']
              have : (l.map (wt T hs (fun h => if a h = k then x else a h))).sum = (l.map (wt T hs a)).sum := sum_map_congr fun y hy => same y (fun z => nd2.1 (z ▸ hy)) (fun z => hk' (by rw [← z]; exact List.mem_cons_of_mem _ hy))
              omega
            · have hk2 : k ∉ l := fun z => hk' (List.mem_cons_of_mem _ z)
              have := ihl nd2.2 hk2 (by rcases List.mem_cons.mp hp' with z | z; exact absurd z.symm q; exact z)
              rw [same x q (fun z => hk' (by rw [← z]; exact List.mem_cons_self ..))]
              omega
        exact key _ ndr (by simp; exact ⟨hr, hk⟩) hpin
      rw [wk]
      omega
theorem lower_le {N : Net} (ok : N.Ok) {hs : List Int} {T : TF} (L : Lower N hs T) (hne : hs ≠ []) (nd : hs.Nodup) {root : Int} {d : D} (g : Grown N root d) (hin : ∀ h ∈ hs, h = root ∨ h ∈ keys d) : ∃ v, T (hs, root) = some v ∧ v ≤ cst N d := by
  have e : ∀ x, at_ hs (fun h => h) x ≠ [] → at_ hs (fun h => h) x = [x] ∧ x ∈ hs := by
    intro x hx
    obtain ⟨y, hy⟩ := List.exists_mem_of_ne_nil _ hx
    unfold at_ at hy
    obtain ⟨h1, h2⟩ := List.mem_filter.mp hy
    have : y = x := by simpa using h2
    subst this
    refine ⟨?_, h1⟩
    have hall : ∀ z ∈ at_ hs (fun h => h) y, z = y := fun z hz => by
      unfold at_ at hz
      simpa using (List.mem_filter.mp hz).2
    have ndf : (at_ hs (fun h => h) y).Nodup := nd.filter _
    match hm : at_ hs (fun h => h) y with
    | [] => exact absurd hm hx
    | [z] => rw [hall z (by rw [hm]; simp)]
    | z :: z' :: l =>
      rw [hm] at ndf hall
      have e1 := hall z (by simp)
      have e2 := hall z' (by simp)
      rw [e1, e2] at ndf
      simp at ndf
  obtain ⟨v, h1, h2⟩ := lower_gen ok L hne g (fun h => h) hin fun x hx => by
    obtain ⟨e1, e2⟩ := e x hx
    obtain ⟨v, hv, _⟩ := L.one x e2
    rw [e1]; exact ⟨v, hv⟩
  refine ⟨v, h1, ?_⟩
  have : ((root :: keys d).map (wt T hs (fun h => h))).sum ≤ ((root :: keys d).map fun _ => (0 : Int)).sum := sum_map_le fun x _ => by
    unfold wt
    split
    · exact Int.le_refl _
    · next hx =>
      obtain ⟨e1, e2⟩ := e x hx
      obtain ⟨v, hv, hv0⟩ := L.one x e2
      rw [e1, hv]; exact hv0
  rw [sum_zero] at this
  omega
end HK

/-! part HKL -/
/-! Plans: what a table's numbers are made of. -/
namespace HK
abbrev Hw := Int ⊕ (List Int × List Int)
abbrev MF := NK → Option Hw
abbrev RF := NK → Option (Option Int)
def val (R : RF) (k : NK) : Option Int := (R k).getD none
def sumO (a b : Option Int) : Option Int := match a, b with
  | some x, some y => some (x + y)
  | _, _ => none
def lessO (a b : Option Int) : Bool := match a, b with
  | none, _ => false
  | some _, none => true
  | some x, some y => decide (x < y)
inductive Plan (N : Net) (M : MF) (ok : List Int → Prop) : NK → Nat → Int → Prop where
  | here {p : Int} : ok [p] → M ([p], p) = none → Plan N M ok ([p], p) 1 0
  | road {s : List Int} {r : Road} {n : Nat} {c : Int} : ok s → M (s, r.i) = some (.inl r.j) → r ∈ N.rs → Plan N M ok (s, r.j) n c → Plan N M ok (s, r.i) (n + 1) (r.p + c)
  | parts {s A B : List Int} {p : Int} {n m : Nat} {c d : Int} : ok s → M (s, p) = some (.inr (A, B)) → (∀ h ∈ s, h ∈ A ∨ h ∈ B) → Plan N M ok (A, p) n c → Plan N M ok (B, p) m d → Plan N M ok (s, p) (n + m + 1) (c + d)
theorem Plan.mono {N : Net} {M M' : MF} {ok ok' : List Int → Prop} (h : ∀ s p, ok s → M' (s, p) = M (s, p)) (ho : ∀ s, ok s → ok' s) {k : NK} {n : Nat} {c : Int} (P : Plan N M ok k n c) : Plan N M' ok' k n c := by
  induction P with
  | here h1 h2 => exact .here (ho _ h1) (by rw [h _ _ h1]; exact h2)
  | road h1 h2 h3 _ ih => exact .road (ho _ h1) (by rw [h _ _ h1]; exact h2) h3 ih
  | parts h1 h2 h3 _ _ i1 i2 => exact .parts (ho _ h1) (by rw [h _ _ h1]; exact h2) h3 i1 i2
theorem Plan.pos {N : Net} {M : MF} {ok : List Int → Prop} {k : NK} {n : Nat} {c : Int} (P : Plan N M ok k n c) : 1 ≤ n := by
  cases P <;> omega
/-- a cell by parts or by itself -/
def Base (N : Net) (M0 : MF) (ok : List Int → Prop) (s : List Int) (p : Int) (h : Option Hw) (v : Int) : Prop :=
  (s = [p] ∧ h = none ∧ v = 0) ∨ ∃ A B nA cA nB cB, h = some (.inr (A, B)) ∧ (∀ x ∈ s, x ∈ A ∨ x ∈ B) ∧ Plan N M0 ok (A, p) nA cA ∧ Plan N M0 ok (B, p) nB cB ∧ cA + cB ≤ v ∧ nA + nB + 28 ≤ 28 * s.length
structure Cell (N : Net) (R0 : RF) (M0 : MF) (ok : List Int → Prop) (s : List Int) (p : Int) (ps : List (List Int × List Int)) (o : Option Int) (h : Option Hw) : Prop where
  src : ∀ v, o = some v → 0 ≤ v ∧ Base N M0 ok s p h v
  one : s = [p] → ∃ v, o = some v ∧ v ≤ 0
  part : ∀ A B, (A, B) ∈ ps → ∀ a b, val R0 (A, p) = some a → val R0 (B, p) = some b → ∃ v, o = some v ∧ v ≤ a + b
theorem Cell.start {N : Net} {R0 : RF} {M0 : MF} {ok : List Int → Prop} {s : List Int} {p : Int} : Cell N R0 M0 ok s p [] (if s = [p] then some 0 else none) none := by
  by_cases e : s = [p]
  · rw [if_pos e]
    exact { src := fun v hv => by
              cases hv
              exact ⟨Int.le_refl _, .inl ⟨e, rfl, rfl⟩⟩
            one := fun _ => ⟨0, rfl, Int.le_refl _⟩
            part := fun A B h => absurd h (by simp) }
  · rw [if_neg e]
    exact { src := fun v hv => nomatch hv
            one := fun q => absurd q e
            part := fun A B h => absurd h (by simp) }
/-- the whole table, as far as it is done -/
structure TI (N : Net) (ds : List (List Int)) (R : RF) (M : MF) : Prop where
  pres : ∀ s ∈ ds, ∀ p, 0 ≤ p → p < N.n → ∃ o, R (s, p) = some o
  out : ∀ s, s ∉ ds → ∀ p, R (s, p) = none ∧ M (s, p) = none
  rng : ∀ s p v, val R (s, p) = some v → 0 ≤ v ∧ 0 ≤ p ∧ p < N.n
  plan : ∀ s ∈ ds, ∀ p v, val R (s, p) = some v → ∃ n c, Plan N M (· ∈ ds) (s, p) n c ∧ c ≤ v ∧ n + 14 ≤ 28 * s.length
  one : ∀ h, [h] ∈ ds → 0 ≤ h → h < N.n → ∃ v, val R ([h], h) = some v ∧ v ≤ 0
  road : ∀ s ∈ ds, ∀ r ∈ N.rs, ∀ u, val R (s, r.j) = some u → ∃ v, val R (s, r.i) = some v ∧ v ≤ r.p + u
  part : ∀ s ∈ ds, ∀ ps, SplitsL s ps → ∀ A B, (A, B) ∈ ps → ∀ p a b, val R (A, p) = some a → val R (B, p) = some b → ∃ v, val R (s, p) = some v ∧ v ≤ a + b
theorem TI.nil (N : Net) : TI N [] (fun _ => none) (fun _ => none) := by
  refine ⟨fun s h => by simp at h, fun s _ p => ⟨rfl, rfl⟩, fun s p v h => by simp [val] at h, fun s h => by simp at h, fun h hh => by simp at hh, fun s h => by simp at h, fun s h => by simp at h⟩
theorem Cell.step {N : Net} {ds : List (List Int)} {R0 : RF} {M0 : MF} (I : TI N ds R0 M0) {s : List Int} {p : Int} {ps : List (List Int × List Int)} {o : Option Int} {h : Option Hw} (C : Cell N R0 M0 (· ∈ ds) s p ps o h)
    {A B : List Int} (hA : A ∈ ds) (hB : B ∈ ds) (hc : ∀ x ∈ s, x ∈ A ∨ x ∈ B) (hlen : A.length + B.length = s.length) (hl : lessO (sumO (val R0 (A, p)) (val R0 (B, p))) o = true) :
    Cell N R0 M0 (· ∈ ds) s p (ps ++ [(A, B)]) (sumO (val R0 (A, p)) (val R0 (B, p))) (some (.inr (A, B))) := by
  cases ha : val R0 (A, p) with
  | none => rw [ha] at hl; simp [sumO, lessO] at hl
  | some a =>
    cases hb : val R0 (B, p) with
    | none => rw [ha, hb] at hl; simp [sumO, lessO] at hl
    | some b =>
      rw [ha, hb] at hl
      have a0 := (I.rng _ _ _ ha).1
      have b0 := (I.rng _ _ _ hb).1
      obtain ⟨nA, cA, PA, lA, bA⟩ := I.plan A hA p a ha
      obtain ⟨nB, cB, PB, lB, bB⟩ := I.plan B hB p b hb
      have lt : ∀ v, o = some v → a + b < v := fun v hv => by
        rw [hv] at hl; simpa [sumO, lessO] using hl
      refine ⟨fun v hv => ?_, fun e => ?_, fun A' B' hm a' b' ha' hb' => ?_⟩
      · simp [sumO] at hv
        exact ⟨by omega, .inr ⟨A, B, nA, cA, nB, cB, rfl, hc, PA, PB, by omega, by omega⟩⟩
      · obtain ⟨v, h1, h2⟩ := C.one e
        have := lt v h1
        omega
      · refine ⟨a + b, rfl, ?_⟩
        rcases List.mem_append.mp hm with hm | hm
        · obtain ⟨v, h1, h2⟩ := C.part A' B' hm a' b' ha' hb'
          have := lt v h1
          omega
        · have e := List.mem_singleton.mp hm
          cases e
          rw [ha] at ha'; rw [hb] at hb'
          cases ha'; cases hb'
          exact Int.le_refl _
theorem Cell.keep {N : Net} {ds : List (List Int)} {R0 : RF} {M0 : MF} {s : List Int} {p : Int} {ps : List (List Int × List Int)} {o : Option Int} {h : Option Hw} (C : Cell N R0 M0 (· ∈ ds) s p ps o h)
    {A B : List Int} (hl : lessO (sumO (val R0 (A, p)) (val R0 (B, p))) o = false) : Cell N R0 M0 (· ∈ ds) s p (ps ++ [(A, B)]) o h := by
  refine ⟨C.src, C.one, fun A' B' hm a' b' ha' hb' => ?_⟩
  rcases List.mem_append.mp hm with hm | hm
  · exact C.part A' B' hm a' b' ha' hb'
  · have e := List.mem_singleton.mp hm
    cases e
    rw [ha', hb'] at hl
    cases o with
    | none => simp [sumO, lessO] at hl
    | some v => simp [sumO, lessO] at hl; exact ⟨v, rfl, hl⟩
/-! ### a column -/
structure Col (N : Net) (M0 : MF) (ok : List Int → Prop) (s : List Int) (M : MF) (cd : D) (st : Int → Nat) (S : Nat) : Prop where
  src : ∀ p v, get cd p = some v → Base N M0 ok s p (M (s, p)) v ∨ ∃ r ∈ N.rs, r.i = p ∧ M (s, p) = some (.inl r.j) ∧ ∃ u, get cd r.j = some u ∧ r.p + u ≤ v ∧ (u < v ∨ (u = v ∧ st r.j < st p))
  cl : ∀ x, st x < S
def updM {κ α : Type} [DecidableEq κ] (M : κ → Option α) (k : κ) (h : α) : κ → Option α := fun x => if x = k then some h else M x
theorem Col.step {N : Net} (ok' : N.Ok) {M0 : MF} {ok : List Int → Prop} {s : List Int} {M : MF} {cd : D} {st : Int → Nat} {S : Nat} (C : Col N M0 ok s M cd st S) {r : Road} (hr : r ∈ N.rs) {u : Int} (hu : get cd r.j = some u) (hw : ∀ w, get cd r.i = some w → r.p + u < w) :
    Col N M0 ok s (updM M (s, r.i) (.inl r.j)) (put cd r.i (r.p + u)) (fun x => if x = r.i then S else st x) (S + 1) := by
  have rk := ok'.rs r hr
  have ij : ¬ r.j = r.i := fun q => rk.ne q.symm
  have p0 := rk.p0
  refine ⟨fun p v hv => ?_, fun x => ?_⟩
  · rw [get_put] at hv
    by_cases e : p = r.i
    · subst e
      rw [if_pos rfl] at hv
      cases hv
      refine .inr ⟨r, hr, rfl, by simp [updM], u, by rw [get_put, if_neg ij]; exact hu, Int.le_refl _, ?_⟩
      have := C.cl r.j
      by_cases z : r.p = 0
      · right; exact ⟨by omega, by rw [if_neg ij, if_pos rfl]; exact this⟩
      · left; omega
    · rw [if_neg e] at hv
      have eM : updM M (s, r.i) (.inl r.j) (s, p) = M (s, p) := by
        unfold updM; rw [if_neg]; intro q; exact e (Prod.mk.inj q).2
      rw [eM]
      rcases C.src p v hv with h | ⟨r', h1, h2, h3, u', h4, h5, h6⟩
      · exact .inl h
      · refine .inr ⟨r', h1, h2, h3, ?_⟩
        by_cases q : r'.j = r.i
        · rw [q] at h4
          have := hw u' h4
          have p0' := (ok'.rs r' h1).p0
          exact ⟨r.p + u, by rw [get_put, if_pos q], by omega, .inl (by omega)⟩
        · exact ⟨u', by rw [get_put, if_neg q]; exact h4, h5, by rw [if_neg q, if_neg e]; exact h6⟩
  · show (if x = r.i then S else st x) < S + 1
    have := C.cl x
    split <;> omega
/-- how many places stand lower -/
def rank (ks : List Int) (mu : Int → Nat) (p : Int) : Nat := (ks.filter (fun x => decide (mu x < mu p))).length
theorem rank_lt {ks : List Int} (nd : ks.Nodup) {mu : Int → Nat} {i j : Int} (hj : j ∈ ks) (h : mu j < mu i) : rank ks mu j < rank ks mu i := by
  unfold rank
  have nj : j ∉ ks.filter (fun x => decide (mu x < mu j)) := fun q => by
    have := (List.mem_filter.mp q).2
    simp at this
  have := List.Nodup.length_le_of_subset (l₁ := j :: ks.filter (fun x => decide (mu x < mu j))) (l₂ := ks.filter (fun x => decide (mu x < mu i))) (List.nodup_cons.mpr ⟨nj, nd.filter _⟩) (fun x hx => by
    rcases List.mem_cons.mp hx with rfl | hx
    · exact List.mem_filter.mpr ⟨hj, by simpa using h⟩
    · obtain ⟨h1, h2⟩ := List.mem_filter.mp hx
      have h2' : mu x < mu j := by simpa using h2
      exact List.mem_filter.mpr ⟨h1, by simp; omega⟩)
  simp only [List.length_cons] at this
  omega
theorem rank_le (ks : List Int) (mu : Int → Nat) (p : Int) : rank ks mu p ≤ ks.length := List.length_filter_le _ _
def cmu (cd : D) (st : Int → Nat) (S : Nat) (p : Int) : Nat := ((get cd p).getD 0).toNat * (S + 1) + st p
theorem Col.done {N : Net} {M0 : MF} {ok ok2 : List Int → Prop} {s : List Int} {M : MF} {cd : D} {st : Int → Nat} {S : Nat} (C : Col N M0 ok s M cd st S) (h0 : ∀ e ∈ cd, 0 ≤ e.2) (nd : (keys cd).Nodup) (hsl : 1 ≤ s.length)
    (hM : ∀ t p, ok t → M (t, p) = M0 (t, p)) (ho : ∀ t, ok t → ok2 t) (hs : ok2 s) : ∀ (m : Nat) (p v : Int), get cd p = some v → rank (keys cd) (cmu cd st S) p < m → ∃ n c, Plan N M ok2 (s, p) n c ∧ c ≤ v ∧ n + 27 ≤ 28 * s.length + rank (keys cd) (cmu cd st S) p
  | 0, _, _, _, h => absurd h (Nat.not_lt_zero _)
  | m + 1, p, v, hv, h => by
    rcases C.src p v hv with h1 | ⟨r, h1, h2, h3, u, h4, h5, h6⟩
    · rcases h1 with ⟨e, h2, h3⟩ | ⟨A, B, nA, cA, nB, cB, h2, h3, h4, h5, h6, h7⟩
      · subst e
        exact ⟨1, 0, .here hs h2, by omega, by simp⟩
      · exact ⟨_, _, .parts hs h2 h3 (h4.mono hM ho) (h5.mono hM ho), h6, by omega⟩
    · subst h2
      have v0 := h0 _ (get_mem hv)
      have u0 := h0 _ (get_mem h4)
      simp at v0 u0
      have cj := C.cl r.j
      have lt : cmu cd st S r.j < cmu cd st S r.i := by
        unfold cmu
        rw [hv, h4]
        show u.toNat * (S + 1) + st r.j < v.toNat * (S + 1) + st r.i
        rcases h6 with h6 | ⟨h6, h7⟩
        · obtain ⟨k, hk⟩ : ∃ k, v.toNat = u.toNat + 1 + k := ⟨v.toNat - u.toNat - 1, by omega⟩
          rw [hk, Nat.add_mul, Nat.add_mul]
          omega
        · rw [h6]; omega
      have rl := rank_lt nd (get_key h4) lt
      obtain ⟨n, c, P, hc, hn⟩ := Col.done C h0 nd hsl hM ho hs m r.j u h4 (by omega)
      exact ⟨_, _, .road hs h3 h1 P, by omega, by omega⟩
/-- the column as a dict of places -/
def colD (n : Nat) (t : Int → Option Int) : D := (List.range n).filterMap (fun i : Nat => (t (i : Int)).map fun v => ((i : Int), v))
theorem colD_succ (n : Nat) (t : Int → Option Int) : colD (n + 1) t = colD n t ++ (match t n with | none => [] | some v => [((n : Int), v)]) := by
  unfold colD
  rw [List.range_succ, List.filterMap_append]
  cases h : t n <;> simp [h]
theorem colD_keys (n : Nat) (t : Int → Option Int) : (keys (colD n t)).Nodup ∧ ∀ k ∈ keys (colD n t), 0 ≤ k ∧ k < n := by
  induction n with
  | zero => simp [colD, keys]
  | succ n ih =>
    rw [colD_succ]
    cases h : t n with
    | none => exact ⟨by simpa using ih.1, fun k hk => by have := ih.2 k (by simpa using hk); omega⟩
    | some v =>
      have nk : (n : Int) ∉ keys (colD n t) := fun q => by have := ih.2 _ q; omega
      rw [keys_snoc]
      refine ⟨nd_snoc ih.1 nk, fun k hk => ?_⟩
      rcases List.mem_append.mp hk with hk | hk
      · have := ih.2 k hk; omega
      · simp at hk; omega
theorem colD_get (n : Nat) (t : Int → Option Int) (p : Int) (h0 : 0 ≤ p) : get (colD n t) p = if p < n then t p else none := by
  induction n with
  | zero =>
    have : ¬ p < (0 : Nat) := by omega
    rw [if_neg this]; rfl
  | succ n ih =>
    rw [colD_succ]
    cases h : t n with
    | none =>
      simp only [List.append_nil]
      rw [ih]
      by_cases e : p = n
      · subst e; rw [h]; simp
      · by_cases q : p < n
        · have : p < (n + 1 : Nat) := by omega
          rw [if_pos q, if_pos this]
        · have : ¬ p < (n + 1 : Nat) := by omega
          rw [if_neg q, if_neg this]
    | some v =>
      have nk : (n : Int) ∉ keys (colD n t) := fun q => by have := (colD_keys n t).2 _ q; omega
      rw [get_snoc nk, ih]
      by_cases e : p = n
      · subst e; rw [if_pos rfl, h, if_pos (by omega)]
      · rw [if_neg e]
        by_cases q : p < n
        · have : p < (n + 1 : Nat) := by omega
          rw [if_pos q, if_pos this]
        · have : ¬ p < (n + 1 : Nat) := by omega
          rw [if_neg q, if_neg this]
/-! ### roads by a plan -/
inductive Conn (E : List (Int × Int)) (root : Int) : Int → Prop where
  | root : Conn E root root
  | step {i j : Int} : (i, j) ∈ E → Conn E root i → Conn E root j
theorem Conn.mono {E E' : List (Int × Int)} {root : Int} (h : ∀ e ∈ E, e ∈ E') {x : Int} (c : Conn E root x) : Conn E' root x := by
  induction c with
  | root => exact .root
  | step h1 _ ih => exact .step (h _ h1) ih
abbrev RowE := NK × Nat × Int
def rowN (row : List RowE) : Nat := (row.map fun e => e.2.1).sum
def rowC (row : List RowE) : Int := (row.map fun e => e.2.2).sum
def ecost (N : Net) (E : List (Int × Int)) : Int := (E.map fun e => N.cost e.1 e.2).sum
structure RI (N : Net) (M : MF) (ok : List Int → Prop) (hs : List Int) (root C : Int) (row : List RowE) (E : List (Int × Int)) : Prop where
  plans : ∀ e ∈ row, Plan N M ok e.1 e.2.1 e.2.2
  cost : rowC row + ecost N E = C
  edge : ∀ e ∈ E, N.has e.1 e.2
  conn : ∀ e ∈ row, Conn E root e.1.2
  serve : ∀ h ∈ hs, Conn E root h ∨ ∃ e ∈ row, h ∈ e.1.1
theorem rowN_snoc (row : List RowE) (e : RowE) : rowN (row ++ [e]) = rowN row + e.2.1 := by simp [rowN]
theorem rowC_snoc (row : List RowE) (e : RowE) : rowC (row ++ [e]) = rowC row + e.2.2 := by simp [rowC]
theorem ecost_snoc (N : Net) (E : List (Int × Int)) (e : Int × Int) : ecost N (E ++ [e]) = ecost N E + N.cost e.1 e.2 := by simp [ecost]
theorem RI.here {N : Net} {M : MF} {ok : List Int → Prop} {hs : List Int} {root C : Int} {row : List RowE} {E : List (Int × Int)} {k : NK} {n : Nat} {c : Int} (I : RI N M ok hs root C (row ++ [(k, n, c)]) E) (hM : M k = none) :
    RI N M ok hs root C row E := by
  have P := I.plans _ (List.mem_append.mpr (.inr (List.mem_singleton.mpr rfl)))
  simp at P
  cases P with
  | @here p h1 h2 =>
    refine ⟨fun e he => I.plans e (List.mem_append.mpr (.inl he)), ?_, I.edge, fun e he => I.conn e (List.mem_append.mpr (.inl he)), fun h hh => ?_⟩
    · have := I.cost; rw [rowC_snoc] at this; simpa using this
    · rcases I.serve h hh with q | ⟨e, he, hm⟩
      · exact .inl q
      · rcases List.mem_append.mp he with he | he
        · exact .inr ⟨e, he, hm⟩
        · have e1 := List.mem_singleton.mp he
          subst e1
          left
          have : h = p := by simpa using hm
          rw [this]
          exact I.conn _ (List.mem_append.mpr (.inr (List.mem_singleton.mpr rfl)))
  | road _ h2 _ _ => rw [hM] at h2; cases h2
  | parts _ h2 _ _ _ => rw [hM] at h2; cases h2
theorem RI.road {N : Net} (ok' : N.Ok) {M : MF} {ok : List Int → Prop} {hs : List Int} {root C : Int} {row : List RowE} {E : List (Int × Int)} {s : List Int} {p j : Int} {n : Nat} {c : Int} (I : RI N M ok hs root C (row ++ [((s, p), n, c)]) E) (hM : M (s, p) = some (.inl j)) :
    ∃ n' c', n' < n ∧ RI N M ok hs root C (row ++ [((s, j), n', c')]) (E ++ [(p, j)]) := by
  have P := I.plans _ (List.mem_append.mpr (.inr (List.mem_singleton.mpr rfl)))
  have cp := I.conn _ (List.mem_append.mpr (.inr (List.mem_singleton.mpr rfl)))
  simp at P cp
  generalize hk : ((s, p) : NK) = k at P
  cases P with
  | here _ h2 => rw [← hk, hM] at h2; cases h2
  | @road s' r n' c' h1 h2 h3 h4 =>
    cases hk
    rw [hM] at h2
    cases h2
    have sub : ∀ e ∈ E, e ∈ E ++ [(r.i, r.j)] := fun e he => List.mem_append.mpr (.inl he)
    refine ⟨n', c', Nat.lt_succ_self _, ⟨fun e he => ?_, ?_, fun e he => ?_, fun e he => ?_, fun h hh => ?_⟩⟩
    · rcases List.mem_append.mp he with he | he
      · exact I.plans e (List.mem_append.mpr (.inl he))
      · rw [List.mem_singleton.mp he]; exact h4
    · have := I.cost
      rw [rowC_snoc] at this ⊢
      rw [ecost_snoc]
      simp at this ⊢
      rw [cost_of ok' h3]
      omega
    · rcases List.mem_append.mp he with he | he
      · exact I.edge e he
      · rw [List.mem_singleton.mp he]; exact ⟨r, h3, rfl, rfl⟩
    · rcases List.mem_append.mp he with he | he
      · exact (I.conn e (List.mem_append.mpr (.inl he))).mono sub
      · rw [List.mem_singleton.mp he]
        exact .step (List.mem_append.mpr (.inr (List.mem_singleton.mpr rfl))) (cp.mono sub)
    · rcases I.serve h hh with q | ⟨e, he, hm⟩
      · exact .inl (q.mono sub)
      · rcases List.mem_append.mp he with he | he
        · exact .inr ⟨e, List.mem_append.mpr (.inl he), hm⟩
        · have e1 := List.mem_singleton.mp he
          subst e1
          exact .inr ⟨_, List.mem_append.mpr (.inr (List.mem_singleton.mpr rfl)), hm⟩
  | parts _ h2 _ _ _ => cases hk; rw [hM] at h2; cases h2
theorem RI.parts {N : Net} {M : MF} {ok : List Int → Prop} {hs : List Int} {root C : Int} {row : List RowE} {E : List (Int × Int)} {s A B : List Int} {p : Int} {n : Nat} {c : Int} (I : RI N M ok hs root C (row ++ [((s, p), n, c)]) E) (hM : M (s, p) = some (.inr (A, B))) :
    ∃ nA cA nB cB, nA + nB < n ∧ RI N M ok hs root C (row ++ [((A, p), nA, cA), ((B, p), nB, cB)]) E := by
  have P := I.plans _ (List.mem_append.mpr (.inr (List.mem_singleton.mpr rfl)))
  have cp := I.conn _ (List.mem_append.mpr (.inr (List.mem_singleton.mpr rfl)))
  simp at P cp
  generalize hk : ((s, p) : NK) = k at P
  cases P with
  | here _ h2 => rw [← hk, hM] at h2; cases h2
  | road _ h2 _ _ => cases hk; rw [hM] at h2; cases h2
  | @parts s' A' B' p' n' m' c' d' h1 h2 h3 h4 h5 =>
    cases hk
    rw [hM] at h2
    cases h2
    refine ⟨n', c', m', d', by omega, ⟨fun e he => ?_, ?_, I.edge, fun e he => ?_, fun h hh => ?_⟩⟩
    · rcases List.mem_append.mp he with he | he
      · exact I.plans e (List.mem_append.mpr (.inl he))
      · simp at he
        rcases he with rfl | rfl
        · exact h4
        · exact h5
    · have := I.cost
      rw [rowC_snoc] at this
      simp [rowC] at this ⊢
      omega
    · rcases List.mem_append.mp he with he | he
      · exact I.conn e (List.mem_append.mpr (.inl he))
      · simp at he
        rcases he with rfl | rfl <;> exact cp
    · rcases I.serve h hh with q | ⟨e, he, hm⟩
      · exact .inl q
      · rcases List.mem_append.mp he with he | he
        · exact .inr ⟨e, List.mem_append.mpr (.inl he), hm⟩
        · have e1 := List.mem_singleton.mp he
          subst e1
          rcases h3 h hm with q | q
          · exact .inr ⟨((A, p), n', c'), by simp, q⟩
          · exact .inr ⟨((B, p), m', d'), by simp, q⟩
/-! ### a trim tree -/
theorem Grown.mu {N : Net} {root : Int} {d : D} (g : Grown N root d) : ∃ (mu : Int → Nat) (S : Nat), (∀ x, mu x < S) ∧ ∀ k v, get d k = some v → mu v < mu k ∧ (v = root ∨ v ∈ keys d) ∧ N.has v k := by
  induction g with
  | nil => exact ⟨fun _ => 0, 1, fun _ => Nat.one_pos, fun k v h => by simp [get_nil] at h⟩
  | @snoc d k v g hv hr hk hh ih =>
    obtain ⟨mu, S, h1, h2⟩ := ih
    refine ⟨fun x => if x = k then S else mu x, S + 1, fun x => ?_, fun x y hx => ?_⟩
    · show (if x = k then S else mu x) < S + 1
      have := h1 x
      split <;> omega
    · rw [get_snoc hk] at hx
      rw [keys_snoc]
      by_cases e : x = k
      · rw [if_pos e] at hx
        cases hx
        have vk : ¬ v = k := fun q => by
          subst q
          rcases hv with q | q
          · exact hr q
          · exact hk q
        refine ⟨by show (if v = k then S else mu v) < (if x = k then S else mu x); rw [if_neg vk, if_pos e]; exact h1 v, hv.imp id fun q => List.mem_append.mpr (.inl q), by rw [e]; exact hh⟩
      · rw [if_neg e] at hx
        obtain ⟨q1, q2, q3⟩ := h2 x y hx
        have yk : ¬ y = k := fun q => by
          subst q
          rcases q2 with q | q
          · exact hr q
          · exact hk q
        exact ⟨by show (if y = k then S else mu y) < (if x = k then S else mu x); rw [if_neg yk, if_neg e]; exact q1, q2.imp id fun q => List.mem_append.mpr (.inl q), q3⟩
theorem Grown.onward {N : Net} {root : Int} {d : D} (g : Grown N root d) : ∃ mu : Int → Nat, ∀ l : D, Onward N root l (root :: keys d) d mu := by
  obtain ⟨mu, S, _, h⟩ := g.mu
  refine ⟨mu, fun l => ⟨fun x hx => ?_⟩⟩
  rcases List.mem_cons.mp hx with q | q
  · exact .inl q
  · obtain ⟨v, hv⟩ := key_get q
    obtain ⟨h1, h2, h3⟩ := h x v hv
    exact .inr (.inr ⟨v, hv, by rcases h2 with z | z <;> simp [z], h3, h1⟩)
theorem sub_sum {α : Type} [DecidableEq α] {f : α → Int} (h0 : ∀ x, 0 ≤ f x) : ∀ {L E : List α}, L.Nodup → (∀ x ∈ L, x ∈ E) → (L.map f).sum ≤ (E.map f).sum
  | [], E, _, _ => by
    have := sum_nonneg (l := E) (f := f) fun x _ => h0 x
    simpa using this
  | a :: L, E, nd, h => by
    have nd' := List.nodup_cons.mp nd
    have ha := h a (List.mem_cons_self ..)
    have ih := sub_sum h0 (L := L) (E := E.erase a) nd'.2 fun x hx => (List.mem_erase_of_ne (fun q => nd'.1 (by rw [← q]; exact hx))).mpr (h x (List.mem_cons_of_mem _ hx))
    have pe := perm_sum ((List.perm_cons_erase ha).map f)
    simp only [List.map_cons, List.sum_cons] at pe ⊢
    omega
theorem kept_cost {N : Net} (ok : N.Ok) {l : D} {E : List (Int × Int)} (nd : (keys l).Nodup) (h : ∀ e ∈ l, (e.2, e.1) ∈ E) : cst N l ≤ ecost N E := by
  have : cst N l = ((l.map fun e => (e.2, e.1)).map fun e => N.cost e.1 e.2).sum := by
    unfold cst; rw [List.map_map]; rfl
  rw [this]
  refine sub_sum (fun e => cost_nonneg ok _ _) ?_ (fun x hx => by
    obtain ⟨e, he, rfl⟩ := List.mem_map.mp hx
    exact h e he)
  unfold List.Nodup
  rw [List.pairwise_map]
  have : l.Pairwise (fun a b => a.1 ≠ b.1) := by
    have := nd
    unfold keys List.Nodup at this
    rwa [List.pairwise_map] at this
  refine List.Pairwise.imp ?_ this
  intro a b h1 h2
  exact h1 (Prod.mk.inj h2).2
end HK

/-! part HKP -/
/-! A column more. -/
namespace HK
theorem split_ne {s A B : List Int} (nd : s.Nodup) (h : B ≠ [] ∧ B.Sublist s.tail ∧ A = without s B) : A.length < s.length ∧ B.length < s.length :=
  ⟨(split_facts nd h).2.2.2.2.1, (split_facts nd h).2.2.2.2.2.1⟩
theorem TI.step {N : Net} (ok' : N.Ok) {ds : List (List Int)} {R R2 : RF} {M M2 : MF} (I : TI N ds R M) {s : List Int} {cd : D} {B : Int} {st : Int → Nat} {S : Nat} (hs : s ∉ ds) (hne : s ≠ []) (nds : s.Nodup) (hds : ∀ t ∈ ds, t.Nodup ∧ t.length ≤ s.length)
    (sub : ∀ A C, C ≠ [] ∧ C.Sublist s.tail ∧ A = without s C → A ∈ ds ∧ C ∈ ds)
    (oth : ∀ k : NK, k.1 ≠ s → R2 k = R k ∧ M2 k = M k) (out : ∀ p, ¬ (0 ≤ p ∧ p < N.n) → R2 (s, p) = none ∧ M2 (s, p) = none) (eq : ∀ p, 0 ≤ p → p < N.n → R2 (s, p) = some (get cd p)) (bf : BF N.n B cd)
    (col : Col N M (· ∈ ds) s M2 cd st S) (stl : ∀ r ∈ N.rs, ∀ u, get cd r.j = some u → ∃ v, get cd r.i = some v ∧ v ≤ r.p + u)
    (cells : ∀ p, 0 ≤ p → p < N.n → ∃ ps o h, SplitsL s ps ∧ Cell N R M (· ∈ ds) s p ps o h ∧ ∀ v, o = some v → ∃ u, get cd p = some u ∧ u ≤ v) : TI N (ds ++ [s]) R2 M2 := by
  have ne : ∀ t ∈ ds, t ≠ s := fun t ht e => hs (e ▸ ht)
  have valo : ∀ t p, t ≠ s → val R2 (t, p) = val R (t, p) := fun t p ht => by unfold val; rw [(oth (t, p) ht).1]
  have vals : ∀ p, 0 ≤ p → p < N.n → val R2 (s, p) = get cd p := fun p h0 h1 => by unfold val; rw [eq p h0 h1]; rfl
  have valn : ∀ p v, val R2 (s, p) = some v → 0 ≤ p ∧ p < N.n ∧ get cd p = some v := fun p v h => by
    by_cases q : 0 ≤ p ∧ p < N.n
    · exact ⟨q.1, q.2, by rw [← vals p q.1 q.2]; exact h⟩
    · unfold val at h
      rw [(out p q).1] at h; cases h
  refine ⟨fun t ht p p0 p1 => ?_, fun t ht p => ?_, fun t p v hv => ?_, fun t ht p v hv => ?_, fun h hh h0 h1 => ?_, fun t ht r hr u hu => ?_, fun t ht ps hps A C hAC p a b ha hb => ?_⟩
  · rcases List.mem_append.mp ht with ht | ht
    · obtain ⟨o, ho⟩ := I.pres t ht p p0 p1
      exact ⟨o, by rw [(oth (t, p) (ne t ht)).1]; exact ho⟩
    · rw [List.mem_singleton.mp ht]; exact ⟨_, eq p p0 p1⟩
  · have h1 : t ∉ ds := fun q => ht (List.mem_append.mpr (.inl q))
    have h2 : t ≠ s := fun q => ht (List.mem_append.mpr (.inr (by rw [q]; simp)))
    rw [(oth (t, p) h2).1, (oth (t, p) h2).2]
    exact I.out t h1 p
  · by_cases e : t = s
    · subst e
      obtain ⟨h0, h1, h2⟩ := valn p v hv
      have := bf.lo _ (get_mem h2)
      exact ⟨this, h0, h1⟩
    · rw [valo t p e] at hv; exact I.rng t p v hv
  · rcases List.mem_append.mp ht with ht | ht
    · rw [valo t p (ne t ht)] at hv
      obtain ⟨n, c, P, hc, hn⟩ := I.plan t ht p v hv
      exact ⟨n, c, P.mono (fun t' p' h' => (oth (t', p') (ne t' h')).2) (fun t' h' => List.mem_append.mpr (.inl h')), hc, hn⟩
    · have e := List.mem_singleton.mp ht
      subst e
      obtain ⟨h0, h1, h2⟩ := valn p v hv
      have hsl : 1 ≤ t.length := by
        cases t with
        | nil => exact absurd rfl hne
        | cons x l => simp
      obtain ⟨n, c, P, hc, hn⟩ := Col.done (ok2 := (· ∈ ds ++ [t])) col bf.lo bf.nd hsl (fun t' p' h' => (oth (t', p') (ne t' h')).2) (fun t' h' => List.mem_append.mpr (.inl h')) (List.mem_append.mpr (.inr (by simp))) _ p v h2 (Nat.lt_succ_self _)
      have h12 := bf.len ok'.n12
      have hk : (keys cd).length = cd.length := by simp [keys]
      have hr := rank_le (keys cd) (cmu cd st S) p
      exact ⟨n, c, P, hc, by omega⟩
  · rcases List.mem_append.mp hh with hh | hh
    · rw [valo _ h (ne _ hh)]; exact I.one h hh h0 h1
    · have e := List.mem_singleton.mp hh
      obtain ⟨ps, o, hw, _, C, hd⟩ := cells h h0 h1
      obtain ⟨v, hv, v0⟩ := C.one e.symm
      obtain ⟨u, hu, hl⟩ := hd v hv
      rw [e, vals h h0 h1]
      exact ⟨u, hu, by omega⟩
  · have rk := ok'.rs r hr
    rcases List.mem_append.mp ht with ht | ht
    · rw [valo t _ (ne t ht)] at hu ⊢; exact I.road t ht r hr u hu
    · have e := List.mem_singleton.mp ht
      subst e
      rw [vals _ rk.j0 rk.j1] at hu
      rw [vals _ rk.i0 rk.i1]
      exact stl r hr u hu
  · have hsp := (hps.mem A C).mp hAC
    rcases List.mem_append.mp ht with ht | ht
    · obtain ⟨l1, l2⟩ := split_ne (hds t ht).1 hsp
      have l3 := (hds t ht).2
      rw [valo t p (ne t ht)]
      rw [valo A p (fun e => by rw [e] at l1; omega)] at ha
      rw [valo C p (fun e => by rw [e] at l2; omega)] at hb
      exact I.part t ht ps hps A C hAC p a b ha hb
    · have e := List.mem_singleton.mp ht
      subst e
      obtain ⟨hA, hC⟩ := sub A C hsp
      rw [valo A p (ne A hA)] at ha
      rw [valo C p (ne C hC)] at hb
      obtain ⟨_, p0, p1⟩ := I.rng A p a ha
      obtain ⟨ps', o, hw, hps', Ce, hd⟩ := cells p p0 p1
      obtain ⟨v, hv, hl⟩ := Ce.part A C ((hps'.mem A C).mpr hsp) a b ha hb
      obtain ⟨u, hu, hl2⟩ := hd v hv
      rw [vals p p0 p1]
      exact ⟨u, hu, by omega⟩
/-- all is done: the lower bound, the plans -/
theorem TI.lower {N : Net} {hs : List Int} {ds : List (List Int)} {R : RF} {M : MF} (I : TI N ds R M) (P : PartsL hs ds) (hr : ∀ h ∈ hs, 0 ≤ h ∧ h < N.n) (splits : ∀ s, ∃ ps, SplitsL s ps) : Lower N hs (val R) := by
  refine ⟨fun h hh => ?_, fun s hne hsub r hr' u hu => I.road s ((P.mem s).mpr ⟨hne, hsub⟩) r hr' u hu, fun s hne hsub q p a b h1 h2 ha hb => ?_⟩
  · have := hr h hh
    exact I.one h ((P.mem [h]).mpr ⟨by simp, List.singleton_sublist.mpr hh⟩) this.1 this.2
  · obtain ⟨ps, hps⟩ := splits s
    have hs := (P.mem s).mpr ⟨hne, hsub⟩
    rcases split_cover hps q h1 h2 with h | h
    · exact I.part s hs ps hps _ _ h p a b ha hb
    · obtain ⟨v, hv, hl⟩ := I.part s hs ps hps _ _ h p b a hb ha
      exact ⟨v, hv, by omega⟩
theorem splits_ex (s : List Int) : ∃ ps, SplitsL s ps := by
  refine ⟨((partsF s.tail).filter (fun B => decide (B ≠ []))).map fun B => (without s B, B), ⟨fun A B => ?_⟩⟩
  rw [List.mem_map]
  constructor
  · rintro ⟨C, hC, e⟩
    cases e
    rw [List.mem_filter, mem_partsF] at hC
    exact ⟨by simpa using hC.2, hC.1, rfl⟩
  · rintro ⟨h1, h2, rfl⟩
    exact ⟨B, by rw [List.mem_filter, mem_partsF]; exact ⟨h2, by simpa using h1⟩, rfl⟩
theorem vsum_ge : ∀ {d : D}, (∀ e ∈ d, 0 ≤ e.2) → ∀ e ∈ d, e.2 ≤ vsum d
  | [], _, e, he => by simp at he
  | x :: d, h, e, he => by
    have h0 := vsum_nonneg fun e he => h e (List.mem_cons_of_mem _ he)
    have hx := h x (List.mem_cons_self ..)
    have e1 : vsum (x :: d) = x.2 + vsum d := by simp [vsum]
    rw [e1]
    rcases List.mem_cons.mp he with rfl | he
    · omega
    · have := vsum_ge (fun e he => h e (List.mem_cons_of_mem _ he)) e he
      omega
theorem colD_BF {n : Int} (n0 : 0 ≤ n) {t : Int → Option Int} (h : ∀ p v, t p = some v → 0 ≤ v) : BF n (vsum (colD n.toNat t)) (colD n.toNat t) := by
  obtain ⟨h1, h2⟩ := colD_keys n.toNat t
  have lo : ∀ e ∈ colD n.toNat t, 0 ≤ e.2 := fun e he => by
    unfold colD at he
    obtain ⟨i, _, hi⟩ := List.mem_filterMap.mp he
    obtain ⟨v, hv, rfl⟩ := Option.map_eq_some_iff.mp hi
    exact h _ v hv
  refine ⟨h1, fun k hk => by have := h2 k hk; omega, lo, fun e he => ?_⟩
  have := vsum_ge lo e he
  omega
end HK

/-! part HKM -/
/-! The walks of cheapest.py: parts, splits. -/
namespace HK
open PySem PySem.Spec PyProof.Rows L2 Evl
open C8 (Cal Met Mak pe_c pe_mk pe_mt pe_mt0 pe_gc fnScope_by)
set_option hygiene false in
local macro_rules | `(tactic| walk_at "len") => `(tactic| (intro vs H Q E h; first
  | (obtain ⟨rfl, _⟩ := h; rfl)
  | (obtain ⟨_, rfl, _⟩ := h; rfl)
  | (obtain ⟨_, _, rfl, _⟩ := h; rfl)
  | (obtain ⟨_, _, _, rfl, _⟩ := h; rfl)
  | (obtain ⟨_, _, _, _, rfl, _⟩ := h; rfl)
  | (obtain ⟨_, _, _, _, _, rfl, _⟩ := h; rfl)
  | (obtain ⟨_, _, _, _, _, _, rfl, _⟩ := h; rfl)
  | (obtain ⟨_, _, _, _, _, _, _, rfl, _⟩ := h; rfl)
  | (obtain ⟨_, _, _, _, _, _, _, _, rfl, _⟩ := h; rfl)
  | (obtain ⟨_, _, _, _, _, _, _, _, _, rfl, _⟩ := h; rfl)
  | (obtain ⟨_, _, _, _, _, _, _, _, _, _, rfl, _⟩ := h; rfl)
  | (obtain ⟨_, _, _, _, _, _, _, _, _, _, _, rfl, _⟩ := h; rfl)
  | (obtain ⟨_, _, _, _, _, _, _, _, _, _, _, _, rfl, _⟩ := h; rfl)
  | (obtain ⟨_, _, _, _, _, _, _, _, _, _, _, _, _, rfl, _⟩ := h; rfl)
  | (obtain ⟨_, _, _, _, _, _, _, _, _, _, _, _, _, _, rfl, _⟩ := h; rfl)
  | (obtain ⟨_, _, _, _, _, _, _, _, _, _, _, _, _, _, _, rfl, _⟩ := h; rfl)
  | (obtain ⟨_, _, _, _, _, _, _, _, _, _, _, _, _, _, _, _, rfl, _⟩ := h; rfl)
  | (obtain ⟨_, _, _, _, _, _, _, _, _, _, _, _, _, _, _, _, _, rfl, _⟩ := h; rfl)
  | (obtain ⟨_, _, _, _, _, _, _, _, _, _, _, _, _, _, _, _, _, _, rfl, _⟩ := h; rfl)
  | (obtain ⟨_, _, _, _, _, _, _, _, _, _, _, _, _, _, _, _, _, _, _, rfl, _⟩ := h; rfl)
  | (obtain ⟨_, _, _, _, _, _, _, _, _, _, _, _, _, _, _, _, _, _, _, _, rfl, _⟩ := h; rfl)
  | (obtain ⟨_, _, _, _, _, _, _, _, _, _, _, _, _, _, _, _, _, _, _, _, _, rfl, _⟩ := h; rfl)
  | (obtain ⟨_, _, _, _, _, _, _, _, _, _, _, _, _, _, _, _, _, _, _, _, _, _, rfl, _⟩ := h; rfl)
  | (obtain ⟨_, _, _, _, _, _, _, _, _, _, _, _, _, _, _, _, _, _, _, _, _, _, _, rfl, _⟩ := h; rfl)
  | (obtain ⟨_, _, _, _, _, _, _, _, _, _, _, _, _, _, _, _, _, _, _, _, _, _, _, _, rfl, _⟩ := h; rfl)
  | (obtain ⟨_, _, _, _, _, _, _, _, _, _, _, _, _, _, _, _, _, _, _, _, _, _, _, _, _, rfl, _⟩ := h; rfl)))

/-! ### data -/
def dTup (l : List Int) : PyData := .tuple (l.map .int)
theorem lay_ints : ∀ l : List Int, PyData.canLayAll0 (l.map .int) = true
  | [] => by simp [PyData.canLayAll0]
  | x :: l => by simp [PyData.canLayAll0, PyData.canLay0, lay_ints l]
theorem shaped_tup (l : List Int) : SeqAt.shaped (dTup l) = true := by
  show ((dTup l).canLay0 && decide ((dTup l).depth ≤ 64)) = true
  rw [Bool.and_eq_true]
  refine ⟨by unfold dTup; simp only [PyData.canLay0]; exact lay_ints l, decide_eq_true ?_⟩
  unfold dTup
  rw [PyData.depth, PySem.W.depth_ints]; omega
theorem eqvAll_ints : ∀ a b : List Int, PyData.eqvAll (a.map .int) (b.map .int) = decide (a = b)
  | [], [] => by simp [PyData.eqvAll]
  | [], _ :: _ => by simp [PyData.eqvAll]
  | _ :: _, [] => by simp [PyData.eqvAll]
  | x :: a, y :: b => by
    rw [List.map_cons, List.map_cons, PyData.eqvAll, eqvAll_ints a b, PyData.eqv]
    by_cases h : x = y <;> by_cases h2 : a = b <;> simp [h, h2]
theorem eqv_tup (a b : List Int) : PyData.eqv (dTup a) (dTup b) = decide (a = b) := by unfold dTup; rw [PyData.eqv]; exact eqvAll_ints a b
section
variable {K : PySem.W.Frag} {σ : L2.St} {H : Hp} {ta tb : TE}
theorem dp_ints : ∀ l : List Int, DpAll K H (l.map V.int) (l.map .int)
  | [] => .nil
  | x :: l => .cons (.int x) (dp_ints l)
theorem dp_tup {a : Addr} {l : List Int} (h : H a = some (.tup (l.map V.int))) : Dp K H (.ref a) (dTup l) := .tup (st_of h) (dp_ints l)
theorem rv_eqT {a b : Addr} {l m : List Int} (ha : H a = some (.tup (l.map V.int))) (hb : H b = some (.tup (m.map V.int))) : RV (rEqD K) (.ref a) (.ref b) H (.bl (decide (l = m))) := fun H1 e Q q =>
  ⟨dTup l, dTup m, dp_tup (e _ _ ha), dp_tup (e _ _ hb), shaped_tup l, shaped_tup m, by rw [eqv_tup]; exact q H1 (Ex.refl H1)⟩
theorem rv_neT {a b : Addr} {l m : List Int} (ha : H a = some (.tup (l.map V.int))) (hb : H b = some (.tup (m.map V.int))) : RV (rNeD K) (.ref a) (.ref b) H (.bl (!decide (l = m))) := fun H1 e Q q =>
  ⟨dTup l, dTup m, dp_tup (e _ _ ha), dp_tup (e _ _ hb), shaped_tup l, shaped_tup m, by rw [eqv_tup]; exact q H1 (Ex.refl H1)⟩
/-- the second a tuple that is made on the way -/
theorem ev_eqTU {a : Addr} {l m : List Int} (h1 : Ev ta σ H (.ref a)) (h2 : EvU tb σ H (m.map V.int)) (ha : H a = some (.tup (l.map V.int))) : Ev (tOp (rEqD K) ta tb) σ H (.bl (decide (l = m))) := fun H1 e Q q =>
  h1 H1 e _ fun H2 e2 => h2 H2 (e.trans e2) _ fun p H3 hp e3 h3 => rv_eqT (((e.trans e2).trans e3) _ _ ha) h3 H3 (Ex.refl H3) Q fun H4 e4 => q H4 ((e2.trans e3).trans e4)
theorem ev_neTU {a : Addr} {l m : List Int} (h1 : Ev ta σ H (.ref a)) (h2 : EvU tb σ H (m.map V.int)) (ha : H a = some (.tup (l.map V.int))) : Ev (tOp (rNeD K) ta tb) σ H (.bl (!decide (l = m))) := fun H1 e Q q =>
  h1 H1 e _ fun H2 e2 => h2 H2 (e.trans e2) _ fun p H3 hp e3 h3 => rv_neT (((e.trans e2).trans e3) _ _ ha) h3 H3 (Ex.refl H3) Q fun H4 e4 => q H4 ((e2.trans e3).trans e4)
/-- some + (place,) -/
theorem evp_catT {a : Addr} {l m : List Int} (h1 : Ev ta σ H (.ref a)) (h2 : EvU tb σ H (m.map V.int)) (ha : H a = some (.tup (l.map V.int))) (hm : m ≠ []) (hl : l.length + m.length ≤ 1000) :
    EvP (tOp (rCatA K) ta tb) σ H fun v H2 => ∃ p, v = .ref p ∧ H2 p = some (.tup ((l ++ m).map V.int)) := fun H1 e Q q =>
  h1 H1 e _ fun H2 e2 => h2 H2 (e.trans e2) _ fun p H3 hp e3 h3 => ⟨a, p, _, _, rfl, rfl, st_of (((e.trans e2).trans e3) _ _ ha), st_of h3, sz_of (by simp; omega),
    fun hx => q _ H3 (e2.trans e3) ⟨p, rfl, by have : l = [] := by simpa using hx
                                               rw [this]; exact h3⟩,
    fun _ hy => absurd (by simpa using hy) hm,
    fun _ _ b hb => q _ _ ((e2.trans e3).trans (Ex.new hb)) ⟨b, rfl, by rw [upd_same, List.map_append]⟩⟩
/-- a list and a new one -/
theorem evp_cat {a : Addr} {xs : List V} {n : Nat} {R : List V → Hp → Prop} (h1 : Ev ta σ H (.ref a)) (h2 : EvN tb σ H n R) (ha : H a = some (.lst xs)) (hl : xs.length + n ≤ 100000) (hR : ∀ acc H1 H2, TEx H1 H2 → R acc H1 → R acc H2) :
    EvP (tOp rCat ta tb) σ H fun v H2 => ∃ p acc, v = .ref p ∧ H p = none ∧ H2 p = some (.lst (xs ++ acc)) ∧ acc.length ≤ n ∧ R acc H2 := fun H1 e Q q =>
  h1 H1 e _ fun H2 e2 => h2 H2 (e.trans e2) _ fun p acc H3 hp e3 h3 hn r => ⟨a, p, xs, acc, rfl, rfl, ((e.trans e2).trans e3) _ _ ha, h3, sz_of (by omega), fun b hb =>
    q _ _ ((e2.trans e3).trans (Ex.new hb)) ⟨b, acc, rfl, fresh_back ((e.trans e2).trans e3) hb, upd_same, hn, hR _ _ _ (tex (Ex.new hb)) r⟩⟩
end
/-! ### the lambda's table -/
def lamQ : Str := (envOfC "parts_of" (defScope (top 31)) 0 0 .none).qual ++ "<lambda>"
def PT (P : Addr) (H : Hp) : Prop := LamX.Tabs [(P, lamQ)] H
theorem PT.ex {P : Addr} {H H' : Hp} (t : PT P H) (e : Ex H H') : PT P H' := LamX.Tabs.ext t e
open LamX (ExtN)
theorem exn {H H' : Hp} (e : Ex H H') : ExtN H H' := ExtN.of e
theorem ExtN.tex {H H' : Hp} (e : LamX.ExtN H H') : TEx H H' := fun a xs h => e a _ h (fun ps z => nomatch z)
structure LamAt (K : PySem.W.Frag) (mg : Str → Option Value) (x : Str) (st : Stmt) (ps : List Str) (c : Addr) : Prop where
  ex : ∃ (f : Addr) (fd : FuncData), FunD K x x (defArgs st) (defBody st) (defScope st) [] [] f fd ∧ mg x = some (.ref f) ∧ Binds K fd ps [] ∧ fd.code = .ref c
section
variable {P : Program} {w : World} {K : PySem.W.Frag} {mg : Str → Option Value} {base : Heap}
theorem LamAt.cal {x : Str} {st : Stmt} {ps N : List Str} {k : Nat} {sp : Sp} {c : Addr} (F : LamAt K mg x st ps c) (S : FnScope N ps (defScope st)) (len : ∀ vs H Q E, sp vs H Q E → vs.length = ps.length)
    (hbody : ∀ (f : Addr) (A : Around) (outer : List Env) (s : Shared) (H : Hp) (vs : List V) (Q : VK) (E : XK), Room k (A.deeper (envOfC x (defScope st) s.heap.objs.size f (.ref c))) → sp vs H Q E →
      ∃ t, PSs (cxOf CX0 P w K mg base N x (defScope st) f (.ref c) A outer s H E).nox (defBody st) t ∧ t { nx := fun _ H' => Q .non H', rt := Q } (start N vs) H) : Cal P w K mg base (k + 1) x sp [] := by
  obtain ⟨f, fd, D, hm, b, hc⟩ := F.ex
  obtain ⟨oc, od, dV, kV, doc, pm, an, cdv, ct, osl, rfl, lk, hcd, _, _⟩ := D.ex
  have hc' : cdv = .ref c := hc
  subst hc'
  refine ⟨f, _, ps, [], fn_of lk hcd S len fun A outer s H vs Q E hr hsp => ?_, hm, D.kp, b, .nil⟩
  obtain ⟨t, h, q⟩ := hbody f A outer s H vs Q E hr hsp
  exact ⟨t, h.nox, q⟩
/-! ### parts_of -/
/-- tuples of ints -/
def TupsI (H : Hp) (ts : List TupL) : Prop := ∀ t ∈ ts, H t.1 = some (.tup (t.2.map V.int))
theorem TupsI.mono {H H' : Hp} {ts : List TupL} (e : TEx H H') (h : TupsI H ts) : TupsI H' ts := fun t ht => e _ _ (h t ht)
theorem refL_get {ts : List TupL} {i : Nat} {x : V} (h : (refL ts)[i]? = some x) : ∃ t, ts[i]? = some t ∧ x = .ref t.1 := by
  unfold refL at h
  rw [List.getElem?_map] at h
  cases e : ts[i]? with
  | none => rw [e] at h; cases h
  | some t => rw [e] at h; exact ⟨t, rfl, (Option.some.inj h).symm⟩
theorem evp_lst1U {t : TE} {xs : List V} {σ : L2.St} {H : Hp} (h : EvU t σ H xs) : EvP (tLst (tCons t tNil)) σ H (fun v H2 => ∃ l p, v = .ref l ∧ H l = none ∧ H2 l = some (.lst [.ref p]) ∧ H2 p = some (.tup xs)) := fun H1 e Q q =>
  h H1 e _ fun p H2 hp e2 h2 => ⟨sz_of (by show 1 ≤ 100000; decide), fun l hl => q _ _ (e2.trans (Ex.new hl)) ⟨l, p, rfl, fresh_back (e.trans e2) hl, upd_same, by rw [upd_ne (ne_of_none h2 hl)]; exact h2⟩⟩
theorem s_retSortK {T : List (Addr × Str)} {te : TE} {σ : L2.St} {H : Hp} {n : Nat} {R : List V → Hp → Prop} {D : Ends} (h : EvN te σ H n R)
    (q : ∀ H3 acc, Ex H H3 → R acc H3 → LamX.Tabs T H3 ∧ ∃ ts, acc = refL ts ∧ TupsI H3 ts ∧ ∀ p H4 out, ExtN H3 H4 → LamX.Tabs T H4 → out.Perm ts → out.Pairwise (fun s t => s.2.length ≤ t.2.length) → (∀ xs, H3 p ≠ some (.lst xs)) → H4 p = some (.lst (refL out)) → D.rt (.ref p) H4) : tRet (tSortK T te) D σ H :=
  h H (Ex.refl H) _ fun p acc H3 hp e3 h3 hl r => by
    obtain ⟨h1, ts, rfl, h2, h4⟩ := q H3 acc e3 r
    exact ⟨h1, p, ts, rfl, h3, h2, h4⟩
def spPartsOf (T : Addr) : Sp := fun vs H Q _ => ∃ (a : Addr) (hs : List Int), vs = [.ref a] ∧ H a = some (.tup (hs.map V.int)) ∧ hs.Nodup ∧ hs.length ≤ 6 ∧ PT T H ∧
  ∀ p H2 out, ExtN H H2 → PT T H2 → (∀ xs, H p ≠ some (.lst xs)) → H2 p = some (.lst (refL out)) → TupsI H2 out → PartsL hs (out.map (·.2)) → Q (.ref p) H2
abbrev s_parts_of : Stmt := top 31
abbrev N_parts_of : List Str := ["hearers", "found", "place", "some"]
theorem sc_parts_of : FnScope N_parts_of ["hearers"] (defScope s_parts_of) := fnScope_by (by decide +kernel)
theorem ok_parts_of {c T0 : Addr} (F : LamAt K mg "parts_of" s_parts_of ["hearers"] c) (T : Txt K mg) (TB : LamX.TabB base mg c T0) : Cal P w K mg base 1 "parts_of" (spPartsOf T0) [] := by
  refine F.cal sc_parts_of (by walk_at "len") (fun f0 A outer s H vs Q E hr h => ?_)
  obtain ⟨a, hs, rfl, ha, hnd, hl6, hPT, k⟩ := h
  have nd := sc_parts_of.nd
  refine ⟨_, (pss_cons (ps_set (i := 1) nd rfl (Or.inl rfl) (pe_lst (pa_cons (pe_tup pa_nil) pa_nil)))
      (pss_cons (ps_for PassesOwn.never rfl (pi_tupK (K := K) rfl (pv 0)) (pg_name (i := 2) nd rfl (Or.inr rfl)) (pss_one (ps_set (i := 1) nd rfl (Or.inl rfl) (pe_op op_cat (pv 1) (pe_lc (own := [("some", 3)]) (g := (gName 3)) rfl nd (pi_lstK (K := K) rfl (pv 1)) (blkOk_by (own := [("some", 3)]) (N := N_parts_of) (sc := defScope s_parts_of) (by decide +kernel)) (fun _ _ _ _ _ => (pg_name (i := 3) nd rfl (Or.inl rfl))) (fun _ _ _ _ _ => pts_nil) (fun _ _ _ _ _ => (pe_op (catK (K := K) rfl) (pv 3) (pe_tup (pa_cons (pv 2) pa_nil)))))))))
      (pss_one (ps_ret (pe_sortK rfl T.g_sorted T.g_len (pe_lc (own := [("some", 3)]) (g := (gName 3)) rfl nd (pi_lstK (K := K) rfl (pv 1)) (blkOk_by (own := [("some", 3)]) (N := N_parts_of) (sc := defScope s_parts_of) (by decide +kernel)) (fun _ _ _ _ _ => (pg_name (i := 3) nd rfl (Or.inl rfl))) (fun _ _ _ _ _ => (pts_one (pt_cmpR (neK (K := K) rfl hr.units) (pv 3) (pe_tup pa_nil) (nomark _)))) (fun _ _ _ _ _ => (pv 3))) hr TB rfl (List.mem_singleton.mpr rfl) (fun p hp _ => by rw [List.mem_singleton.mp hp]) rfl rfl rfl rfl (by decide) (by decide) (fun _ _ _ _ _ => rfl) rfl rfl rfl (by decide)))))), ?_⟩
  refine q_asgP (evp_lst1U (eu_tup (vs := []) ea_nil (Nat.zero_le _))) fun v H1 e1 r => ?_
  obtain ⟨l0, p0, rfl, _, hl0, hp0⟩ := r
  have nd6 := hnd
  refine q_forTW (ev_var rfl) (e1 _ _ ha) (fun i σ' H' => ∃ (l : Addr) (fs : List TupL) (x2 : Option V), σ' = [some (.ref a), some (.ref l), x2, none] ∧ Ex H1 H' ∧ H' l = some (.lst (refL fs)) ∧ TupsI H' fs ∧ fs.map (·.2) = partsF (hs.take i))
    (fun H2 e2 => ⟨l0, [(p0, [])], none, rfl, e2, e2 _ _ hl0, fun t ht => by rw [List.mem_singleton.mp ht]; exact e2 _ _ hp0, rfl⟩) (fun i σ' H' _ p => by obtain ⟨_, _, _, _, e, _⟩ := p; exact tex e) ?_ ?_
  · rintro i0 x σ' H2 hx ⟨l, fs, x2, rfl, e2, hl, hT, hF⟩
    rw [List.getElem?_map] at hx
    obtain ⟨h, hh, rfl⟩ := Option.map_eq_some_iff.mp hx
    have hi : i0 < hs.length := (List.getElem?_eq_some_iff.mp hh).1
    have flen : fs.length ≤ 64 := by
      have e := congrArg List.length hF
      rw [List.length_map, len_partsF] at e
      rw [e]
      have : (hs.take i0).length ≤ 6 := by rw [List.length_take]; omega
      exact Nat.le_trans (Nat.pow_le_pow_right (by decide) this) (by decide)
    show (tAsg _ _ : TS) _ ([some (.ref a), some (.ref l), some (.int h), none] : L2.St) H2
    have hN : EvN _ ([some (.ref a), some (.ref l), some (.int h), none] : L2.St) H2 (refL fs).length _ := lcL (K := K) (tl := tVar 1) (g := gName 3) (t := tYes) (te := tOp (rCatA K) (tVar 3) (tTup (tCons (tVar 2) tNil))) (vs := [3]) (ev_var rfl) hl (by unfold refL; rw [List.length_map]; omega) (fun _ => true) _
      (fun i acc H => ∃ gs : List TupL, acc = refL gs ∧ TupsI H gs ∧ gs.map (·.2) = (fs.take i).map (fun t => t.2 ++ [h])) sets_name (fun i hi => rfl) (by
        refine ⟨fun i acc H3 H4 e r => ?_, fun H3 e => ⟨[], rfl, (fun t ht => by simp at ht), rfl⟩, fun i H3 hi e => et_yes, fun i acc H3 hi e hf r => ?_, fun i acc H3 hi e hf r => by cases hf⟩
        · obtain ⟨gs, r1, r2, r3⟩ := r; exact ⟨gs, r1, r2.mono e, r3⟩
        · obtain ⟨gs, rfl, r2, r3⟩ := r
          have hgx : (refL fs)[i]? = some ((refL fs)[i]) := List.getElem?_eq_getElem hi
          obtain ⟨t, ht, et⟩ := refL_get hgx
          rw [et] at hgx
          have htm := List.mem_of_getElem? ht
          have tl : t.2.length ≤ 6 := by
            have : t.2 ∈ partsF (hs.take i0) := by rw [← hF]; exact List.mem_map.mpr ⟨t, htm, rfl⟩
            have := ((mem_partsF _ _).mp this).length_le
            rw [List.length_take] at this; omega
          refine fun H4 e4 Q q => evp_catT (m := [h]) (ev_var (congrArg some hgx)) (eu_tup (ea_cons (ev_var rfl) ea_nil) (by show 1 ≤ 100000; decide)) (e _ _ (hT t htm)) (by simp) (by simp; omega) H4 e4 Q fun v H5 e5 r => q v H5 e5 ?_
          obtain ⟨p, rfl, hp⟩ := r
          refine ⟨gs ++ [(p, t.2 ++ [h])], by simp [refL], fun u hu => ?_, ?_⟩
          · rcases List.mem_append.mp hu with hu | hu
            · exact r2.mono (tex (e4.trans e5)) u hu
            · rw [List.mem_singleton.mp hu]; exact hp
          · rw [List.take_succ, ht, List.map_append, List.map_append, r3]; rfl)
    refine s_asgP (evp_cat (ev_var rfl) hN hl (by unfold refL; rw [List.length_map]; omega) (fun acc H3 H4 e r => by obtain ⟨gs, r1, r2, r3⟩ := r; exact ⟨gs, r1, r2.mono e, r3⟩)) fun v H3 e3 r => ?_
    obtain ⟨p, acc, rfl, _, hp, _, gs, rfl, r2, r3⟩ := r
    refine ⟨p, fs ++ gs, _, rfl, e2.trans e3, by rw [hp]; simp [refL], fun u hu => ?_, ?_⟩
    · rcases List.mem_append.mp hu with hu | hu
      · exact hT.mono (tex e3) u hu
      · exact r2 u hu
    · have : (fs.take (refL fs).length) = fs := by unfold refL; rw [List.length_map, List.take_length]
      rw [this] at r3
      rw [List.map_append, r3, List.take_succ, hh]
      show _ = partsF (hs.take i0 ++ [h])
      rw [partsF_snoc, hF, grow]
      rw [← hF, List.map_map]; rfl
  · rintro σ' H2 ⟨l, fs, x2, rfl, e2, hl, hT, hF⟩
    rw [List.length_map, List.take_length] at hF
    have flen : fs.length ≤ 64 := by
      have e := congrArg List.length hF
      rw [List.length_map, len_partsF] at e
      rw [e]
      exact Nat.le_trans (Nat.pow_le_pow_right (by decide) hl6) (by decide)
    have hN : EvN _ ([some (.ref a), some (.ref l), x2, none] : L2.St) H2 (refL fs).length _ := lcL (K := K) (tl := tVar 1) (g := gName 3) (t := tTest (tOp (rNeD K) (tVar 3) (tTup tNil))) (te := tVar 3) (vs := [3]) (ev_var rfl) hl (by unfold refL; rw [List.length_map]; omega) (fun i => decide ((fs.getD i (0, [])).2 ≠ [])) _
      (fun i acc H => acc = refL ((fs.take i).filter fun t => decide (t.2 ≠ []))) sets_name (fun i hi => rfl) (by
        refine ⟨fun i acc H3 H4 e r => r, fun H3 e => rfl, fun i H3 hi e => ?_, fun i acc H3 hi e hf r => ?_, fun i acc H3 hi e hf r => ?_⟩
        · have hgx : (refL fs)[i]? = some ((refL fs)[i]) := List.getElem?_eq_getElem hi
          obtain ⟨t, ht, et⟩ := refL_get hgx
          rw [et] at hgx
          have g0 : fs.getD i (0, []) = t := by rw [List.getD_eq_getElem?_getD, ht]; rfl
          rw [g0]
          have := ev_neTU (K := K) (m := []) (ta := tVar 3) (tb := tTup tNil) (σ := ((wipe ([some (.ref a), some (.ref l), x2, none] : L2.St) [3]).set 3 ((refL fs)[i]?))) (ev_var (congrArg some hgx)) (eu_tup (vs := []) ea_nil (Nat.zero_le _)) (e _ _ (hT t (List.mem_of_getElem? ht)))
          have h2 := et_test this
          by_cases z : t.2 = []
          · simpa [z] using h2
          · simpa [z] using h2
        · have hgx : (refL fs)[i]? = some ((refL fs)[i]) := List.getElem?_eq_getElem hi
          obtain ⟨t, ht, et⟩ := refL_get hgx
          rw [et] at hgx
          have g0 : fs.getD i (0, []) = t := by rw [List.getD_eq_getElem?_getD, ht]; rfl
          rw [g0] at hf
          refine fun H4 e4 Q q => (ev_var (congrArg some hgx)) H4 e4 Q fun H5 e5 => q _ H5 e5 ?_
          rw [r, List.take_succ, ht, List.filter_append]
          have hf' : ¬ t.2 = [] := by simpa using hf
          simp [refL, hf']
        · have hgx : (refL fs)[i]? = some ((refL fs)[i]) := List.getElem?_eq_getElem hi
          obtain ⟨t, ht, et⟩ := refL_get hgx
          have g0 : fs.getD i (0, []) = t := by rw [List.getD_eq_getElem?_getD, ht]; rfl
          rw [g0] at hf
          rw [r, List.take_succ, ht, List.filter_append]
          have : t.2 = [] := by simpa using hf
          simp [refL, this])
    refine s_retSortK hN fun H3 acc e3 r => ?_
    have e13 := e1.trans (e2.trans e3)
    have ft : fs.take (refL fs).length = fs := by unfold refL; rw [List.length_map, List.take_length]
    rw [ft] at r
    subst r
    refine ⟨hPT.ex e13, fs.filter fun t => decide (t.2 ≠ []), rfl, fun t ht => e3 _ _ (hT t (List.mem_filter.mp ht).1), fun q H4 out eN hT4 hperm hup hnl hq => k q H4 out ((exn e13).trans eN) hT4 (fun xs z => hnl xs (e13 _ _ z)) hq (fun t ht => ?_) ?_⟩
    · exact eN _ _ (e3 _ _ (hT t (List.mem_filter.mp (hperm.mem_iff.mp ht)).1)) (fun ps z => nomatch z)
    · refine PartsL.of hnd ?_ (by rw [List.pairwise_map]; exact hup)
      have := hperm.map (fun t : TupL => t.2)
      rw [← hF, List.filter_map]
      exact this
end
end HK

/-! part HKN -/
/-! The walks of cheapest.py: splits, sums, refusals. -/
namespace HK
open PySem PySem.Spec PyProof.Rows L2 Evl
open C8 (Cal Met Mak pe_c pe_mk pe_mt pe_mt0 pe_gc fnScope_by)
open LamX (ExtN)
set_option hygiene false in
local macro_rules | `(tactic| walk_at "len") => `(tactic| (intro vs H Q E h; first
  | (obtain ⟨rfl, _⟩ := h; rfl)
  | (obtain ⟨_, rfl, _⟩ := h; rfl)
  | (obtain ⟨_, _, rfl, _⟩ := h; rfl)
  | (obtain ⟨_, _, _, rfl, _⟩ := h; rfl)
  | (obtain ⟨_, _, _, _, rfl, _⟩ := h; rfl)
  | (obtain ⟨_, _, _, _, _, rfl, _⟩ := h; rfl)
  | (obtain ⟨_, _, _, _, _, _, rfl, _⟩ := h; rfl)
  | (obtain ⟨_, _, _, _, _, _, _, rfl, _⟩ := h; rfl)
  | (obtain ⟨_, _, _, _, _, _, _, _, rfl, _⟩ := h; rfl)
  | (obtain ⟨_, _, _, _, _, _, _, _, _, rfl, _⟩ := h; rfl)
  | (obtain ⟨_, _, _, _, _, _, _, _, _, _, rfl, _⟩ := h; rfl)
  | (obtain ⟨_, _, _, _, _, _, _, _, _, _, _, rfl, _⟩ := h; rfl)
  | (obtain ⟨_, _, _, _, _, _, _, _, _, _, _, _, rfl, _⟩ := h; rfl)
  | (obtain ⟨_, _, _, _, _, _, _, _, _, _, _, _, _, rfl, _⟩ := h; rfl)
  | (obtain ⟨_, _, _, _, _, _, _, _, _, _, _, _, _, _, rfl, _⟩ := h; rfl)
  | (obtain ⟨_, _, _, _, _, _, _, _, _, _, _, _, _, _, _, rfl, _⟩ := h; rfl)
  | (obtain ⟨_, _, _, _, _, _, _, _, _, _, _, _, _, _, _, _, rfl, _⟩ := h; rfl)
  | (obtain ⟨_, _, _, _, _, _, _, _, _, _, _, _, _, _, _, _, _, rfl, _⟩ := h; rfl)
  | (obtain ⟨_, _, _, _, _, _, _, _, _, _, _, _, _, _, _, _, _, _, rfl, _⟩ := h; rfl)
  | (obtain ⟨_, _, _, _, _, _, _, _, _, _, _, _, _, _, _, _, _, _, _, rfl, _⟩ := h; rfl)
  | (obtain ⟨_, _, _, _, _, _, _, _, _, _, _, _, _, _, _, _, _, _, _, _, rfl, _⟩ := h; rfl)
  | (obtain ⟨_, _, _, _, _, _, _, _, _, _, _, _, _, _, _, _, _, _, _, _, _, rfl, _⟩ := h; rfl)
  | (obtain ⟨_, _, _, _, _, _, _, _, _, _, _, _, _, _, _, _, _, _, _, _, _, _, rfl, _⟩ := h; rfl)
  | (obtain ⟨_, _, _, _, _, _, _, _, _, _, _, _, _, _, _, _, _, _, _, _, _, _, _, rfl, _⟩ := h; rfl)
  | (obtain ⟨_, _, _, _, _, _, _, _, _, _, _, _, _, _, _, _, _, _, _, _, _, _, _, _, rfl, _⟩ := h; rfl)
  | (obtain ⟨_, _, _, _, _, _, _, _, _, _, _, _, _, _, _, _, _, _, _, _, _, _, _, _, _, rfl, _⟩ := h; rfl)))

theorem ExtN.mut {H H1 : Hp} {a : Addr} {o : HO} (e : ExtN H H1) (h : H a = none) : ExtN H (upd H1 a o) := fun b u hb n => by
  rw [upd_ne (ne_of_none hb h)]; exact e b u hb n
theorem PT.keep {P : Addr} {H H' : Hp} (t : PT P H) (h : ∀ b o, (∃ ps, o = .tbl ps) ∨ (∃ φ, o = .ext φ) → H b = some o → H' b = some o) : PT P H' := fun p hp => by
  obtain ⟨ps, h1, h2, h3⟩ := t p hp
  refine ⟨ps, h _ _ (.inl ⟨_, rfl⟩) h1, h2, fun pos cv hc => ?_⟩
  obtain ⟨c, e1, e2⟩ := h3 pos cv hc
  exact ⟨c, e1, h _ _ (.inr ⟨_, rfl⟩) e2⟩
theorem PT.lst {P : Addr} {H : Hp} (t : PT P H) {l : Addr} {xs : List V} {o : HO} (hl : H l = some (.lst xs)) : PT P (upd H l o) := t.keep fun b u hu hb => by
  rw [upd_ne (fun z => by
    rw [z, hl] at hb
    cases hb
    rcases hu with ⟨_, q⟩ | ⟨_, q⟩ <;> cases q)]
  exact hb
section
variable {P : Program} {w : World} {K : PySem.W.Frag} {mg : Str → Option Value} {base : Heap}
theorem eu_tupOf {te : TE} {σ : L2.St} {H : Hp} {xs : List V} (h : EvL te σ H xs) : EvU (tCB (rTupOf K) (tCons te tNil)) σ H xs := fun H1 e Q q => h H1 e _ fun p H2 hp e2 h2 =>
  ⟨p, xs, rfl, .inl ⟨sq_of h2, fun l hl => q l _ (fresh_back e2 hl) (e2.trans (Ex.new hl)) upd_same⟩⟩
theorem evp_tupU {t1 t2 : TE} {σ : L2.St} {H : Hp} {xs : List V} {v : V} (h1 : EvU t1 σ H xs) (h2 : Ev t2 σ H v) : EvP (tTup (tCons t1 (tCons t2 tNil))) σ H fun x H2 => ∃ b p, x = .ref b ∧ H2 b = some (.tup [.ref p, v]) ∧ H2 p = some (.tup xs) := fun H1 e Q q =>
  h1 H1 e _ fun p H2 hp e2 hh => h2 H2 (e.trans e2) _ fun H3 e3 => ⟨sz_of (by show 2 ≤ 100000; decide), fun b hb => q _ _ ((e2.trans e3).trans (Ex.new hb)) ⟨b, p, rfl, upd_same, by
    have := e3 _ _ hh
    rw [upd_ne (ne_of_none this hb)]; exact this⟩⟩
theorem cut1 (xs : List V) : cutV xs (some 1) none = xs.drop 1 := by
  unfold cutV
  have h1 : HT.sIx xs.length 0 (some 1) = min 1 xs.length := HT.sIx_nat xs.length 0 1
  rw [h1, HT.sIx_none]
  cases xs with
  | nil => rfl
  | cons x xs =>
    have : min 1 (x :: xs).length = 1 := by simp
    rw [this]
    exact List.take_of_length_le (by simp)
/-! ### splits_of -/
abbrev SplL := Addr × (TupL × TupL)
def SplI (H : Hp) (ts : List SplL) : Prop := ∀ t ∈ ts, H t.1 = some (.tup [.ref t.2.1.1, .ref t.2.2.1]) ∧ H t.2.1.1 = some (.tup (t.2.1.2.map V.int)) ∧ H t.2.2.1 = some (.tup (t.2.2.2.map V.int))
theorem SplI.mono {H H' : Hp} {ts : List SplL} (e : TEx H H') (h : SplI H ts) : SplI H' ts := fun t ht => ⟨e _ _ (h t ht).1, e _ _ (h t ht).2.1, e _ _ (h t ht).2.2⟩
def refS (ts : List SplL) : List V := ts.map fun t => V.ref t.1
def prs (ts : List SplL) : List (List Int × List Int) := ts.map fun t => (t.2.1.2, t.2.2.2)
def spSplitsOf (T : Addr) : Sp := fun vs H Q _ => ∃ (a : Addr) (s : List Int), vs = [.ref a] ∧ H a = some (.tup (s.map V.int)) ∧ s ≠ [] ∧ s.Nodup ∧ s.length ≤ 6 ∧ PT T H ∧
  ∀ p H2 ts, ExtN H H2 → PT T H2 → H2 p = some (.lst (refS ts)) → SplI H2 ts → SplitsL s (prs ts) → Q (.ref p) H2
abbrev s_splits_of : Stmt := top 32
abbrev N_splits_of : List Str := ["some", "found", "part", "place"]
theorem sc_splits_of : FnScope N_splits_of ["some"] (defScope s_splits_of) := fnScope_by (by decide +kernel)
theorem ok_splits_of {T0 : Addr} (F : DefAt K mg "splits_of" s_splits_of ["some"]) (T : Txt K mg) (c_parts_of : Cal P w K mg base 1 "parts_of" (spPartsOf T0) []) : Cal P w K mg base 2 "splits_of" (spSplitsOf T0) [] := by
  refine F.cal sc_splits_of (by walk_at "len") (fun f0 cdv A outer s0 H vs Q E hr h => ?_)
  obtain ⟨a, s, rfl, ha, hne, hnd, hl6, hPT, k⟩ := h
  have nd := sc_splits_of.nd
  refine ⟨_, (pss_cons (ps_set (i := 1) nd rfl (Or.inl rfl) (pe_lst pa_nil))
      (pss_cons (ps_for PassesOwn.never rfl (pi_lstK (K := K) rfl (pe_c c_parts_of hr (by decide) (by rfl) (pa_cons (pe_slice (slK (K := K) rfl) (pv 0) (po_some pe_int) po_none) pa_nil))) (pg_name (i := 2) nd rfl (Or.inr rfl)) (pss_one (ps_expr (pe_bm PySem.F.plainAttrs_list PySem.F.slot_list_append PySem.F.type_list_append mt_append (pv 1) (pa_cons (pe_tup (pa_cons (pe_callTy (tupK (K := K) rfl) (by rfl) T.g_tuple (by decide +kernel) (pa_cons (pe_lc (own := [("place", 3)]) (g := (gName 3)) rfl nd (pi_tupK (K := K) rfl (pv 0)) (blkOk_by (own := [("place", 3)]) (N := N_splits_of) (sc := defScope s_splits_of) (by decide +kernel)) (fun _ _ _ _ _ => (pg_name (i := 3) nd rfl (Or.inl rfl))) (fun _ _ _ _ _ => (pts_one (pt_cmpR (ninS (K := K) rfl) (pv 3) (pv 2) rfl))) (fun _ _ _ _ _ => (pv 3))) pa_nil)) (pa_cons (pv 2) pa_nil))) pa_nil)))))
      (pss_one (ps_ret (pv 1))))), ?_⟩
  refine q_asgL (el_lst ea_nil (Nat.zero_le _)) fun l H1 l0 e1 hl => ?_
  have hlt : s.length = s.tail.length + 1 := by
    cases s with
    | nil => exact absurd rfl hne
    | cons x t => rfl
  have eu := eu_sl (K := K) (σ := [some (.ref a), some (.ref l), none, none]) (te := tVar 0) (ev_var rfl) (eo_some (te := tC (.int 1)) (i := 1) ev_c) eo_none (e1 _ _ ha) (fun z => by
    have h1 : HT.sIx (s.map V.int).length 0 (some 1) = min 1 (s.map V.int).length := HT.sIx_nat _ 0 1
    rw [h1, List.length_map] at z
    omega)
  rw [cut1] at eu
  have cl : (s.map V.int).drop 1 = s.tail.map V.int := by rw [List.drop_one, List.map_tail]
  rw [cl] at eu
  refine eu H1 (Ex.refl H1) _ fun p H2 hp e2 h2 => ?_
  refine ⟨p, s.tail, rfl, h2, hnd.sublist (List.tail_sublist s), by omega, hPT.ex (e1.trans e2), fun q H3 out e3 hT3 hnl hq hO hP => ?_⟩
  have E3 : ExtN H H3 := (exn (e1.trans e2)).trans e3
  have hl3 : H3 l = some (.lst []) := e3 _ _ (e2 _ _ hl) (fun ps z => nomatch z)
  have lq : l ≠ q := fun z => hnl [] (by rw [← z]; exact e2 _ _ hl)
  refine ⟨q, rfl, ⟨_, sq_of hq⟩, for_walk (walks_lst K q _) (fun i σ' H' => ∃ (ts : List SplL) (x2 : Option V), σ' = [some (.ref a), some (.ref l), x2, none] ∧ ExtN H H' ∧ PT T0 H' ∧ H' l = some (.lst (refS ts)) ∧ H' q = some (.lst (refL out)) ∧ TupsI H' out ∧ SplI H' ts ∧ prs ts = (out.take i).map (fun t => (without s t.2, t.2)))
    ⟨[], none, rfl, E3, hT3, hl3, hq, hO, fun t ht => by simp at ht, rfl⟩ (fun i σ' H' _ p => by obtain ⟨_, _, _, _, _, _, e, _⟩ := p; exact sq_of e) ?_ ?_⟩
  · rintro i x σ' H4 hi hx ⟨ts, x2, rfl, E4, hT4, hl4, hq4, hO4, hS4, hp4⟩
    obtain ⟨t, ht, rfl⟩ := refL_get hx
    have htm := List.mem_of_getElem? ht
    have hlen : ts.length = i := by
      have := congrArg List.length hp4
      unfold prs at this
      rw [List.length_map, List.length_map, List.length_take] at this
      have : i < out.length := (List.getElem?_eq_some_iff.mp ht).1
      omega
    have olen : out.length ≤ 64 := by
      have := hP.len
      rw [List.length_map] at this
      exact Nat.le_trans this (Nat.le_trans (Nat.pow_le_pow_right (by decide) (show s.tail.length ≤ 6 by omega)) (by decide))
    have hi' : i < out.length := (List.getElem?_eq_some_iff.mp ht).1
    have ha4 : H4 a = some (.tup (s.map V.int)) := E4 _ _ ha (fun ps z => nomatch z)
    show (tDrop _ : TS) _ ([some (.ref a), some (.ref l), some (.ref t.1), none] : L2.St) H4
    have hN : EvN _ ([some (.ref a), some (.ref l), some (.ref t.1), none] : L2.St) H4 (s.map V.int).length _ := lcT (K := K) (tl := tVar 0) (g := gName 3) (t := tTest (tOp (rIn K true) (tVar 3) (tVar 2))) (te := tVar 3) (vs := [3]) (ev_var rfl) ha4 (by rw [List.length_map]; omega) (fun i => !decide (s.getD i 0 ∈ t.2)) _
      (fun i acc H => acc = (without (s.take i) t.2).map V.int) sets_name (fun i hi => rfl) (by
        refine ⟨fun i acc H5 H6 e r => r, fun H5 e => rfl, fun i H5 hi e => ?_, fun i acc H5 hi e hf r => ?_, fun i acc H5 hi e hf r => ?_⟩
        · rw [List.length_map] at hi
          have g1 : (s.map V.int)[i]? = some (.int s[i]) := by rw [List.getElem?_map, List.getElem?_eq_getElem hi]; rfl
          have g0 : s.getD i 0 = s[i] := by rw [List.getD_eq_getElem?_getD, List.getElem?_eq_getElem hi]; rfl
          rw [g0]
          exact et_test (ev_ninTI (ev_var (congrArg some g1)) (ev_var rfl) (e _ _ (hO4 t htm)))
        · rw [List.length_map] at hi
          have g1 : (s.map V.int)[i]? = some (.int s[i]) := by rw [List.getElem?_map, List.getElem?_eq_getElem hi]; rfl
          have g0 : s.getD i 0 = s[i] := by rw [List.getD_eq_getElem?_getD, List.getElem?_eq_getElem hi]; rfl
          rw [g0] at hf
          refine fun H6 e6 Q q => (ev_var (congrArg some g1)) H6 e6 Q fun H7 e7 => q _ H7 e7 ?_
          have hf' : ¬ s[i] ∈ t.2 := by simpa using hf
          rw [r, List.take_succ, List.getElem?_eq_getElem hi]
          unfold without
          rw [List.filter_append]
          simp [hf']
        · rw [List.length_map] at hi
          have g0 : s.getD i 0 = s[i] := by rw [List.getD_eq_getElem?_getD, List.getElem?_eq_getElem hi]; rfl
          rw [g0] at hf
          have hf' : s[i] ∈ t.2 := by simpa using hf
          rw [r, List.take_succ, List.getElem?_eq_getElem hi]
          unfold without
          rw [List.filter_append]
          simp [hf'])
    have hL := EvN.l (xs := (without s t.2).map V.int) hN (fun acc H5 r => by rw [r, List.length_map, List.take_length])
    refine s_appP hl4 (ev_var rfl) (evp_tupU (eu_tupOf hL) (ev_var rfl)) (by unfold refS; rw [List.length_map]; omega) fun v H5 e5 r => ?_
    obtain ⟨b, p', rfl, r1, r2⟩ := r
    have tx : TEx H5 (upd H5 l (.lst (refS ts ++ [.ref b]))) := tex_upd (e5 _ _ hl4) fun xs z => nomatch z
    refine ⟨ts ++ [(b, (p', without s t.2), t)], _, rfl, ExtN.mut (E4.trans (exn e5)) l0, ?_, by rw [upd_same]; simp [refS], by rw [upd_ne lq.symm]; exact e5 _ _ hq4, hO4.mono ((tex e5).trans tx), fun u hu => ?_, ?_⟩
    · refine PT.lst (hT4.ex e5) (e5 _ _ hl4)
    · rcases List.mem_append.mp hu with hu | hu
      · exact (hS4.mono ((tex e5).trans tx)) u hu
      · rw [List.mem_singleton.mp hu]
        exact ⟨tx _ _ r1, tx _ _ r2, tx _ _ (e5 _ _ (hO4 t htm))⟩
    · unfold prs at hp4 ⊢
      rw [List.map_append, hp4, List.take_succ, ht, List.map_append]; rfl
  · rintro σ' H4 ⟨ts, x2, rfl, E4, hT4, hl4, hq4, hO4, hS4, hp4⟩
    have hlen : (refL out).length = out.length := by unfold refL; rw [List.length_map]
    rw [hlen, List.take_length] at hp4
    refine s_ret (ev_var rfl) fun H5 e5 => k l H5 ts (E4.trans (exn e5)) (hT4.ex e5) (e5 _ _ hl4) (hS4.mono (tex e5)) ⟨fun A B => ?_⟩
    rw [hp4, List.mem_map]
    constructor
    · rintro ⟨t, ht, e⟩
      cases e
      have := (hP.mem t.2).mp (List.mem_map.mpr ⟨t, ht, rfl⟩)
      exact ⟨this.1, this.2, rfl⟩
    · rintro ⟨h1, h2, rfl⟩
      obtain ⟨t, ht, e⟩ := List.mem_map.mp ((hP.mem B).mpr ⟨h1, h2⟩)
      exact ⟨t, ht, by rw [← e]⟩
/-! ### numbers or None -/
def vO : Option Int → V
  | none => .non
  | some i => .int i
theorem vO_non {x : Option Int} : decide (vO x = .non) = x.isNone := by cases x <;> simp [vO]
def spSumOf : Sp := fun vs H Q _ => ∃ x y : Option Int, vs = [vO x, vO y] ∧ RetV (vO (sumO x y)) H Q
abbrev s_sum_of : Stmt := top 33
abbrev N_sum_of : List Str := ["one", "other"]
theorem sc_sum_of : FnScope N_sum_of ["one", "other"] (defScope s_sum_of) := fnScope_by (by decide +kernel)
theorem ok_sum_of (F : DefAt K mg "sum_of" s_sum_of ["one", "other"]) (T : Txt K mg) : Cal P w K mg base 1 "sum_of" spSumOf [] := by
  refine F.cal sc_sum_of (by walk_at "len") (fun f0 cdv A outer s0 H vs Q E hr h => ?_)
  obtain ⟨x, y, rfl, k⟩ := h
  have nd := sc_sum_of.nd
  refine ⟨_, (pss_cons (ps_if (PW.pt (pw_or (pt_cmp (pc_isN (pv 0))) (pw_or1 (pt_cmp (pc_isN (pv 1)))))) (pss_one (ps_ret pe_non)) pss_nil)
      (pss_one (ps_ret (pe_op op_add (pv 0) (pv 1))))), ?_⟩
  refine q_when (et_or (et_B (ev_isN (ev_var rfl))) fun _ => et_B (ev_isN (ev_var rfl))) (fun q H1 e1 => ?_) fun q H1 e1 => ?_
  · have : sumO x y = none := by
      cases x <;> cases y <;> simp [vO, sumO] at q ⊢
    rw [this] at k
    exact s_ret ev_c fun H2 e2 => k H2 (e1.trans e2)
  · cases x with
    | none => simp [vO] at q
    | some i =>
      cases y with
      | none => simp [vO] at q
      | some j => exact s_ret (ev_op (ev_var rfl) (ev_var rfl) rv_I0) fun H2 e2 => k H2 (e1.trans e2)
theorem ev_sumOf {σ : L2.St} {H : Hp} {E : XK} {t1 t2 : TE} {x y : Option Int} (h1 : Ev t1 σ H (vO x)) (h2 : Ev t2 σ H (vO y)) : Ev (tCall spSumOf [] E (tCons t1 (tCons t2 tNil))) σ H (vO (sumO x y)) :=
  ev_callV (ea_cons h1 (ea_cons h2 ea_nil)) fun H1 e Q k => ⟨x, y, rfl, k⟩
def spIsLess : Sp := fun vs H Q _ => ∃ x y : Option Int, vs = [vO x, vO y] ∧ RetV (.bl (lessO x y)) H Q
abbrev s_is_less : Stmt := top 34
abbrev N_is_less : List Str := ["one", "other"]
theorem sc_is_less : FnScope N_is_less ["one", "other"] (defScope s_is_less) := fnScope_by (by decide +kernel)
theorem ok_is_less (F : DefAt K mg "is_less" s_is_less ["one", "other"]) (T : Txt K mg) : Cal P w K mg base 1 "is_less" spIsLess [] := by
  refine F.cal sc_is_less (by walk_at "len") (fun f0 cdv A outer s0 H vs Q E hr h => ?_)
  obtain ⟨x, y, rfl, k⟩ := h
  have nd := sc_is_less.nd
  refine ⟨_, (pss_one (ps_ret (pe_and (pe_cmp (pc_notN (pv 0))) (pe_one (pe_or (pe_cmp (pc_isN (pv 1))) (pe_one (pe_cmpR op_lt (pv 0) (pv 1) (nomark _)))))))), ?_⟩
  cases x with
  | none => exact s_ret (ev_is (ev_andV (a := false) (b := false) (ev_is (ev_notN (ev_var rfl)) rfl) (fun z => by cases z)) rfl) k
  | some i =>
    cases y with
    | none => exact s_ret (ev_is (ev_andV (a := true) (b := true) (ev_is (ev_notN (ev_var rfl)) rfl) (fun _ => ev_is (ev_orV (a := true) (b := true) (ev_is (ev_isN (ev_var rfl)) rfl) (fun z => by cases z)) rfl)) rfl) k
    | some j => exact s_ret (ev_is (ev_andV (a := true) (b := decide (i < j)) (ev_is (ev_notN (ev_var rfl)) rfl) (fun _ => ev_is (ev_orV (a := false) (b := decide (i < j)) (ev_is (ev_isN (ev_var rfl)) rfl) (fun _ => ev_op (ev_var rfl) (ev_var rfl) rv_I0)) rfl)) rfl) k
theorem ev_isLess {σ : L2.St} {H : Hp} {E : XK} {t1 t2 : TE} {x y : Option Int} (h1 : Ev t1 σ H (vO x)) (h2 : Ev t2 σ H (vO y)) : Ev (tCall spIsLess [] E (tCons t1 (tCons t2 tNil))) σ H (.bl (lessO x y)) :=
  ev_callV (ea_cons h1 (ea_cons h2 ea_nil)) fun H1 e Q k => ⟨x, y, rfl, k⟩
/-! ### refusals -/
def spNeedHearers : Sp := fun vs H Q _ => ∃ (a b : Addr) (N : Net) (hs : List Int), vs = [.ref a, .ref b] ∧ NetAt H a N ∧ H b = some (.tup (hs.map V.int)) ∧ (∀ h ∈ hs, 0 ≤ h ∧ h < N.n) ∧ hs.Pairwise (· < ·) ∧ hs.length ≤ 100 ∧ RetV .non H Q
abbrev s_need_hearers : Stmt := top 16
abbrev N_need_hearers : List Str := ["net", "hearers", "place", "k"]
theorem sc_need_hearers : FnScope N_need_hearers ["net", "hearers"] (defScope s_need_hearers) := fnScope_by (by decide +kernel)
theorem ok_need_hearers (F : DefAt K mg "need_hearers" s_need_hearers ["net", "hearers"]) (T : Txt K mg) (c_need_place : Cal P w K mg base 1 "need_place" spNeedPlace []) : Cal P w K mg base 2 "need_hearers" spNeedHearers [] := by
  refine F.cal sc_need_hearers (by walk_at "len") (fun f0 cdv A outer s0 H vs Q E hr h => ?_)
  obtain ⟨a, b, N, hs, rfl, hN, hb, hrg, hup, hl, k⟩ := h
  have nd := sc_need_hearers.nd
  refine ⟨_, (pss_cons (ps_for PassesOwn.never rfl (pi_tupK (K := K) rfl (pv 1)) (pg_name (i := 2) nd rfl (Or.inl rfl)) (pss_one (ps_expr (pe_c c_need_place hr (by decide) (by rfl) (pa_cons (pv 0) (pa_cons (pv 2) pa_nil))))))
      (pss_one (ps_if (pt_not (pt_val (pe_callB (allK (K := K) rfl rfl) (by rfl) T.g_all (by decide +kernel) (pa_cons (pe_lc (own := [("k", 3)]) (g := (gName 3)) rfl nd (pi_range1 (by rfl) T.g_range (pa_cons (pe_op op_sub (pe_callB (lenS (K := K) rfl) (by rfl) T.g_len PySem.boot_len (pa_cons (pv 1) pa_nil)) pe_int) pa_nil)) (blkOk_by (own := [("k", 3)]) (N := N_need_hearers) (sc := defScope s_need_hearers) (by decide +kernel)) (fun _ _ _ _ _ => (pg_name (i := 3) nd rfl (Or.inl rfl))) (fun _ _ _ _ _ => pts_nil) (fun _ _ _ _ _ => (pe_cmpR op_lt (pe_ix (ixT (K := K) rfl) (pv 1) (pv 3) (fun _ _ => rfl)) (pe_ix (ixT (K := K) rfl) (pv 1) (pe_op op_add (pv 3) pe_int) (fun _ _ => rfl)) (nomark _)))) pa_nil)))) (pss_one ps_never) pss_nil))), ?_⟩
  refine q_forTW (ev_var rfl) hb (fun i σ' H' => Ex H H' ∧ ∃ x2, σ' = [some (.ref a), some (.ref b), x2, none]) (fun H1 e => ⟨e, none, rfl⟩) (fun i σ' H' _ p => tex p.1) ?_ ?_
  · rintro i x σ' H1 hx ⟨e1, x2, rfl⟩
    rw [List.getElem?_map] at hx
    obtain ⟨h, hh, rfl⟩ := Option.map_eq_some_iff.mp hx
    have := hrg h (List.mem_of_getElem? hh)
    show (tDrop _ : TS) _ ([some (.ref a), some (.ref b), some (.int h), none] : L2.St) H1
    exact s_drop (ev_needPlace (ev_var rfl) (ev_var rfl) (hN.mono (tex e1)) this.1 this.2) fun H2 e2 => ⟨e1.trans e2, _, rfl⟩
  · rintro σ' H1 ⟨e1, x2, rfl⟩
    have hb1 := e1 _ _ hb
    have key := EvN.l (xs := ((List.range ((hs.length : Int) - 1).toNat).map fun _ => true).map V.bl) (lcR (σ := [some (.ref a), some (.ref b), x2, none]) (H := H1) (g := gName 3) (t := tYes) (te := tOp (rI0 fun i j => .bl (decide (i < j))) (tOp (rIxT K) (tVar 1) (tVar 3)) (tOp (rIxT K) (tVar 1) (tOp (rI0 fun i j => .int (i + j)) (tVar 3) (tC (.int 1))))) (vs := [3])
      (n := (hs.length : Int) - 1) (ta := tCons (tOp (rI0 fun i j => .int (i - j)) (tCB (rLenS K) (tCons (tVar 1) tNil)) (tC (.int 1))) tNil) (ea_cons (ev_is (ev_op (ev_lenT (ev_var rfl) hb1) ev_c rv_I0) (by rw [List.length_map])) ea_nil) (by omega) (by omega) (fun _ => true) _ _ sets_rng (fun i hi => rfl)
      (step_vals (fun i => .bl true) (fun i H2 hi e => et_yes) fun i H2 hi e _ => ?_)) (fun acc H2 r => by rw [r, given_all, List.map_map]; rfl)
    · refine s_skip (et_not (et_B (evp_all key))) ?_ fun H2 e2 => k H2 (e1.trans e2)
      simp
    · have h1 : i < hs.length := by omega
      have h2 : i + 1 < hs.length := by omega
      have lt := List.pairwise_iff_getElem.mp hup i (i + 1) h1 h2 (Nat.lt_succ_self i)
      have hb2 := e _ _ hb1
      refine ev_is (ev_op (ev_ixT (i := (i : Int)) (v := .int hs[i]) (ev_var rfl) (ev_var rfl) hb2 ?_) (ev_ixT (i := (i : Int) + 1) (v := .int hs[i+1]) (ev_var rfl) (ev_op (ev_var rfl) ev_c rv_I0) hb2 ?_) rv_I0) (by simp [lt])
      · exact atI_nat (j := i) (by rw [List.getElem?_map, List.getElem?_eq_getElem h1]; rfl)
      · exact atI_nat (j := i + 1) (by rw [List.getElem?_map, List.getElem?_eq_getElem h2]; rfl)
theorem ev_needHearers {σ : L2.St} {H : Hp} {E : XK} {t1 t2 : TE} {a b : Addr} {N : Net} {hs : List Int} (h1 : Ev t1 σ H (.ref a)) (h2 : Ev t2 σ H (.ref b)) (hN : NetAt H a N) (hb : H b = some (.tup (hs.map V.int))) (hr : ∀ h ∈ hs, 0 ≤ h ∧ h < N.n) (hu : hs.Pairwise (· < ·)) (hl : hs.length ≤ 100) :
    Ev (tCall spNeedHearers [] E (tCons t1 (tCons t2 tNil))) σ H .non :=
  ev_callV (ea_cons h1 (ea_cons h2 ea_nil)) fun H1 e Q k => ⟨a, b, N, hs, rfl, hN.mono (tex e), e _ _ hb, hr, hu, hl, k⟩
def spNeedSome : Sp := fun vs H Q _ => ∃ (a b : Addr) (N : Net) (hs : List Int), vs = [.ref a, .ref b] ∧ NetAt H a N ∧ H b = some (.tup (hs.map V.int)) ∧ (∀ h ∈ hs, 0 ≤ h ∧ h < N.n) ∧ hs.Pairwise (· < ·) ∧ hs ≠ [] ∧ hs.length ≤ 6 ∧ RetV .non H Q
abbrev s_need_some : Stmt := top 30
abbrev N_need_some : List Str := ["net", "hearers"]
theorem sc_need_some : FnScope N_need_some ["net", "hearers"] (defScope s_need_some) := fnScope_by (by decide +kernel)
theorem ok_need_some (F : DefAt K mg "need_some" s_need_some ["net", "hearers"]) (T : Txt K mg) (c_need_hearers : Cal P w K mg base 2 "need_hearers" spNeedHearers []) : Cal P w K mg base 3 "need_some" spNeedSome [] := by
  refine F.cal sc_need_some (by walk_at "len") (fun f0 cdv A outer s0 H vs Q E hr h => ?_)
  obtain ⟨a, b, N, hs, rfl, hN, hb, hrg, hup, hne, hl, k⟩ := h
  have nd := sc_need_some.nd
  refine ⟨_, (pss_cons (ps_expr (pe_c c_need_hearers hr (by decide) (by rfl) (pa_cons (pv 0) (pa_cons (pv 1) pa_nil))))
      (pss_cons (ps_if (pt_cmpR (eqK (K := K) rfl hr.units) (pv 1) (pe_tup pa_nil) (nomark _)) (pss_one ps_never) pss_nil)
      (pss_one (ps_if (pt_cmpR op_gt (pe_callB (lenS (K := K) rfl) (by rfl) T.g_len PySem.boot_len (pa_cons (pv 1) pa_nil)) (pe_gc (by rfl) T.c_MOST_HEARERS) (nomark _)) (pss_one ps_never) pss_nil)))), ?_⟩
  refine q_drop (ev_needHearers (ev_var rfl) (ev_var rfl) hN hb hrg hup (by omega)) fun H1 e1 => ?_
  refine q_skip (et_test (ev_eqTU (m := []) (ev_var rfl) (eu_tup (vs := []) ea_nil (Nat.zero_le _)) (e1 _ _ hb))) (by simp [hne]) fun H2 e2 => ?_
  exact s_skip (et_test (ev_op (ev_lenT (ev_var rfl) ((e1.trans e2) _ _ hb)) ev_c rv_I0)) (by rw [List.length_map]; simp; omega) fun H3 e3 => k H3 ((e1.trans e2).trans e3)
theorem ev_needSome {σ : L2.St} {H : Hp} {E : XK} {t1 t2 : TE} {a b : Addr} {N : Net} {hs : List Int} (h1 : Ev t1 σ H (.ref a)) (h2 : Ev t2 σ H (.ref b)) (hN : NetAt H a N) (hb : H b = some (.tup (hs.map V.int))) (hr : ∀ h ∈ hs, 0 ≤ h ∧ h < N.n) (hu : hs.Pairwise (· < ·)) (hne : hs ≠ []) (hl : hs.length ≤ 6) :
    Ev (tCall spNeedSome [] E (tCons t1 (tCons t2 tNil))) σ H .non :=
  ev_callV (ea_cons h1 (ea_cons h2 ea_nil)) fun H1 e Q k => ⟨a, b, N, hs, rfl, hN.mono (tex e), e _ _ hb, hr, hu, hne, hl, k⟩
end
end HK

/-! part HKO -/
/-! The walks of cheapest.py: filling the table. -/
namespace HK
open PySem PySem.Spec PyProof.Rows L2 Evl
open C8 (Cal Met Mak pe_c pe_mk pe_mt pe_mt0 pe_gc fnScope_by)
open LamX (ExtN)
set_option hygiene false in
local macro_rules | `(tactic| walk_at "len") => `(tactic| (intro vs H Q E h; first
  | (obtain ⟨rfl, _⟩ := h; rfl)
  | (obtain ⟨_, rfl, _⟩ := h; rfl)
  | (obtain ⟨_, _, rfl, _⟩ := h; rfl)
  | (obtain ⟨_, _, _, rfl, _⟩ := h; rfl)
  | (obtain ⟨_, _, _, _, rfl, _⟩ := h; rfl)
  | (obtain ⟨_, _, _, _, _, rfl, _⟩ := h; rfl)
  | (obtain ⟨_, _, _, _, _, _, rfl, _⟩ := h; rfl)
  | (obtain ⟨_, _, _, _, _, _, _, rfl, _⟩ := h; rfl)
  | (obtain ⟨_, _, _, _, _, _, _, _, rfl, _⟩ := h; rfl)
  | (obtain ⟨_, _, _, _, _, _, _, _, _, rfl, _⟩ := h; rfl)
  | (obtain ⟨_, _, _, _, _, _, _, _, _, _, rfl, _⟩ := h; rfl)
  | (obtain ⟨_, _, _, _, _, _, _, _, _, _, _, rfl, _⟩ := h; rfl)
  | (obtain ⟨_, _, _, _, _, _, _, _, _, _, _, _, rfl, _⟩ := h; rfl)
  | (obtain ⟨_, _, _, _, _, _, _, _, _, _, _, _, _, rfl, _⟩ := h; rfl)
  | (obtain ⟨_, _, _, _, _, _, _, _, _, _, _, _, _, _, rfl, _⟩ := h; rfl)
  | (obtain ⟨_, _, _, _, _, _, _, _, _, _, _, _, _, _, _, rfl, _⟩ := h; rfl)
  | (obtain ⟨_, _, _, _, _, _, _, _, _, _, _, _, _, _, _, _, rfl, _⟩ := h; rfl)
  | (obtain ⟨_, _, _, _, _, _, _, _, _, _, _, _, _, _, _, _, _, rfl, _⟩ := h; rfl)
  | (obtain ⟨_, _, _, _, _, _, _, _, _, _, _, _, _, _, _, _, _, _, rfl, _⟩ := h; rfl)
  | (obtain ⟨_, _, _, _, _, _, _, _, _, _, _, _, _, _, _, _, _, _, _, rfl, _⟩ := h; rfl)
  | (obtain ⟨_, _, _, _, _, _, _, _, _, _, _, _, _, _, _, _, _, _, _, _, rfl, _⟩ := h; rfl)
  | (obtain ⟨_, _, _, _, _, _, _, _, _, _, _, _, _, _, _, _, _, _, _, _, _, rfl, _⟩ := h; rfl)
  | (obtain ⟨_, _, _, _, _, _, _, _, _, _, _, _, _, _, _, _, _, _, _, _, _, _, rfl, _⟩ := h; rfl)
  | (obtain ⟨_, _, _, _, _, _, _, _, _, _, _, _, _, _, _, _, _, _, _, _, _, _, _, rfl, _⟩ := h; rfl)
  | (obtain ⟨_, _, _, _, _, _, _, _, _, _, _, _, _, _, _, _, _, _, _, _, _, _, _, _, rfl, _⟩ := h; rfl)
  | (obtain ⟨_, _, _, _, _, _, _, _, _, _, _, _, _, _, _, _, _, _, _, _, _, _, _, _, _, rfl, _⟩ := h; rfl)))

def HowAt (H : Hp) : Option V → Option Hw → Prop
  | none, none => True
  | some v, some (.inl j) => ∃ q, v = .ref q ∧ H q = some (.tup [.str "road", .int j])
  | some v, some (.inr (A, B)) => ∃ q qa qb, v = .ref q ∧ H q = some (.tup [.str "parts", .ref qa, .ref qb]) ∧ H qa = some (.tup (A.map V.int)) ∧ H qb = some (.tup (B.map V.int))
  | _, _ => False
theorem HowAt.mono {H H' : Hp} (e : TEx H H') {o : Option V} {h : Option Hw} (w : HowAt H o h) : HowAt H' o h := by
  cases o with
  | none => cases h with
    | none => exact True.intro
    | some h => exact w.elim
  | some v => cases h with
    | none => exact w.elim
    | some h => cases h with
      | inl j => obtain ⟨q, h1, h2⟩ := w; exact ⟨q, h1, e _ _ h2⟩
      | inr p => obtain ⟨q, qa, qb, h1, h2, h3, h4⟩ := w; exact ⟨q, qa, qb, h1, e _ _ h2, e _ _ h3, e _ _ h4⟩
section
variable (P : Program) (w : World) (U : List NK)
structure TabAt (H : Hp) (a : Addr) (R : RF) : Prop where
  ex : ∃ kvs, DNAt P w H a kvs ∧ (keys kvs).Nodup ∧ (∀ k ∈ keys kvs, k ∈ U) ∧ ∀ k, get kvs k = (R k).map vO
structure MadeAt (H : Hp) (a : Addr) (M : MF) : Prop where
  ex : ∃ kvs, DNAt P w H a kvs ∧ (keys kvs).Nodup ∧ (∀ k ∈ keys kvs, k ∈ U) ∧ ∀ k, HowAt H (get kvs k) (M k)
end
section
variable {P : Program} {w : World} {U : List NK} {H H' : Hp} {a b : Addr} {R : RF} {M : MF}
theorem DNAt.ne_tup {kvs : List (NK × V)} (g : DNAt P w H a kvs) (xs : List V) : H a ≠ some (.tup xs) := fun z => by
  obtain ⟨ys, h1, _⟩ := g
  rw [h1] at z; cases z
theorem TabAt.ne_tup (g : TabAt P w U H a R) (xs : List V) : H a ≠ some (.tup xs) := by obtain ⟨kvs, h, _⟩ := g.ex; exact h.ne_tup xs
theorem MadeAt.ne_tup (g : MadeAt P w U H a M) (xs : List V) : H a ≠ some (.tup xs) := by obtain ⟨kvs, h, _⟩ := g.ex; exact h.ne_tup xs
theorem DNAt.at {kvs : List (NK × V)} (h : ∀ o, (∃ φ, o = HO.ext φ) → H a = some o → H' a = some o) (e : TEx H H') (g : DNAt P w H a kvs) : DNAt P w H' a kvs := by
  obtain ⟨xs, h1, h2, h3⟩ := g
  exact ⟨xs, h _ ⟨_, rfl⟩ h1, h2, fun x hx => (h3 x hx).mono e⟩
theorem TabAt.at (h : ∀ o, (∃ φ, o = HO.ext φ) → H a = some o → H' a = some o) (e : TEx H H') (g : TabAt P w U H a R) : TabAt P w U H' a R := by
  obtain ⟨kvs, h1, h2, h3, h4⟩ := g.ex
  exact ⟨kvs, h1.at h e, h2, h3, h4⟩
theorem MadeAt.at (h : ∀ o, (∃ φ, o = HO.ext φ) → H a = some o → H' a = some o) (e : TEx H H') (g : MadeAt P w U H a M) : MadeAt P w U H' a M := by
  obtain ⟨kvs, h1, h2, h3, h4⟩ := g.ex
  exact ⟨kvs, h1.at h e, h2, h3, fun k => (h4 k).mono e⟩
theorem TabAt.mono (e : Ex H H') (g : TabAt P w U H a R) : TabAt P w U H' a R := g.at (fun o _ h => e a o h) (tex e)
theorem MadeAt.mono (e : Ex H H') (g : MadeAt P w U H a M) : MadeAt P w U H' a M := g.at (fun o _ h => e a o h) (tex e)
theorem TabAt.exn (e : ExtN H H') (g : TabAt P w U H a R) : TabAt P w U H' a R := g.at (fun o ho h => e a o h (fun ps z => by obtain ⟨φ, rfl⟩ := ho; cases z)) (ExtN.tex e)
theorem MadeAt.exn (e : ExtN H H') (g : MadeAt P w U H a M) : MadeAt P w U H' a M := g.at (fun o ho h => e a o h (fun ps z => by obtain ⟨φ, rfl⟩ := ho; cases z)) (ExtN.tex e)
theorem tex_at {H : Hp} {a : Addr} {o : HO} (h : ∀ xs, H a ≠ some (.tup xs)) : TEx H (upd H a o) := fun b xs hb => by
  rw [upd_ne (fun z => h xs (by rw [← z]; exact hb))]; exact hb
theorem TabAt.other {o : HO} (g : TabAt P w U H a R) (hc : a ≠ b) (hb : ∀ xs, H b ≠ some (.tup xs)) : TabAt P w U (upd H b o) a R := g.at (fun o _ h => by rw [upd_ne hc]; exact h) (tex_at hb)
theorem MadeAt.other {o : HO} (g : MadeAt P w U H a M) (hc : a ≠ b) (hb : ∀ xs, H b ≠ some (.tup xs)) : MadeAt P w U (upd H b o) a M := g.at (fun o _ h => by rw [upd_ne hc]; exact h) (tex_at hb)
theorem kv_len {α : Type} {kvs : List (NK × α)} (nd : (keys kvs).Nodup) (h : ∀ k ∈ keys kvs, k ∈ U) : kvs.length ≤ U.length := by
  have := List.Nodup.length_le_of_subset nd h
  simpa [keys] using this
end
section
variable {P : Program} {w : World} {U : List NK} {K : PySem.W.Frag} {σ : L2.St} {H : Hp} {td ty tv : TE} {tz : TS} {D : Ends} {a q : Addr} {R : RF} {M : MF} {k : NK} {t1 t2 : TE}
/-- table[(s, p)] -/
theorem ev_tab {x : Option Int} (ha : Ev td σ H (.ref a)) (h1 : Ev t1 σ H (.ref q)) (h2 : Ev t2 σ H (.int k.2)) (hq : H q = some (.tup (k.1.map V.int))) (g : TabAt P w U H a R) (hx : R k = some x) : Ev (tXGet P w td (tTup (tCons t1 (tCons t2 tNil)))) σ H (vO x) := by
  obtain ⟨kvs, g1, g2, g3, g4⟩ := g.ex
  exact ev_xget ha (ek_tup h1 h2 hq) g1 (by rw [g4, hx]; rfl)
theorem TabAt.put {H1 H2 : Hp} {kvs : List (NK × V)} {x : Option Int} (g : (keys kvs).Nodup ∧ (∀ k ∈ keys kvs, k ∈ U) ∧ ∀ k, get kvs k = (R k).map vO) (hU : k ∈ U) (h2 : DNAt P w H2 a (HK.put kvs k (vO x))) : TabAt P w U H2 a (updM R k x) := by
  refine ⟨_, h2, nd_put g.1, fun y hy => ?_, fun y => ?_⟩
  · rcases mem_keys_put.mp hy with z | z
    · rw [z]; exact hU
    · exact g.2.1 y z
  · rw [get_put]
    unfold updM
    by_cases e : y = k
    · rw [if_pos e, if_pos e]; rfl
    · rw [if_neg e, if_neg e]; exact g.2.2 y
theorem s_tabput {x : Option Int} (hv : Ev tv σ H (vO x)) (ha : Ev td σ H (.ref a)) (h1 : Ev t1 σ H (.ref q)) (h2 : Ev t2 σ H (.int k.2)) (hq : H q = some (.tup (k.1.map V.int))) (g : TabAt P w U H a R) (hU : k ∈ U) (hl : U.length ≤ 1000)
    (qq : ∀ H1 H2, Ex H H1 → TabAt P w U H2 a (updM R k x) → (∃ o, H2 = upd H1 a o) → D.nx σ H2) : sXPut P w td (tTup (tCons t1 (tCons t2 tNil))) tv D σ H := by
  obtain ⟨kvs, g1, g2, g3, g4⟩ := g.ex
  have := kv_len g2 g3
  exact s_xput hv ha (ek_tup h1 h2 hq) g1 (by omega) fun H1 H2 e1 d h => qq H1 H2 e1 (TabAt.put (H1 := H) ⟨g2, g3, g4⟩ hU d) h
theorem q_tabput {x : Option Int} (hv : Ev tv σ H (vO x)) (ha : Ev td σ H (.ref a)) (h1 : Ev t1 σ H (.ref q)) (h2 : Ev t2 σ H (.int k.2)) (hq : H q = some (.tup (k.1.map V.int))) (g : TabAt P w U H a R) (hU : k ∈ U) (hl : U.length ≤ 1000)
    (qq : ∀ H1 H2, Ex H H1 → TabAt P w U H2 a (updM R k x) → (∃ o, H2 = upd H1 a o) → tz D σ H2) : tSeq (sXPut P w td (tTup (tCons t1 (tCons t2 tNil))) tv) tz D σ H := s_tabput (D := { D with nx := tz D }) hv ha h1 h2 hq g hU hl qq
theorem s_madeput {h : Hw} (hv : EvP tv σ H fun v H2 => HowAt H2 (some v) (some h)) (ha : ∀ H1, Ev td σ H1 (.ref a)) (h1 : ∀ H1, Ev t1 σ H1 (.ref q)) (h2 : ∀ H1, Ev t2 σ H1 (.int k.2)) (hq : H q = some (.tup (k.1.map V.int))) (g : MadeAt P w U H a M) (hU : k ∈ U) (hl : U.length ≤ 1000)
    (qq : ∀ H1 H2, Ex H H1 → MadeAt P w U H2 a (updM M k h) → (∃ o, H2 = upd H1 a o) → D.nx σ H2) : sXPut P w td (tTup (tCons t1 (tCons t2 tNil))) tv D σ H := by
  obtain ⟨kvs, g1, g2, g3, g4⟩ := g.ex
  have := kv_len g2 g3
  refine s_xputP hv (fun H1 e => ha H1) (fun H1 e => ek_tup (h1 H1) (h2 H1) (e _ _ hq)) g1 (by omega) fun v H0 H1 H2 e0 r e1 d hh => qq H1 H2 (e0.trans e1) ?_ hh
  obtain ⟨o, rfl⟩ := hh
  have tx : TEx H1 (upd H1 a o) := tex_at fun xs => (g1.mono (e0.trans e1)).ne_tup xs
  refine ⟨_, d, nd_put g2, fun y hy => ?_, fun y => ?_⟩
  · rcases mem_keys_put.mp hy with z | z
    · rw [z]; exact hU
    · exact g3 y z
  · rw [get_put]
    unfold updM
    by_cases e : y = k
    · rw [if_pos e, if_pos e]; exact r.mono ((tex e1).trans tx)
    · rw [if_neg e, if_neg e]; exact (g4 y).mono ((tex (e0.trans e1)).trans tx)
theorem q_madeput {h : Hw} (hv : EvP tv σ H fun v H2 => HowAt H2 (some v) (some h)) (ha : ∀ H1, Ev td σ H1 (.ref a)) (h1 : ∀ H1, Ev t1 σ H1 (.ref q)) (h2 : ∀ H1, Ev t2 σ H1 (.int k.2)) (hq : H q = some (.tup (k.1.map V.int))) (g : MadeAt P w U H a M) (hU : k ∈ U) (hl : U.length ≤ 1000)
    (qq : ∀ H1 H2, Ex H H1 → MadeAt P w U H2 a (updM M k h) → (∃ o, H2 = upd H1 a o) → tz D σ H2) : tSeq (sXPut P w td (tTup (tCons t1 (tCons t2 tNil))) tv) tz D σ H := s_madeput (D := { D with nx := tz D }) hv ha h1 h2 hq g hU hl qq
end
section
variable {P : Program} {w : World} {K : PySem.W.Frag} {mg : Str → Option Value} {base : Heap}
/-! ### fill_by_roads -/
structure FI (P : Program) (w : World) (U : List NK) (N : Net) (M0 : MF) (ok : List Int → Prop) (s : List Int) (R0 : RF) (M1 : MF) (cd0 : D) (B : Int) (tb mb : Addr) (H0 : Hp) (R : RF) (M : MF) (cd : D) (st : Int → Nat) (S : Nat) (H : Hp) : Prop where
  ex : ExB [tb, mb] H0 H
  tab : TabAt P w U H tb R
  mad : MadeAt P w U H mb M
  bf : BF N.n B cd
  col : Col N M0 ok s M cd st S
  eq : ∀ p, 0 ≤ p → p < N.n → R (s, p) = some (get cd p)
  oth : ∀ k, (k.1 ≠ s ∨ ¬ (0 ≤ k.2 ∧ k.2 < N.n)) → R k = R0 k ∧ M k = M1 k
  dom : ∀ p v, get cd0 p = some v → ∃ u, get cd p = some u ∧ u ≤ v
def RSettled (N : Net) (cd : D) : Prop := ∀ r ∈ N.rs, ∀ u, get cd r.j = some u → ∃ v, get cd r.i = some v ∧ v ≤ r.p + u
def spFill (P : Program) (w : World) : Sp := fun vs H Q _ => ∃ (a tb mb sa : Addr) (U : List NK) (N : Net) (M0 : MF) (ok : List Int → Prop) (s : List Int) (R : RF) (M : MF) (cd : D) (B : Int) (st : Int → Nat) (S : Nat), vs = [.ref a, .ref tb, .ref mb, .ref sa] ∧ NetAt H a N ∧ N.Ok ∧ H sa = some (.tup (s.map V.int)) ∧ tb ≠ mb ∧ U.length ≤ 1000 ∧ (∀ p, 0 ≤ p → p < N.n → (s, p) ∈ U) ∧ 0 ≤ B ∧
  FI P w U N M0 ok s R M cd B tb mb H R M cd st S H ∧ ∀ H2 R' M' cd' st' S', FI P w U N M0 ok s R M cd B tb mb H R' M' cd' st' S' H2 → RSettled N cd' → Q .non H2
theorem FI.mono {U : List NK} {N : Net} {M0 : MF} {ok : List Int → Prop} {s : List Int} {R0 : RF} {M1 : MF} {cd0 : D} {B : Int} {tb mb : Addr} {H0 H H' : Hp} {R : RF} {M : MF} {cd : D} {st : Int → Nat} {S : Nat} (I : FI P w U N M0 ok s R0 M1 cd0 B tb mb H0 R M cd st S H) (e : Ex H H') : FI P w U N M0 ok s R0 M1 cd0 B tb mb H0 R M cd st S H' :=
  ⟨I.ex.trans (ExB.of e), I.tab.mono e, I.mad.mono e, I.bf, I.col, I.eq, I.oth, I.dom⟩
theorem FI.tex {U : List NK} {N : Net} {M0 : MF} {ok : List Int → Prop} {s : List Int} {R0 : RF} {M1 : MF} {cd0 : D} {B : Int} {tb mb : Addr} {H0 H H' : Hp} {R : RF} {M : MF} {cd : D} {st : Int → Nat} {S : Nat} (I : FI P w U N M0 ok s R0 M1 cd0 B tb mb H0 R M cd st S H) (e : ExB [tb, mb] H H') : TEx H H' := fun b xs hb =>
  e b _ (fun z => by
    simp at z
    rcases z with z | z
    · exact I.tab.ne_tup xs (by rw [← z]; exact hb)
    · exact I.mad.ne_tup xs (by rw [← z]; exact hb)) hb
abbrev s_fill_by_roads : Stmt := top 35
abbrev N_fill_by_roads : List Str := ["net", "table", "made", "some", "moved", "i", "j", "price", "late", "told"]
theorem sc_fill_by_roads : FnScope N_fill_by_roads ["net", "table", "made", "some"] (defScope s_fill_by_roads) := fnScope_by (by decide +kernel)
theorem ok_fill (F : DefAt K mg "fill_by_roads" s_fill_by_roads ["net", "table", "made", "some"]) (T : Txt K mg) (c_sum_of : Cal P w K mg base 1 "sum_of" spSumOf []) (c_is_less : Cal P w K mg base 1 "is_less" spIsLess []) : Cal P w K mg base 2 "fill_by_roads" (spFill P w) [] := by
  refine F.cal sc_fill_by_roads (by walk_at "len") (fun f0 cdv A outer s0 H vs Q E hr h => ?_)
  obtain ⟨a, tb, mb, sa, U, N, M0, ok, s, R0, M1, cd0, B, st0, S0, rfl, hN, hok, hsa, tm, hU, hUs, hB, I0, k⟩ := h
  have nd := sc_fill_by_roads.nd
  refine ⟨_, (pss_cons (ps_set (i := 4) nd rfl (Or.inl rfl) pe_bl)
      (pss_one (ps_while PassesOwn.never (pt_val (pv 4)) (pss_cons (ps_set (i := 4) nd rfl (Or.inl rfl) pe_bl)
      (pss_one (ps_for PassesOwn.never rfl (pi_tupK (K := K) rfl (pe_ix (ixT (K := K) rfl) (pv 0) pe_int (fun _ _ => rfl))) (pg_tupK (K := K) rfl rfl (pgs_cons (pg_name (i := 5) nd rfl (Or.inl rfl)) (pgs_cons (pg_name (i := 6) nd rfl (Or.inl rfl)) (pgs_cons (pg_name (i := 7) nd rfl (Or.inl rfl)) (pgs_cons (pg_name (i := 8) nd rfl (Or.inl rfl)) pgs_nil))))) (pss_cons (ps_set (i := 9) nd rfl (Or.inl rfl) (pe_c c_sum_of hr (by decide) (by rfl) (pa_cons (pv 7) (pa_cons (pe_xget hr.units (pv 1) (pe_tup (pa_cons (pv 3) (pa_cons (pv 6) pa_nil))) (fun _ _ => rfl)) pa_nil))))
      (pss_one (ps_if (pt_val (pe_c c_is_less hr (by decide) (by rfl) (pa_cons (pv 9) (pa_cons (pe_xget hr.units (pv 1) (pe_tup (pa_cons (pv 3) (pa_cons (pv 5) pa_nil))) (fun _ _ => rfl)) pa_nil)))) (pss_cons (ps_xput hr.units (pv 1) (pe_tup (pa_cons (pv 3) (pa_cons (pv 5) pa_nil))) (pv 9) rfl)
      (pss_cons (ps_xput hr.units (pv 2) (pe_tup (pa_cons (pv 3) (pa_cons (pv 5) pa_nil))) (pe_tup (pa_cons pe_str (pa_cons (pv 6) pa_nil))) rfl)
      (pss_one (ps_set (i := 4) nd rfl (Or.inl rfl) pe_bl)))) pss_nil))))))))), ?_⟩
  obtain ⟨t, as, ha, ht, hR⟩ := hN.ex
  have n12 := hok.n12
  refine q_asg ev_c fun H1 e1 => ?_
  refine s_whileW (fun m σ H' => ∃ (b : Bool) (R : RF) (M : MF) (cd : D) (st : Int → Nat) (S : Nat) (x5 x6 x7 x8 x9 : Option V), m = 2 * pot B cd + (if b then 1 else 0) ∧ σ = [some (.ref a), some (.ref tb), some (.ref mb), some (.ref sa), some (.bl b), x5, x6, x7, x8, x9] ∧
    FI P w U N M0 ok s R0 M1 cd0 B tb mb H R M cd st S H' ∧ (b = false → RSettled N cd)) _ ⟨true, R0, M1, cd0, st0, S0, none, none, none, none, none, rfl, rfl, I0.mono e1, fun z => by cases z⟩ ?_
  rintro m σ H4 ⟨b, R, M, cd, st, S, x5, x6, x7, x8, x9, rfl, rfl, I, hb⟩
  refine ⟨b, et_B (ev_var rfl), fun eb H5 e5 => ?_, fun eb H5 e5 => k _ _ _ _ _ _ (I.mono e5) (hb eb)⟩
  subst eb
  have I5 := I.mono e5
  refine q_asg ev_c fun H6 e6 => ?_
  have I6 := I5.mono e6
  have tx6 := I0.tex I6.ex
  refine s_forTW (xs := as.map V.ref) (ev_ixT (i := 1) (v := .ref t) (ev_var rfl) ev_c (tx6 _ _ ha) rfl) (tx6 _ _ ht) (fun n σ H' => ∃ (b : Bool) (R' : RF) (M' : MF) (cd' : D) (st' : Int → Nat) (S' : Nat) (x5 x6 x7 x8 x9 : Option V), σ = [some (.ref a), some (.ref tb), some (.ref mb), some (.ref sa), some (.bl b), x5, x6, x7, x8, x9] ∧
      FI P w U N M0 ok s R0 M1 cd0 B tb mb H R' M' cd' st' S' H' ∧ ExB [tb, mb] H6 H' ∧ ((b = false ∧ cd' = cd ∧ ∀ k r, k < n → N.rs[k]? = some r → ∀ u, get cd r.j = some u → ∃ v, get cd r.i = some v ∧ v ≤ r.p + u) ∨ (b = true ∧ pot B cd' < pot B cd)))
    (fun H7 e7 => ⟨false, R, M, cd, st, S, x5, x6, x7, x8, x9, rfl, I6.mono e7, ExB.of e7, .inl ⟨rfl, rfl, fun k r hk => absurd hk (Nat.not_lt_zero k)⟩⟩)
    (fun n σ H' _ p => by obtain ⟨_, _, _, _, _, _, _, _, _, _, _, _, _, e, _⟩ := p; exact I6.tex e) ?_ ?_
  · rintro n x σ H7 hx ⟨b, R', M', cd', st', S', x5, x6, x7, x8, x9, rfl, I7, E7, hc⟩
    obtain ⟨c, r, rfl, hc1, hc2, hc3⟩ := hR.get hx
    have hrd := hok.rs r (List.mem_of_getElem? hc2)
    have tx7 := I0.tex I7.ex
    refine g4 (tx7 _ _ hc3) ?_
    show (tSeq (tAsg _ _) _ : TS) _ ([some (.ref a), some (.ref tb), some (.ref mb), some (.ref sa), some (.bl b), some (.int r.i), some (.int r.j), some (.int r.p), some (.int r.l), x9] : L2.St) H7
    refine q_asg (ev_sumOf (x := some r.p) (y := get cd' r.j) (ev_var rfl) (ev_tab (k := (s, r.j)) (ev_var rfl) (ev_var rfl) (ev_var rfl) (tx7 _ _ hsa) I7.tab (I7.eq r.j hrd.j0 hrd.j1))) fun H8 e8 => ?_
    have I8 := I7.mono e8
    have tx8 := I0.tex I8.ex
    refine s_when (et_B (ev_isLess (x := sumO (some r.p) (get cd' r.j)) (y := get cd' r.i) (ev_var rfl) (ev_tab (k := (s, r.i)) (ev_var rfl) (ev_var rfl) (ev_var rfl) (tx8 _ _ hsa) I8.tab (I8.eq r.i hrd.i0 hrd.i1)))) (fun q H9 e9 => ?_) (fun q H9 e9 => ?_)
    · cases hj : get cd' r.j with
      | none => rw [hj] at q; simp [sumO, lessO] at q
      | some u =>
        have lt : ∀ w, get cd' r.i = some w → r.p + u < w := fun w hw => by
          rw [hj, hw] at q; simpa [sumO, lessO] using q
        have step : BF N.n B (put cd' r.i (u + r.p)) ∧ pot B (put cd' r.i (u + r.p)) < pot B cd' := by
          cases hi : get cd' r.i with
          | none => exact I7.bf.new n12 hB hj (get_none.mp hi) hrd.i0 hrd.i1 hrd.p0 hrd.p1
          | some w => exact I7.bf.old hj hi hrd.p0 (by have := lt w hi; omega)
        rw [Int.add_comm] at step
        have I9 := I8.mono e9
        have tx9 := I0.tex I9.ex
        refine q_tabput (x := some (r.p + u)) (k := (s, r.i)) (ev_is (ev_var rfl) rfl) (ev_var rfl) (ev_var rfl) (ev_var rfl) (tx9 _ _ hsa) I9.tab (hUs _ hrd.i0 hrd.i1) hU fun H10 H11 e10 hT11 hh => ?_
        obtain ⟨o, rfl⟩ := hh
        have I10 := I9.mono e10
        have tx11 : TEx H10 (upd H10 tb o) := tex_at fun xs => I10.tab.ne_tup xs
        have hM11 : MadeAt P w U (upd H10 tb o) mb M' := I10.mad.other tm.symm fun xs => I10.tab.ne_tup xs
        have tx10 := I0.tex I10.ex
        refine q_madeput (h := .inl r.j) (k := (s, r.i)) (fun Hx ex Qx qx => eu_tup (ea_cons ev_c (ea_cons (ev_var rfl) ea_nil)) (by show 2 ≤ 100000; decide) Hx ex Qx fun p Hy hp ey hy => qx _ Hy ey ⟨p, rfl, hy⟩) (fun Hx => ev_var rfl) (fun Hx => ev_var rfl) (fun Hx => ev_var rfl) (tx11 _ _ (tx10 _ _ hsa)) hM11 (hUs _ hrd.i0 hrd.i1) hU fun H12 H13 e12 hM13 hh2 => ?_
        obtain ⟨o2, rfl⟩ := hh2
        refine s_asg ev_c fun H14 e14 => ?_
        have E13 : ExB [tb, mb] H7 (upd H12 mb o2) := (((ExB.of ((e8.trans e9).trans e10)).trans (ExB.upd (by simp))).trans (ExB.of e12)).trans (ExB.upd (by simp))
        have hT13 : TabAt P w U (upd H12 mb o2) tb (updM R' (s, r.i) (some (r.p + u))) := (hT11.mono e12).other tm fun xs => (hM11.mono e12).ne_tup xs
        refine ⟨true, updM R' (s, r.i) (some (r.p + u)), updM M' (s, r.i) (.inl r.j), put cd' r.i (r.p + u), _, _, _, _, _, _, _, rfl, ⟨(I7.ex.trans E13).trans (ExB.of e14), hT13.mono e14, hM13.mono e14, step.1, I7.col.step hok (List.mem_of_getElem? hc2) hj lt, fun p p0 p1 => ?_, fun x hx => ?_, fun p v hv => ?_⟩, (E7.trans E13).trans (ExB.of e14), .inr ⟨rfl, ?_⟩⟩
        · rw [get_put]
          unfold updM
          by_cases e : p = r.i
          · rw [if_pos e, if_pos (by rw [e])]
          · rw [if_neg e, if_neg (fun z => e (Prod.mk.inj z).2)]; exact I7.eq p p0 p1
        · have ne : x ≠ (s, r.i) := by
            rintro rfl
            rcases hx with z | z
            · exact z rfl
            · exact z ⟨hrd.i0, hrd.i1⟩
          unfold updM
          rw [if_neg ne, if_neg ne]
          exact I7.oth x hx
        · obtain ⟨w', h1, h2⟩ := I7.dom p v hv
          rw [get_put]
          by_cases e : p = r.i
          · rw [if_pos e]
            rw [e] at h1
            have := lt w' h1
            exact ⟨_, rfl, by omega⟩
          · rw [if_neg e]; exact ⟨w', h1, h2⟩
        · rcases hc with ⟨_, rfl, _⟩ | ⟨_, h⟩
          · exact step.2
          · exact Nat.lt_trans step.2 h
    · refine ⟨b, R', M', cd', st', S', _, _, _, _, _, rfl, I8.mono e9, E7.trans (ExB.of (e8.trans e9)), ?_⟩
      rcases hc with ⟨h1, rfl, h3⟩ | h
      · refine .inl ⟨h1, rfl, fun m r' hm hr' => ?_⟩
        rcases Nat.lt_or_ge m n with h | h
        · exact h3 m r' h hr'
        · have : m = n := by omega
          subst this
          rw [hc2] at hr'; cases hr'
          intro u hu
          rw [hu] at q
          cases hi : get cd' r.i with
          | none => rw [hi] at q; simp [sumO, lessO] at q
          | some w => rw [hi] at q; simp [sumO, lessO] at q; exact ⟨w, rfl, q⟩
      · exact .inr h
  · rintro σ H7 ⟨b, R', M', cd', st', S', x5, x6, x7, x8, x9, rfl, I7, _, hc⟩
    rcases hc with ⟨rfl, rfl, h3⟩ | ⟨rfl, h⟩
    · refine ⟨2 * pot B cd' + 0, by simp, false, R', M', cd', st', S', x5, x6, x7, x8, x9, rfl, rfl, I7, fun _ r hr => ?_⟩
      obtain ⟨m, hm, em⟩ := List.getElem_of_mem hr
      exact h3 m r (by rw [List.length_map, hR.len]; exact hm) (by rw [List.getElem?_eq_getElem hm, em])
    · exact ⟨2 * pot B cd' + 1, by simp; omega, true, R', M', cd', st', S', x5, x6, x7, x8, x9, rfl, rfl, I7, fun z => by cases z⟩
end
end HK

/-! part HKQ -/
/-! The walks of cheapest.py: the table. -/
namespace HK
open PySem PySem.Spec PyProof.Rows L2 Evl
open C8 (Cal Met Mak pe_c pe_mk pe_mt pe_mt0 pe_gc fnScope_by)
open LamX (ExtN)
set_option hygiene false in
local macro_rules | `(tactic| walk_at "len") => `(tactic| (intro vs H Q E h; first
  | (obtain ⟨rfl, _⟩ := h; rfl)
  | (obtain ⟨_, rfl, _⟩ := h; rfl)
  | (obtain ⟨_, _, rfl, _⟩ := h; rfl)
  | (obtain ⟨_, _, _, rfl, _⟩ := h; rfl)
  | (obtain ⟨_, _, _, _, rfl, _⟩ := h; rfl)
  | (obtain ⟨_, _, _, _, _, rfl, _⟩ := h; rfl)
  | (obtain ⟨_, _, _, _, _, _, rfl, _⟩ := h; rfl)
  | (obtain ⟨_, _, _, _, _, _, _, rfl, _⟩ := h; rfl)
  | (obtain ⟨_, _, _, _, _, _, _, _, rfl, _⟩ := h; rfl)
  | (obtain ⟨_, _, _, _, _, _, _, _, _, rfl, _⟩ := h; rfl)
  | (obtain ⟨_, _, _, _, _, _, _, _, _, _, rfl, _⟩ := h; rfl)
  | (obtain ⟨_, _, _, _, _, _, _, _, _, _, _, rfl, _⟩ := h; rfl)
  | (obtain ⟨_, _, _, _, _, _, _, _, _, _, _, _, rfl, _⟩ := h; rfl)
  | (obtain ⟨_, _, _, _, _, _, _, _, _, _, _, _, _, rfl, _⟩ := h; rfl)
  | (obtain ⟨_, _, _, _, _, _, _, _, _, _, _, _, _, _, rfl, _⟩ := h; rfl)
  | (obtain ⟨_, _, _, _, _, _, _, _, _, _, _, _, _, _, _, rfl, _⟩ := h; rfl)
  | (obtain ⟨_, _, _, _, _, _, _, _, _, _, _, _, _, _, _, _, rfl, _⟩ := h; rfl)
  | (obtain ⟨_, _, _, _, _, _, _, _, _, _, _, _, _, _, _, _, _, rfl, _⟩ := h; rfl)
  | (obtain ⟨_, _, _, _, _, _, _, _, _, _, _, _, _, _, _, _, _, _, rfl, _⟩ := h; rfl)
  | (obtain ⟨_, _, _, _, _, _, _, _, _, _, _, _, _, _, _, _, _, _, _, rfl, _⟩ := h; rfl)
  | (obtain ⟨_, _, _, _, _, _, _, _, _, _, _, _, _, _, _, _, _, _, _, _, rfl, _⟩ := h; rfl)
  | (obtain ⟨_, _, _, _, _, _, _, _, _, _, _, _, _, _, _, _, _, _, _, _, _, rfl, _⟩ := h; rfl)
  | (obtain ⟨_, _, _, _, _, _, _, _, _, _, _, _, _, _, _, _, _, _, _, _, _, _, rfl, _⟩ := h; rfl)
  | (obtain ⟨_, _, _, _, _, _, _, _, _, _, _, _, _, _, _, _, _, _, _, _, _, _, _, rfl, _⟩ := h; rfl)
  | (obtain ⟨_, _, _, _, _, _, _, _, _, _, _, _, _, _, _, _, _, _, _, _, _, _, _, _, rfl, _⟩ := h; rfl)
  | (obtain ⟨_, _, _, _, _, _, _, _, _, _, _, _, _, _, _, _, _, _, _, _, _, _, _, _, _, rfl, _⟩ := h; rfl)))

theorem heap_at (c : Nat) (q : Str) : ∃ h : Heap, h.get? c = some { cls := .none, data := .fields #[.none, .str q 0] } := by
  have sz : ∀ n : Nat, ∃ h : Heap, h.objs.size = n := by
    intro n
    induction n with
    | zero => exact ⟨{}, rfl⟩
    | succ n ih =>
      obtain ⟨h, e⟩ := ih
      exact ⟨h.push { cls := .none, data := .plain }, by rw [Heap.size_push, e]⟩
  obtain ⟨h, e⟩ := sz c
  exact ⟨h.push { cls := .none, data := .fields #[.none, .str q 0] }, by rw [← e]; exact Heap.get?_push_size _ rfl⟩
theorem q_whenJ {t : TT} {tu tz : TS} {D : Ends} {σ : L2.St} {H : Hp} {b : Bool} {J : Hp → Prop} (h : EvT t σ H b) (y : b = true → ∀ H1, Ex H H1 → ∀ Dx : Ends, (∀ H', J H' → Dx.nx σ H') → tu Dx σ H1) (n : b = false → ∀ H1, Ex H H1 → J H1) (k : ∀ H', J H' → tz D σ H') : tSeq (tIfS t tu tNext) tz D σ H :=
  q_when h (fun e H1 e1 => y e H1 e1 _ k) (fun e H1 e1 => k H1 (n e H1 e1))
theorem code_ne_dn {P : Program} {w : World} {c : Addr} {q : Str} {xs : List (NK × Addr × V)} : LamX.CodeO c q ≠ DNo P w c xs := fun e => by
  have e2 := HO.ext.inj e
  obtain ⟨h, hh⟩ := heap_at c q
  have e3 := congrFun e2 h
  have : ∃ (oc : Obj) (vs : Array Value) (t : Tok), h.get? c = some oc ∧ oc.data = .fields vs ∧ vs[1]? = some (.str q t) := ⟨_, _, _, hh, rfl, rfl⟩
  have h2 := cast e3 this
  obtain ⟨_, _, ys, _, o, es, ep, h3, _, h4, _⟩ := h2
  rw [hh] at h3
  cases h3
  cases h4
theorem s_forC {K : PySem.W.Frag} {sp : Sp} {vs : List V} {E : XK} {ta : TA} {g : L2.TG} {tb : TS} {D : Ends} {σ : L2.St} {H : Hp} (ha : EvA ta σ H vs)
    (h : ∀ H1, Ex H H1 → ∀ Q : VK, (∀ p xs H2 (Pv : Nat → L2.St → Hp → Prop), H2 p = some (.lst xs) → Pv 0 σ H2 → (∀ i σ' H', i ≤ xs.length → Pv i σ' H' → H' p = some (.lst xs)) →
      (∀ i x σ' H', xs[i]? = some x → Pv i σ' H' → g x σ' H' fun σ2 H2 => tb { D with nx := Pv (i + 1), ct := Pv (i + 1), bk := D.nx } σ2 H2) → (∀ σ' H', Pv xs.length σ' H' → D.nx σ' H') → Q (.ref p) H2) → sp (vs ++ []) H1 Q E) : tFor (iList K (tCall sp [] E ta)) g tb D σ H :=
  ha H (Ex.refl H) _ fun H1 e1 => h H1 e1 _ fun p xs H2 Pv hp h0 hG hs hd => ⟨p, rfl, ⟨xs, sq_of hp⟩, for_walk (walks_lst K p xs) Pv h0 (fun i σ' H' hi q => sq_of (hG i σ' H' hi q)) (fun i x σ' H' _ it q => hs i x σ' H' it q) hd⟩
theorem q_forC {K : PySem.W.Frag} {sp : Sp} {vs : List V} {E : XK} {ta : TA} {g : L2.TG} {tb tz : TS} {D : Ends} {σ : L2.St} {H : Hp} (ha : EvA ta σ H vs)
    (h : ∀ H1, Ex H H1 → ∀ Q : VK, (∀ p xs H2 (Pv : Nat → L2.St → Hp → Prop), H2 p = some (.lst xs) → Pv 0 σ H2 → (∀ i σ' H', i ≤ xs.length → Pv i σ' H' → H' p = some (.lst xs)) →
      (∀ i x σ' H', xs[i]? = some x → Pv i σ' H' → g x σ' H' fun σ2 H2 => tb { D with nx := Pv (i + 1), ct := Pv (i + 1), bk := tz D } σ2 H2) → (∀ σ' H', Pv xs.length σ' H' → tz D σ' H') → Q (.ref p) H2) → sp (vs ++ []) H1 Q E) : tSeq (tFor (iList K (tCall sp [] E ta)) g tb) tz D σ H :=
  s_forC (D := { D with nx := tz D }) ha h
theorem s_dropC {sp : Sp} {vs : List V} {E : XK} {ta : TA} {D : Ends} {σ : L2.St} {H : Hp} (ha : EvA ta σ H vs) (h : ∀ H1, Ex H H1 → ∀ Q : VK, (∀ v H2, D.nx σ H2 → Q v H2) → sp (vs ++ []) H1 Q E) : tDrop (tCall sp [] E ta) D σ H :=
  ha H (Ex.refl H) _ fun H1 e1 => h H1 e1 _ fun v H2 q => q
theorem PT.dn {P : Program} {w : World} {T : Addr} {H : Hp} (t : PT T H) {b : Addr} {kvs : List (NK × V)} {o : HO} (hb : DNAt P w H b kvs) : PT T (upd H b o) := fun p hp => by
  obtain ⟨ps, h1, h2, h3⟩ := t p hp
  obtain ⟨xs, hx, _⟩ := hb
  refine ⟨ps, by rw [upd_ne (fun z => by rw [z, hx] at h1; cases h1)]; exact h1, h2, fun pos cv hc => ?_⟩
  obtain ⟨c, e1, e2⟩ := h3 pos cv hc
  refine ⟨c, e1, by rw [upd_ne (fun z => by
    subst z
    rw [hx] at e2
    exact code_ne_dn (Option.some.inj e2).symm)]; exact e2⟩
section
variable {P : Program} {w : World} {K : PySem.W.Frag} {mg : Str → Option Value} {base : Heap}
theorem TabAt.ne_lst {U : List NK} {H : Hp} {a : Addr} {R : RF} (g : TabAt P w U H a R) (xs : List V) : H a ≠ some (.lst xs) := fun z => by
  obtain ⟨kvs, ⟨ys, h1, _⟩, _⟩ := g.ex
  rw [h1] at z; cases z
theorem MadeAt.ne_lst {U : List NK} {H : Hp} {a : Addr} {M : MF} (g : MadeAt P w U H a M) (xs : List V) : H a ≠ some (.lst xs) := fun z => by
  obtain ⟨kvs, ⟨ys, h1, _⟩, _⟩ := g.ex
  rw [h1] at z; cases z
structure GH (T0 q : Addr) (out : List TupL) (H0 H : Hp) : Prop where
  ex : ExtN H0 H
  pt : PT T0 H
  lst : H q = some (.lst (refL out))
  tup : TupsI H out
theorem GH.mono {T0 q : Addr} {out : List TupL} {H0 H H' : Hp} (g : GH T0 q out H0 H) (e : Ex H H') : GH T0 q out H0 H' := ⟨g.ex.trans (exn e), g.pt.ex e, e _ _ g.lst, g.tup.mono (tex e)⟩
theorem GH.exn {T0 q : Addr} {out : List TupL} {H0 H H' : Hp} (g : GH T0 q out H0 H) (e : ExtN H H') (t : PT T0 H') : GH T0 q out H0 H' := ⟨g.ex.trans e, t, e _ _ g.lst (fun ps z => nomatch z), g.tup.mono (ExtN.tex e)⟩
theorem GH.dn {T0 q : Addr} {out : List TupL} {H0 H : Hp} (g : GH T0 q out H0 H) {b : Addr} {kvs : List (NK × V)} {o : HO} (h0 : H0 b = none) (hb : DNAt P w H b kvs) : GH T0 q out H0 (upd H b o) :=
  ⟨ExtN.mut g.ex h0, g.pt.dn hb, by
    obtain ⟨xs, hx, _⟩ := hb
    rw [upd_ne (fun z => by have := g.lst; rw [z, hx] at this; cases this)]; exact g.lst, g.tup.mono (tex_at fun xs => hb.ne_tup xs)⟩
theorem GH.tabU {T0 q : Addr} {out : List TupL} {H0 H : Hp} (g : GH T0 q out H0 H) {U : List NK} {b : Addr} {R : RF} {o : HO} (h0 : H0 b = none) (hb : TabAt P w U H b R) : GH T0 q out H0 (upd H b o) := by
  obtain ⟨kvs, h, _⟩ := hb.ex; exact g.dn h0 h
theorem GH.madU {T0 q : Addr} {out : List TupL} {H0 H : Hp} (g : GH T0 q out H0 H) {U : List NK} {b : Addr} {M : MF} {o : HO} (h0 : H0 b = none) (hb : MadeAt P w U H b M) : GH T0 q out H0 (upd H b o) := by
  obtain ⟨kvs, h, _⟩ := hb.ex; exact g.dn h0 h
/-- the place loop -/
structure PlI (P : Program) (w : World) (U : List NK) (N : Net) (ds : List (List Int)) (s : List Int) (R : RF) (M : MF) (tb mb : Addr) (m : Nat) (R' : RF) (M' : MF) (H : Hp) : Prop where
  tab : TabAt P w U H tb R'
  mad : MadeAt P w U H mb M'
  oth : ∀ k : NK, k.1 ≠ s → R' k = R k ∧ M' k = M k
  abs : ∀ p, ¬ (0 ≤ p ∧ p < (m : Int)) → R' (s, p) = none ∧ M' (s, p) = none
  cells : ∀ p, 0 ≤ p → p < (m : Int) → ∃ ps o, SplitsL s ps ∧ R' (s, p) = some o ∧ Cell N R M (· ∈ ds) s p ps o (M' (s, p))
/-- the splits loop, at the place m -/
structure SpI (P : Program) (w : World) (U : List NK) (N : Net) (ds : List (List Int)) (s : List Int) (R : RF) (M : MF) (tb mb : Addr) (m : Nat) (R' : RF) (M' : MF) (ps : List (List Int × List Int)) (o : Option Int) (R2 : RF) (M2 : MF) (H : Hp) : Prop where
  tab : TabAt P w U H tb R2
  mad : MadeAt P w U H mb M2
  oth : ∀ k : NK, k ≠ (s, (m : Int)) → R2 k = R' k ∧ M2 k = M' k
  here : R2 (s, (m : Int)) = some o
  cell : Cell N R M (· ∈ ds) s m ps o (M2 (s, (m : Int)))
theorem PlI.mono {U : List NK} {N : Net} {ds : List (List Int)} {s : List Int} {R R' : RF} {M M' : MF} {tb mb : Addr} {m : Nat} {H H' : Hp} (I : PlI P w U N ds s R M tb mb m R' M' H) (e : ExtN H H') : PlI P w U N ds s R M tb mb m R' M' H' :=
  ⟨I.tab.exn e, I.mad.exn e, I.oth, I.abs, I.cells⟩
theorem SpI.mono {U : List NK} {N : Net} {ds : List (List Int)} {s : List Int} {R R' R2 : RF} {M M' M2 : MF} {tb mb : Addr} {m : Nat} {ps : List (List Int × List Int)} {o : Option Int} {H H' : Hp} (I : SpI P w U N ds s R M tb mb m R' M' ps o R2 M2 H) (e : ExtN H H') : SpI P w U N ds s R M tb mb m R' M' ps o R2 M2 H' :=
  ⟨I.tab.exn e, I.mad.exn e, I.oth, I.here, I.cell⟩
theorem SpI.done {U : List NK} {N : Net} {ds : List (List Int)} {s : List Int} {R R' R2 : RF} {M M' M2 : MF} {tb mb : Addr} {m : Nat} {ps : List (List Int × List Int)} {o : Option Int} {H H' : Hp} (J : PlI P w U N ds s R M tb mb m R' M' H) (I : SpI P w U N ds s R M tb mb m R' M' ps o R2 M2 H') (hps : SplitsL s ps) :
    PlI P w U N ds s R M tb mb (m + 1) R2 M2 H' := by
  refine ⟨I.tab, I.mad, fun k hk => ?_, fun p hp => ?_, fun p p0 p1 => ?_⟩
  · have h := I.oth k (fun z => hk (by rw [z]))
    rw [h.1, h.2]; exact J.oth k hk
  · have h := I.oth (s, p) (fun z => hp (by have := (Prod.mk.inj z).2; omega))
    rw [h.1, h.2]; exact J.abs p (by omega)
  · by_cases e : p = m
    · subst e; exact ⟨ps, o, hps, I.here, I.cell⟩
    · have h := I.oth (s, p) (fun z => e (Prod.mk.inj z).2)
      obtain ⟨ps', o', h1, h2, h3⟩ := J.cells p p0 (by omega)
      exact ⟨ps', o', h1, by rw [h.1]; exact h2, by rw [h.2]; exact h3⟩
def univ (hs : List Int) (n : Nat) : List NK := (partsF hs).flatMap fun s => (List.range n).map fun i : Nat => (s, (i : Int))
theorem univ_mem {hs s : List Int} {n : Nat} {p : Int} (h : s.Sublist hs) (p0 : 0 ≤ p) (p1 : p < n) : (s, p) ∈ univ hs n := by
  unfold univ
  rw [List.mem_flatMap]
  refine ⟨s, (mem_partsF hs s).mpr h, List.mem_map.mpr ⟨p.toNat, List.mem_range.mpr (by omega), by rw [Int.toNat_of_nonneg p0]⟩⟩
theorem univ_len {hs : List Int} {n : Nat} (h : hs.length ≤ 6) (hn : n ≤ 12) : (univ hs n).length ≤ 1000 := by
  unfold univ
  have : ∀ l : List (List Int), (l.flatMap fun s => (List.range n).map fun i : Nat => (s, (i : Int))).length = l.length * n := by
    intro l
    induction l with
    | nil => simp
    | cons x l ih => simp [List.flatMap_cons, ih, Nat.add_mul]; omega
  rw [this, len_partsF]
  have h1 : 2 ^ hs.length ≤ 64 := Nat.le_trans (Nat.pow_le_pow_right (by decide) h) (by decide)
  exact Nat.le_trans (Nat.mul_le_mul h1 hn) (by decide)
def spTableOf (P : Program) (w : World) (T : Addr) : Sp := fun vs H Q _ => ∃ (a b : Addr) (N : Net) (hs : List Int), vs = [.ref a, .ref b] ∧ NetAt H a N ∧ N.Ok ∧ H b = some (.tup (hs.map V.int)) ∧ hs.Nodup ∧ hs.length ≤ 6 ∧ PT T H ∧
  ∀ v H2, ExtN H H2 → PT T H2 → (∃ q tb mb U R M ds, v = .ref q ∧ H2 q = some (.tup [.ref tb, .ref mb]) ∧ MadeAt P w U H2 mb M ∧ U.length ≤ 1000 ∧ TI N ds R M ∧ PartsL hs ds) → Q v H2
abbrev s_table_of : Stmt := top 36
abbrev N_table_of : List Str := ["net", "hearers", "table", "made", "some", "place", "one", "other", "told"]
theorem sc_table_of : FnScope N_table_of ["net", "hearers"] (defScope s_table_of) := fnScope_by (by decide +kernel)
theorem ok_table_of {T0 : Addr} (F : DefAt K mg "table_of" s_table_of ["net", "hearers"]) (T : Txt K mg) (c_parts_of : Cal P w K mg base 1 "parts_of" (spPartsOf T0) []) (c_splits_of : Cal P w K mg base 2 "splits_of" (spSplitsOf T0) []) (c_sum_of : Cal P w K mg base 1 "sum_of" spSumOf []) (c_is_less : Cal P w K mg base 1 "is_less" spIsLess []) (c_fill_by_roads : Cal P w K mg base 2 "fill_by_roads" (spFill P w) []) :
    Cal P w K mg base 3 "table_of" (spTableOf P w T0) [] := by
  refine F.cal sc_table_of (by walk_at "len") (fun f0 cdv A outer s0 H vs Q E hr h => ?_)
  obtain ⟨a, b, N, hs, rfl, hN, hok, hb, hnd, hl6, hPT, k⟩ := h
  have nd := sc_table_of.nd
  refine ⟨_, (pss_cons (ps_set (i := 2) nd rfl (Or.inl rfl) pe_dnewX)
      (pss_cons (ps_set (i := 3) nd rfl (Or.inl rfl) pe_dnewX)
      (pss_cons (ps_for PassesOwn.never rfl (pi_lstK (K := K) rfl (pe_c c_parts_of hr (by decide) (by rfl) (pa_cons (pv 1) pa_nil))) (pg_name (i := 4) nd rfl (Or.inl rfl)) (pss_cons (ps_for PassesOwn.never rfl (pi_range1 (by rfl) T.g_range (pa_cons (pe_ix (ixT (K := K) rfl) (pv 0) pe_int (fun _ _ => rfl)) pa_nil)) (pg_name (i := 5) nd rfl (Or.inl rfl)) (pss_cons (ps_xput hr.units (pv 2) (pe_tup (pa_cons (pv 4) (pa_cons (pv 5) pa_nil))) pe_non rfl)
      (pss_cons (ps_if (pt_cmpR (eqK (K := K) rfl hr.units) (pv 4) (pe_tup (pa_cons (pv 5) pa_nil)) (nomark _)) (pss_one (ps_xput hr.units (pv 2) (pe_tup (pa_cons (pv 4) (pa_cons (pv 5) pa_nil))) pe_int rfl)) pss_nil)
      (pss_one (ps_for PassesOwn.never rfl (pi_lstK (K := K) rfl (pe_c c_splits_of hr (by decide) (by rfl) (pa_cons (pv 4) pa_nil))) (pg_tupK (K := K) rfl rfl (pgs_cons (pg_name (i := 6) nd rfl (Or.inl rfl)) (pgs_cons (pg_name (i := 7) nd rfl (Or.inl rfl)) pgs_nil))) (pss_cons (ps_set (i := 8) nd rfl (Or.inl rfl) (pe_c c_sum_of hr (by decide) (by rfl) (pa_cons (pe_xget hr.units (pv 2) (pe_tup (pa_cons (pv 6) (pa_cons (pv 5) pa_nil))) (fun _ _ => rfl)) (pa_cons (pe_xget hr.units (pv 2) (pe_tup (pa_cons (pv 7) (pa_cons (pv 5) pa_nil))) (fun _ _ => rfl)) pa_nil))))
      (pss_one (ps_if (pt_val (pe_c c_is_less hr (by decide) (by rfl) (pa_cons (pv 8) (pa_cons (pe_xget hr.units (pv 2) (pe_tup (pa_cons (pv 4) (pa_cons (pv 5) pa_nil))) (fun _ _ => rfl)) pa_nil)))) (pss_cons (ps_xput hr.units (pv 2) (pe_tup (pa_cons (pv 4) (pa_cons (pv 5) pa_nil))) (pv 8) rfl)
      (pss_one (ps_xput hr.units (pv 3) (pe_tup (pa_cons (pv 4) (pa_cons (pv 5) pa_nil))) (pe_tup (pa_cons pe_str (pa_cons (pv 6) (pa_cons (pv 7) pa_nil)))) rfl))) pss_nil))))))))
      (pss_one (ps_expr (pe_c c_fill_by_roads hr (by decide) (by rfl) (pa_cons (pv 0) (pa_cons (pv 2) (pa_cons (pv 3) (pa_cons (pv 4) pa_nil)))))))))
      (pss_one (ps_ret (pe_tup (pa_cons (pv 2) (pa_cons (pv 3) pa_nil)))))))), ?_⟩
  have n12 := hok.n12
  have n1 := hok.n1
  have hU := univ_len (n := N.n.toNat) hl6 (by omega)
  generalize hUe : univ hs N.n.toNat = U at hU
  have hUm : ∀ s, s.Sublist hs → ∀ p, 0 ≤ p → p < N.n → (s, p) ∈ U := fun s h p p0 p1 => by rw [← hUe]; exact univ_mem h p0 (by omega)
  refine q_asgX fun tb H1 tb0 e1 ht1 => ?_
  refine q_asgX fun mb H2 mb1 e2 hm2 => ?_
  have mb0 : H mb = none := fresh_back e1 mb1
  have tm : tb ≠ mb := fun z => by
    obtain ⟨xs, hx, _⟩ := ht1
    rw [z, mb1] at hx; cases hx
  have e12 := e1.trans e2
  have hT2 : TabAt P w U H2 tb (fun _ => none) := ⟨[], ht1.mono e2, by simp [keys], fun k hk => by simp [keys] at hk, fun k => rfl⟩
  have hM2 : MadeAt P w U H2 mb (fun _ => none) := ⟨[], hm2, by simp [keys], fun k hk => by simp [keys] at hk, fun k => True.intro⟩
  refine q_forC (ea_cons (ev_var rfl) ea_nil) fun H3 e3 Q1 q1 => ?_
  have e13 := e12.trans e3
  refine ⟨b, hs, rfl, e13 _ _ hb, hnd, hl6, hPT.ex e13, fun q H4 out e4 hT4 hnl hq hO hP => ?_⟩
  have E4 : ExtN H H4 := (exn e13).trans e4
  have E24 : ExtN H2 H4 := (exn e3).trans e4
  refine q1 q _ H4 (fun i σ' H' => ∃ (R : RF) (M : MF) (x4 x5 x6 x7 x8 : Option V), σ' = [some (.ref a), some (.ref b), some (.ref tb), some (.ref mb), x4, x5, x6, x7, x8] ∧ GH T0 q out H H' ∧ TabAt P w U H' tb R ∧ MadeAt P w U H' mb M ∧ TI N ((out.map (·.2)).take i) R M)
    hq ⟨_, _, none, none, none, none, none, rfl, ⟨E4, hT4, hq, hO⟩, hT2.exn E24, hM2.exn E24, TI.nil N⟩ (fun i σ' H' _ p => by obtain ⟨_, _, _, _, _, _, _, _, g, _⟩ := p; exact g.lst) ?_ ?_
  · rintro i x σ' H5 hx ⟨R, M, x4, x5, x6, x7, x8, rfl, g5, t5, m5, I⟩
    obtain ⟨t, ht, rfl⟩ := refL_get hx
    have htm := List.mem_of_getElem? ht
    obtain ⟨sa, s⟩ := t
    have hi' : i < out.length := (List.getElem?_eq_some_iff.mp ht).1
    have hsm := (hP.mem s).mp (List.mem_map.mpr ⟨_, htm, rfl⟩)
    have snd : s.Nodup := hnd.sublist hsm.2
    have sl : s.length ≤ 6 := Nat.le_trans hsm.2.length_le hl6
    generalize hds : (out.map (·.2)).take i = ds at I
    have gets : (out.map (·.2))[i]? = some s := by rw [List.getElem?_map, ht]; rfl
    have dsl : (out.map (·.2)).take (i + 1) = ds ++ [s] := by rw [List.take_succ, gets, hds]; rfl
    have sds : s ∉ ds := fun z => by
      have h1 : ((out.map (·.2)).take (i + 1)).Nodup := hP.nd.sublist (List.take_sublist _ _)
      rw [dsl] at h1
      exact (List.nodup_append.mp h1).2.2 s z s (by simp) rfl
    have dsP : ∀ t ∈ ds, t.Nodup ∧ t.length ≤ s.length := fun t htd => by
      have h1 : ((out.map (·.2)).take (i + 1)).Pairwise (fun a b => a.length ≤ b.length) := hP.up.sublist (List.take_sublist _ _)
      rw [dsl] at h1
      have h2 := (List.pairwise_append.mp h1).2.2 t htd s (by simp)
      have h3 : t ∈ out.map (·.2) := by rw [← hds] at htd; exact List.mem_of_mem_take htd
      exact ⟨hnd.sublist ((hP.mem t).mp h3).2, h2⟩
    have dsub : ∀ t, t ≠ [] → t.Sublist hs → t.length < s.length → t ∈ ds := fun t h1 h2 h3 => by
      have h4 := (hP.mem t).mpr ⟨h1, h2⟩
      rw [← hds]
      obtain ⟨j, hj, ej⟩ := List.getElem_of_mem h4
      rcases Nat.lt_or_ge j i with h | h
      · exact List.mem_take_iff_getElem.mpr ⟨j, by omega, ej⟩
      · exfalso
        have hi2 : i < (out.map (·.2)).length := by rw [List.length_map]; exact hi'
        have ei : (out.map (·.2))[i] = s := (List.getElem?_eq_some_iff.mp gets).2
        rcases Nat.eq_or_lt_of_le h with h | h
        · subst h; rw [ei] at ej; rw [← ej] at h3; omega
        · have := List.pairwise_iff_getElem.mp hP.up i j hi2 hj h
          rw [ei, ej] at this; omega
    have spl : ∀ A C, C ≠ [] ∧ C.Sublist s.tail ∧ A = without s C → A ∈ ds ∧ C ∈ ds := fun A C h => by
      obtain ⟨f1, f2, f3, f4, f5, f6, _⟩ := split_facts snd h
      exact ⟨dsub A f1 (f3.trans hsm.2) f5, dsub C f2 (f4.trans hsm.2) f6⟩
    obtain ⟨tr, as, ha0, _, _⟩ := hN.ex
    show (tSeq (tFor _ _ _) _ : TS) _ ([some (.ref a), some (.ref b), some (.ref tb), some (.ref mb), some (.ref sa), x5, x6, x7, x8] : L2.St) H5
    refine q_forR1 (n := N.n) (ea_cons (ev_ixT (i := 0) (v := .int N.n) (ev_var rfl) ev_c (g5.ex _ _ ha0 (fun ps z => nomatch z)) rfl) ea_nil) ⟨by omega, by omega⟩ (fun m σ' H' => ∃ (R' : RF) (M' : MF) (x5 x6 x7 x8 : Option V), σ' = [some (.ref a), some (.ref b), some (.ref tb), some (.ref mb), some (.ref sa), x5, x6, x7, x8] ∧ GH T0 q out H H' ∧ PlI P w U N ds s R M tb mb m R' M' H')
      (fun H6 e6 => ⟨R, M, x5, x6, x7, x8, rfl, g5.mono e6, ⟨t5.mono e6, m5.mono e6, fun k _ => ⟨rfl, rfl⟩, fun p _ => I.out s sds p, fun p p0 p1 => by omega⟩⟩) ?_ ?_
    · rintro m σ' H6 hm ⟨R', M', x5, x6, x7, x8, rfl, g6, J6⟩
      have hmU := hUm s hsm.2 (m : Int) (by omega) hm
      have hs6 : H6 sa = some (.tup (s.map V.int)) := g6.tup _ htm
      show (tSeq (sXPut _ _ _ _ _) _ : TS) _ ([some (.ref a), some (.ref b), some (.ref tb), some (.ref mb), some (.ref sa), some (.int (m : Int)), x6, x7, x8] : L2.St) H6
      refine q_tabput (x := none) (k := (s, (m : Int))) ev_c (ev_var rfl) (ev_var rfl) (ev_var rfl) hs6 J6.tab hmU hU fun H7 H8 e7 hT8 hh => ?_
      obtain ⟨o8, rfl⟩ := hh
      have g8 : GH T0 q out H (upd H7 tb o8) := (g6.mono e7).tabU tb0 (J6.tab.mono e7)
      have hM8 : MadeAt P w U (upd H7 tb o8) mb M' := (J6.mad.mono e7).other tm.symm fun xs => (J6.tab.mono e7).ne_tup xs
      have hab := J6.abs (m : Int) (by omega)
      have st : ∀ (H9 : Hp) (R2 : RF), GH T0 q out H H9 → TabAt P w U H9 tb R2 → MadeAt P w U H9 mb M' → (∀ k : NK, k ≠ (s, (m : Int)) → R2 k = R' k) → R2 (s, (m : Int)) = some (if s = [(m : Int)] then some 0 else none) → SpI P w U N ds s R M tb mb m R' M' [] (if s = [(m : Int)] then some 0 else none) R2 M' H9 := fun H9 R2 g t m' h1 h2 =>
        ⟨t, m', fun k hk => ⟨h1 k hk, rfl⟩, h2, by rw [hab.2]; exact Cell.start⟩
      refine q_whenJ (J := fun H9 => ∃ R2, GH T0 q out H H9 ∧ SpI P w U N ds s R M tb mb m R' M' [] (if s = [(m : Int)] then some 0 else none) R2 M' H9) (et_test (ev_eqTU (m := [(m : Int)]) (ev_var rfl) (eu_tup (ea_cons (ev_var rfl) ea_nil) (by show 1 ≤ 100000; decide)) (g8.tup _ htm))) (fun ee H9 e9 Dx kx => ?_) (fun ee H9 e9 => ?_) (fun H9 hJ => ?_)
      · have es : s = [(m : Int)] := by simpa using ee
        have g9 := g8.mono e9
        refine s_tabput (x := some 0) (k := (s, (m : Int))) ev_c (ev_var rfl) (ev_var rfl) (ev_var rfl) (g9.tup _ htm) (hT8.mono e9) hmU hU fun H10 H11 e10 hT11 hh => ?_
        obtain ⟨o11, rfl⟩ := hh
        have t10 := (hT8.mono e9).mono e10
        refine kx _ ⟨_, (g9.mono e10).tabU tb0 t10, st _ _ ((g9.mono e10).tabU tb0 t10) hT11 (((hM8.mono e9).mono e10).other tm.symm fun xs => t10.ne_tup xs) (fun k hk => ?_) ?_⟩
        · unfold updM; rw [if_neg hk, if_neg hk]
        · unfold updM; rw [if_pos rfl, if_pos es]
      · have es : ¬ s = [(m : Int)] := by simpa using ee
        refine ⟨_, g8.mono e9, st _ _ (g8.mono e9) (hT8.mono e9) (hM8.mono e9) (fun k hk => ?_) ?_⟩
        · unfold updM; rw [if_neg hk]
        · unfold updM; rw [if_pos rfl, if_neg es]
      · obtain ⟨R2, g9, S9⟩ := hJ
        refine s_forC (ea_cons (ev_var rfl) ea_nil) fun H10 e10 Q1 q1 => ?_
        have g10 := g9.mono e10
        refine ⟨sa, s, rfl, g10.tup _ htm, hsm.1, snd, sl, g10.pt, fun p H11 ts e11 hT11 hp hS hSp => ?_⟩
        have g11 := g10.exn e11 hT11
        refine q1 p _ H11 (fun j σ' H' => ∃ (R2 : RF) (M2 : MF) (o : Option Int) (x6 x7 x8 : Option V), σ' = [some (.ref a), some (.ref b), some (.ref tb), some (.ref mb), some (.ref sa), some (.int (m : Int)), x6, x7, x8] ∧ GH T0 q out H H' ∧ H' p = some (.lst (refS ts)) ∧ SplI H' ts ∧ SpI P w U N ds s R M tb mb m R' M' ((prs ts).take j) o R2 M2 H')
          hp ⟨R2, M', _, x6, x7, x8, rfl, g11, hp, hS, S9.mono ((exn e10).trans e11)⟩ (fun j σ' H' _ p => by obtain ⟨_, _, _, _, _, _, _, _, e, _⟩ := p; exact e) ?_ ?_
        · rintro j x σ' H12 hx ⟨R2, M2, o, x6, x7, x8, rfl, g12, hp12, hS12, S12⟩
          have hx' := hx
          unfold refS at hx'
          rw [List.getElem?_map] at hx'
          obtain ⟨t, htj, rfl⟩ := Option.map_eq_some_iff.mp hx'
          obtain ⟨qp, ⟨qa, Al⟩, ⟨qb, Bl⟩⟩ := t
          have htjm := List.mem_of_getElem? htj
          obtain ⟨s1, s2, s3⟩ := hS12 _ htjm
          have hpr : (Al, Bl) ∈ prs ts := List.mem_map.mpr ⟨_, htjm, rfl⟩
          have hsp := (hSp.mem Al Bl).mp hpr
          obtain ⟨hA, hB⟩ := spl Al Bl hsp
          obtain ⟨f1, f2, f3, f4, f5, f6, f7⟩ := split_facts snd hsp
          have nA : Al ≠ s := fun z => sds (z ▸ hA)
          have nB : Bl ≠ s := fun z => sds (z ▸ hB)
          have rd : ∀ X, X ∈ ds → X ≠ s → R2 (X, (m : Int)) = some (val R (X, (m : Int))) := fun X hX hne => by
            obtain ⟨y, hy⟩ := I.pres X hX (m : Int) (by omega) hm
            rw [(S12.oth (X, (m : Int)) (fun z => hne (Prod.mk.inj z).1)).1, (J6.oth (X, (m : Int)) hne).1, hy]
            unfold val; rw [hy]; rfl
          refine g2 s1 ?_
          show (tSeq (tAsg _ _) _ : TS) _ ([some (.ref a), some (.ref b), some (.ref tb), some (.ref mb), some (.ref sa), some (.int (m : Int)), some (.ref qa), some (.ref qb), x8] : L2.St) H12
          refine q_asg (ev_sumOf (x := val R (Al, (m : Int))) (y := val R (Bl, (m : Int))) (ev_tab (k := (Al, (m : Int))) (ev_var rfl) (ev_var rfl) (ev_var rfl) s2 S12.tab (rd Al hA nA)) (ev_tab (k := (Bl, (m : Int))) (ev_var rfl) (ev_var rfl) (ev_var rfl) s3 S12.tab (rd Bl hB nB))) fun H13 e13' => ?_
          have g13 := g12.mono e13'
          have S13 := S12.mono (exn e13')
          have tk : (prs ts).take (j + 1) = (prs ts).take j ++ [(Al, Bl)] := by
            have : (prs ts)[j]? = some (Al, Bl) := by unfold prs; rw [List.getElem?_map, htj]; rfl
            rw [List.take_succ, this]; rfl
          refine s_when (et_B (ev_isLess (x := sumO (val R (Al, (m : Int))) (val R (Bl, (m : Int)))) (y := o) (ev_var rfl) (ev_tab (k := (s, (m : Int))) (ev_var rfl) (ev_var rfl) (ev_var rfl) (g13.tup _ htm) S13.tab S13.here))) (fun ql H14 e14 => ?_) (fun ql H14 e14 => ?_)
          · have g14 := g13.mono e14
            have S14 := S13.mono (exn e14)
            have hS14 := hS12.mono (tex (e13'.trans e14))
            obtain ⟨s1', s2', s3'⟩ := hS14 _ htjm
            refine q_tabput (x := sumO (val R (Al, (m : Int))) (val R (Bl, (m : Int)))) (k := (s, (m : Int))) (ev_var rfl) (ev_var rfl) (ev_var rfl) (ev_var rfl) (g14.tup _ htm) S14.tab hmU hU fun H15 H16 e15 hT16 hh => ?_
            obtain ⟨o16, rfl⟩ := hh
            have t15 := S14.tab.mono e15
            have g16 := (g14.mono e15).tabU (o := o16) tb0 t15
            have m16 := (S14.mad.mono e15).other (o := o16) tm.symm fun xs => t15.ne_tup xs
            have tx16 : TEx H14 (upd H15 tb o16) := (tex e15).trans (tex_at fun xs => t15.ne_tup xs)
            refine s_madeput (h := .inr (Al, Bl)) (k := (s, (m : Int))) (fun Hx ex Qx qx => eu_tup (ea_cons ev_c (ea_cons (ev_var rfl) (ea_cons (ev_var rfl) ea_nil))) (by show 3 ≤ 100000; decide) Hx ex Qx fun p' Hy hp' ey hy => qx _ Hy ey ⟨p', qa, qb, rfl, hy, ey _ _ (ex _ _ (tx16 _ _ s2')), ey _ _ (ex _ _ (tx16 _ _ s3'))⟩) (fun Hx => ev_var rfl) (fun Hx => ev_var rfl) (fun Hx => ev_var rfl) (g16.tup _ htm) m16 hmU hU fun H17 H18 e17 hM18 hh2 => ?_
            obtain ⟨o18, rfl⟩ := hh2
            have m17 := m16.mono e17
            refine ⟨_, _, sumO (val R (Al, (m : Int))) (val R (Bl, (m : Int))), _, _, _, rfl, (g16.mono e17).madU mb0 m17, ?_, ?_, ⟨(hT16.mono e17).other tm fun xs => m17.ne_tup xs, hM18, fun k hk => ?_, ?_, ?_⟩⟩
            · have h12 := e15 _ _ (e14 _ _ (e13' _ _ hp12))
              have h16 : (upd H15 tb o16) p = some (.lst (refS ts)) := by rw [upd_ne (fun z => t15.ne_lst _ (by rw [← z]; exact h12))]; exact h12
              rw [upd_ne (fun z => m17.ne_lst _ (by rw [← z]; exact e17 _ _ h16))]; exact e17 _ _ h16
            · exact hS14.mono ((tx16.trans (tex e17)).trans (tex_at fun xs => m17.ne_tup xs))
            · unfold updM
              rw [if_neg hk, if_neg hk]; exact S12.oth k hk
            · unfold updM; rw [if_pos rfl]
            · rw [tk]
              have := S12.cell.step I hA hB f7 (split_len snd hsp) ql
              unfold updM; rw [if_pos rfl]; exact this
          · refine ⟨R2, M2, o, _, _, _, rfl, g13.mono e14, e14 _ _ (e13' _ _ hp12), hS12.mono (tex (e13'.trans e14)), ?_⟩
            have S14 := S13.mono (exn e14)
            exact ⟨S14.tab, S14.mad, S14.oth, S14.here, by rw [tk]; exact S12.cell.keep ql⟩
        · rintro σ' H12 ⟨R2, M2, o, x6, x7, x8, rfl, g12, hp12, hS12, S12⟩
          have hlen : (refS ts).length = (prs ts).length := by unfold refS prs; rw [List.length_map, List.length_map]
          rw [hlen, List.take_length] at S12
          exact ⟨R2, M2, _, _, _, _, rfl, g12, SpI.done J6 S12 hSp⟩
    · rintro σ' H6 ⟨R', M', x5, x6, x7, x8, rfl, g6, J6⟩
      have nn : ((N.n.toNat : Nat) : Int) = N.n := Int.toNat_of_nonneg (by omega)
      have hval : ∀ p v, val R' (s, p) = some v → 0 ≤ p ∧ p < N.n ∧ 0 ≤ v ∧ Base N M (· ∈ ds) s p (M' (s, p)) v := fun p v hv => by
        by_cases z : 0 ≤ p ∧ p < ((N.n.toNat : Nat) : Int)
        · obtain ⟨ps, o, _, h2, h3⟩ := J6.cells p z.1 z.2
          unfold val at hv
          rw [h2] at hv
          have := h3.src v hv
          exact ⟨z.1, by omega, this.1, this.2⟩
        · unfold val at hv
          rw [(J6.abs p z).1] at hv; cases hv
      have bf := colD_BF (n := N.n) (by omega) (t := fun p => val R' (s, p)) fun p v h => (hval p v h).2.2.1
      have cget : ∀ p, 0 ≤ p → p < N.n → get (colD N.n.toNat fun p => val R' (s, p)) p = val R' (s, p) := fun p p0 p1 => by rw [colD_get _ _ _ p0, if_pos (by omega)]
      have cget2 : ∀ p v, get (colD N.n.toNat fun p => val R' (s, p)) p = some v → val R' (s, p) = some v := fun p v h => by
        have := bf.rg p (get_key h)
        rw [cget p this.1 this.2] at h; exact h
      generalize hcd : colD N.n.toNat (fun p => val R' (s, p)) = cd at bf cget cget2
      show (tDrop (tCall _ _ _ _) : TS) _ ([some (.ref a), some (.ref b), some (.ref tb), some (.ref mb), some (.ref sa), x5, x6, x7, x8] : L2.St) H6
      refine s_dropC (ea_cons (ev_var rfl) (ea_cons (ev_var rfl) (ea_cons (ev_var rfl) (ea_cons (ev_var rfl) ea_nil)))) fun H7 e7 Q1 q1 => ?_
      have g7 := g6.mono e7
      have J7 := J6.mono (exn e7)
      refine ⟨a, tb, mb, sa, U, N, M, (· ∈ ds), s, R', M', cd, vsum cd, (fun _ => 0), 1, rfl, hN.mono (ExtN.tex g7.ex), hok, g7.tup _ htm, tm, hU, fun p p0 p1 => hUm s hsm.2 p p0 p1, vsum_nonneg bf.lo,
        ⟨ExB.refl _ _, J7.tab, J7.mad, bf, ⟨fun p v hv => .inl (hval p v (cget2 p v hv)).2.2.2, fun x => Nat.one_pos⟩, fun p p0 p1 => ?_, fun k _ => ⟨rfl, rfl⟩, fun p v hv => ⟨v, hv, Int.le_refl _⟩⟩, fun H8 R8 M8 cd8 st8 S8 F8 hstl => ?_⟩
      · rw [cget p p0 p1]
        obtain ⟨ps, o, _, h2, _⟩ := J6.cells p p0 (by omega)
        unfold val; rw [h2]; rfl
      · have g8 : GH T0 q out H H8 := by
          have key : ∀ x o, (∀ ys, o ≠ DNo P w x ys) → H7 x = some o → H8 x = some o := fun x o hne h => F8.ex x o (fun z => by
            obtain ⟨kv1, ⟨y1, d1, _⟩, _⟩ := J7.tab.ex
            obtain ⟨kv2, ⟨y2, d2, _⟩, _⟩ := J7.mad.ex
            simp at z
            rcases z with z | z
            · rw [z] at h hne; rw [d1] at h; exact hne _ (Option.some.inj h).symm
            · rw [z] at h hne; rw [d2] at h; exact hne _ (Option.some.inj h).symm) h
          refine ⟨fun x o h n => F8.ex x o (fun z => ?_) (g7.ex x o h n), fun p' hp' => ?_, key _ _ (fun ys z => nomatch z) g7.lst, fun t' ht' => key _ _ (fun ys z => nomatch z) (g7.tup t' ht')⟩
          · simp at z
            rcases z with z | z
            · rw [z, tb0] at h; cases h
            · rw [z, mb0] at h; cases h
          · obtain ⟨ps, h1, h2, h3⟩ := g7.pt p' hp'
            refine ⟨ps, key _ _ (fun ys z => nomatch z) h1, h2, fun pos cv hc => ?_⟩
            obtain ⟨c, c1, c2⟩ := h3 pos cv hc
            exact ⟨c, c1, key _ _ (fun ys => code_ne_dn) c2⟩
        refine q1 _ _ ⟨R8, M8, _, _, _, _, _, rfl, g8, F8.tab, F8.mad, ?_⟩
        rw [dsl]
        refine TI.step hok I sds hsm.1 snd dsP spl (fun k hk => ?_) (fun p hp => ?_) (fun p p0 p1 => F8.eq p p0 p1) F8.bf F8.col hstl (fun p p0 p1 => ?_)
        · have h := F8.oth k (.inl hk)
          rw [h.1, h.2]; exact J6.oth k hk
        · have h := F8.oth (s, p) (.inr hp)
          rw [h.1, h.2]; exact J6.abs p (by omega)
        · obtain ⟨ps, o, h1, h2, h3⟩ := J6.cells p p0 (by omega)
          refine ⟨ps, o, _, h1, h3, fun v hv => F8.dom p v ?_⟩
          rw [cget p p0 p1]
          unfold val; rw [h2]; exact hv
  · rintro σ' H5 ⟨R, M, x4, x5, x6, x7, x8, rfl, g5, t5, m5, I⟩
    have hlen : (refL out).length = (out.map (·.2)).length := by unfold refL; rw [List.length_map, List.length_map]
    rw [hlen, List.take_length] at I
    refine s_retW (eu_tup (ea_cons (ev_var rfl) (ea_cons (ev_var rfl) ea_nil)) (by show 2 ≤ 100000; decide)) fun p H6 hp e6 h6 => k _ H6 (g5.ex.trans (exn e6)) (g5.pt.ex e6) ⟨p, tb, mb, U, R, M, _, rfl, h6, m5.mono e6, hU, I, hP⟩
end
end HK

/-! part HKR -/
/-! The walks of cheapest.py: the roads of a plan. -/
namespace HK
open PySem PySem.Spec PyProof.Rows L2 Evl
open C8 (Cal Met Mak pe_c pe_mk pe_mt pe_mt0 pe_gc fnScope_by)
open LamX (ExtN)
set_option hygiene false in
local macro_rules | `(tactic| walk_at "len") => `(tactic| (intro vs H Q E h; first
  | (obtain ⟨rfl, _⟩ := h; rfl)
  | (obtain ⟨_, rfl, _⟩ := h; rfl)
  | (obtain ⟨_, _, rfl, _⟩ := h; rfl)
  | (obtain ⟨_, _, _, rfl, _⟩ := h; rfl)
  | (obtain ⟨_, _, _, _, rfl, _⟩ := h; rfl)
  | (obtain ⟨_, _, _, _, _, rfl, _⟩ := h; rfl)
  | (obtain ⟨_, _, _, _, _, _, rfl, _⟩ := h; rfl)
  | (obtain ⟨_, _, _, _, _, _, _, rfl, _⟩ := h; rfl)
  | (obtain ⟨_, _, _, _, _, _, _, _, rfl, _⟩ := h; rfl)
  | (obtain ⟨_, _, _, _, _, _, _, _, _, rfl, _⟩ := h; rfl)
  | (obtain ⟨_, _, _, _, _, _, _, _, _, _, rfl, _⟩ := h; rfl)
  | (obtain ⟨_, _, _, _, _, _, _, _, _, _, _, rfl, _⟩ := h; rfl)
  | (obtain ⟨_, _, _, _, _, _, _, _, _, _, _, _, rfl, _⟩ := h; rfl)
  | (obtain ⟨_, _, _, _, _, _, _, _, _, _, _, _, _, rfl, _⟩ := h; rfl)
  | (obtain ⟨_, _, _, _, _, _, _, _, _, _, _, _, _, _, rfl, _⟩ := h; rfl)
  | (obtain ⟨_, _, _, _, _, _, _, _, _, _, _, _, _, _, _, rfl, _⟩ := h; rfl)
  | (obtain ⟨_, _, _, _, _, _, _, _, _, _, _, _, _, _, _, _, rfl, _⟩ := h; rfl)
  | (obtain ⟨_, _, _, _, _, _, _, _, _, _, _, _, _, _, _, _, _, rfl, _⟩ := h; rfl)
  | (obtain ⟨_, _, _, _, _, _, _, _, _, _, _, _, _, _, _, _, _, _, rfl, _⟩ := h; rfl)
  | (obtain ⟨_, _, _, _, _, _, _, _, _, _, _, _, _, _, _, _, _, _, _, rfl, _⟩ := h; rfl)
  | (obtain ⟨_, _, _, _, _, _, _, _, _, _, _, _, _, _, _, _, _, _, _, _, rfl, _⟩ := h; rfl)
  | (obtain ⟨_, _, _, _, _, _, _, _, _, _, _, _, _, _, _, _, _, _, _, _, _, rfl, _⟩ := h; rfl)
  | (obtain ⟨_, _, _, _, _, _, _, _, _, _, _, _, _, _, _, _, _, _, _, _, _, _, rfl, _⟩ := h; rfl)
  | (obtain ⟨_, _, _, _, _, _, _, _, _, _, _, _, _, _, _, _, _, _, _, _, _, _, _, rfl, _⟩ := h; rfl)
  | (obtain ⟨_, _, _, _, _, _, _, _, _, _, _, _, _, _, _, _, _, _, _, _, _, _, _, _, rfl, _⟩ := h; rfl)
  | (obtain ⟨_, _, _, _, _, _, _, _, _, _, _, _, _, _, _, _, _, _, _, _, _, _, _, _, _, rfl, _⟩ := h; rfl)))

abbrev RowT := Addr × (Addr × RowE)
def rowsOf (es : List RowT) : List RowE := es.map (·.2.2)
def refR (es : List RowT) : List V := es.map fun e => V.ref e.1
def RowAt (H : Hp) (es : List RowT) : Prop := ∀ e ∈ es, H e.1 = some (.tup [.ref e.2.1, .int e.2.2.1.2]) ∧ H e.2.1 = some (.tup (e.2.2.1.1.map V.int))
theorem RowAt.mono {H H' : Hp} {es : List RowT} (e : TEx H H') (h : RowAt H es) : RowAt H' es := fun t ht => ⟨e _ _ (h t ht).1, e _ _ (h t ht).2⟩
theorem RowAt.snoc {H : Hp} {es : List RowT} {e : RowT} (h : RowAt H es) (h1 : H e.1 = some (.tup [.ref e.2.1, .int e.2.2.1.2])) (h2 : H e.2.1 = some (.tup (e.2.2.1.1.map V.int))) : RowAt H (es ++ [e]) := fun t ht => by
  rcases List.mem_append.mp ht with ht | ht
  · exact h t ht
  · rw [List.mem_singleton.mp ht]; exact ⟨h1, h2⟩
def dK2 (k : NK) : PyData := .tuple [dTup k.1, .int k.2]
theorem lay_rows : ∀ l : List NK, PyData.canLayAll0 (l.map dK2) = true
  | [] => by simp [PyData.canLayAll0]
  | k :: l => by
    rw [List.map_cons, PyData.canLayAll0, lay_rows l]
    simp [dK2, dTup, PyData.canLay0, PyData.canLayAll0, lay_ints]
theorem depth_rows : ∀ l : List NK, PyData.depthAll (l.map dK2) ≤ 3
  | [] => by simp [PyData.depthAll]
  | k :: l => by
    rw [List.map_cons, PyData.depthAll]
    have := depth_rows l
    have : (dK2 k).depth ≤ 3 := by
      unfold dK2 dTup
      rw [PyData.depth, PyData.depthAll, PyData.depthAll, PyData.depth, PySem.W.depth_ints, PyData.depth, PyData.depthAll]
      decide
    omega
theorem shaped_rows (l : List NK) : SeqAt.shaped (.list (l.map dK2)) = true := by
  show ((PyData.list (l.map dK2)).canLay0 && decide ((PyData.list (l.map dK2)).depth ≤ 64)) = true
  rw [Bool.and_eq_true]
  refine ⟨by simp only [PyData.canLay0]; exact lay_rows l, decide_eq_true ?_⟩
  have := depth_rows l
  simp only [PyData.depth]; omega
section
variable {P : Program} {w : World} {K : PySem.W.Frag} {mg : Str → Option Value} {base : Heap}
theorem dp_rows {H : Hp} : ∀ {es : List RowT}, RowAt H es → DpAll K H (refR es) ((es.map fun e => e.2.2.1).map dK2)
  | [], _ => .nil
  | e :: es, h => .cons (.tup (st_of (h e (List.mem_cons_self ..)).1) (.cons (dp_tup (h e (List.mem_cons_self ..)).2) (.cons (.int _) .nil))) (dp_rows fun t ht => h t (List.mem_cons_of_mem _ ht))
theorem ev_neRow {σ : L2.St} {H : Hp} {t1 : TE} {l : Addr} {es : List RowT} (h1 : Ev t1 σ H (.ref l)) (hl : H l = some (.lst (refR es))) (hr : RowAt H es) : Ev (tOp (rNeD K) t1 (tLst tNil)) σ H (.bl (!es.isEmpty)) := fun H1 e Q q =>
  h1 H1 e _ fun H2 e2 => el_lst ea_nil (Nat.zero_le _) H2 (e.trans e2) _ fun p H3 hp e3 h3 =>
    ⟨.list ((es.map fun e => e.2.2.1).map dK2), .list [], .lst (sq_of (((e.trans e2).trans e3) _ _ hl)) (dp_rows (hr.mono (tex ((e.trans e2).trans e3)))), .lst (sq_of h3) .nil, shaped_rows _, by decide +kernel, by
      have : PyData.eqv (.list ((es.map fun e => e.2.2.1).map dK2)) (.list []) = es.isEmpty := by
        cases es <;> simp [PyData.eqv, PyData.eqvAll]
      rw [this]; exact q H3 (e2.trans e3)⟩
theorem q_popG {σ : L2.St} {H : Hp} {ta : TE} {g : L2.TG} {tz : TS} {D : Ends} {l : Addr} {xs : List V} {y : V} (hl : H l = some (.lst (xs ++ [y]))) (ha : Ev ta σ H (.ref l)) (k : ∀ H1, Ex H H1 → g y σ (upd H1 l (.lst xs)) (tz D)) :
    tSeq (tAsg (tBM0 K "list" rPop ta) g) tz D σ H := ha H (Ex.refl H) _ fun H1 e1 =>
  ⟨Or.inl ⟨rfl, _, sq_of (e1 l _ hl)⟩, l, _, y, rfl, rfl, e1 l _ hl, by simp, by rw [List.dropLast_concat]; exact k H1 e1⟩
theorem EvU.p {te : TE} {σ : L2.St} {H : Hp} {xs : List V} (h : EvU te σ H xs) : EvP te σ H fun v H2 => ∃ b, v = .ref b ∧ H2 b = some (.tup xs) := fun H1 e Q q => h H1 e Q fun p H2 hp e2 h2 => q _ H2 e2 ⟨p, rfl, h2⟩
def HowV (H : Hp) (v : V) : Option Hw → Prop
  | none => ∃ z, v = .ref z ∧ H z = some (.tup [.str "here"])
  | some h => HowAt H (some v) (some h)
theorem evp_how {U : List NK} {σ : L2.St} {H : Hp} {td t1 t2 : TE} {a q : Addr} {M : MF} {k : NK} (ha : Ev td σ H (.ref a)) (h1 : Ev t1 σ H (.ref q)) (h2 : Ev t2 σ H (.int k.2)) (hq : H q = some (.tup (k.1.map V.int))) (g : MadeAt P w U H a M) :
    EvP (tXGet2 P w td (tTup (tCons t1 (tCons t2 tNil))) (tTup (tCons (tC (.str "here")) tNil))) σ H fun v H2 => HowV H2 v (M k) := fun H1 e Q qq =>
  ha H1 e _ fun H2 e2 => by
    obtain ⟨kvs, g1, g2, g3, g4⟩ := g.ex
    refine ⟨a, kvs, rfl, g1.mono (e.trans e2), ek_tup h1 h2 hq H2 (e.trans e2) _ fun y H3 e3 r => ?_⟩
    obtain ⟨b, ey, hb⟩ := r
    refine eu_tup (vs := [.str "here"]) (ea_cons ev_c ea_nil) (by show 1 ≤ 100000; decide) H3 ((e.trans e2).trans e3) _ fun z H4 hz e4 h4 => ?_
    refine ⟨b, kvs, k, ey, g1.mono (((e.trans e2).trans e3).trans e4), hb.mono (tex e4), qq _ H4 ((e2.trans e3).trans e4) ?_⟩
    have w := (g4 k).mono (tex (((e.trans e2).trans e3).trans e4))
    cases hM : M k with
    | none =>
      rw [hM] at w
      cases hg : get kvs k with
      | none => exact ⟨z, rfl, h4⟩
      | some v => rw [hg] at w; exact w.elim
    | some hh =>
      rw [hM] at w
      cases hg : get kvs k with
      | none => rw [hg] at w; cases hh <;> exact w.elim
      | some v => rw [hg] at w; exact w
/-! ### roads_for -/
def spRoadsFor (P : Program) (w : World) : Sp := fun vs H Q _ => ∃ (mb hb : Addr) (U : List NK) (N : Net) (M : MF) (ok : List Int → Prop) (hs : List Int) (root : Int) (n : Nat) (C : Int), vs = [.ref mb, .ref hb, .int root] ∧ N.Ok ∧ MadeAt P w U H mb M ∧ H hb = some (.tup (hs.map V.int)) ∧ Plan N M ok (hs, root) n C ∧ n ≤ 1000 ∧
  RetP (fun v H2 => ∃ l fs E, v = .ref l ∧ H2 l = some (.lst (fs.map V.ref)) ∧ TupsAt e2V H2 fs E ∧ (∀ e ∈ E, N.has e.1 e.2) ∧ ecost N E = C ∧ (∀ h ∈ hs, Conn E root h) ∧ E.length ≤ 1000) H Q
abbrev s_roads_for : Stmt := top 37
abbrev N_roads_for : List Str := ["made", "hearers", "root", "row", "found", "some", "place", "how"]
theorem sc_roads_for : FnScope N_roads_for ["made", "hearers", "root"] (defScope s_roads_for) := fnScope_by (by decide +kernel)
theorem rowsOf_snoc (es : List RowT) (e : RowT) : rowsOf (es ++ [e]) = rowsOf es ++ [e.2.2] := by simp [rowsOf]
theorem ok_roads_for (F : DefAt K mg "roads_for" s_roads_for ["made", "hearers", "root"]) (T : Txt K mg) : Cal P w K mg base 1 "roads_for" (spRoadsFor P w) [] := by
  refine F.cal sc_roads_for (by walk_at "len") (fun f0 cdv A outer s0 H vs Q E hr h => ?_)
  obtain ⟨mb, hb, U, N, M, ok, hs, root, n0, C, rfl, hok, hM, hhb, hPl, hn0, k⟩ := h
  have nd := sc_roads_for.nd
  refine ⟨_, (pss_cons (ps_set (i := 3) nd rfl (Or.inl rfl) (pe_lst (pa_cons (pe_tup (pa_cons (pv 1) (pa_cons (pv 2) pa_nil))) pa_nil)))
      (pss_cons (ps_set (i := 4) nd rfl (Or.inl rfl) (pe_lst pa_nil))
      (pss_cons (ps_while PassesOwn.never (pt_cmpR (neK (K := K) rfl hr.units) (pv 3) (pe_lst pa_nil) (nomark _)) (pss_cons (ps_asg (pe_bm0 PySem.F.plainAttrs_list PySem.F.slot_list_pop PySem.F.type_list_pop mt_pop (pv 3)) (pg_tupK (K := K) rfl rfl (pgs_cons (pg_name (i := 5) nd rfl (Or.inl rfl)) (pgs_cons (pg_name (i := 6) nd rfl (Or.inl rfl)) pgs_nil))))
      (pss_cons (ps_set (i := 7) nd rfl (Or.inl rfl) (pe_xget2 hr.units (pv 0) (pe_tup (pa_cons (pv 5) (pa_cons (pv 6) pa_nil))) (pe_tup (pa_cons pe_str pa_nil)) ⟨rfl, rfl, rfl, rfl⟩))
      (pss_cons (ps_if (pt_cmpR op_eq (pe_ix (ixT (K := K) rfl) (pv 7) pe_int (fun _ _ => rfl)) pe_str (nomark _)) (pss_cons (ps_expr (pe_bm PySem.F.plainAttrs_list PySem.F.slot_list_append PySem.F.type_list_append mt_append (pv 4) (pa_cons (pe_tup (pa_cons (pv 6) (pa_cons (pe_ix (ixT (K := K) rfl) (pv 7) pe_int (fun _ _ => rfl)) pa_nil))) pa_nil)))
      (pss_one (ps_expr (pe_bm PySem.F.plainAttrs_list PySem.F.slot_list_append PySem.F.type_list_append mt_append (pv 3) (pa_cons (pe_tup (pa_cons (pv 5) (pa_cons (pe_ix (ixT (K := K) rfl) (pv 7) pe_int (fun _ _ => rfl)) pa_nil))) pa_nil))))) pss_nil)
      (pss_one (ps_if (pt_cmpR op_eq (pe_ix (ixT (K := K) rfl) (pv 7) pe_int (fun _ _ => rfl)) pe_str (nomark _)) (pss_cons (ps_expr (pe_bm PySem.F.plainAttrs_list PySem.F.slot_list_append PySem.F.type_list_append mt_append (pv 3) (pa_cons (pe_tup (pa_cons (pe_ix (ixT (K := K) rfl) (pv 7) pe_int (fun _ _ => rfl)) (pa_cons (pv 6) pa_nil))) pa_nil)))
      (pss_one (ps_expr (pe_bm PySem.F.plainAttrs_list PySem.F.slot_list_append PySem.F.type_list_append mt_append (pv 3) (pa_cons (pe_tup (pa_cons (pe_ix (ixT (K := K) rfl) (pv 7) pe_int (fun _ _ => rfl)) (pa_cons (pv 6) pa_nil))) pa_nil))))) pss_nil))))))
      (pss_one (ps_ret (pv 4)))))), ?_⟩
  refine q_asgP (evp_lst1U (eu_tup (ea_cons (ev_var rfl) (ea_cons (ev_var rfl) ea_nil)) (by show 2 ≤ 100000; decide))) fun v H1 e1 r => ?_
  obtain ⟨l, p0, rfl, l0, hl, hp0⟩ := r
  refine q_asgL (el_lst ea_nil (Nat.zero_le _)) fun f H2 f1 e2 hf => ?_
  have f0' : H f = none := fresh_back e1 f1
  have lf : l ≠ f := ne_of_none hl f1
  have e12 := e1.trans e2
  have I0 : RI N M ok hs root C (rowsOf [(p0, hb, ((hs, root), n0, C))]) [] := by
    refine ⟨fun e he => ?_, ?_, fun e he => by simp at he, fun e he => ?_, fun h hh => .inr ⟨_, List.mem_singleton.mpr rfl, hh⟩⟩
    · rw [List.mem_singleton.mp he]; exact hPl
    · simp [rowsOf, rowC, ecost]
    · rw [List.mem_singleton.mp he]; exact .root
  refine q_whileW (fun m σ H' => ∃ (es : List RowT) (fs : List Addr) (E : List (Int × Int)) (x5 x6 x7 : Option V), m = rowN (rowsOf es) ∧ σ = [some (.ref mb), some (.ref hb), some (.int root), some (.ref l), some (.ref f), x5, x6, x7] ∧ Ex H H' ∧ H' l = some (.lst (refR es)) ∧ RowAt H' es ∧ H' f = some (.lst (fs.map V.ref)) ∧ TupsAt e2V H' fs E ∧ RI N M ok hs root C (rowsOf es) E ∧ E.length + rowN (rowsOf es) ≤ n0)
    _ ⟨[(p0, hb, ((hs, root), n0, C))], [], [], none, none, none, rfl, rfl, e12, e2 _ _ hl, fun t ht => by rw [List.mem_singleton.mp ht]; exact ⟨e2 _ _ hp0, e12 _ _ hhb⟩, hf, TupsAt.nil, I0, by simp [rowsOf, rowN]⟩ ?_
  rintro m σ H3 ⟨es, fs, E, x5, x6, x7, rfl, rfl, e3, hl3, hR3, hf3, hE3, I, hn⟩
  have elen : es.length ≤ n0 := by
    have : ∀ es : List RowT, (∀ e ∈ rowsOf es, Plan N M ok e.1 e.2.1 e.2.2) → es.length ≤ rowN (rowsOf es) := by
      intro es
      induction es with
      | nil => intro _; exact Nat.zero_le _
      | cons e es ih =>
        intro h
        have h1 := (h e.2.2 (by simp [rowsOf])).pos
        have h2 := ih fun x hx => h x (by simp [rowsOf] at hx ⊢; exact .inr hx)
        simp [rowsOf, rowN] at h2 ⊢
        omega
    have := this es I.plans
    omega
  refine ⟨_, et_test (ev_neRow (ev_var rfl) hl3 hR3), fun eb H4 e4 => ?_, fun eb H4 e4 => ?_⟩
  · rcases List.eq_nil_or_concat es with z | ⟨es', e0, z⟩
    · rw [z] at eb; simp at eb
    rw [List.concat_eq_append] at z
    subst z
    obtain ⟨q, sa, ⟨⟨s, p⟩, n, c⟩⟩ := e0
    have hl4 : H4 l = some (.lst (refR es' ++ [.ref q])) := by rw [e4 _ _ hl3]; simp [refR]
    have hR4 := hR3.mono (tex e4)
    obtain ⟨hq, hs4⟩ := hR4 (q, sa, ((s, p), n, c)) (by simp)
    rw [rowsOf_snoc] at I hn
    simp only [List.length_append, List.length_singleton] at elen
    refine q_popG hl4 (ev_var rfl) fun H5 e5 => ?_
    have tx5 : TEx H4 (upd H5 l (.lst (refR es'))) := (tex e5).trans (tex_upd (e5 _ _ hl4) fun xs z => nomatch z)
    refine g2 (tx5 _ _ hq) ?_
    have E5 : Ex H (upd H5 l (.lst (refR es'))) := Ex.mut ((e3.trans e4).trans e5) l0
    have hR5 : RowAt (upd H5 l (.lst (refR es'))) es' := fun t ht => (hR4.mono tx5) t (List.mem_append.mpr (.inl ht))
    have hf5 : (upd H5 l (.lst (refR es'))) f = some (.lst (fs.map V.ref)) := by rw [upd_ne lf.symm]; exact (e4.trans e5) _ _ hf3
    have hE5 := hE3.mono ((tex e4).trans tx5)
    have hs5 := tx5 _ _ hs4
    have hl5 : (upd H5 l (.lst (refR es'))) l = some (.lst (refR es')) := upd_same
    generalize upd H5 l (.lst (refR es')) = G5 at *
    have flen : fs.length ≤ 1000 := by rw [hE5.len]; omega
    show (tSeq (tAsg _ _) _ : TS) _ ([some (.ref mb), some (.ref hb), some (.int root), some (.ref l), some (.ref f), some (.ref sa), some (.int p), x7] : L2.St) G5
    refine q_asgP (evp_how (k := (s, p)) (ev_var rfl) (ev_var rfl) (ev_var rfl) hs5 (hM.mono E5)) fun v H6 e6 hw => ?_
    have E6 := E5.trans e6
    have hl6 := e6 _ _ hl5
    have hf6 := e6 _ _ hf5
    have hR6 := hR5.mono (tex e6)
    have hE6 := hE5.mono (tex e6)
    have hs6 := e6 _ _ hs5
    rw [rowN_snoc] at hn
    cases hMk : M (s, p) with
    | none =>
      rw [hMk] at hw
      obtain ⟨z, rfl, hz⟩ := hw
      refine q_skip (et_test (ev_op (ev_ixT (i := 0) (v := .str "here") (ev_var rfl) ev_c hz rfl) ev_c (rv_eq rfl))) (by decide +kernel) fun H7 e7 => ?_
      refine s_skip (et_test (ev_op (ev_ixT (i := 0) (v := .str "here") (ev_var rfl) ev_c (e7 _ _ hz) rfl) ev_c (rv_eq rfl))) (by decide +kernel) fun H8 e8 => ?_
      have e78 := e7.trans e8
      have Pp := (I.plans _ (List.mem_append.mpr (.inr (List.mem_singleton.mpr rfl)))).pos
      have I' := I.here hMk
      simp at Pp hn
      refine ⟨_, ?_, es', fs, E, _, _, _, rfl, rfl, E6.trans e78, e78 _ _ hl6, hR6.mono (tex e78), e78 _ _ hf6, hE6.mono (tex e78), I', by omega⟩
      rw [rowsOf_snoc, rowN_snoc]; simp; omega
    | some hh =>
      rw [hMk] at hw
      cases hh with
      | inl j =>
        obtain ⟨z, rfl, hz⟩ := hw
        obtain ⟨n', c', hlt, I'⟩ := I.road hok hMk
        simp at hn
        refine q_when (et_test (ev_op (ev_ixT (i := 0) (v := .str "road") (ev_var rfl) ev_c hz rfl) ev_c (rv_eq rfl))) (fun _ H7 e7 => ?_) (fun ez => by exfalso; revert ez; decide +kernel)
        refine q_appP (e7 _ _ hf6) (ev_var rfl) (EvU.p (eu_tup (ea_cons (ev_var rfl) (ea_cons (ev_ixT (i := 1) (v := .int j) (ev_var rfl) ev_c (e7 _ _ hz) rfl) ea_nil)) (by show 2 ≤ 100000; decide))) (by rw [List.length_map]; omega) fun v H8 e8 r => ?_
        obtain ⟨b', rfl, hb'⟩ := r
        have hf8 := e8 _ _ (e7 _ _ hf6)
        have tx9 : TEx H8 (upd H8 f (.lst (fs.map V.ref ++ [.ref b']))) := tex_upd hf8 fun xs z => nomatch z
        have E9 : Ex H (upd H8 f (.lst (fs.map V.ref ++ [.ref b']))) := Ex.mut ((E6.trans e7).trans e8) f0'
        have hl9 : (upd H8 f (.lst (fs.map V.ref ++ [.ref b']))) l = some (.lst (refR es')) := by rw [upd_ne lf]; exact e8 _ _ (e7 _ _ hl6)
        have hR9 := hR6.mono (((tex e7).trans (tex e8)).trans tx9)
        have hE9 : TupsAt e2V (upd H8 f (.lst (fs.map V.ref ++ [.ref b']))) (fs ++ [b']) (E ++ [(p, j)]) := (hE6.mono (((tex e7).trans (tex e8)).trans tx9)).snoc (tx9 _ _ hb')
        have hs9 := tx9 _ _ (e8 _ _ (e7 _ _ hs6))
        have hz9 := tx9 _ _ (e8 _ _ (e7 _ _ hz))
        have hf9 : (upd H8 f (.lst (fs.map V.ref ++ [.ref b']))) f = some (.lst ((fs ++ [b']).map V.ref)) := by rw [upd_same]; simp
        generalize upd H8 f (.lst (fs.map V.ref ++ [.ref b'])) = G9 at *
        refine s_appP hl9 (ev_var rfl) (EvU.p (eu_tup (ea_cons (ev_var rfl) (ea_cons (ev_ixT (i := 1) (v := .int j) (ev_var rfl) ev_c hz9 rfl) ea_nil)) (by show 2 ≤ 100000; decide))) (by simp [refR]; omega) fun v H10 e10 r => ?_
        obtain ⟨b2, rfl, hb2⟩ := r
        have tx11 : TEx H10 (upd H10 l (.lst (refR es' ++ [.ref b2]))) := tex_upd (e10 _ _ hl9) fun xs z => nomatch z
        refine s_skip (et_test (ev_op (ev_ixT (i := 0) (v := .str "road") (ev_var rfl) ev_c (tx11 _ _ (e10 _ _ hz9)) rfl) ev_c (rv_eq rfl))) (by decide +kernel) fun H12 e12' => ?_
        refine ⟨_, ?_, es' ++ [(b2, sa, ((s, j), n', c'))], fs ++ [b'], E ++ [(p, j)], _, _, _, rfl, rfl, (Ex.mut (E9.trans e10) l0).trans e12', by rw [e12' _ _ upd_same]; simp [refR], ?_, e12' _ _ (by rw [upd_ne lf.symm]; exact e10 _ _ hf9), hE9.mono (((tex e10).trans tx11).trans (tex e12')), by rw [rowsOf_snoc]; exact I', ?_⟩
        · rw [rowsOf_snoc, rowN_snoc, rowsOf_snoc, rowN_snoc]; simp; omega
        · exact (hR9.mono (((tex e10).trans tx11).trans (tex e12'))).snoc (e12' _ _ (tx11 _ _ hb2)) (e12' _ _ (tx11 _ _ (e10 _ _ hs9)))
        · rw [rowsOf_snoc, rowN_snoc]; simp; omega
      | inr AB =>
        obtain ⟨Al, Bl⟩ := AB
        obtain ⟨z, qa, qb, rfl, hz, hqa, hqb⟩ := hw
        obtain ⟨nA, cA, nB, cB, hlt, I'⟩ := I.parts hMk
        simp at hn
        refine q_skip (et_test (ev_op (ev_ixT (i := 0) (v := .str "parts") (ev_var rfl) ev_c hz rfl) ev_c (rv_eq rfl))) (by decide +kernel) fun H7 e7 => ?_
        refine s_when (et_test (ev_op (ev_ixT (i := 0) (v := .str "parts") (ev_var rfl) ev_c (e7 _ _ hz) rfl) ev_c (rv_eq rfl))) (fun _ H8 e8 => ?_) (fun ez => by exfalso; revert ez; decide +kernel)
        have e78 := e7.trans e8
        refine q_appP (e78 _ _ hl6) (ev_var rfl) (EvU.p (eu_tup (ea_cons (ev_ixT (i := 1) (v := .ref qa) (ev_var rfl) ev_c (e78 _ _ hz) rfl) (ea_cons (ev_var rfl) ea_nil)) (by show 2 ≤ 100000; decide))) (by simp [refR]; omega) fun v H9 e9 r => ?_
        obtain ⟨b1, rfl, hb1⟩ := r
        have e79 := e78.trans e9
        have tx10 : TEx H9 (upd H9 l (.lst (refR es' ++ [.ref b1]))) := tex_upd (e79 _ _ hl6) fun xs z => nomatch z
        have E10 : Ex H (upd H9 l (.lst (refR es' ++ [.ref b1]))) := Ex.mut (E6.trans e79) l0
        have hR10 : RowAt (upd H9 l (.lst (refR es' ++ [.ref b1]))) (es' ++ [(b1, qa, ((Al, p), nA, cA))]) := (hR6.mono ((tex e79).trans tx10)).snoc (tx10 _ _ hb1) (tx10 _ _ (e79 _ _ hqa))
        have hl10 : (upd H9 l (.lst (refR es' ++ [.ref b1]))) l = some (.lst (refR (es' ++ [(b1, qa, ((Al, p), nA, cA))]))) := by rw [upd_same]; simp [refR]
        have hf10 : (upd H9 l (.lst (refR es' ++ [.ref b1]))) f = some (.lst (fs.map V.ref)) := by rw [upd_ne lf.symm]; exact e79 _ _ hf6
        have hE10 := hE6.mono ((tex e79).trans tx10)
        have hz10 := tx10 _ _ (e79 _ _ hz)
        have hqb10 := tx10 _ _ (e79 _ _ hqb)
        generalize upd H9 l (.lst (refR es' ++ [.ref b1])) = G10 at *
        refine s_appP hl10 (ev_var rfl) (EvU.p (eu_tup (ea_cons (ev_ixT (i := 2) (v := .ref qb) (ev_var rfl) ev_c hz10 rfl) (ea_cons (ev_var rfl) ea_nil)) (by show 2 ≤ 100000; decide))) (by simp [refR]; omega) fun v H11 e11 r => ?_
        obtain ⟨b2, rfl, hb2⟩ := r
        have tx12 : TEx H11 (upd H11 l (.lst (refR (es' ++ [(b1, qa, ((Al, p), nA, cA))]) ++ [.ref b2]))) := tex_upd (e11 _ _ hl10) fun xs z => nomatch z
        refine ⟨_, ?_, es' ++ [(b1, qa, ((Al, p), nA, cA))] ++ [(b2, qb, ((Bl, p), nB, cB))], fs, E, _, _, _, rfl, rfl, Ex.mut (E10.trans e11) l0, by rw [upd_same]; simp [refR], ?_, by rw [upd_ne lf.symm]; exact e11 _ _ hf10, hE10.mono ((tex e11).trans tx12), ?_, ?_⟩
        · rw [rowsOf_snoc, rowN_snoc, rowsOf_snoc, rowN_snoc, rowsOf_snoc, rowN_snoc]; simp; omega
        · exact (hR10.mono ((tex e11).trans tx12)).snoc (tx12 _ _ hb2) (tx12 _ _ (e11 _ _ hqb10))
        · rw [rowsOf_snoc, rowsOf_snoc, List.append_assoc]; exact I'
        · rw [rowsOf_snoc, rowN_snoc, rowsOf_snoc, rowN_snoc]; simp; omega
  · have z : es = [] := by simpa using eb
    subst z
    refine s_ret (ev_var rfl) fun H5 e5 => k _ H5 ((e3.trans e4).trans e5) ⟨f, fs, E, rfl, (e4.trans e5) _ _ hf3, hE3.mono (tex (e4.trans e5)), I.edge, ?_, fun h hh => ?_, by omega⟩
    · have := I.cost
      simpa [rowsOf, rowC] using this
    · rcases I.serve h hh with z | ⟨e, he, _⟩
      · exact z
      · simp [rowsOf] at he
end
end HK

/-! part HKU -/
/-! The walks of cheapest.py: the tree. -/
namespace HK
open PySem PySem.Spec PyProof.Rows L2 Evl
open C8 (Cal Met Mak pe_c pe_mk pe_mt pe_mt0 pe_gc fnScope_by)
open LamX (ExtN)
set_option hygiene false in
local macro_rules | `(tactic| walk_at "len") => `(tactic| (intro vs H Q E h; first
  | (obtain ⟨rfl, _⟩ := h; rfl)
  | (obtain ⟨_, rfl, _⟩ := h; rfl)
  | (obtain ⟨_, _, rfl, _⟩ := h; rfl)
  | (obtain ⟨_, _, _, rfl, _⟩ := h; rfl)
  | (obtain ⟨_, _, _, _, rfl, _⟩ := h; rfl)
  | (obtain ⟨_, _, _, _, _, rfl, _⟩ := h; rfl)
  | (obtain ⟨_, _, _, _, _, _, rfl, _⟩ := h; rfl)
  | (obtain ⟨_, _, _, _, _, _, _, rfl, _⟩ := h; rfl)
  | (obtain ⟨_, _, _, _, _, _, _, _, rfl, _⟩ := h; rfl)
  | (obtain ⟨_, _, _, _, _, _, _, _, _, rfl, _⟩ := h; rfl)
  | (obtain ⟨_, _, _, _, _, _, _, _, _, _, rfl, _⟩ := h; rfl)
  | (obtain ⟨_, _, _, _, _, _, _, _, _, _, _, rfl, _⟩ := h; rfl)
  | (obtain ⟨_, _, _, _, _, _, _, _, _, _, _, _, rfl, _⟩ := h; rfl)
  | (obtain ⟨_, _, _, _, _, _, _, _, _, _, _, _, _, rfl, _⟩ := h; rfl)
  | (obtain ⟨_, _, _, _, _, _, _, _, _, _, _, _, _, _, rfl, _⟩ := h; rfl)
  | (obtain ⟨_, _, _, _, _, _, _, _, _, _, _, _, _, _, _, rfl, _⟩ := h; rfl)
  | (obtain ⟨_, _, _, _, _, _, _, _, _, _, _, _, _, _, _, _, rfl, _⟩ := h; rfl)
  | (obtain ⟨_, _, _, _, _, _, _, _, _, _, _, _, _, _, _, _, _, rfl, _⟩ := h; rfl)
  | (obtain ⟨_, _, _, _, _, _, _, _, _, _, _, _, _, _, _, _, _, _, rfl, _⟩ := h; rfl)
  | (obtain ⟨_, _, _, _, _, _, _, _, _, _, _, _, _, _, _, _, _, _, _, rfl, _⟩ := h; rfl)
  | (obtain ⟨_, _, _, _, _, _, _, _, _, _, _, _, _, _, _, _, _, _, _, _, rfl, _⟩ := h; rfl)
  | (obtain ⟨_, _, _, _, _, _, _, _, _, _, _, _, _, _, _, _, _, _, _, _, _, rfl, _⟩ := h; rfl)
  | (obtain ⟨_, _, _, _, _, _, _, _, _, _, _, _, _, _, _, _, _, _, _, _, _, _, rfl, _⟩ := h; rfl)
  | (obtain ⟨_, _, _, _, _, _, _, _, _, _, _, _, _, _, _, _, _, _, _, _, _, _, _, rfl, _⟩ := h; rfl)
  | (obtain ⟨_, _, _, _, _, _, _, _, _, _, _, _, _, _, _, _, _, _, _, _, _, _, _, _, rfl, _⟩ := h; rfl)
  | (obtain ⟨_, _, _, _, _, _, _, _, _, _, _, _, _, _, _, _, _, _, _, _, _, _, _, _, _, rfl, _⟩ := h; rfl)))

theorem Grown.few {N : Net} (ok : N.Ok) {root : Int} (r0 : 0 ≤ root) (r1 : root < N.n) {d : D} (g : Grown N root d) : (root :: keys d).length ≤ 12 := by
  have h : ∀ k ∈ root :: keys d, 0 ≤ k ∧ k < N.n := fun k hk => by
    rcases List.mem_cons.mp hk with rfl | hk
    · exact ⟨r0, r1⟩
    · exact reach_range ok r0 r1 (tree_reach g.tree hk)
  have := len_range g.nodup h
  have := ok.n12
  omega
theorem len_keys (d : D) : (keys d).length = d.length := by simp [keys]
section
variable {P : Program} {w : World} {K : PySem.W.Frag} {mg : Str → Option Value} {base : Heap}
/-! ### trimmed -/
def TrimR (N : Net) (root : Int) (hs : List Int) (d : D) (H2 : Hp) (b : Addr) : Prop := ∃ l, H2 b = some (.dK (dI l)) ∧ Tree N root l ∧ (∀ h ∈ hs, h = root ∨ h ∈ keys l) ∧ ∀ k v, get l k = some v → get d k = some v
def spTrimmed : Sp := fun vs H Q _ => ∃ (hb db : Addr) (N : Net) (root : Int) (hs : List Int) (d : D), vs = [.int root, .ref hb, .ref db] ∧ N.Ok ∧ 0 ≤ root ∧ root < N.n ∧ H hb = some (.tup (hs.map V.int)) ∧ H db = some (.dK (dI d)) ∧ Grown N root d ∧ (∀ h ∈ hs, h = root ∨ h ∈ keys d) ∧
  RetP (fun v H2 => ∃ b, v = .ref b ∧ TrimR N root hs d H2 b) H Q
abbrev s_trimmed : Stmt := top 39
abbrev N_trimmed : List Str := ["root", "hearers", "ahead", "kept", "place", "here"]
theorem sc_trimmed : FnScope N_trimmed ["root", "hearers", "ahead"] (defScope s_trimmed) := fnScope_by (by decide +kernel)
theorem ok_trimmed (F : DefAt K mg "trimmed" s_trimmed ["root", "hearers", "ahead"]) (T : Txt K mg) : Cal P w K mg base 1 "trimmed" spTrimmed [] := by
  refine F.cal sc_trimmed (by walk_at "len") (fun f0 cdv A outer s0 H vs Q E hr h => ?_)
  obtain ⟨hb, db, N, root, hs, d, rfl, hok, r0, r1, hhb, hdb, g, hin, k⟩ := h
  have nd := sc_trimmed.nd
  refine ⟨_, (pss_cons (ps_set (i := 3) nd rfl (Or.inl rfl) pe_dnewK)
      (pss_cons (ps_for PassesOwn.never rfl (pi_tupK (K := K) rfl (pv 1)) (pg_name (i := 4) nd rfl (Or.inl rfl)) (pss_cons (ps_set (i := 5) nd rfl (Or.inl rfl) (pv 4))
      (pss_one (ps_while PassesOwn.never (PW.pt (pw_and (pt_cmpR op_ne (pv 5) (pv 0) (nomark _)) (pw_and1 (pt_cmp (pc_dnotin (hu_of hr) (pv 5) (pv 3)) rfl)))) (pss_cons (ps_dput (hu_of hr) (pv 3) (pv 5) (pe_dget (hu_of hr) (pv 2) (pv 5) (fun _ _ => rfl)) rfl)
      (pss_one (ps_set (i := 5) nd rfl (Or.inl rfl) (pe_dget (hu_of hr) (pv 2) (pv 5) (fun _ _ => rfl)))))))))
      (pss_one (ps_ret (pv 3))))), ?_⟩
  have gf := g.few hok r0 r1
  simp only [List.length_cons] at gf
  obtain ⟨mu, hO⟩ := g.onward
  refine q_asgW ew_newK fun kb H1 k0 e1 hk => ?_
  have kd : kb ≠ db := (ne_of_none hdb k0).symm
  refine q_forTW (ev_var rfl) (e1 _ _ hhb) (fun i σ' H' => ∃ (l : D) (x4 x5 : Option V), σ' = [some (.int root), some (.ref hb), some (.ref db), some (.ref kb), x4, x5] ∧ Ex H H' ∧ H' kb = some (.dK (dI l)) ∧ Tree N root l ∧ (∀ k v, get l k = some v → get d k = some v) ∧ (∀ h ∈ hs.take i, h = root ∨ h ∈ keys l) ∧ TEx H1 H')
    (fun H2 e2 => ⟨[], none, none, rfl, e1.trans e2, e2 _ _ hk, ⟨by simp [keys], by simp [keys], fun e he => by simp at he, fun k hk => by simp [keys] at hk⟩, fun k v h => by simp [get_nil] at h, fun h hh => by simp at hh, tex e2⟩)
    (fun i σ' H' _ p => by
      obtain ⟨_, _, _, _, _, _, _, _, _, e⟩ := p
      exact e) ?_ ?_
  · rintro i x σ' H2 hx ⟨l, x4, x5, rfl, e2, hl, hT, hsub, hdone, tx2⟩
    rw [List.getElem?_map] at hx
    obtain ⟨h, hh, rfl⟩ := Option.map_eq_some_iff.mp hx
    have hhm := List.mem_of_getElem? hh
    show (tSeq (tAsg _ _) _ : TS) _ ([some (.int root), some (.ref hb), some (.ref db), some (.ref kb), some (.int h), x5] : L2.St) H2
    refine q_asg (ev_var rfl) fun H3 e3 => ?_
    refine s_whileW (fun m σ H' => ∃ (l' : D) (y : Int), m = mu y ∧ σ = [some (.int root), some (.ref hb), some (.ref db), some (.ref kb), some (.int h), some (.int y)] ∧ Ex H H' ∧ H' kb = some (.dK (dI l')) ∧ GI N root l (root :: keys d) mu h l' y ∧ (∀ k v, get l' k = some v → get d k = some v) ∧ TEx H1 H') _
      ⟨l, h, rfl, rfl, e2.trans e3, e3 _ _ hl, GI.start hT (by rcases hin h hhm with z | z <;> simp [z]), hsub, tx2.trans (tex e3)⟩ ?_
    rintro m σ H4 ⟨l', y, rfl, rfl, e4, hl4, G, hsub', tx4⟩
    have llen : l'.length ≤ 12 := by
      have : (keys l').length ≤ (keys d).length := List.Nodup.length_le_of_subset G.nd fun x hx => by
        obtain ⟨v, hv⟩ := key_get hx
        exact get_key (hsub' x v hv)
      rw [len_keys, len_keys] at this
      rw [len_keys] at gf
      omega
    refine ⟨_, et_and (et_test (ev_op (ev_var rfl) (ev_var rfl) (rv_ne rfl))) fun _ => et_B (ev_dnotinI (ev_var rfl) (ev_var rfl) (.inl hl4)), fun eb H5 e5 => ?_, fun eb H5 e5 => ?_⟩
    · have q1 : y ≠ root := by have := (Bool.and_eq_true_iff.mp eb).1; simpa using this
      have q2 : y ∉ keys l' := by
        have := (Bool.and_eq_true_iff.mp eb).2
        exact get_none.mp (by simpa using this)
      have q3 : y ∉ keys l := fun z => by
        obtain ⟨v, hv⟩ := key_get z
        exact q2 (get_key (G.old y v hv))
      obtain ⟨z, hz, hmu, G'⟩ := G.step (hO l) q1 q3
      have E5 := e4.trans e5
      have hzI : (get d y).isSome = true := by rw [hz]; rfl
      refine q_dputI (d := l') (k := y) (v := z) (ev_is (ev_dgetI (ev_var rfl) (ev_var rfl) (.inl (E5 _ _ hdb)) hzI) (by rw [hz]; rfl)) (ev_var rfl) (ev_var rfl) (e5 _ _ hl4) (by omega) fun H6 e6 => ?_
      have hd6 : (upd H6 kb (.dK (dI (put l' y z)))) db = some (.dK (dI d)) := by rw [upd_ne kd.symm]; exact e6 _ _ (E5 _ _ hdb)
      refine s_asg (ev_is (w := .int z) (ev_dgetI (ev_var rfl) (ev_var rfl) (.inl hd6) hzI) (by simp [hz])) fun H7 e7 => ?_
      refine ⟨mu z, hmu, put l' y z, z, rfl, rfl, (Ex.mut (E5.trans e6) k0).trans e7, e7 _ _ upd_same, G', fun k v hk => ?_, (((tx4.trans (tex e5)).trans (tex e6)).trans (tex_upd (e6 _ _ (e5 _ _ hl4)) fun xs z => nomatch z)).trans (tex e7)⟩
      rw [get_put] at hk
      by_cases q : k = y
      · rw [if_pos q] at hk; cases hk; rw [q]; exact hz
      · rw [if_neg q] at hk; exact hsub' k v hk
    · have hh' : y = root ∨ y ∈ keys l := by
        by_cases q : y = root
        · exact .inl q
        · right
          have : y ∈ keys l' := by
            apply Classical.byContradiction
            intro z
            rw [get_none.mpr z] at eb
            simp [q] at eb
          apply Classical.byContradiction
          intro z
          obtain ⟨v, hv⟩ := key_get this
          have := (G.new y v hv z).2.1
          omega
      obtain ⟨T1, T2, T3⟩ := G.done hT hh'
      refine ⟨l', _, _, rfl, e4.trans e5, e5 _ _ hl4, T1, hsub', fun x hx => ?_, tx4.trans (tex e5)⟩
      rw [List.take_succ, hh] at hx
      rcases List.mem_append.mp hx with hx | hx
      · exact (hdone x hx).imp id (T2 x)
      · have : x = h := by simpa using hx
        rw [this]; exact T3
  · rintro σ' H2 ⟨l, x4, x5, rfl, e2, hl, hT, hsub, hdone, tx2⟩
    rw [List.length_map, List.take_length] at hdone
    exact s_ret (ev_var rfl) fun H3 e3 => k _ H3 (e2.trans e3) ⟨kb, rfl, l, e3 _ _ hl, hT, hdone, hsub⟩
/-! ### tree_by -/
theorem conn_row {E : List (Int × Int)} {root : Int} {row : List Int} (h0 : root ∈ row) (h : ∀ i ∈ row, ∀ j, (i, j) ∈ E → j ∈ row) {x : Int} (c : Conn E root x) : x ∈ row := by
  induction c with
  | root => exact h0
  | step h1 _ ih => exact h _ ih _ h1
def spTreeBy : Sp := fun vs H Q _ => ∃ (hb fb : Addr) (N : Net) (root : Int) (hs : List Int) (fs : List Addr) (E : List (Int × Int)), vs = [.int root, .ref hb, .ref fb] ∧ N.Ok ∧ 0 ≤ root ∧ root < N.n ∧ H hb = some (.tup (hs.map V.int)) ∧ H fb = some (.lst (fs.map V.ref)) ∧ TupsAt e2V H fs E ∧ (∀ e ∈ E, N.has e.1 e.2) ∧ (∀ h ∈ hs, Conn E root h) ∧
  RetP (fun v H2 => ∃ b l, v = .ref b ∧ H2 b = some (.dK (dI l)) ∧ Tree N root l ∧ (∀ h ∈ hs, h = root ∨ h ∈ keys l) ∧ ∀ e ∈ l, (e.2, e.1) ∈ E) H Q
abbrev s_tree_by : Stmt := top 38
abbrev N_tree_by : List Str := ["root", "hearers", "roads", "ahead", "row", "at", "i", "j"]
theorem sc_tree_by : FnScope N_tree_by ["root", "hearers", "roads"] (defScope s_tree_by) := fnScope_by (by decide +kernel)
theorem ok_tree_by (F : DefAt K mg "tree_by" s_tree_by ["root", "hearers", "roads"]) (T : Txt K mg) (c_trimmed : Cal P w K mg base 1 "trimmed" spTrimmed []) : Cal P w K mg base 2 "tree_by" spTreeBy [] := by
  refine F.cal sc_tree_by (by walk_at "len") (fun f0 cdv A outer s0 H vs Q X hr h => ?_)
  obtain ⟨hb, fb, N, root, hs, fs, E, rfl, hok, r0, r1, hhb, hfb, hE, hed, hconn, k⟩ := h
  have nd := sc_tree_by.nd
  refine ⟨_, (pss_cons (ps_set (i := 3) nd rfl (Or.inl rfl) pe_dnewK)
      (pss_cons (ps_set (i := 4) nd rfl (Or.inl rfl) (pe_lst (pa_cons (pv 0) pa_nil)))
      (pss_cons (ps_set (i := 5) nd rfl (Or.inl rfl) pe_int)
      (pss_cons (ps_while PassesOwn.never (pt_cmpR op_lt (pv 5) (pe_callB (lenS (K := K) rfl) (by rfl) T.g_len PySem.boot_len (pa_cons (pv 4) pa_nil)) (nomark _)) (pss_cons (ps_for PassesOwn.never rfl (pi_lstK (K := K) rfl (pv 2)) (pg_tupK (K := K) rfl rfl (pgs_cons (pg_name (i := 6) nd rfl (Or.inl rfl)) (pgs_cons (pg_name (i := 7) nd rfl (Or.inl rfl)) pgs_nil))) (pss_one (ps_if (PW.pt (pw_and (pt_cmpR op_eq (pv 6) (pe_ix (ixL (K := K) rfl) (pv 4) (pv 5) (fun _ _ => rfl)) (nomark _)) (pw_and1 (pt_cmpR (ninS (K := K) rfl) (pv 7) (pv 4) rfl)))) (pss_cons (ps_dput (hu_of hr) (pv 3) (pv 7) (pv 6) rfl)
      (pss_one (ps_expr (pe_bm PySem.F.plainAttrs_list PySem.F.slot_list_append PySem.F.type_list_append mt_append (pv 4) (pa_cons (pv 7) pa_nil))))) pss_nil)))
      (pss_one (ps_set (i := 5) nd rfl (Or.inl rfl) (pe_op op_add (pv 5) pe_int)))))
      (pss_one (ps_ret (pe_c c_trimmed hr (by decide) (by rfl) (pa_cons (pv 0) (pa_cons (pv 1) (pa_cons (pv 3) pa_nil)))))))))), ?_⟩
  refine q_asgW ew_newK fun ab H1 a0 e1 hab => ?_
  refine q_asgL (el_lst (ea_cons (ev_var rfl) ea_nil) (by show 1 ≤ 100000; decide)) fun rb H2 b1 e2 hrb => ?_
  have rb0 : H rb = none := fresh_back e1 b1
  have ar : ab ≠ rb := ne_of_none hab b1
  have af : ab ≠ fb := (ne_of_none hfb a0).symm
  have rf : rb ≠ fb := (ne_of_none hfb rb0).symm
  refine q_asg ev_c fun H3 e3 => ?_
  have e13 := e1.trans (e2.trans e3)
  refine q_whileW (fun m σ H' => ∃ (d : D) (at' : Nat) (x6 x7 : Option V), m = 20 - at' ∧ σ = [some (.int root), some (.ref hb), some (.ref fb), some (.ref ab), some (.ref rb), some (.int (at' : Int)), x6, x7] ∧ Ex H H' ∧ H' ab = some (.dK (dI d)) ∧ H' rb = some (.lst ((root :: keys d).map V.int)) ∧ Grown N root d ∧ (∀ k v, get d k = some v → (v, k) ∈ E) ∧ at' ≤ (root :: keys d).length ∧ ∀ i ∈ (root :: keys d).take at', ∀ j, (i, j) ∈ E → j ∈ root :: keys d)
    _ ⟨[], 0, none, none, rfl, rfl, e13, (e2.trans e3) _ _ hab, e3 _ _ hrb, .nil, fun k v h => by simp [get_nil] at h, Nat.zero_le _, fun i hi => by simp at hi⟩ ?_
  rintro m σ H4 ⟨d, at', x6, x7, rfl, rfl, e4, ha4, hr4, g, hent, hat, hset⟩
  have gf := g.few hok r0 r1
  refine ⟨_, et_test (ev_op (ev_var rfl) (ev_lenL (ev_var rfl) hr4) rv_I0), fun eb H5 e5 => ?_, fun eb H5 e5 => ?_⟩
  · have hlt : at' < (root :: keys d).length := by
      rw [List.length_map] at eb
      have : ((at' : Int) < ((root :: keys d).length : Int)) := by simpa using eb
      omega
    have E5 := e4.trans e5
    have hx0 : (root :: keys d)[at']? = some ((root :: keys d)[at']) := List.getElem?_eq_getElem hlt
    generalize hxe : (root :: keys d)[at'] = x0 at hx0
    refine q_forLW (ev_var rfl) (E5 _ _ hfb) (fun i σ H' => ∃ (d' : D) (x6 x7 : Option V), σ = [some (.int root), some (.ref hb), some (.ref fb), some (.ref ab), some (.ref rb), some (.int (at' : Int)), x6, x7] ∧ Ex H H' ∧ TEx H5 H' ∧ H' ab = some (.dK (dI d')) ∧ H' rb = some (.lst ((root :: keys d').map V.int)) ∧ Grown N root d' ∧ (∀ k v, get d' k = some v → (v, k) ∈ E) ∧ (∃ ex, keys d' = keys d ++ ex) ∧ ∀ e ∈ E.take i, e.1 = x0 → e.2 ∈ root :: keys d')
      (fun H6 e6 => ⟨d, x6, x7, rfl, E5.trans e6, tex e6, (e5.trans e6) _ _ ha4, (e5.trans e6) _ _ hr4, g, hent, ⟨[], by simp⟩, fun e he => by simp at he⟩)
      (fun i σ H' _ p => by obtain ⟨_, _, _, _, e, _⟩ := p; exact e _ _ hfb) ?_ ?_
    · rintro i x σ H6 hx ⟨d', x6, x7, rfl, e6, tx6, ha6, hr6, g', hent', ⟨ex, hex⟩, hdo⟩
      obtain ⟨b, e, rfl, hb1, hb2, hb3⟩ := hE.get hx
      have gf' := g'.few hok r0 r1
      have hx6 : (root :: keys d')[at']? = some x0 := by
        rw [hex, ← List.cons_append, List.getElem?_append_left hlt]; exact hx0
      refine g2 (e6 _ _ hb3) ?_
      show (tIfS _ _ _ : TS) _ ([some (.int root), some (.ref hb), some (.ref fb), some (.ref ab), some (.ref rb), some (.int (at' : Int)), some (.int e.1), some (.int e.2)] : L2.St) H6
      refine s_when (et_and (et_test (ev_op (ev_var rfl) (ev_ixL (i := (at' : Int)) (v := .int x0) (ev_var rfl) (ev_var rfl) hr6 (atI_nat (by rw [List.getElem?_map, hx6]; rfl))) (rv_eq rfl))) fun _ => et_test (ev_ninLI (ev_var rfl) (ev_var rfl) hr6)) (fun q H7 e7 => ?_) (fun q H7 e7 => ?_)
      · have q1 : e.1 = x0 := by have := (Bool.and_eq_true_iff.mp q).1; simpa using this
        have q2 : e.2 ∉ root :: keys d' := by have := (Bool.and_eq_true_iff.mp q).2; simpa using this
        have hem := List.mem_of_getElem? hb2
        have q3 : e.2 ∉ keys d' := fun z => q2 (List.mem_cons_of_mem _ z)
        have q4 : e.2 ≠ root := fun z => q2 (by rw [z]; exact List.mem_cons_self ..)
        have q5 : e.1 = root ∨ e.1 ∈ keys d' := List.mem_cons.mp (by rw [q1]; exact List.mem_of_getElem? hx6)
        have g2' : Grown N root (d' ++ [(e.2, e.1)]) := .snoc g' q5 q4 q3 (hed e hem)
        have dl := len_keys d'
        simp only [List.length_cons] at gf'
        refine q_dputI (d := d') (k := e.2) (v := e.1) (ev_var rfl) (ev_var rfl) (ev_var rfl) (e7 _ _ ha6) (by omega) fun H8 e8 => ?_
        have hr8 : (upd H8 ab (.dK (dI (put d' e.2 e.1)))) rb = some (.lst ((root :: keys d').map V.int)) := by rw [upd_ne ar.symm]; exact e8 _ _ (e7 _ _ hr6)
        refine s_app hr8 (ev_var rfl) (ev_var rfl) (by rw [List.length_map]; simp; omega) fun H9 e9 => ?_
        have ep : put d' e.2 e.1 = d' ++ [(e.2, e.1)] := put_new q3
        have h8d : H8 ab = some (.dK (dI d')) := e8 _ _ (e7 _ _ ha6)
        refine ⟨d' ++ [(e.2, e.1)], _, _, rfl, Ex.mut ((Ex.mut ((e6.trans e7).trans e8) a0).trans e9) rb0, (((((tx6.trans (tex e7)).trans (tex e8)).trans (tex_upd h8d fun xs z => nomatch z)).trans (tex e9)).trans (tex_upd (e9 _ _ hr8) fun xs z => nomatch z)), ?_, ?_, g2', fun k v hk => ?_, ⟨ex ++ [e.2], by rw [keys_snoc, hex, List.append_assoc]⟩, fun e' he' q' => ?_⟩
        · rw [upd_ne ar, ← ep]; exact e9 _ _ upd_same
        · rw [upd_same, keys_snoc]; simp
        · rw [get_snoc q3] at hk
          by_cases z : k = e.2
          · rw [if_pos z] at hk; cases hk; rw [z]; exact hem
          · rw [if_neg z] at hk; exact hent' k v hk
        · rw [keys_snoc]
          rw [List.take_succ, hb2] at he'
          rcases List.mem_append.mp he' with he' | he'
          · rcases List.mem_cons.mp (hdo e' he' q') with z | z
            · rw [z]; exact List.mem_cons_self ..
            · exact List.mem_cons_of_mem _ (List.mem_append.mpr (.inl z))
          · have : e' = e := by simpa using he'
            rw [this]; exact List.mem_cons_of_mem _ (List.mem_append.mpr (.inr (by simp)))
      · refine ⟨d', _, _, rfl, e6.trans e7, tx6.trans (tex e7), e7 _ _ ha6, e7 _ _ hr6, g', hent', ⟨ex, hex⟩, fun e' he' q' => ?_⟩
        rw [List.take_succ, hb2] at he'
        rcases List.mem_append.mp he' with he' | he'
        · exact hdo e' he' q'
        · have he2 : e' = e := by simpa using he'
          subst he2
          apply Classical.byContradiction
          intro z
          simp [q'] at q
          simp at z
          exact z.2 (q z.1)
    · rintro σ H6 ⟨d', x6, x7, rfl, e6, tx6, ha6, hr6, g', hent', ⟨ex, hex⟩, hdo⟩
      refine s_asg (ev_op (ev_var rfl) ev_c rv_I0) fun H7 e7 => ?_
      refine ⟨20 - (at' + 1), by omega, d', at' + 1, _, _, rfl, rfl, e6.trans e7, e7 _ _ ha6, e7 _ _ hr6, g', hent', ?_, fun i hi j hij => ?_⟩
      · rw [hex]; simp at hlt ⊢; omega
      · have ht : (root :: keys d').take at' = (root :: keys d).take at' := by
          rw [hex, ← List.cons_append, List.take_append_of_le_length (Nat.le_of_lt hlt)]
        have hx6 : (root :: keys d')[at']? = some x0 := by
          rw [hex, ← List.cons_append, List.getElem?_append_left hlt]; exact hx0
        rw [List.take_succ, hx6, ht] at hi
        rcases List.mem_append.mp hi with hi | hi
        · have := hset i hi j hij
          rw [hex]
          rcases List.mem_cons.mp this with z | z
          · rw [z]; exact List.mem_cons_self ..
          · exact List.mem_cons_of_mem _ (List.mem_append.mpr (.inl z))
        · have : i = x0 := by simpa using hi
          refine hdo (i, j) ?_ this
          rw [List.length_map, hE.len, List.take_length]
          exact hij
  · have hge : (root :: keys d).length ≤ at' := by
      rw [List.length_map] at eb
      have : ¬ ((at' : Int) < ((root :: keys d).length : Int)) := by simpa using eb
      omega
    rw [List.take_of_length_le hge] at hset
    have hin : ∀ h ∈ hs, h = root ∨ h ∈ keys d := fun h hh => List.mem_cons.mp (conn_row (List.mem_cons_self ..) hset (hconn h hh))
    have E5 := e4.trans e5
    refine s_retP (evp_call (R := fun v H2 => ∃ b, v = .ref b ∧ TrimR N root hs d H2 b) (ea_cons (ev_var rfl) (ea_cons (ev_var rfl) (ea_cons (ev_var rfl) ea_nil))) fun H6 e6 Q q => ⟨hb, ab, N, root, hs, d, rfl, hok, r0, r1, (E5.trans e6) _ _ hhb, (e5.trans e6) _ _ ha4, g, hin, q⟩) fun v H6 e6 r => k v H6 (E5.trans e6) ?_
    obtain ⟨b, rfl, l, h1, h2, h3, h4⟩ := r
    exact ⟨b, l, rfl, h1, h2, h3, fun e he => hent e.1 e.2 (h4 e.1 e.2 (mem_get h2.nd he))⟩
/-! ### reached_by -/
def spReachedBy : Sp := fun vs H Q _ => ∃ (a : Addr) (N : Net) (root : Int), vs = [.ref a, .int root] ∧ NetAt H a N ∧ N.Ok ∧ 0 ≤ root ∧ root < N.n ∧ RetP (fun v H2 => ∃ b, ∃ l : List Int, v = .ref b ∧ H2 b = some (.tup (l.map V.int)) ∧ ∀ x, x ∈ l ↔ Reach N root x) H Q
abbrev s_reached_by : Stmt := top 40
abbrev N_reached_by : List Str := ["net", "root", "row", "at", "i", "j", "price", "late"]
theorem sc_reached_by : FnScope N_reached_by ["net", "root"] (defScope s_reached_by) := fnScope_by (by decide +kernel)
theorem ok_reached_by (F : DefAt K mg "reached_by" s_reached_by ["net", "root"]) (T : Txt K mg) : Cal P w K mg base 1 "reached_by" spReachedBy [] := by
  refine F.cal sc_reached_by (by walk_at "len") (fun f0 cdv A outer s0 H vs Q X hr h => ?_)
  obtain ⟨a, N, root, rfl, hN, hok, r0, r1, k⟩ := h
  have nd := sc_reached_by.nd
  refine ⟨_, (pss_cons (ps_set (i := 2) nd rfl (Or.inl rfl) (pe_lst (pa_cons (pv 1) pa_nil)))
      (pss_cons (ps_set (i := 3) nd rfl (Or.inl rfl) pe_int)
      (pss_cons (ps_while PassesOwn.never (pt_cmpR op_lt (pv 3) (pe_callB (lenS (K := K) rfl) (by rfl) T.g_len PySem.boot_len (pa_cons (pv 2) pa_nil)) (nomark _)) (pss_cons (ps_for PassesOwn.never rfl (pi_tupK (K := K) rfl (pe_ix (ixT (K := K) rfl) (pv 0) pe_int (fun _ _ => rfl))) (pg_tupK (K := K) rfl rfl (pgs_cons (pg_name (i := 4) nd rfl (Or.inl rfl)) (pgs_cons (pg_name (i := 5) nd rfl (Or.inl rfl)) (pgs_cons (pg_name (i := 6) nd rfl (Or.inl rfl)) (pgs_cons (pg_name (i := 7) nd rfl (Or.inl rfl)) pgs_nil))))) (pss_one (ps_if (PW.pt (pw_and (pt_cmpR op_eq (pv 4) (pe_ix (ixL (K := K) rfl) (pv 2) (pv 3) (fun _ _ => rfl)) (nomark _)) (pw_and1 (pt_cmpR (ninS (K := K) rfl) (pv 5) (pv 2) rfl)))) (pss_one (ps_expr (pe_bm PySem.F.plainAttrs_list PySem.F.slot_list_append PySem.F.type_list_append mt_append (pv 2) (pa_cons (pv 5) pa_nil)))) pss_nil)))
      (pss_one (ps_set (i := 3) nd rfl (Or.inl rfl) (pe_op op_add (pv 3) pe_int)))))
      (pss_one (ps_ret (pe_callTy (tupK (K := K) rfl) (by rfl) T.g_tuple (by decide +kernel) (pa_cons (pe_callB (sortedK (K := K) rfl) (by rfl) T.g_sorted (by decide +kernel) (pa_cons (pv 2) pa_nil)) pa_nil))))))), ?_⟩
  obtain ⟨t, as, ha, ht, hR⟩ := hN.ex
  have n12 := hok.n12
  refine q_asgL (el_lst (ea_cons (ev_var rfl) ea_nil) (by show 1 ≤ 100000; decide)) fun rb H2 rb0 e2 hrb => ?_
  refine q_asg ev_c fun H3 e3 => ?_
  have lenR : ∀ row : List Int, row.Nodup → (∀ x ∈ row, Reach N root x) → row.length ≤ 12 := fun row h1 h2 => by
    have := len_range h1 fun x hx => reach_range hok r0 r1 (h2 x hx)
    omega
  refine q_whileW (fun m σ H' => ∃ (row : List Int) (at' : Nat) (x4 x5 x6 x7 : Option V), m = 20 - at' ∧ σ = [some (.ref a), some (.int root), some (.ref rb), some (.int (at' : Int)), x4, x5, x6, x7] ∧ Ex H H' ∧ H' rb = some (.lst (row.map V.int)) ∧ row.Nodup ∧ root ∈ row ∧ (∀ x ∈ row, Reach N root x) ∧ at' ≤ row.length ∧ ∀ i ∈ row.take at', ∀ r ∈ N.rs, r.i = i → r.j ∈ row)
    _ ⟨[root], 0, none, none, none, none, rfl, rfl, e2.trans e3, e3 _ _ hrb, by simp, by simp, fun x hx => by rw [List.mem_singleton.mp hx]; exact .root, Nat.zero_le _, fun i hi => by simp at hi⟩ ?_
  rintro m σ H4 ⟨row, at', x4, x5, x6, x7, rfl, rfl, e4, hr4, rnd, hroot, hre, hat, hset⟩
  have gf := lenR row rnd hre
  refine ⟨_, et_test (ev_op (ev_var rfl) (ev_lenL (ev_var rfl) hr4) rv_I0), fun eb H5 e5 => ?_, fun eb H5 e5 => ?_⟩
  · have hlt : at' < row.length := by
      rw [List.length_map] at eb
      have : ((at' : Int) < (row.length : Int)) := by simpa using eb
      omega
    have E5 := e4.trans e5
    have hx0 : row[at']? = some row[at'] := List.getElem?_eq_getElem hlt
    generalize hxe : row[at'] = x0 at hx0
    refine q_forTW (xs := as.map V.ref) (ev_ixT (i := 1) (v := .ref t) (ev_var rfl) ev_c (E5 _ _ ha) rfl) (E5 _ _ ht) (fun i σ H' => ∃ (row' : List Int) (x4 x5 x6 x7 : Option V), σ = [some (.ref a), some (.int root), some (.ref rb), some (.int (at' : Int)), x4, x5, x6, x7] ∧ Ex H H' ∧ TEx H5 H' ∧ H' rb = some (.lst (row'.map V.int)) ∧ row'.Nodup ∧ (∀ x ∈ row', Reach N root x) ∧ (∃ ex, row' = row ++ ex) ∧ ∀ r ∈ N.rs.take i, r.i = x0 → r.j ∈ row')
      (fun H6 e6 => ⟨row, x4, x5, x6, x7, rfl, E5.trans e6, tex e6, (e5.trans e6) _ _ hr4, rnd, hre, ⟨[], by simp⟩, fun e he => by simp at he⟩)
      (fun i σ H' _ p => by obtain ⟨_, _, _, _, _, _, _, e, _⟩ := p; exact e) ?_ ?_
    · rintro i x σ H6 hx ⟨row', x4, x5, x6, x7, rfl, e6, tx6, hr6, rnd', hre', ⟨ex, hex⟩, hdo⟩
      obtain ⟨b, r, rfl, hb1, hb2, hb3⟩ := hR.get hx
      have hrm := List.mem_of_getElem? hb2
      have gf' := lenR row' rnd' hre'
      have hx6 : row'[at']? = some x0 := by rw [hex, List.getElem?_append_left hlt]; exact hx0
      refine g4 (e6 _ _ hb3) ?_
      show (tIfS _ _ _ : TS) _ ([some (.ref a), some (.int root), some (.ref rb), some (.int (at' : Int)), some (.int r.i), some (.int r.j), some (.int r.p), some (.int r.l)] : L2.St) H6
      refine s_when (et_and (et_test (ev_op (ev_var rfl) (ev_ixL (i := (at' : Int)) (v := .int x0) (ev_var rfl) (ev_var rfl) hr6 (atI_nat (by rw [List.getElem?_map, hx6]; rfl))) (rv_eq rfl))) fun _ => et_test (ev_ninLI (ev_var rfl) (ev_var rfl) hr6)) (fun q H7 e7 => ?_) (fun q H7 e7 => ?_)
      · have q1 : r.i = x0 := by have := (Bool.and_eq_true_iff.mp q).1; simpa using this
        have q2 : r.j ∉ row' := by have := (Bool.and_eq_true_iff.mp q).2; simpa using this
        have hri : Reach N root r.i := hre' _ (by rw [q1]; exact List.mem_of_getElem? hx6)
        refine s_app (e7 _ _ hr6) (ev_var rfl) (ev_var rfl) (by rw [List.length_map]; omega) fun H8 e8 => ?_
        refine ⟨row' ++ [r.j], _, _, _, _, rfl, Ex.mut ((e6.trans e7).trans e8) rb0, ((tx6.trans (tex e7)).trans (tex e8)).trans (tex_upd (e8 _ _ (e7 _ _ hr6)) fun xs z => nomatch z), by rw [upd_same]; simp, nd_snoc rnd' q2, fun x hx => ?_, ⟨ex ++ [r.j], by rw [hex, List.append_assoc]⟩, fun r' hr' q' => ?_⟩
        · rcases List.mem_append.mp hx with hx | hx
          · exact hre' x hx
          · rw [List.mem_singleton.mp hx]; exact .step hrm hri
        · rw [List.take_succ, hb2] at hr'
          rcases List.mem_append.mp hr' with hr' | hr'
          · exact List.mem_append.mpr (.inl (hdo r' hr' q'))
          · have : r' = r := by simpa using hr'
            rw [this]; exact List.mem_append.mpr (.inr (by simp))
      · refine ⟨row', _, _, _, _, rfl, e6.trans e7, tx6.trans (tex e7), e7 _ _ hr6, rnd', hre', ⟨ex, hex⟩, fun r' hr' q' => ?_⟩
        rw [List.take_succ, hb2] at hr'
        rcases List.mem_append.mp hr' with hr' | hr'
        · exact hdo r' hr' q'
        · have he2 : r' = r := by simpa using hr'
          subst he2
          apply Classical.byContradiction
          intro z
          simp [q'] at q
          exact z q
    · rintro σ H6 ⟨row', x4, x5, x6, x7, rfl, e6, tx6, hr6, rnd', hre', ⟨ex, hex⟩, hdo⟩
      refine s_asg (ev_op (ev_var rfl) ev_c rv_I0) fun H7 e7 => ?_
      refine ⟨20 - (at' + 1), by omega, row', at' + 1, _, _, _, _, rfl, rfl, e6.trans e7, e7 _ _ hr6, rnd', by rw [hex]; exact List.mem_append.mpr (.inl hroot), hre', by rw [hex]; simp; omega, fun i hi r hr hri => ?_⟩
      have ht' : row'.take at' = row.take at' := by rw [hex, List.take_append_of_le_length (Nat.le_of_lt hlt)]
      have hx6 : row'[at']? = some x0 := by rw [hex, List.getElem?_append_left hlt]; exact hx0
      rw [List.take_succ, hx6, ht'] at hi
      rcases List.mem_append.mp hi with hi | hi
      · rw [hex]; exact List.mem_append.mpr (.inl (hset i hi r hr hri))
      · have : i = x0 := by simpa using hi
        refine hdo r ?_ (hri.trans this)
        rw [List.length_map, hR.len, List.take_length]
        exact hr
  · have hge : row.length ≤ at' := by
      rw [List.length_map] at eb
      have : ¬ ((at' : Int) < (row.length : Int)) := by simpa using eb
      omega
    rw [List.take_of_length_le hge] at hset
    have hall : ∀ x, Reach N root x → x ∈ row := fun x hx => by
      induction hx with
      | root => exact hroot
      | step h1 _ ih => exact hset _ ih _ h1 rfl
    have E5 := e4.trans e5
    refine s_retP (R := fun v H2 => ∃ b, ∃ l : List Int, v = .ref b ∧ H2 b = some (.tup (l.map V.int)) ∧ ∀ x, x ∈ l ↔ Reach N root x) (fun H6 e6 Q q => ?_) fun v H6 e6 r => k v H6 (E5.trans e6) r
    refine ⟨_, rfl, rb, row, rfl, sq_of ((e5.trans e6) _ _ hr4), by omega, fun ns' p hpm _ hp => ?_⟩
    refine ⟨p, ns'.map V.int, rfl, .inl ⟨sq_of upd_same, fun l hl => q _ _ ((Ex.new hp).trans (Ex.new hl)) ⟨l, ns', rfl, upd_same, fun x => ?_⟩⟩⟩
    rw [hpm.mem_iff]
    exact ⟨hre x, hall x⟩
end
end HK

/-! part HKV -/
/-! The walks of cheapest.py: cheapest. -/
namespace HK
open PySem PySem.Spec PyProof.Rows L2 Evl
open C8 (Cal Met Mak pe_c pe_mk pe_mt pe_mt0 pe_gc fnScope_by)
open LamX (ExtN)
set_option hygiene false in
local macro_rules | `(tactic| walk_at "len") => `(tactic| (intro vs H Q E h; first
  | (obtain ⟨rfl, _⟩ := h; rfl)
  | (obtain ⟨_, rfl, _⟩ := h; rfl)
  | (obtain ⟨_, _, rfl, _⟩ := h; rfl)
  | (obtain ⟨_, _, _, rfl, _⟩ := h; rfl)
  | (obtain ⟨_, _, _, _, rfl, _⟩ := h; rfl)
  | (obtain ⟨_, _, _, _, _, rfl, _⟩ := h; rfl)
  | (obtain ⟨_, _, _, _, _, _, rfl, _⟩ := h; rfl)
  | (obtain ⟨_, _, _, _, _, _, _, rfl, _⟩ := h; rfl)
  | (obtain ⟨_, _, _, _, _, _, _, _, rfl, _⟩ := h; rfl)
  | (obtain ⟨_, _, _, _, _, _, _, _, _, rfl, _⟩ := h; rfl)
  | (obtain ⟨_, _, _, _, _, _, _, _, _, _, rfl, _⟩ := h; rfl)
  | (obtain ⟨_, _, _, _, _, _, _, _, _, _, _, rfl, _⟩ := h; rfl)
  | (obtain ⟨_, _, _, _, _, _, _, _, _, _, _, _, rfl, _⟩ := h; rfl)
  | (obtain ⟨_, _, _, _, _, _, _, _, _, _, _, _, _, rfl, _⟩ := h; rfl)
  | (obtain ⟨_, _, _, _, _, _, _, _, _, _, _, _, _, _, rfl, _⟩ := h; rfl)
  | (obtain ⟨_, _, _, _, _, _, _, _, _, _, _, _, _, _, _, rfl, _⟩ := h; rfl)
  | (obtain ⟨_, _, _, _, _, _, _, _, _, _, _, _, _, _, _, _, rfl, _⟩ := h; rfl)
  | (obtain ⟨_, _, _, _, _, _, _, _, _, _, _, _, _, _, _, _, _, rfl, _⟩ := h; rfl)
  | (obtain ⟨_, _, _, _, _, _, _, _, _, _, _, _, _, _, _, _, _, _, rfl, _⟩ := h; rfl)
  | (obtain ⟨_, _, _, _, _, _, _, _, _, _, _, _, _, _, _, _, _, _, _, rfl, _⟩ := h; rfl)
  | (obtain ⟨_, _, _, _, _, _, _, _, _, _, _, _, _, _, _, _, _, _, _, _, rfl, _⟩ := h; rfl)
  | (obtain ⟨_, _, _, _, _, _, _, _, _, _, _, _, _, _, _, _, _, _, _, _, _, rfl, _⟩ := h; rfl)
  | (obtain ⟨_, _, _, _, _, _, _, _, _, _, _, _, _, _, _, _, _, _, _, _, _, _, rfl, _⟩ := h; rfl)
  | (obtain ⟨_, _, _, _, _, _, _, _, _, _, _, _, _, _, _, _, _, _, _, _, _, _, _, rfl, _⟩ := h; rfl)
  | (obtain ⟨_, _, _, _, _, _, _, _, _, _, _, _, _, _, _, _, _, _, _, _, _, _, _, _, rfl, _⟩ := h; rfl)
  | (obtain ⟨_, _, _, _, _, _, _, _, _, _, _, _, _, _, _, _, _, _, _, _, _, _, _, _, _, rfl, _⟩ := h; rfl)))

section
variable {P : Program} {w : World} {K : PySem.W.Frag} {mg : Str → Option Value} {base : Heap}
theorem q_asgC {sp : Sp} {vs : List V} {E : XK} {ta : TA} {g : L2.TG} {tz : TS} {D : Ends} {σ : L2.St} {H : Hp} (ha : EvA ta σ H vs) (h : ∀ H1, Ex H H1 → ∀ Q : VK, (∀ v H2, g v σ H2 (tz D) → Q v H2) → sp (vs ++ []) H1 Q E) : tSeq (tAsg (tCall sp [] E ta) g) tz D σ H :=
  ha H (Ex.refl H) _ fun H1 e1 => h H1 e1 _ fun v H2 q => q
theorem evp_call3 {sp : Sp} {E : XK} {t1 t2 t3 : TE} {σ : L2.St} {H : Hp} {x y : V} {R R3 : V → Hp → Prop} (h1 : Ev t1 σ H x) (h2 : Ev t2 σ H y) (h3 : EvP t3 σ H R3) (hs : ∀ v H1, Ex H H1 → R3 v H1 → ∀ Q, RetP R H1 Q → sp ([x, y, v] ++ []) H1 Q E) :
    EvP (tCall sp [] E (tCons t1 (tCons t2 (tCons t3 tNil)))) σ H R := fun H1 e1 Q q => h1 H1 e1 _ fun H2 e2 => h2 H2 (e1.trans e2) _ fun H3 e3 => h3 H3 ((e1.trans e2).trans e3) _ fun v H4 e4 r =>
  hs v H4 (((e1.trans e2).trans e3).trans e4) r Q fun v5 H5 e5 r5 => q v5 H5 (((e2.trans e3).trans e4).trans e5) r5
theorem evp_tup3 {t1 t2 t3 : TE} {σ : L2.St} {H : Hp} {x y : V} {R : V → Hp → Prop} (h1 : Ev t1 σ H x) (h2 : EvP t2 σ H R) (h3 : Ev t3 σ H y) : EvP (tTup (tCons t1 (tCons t2 (tCons t3 tNil)))) σ H fun v H2 => ∃ p u H1, v = .ref p ∧ R u H1 ∧ Ex H1 H2 ∧ H2 p = some (.tup [x, u, y]) := fun H1 e1 Q q =>
  h1 H1 e1 _ fun H2 e2 => h2 H2 (e1.trans e2) _ fun u H3 e3 r => h3 H3 ((e1.trans e2).trans e3) _ fun H4 e4 => ⟨sz_of (by show 3 ≤ 100000; decide), fun p hp => q _ _ (((e2.trans e3).trans e4).trans (Ex.new hp)) ⟨p, u, H3, rfl, r, e4.trans (Ex.new hp), upd_same⟩⟩
theorem s_retC {sp : Sp} {vs : List V} {E : XK} {ta : TA} {D : Ends} {σ : L2.St} {H : Hp} (ha : EvA ta σ H vs) (h : ∀ H1, Ex H H1 → ∀ Q : VK, (∀ v H2, D.rt v H2 → Q v H2) → sp (vs ++ []) H1 Q E) : tRet (tCall sp [] E ta) D σ H :=
  ha H (Ex.refl H) _ fun H1 e1 => h H1 e1 _ fun v H2 q => q
def CheapR (N : Net) (root : Int) (hs : List Int) (v : V) (H2 : Hp) : Prop := ∃ t b l x z, v = .ref t ∧ H2 t = some (.tup [z, .ref b, x]) ∧ H2 b = some (.dK (dI l)) ∧ Tree N root l ∧ (∀ h ∈ hs, h = root ∨ h ∈ keys l) ∧ ∀ d, Grown N root d → (∀ h ∈ hs, h = root ∨ h ∈ keys d) → cst N l ≤ cst N d
structure CheapPre (T : Addr) (H : Hp) (a hb : Addr) (N : Net) (root : Int) (hs : List Int) : Prop where
  net : NetAt H a N
  ok : N.Ok
  r0 : 0 ≤ root
  r1 : root < N.n
  hb : H hb = some (.tup (hs.map V.int))
  up : hs.Pairwise (· < ·)
  ne : hs ≠ []
  len : hs.length ≤ 6
  rg : ∀ h ∈ hs, 0 ≤ h ∧ h < N.n
  reach : ∀ h ∈ hs, Reach N root h
  some : ∃ d, Grown N root d ∧ ∀ h ∈ hs, h = root ∨ h ∈ keys d
  pt : PT T H
theorem CheapPre.mono {T : Addr} {H H' : Hp} {a hb : Addr} {N : Net} {root : Int} {hs : List Int} (c : CheapPre T H a hb N root hs) (e : Ex H H') : CheapPre T H' a hb N root hs :=
  ⟨c.net.mono (tex e), c.ok, c.r0, c.r1, e _ _ c.hb, c.up, c.ne, c.len, c.rg, c.reach, c.some, c.pt.ex e⟩
def spCheapest (T : Addr) : Sp := fun vs H Q _ => ∃ (a hb : Addr) (N : Net) (root : Int) (hs : List Int), vs = [.ref a, .int root, .ref hb] ∧ CheapPre T H a hb N root hs ∧ ∀ v H2, ExtN H H2 → PT T H2 → CheapR N root hs v H2 → Q v H2
theorem nd_of_up {l : List Int} (h : l.Pairwise (· < ·)) : l.Nodup := List.Pairwise.imp (fun h => by omega) h
abbrev s_cheapest_in : Stmt := top 41
abbrev N_cheapest_in : List Str := ["net", "root", "hearers", "places", "table", "made", "place"]
theorem sc_cheapest_in : FnScope N_cheapest_in ["net", "root", "hearers"] (defScope s_cheapest_in) := fnScope_by (by decide +kernel)
theorem ok_cheapest_in {T0 : Addr} (F : DefAt K mg "cheapest_in" s_cheapest_in ["net", "root", "hearers"]) (T : Txt K mg) (c_tree_by : Cal P w K mg base 2 "tree_by" spTreeBy []) (c_roads_for : Cal P w K mg base 1 "roads_for" (spRoadsFor P w) []) (c_table_of : Cal P w K mg base 3 "table_of" (spTableOf P w T0) []) (c_reached_by : Cal P w K mg base 1 "reached_by" spReachedBy []) :
    Cal P w K mg base 4 "cheapest_in" (spCheapest T0) [] := by
  refine F.cal sc_cheapest_in (by walk_at "len") (fun f0 cdv A outer s0 H vs Q X hr h => ?_)
  obtain ⟨a, hb, N, root, hs, rfl, C, k⟩ := h
  have nd := sc_cheapest_in.nd
  refine ⟨_, (pss_cons (ps_set (i := 3) nd rfl (Or.inr rfl) (pe_c c_reached_by hr (by decide) (by rfl) (pa_cons (pv 0) (pa_cons (pv 1) pa_nil))))
      (pss_cons (ps_if (pt_not (pt_val (pe_callB (allK (K := K) rfl rfl) (by rfl) T.g_all (by decide +kernel) (pa_cons (pe_lc (own := [("place", 6)]) (g := (gName 6)) rfl nd (pi_tupK (K := K) rfl (pv 2)) (blkOk_by (own := [("place", 6)]) (N := N_cheapest_in) (sc := defScope s_cheapest_in) (by decide +kernel)) (fun _ _ _ _ _ => (pg_name (i := 6) nd rfl (Or.inl rfl))) (fun _ _ _ _ _ => pts_nil) (fun _ _ _ _ _ => (pe_cmpR (inS (K := K) rfl) (pv 6) (pv 3) rfl))) pa_nil)))) (pss_one (ps_ret (pe_tup (pa_cons pe_str (pa_cons (pv 3) pa_nil))))) pss_nil)
      (pss_cons (ps_asg (pe_c c_table_of hr (by decide) (by rfl) (pa_cons (pv 0) (pa_cons (pv 2) pa_nil))) (pg_tupK (K := K) rfl rfl (pgs_cons (pg_name (i := 4) nd rfl (Or.inl rfl)) (pgs_cons (pg_name (i := 5) nd rfl (Or.inl rfl)) pgs_nil))))
      (pss_one (ps_ret (pe_tup (pa_cons pe_str (pa_cons (pe_c c_tree_by hr (by decide) (by rfl) (pa_cons (pv 1) (pa_cons (pv 2) (pa_cons (pe_c c_roads_for hr (by decide) (by rfl) (pa_cons (pv 5) (pa_cons (pv 2) (pa_cons (pv 1) pa_nil)))) pa_nil)))) (pa_cons (pv 4) pa_nil))))))))), ?_⟩
  refine q_asgP (evp_call (R := fun v H2 => ∃ b, ∃ l : List Int, v = .ref b ∧ H2 b = some (.tup (l.map V.int)) ∧ ∀ x, x ∈ l ↔ Reach N root x) (ea_cons (ev_var rfl) (ea_cons (ev_var rfl) ea_nil)) fun H1 e1 Q q => ⟨a, N, root, rfl, C.net.mono (tex e1), C.ok, C.r0, C.r1, q⟩) fun v H1 e1 r => ?_
  obtain ⟨pb, pl, rfl, hpb, hpl⟩ := r
  have C1 := C.mono e1
  have nn := C.len
  have key := EvN.l (xs := ((List.range hs.length).map fun _ => true).map V.bl) (lcT (K := K) (σ := [some (.ref a), some (.int root), some (.ref hb), some (.ref pb), none, none, none]) (H := H1) (tl := tVar 2) (g := gName 6) (t := tYes) (te := tOp (rIn K false) (tVar 6) (tVar 3)) (vs := [6]) (ev_var rfl) C1.hb (by rw [List.length_map]; omega) (fun _ => true) _ _ sets_name (fun i hi => rfl)
      (step_vals (fun i => .bl true) (fun i H2 hi e => et_yes) fun i H2 hi e _ => ?_)) (fun acc H2 r => by rw [r, given_all, List.length_map, List.map_map]; rfl)
  · refine q_skip (et_not (et_B (evp_all key))) (by simp) fun H2 e2 => ?_
    have C2 := C1.mono e2
    refine q_asgC (ea_cons (ev_var rfl) (ea_cons (ev_var rfl) ea_nil)) fun H3 e3 Q1 q1 => ?_
    have C3 := C2.mono e3
    refine ⟨a, hb, N, hs, rfl, C3.net, C.ok, C3.hb, nd_of_up C.up, C.len, C3.pt, fun v H4 e4 t4 r => q1 _ _ ?_⟩
    obtain ⟨q, tb, mb, U, R, M, ds, rfl, hq, hM, hU, TIf, PL⟩ := r
    refine g2 hq ?_
    have E4 : ExtN H H4 := (exn ((e1.trans e2).trans e3)).trans e4
    have C4 : CheapPre T0 H4 a hb N root hs := ⟨C.net.mono (ExtN.tex E4), C.ok, C.r0, C.r1, E4 _ _ C.hb (fun ps z => nomatch z), C.up, C.ne, C.len, C.rg, C.reach, C.some, t4⟩
    -- the plan
    have L := TIf.lower PL C.rg splits_ex
    have hsin : hs ∈ ds := (PL.mem hs).mpr ⟨C.ne, List.Sublist.refl _⟩
    obtain ⟨d0, g0, hd0⟩ := C.some
    obtain ⟨v0, hv0, _⟩ := lower_le C.ok L C.ne (nd_of_up C.up) g0 hd0
    obtain ⟨n, c, Pl, hcv, hn⟩ := TIf.plan hs hsin root v0 hv0
    have hbound : ∀ d, Grown N root d → (∀ h ∈ hs, h = root ∨ h ∈ keys d) → c ≤ cst N d := fun d g hd => by
      obtain ⟨v1, hv1, hl⟩ := lower_le C.ok L C.ne (nd_of_up C.up) g hd
      rw [hv0] at hv1; cases hv1
      omega
    show (tRet _ : TS) _ ([some (.ref a), some (.int root), some (.ref hb), some (.ref pb), some (.ref tb), some (.ref mb), none] : L2.St) H4
    have h_rf : EvP (tCall (spRoadsFor P w) [] C8.E0 (tCons (tVar 5) (tCons (tVar 2) (tCons (tVar 1) tNil)))) ([some (.ref a), some (.int root), some (.ref hb), some (.ref pb), some (.ref tb), some (.ref mb), none] : L2.St) H4
        (fun v H2 => ∃ l fs E, v = .ref l ∧ H2 l = some (.lst (fs.map V.ref)) ∧ TupsAt e2V H2 fs E ∧ (∀ e ∈ E, N.has e.1 e.2) ∧ ecost N E = c ∧ (∀ h ∈ hs, Conn E root h) ∧ E.length ≤ 1000) :=
      evp_call (ea_cons (ev_var rfl) (ea_cons (ev_var rfl) (ea_cons (ev_var rfl) ea_nil))) fun H5 e5 Q q => ⟨mb, hb, U, N, M, (· ∈ ds), hs, root, n, c, rfl, C.ok, hM.mono e5, e5 _ _ C4.hb, Pl, by omega, q⟩
    have h_tb : EvP (tCall spTreeBy [] C8.E0 (tCons (tVar 1) (tCons (tVar 2) (tCons (tCall (spRoadsFor P w) [] C8.E0 (tCons (tVar 5) (tCons (tVar 2) (tCons (tVar 1) tNil)))) tNil)))) ([some (.ref a), some (.int root), some (.ref hb), some (.ref pb), some (.ref tb), some (.ref mb), none] : L2.St) H4
        (fun v H2 => ∃ b l, v = .ref b ∧ H2 b = some (.dK (dI l)) ∧ Tree N root l ∧ (∀ h ∈ hs, h = root ∨ h ∈ keys l) ∧ cst N l ≤ c) :=
      evp_call3 (ev_var rfl) (ev_var rfl) h_rf fun v H8 e8 r Q q => by
        obtain ⟨l, fs, E, rfl, hl, hE, hed, hc, hcn, _⟩ := r
        refine ⟨hb, l, N, root, hs, fs, E, rfl, C.ok, C.r0, C.r1, e8 _ _ C4.hb, hl, hE, hed, hcn, fun v H9 e9 r => q v H9 e9 ?_⟩
        obtain ⟨b, l', rfl, h1, h2, h3, h4⟩ := r
        exact ⟨b, l', rfl, h1, h2, h3, by rw [← hc]; exact kept_cost C.ok h2.nd h4⟩
    refine s_retP (evp_tup3 ev_c h_tb (ev_var rfl)) fun v H5 e5 r => k v H5 (E4.trans (exn e5)) (t4.ex e5) ?_
    obtain ⟨p, u, H6, rfl, ⟨b, l, rfl, h1, h2, h3, h4⟩, e6, hp⟩ := r
    exact ⟨p, b, l, _, _, rfl, hp, e6 _ _ h1, h2, h3, fun d g hd => by
      have := hbound d g hd
      omega⟩
  · have hi' : i < hs.length := by rw [List.length_map] at hi; exact hi
    have g1 : (hs.map V.int)[i]? = some (.int hs[i]) := by rw [List.getElem?_map, List.getElem?_eq_getElem hi']; rfl
    refine ev_is (ev_inTI (i := hs[i]) (ev_var (congrArg some g1)) (ev_var rfl) (e _ _ hpb)) ?_
    have : hs[i] ∈ pl := (hpl _).mpr (C.reach _ (List.getElem_mem hi'))
    simp [this]
abbrev s_cheapest : Stmt := top 42
abbrev N_cheapest : List Str := ["net", "root", "hearers"]
theorem sc_cheapest : FnScope N_cheapest ["net", "root", "hearers"] (defScope s_cheapest) := fnScope_by (by decide +kernel)
theorem ok_cheapest {T0 : Addr} (F : DefAt K mg "cheapest" s_cheapest ["net", "root", "hearers"]) (T : Txt K mg) (c_cheapest_in : Cal P w K mg base 4 "cheapest_in" (spCheapest T0) []) (c_need_some : Cal P w K mg base 3 "need_some" spNeedSome []) (c_need_place : Cal P w K mg base 1 "need_place" spNeedPlace []) (c_need_net : Cal P w K mg base 5 "need_net" spNeedNet []) :
    Cal P w K mg base 6 "cheapest" (spCheapest T0) [] := by
  refine F.cal sc_cheapest (by walk_at "len") (fun f0 cdv A outer s0 H vs Q X hr h => ?_)
  obtain ⟨a, hb, N, root, hs, rfl, C, k⟩ := h
  have nd := sc_cheapest.nd
  refine ⟨_, (pss_cons (ps_expr (pe_c c_need_net hr (by decide) (by rfl) (pa_cons (pv 0) pa_nil)))
      (pss_cons (ps_expr (pe_c c_need_place hr (by decide) (by rfl) (pa_cons (pv 0) (pa_cons (pv 1) pa_nil))))
      (pss_cons (ps_expr (pe_c c_need_some hr (by decide) (by rfl) (pa_cons (pv 0) (pa_cons (pv 2) pa_nil))))
      (pss_one (ps_ret (pe_c c_cheapest_in hr (by decide) (by rfl) (pa_cons (pv 0) (pa_cons (pv 1) (pa_cons (pv 2) pa_nil))))))))), ?_⟩
  refine q_drop (ev_needNet (ev_var rfl) C.net C.ok) fun H1 e1 => ?_
  refine q_drop (ev_needPlace (ev_var rfl) (ev_var rfl) (C.mono e1).net C.r0 C.r1) fun H2 e2 => ?_
  have C2 := C.mono (e1.trans e2)
  refine q_drop (ev_needSome (ev_var rfl) (ev_var rfl) C2.net C2.hb C.rg C.up C.ne C.len) fun H3 e3 => ?_
  refine s_retC (ea_cons (ev_var rfl) (ea_cons (ev_var rfl) (ea_cons (ev_var rfl) ea_nil))) fun H4 e4 Q1 q1 => ?_
  have E4 := ((e1.trans e2).trans e3).trans e4
  exact ⟨a, hb, N, root, hs, rfl, C.mono E4, fun v H5 e5 t5 r => q1 v H5 (k v H5 ((exn E4).trans e5) t5 r)⟩
end
end HK

/-! part HKW -/
/-! The law's own functions: the tape. -/
namespace HK
open PySem PySem.Spec PyProof.Rows L2 Evl
open C8 (Cal Met Mak pe_c pe_mk pe_mt pe_mt0 pe_gc fnScope_by)
open LamX (ExtN)
set_option hygiene false in
local macro_rules | `(tactic| walk_at "len") => `(tactic| (intro vs H Q E h; first
  | (obtain ⟨rfl, _⟩ := h; rfl)
  | (obtain ⟨_, rfl, _⟩ := h; rfl)
  | (obtain ⟨_, _, rfl, _⟩ := h; rfl)
  | (obtain ⟨_, _, _, rfl, _⟩ := h; rfl)
  | (obtain ⟨_, _, _, _, rfl, _⟩ := h; rfl)
  | (obtain ⟨_, _, _, _, _, rfl, _⟩ := h; rfl)
  | (obtain ⟨_, _, _, _, _, _, rfl, _⟩ := h; rfl)
  | (obtain ⟨_, _, _, _, _, _, _, rfl, _⟩ := h; rfl)
  | (obtain ⟨_, _, _, _, _, _, _, _, rfl, _⟩ := h; rfl)
  | (obtain ⟨_, _, _, _, _, _, _, _, _, rfl, _⟩ := h; rfl)
  | (obtain ⟨_, _, _, _, _, _, _, _, _, _, rfl, _⟩ := h; rfl)
  | (obtain ⟨_, _, _, _, _, _, _, _, _, _, _, rfl, _⟩ := h; rfl)
  | (obtain ⟨_, _, _, _, _, _, _, _, _, _, _, _, rfl, _⟩ := h; rfl)
  | (obtain ⟨_, _, _, _, _, _, _, _, _, _, _, _, _, rfl, _⟩ := h; rfl)
  | (obtain ⟨_, _, _, _, _, _, _, _, _, _, _, _, _, _, rfl, _⟩ := h; rfl)
  | (obtain ⟨_, _, _, _, _, _, _, _, _, _, _, _, _, _, _, rfl, _⟩ := h; rfl)
  | (obtain ⟨_, _, _, _, _, _, _, _, _, _, _, _, _, _, _, _, rfl, _⟩ := h; rfl)
  | (obtain ⟨_, _, _, _, _, _, _, _, _, _, _, _, _, _, _, _, _, rfl, _⟩ := h; rfl)
  | (obtain ⟨_, _, _, _, _, _, _, _, _, _, _, _, _, _, _, _, _, _, rfl, _⟩ := h; rfl)
  | (obtain ⟨_, _, _, _, _, _, _, _, _, _, _, _, _, _, _, _, _, _, _, rfl, _⟩ := h; rfl)
  | (obtain ⟨_, _, _, _, _, _, _, _, _, _, _, _, _, _, _, _, _, _, _, _, rfl, _⟩ := h; rfl)
  | (obtain ⟨_, _, _, _, _, _, _, _, _, _, _, _, _, _, _, _, _, _, _, _, _, rfl, _⟩ := h; rfl)
  | (obtain ⟨_, _, _, _, _, _, _, _, _, _, _, _, _, _, _, _, _, _, _, _, _, _, rfl, _⟩ := h; rfl)
  | (obtain ⟨_, _, _, _, _, _, _, _, _, _, _, _, _, _, _, _, _, _, _, _, _, _, _, rfl, _⟩ := h; rfl)
  | (obtain ⟨_, _, _, _, _, _, _, _, _, _, _, _, _, _, _, _, _, _, _, _, _, _, _, _, rfl, _⟩ := h; rfl)
  | (obtain ⟨_, _, _, _, _, _, _, _, _, _, _, _, _, _, _, _, _, _, _, _, _, _, _, _, _, rfl, _⟩ := h; rfl)))

/-! ### evaluations from one state -/
def EvX (te : TE) (σ : L2.St) (H : Hp) (R : V → Hp → Prop) : Prop := ∀ Q : VK, (∀ v H2, R v H2 → Q v H2) → te σ H Q
def EvAX (ta : TA) (σ : L2.St) (H : Hp) (R : List V → Hp → Prop) : Prop := ∀ Q : List V → Hp → Prop, (∀ v H2, R v H2 → Q v H2) → ta σ H Q
def EvTX (t : TT) (σ : L2.St) (H : Hp) (R : Bool → Hp → Prop) : Prop := ∀ Q : Bool → Hp → Prop, (∀ v H2, R v H2 → Q v H2) → t σ H Q
section
variable {σ : L2.St} {H : Hp} {te ta tb : TE} {tr tar : TA} {t u : TT} {R : V → Hp → Prop} {v x y : V} {D : Ends} {tz tu tv : TS} {r : R2} {E : XK} {sp : Sp}
theorem evx (h : Ev te σ H v) (k : ∀ H1, Ex H H1 → R v H1) : EvX te σ H R := fun Q q => h H (Ex.refl H) Q fun H1 e1 => q v H1 (k H1 e1)
theorem evxP {R0 : V → Hp → Prop} (h : EvP te σ H R0) (k : ∀ v H1, Ex H H1 → R0 v H1 → R v H1) : EvX te σ H R := fun Q q => h H (Ex.refl H) Q fun v H1 e1 r => q v H1 (k v H1 e1 r)
theorem EvX.imp {R0 : V → Hp → Prop} (h : EvX te σ H R0) (k : ∀ v H1, R0 v H1 → R v H1) : EvX te σ H R := fun Q q => h Q fun v H1 r => q v H1 (k v H1 r)
theorem evx_op (h : EvX ta σ H fun x H1 => EvX tb σ H1 fun y H2 => ∀ Q : VK, (∀ v H3, R v H3 → Q v H3) → r x y H2 Q) : EvX (tOp r ta tb) σ H R := fun Q q => h _ fun x H1 h1 => h1 _ fun y H2 h2 => h2 Q q
theorem evx_opV (h : EvX ta σ H fun x H1 => EvX tb σ H1 fun y H2 => ∃ z, RV r x y H2 z ∧ ∀ H3, Ex H2 H3 → R z H3) : EvX (tOp r ta tb) σ H R := evx_op (h.imp fun x H1 h1 => h1.imp fun y H2 ⟨z, h2, h3⟩ Q q => h2 H2 (Ex.refl H2) Q fun H3 e3 => q z H3 (h3 H3 e3))
theorem evx_call {vs : List V} (ha : EvA tar σ H vs) (h : ∀ H1, Ex H H1 → ∀ Q : VK, (∀ v H2, R v H2 → Q v H2) → sp (vs ++ []) H1 Q E) : EvX (tCall sp [] E tar) σ H R := fun Q q => ha H (Ex.refl H) _ fun H1 e1 => h H1 e1 Q q
theorem evx_callA (ha : EvAX tar σ H fun vs H1 => ∀ Q : VK, (∀ v H2, R v H2 → Q v H2) → sp (vs ++ []) H1 Q E) : EvX (tCall sp [] E tar) σ H R := fun Q q => ha _ fun vs H1 h1 => h1 Q q
theorem ax_nil {R : List V → Hp → Prop} (h : R [] H) : EvAX tNil σ H R := fun Q q => q [] H h
theorem ax_cons {R : List V → Hp → Prop} (h : EvX te σ H fun v H1 => EvAX tr σ H1 fun vs H2 => R (v :: vs) H2) : EvAX (tCons te tr) σ H R := fun Q q => h _ fun v H1 h1 => h1 _ fun vs H2 h2 => q _ _ h2
theorem tx (h : EvT t σ H b) {R : Bool → Hp → Prop} (k : ∀ H1, Ex H H1 → R b H1) : EvTX t σ H R := fun Q q => h H (Ex.refl H) Q fun H1 e1 => q b H1 (k H1 e1)
theorem tx_test {R : Bool → Hp → Prop} (h : EvX te σ H fun x H1 => ∃ b, x = .bl b ∧ R b H1) : EvTX (tTest te) σ H R := fun Q q => h _ fun x H1 ⟨b, e, h1⟩ => ⟨b, e, q b H1 h1⟩
theorem tx_B {R : Bool → Hp → Prop} (h : EvX te σ H fun x H1 => ∃ b, x = .bl b ∧ R b H1) : EvTX (tB te) σ H R := fun Q q => h _ fun x H1 ⟨b, e, h1⟩ => ⟨b, e, q b H1 h1⟩
theorem tx_and {R : Bool → Hp → Prop} (h : EvTX t σ H fun b H1 => (b = true → EvTX u σ H1 R) ∧ (b = false → R false H1)) : EvTX (tAnd t u) σ H R := fun Q q => h _ fun b H1 ⟨h1, h2⟩ => by
  cases b with
  | true => exact h1 rfl Q q
  | false => exact q _ _ (h2 rfl)
theorem tx_or {R : Bool → Hp → Prop} (h : EvTX t σ H fun b H1 => (b = true → R true H1) ∧ (b = false → EvTX u σ H1 R)) : EvTX (tOr t u) σ H R := fun Q q => h _ fun b H1 ⟨h1, h2⟩ => by
  cases b with
  | true => exact q _ _ (h1 rfl)
  | false => exact h2 rfl Q q
theorem x_asg {i : Nat} (h : EvX te σ H fun v H1 => D.nx (σ.set i (some v)) H1) : tAsg te (gName i) D σ H := h _ fun v H1 q => q
theorem xq_asg {i : Nat} (h : EvX te σ H fun v H1 => tz D (σ.set i (some v)) H1) : tSeq (tAsg te (gName i)) tz D σ H := x_asg (D := { D with nx := tz D }) h
theorem x_ret (h : EvX te σ H fun v H1 => D.rt v H1) : tRet te D σ H := h _ fun v H1 q => q
theorem x_if (h : EvTX t σ H fun b H1 => (b = true → tu D σ H1) ∧ (b = false → tv D σ H1)) : tIfS t tu tv D σ H := h _ fun b H1 ⟨h1, h2⟩ => by
  cases b with
  | true => exact h1 rfl
  | false => exact h2 rfl
theorem xq_if (h : EvTX t σ H fun b H1 => (b = true → tu { D with nx := tz D } σ H1) ∧ (b = false → tv { D with nx := tz D } σ H1)) : tSeq (tIfS t tu tv) tz D σ H := x_if (D := { D with nx := tz D }) h
theorem q_ifJ {b : Bool} {J : L2.St → Hp → Prop} (h : EvT t σ H b) (y : b = true → ∀ H1, Ex H H1 → ∀ Dx : Ends, (∀ σ' H', J σ' H' → Dx.nx σ' H') → tu Dx σ H1) (n : b = false → ∀ H1, Ex H H1 → ∀ Dx : Ends, (∀ σ' H', J σ' H' → Dx.nx σ' H') → tv Dx σ H1) (k : ∀ σ' H', J σ' H' → tz D σ' H') :
    tSeq (tIfS t tu tv) tz D σ H := h H (Ex.refl H) _ fun H1 e1 => by
  cases b with
  | true => exact y rfl H1 e1 _ k
  | false => exact n rfl H1 e1 _ k
theorem s_ifT {b : Bool} (h : EvT t σ H b) (y : b = true → ∀ H1, Ex H H1 → tu D σ H1) (n : b = false → ∀ H1, Ex H H1 → tv D σ H1) : tIfS t tu tv D σ H := h H (Ex.refl H) _ fun H1 e1 => by
  cases b with
  | true => exact y rfl H1 e1
  | false => exact n rfl H1 e1
/-- xs[i] = e, the value as it comes -/
theorem s_setLP {l : Addr} {xs : List V} {j : Nat} {tb' : TE} {R0 : V → Hp → Prop} (hl : H l = some (.lst xs)) (h : EvP te σ H R0) (ho : ∀ H1, Ev ta σ H1 (.ref l)) (hi : ∀ H1, Ev tb' σ H1 (.int (j : Int))) (hj : j < xs.length) (k : ∀ v H0 H1, Ex H H0 → R0 v H0 → Ex H0 H1 → D.nx σ (upd H1 l (.lst (xs.set j v)))) :
    tAsg te (gSub ta tb' rSetL) D σ H := h H (Ex.refl H) _ fun v H1 e1 r => ho H1 H1 (Ex.refl H1) _ fun H2 e2 => hi H2 H2 (Ex.refl H2) _ fun H3 e3 =>
  ⟨l, xs, (j : Int), j, rfl, rfl, ((e1.trans e2).trans e3) l _ hl, ixN_nat hj, k v H1 H3 e1 r (e2.trans e3)⟩
theorem q_setLP {l : Addr} {xs : List V} {j : Nat} {tb' : TE} {R0 : V → Hp → Prop} (hl : H l = some (.lst xs)) (h : EvP te σ H R0) (ho : ∀ H1, Ev ta σ H1 (.ref l)) (hi : ∀ H1, Ev tb' σ H1 (.int (j : Int))) (hj : j < xs.length) (k : ∀ v H0 H1, Ex H H0 → R0 v H0 → Ex H0 H1 → tz D σ (upd H1 l (.lst (xs.set j v)))) :
    tSeq (tAsg te (gSub ta tb' rSetL)) tz D σ H := s_setLP (D := { D with nx := tz D }) hl h ho hi hj k
end
section
variable {P : Program} {w : World} {K : PySem.W.Frag} {mg : Str → Option Value} {base : Heap}
/-! ### spread -/
def spSpread : Sp := fun vs H Q _ => ∃ cell place : Int, vs = [.int cell, .int place] ∧ RetP (fun v _ => ∃ r : Int, v = .int r ∧ 0 ≤ r) H Q
abbrev s_law_b_spread : Stmt := top 47
abbrev N_law_b_spread : List Str := ["cell", "place", "mixed", "other"]
theorem sc_law_b_spread : FnScope N_law_b_spread ["cell", "place"] (defScope s_law_b_spread) := fnScope_by (by decide +kernel)
theorem cmul_r {i j : Int} (h : -(2 ^ 64) < j ∧ j < 2 ^ 64) : CMul i j := .inr h
theorem cmul_l {i j : Int} (h : -(2 ^ 64) < i ∧ i < 2 ^ 64) : CMul i j := .inl h
theorem ok_law_b_spread (F : DefAt K mg "_law_b_spread" s_law_b_spread ["cell", "place"]) (T : Txt K mg) : Cal P w K mg base 1 "_law_b_spread" spSpread [] := by
  refine F.cal sc_law_b_spread (by walk_at "len") (fun f0 cdv A outer s0 H vs Q X hr h => ?_)
  obtain ⟨cell, place, rfl, k⟩ := h
  have nd := sc_law_b_spread.nd
  refine ⟨_, (pss_cons (ps_if (pt_cmpR op_ge (pv 0) (pe_op op_pow pe_int pe_int) (nomark _)) (pss_one (ps_ret (pv 0))) pss_nil)
      (pss_cons (ps_set (i := 2) nd rfl (Or.inl rfl) (pe_op op_mod (pe_op op_add (pe_op op_add (pe_op op_mul (pe_op op_mod (pv 0) pe_int) pe_int) (pe_op op_mul (pv 1) pe_int)) pe_int) pe_int))
      (pss_cons (ps_set (i := 2) nd rfl (Or.inl rfl) (pe_op op_mod (pe_op op_add (pe_op op_add (pe_op op_mul (pv 2) (pv 2)) (pe_op op_mul pe_int (pv 1))) pe_int) pe_int))
      (pss_cons (ps_set (i := 3) nd rfl (Or.inl rfl) (pe_op op_mod (pe_op op_add (pe_op op_add (pe_op op_mul (pv 2) (pv 2)) (pe_op op_mul pe_int (pv 2))) (pv 1)) pe_int))
      (pss_one (ps_ret (pe_op op_add (pe_op op_mul (pv 2) pe_int) (pv 3)))))))), ?_⟩
  refine q_when (et_test (ev_op (ev_var rfl) (ev_op ev_c ev_c (rv_I ⟨by decide, by decide, by decide⟩)) rv_I0)) (fun q H1 e1 => ?_) (fun q H1 e1 => ?_)
  · have : (10 : Int) ^ (18 : Int).toNat ≤ cell := by simpa using q
    have h0 : (0 : Int) ≤ (10 : Int) ^ (18 : Int).toNat := by decide
    exact s_ret (ev_var rfl) fun H2 e2 => k _ H2 (e1.trans e2) ⟨cell, rfl, by omega⟩
  · have b1 : ∀ a m : Int, 0 < m → 0 ≤ a % m ∧ a % m < m := fun a m h => ⟨Int.emod_nonneg a (by omega), Int.emod_lt_of_pos a h⟩
    refine q_asg (ev_op (ev_op (ev_op (ev_op (ev_op (ev_var rfl) ev_c (rv_I (by decide))) ev_c (rv_I (cmul_r (by decide)))) (ev_op (ev_var rfl) ev_c (rv_I (cmul_r (by decide)))) rv_I0) ev_c rv_I0) ev_c (rv_I (by decide))) fun H2 e2 => ?_
    generalize hm : (cell % 2147483647 * 16807 + place * 62089911 + 12345) % 2147483629 = m1
    have m1b := b1 (cell % 2147483647 * 16807 + place * 62089911 + 12345) 2147483629 (by decide)
    rw [hm] at m1b
    refine q_asg (ev_op (ev_op (ev_op (ev_op (ev_var rfl) (ev_var rfl) (rv_I (cmul_r (by omega)))) (ev_op ev_c (ev_var rfl) (rv_I (cmul_l (by decide)))) rv_I0) ev_c rv_I0) ev_c (rv_I (by decide))) fun H3 e3 => ?_
    generalize hm2 : (m1 * m1 + 7919 * place + 1) % 2147483587 = m2
    have m2b := b1 (m1 * m1 + 7919 * place + 1) 2147483587 (by decide)
    rw [hm2] at m2b
    refine q_asg (ev_op (ev_op (ev_op (ev_op (ev_var rfl) (ev_var rfl) (rv_I (cmul_r (by omega)))) (ev_op ev_c (ev_var rfl) (rv_I (cmul_l (by decide)))) rv_I0) (ev_var rfl) rv_I0) ev_c (rv_I (by decide))) fun H4 e4 => ?_
    generalize hm3 : (m2 * m2 + 40014 * m2 + place) % 2147483563 = m3
    have m3b := b1 (m2 * m2 + 40014 * m2 + place) 2147483563 (by decide)
    rw [hm3] at m3b
    exact s_ret (ev_op (ev_op (ev_var rfl) ev_c (rv_I (cmul_r (by decide)))) (ev_var rfl) rv_I0) fun H5 e5 => k _ H5 ((((e1.trans e2).trans e3).trans e4).trans e5) ⟨_, rfl, by omega⟩
/-! ### digit -/
def SqKo (K : PySem.W.Frag) (a : Addr) (xs : List V) : Prop := ∃ (o : Obj) (its : Array Value) (n : Nat), K.lookup a = some o ∧ o.cls = .type "list" ∧ o.dict = none ∧ o.data = .seq its n ∧ its.size ≤ sizeLine ∧ Vals xs its.toList
structure Tape (K : PySem.W.Frag) (tp sc : Addr) (ns : List Int) (H : Hp) : Prop where
  cell : ∃ pos c : Int, H tp = some (.lst [.ref sc, .int pos, .int c]) ∧ 0 ≤ pos ∧ 0 ≤ c
  scr : SqL K H sc (ns.map V.int)
  ne : sc ≠ tp ∨ SqKo K sc (ns.map V.int)
  len : ns.length ≤ 100000
theorem Tape.mono {tp sc : Addr} {ns : List Int} {H H' : Hp} (t : Tape K tp sc ns H) (e : Ex H H') : Tape K tp sc ns H' := by
  obtain ⟨pos, c, h1, h2, h3⟩ := t.cell
  exact ⟨⟨pos, c, e _ _ h1, h2, h3⟩, ex_l e t.scr, t.ne, t.len⟩
theorem Tape.put {tp sc : Addr} {ns : List Int} {H : Hp} (t : Tape K tp sc ns H) {pos c : Int} (h1 : 0 ≤ pos) (h2 : 0 ≤ c) : Tape K tp sc ns (upd H tp (.lst [.ref sc, .int pos, .int c])) := by
  refine ⟨⟨pos, c, upd_same, h1, h2⟩, ?_, t.ne, t.len⟩
  rcases t.ne with ne | hk
  · rcases t.scr with (h | ⟨o, h⟩) | h
    · exact .inl (.inl (by rw [upd_ne ne]; exact h))
    · exact .inl (.inr ⟨o, by rw [upd_ne ne]; exact h⟩)
    · exact .inr h
  · exact .inr hk
theorem Tape.sqx {sc : Addr} {xs : List V} {H H' : Hp} (h : SqL K H sc xs) (e : ∀ o, H sc = some o → (o = .lst xs ∨ ∃ u, o = .frz u (.lst xs)) → H' sc = some o) : SqL K H' sc xs := by
  rcases h with (h | ⟨o, h⟩) | h
  · exact .inl (.inl (e _ h (.inl rfl)))
  · exact .inl (.inr ⟨o, e _ h (.inr ⟨o, rfl⟩)⟩)
  · exact .inr h
theorem at_int {ns : List Int} {i : Int} (h0 : 0 ≤ i) (h : i.toNat < ns.length) : atI (ns.map V.int) i = some (.int ns[i.toNat]) := by
  have e : ((i.toNat : Nat) : Int) = i := Int.toNat_of_nonneg h0
  have := atI_nat (xs := ns.map V.int) (j := i.toNat) (v := .int ns[i.toNat]) (by rw [List.getElem?_map, List.getElem?_eq_getElem h]; rfl)
  rw [e] at this; exact this
theorem Tape.sq {tp sc : Addr} {ns : List Int} {H H' : Hp} (t : Tape K tp sc ns H) (e : ExB [tp] H H') : SqL K H' sc (ns.map V.int) := by
  rcases t.ne with ne | hk
  · exact Tape.sqx t.scr fun o ho _ => e _ _ (by simpa using ne) ho
  · exact .inr hk
def spDigit (K : PySem.W.Frag) : Sp := fun vs H Q _ => ∃ (tp sc : Addr) (ns : List Int) (many : Int), vs = [.ref tp, .int many] ∧ Tape K tp sc ns H ∧ 1 ≤ many ∧ many < 1073741824 ∧ ∀ d H2, ExB [tp] H H2 → Tape K tp sc ns H2 → 0 ≤ d → d < many → Q (.int d) H2
theorem lay_nil : SeqAt.shaped (.list []) = true := by decide +kernel
theorem shaped_ints (l : List Int) : SeqAt.shaped (.list (l.map .int)) = true := by
  show ((PyData.list (l.map .int)).canLay0 && decide ((PyData.list (l.map .int)).depth ≤ 64)) = true
  rw [Bool.and_eq_true]
  refine ⟨by simp only [PyData.canLay0]; exact lay_ints l, decide_eq_true ?_⟩
  rw [PyData.depth, PySem.W.depth_ints]; omega
theorem ev_neLI {σ : L2.St} {H : Hp} {t1 : TE} {l : Addr} {ns : List Int} (h1 : Ev t1 σ H (.ref l)) (hl : SqL K H l (ns.map V.int)) : Ev (tOp (rNeD K) t1 (tLst tNil)) σ H (.bl (!ns.isEmpty)) := fun H1 e Q q =>
  h1 H1 e _ fun H2 e2 => el_lst ea_nil (Nat.zero_le _) H2 (e.trans e2) _ fun p H3 hp e3 h3 =>
    ⟨.list (ns.map .int), .list [], .lst (ex_l ((e.trans e2).trans e3) hl) (dp_ints ns), .lst (sq_of h3) .nil, shaped_ints _, lay_nil, by
      have : PyData.eqv (.list (ns.map .int)) (.list []) = ns.isEmpty := by
        cases ns <;> simp [PyData.eqv, PyData.eqvAll]
      rw [this]; exact q H3 (e2.trans e3)⟩
theorem ev_ixS {σ : L2.St} {H : Hp} {t1 t2 : TE} {l : Addr} {xs : List V} {i : Int} {v : V} (h1 : Ev t1 σ H (.ref l)) (h2 : Ev t2 σ H (.int i)) (hl : SqL K H l xs) (hv : atI xs i = some v) : Ev (tOp (rIxL K) t1 t2) σ H v := ev_op h1 h2 (rv_ixL hl hv)
theorem ev_lenS {σ : L2.St} {H : Hp} {t1 : TE} {l : Addr} {xs : List V} (h1 : Ev t1 σ H (.ref l)) (hl : SqL K H l xs) : Ev (tCB (rLenS K) (tCons t1 tNil)) σ H (.int (xs.length : Int)) := ev_len h1 hl
abbrev s_law_b_digit : Stmt := top 48
abbrev N_law_b_digit : List Str := ["tape", "many", "place", "cell", "found"]
theorem sc_law_b_digit : FnScope N_law_b_digit ["tape", "many"] (defScope s_law_b_digit) := fnScope_by (by decide +kernel)
theorem ok_law_b_digit (F : DefAt K mg "_law_b_digit" s_law_b_digit ["tape", "many"]) (T : Txt K mg) (c__law_b_spread : Cal P w K mg base 1 "_law_b_spread" spSpread []) : Cal P w K mg base 2 "_law_b_digit" (spDigit K) [] := by
  refine F.cal sc_law_b_digit (by walk_at "len") (fun f0 cdv A outer s0 H vs Q X hr h => ?_)
  obtain ⟨tp, sc, ns, many, rfl, hT, m1, m2, k⟩ := h
  have nd := sc_law_b_digit.nd
  refine ⟨_, (pss_cons (ps_if (pt_cmpR op_lt (pe_ix (ixL (K := K) rfl) (pv 0) pe_int (fun _ _ => rfl)) (pv 1) (nomark _)) (pss_cons (ps_set (i := 2) nd rfl (Or.inl rfl) (pe_ix (ixL (K := K) rfl) (pv 0) pe_int (fun _ _ => rfl)))
      (pss_cons (ps_set (i := 3) nd rfl (Or.inl rfl) (pv 2))
      (pss_cons (ps_if (pt_cmpR op_lt (pv 2) (pe_callB (lenS (K := K) rfl) (by rfl) T.g_len PySem.boot_len (pa_cons (pe_ix (ixL (K := K) rfl) (pv 0) pe_int (fun _ _ => rfl)) pa_nil)) (nomark _)) (pss_one (ps_set (i := 3) nd rfl (Or.inl rfl) (pe_ix (ixL (K := K) rfl) (pe_ix (ixL (K := K) rfl) (pv 0) pe_int (fun _ _ => rfl)) (pv 2) (fun _ _ => rfl)))) (pss_one (ps_if (pt_cmpR (neK (K := K) rfl hr.units) (pe_ix (ixL (K := K) rfl) (pv 0) pe_int (fun _ _ => rfl)) (pe_lst pa_nil) (nomark _)) (pss_one (ps_set (i := 3) nd rfl (Or.inl rfl) (pe_op op_add (pe_op op_mod (pe_ix (ixL (K := K) rfl) (pe_ix (ixL (K := K) rfl) (pv 0) pe_int (fun _ _ => rfl)) (pe_op op_mod (pe_op op_mul (pv 2) pe_int) (pe_callB (lenS (K := K) rfl) (by rfl) T.g_len PySem.boot_len (pa_cons (pe_ix (ixL (K := K) rfl) (pv 0) pe_int (fun _ _ => rfl)) pa_nil))) (fun _ _ => rfl)) (pe_op op_pow pe_int pe_int)) (pe_op op_mul (pv 2) pe_int)))) pss_nil)))
      (pss_cons (ps_asg (pe_op op_add (pv 2) pe_int) (pg_sub (pv 0) pe_int set_list))
      (pss_one (ps_asg (pe_c c__law_b_spread hr (by decide) (by rfl) (pa_cons (pv 3) (pa_cons (pv 2) pa_nil))) (pg_sub (pv 0) pe_int set_list))))))) pss_nil)
      (pss_cons (ps_set (i := 4) nd rfl (Or.inl rfl) (pe_op op_mod (pe_ix (ixL (K := K) rfl) (pv 0) pe_int (fun _ _ => rfl)) (pv 1)))
      (pss_cons (ps_asg (pe_op op_fdivN (pe_ix (ixL (K := K) rfl) (pv 0) pe_int (fun _ _ => rfl)) (pv 1)) (pg_sub (pv 0) pe_int set_list))
      (pss_one (ps_ret (pv 4)))))), ?_⟩
  obtain ⟨pos, c, h1, hp, hc⟩ := hT.cell
  refine q_ifJ (J := fun σ' H' => ∃ (x2 x3 : Option V) (pos c : Int), σ' = [some (.ref tp), some (.int many), x2, x3, none] ∧ ExB [tp] H H' ∧ H' tp = some (.lst [.ref sc, .int pos, .int c]) ∧ 0 ≤ pos ∧ 0 ≤ c) (et_test (ev_op (ev_ixL (i := 2) (v := .int c) (ev_var rfl) ev_c h1 rfl) (ev_var rfl) rv_I0)) (fun _ H1 e1 Dx kx => ?_) (fun _ H1 e1 Dx kx => kx _ _ ⟨none, none, pos, c, rfl, ExB.of e1, e1 _ _ h1, hp, hc⟩) ?_
  · refine q_asg (ev_ixL (i := 1) (v := .int pos) (ev_var rfl) ev_c (e1 _ _ h1) rfl) fun H2 e2 => ?_
    refine q_asg (ev_var rfl) fun H3 e3 => ?_
    have e13 := (e1.trans e2).trans e3
    have T3 := hT.mono e13
    have h3 := e13 _ _ h1
    refine q_ifJ (J := fun σ' H' => ∃ cell : Int, σ' = [some (.ref tp), some (.int many), some (.int pos), some (.int cell), none] ∧ Ex H H') (et_test (ev_op (ev_var rfl) (ev_lenS (ev_ixL (i := 0) (v := .ref sc) (ev_var rfl) ev_c h3 rfl) T3.scr) rv_I0)) (fun q H4 e4 Dy ky => ?_) (fun q H4 e4 Dy ky => ?_) ?_
    · have hlt : pos.toNat < ns.length := by
        have : pos < ((ns.map V.int).length : Int) := by simpa using q
        rw [List.length_map] at this
        omega
      have hpn : ((pos.toNat : Nat) : Int) = pos := Int.toNat_of_nonneg hp
      refine s_asg (ev_ixS (i := pos) (v := .int ns[pos.toNat]) (ev_ixL (i := 0) (v := .ref sc) (ev_var rfl) ev_c (e4 _ _ h3) rfl) (ev_var rfl) (T3.mono e4).scr (at_int hp hlt)) fun H5 e5 => ky _ _ ⟨_, rfl, (e13.trans e4).trans e5⟩
    · refine s_ifT (et_test (ev_neLI (ev_ixL (i := 0) (v := .ref sc) (ev_var rfl) ev_c (e4 _ _ h3) rfl) (T3.mono e4).scr)) (fun q2 H5 e5 => ?_) (fun _ H5 e5 => ky _ _ ⟨pos, rfl, (e13.trans e4).trans e5⟩)
      have hne : ns ≠ [] := fun z => by rw [z] at q2; simp at q2
      have hl0 : 0 < ns.length := List.length_pos_iff.mpr hne
      have h5 := e5 _ _ (e4 _ _ h3)
      have T5 := (T3.mono e4).mono e5
      have hb0 : 0 ≤ (pos * 7) % (ns.length : Int) := Int.emod_nonneg _ (by omega)
      have hb1 : (pos * 7) % (ns.length : Int) < ns.length := Int.emod_lt_of_pos _ (by omega)
      have hpn : ((((pos * 7) % (ns.length : Int)).toNat : Nat) : Int) = (pos * 7) % (ns.length : Int) := Int.toNat_of_nonneg hb0
      have hlt : ((pos * 7) % (ns.length : Int)).toNat < ns.length := by omega
      have hix : Ev (tOp (rIxL K) (tOp (rIxL K) (tVar 0) (tC (.int 0))) (tOp (rI (fun _ j => 0 < j) fun i j => .int (i % j)) (tOp (rI CMul fun i j => .int (i * j)) (tVar 2) (tC (.int 7))) (tCB (rLenS K) (tCons (tOp (rIxL K) (tVar 0) (tC (.int 0))) tNil)))) ([some (.ref tp), some (.int many), some (.int pos), some (.int pos), none] : L2.St) H5 (.int ns[((pos * 7) % (ns.length : Int)).toNat]) :=
        ev_ixS (i := (pos * 7) % (ns.length : Int)) (ev_ixL (i := 0) (v := .ref sc) (ev_var rfl) ev_c h5 rfl) (ev_is (ev_op (ev_op (ev_var rfl) ev_c (rv_I (cmul_r (by decide)))) (ev_lenS (ev_ixL (i := 0) (v := .ref sc) (ev_var rfl) ev_c h5 rfl) T5.scr) (rv_I (by rw [List.length_map]; omega))) (by rw [List.length_map])) T5.scr (at_int hb0 hlt)
      exact s_asg (ev_op (ev_op hix (ev_op ev_c ev_c (rv_I ⟨by decide, by decide, by decide⟩)) (rv_I (by decide))) (ev_op (ev_var rfl) ev_c (rv_I (cmul_r (by decide)))) rv_I0) fun H6 e6 => ky _ _ ⟨_, rfl, ((e13.trans e4).trans e5).trans e6⟩
    · rintro σ' H4 ⟨cell, rfl, e4⟩
      refine q_setL (j := 1) (e4 _ _ h1) (ev_op (ev_var rfl) ev_c rv_I0) (ev_var rfl) ev_c (by simp) fun H5 e5 => ?_
      refine s_setLP (R0 := fun v _ => ∃ r : Int, v = .int r ∧ 0 ≤ r) (xs := [.ref sc, .int (pos + 1), .int c]) (j := 2) upd_same (evp_call (ea_cons (ev_var rfl) (ea_cons (ev_var rfl) ea_nil)) fun H6 e6 Q q => ⟨cell, pos, rfl, q⟩) (fun _ => ev_var rfl) (fun _ => ev_c) (by simp) fun v H6 H7 e6 r e7 => ?_
      obtain ⟨r, rfl, hr0⟩ := r
      refine kx _ _ ⟨_, _, pos + 1, r, rfl, ?_, upd_same, by omega, hr0⟩
      exact (((ExB.of (e4.trans e5)).trans (ExB.upd (by simp))).trans (ExB.of (e6.trans e7))).trans (ExB.upd (by simp))
  · rintro σ' H4 ⟨x2, x3, pos, c, rfl, e4, h4, hp, hc⟩
    have T4 : Tape K tp sc ns H4 := ⟨⟨pos, c, h4, hp, hc⟩, hT.sq e4, hT.ne, hT.len⟩
    have hd0 : 0 ≤ c % many := Int.emod_nonneg _ (by omega)
    have hd1 : c % many < many := Int.emod_lt_of_pos _ (by omega)
    refine q_asg (ev_op (ev_ixL (i := 2) (v := .int c) (ev_var rfl) ev_c h4 rfl) (ev_var rfl) (rv_I (by omega))) fun H5 e5 => ?_
    have h5 := e5 _ _ h4
    have hf : 0 ≤ c.fdiv many := Int.fdiv_nonneg hc (by omega)
    refine q_setL (j := 2) h5 (ev_op (ev_ixL (i := 2) (v := .int c) (ev_var rfl) ev_c h5 rfl) (ev_var rfl) (rv_I ⟨by omega, by omega⟩)) (ev_var rfl) ev_c (by simp) fun H6 e6 => ?_
    have E6 : ExB [tp] H (upd H6 tp (.lst [.ref sc, .int pos, .int (c.fdiv many)])) := (e4.trans (ExB.of (e5.trans e6))).trans (ExB.upd (by simp))
    have T6 : Tape K tp sc ns (upd H6 tp (.lst [.ref sc, .int pos, .int (c.fdiv many)])) := (T4.mono (e5.trans e6)).put hp hf
    exact s_ret (ev_var rfl) fun H7 e7 => k _ H7 (E6.trans (ExB.of e7)) (T6.mono e7) hd0 hd1
theorem dig_x {σ : L2.St} {H : Hp} {E : XK} {t1 t2 : TE} {tp sc : Addr} {ns : List Int} {many : Int} {R : V → Hp → Prop} (h1 : Ev t1 σ H (.ref tp)) (h2 : Ev t2 σ H (.int many)) (hT : Tape K tp sc ns H) (m1 : 1 ≤ many) (m2 : many < 1073741824)
    (k : ∀ d H2, ExB [tp] H H2 → Tape K tp sc ns H2 → 0 ≤ d → d < many → R (.int d) H2) : EvX (tCall (spDigit K) [] E (tCons t1 (tCons t2 tNil))) σ H R :=
  evx_call (ea_cons h1 (ea_cons h2 ea_nil)) fun H1 e1 Q q => ⟨tp, sc, ns, many, rfl, hT.mono e1, m1, m2, fun d H2 e2 t2 d0 d1 => q _ _ (k d H2 ((ExB.of e1).trans e2) t2 d0 d1)⟩
end
end HK

/-! part HKY -/
/-! The law's own functions: a net. -/
namespace HK
open PySem PySem.Spec PyProof.Rows L2 Evl
open C8 (Cal Met Mak pe_c pe_mk pe_mt pe_mt0 pe_gc fnScope_by)
open LamX (ExtN)
set_option hygiene false in
local macro_rules | `(tactic| walk_at "len") => `(tactic| (intro vs H Q E h; first
  | (obtain ⟨rfl, _⟩ := h; rfl)
  | (obtain ⟨_, rfl, _⟩ := h; rfl)
  | (obtain ⟨_, _, rfl, _⟩ := h; rfl)
  | (obtain ⟨_, _, _, rfl, _⟩ := h; rfl)
  | (obtain ⟨_, _, _, _, rfl, _⟩ := h; rfl)
  | (obtain ⟨_, _, _, _, _, rfl, _⟩ := h; rfl)
  | (obtain ⟨_, _, _, _, _, _, rfl, _⟩ := h; rfl)
  | (obtain ⟨_, _, _, _, _, _, _, rfl, _⟩ := h; rfl)
  | (obtain ⟨_, _, _, _, _, _, _, _, rfl, _⟩ := h; rfl)
  | (obtain ⟨_, _, _, _, _, _, _, _, _, rfl, _⟩ := h; rfl)
  | (obtain ⟨_, _, _, _, _, _, _, _, _, _, rfl, _⟩ := h; rfl)
  | (obtain ⟨_, _, _, _, _, _, _, _, _, _, _, rfl, _⟩ := h; rfl)
  | (obtain ⟨_, _, _, _, _, _, _, _, _, _, _, _, rfl, _⟩ := h; rfl)
  | (obtain ⟨_, _, _, _, _, _, _, _, _, _, _, _, _, rfl, _⟩ := h; rfl)
  | (obtain ⟨_, _, _, _, _, _, _, _, _, _, _, _, _, _, rfl, _⟩ := h; rfl)
  | (obtain ⟨_, _, _, _, _, _, _, _, _, _, _, _, _, _, _, rfl, _⟩ := h; rfl)
  | (obtain ⟨_, _, _, _, _, _, _, _, _, _, _, _, _, _, _, _, rfl, _⟩ := h; rfl)
  | (obtain ⟨_, _, _, _, _, _, _, _, _, _, _, _, _, _, _, _, _, rfl, _⟩ := h; rfl)
  | (obtain ⟨_, _, _, _, _, _, _, _, _, _, _, _, _, _, _, _, _, _, rfl, _⟩ := h; rfl)
  | (obtain ⟨_, _, _, _, _, _, _, _, _, _, _, _, _, _, _, _, _, _, _, rfl, _⟩ := h; rfl)
  | (obtain ⟨_, _, _, _, _, _, _, _, _, _, _, _, _, _, _, _, _, _, _, _, rfl, _⟩ := h; rfl)
  | (obtain ⟨_, _, _, _, _, _, _, _, _, _, _, _, _, _, _, _, _, _, _, _, _, rfl, _⟩ := h; rfl)
  | (obtain ⟨_, _, _, _, _, _, _, _, _, _, _, _, _, _, _, _, _, _, _, _, _, _, rfl, _⟩ := h; rfl)
  | (obtain ⟨_, _, _, _, _, _, _, _, _, _, _, _, _, _, _, _, _, _, _, _, _, _, _, rfl, _⟩ := h; rfl)
  | (obtain ⟨_, _, _, _, _, _, _, _, _, _, _, _, _, _, _, _, _, _, _, _, _, _, _, _, rfl, _⟩ := h; rfl)
  | (obtain ⟨_, _, _, _, _, _, _, _, _, _, _, _, _, _, _, _, _, _, _, _, _, _, _, _, _, rfl, _⟩ := h; rfl)))

theorem ExB.fr {B : List Addr} {H H1 : Hp} {l : Addr} {o : HO} (e : ExB B H H1) (h : H l = none) : ExB B H (L2.upd H1 l o) := fun b u n hb => by
  rw [upd_ne (ne_of_none hb h)]; exact e b u n hb
section
variable {P : Program} {w : World} {K : PySem.W.Frag} {mg : Str → Option Value} {base : Heap}
theorem Tape.of {tp sc : Addr} {ns : List Int} {H H' : Hp} (T : Tape K tp sc ns H) (e : ExB [tp] H H') (c : ∃ pos c : Int, H' tp = some (.lst [.ref sc, .int pos, .int c]) ∧ 0 ≤ pos ∧ 0 ≤ c) : Tape K tp sc ns H' :=
  ⟨c, T.sq e, T.ne, T.len⟩
theorem Tape.fr {tp sc l : Addr} {ns : List Int} {H H1 : Hp} {o : HO} (T : Tape K tp sc ns H) (e : ExB [tp] H H1) (t1 : Tape K tp sc ns H1) (h : H l = none) : Tape K tp sc ns (L2.upd H1 l o) := by
  obtain ⟨pos, c, h1, h2, h3⟩ := t1.cell
  obtain ⟨_, _, h0, _⟩ := T.cell
  exact T.of (e.fr h) ⟨pos, c, by rw [upd_ne (ne_of_none h0 h)]; exact h1, h2, h3⟩
theorem Tape.tex {tp sc : Addr} {ns : List Int} {H H' : Hp} (T : Tape K tp sc ns H) (e : ExB [tp] H H') : TEx H H' := fun a xs h => e a _ (by
  obtain ⟨pos, c, h1, _⟩ := T.cell
  simp
  rintro rfl
  rw [h1] at h; cases h) h
theorem evx_lst {σ : L2.St} {H : Hp} {tar : TA} {R : V → Hp → Prop} (h : EvAX tar σ H fun xs H1 => xs.length ≤ 100000 ∧ ∀ p, H1 p = none → R (.ref p) (upd H1 p (.lst xs))) : EvX (tLst tar) σ H R := fun Q q => h _ fun xs H1 ⟨h1, h2⟩ => ⟨sz_of h1, fun p hp => q _ _ (h2 p hp)⟩
theorem ax_c {σ : L2.St} {H : Hp} {tr : TA} {v : V} {R : List V → Hp → Prop} (h : EvAX tr σ H fun vs H2 => R (v :: vs) H2) : EvAX (tCons (tC v) tr) σ H R := fun Q q => h _ fun vs H2 h2 => q _ _ h2
theorem eu_tupOf' {te : TE} {σ : L2.St} {H : Hp} {l : Addr} {xs : List V} (h : Ev te σ H (.ref l)) (hl : H l = some (.lst xs)) : EvU (tCB (rTupOf K) (tCons te tNil)) σ H xs := fun H1 e Q q => h H1 e _ fun H2 e2 =>
  ⟨l, xs, rfl, .inl ⟨sq_of ((e.trans e2) _ _ hl), fun p hp => q p _ (fresh_back e2 hp) (e2.trans (Ex.new hp)) upd_same⟩⟩
theorem evp_tup2U {t1 t2 : TE} {σ : L2.St} {H : Hp} {xs : List V} {v : V} (h1 : Ev t1 σ H v) (h2 : EvU t2 σ H xs) : EvP (tTup (tCons t1 (tCons t2 tNil))) σ H fun x H2 => ∃ b p, x = .ref b ∧ H2 b = some (.tup [v, .ref p]) ∧ H2 p = some (.tup xs) := fun H1 e Q q =>
  h1 H1 e _ fun H2 e2 => h2 H2 (e.trans e2) _ fun p H3 hp e3 hh => ⟨sz_of (by show 2 ≤ 100000; decide), fun b hb => q _ _ ((e2.trans e3).trans (Ex.new hb)) ⟨b, p, rfl, upd_same, by
    rw [upd_ne (ne_of_none hh hb)]; exact hh⟩⟩
/-! ### some -/
theorem atI_in {α : Type} {xs : List α} {d : Int} (h0 : 0 ≤ d) (h1 : d < xs.length) : ∃ v ∈ xs, atI xs d = some v := by
  have hl : d.toNat < xs.length := by omega
  have := atI_nat (xs := xs) (j := d.toNat) (v := xs[d.toNat]) (List.getElem?_eq_getElem hl)
  rw [Int.toNat_of_nonneg h0] at this
  exact ⟨_, List.getElem_mem hl, this⟩
def spSome (K : PySem.W.Frag) : Sp := fun vs H Q _ => ∃ (tp sc : Addr) (ns : List Int) (l : Addr) (xs : List V), vs = [.ref tp, .ref l] ∧ Tape K tp sc ns H ∧ H l = some (.lst xs) ∧ l ≠ tp ∧ 1 ≤ xs.length ∧ xs.length ≤ 1000 ∧ ∀ v H2, ExB [tp] H H2 → Tape K tp sc ns H2 → v ∈ xs → Q v H2
abbrev s_law_b_some : Stmt := top 49
abbrev N_law_b_some : List Str := ["tape", "row"]
theorem sc_law_b_some : FnScope N_law_b_some ["tape", "row"] (defScope s_law_b_some) := fnScope_by (by decide +kernel)
theorem ok_law_b_some (F : DefAt K mg "_law_b_some" s_law_b_some ["tape", "row"]) (T : Txt K mg) (c__law_b_digit : Cal P w K mg base 2 "_law_b_digit" (spDigit K) []) : Cal P w K mg base 3 "_law_b_some" (spSome K) [] := by
  refine F.cal sc_law_b_some (by walk_at "len") (fun f0 cdv A outer s0 H vs Q X hr h => ?_)
  obtain ⟨tp, sc, ns, l, xs, rfl, hT, hl, lt, l1, l2, k⟩ := h
  have nd := sc_law_b_some.nd
  refine ⟨_, (pss_one (ps_ret (pe_ix (ixL (K := K) rfl) (pv 1) (pe_c c__law_b_digit hr (by decide) (by rfl) (pa_cons (pv 0) (pa_cons (pe_callB (lenS (K := K) rfl) (by rfl) T.g_len PySem.boot_len (pa_cons (pv 1) pa_nil)) pa_nil))) (fun _ _ => rfl)))), ?_⟩
  refine x_ret (evx_opV (evx (ev_var rfl) fun H1 e1 => dig_x (ev_var rfl) (ev_lenL (ev_var rfl) (e1 _ _ hl)) (hT.mono e1) (by omega) (by omega) fun d H2 e2 t2 d0 d1 => ?_))
  obtain ⟨v, hv, ha⟩ := atI_in (xs := xs) d0 d1
  have hl2 : H2 l = some (.lst xs) := e2 _ _ (by simpa using lt) (e1 _ _ hl)
  exact ⟨v, rv_ixL (sq_of hl2) ha, fun H3 e3 => k v H3 (((ExB.of e1).trans e2).trans (ExB.of e3)) (t2.mono e3) hv⟩
/-! ### net -/
def spNet (K : PySem.W.Frag) : Sp := fun vs H Q _ => ∃ (tp sc : Addr) (ns : List Int) (most : Int), vs = [.ref tp, .int most] ∧ Tape K tp sc ns H ∧ 1 ≤ most ∧ most ≤ 12 ∧ ∀ v H2, ExB [tp] H H2 → Tape K tp sc ns H2 → (∃ a N, v = .ref a ∧ NetAt H2 a N ∧ N.Ok ∧ N.n ≤ most) → Q v H2
/-- the roads so far: all ahead of (i, j) -/
structure NetI (n : Int) (rs : List Road) (i j : Int) : Prop where
  ok : ∀ r ∈ rs, ROk n r
  up : rs.Pairwise lex2
  lt : ∀ r ∈ rs, r.i < i ∨ (r.i = i ∧ r.j < j)
theorem NetI.snoc {n : Int} {rs : List Road} {i j : Int} (I : NetI n rs i j) {r : Road} (hr : ROk n r) (h1 : r.i = i) (h2 : r.j = j) : NetI n (rs ++ [r]) i (j + 1) := by
  refine ⟨fun x hx => ?_, ?_, fun x hx => ?_⟩
  · rcases List.mem_append.mp hx with hx | hx
    · exact I.ok x hx
    · rw [List.mem_singleton.mp hx]; exact hr
  · rw [List.pairwise_append]
    refine ⟨I.up, by simp, fun x hx y hy => ?_⟩
    rw [List.mem_singleton.mp hy]
    unfold lex2
    have := I.lt x hx
    omega
  · rcases List.mem_append.mp hx with hx | hx
    · have := I.lt x hx; omega
    · rw [List.mem_singleton.mp hx]; omega
theorem NetI.skip {n : Int} {rs : List Road} {i j : Int} (I : NetI n rs i j) : NetI n rs i (j + 1) := ⟨I.ok, I.up, fun x hx => by have := I.lt x hx; omega⟩
theorem NetI.row {n : Int} {rs : List Road} {i : Int} (I : NetI n rs i n) : NetI n rs (i + 1) 0 := ⟨I.ok, I.up, fun x hx => by have := I.lt x hx; omega⟩
theorem NetI.few {n : Int} {rs : List Road} {i j : Int} (I : NetI n rs i j) (n1 : 1 ≤ n) (n12 : n ≤ 12) : rs.length ≤ 144 := few_roads (N := ⟨n, rs⟩) ⟨n1, n12, I.ok, I.up⟩
abbrev s_law_b_net : Stmt := top 50
abbrev N_law_b_net : List Str := ["tape", "most", "n", "often", "roads", "i", "j", "pay", "late"]
theorem sc_law_b_net : FnScope N_law_b_net ["tape", "most"] (defScope s_law_b_net) := fnScope_by (by decide +kernel)
theorem ok_law_b_net (F : DefAt K mg "_law_b_net" s_law_b_net ["tape", "most"]) (T : Txt K mg) (c__law_b_digit : Cal P w K mg base 2 "_law_b_digit" (spDigit K) []) : Cal P w K mg base 3 "_law_b_net" (spNet K) [] := by
  refine F.cal sc_law_b_net (by walk_at "len") (fun f0 cdv A outer s0 H vs Q X hr h => ?_)
  obtain ⟨tp, sc, ns, most, rfl, hT, m1, m2, k⟩ := h
  have nd := sc_law_b_net.nd
  refine ⟨_, (pss_cons (ps_set (i := 2) nd rfl (Or.inl rfl) (pe_op op_add pe_int (pe_c c__law_b_digit hr (by decide) (by rfl) (pa_cons (pv 0) (pa_cons (pv 1) pa_nil)))))
      (pss_cons (ps_set (i := 3) nd rfl (Or.inl rfl) (pe_op op_add pe_int (pe_c c__law_b_digit hr (by decide) (by rfl) (pa_cons (pv 0) (pa_cons pe_int pa_nil)))))
      (pss_cons (ps_set (i := 4) nd rfl (Or.inl rfl) (pe_lst pa_nil))
      (pss_cons (ps_for PassesOwn.never rfl (pi_range1 (by rfl) T.g_range (pa_cons (pv 2) pa_nil)) (pg_name (i := 5) nd rfl (Or.inl rfl)) (pss_one (ps_for PassesOwn.never rfl (pi_range1 (by rfl) T.g_range (pa_cons (pv 2) pa_nil)) (pg_name (i := 6) nd rfl (Or.inl rfl)) (pss_one (ps_if (PW.pt (pw_and (pt_cmpR op_ne (pv 5) (pv 6) (nomark _)) (pw_and1 (pt_cmpR op_lt (pe_c c__law_b_digit hr (by decide) (by rfl) (pa_cons (pv 0) (pa_cons pe_int pa_nil))) (pv 3) (nomark _))))) (pss_cons (ps_set (i := 7) nd rfl (Or.inl rfl) (pe_ix (ixL (K := K) rfl) (pe_lst (pa_cons pe_int (pa_cons pe_int (pa_cons pe_int (pa_cons pe_int (pa_cons pe_int (pa_cons pe_int (pa_cons pe_int (pa_cons (pe_c c__law_b_digit hr (by decide) (by rfl) (pa_cons (pv 0) (pa_cons pe_int pa_nil))) pa_nil))))))))) (pe_c c__law_b_digit hr (by decide) (by rfl) (pa_cons (pv 0) (pa_cons pe_int pa_nil))) (fun _ _ => rfl)))
      (pss_cons (ps_set (i := 8) nd rfl (Or.inl rfl) (pe_ix (ixL (K := K) rfl) (pe_lst (pa_cons pe_int (pa_cons pe_int (pa_cons pe_int (pa_cons pe_int (pa_cons pe_int (pa_cons pe_int (pa_cons (pe_op op_add pe_int (pe_c c__law_b_digit hr (by decide) (by rfl) (pa_cons (pv 0) (pa_cons pe_int pa_nil)))) pa_nil)))))))) (pe_c c__law_b_digit hr (by decide) (by rfl) (pa_cons (pv 0) (pa_cons pe_int pa_nil))) (fun _ _ => rfl)))
      (pss_one (ps_expr (pe_bm PySem.F.plainAttrs_list PySem.F.slot_list_append PySem.F.type_list_append mt_append (pv 4) (pa_cons (pe_tup (pa_cons (pv 5) (pa_cons (pv 6) (pa_cons (pv 7) (pa_cons (pv 8) pa_nil))))) pa_nil)))))) pss_nil)))))
      (pss_one (ps_ret (pe_tup (pa_cons (pv 2) (pa_cons (pe_callTy (tupK (K := K) rfl) (by rfl) T.g_tuple (by decide +kernel) (pa_cons (pv 4) pa_nil)) pa_nil))))))))), ?_⟩
  refine xq_asg (evx_opV (evx ev_c fun H1 e1 => dig_x (ev_var rfl) (ev_var rfl) (hT.mono e1) m1 (by omega) fun d H2 e2 t2 d0 d1 => ⟨_, rv_I0, fun H3 e3 => ?_⟩))
  generalize hn : (1 : Int) + d = n
  have n1 : 1 ≤ n := by omega
  have nm : n ≤ most := by omega
  have E3 : ExB [tp] H H3 := ((ExB.of e1).trans e2).trans (ExB.of e3)
  have T3 := t2.mono e3
  refine xq_asg (evx_opV (evx ev_c fun H4 e4 => dig_x (ev_var rfl) ev_c (T3.mono e4) (by decide) (by decide) fun d2 H5 e5 t5 _ _ => ⟨_, rv_I0, fun H6 e6 => ?_⟩))
  generalize (1 : Int) + d2 = often
  have E6 : ExB [tp] H H6 := ((E3.trans (ExB.of e4)).trans e5).trans (ExB.of e6)
  have T6 := t5.mono e6
  refine q_asgL (el_lst ea_nil (Nat.zero_le _)) fun l H7 l6 e7 hl7 => ?_
  have l0 : H l = none := by
    cases z : H l with
    | none => rfl
    | some o =>
      exfalso
      by_cases q : l = tp
      · obtain ⟨pos, c, h1, _⟩ := T6.cell
        rw [q, h1] at l6; cases l6
      · have := E6 l o (by simpa using q) z
        rw [this] at l6; cases l6
  have lt : l ≠ tp := fun z => by
    obtain ⟨pos, c, h1, _⟩ := hT.cell
    rw [z, h1] at l0; cases l0
  have E7 := E6.trans (ExB.of e7)
  have T7 := T6.mono e7
  have seven : ∀ xs : List V, xs.length ≤ 10 → xs.length ≤ 100000 := fun xs h => by omega
  refine q_forR1 (n := n) (ea_cons (ev_var rfl) ea_nil) ⟨by omega, by omega⟩ (fun i σ' H' => ∃ (as : List Addr) (rs : List Road) (x5 x6 x7 x8 : Option V), σ' = [some (.ref tp), some (.int most), some (.int n), some (.int often), some (.ref l), x5, x6, x7, x8] ∧ ExB [tp] H H' ∧ Tape K tp sc ns H' ∧ H' l = some (.lst (as.map V.ref)) ∧ RoadsAt H' as rs ∧ NetI n rs i 0)
    (fun H8 e8 => ⟨[], [], none, none, none, none, rfl, E7.trans (ExB.of e8), T7.mono e8, e8 _ _ hl7, ⟨rfl, fun k b r h => by simp at h⟩, ⟨fun r hr => by simp at hr, by simp, fun r hr => by simp at hr⟩⟩) ?_ ?_
  · rintro i σ' H8 hi ⟨as, rs, x5, x6, x7, x8, rfl, E8, T8, hl8, hR8, I8⟩
    show (tFor _ _ _ : TS) _ ([some (.ref tp), some (.int most), some (.int n), some (.int often), some (.ref l), some (.int (i : Int)), x6, x7, x8] : L2.St) H8
    refine s_forR1 (n := n) (ea_cons (ev_var rfl) ea_nil) ⟨by omega, by omega⟩ (fun j σ' H' => ∃ (as : List Addr) (rs : List Road) (x6 x7 x8 : Option V), σ' = [some (.ref tp), some (.int most), some (.int n), some (.int often), some (.ref l), some (.int (i : Int)), x6, x7, x8] ∧ ExB [tp] H H' ∧ Tape K tp sc ns H' ∧ H' l = some (.lst (as.map V.ref)) ∧ RoadsAt H' as rs ∧ NetI n rs i j)
      (fun H9 e9 => ⟨as, rs, x6, x7, x8, rfl, E8.trans (ExB.of e9), T8.mono e9, e9 _ _ hl8, hR8.mono (HK.tex e9), I8⟩) ?_ ?_
    · rintro j σ' H9 hj ⟨as, rs, x6, x7, x8, rfl, E9, T9, hl9, hR9, I9⟩
      have len9 : as.length ≤ 144 := by rw [hR9.len]; exact I9.few n1 (by omega)
      show (tIfS _ _ _ : TS) _ ([some (.ref tp), some (.int most), some (.int n), some (.int often), some (.ref l), some (.int (i : Int)), some (.int (j : Int)), x7, x8] : L2.St) H9
      have skip : ∀ H', ExB [tp] H9 H' → Tape K tp sc ns H' → ∀ (x7 x8 : Option V), ∃ (as : List Addr) (rs : List Road) (x6 x7' x8' : Option V), [some (.ref tp), some (.int most), some (.int n), some (.int often), some (.ref l), some (.int (i : Int)), some (.int (j : Int)), x7, x8] = [some (.ref tp), some (.int most), some (.int n), some (.int often), some (.ref l), some (.int (i : Int)), x6, x7', x8'] ∧ ExB [tp] H H' ∧ Tape K tp sc ns H' ∧ H' l = some (.lst (as.map V.ref)) ∧ RoadsAt H' as rs ∧ NetI n rs i ((j + 1 : Nat) : Int) := fun H' e t x7 x8 =>
        ⟨as, rs, _, _, _, rfl, E9.trans e, t, e _ _ (by simpa using lt) hl9, hR9.mono (T9.tex e), by have := I9.skip; simpa using this⟩
      refine x_if (tx_and (tx (et_test (ev_op (ev_var rfl) (ev_var rfl) (rv_ne rfl))) fun H10 e10 => ⟨fun hne => ?_, fun _ => ⟨(fun z => nomatch z), fun _ => skip H10 (ExB.of e10) (T9.mono e10) x7 x8⟩⟩))
      refine tx_test (evx_opV (dig_x (ev_var rfl) ev_c (T9.mono e10) (by decide) (by decide) fun d3 H11 e11 t11 _ _ => evx (ev_var rfl) fun H12 e12 => ⟨_, rv_I0, fun H13 e13 => ⟨_, rfl, fun _ => ?_, fun _ => ?_⟩⟩))
      · have E13 : ExB [tp] H9 H13 := (((ExB.of e10).trans e11).trans (ExB.of e12)).trans (ExB.of e13)
        have T13 := (t11.mono e12).mono e13
        have hij : (i : Int) ≠ j := by
          intro z
          simp [z] at hne
        -- pay
        refine xq_asg (evx_opV (evx_lst (ax_c (ax_c (ax_c (ax_c (ax_c (ax_c (ax_c (ax_cons (dig_x (ev_var rfl) ev_c T13 (by decide) (by decide) fun d4 H14 e14 t14 d40 d41 => ax_nil ⟨by simp, fun p hp => ?_⟩)))))))))))
        have pn : p ≠ tp := fun z => by
          obtain ⟨pos, c, h1, _⟩ := t14.cell
          rw [z, h1] at hp; cases hp
        have t15 : Tape K tp sc ns (upd H14 p (.lst [.int 0, .int 1, .int 1, .int 2, .int 3, .int 7, .int 1000, .int d4])) := t14.mono (Ex.new hp)
        refine dig_x (ev_var rfl) ev_c t15 (by decide) (by decide) fun d5 H16 e16 t16 d50 d51 => ?_
        have hp16 : H16 p = some (.lst [.int 0, .int 1, .int 1, .int 2, .int 3, .int 7, .int 1000, .int d4]) := e16 _ _ (by simpa using pn) upd_same
        obtain ⟨v, hv, hat⟩ := atI_in (xs := [V.int 0, .int 1, .int 1, .int 2, .int 3, .int 7, .int 1000, .int d4]) d50 (by simpa using d51)
        refine ⟨v, rv_ixL (sq_of hp16) hat, fun H17 e17 => ?_⟩
        have hpay : ∃ pay : Int, v = .int pay ∧ 0 ≤ pay ∧ pay ≤ 1000 := by
          simp at hv
          rcases hv with h | h | h | h | h | h | h <;> exact ⟨_, h, by omega, by omega⟩
        obtain ⟨pay, rfl, p0, p1⟩ := hpay
        have E17 : ExB [tp] H9 H17 := (((E13.trans e14).trans (ExB.of (Ex.new hp))).trans e16).trans (ExB.of e17)
        have T17 := t16.mono e17
        -- late
        refine xq_asg (evx_opV (evx_lst (ax_c (ax_c (ax_c (ax_c (ax_c (ax_c (ax_cons (evx_opV (evx ev_c fun H18 e18 => dig_x (ev_var rfl) ev_c (T17.mono e18) (by decide) (by decide) fun d6 H19 e19 t19 d60 d61 => ⟨_, rv_I0, fun H20 e20 => ax_nil ⟨by simp, fun p2 hp2 => ?_⟩⟩)))))))))))
        have T20 := t19.mono e20
        have pn2 : p2 ≠ tp := fun z => by
          obtain ⟨pos, c, h1, _⟩ := T20.cell
          rw [z, h1] at hp2; cases hp2
        have t21 : Tape K tp sc ns (upd H20 p2 (.lst [.int 1, .int 1, .int 2, .int 3, .int 5, .int 1000, .int (1 + d6)])) := T20.mono (Ex.new hp2)
        refine dig_x (ev_var rfl) ev_c t21 (by decide) (by decide) fun d7 H22 e22 t22 d70 d71 => ?_
        have hp22 : H22 p2 = some (.lst [.int 1, .int 1, .int 2, .int 3, .int 5, .int 1000, .int (1 + d6)]) := e22 _ _ (by simpa using pn2) upd_same
        obtain ⟨v, hv, hat⟩ := atI_in (xs := [V.int 1, .int 1, .int 2, .int 3, .int 5, .int 1000, .int (1 + d6)]) d70 (by simpa using d71)
        refine ⟨v, rv_ixL (sq_of hp22) hat, fun H23 e23 => ?_⟩
        have hlate : ∃ late : Int, v = .int late ∧ 1 ≤ late ∧ late ≤ 1000 := by
          simp at hv
          rcases hv with h | h | h | h | h | h <;> exact ⟨_, h, by omega, by omega⟩
        obtain ⟨late, rfl, q0, q1⟩ := hlate
        have E23 : ExB [tp] H9 H23 := (((((E17.trans (ExB.of e18)).trans e19).trans (ExB.of e20)).trans (ExB.of (Ex.new hp2))).trans e22).trans (ExB.of e23)
        have T23 := t22.mono e23
        have hl23 := E23 _ _ (by simpa using lt) hl9
        refine s_appP hl23 (ev_var rfl) (EvU.p (eu_tup (ea_cons (ev_var rfl) (ea_cons (ev_var rfl) (ea_cons (ev_var rfl) (ea_cons (ev_var rfl) ea_nil)))) (by show 4 ≤ 100000; decide))) (by rw [List.length_map]; omega) fun v H24 e24 r => ?_
        obtain ⟨b, rfl, hb⟩ := r
        have tx25 : TEx H24 (upd H24 l (.lst (as.map V.ref ++ [.ref b]))) := tex_upd (e24 _ _ hl23) fun xs z => nomatch z
        have E24 : ExB [tp] H H24 := (E9.trans E23).trans (ExB.of e24)
        have hr : ROk n ⟨i, j, pay, late⟩ := ⟨by show (0 : Int) ≤ i; omega, hi, by show (0 : Int) ≤ j; omega, hj, hij, p0, p1, q0, q1⟩
        have I' := I9.snoc hr rfl rfl
        refine ⟨as ++ [b], rs ++ [⟨i, j, pay, late⟩], _, _, _, rfl, E24.fr l0, hT.fr E24 (T23.mono e24) l0, by rw [upd_same]; simp, ?_, by simpa using I'⟩
        have hR24 := hR9.mono (((T9.tex E23).trans (HK.tex e24)).trans tx25)
        refine ⟨by simp [hR24.len], fun k c r hc hr' => ?_⟩
        by_cases q : k < as.length
        · rw [List.getElem?_append_left q] at hc
          rw [List.getElem?_append_left (by rw [← hR24.len]; exact q)] at hr'
          exact hR24.at_ k c r hc hr'
        · have hk : k = as.length := by
            have := (List.getElem?_eq_some_iff.mp hc).1
            simp at this; omega
          subst hk
          rw [List.getElem?_append_right (Nat.le_refl _)] at hc
          rw [hR24.len, List.getElem?_append_right (Nat.le_refl _)] at hr'
          simp at hc hr'
          subst hc hr'
          exact tx25 _ _ hb
      · exact skip H13 ((((ExB.of e10).trans e11).trans (ExB.of e12)).trans (ExB.of e13)) ((t11.mono e12).mono e13) x7 x8
    · rintro σ' H9 ⟨as, rs, x6, x7, x8, rfl, E9, T9, hl9, hR9, I9⟩
      rw [Int.toNat_of_nonneg (by omega)] at I9
      exact ⟨as, rs, _, _, _, _, rfl, E9, T9, hl9, hR9, by have := I9.row; simpa using this⟩
  · rintro σ' H8 ⟨as, rs, x5, x6, x7, x8, rfl, E8, T8, hl8, hR8, I8⟩
    have len8 : as.length ≤ 144 := by rw [hR8.len]; exact I8.few n1 (by omega)
    refine s_retP (evp_tup2U (ev_var rfl) (eu_tupOf' (ev_var rfl) hl8)) fun v H9 e9 r => ?_
    obtain ⟨p, q, rfl, hp, hq⟩ := r
    exact k _ H9 (E8.trans (ExB.of e9)) (T8.mono e9) ⟨p, ⟨n, rs⟩, rfl, ⟨q, as, hp, hq, hR8.mono (HK.tex e9)⟩, ⟨n1, (show n ≤ 12 by omega), I8.ok, I8.up⟩, nm⟩
end
end HK

/-! part HLA -/
/-! The law's own functions: trees, reached places. -/
namespace HK
open PySem PySem.Spec PyProof.Rows L2 Evl
open C8 (Cal Met Mak pe_c pe_mk pe_mt pe_mt0 pe_gc fnScope_by)
open LamX (ExtN)
set_option hygiene false in
local macro_rules | `(tactic| walk_at "len") => `(tactic| (intro vs H Q E h; first
  | (obtain ⟨rfl, _⟩ := h; rfl)
  | (obtain ⟨_, rfl, _⟩ := h; rfl)
  | (obtain ⟨_, _, rfl, _⟩ := h; rfl)
  | (obtain ⟨_, _, _, rfl, _⟩ := h; rfl)
  | (obtain ⟨_, _, _, _, rfl, _⟩ := h; rfl)
  | (obtain ⟨_, _, _, _, _, rfl, _⟩ := h; rfl)
  | (obtain ⟨_, _, _, _, _, _, rfl, _⟩ := h; rfl)
  | (obtain ⟨_, _, _, _, _, _, _, rfl, _⟩ := h; rfl)
  | (obtain ⟨_, _, _, _, _, _, _, _, rfl, _⟩ := h; rfl)
  | (obtain ⟨_, _, _, _, _, _, _, _, _, rfl, _⟩ := h; rfl)
  | (obtain ⟨_, _, _, _, _, _, _, _, _, _, rfl, _⟩ := h; rfl)
  | (obtain ⟨_, _, _, _, _, _, _, _, _, _, _, rfl, _⟩ := h; rfl)
  | (obtain ⟨_, _, _, _, _, _, _, _, _, _, _, _, rfl, _⟩ := h; rfl)
  | (obtain ⟨_, _, _, _, _, _, _, _, _, _, _, _, _, rfl, _⟩ := h; rfl)
  | (obtain ⟨_, _, _, _, _, _, _, _, _, _, _, _, _, _, rfl, _⟩ := h; rfl)
  | (obtain ⟨_, _, _, _, _, _, _, _, _, _, _, _, _, _, _, rfl, _⟩ := h; rfl)
  | (obtain ⟨_, _, _, _, _, _, _, _, _, _, _, _, _, _, _, _, rfl, _⟩ := h; rfl)
  | (obtain ⟨_, _, _, _, _, _, _, _, _, _, _, _, _, _, _, _, _, rfl, _⟩ := h; rfl)
  | (obtain ⟨_, _, _, _, _, _, _, _, _, _, _, _, _, _, _, _, _, _, rfl, _⟩ := h; rfl)
  | (obtain ⟨_, _, _, _, _, _, _, _, _, _, _, _, _, _, _, _, _, _, _, rfl, _⟩ := h; rfl)
  | (obtain ⟨_, _, _, _, _, _, _, _, _, _, _, _, _, _, _, _, _, _, _, _, rfl, _⟩ := h; rfl)
  | (obtain ⟨_, _, _, _, _, _, _, _, _, _, _, _, _, _, _, _, _, _, _, _, _, rfl, _⟩ := h; rfl)
  | (obtain ⟨_, _, _, _, _, _, _, _, _, _, _, _, _, _, _, _, _, _, _, _, _, _, rfl, _⟩ := h; rfl)
  | (obtain ⟨_, _, _, _, _, _, _, _, _, _, _, _, _, _, _, _, _, _, _, _, _, _, _, rfl, _⟩ := h; rfl)
  | (obtain ⟨_, _, _, _, _, _, _, _, _, _, _, _, _, _, _, _, _, _, _, _, _, _, _, _, rfl, _⟩ := h; rfl)
  | (obtain ⟨_, _, _, _, _, _, _, _, _, _, _, _, _, _, _, _, _, _, _, _, _, _, _, _, _, rfl, _⟩ := h; rfl)))

section
variable {P : Program} {w : World} {K : PySem.W.Frag} {mg : Str → Option Value} {base : Heap}
theorem ev_eqUU {σ : L2.St} {H : Hp} {ta tb : TE} {l m : List Int} (h1 : EvU ta σ H (l.map V.int)) (h2 : EvU tb σ H (m.map V.int)) : Ev (tOp (rEqD K) ta tb) σ H (.bl (decide (l = m))) := fun H1 e Q q =>
  h1 H1 e _ fun p H2 hp e2 hh => h2 H2 (e.trans e2) _ fun p2 H3 hp2 e3 h3 => rv_eqT (e3 _ _ hh) h3 H3 (Ex.refl H3) Q fun H4 e4 => q H4 ((e2.trans e3).trans e4)
theorem rdV_map (r : Road) : rdV r = [r.i, r.j, r.p, r.l].map V.int := rfl
def spLRoad : Sp := fun vs H Q _ => ∃ (a : Addr) (N : Net) (i j : Int), vs = [.ref a, .int i, .int j] ∧ NetAt H a N ∧ RetP (fun v _ => decide (v = .non) = (N.road i j).isNone) H Q
abbrev s_law_b_road : Stmt := top 51
abbrev N_law_b_road : List Str := ["net", "i", "j", "road"]
theorem sc_law_b_road : FnScope N_law_b_road ["net", "i", "j"] (defScope s_law_b_road) := fnScope_by (by decide +kernel)
theorem ok_law_b_road (F : DefAt K mg "_law_b_road" s_law_b_road ["net", "i", "j"]) (T : Txt K mg) : Cal P w K mg base 1 "_law_b_road" spLRoad [] := by
  refine F.cal sc_law_b_road (by walk_at "len") (fun f0 cdv A outer s0 H vs Q X hr h => ?_)
  obtain ⟨a, N, i, j, rfl, hN, k⟩ := h
  have nd := sc_law_b_road.nd
  refine ⟨_, (pss_cons (ps_for PassesOwn.never rfl (pi_tupK (K := K) rfl (pe_ix (ixT (K := K) rfl) (pv 0) pe_int (fun _ _ => rfl))) (pg_name (i := 3) nd rfl (Or.inl rfl)) (pss_one (ps_if (pt_cmpR (eqK (K := K) rfl hr.units) (pe_slice (slK (K := K) rfl) (pv 3) po_none (po_some pe_int)) (pe_tup (pa_cons (pv 1) (pa_cons (pv 2) pa_nil))) (nomark _)) (pss_one (ps_ret (pv 3))) pss_nil)))
      (pss_one (ps_ret pe_non))), ?_⟩
  obtain ⟨t, as, ha, ht, hR⟩ := hN.ex
  refine q_forTW (ev_ixT (i := 1) (v := .ref t) (ev_var rfl) ev_c ha rfl) ht (fun n σ H' => Ex H H' ∧ (∃ x, σ = [some (.ref a), some (.int i), some (.int j), x]) ∧ ∀ k r', k < n → N.rs[k]? = some r' → ¬ (r'.i = i ∧ r'.j = j))
    (fun H1 e => ⟨e, ⟨_, rfl⟩, fun k _ hk => absurd hk (Nat.not_lt_zero k)⟩) (fun n σ H' _ p => tex p.1) ?_ ?_
  · rintro n x σ H' hx ⟨e, ⟨y, rfl⟩, hno⟩
    obtain ⟨b, r', rfl, hb1, hb2, hb3⟩ := hR.get hx
    have hb := e _ _ hb3
    show (tIfS _ _ _ : TS) _ ([some (.ref a), some (.int i), some (.int j), some (.ref b)] : L2.St) H'
    have eu := eu_sl (K := K) (σ := [some (.ref a), some (.int i), some (.int j), some (.ref b)]) (te := tVar 3) (ev_var rfl) eo_none (eo_some (te := tC (.int 2)) (i := 2) ev_c) hb (fun z => by
      have := z.2
      simp [rdV, HT.sIx] at this)
    have ec : cutV (rdV r') none (some 2) = [r'.i, r'.j].map V.int := rfl
    rw [ec] at eu
    refine s_when (et_test (ev_eqUU (m := [i, j]) eu (eu_tup (ea_cons (ev_var rfl) (ea_cons (ev_var rfl) ea_nil)) (by show 2 ≤ 100000; decide)))) (fun q H1 e1 => ?_) (fun q H1 e1 => ?_)
    · have q' : r'.i = i ∧ r'.j = j := by simpa using q
      refine s_ret (ev_var rfl) fun H2 e2 => k _ H2 ((e.trans e1).trans e2) ?_
      obtain ⟨r2, hr2⟩ := road_has ⟨r', List.mem_of_getElem? hb2, q'.1, q'.2⟩
      rw [hr2]; rfl
    · refine ⟨e.trans e1, ⟨_, rfl⟩, fun m r2 hm hr2 => ?_⟩
      rcases Nat.lt_or_ge m n with h | h
      · exact hno m r2 h hr2
      · have : m = n := by omega
        subst this
        rw [hb2] at hr2; cases hr2
        simpa using q
  · rintro σ H' ⟨e, ⟨y, rfl⟩, hno⟩
    refine s_ret ev_c fun H2 e2 => k _ H2 (e.trans e2) ?_
    have : N.road i j = none := by
      unfold Net.road
      rw [List.find?_eq_none]
      intro r hr
      obtain ⟨m, hm, em⟩ := List.getElem_of_mem hr
      have := hno m r (by rw [List.length_map, hR.len]; exact hm) (by rw [List.getElem?_eq_getElem hm, em])
      simpa using this
    rw [this]; rfl
/-! ### is_tree -/
theorem iterG {d : D} {root : Int} : ∀ (m : Nat) (x : Int), iter (fun x => if x = root then x else par d x) m x = root → Home d root x
  | 0, x, h => ⟨0, h⟩
  | m + 1, x, h => by
    have h' : iter (fun x => if x = root then x else par d x) m (if x = root then x else par d x) = root := h
    by_cases q : x = root
    · exact ⟨0, q⟩
    · rw [if_neg q] at h'
      obtain ⟨k, hk⟩ := iterG m _ h'
      exact ⟨k + 1, hk⟩
theorem iterP {d : D} {root : Int} (hr : root ∉ keys d) (m : Nat) (x : Int) : iter (fun x => if x = root then x else par d x) m x = iter (par d) m x := by
  have : (fun x => if x = root then x else par d x) = par d := by
    funext x
    by_cases q : x = root
    · subst q; rw [if_pos rfl, par_out hr]
    · rw [if_neg q]
  rw [this]
def spIsTree : Sp := fun vs H Q _ => ∃ (a b : Addr) (N : Net) (root : Int) (d : D), vs = [.ref a, .int root, .ref b] ∧ NetAt H a N ∧ H b = some (.dK (dI d)) ∧ (keys d).Nodup ∧ d.length ≤ 1000 ∧ RetP (fun v _ => ∃ t : Bool, v = .bl t ∧ (t = true ↔ Tree N root d)) H Q
abbrev s_law_b_is_tree : Stmt := top 53
abbrev N_law_b_is_tree : List Str := ["net", "root", "ahead", "place", "here", "turn"]
theorem sc_law_b_is_tree : FnScope N_law_b_is_tree ["net", "root", "ahead"] (defScope s_law_b_is_tree) := fnScope_by (by decide +kernel)
theorem ok_law_b_is_tree (F : DefAt K mg "_law_b_is_tree" s_law_b_is_tree ["net", "root", "ahead"]) (T : Txt K mg) (c__law_b_road : Cal P w K mg base 1 "_law_b_road" spLRoad []) : Cal P w K mg base 2 "_law_b_is_tree" spIsTree [] := by
  refine F.cal sc_law_b_is_tree (by walk_at "len") (fun f0 cdv A outer s0 H vs Q X hr h => ?_)
  obtain ⟨a, b, N, root, d, rfl, hN, hb, hnd, hdl, k⟩ := h
  have nd := sc_law_b_is_tree.nd
  refine ⟨_, (pss_cons (ps_lock (ps_for PassesOwn.never rfl (pi_keys (pv 2)) (pg_name (i := 3) nd rfl (Or.inl rfl)) (pss_cons (ps_if (PW.pt (pw_or (pt_cmpR op_eq (pv 3) (pv 1) (nomark _)) (pw_or1 (pt_cmp (pc_isN (pe_c c__law_b_road hr (by decide) (by rfl) (pa_cons (pv 0) (pa_cons (pe_dget (hu_of hr) (pv 2) (pv 3) (fun _ _ => rfl)) (pa_cons (pv 3) pa_nil))))))))) (pss_one (ps_ret pe_bl)) pss_nil)
      (pss_cons (ps_set (i := 4) nd rfl (Or.inl rfl) (pv 3))
      (pss_cons (ps_for PassesOwn.never rfl (pi_range1 (by rfl) T.g_range (pa_cons (pe_op op_add (pe_callB call_lenR (by rfl) T.g_len PySem.boot_len (pa_cons (pv 2) pa_nil)) pe_int) pa_nil)) (pg_name (i := 5) nd rfl (Or.inl rfl)) (pss_one (ps_if (PW.pt (pw_and (pt_cmpR op_ne (pv 4) (pv 1) (nomark _)) (pw_and1 (pt_cmp (pc_din (hu_of hr) (pv 4) (pv 2)) rfl)))) (pss_one (ps_set (i := 4) nd rfl (Or.inl rfl) (pe_dget (hu_of hr) (pv 2) (pv 4) (fun _ _ => rfl)))) pss_nil)))
      (pss_one (ps_if (pt_cmpR op_ne (pv 4) (pv 1) (nomark _)) (pss_one (ps_ret pe_bl)) pss_nil)))))))
      (pss_one (ps_ret pe_bl))), ?_⟩
  have back : ∀ (od : Obj) (H' : Hp), Ex (upd H b (.frz od (.dK (dI d)))) H' → Ex H (upd H' b (.dK (dI d))) := fun od H' e => lock_back hb e
  refine q_forKW hb (fun H1 => ev_var rfl) (fun od n σ H' => ∃ x3 x4 x5, σ = [some (.ref a), some (.int root), some (.ref b), x3, x4, x5] ∧ Ex (upd H b (.frz od (.dK (dI d)))) H' ∧ ∀ e ∈ d.take n, e.1 ≠ root ∧ N.has e.2 e.1 ∧ Home d root e.1)
    (fun od H1 e1 => ⟨none, none, none, rfl, e1, fun e he => by simp at he⟩) (fun od n σ H' _ p => by obtain ⟨_, _, _, _, e, _⟩ := p; exact e _ _ upd_same) ?_ ?_
  · rintro od n kk v σ H3 hk ⟨x3, x4, x5, rfl, e3, hdo⟩
    obtain ⟨e, he, hm⟩ := dI_get (List.getElem?_eq_some_iff.mp hk).1
    have hkk : kk = Sum.inl e.1 := by
      unfold dI at hk; rw [List.getElem?_map, he] at hk; cases hk; rfl
    subst hkk
    have hget : get d e.1 = some e.2 := mem_get hnd hm
    have tl : TEx H (upd H b (.frz od (.dK (dI d)))) := lock_tex hb trivial
    have N3 : NetAt H3 a N := (hN.mono tl).mono (tex e3)
    have b3 : H3 b = some (.frz od (.dK (dI d))) := e3 _ _ upd_same
    have fin : ∀ (t : Bool) (H4 : Hp), Ex H3 H4 → (t = true ↔ Tree N root d) → H4 b = some (.frz od (.dK (dI d))) ∧ Q (.bl t) (upd H4 b (.dK (dI d))) := fun t H4 e4 ht => ⟨e4 _ _ b3, k _ _ (back od H4 (e3.trans e4)) ⟨t, rfl, ht⟩⟩
    show (tSeq (tIfS _ _ _) _ : TS) _ ([some (.ref a), some (.int root), some (.ref b), some (.int e.1), x4, x5] : L2.St) H3
    have hroad : EvP (tCall spLRoad [] C8.E0 (tCons (tVar 0) (tCons (tDGet (tVar 2) (tVar 3)) (tCons (tVar 3) tNil)))) ([some (.ref a), some (.int root), some (.ref b), some (.int e.1), x4, x5] : L2.St) H3 (fun v _ => decide (v = .non) = (N.road e.2 e.1).isNone) :=
      evp_call (ea_cons (ev_var rfl) (ea_cons (ev_is (w := .int e.2) (ev_dgetI (d := d) (k := e.1) (ev_var rfl) (ev_var rfl) (.inr ⟨od, b3⟩) (by rw [hget]; rfl)) (by rw [hget]; rfl)) (ea_cons (ev_var rfl) ea_nil))) fun H4 e4 Q q => ⟨a, N, e.2, e.1, rfl, N3.mono (tex e4), q⟩
    have hbad : EvT (tOr (tTest (tOp rEq (tVar 3) (tVar 1))) (tB (tIsN (tCall spLRoad [] C8.E0 (tCons (tVar 0) (tCons (tDGet (tVar 2) (tVar 3)) (tCons (tVar 3) tNil))))))) ([some (.ref a), some (.int root), some (.ref b), some (.int e.1), x4, x5] : L2.St) H3 (decide (e.1 = root) || (N.road e.2 e.1).isNone) := by
      have h1 : EvT (tTest (tOp rEq (tVar 3) (tVar 1))) ([some (.ref a), some (.int root), some (.ref b), some (.int e.1), x4, x5] : L2.St) H3 (decide (e.1 = root)) := by
        have := et_test (ev_op (σ := ([some (.ref a), some (.int root), some (.ref b), some (.int e.1), x4, x5] : L2.St)) (H := H3) (ta := tVar 3) (tb := tVar 1) (ev_var (v := .int e.1) rfl) (ev_var (v := .int root) rfl) (rv_eq rfl))
        simpa using this
      refine et_or h1 fun _ => ?_
      exact fun H4 e4 Q q => hroad H4 e4 _ fun v H5 e5 r => ⟨_, rfl, by rw [r]; exact q H5 e5⟩
    refine q_when hbad (fun q H4 e4 => ?_) (fun q H4 e4 => ?_)
    · refine s_ret ev_c fun H5 e5 => fin false H5 (e4.trans e5) ⟨fun z => (nomatch z), fun Tr => ?_⟩
      exfalso
      rcases Bool.or_eq_true_iff.mp q with z | z
      · have z' : e.1 = root := by simpa using z
        exact Tr.rt (by rw [← z']; exact get_key hget)
      · obtain ⟨r, hr⟩ := road_has (Tr.rd e hm)
        rw [hr] at z; cases z
    · have q1 : e.1 ≠ root := by
        intro z; simp [z] at q
      have q2 : N.has e.2 e.1 := by
        cases hz : N.road e.2 e.1 with
        | none => rw [hz] at q; simp at q
        | some r => obtain ⟨h1, h2, h3⟩ := road_some hz; exact ⟨r, h1, h2, h3⟩
      refine q_asg (ev_var rfl) fun H5 e5 => ?_
      have b5 := e5 _ _ (e4 _ _ b3)
      refine q_forR1 (n := (d.length : Int) + 1) (ea_cons (ev_op (ev_is (ev_lenD (ev_var rfl) (.inr ⟨od, b5⟩)) (by rw [dI_len])) ev_c rv_I0) ea_nil) ⟨by omega, by omega⟩ (fun m σ' H' => ∃ x5, σ' = [some (.ref a), some (.int root), some (.ref b), some (.int e.1), some (.int (iter (fun x => if x = root then x else par d x) m e.1)), x5] ∧ Ex H5 H')
        (fun H6 e6 => ⟨x5, rfl, e6⟩) ?_ ?_
      · rintro m σ' H6 hm' ⟨x5, rfl, e6⟩
        have b6 := e6 _ _ b5
        rw [iter_succ']
        generalize iter (fun x => if x = root then x else par d x) m e.1 = y
        show (tIfS _ _ _ : TS) _ ([some (.ref a), some (.int root), some (.ref b), some (.int e.1), some (.int y), some (.int (m : Int))] : L2.St) H6
        refine s_when (et_and (et_test (ev_op (ev_var rfl) (ev_var rfl) (rv_ne rfl))) fun _ => et_B (ev_dinI (ev_var rfl) (ev_var rfl) (.inr ⟨od, b6⟩))) (fun q H7 e7 => ?_) (fun q H7 e7 => ?_)
        · have p1 : ¬ y = root := by have := (Bool.and_eq_true_iff.mp q).1; simpa using this
          have p2 := (Bool.and_eq_true_iff.mp q).2
          obtain ⟨z, hz⟩ := Option.isSome_iff_exists.mp p2
          refine s_asg (ev_is (w := .int z) (ev_dgetI (d := d) (k := y) (ev_var rfl) (ev_var rfl) (.inr ⟨od, e7 _ _ b6⟩) p2) (by rw [hz]; rfl)) fun H8 e8 => ⟨some (.int (m : Int)), ?_, (e6.trans e7).trans e8⟩
          simp [p1, par_get hz]
        · refine ⟨some (.int (m : Int)), ?_, e6.trans e7⟩
          by_cases p1 : y = root
          · simp [p1]
          · have : get d y = none := by
              cases hz : get d y with
              | none => rfl
              | some z => rw [hz] at q; simp [p1] at q
            simp [p1, par_out (get_none.mp this)]
      · rintro σ' H6 ⟨x5, rfl, e6⟩
        have hnn : ((d.length : Int) + 1).toNat = d.length + 1 := by omega
        rw [hnn]
        have E6 := ((e4.trans e5).trans e6)
        refine s_when (et_test (ev_op (ev_var rfl) (ev_var rfl) (rv_ne rfl))) (fun q H7 e7 => ?_) (fun q H7 e7 => ?_)
        · refine s_ret ev_c fun H8 e8 => fin false H8 ((E6.trans e7).trans e8) ⟨fun z => (nomatch z), fun Tr => ?_⟩
          exfalso
          rw [iterP Tr.rt] at q
          have h1 := home_len Tr.rt (Tr.hm e.1 (get_key hget))
          rw [iter_add, h1] at q
          have : iter (par d) 1 root = root := par_out Tr.rt
          simp [this] at q
        · have hh : iter (fun x => if x = root then x else par d x) (d.length + 1) e.1 = root := by simpa using q
          refine ⟨_, _, _, rfl, (e3.trans E6).trans e7, fun e' he' => ?_⟩
          rw [List.take_succ, he] at he'
          rcases List.mem_append.mp he' with he' | he'
          · exact hdo e' he'
          · have : e' = e := by simpa using he'
            rw [this]; exact ⟨q1, q2, iterG _ _ hh⟩
  · rintro od σ H3 ⟨x3, x4, x5, rfl, e3, hdo⟩
    rw [dI_len, List.take_length] at hdo
    refine s_ret ev_c fun H4 e4 => k _ H4 ((back od H3 e3).trans e4) ⟨true, rfl, fun _ => ?_, fun _ => rfl⟩
    refine ⟨hnd, fun z => ?_, fun e he => (hdo e he).2.1, fun x hx => ?_⟩
    · obtain ⟨v, hv⟩ := key_get z
      exact (hdo _ (get_mem hv)).1 rfl
    · obtain ⟨v, hv⟩ := key_get hx
      exact (hdo _ (get_mem hv)).2.2
/-! ### reached -/
def stepS (N : Net) (S : List Int) (x : Int) : Prop := x ∈ S ∨ ∃ r ∈ N.rs, r.i ∈ S ∧ r.j = x
def Closed (N : Net) (S : List Int) : Prop := ∀ r ∈ N.rs, r.i ∈ S → r.j ∈ S
theorem up_ext {l m : List Int} (hl : l.Pairwise (· < ·)) (hm : m.Pairwise (· < ·)) (h : ∀ x, x ∈ l ↔ x ∈ m) : l = m := by
  have p : l.Perm m := (List.perm_ext_iff_of_nodup (List.Pairwise.imp (fun h => by omega) hl) (List.Pairwise.imp (fun h => by omega) hm)).mpr h
  exact p.eq_of_pairwise (le := fun a b : Int => a < b) (fun a b _ _ h1 h2 => by omega) hl hm
def spReached (K : PySem.W.Frag) : Sp := fun vs H Q _ => ∃ (a : Addr) (N : Net) (root : Int), vs = [.ref a, .int root] ∧ NetAt H a N ∧ N.Ok ∧ 0 ≤ root ∧ root < N.n ∧ RetP (fun v H2 => ∃ (l : Addr) (S : List Int), v = .ref l ∧ H l = none ∧ H2 l = some (.lst (S.map V.int)) ∧ S.Pairwise (· < ·) ∧ ∀ x, x ∈ S ↔ Reach N root x) H Q
abbrev s_law_b_reached : Stmt := top 54
abbrev N_law_b_reached : List Str := ["net", "root", "there", "turn", "i", "j", "pay", "late"]
theorem sc_law_b_reached : FnScope N_law_b_reached ["net", "root"] (defScope s_law_b_reached) := fnScope_by (by decide +kernel)
theorem ok_law_b_reached (F : DefAt K mg "_law_b_reached" s_law_b_reached ["net", "root"]) (T : Txt K mg) : Cal P w K mg base 1 "_law_b_reached" (spReached K) [] := by
  refine F.cal sc_law_b_reached (by walk_at "len") (fun f0 cdv A outer s0 H vs Q X hr h => ?_)
  obtain ⟨a, N, root, rfl, hN, hok, r0, r1, k⟩ := h
  have nd := sc_law_b_reached.nd
  refine ⟨_, (pss_cons (ps_set (i := 2) nd rfl (Or.inr rfl) (pe_lst (pa_cons (pv 1) pa_nil)))
      (pss_cons (ps_for PassesOwn.never rfl (pi_range1 (by rfl) T.g_range (pa_cons (pe_ix (ixT (K := K) rfl) (pv 0) pe_int (fun _ _ => rfl)) pa_nil)) (pg_name (i := 3) nd rfl (Or.inl rfl)) (pss_one (ps_set (i := 2) nd rfl (Or.inr rfl) (pe_sortedSet (by rfl) T.g_sorted (by rfl) T.g_set (pe_op op_cat (pv 2) (pe_lc (own := [("i", 4), ("j", 5), ("pay", 6), ("late", 7)]) (g := (gTup K 4 (gCons (gName 4) (gCons (gName 5) (gCons (gName 6) (gCons (gName 7) gNil)))))) rfl nd (pi_tupK (K := K) rfl (pe_ix (ixT (K := K) rfl) (pv 0) pe_int (fun _ _ => rfl))) (blkOk_by (own := [("i", 4), ("j", 5), ("pay", 6), ("late", 7)]) (N := N_law_b_reached) (sc := defScope s_law_b_reached) (by decide +kernel)) (fun _ _ _ _ _ => (pg_tupK (K := K) rfl rfl (pgs_cons (pg_name (i := 4) nd rfl (Or.inl rfl)) (pgs_cons (pg_name (i := 5) nd rfl (Or.inl rfl)) (pgs_cons (pg_name (i := 6) nd rfl (Or.inl rfl)) (pgs_cons (pg_name (i := 7) nd rfl (Or.inl rfl)) pgs_nil)))))) (fun _ _ _ _ _ => (pts_one (pt_cmpR (inS (K := K) rfl) (pv 4) (pv 2) rfl))) (fun _ _ _ _ _ => (pv 5))))))))
      (pss_one (ps_ret (pv 2))))), ?_⟩
  obtain ⟨t, as, ha, ht, hR⟩ := hN.ex
  have n12 := hok.n12
  have n1 := hok.n1
  have lenR : ∀ S : List Int, S.Nodup → (∀ x ∈ S, Reach N root x) → (S.length : Int) ≤ N.n := fun S h1 h2 => by
    have := len_range h1 fun x hx => reach_range hok r0 r1 (h2 x hx)
    omega
  have aslen : as.length ≤ 144 := by rw [hR.len]; exact few_roads hok
  refine q_asgL (el_lst (ea_cons (ev_var rfl) ea_nil) (by show 1 ≤ 100000; decide)) fun l0 H1 l00 e1 hl0 => ?_
  refine q_forR1 (n := N.n) (ea_cons (ev_ixT (i := 0) (v := .int N.n) (ev_var rfl) ev_c (e1 _ _ ha) rfl) ea_nil) ⟨by omega, by omega⟩ (fun m σ' H' => ∃ (l : Addr) (S : List Int) (x3 : Option V), σ' = [some (.ref a), some (.int root), some (.ref l), x3, none, none, none, none] ∧ Ex H H' ∧ H l = none ∧ H' l = some (.lst (S.map V.int)) ∧ S.Pairwise (· < ·) ∧ root ∈ S ∧ (∀ x ∈ S, Reach N root x) ∧ (Closed N S ∨ m + 1 ≤ S.length))
    (fun H2 e2 => ⟨l0, [root], none, rfl, e1.trans e2, l00, e2 _ _ hl0, by simp, by simp, fun x hx => by rw [List.mem_singleton.mp hx]; exact .root, .inr (by simp)⟩) ?_ ?_
  · rintro m σ' H2 hm ⟨l, S, x3, rfl, e2, hl00, hl, hup, hroot, hre, hcl⟩
    have nds := nd_of_up hup
    have hlen := lenR S nds hre
    show (tAsg _ _ : TS) _ ([some (.ref a), some (.int root), some (.ref l), some (.int (m : Int)), none, none, none, none] : L2.St) H2
    have hN' : EvN _ ([some (.ref a), some (.int root), some (.ref l), some (.int (m : Int)), none, none, none, none] : L2.St) H2 (as.map V.ref).length _ := lcT (K := K) (tl := tOp (rIxT K) (tVar 0) (tC (.int 1))) (g := gTup K 4 (gCons (gName 4) (gCons (gName 5) (gCons (gName 6) (gCons (gName 7) gNil))))) (t := tTest (tOp (rIn K false) (tVar 4) (tVar 2))) (te := tVar 5) (vs := [4, 5, 6, 7])
      (ev_ixT (i := 1) (v := .ref t) (ev_var rfl) ev_c (e2 _ _ ha) rfl) (e2 _ _ ht) (by rw [List.length_map]; omega) (fun i => decide ((N.rs.getD i rd0).i ∈ S)) _
      (fun i acc H => acc = ((N.rs.take i).filter fun r => decide (r.i ∈ S)).map fun r => V.int r.j) (sets_road (hR.mono (tex e2))) (fun i hi => rfl) (by
        refine ⟨fun i acc H3 H4 e r => r, fun H3 e => rfl, fun i H3 hi e => ?_, fun i acc H3 hi e hf r => ?_, fun i acc H3 hi e hf r => ?_⟩
        · exact et_test (ev_inLI (ev_var rfl) (ev_var rfl) (e _ _ hl))
        · rw [List.length_map, hR.len] at hi
          have g0 : N.rs.getD i rd0 = N.rs[i] := by rw [List.getD_eq_getElem?_getD, List.getElem?_eq_getElem hi]; rfl
          rw [g0] at hf
          refine fun H4 e4 Q q => (ev_var rfl) H4 e4 Q fun H5 e5 => q (.int (N.rs.getD i rd0).j) H5 e5 ?_
          rw [g0]
          have hf' : N.rs[i].i ∈ S := by simpa using hf
          rw [r, List.take_succ, List.getElem?_eq_getElem hi, List.filter_append]
          simp [hf']
        · rw [List.length_map, hR.len] at hi
          have g0 : N.rs.getD i rd0 = N.rs[i] := by rw [List.getD_eq_getElem?_getD, List.getElem?_eq_getElem hi]; rfl
          rw [g0] at hf
          have hf' : ¬ N.rs[i].i ∈ S := by simpa using hf
          rw [r, List.take_succ, List.getElem?_eq_getElem hi, List.filter_append]
          simp [hf'])
    have hC := evp_cat (ta := tVar 2) (ev_var rfl) hN' hl (by rw [List.length_map, List.length_map]; omega) (fun acc H3 H4 e r => r)
    refine s_asgP (R := fun v H4 => ∃ (l : Addr) (S' : List Int), v = .ref l ∧ H l = none ∧ H4 l = some (.lst (S'.map V.int)) ∧ S'.Pairwise (· < ·) ∧ ∀ x, x ∈ S' ↔ (x ∈ S ∨ ∃ r ∈ N.rs, r.i ∈ S ∧ r.j = x)) (fun H3 e3 Q q => hC H3 e3 _ fun v H4 e4 r => ?_) fun v H4 e4 r => ?_
    · obtain ⟨p, acc, rfl, hp0, hp, hpl, hacc⟩ := r
      rw [List.length_map, hR.len, List.take_length] at hacc
      have hxs : S.map V.int ++ acc = (S ++ ((N.rs.filter fun r => decide (r.i ∈ S)).map Road.j)).map V.int := by
        rw [hacc, List.map_append, List.map_map]; rfl
      rw [hxs] at hp
      refine ⟨p, _, rfl, sq_of hp, ?_, ⟨(List.range 12).map fun i : Nat => (i : Int), by simp, fun x hx => ?_⟩, fun out p2 H5 hou hom hp2 e5 h5 => q _ H5 (e4.trans e5) ⟨p2, out, rfl, fresh_back (e2.trans (e3.trans e4)) hp2, h5, hou, fun x => ?_⟩⟩
      · have h1 : (N.rs.filter fun r => decide (r.i ∈ S)).length ≤ N.rs.length := List.length_filter_le _ _
        have h2 := few_roads hok
        simp only [List.length_append, List.length_map]
        omega
      · have hx' : Reach N root x := by
          rcases List.mem_append.mp hx with hx | hx
          · exact hre x hx
          · obtain ⟨r, hr, rfl⟩ := List.mem_map.mp hx
            obtain ⟨h1, h2⟩ := List.mem_filter.mp hr
            exact .step h1 (hre _ (by simpa using h2))
        have := reach_range hok r0 r1 hx'
        exact List.mem_map.mpr ⟨x.toNat, List.mem_range.mpr (by omega), Int.toNat_of_nonneg this.1⟩
      · rw [hom x, List.mem_append, List.mem_map]
        constructor
        · rintro (h | ⟨r, hr, rfl⟩)
          · exact .inl h
          · obtain ⟨h1, h2⟩ := List.mem_filter.mp hr
            exact .inr ⟨r, h1, by simpa using h2, rfl⟩
        · rintro (h | ⟨r, h1, h2, rfl⟩)
          · exact .inl h
          · exact .inr ⟨r, List.mem_filter.mpr ⟨h1, by simpa using h2⟩, rfl⟩
    · obtain ⟨l2, S', rfl, hl20, hl2, hup', hmem⟩ := r
      have hre' : ∀ x ∈ S', Reach N root x := fun x hx => by
        rcases (hmem x).mp hx with h | ⟨r, h1, h2, rfl⟩
        · exact hre x h
        · exact .step h1 (hre _ h2)
      refine ⟨l2, S', _, rfl, e2.trans e4, hl20, hl2, hup', (hmem root).mpr (.inl hroot), hre', ?_⟩
      by_cases c : Closed N S
      · left
        have : S' = S := up_ext hup' hup fun x => by
          rw [hmem x]
          constructor
          · rintro (h | ⟨r, h1, h2, rfl⟩)
            · exact h
            · exact c r h1 h2
          · exact .inl
        rw [this]; exact c
      · right
        have hml : m + 1 ≤ S.length := hcl.resolve_left c
        have : ∃ r ∈ N.rs, r.i ∈ S ∧ r.j ∉ S := by
          apply Classical.byContradiction
          intro z
          apply c
          intro r hr hi
          apply Classical.byContradiction
          intro z2
          exact z ⟨r, hr, hi, z2⟩
        obtain ⟨r, h1, h2, h3⟩ := this
        have := List.Nodup.length_le_of_subset (l₁ := r.j :: S) (l₂ := S') (List.nodup_cons.mpr ⟨h3, nds⟩) fun x hx => by
          rcases List.mem_cons.mp hx with rfl | hx
          · exact (hmem _).mpr (.inr ⟨r, h1, h2, rfl⟩)
          · exact (hmem x).mpr (.inl hx)
        simp only [List.length_cons] at this
        omega
  · rintro σ' H2 ⟨l, S, x3, rfl, e2, hl00, hl, hup, hroot, hre, hcl⟩
    have hc : Closed N S := by
      rcases hcl with h | h
      · exact h
      · exfalso
        have := lenR S (nd_of_up hup) hre
        omega
    refine s_ret (ev_var rfl) fun H3 e3 => k _ H3 (e2.trans e3) ⟨l, S, rfl, hl00, e3 _ _ hl, hup, fun x => ⟨hre x, fun hx => ?_⟩⟩
    induction hx with
    | root => exact hroot
    | step h1 _ ih => exact hc _ h1 ih
end
end HK

/-! part HLB -/
/-! The law's own functions: told, full trees, changed nets, grafts. -/
namespace HK
open PySem PySem.Spec PyProof.Rows L2 Evl
open C8 (Cal Met Mak pe_c pe_mk pe_mt pe_mt0 pe_gc fnScope_by)
open LamX (ExtN)
set_option hygiene false in
local macro_rules | `(tactic| walk_at "len") => `(tactic| (intro vs H Q E h; first
  | (obtain ⟨rfl, _⟩ := h; rfl)
  | (obtain ⟨_, rfl, _⟩ := h; rfl)
  | (obtain ⟨_, _, rfl, _⟩ := h; rfl)
  | (obtain ⟨_, _, _, rfl, _⟩ := h; rfl)
  | (obtain ⟨_, _, _, _, rfl, _⟩ := h; rfl)
  | (obtain ⟨_, _, _, _, _, rfl, _⟩ := h; rfl)
  | (obtain ⟨_, _, _, _, _, _, rfl, _⟩ := h; rfl)
  | (obtain ⟨_, _, _, _, _, _, _, rfl, _⟩ := h; rfl)
  | (obtain ⟨_, _, _, _, _, _, _, _, rfl, _⟩ := h; rfl)
  | (obtain ⟨_, _, _, _, _, _, _, _, _, rfl, _⟩ := h; rfl)
  | (obtain ⟨_, _, _, _, _, _, _, _, _, _, rfl, _⟩ := h; rfl)
  | (obtain ⟨_, _, _, _, _, _, _, _, _, _, _, rfl, _⟩ := h; rfl)
  | (obtain ⟨_, _, _, _, _, _, _, _, _, _, _, _, rfl, _⟩ := h; rfl)
  | (obtain ⟨_, _, _, _, _, _, _, _, _, _, _, _, _, rfl, _⟩ := h; rfl)
  | (obtain ⟨_, _, _, _, _, _, _, _, _, _, _, _, _, _, rfl, _⟩ := h; rfl)
  | (obtain ⟨_, _, _, _, _, _, _, _, _, _, _, _, _, _, _, rfl, _⟩ := h; rfl)
  | (obtain ⟨_, _, _, _, _, _, _, _, _, _, _, _, _, _, _, _, rfl, _⟩ := h; rfl)
  | (obtain ⟨_, _, _, _, _, _, _, _, _, _, _, _, _, _, _, _, _, rfl, _⟩ := h; rfl)
  | (obtain ⟨_, _, _, _, _, _, _, _, _, _, _, _, _, _, _, _, _, _, rfl, _⟩ := h; rfl)
  | (obtain ⟨_, _, _, _, _, _, _, _, _, _, _, _, _, _, _, _, _, _, _, rfl, _⟩ := h; rfl)
  | (obtain ⟨_, _, _, _, _, _, _, _, _, _, _, _, _, _, _, _, _, _, _, _, rfl, _⟩ := h; rfl)
  | (obtain ⟨_, _, _, _, _, _, _, _, _, _, _, _, _, _, _, _, _, _, _, _, _, rfl, _⟩ := h; rfl)
  | (obtain ⟨_, _, _, _, _, _, _, _, _, _, _, _, _, _, _, _, _, _, _, _, _, _, rfl, _⟩ := h; rfl)
  | (obtain ⟨_, _, _, _, _, _, _, _, _, _, _, _, _, _, _, _, _, _, _, _, _, _, _, rfl, _⟩ := h; rfl)
  | (obtain ⟨_, _, _, _, _, _, _, _, _, _, _, _, _, _, _, _, _, _, _, _, _, _, _, _, rfl, _⟩ := h; rfl)
  | (obtain ⟨_, _, _, _, _, _, _, _, _, _, _, _, _, _, _, _, _, _, _, _, _, _, _, _, _, rfl, _⟩ := h; rfl)))

section
variable {P : Program} {w : World} {K : PySem.W.Frag} {mg : Str → Option Value} {base : Heap}
theorem evp_ix {σ : L2.St} {H : Hp} {t : TE} {i : Int} {R0 R : V → Hp → Prop} (h : EvP t σ H R0) (hx : ∀ v H1, R0 v H1 → ∃ a xs u, v = .ref a ∧ H1 a = some (.tup xs) ∧ atI xs i = some u ∧ R u H1) : EvP (tOp (rIxT K) t (tC (.int i))) σ H R := fun H1 e Q q =>
  h H1 e _ fun v H2 e2 r => by
    obtain ⟨a, xs, u, rfl, h1, h2, h3⟩ := hx v H2 r
    exact ⟨a, xs, i, u, rfl, rfl, st_of h1, h2, q u H2 e2 h3⟩
/-! ### told -/
def ToldR (N : Net) (root : Int) (v : V) : Prop := ∃ d, v = .int (cst N d) ∧ Grown N root d ∧ Full N root d ∧ IsMin N root (cst N d)
def spTold : Sp := fun vs H Q _ => ∃ (a : Addr) (N : Net) (root : Int), vs = [.ref a, .int root] ∧ NetAt H a N ∧ N.Ok ∧ 0 ≤ root ∧ root < N.n ∧ RetP (fun v _ => ToldR N root v) H Q
abbrev s_law_b_told : Stmt := top 56
abbrev N_law_b_told : List Str := ["net", "root"]
theorem sc_law_b_told : FnScope N_law_b_told ["net", "root"] (defScope s_law_b_told) := fnScope_by (by decide +kernel)
theorem ok_law_b_told (F : DefAt K mg "_law_b_told" s_law_b_told ["net", "root"]) (T : Txt K mg) (c_price : Cal P w K mg base 6 "price" spPrice []) (c_everywhere : Cal P w K mg base 6 "everywhere" spEverywhere []) : Cal P w K mg base 7 "_law_b_told" spTold [] := by
  refine F.cal sc_law_b_told (by walk_at "len") (fun f0 cdv A outer s0 H vs Q X hr h => ?_)
  obtain ⟨a, N, root, rfl, hN, hok, r0, r1, k⟩ := h
  have nd := sc_law_b_told.nd
  refine ⟨_, (pss_one (ps_ret (pe_c c_price hr (by decide) (by rfl) (pa_cons (pv 0) (pa_cons (pv 1) (pa_cons (pe_ix (ixT (K := K) rfl) (pe_c c_everywhere hr (by decide) (by rfl) (pa_cons (pv 0) (pa_cons (pv 1) pa_nil))) pe_int (fun _ _ => rfl)) pa_nil)))))), ?_⟩
  have he := evp_ix (K := K) (i := 0) (R := fun v H2 => ∃ b d, v = .ref b ∧ H2 b = some (.dK (dI d)) ∧ Grown N root d ∧ Full N root d ∧ IsMin N root (cst N d)) (evp_call (sp := spEverywhere) (E := C8.E0) (σ := ([some (.ref a), some (.int root)] : L2.St)) (H := H) (R := fun v H2 => ∃ t b wv d, v = .ref t ∧ H2 t = some (.tup [.ref b, wv]) ∧ H2 b = some (.dK (dI d)) ∧ Grown N root d ∧ Full N root d ∧ IsMin N root (cst N d))
    (ea_cons (ta := tVar 0) (ev_var rfl) (ea_cons (ta := tVar 1) (ev_var rfl) ea_nil)) fun H1 e1 Q q => ⟨a, root, N, rfl, hN.mono (tex e1), hok, r0, r1, q⟩) (fun v H1 r => by
      obtain ⟨t, b, wv, d, rfl, h1, h2, h3⟩ := r
      exact ⟨t, _, .ref b, rfl, h1, rfl, b, d, rfl, h2, h3⟩)
  refine s_retP (evp_call3 (R := fun v _ => ToldR N root v) (ev_var rfl) (ev_var rfl) he fun v H1 e1 r Q q => ?_) fun v H1 e1 r => k v H1 e1 r
  obtain ⟨b, d, rfl, h1, h2, h3, h4⟩ := r
  have gf := h2.few hok r0 r1
  have := len_keys d
  simp only [List.length_cons] at gf
  exact ⟨a, b, N, root, d, rfl, hN.mono (tex e1), hok, r0, r1, h1, by omega, h3.1, fun H2 e2 => q _ H2 e2 ⟨d, rfl, h2, h3, h4⟩⟩
theorem evp_told {σ : L2.St} {H : Hp} {E : XK} {t1 t2 : TE} {a : Addr} {N : Net} {root : Int} (h1 : Ev t1 σ H (.ref a)) (h2 : Ev t2 σ H (.int root)) (hN : NetAt H a N) (ok : N.Ok) (r0 : 0 ≤ root) (r1 : root < N.n) : EvP (tCall spTold [] E (tCons t1 (tCons t2 tNil))) σ H (fun v _ => ToldR N root v) :=
  evp_call (ea_cons h1 (ea_cons h2 ea_nil)) fun H1 e1 Q q => ⟨a, N, root, rfl, hN.mono (tex e1), ok, r0, r1, q⟩
/-! ### full -/
theorem dtups_lay : ∀ l : List (List Int), PyData.canLayAll0 (l.map dTup) = true
  | [] => by simp [PyData.canLayAll0]
  | k :: l => by
    rw [List.map_cons, PyData.canLayAll0, dtups_lay l]
    simp [dTup, PyData.canLay0, lay_ints]
theorem dtups_depth : ∀ l : List (List Int), PyData.depthAll (l.map dTup) ≤ 2
  | [] => by simp [PyData.depthAll]
  | k :: l => by
    rw [List.map_cons, PyData.depthAll]
    have := dtups_depth l
    have : (dTup k).depth ≤ 2 := by
      unfold dTup
      rw [PyData.depth, PySem.W.depth_ints]
      decide
    omega
theorem dtups_shaped (l : List (List Int)) : SeqAt.shaped (.list (l.map dTup)) = true := by
  show ((PyData.list (l.map dTup)).canLay0 && decide ((PyData.list (l.map dTup)).depth ≤ 64)) = true
  rw [Bool.and_eq_true]
  refine ⟨by simp only [PyData.canLay0]; exact dtups_lay l, decide_eq_true ?_⟩
  have := dtups_depth l
  simp only [PyData.depth]; omega
theorem dp_tups {H : Hp} : ∀ {ts : List TupL}, TupsI H ts → DpAll K H (refL ts) ((ts.map (·.2)).map dTup)
  | [], _ => .nil
  | t :: ts, h => .cons (dp_tup (h t (List.mem_cons_self ..))) (dp_tups fun u hu => h u (List.mem_cons_of_mem _ hu))
theorem ev_neTups {σ : L2.St} {H : Hp} {t1 : TE} {l : Addr} {ts : List TupL} (h1 : Ev t1 σ H (.ref l)) (hl : H l = some (.lst (refL ts))) (hr : TupsI H ts) : Ev (tOp (rNeD K) t1 (tLst tNil)) σ H (.bl (!ts.isEmpty)) := fun H1 e Q q =>
  h1 H1 e _ fun H2 e2 => el_lst ea_nil (Nat.zero_le _) H2 (e.trans e2) _ fun p H3 hp e3 h3 =>
    ⟨.list ((ts.map (·.2)).map dTup), .list [], .lst (sq_of (((e.trans e2).trans e3) _ _ hl)) (dp_tups (hr.mono (tex ((e.trans e2).trans e3)))), .lst (sq_of h3) .nil, dtups_shaped _, lay_nil, by
      have : PyData.eqv (.list ((ts.map (·.2)).map dTup)) (.list []) = ts.isEmpty := by
        cases ts <;> simp [PyData.eqv, PyData.eqvAll]
      rw [this]; exact q H3 (e2.trans e3)⟩
/-- the roads that lead out of a set, with their addresses -/
def outs (S : List Int) (ars : List (Addr × Road)) : List (Addr × Road) := ars.filter fun e => decide (e.2.i ∈ S) && !decide (e.2.j ∈ S)
theorem roads_zip {H : Hp} {as : List Addr} {rs : List Road} (h : RoadsAt H as rs) : ∃ ars : List (Addr × Road), as = ars.map (·.1) ∧ rs = ars.map (·.2) ∧ ∀ e ∈ ars, H e.1 = some (.tup (rdV e.2)) := by
  refine ⟨as.zip rs, ?_, ?_, fun e he => ?_⟩
  · rw [List.map_fst_zip (by rw [h.len]; exact Nat.le_refl _)]
  · rw [List.map_snd_zip (by rw [h.len]; exact Nat.le_refl _)]
  · obtain ⟨i, hi, ei⟩ := List.getElem_of_mem he
    rw [List.length_zip] at hi
    have hi1 : i < as.length := by omega
    have hi2 : i < rs.length := by omega
    have : e = (as[i], rs[i]) := by rw [← ei]; simp
    rw [this]
    exact h.at_ i _ _ (List.getElem?_eq_getElem hi1) (List.getElem?_eq_getElem hi2)
def rdI (r : Road) : List Int := [r.i, r.j, r.p, r.l]
def outT (es : List (Addr × Road)) : List TupL := es.map fun e => (e.1, rdI e.2)
/-- [road for road in net[1] if road[0] in there and road[1] not in there] -/
theorem evn_outs {H : Hp} {tp x4 : V} {ca ct cl : Addr} {N : Net} {ars : List (Addr × Road)} {S : List Int} {x5 x6 : Option V} {root : Int} (ha : H ca = some (.tup [.int N.n, .ref ct])) (ht : H ct = some (.tup ((ars.map (·.1)).map V.ref))) (har : ∀ e ∈ ars, H e.1 = some (.tup (rdV e.2))) (hl : H cl = some (.lst (S.map V.int))) (hlen : ars.length ≤ 1000) :
    EvL (tLc (iTup K (tOp (rIxT K) (tVar 1) (tC (.int 1)))) (gName 6) (tAnd (tTest (tOp (rIn K false) (tOp (rIxT K) (tVar 6) (tC (.int 0))) (tVar 3))) (tTest (tOp (rIn K true) (tOp (rIxT K) (tVar 6) (tC (.int 1))) (tVar 3)))) (tVar 6) [6]) ([some tp, some (.ref ca), some (.int root), some (.ref cl), some x4, x5, x6] : L2.St) H (refL (outT (outs S ars))) := by
  refine EvN.l (lcT (σ := ([some tp, some (.ref ca), some (.int root), some (.ref cl), some x4, x5, x6] : L2.St)) (H := H) (ev_ixT (i := 1) (v := .ref ct) (ev_var rfl) ev_c ha rfl) ht (by simp; omega) (fun i => decide ((ars.getD i (0, rd0)).2.i ∈ S) && !decide ((ars.getD i (0, rd0)).2.j ∈ S)) _
    (fun i acc H => acc = refL (outT (outs S (ars.take i)))) sets_name (fun i hi => rfl) ?_) (fun acc H2 r => by rw [r]; simp)
  have gx : ∀ i, i < ((ars.map (·.1)).map V.ref).length → ∃ e, ars[i]? = some e ∧ ars.getD i (0, rd0) = e ∧ ((ars.map (·.1)).map V.ref)[i]? = some (.ref e.1) := fun i hi => by
    have hi' : i < ars.length := by simpa using hi
    exact ⟨ars[i], List.getElem?_eq_getElem hi', by rw [List.getD_eq_getElem?_getD, List.getElem?_eq_getElem hi']; rfl, by simp [hi']⟩
  refine ⟨fun i acc H3 H4 e r => r, fun H3 e => rfl, fun i H3 hi e => ?_, fun i acc H3 hi e hf r => ?_, fun i acc H3 hi e hf r => ?_⟩
  · obtain ⟨x, h1, h2, h3⟩ := gx i hi
    rw [h2]
    have hb := e _ _ (har x (List.mem_of_getElem? h1))
    exact et_and (et_test (ev_inLI (ev_ixT (i := 0) (v := .int x.2.i) (ev_var (congrArg some h3)) ev_c hb rfl) (ev_var rfl) (e _ _ hl))) fun _ => et_test (ev_ninLI (ev_ixT (i := 1) (v := .int x.2.j) (ev_var (congrArg some h3)) ev_c hb rfl) (ev_var rfl) (e _ _ hl))
  · obtain ⟨x, h1, h2, h3⟩ := gx i hi
    rw [h2] at hf
    refine fun H4 e4 Q q => (ev_var (congrArg some h3)) H4 e4 Q fun H5 e5 => q _ H5 e5 ?_
    rw [r, List.take_succ, h1]
    unfold outs
    rw [List.filter_append]
    simp only [Option.toList_some, List.filter_cons, hf, if_true, List.filter_nil]
    simp [outT, refL]
  · obtain ⟨x, h1, h2, h3⟩ := gx i hi
    rw [h2] at hf
    rw [r, List.take_succ, h1]
    unfold outs
    rw [List.filter_append]
    simp only [Option.toList_some, List.filter_cons, hf, List.filter_nil]
    simp
def spFull (K : PySem.W.Frag) : Sp := fun vs H Q _ => ∃ (tp sc a : Addr) (ns : List Int) (N : Net) (root : Int), vs = [.ref tp, .ref a, .int root] ∧ Tape K tp sc ns H ∧ NetAt H a N ∧ N.Ok ∧ 0 ≤ root ∧ root < N.n ∧
  ∀ b d H2, ExB [tp] H H2 → Tape K tp sc ns H2 → H2 b = some (.dK (dI d)) → Grown N root d → Full N root d → Q (.ref b) H2
abbrev s_law_b_full : Stmt := top 57
abbrev N_law_b_full : List Str := ["tape", "net", "root", "there", "ahead", "some", "road"]
theorem sc_law_b_full : FnScope N_law_b_full ["tape", "net", "root"] (defScope s_law_b_full) := fnScope_by (by decide +kernel)
theorem ok_law_b_full (F : DefAt K mg "_law_b_full" s_law_b_full ["tape", "net", "root"]) (T : Txt K mg) (c__law_b_some : Cal P w K mg base 3 "_law_b_some" (spSome K) []) : Cal P w K mg base 4 "_law_b_full" (spFull K) [] := by
  refine F.cal sc_law_b_full (by walk_at "len") (fun f0 cdv A outer s0 H vs Q X hr h => ?_)
  obtain ⟨tp, sc, a, ns, N, root, rfl, hT, hN, hok, r0, r1, k⟩ := h
  have nd := sc_law_b_full.nd
  refine ⟨_, (pss_cons (ps_set (i := 3) nd rfl (Or.inr rfl) (pe_lst (pa_cons (pv 2) pa_nil)))
      (pss_cons (ps_set (i := 4) nd rfl (Or.inl rfl) pe_dnewK)
      (pss_cons (ps_setLc (i := 5) (own := [("road", 6)]) (g := (gName 6)) rfl nd rfl rfl (sw_true rfl rfl rfl (by decide +kernel)) (pi_tupK (K := K) rfl (pe_ix (ixT (K := K) rfl) (pv 1) pe_int (fun _ _ => rfl))) (blkOk_by (own := [("road", 6)]) (N := N_law_b_full) (sc := defScope s_law_b_full) (by decide +kernel)) (fun _ _ _ _ _ => (pg_name (i := 6) nd rfl (Or.inl rfl))) (fun _ _ _ _ _ => (pts_one (PW.pt (pw_and (pt_cmpR (inS (K := K) rfl) (pe_ix (ixT (K := K) rfl) (pv 6) pe_int (fun _ _ => rfl)) (pv 3) rfl) (pw_and1 (pt_cmpR (ninS (K := K) rfl) (pe_ix (ixT (K := K) rfl) (pv 6) pe_int (fun _ _ => rfl)) (pv 3) rfl)))))) (fun _ _ _ _ _ => (pv 6)))
      (pss_cons (ps_while PassesOwn.never (pt_cmpR (neK (K := K) rfl hr.units) (pv 5) (pe_lst pa_nil) (nomark _)) (pss_cons (ps_set (i := 6) nd rfl (Or.inl rfl) (pe_c c__law_b_some hr (by decide) (by rfl) (pa_cons (pv 0) (pa_cons (pv 5) pa_nil))))
      (pss_cons (ps_dput (hu_of hr) (pv 4) (pe_ix (ixT (K := K) rfl) (pv 6) pe_int (fun _ _ => rfl)) (pe_ix (ixT (K := K) rfl) (pv 6) pe_int (fun _ _ => rfl)) rfl)
      (pss_cons (ps_expr (pe_bm PySem.F.plainAttrs_list PySem.F.slot_list_append PySem.F.type_list_append mt_append (pv 3) (pa_cons (pe_ix (ixT (K := K) rfl) (pv 6) pe_int (fun _ _ => rfl)) pa_nil)))
      (pss_one (ps_setLc (i := 5) (own := [("road", 6)]) (g := (gName 6)) rfl nd rfl rfl (sw_true rfl rfl rfl (by decide +kernel)) (pi_tupK (K := K) rfl (pe_ix (ixT (K := K) rfl) (pv 1) pe_int (fun _ _ => rfl))) (blkOk_by (own := [("road", 6)]) (N := N_law_b_full) (sc := defScope s_law_b_full) (by decide +kernel)) (fun _ _ _ _ _ => (pg_name (i := 6) nd rfl (Or.inl rfl))) (fun _ _ _ _ _ => (pts_one (PW.pt (pw_and (pt_cmpR (inS (K := K) rfl) (pe_ix (ixT (K := K) rfl) (pv 6) pe_int (fun _ _ => rfl)) (pv 3) rfl) (pw_and1 (pt_cmpR (ninS (K := K) rfl) (pe_ix (ixT (K := K) rfl) (pv 6) pe_int (fun _ _ => rfl)) (pv 3) rfl)))))) (fun _ _ _ _ _ => (pv 6))))))))
      (pss_one (ps_ret (pv 4))))))), ?_⟩
  obtain ⟨t, as, ha, ht, hR⟩ := hN.ex
  obtain ⟨ars, rfl, hrs, har⟩ := roads_zip hR
  have alen : ars.length ≤ 144 := by
    have := few_roads hok
    rw [hrs, List.length_map] at this; exact this
  obtain ⟨pos0, c0, hc0, _, _⟩ := hT.cell
  refine q_asgL (el_lst (ea_cons (ev_var rfl) ea_nil) (by show 1 ≤ 100000; decide)) fun l H1 l0 e1 hl => ?_
  refine q_asgW ew_newK fun b H2 b1 e2 hb => ?_
  have b0 : H b = none := fresh_back e1 b1
  have lb : l ≠ b := ne_of_none hl b1
  have lt : l ≠ tp := (ne_of_none hc0 l0).symm
  have bt : b ≠ tp := (ne_of_none hc0 b0).symm
  have e12 := e1.trans e2
  refine q_asgL (evn_outs (N := N) (S := [root]) (e12 _ _ ha) (e12 _ _ ht) (fun e he => e12 _ _ (har e he)) (e2 _ _ hl) (by omega)) fun q H3 q2 e3 hq => ?_
  have q0 : H q = none := fresh_back e12 q2
  refine q_whileW (fun m σ H' => ∃ (d : D) (q : Addr) (x6 : Option V), m = 20 - d.length ∧ σ = [some (.ref tp), some (.ref a), some (.int root), some (.ref l), some (.ref b), some (.ref q), x6] ∧ ExB [tp] H H' ∧ Tape K tp sc ns H' ∧ H' l = some (.lst ((root :: keys d).map V.int)) ∧ H' b = some (.dK (dI d)) ∧ H q = none ∧ H' q = some (.lst (refL (outT (outs (root :: keys d) ars)))) ∧ Grown N root d) _
    ⟨[], q, none, rfl, rfl, ExB.of (e12.trans e3), hT.mono (e12.trans e3), (e2.trans e3) _ _ hl, e3 _ _ hb, q0, hq, .nil⟩ ?_
  rintro m σ H4 ⟨d, q, x6, rfl, rfl, E4, T4, hl4, hb4, hq0, hq4, g⟩
  have tx4 := hT.tex E4
  have hts : ∀ H', TEx H H' → TupsI H' (outT (outs (root :: keys d) ars)) := fun H' tx t ht => by
    obtain ⟨e, he, rfl⟩ := List.mem_map.mp ht
    exact tx _ _ (har e (List.mem_filter.mp he).1)
  have gf := g.few hok r0 r1
  have dl := len_keys d
  simp only [List.length_cons] at gf
  refine ⟨_, et_test (ev_neTups (ev_var rfl) hq4 (hts H4 tx4)), fun eb H5 e5 => ?_, fun eb H5 e5 => ?_⟩
  · have qt : q ≠ tp := (ne_of_none hc0 hq0).symm
    have olen : (outs (root :: keys d) ars).length ≤ 144 := Nat.le_trans (List.length_filter_le _ _) alen
    have one : 1 ≤ (outs (root :: keys d) ars).length := by
      cases z : outs (root :: keys d) ars with
      | nil => rw [z] at eb; simp [outT] at eb
      | cons x xs => simp
    refine xq_asg (evx_call (ea_cons (ev_var rfl) (ea_cons (ev_var rfl) ea_nil)) fun H6 e6 Q1 q1 => ⟨tp, sc, ns, q, _, rfl, T4.mono (e5.trans e6), e6 _ _ (e5 _ _ hq4), qt, by simpa [refL, outT] using one, by simp [refL, outT]; omega, fun v H7 e7 t7 hv => q1 _ _ ?_⟩)
    unfold refL outT at hv
    rw [List.map_map] at hv
    obtain ⟨e, he, rfl⟩ := List.mem_map.mp hv
    obtain ⟨hea, hef⟩ := List.mem_filter.mp he
    have hei : e.2.i ∈ root :: keys d := by have := (Bool.and_eq_true_iff.mp hef).1; simpa using this
    have hej : e.2.j ∉ root :: keys d := by have := (Bool.and_eq_true_iff.mp hef).2; simpa using this
    have E7 : ExB [tp] H H7 := (E4.trans (ExB.of (e5.trans e6))).trans e7
    have he7 : H7 e.1 = some (.tup (rdV e.2)) := hT.tex E7 _ _ (har e hea)
    have hl7 : H7 l = some (.lst ((root :: keys d).map V.int)) := e7 _ _ (by simpa using lt) (e6 _ _ (e5 _ _ hl4))
    have hb7 : H7 b = some (.dK (dI d)) := e7 _ _ (by simpa using bt) (e6 _ _ (e5 _ _ hb4))
    show (tSeq (sDPut _ _ _) _ : TS) _ ([some (.ref tp), some (.ref a), some (.int root), some (.ref l), some (.ref b), some (.ref q), some (.ref e.1)] : L2.St) H7
    refine q_dputI (d := d) (k := e.2.j) (v := e.2.i) (ev_ixT (i := 0) (v := .int e.2.i) (ev_var rfl) ev_c he7 rfl) (ev_var rfl) (ev_ixT (i := 1) (v := .int e.2.j) (ev_var rfl) ev_c he7 rfl) hb7 (by omega) fun H8 e8 => ?_
    have hb8 := e8 _ _ hb7
    have hl8 : (upd H8 b (.dK (dI (put d e.2.j e.2.i)))) l = some (.lst ((root :: keys d).map V.int)) := by rw [upd_ne lb]; exact e8 _ _ hl7
    have tx8 : TEx H8 (upd H8 b (.dK (dI (put d e.2.j e.2.i)))) := tex_upd hb8 fun xs z => nomatch z
    have E8 : ExB [tp] H (upd H8 b (.dK (dI (put d e.2.j e.2.i)))) := (E7.trans (ExB.of e8)).fr b0
    have T8 : Tape K tp sc ns (upd H8 b (.dK (dI (put d e.2.j e.2.i)))) := hT.fr (E7.trans (ExB.of e8)) (t7.mono e8) b0
    have he8 := tx8 _ _ (e8 _ _ he7)
    have hbb : (upd H8 b (.dK (dI (put d e.2.j e.2.i)))) b = some (.dK (dI (put d e.2.j e.2.i))) := upd_same
    generalize upd H8 b (.dK (dI (put d e.2.j e.2.i))) = G8 at *
    have nj : e.2.j ∉ keys d := fun z => hej (List.mem_cons_of_mem _ z)
    have ep : put d e.2.j e.2.i = d ++ [(e.2.j, e.2.i)] := put_new nj
    rw [ep] at hbb
    have g' : Grown N root (d ++ [(e.2.j, e.2.i)]) := .snoc g (List.mem_cons.mp hei) (fun z => hej (by rw [z]; exact List.mem_cons_self ..)) nj ⟨e.2, by rw [hrs]; exact List.mem_map.mpr ⟨e, hea, rfl⟩, rfl, rfl⟩
    refine q_app hl8 (ev_var rfl) (ev_ixT (i := 1) (v := .int e.2.j) (ev_var rfl) ev_c he8 rfl) (by simp; omega) fun H9 e9 => ?_
    have kk : (root :: keys d).map V.int ++ [.int e.2.j] = (root :: keys (d ++ [(e.2.j, e.2.i)])).map V.int := by rw [keys_snoc]; simp
    rw [kk]
    have E9 : ExB [tp] H (upd H9 l (.lst ((root :: keys (d ++ [(e.2.j, e.2.i)])).map V.int))) := (E8.trans (ExB.of e9)).fr l0
    have T9 : Tape K tp sc ns (upd H9 l (.lst ((root :: keys (d ++ [(e.2.j, e.2.i)])).map V.int))) := hT.fr (E8.trans (ExB.of e9)) (T8.mono e9) l0
    have hl9 : (upd H9 l (.lst ((root :: keys (d ++ [(e.2.j, e.2.i)])).map V.int))) l = some (.lst ((root :: keys (d ++ [(e.2.j, e.2.i)])).map V.int)) := upd_same
    have hb9 : (upd H9 l (.lst ((root :: keys (d ++ [(e.2.j, e.2.i)])).map V.int))) b = some (.dK (dI (d ++ [(e.2.j, e.2.i)]))) := by rw [upd_ne lb.symm]; exact e9 _ _ hbb
    generalize upd H9 l (.lst ((root :: keys (d ++ [(e.2.j, e.2.i)])).map V.int)) = G9 at *
    have tx9 := hT.tex E9
    refine s_asgL (evn_outs (N := N) (S := root :: keys (d ++ [(e.2.j, e.2.i)])) (tx9 _ _ ha) (tx9 _ _ ht) (fun e he => tx9 _ _ (har e he)) hl9 (by omega)) fun q' H10 q9 e10 hq' => ?_
    have q0' : H q' = none := by
      cases z : H q' with
      | none => rfl
      | some o =>
        exfalso
        by_cases y : q' = tp
        · obtain ⟨pos, c, h1, _⟩ := T9.cell
          rw [y, h1] at q9; cases q9
        · rw [E9 q' o (by simpa using y) z] at q9; cases q9
    refine ⟨20 - (d ++ [(e.2.j, e.2.i)]).length, by simp; omega, _, q', _, rfl, rfl, E9.trans (ExB.of e10), T9.mono e10, e10 _ _ hl9, e10 _ _ hb9, q0', hq', g'⟩
  · have hemp : outs (root :: keys d) ars = [] := by
      cases z : outs (root :: keys d) ars with
      | nil => rfl
      | cons x xs => rw [z] at eb; simp [outT] at eb
    refine s_ret (ev_var rfl) fun H6 e6 => k b d H6 (E4.trans (ExB.of (e5.trans e6))) (T4.mono (e5.trans e6)) ((e5.trans e6) _ _ hb4) g ⟨g.tree, fun x hx hne => ?_⟩
    have cl : ∀ r ∈ N.rs, r.i ∈ root :: keys d → r.j ∈ root :: keys d := fun r hr hi => by
      rw [hrs] at hr
      obtain ⟨e, he, rfl⟩ := List.mem_map.mp hr
      apply Classical.byContradiction
      intro z
      have : e ∈ outs (root :: keys d) ars := List.mem_filter.mpr ⟨he, by simp only [hi, z, decide_true, decide_false]; rfl⟩
      rw [hemp] at this; simp at this
    have : x ∈ root :: keys d := by
      clear hne
      induction hx with
      | root => exact List.mem_cons_self ..
      | step h1 _ ih => exact cl _ h1 ih
    exact (List.mem_cons.mp this).resolve_left hne
end
end HK

/-! part HLC -/
/-! Changed nets: the mathematics. -/
namespace HK
def mapN (N : Net) (f : Road → Road) : Net := ⟨N.n, N.rs.map f⟩
structure Same (f : Road → Road) : Prop where
  i : ∀ r, (f r).i = r.i
  j : ∀ r, (f r).j = r.j
theorem mapN_road {N : Net} {f : Road → Road} (s : Same f) (i j : Int) : (mapN N f).road i j = (N.road i j).map f := by
  unfold Net.road mapN
  rw [List.find?_map]
  congr 1
  have : ((fun r : Road => r.i == i && r.j == j) ∘ f) = fun r => r.i == i && r.j == j := by
    funext r; simp [s.i, s.j]
  rw [this]
theorem mapN_has {N : Net} {f : Road → Road} (s : Same f) {i j : Int} : (mapN N f).has i j ↔ N.has i j := by
  unfold Net.has mapN
  constructor
  · rintro ⟨r, hr, h1, h2⟩
    obtain ⟨x, hx, rfl⟩ := List.mem_map.mp hr
    exact ⟨x, hx, by rw [← s.i x]; exact h1, by rw [← s.j x]; exact h2⟩
  · rintro ⟨r, hr, h1, h2⟩
    exact ⟨f r, List.mem_map.mpr ⟨r, hr, rfl⟩, by rw [s.i]; exact h1, by rw [s.j]; exact h2⟩
theorem mapN_reach {N : Net} {f : Road → Road} (s : Same f) {root x : Int} : Reach (mapN N f) root x ↔ Reach N root x := by
  constructor
  · intro h
    induction h with
    | root => exact .root
    | @step r hr _ ih =>
      obtain ⟨y, hy, rfl⟩ := List.mem_map.mp hr
      rw [s.i] at ih
      rw [s.j]; exact .step hy ih
  · intro h
    induction h with
    | root => exact .root
    | @step r hr _ ih =>
      have := Reach.step (N := mapN N f) (root := root) (r := f r) (List.mem_map.mpr ⟨r, hr, rfl⟩) (by rw [s.i]; exact ih)
      rw [s.j] at this; exact this
theorem mapN_tree {N : Net} {f : Road → Road} (s : Same f) {root : Int} {d : D} : Tree (mapN N f) root d ↔ Tree N root d :=
  ⟨fun t => ⟨t.nd, t.rt, fun e he => (mapN_has s).mp (t.rd e he), t.hm⟩, fun t => ⟨t.nd, t.rt, fun e he => (mapN_has s).mpr (t.rd e he), t.hm⟩⟩
theorem mapN_full {N : Net} {f : Road → Road} (s : Same f) {root : Int} {d : D} : Full (mapN N f) root d ↔ Full N root d :=
  ⟨fun t => ⟨(mapN_tree s).mp t.1, fun x hx => t.2 x ((mapN_reach s).mpr hx)⟩, fun t => ⟨(mapN_tree s).mpr t.1, fun x hx => t.2 x ((mapN_reach s).mp hx)⟩⟩
theorem mapN_ok {N : Net} (ok : N.Ok) {f : Road → Road} (s : Same f) (hl : ∀ r, (f r).l = r.l) (hp : ∀ r ∈ N.rs, 0 ≤ (f r).p ∧ (f r).p ≤ 1000) : (mapN N f).Ok := by
  refine ⟨ok.n1, ok.n12, fun r hr => ?_, ?_⟩
  · obtain ⟨x, hx, rfl⟩ := List.mem_map.mp hr
    have k := ok.rs x hx
    exact ⟨by rw [s.i]; exact k.i0, by rw [s.i]; exact k.i1, by rw [s.j]; exact k.j0, by rw [s.j]; exact k.j1, by rw [s.i, s.j]; exact k.ne, (hp x hx).1, (hp x hx).2, by rw [hl]; exact k.l0, by rw [hl]; exact k.l1⟩
  · show (N.rs.map f).Pairwise lex2
    rw [List.pairwise_map]
    refine List.Pairwise.imp ?_ ok.up
    intro a b h
    unfold lex2 at h ⊢
    rw [s.i, s.i, s.j, s.j]; exact h
/-- a tree's price in the changed net -/
theorem mapN_cst {N : Net} {f : Road → Road} (s : Same f) {root : Int} {d : D} (t : Tree N root d) {a : Int} {g : Int → Int} (h : ∀ r ∈ N.rs, (f r).p = a * r.p + g r.j) : cst (mapN N f) d = a * cst N d + ((keys d).map g).sum := by
  have key : ∀ l : D, (∀ e ∈ l, N.has e.2 e.1) → cst (mapN N f) l = a * cst N l + ((keys l).map g).sum := by
    intro l
    induction l with
    | nil => intro _; simp [cst, keys]
    | cons e l ih =>
      intro hl
      obtain ⟨r, hr⟩ := road_has (hl e (List.mem_cons_self ..))
      obtain ⟨h1, h2, h3⟩ := road_some hr
      have ih' := ih fun x hx => hl x (List.mem_cons_of_mem _ hx)
      have c1 : (mapN N f).cost e.2 e.1 = a * N.cost e.2 e.1 + g e.1 := by
        unfold Net.cost
        rw [mapN_road s, hr]
        show (f r).p = a * r.p + g e.1
        rw [h r h1, h3]
      unfold cst at ih' ⊢
      simp only [keys, List.map_cons, List.sum_cons] at ih' ⊢
      rw [c1, ih', Int.mul_add]
      omega
  exact key d t.rd
theorem min_shift {N N' : Net} {root t a b : Int} (a0 : 0 ≤ a) (hF : ∀ d, Full N' root d ↔ Full N root d) (hc : ∀ d, Full N root d → cst N' d = a * cst N d + b) (h : IsMin N root t) : IsMin N' root (a * t + b) := by
  obtain ⟨⟨d, F, e⟩, hm⟩ := h
  refine ⟨⟨d, (hF d).mpr F, by rw [hc d F, e]⟩, fun d' F' => ?_⟩
  have F2 := (hF d').mp F'
  rw [hc d' F2]
  have := Int.mul_le_mul_of_nonneg_left (hm d' F2) a0
  omega
theorem sum_one {l : List Int} : (l.map fun _ => (1 : Int)).sum = l.length := by
  induction l with
  | nil => rfl
  | cons a l ih => simp only [List.map_cons, List.sum_cons, ih, List.length_cons]; omega
theorem sum_at {l : List Int} (nd : l.Nodup) {p c : Int} (h : p ∈ l) : (l.map fun x => if x = p then c else 0).sum = c := by
  induction l with
  | nil => simp at h
  | cons a l ih =>
    have nd' := List.nodup_cons.mp nd
    simp only [List.map_cons, List.sum_cons]
    by_cases e : a = p
    · subst e
      have : (l.map fun x => if x = a then c else 0).sum = 0 := by
        have : (l.map fun x => if x = a then c else 0) = l.map fun _ => (0 : Int) := List.map_congr_left fun x hx => by
          rw [if_neg]; intro q; exact nd'.1 (q ▸ hx)
        rw [this]; exact sum_zero l
      rw [if_pos rfl, this]; omega
    · rw [if_neg e, ih nd'.2 ((List.mem_cons.mp h).resolve_left (fun q => e q.symm))]; omega
/-- a full tree's places -/
theorem full_len {N : Net} {root : Int} {d : D} (F : Full N root d) {S : List Int} (nd : S.Nodup) (hS : ∀ x, x ∈ S ↔ Reach N root x) : (keys d).length + 1 = S.length := by
  have : (root :: keys d).Perm S := (List.perm_ext_iff_of_nodup (List.nodup_cons.mpr ⟨F.1.rt, F.1.nd⟩) nd).mpr fun x => by
    rw [hS x]
    constructor
    · intro h
      rcases List.mem_cons.mp h with rfl | h
      · exact .root
      · exact tree_reach F.1 h
    · intro h
      by_cases q : x = root
      · rw [q]; exact List.mem_cons_self ..
      · exact List.mem_cons_of_mem _ (F.2 x h q)
  have := this.length_eq
  simpa using this
/-- some roads taken away -/
theorem sub_full {N N' : Net} (hs : ∀ r ∈ N'.rs, r ∈ N.rs) {root : Int} (hre : ∀ x, Reach N root x → Reach N' root x) {d : D} (F : Full N' root d) : Full N root d :=
  ⟨⟨F.1.nd, F.1.rt, fun e he => by obtain ⟨r, hr, h⟩ := F.1.rd e he; exact ⟨r, hs r hr, h⟩, F.1.hm⟩, fun x hx hne => F.2 x (hre x hx) hne⟩
theorem sub_cst {N N' : Net} (ok : N.Ok) (ok' : N'.Ok) (hs : ∀ r ∈ N'.rs, r ∈ N.rs) {root : Int} {d : D} (t : Tree N' root d) : cst N d = cst N' d := by
  unfold cst
  refine congrArg List.sum (List.map_congr_left fun e he => ?_)
  obtain ⟨r, hr, h1, h2⟩ := t.rd e he
  rw [← h1, ← h2, cost_of ok (hs r hr), cost_of ok' hr]
/-! ### rows -/
theorem get_perm {d e : D} (nd : (keys d).Nodup) (ne : (keys e).Nodup) (h : ∀ x, x ∈ d ↔ x ∈ e) (k : Int) : get d k = get e k := by
  cases hd : get d k with
  | some v => exact (mem_get ne ((h _).mp (get_mem hd))).symm
  | none =>
    cases he : get e k with
    | none => rfl
    | some v =>
      have := mem_get nd ((h _).mpr (get_mem he))
      rw [hd] at this; cases this
theorem nodup_of_keys {d : D} (nd : (keys d).Nodup) : d.Nodup := by
  unfold keys List.Nodup at nd
  rw [List.pairwise_map] at nd
  exact List.Pairwise.imp (fun h e => h (by rw [e])) nd
theorem tree_perm {N : Net} {root : Int} {d e : D} (t : Tree N root d) (ne : (keys e).Nodup) (h : ∀ x, x ∈ d ↔ x ∈ e) : Tree N root e ∧ cst N e = cst N d := by
  have gp := get_perm t.nd ne h
  have pp : par e = par d := by funext x; unfold par; rw [gp]
  have kk : ∀ k, k ∈ keys e → k ∈ keys d := fun k hk => by
    obtain ⟨v, hv⟩ := key_get hk
    rw [← gp] at hv; exact get_key hv
  refine ⟨⟨ne, fun q => t.rt (kk _ q), fun x hx => t.rd x ((h x).mpr hx), fun k hk => ?_⟩, ?_⟩
  · obtain ⟨m, hm⟩ := t.hm k (kk k hk)
    exact ⟨m, by rw [pp]; exact hm⟩
  · have : e.Perm d := (List.perm_ext_iff_of_nodup (nodup_of_keys ne) (nodup_of_keys t.nd)).mpr fun x => (h x).symm
    unfold cst
    exact perm_sum (this.map _)
/-- all ways to choose a road into each place -/
structure RowsI (N : Net) (ps : List Int) (Rs : List D) : Prop where
  key : ∀ d ∈ Rs, keys d = ps
  all : ∀ d : D, keys d = ps → (∀ e ∈ d, N.has e.2 e.1) → d ∈ Rs
theorem RowsI.min {N : Net} {root : Int} {ps : List Int} {Rs : List D} (I : RowsI N ps Rs) (nps : ps.Nodup) (hps : ∀ x, x ∈ ps ↔ (Reach N root x ∧ x ≠ root)) {t : Int}
    (h1 : ∃ d ∈ Rs, Tree N root d ∧ cst N d = t) (h2 : ∀ d ∈ Rs, Tree N root d → t ≤ cst N d) : IsMin N root t := by
  obtain ⟨d, hd, T, e⟩ := h1
  refine ⟨⟨d, ⟨T, fun x hx hne => by rw [I.key d hd]; exact (hps x).mpr ⟨hx, hne⟩⟩, e⟩, fun d' F => ?_⟩
  -- the row that is that tree
  have hk : ∀ p ∈ ps, ∃ v, get d' p = some v := fun p hp => key_get (F.2 p ((hps p).mp hp).1 ((hps p).mp hp).2)
  have kr : keys (ps.map fun p => (p, par d' p)) = ps := by unfold keys; rw [List.map_map]; exact (List.map_congr_left fun a _ => rfl).trans (List.map_id _)
  have mem : ∀ x, x ∈ d' ↔ x ∈ ps.map fun p => (p, par d' p) := fun x => by
    rw [List.mem_map]
    constructor
    · intro hx
      have hkx : x.1 ∈ keys d' := List.mem_map.mpr ⟨x, hx, rfl⟩
      have hg : get d' x.1 = some x.2 := mem_get F.1.nd hx
      refine ⟨x.1, (hps _).mpr ⟨tree_reach F.1 hkx, fun q => F.1.rt (q ▸ hkx)⟩, ?_⟩
      rw [par_get hg]
    · rintro ⟨p, hp, rfl⟩
      obtain ⟨v, hv⟩ := hk p hp
      rw [par_get hv]; exact get_mem hv
  obtain ⟨T', c'⟩ := tree_perm F.1 (e := ps.map fun p => (p, par d' p)) (by rw [kr]; exact nps) mem
  have := h2 _ (I.all _ kr T'.rd) T'
  rw [c'] at this; exact this
theorem RowsI.ex {N : Net} {root : Int} {ps : List Int} {Rs : List D} (I : RowsI N ps Rs) (nps : ps.Nodup) (hps : ∀ x, x ∈ ps ↔ (Reach N root x ∧ x ≠ root)) {d' : D} (F : Full N root d') : ∃ d ∈ Rs, Tree N root d := by
  have hk : ∀ p ∈ ps, ∃ v, get d' p = some v := fun p hp => key_get (F.2 p ((hps p).mp hp).1 ((hps p).mp hp).2)
  have kr : keys (ps.map fun p => (p, par d' p)) = ps := by unfold keys; rw [List.map_map]; exact (List.map_congr_left fun a _ => rfl).trans (List.map_id _)
  have mem : ∀ x, x ∈ d' ↔ x ∈ ps.map fun p => (p, par d' p) := fun x => by
    rw [List.mem_map]
    constructor
    · intro hx
      have hkx : x.1 ∈ keys d' := List.mem_map.mpr ⟨x, hx, rfl⟩
      have hg : get d' x.1 = some x.2 := mem_get F.1.nd hx
      refine ⟨x.1, (hps _).mpr ⟨tree_reach F.1 hkx, fun q => F.1.rt (q ▸ hkx)⟩, ?_⟩
      rw [par_get hg]
    · rintro ⟨p, hp, rfl⟩
      obtain ⟨v, hv⟩ := hk p hp
      rw [par_get hv]; exact get_mem hv
  obtain ⟨T', _⟩ := tree_perm F.1 (e := ps.map fun p => (p, par d' p)) (by rw [kr]; exact nps) mem
  exact ⟨_, I.all _ kr T'.rd, T'⟩
/-- few roads -/
theorem roads_sq {N : Net} (ok : N.Ok) : N.rs.length ≤ N.n.toNat * N.n.toNat := by
  have n1 := ok.n1
  have nd : (N.rs.map fun r => r.i.toNat * N.n.toNat + r.j.toNat).Nodup := by
    unfold List.Nodup
    rw [List.pairwise_map]
    refine List.Pairwise.imp_of_mem ?_ ok.up
    intro a b ha hb h e
    have ka := ok.rs a ha
    have kb := ok.rs b hb
    have a0 := ka.i0; have a1 := ka.i1; have a2 := ka.j0; have a3 := ka.j1
    have b0 := kb.i0; have b1 := kb.i1; have b2 := kb.j0; have b3 := kb.j1
    have hj1 : a.j.toNat < N.n.toNat := by omega
    have hj2 : b.j.toNat < N.n.toNat := by omega
    have ei : a.i.toNat = b.i.toNat := by
      have this : (a.i.toNat * N.n.toNat + a.j.toNat) / N.n.toNat = (b.i.toNat * N.n.toNat + b.j.toNat) / N.n.toNat := by rw [e]
      rw [Nat.mul_comm, Nat.mul_add_div (by omega), Nat.div_eq_of_lt hj1, Nat.mul_comm b.i.toNat, Nat.mul_add_div (by omega), Nat.div_eq_of_lt hj2] at this
      omega
    have ej : a.j.toNat = b.j.toNat := by rw [ei] at e; omega
    unfold lex2 at h
    omega
  have sub : (N.rs.map fun r => r.i.toNat * N.n.toNat + r.j.toNat) ⊆ List.range (N.n.toNat * N.n.toNat) := by
    intro x hx
    obtain ⟨r, hr, rfl⟩ := List.mem_map.mp hx
    have k := ok.rs r hr
    have a0 := k.i0; have a1 := k.i1; have a2 := k.j0; have a3 := k.j1
    rw [List.mem_range]
    have h1 : r.i.toNat + 1 ≤ N.n.toNat := by omega
    have h2 := Nat.mul_le_mul_right N.n.toNat h1
    rw [Nat.add_mul] at h2
    omega
  have := List.Nodup.length_le_of_subset nd sub
  simpa using this
end HK

/-! part HLD -/
/-! The law's own functions: changed nets, trees by grafts. -/
namespace HK
open PySem PySem.Spec PyProof.Rows L2 Evl
open C8 (Cal Met Mak pe_c pe_mk pe_mt pe_mt0 pe_gc fnScope_by)
open LamX (ExtN)
set_option hygiene false in
local macro_rules | `(tactic| walk_at "len") => `(tactic| (intro vs H Q E h; first
  | (obtain ⟨rfl, _⟩ := h; rfl)
  | (obtain ⟨_, rfl, _⟩ := h; rfl)
  | (obtain ⟨_, _, rfl, _⟩ := h; rfl)
  | (obtain ⟨_, _, _, rfl, _⟩ := h; rfl)
  | (obtain ⟨_, _, _, _, rfl, _⟩ := h; rfl)
  | (obtain ⟨_, _, _, _, _, rfl, _⟩ := h; rfl)
  | (obtain ⟨_, _, _, _, _, _, rfl, _⟩ := h; rfl)
  | (obtain ⟨_, _, _, _, _, _, _, rfl, _⟩ := h; rfl)
  | (obtain ⟨_, _, _, _, _, _, _, _, rfl, _⟩ := h; rfl)
  | (obtain ⟨_, _, _, _, _, _, _, _, _, rfl, _⟩ := h; rfl)
  | (obtain ⟨_, _, _, _, _, _, _, _, _, _, rfl, _⟩ := h; rfl)
  | (obtain ⟨_, _, _, _, _, _, _, _, _, _, _, rfl, _⟩ := h; rfl)
  | (obtain ⟨_, _, _, _, _, _, _, _, _, _, _, _, rfl, _⟩ := h; rfl)
  | (obtain ⟨_, _, _, _, _, _, _, _, _, _, _, _, _, rfl, _⟩ := h; rfl)
  | (obtain ⟨_, _, _, _, _, _, _, _, _, _, _, _, _, _, rfl, _⟩ := h; rfl)
  | (obtain ⟨_, _, _, _, _, _, _, _, _, _, _, _, _, _, _, rfl, _⟩ := h; rfl)
  | (obtain ⟨_, _, _, _, _, _, _, _, _, _, _, _, _, _, _, _, rfl, _⟩ := h; rfl)
  | (obtain ⟨_, _, _, _, _, _, _, _, _, _, _, _, _, _, _, _, _, rfl, _⟩ := h; rfl)
  | (obtain ⟨_, _, _, _, _, _, _, _, _, _, _, _, _, _, _, _, _, _, rfl, _⟩ := h; rfl)
  | (obtain ⟨_, _, _, _, _, _, _, _, _, _, _, _, _, _, _, _, _, _, _, rfl, _⟩ := h; rfl)
  | (obtain ⟨_, _, _, _, _, _, _, _, _, _, _, _, _, _, _, _, _, _, _, _, rfl, _⟩ := h; rfl)
  | (obtain ⟨_, _, _, _, _, _, _, _, _, _, _, _, _, _, _, _, _, _, _, _, _, rfl, _⟩ := h; rfl)
  | (obtain ⟨_, _, _, _, _, _, _, _, _, _, _, _, _, _, _, _, _, _, _, _, _, _, rfl, _⟩ := h; rfl)
  | (obtain ⟨_, _, _, _, _, _, _, _, _, _, _, _, _, _, _, _, _, _, _, _, _, _, _, rfl, _⟩ := h; rfl)
  | (obtain ⟨_, _, _, _, _, _, _, _, _, _, _, _, _, _, _, _, _, _, _, _, _, _, _, _, rfl, _⟩ := h; rfl)
  | (obtain ⟨_, _, _, _, _, _, _, _, _, _, _, _, _, _, _, _, _, _, _, _, _, _, _, _, _, rfl, _⟩ := h; rfl)))

theorem RoadsAt.snoc {H : Hp} {as : List Addr} {rs : List Road} (h : RoadsAt H as rs) {b : Addr} {r : Road} (hb : H b = some (.tup (rdV r))) : RoadsAt H (as ++ [b]) (rs ++ [r]) := by
  refine ⟨by simp [h.len], fun k c r' hc hr' => ?_⟩
  by_cases q : k < as.length
  · rw [List.getElem?_append_left q] at hc
    rw [List.getElem?_append_left (by rw [← h.len]; exact q)] at hr'
    exact h.at_ k c r' hc hr'
  · have hk : k = as.length := by
      have := (List.getElem?_eq_some_iff.mp hc).1
      simp at this; omega
    subst hk
    rw [List.getElem?_append_right (Nat.le_refl _)] at hc
    rw [h.len, List.getElem?_append_right (Nat.le_refl _)] at hr'
    simp at hc hr'
    subst hc hr'
    exact hb
section
variable {P : Program} {w : World} {K : PySem.W.Frag} {mg : Str → Option Value} {base : Heap}
/-! ### dearer -/
def dearK (pl : Option Int) (j : Int) : Bool := pl.isNone || decide (some j = pl)
def dearR (by_ : Int) (pl : Option Int) (r : Road) : Road := ⟨r.i, r.j, r.p + by_ * (if dearK pl r.j then 1 else 0), r.l⟩
def spDearer : Sp := fun vs H Q _ => ∃ (a : Addr) (N : Net) (by_ : Int) (pl : Option Int), vs = [.ref a, .int by_, vO pl] ∧ NetAt H a N ∧ N.rs.length ≤ 1000 ∧ -(2 ^ 60) < by_ ∧ by_ < 2 ^ 60 ∧ RetP (fun v H2 => ∃ b, v = .ref b ∧ NetAt H2 b (mapN N (dearR by_ pl))) H Q
theorem ev_int1 {σ : L2.St} {H : Hp} {t : TE} {k : Bool} (h : Ev t σ H (.bl k)) : Ev (tCB (fun xs H Q => (∃ i, xs = [V.int i] ∧ Q (.int i) H) ∨ ∃ k, xs = [V.bl k] ∧ Q (.int (if k then 1 else 0)) H) (tCons t tNil)) σ H (.int (if k then 1 else 0)) := fun H1 e Q q => h H1 e _ fun H2 e2 => .inr ⟨k, rfl, q H2 e2⟩
abbrev s_law_b_dearer : Stmt := top 58
abbrev N_law_b_dearer : List Str := ["net", "by", "place", "roads", "i", "j", "pay", "late", "more"]
theorem sc_law_b_dearer : FnScope N_law_b_dearer ["net", "by", "place"] (defScope s_law_b_dearer) := fnScope_by (by decide +kernel)
theorem ok_law_b_dearer (F : DefAt K mg "_law_b_dearer" s_law_b_dearer ["net", "by", "place"]) (T : Txt K mg) : Cal P w K mg base 1 "_law_b_dearer" spDearer [] := by
  refine F.cal sc_law_b_dearer (by walk_at "len") (fun f0 cdv A outer s0 H vs Q X hr h => ?_)
  obtain ⟨a, N, by_, pl, rfl, hN, hl, b1, b2, k⟩ := h
  have nd := sc_law_b_dearer.nd
  refine ⟨_, (pss_cons (ps_set (i := 3) nd rfl (Or.inl rfl) (pe_lst pa_nil))
      (pss_cons (ps_for PassesOwn.never rfl (pi_tupK (K := K) rfl (pe_ix (ixT (K := K) rfl) (pv 0) pe_int (fun _ _ => rfl))) (pg_tupK (K := K) rfl rfl (pgs_cons (pg_name (i := 4) nd rfl (Or.inl rfl)) (pgs_cons (pg_name (i := 5) nd rfl (Or.inl rfl)) (pgs_cons (pg_name (i := 6) nd rfl (Or.inl rfl)) (pgs_cons (pg_name (i := 7) nd rfl (Or.inl rfl)) pgs_nil))))) (pss_cons (ps_set (i := 8) nd rfl (Or.inl rfl) (pe_op op_add (pv 6) (pe_op op_mul (pv 1) (pe_callTy call_int1 (by rfl) T.g_int (by decide +kernel) (pa_cons (pe_or (pe_cmp (pc_isN (pv 2))) (pe_one (pe_cmpR op_eq (pv 5) (pv 2) (nomark _)))) pa_nil)))))
      (pss_one (ps_expr (pe_bm PySem.F.plainAttrs_list PySem.F.slot_list_append PySem.F.type_list_append mt_append (pv 3) (pa_cons (pe_tup (pa_cons (pv 4) (pa_cons (pv 5) (pa_cons (pv 8) (pa_cons (pv 7) pa_nil))))) pa_nil))))))
      (pss_one (ps_ret (pe_tup (pa_cons (pe_ix (ixT (K := K) rfl) (pv 0) pe_int (fun _ _ => rfl)) (pa_cons (pe_callTy (tupK (K := K) rfl) (by rfl) T.g_tuple (by decide +kernel) (pa_cons (pv 3) pa_nil)) pa_nil))))))), ?_⟩
  obtain ⟨t, as, ha, ht, hR⟩ := hN.ex
  refine q_asgL (el_lst ea_nil (Nat.zero_le _)) fun l H1 l0 e1 hl1 => ?_
  refine q_forTW (xs := as.map V.ref) (ev_ixT (i := 1) (v := .ref t) (ev_var rfl) ev_c (e1 _ _ ha) rfl) (e1 _ _ ht) (fun n σ H' => ∃ (bs : List Addr) (x4 x5 x6 x7 x8 : Option V), σ = [some (.ref a), some (.int by_), some (vO pl), some (.ref l), x4, x5, x6, x7, x8] ∧ Ex H H' ∧ TEx H1 H' ∧ H' l = some (.lst (bs.map V.ref)) ∧ RoadsAt H' bs ((N.rs.take n).map (dearR by_ pl)))
    (fun H2 e2 => ⟨[], none, none, none, none, none, rfl, e1.trans e2, tex e2, e2 _ _ hl1, ⟨rfl, fun k b r h => by simp at h⟩⟩) (fun n σ H' _ p => by obtain ⟨_, _, _, _, _, _, _, _, e, _⟩ := p; exact e) ?_ ?_
  · rintro n x σ H2 hx ⟨bs, x4, x5, x6, x7, x8, rfl, e2, tx2, hl2, hB⟩
    obtain ⟨c, r, rfl, hc1, hc2, hc3⟩ := hR.get hx
    refine g4 (e2 _ _ hc3) ?_
    show (tSeq (tAsg _ _) _ : TS) _ ([some (.ref a), some (.int by_), some (vO pl), some (.ref l), some (.int r.i), some (.int r.j), some (.int r.p), some (.int r.l), x8] : L2.St) H2
    have hor : Ev (tOrV (tIsN (tVar 2)) (tOp rEq (tVar 5) (tVar 2))) ([some (.ref a), some (.int by_), some (vO pl), some (.ref l), some (.int r.i), some (.int r.j), some (.int r.p), some (.int r.l), x8] : L2.St) H2 (.bl (dearK pl r.j)) := by
      cases pl with
      | none => exact ev_is (ev_orV (a := true) (b := true) (ev_is (ev_isN (ev_var rfl)) rfl) (fun z => by cases z)) rfl
      | some j =>
        refine ev_is (ev_orV (a := false) (b := decide (r.j = j)) (ev_is (ev_isN (ev_var rfl)) rfl) (fun _ => ev_is (ev_op (x := .int r.j) (y := .int j) (ev_var rfl) (ev_var rfl) (rv_eq rfl)) ?_)) ?_
        · by_cases q : r.j = j <;> simp [q]
        · by_cases q : r.j = j <;> simp [dearK, q]
    refine q_asg (ev_op (ev_var rfl) (ev_op (ev_var rfl) (ev_int1 hor) (rv_I (cmul_l ⟨by omega, by omega⟩))) rv_I0) fun H3 e3 => ?_
    have blen : bs.length ≤ 1000 := by
      rw [hB.len, List.length_map, List.length_take]; omega
    refine s_appP (e3 _ _ hl2) (ev_var rfl) (EvU.p (eu_tup (ea_cons (ev_var rfl) (ea_cons (ev_var rfl) (ea_cons (ev_var rfl) (ea_cons (ev_var rfl) ea_nil)))) (by show 4 ≤ 100000; decide))) (by rw [List.length_map]; omega) fun v H4 e4 r' => ?_
    obtain ⟨b, rfl, hb⟩ := r'
    have h4 := e4 _ _ (e3 _ _ hl2)
    have tx5 : TEx H4 (upd H4 l (.lst (bs.map V.ref ++ [.ref b]))) := tex_upd h4 fun xs z => nomatch z
    refine ⟨bs ++ [b], _, _, _, _, _, rfl, Ex.mut ((e2.trans e3).trans e4) l0, ((tx2.trans (tex e3)).trans (tex e4)).trans tx5, by rw [upd_same]; simp, ?_⟩
    rw [List.take_succ, hc2, List.map_append]
    exact (hB.mono (((tex e3).trans (tex e4)).trans tx5)).snoc (tx5 _ _ hb)
  · rintro σ H2 ⟨bs, x4, x5, x6, x7, x8, rfl, e2, tx2, hl2, hB⟩
    rw [List.length_map, hR.len, List.take_length] at hB
    refine s_retP (evp_tup2U (ev_ixT (i := 0) (v := .int N.n) (ev_var rfl) ev_c (e2 _ _ ha) rfl) (eu_tupOf' (ev_var rfl) hl2)) fun v H3 e3 r => ?_
    obtain ⟨b, p, rfl, hb, hp⟩ := r
    exact k _ H3 (e2.trans e3) ⟨b, rfl, p, bs, hb, hp, hB.mono (tex e3)⟩
/-! ### a net by a comprehension -/
theorem evn_mapR {σ : L2.St} {H : Hp} {tl te : TE} {t : Addr} {as : List Addr} {rs : List Road} {i1 i2 i3 i4 : Nat} {f : Road → Road} (h : Ev tl σ H (.ref t)) (ht : H t = some (.tup (as.map V.ref))) (hR : RoadsAt H as rs) (hl : rs.length ≤ 1000)
    (hw : ∀ r, wipe (setRd i1 i2 i3 i4 (wipe σ [i1, i2, i3, i4]) r) [i1, i2, i3, i4] = wipe σ [i1, i2, i3, i4]) (he : ∀ r H1, Ex H H1 → EvU te (setRd i1 i2 i3 i4 (wipe σ [i1, i2, i3, i4]) r) H1 (rdV (f r))) :
    EvN (tLc (iTup K tl) (gTup K 4 (gCons (gName i1) (gCons (gName i2) (gCons (gName i3) (gCons (gName i4) gNil))))) tYes te [i1, i2, i3, i4]) σ H rs.length (fun acc H2 => ∃ bs : List Addr, acc = bs.map V.ref ∧ RoadsAt H2 bs (rs.map f)) := by
  have := lcT (K := K) (tl := tl) (te := te) (t := tYes) (vs := [i1, i2, i3, i4]) h ht (by rw [List.length_map, hR.len]; omega) (fun _ => true) _ (fun i acc H2 => ∃ bs : List Addr, acc = bs.map V.ref ∧ RoadsAt H2 bs ((rs.take i).map f)) (sets_road (K := K) (i1 := i1) (i2 := i2) (i3 := i3) (i4 := i4) hR) (fun i hi => hw _) (by
    refine ⟨fun i acc H3 H4 e r => ?_, fun H3 e => ⟨[], rfl, ⟨rfl, fun k b r h => by simp at h⟩⟩, fun i H3 hi e => et_yes, fun i acc H3 hi e hf r => ?_, fun i acc H3 hi e hf r => by cases hf⟩
    · obtain ⟨bs, h1, h2⟩ := r; exact ⟨bs, h1, h2.mono e⟩
    · obtain ⟨bs, rfl, h2⟩ := r
      rw [List.length_map, hR.len] at hi
      have g0 : rs.getD i rd0 = rs[i] := by rw [List.getD_eq_getElem?_getD, List.getElem?_eq_getElem hi]; rfl
      rw [g0]
      refine fun H4 e4 Q q => he rs[i] H3 e H4 e4 _ fun p H5 hp e5 h5 => q _ H5 e5 ⟨bs ++ [p], by simp, ?_⟩
      rw [List.take_succ, List.getElem?_eq_getElem hi, List.map_append]
      exact (h2.mono (tex (e4.trans e5))).snoc h5)
  rw [List.length_map, hR.len, List.take_length] at this
  exact this
theorem evp_netC {σ : L2.St} {H : Hp} {t1 te : TE} {n : Int} {m : Nat} {rs : List Road} (h1 : Ev t1 σ H (.int n)) (h2 : EvN te σ H m (fun acc H2 => ∃ bs : List Addr, acc = bs.map V.ref ∧ RoadsAt H2 bs rs)) :
    EvP (tTup (tCons t1 (tCons (tCB (rTupOf K) (tCons te tNil)) tNil))) σ H fun v H2 => ∃ b, v = .ref b ∧ NetAt H2 b ⟨n, rs⟩ := fun H1 e1 Q q =>
  h1 H1 e1 _ fun H2 e2 => h2 H2 (e1.trans e2) _ fun p acc H3 hp e3 h3 hl r => by
    obtain ⟨bs, rfl, hB⟩ := r
    refine ⟨p, _, rfl, .inl ⟨sq_of h3, fun l hl => ⟨sz_of (by show 2 ≤ 100000; decide), fun b hb => q _ _ (((e2.trans e3).trans (Ex.new hl)).trans (Ex.new hb)) ⟨b, rfl, l, bs, upd_same, ?_, hB.mono ((tex (Ex.new hl)).trans (tex (Ex.new hb)))⟩⟩⟩⟩
    rw [upd_ne (ne_of_none (upd_same (o := HO.tup (bs.map V.ref))) hb)]; exact upd_same
def cheapR (r : Road) : Road := ⟨r.i, r.j, if 500 - r.p % 7 < r.p then 500 - r.p % 7 else r.p, r.l⟩
def spCheap : Sp := fun vs H Q _ => ∃ (a : Addr) (N : Net), vs = [.ref a] ∧ NetAt H a N ∧ N.rs.length ≤ 1000 ∧ RetP (fun v H2 => ∃ b, v = .ref b ∧ NetAt H2 b (mapN N cheapR)) H Q
abbrev s_law_b_cheap : Stmt := top 61
abbrev N_law_b_cheap : List Str := ["net", "i", "j", "pay", "late"]
theorem sc_law_b_cheap : FnScope N_law_b_cheap ["net"] (defScope s_law_b_cheap) := fnScope_by (by decide +kernel)
theorem ev_min2 {σ : L2.St} {H : Hp} {t1 t2 : TE} {i j : Int} (h1 : Ev t1 σ H (.int i)) (h2 : Ev t2 σ H (.int j)) : Ev (tCB (fun xs H Q => ∃ i j, xs = [V.int i, V.int j] ∧ Q (.int (if j < i then j else i)) H) (tCons t1 (tCons t2 tNil))) σ H (.int (if j < i then j else i)) := fun H1 e Q q =>
  h1 H1 e _ fun H2 e2 => h2 H2 (e.trans e2) _ fun H3 e3 => ⟨i, j, rfl, q H3 (e2.trans e3)⟩
theorem ok_law_b_cheap (F : DefAt K mg "_law_b_cheap" s_law_b_cheap ["net"]) (T : Txt K mg) : Cal P w K mg base 1 "_law_b_cheap" spCheap [] := by
  refine F.cal sc_law_b_cheap (by walk_at "len") (fun f0 cdv A outer s0 H vs Q X hr h => ?_)
  obtain ⟨a, N, rfl, hN, hl, k⟩ := h
  have nd := sc_law_b_cheap.nd
  refine ⟨_, (pss_one (ps_ret (pe_tup (pa_cons (pe_ix (ixT (K := K) rfl) (pv 0) pe_int (fun _ _ => rfl)) (pa_cons (pe_callTy (tupK (K := K) rfl) (by rfl) T.g_tuple (by decide +kernel) (pa_cons (pe_lc (own := [("i", 1), ("j", 2), ("pay", 3), ("late", 4)]) (g := (gTup K 4 (gCons (gName 1) (gCons (gName 2) (gCons (gName 3) (gCons (gName 4) gNil)))))) rfl nd (pi_tupK (K := K) rfl (pe_ix (ixT (K := K) rfl) (pv 0) pe_int (fun _ _ => rfl))) (blkOk_by (own := [("i", 1), ("j", 2), ("pay", 3), ("late", 4)]) (N := N_law_b_cheap) (sc := defScope s_law_b_cheap) (by decide +kernel)) (fun _ _ _ _ _ => (pg_tupK (K := K) rfl rfl (pgs_cons (pg_name (i := 1) nd rfl (Or.inl rfl)) (pgs_cons (pg_name (i := 2) nd rfl (Or.inl rfl)) (pgs_cons (pg_name (i := 3) nd rfl (Or.inl rfl)) (pgs_cons (pg_name (i := 4) nd rfl (Or.inl rfl)) pgs_nil)))))) (fun _ _ _ _ _ => pts_nil) (fun _ _ _ _ _ => (pe_tup (pa_cons (pv 1) (pa_cons (pv 2) (pa_cons (pe_callB (call_min2 rfl) (by rfl) T.g_min (by decide +kernel) (pa_cons (pv 3) (pa_cons (pe_op op_sub pe_int (pe_op op_mod (pv 3) pe_int)) pa_nil))) (pa_cons (pv 4) pa_nil))))))) pa_nil)) pa_nil))))), ?_⟩
  obtain ⟨t, as, ha, ht, hR⟩ := hN.ex
  refine s_retP (evp_netC (ev_ixT (i := 0) (v := .int N.n) (ev_var rfl) ev_c ha rfl) (evn_mapR (f := cheapR) (ev_ixT (i := 1) (v := .ref t) (ev_var rfl) ev_c ha rfl) ht hR hl (fun r => rfl) fun r H1 e1 => ?_)) fun v H1 e1 r => k v H1 e1 r
  exact eu_tup (ea_cons (ev_var rfl) (ea_cons (ev_var rfl) (ea_cons (ev_min2 (ev_var rfl) (ev_op ev_c (ev_op (ev_var rfl) ev_c (rv_I (by decide))) rv_I0)) (ea_cons (ev_var rfl) ea_nil)))) (by show 4 ≤ 100000; decide)
/-! ### by grafts -/
theorem erase_int : ∀ (l : List Int) (j : Nat), (l.map V.int).eraseIdx j = (l.eraseIdx j).map V.int
  | [], _ => rfl
  | _ :: _, 0 => rfl
  | x :: l, j + 1 => by simp [erase_int l j]
theorem et_neI {σ : L2.St} {H : Hp} {t1 t2 : TE} {i j : Int} (h1 : Ev t1 σ H (.int i)) (h2 : Ev t2 σ H (.int j)) : EvT (tTest (tOp rNe t1 t2)) σ H (!decide (i = j)) := by
  have := et_test (ev_op h1 h2 (rv_ne rfl))
  simpa using this
theorem evx_popAt {σ : L2.St} {H : Hp} {ta t2 : TE} {l : Addr} {xs : List V} {R : V → Hp → Prop} (ha : Ev ta σ H (.ref l)) (hl : H l = some (.lst xs))
    (h : ∀ H1, Ex H H1 → EvX t2 σ H1 fun v H2 => ∃ i : Int, v = .int i ∧ 0 ≤ i ∧ i < xs.length ∧ xs.length ≤ 1000 ∧ H2 l = some (.lst xs) ∧ ∀ y, xs[i.toNat]? = some y → R y (upd H2 l (.lst (xs.eraseIdx i.toNat)))) : EvX (tBM K "list" rPopAt ta (tCons t2 tNil)) σ H R := fun Q q =>
  ha H (Ex.refl H) _ fun H1 e1 => ⟨Or.inl ⟨rfl, _, sq_of (e1 l _ hl)⟩, h H1 e1 _ fun v H2 r => by
    obtain ⟨i, rfl, i0, i1, xl, hl2, hr⟩ := r
    have hlt : i.toNat < xs.length := by omega
    exact ⟨l, xs, i, i.toNat, xs[i.toNat], rfl, rfl, hl2, by omega, by omega, seqIndex_of i0 i1, List.getElem?_eq_getElem hlt, q _ _ (hr _ (List.getElem?_eq_getElem hlt))⟩⟩
/-- [x for x in a call's list if x differs from root] -/
theorem evp_lcC {σ : L2.St} {H : Hp} {tl : TE} {t : TT} {j : Nat} {R0 : List Int → Prop} {f : Int → Bool} (h : EvP tl σ H (fun v H2 => ∃ (l : Addr) (S : List Int), v = .ref l ∧ H2 l = some (.lst (S.map V.int)) ∧ S.length ≤ 1000 ∧ R0 S))
    (hw : ∀ x, wipe ((wipe σ [j]).set j x) [j] = wipe σ [j]) (hj : ∀ x, ((wipe σ [j]).set j x)[j]? = some x) (ht : ∀ x H1, Ex H H1 → EvT t ((wipe σ [j]).set j (some (.int x))) H1 (f x)) :
    EvP (tLc (iList K tl) (gName j) t (tVar j) [j]) σ H fun v H2 => ∃ (p : Addr) (S : List Int), v = .ref p ∧ H p = none ∧ H2 p = some (.lst ((S.filter f).map V.int)) ∧ R0 S := fun H0 e0 Q q =>
  h H0 e0 _ fun v H1 e1 r => by
    obtain ⟨l, S, rfl, hl, hS, r0⟩ := r
    refine ⟨l, rfl, ⟨_, sq_of hl⟩, fun Dl hD => lc_run (H := H1) (walks_lst K l (S.map V.int)) (fun H2 e => sq_of (e _ _ hl)) (by rw [List.length_map]; omega) (fun i => f (S.getD i 0)) (fun i => (wipe σ [j]).set j ((S.map V.int)[i]?)) (fun i acc _ => acc = ((S.take i).filter f).map V.int) sets_name (fun i hi => hw _) ?_ (Ex.refl H1) hD
      fun acc H2 e2 h2 hlen r => q _ H2 (e1.trans e2) ⟨Dl, S, rfl, fresh_back (e0.trans e1) hD, by rw [h2, r, List.length_map, List.take_length], r0⟩⟩
    have gx : ∀ i, i < (S.map V.int).length → ∃ x, S[i]? = some x ∧ S.getD i 0 = x ∧ (S.map V.int)[i]? = some (.int x) := fun i hi => by
      have hi' : i < S.length := by simpa using hi
      exact ⟨S[i], List.getElem?_eq_getElem hi', by rw [List.getD_eq_getElem?_getD, List.getElem?_eq_getElem hi']; rfl, by simp [hi']⟩
    refine ⟨fun i acc H3 H4 e r => r, fun H3 e => rfl, fun i H3 hi e => ?_, fun i acc H3 hi e hf r => ?_, fun i acc H3 hi e hf r => ?_⟩
    · obtain ⟨x, h1, h2, h3⟩ := gx i hi
      rw [h2, h3]
      exact ht x H3 ((e0.trans e1).trans e)
    · obtain ⟨x, h1, h2, h3⟩ := gx i hi
      rw [h2] at hf
      refine fun H4 e4 Q q => (ev_var (v := .int x) (by rw [h3]; exact hj _)) H4 e4 Q fun H5 e5 => q _ H5 e5 ?_
      rw [r, List.take_succ, h1, List.filter_append]
      simp [hf]
    · obtain ⟨x, h1, h2, h3⟩ := gx i hi
      rw [h2] at hf
      rw [r, List.take_succ, h1, List.filter_append]
      simp [hf]
theorem evp_reached {σ : L2.St} {H : Hp} {E : XK} {t1 t2 : TE} {a : Addr} {N : Net} {root : Int} (h1 : Ev t1 σ H (.ref a)) (h2 : Ev t2 σ H (.int root)) (hN : NetAt H a N) (ok : N.Ok) (r0 : 0 ≤ root) (r1 : root < N.n) :
    EvP (tCall (spReached K) [] E (tCons t1 (tCons t2 tNil))) σ H (fun v H2 => ∃ (l : Addr) (S : List Int), v = .ref l ∧ H2 l = some (.lst (S.map V.int)) ∧ S.length ≤ 1000 ∧ (S.length ≤ N.n.toNat ∧ S.Pairwise (· < ·) ∧ ∀ x, x ∈ S ↔ Reach N root x)) :=
  evp_call (ea_cons h1 (ea_cons h2 ea_nil)) fun H1 e1 Q q => ⟨a, N, root, rfl, hN.mono (tex e1), ok, r0, r1, fun v H2 e2 r => q v H2 e2 (by
    obtain ⟨l, S, rfl, _, hl, hu, hm⟩ := r
    have := len_range (nd_of_up hu) fun x hx => reach_range ok r0 r1 ((hm x).mp hx)
    have := ok.n1
    have := ok.n12
    exact ⟨l, S, rfl, hl, by omega, by omega, hu, hm⟩)⟩
def spByGrafts (K : PySem.W.Frag) : Sp := fun vs H Q _ => ∃ (tp sc a : Addr) (ns : List Int) (N : Net) (root : Int), vs = [.ref tp, .ref a, .int root] ∧ Tape K tp sc ns H ∧ NetAt H a N ∧ N.Ok ∧ 0 ≤ root ∧ root < N.n ∧
  ∀ d H2, ExB [tp] H H2 → Tape K tp sc ns H2 → Full N root d → Q (.int (cst N d)) H2
abbrev s_law_b_by_grafts : Stmt := top 59
abbrev N_law_b_by_grafts : List Str := ["tape", "net", "root", "left", "place", "ahead"]
theorem sc_law_b_by_grafts : FnScope N_law_b_by_grafts ["tape", "net", "root"] (defScope s_law_b_by_grafts) := fnScope_by (by decide +kernel)
theorem ok_law_b_by_grafts (F : DefAt K mg "_law_b_by_grafts" s_law_b_by_grafts ["tape", "net", "root"]) (T : Txt K mg) (c__law_b_reached : Cal P w K mg base 1 "_law_b_reached" (spReached K) []) (c__law_b_digit : Cal P w K mg base 2 "_law_b_digit" (spDigit K) []) (c_graft : Cal P w K mg base 6 "graft" spGraft []) (c_price : Cal P w K mg base 6 "price" spPrice []) :
    Cal P w K mg base 7 "_law_b_by_grafts" (spByGrafts K) [] := by
  refine F.cal sc_law_b_by_grafts (by walk_at "len") (fun f0 cdv A outer s0 H vs Q X hr h => ?_)
  obtain ⟨tp, sc, a, ns, N, root, rfl, hT, hN, hok, r0, r1, k⟩ := h
  have nd := sc_law_b_by_grafts.nd
  refine ⟨_, (pss_cons (ps_setLc (i := 3) (own := [("place", 4)]) (g := (gName 4)) rfl nd rfl rfl (sw_true rfl rfl rfl (by decide +kernel)) (pi_lstK (K := K) rfl (pe_c c__law_b_reached hr (by decide) (by rfl) (pa_cons (pv 1) (pa_cons (pv 2) pa_nil)))) (blkOk_by (own := [("place", 4)]) (N := N_law_b_by_grafts) (sc := defScope s_law_b_by_grafts) (by decide +kernel)) (fun _ _ _ _ _ => (pg_name (i := 4) nd rfl (Or.inl rfl))) (fun _ _ _ _ _ => (pts_one (pt_cmpR op_ne (pv 4) (pv 2) (nomark _)))) (fun _ _ _ _ _ => (pv 4)))
      (pss_cons (ps_set (i := 5) nd rfl (Or.inl rfl) pe_dnewK)
      (pss_cons (ps_while PassesOwn.never (pt_cmpR (neK (K := K) rfl hr.units) (pv 3) (pe_lst pa_nil) (nomark _)) (pss_cons (ps_set (i := 4) nd rfl (Or.inl rfl) (pe_bm PySem.F.plainAttrs_list PySem.F.slot_list_pop PySem.F.type_list_pop mt_popAt (pv 3) (pa_cons (pe_c c__law_b_digit hr (by decide) (by rfl) (pa_cons (pv 0) (pa_cons (pe_callB (lenS (K := K) rfl) (by rfl) T.g_len PySem.boot_len (pa_cons (pv 3) pa_nil)) pa_nil))) pa_nil)))
      (pss_one (ps_set (i := 5) nd rfl (Or.inl rfl) (pe_ix (ixT (K := K) rfl) (pe_c c_graft hr (by decide) (by rfl) (pa_cons (pv 1) (pa_cons (pv 2) (pa_cons (pv 5) (pa_cons (pv 4) pa_nil))))) pe_int (fun _ _ => rfl))))))
      (pss_one (ps_ret (pe_c c_price hr (by decide) (by rfl) (pa_cons (pv 1) (pa_cons (pv 2) (pa_cons (pv 5) pa_nil))))))))), ?_⟩
  obtain ⟨pos0, c0, hc0, _, _⟩ := hT.cell
  refine q_asgP (evp_lcC (K := K) (j := 4) (f := fun x => !decide (x = root)) (evp_reached (ev_var rfl) (ev_var rfl) hN hok r0 r1) (fun x => rfl) (fun x => rfl) fun x H1 e1 => ?_) fun v H1 e1 r => ?_
  · exact et_neI (ev_var rfl) (ev_var rfl)
  obtain ⟨l, S, rfl, l0, hl, hlen, hu, hm⟩ := r
  have lt : l ≠ tp := (ne_of_none hc0 l0).symm
  refine q_asgW ew_newK fun b H2 b1 e2 hb => ?_
  have b0 : H b = none := fresh_back e1 b1
  have lb : l ≠ b := ne_of_none hl b1
  have e12 := e1.trans e2
  have slen : (S.filter (fun x => !decide (x = root))).length ≤ 12 := by
    have := List.length_filter_le (fun x => !decide (x = root)) S
    have := hok.n12
    omega
  refine q_whileW (fun m σ H' => ∃ (L : List Int) (b : Addr) (d : D) (x4 : Option V), m = L.length ∧ σ = [some (.ref tp), some (.ref a), some (.int root), some (.ref l), x4, some (.ref b)] ∧ ExB [tp] H H' ∧ Tape K tp sc ns H' ∧ H' l = some (.lst (L.map V.int)) ∧ L.length ≤ 12 ∧ b ≠ l ∧ b ≠ tp ∧ H' b = some (.dK (dI d)) ∧ Tree N root d ∧ (∀ x ∈ L, Reach N root x) ∧ ∀ x, Reach N root x → x ≠ root → x ∈ L ∨ x ∈ keys d) _
    ⟨_, b, [], none, rfl, rfl, ExB.of e12, hT.mono e12, e2 _ _ hl, slen, lb.symm, (ne_of_none hc0 b0).symm, hb, ⟨by simp [keys], by simp [keys], fun e he => by simp at he, fun k hk => by simp [keys] at hk⟩, fun x hx => (hm x).mp (List.mem_filter.mp hx).1, fun x hx hne => .inl (List.mem_filter.mpr ⟨(hm x).mpr hx, by simpa using hne⟩)⟩ ?_
  rintro m σ H3 ⟨L, b, d, x4, rfl, rfl, E3, T3, hl3, hL, bl, bt, hb3, Tr, hLr, hall⟩
  have N3 := hN.mono (hT.tex E3)
  have dfew := tree_few hok r0 r1 Tr
  have dl := dfew.len hok.n12
  refine ⟨_, et_test (ev_neLI (ev_var rfl) (sq_of hl3)), fun eb H4 e4 => ?_, fun eb H4 e4 => ?_⟩
  · have hLne : 1 ≤ L.length := by
      cases L with
      | nil => simp at eb
      | cons x xs => simp
    have hl4 := e4 _ _ hl3
    have T4 := T3.mono e4
    refine xq_asg (evx_popAt (ev_var rfl) hl4 fun H5 e5 => dig_x (ev_var rfl) (ev_lenL (ev_var rfl) (e5 _ _ hl4)) (T4.mono e5) (by rw [List.length_map]; omega) (by rw [List.length_map]; omega) fun i H6 e6 t6 i0 i1 => ⟨i, rfl, i0, i1, by rw [List.length_map]; omega, e6 _ _ (by simpa using lt) (e5 _ _ hl4), fun y hy => ?_⟩)
    rw [List.getElem?_map] at hy
    obtain ⟨x, hx, rfl⟩ := Option.map_eq_some_iff.mp hy
    have hxm := List.mem_of_getElem? hx
    have hil : i.toNat < L.length := (List.getElem?_eq_some_iff.mp hx).1
    have hl6 : H6 l = some (.lst (L.map V.int)) := e6 _ _ (by simpa using lt) (e5 _ _ hl4)
    have em : (L.map V.int).eraseIdx i.toNat = (L.eraseIdx i.toNat).map V.int := erase_int L i.toNat
    rw [em]
    have E6 : ExB [tp] H (upd H6 l (.lst ((L.eraseIdx i.toNat).map V.int))) := ((E3.trans (ExB.of (e4.trans e5))).trans e6).fr l0
    have T6 : Tape K tp sc ns (upd H6 l (.lst ((L.eraseIdx i.toNat).map V.int))) := hT.fr ((E3.trans (ExB.of (e4.trans e5))).trans e6) t6 l0
    have hb6 : (upd H6 l (.lst ((L.eraseIdx i.toNat).map V.int))) b = some (.dK (dI d)) := by rw [upd_ne bl]; exact e6 _ _ (by simpa using bt) (e5 _ _ (e4 _ _ hb3))
    have hl7 : (upd H6 l (.lst ((L.eraseIdx i.toNat).map V.int))) l = some (.lst ((L.eraseIdx i.toNat).map V.int)) := upd_same
    generalize upd H6 l (.lst ((L.eraseIdx i.toNat).map V.int)) = G at *
    have NG := hN.mono (hT.tex E6)
    show (tAsg _ _ : TS) _ ([some (.ref tp), some (.ref a), some (.int root), some (.ref l), some (.int x), some (.ref b)] : L2.St) G
    refine s_asgP (evp_ix (K := K) (i := 0) (R := fun v H2 => ∃ b' d', v = .ref b' ∧ H2 b' = some (.dK (dI d')) ∧ Tree N root d' ∧ (∀ k ∈ keys d, k ∈ keys d') ∧ (x = root ∨ x ∈ keys d')) (evp_call (sp := spGraft) (R := fun v H2 => ∃ t lb u nb l', v = .ref t ∧ H2 t = some (.tup [.ref lb, u, .ref nb]) ∧ H2 lb = some (.dK (dI l')) ∧ Tree N root l' ∧ (∀ k ∈ keys d, k ∈ keys l') ∧ (x = root ∨ x ∈ keys l')) (ea_cons (ev_var rfl) (ea_cons (ev_var rfl) (ea_cons (ev_var rfl) (ea_cons (ev_var rfl) ea_nil)))) fun H7 e7 Q q => ⟨a, b, N, root, x, d, rfl, NG.mono (HK.tex e7), hok, r0, r1, hLr x hxm, e7 _ _ hb6, Tr, q⟩) (fun v H7 r => by
      obtain ⟨t, lb', u, nb, l', rfl, h1, h2⟩ := r
      exact ⟨t, _, .ref lb', rfl, h1, rfl, lb', l', rfl, h2⟩)) fun v H7 e7 r => ?_
    obtain ⟨b', d', rfl, hb', Tr', hk', hx'⟩ := r
    have hl8 := e7 _ _ hl7
    have nbl : b' ≠ l := fun z => by
      rw [z, hl8] at hb'; cases hb'
    have nbt : b' ≠ tp := fun z => by
      obtain ⟨p, c, h1, _⟩ := (T6.mono e7).cell
      rw [z, h1] at hb'; cases hb'
    refine ⟨(L.eraseIdx i.toNat).length, by rw [List.length_eraseIdx_of_lt hil]; omega, L.eraseIdx i.toNat, b', d', _, rfl, rfl, E6.trans (ExB.of e7), T6.mono e7, hl8, by rw [List.length_eraseIdx_of_lt hil]; omega, nbl, nbt, hb', Tr', fun y hy => hLr y ((List.eraseIdx_sublist ..).subset hy), fun y hy hne => ?_⟩
    rcases hall y hy hne with h | h
    · by_cases q : y = x
      · right; rw [q]; exact hx'.resolve_left (by rw [← q]; exact hne)
      · left
        obtain ⟨m, hm, e⟩ := List.getElem_of_mem h
        refine List.mem_eraseIdx_iff_getElem.mpr ⟨m, hm, fun z => q ?_, e⟩
        rw [← e]
        have := (List.getElem?_eq_some_iff.mp hx).2
        rw [← this]
        simp only [z]
    · exact .inr (hk' y h)
  · have hLe : L = [] := by simpa using eb
    subst hLe
    have F : Full N root d := ⟨Tr, fun x hx hne => (hall x hx hne).resolve_left (by simp)⟩
    refine s_ret (ev_price (ev_var rfl) (ev_var rfl) (ev_var rfl) (N3.mono (HK.tex e4)) hok r0 r1 (e4 _ _ hb3) (by omega) Tr) fun H5 e5 => k d H5 (E3.trans (ExB.of (e4.trans e5))) (T3.mono (e4.trans e5)) F
end
end HK

/-! part HLE -/
/-! The law's own functions: the least price. -/
namespace HK
open PySem PySem.Spec PyProof.Rows L2 Evl
open C8 (Cal Met Mak pe_c pe_mk pe_mt pe_mt0 pe_gc fnScope_by)
open LamX (ExtN)
set_option hygiene false in
local macro_rules | `(tactic| walk_at "len") => `(tactic| (intro vs H Q E h; first
  | (obtain ⟨rfl, _⟩ := h; rfl)
  | (obtain ⟨_, rfl, _⟩ := h; rfl)
  | (obtain ⟨_, _, rfl, _⟩ := h; rfl)
  | (obtain ⟨_, _, _, rfl, _⟩ := h; rfl)
  | (obtain ⟨_, _, _, _, rfl, _⟩ := h; rfl)
  | (obtain ⟨_, _, _, _, _, rfl, _⟩ := h; rfl)
  | (obtain ⟨_, _, _, _, _, _, rfl, _⟩ := h; rfl)
  | (obtain ⟨_, _, _, _, _, _, _, rfl, _⟩ := h; rfl)
  | (obtain ⟨_, _, _, _, _, _, _, _, rfl, _⟩ := h; rfl)
  | (obtain ⟨_, _, _, _, _, _, _, _, _, rfl, _⟩ := h; rfl)
  | (obtain ⟨_, _, _, _, _, _, _, _, _, _, rfl, _⟩ := h; rfl)
  | (obtain ⟨_, _, _, _, _, _, _, _, _, _, _, rfl, _⟩ := h; rfl)
  | (obtain ⟨_, _, _, _, _, _, _, _, _, _, _, _, rfl, _⟩ := h; rfl)
  | (obtain ⟨_, _, _, _, _, _, _, _, _, _, _, _, _, rfl, _⟩ := h; rfl)
  | (obtain ⟨_, _, _, _, _, _, _, _, _, _, _, _, _, _, rfl, _⟩ := h; rfl)
  | (obtain ⟨_, _, _, _, _, _, _, _, _, _, _, _, _, _, _, rfl, _⟩ := h; rfl)
  | (obtain ⟨_, _, _, _, _, _, _, _, _, _, _, _, _, _, _, _, rfl, _⟩ := h; rfl)
  | (obtain ⟨_, _, _, _, _, _, _, _, _, _, _, _, _, _, _, _, _, rfl, _⟩ := h; rfl)
  | (obtain ⟨_, _, _, _, _, _, _, _, _, _, _, _, _, _, _, _, _, _, rfl, _⟩ := h; rfl)
  | (obtain ⟨_, _, _, _, _, _, _, _, _, _, _, _, _, _, _, _, _, _, _, rfl, _⟩ := h; rfl)
  | (obtain ⟨_, _, _, _, _, _, _, _, _, _, _, _, _, _, _, _, _, _, _, _, rfl, _⟩ := h; rfl)
  | (obtain ⟨_, _, _, _, _, _, _, _, _, _, _, _, _, _, _, _, _, _, _, _, _, rfl, _⟩ := h; rfl)
  | (obtain ⟨_, _, _, _, _, _, _, _, _, _, _, _, _, _, _, _, _, _, _, _, _, _, rfl, _⟩ := h; rfl)
  | (obtain ⟨_, _, _, _, _, _, _, _, _, _, _, _, _, _, _, _, _, _, _, _, _, _, _, rfl, _⟩ := h; rfl)
  | (obtain ⟨_, _, _, _, _, _, _, _, _, _, _, _, _, _, _, _, _, _, _, _, _, _, _, _, rfl, _⟩ := h; rfl)
  | (obtain ⟨_, _, _, _, _, _, _, _, _, _, _, _, _, _, _, _, _, _, _, _, _, _, _, _, _, rfl, _⟩ := h; rfl)))

theorem RowsI.nil (N : Net) : RowsI N [] [[]] := ⟨fun d hd => by rw [List.mem_singleton.mp hd]; rfl, fun d hd _ => by
  have : d = [] := by
    cases d with
    | nil => rfl
    | cons x xs => simp [keys] at hd
  rw [this]; simp⟩
theorem RowsI.step {N : Net} {ps : List Int} {Rs : List D} (I : RowsI N ps Rs) (p : Int) : RowsI N (ps ++ [p]) ((N.rs.filter fun r => decide (r.j = p)).flatMap fun r => Rs.map fun d => d ++ [(p, r.i)]) := by
  refine ⟨fun d hd => ?_, fun d hk hh => ?_⟩
  · obtain ⟨r, hr, hd⟩ := List.mem_flatMap.mp hd
    obtain ⟨d0, h0, rfl⟩ := List.mem_map.mp hd
    rw [keys_snoc, I.key d0 h0]
  · unfold keys at hk
    obtain ⟨d0, d1, rfl, h0, h1⟩ := List.map_eq_append_iff.mp hk
    cases d1 with
    | nil => simp at h1
    | cons e d2 =>
      have h2 : d2 = [] := by
        cases d2 with
        | nil => rfl
        | cons x xs => simp at h1
      subst h2
      have he : e.1 = p := by simpa using h1
      obtain ⟨r, hr, hi, hj⟩ := hh e (by simp)
      refine List.mem_flatMap.mpr ⟨r, List.mem_filter.mpr ⟨hr, by simp [hj, he]⟩, List.mem_map.mpr ⟨d0, I.all d0 h0 fun x hx => hh x (by simp [hx]), ?_⟩⟩
      rw [hi, ← he]
theorem flat_len {α β : Type} (l : List α) (g : α → List β) (n : Nat) (h : ∀ x ∈ l, (g x).length = n) : (l.flatMap g).length = l.length * n := by
  induction l with
  | nil => simp
  | cons a l ih =>
    rw [List.flatMap_cons, List.length_append, h a (List.mem_cons_self ..), ih fun x hx => h x (List.mem_cons_of_mem _ hx), List.length_cons, Nat.add_mul]
    omega
abbrev DL := Addr × D
def refD (es : List DL) : List V := es.map fun e => V.ref e.1
def DAt (H : Hp) (es : List DL) : Prop := ∀ e ∈ es, H e.1 = some (.dK (dI e.2))
theorem DAt.mono {H H' : Hp} {es : List DL} (e : Ex H H') (h : DAt H es) : DAt H' es := fun x hx => e _ _ (h x hx)
theorem DAt.lst {H : Hp} {es : List DL} {l : Addr} {xs : List V} {o : HO} (h : DAt H es) (hl : H l = some (.lst xs)) : DAt (upd H l o) es := fun x hx => by
  rw [upd_ne (fun z => by have := h x hx; rw [z, hl] at this; cases this)]; exact h x hx
theorem refD_get {es : List DL} {i : Nat} {x : V} (h : (refD es)[i]? = some x) : ∃ t, es[i]? = some t ∧ x = .ref t.1 := by
  unfold refD at h
  rw [List.getElem?_map] at h
  obtain ⟨t, h1, h2⟩ := Option.map_eq_some_iff.mp h
  exact ⟨t, h1, h2.symm⟩
section
variable {P : Program} {w : World} {K : PySem.W.Frag} {mg : Str → Option Value} {base : Heap}
theorem evp_lst1W {t : TE} {o : HO} {σ : L2.St} {H : Hp} (h : EvW t σ H o) : EvP (tLst (tCons t tNil)) σ H (fun v H2 => ∃ l p, v = .ref l ∧ H l = none ∧ H2 l = some (.lst [.ref p]) ∧ H2 p = some o) := fun H1 e Q q =>
  h H1 e _ fun p H2 hp e2 h2 => ⟨sz_of (by show 1 ≤ 100000; decide), fun l hl => q _ _ (e2.trans (Ex.new hl)) ⟨l, p, rfl, fresh_back (e.trans e2) hl, upd_same, by rw [upd_ne (ne_of_none h2 hl)]; exact h2⟩⟩
open Classical in
noncomputable def isT (N : Net) (root : Int) (d : D) : Bool := decide (Tree N root d)
theorem isT_iff {N : Net} {root : Int} {d : D} : isT N root d = true ↔ Tree N root d := by unfold isT; simp
def spLeast : Sp := fun vs H Q _ => ∃ (a : Addr) (N : Net) (root : Int), vs = [.ref a, .int root] ∧ NetAt H a N ∧ N.Ok ∧ 0 ≤ root ∧ root < N.n ∧ N.n ≤ 4 ∧ (∃ d, Full N root d) ∧ RetP (fun v _ => ∃ t : Int, v = .int t ∧ IsMin N root t) H Q
abbrev s_law_b_least : Stmt := top 55
abbrev N_law_b_least : List Str := ["net", "root", "there", "rows", "place", "longer", "i", "j", "pay", "late", "one", "more"]
theorem sc_law_b_least : FnScope N_law_b_least ["net", "root"] (defScope s_law_b_least) := fnScope_by (by decide +kernel)
theorem ok_law_b_least (F : DefAt K mg "_law_b_least" s_law_b_least ["net", "root"]) (T : Txt K mg) (c__law_b_is_tree : Cal P w K mg base 2 "_law_b_is_tree" spIsTree []) (c_price : Cal P w K mg base 6 "price" spPrice []) (c__law_b_reached : Cal P w K mg base 1 "_law_b_reached" (spReached K) []) : Cal P w K mg base 7 "_law_b_least" spLeast [] := by
  refine F.cal sc_law_b_least (by walk_at "len") (fun f0 cdv A outer s0 H vs Q X hr h => ?_)
  obtain ⟨a, N, root, rfl, hN, hok, r0, r1, n4, ⟨dF, hF⟩, k⟩ := h
  have nd := sc_law_b_least.nd
  refine ⟨_, (pss_cons (ps_set (i := 2) nd rfl (Or.inl rfl) (pe_c c__law_b_reached hr (by decide) (by rfl) (pa_cons (pv 0) (pa_cons (pv 1) pa_nil))))
      (pss_cons (ps_set (i := 3) nd rfl (Or.inl rfl) (pe_lst (pa_cons pe_dnewK pa_nil)))
      (pss_cons (ps_for PassesOwn.never rfl (pi_lstK (K := K) rfl (pv 2)) (pg_name (i := 4) nd rfl (Or.inl rfl)) (pss_one (ps_if (pt_cmpR op_ne (pv 4) (pv 1) (nomark _)) (pss_cons (ps_set (i := 5) nd rfl (Or.inl rfl) (pe_lst pa_nil))
      (pss_cons (ps_for PassesOwn.never rfl (pi_tupK (K := K) rfl (pe_ix (ixT (K := K) rfl) (pv 0) pe_int (fun _ _ => rfl))) (pg_tupK (K := K) rfl rfl (pgs_cons (pg_name (i := 6) nd rfl (Or.inl rfl)) (pgs_cons (pg_name (i := 7) nd rfl (Or.inl rfl)) (pgs_cons (pg_name (i := 8) nd rfl (Or.inl rfl)) (pgs_cons (pg_name (i := 9) nd rfl (Or.inl rfl)) pgs_nil))))) (pss_one (ps_if (pt_cmpR op_eq (pv 7) (pv 4) (nomark _)) (pss_one (ps_for PassesOwn.never rfl (pi_lstK (K := K) rfl (pv 3)) (pg_name (i := 10) nd rfl (Or.inl rfl)) (pss_cons (ps_set (i := 11) nd rfl (Or.inl rfl) (pe_callTy call_dictD (by rfl) T.g_dict (by decide +kernel) (pa_cons (pv 10) pa_nil)))
      (pss_cons (ps_dput (hu_of hr) (pv 11) (pv 4) (pv 6) rfl)
      (pss_one (ps_expr (pe_bm PySem.F.plainAttrs_list PySem.F.slot_list_append PySem.F.type_list_append mt_append (pv 5) (pa_cons (pv 11) pa_nil)))))))) pss_nil)))
      (pss_one (ps_set (i := 3) nd rfl (Or.inl rfl) (pv 5))))) pss_nil)))
      (pss_one (ps_ret (pe_callB (minK (K := K) rfl rfl) (by rfl) T.g_min (by decide +kernel) (pa_cons (pe_lc (own := [("one", 10)]) (g := (gName 10)) rfl nd (pi_lstK (K := K) rfl (pv 3)) (blkOk_by (own := [("one", 10)]) (N := N_law_b_least) (sc := defScope s_law_b_least) (by decide +kernel)) (fun _ _ _ _ _ => (pg_name (i := 10) nd rfl (Or.inl rfl))) (fun _ _ _ _ _ => (pts_one (pt_val (pe_c c__law_b_is_tree hr (by decide) (by rfl) (pa_cons (pv 0) (pa_cons (pv 1) (pa_cons (pv 10) pa_nil))))))) (fun _ _ _ _ _ => (pe_c c_price hr (by decide) (by rfl) (pa_cons (pv 0) (pa_cons (pv 1) (pa_cons (pv 10) pa_nil)))))) pa_nil))))))), ?_⟩
  obtain ⟨t, as, ha, ht, hR⟩ := hN.ex
  have n1 := hok.n1
  have rs16 : N.rs.length ≤ 16 := by
    have h1 := roads_sq hok
    have h2 : N.n.toNat ≤ 4 := by omega
    exact Nat.le_trans h1 (Nat.le_trans (Nat.mul_le_mul h2 h2) (by decide))
  refine q_asgP (evp_reached (ev_var rfl) (ev_var rfl) hN hok r0 r1) fun v H1 e1 r => ?_
  obtain ⟨l, S, rfl, hl, _, hSn, hu, hm⟩ := r
  have ndS := nd_of_up hu
  have p3 : (S.filter fun x => !decide (x = root)).length ≤ 3 := by
    have : (S.filter fun x => !decide (x = root)).length < S.length := List.length_filter_lt_length_iff_exists.mpr ⟨root, (hm root).mpr .root, by simp⟩
    omega
  refine q_asgP (evp_lst1W ew_newK) fun v H2 e2 r => ?_
  obtain ⟨rb0, p0, rfl, hrb00, hrb0, hp0⟩ := r
  have e12 := e1.trans e2
  have pw : ∀ p : Nat, p ≤ 3 → 16 ^ p ≤ 4096 := fun p hp => Nat.le_trans (Nat.pow_le_pow_right (by decide) hp) (by decide)
  have take3 : ∀ n, ((S.take n).filter fun x => !decide (x = root)).length ≤ 3 := fun n => Nat.le_trans ((List.take_sublist n S).filter _).length_le p3
  refine q_forLW (ev_var rfl) (e2 _ _ hl) (fun n σ H' => ∃ (rb : Addr) (es : List DL) (x4 x5 x6 x7 x8 x9 x10 x11 : Option V), σ = [some (.ref a), some (.int root), some (.ref l), some (.ref rb), x4, x5, x6, x7, x8, x9, x10, x11] ∧ Ex H H' ∧ H' l = some (.lst (S.map V.int)) ∧ H' rb = some (.lst (refD es)) ∧ DAt H' es ∧ RowsI N ((S.take n).filter fun x => !decide (x = root)) (es.map (·.2)) ∧ es.length ≤ 16 ^ ((S.take n).filter fun x => !decide (x = root)).length)
    (fun H3 e3 => ⟨rb0, [(p0, [])], none, none, none, none, none, none, none, none, rfl, e12.trans e3, e3 _ _ (e2 _ _ hl), e3 _ _ hrb0, fun x hx => by rw [List.mem_singleton.mp hx]; exact e3 _ _ hp0, by simpa using RowsI.nil N, by simp⟩)
    (fun n σ H' _ p => by obtain ⟨_, _, _, _, _, _, _, _, _, _, _, _, h, _⟩ := p; exact h) ?_ ?_
  · rintro n x σ H3 hx ⟨rb, es, x4, x5, x6, x7, x8, x9, x10, x11, rfl, e3, hl3, hrb3, hD3, I, hes⟩
    rw [List.getElem?_map] at hx
    obtain ⟨pl, hpl, rfl⟩ := Option.map_eq_some_iff.mp hx
    have nlt : n < S.length := (List.getElem?_eq_some_iff.mp hpl).1
    show (tIfS _ _ _ : TS) _ ([some (.ref a), some (.int root), some (.ref l), some (.ref rb), some (.int pl), x5, x6, x7, x8, x9, x10, x11] : L2.St) H3
    have tk : (S.take (n + 1)).filter (fun x => !decide (x = root)) = (S.take n).filter (fun x => !decide (x = root)) ++ (if pl = root then [] else [pl]) := by
      rw [List.take_succ, hpl, List.filter_append]
      by_cases q : pl = root <;> simp [q]
    refine s_when (et_neI (ev_var rfl) (ev_var rfl)) (fun q H4 e4 => ?_) (fun q H4 e4 => ?_)
    · have qr : pl ≠ root := by simpa using q
      rw [if_neg qr] at tk
      have pnot : pl ∉ (S.take n).filter (fun x => !decide (x = root)) := fun z => by
        have h1 : (S.take (n + 1)).Nodup := ndS.sublist (List.take_sublist _ _)
        rw [List.take_succ, hpl] at h1
        exact (List.nodup_append.mp h1).2.2 pl (List.mem_filter.mp z).1 pl (by simp) rfl
      have plen : ((S.take n).filter fun x => !decide (x = root)).length + 1 ≤ 3 := by
        have := take3 (n + 1)
        rw [tk, List.length_append] at this
        simpa using this
      have es256 : es.length ≤ 256 := Nat.le_trans hes (Nat.le_trans (Nat.pow_le_pow_right (by decide) (show _ ≤ 2 by omega)) (by decide))
      refine q_asgL (el_lst ea_nil (Nat.zero_le _)) fun lb H5 lb4 e5 hlb => ?_
      have e45 := e4.trans e5
      have lb3 : H3 lb = none := fresh_back e4 lb4
      have lb0 : H lb = none := fresh_back e3 lb3
      refine q_forTW (xs := as.map V.ref) (ev_ixT (i := 1) (v := .ref t) (ev_var rfl) ev_c ((e3.trans e45) _ _ ha) rfl) ((e3.trans e45) _ _ ht) (fun m σ H' => ∃ (fs : List DL) (x6 x7 x8 x9 x10 x11 : Option V), σ = [some (.ref a), some (.int root), some (.ref l), some (.ref rb), some (.int pl), some (.ref lb), x6, x7, x8, x9, x10, x11] ∧ Ex H3 H' ∧ TEx H5 H' ∧ H' lb = some (.lst (refD fs)) ∧ DAt H' fs ∧ fs.map (·.2) = ((N.rs.take m).filter fun r => decide (r.j = pl)).flatMap fun r => (es.map (·.2)).map fun d => d ++ [(pl, r.i)])
        (fun H6 e6 => ⟨[], x6, x7, x8, x9, x10, x11, rfl, e45.trans e6, tex e6, e6 _ _ hlb, fun x hx => by simp at hx, by simp⟩) (fun m σ H' _ p => by obtain ⟨_, _, _, _, _, _, _, _, _, e, _⟩ := p; exact e) ?_ ?_
      · rintro m x σ H6 hx ⟨fs, x6, x7, x8, x9, x10, x11, rfl, e6, tx6, hlb6, hf6, hfs⟩
        obtain ⟨c, r, rfl, hc1, hc2, hc3⟩ := hR.get hx
        refine g4 ((e3.trans e6) _ _ hc3) ?_
        have tkr : ((N.rs.take (m + 1)).filter fun r => decide (r.j = pl)) = ((N.rs.take m).filter fun r => decide (r.j = pl)) ++ (if r.j = pl then [r] else []) := by
          rw [List.take_succ, hc2, List.filter_append]
          by_cases q : r.j = pl <;> simp [q]
        show (tIfS _ _ _ : TS) _ ([some (.ref a), some (.int root), some (.ref l), some (.ref rb), some (.int pl), some (.ref lb), some (.int r.i), some (.int r.j), some (.int r.p), some (.int r.l), x10, x11] : L2.St) H6
        have heq : EvT (tTest (tOp rEq (tVar 7) (tVar 4))) ([some (.ref a), some (.int root), some (.ref l), some (.ref rb), some (.int pl), some (.ref lb), some (.int r.i), some (.int r.j), some (.int r.p), some (.int r.l), x10, x11] : L2.St) H6 (decide (r.j = pl)) := by
          have := et_test (ev_op (σ := ([some (.ref a), some (.int root), some (.ref l), some (.ref rb), some (.int pl), some (.ref lb), some (.int r.i), some (.int r.j), some (.int r.p), some (.int r.l), x10, x11] : L2.St)) (H := H6) (ta := tVar 7) (tb := tVar 4) (x := .int r.j) (y := .int pl) (ev_var rfl) (ev_var rfl) (rv_eq rfl))
          simpa using this
        have flen : fs.length ≤ 16 * es.length := by
          have h1 := congrArg List.length hfs
          rw [List.length_map, flat_len _ _ es.length (fun r _ => by simp)] at h1
          have h2 : ((N.rs.take m).filter fun r => decide (r.j = pl)).length ≤ 16 := Nat.le_trans (List.length_filter_le _ _) (by rw [List.length_take]; omega)
          rw [h1]; exact Nat.mul_le_mul_right _ h2
        refine s_when heq (fun q H7 e7 => ?_) (fun q H7 e7 => ?_)
        · have qj : r.j = pl := by simpa using q
          rw [if_pos qj] at tkr
          have E7 := e6.trans e7
          refine s_forLW (ev_var rfl) (E7 _ _ hrb3) (fun u σ H' => ∃ (gs : List DL) (x10 x11 : Option V), σ = [some (.ref a), some (.int root), some (.ref l), some (.ref rb), some (.int pl), some (.ref lb), some (.int r.i), some (.int r.j), some (.int r.p), some (.int r.l), x10, x11] ∧ Ex H3 H' ∧ TEx H7 H' ∧ H' lb = some (.lst (refD gs)) ∧ DAt H' gs ∧ gs.map (·.2) = fs.map (·.2) ++ ((es.take u).map (·.2)).map fun d => d ++ [(pl, r.i)])
            (fun H8 e8 => ⟨fs, x10, x11, rfl, E7.trans e8, tex e8, (e7.trans e8) _ _ hlb6, hf6.mono (e7.trans e8), by simp⟩) (fun u σ H' _ p => by obtain ⟨_, _, _, _, e, _⟩ := p; exact e _ _ hrb3) ?_ ?_
          · rintro u x σ H8 hx8 ⟨gs, x10, x11, rfl, e8, tx8, hlb8, hg8, hgs⟩
            obtain ⟨e, he, rfl⟩ := refD_get hx8
            have hem := List.mem_of_getElem? he
            have he8 := e8 _ _ (hD3 e hem)
            have kn : keys e.2 = (S.take n).filter fun x => !decide (x = root) := I.key e.2 (List.mem_map.mpr ⟨e, hem, rfl⟩)
            have eput : put e.2 pl r.i = e.2 ++ [(pl, r.i)] := put_new (by rw [kn]; exact pnot)
            have elen : e.2.length ≤ 1000 := by rw [← len_keys, kn]; have := take3 n; omega
            have glen : gs.length ≤ 17 * 256 := by
              have h1 := congrArg List.length hgs
              simp only [List.length_map, List.length_append, List.length_take] at h1
              omega
            show (tSeq (tAsg _ _) _ : TS) _ ([some (.ref a), some (.int root), some (.ref l), some (.ref rb), some (.int pl), some (.ref lb), some (.int r.i), some (.int r.j), some (.int r.p), some (.int r.l), some (.ref e.1), x11] : L2.St) H8
            refine q_asgW (ew_dictD (ev_var rfl) (.inl he8)) fun mb H9 m8 e9 hm9 => ?_
            have lm : lb ≠ mb := ne_of_none hlb8 m8
            refine q_dputI (d := e.2) (k := pl) (v := r.i) (ev_var rfl) (ev_var rfl) (ev_var rfl) hm9 elen fun H10 e10 => ?_
            have E10 : Ex H8 (upd H10 mb (.dK (dI (put e.2 pl r.i)))) := Ex.mut (e9.trans e10) m8
            have hm10 : (upd H10 mb (.dK (dI (put e.2 pl r.i)))) mb = some (.dK (dI (put e.2 pl r.i))) := upd_same
            generalize upd H10 mb (.dK (dI (put e.2 pl r.i))) = G at *
            refine s_app (E10 _ _ hlb8) (ev_var rfl) (ev_var rfl) (by unfold refD; rw [List.length_map]; omega) fun H11 e11 => ?_
            have hlb11 := e11 _ _ (E10 _ _ hlb8)
            refine ⟨gs ++ [(mb, e.2 ++ [(pl, r.i)])], _, _, rfl, Ex.mut ((e8.trans E10).trans e11) lb3, ((tx8.trans (tex E10)).trans (tex e11)).trans (tex_upd hlb11 fun xs z => nomatch z), by rw [upd_same]; simp [refD], fun x hx => ?_, ?_⟩
            · rcases List.mem_append.mp hx with hx | hx
              · exact ((hg8.mono (E10.trans e11)).lst hlb11) x hx
              · rw [List.mem_singleton.mp hx]
                rw [upd_ne lm.symm]
                have := e11 _ _ hm10
                rw [eput] at this; exact this
            · rw [List.map_append, hgs, List.take_succ, he]
              simp
          · rintro σ H8 ⟨gs, x10, x11, rfl, e8, tx8, hlb8, hg8, hgs⟩
            have hl' : (refD es).length = es.length := by unfold refD; rw [List.length_map]
            rw [hl', List.take_length] at hgs
            refine ⟨gs, _, _, _, _, _, _, rfl, e8, (tx6.trans (tex e7)).trans tx8, hlb8, hg8, ?_⟩
            rw [hgs, hfs, tkr, List.flatMap_append]
            simp
        · have qj : r.j ≠ pl := by simpa using q
          rw [if_neg qj, List.append_nil] at tkr
          exact ⟨fs, _, _, _, _, _, _, rfl, e6.trans e7, tx6.trans (tex e7), e7 _ _ hlb6, hf6.mono e7, by rw [tkr]; exact hfs⟩
      · rintro σ H6 ⟨fs, x6, x7, x8, x9, x10, x11, rfl, e6, tx6, hlb6, hf6, hfs⟩
        rw [List.length_map, hR.len, List.take_length] at hfs
        refine s_asg (ev_var rfl) fun H7 e7 => ?_
        refine ⟨lb, fs, _, _, _, _, _, _, _, _, rfl, (e3.trans e6).trans e7, (e6.trans e7) _ _ hl3, e7 _ _ hlb6, hf6.mono e7, ?_, ?_⟩
        · rw [tk, hfs]; exact I.step pl
        · have h1 := congrArg List.length hfs
          rw [List.length_map, flat_len _ _ es.length (fun r _ => by simp)] at h1
          have h2 : (N.rs.filter fun r => decide (r.j = pl)).length ≤ 16 := Nat.le_trans (List.length_filter_le _ _) rs16
          rw [h1, tk, List.length_append, List.length_singleton, Nat.pow_succ, Nat.mul_comm]
          exact Nat.mul_le_mul hes h2
    · have qr : pl = root := by simpa using q
      rw [if_pos qr, List.append_nil] at tk
      exact ⟨rb, es, _, _, _, _, _, _, _, _, rfl, e3.trans e4, e4 _ _ hl3, e4 _ _ hrb3, hD3.mono e4, by rw [tk]; exact I, by rw [tk]; exact hes⟩
  · rintro σ H3 ⟨rb, es, x4, x5, x6, x7, x8, x9, x10, x11, rfl, e3, hl3, hrb3, hD3, I, hes⟩
    rw [List.length_map, List.take_length] at I hes
    have es4 := Nat.le_trans hes (pw _ p3)
    have N3 := hN.mono (tex e3)
    have nps : (S.filter fun x => !decide (x = root)).Nodup := ndS.filter _
    have hps : ∀ x, x ∈ S.filter (fun x => !decide (x = root)) ↔ (Reach N root x ∧ x ≠ root) := fun x => by
      rw [List.mem_filter, hm x]; simp
    have keyn : ∀ e ∈ es, (keys e.2).Nodup ∧ e.2.length ≤ 1000 := fun e he => by
      have := I.key e.2 (List.mem_map.mpr ⟨e, he, rfl⟩)
      exact ⟨by rw [this]; exact nps, by rw [← len_keys, this]; omega⟩
    have gx : ∀ i, i < (refD es).length → ∃ e, es[i]? = some e ∧ es.getD i (0, []) = e ∧ (refD es)[i]? = some (.ref e.1) := fun i hi => by
      unfold refD at hi ⊢
      have hi' : i < es.length := by simpa using hi
      exact ⟨es[i], List.getElem?_eq_getElem hi', by rw [List.getD_eq_getElem?_getD, List.getElem?_eq_getElem hi']; rfl, by simp [hi']⟩
    have key := EvN.l (xs := ((es.filter fun e => isT N root e.2).map fun e => cst N e.2).map V.int) (lcL (K := K) (σ := ([some (.ref a), some (.int root), some (.ref l), some (.ref rb), x4, x5, x6, x7, x8, x9, x10, x11] : L2.St)) (H := H3) (tl := tVar 3) (g := gName 10) (t := tB (tCall spIsTree [] C8.E0 (tCons (tVar 0) (tCons (tVar 1) (tCons (tVar 10) tNil))))) (te := tCall spPrice [] C8.E0 (tCons (tVar 0) (tCons (tVar 1) (tCons (tVar 10) tNil)))) (vs := [10])
      (ev_var rfl) hrb3 (by unfold refD; rw [List.length_map]; omega) (fun i => isT N root (es.getD i (0, [])).2) _ (fun i acc H => acc = (((es.take i).filter fun e => isT N root e.2).map fun e => cst N e.2).map V.int) sets_name (fun i hi => rfl) (by
        refine ⟨fun i acc H4 H5 e r => r, fun H4 e => rfl, fun i H4 hi e => ?_, fun i acc H4 hi e hf r => ?_, fun i acc H4 hi e hf r => ?_⟩
        · obtain ⟨x, h1, h2, h3⟩ := gx i hi
          have hxm := List.mem_of_getElem? h1
          rw [h2]
          refine fun H5 e5 Q q => (evp_call (sp := spIsTree) (R := fun v _ => v = .bl (isT N root x.2)) (ea_cons (ev_var rfl) (ea_cons (ev_var rfl) (ea_cons (ev_var (congrArg some h3)) ea_nil))) fun H6 e6 Q q => ⟨a, x.1, N, root, x.2, rfl, N3.mono ((tex e).trans (tex e6)), (e.trans e6) _ _ (hD3 x hxm), (keyn x hxm).1, (keyn x hxm).2, fun v H7 e7 r => q v H7 e7 ?_⟩) H5 e5 _ fun v H6 e6 r => ⟨_, r, q H6 e6⟩
          obtain ⟨b, rfl, hb⟩ := r
          congr 1
          have := hb.trans (isT_iff (N := N) (root := root) (d := x.2)).symm
          cases b <;> cases hz : isT N root x.2 <;> simp [hz] at this ⊢
        · obtain ⟨x, h1, h2, h3⟩ := gx i hi
          have hxm := List.mem_of_getElem? h1
          rw [h2] at hf
          have Tx := isT_iff.mp hf
          refine fun H5 e5 Q q => (ev_price (ev_var rfl) (ev_var rfl) (ev_var (congrArg some h3)) (N3.mono (tex e)) hok r0 r1 (e _ _ (hD3 x hxm)) (keyn x hxm).2 Tx) H5 e5 Q fun H6 e6 => q _ H6 e6 ?_
          rw [r, List.take_succ, h1, List.filter_append]
          simp [hf]
        · obtain ⟨x, h1, h2, h3⟩ := gx i hi
          rw [h2] at hf
          rw [r, List.take_succ, h1, List.filter_append]
          simp [hf])) (fun acc H4 r => by
        rw [r]
        have : (refD es).length = es.length := by unfold refD; rw [List.length_map]
        rw [this, List.take_length])
    obtain ⟨d0, hd0, T0⟩ := I.ex nps hps hF
    obtain ⟨x0, hx0, rfl⟩ := List.mem_map.mp hd0
    have hne : 0 < ((es.filter fun e => isT N root e.2).map fun e => cst N e.2).length := by
      rw [List.length_map]
      exact List.length_pos_of_mem (List.mem_filter.mpr ⟨hx0, isT_iff.mpr T0⟩)
    refine s_retP (evp_min (K := K) key hne) fun v H4 e4 r => ?_
    obtain ⟨m, rfl, hmem, hmin⟩ := r
    refine k _ H4 (e3.trans e4) ⟨m, rfl, I.min nps hps ?_ fun d hd Td => ?_⟩
    · obtain ⟨x, hx, rfl⟩ := List.mem_map.mp hmem
      obtain ⟨hx1, hx2⟩ := List.mem_filter.mp hx
      exact ⟨x.2, List.mem_map.mpr ⟨x, hx1, rfl⟩, isT_iff.mp hx2, rfl⟩
    · obtain ⟨x, hx, rfl⟩ := List.mem_map.mp hd
      exact hmin _ (List.mem_map.mpr ⟨x, List.mem_filter.mpr ⟨hx, isT_iff.mpr Td⟩, rfl⟩)
end
end HK

/-! part HLF -/
/-! The law's own functions: turned. -/
namespace HK
open PySem PySem.Spec PyProof.Rows L2 Evl
open C8 (Cal Met Mak pe_c pe_mk pe_mt pe_mt0 pe_gc fnScope_by)
open LamX (ExtN)
set_option hygiene false in
local macro_rules | `(tactic| walk_at "len") => `(tactic| (intro vs H Q E h; first
  | (obtain ⟨rfl, _⟩ := h; rfl)
  | (obtain ⟨_, rfl, _⟩ := h; rfl)
  | (obtain ⟨_, _, rfl, _⟩ := h; rfl)
  | (obtain ⟨_, _, _, rfl, _⟩ := h; rfl)
  | (obtain ⟨_, _, _, _, rfl, _⟩ := h; rfl)
  | (obtain ⟨_, _, _, _, _, rfl, _⟩ := h; rfl)
  | (obtain ⟨_, _, _, _, _, _, rfl, _⟩ := h; rfl)
  | (obtain ⟨_, _, _, _, _, _, _, rfl, _⟩ := h; rfl)
  | (obtain ⟨_, _, _, _, _, _, _, _, rfl, _⟩ := h; rfl)
  | (obtain ⟨_, _, _, _, _, _, _, _, _, rfl, _⟩ := h; rfl)
  | (obtain ⟨_, _, _, _, _, _, _, _, _, _, rfl, _⟩ := h; rfl)
  | (obtain ⟨_, _, _, _, _, _, _, _, _, _, _, rfl, _⟩ := h; rfl)
  | (obtain ⟨_, _, _, _, _, _, _, _, _, _, _, _, rfl, _⟩ := h; rfl)
  | (obtain ⟨_, _, _, _, _, _, _, _, _, _, _, _, _, rfl, _⟩ := h; rfl)
  | (obtain ⟨_, _, _, _, _, _, _, _, _, _, _, _, _, _, rfl, _⟩ := h; rfl)
  | (obtain ⟨_, _, _, _, _, _, _, _, _, _, _, _, _, _, _, rfl, _⟩ := h; rfl)
  | (obtain ⟨_, _, _, _, _, _, _, _, _, _, _, _, _, _, _, _, rfl, _⟩ := h; rfl)
  | (obtain ⟨_, _, _, _, _, _, _, _, _, _, _, _, _, _, _, _, _, rfl, _⟩ := h; rfl)
  | (obtain ⟨_, _, _, _, _, _, _, _, _, _, _, _, _, _, _, _, _, _, rfl, _⟩ := h; rfl)
  | (obtain ⟨_, _, _, _, _, _, _, _, _, _, _, _, _, _, _, _, _, _, _, rfl, _⟩ := h; rfl)
  | (obtain ⟨_, _, _, _, _, _, _, _, _, _, _, _, _, _, _, _, _, _, _, _, rfl, _⟩ := h; rfl)
  | (obtain ⟨_, _, _, _, _, _, _, _, _, _, _, _, _, _, _, _, _, _, _, _, _, rfl, _⟩ := h; rfl)
  | (obtain ⟨_, _, _, _, _, _, _, _, _, _, _, _, _, _, _, _, _, _, _, _, _, _, rfl, _⟩ := h; rfl)
  | (obtain ⟨_, _, _, _, _, _, _, _, _, _, _, _, _, _, _, _, _, _, _, _, _, _, _, rfl, _⟩ := h; rfl)
  | (obtain ⟨_, _, _, _, _, _, _, _, _, _, _, _, _, _, _, _, _, _, _, _, _, _, _, _, rfl, _⟩ := h; rfl)
  | (obtain ⟨_, _, _, _, _, _, _, _, _, _, _, _, _, _, _, _, _, _, _, _, _, _, _, _, _, rfl, _⟩ := h; rfl)))

section
variable {P : Program} {w : World} {K : PySem.W.Frag} {mg : Str → Option Value} {base : Heap}
theorem ev_toldA {σ : L2.St} {H : Hp} {E : XK} {t1 t2 : TE} {N : Net} {root X : Int} (h : EvP t1 σ H (fun v H2 => ∃ b, v = .ref b ∧ NetAt H2 b N)) (h2 : Ev t2 σ H (.int root)) (ok : N.Ok) (r0 : 0 ≤ root) (r1 : root < N.n) (hm : IsMin N root X) :
    Ev (tCall spTold [] E (tCons t1 (tCons t2 tNil))) σ H (.int X) := fun H1 e1 Q q => h H1 e1 _ fun v H2 e2 r => h2 H2 (e1.trans e2) _ fun H3 e3 => by
  obtain ⟨b, rfl, hN⟩ := r
  refine ⟨b, N, root, rfl, hN.mono (tex e3), ok, r0, r1, fun v H4 e4 r => ?_⟩
  obtain ⟨d, rfl, _, _, hm'⟩ := r
  rw [hm'.uniq hm]
  exact q H4 ((e2.trans e3).trans e4)
theorem dtupT_shaped (l : List (List Int)) : SeqAt.shaped (.tuple (l.map dTup)) = true := by
  show ((PyData.tuple (l.map dTup)).canLay0 && decide ((PyData.tuple (l.map dTup)).depth ≤ 64)) = true
  rw [Bool.and_eq_true]
  refine ⟨by simp only [PyData.canLay0]; exact dtups_lay l, decide_eq_true ?_⟩
  have := dtups_depth l
  simp only [PyData.depth]; omega
theorem ev_neTT {σ : L2.St} {H : Hp} {t1 : TE} {t : Addr} {ts : List TupL} (h1 : Ev t1 σ H (.ref t)) (ht : H t = some (.tup (refL ts))) (hr : TupsI H ts) : Ev (tOp (rNeD K) t1 (tTup tNil)) σ H (.bl (!ts.isEmpty)) := fun H1 e Q q =>
  h1 H1 e _ fun H2 e2 => eu_tup (vs := []) ea_nil (Nat.zero_le _) H2 (e.trans e2) _ fun p H3 hp e3 h3 =>
    ⟨.tuple ((ts.map (·.2)).map dTup), .tuple [], .tup (st_of (((e.trans e2).trans e3) _ _ ht)) (dp_tups (hr.mono (tex ((e.trans e2).trans e3)))), .tup (st_of h3) .nil, dtupT_shaped _, by decide +kernel, by
      have : PyData.eqv (.tuple ((ts.map (·.2)).map dTup)) (.tuple []) = ts.isEmpty := by
        cases ts <;> simp [PyData.eqv, PyData.eqvAll]
      rw [this]; exact q H3 (e2.trans e3)⟩
theorem evp_catU {σ : L2.St} {H : Hp} {ta tb : TE} {xs ys : List V} (h1 : EvU ta σ H xs) (h2 : EvU tb σ H ys) (hl : xs.length + ys.length ≤ 1000) : EvP (tOp (rCatA K) ta tb) σ H fun v H2 => ∃ p, v = .ref p ∧ H2 p = some (.tup (xs ++ ys)) := fun H1 e Q q =>
  h1 H1 e _ fun a H2 ha e2 ha2 => h2 H2 (e.trans e2) _ fun p H3 hp e3 h3 => ⟨a, p, _, _, rfl, rfl, st_of (e3 _ _ ha2), st_of h3, sz_of (by omega),
    fun hx => q _ H3 (e2.trans e3) ⟨p, rfl, by rw [hx]; exact h3⟩,
    fun _ hy => q _ H3 (e2.trans e3) ⟨a, rfl, by rw [hy, List.append_nil]; exact e3 _ _ ha2⟩,
    fun _ _ b hb => q _ _ ((e2.trans e3).trans (Ex.new hb)) ⟨b, rfl, upd_same⟩⟩
theorem s_if0 {σ : L2.St} {H : Hp} {t : TT} {tu : TS} {D : Ends} (h : EvT t σ H false) (k : ∀ H1, Ex H H1 → D.nx σ H1) : tIfS t tu tNext D σ H := s_skip h rfl k
theorem evp_tup2P {t1 t2 : TE} {σ : L2.St} {H : Hp} {v : V} {R : V → Hp → Prop} (h1 : Ev t1 σ H v) (h2 : EvP t2 σ H R) : EvP (tTup (tCons t1 (tCons t2 tNil))) σ H fun x H2 => ∃ b u H1, x = .ref b ∧ R u H1 ∧ Ex H1 H2 ∧ H2 b = some (.tup [v, u]) := fun H1 e Q q =>
  h1 H1 e _ fun H2 e2 => h2 H2 (e.trans e2) _ fun u H3 e3 r => ⟨sz_of (by show 2 ≤ 100000; decide), fun b hb => q _ _ ((e2.trans e3).trans (Ex.new hb)) ⟨b, u, H3, rfl, r, Ex.new hb, upd_same⟩⟩
theorem EvL.p {te : TE} {σ : L2.St} {H : Hp} {xs : List V} (h : EvL te σ H xs) : EvP te σ H fun v H2 => ∃ p, v = .ref p ∧ H p = none ∧ H2 p = some (.lst xs) := fun H1 e Q q => h H1 e Q fun p H2 hp e2 h2 => q _ H2 e2 ⟨p, rfl, fresh_back e hp, h2⟩
def twiceR (r : Road) : Road := ⟨r.i, r.j, 2 * r.p, r.l⟩
theorem same_dear (b : Int) (pl : Option Int) : Same (dearR b pl) := ⟨fun _ => rfl, fun _ => rfl⟩
theorem same_twice : Same twiceR := ⟨fun _ => rfl, fun _ => rfl⟩
theorem same_cheap : Same cheapR := ⟨fun _ => rfl, fun _ => rfl⟩
def spTurned (K : PySem.W.Frag) : Sp := fun vs H Q _ => ∃ (tp sc a : Addr) (ns : List Int) (N : Net) (root told : Int), vs = [.ref tp, .ref a, .int root, .int told] ∧ Tape K tp sc ns H ∧ NetAt H a N ∧ N.Ok ∧ 0 ≤ root ∧ root < N.n ∧ (∀ r ∈ N.rs, r.p ≤ 500) ∧ IsMin N root told ∧ ∀ H2, Q (.bl true) H2
abbrev s_law_b_turned : Stmt := top 60
abbrev N_law_b_turned : List Str := ["tape", "net", "root", "told", "there", "place", "twice", "gap", "fewer", "one", "i", "j", "pay", "late"]
theorem sc_law_b_turned : FnScope N_law_b_turned ["tape", "net", "root", "told"] (defScope s_law_b_turned) := fnScope_by (by decide +kernel)
theorem ok_law_b_turned (F : DefAt K mg "_law_b_turned" s_law_b_turned ["tape", "net", "root", "told"]) (T : Txt K mg) (c__law_b_reached : Cal P w K mg base 1 "_law_b_reached" (spReached K) []) (c__law_b_told : Cal P w K mg base 7 "_law_b_told" spTold []) (c__law_b_digit : Cal P w K mg base 2 "_law_b_digit" (spDigit K) []) (c__law_b_dearer : Cal P w K mg base 1 "_law_b_dearer" spDearer []) (c__law_b_some : Cal P w K mg base 3 "_law_b_some" (spSome K) []) :
    Cal P w K mg base 8 "_law_b_turned" (spTurned K) [] := by
  refine F.cal sc_law_b_turned (by walk_at "len") (fun f0 cdv A outer s0 H vs Q X hr h => ?_)
  obtain ⟨tp, sc, a, ns, N, root, told, rfl, hT, hN, hok, r0, r1, h500, hmin, k⟩ := h
  have nd := sc_law_b_turned.nd
  refine ⟨_, (pss_cons (ps_set (i := 4) nd rfl (Or.inl rfl) (pe_c c__law_b_reached hr (by decide) (by rfl) (pa_cons (pv 1) (pa_cons (pv 2) pa_nil))))
      (pss_cons (ps_if (pt_cmpR op_ne (pe_c c__law_b_told hr (by decide) (by rfl) (pa_cons (pe_c c__law_b_dearer hr (by decide) (by rfl) (pa_cons (pv 1) (pa_cons pe_int (pa_cons pe_non pa_nil)))) (pa_cons (pv 2) pa_nil))) (pe_op op_sub (pe_op op_add (pv 3) (pe_callB (lenS (K := K) rfl) (by rfl) T.g_len PySem.boot_len (pa_cons (pv 4) pa_nil))) pe_int) (nomark _)) (pss_one (ps_ret pe_bl)) pss_nil)
      (pss_cons (ps_if (pt_cmpR op_gt (pe_callB (lenS (K := K) rfl) (by rfl) T.g_len PySem.boot_len (pa_cons (pv 4) pa_nil)) pe_int (nomark _)) (pss_cons (ps_set (i := 5) nd rfl (Or.inl rfl) (pe_c c__law_b_some hr (by decide) (by rfl) (pa_cons (pv 0) (pa_cons (pe_lc (own := [("one", 9)]) (g := (gName 9)) rfl nd (pi_lstK (K := K) rfl (pv 4)) (blkOk_by (own := [("one", 9)]) (N := N_law_b_turned) (sc := defScope s_law_b_turned) (by decide +kernel)) (fun _ _ _ _ _ => (pg_name (i := 9) nd rfl (Or.inl rfl))) (fun _ _ _ _ _ => (pts_one (pt_cmpR op_ne (pv 9) (pv 2) (nomark _)))) (fun _ _ _ _ _ => (pv 9))) pa_nil))))
      (pss_one (ps_if (pt_cmpR op_ne (pe_c c__law_b_told hr (by decide) (by rfl) (pa_cons (pe_c c__law_b_dearer hr (by decide) (by rfl) (pa_cons (pv 1) (pa_cons pe_int (pa_cons (pv 5) pa_nil)))) (pa_cons (pv 2) pa_nil))) (pe_op op_add (pv 3) pe_int) (nomark _)) (pss_one (ps_ret pe_bl)) pss_nil))) pss_nil)
      (pss_cons (ps_set (i := 6) nd rfl (Or.inl rfl) (pe_tup (pa_cons (pe_ix (ixT (K := K) rfl) (pv 1) pe_int (fun _ _ => rfl)) (pa_cons (pe_callTy (tupK (K := K) rfl) (by rfl) T.g_tuple (by decide +kernel) (pa_cons (pe_lc (own := [("i", 10), ("j", 11), ("pay", 12), ("late", 13)]) (g := (gTup K 4 (gCons (gName 10) (gCons (gName 11) (gCons (gName 12) (gCons (gName 13) gNil)))))) rfl nd (pi_tupK (K := K) rfl (pe_ix (ixT (K := K) rfl) (pv 1) pe_int (fun _ _ => rfl))) (blkOk_by (own := [("i", 10), ("j", 11), ("pay", 12), ("late", 13)]) (N := N_law_b_turned) (sc := defScope s_law_b_turned) (by decide +kernel)) (fun _ _ _ _ _ => (pg_tupK (K := K) rfl rfl (pgs_cons (pg_name (i := 10) nd rfl (Or.inl rfl)) (pgs_cons (pg_name (i := 11) nd rfl (Or.inl rfl)) (pgs_cons (pg_name (i := 12) nd rfl (Or.inl rfl)) (pgs_cons (pg_name (i := 13) nd rfl (Or.inl rfl)) pgs_nil)))))) (fun _ _ _ _ _ => pts_nil) (fun _ _ _ _ _ => (pe_tup (pa_cons (pv 10) (pa_cons (pv 11) (pa_cons (pe_op op_mul pe_int (pv 12)) (pa_cons (pv 13) pa_nil))))))) pa_nil)) pa_nil))))
      (pss_cons (ps_if (pt_cmpR op_ne (pe_c c__law_b_told hr (by decide) (by rfl) (pa_cons (pv 6) (pa_cons (pv 2) pa_nil))) (pe_op op_mul pe_int (pv 3)) (nomark _)) (pss_one (ps_ret pe_bl)) pss_nil)
      (pss_cons (ps_if (pt_cmpR (neK (K := K) rfl hr.units) (pe_ix (ixT (K := K) rfl) (pv 1) pe_int (fun _ _ => rfl)) (pe_tup pa_nil) (nomark _)) (pss_cons (ps_set (i := 7) nd rfl (Or.inl rfl) (pe_c c__law_b_digit hr (by decide) (by rfl) (pa_cons (pv 0) (pa_cons (pe_callB (lenS (K := K) rfl) (by rfl) T.g_len PySem.boot_len (pa_cons (pe_ix (ixT (K := K) rfl) (pv 1) pe_int (fun _ _ => rfl)) pa_nil)) pa_nil))))
      (pss_cons (ps_set (i := 8) nd rfl (Or.inl rfl) (pe_tup (pa_cons (pe_ix (ixT (K := K) rfl) (pv 1) pe_int (fun _ _ => rfl)) (pa_cons (pe_op (catK (K := K) rfl) (pe_slice (slK (K := K) rfl) (pe_ix (ixT (K := K) rfl) (pv 1) pe_int (fun _ _ => rfl)) po_none (po_some (pv 7))) (pe_slice (slK (K := K) rfl) (pe_ix (ixT (K := K) rfl) (pv 1) pe_int (fun _ _ => rfl)) (po_some (pe_op op_add (pv 7) pe_int)) po_none)) pa_nil))))
      (pss_one (ps_if (PW.pt (pw_and (pt_cmpR (eqK (K := K) rfl hr.units) (pe_c c__law_b_reached hr (by decide) (by rfl) (pa_cons (pv 8) (pa_cons (pv 2) pa_nil))) (pv 4) (nomark _)) (pw_and1 (pt_cmpR op_lt (pe_c c__law_b_told hr (by decide) (by rfl) (pa_cons (pv 8) (pa_cons (pv 2) pa_nil))) (pv 3) (nomark _))))) (pss_one (ps_ret pe_bl)) pss_nil)))) pss_nil)
      (pss_one (ps_ret pe_bl)))))))), ?_⟩
  have rsl := few_roads hok
  refine q_asgP (evp_reached (ev_var rfl) (ev_var rfl) hN hok r0 r1) fun v H1 e1 r => ?_
  obtain ⟨l, S, rfl, hl, _, hSn, hu, hm⟩ := r
  have ndS := nd_of_up hu
  have n12 := hok.n12
  have N1 := hN.mono (HK.tex e1)
  -- dearer by one all over
  have okD : ∀ (b : Int) (pl : Option Int), 0 ≤ b → b ≤ 3 → (mapN N (dearR b pl)).Ok := fun b pl b0 b3 => mapN_ok hok (same_dear b pl) (fun _ => rfl) fun r hr => by
    have h1 := h500 r hr
    have h2 := (hok.rs r hr).p0
    show 0 ≤ r.p + b * (if dearK pl r.j then 1 else 0) ∧ r.p + b * (if dearK pl r.j then 1 else 0) ≤ 1000
    split <;> omega
  have min1 : IsMin (mapN N (dearR 1 none)) root (told + (S.length : Int) - 1) := by
    have := min_shift (N := N) (N' := mapN N (dearR 1 none)) (a := 1) (b := (S.length : Int) - 1) (by decide) (fun d => mapN_full (same_dear 1 none)) (fun d F => by
      rw [mapN_cst (same_dear 1 none) F.1 (a := 1) (g := fun _ => 1) (fun r hr => by simp [dearR, dearK])]
      rw [sum_one]
      have := full_len F ndS hm
      omega) hmin
    have e : 1 * told + ((S.length : Int) - 1) = told + (S.length : Int) - 1 := by omega
    rw [e] at this; exact this
  have dearE : ∀ (H2 : Hp) (σ : L2.St) (t2 t3 : TE) (b : Int) (pl : Option Int), NetAt H2 a N → Ev (tVar 1) σ H2 (.ref a) → Ev t2 σ H2 (.int b) → Ev t3 σ H2 (vO pl) → 0 ≤ b → b ≤ 3 → EvP (tCall spDearer [] C8.E0 (tCons (tVar 1) (tCons t2 (tCons t3 tNil)))) σ H2 (fun v H3 => ∃ b', v = .ref b' ∧ NetAt H3 b' (mapN N (dearR b pl))) := fun H2 σ t2 t3 b pl hN2 h1 h2 h3 b0 b3 =>
    evp_call (ea_cons h1 (ea_cons h2 (ea_cons h3 ea_nil))) fun H3 e3 Q q => ⟨a, N, b, pl, rfl, hN2.mono (HK.tex e3), by omega, by omega, by omega, q⟩
  refine q_skip (et_neI (ev_toldA (dearE H1 _ _ _ 1 none N1 (ev_var rfl) ev_c ev_c (by decide) (by decide)) (ev_var rfl) (okD 1 none (by decide) (by decide)) r0 r1 min1) (ev_is (ev_op (ev_op (ev_var rfl) (ev_lenL (ev_var rfl) hl) rv_I0) ev_c rv_I0) (by rw [List.length_map]))) (by simp) fun H2 e2 => ?_
  have T2 := hT.mono (e1.trans e2)
  have N2 := N1.mono (HK.tex e2)
  refine q_ifJ (J := fun σ' H' => ∃ x5 x9, σ' = [some (.ref tp), some (.ref a), some (.int root), some (.int told), some (.ref l), x5, none, none, none, x9, none, none, none, none] ∧ Tape K tp sc ns H' ∧ NetAt H' a N ∧ H' l = some (.lst (S.map V.int))) (b := decide ((1 : Int) < S.length)) (et_test (ev_is (ev_op (ev_lenL (ev_var rfl) (e2 _ _ hl)) ev_c rv_I0) (by rw [List.length_map]))) (fun q H3 e3 Dx kx => ?_) (fun q H3 e3 Dx kx => kx _ _ ⟨none, none, rfl, T2.mono e3, N2.mono (HK.tex e3), e3 _ _ (e2 _ _ hl)⟩) ?_
  · have s1 : 1 < S.length := by have : (1 : Int) < S.length := by simpa using q
                                 omega
    have hl3 := e3 _ _ (e2 _ _ hl)
    have T3 := T2.mono e3
    have N3 := N2.mono (HK.tex e3)
    have key := EvN.l (xs := (S.filter fun x => !decide (x = root)).map V.int) (lcL (K := K) (σ := ([some (.ref tp), some (.ref a), some (.int root), some (.int told), some (.ref l), none, none, none, none, none, none, none, none, none] : L2.St)) (H := H3) (tl := tVar 4) (g := gName 9) (t := tTest (tOp rNe (tVar 9) (tVar 2))) (te := tVar 9) (vs := [9]) (ev_var rfl) hl3 (by rw [List.length_map]; omega) (fun i => !decide (S.getD i 0 = root)) _ (fun i acc H => acc = ((S.take i).filter fun x => !decide (x = root)).map V.int) sets_name (fun i hi => rfl) (by
      have gx : ∀ i, i < (S.map V.int).length → ∃ x, S[i]? = some x ∧ S.getD i 0 = x ∧ (S.map V.int)[i]? = some (.int x) := fun i hi => by
        have hi' : i < S.length := by simpa using hi
        exact ⟨S[i], List.getElem?_eq_getElem hi', by rw [List.getD_eq_getElem?_getD, List.getElem?_eq_getElem hi']; rfl, by simp [hi']⟩
      refine ⟨fun i acc H3 H4 e r => r, fun H3 e => rfl, fun i H3 hi e => ?_, fun i acc H3 hi e hf r => ?_, fun i acc H3 hi e hf r => ?_⟩
      · obtain ⟨x, h1, h2, h3⟩ := gx i hi
        rw [h2]
        exact et_neI (ev_var (congrArg some h3)) (ev_var rfl)
      · obtain ⟨x, h1, h2, h3⟩ := gx i hi
        rw [h2] at hf
        refine fun H4 e4 Q q => (ev_var (congrArg some h3)) H4 e4 Q fun H5 e5 => q _ H5 e5 ?_
        rw [r, List.take_succ, h1, List.filter_append]
        simp [hf]
      · obtain ⟨x, h1, h2, h3⟩ := gx i hi
        rw [h2] at hf
        rw [r, List.take_succ, h1, List.filter_append]
        simp [hf])) (fun acc H4 r => by rw [r, List.length_map, List.take_length])
    have fne : 1 ≤ (S.filter fun x => !decide (x = root)).length := by
      apply Classical.byContradiction
      intro z
      have z0 : S.filter (fun x => !decide (x = root)) = [] := List.length_eq_zero_iff.mp (by omega)
      have : ∀ x ∈ S, x = root := fun x hx => by
        have := List.filter_eq_nil_iff.mp z0 x hx
        simpa using this
      have : S.length ≤ [root].length := List.Nodup.length_le_of_subset ndS fun x hx => by rw [this x hx]; simp
      simp at this
      omega
    have flen : (S.filter fun x => !decide (x = root)).length ≤ 12 := by
      have := List.length_filter_le (fun x => !decide (x = root)) S
      omega
    refine xq_asg (evx_callA (ax_cons (evx (ev_var rfl) fun H4 e4 => ax_cons (evxP (EvL.p (fun Hx ex => key Hx (e4.trans ex))) fun v H5 e5 r => ax_nil fun Q1 q1 => ?_))))
    obtain ⟨p, rfl, hp4, hp⟩ := r
    have T5 := T3.mono (e4.trans e5)
    have ptp : p ≠ tp := fun z => by
      obtain ⟨_, _, hc, _⟩ := (T3.mono e4).cell
      rw [z, hc] at hp4; cases hp4
    refine ⟨tp, sc, ns, p, _, rfl, T5, hp, ptp, by rw [List.length_map]; exact fne, by rw [List.length_map]; omega, fun v H6 e6 t6 hv => q1 _ _ ?_⟩
    obtain ⟨x, hx, rfl⟩ := List.mem_map.mp hv
    obtain ⟨hxS, hxr⟩ := List.mem_filter.mp hx
    have hxr' : x ≠ root := by simpa using hxr
    have N6 := (N3.mono (HK.tex (e4.trans e5))).mono (T5.tex e6)
    have lt : l ≠ tp := fun z => by
      obtain ⟨_, _, hc, _⟩ := T3.cell
      rw [z, hc] at hl3
      have h1 := congrArg (fun o : Option HO => match o with | some (.lst (.ref _ :: _)) => true | _ => false) hl3
      cases S with
      | nil => simp at s1
      | cons y ys => simp at h1
    have hl6 : H6 l = some (.lst (S.map V.int)) := e6 _ _ (by simpa using lt) ((e4.trans e5) _ _ hl3)
    have min3 : IsMin (mapN N (dearR 3 (some x))) root (told + 3) := by
      have := min_shift (N := N) (N' := mapN N (dearR 3 (some x))) (a := 1) (b := 3) (by decide) (fun d => mapN_full (same_dear 3 (some x))) (fun d F => by
        rw [mapN_cst (same_dear 3 (some x)) F.1 (a := 1) (g := fun j => if j = x then 3 else 0) (fun r hr => by
          simp only [dearR, dearK, Option.isNone_some, Bool.false_or]
          by_cases q : r.j = x <;> simp [q] <;> omega)]
        rw [sum_at F.1.nd (F.2 x ((hm x).mp hxS) hxr')]) hmin
      have e : 1 * told + 3 = told + 3 := by omega
      rw [e] at this; exact this
    show (tIfS _ _ _ : TS) _ ([some (.ref tp), some (.ref a), some (.int root), some (.int told), some (.ref l), some (.int x), none, none, none, none, none, none, none, none] : L2.St) H6
    refine s_skip (et_neI (ev_toldA (dearE H6 _ _ _ 3 (some x) N6 (ev_var rfl) ev_c (ev_var rfl) (by decide) (by decide)) (ev_var rfl) (okD 3 (some x) (by decide) (by decide)) r0 r1 min3) (ev_op (ev_var rfl) ev_c rv_I0)) (by simp) fun H7 e7 => kx _ _ ⟨_, _, rfl, t6.mono e7, N6.mono (HK.tex e7), e7 _ _ hl6⟩
  · rintro σ' H3 ⟨x5, x9, rfl, T3, N3, hl3⟩
    obtain ⟨t, as, ha, ht, hR⟩ := N3.ex
    refine q_asgP (evp_netC (ev_ixT (i := 0) (v := .int N.n) (ev_var rfl) ev_c ha rfl) (evn_mapR (i1 := 10) (i2 := 11) (i3 := 12) (i4 := 13) (f := twiceR) (ev_ixT (i := 1) (v := .ref t) (ev_var rfl) ev_c ha rfl) ht hR (by omega) (fun r => rfl) fun r H4 e4 => ?_)) fun v H4 e4 r => ?_
    · exact eu_tup (ea_cons (ev_var rfl) (ea_cons (ev_var rfl) (ea_cons (ev_op ev_c (ev_var rfl) (rv_I (cmul_l (by decide)))) (ea_cons (ev_var rfl) ea_nil)))) (by show 4 ≤ 100000; decide)
    · obtain ⟨b, rfl, hb⟩ := r
      have okT : (mapN N twiceR).Ok := mapN_ok hok same_twice (fun _ => rfl) fun r hr => by
        have h1 := h500 r hr
        have h2 := (hok.rs r hr).p0
        show 0 ≤ 2 * r.p ∧ 2 * r.p ≤ 1000
        omega
      have minT : IsMin (mapN N twiceR) root (2 * told) := by
        have := min_shift (N := N) (N' := mapN N twiceR) (a := 2) (b := 0) (by decide) (fun d => mapN_full same_twice) (fun d F => by
          rw [mapN_cst same_twice F.1 (a := 2) (g := fun _ => 0) (fun r hr => by simp [twiceR])]
          rw [sum_zero]) hmin
        have e : 2 * told + 0 = 2 * told := by omega
        rw [e] at this; exact this
      have T4 := T3.mono e4
      have N4 := N3.mono (HK.tex e4)
      have hl4 := e4 _ _ hl3
      refine q_skip (et_neI (ev_toldA (N := mapN N twiceR) (fun Hx ex Qx qx => (ev_var rfl : Ev (tVar 6) ([some (.ref tp), some (.ref a), some (.int root), some (.int told), some (.ref l), x5, some (.ref b), none, none, x9, none, none, none, none] : L2.St) H4 (.ref b)) Hx ex Qx fun Hy ey => qx _ Hy ey ⟨b, rfl, hb.mono (HK.tex (ex.trans ey))⟩) (ev_var rfl) okT r0 r1 minT) (ev_op ev_c (ev_var rfl) (rv_I (cmul_l (by decide))))) (by simp) fun H5 e5 => ?_
      have T5 := T4.mono e5
      have N5 := N4.mono (HK.tex e5)
      have hl5 := e5 _ _ hl4
      obtain ⟨t, as, ha, ht, hR⟩ := N5.ex
      obtain ⟨ars, rfl, hrs, har⟩ := roads_zip hR
      have hts : TupsI H5 (outT ars) := fun u hu => by
        obtain ⟨e, he, rfl⟩ := List.mem_map.mp hu
        exact har e he
      have hte : H5 t = some (.tup (refL (outT ars))) := by rw [ht]; simp [refL, outT]
      refine q_ifJ (J := fun _ _ => True) (et_test (ev_neTT (ev_ixT (i := 1) (v := .ref t) (ev_var rfl) ev_c ha rfl) hte hts)) (fun q H6 e6 Dx kx => ?_) (fun q H6 e6 Dx kx => kx _ _ trivial) ?_
      · have hne : 1 ≤ ars.length := by
          cases ars with
          | nil => simp [outT] at q
          | cons x xs => simp
        have T6 := T5.mono e6
        have ha6 := e6 _ _ ha
        have ht6 := e6 _ _ ht
        have al : ars.length ≤ 144 := by rw [hrs, List.length_map] at rsl; exact rsl
        show (tSeq (tAsg _ _) _ : TS) _ ([some (.ref tp), some (.ref a), some (.int root), some (.int told), some (.ref l), x5, some (.ref b), none, none, x9, none, none, none, none] : L2.St) H6
        refine xq_asg (dig_x (many := (ars.length : Int)) (ev_var rfl) (ev_is (ev_lenT (ev_ixT (i := 1) (v := .ref t) (ev_var rfl) ev_c ha6 rfl) ht6) (by simp)) T6 (by omega) (by omega) fun g H7 e7 t7 g0 g1 => ?_)
        have tx7 := T6.tex e7
        have ha7 := tx7 _ _ ha6
        have ht7 := tx7 _ _ ht6
        have lt : l ≠ tp := fun z => by
          obtain ⟨pos, c, hc, _⟩ := T5.cell
          have hh : some (HO.lst [V.ref sc, .int pos, .int c]) = some (HO.lst (S.map V.int)) := by rw [← hc, ← z]; exact hl5
          have h1 := HO.lst.inj (Option.some.inj hh)
          cases S with
          | nil => simp at h1
          | cons y ys => simp at h1
        have hl7 : H7 l = some (.lst (S.map V.int)) := e7 _ _ (by simpa using lt) (e6 _ _ hl5)
        obtain ⟨gn, rfl⟩ : ∃ gn : Nat, g = (gn : Int) := ⟨g.toNat, (Int.toNat_of_nonneg g0).symm⟩
        have glt : gn < ars.length := by omega
        show (tSeq (tAsg _ _) _ : TS) _ ([some (.ref tp), some (.ref a), some (.int root), some (.int told), some (.ref l), x5, some (.ref b), some (.int (gn : Int)), none, x9, none, none, none, none] : L2.St) H7
        have xl : ((ars.map (·.1)).map V.ref).length = ars.length := by simp
        have u1 := eu_sl (K := K) (σ := ([some (.ref tp), some (.ref a), some (.int root), some (.int told), some (.ref l), x5, some (.ref b), some (.int (gn : Int)), none, x9, none, none, none, none] : L2.St)) (te := tOp (rIxT K) (tVar 1) (tC (.int 1))) (ev_ixT (i := 1) (v := .ref t) (ev_var rfl) ev_c ha7 rfl) eo_none (eo_some (te := tVar 7) (i := (gn : Int)) (ev_var rfl)) ht7 (fun z => by
          have h2 := z.2
          rw [HT.sIx_nat, xl] at h2
          omega)
        have u2 := eu_sl (K := K) (σ := ([some (.ref tp), some (.ref a), some (.int root), some (.int told), some (.ref l), x5, some (.ref b), some (.int (gn : Int)), none, x9, none, none, none, none] : L2.St)) (te := tOp (rIxT K) (tVar 1) (tC (.int 1))) (ev_ixT (i := 1) (v := .ref t) (ev_var rfl) ev_c ha7 rfl) (eo_some (te := tOp (rI0 fun i j => .int (i + j)) (tVar 7) (tC (.int 1))) (i := ((gn + 1 : Nat) : Int)) (ev_is (ev_op (ev_var rfl) ev_c rv_I0) (by simp))) eo_none ht7 (fun z => by
          have h2 := z.1
          rw [HT.sIx_nat, xl] at h2
          omega)
        have c1 : cutV ((ars.map (·.1)).map V.ref) none (some (gn : Int)) = (((ars.take gn).map (·.1)).map V.ref) := by
          unfold cutV
          rw [HT.sIx_nat, HT.sIx_none, xl]
          simp [List.map_take, Nat.min_eq_left (Nat.le_of_lt glt)]
        have c2 : cutV ((ars.map (·.1)).map V.ref) (some ((gn + 1 : Nat) : Int)) none = (((ars.drop (gn + 1)).map (·.1)).map V.ref) := by
          unfold cutV
          rw [HT.sIx_nat, HT.sIx_none, xl, Nat.min_eq_left (by omega)]
          rw [List.take_of_length_le (by simp)]
          simp [List.map_drop]
        rw [c1] at u1
        rw [c2] at u2
        have cat := evp_catU (K := K) u1 u2 (by simp; omega)
        rw [← List.map_append, ← List.map_append] at cat
        have hrs' : ∀ e ∈ ars.take gn ++ ars.drop (gn + 1), e ∈ ars := fun e he => by
          rcases List.mem_append.mp he with he | he
          · exact List.mem_of_mem_take he
          · exact List.mem_of_mem_drop he
        have hsub : (ars.take gn ++ ars.drop (gn + 1)).Sublist ars := by
          have h1 : (ars.take gn ++ ars.drop (gn + 1)).Sublist (ars.take gn ++ ars.drop gn) := (List.Sublist.refl _).append (List.drop_sublist_drop_left ars (Nat.le_succ gn))
          rw [List.take_append_drop] at h1; exact h1
        generalize hf : ars.take gn ++ ars.drop (gn + 1) = fr at *
        have okF : (⟨N.n, fr.map (·.2)⟩ : Net).Ok := by
          refine ⟨hok.n1, hok.n12, fun r hr => ?_, ?_⟩
          · obtain ⟨e, he, rfl⟩ := List.mem_map.mp hr
            exact hok.rs _ (by rw [hrs]; exact List.mem_map.mpr ⟨e, hrs' e he, rfl⟩)
          · have := hok.up
            rw [hrs] at this
            exact this.sublist (hsub.map _)
        have hsubR : ∀ r ∈ (⟨N.n, fr.map (·.2)⟩ : Net).rs, r ∈ N.rs := fun r hr => by
          obtain ⟨e, he, rfl⟩ := List.mem_map.mp hr
          rw [hrs]; exact List.mem_map.mpr ⟨e, hrs' e he, rfl⟩
        refine q_asgP (R := fun v H8 => ∃ b, v = .ref b ∧ NetAt H8 b ⟨N.n, fr.map (·.2)⟩) (fun Hx ex Qx qx => ?_) fun v H8 e8 r => ?_
        · refine (evp_tup2P (ev_ixT (i := 0) (v := .int N.n) (ev_var rfl) ev_c ha7 rfl) cat) Hx ex Qx fun v Hy ey r => qx v Hy ey ?_
          obtain ⟨p, u, Hz, rfl, ⟨q2, rfl, hq2⟩, ez, hp⟩ := r
          refine ⟨p, rfl, q2, fr.map (·.1), hp, ez _ _ hq2, ⟨by simp, fun k c r hc hr => ?_⟩⟩
          rw [List.getElem?_map] at hc hr
          cases hk : fr[k]? with
          | none => rw [hk] at hc; cases hc
          | some e =>
            rw [hk] at hc hr
            cases hc; cases hr
            exact (HK.tex (ex.trans ey)) _ _ (tx7 _ _ (HK.tex e6 _ _ (har e (hrs' e (List.mem_of_getElem? hk)))))
        · obtain ⟨fb, rfl, hfb⟩ := r
          have hl8 := e8 _ _ hl7
          refine s_if0 (fun Hx ex Qx qx => ?_) fun H9 e9 => kx _ _ trivial
          refine (evp_reached (K := K) (E := C8.E0) (σ := ([some (.ref tp), some (.ref a), some (.int root), some (.int told), some (.ref l), x5, some (.ref b), some (.int (gn : Int)), some (.ref fb), x9, none, none, none, none] : L2.St)) (t1 := tVar 8) (t2 := tVar 2) (ev_var rfl) (ev_var rfl) hfb okF r0 r1) Hx ex _ fun v Hy ey r => ?_
          obtain ⟨l2, S2, rfl, hl2, _, _, hu2, hm2⟩ := r
          refine (ev_var rfl : Ev (tVar 4) ([some (.ref tp), some (.ref a), some (.int root), some (.int told), some (.ref l), x5, some (.ref b), some (.int (gn : Int)), some (.ref fb), x9, none, none, none, none] : L2.St) H8 (.ref l)) Hy (ex.trans ey) _ fun Hz ez => ?_
          have hl9 := ((ex.trans ey).trans ez) _ _ hl8
          refine ⟨.list (S2.map .int), .list (S.map .int), .lst (sq_of (ez _ _ hl2)) (dp_ints S2), .lst (sq_of hl9) (dp_ints S), shaped_ints _, shaped_ints _, _, rfl, ?_⟩
          have hev : PyData.eqv (.list (S2.map .int)) (.list (S.map .int)) = decide (S2 = S) := by rw [PyData.eqv]; exact eqvAll_ints S2 S
          rw [hev]
          by_cases hS : S2 = S
          · subst hS
            simp only [decide_true, if_true]
            refine (evp_told (E := C8.E0) (σ := ([some (.ref tp), some (.ref a), some (.int root), some (.int told), some (.ref l), x5, some (.ref b), some (.int (gn : Int)), some (.ref fb), x9, none, none, none, none] : L2.St)) (t1 := tVar 8) (t2 := tVar 2) (ev_var rfl) (ev_var rfl) (hfb.mono (HK.tex ((ex.trans ey).trans ez))) okF r0 r1) Hz (Ex.refl Hz) _ fun v Hw ew r => ?_
            obtain ⟨d, rfl, _, hF, _⟩ := r
            have hge : told ≤ cst ⟨N.n, fr.map (·.2)⟩ d := by
              have F2 := sub_full hsubR (fun x hx => (hm2 x).mp ((hm x).mpr hx)) hF
              have := hmin.2 d F2
              rw [sub_cst hok okF hsubR hF.1] at this
              exact this
            refine (ev_var rfl : Ev (tVar 3) ([some (.ref tp), some (.ref a), some (.int root), some (.int told), some (.ref l), x5, some (.ref b), some (.int (gn : Int)), some (.ref fb), x9, none, none, none, none] : L2.St) Hw (.int told)) Hw (Ex.refl Hw) _ fun Hv ev => ?_
            refine ⟨_, _, rfl, rfl, _, rfl, ?_⟩
            have : decide (cst ⟨N.n, fr.map (·.2)⟩ d < told) = false := by simp; exact hge
            rw [this]
            exact qx Hv (((ey.trans ez).trans ew).trans ev)
          · have : decide (S2 = S) = false := by simp [hS]
            rw [this]
            exact qx Hz (ey.trans ez)
      · rintro σ' H6 _
        exact s_ret ev_c fun H7 e7 => k H7
end
end HK

/-! part HLG -/
/-! The law. -/
namespace HK
open PySem PySem.Spec PyProof.Rows L2 Evl
open C8 (Cal Met Mak pe_c pe_mk pe_mt pe_mt0 pe_gc fnScope_by)
open LamX (ExtN)
set_option hygiene false in
local macro_rules | `(tactic| walk_at "len") => `(tactic| (intro vs H Q E h; first
  | (obtain ⟨rfl, _⟩ := h; rfl)
  | (obtain ⟨_, rfl, _⟩ := h; rfl)
  | (obtain ⟨_, _, rfl, _⟩ := h; rfl)
  | (obtain ⟨_, _, _, rfl, _⟩ := h; rfl)
  | (obtain ⟨_, _, _, _, rfl, _⟩ := h; rfl)
  | (obtain ⟨_, _, _, _, _, rfl, _⟩ := h; rfl)
  | (obtain ⟨_, _, _, _, _, _, rfl, _⟩ := h; rfl)
  | (obtain ⟨_, _, _, _, _, _, _, rfl, _⟩ := h; rfl)
  | (obtain ⟨_, _, _, _, _, _, _, _, rfl, _⟩ := h; rfl)
  | (obtain ⟨_, _, _, _, _, _, _, _, _, rfl, _⟩ := h; rfl)
  | (obtain ⟨_, _, _, _, _, _, _, _, _, _, rfl, _⟩ := h; rfl)
  | (obtain ⟨_, _, _, _, _, _, _, _, _, _, _, rfl, _⟩ := h; rfl)
  | (obtain ⟨_, _, _, _, _, _, _, _, _, _, _, _, rfl, _⟩ := h; rfl)
  | (obtain ⟨_, _, _, _, _, _, _, _, _, _, _, _, _, rfl, _⟩ := h; rfl)
  | (obtain ⟨_, _, _, _, _, _, _, _, _, _, _, _, _, _, rfl, _⟩ := h; rfl)
  | (obtain ⟨_, _, _, _, _, _, _, _, _, _, _, _, _, _, _, rfl, _⟩ := h; rfl)
  | (obtain ⟨_, _, _, _, _, _, _, _, _, _, _, _, _, _, _, _, rfl, _⟩ := h; rfl)
  | (obtain ⟨_, _, _, _, _, _, _, _, _, _, _, _, _, _, _, _, _, rfl, _⟩ := h; rfl)
  | (obtain ⟨_, _, _, _, _, _, _, _, _, _, _, _, _, _, _, _, _, _, rfl, _⟩ := h; rfl)
  | (obtain ⟨_, _, _, _, _, _, _, _, _, _, _, _, _, _, _, _, _, _, _, rfl, _⟩ := h; rfl)
  | (obtain ⟨_, _, _, _, _, _, _, _, _, _, _, _, _, _, _, _, _, _, _, _, rfl, _⟩ := h; rfl)
  | (obtain ⟨_, _, _, _, _, _, _, _, _, _, _, _, _, _, _, _, _, _, _, _, _, rfl, _⟩ := h; rfl)
  | (obtain ⟨_, _, _, _, _, _, _, _, _, _, _, _, _, _, _, _, _, _, _, _, _, _, rfl, _⟩ := h; rfl)
  | (obtain ⟨_, _, _, _, _, _, _, _, _, _, _, _, _, _, _, _, _, _, _, _, _, _, _, rfl, _⟩ := h; rfl)
  | (obtain ⟨_, _, _, _, _, _, _, _, _, _, _, _, _, _, _, _, _, _, _, _, _, _, _, _, rfl, _⟩ := h; rfl)
  | (obtain ⟨_, _, _, _, _, _, _, _, _, _, _, _, _, _, _, _, _, _, _, _, _, _, _, _, _, rfl, _⟩ := h; rfl)))

theorem PT.exB {T : Addr} {H H' : Hp} {tp : Addr} {xs : List V} (t : PT T H) (hl : H tp = some (.lst xs)) (e : ExB [tp] H H') : PT T H' := t.keep fun b o hu hb => e b o (by
  simp
  rintro rfl
  rw [hl] at hb
  cases hb
  rcases hu with ⟨_, q⟩ | ⟨_, q⟩ <;> cases q) hb
section
variable {P : Program} {w : World} {K : PySem.W.Frag} {mg : Str → Option Value} {base : Heap}
theorem Tape.exn {tp sc : Addr} {ns : List Int} {H H' : Hp} (t : Tape K tp sc ns H) (e : ExtN H H') : Tape K tp sc ns H' := by
  obtain ⟨pos, c, h1, h2, h3⟩ := t.cell
  refine ⟨⟨pos, c, e _ _ h1 (fun ps z => nomatch z), h2, h3⟩, Tape.sqx t.scr fun o ho hk => e _ _ ho (fun ps z => ?_), t.ne, t.len⟩
  rcases hk with rfl | ⟨u, rfl⟩ <;> cases z
theorem evp_tupOfI {te : TE} {σ : L2.St} {H : Hp} {f : Int → Bool} {R : List Int → Prop} (h : EvP te σ H fun v H2 => ∃ (p : Addr) (S : List Int), v = .ref p ∧ H p = none ∧ H2 p = some (.lst ((S.filter f).map V.int)) ∧ R S) :
    EvP (tCB (rTupOf K) (tCons te tNil)) σ H fun v H2 => ∃ (p : Addr) (S : List Int), v = .ref p ∧ H2 p = some (.tup ((S.filter f).map V.int)) ∧ R S := fun H1 e Q q => h H1 e _ fun v H2 e2 r => by
  obtain ⟨p, S, rfl, _, hp, hr⟩ := r
  exact ⟨p, _, rfl, .inl ⟨sq_of hp, fun l hl => q _ _ (e2.trans (Ex.new hl)) ⟨l, S, rfl, upd_same, hr⟩⟩⟩
/-- what stands all along -/
structure LawS (K : PySem.W.Frag) (T tp sc : Addr) (ns : List Int) (H : Hp) : Prop where
  tape : Tape K tp sc ns H
  pt : PT T H
theorem LawS.mono {T tp sc : Addr} {ns : List Int} {H H' : Hp} (s : LawS K T tp sc ns H) (e : Ex H H') : LawS K T tp sc ns H' := ⟨s.tape.mono e, s.pt.ex e⟩
theorem LawS.b {T tp sc : Addr} {ns : List Int} {H H' : Hp} (s : LawS K T tp sc ns H) (e : ExB [tp] H H') (t : Tape K tp sc ns H') : LawS K T tp sc ns H' := ⟨t, by
  obtain ⟨pos, c, h1, _⟩ := s.tape.cell
  exact s.pt.exB h1 e⟩
def spLaw (K : PySem.W.Frag) (T : Addr) : Sp := fun vs H Q _ => ∃ (sc : Addr) (ns : List Int), vs = [.ref sc] ∧ SqL K H sc (ns.map V.int) ∧ ns.length ≤ 100000 ∧ PT T H ∧ ∀ H2, Q (.bl true) H2
abbrev s_law : Stmt := top 62
abbrev N_law : List Str := ["script", "tape", "net", "root", "told", "turn", "some", "place"]
theorem sc_law : FnScope N_law ["script"] (defScope s_law) := fnScope_by (by decide +kernel)
theorem fun_ok {x : Str} {st : Stmt} {ps N : List Str} {k : Nat} {sp : Sp} {f : Addr} {fd : FuncData} (D : FunD K x x (defArgs st) (defBody st) (defScope st) [] [] f fd) (S : FnScope N ps (defScope st)) (len : ∀ vs H Q E, sp vs H Q E → vs.length = ps.length)
    (hbody : ∀ (f : Addr) (cdv : Value) (A : Around) (outer : List Env) (s : Shared) (H : Hp) (vs : List V) (Q : VK) (E : XK), Room k (A.deeper (envOfC x (defScope st) s.heap.objs.size f cdv)) → sp vs H Q E →
      ∃ t, PSs (cxOf CX0 P w K mg base N x (defScope st) f cdv A outer s H E).nox (defBody st) t ∧ t { nx := fun _ H' => Q .non H', rt := Q } (start N vs) H) : FnOk P w K mg base CX0 (k + 1) f fd ps sp := D.ok S len fun cdv A outer s H vs Q E hr hsp => by
  obtain ⟨t, h, q⟩ := hbody f cdv A outer s H vs Q E hr hsp
  exact ⟨t, h.nox, q⟩
theorem ok_law {T0 : Addr} {fL : Addr} {fdL : FuncData} (F : FunD K "law" "law" (defArgs s_law) (defBody s_law) (defScope s_law) [] [] fL fdL) (T : Txt K mg) (c__law_b_turned : Cal P w K mg base 8 "_law_b_turned" (spTurned K) []) (c__law_b_by_grafts : Cal P w K mg base 7 "_law_b_by_grafts" (spByGrafts K) []) (c_price : Cal P w K mg base 6 "price" spPrice []) (c_cheapest : Cal P w K mg base 6 "cheapest" (spCheapest T0) []) (c__law_b_reached : Cal P w K mg base 1 "_law_b_reached" (spReached K) [])
    (c__law_b_full : Cal P w K mg base 4 "_law_b_full" (spFull K) []) (c__law_b_told : Cal P w K mg base 7 "_law_b_told" spTold []) (c__law_b_digit : Cal P w K mg base 2 "_law_b_digit" (spDigit K) []) (c__law_b_cheap : Cal P w K mg base 1 "_law_b_cheap" spCheap []) (c__law_b_net : Cal P w K mg base 3 "_law_b_net" (spNet K) []) (c__law_b_least : Cal P w K mg base 7 "_law_b_least" spLeast []) :
    FnOk P w K mg base CX0 9 fL fdL ["script"] (spLaw K T0) := by
  refine fun_ok F sc_law (by walk_at "len") (fun f0 cdv A outer s0 H vs Q X hr h => ?_)
  obtain ⟨sc, ns, rfl, hsc, hnl, hPT, k⟩ := h
  have nd := sc_law.nd
  refine ⟨_, (pss_cons (ps_set (i := 1) nd rfl (Or.inl rfl) (pe_lst (pa_cons (pv 0) (pa_cons pe_int (pa_cons pe_int pa_nil)))))
      (pss_cons (ps_set (i := 2) nd rfl (Or.inl rfl) (pe_c c__law_b_net hr (by decide) (by rfl) (pa_cons (pv 1) (pa_cons pe_int pa_nil))))
      (pss_cons (ps_set (i := 3) nd rfl (Or.inr rfl) (pe_c c__law_b_digit hr (by decide) (by rfl) (pa_cons (pv 1) (pa_cons (pe_ix (ixT (K := K) rfl) (pv 2) pe_int (fun _ _ => rfl)) pa_nil))))
      (pss_cons (ps_if (pt_cmpR op_ne (pe_c c__law_b_told hr (by decide) (by rfl) (pa_cons (pv 2) (pa_cons (pv 3) pa_nil))) (pe_c c__law_b_least hr (by decide) (by rfl) (pa_cons (pv 2) (pa_cons (pv 3) pa_nil))) (nomark _)) (pss_one (ps_ret pe_bl)) pss_nil)
      (pss_cons (ps_set (i := 2) nd rfl (Or.inl rfl) (pe_c c__law_b_cheap hr (by decide) (by rfl) (pa_cons (pe_c c__law_b_net hr (by decide) (by rfl) (pa_cons (pv 1) (pa_cons pe_int pa_nil))) pa_nil)))
      (pss_cons (ps_set (i := 3) nd rfl (Or.inr rfl) (pe_c c__law_b_digit hr (by decide) (by rfl) (pa_cons (pv 1) (pa_cons (pe_ix (ixT (K := K) rfl) (pv 2) pe_int (fun _ _ => rfl)) pa_nil))))
      (pss_cons (ps_set (i := 4) nd rfl (Or.inl rfl) (pe_c c__law_b_told hr (by decide) (by rfl) (pa_cons (pv 2) (pa_cons (pv 3) pa_nil))))
      (pss_cons (ps_for PassesOwn.never rfl (pi_range1 (by rfl) T.g_range (pa_cons pe_int pa_nil)) (pg_name (i := 5) nd rfl (Or.inl rfl)) (pss_one (ps_if (pt_cmpR op_lt (pe_c c_price hr (by decide) (by rfl) (pa_cons (pv 2) (pa_cons (pv 3) (pa_cons (pe_c c__law_b_full hr (by decide) (by rfl) (pa_cons (pv 1) (pa_cons (pv 2) (pa_cons (pv 3) pa_nil)))) pa_nil)))) (pv 4) (nomark _)) (pss_one (ps_ret pe_bl)) pss_nil)))
      (pss_cons (ps_set (i := 6) nd rfl (Or.inl rfl) (pe_callTy (tupK (K := K) rfl) (by rfl) T.g_tuple (by decide +kernel) (pa_cons (pe_lc (own := [("place", 7)]) (g := (gName 7)) rfl nd (pi_lstK (K := K) rfl (pe_c c__law_b_reached hr (by decide) (by rfl) (pa_cons (pv 2) (pa_cons (pv 3) pa_nil)))) (blkOk_by (own := [("place", 7)]) (N := N_law) (sc := defScope s_law) (by decide +kernel)) (fun _ _ _ _ _ => (pg_name (i := 7) nd rfl (Or.inl rfl))) (fun _ _ _ _ _ => (pts_one (pt_cmpR op_ne (pv 7) (pv 3) (nomark _)))) (fun _ _ _ _ _ => (pv 7))) pa_nil)))
      (pss_cons (ps_if (PW.pt (pw_and (pt_cmpR (neK (K := K) rfl hr.units) (pv 6) (pe_tup pa_nil) (nomark _)) (pw_and1 (pt_cmpR op_ne (pe_c c_price hr (by decide) (by rfl) (pa_cons (pv 2) (pa_cons (pv 3) (pa_cons (pe_ix (ixT (K := K) rfl) (pe_c c_cheapest hr (by decide) (by rfl) (pa_cons (pv 2) (pa_cons (pv 3) (pa_cons (pv 6) pa_nil)))) pe_int (fun _ _ => rfl)) pa_nil)))) (pv 4) (nomark _))))) (pss_one (ps_ret pe_bl)) pss_nil)
      (pss_cons (ps_if (pt_cmpR op_lt (pe_c c__law_b_by_grafts hr (by decide) (by rfl) (pa_cons (pv 1) (pa_cons (pv 2) (pa_cons (pv 3) pa_nil)))) (pv 4) (nomark _)) (pss_one (ps_ret pe_bl)) pss_nil)
      (pss_one (ps_ret (pe_c c__law_b_turned hr (by decide) (by rfl) (pa_cons (pv 1) (pa_cons (pv 2) (pa_cons (pv 3) (pa_cons (pv 4) pa_nil)))))))))))))))))), ?_⟩
  refine q_asgL (el_lst (ea_cons (ev_var rfl) (ea_cons ev_c (ea_cons ev_c ea_nil))) (by show 3 ≤ 100000; decide)) fun tp H1 tp0 e1 htp => ?_
  have hne : sc ≠ tp ∨ SqKo K sc (ns.map V.int) := by
    rcases hsc with (h | ⟨o, h⟩) | h
    · exact .inl (ne_of_none h tp0)
    · exact .inl (ne_of_none h tp0)
    · exact .inr h
  have L1 : LawS K T0 tp sc ns H1 := ⟨⟨⟨0, 0, htp, Int.le_refl _, Int.le_refl _⟩, ex_l e1 hsc, hne, hnl⟩, hPT.ex e1⟩
  refine xq_asg (evx_call (ea_cons (ev_var rfl) (ea_cons ev_c ea_nil)) fun H2 e2 Q1 q1 => ⟨tp, sc, ns, 4, rfl, (L1.mono e2).tape, by decide, by decide, fun v H3 e3 t3 r => q1 _ _ ?_⟩)
  obtain ⟨a, N, rfl, hN, hok, hn4⟩ := r
  have L3 := (L1.mono e2).b e3 t3
  have n1 := hok.n1
  have n12 := hok.n12
  obtain ⟨t, as, ha, _, _⟩ := hN.ex
  refine xq_asg (dig_x (many := N.n) (ev_var rfl) (ev_ixT (i := 0) (v := .int N.n) (ev_var rfl) ev_c ha rfl) L3.tape (by omega) (by omega) fun root H4 e4 t4 r0 r1 => ?_)
  have L4 := L3.b e4 t4
  have N4 := hN.mono (L3.tape.tex e4)
  show (tSeq (tIfS _ _ _) _ : TS) _ ([some (.ref sc), some (.ref tp), some (.ref a), some (.int root), none, none, none, none] : L2.St) H4
  refine q_skip (b := false) (fun Hx ex Qx qx => ?_) rfl fun H5 e5 => ?_
  · refine (evp_told (E := C8.E0) (σ := ([some (.ref sc), some (.ref tp), some (.ref a), some (.int root), none, none, none, none] : L2.St)) (t1 := tVar 2) (t2 := tVar 3) (ev_var rfl) (ev_var rfl) N4 hok r0 r1) Hx ex _ fun v Hy ey r => ?_
    obtain ⟨d, rfl, _, hF, hmin⟩ := r
    refine (evp_call (sp := spLeast) (E := C8.E0) (σ := ([some (.ref sc), some (.ref tp), some (.ref a), some (.int root), none, none, none, none] : L2.St)) (R := fun v _ => ∃ t : Int, v = .int t ∧ IsMin N root t) (ea_cons (ta := tVar 2) (ev_var rfl) (ea_cons (ta := tVar 3) (ev_var rfl) ea_nil)) fun Hz ez Q q => ⟨a, N, root, rfl, N4.mono (HK.tex ez), hok, r0, r1, hn4, ⟨d, hF⟩, q⟩) Hy (ex.trans ey) _ fun v Hz ez r => ?_
    obtain ⟨m, rfl, hm⟩ := r
    refine ⟨rfl, _, rfl, ?_⟩
    have : m = cst N d := hm.uniq hmin
    subst this
    have : (!decide (V.int (cst N d) = V.int (cst N d))) = false := by simp
    rw [this]
    exact qx Hz (ey.trans ez)
  have L5 := L4.mono e5
  -- the second net
  refine xq_asg (evx_callA (ax_cons (evx_call (ea_cons (ev_var rfl) (ea_cons ev_c ea_nil)) fun H6 e6 Q1 q1 => ⟨tp, sc, ns, 7, rfl, (L5.mono e6).tape, by decide, by decide, fun v H7 e7 t7 r => q1 _ _ (ax_nil fun Q2 q2 => ?_)⟩)))
  obtain ⟨a2, N0, rfl, hN0, hok0, hn7⟩ := r
  have rsl := few_roads hok0
  have L7 := (L5.mono e6).b e7 t7
  refine ⟨a2, N0, rfl, hN0, by omega, fun v H8 e8 r => q2 _ _ ?_⟩
  obtain ⟨a3, rfl, hN1⟩ := r
  have hokC : (mapN N0 cheapR).Ok := mapN_ok hok0 same_cheap (fun _ => rfl) fun r hr => by
    have h1 := (hok0.rs r hr).p0
    have h2 := (hok0.rs r hr).p1
    have h3 : 0 ≤ r.p % 7 := Int.emod_nonneg _ (by decide)
    have h4 : r.p % 7 < 7 := Int.emod_lt_of_pos _ (by decide)
    show 0 ≤ (if 500 - r.p % 7 < r.p then 500 - r.p % 7 else r.p) ∧ (if 500 - r.p % 7 < r.p then 500 - r.p % 7 else r.p) ≤ 1000
    split <;> omega
  have h500 : ∀ r ∈ (mapN N0 cheapR).rs, r.p ≤ 500 := fun r hr => by
    obtain ⟨x, hx, rfl⟩ := List.mem_map.mp hr
    have h3 : 0 ≤ x.p % 7 := Int.emod_nonneg _ (by decide)
    show (if 500 - x.p % 7 < x.p then 500 - x.p % 7 else x.p) ≤ 500
    split <;> omega
  have hn7' : (mapN N0 cheapR).n ≤ 7 := hn7
  generalize mapN N0 cheapR = M at *
  have L8 := L7.mono e8
  have m1 := hokC.n1
  obtain ⟨t2, as2, ha2, _, _⟩ := hN1.ex
  refine xq_asg (dig_x (many := M.n) (ev_var rfl) (ev_ixT (i := 0) (v := .int M.n) (ev_var rfl) ev_c ha2 rfl) L8.tape (by omega) (by omega) fun root2 H9 e9 t9 s0 s1 => ?_)
  have L9 := L8.b e9 t9
  have N9 := hN1.mono (L8.tape.tex e9)
  refine q_asgP (evp_told (ev_var rfl) (ev_var rfl) N9 hokC s0 s1) fun v H10 e10 r => ?_
  obtain ⟨d0, rfl, hG0, hF0, hmin⟩ := r
  generalize htold : cst M d0 = told at *
  have L10 := L9.mono e10
  have N10 := N9.mono (HK.tex e10)
  refine q_forR1 (n := 6) (ea_cons ev_c ea_nil) ⟨by decide, by decide⟩ (fun m σ' H' => ∃ x5, σ' = [some (.ref sc), some (.ref tp), some (.ref a3), some (.int root2), some (.int told), x5, none, none] ∧ LawS K T0 tp sc ns H' ∧ NetAt H' a3 M)
    (fun H11 e11 => ⟨none, rfl, L10.mono e11, N10.mono (HK.tex e11)⟩) ?_ ?_
  · rintro m σ' H11 _ ⟨x5, rfl, L11, N11⟩
    show (tIfS _ _ _ : TS) _ ([some (.ref sc), some (.ref tp), some (.ref a3), some (.int root2), some (.int told), some (.int (m : Int)), none, none] : L2.St) H11
    refine x_if (tx_test (evx_opV (evx_callA (ax_cons (evx (ev_var rfl) fun H12 e12 => ax_cons (evx (ev_var rfl) fun H13 e13 => ax_cons (evx_call (ea_cons (ev_var rfl) (ea_cons (ev_var rfl) (ea_cons (ev_var rfl) ea_nil))) fun H14 e14 Q1 q1 => ?_)))))))
    have L14 := ((L11.mono e12).mono e13).mono e14
    have N14 := N11.mono (HK.tex ((e12.trans e13).trans e14))
    refine ⟨tp, sc, a3, ns, M, root2, rfl, L14.tape, N14, hokC, s0, s1, fun b d H15 e15 t15 hb hG hF => q1 _ _ (ax_nil fun Q2 q2 => ?_)⟩
    have L15 := L14.b e15 t15
    have N15 := N14.mono (L14.tape.tex e15)
    have gf := hG.few hokC s0 s1
    have dl := len_keys d
    simp only [List.length_cons] at gf
    refine ⟨a3, b, M, root2, d, rfl, N15, hokC, s0, s1, hb, by omega, hF.1, fun H16 e16 => q2 _ _ (evx (ev_var rfl) fun H17 e17 => ⟨_, rv_I0, fun H18 e18 => ⟨_, rfl, fun z => ?_, fun _ => ?_⟩⟩)⟩
    · exfalso
      have h1 := hmin.2 d hF
      have : cst M d < told := by simpa using z
      omega
    · exact ⟨_, rfl, ((L15.mono e16).mono e17).mono e18, N15.mono (HK.tex ((e16.trans e17).trans e18))⟩
  · rintro σ' H11 ⟨x5, rfl, L11, N11⟩
    -- all the others
    have hlc := evp_lcC (K := K) (σ := ([some (.ref sc), some (.ref tp), some (.ref a3), some (.int root2), some (.int told), x5, none, none] : L2.St)) (H := H11) (j := 7) (t := tTest (tOp rNe (tVar 7) (tVar 3))) (f := fun x => !decide (x = root2)) (evp_reached (K := K) (E := C8.E0) (t1 := tVar 2) (t2 := tVar 3) (ev_var rfl) (ev_var rfl) N11 hokC s0 s1) (fun x => rfl) (fun x => rfl) fun x H12 e12 => et_neI (ev_var rfl) (ev_var rfl)
    refine q_asgP (evp_tupOfI (K := K) hlc) fun v H12 e12 r => ?_
    obtain ⟨p, S, rfl, hp, hSl, hSu, hSm⟩ := r
    have ndS := nd_of_up hSu
    have L12 := L11.mono e12
    have N12 := N11.mono (HK.tex e12)
    generalize hhs : S.filter (fun x => !decide (x = root2)) = hs at *
    have hsm : ∀ x, x ∈ hs ↔ Reach M root2 x ∧ x ≠ root2 := fun x => by
      rw [← hhs, List.mem_filter, hSm x]; simp
    have hsup : hs.Pairwise (· < ·) := by rw [← hhs]; exact hSu.filter _
    have hs6 : hs.length ≤ 6 := by
      have : hs.length < S.length := by rw [← hhs]; exact List.length_filter_lt_length_iff_exists.mpr ⟨root2, (hSm root2).mpr .root, by simp⟩
      omega
    have G0 : ∀ x ∈ hs, x = root2 ∨ x ∈ keys d0 := fun x hx => .inr (hF0.2 x ((hsm x).mp hx).1 ((hsm x).mp hx).2)
    show (tSeq (tIfS _ _ _) _ : TS) _ ([some (.ref sc), some (.ref tp), some (.ref a3), some (.int root2), some (.int told), x5, some (.ref p), none] : L2.St) H12
    have rest : ∀ H', LawS K T0 tp sc ns H' → NetAt H' a3 M → (tSeq (tIfS (tTest (tOp (rI0 fun i j => .bl (decide (i < j))) (tCall (spByGrafts K) [] C8.E0 (tCons (tVar 1) (tCons (tVar 2) (tCons (tVar 3) tNil)))) (tVar 4))) (tRet (tC (.bl false))) tNext) (tRet (tCall (spTurned K) [] C8.E0 (tCons (tVar 1) (tCons (tVar 2) (tCons (tVar 3) (tCons (tVar 4) tNil)))))) : TS) { nx := fun _ H' => Q .non H', rt := Q } ([some (.ref sc), some (.ref tp), some (.ref a3), some (.int root2), some (.int told), x5, some (.ref p), none] : L2.St) H' := fun H' L N' => by
      refine xq_if (tx_test (evx_opV (evx_call (ea_cons (ev_var rfl) (ea_cons (ev_var rfl) (ea_cons (ev_var rfl) ea_nil))) fun H13 e13 Q1 q1 => ⟨tp, sc, a3, ns, M, root2, rfl, (L.mono e13).tape, N'.mono (HK.tex e13), hokC, s0, s1, fun d H14 e14 t14 hF => q1 _ _ (evx (ev_var rfl) fun H15 e15 => ⟨_, rv_I0, fun H16 e16 => ⟨_, rfl, fun z => ?_, fun _ => ?_⟩⟩)⟩)))
      · exfalso
        have h1 := hmin.2 d hF
        have : cst M d < told := by simpa using z
        omega
      · have LL := (((L.mono e13).b e14 t14).mono e15).mono e16
        have NN := ((N'.mono (HK.tex e13)).mono ((L.mono e13).tape.tex e14)).mono (HK.tex (e15.trans e16))
        refine s_retC (ea_cons (ev_var rfl) (ea_cons (ev_var rfl) (ea_cons (ev_var rfl) (ea_cons (ev_var rfl) ea_nil)))) fun H17 e17 Q1 q1 => ⟨tp, sc, a3, ns, M, root2, told, rfl, (LL.mono e17).tape, NN.mono (HK.tex e17), hokC, s0, s1, h500, hmin, fun H2 => q1 _ _ (k H2)⟩
    refine xq_if (tx_and (tx (et_test (ev_neTU (m := []) (ev_var rfl) (eu_tup (vs := []) ea_nil (Nat.zero_le _)) hp)) fun H13 e13 => ⟨fun hb => ?_, fun _ => ⟨(fun z => nomatch z), fun _ => rest H13 (L12.mono e13) (N12.mono (HK.tex e13))⟩⟩))
    have hne' : hs ≠ [] := by
      rintro z
      rw [z] at hb; simp at hb
    have L13 := L12.mono e13
    have N13 := N12.mono (HK.tex e13)
    refine tx_test (evx_opV (evx_callA (ax_cons (evx (ev_var rfl) fun H14 e14 => ax_cons (evx (ev_var rfl) fun H15 e15 => ax_cons (evx_op (evx_call (ea_cons (ev_var rfl) (ea_cons (ev_var rfl) (ea_cons (ev_var rfl) ea_nil))) fun H16 e16 Q1 q1 => ?_)))))))
    have E16 := (e14.trans e15).trans e16
    have L16 := L13.mono E16
    have N16 := N13.mono (HK.tex E16)
    refine ⟨a3, p, M, root2, hs, rfl, ⟨N16, hokC, s0, s1, E16 _ _ (e13 _ _ hp), hsup, hne', hs6, fun h hh => reach_range hokC s0 s1 ((hsm h).mp hh).1, fun h hh => ((hsm h).mp hh).1, ⟨d0, hG0, G0⟩, L16.pt⟩, fun v H17 e17 t17 r => q1 _ _ ?_⟩
    obtain ⟨u, b, l, x, z, rfl, hu, hb', hTl, hin, hle⟩ := r
    have L17 : LawS K T0 tp sc ns H17 := ⟨L16.tape.exn e17, t17⟩
    have N17 := N16.mono (ExtN.tex e17)
    refine evx ev_c fun H18 e18 Q2 q2 => ⟨u, _, 1, .ref b, rfl, rfl, st_of (e18 _ _ hu), rfl, q2 _ _ (ax_nil fun Q3 q3 => ?_)⟩
    have Fl : Full M root2 l := ⟨hTl, fun y hy hne => (hin y ((hsm y).mpr ⟨hy, hne⟩)).resolve_left hne⟩
    have heq : cst M l = told := by
      have h1 := hle d0 hG0 G0
      have h2 := hmin.2 l Fl
      omega
    have lfew := tree_few hokC s0 s1 hTl
    have ll := lfew.len hokC.n12
    refine ⟨a3, b, M, root2, l, rfl, N17.mono (HK.tex e18), hokC, s0, s1, e18 _ _ hb', by omega, hTl, fun H19 e19 => q3 _ _ (evx (ev_var rfl) fun H20 e20 => ⟨_, rv_ne rfl, fun H21 e21 => ⟨_, rfl, fun z => ?_, fun _ => ?_⟩⟩)⟩
    · exfalso
      rw [heq] at z; simp at z
    · exact rest H21 (L17.mono (((e18.trans e19).trans e20).trans e21)) (N17.mono (HK.tex (((e18.trans e19).trans e20).trans e21)))
end
end HK

/-! part HLaw -/
/-! The head: the module's facts, the run of its top, the join. -/
namespace HK
open PySem PySem.Spec PyProof.Rows L2
def dD (x : Str) (i : Nat) : He.DefD := ⟨(x, none), x, x, defArgs (top i), defBody (top i), defScope (top i), [], []⟩
def dM (x q : Str) (j : Nat) : He.DefD := ⟨("Weighing", some x), x, q, defArgs (inClass (top 26) j), defBody (inClass (top 26) j), defScope (inClass (top 26) j), [], []⟩
def fn : List He.DefD := [dD "is_whole" 10, dD "is_from_to" 11, dD "is_road" 12, dD "is_net" 13, dD "need_net" 14, dD "need_place" 15, dD "need_hearers" 16, dD "road_of" 17, dD "comes_home" 18, dD "is_tree_in" 19, dD "need_tree" 20, dD "price" 21, dD "earliest_by" 23, dD "earliest_in" 24, dD "everywhere" 27, dD "need_some" 30, dD "parts_of" 31, dD "splits_of" 32, dD "sum_of" 33, dD "is_less" 34, dD "fill_by_roads" 35, dD "table_of" 36, dD "roads_for" 37, dD "tree_by" 38, dD "trimmed" 39, dD "reached_by" 40, dD "cheapest_in" 41, dD "cheapest" 42, dD "prices_by" 44, dD "graft" 45, dD "_law_b_spread" 47, dD "_law_b_digit" 48, dD "_law_b_some" 49, dD "_law_b_net" 50, dD "_law_b_road" 51, dD "_law_b_is_tree" 53, dD "_law_b_reached" 54, dD "_law_b_least" 55, dD "_law_b_told" 56, dD "_law_b_full" 57, dD "_law_b_dearer" 58, dD "_law_b_by_grafts" 59, dD "_law_b_turned" 60, dD "_law_b_cheap" 61, dD "law" 62, dM "__init__" "Weighing.__init__" 0, dM "behind_of" "Weighing.behind_of" 1, dM "bare_places" "Weighing.bare_places" 2, dM "roads_into" "Weighing.roads_into" 3, dM "weigh" "Weighing.weigh" 4, dM "weigh_all" "Weighing.weigh_all" 5, dM "next_road" "Weighing.next_road" 6, dM "tree" "Weighing.tree" 7]
def fa : List He.Fa := [.glo "is_whole", .glo "is_from_to", .glo "is_road", .glo "is_net", .glo "need_net", .glo "need_place", .glo "need_hearers", .glo "road_of", .glo "comes_home", .glo "is_tree_in", .glo "need_tree", .glo "price", .glo "earliest_by", .glo "earliest_in", .glo "everywhere", .glo "need_some", .glo "parts_of", .glo "splits_of", .glo "sum_of", .glo "is_less", .glo "fill_by_roads", .glo "table_of", .glo "roads_for", .glo "tree_by", .glo "trimmed", .glo "reached_by", .glo "cheapest_in", .glo "cheapest", .glo "prices_by", .glo "graft", .glo "_law_b_spread", .glo "_law_b_digit", .glo "_law_b_some", .glo "_law_b_net", .glo "_law_b_road", .glo "_law_b_is_tree", .glo "_law_b_reached", .glo "_law_b_least", .glo "_law_b_told", .glo "_law_b_full", .glo "_law_b_dearer", .glo "_law_b_by_grafts", .glo "_law_b_turned", .glo "_law_b_cheap", .glo "law", .free "len", .free "range", .free "isinstance", .free "all", .free "sum", .free "sorted", .free "min", .free "tuple", .free "dict", .free "set", .free "int", .free "bool", .int "MOST_PLACES" 12, .int "MOST_PRICE" 1000, .int "MOST_LATE" 1000, .int "MOST_HEARERS" 6, .glo "Weighing", .cls "Weighing", .mkr "Weighing", .noat "Weighing" "root", .noat "Weighing" "reached", .noat "Weighing" "left", .noat "Weighing" "spent", .noat "Weighing" "weights", .meth "Weighing" "behind_of", .meth "Weighing" "bare_places", .meth "Weighing" "roads_into", .meth "Weighing" "weigh", .meth "Weighing" "weigh_all", .meth "Weighing" "next_road", .meth "Weighing" "tree"]
def loose0 : List Str := ["__name__", "HearError", "NoNet", "NoPlace", "NoTree", "TooMany", "__name__", "MOST_PLACES", "MOST_PRICE", "MOST_LATE", "is_whole", "is_from_to", "is_road", "is_net", "need_net", "need_place", "need_hearers", "road_of", "comes_home", "is_tree_in", "need_tree", "price", "__name__", "earliest_by", "earliest_in", "__name__", "Weighing", "everywhere", "__name__", "MOST_HEARERS"]
def loose1 : List Str := ["need_some", "parts_of", "splits_of", "sum_of", "is_less", "fill_by_roads", "table_of", "roads_for", "tree_by", "trimmed", "reached_by", "cheapest_in", "cheapest", "__name__", "prices_by", "graft", "__name__", "_law_b_spread", "_law_b_digit", "_law_b_some", "_law_b_net", "_law_b_road", "_law_b_grown", "_law_b_is_tree", "_law_b_reached", "_law_b_least", "_law_b_told", "_law_b_full", "_law_b_dearer", "_law_b_by_grafts"]
def loose2 : List Str := ["_law_b_turned", "_law_b_cheap"]
def loose : List Str := loose0 ++ (loose1 ++ (loose2))
/-- the code object of parts_of, its table -/
def codeOf (K : PySem.W.Frag) : Addr := match K.lookup (He.ga K "parts_of") with
  | some ⟨_, _, .func fd, _⟩ => (match fd.code with
    | .ref c => c
    | _ => 0)
  | _ => 0
def refOk (K : PySem.W.Frag) : Bool := match K.lookup (He.ga K "parts_of") with
  | some ⟨_, _, .func fd, _⟩ => (match fd.code with
    | .ref c => c == codeOf K
    | _ => false)
  | _ => false
def tabOf (K : PySem.W.Frag) : Addr := match K.lookup (codeOf K) with
  | some ⟨_, _, .fields vs, _⟩ => (match (vs[11]? : Option Value) with
    | some (.ref p) => p
    | _ => 0)
  | _ => 0
def tabOk (K : PySem.W.Frag) : Bool := refOk K && (PySem.W.codeHdIn K (codeOf K) (tabOf K) && (K.lookup (tabOf K)).isNone)
def refsAt (g : Addr → Option Obj) (a : Addr) : List Addr := match g a with
  | some o => He.refsD o
  | none => []
/-- functions and classes alone -/
def isFC (g : Addr → Option Obj) (a : Addr) : Bool := match g a with
  | some ⟨_, _, .func _, _⟩ => true
  | some ⟨_, _, .cls _, _⟩ => true
  | _ => false
def isF (g : Addr → Option Obj) (a : Addr) : Bool := match g a with
  | some ⟨_, _, .func _, _⟩ => true
  | _ => false
def addr1 (g : Addr → Option Obj) : List Addr := (refsAt g mainGlobals).filter (isFC g)
def addr2 (g : Addr → Option Obj) : List Addr := (addr1 g).flatMap (refsAt g)
def addr3 (g : Addr → Option Obj) : List Addr := ((addr2 g).flatMap (refsAt g)).filter (isF g)
def addrs (g : Addr → Option Obj) : List Addr := mainGlobals :: (addr1 g ++ (addr2 g ++ (addr3 g ++ (addr3 g).flatMap (refsAt g))))
def fragOf (g : Addr → Option Obj) : PySem.W.Frag := He.frG g ((addrs g).filter fun a => !(a == tabOf (He.frG g (addrs g))))
abbrev AlT : Type := He.AlD × Bool × Option Obj
def emptyT : Obj := { cls := .none, data := .fields #[] }
def obsT (g : Addr → Option Obj) : AlT := (He.obsD fa fn (fragOf g), tabOk (fragOf g), g (tabOf (fragOf g)))
def hk : PySem.W.Hook where
  α := AlT
  obs := fun s => obsT s.heap.get?
  val := fun _ => (He.valD fn, true, some emptyT)
  says := fun _ h => ∃ K : PySem.W.Frag, K.In h ∧ He.SaysD fa fn K ∧ tabOk K = true ∧ h.get? (tabOf K) = some emptyT
  of := fun _ s e => ⟨fragOf s.heap.get?, He.frG_in, congrArg (fun z : AlT => z.1) e, congrArg (fun z : AlT => z.2.1) e, congrArg (fun z : AlT => z.2.2) e⟩
  keeps := fun _ _ _ ⟨K, hK, c, t, e⟩ k => ⟨K, PySem.W.Frag.In.keeps hK k, c, t, k _ _ e⟩
def ob (s : PySem.W.SharedT) : AlT := obsT (HandSHeadRun.getT s)
theorem ob_eq (s : PySem.W.SharedT) : ob s = hk.obs s.abs := by
  have e : HandSHeadRun.getT s = s.abs.heap.get? := funext (HandSHeadRun.getT_eq s)
  unfold ob
  rw [e] <;> rfl
abbrev Rw : PySem.W.OpenRow := PySem.W.OpenLaw.row PySem.Challenge.rw_hearkenway_k17_whole_no_tree_of_all_is_c
-- RUN
theorem run (w : World) : HandSHeadRun.RunEq Rw (PySem.W.view Rw.prog [62]) hk ob 6000 loose w := by
  intro os
  kernel_rfl
theorem facts {P : Program} {w : World} {K : PySem.W.Frag} {h base : Heap} {mg : Str → Option Value} (X : K.In h) (G : h.Ns mainGlobals mg) (c : He.SaysD fa fn K) (tk : tabOk K = true) (TB : LamX.TabB base mg (codeOf K) (tabOf K)) : ∀ {fL : Addr} {fdL : FuncData}, FunD K "law" "law" (defArgs (top 62)) (defBody (top 62)) (defScope (top 62)) [] [] fL fdL → FnOk P w K mg base CX0 9 fL fdL ["script"] (spLaw K (tabOf K)) := by
  intro fL fdL F_law
  have F_is_whole : DefAt K mg "is_whole" (top 10) ["thing"] := by
    obtain ⟨fd, FD⟩ := c.def_ 0 (d := dD "is_whole" 10) rfl
    exact ⟨⟨_, fd, FD, He.glo_ok X G (c.fact 0 (f := .glo "is_whole") rfl), FD.bindsN fun _ _ _ _ _ _ us hl => match us, hl with | [_], _ => rfl⟩⟩
  have F_is_from_to : DefAt K mg "is_from_to" (top 11) ["thing", "least", "most"] := by
    obtain ⟨fd, FD⟩ := c.def_ 1 (d := dD "is_from_to" 11) rfl
    exact ⟨⟨_, fd, FD, He.glo_ok X G (c.fact 1 (f := .glo "is_from_to") rfl), FD.bindsN fun _ _ _ _ _ _ us hl => match us, hl with | [_, _, _], _ => rfl⟩⟩
  have F_is_road : DefAt K mg "is_road" (top 12) ["n", "thing"] := by
    obtain ⟨fd, FD⟩ := c.def_ 2 (d := dD "is_road" 12) rfl
    exact ⟨⟨_, fd, FD, He.glo_ok X G (c.fact 2 (f := .glo "is_road") rfl), FD.bindsN fun _ _ _ _ _ _ us hl => match us, hl with | [_, _], _ => rfl⟩⟩
  have F_is_net : DefAt K mg "is_net" (top 13) ["thing"] := by
    obtain ⟨fd, FD⟩ := c.def_ 3 (d := dD "is_net" 13) rfl
    exact ⟨⟨_, fd, FD, He.glo_ok X G (c.fact 3 (f := .glo "is_net") rfl), FD.bindsN fun _ _ _ _ _ _ us hl => match us, hl with | [_], _ => rfl⟩⟩
  have F_need_net : DefAt K mg "need_net" (top 14) ["net"] := by
    obtain ⟨fd, FD⟩ := c.def_ 4 (d := dD "need_net" 14) rfl
    exact ⟨⟨_, fd, FD, He.glo_ok X G (c.fact 4 (f := .glo "need_net") rfl), FD.bindsN fun _ _ _ _ _ _ us hl => match us, hl with | [_], _ => rfl⟩⟩
  have F_need_place : DefAt K mg "need_place" (top 15) ["net", "place"] := by
    obtain ⟨fd, FD⟩ := c.def_ 5 (d := dD "need_place" 15) rfl
    exact ⟨⟨_, fd, FD, He.glo_ok X G (c.fact 5 (f := .glo "need_place") rfl), FD.bindsN fun _ _ _ _ _ _ us hl => match us, hl with | [_, _], _ => rfl⟩⟩
  have F_need_hearers : DefAt K mg "need_hearers" (top 16) ["net", "hearers"] := by
    obtain ⟨fd, FD⟩ := c.def_ 6 (d := dD "need_hearers" 16) rfl
    exact ⟨⟨_, fd, FD, He.glo_ok X G (c.fact 6 (f := .glo "need_hearers") rfl), FD.bindsN fun _ _ _ _ _ _ us hl => match us, hl with | [_, _], _ => rfl⟩⟩
  have F_road_of : DefAt K mg "road_of" (top 17) ["net", "i", "j"] := by
    obtain ⟨fd, FD⟩ := c.def_ 7 (d := dD "road_of" 17) rfl
    exact ⟨⟨_, fd, FD, He.glo_ok X G (c.fact 7 (f := .glo "road_of") rfl), FD.bindsN fun _ _ _ _ _ _ us hl => match us, hl with | [_, _, _], _ => rfl⟩⟩
  have F_comes_home : DefAt K mg "comes_home" (top 18) ["root", "ahead", "place"] := by
    obtain ⟨fd, FD⟩ := c.def_ 8 (d := dD "comes_home" 18) rfl
    exact ⟨⟨_, fd, FD, He.glo_ok X G (c.fact 8 (f := .glo "comes_home") rfl), FD.bindsN fun _ _ _ _ _ _ us hl => match us, hl with | [_, _, _], _ => rfl⟩⟩
  have F_is_tree_in : DefAt K mg "is_tree_in" (top 19) ["net", "root", "ahead"] := by
    obtain ⟨fd, FD⟩ := c.def_ 9 (d := dD "is_tree_in" 19) rfl
    exact ⟨⟨_, fd, FD, He.glo_ok X G (c.fact 9 (f := .glo "is_tree_in") rfl), FD.bindsN fun _ _ _ _ _ _ us hl => match us, hl with | [_, _, _], _ => rfl⟩⟩
  have F_need_tree : DefAt K mg "need_tree" (top 20) ["net", "root", "ahead"] := by
    obtain ⟨fd, FD⟩ := c.def_ 10 (d := dD "need_tree" 20) rfl
    exact ⟨⟨_, fd, FD, He.glo_ok X G (c.fact 10 (f := .glo "need_tree") rfl), FD.bindsN fun _ _ _ _ _ _ us hl => match us, hl with | [_, _, _], _ => rfl⟩⟩
  have F_price : DefAt K mg "price" (top 21) ["net", "root", "ahead"] := by
    obtain ⟨fd, FD⟩ := c.def_ 11 (d := dD "price" 21) rfl
    exact ⟨⟨_, fd, FD, He.glo_ok X G (c.fact 11 (f := .glo "price") rfl), FD.bindsN fun _ _ _ _ _ _ us hl => match us, hl with | [_, _, _], _ => rfl⟩⟩
  have F_earliest_by : DefAt K mg "earliest_by" (top 23) ["net", "root"] := by
    obtain ⟨fd, FD⟩ := c.def_ 12 (d := dD "earliest_by" 23) rfl
    exact ⟨⟨_, fd, FD, He.glo_ok X G (c.fact 12 (f := .glo "earliest_by") rfl), FD.bindsN fun _ _ _ _ _ _ us hl => match us, hl with | [_, _], _ => rfl⟩⟩
  have F_earliest_in : DefAt K mg "earliest_in" (top 24) ["net", "root"] := by
    obtain ⟨fd, FD⟩ := c.def_ 13 (d := dD "earliest_in" 24) rfl
    exact ⟨⟨_, fd, FD, He.glo_ok X G (c.fact 13 (f := .glo "earliest_in") rfl), FD.bindsN fun _ _ _ _ _ _ us hl => match us, hl with | [_, _], _ => rfl⟩⟩
  have F_everywhere : DefAt K mg "everywhere" (top 27) ["net", "root"] := by
    obtain ⟨fd, FD⟩ := c.def_ 14 (d := dD "everywhere" 27) rfl
    exact ⟨⟨_, fd, FD, He.glo_ok X G (c.fact 14 (f := .glo "everywhere") rfl), FD.bindsN fun _ _ _ _ _ _ us hl => match us, hl with | [_, _], _ => rfl⟩⟩
  have F_need_some : DefAt K mg "need_some" (top 30) ["net", "hearers"] := by
    obtain ⟨fd, FD⟩ := c.def_ 15 (d := dD "need_some" 30) rfl
    exact ⟨⟨_, fd, FD, He.glo_ok X G (c.fact 15 (f := .glo "need_some") rfl), FD.bindsN fun _ _ _ _ _ _ us hl => match us, hl with | [_, _], _ => rfl⟩⟩
  have F_parts_of : LamAt K mg "parts_of" (top 31) ["hearers"] (codeOf K) := by
    obtain ⟨fd, FD⟩ := c.def_ 16 (d := dD "parts_of" 31) rfl
    refine ⟨⟨_, fd, FD, He.glo_ok X G (c.fact 16 (f := .glo "parts_of") rfl), FD.bindsN fun _ _ _ _ _ _ us hl => match us, hl with | [_], _ => rfl, ?_⟩⟩
    obtain ⟨oc, od, dV, kV, doc, pm, an, cdv, ct, osl, _, lk, _⟩ := FD.ex
    have r := (He.ba tk).1
    unfold refOk at r
    have lk' : K.lookup (He.ga K "parts_of") = some ⟨oc, od, .func fd, osl⟩ := lk
    rw [lk'] at r
    revert r
    show (match fd.code with
      | .ref c => c == codeOf K
      | _ => false) = true → _
    cases fd.code with
    | ref c => intro r; rw [beq_iff_eq.mp r]
    | _ => intro r; cases r
  have F_splits_of : DefAt K mg "splits_of" (top 32) ["some"] := by
    obtain ⟨fd, FD⟩ := c.def_ 17 (d := dD "splits_of" 32) rfl
    exact ⟨⟨_, fd, FD, He.glo_ok X G (c.fact 17 (f := .glo "splits_of") rfl), FD.bindsN fun _ _ _ _ _ _ us hl => match us, hl with | [_], _ => rfl⟩⟩
  have F_sum_of : DefAt K mg "sum_of" (top 33) ["one", "other"] := by
    obtain ⟨fd, FD⟩ := c.def_ 18 (d := dD "sum_of" 33) rfl
    exact ⟨⟨_, fd, FD, He.glo_ok X G (c.fact 18 (f := .glo "sum_of") rfl), FD.bindsN fun _ _ _ _ _ _ us hl => match us, hl with | [_, _], _ => rfl⟩⟩
  have F_is_less : DefAt K mg "is_less" (top 34) ["one", "other"] := by
    obtain ⟨fd, FD⟩ := c.def_ 19 (d := dD "is_less" 34) rfl
    exact ⟨⟨_, fd, FD, He.glo_ok X G (c.fact 19 (f := .glo "is_less") rfl), FD.bindsN fun _ _ _ _ _ _ us hl => match us, hl with | [_, _], _ => rfl⟩⟩
  have F_fill_by_roads : DefAt K mg "fill_by_roads" (top 35) ["net", "table", "made", "some"] := by
    obtain ⟨fd, FD⟩ := c.def_ 20 (d := dD "fill_by_roads" 35) rfl
    exact ⟨⟨_, fd, FD, He.glo_ok X G (c.fact 20 (f := .glo "fill_by_roads") rfl), FD.bindsN fun _ _ _ _ _ _ us hl => match us, hl with | [_, _, _, _], _ => rfl⟩⟩
  have F_table_of : DefAt K mg "table_of" (top 36) ["net", "hearers"] := by
    obtain ⟨fd, FD⟩ := c.def_ 21 (d := dD "table_of" 36) rfl
    exact ⟨⟨_, fd, FD, He.glo_ok X G (c.fact 21 (f := .glo "table_of") rfl), FD.bindsN fun _ _ _ _ _ _ us hl => match us, hl with | [_, _], _ => rfl⟩⟩
  have F_roads_for : DefAt K mg "roads_for" (top 37) ["made", "hearers", "root"] := by
    obtain ⟨fd, FD⟩ := c.def_ 22 (d := dD "roads_for" 37) rfl
    exact ⟨⟨_, fd, FD, He.glo_ok X G (c.fact 22 (f := .glo "roads_for") rfl), FD.bindsN fun _ _ _ _ _ _ us hl => match us, hl with | [_, _, _], _ => rfl⟩⟩
  have F_tree_by : DefAt K mg "tree_by" (top 38) ["root", "hearers", "roads"] := by
    obtain ⟨fd, FD⟩ := c.def_ 23 (d := dD "tree_by" 38) rfl
    exact ⟨⟨_, fd, FD, He.glo_ok X G (c.fact 23 (f := .glo "tree_by") rfl), FD.bindsN fun _ _ _ _ _ _ us hl => match us, hl with | [_, _, _], _ => rfl⟩⟩
  have F_trimmed : DefAt K mg "trimmed" (top 39) ["root", "hearers", "ahead"] := by
    obtain ⟨fd, FD⟩ := c.def_ 24 (d := dD "trimmed" 39) rfl
    exact ⟨⟨_, fd, FD, He.glo_ok X G (c.fact 24 (f := .glo "trimmed") rfl), FD.bindsN fun _ _ _ _ _ _ us hl => match us, hl with | [_, _, _], _ => rfl⟩⟩
  have F_reached_by : DefAt K mg "reached_by" (top 40) ["net", "root"] := by
    obtain ⟨fd, FD⟩ := c.def_ 25 (d := dD "reached_by" 40) rfl
    exact ⟨⟨_, fd, FD, He.glo_ok X G (c.fact 25 (f := .glo "reached_by") rfl), FD.bindsN fun _ _ _ _ _ _ us hl => match us, hl with | [_, _], _ => rfl⟩⟩
  have F_cheapest_in : DefAt K mg "cheapest_in" (top 41) ["net", "root", "hearers"] := by
    obtain ⟨fd, FD⟩ := c.def_ 26 (d := dD "cheapest_in" 41) rfl
    exact ⟨⟨_, fd, FD, He.glo_ok X G (c.fact 26 (f := .glo "cheapest_in") rfl), FD.bindsN fun _ _ _ _ _ _ us hl => match us, hl with | [_, _, _], _ => rfl⟩⟩
  have F_cheapest : DefAt K mg "cheapest" (top 42) ["net", "root", "hearers"] := by
    obtain ⟨fd, FD⟩ := c.def_ 27 (d := dD "cheapest" 42) rfl
    exact ⟨⟨_, fd, FD, He.glo_ok X G (c.fact 27 (f := .glo "cheapest") rfl), FD.bindsN fun _ _ _ _ _ _ us hl => match us, hl with | [_, _, _], _ => rfl⟩⟩
  have F_prices_by : DefAt K mg "prices_by" (top 44) ["net", "root", "ahead"] := by
    obtain ⟨fd, FD⟩ := c.def_ 28 (d := dD "prices_by" 44) rfl
    exact ⟨⟨_, fd, FD, He.glo_ok X G (c.fact 28 (f := .glo "prices_by") rfl), FD.bindsN fun _ _ _ _ _ _ us hl => match us, hl with | [_, _, _], _ => rfl⟩⟩
  have F_graft : DefAt K mg "graft" (top 45) ["net", "root", "ahead", "place"] := by
    obtain ⟨fd, FD⟩ := c.def_ 29 (d := dD "graft" 45) rfl
    exact ⟨⟨_, fd, FD, He.glo_ok X G (c.fact 29 (f := .glo "graft") rfl), FD.bindsN fun _ _ _ _ _ _ us hl => match us, hl with | [_, _, _, _], _ => rfl⟩⟩
  have F__law_b_spread : DefAt K mg "_law_b_spread" (top 47) ["cell", "place"] := by
    obtain ⟨fd, FD⟩ := c.def_ 30 (d := dD "_law_b_spread" 47) rfl
    exact ⟨⟨_, fd, FD, He.glo_ok X G (c.fact 30 (f := .glo "_law_b_spread") rfl), FD.bindsN fun _ _ _ _ _ _ us hl => match us, hl with | [_, _], _ => rfl⟩⟩
  have F__law_b_digit : DefAt K mg "_law_b_digit" (top 48) ["tape", "many"] := by
    obtain ⟨fd, FD⟩ := c.def_ 31 (d := dD "_law_b_digit" 48) rfl
    exact ⟨⟨_, fd, FD, He.glo_ok X G (c.fact 31 (f := .glo "_law_b_digit") rfl), FD.bindsN fun _ _ _ _ _ _ us hl => match us, hl with | [_, _], _ => rfl⟩⟩
  have F__law_b_some : DefAt K mg "_law_b_some" (top 49) ["tape", "row"] := by
    obtain ⟨fd, FD⟩ := c.def_ 32 (d := dD "_law_b_some" 49) rfl
    exact ⟨⟨_, fd, FD, He.glo_ok X G (c.fact 32 (f := .glo "_law_b_some") rfl), FD.bindsN fun _ _ _ _ _ _ us hl => match us, hl with | [_, _], _ => rfl⟩⟩
  have F__law_b_net : DefAt K mg "_law_b_net" (top 50) ["tape", "most"] := by
    obtain ⟨fd, FD⟩ := c.def_ 33 (d := dD "_law_b_net" 50) rfl
    exact ⟨⟨_, fd, FD, He.glo_ok X G (c.fact 33 (f := .glo "_law_b_net") rfl), FD.bindsN fun _ _ _ _ _ _ us hl => match us, hl with | [_, _], _ => rfl⟩⟩
  have F__law_b_road : DefAt K mg "_law_b_road" (top 51) ["net", "i", "j"] := by
    obtain ⟨fd, FD⟩ := c.def_ 34 (d := dD "_law_b_road" 51) rfl
    exact ⟨⟨_, fd, FD, He.glo_ok X G (c.fact 34 (f := .glo "_law_b_road") rfl), FD.bindsN fun _ _ _ _ _ _ us hl => match us, hl with | [_, _, _], _ => rfl⟩⟩
  have F__law_b_is_tree : DefAt K mg "_law_b_is_tree" (top 53) ["net", "root", "ahead"] := by
    obtain ⟨fd, FD⟩ := c.def_ 35 (d := dD "_law_b_is_tree" 53) rfl
    exact ⟨⟨_, fd, FD, He.glo_ok X G (c.fact 35 (f := .glo "_law_b_is_tree") rfl), FD.bindsN fun _ _ _ _ _ _ us hl => match us, hl with | [_, _, _], _ => rfl⟩⟩
  have F__law_b_reached : DefAt K mg "_law_b_reached" (top 54) ["net", "root"] := by
    obtain ⟨fd, FD⟩ := c.def_ 36 (d := dD "_law_b_reached" 54) rfl
    exact ⟨⟨_, fd, FD, He.glo_ok X G (c.fact 36 (f := .glo "_law_b_reached") rfl), FD.bindsN fun _ _ _ _ _ _ us hl => match us, hl with | [_, _], _ => rfl⟩⟩
  have F__law_b_least : DefAt K mg "_law_b_least" (top 55) ["net", "root"] := by
    obtain ⟨fd, FD⟩ := c.def_ 37 (d := dD "_law_b_least" 55) rfl
    exact ⟨⟨_, fd, FD, He.glo_ok X G (c.fact 37 (f := .glo "_law_b_least") rfl), FD.bindsN fun _ _ _ _ _ _ us hl => match us, hl with | [_, _], _ => rfl⟩⟩
  have F__law_b_told : DefAt K mg "_law_b_told" (top 56) ["net", "root"] := by
    obtain ⟨fd, FD⟩ := c.def_ 38 (d := dD "_law_b_told" 56) rfl
    exact ⟨⟨_, fd, FD, He.glo_ok X G (c.fact 38 (f := .glo "_law_b_told") rfl), FD.bindsN fun _ _ _ _ _ _ us hl => match us, hl with | [_, _], _ => rfl⟩⟩
  have F__law_b_full : DefAt K mg "_law_b_full" (top 57) ["tape", "net", "root"] := by
    obtain ⟨fd, FD⟩ := c.def_ 39 (d := dD "_law_b_full" 57) rfl
    exact ⟨⟨_, fd, FD, He.glo_ok X G (c.fact 39 (f := .glo "_law_b_full") rfl), FD.bindsN fun _ _ _ _ _ _ us hl => match us, hl with | [_, _, _], _ => rfl⟩⟩
  have F__law_b_dearer : DefAt K mg "_law_b_dearer" (top 58) ["net", "by", "place"] := by
    obtain ⟨fd, FD⟩ := c.def_ 40 (d := dD "_law_b_dearer" 58) rfl
    exact ⟨⟨_, fd, FD, He.glo_ok X G (c.fact 40 (f := .glo "_law_b_dearer") rfl), FD.bindsN fun _ _ _ _ _ _ us hl => match us, hl with | [_, _, _], _ => rfl⟩⟩
  have F__law_b_by_grafts : DefAt K mg "_law_b_by_grafts" (top 59) ["tape", "net", "root"] := by
    obtain ⟨fd, FD⟩ := c.def_ 41 (d := dD "_law_b_by_grafts" 59) rfl
    exact ⟨⟨_, fd, FD, He.glo_ok X G (c.fact 41 (f := .glo "_law_b_by_grafts") rfl), FD.bindsN fun _ _ _ _ _ _ us hl => match us, hl with | [_, _, _], _ => rfl⟩⟩
  have F__law_b_turned : DefAt K mg "_law_b_turned" (top 60) ["tape", "net", "root", "told"] := by
    obtain ⟨fd, FD⟩ := c.def_ 42 (d := dD "_law_b_turned" 60) rfl
    exact ⟨⟨_, fd, FD, He.glo_ok X G (c.fact 42 (f := .glo "_law_b_turned") rfl), FD.bindsN fun _ _ _ _ _ _ us hl => match us, hl with | [_, _, _, _], _ => rfl⟩⟩
  have F__law_b_cheap : DefAt K mg "_law_b_cheap" (top 61) ["net"] := by
    obtain ⟨fd, FD⟩ := c.def_ 43 (d := dD "_law_b_cheap" 61) rfl
    exact ⟨⟨_, fd, FD, He.glo_ok X G (c.fact 43 (f := .glo "_law_b_cheap") rfl), FD.bindsN fun _ _ _ _ _ _ us hl => match us, hl with | [_], _ => rfl⟩⟩
  have F_W_init : MakAt K mg "Weighing" (He.ga K "Weighing") "Weighing.__init__" (inClass (top 26) 0) ["self", "net", "root"] := by
    obtain ⟨fd, FD⟩ := c.def_ 45 (d := dM "__init__" "Weighing.__init__" 0) rfl
    exact ⟨⟨_, fd, FD, He.mkr_ok (c.fact 63 (f := .mkr "Weighing") rfl), He.glo_ok X G (c.fact 61 (f := .glo "Weighing") rfl), FD.bindsN fun _ _ _ _ _ _ us hl => match us, hl with | [_, _, _], _ => rfl⟩⟩
  have F_W_behind_of : MetAt K (He.ga K "Weighing") "behind_of" "Weighing.behind_of" (inClass (top 26) 1) ["self", "place"] := by
    obtain ⟨fd, FD⟩ := c.def_ 46 (d := dM "behind_of" "Weighing.behind_of" 1) rfl
    exact ⟨⟨_, fd, FD, He.cls_ok (c.fact 62 (f := .cls "Weighing") rfl), He.meth_ok (c.fact 69 (f := .meth "Weighing" "behind_of") rfl), FD.bindsN fun _ _ _ _ _ _ us hl => match us, hl with | [_, _], _ => rfl⟩⟩
  have F_W_bare_places : MetAt K (He.ga K "Weighing") "bare_places" "Weighing.bare_places" (inClass (top 26) 2) ["self"] := by
    obtain ⟨fd, FD⟩ := c.def_ 47 (d := dM "bare_places" "Weighing.bare_places" 2) rfl
    exact ⟨⟨_, fd, FD, He.cls_ok (c.fact 62 (f := .cls "Weighing") rfl), He.meth_ok (c.fact 70 (f := .meth "Weighing" "bare_places") rfl), FD.bindsN fun _ _ _ _ _ _ us hl => match us, hl with | [_], _ => rfl⟩⟩
  have F_W_roads_into : MetAt K (He.ga K "Weighing") "roads_into" "Weighing.roads_into" (inClass (top 26) 3) ["self", "some"] := by
    obtain ⟨fd, FD⟩ := c.def_ 48 (d := dM "roads_into" "Weighing.roads_into" 3) rfl
    exact ⟨⟨_, fd, FD, He.cls_ok (c.fact 62 (f := .cls "Weighing") rfl), He.meth_ok (c.fact 71 (f := .meth "Weighing" "roads_into") rfl), FD.bindsN fun _ _ _ _ _ _ us hl => match us, hl with | [_, _], _ => rfl⟩⟩
  have F_W_weigh : MetAt K (He.ga K "Weighing") "weigh" "Weighing.weigh" (inClass (top 26) 4) ["self", "some"] := by
    obtain ⟨fd, FD⟩ := c.def_ 49 (d := dM "weigh" "Weighing.weigh" 4) rfl
    exact ⟨⟨_, fd, FD, He.cls_ok (c.fact 62 (f := .cls "Weighing") rfl), He.meth_ok (c.fact 72 (f := .meth "Weighing" "weigh") rfl), FD.bindsN fun _ _ _ _ _ _ us hl => match us, hl with | [_, _], _ => rfl⟩⟩
  have F_W_weigh_all : MetAt K (He.ga K "Weighing") "weigh_all" "Weighing.weigh_all" (inClass (top 26) 5) ["self"] := by
    obtain ⟨fd, FD⟩ := c.def_ 50 (d := dM "weigh_all" "Weighing.weigh_all" 5) rfl
    exact ⟨⟨_, fd, FD, He.cls_ok (c.fact 62 (f := .cls "Weighing") rfl), He.meth_ok (c.fact 73 (f := .meth "Weighing" "weigh_all") rfl), FD.bindsN fun _ _ _ _ _ _ us hl => match us, hl with | [_], _ => rfl⟩⟩
  have F_W_next_road : MetAt K (He.ga K "Weighing") "next_road" "Weighing.next_road" (inClass (top 26) 6) ["self", "there"] := by
    obtain ⟨fd, FD⟩ := c.def_ 51 (d := dM "next_road" "Weighing.next_road" 6) rfl
    exact ⟨⟨_, fd, FD, He.cls_ok (c.fact 62 (f := .cls "Weighing") rfl), He.meth_ok (c.fact 74 (f := .meth "Weighing" "next_road") rfl), FD.bindsN fun _ _ _ _ _ _ us hl => match us, hl with | [_, _], _ => rfl⟩⟩
  have F_W_tree : MetAt K (He.ga K "Weighing") "tree" "Weighing.tree" (inClass (top 26) 7) ["self"] := by
    obtain ⟨fd, FD⟩ := c.def_ 52 (d := dM "tree" "Weighing.tree" 7) rfl
    exact ⟨⟨_, fd, FD, He.cls_ok (c.fact 62 (f := .cls "Weighing") rfl), He.meth_ok (c.fact 75 (f := .meth "Weighing" "tree") rfl), FD.bindsN fun _ _ _ _ _ _ us hl => match us, hl with | [_], _ => rfl⟩⟩
  have T : Txt K mg := ⟨He.free_ok X G (c.fact 45 (f := .free "len") rfl), He.free_ok X G (c.fact 46 (f := .free "range") rfl), He.free_ok X G (c.fact 47 (f := .free "isinstance") rfl), He.free_ok X G (c.fact 48 (f := .free "all") rfl), He.free_ok X G (c.fact 49 (f := .free "sum") rfl), He.free_ok X G (c.fact 50 (f := .free "sorted") rfl), He.free_ok X G (c.fact 51 (f := .free "min") rfl), He.free_ok X G (c.fact 52 (f := .free "tuple") rfl), He.free_ok X G (c.fact 53 (f := .free "dict") rfl), He.free_ok X G (c.fact 54 (f := .free "set") rfl), He.free_ok X G (c.fact 55 (f := .free "int") rfl), He.free_ok X G (c.fact 56 (f := .free "bool") rfl), (by obtain ⟨t, ht⟩ := He.int_ok X G (c.fact 57 (f := .int "MOST_PLACES" 12) rfl); exact ⟨_, ht, t, rfl⟩), (by obtain ⟨t, ht⟩ := He.int_ok X G (c.fact 58 (f := .int "MOST_PRICE" 1000) rfl); exact ⟨_, ht, t, rfl⟩), (by obtain ⟨t, ht⟩ := He.int_ok X G (c.fact 59 (f := .int "MOST_LATE" 1000) rfl); exact ⟨_, ht, t, rfl⟩), (by obtain ⟨t, ht⟩ := He.int_ok X G (c.fact 60 (f := .int "MOST_HEARERS" 6) rfl); exact ⟨_, ht, t, rfl⟩)⟩
  have W : WTxt K (He.ga K "Weighing") := ⟨He.cls_ok (c.fact 62 (f := .cls "Weighing") rfl), He.noat_ok (c.fact 64 (f := .noat "Weighing" "root") rfl), He.noat_ok (c.fact 65 (f := .noat "Weighing" "reached") rfl), He.noat_ok (c.fact 66 (f := .noat "Weighing" "left") rfl), He.noat_ok (c.fact 67 (f := .noat "Weighing" "spent") rfl), He.noat_ok (c.fact 68 (f := .noat "Weighing" "weights") rfl)⟩
  have c_is_whole := ok_is_whole (P := P) (w := w) (base := base) F_is_whole T
  have c_is_from_to := ok_is_from_to (P := P) (w := w) (base := base) F_is_from_to T c_is_whole
  have c_is_road := ok_is_road (P := P) (w := w) (base := base) F_is_road T c_is_from_to
  have c_is_net := ok_is_net (P := P) (w := w) (base := base) F_is_net T c_is_from_to c_is_road
  have c_need_net := ok_need_net (P := P) (w := w) (base := base) F_need_net T c_is_net
  have c_need_place := ok_need_place (P := P) (w := w) (base := base) F_need_place T
  have c_road_of := ok_road_of (P := P) (w := w) (base := base) F_road_of T
  have c_comes_home := ok_comes_home (P := P) (w := w) (base := base) F_comes_home T
  have c_is_tree_in := ok_is_tree_in (P := P) (w := w) (base := base) F_is_tree_in T c_road_of c_comes_home
  have c_need_tree := ok_need_tree (P := P) (w := w) (base := base) F_need_tree T c_is_tree_in
  have c_price := ok_price (P := P) (w := w) (base := base) F_price T c_need_net c_need_place c_need_tree c_road_of
  have c_earliest_by := ok_earliest_by (P := P) (w := w) (base := base) F_earliest_by T
  have c_earliest_in := ok_earliest_in (P := P) (w := w) (base := base) F_earliest_in T c_earliest_by
  have m_behind_of := ok_behind_of (P := P) (w := w) (base := base) F_W_behind_of T W
  have m_bare_places := ok_bare_places (P := P) (w := w) (base := base) F_W_bare_places T W m_behind_of
  have m_roads_into := ok_roads_into (P := P) (w := w) (base := base) F_W_roads_into T W
  have m_weigh := ok_weigh (P := P) (w := w) (base := base) F_W_weigh T W m_roads_into
  have m_weigh_all := ok_weigh_all (P := P) (w := w) (base := base) F_W_weigh_all T W m_bare_places m_weigh
  have m_next_road := ok_next_road (P := P) (w := w) (base := base) F_W_next_road T W
  have m_tree := ok_wtree (P := P) (w := w) (base := base) F_W_tree T W m_next_road
  have c_Weighing := ok_init (P := P) (w := w) (base := base) F_W_init T W c_earliest_in
  have c_everywhere := ok_everywhere (P := P) (w := w) (base := base) F_everywhere T W c_need_net c_need_place c_Weighing m_weigh_all m_tree
  have c_prices_by := ok_prices_by (P := P) (w := w) (base := base) F_prices_by T
  have c_graft := ok_graft (P := P) (w := w) (base := base) F_graft T c_need_net c_need_place c_need_tree c_prices_by
  have c_parts_of := ok_parts_of (P := P) (w := w) (base := base) F_parts_of T TB
  have c_splits_of := ok_splits_of (P := P) (w := w) (base := base) F_splits_of T c_parts_of
  have c_sum_of := ok_sum_of (P := P) (w := w) (base := base) F_sum_of T
  have c_is_less := ok_is_less (P := P) (w := w) (base := base) F_is_less T
  have c_need_hearers := ok_need_hearers (P := P) (w := w) (base := base) F_need_hearers T c_need_place
  have c_need_some := ok_need_some (P := P) (w := w) (base := base) F_need_some T c_need_hearers
  have c_fill_by_roads := ok_fill (P := P) (w := w) (base := base) F_fill_by_roads T c_sum_of c_is_less
  have c_table_of := ok_table_of (P := P) (w := w) (base := base) F_table_of T c_parts_of c_splits_of c_sum_of c_is_less c_fill_by_roads
  have c_roads_for := ok_roads_for (P := P) (w := w) (base := base) F_roads_for T
  have c_trimmed := ok_trimmed (P := P) (w := w) (base := base) F_trimmed T
  have c_tree_by := ok_tree_by (P := P) (w := w) (base := base) F_tree_by T c_trimmed
  have c_reached_by := ok_reached_by (P := P) (w := w) (base := base) F_reached_by T
  have c_cheapest_in := ok_cheapest_in (P := P) (w := w) (base := base) F_cheapest_in T c_tree_by c_roads_for c_table_of c_reached_by
  have c_cheapest := ok_cheapest (P := P) (w := w) (base := base) F_cheapest T c_cheapest_in c_need_some c_need_place c_need_net
  have c__law_b_spread := ok_law_b_spread (P := P) (w := w) (base := base) F__law_b_spread T
  have c__law_b_digit := ok_law_b_digit (P := P) (w := w) (base := base) F__law_b_digit T c__law_b_spread
  have c__law_b_some := ok_law_b_some (P := P) (w := w) (base := base) F__law_b_some T c__law_b_digit
  have c__law_b_net := ok_law_b_net (P := P) (w := w) (base := base) F__law_b_net T c__law_b_digit
  have c__law_b_road := ok_law_b_road (P := P) (w := w) (base := base) F__law_b_road T
  have c__law_b_is_tree := ok_law_b_is_tree (P := P) (w := w) (base := base) F__law_b_is_tree T c__law_b_road
  have c__law_b_reached := ok_law_b_reached (P := P) (w := w) (base := base) F__law_b_reached T
  have c__law_b_told := ok_law_b_told (P := P) (w := w) (base := base) F__law_b_told T c_price c_everywhere
  have c__law_b_full := ok_law_b_full (P := P) (w := w) (base := base) F__law_b_full T c__law_b_some
  have c__law_b_dearer := ok_law_b_dearer (P := P) (w := w) (base := base) F__law_b_dearer T
  have c__law_b_cheap := ok_law_b_cheap (P := P) (w := w) (base := base) F__law_b_cheap T
  have c__law_b_by_grafts := ok_law_b_by_grafts (P := P) (w := w) (base := base) F__law_b_by_grafts T c__law_b_reached c__law_b_digit c_graft c_price
  have c__law_b_least := ok_law_b_least (P := P) (w := w) (base := base) F__law_b_least T c__law_b_is_tree c_price c__law_b_reached
  have c__law_b_turned := ok_law_b_turned (P := P) (w := w) (base := base) F__law_b_turned T c__law_b_reached c__law_b_told c__law_b_digit c__law_b_dearer c__law_b_some
  exact ok_law F_law T c__law_b_turned c__law_b_by_grafts c_price c_cheapest c__law_b_reached c__law_b_full c__law_b_told c__law_b_digit c__law_b_cheap c__law_b_net c__law_b_least
theorem law_at (w : World) (mg : Str → Option Value) (fa' : Addr) (h : Heap) (Y : hk.says w h) (G : h.Ns mainGlobals mg) (hmg : mg ("law" : Str) = some (.ref fa')) :
    ∃ K : PySem.W.Frag, K.In h ∧ LamX.LawAtS PySem.Challenge.rw_hearkenway_k17_whole_no_tree_of_all_is_c w K CX0 9 63 "script" mg fa' h := by
  obtain ⟨K, X, c, tk, hT⟩ := Y
  obtain ⟨fd, FD⟩ := c.def_ 44 (d := dD "law" 62) rfl
  have e := hmg.symm.trans (He.glo_ok X G (c.fact 44 (f := .glo "law") rfl))
  cases e
  have b := FunD.bindsA (ps := ["script"]) FD fun _ _ _ _ _ _ us hl => match us, hl with | [_], _ => rfl
  obtain ⟨_, t2⟩ := He.ba tk
  obtain ⟨t3, t4⟩ := He.ba t2
  refine ⟨K, X, fd, [(codeOf K, tabOf K)], spLaw K (tabOf K), fun p hp => ?_, fun p hp => ?_, fun p hp => ?_, fun s v => b s [v] rfl, fun H a ns hl _ hcs hS => ⟨a, ns, rfl, hS, by omega, fun p hp => ?_, fun _ => rfl⟩, fun base hb hn tb => ?_⟩
  · rw [List.mem_singleton.mp hp]; exact hT
  · rw [List.mem_singleton.mp hp]; exact Option.isNone_iff_eq_none.mp t4
  · rw [List.mem_singleton.mp hp]; exact PySem.W.codeHd_of_K X t3
  · rw [List.mem_singleton.mp hp]; exact LamX.TabS.nil (hcs (codeOf K, tabOf K) (by simp))
  · exact facts X G c tk (tb (codeOf K, tabOf K) (by simp)) FD
end HK
open PySem PySem.W PySem.Calls PyProof.Rows
theorem PySem.Challenge.cw_hearkenway_k17_whole_no_tree_of_all_is_c_holds : PySem.Challenge.rw_hearkenway_k17_whole_no_tree_of_all_is_c.Holds := by
  w_on; o_law
  refine HandSHeadRun.head_any (r := OpenLaw.row PySem.Challenge.rw_hearkenway_k17_whole_no_tree_of_all_is_c) (q := view (OpenLaw.row PySem.Challenge.rw_hearkenway_k17_whole_no_tree_of_all_is_c).prog [62]) (H := HK.hk) (ob := HK.ob) (M := 6000) (loose := HK.loose) (d := HandSHeadRun.topDef (OpenLaw.row PySem.Challenge.rw_hearkenway_k17_whole_no_tree_of_all_is_c).prog 62) (kwd := []) HK.ob_eq
    (by kernel_rfl) (fun s => by kernel_rfl) HK.run (by kernel_rfl) (by kernel_rfl) (by kernel_rfl) (by rfl) (by first | assumption | decide +kernel) (by decide +kernel) ⟨rfl, rfl, rfl, rfl, rfl, by decide +kernel⟩ ?hw ?hc
  case hw => w_witness2
  case hc =>
    refine LamX.walk_ofTsE (l := PySem.Challenge.rw_hearkenway_k17_whole_no_tree_of_all_is_c) (n := 63) (k := 9) (x := "script") (CX := fun _ => L2.CX0) rfl (by decide) (by kernel_rfl) ⟨rfl, by decide, by decide⟩ ?F (fun _ _ _ _ _ z => z)
    intro w mg fa h Y G hmg0
    have hmg : mg ("law" : PySem.Str) = some (.ref fa) := by
      have e : (HandSHeadRun.topDef (OpenLaw.row PySem.Challenge.rw_hearkenway_k17_whole_no_tree_of_all_is_c).prog 62).name = ("law" : PySem.Str) := by kernel_rfl
      rw [← e]
      exact hmg0
    exact HK.law_at w mg fa h Y G hmg
